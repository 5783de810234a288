-- Written by a turned copy of the print (see the notes of this repo): plain functions and their walks. Lean checks it.
import Derived.Test.YtieadaglkibjbaaPFnCutFilex0
import Derived.Test.YtieadaglkibjbaaPFnCutFilex1
import Derived.Test.YtieadaglkibjbaaPFnCutFilex4
import Derived.Test.YtieadaglkibjbaaPFnCutFilex7
import Derived.Test.YtieadaglkibjbaaPFnCutFilex8
import Derived.Test.YtieadaglkibjbaaPFnCutFilex10
namespace Go.Proofs.Ytieadaglkibjbaa.PFnCutFile
open Go.RowKit Go.Proofs.YtieadaglkibjbaaW.PrintWords Go.Proofs.YtieadaglkibjbaaW.PrintLast Go.Proofs.YtieadaglkibjbaaW.PrintMore
attribute [local go_sem] max2_int min2_int max_two min_two max_three min_three max_four min_four   -- for this text's walks alone
set_option linter.unusedVariables false
set_option linter.unusedSimpArgs false

/-! ### impl_OpenAll: function 46 -/
def impl_OpenAll.l0 : Nat → List Int → List Int → List Int → Int → Option (List Int × List Int × Int)
  | 0, _, _, _, _ => none
  | k + 1, x0, x5, x6, x7 => if x7 = (x0.length : Int) then (some (x5, x6, 0)) else (if (x6.length : Int) = 60 then (some (x5, x6, 5)) else ((impl_OpenFrame.f k x0 x7).bind fun bt414 => (if bt414.2.2 = 0 then (if x5.length + bt414.1.length < 17592186044416 then (if x6.length < 17592186044416 then (impl_OpenAll.l0 k x0 (x5 ++ bt414.1) (x6 ++ [x7]) bt414.2.1) else (none)) else (none)) else (some (x5, x6, bt414.2.2)))))
def impl_OpenAll.f (k : Nat) (l0 : List Int) : Option (List Int × List Int × Int) := if (l0.length : Int) > 20000 then (some (([] : List Int), ([] : List Int), 1)) else (impl_OpenAll.l0 k l0 ([] : List Int) ([] : List Int) 0)
theorem impl_OpenAll.mono_l : ∀ k, (∀ y0 y1 y2 y3, LeO (impl_OpenAll.l0 k y0 y1 y2 y3) (impl_OpenAll.l0 (k + 1) y0 y1 y2 y3))
  | 0 => fun _ _ _ _ r h => by simp [impl_OpenAll.l0] at h
  | k + 1 => by
    have ih0 := impl_OpenAll.mono_l k
    · intro y0 y1 y2 y3
      unfold impl_OpenAll.l0
      repeat' first
      | (with_reducible exact ih0 _ _ _ _)
      | (with_reducible exact impl_OpenFrame.mono _ _ _)
      | (with_reducible exact LeO.refl _)
      | (with_reducible exact LeO.none _)
      | (with_reducible refine LeO.ite ?_ ?_)
      | (with_reducible refine LeO.bind ?_ (fun _ => ?_))
      | exact ih0 _ _ _ _
      | exact impl_OpenFrame.mono _ _ _
      | exact LeO.none _
      | refine LeO.ite ?_ ?_
      | refine LeO.bind ?_ (fun _ => ?_)
theorem impl_OpenAll.mono : ∀ a0 k, LeO (impl_OpenAll.f k a0) (impl_OpenAll.f (k + 1) a0) := by
  intro a0 k
  have ih0 := impl_OpenAll.mono_l k
  unfold impl_OpenAll.f
  repeat' first
      | (with_reducible exact ih0 _ _ _ _)
      | (with_reducible exact impl_OpenFrame.mono _ _ _)
      | (with_reducible exact LeO.refl _)
      | (with_reducible exact LeO.none _)
      | (with_reducible refine LeO.ite ?_ ?_)
      | (with_reducible refine LeO.bind ?_ (fun _ => ?_))
      | exact ih0 _ _ _ _
      | exact impl_OpenFrame.mono _ _ _
      | exact LeO.none _
      | refine LeO.ite ?_ ?_
      | refine LeO.bind ?_ (fun _ => ?_)
set_option maxHeartbeats 8000000 in
set_option maxRecDepth 100000 in
theorem impl_OpenAll.calls (k : Nat) (A0 : Option Addr) (c0 : Nat) (l0 : List Int) (r1 : List Int) (r2 : List Int) (r3 : Int) (w : World) (hr0 : Kd.C (Kd.int .u8) w A0 l0.length l0) (hc0 : l0.length ≤ c0) (h : impl_OpenAll.f k l0 = some (r1, r2, r3)) :
    Calls Try.prog 46 #[.slice A0 l0.length c0] w fun e w' => ∃ v0_ v1_ : Value, e = .returned (.tuple #[v0_, v1_, .int .i64 r3]) ∧ Kd.R (Kd.int .i64) 3 w' w.heap.size (fun k_ => some k_ ≠ (v1_ : Value).ownBlock) v0_ r1 ∧ Kd.R (Kd.int .i64) 3 w' w.heap.size (fun k_ => some k_ ≠ (v0_ : Value).ownBlock) v1_ r2 ∧ Below w.heap.size w w' := by
  have HR0 := Aside0.mk hr0
  have HC0 := Aside0.mk hc0
  clear hr0 hc0
  have HB := Aside0.mk (Below.refl w.heap.size w)
  have H : (if (l0.length : Int) > 20000 then (some (([] : List Int), ([] : List Int), 1)) else (impl_OpenAll.l0 k l0 ([] : List Int) ([] : List Int) 0)) = some (r1, r2, r3) := h
  clear h
  by_cases c2 : (l0.length : Int) > 20000
  · rw [if_pos c2] at H
    have c2b0 : decide (20000 < (l0.length : Int)) = true := decide_eq_true c2
    have c2b1 : decide (20000 < l0.length) = true := decide_eq_true (by omega)
    clear c2
    simp only [Option.some.injEq, Prod.mk.injEq] at H
    obtain ⟨rfl, rfl, rfl⟩ := H
    go_enter Try.func46, Try.ntmps46
    go_wp2
    go_ret3
    exact ⟨_, _, by first | rfl | (simp [errW_none, errW_some] <;> rfl) | (simp [*, errW_none, errW_some] <;> rfl), by first | exact Kd.R_nil _ _ _ _ _ | exact Kd.N_nil _ _ _ _ _ | exact Kd.V_nil _ _ _ _ _ | exact Kd.Q_nil _ _ _ _ _ | exact Kd.S_nil _ _ _ _ _, by first | exact Kd.R_nil _ _ _ _ _ | exact Kd.N_nil _ _ _ _ _ | exact Kd.V_nil _ _ _ _ _ | exact Kd.Q_nil _ _ _ _ _ | exact Kd.S_nil _ _ _ _ _, by repeat (first | (with_reducible first | exact HB.out | apply below_alloc | apply pw_below_drewN | apply below_drew1) | exact HB.out)⟩
  · rw [if_neg c2] at H
    have c2b0 : decide (20000 < (l0.length : Int)) = false := decide_eq_false c2
    have c2b1 : decide (20000 < l0.length) = false := decide_eq_false (by omega)
    clear c2
    have H' := Aside0.mk H
    clear H
    go_enter Try.func46, Try.ntmps46
    go_wp2
    go_loopg [5, 6, 7] k (fun kq v5 v6 v7 w' => ∃ (x5_1 : List Int) (x6_1 : List Int) (x7_1 : Int), v7 = .int .i64 x7_1 ∧ Aside0 (impl_OpenAll.l0 kq l0 x5_1 x6_1 x7_1 = some (r1, r2, r3)) ∧ Aside0 (kq ≤ k) ∧ Aside0 (Kd.R (Kd.int .i64) 3 w' w.heap.size (fun k_ => some k_ ≠ (v6 : Value).ownBlock) v5 x5_1) ∧ Aside0 (Kd.R (Kd.int .i64) 3 w' w.heap.size (fun k_ => some k_ ≠ (v5 : Value).ownBlock) v6 x6_1) ∧ Aside0 (Below w.heap.size w w'))
    case atStart => exact ⟨(([] : List Int)), (([] : List Int)), (0), (by first | rfl | (simp; done) | (simp [*]; done)), H', ⟨Nat.le_refl _⟩, ⟨by first | exact Kd.R_nil _ _ _ _ _ | exact Kd.N_nil _ _ _ _ _ | exact Kd.V_nil _ _ _ _ _ | exact Kd.Q_nil _ _ _ _ _ | exact Kd.S_nil _ _ _ _ _⟩, ⟨by first | exact Kd.R_nil _ _ _ _ _ | exact Kd.N_nil _ _ _ _ _ | exact Kd.V_nil _ _ _ _ _ | exact Kd.Q_nil _ _ _ _ _ | exact Kd.S_nil _ _ _ _ _⟩, ⟨by repeat (first | (with_reducible first | exact HB.out | apply below_alloc | apply pw_below_drewN | apply below_drew1) | exact HB.out)⟩⟩
    case round =>
      clear H'
      try clear c2
      try clear c2b0
      try clear c2b1
      try clear p2
      obtain ⟨x5_1, x6_1, x7_1, rfl, HA, HK1, HO_5, HO_6, HB⟩ := hrel
      cases gk with
      | zero => exact absurd HA.out (by simp [impl_OpenAll.l0])
      | succ k1 =>
        have H := HA.out
        clear HA
        simp only [impl_OpenAll.l0] at H
        by_cases c3 : x7_1 = (l0.length : Int)
        · rw [if_pos c3] at H
          have c3b0 : (x7_1 == (l0.length : Int)) = true := beq_iff_eq.mpr c3
          have c3b1 : (x7_1 != (l0.length : Int)) = false := bne_eq_false_iff_eq.mpr c3
          clear c3
          simp only [Option.some.injEq, Prod.mk.injEq] at H
          obtain ⟨rfl, rfl, rfl⟩ := H
          go_wp2
          go_ret3
          exact ⟨_, _, by first | rfl | (simp [errW_none, errW_some] <;> rfl) | (simp [*, errW_none, errW_some] <;> rfl), by (with_reducible repeat (first | apply Kd.R_alloc | apply Kd.R_drewN | apply Kd.R_drew)); first | exact HO_5.out | (subst_vars; exact HO_5.out), by (with_reducible repeat (first | apply Kd.R_alloc | apply Kd.R_drewN | apply Kd.R_drew)); first | exact HO_6.out | (subst_vars; exact HO_6.out), by repeat (first | (with_reducible first | exact HB.out | apply below_alloc | apply pw_below_drewN | apply below_drew1) | exact HB.out)⟩
        · rw [if_neg c3] at H
          have c3b0 : (x7_1 == (l0.length : Int)) = false := beq_eq_false_iff_ne.mpr c3
          have c3b1 : (x7_1 != (l0.length : Int)) = true := bne_iff_ne.mpr c3
          by_cases c4 : (x6_1.length : Int) = 60
          · rw [if_pos c4] at H
            have c4b0 : ((x6_1.length : Int) == 60) = true := beq_iff_eq.mpr c4
            have c4b1 : ((x6_1.length : Int) != 60) = false := bne_eq_false_iff_eq.mpr c4
            clear c4
            simp only [Option.some.injEq, Prod.mk.injEq] at H
            obtain ⟨rfl, rfl, rfl⟩ := H
            obtain ⟨Ao5, co5, eo5⟩ := Kd.R_slice HO_6.out
            subst eo5
            go_wp2
            go_ret3
            exact ⟨_, _, by first | rfl | (simp [errW_none, errW_some] <;> rfl) | (simp [*, errW_none, errW_some] <;> rfl), by (with_reducible repeat (first | apply Kd.R_alloc | apply Kd.R_drewN | apply Kd.R_drew)); first | exact HO_5.out | (subst_vars; exact HO_5.out), by (with_reducible repeat (first | apply Kd.R_alloc | apply Kd.R_drewN | apply Kd.R_drew)); first | exact HO_6.out | (subst_vars; exact HO_6.out), by repeat (first | (with_reducible first | exact HB.out | apply below_alloc | apply pw_below_drewN | apply below_drew1) | exact HB.out)⟩
          · rw [if_neg c4] at H
            have c4b0 : ((x6_1.length : Int) == 60) = false := beq_eq_false_iff_ne.mpr c4
            have c4b1 : ((x6_1.length : Int) != 60) = true := bne_iff_ne.mpr c4
            replace H := Option.bind_eq_some_iff.mp H
            obtain ⟨⟨t414, t415, t416⟩, A60, H⟩ := H
            replace H : (if t416 = 0 then (if x5_1.length + t414.length < 17592186044416 then (if x6_1.length < 17592186044416 then (impl_OpenAll.l0 k1 l0 (x5_1 ++ t414) (x6_1 ++ [x7_1]) t415) else (none)) else (none)) else (some (x5_1, x6_1, t416))) = some (r1, r2, r3) := H
            have A6 := Aside0.mk A60
            clear A60
            by_cases c7 : t416 = 0
            · rw [if_pos c7] at H
              have c7b0 : (t416 == 0) = true := beq_iff_eq.mpr c7
              have c7b1 : (t416 != 0) = false := bne_eq_false_iff_eq.mpr c7
              clear c7
              by_cases c8 : x5_1.length + t414.length < 17592186044416
              · rw [if_pos c8] at H
                have LMc8 := Aside0.mk c8
                clear c8
                obtain ⟨y419, hy419⟩ : ∃ y_ : List Int, y_ = (x5_1 ++ t414) := ⟨_, rfl⟩
                replace H : (if x6_1.length < 17592186044416 then (impl_OpenAll.l0 k1 l0 y419 (x6_1 ++ [x7_1]) t415) else (none)) = some (r1, r2, r3) := by first | (rw [hy419]; with_reducible exact H) | (have H2_ := (Option.bind_some _ _).symm.trans H; rw [hy419]; with_reducible exact H2_) | (have H2_ := (Option.bind_some _ _).symm.trans H; with_reducible exact H2_) | with_reducible exact H | (rw [hy419]; exact H) | exact H
                have Ny419 := Aside0.mk hy419
                clear hy419
                by_cases c9 : x6_1.length < 17592186044416
                · rw [if_pos c9] at H
                  have LMc9 := Aside0.mk c9
                  clear c9
                  obtain ⟨y422, hy422⟩ : ∃ y_ : List Int, y_ = (x6_1 ++ [x7_1]) := ⟨_, rfl⟩
                  replace H : (impl_OpenAll.l0 k1 l0 y419 y422 t415) = some (r1, r2, r3) := by first | (rw [hy422]; with_reducible exact H) | (have H2_ := (Option.bind_some _ _).symm.trans H; rw [hy422]; with_reducible exact H2_) | (have H2_ := (Option.bind_some _ _).symm.trans H; with_reducible exact H2_) | with_reducible exact H | (rw [hy422]; exact H) | exact H
                  have Ny422 := Aside0.mk hy422
                  clear hy422
                  have H' := Aside0.mk H
                  clear H
                  obtain ⟨Ao10, co10, eo10⟩ := Kd.R_slice HO_6.out
                  subst eo10
                  go_wp2_with (first | ((with_reducible refine gate_callee (f := 42) rfl ?_); refine goesL_ (some 28) rfl rfl Try.func42 (by kernel_rfl) rfl #[.slice A0 l0.length c0, .int .i64 x7_1] rfl (by (try simp only [List.map_toArray, List.map_cons, List.map_nil]); first | done | rfl | (simp only [List.length_drop, List.length_take]; rfl)) ?_; (with_reducible refine (impl_OpenFrame.calls k1 _ _ l0 x7_1 t414 t415 t416 _ ?side1 ?side2 A6.out).mono ?_); (case side1 => repeat (first | exact (Kd.C_below HR0.out HB.out) | (with_reducible refine Kd.C_alloc ?_ _) | (with_reducible refine Kd.C_drewN ?_ _) | (with_reducible refine Kd.C_drew ?_))); (case side2 => exact HC0.out); rintro e w11 ⟨v417, rfl, ho0, hb⟩; refine ⟨_, rfl, ?_⟩; have n0_ := Aside0.mk (Kd.R_elder' (by (with_reducible repeat (first | apply Kd.R_alloc | apply Kd.R_drewN | apply Kd.R_drew)); first | exact HO_5.out | (subst_vars; exact HO_5.out)) (Kd.R_base ho0) hb); have n1_ := Aside0.mk (Kd.R_elder' (by (with_reducible repeat (first | apply Kd.R_alloc | apply Kd.R_drewN | apply Kd.R_drew)); first | exact HO_6.out | (subst_vars; exact HO_6.out)) (Kd.R_base ho0) hb); have n2_ := Aside0.mk (Kd.R_lower (Kd.R_new' (Kd.R_new' ho0 (Kd.R_lt (by (with_reducible repeat (first | apply Kd.R_alloc | apply Kd.R_drewN | apply Kd.R_drew)); first | exact HO_5.out | (subst_vars; exact HO_5.out)))) (Kd.R_lt (by (with_reducible repeat (first | apply Kd.R_alloc | apply Kd.R_drewN | apply Kd.R_drew)); first | exact HO_6.out | (subst_vars; exact HO_6.out)))) (below_size (by repeat (first | (with_reducible first | exact HB.out | apply below_alloc | apply pw_below_drewN | apply below_drew1) | exact HB.out)))); have n3_ := Aside0.mk (below_step (by repeat (first | (with_reducible first | exact HB.out | apply below_alloc | apply pw_below_drewN | apply below_drew1) | exact HB.out)) hb); clear HO_5; clear HO_6; clear HB; have HO_5 := n0_; have HO_6 := n1_; have HO418 := n2_; have HB := n3_; clear n0_ n1_ n2_ n3_; (try clear hb); (try clear hb2); (try clear hk); (try clear hi); (try clear ho0); obtain ⟨Ao13, co13, eo13⟩ := Kd.R_slice HO418.out; subst eo13) | ((with_reducible refine gate_builtin (b := .append) (xs := #[.tmp 37, .tmp 38]) rfl ?_); at_builtin; refine Kd.R_append_rows (Kd.int .i64) (w0 := w) w.heap.size rfl (.tmp 37) (.tmp 38) 24 3 (.int .i64 0) 8 rfl Try.underlying24 info3 rfl (by decide) (by omega) u5 x5_1 t414 _ _ _ (fun k_ => some k_ ≠ (.slice Ao10 x6_1.length co10 : Value).ownBlock ∧ some k_ ≠ (.slice Ao13 t414.length co13 : Value).ownBlock) (fun _ => False) rfl rfl ?aO ?aR (fun _ _ h => h) (fun _ h => h.elim) ?aF ?aB ?aS ?aL ?_; (case aR => repeat (first | exact (Kd.R_reads' HO418.out).2.2 | (with_reducible refine Kd.C_alloc ?_ _) | (with_reducible refine Kd.C_drewN ?_ _) | (with_reducible refine Kd.C_drew ?_))); (case aB => exact (by repeat (first | (with_reducible first | exact HB.out | apply below_alloc | apply pw_below_drewN | apply below_drew1) | exact HB.out))); (case aF => exact (fun k_ hk => ⟨Kd.fresh' (Kd.R_lt (by (with_reducible repeat (first | apply Kd.R_alloc | apply Kd.R_drewN | apply Kd.R_drew)); first | exact HO_6.out | (subst_vars; exact HO_6.out))) k_ hk, Kd.fresh' (Kd.R_lt (by (with_reducible repeat (first | apply Kd.R_alloc | apply Kd.R_drewN | apply Kd.R_drew)); first | exact HO418.out | (subst_vars; exact HO418.out))) k_ hk⟩)); (case aO => exact (by (with_reducible repeat (first | apply Kd.R_alloc | apply Kd.R_drewN | apply Kd.R_drew)); first | exact HO_5.out | (subst_vars; exact HO_5.out))); (case aS => exact (below_size (by repeat (first | (with_reducible first | exact HB.out | apply below_alloc | apply pw_below_drewN | apply below_drew1) | exact HB.out)))); (case aL => have := LMc8.out; omega); intro v420 w12 ho hb hg hat; (first | rw [← Ny419.out] at ho | (simp only [Int.reduceToNat] at ho; rw [← Ny419.out] at ho)); have n0_ := Aside0.mk (Kd.R_after (ok := (fun k_ => some k_ ≠ (.slice Ao13 t414.length co13 : Value).ownBlock)) (by (with_reducible repeat (first | apply Kd.R_alloc | apply Kd.R_drewN | apply Kd.R_drew)); first | exact Kd.R_mono HO_6.out (fun _ hk => ⟨hk.2, hk.1⟩) | (subst_vars; exact Kd.R_mono HO_6.out (fun _ hk => ⟨hk.2, hk.1⟩))) hg hat); have n1_ := Aside0.mk (Kd.R_after (ok := (fun k_ => some k_ ≠ (.slice Ao10 x6_1.length co10 : Value).ownBlock)) (by (with_reducible repeat (first | apply Kd.R_alloc | apply Kd.R_drewN | apply Kd.R_drew)); first | exact Kd.R_mono HO418.out (fun _ hk => ⟨hk.2, hk.1.2⟩) | (subst_vars; exact Kd.R_mono HO418.out (fun _ hk => ⟨hk.2, hk.1.2⟩))) hg hat); have n2_ := Aside0.mk (hb); have n3_ := Aside0.mk (ho); clear HO_6; clear HO418; clear HB; clear HO_5; have HO_6 := n0_; have HO418 := n1_; have HB := n2_; have HO421 := n3_; clear n0_ n1_ n2_ n3_; clear ho hb hg hat) | ((with_reducible refine gate_builtin (b := .append) (xs := #[.tmp 40, .tmp 42]) rfl ?_); at_builtin; refine Kd.R_append (Kd.int .i64) (w0 := w) w.heap.size rfl (.tmp 40) (.tmp 42) 24 3 (.int .i64 0) 8 rfl Try.underlying24 info3 rfl (by decide) (by omega) (.slice Ao10 x6_1.length co10) x6_1 x7_1 [.int .i64 x7_1] (fun k_ => some k_ ≠ (.slice Ao13 t414.length co13 : Value).ownBlock ∧ some k_ ≠ (v420 : Value).ownBlock) (fun _ => False) rfl rfl ?aP (fun _ hk => hk.elim) ?aF ?aO ?aB ?aS ?aL ?_; (case aP => exact rfl); (case aB => exact (by repeat (first | (with_reducible first | exact HB.out | apply below_alloc | apply pw_below_drewN | apply below_drew1) | exact HB.out))); (case aF => exact (fun k_ hk => ⟨Kd.fresh' (Kd.R_lt (by (with_reducible repeat (first | apply Kd.R_alloc | apply Kd.R_drewN | apply Kd.R_drew)); first | exact HO418.out | (subst_vars; exact HO418.out))) k_ hk, Kd.fresh' (Kd.R_lt (by (with_reducible repeat (first | apply Kd.R_alloc | apply Kd.R_drewN | apply Kd.R_drew)); first | exact HO421.out | (subst_vars; exact HO421.out))) k_ hk⟩)); (case aO => exact (by (with_reducible repeat (first | apply Kd.R_alloc | apply Kd.R_drewN | apply Kd.R_drew)); first | exact HO_6.out | (subst_vars; exact HO_6.out))); (case aS => exact (below_size (by repeat (first | (with_reducible first | exact HB.out | apply below_alloc | apply pw_below_drewN | apply below_drew1) | exact HB.out)))); (case aL => have := LMc9.out; omega); intro v423 w14 ho hb hg hat; (first | rw [← Ny422.out] at ho | (simp only [Int.reduceToNat] at ho; rw [← Ny422.out] at ho)); have n0_ := Aside0.mk (Kd.R_after (ok := (fun k_ => some k_ ≠ (v420 : Value).ownBlock)) (by (with_reducible repeat (first | apply Kd.R_alloc | apply Kd.R_drewN | apply Kd.R_drew)); first | exact Kd.R_mono HO418.out (fun _ hk => ⟨hk.2, hk.1⟩) | (subst_vars; exact Kd.R_mono HO418.out (fun _ hk => ⟨hk.2, hk.1⟩))) hg hat); have n1_ := Aside0.mk (Kd.R_after (ok := (fun k_ => some k_ ≠ (.slice Ao13 t414.length co13 : Value).ownBlock)) (by (with_reducible repeat (first | apply Kd.R_alloc | apply Kd.R_drewN | apply Kd.R_drew)); first | exact Kd.R_mono HO421.out (fun _ hk => ⟨hk.2, hk.1⟩) | (subst_vars; exact Kd.R_mono HO421.out (fun _ hk => ⟨hk.2, hk.1⟩))) hg hat); have n2_ := Aside0.mk (hb); have n3_ := Aside0.mk (ho); clear HO418; clear HO421; clear HB; clear HO_6; have HO418 := n0_; have HO421 := n1_; have HB := n2_; have HO424 := n3_; clear n0_ n1_ n2_ n3_; clear ho hb hg hat))
                  go_roundg k1
                  case measure => have := HK1.out; omega
                  case rel => exact ⟨(y419), (y422), (t415), (by first | rfl | (simp; done) | (simp [*]; done)), H', ⟨by have := HK1.out; omega⟩, ⟨by (with_reducible repeat (first | apply Kd.R_alloc | apply Kd.R_drewN | apply Kd.R_drew)); first | exact Kd.R_mono HO421.out (fun _ hk => hk.2) | (subst_vars; exact Kd.R_mono HO421.out (fun _ hk => hk.2))⟩, ⟨by (with_reducible repeat (first | apply Kd.R_alloc | apply Kd.R_drewN | apply Kd.R_drew)); first | exact Kd.R_mono HO424.out (fun _ hk => hk.2) | (subst_vars; exact Kd.R_mono HO424.out (fun _ hk => hk.2))⟩, ⟨by repeat (first | (with_reducible first | exact HB.out | apply below_alloc | apply pw_below_drewN | apply below_drew1) | exact HB.out)⟩⟩
                · rw [if_neg c9] at H
                  exact absurd H (by simp)
              · rw [if_neg c8] at H
                exact absurd H (by simp)
            · rw [if_neg c7] at H
              have c7b0 : (t416 == 0) = false := beq_eq_false_iff_ne.mpr c7
              have c7b1 : (t416 != 0) = true := bne_iff_ne.mpr c7
              simp only [Option.some.injEq, Prod.mk.injEq] at H
              obtain ⟨rfl, rfl, rfl⟩ := H
              obtain ⟨Ao15, co15, eo15⟩ := Kd.R_slice HO_6.out
              subst eo15
              go_wp2_with (first | ((with_reducible refine gate_callee (f := 42) rfl ?_); refine goesL_ (some 28) rfl rfl Try.func42 (by kernel_rfl) rfl #[.slice A0 l0.length c0, .int .i64 x7_1] rfl (by (try simp only [List.map_toArray, List.map_cons, List.map_nil]); first | done | rfl | (simp only [List.length_drop, List.length_take]; rfl)) ?_; (with_reducible refine (impl_OpenFrame.calls k1 _ _ l0 x7_1 t414 t415 t416 _ ?side1 ?side2 A6.out).mono ?_); (case side1 => repeat (first | exact (Kd.C_below HR0.out HB.out) | (with_reducible refine Kd.C_alloc ?_ _) | (with_reducible refine Kd.C_drewN ?_ _) | (with_reducible refine Kd.C_drew ?_))); (case side2 => exact HC0.out); rintro e w16 ⟨v417, rfl, ho0, hb⟩; refine ⟨_, rfl, ?_⟩; have n0_ := Aside0.mk (Kd.R_elder' (by (with_reducible repeat (first | apply Kd.R_alloc | apply Kd.R_drewN | apply Kd.R_drew)); first | exact HO_5.out | (subst_vars; exact HO_5.out)) (Kd.R_base ho0) hb); have n1_ := Aside0.mk (Kd.R_elder' (by (with_reducible repeat (first | apply Kd.R_alloc | apply Kd.R_drewN | apply Kd.R_drew)); first | exact HO_6.out | (subst_vars; exact HO_6.out)) (Kd.R_base ho0) hb); have n2_ := Aside0.mk (Kd.R_lower (Kd.R_new' (Kd.R_new' ho0 (Kd.R_lt (by (with_reducible repeat (first | apply Kd.R_alloc | apply Kd.R_drewN | apply Kd.R_drew)); first | exact HO_5.out | (subst_vars; exact HO_5.out)))) (Kd.R_lt (by (with_reducible repeat (first | apply Kd.R_alloc | apply Kd.R_drewN | apply Kd.R_drew)); first | exact HO_6.out | (subst_vars; exact HO_6.out)))) (below_size (by repeat (first | (with_reducible first | exact HB.out | apply below_alloc | apply pw_below_drewN | apply below_drew1) | exact HB.out)))); have n3_ := Aside0.mk (below_step (by repeat (first | (with_reducible first | exact HB.out | apply below_alloc | apply pw_below_drewN | apply below_drew1) | exact HB.out)) hb); clear HO_5; clear HO_6; clear HB; have HO_5 := n0_; have HO_6 := n1_; have HO418 := n2_; have HB := n3_; clear n0_ n1_ n2_ n3_; (try clear hb); (try clear hb2); (try clear hk); (try clear hi); (try clear ho0)))
              go_ret3
              exact ⟨_, _, by first | rfl | (simp [errW_none, errW_some] <;> rfl) | (simp [*, errW_none, errW_some] <;> rfl), by (with_reducible repeat (first | apply Kd.R_alloc | apply Kd.R_drewN | apply Kd.R_drew)); first | exact Kd.R_mono HO_5.out (fun _ hk => hk.1) | (subst_vars; exact Kd.R_mono HO_5.out (fun _ hk => hk.1)), by (with_reducible repeat (first | apply Kd.R_alloc | apply Kd.R_drewN | apply Kd.R_drew)); first | exact Kd.R_mono HO_6.out (fun _ hk => hk.1) | (subst_vars; exact Kd.R_mono HO_6.out (fun _ hk => hk.1)), by repeat (first | (with_reducible first | exact HB.out | apply below_alloc | apply pw_below_drewN | apply below_drew1) | exact HB.out)⟩

/-! ### laws_FnCutFile: function 11 -/
mutual
def laws_FnCutFile.j0 : Nat → List Int → List Int → Int → List Int → Bool → Option (Bool)
  | 0, _, _, _, _, _ => none
  | k + 1, x0, x3, x5, x6, x58 => if x58 = true then ((impl_PackAll.f k (([1, 2] : List Int)) 1).bind fun bt442 => (if bt442.2 = true then (some ((bt442.1.length : Int) == 12)) else (some false))) else ((impl_OpenAll.f k x6).bind fun bt446 => ((laws_at.f x0 1).bind fun t453 => ((laws_at.f x0 2).bind fun t454 => (if (x6.length : Int) = 0 then (none) else (laws_FnCutFile.l0 k x3 x5 x6 bt446.2.1 (Int.tmod (wrap64 ((wrap64 (t453 * 256)) + t454)) (x6.length : Int)) 0)))))
def laws_FnCutFile.j2 : Nat → List Int → Int → List Int → List Int → Int → Int → Option (Bool)
  | 0, _, _, _, _, _, _ => none
  | k + 1, x3, x5, x6, x13, x15, x16 => if 0 ≤ x15 then (if x15 ≤ (x6.length : Int) then ((impl_OpenAll.f k (x6.take (x15 : Int).toNat)).bind fun bt460 => (if (wrap64 (x16 * x5)) > (x3.length : Int) then (some false) else (if (bt460.2.1.length : Int) = x16 then (if bt460.2.2 = 0 then (if 0 ≤ x16 then (if x16 < (x13.length : Int) then (if (rd x13 x16) = x15 then (if 0 ≤ (wrap64 (x16 * x5)) then (if (wrap64 (x16 * x5)) ≤ (x3.length : Int) then ((laws_sameInts.f k bt460.1 (x3.take ((wrap64 (x16 * x5)) : Int).toNat)).bind fun t472 => (some t472)) else (none)) else (none)) else (some false)) else (none)) else (none)) else (if 0 ≤ (wrap64 (x16 * x5)) then (if (wrap64 (x16 * x5)) ≤ (x3.length : Int) then ((laws_sameInts.f k bt460.1 (x3.take ((wrap64 (x16 * x5)) : Int).toNat)).bind fun t477 => (some t477)) else (none)) else (none))) else (some false)))) else (none)) else (none)
def laws_FnCutFile.l0 : Nat → List Int → Int → List Int → List Int → Int → Int → Option (Bool)
  | 0, _, _, _, _, _, _ => none
  | k + 1, x3, x5, x6, x13, x15, x16 => if (wrap64 (x16 + 1)) < (x13.length : Int) then (if 0 ≤ (wrap64 (x16 + 1)) then (if (rd x13 (wrap64 (x16 + 1))) ≤ x15 then (laws_FnCutFile.l0 k x3 x5 x6 x13 x15 (wrap64 (x16 + 1))) else (laws_FnCutFile.j2 k x3 x5 x6 x13 x15 x16)) else (none)) else (laws_FnCutFile.j2 k x3 x5 x6 x13 x15 x16)
end
def laws_FnCutFile.f (k : Nat) (l0 : List Int) : Option (Bool) := (laws_big.f l0).bind fun t425 => (if t425 = true then (some true) else ((spec_DrawPackAll.f k l0).bind fun bt426 => ((laws_at.f l0 0).bind fun t430 => ((impl_PackAll.f k bt426.1 (wrap64 (1 + (Int.tmod t430 9)))).bind fun bt431 => ((spec_PackAll.f k bt426.1 (wrap64 (1 + (Int.tmod t430 9)))).bind fun bt435 => (if (bt431.2 != bt435.2) = true then (some false) else (if bt431.2 = true then (if (bt426.1.length : Int) = 0 then (laws_FnCutFile.j0 k l0 bt426.1 (wrap64 (1 + (Int.tmod t430 9))) bt431.1 true) else (laws_FnCutFile.j0 k l0 bt426.1 (wrap64 (1 + (Int.tmod t430 9))) bt431.1 (decide ((bt426.1.length : Int) > 40)))) else (laws_FnCutFile.j0 k l0 bt426.1 (wrap64 (1 + (Int.tmod t430 9))) bt431.1 true))))))))
theorem laws_FnCutFile.mono_l : ∀ k, (∀ y0 y1 y2 y3 y4, LeO (laws_FnCutFile.j0 k y0 y1 y2 y3 y4) (laws_FnCutFile.j0 (k + 1) y0 y1 y2 y3 y4)) ∧ (∀ y0 y1 y2 y3 y4 y5, LeO (laws_FnCutFile.j2 k y0 y1 y2 y3 y4 y5) (laws_FnCutFile.j2 (k + 1) y0 y1 y2 y3 y4 y5)) ∧ (∀ y0 y1 y2 y3 y4 y5, LeO (laws_FnCutFile.l0 k y0 y1 y2 y3 y4 y5) (laws_FnCutFile.l0 (k + 1) y0 y1 y2 y3 y4 y5))
  | 0 => ⟨fun _ _ _ _ _ r h => by simp [laws_FnCutFile.j0] at h, fun _ _ _ _ _ _ r h => by simp [laws_FnCutFile.j2] at h, fun _ _ _ _ _ _ r h => by simp [laws_FnCutFile.l0] at h⟩
  | k + 1 => by
    obtain ⟨ih0, ih1, ih2⟩ := laws_FnCutFile.mono_l k
    refine ⟨?_, ?_, ?_⟩
    · intro y0 y1 y2 y3 y4
      unfold laws_FnCutFile.j0
      repeat' first
      | (with_reducible exact ih0 _ _ _ _ _)
      | (with_reducible exact ih1 _ _ _ _ _ _)
      | (with_reducible exact ih2 _ _ _ _ _ _)
      | (with_reducible exact impl_OpenAll.mono _ _)
      | (with_reducible exact impl_PackAll.mono _ _ _)
      | (with_reducible exact laws_sameInts.mono _ _ _)
      | (with_reducible exact spec_DrawPackAll.mono _ _)
      | (with_reducible exact spec_PackAll.mono _ _ _)
      | (with_reducible exact LeO.refl _)
      | (with_reducible exact LeO.none _)
      | (with_reducible refine LeO.ite ?_ ?_)
      | (with_reducible refine LeO.bind ?_ (fun _ => ?_))
      | exact ih0 _ _ _ _ _
      | exact ih1 _ _ _ _ _ _
      | exact ih2 _ _ _ _ _ _
      | exact impl_OpenAll.mono _ _
      | exact impl_PackAll.mono _ _ _
      | exact laws_sameInts.mono _ _ _
      | exact spec_DrawPackAll.mono _ _
      | exact spec_PackAll.mono _ _ _
      | exact LeO.none _
      | refine LeO.ite ?_ ?_
      | refine LeO.bind ?_ (fun _ => ?_)
    · intro y0 y1 y2 y3 y4 y5
      unfold laws_FnCutFile.j2
      repeat' first
      | (with_reducible exact ih0 _ _ _ _ _)
      | (with_reducible exact ih1 _ _ _ _ _ _)
      | (with_reducible exact ih2 _ _ _ _ _ _)
      | (with_reducible exact impl_OpenAll.mono _ _)
      | (with_reducible exact impl_PackAll.mono _ _ _)
      | (with_reducible exact laws_sameInts.mono _ _ _)
      | (with_reducible exact spec_DrawPackAll.mono _ _)
      | (with_reducible exact spec_PackAll.mono _ _ _)
      | (with_reducible exact LeO.refl _)
      | (with_reducible exact LeO.none _)
      | (with_reducible refine LeO.ite ?_ ?_)
      | (with_reducible refine LeO.bind ?_ (fun _ => ?_))
      | exact ih0 _ _ _ _ _
      | exact ih1 _ _ _ _ _ _
      | exact ih2 _ _ _ _ _ _
      | exact impl_OpenAll.mono _ _
      | exact impl_PackAll.mono _ _ _
      | exact laws_sameInts.mono _ _ _
      | exact spec_DrawPackAll.mono _ _
      | exact spec_PackAll.mono _ _ _
      | exact LeO.none _
      | refine LeO.ite ?_ ?_
      | refine LeO.bind ?_ (fun _ => ?_)
    · intro y0 y1 y2 y3 y4 y5
      unfold laws_FnCutFile.l0
      repeat' first
      | (with_reducible exact ih0 _ _ _ _ _)
      | (with_reducible exact ih1 _ _ _ _ _ _)
      | (with_reducible exact ih2 _ _ _ _ _ _)
      | (with_reducible exact impl_OpenAll.mono _ _)
      | (with_reducible exact impl_PackAll.mono _ _ _)
      | (with_reducible exact laws_sameInts.mono _ _ _)
      | (with_reducible exact spec_DrawPackAll.mono _ _)
      | (with_reducible exact spec_PackAll.mono _ _ _)
      | (with_reducible exact LeO.refl _)
      | (with_reducible exact LeO.none _)
      | (with_reducible refine LeO.ite ?_ ?_)
      | (with_reducible refine LeO.bind ?_ (fun _ => ?_))
      | exact ih0 _ _ _ _ _
      | exact ih1 _ _ _ _ _ _
      | exact ih2 _ _ _ _ _ _
      | exact impl_OpenAll.mono _ _
      | exact impl_PackAll.mono _ _ _
      | exact laws_sameInts.mono _ _ _
      | exact spec_DrawPackAll.mono _ _
      | exact spec_PackAll.mono _ _ _
      | exact LeO.none _
      | refine LeO.ite ?_ ?_
      | refine LeO.bind ?_ (fun _ => ?_)
theorem laws_FnCutFile.mono : ∀ a0 k, LeO (laws_FnCutFile.f k a0) (laws_FnCutFile.f (k + 1) a0) := by
  intro a0 k
  obtain ⟨ih0, ih1, ih2⟩ := laws_FnCutFile.mono_l k
  unfold laws_FnCutFile.f
  repeat' first
      | (with_reducible exact ih0 _ _ _ _ _)
      | (with_reducible exact ih1 _ _ _ _ _ _)
      | (with_reducible exact ih2 _ _ _ _ _ _)
      | (with_reducible exact impl_OpenAll.mono _ _)
      | (with_reducible exact impl_PackAll.mono _ _ _)
      | (with_reducible exact laws_sameInts.mono _ _ _)
      | (with_reducible exact spec_DrawPackAll.mono _ _)
      | (with_reducible exact spec_PackAll.mono _ _ _)
      | (with_reducible exact LeO.refl _)
      | (with_reducible exact LeO.none _)
      | (with_reducible refine LeO.ite ?_ ?_)
      | (with_reducible refine LeO.bind ?_ (fun _ => ?_))
      | exact ih0 _ _ _ _ _
      | exact ih1 _ _ _ _ _ _
      | exact ih2 _ _ _ _ _ _
      | exact impl_OpenAll.mono _ _
      | exact impl_PackAll.mono _ _ _
      | exact laws_sameInts.mono _ _ _
      | exact spec_DrawPackAll.mono _ _
      | exact spec_PackAll.mono _ _ _
      | exact LeO.none _
      | refine LeO.ite ?_ ?_
      | refine LeO.bind ?_ (fun _ => ?_)
set_option maxHeartbeats 8000000 in
set_option maxRecDepth 100000 in
theorem laws_FnCutFile.calls (k : Nat) (A0 : Option Addr) (c0 : Nat) (l0 : List Int) (r : Bool) (w : World) (hr0 : Kd.C (Kd.int .u8) w A0 l0.length l0) (hc0 : l0.length ≤ c0) (hr_ : r = true) (h : laws_FnCutFile.f k l0 = some r) :
    Calls Try.prog 11 #[.slice A0 l0.length c0] w fun e w' => e = .returned (.bool r) ∧ Below w.heap.size w w' := by
  have HR0 := Aside0.mk hr0
  have HC0 := Aside0.mk hc0
  clear hr0 hc0
  have HB := Aside0.mk (Below.refl w.heap.size w)
  have H : ((laws_big.f l0).bind fun t425 => (if t425 = true then (some true) else ((spec_DrawPackAll.f k l0).bind fun bt426 => ((laws_at.f l0 0).bind fun t430 => ((impl_PackAll.f k bt426.1 (wrap64 (1 + (Int.tmod t430 9)))).bind fun bt431 => ((spec_PackAll.f k bt426.1 (wrap64 (1 + (Int.tmod t430 9)))).bind fun bt435 => (if (bt431.2 != bt435.2) = true then (some false) else (if bt431.2 = true then (if (bt426.1.length : Int) = 0 then (laws_FnCutFile.j0 k l0 bt426.1 (wrap64 (1 + (Int.tmod t430 9))) bt431.1 true) else (laws_FnCutFile.j0 k l0 bt426.1 (wrap64 (1 + (Int.tmod t430 9))) bt431.1 (decide ((bt426.1.length : Int) > 40)))) else (laws_FnCutFile.j0 k l0 bt426.1 (wrap64 (1 + (Int.tmod t430 9))) bt431.1 true))))))))) = some r := h
  clear h
  replace H := Option.bind_eq_some_iff.mp H
  obtain ⟨t425, A20, H⟩ := H
  replace H : (if t425 = true then (some true) else ((spec_DrawPackAll.f k l0).bind fun bt426 => ((laws_at.f l0 0).bind fun t430 => ((impl_PackAll.f k bt426.1 (wrap64 (1 + (Int.tmod t430 9)))).bind fun bt431 => ((spec_PackAll.f k bt426.1 (wrap64 (1 + (Int.tmod t430 9)))).bind fun bt435 => (if (bt431.2 != bt435.2) = true then (some false) else (if bt431.2 = true then (if (bt426.1.length : Int) = 0 then (laws_FnCutFile.j0 k l0 bt426.1 (wrap64 (1 + (Int.tmod t430 9))) bt431.1 true) else (laws_FnCutFile.j0 k l0 bt426.1 (wrap64 (1 + (Int.tmod t430 9))) bt431.1 (decide ((bt426.1.length : Int) > 40)))) else (laws_FnCutFile.j0 k l0 bt426.1 (wrap64 (1 + (Int.tmod t430 9))) bt431.1 true)))))))) = some r := H
  have A2 := Aside0.mk A20
  clear A20
  by_cases c3 : t425 = true
  · subst c3
    have H1 : (some true) = some r := by rw [if_pos rfl] at H; exact H
    clear H
    have H := H1
    clear H1
    obtain rfl := Option.some.inj H
    go_enter Try.func11, Try.ntmps11
    go_wp2_with (first | ((with_reducible refine gate_callee (f := 15) rfl ?_); refine goesL_ (some 22) rfl rfl Try.func15 (by kernel_rfl) rfl #[.slice A0 l0.length c0] rfl (by (try simp only [List.map_toArray, List.map_cons, List.map_nil]); first | done | rfl | (simp only [List.length_drop, List.length_take]; rfl)) ?_; (with_reducible refine (laws_big.calls _ _ l0 true _ ?side1 ?side2 A2.out).mono ?_); (case side1 => repeat (first | exact HR0.out | (with_reducible refine Kd.C_alloc ?_ _) | (with_reducible refine Kd.C_drewN ?_ _) | (with_reducible refine Kd.C_drew ?_))); (case side2 => exact HC0.out); rintro e w' ⟨rfl, ⟨nd, rfl⟩⟩; refine ⟨_, rfl, ?_⟩))
    go_ret
    exact ⟨by first | rfl | (simp [errW_none, errW_some] <;> rfl) | (simp [*, errW_none, errW_some] <;> rfl), by repeat (first | (with_reducible first | exact HB.out | apply below_alloc | apply pw_below_drewN | apply below_drew1) | exact HB.out)⟩
  · replace c3 := Bool.eq_false_iff.mpr c3
    subst c3
    have H1 : ((spec_DrawPackAll.f k l0).bind fun bt426 => ((laws_at.f l0 0).bind fun t430 => ((impl_PackAll.f k bt426.1 (wrap64 (1 + (Int.tmod t430 9)))).bind fun bt431 => ((spec_PackAll.f k bt426.1 (wrap64 (1 + (Int.tmod t430 9)))).bind fun bt435 => (if (bt431.2 != bt435.2) = true then (some false) else (if bt431.2 = true then (if (bt426.1.length : Int) = 0 then (laws_FnCutFile.j0 k l0 bt426.1 (wrap64 (1 + (Int.tmod t430 9))) bt431.1 true) else (laws_FnCutFile.j0 k l0 bt426.1 (wrap64 (1 + (Int.tmod t430 9))) bt431.1 (decide ((bt426.1.length : Int) > 40)))) else (laws_FnCutFile.j0 k l0 bt426.1 (wrap64 (1 + (Int.tmod t430 9))) bt431.1 true))))))) = some r := by rw [if_neg (show ¬ (false = true) by decide)] at H; exact H
    clear H
    have H := H1
    clear H1
    replace H := Option.bind_eq_some_iff.mp H
    obtain ⟨⟨t426, t427⟩, A40, H⟩ := H
    replace H : ((laws_at.f l0 0).bind fun t430 => ((impl_PackAll.f k t426 (wrap64 (1 + (Int.tmod t430 9)))).bind fun bt431 => ((spec_PackAll.f k t426 (wrap64 (1 + (Int.tmod t430 9)))).bind fun bt435 => (if (bt431.2 != bt435.2) = true then (some false) else (if bt431.2 = true then (if (t426.length : Int) = 0 then (laws_FnCutFile.j0 k l0 t426 (wrap64 (1 + (Int.tmod t430 9))) bt431.1 true) else (laws_FnCutFile.j0 k l0 t426 (wrap64 (1 + (Int.tmod t430 9))) bt431.1 (decide ((t426.length : Int) > 40)))) else (laws_FnCutFile.j0 k l0 t426 (wrap64 (1 + (Int.tmod t430 9))) bt431.1 true)))))) = some r := H
    have A4 := Aside0.mk A40
    clear A40
    replace H := Option.bind_eq_some_iff.mp H
    obtain ⟨t430, A50, H⟩ := H
    replace H : ((impl_PackAll.f k t426 (wrap64 (1 + (Int.tmod t430 9)))).bind fun bt431 => ((spec_PackAll.f k t426 (wrap64 (1 + (Int.tmod t430 9)))).bind fun bt435 => (if (bt431.2 != bt435.2) = true then (some false) else (if bt431.2 = true then (if (t426.length : Int) = 0 then (laws_FnCutFile.j0 k l0 t426 (wrap64 (1 + (Int.tmod t430 9))) bt431.1 true) else (laws_FnCutFile.j0 k l0 t426 (wrap64 (1 + (Int.tmod t430 9))) bt431.1 (decide ((t426.length : Int) > 40)))) else (laws_FnCutFile.j0 k l0 t426 (wrap64 (1 + (Int.tmod t430 9))) bt431.1 true))))) = some r := H
    have A5 := Aside0.mk A50
    clear A50
    replace H := Option.bind_eq_some_iff.mp H
    obtain ⟨⟨t431, t434⟩, A60, H⟩ := H
    replace H : ((spec_PackAll.f k t426 (wrap64 (1 + (Int.tmod t430 9)))).bind fun bt435 => (if (t434 != bt435.2) = true then (some false) else (if t434 = true then (if (t426.length : Int) = 0 then (laws_FnCutFile.j0 k l0 t426 (wrap64 (1 + (Int.tmod t430 9))) t431 true) else (laws_FnCutFile.j0 k l0 t426 (wrap64 (1 + (Int.tmod t430 9))) t431 (decide ((t426.length : Int) > 40)))) else (laws_FnCutFile.j0 k l0 t426 (wrap64 (1 + (Int.tmod t430 9))) t431 true)))) = some r := H
    have A6 := Aside0.mk A60
    clear A60
    replace H := Option.bind_eq_some_iff.mp H
    obtain ⟨⟨t435, t436⟩, A70, H⟩ := H
    replace H : (if (t434 != t436) = true then (some false) else (if t434 = true then (if (t426.length : Int) = 0 then (laws_FnCutFile.j0 k l0 t426 (wrap64 (1 + (Int.tmod t430 9))) t431 true) else (laws_FnCutFile.j0 k l0 t426 (wrap64 (1 + (Int.tmod t430 9))) t431 (decide ((t426.length : Int) > 40)))) else (laws_FnCutFile.j0 k l0 t426 (wrap64 (1 + (Int.tmod t430 9))) t431 true))) = some r := H
    have A7 := Aside0.mk A70
    clear A70
    by_cases c8 : (t434 != t436) = true
    · rw [if_pos c8] at H
      have c8b0 : (t434 != t436) = true := c8
      (try (have c8b1 : decide (t434 = t436) = false := by simpa using c8))
      (try (have c8b2 : (t434 == t436) = false := by simpa using c8))
      (try (have c8b3 : ¬ (t434 = t436) := by simpa using c8))
      clear c8
      exact absurd (Option.some.inj H) (by rw [hr_]; decide)
    · rw [if_neg c8] at H
      have c8b0 : (t434 != t436) = false := by simpa using c8
      (try (have c8b1 : decide (t434 = t436) = true := by simpa using c8))
      (try (have c8b2 : (t434 == t436) = true := by simpa using c8))
      clear c8
      have HC9 := Aside0.mk H
      clear H
      go_enter Try.func11, Try.ntmps11
      go_upto_region 9 with (first | ((with_reducible refine gate_callee (f := 15) rfl ?_); refine goesL_ (some 22) rfl rfl Try.func15 (by kernel_rfl) rfl #[.slice A0 l0.length c0] rfl (by (try simp only [List.map_toArray, List.map_cons, List.map_nil]); first | done | rfl | (simp only [List.length_drop, List.length_take]; rfl)) ?_; (with_reducible refine (laws_big.calls _ _ l0 false _ ?side1 ?side2 A2.out).mono ?_); (case side1 => repeat (first | exact HR0.out | (with_reducible refine Kd.C_alloc ?_ _) | (with_reducible refine Kd.C_drewN ?_ _) | (with_reducible refine Kd.C_drew ?_))); (case side2 => exact HC0.out); rintro e w' ⟨rfl, ⟨nd, rfl⟩⟩; refine ⟨_, rfl, ?_⟩) | ((with_reducible refine gate_callee (f := 45) rfl ?_); refine goesL_ (some 25) rfl rfl Try.func45 (by kernel_rfl) rfl #[.slice A0 l0.length c0] rfl (by (try simp only [List.map_toArray, List.map_cons, List.map_nil]); first | done | rfl | (simp only [List.length_drop, List.length_take]; rfl)) ?_; (with_reducible refine (spec_DrawPackAll.calls k _ _ l0 t426 t427 _ ?side1 ?side2 A4.out).mono ?_); (case side1 => repeat (first | exact HR0.out | (with_reducible refine Kd.C_alloc ?_ _) | (with_reducible refine Kd.C_drewN ?_ _) | (with_reducible refine Kd.C_drew ?_))); (case side2 => exact HC0.out); rintro e w10 ⟨v428, rfl, ho0, hb⟩; refine ⟨_, rfl, ?_⟩; have n0_ := Aside0.mk (Kd.R_lower ho0 (below_size (by repeat (first | (with_reducible first | exact HB.out | apply below_alloc | apply pw_below_drewN | apply below_drew1) | exact HB.out)))); have n1_ := Aside0.mk (below_step (by repeat (first | (with_reducible first | exact HB.out | apply below_alloc | apply pw_below_drewN | apply below_drew1) | exact HB.out)) hb); clear HB; have HO429 := n0_; have HB := n1_; clear n0_ n1_; (try clear hb); (try clear hb2); (try clear hk); (try clear hi); (try clear ho0)) | ((with_reducible refine gate_callee (f := 32) rfl ?_); refine goesL_ (some 29) rfl rfl Try.func32 (by kernel_rfl) rfl #[.slice A0 l0.length c0, .int .i64 0] rfl (by (try simp only [List.map_toArray, List.map_cons, List.map_nil]); first | done | rfl | (simp only [List.length_drop, List.length_take]; rfl)) ?_; (with_reducible refine (laws_at.calls _ _ l0 0 t430 _ ?side1 ?side2 A5.out).mono ?_); (case side1 => repeat (first | exact (Kd.C_below HR0.out HB.out) | (with_reducible refine Kd.C_alloc ?_ _) | (with_reducible refine Kd.C_drewN ?_ _) | (with_reducible refine Kd.C_drew ?_))); (case side2 => exact HC0.out); rintro e w' ⟨rfl, ⟨nd, rfl⟩⟩; refine ⟨_, rfl, ?_⟩; obtain ⟨Ao11, co11, eo11⟩ := Kd.R_slice HO429.out; subst eo11) | ((with_reducible refine gate_callee (f := 40) rfl ?_); refine goesL_ (some 35) rfl rfl Try.func40 (by kernel_rfl) rfl #[.slice Ao11 t426.length co11, .int .i64 (wrap64 (1 + (Int.tmod t430 9)))] rfl (by (try simp only [List.map_toArray, List.map_cons, List.map_nil]); first | done | rfl | (simp only [List.length_drop, List.length_take]; rfl)) ?_; (with_reducible refine (impl_PackAll.calls k (fun k_ => some k_ = (.slice Ao11 t426.length co11 : Value).ownBlock) _ _ t426 (wrap64 (1 + (Int.tmod t430 9))) t431 t434 _ ?side1 A6.out).mono ?_); (case side1 => exact Kd.R_V (Kd.R_tight rfl (HO429.out))); rintro e w12 ⟨v432, rfl, ho0, hb⟩; refine ⟨_, rfl, ?_⟩; have n0_ := Aside0.mk (Kd.R_below (by (with_reducible repeat (first | apply Kd.R_alloc | apply Kd.R_drewN | apply Kd.R_drew)); first | exact HO429.out | (subst_vars; exact HO429.out)) hb); have n1_ := Aside0.mk (Kd.R_lower (Kd.R_mono (ok' := fun k_ => True) ho0 (fun _ hk_ => trivial)) (below_size (by repeat (first | (with_reducible first | exact HB.out | apply below_alloc | apply pw_below_drewN | apply below_drew1) | exact HB.out)))); have n2_ := Aside0.mk (below_step (by repeat (first | (with_reducible first | exact HB.out | apply below_alloc | apply pw_below_drewN | apply below_drew1) | exact HB.out)) hb); clear HO429; clear HB; have HO429 := n0_; have HO433 := n1_; have HB := n2_; clear n0_ n1_ n2_; (try clear hb); (try clear hb2); (try clear hk); (try clear hi); (try clear ho0)) | ((with_reducible refine gate_callee (f := 39) rfl ?_); refine goesL_ (some 41) rfl rfl Try.func39 (by kernel_rfl) rfl #[.slice Ao11 t426.length co11, .int .i64 (wrap64 (1 + (Int.tmod t430 9)))] rfl (by (try simp only [List.map_toArray, List.map_cons, List.map_nil]); first | done | rfl | (simp only [List.length_drop, List.length_take]; rfl)) ?_; (with_reducible refine (spec_PackAll.calls k _ _ t426 (wrap64 (1 + (Int.tmod t430 9))) t435 t436 _ ?side1 ?side2 A7.out).mono ?_); (case side1 => repeat (first | exact (Kd.R_reads' HO429.out).2.2 | (with_reducible refine Kd.C_alloc ?_ _) | (with_reducible refine Kd.C_drewN ?_ _) | (with_reducible refine Kd.C_drew ?_))); (case side2 => exact (Kd.R_reads' HO429.out).2.1); rintro e w13 ⟨v437, rfl, ho0, hb⟩; refine ⟨_, rfl, ?_⟩; have n0_ := Aside0.mk (Kd.R_below (by (with_reducible repeat (first | apply Kd.R_alloc | apply Kd.R_drewN | apply Kd.R_drew)); first | exact HO429.out | (subst_vars; exact HO429.out)) hb); have n1_ := Aside0.mk (Kd.R_elder' (by (with_reducible repeat (first | apply Kd.R_alloc | apply Kd.R_drewN | apply Kd.R_drew)); first | exact HO433.out | (subst_vars; exact HO433.out)) (Kd.R_base ho0) hb); have n2_ := Aside0.mk (Kd.R_lower (Kd.R_new' ho0 (Kd.R_lt (by (with_reducible repeat (first | apply Kd.R_alloc | apply Kd.R_drewN | apply Kd.R_drew)); first | exact HO433.out | (subst_vars; exact HO433.out)))) (below_size (by repeat (first | (with_reducible first | exact HB.out | apply below_alloc | apply pw_below_drewN | apply below_drew1) | exact HB.out)))); have n3_ := Aside0.mk (below_step (by repeat (first | (with_reducible first | exact HB.out | apply below_alloc | apply pw_below_drewN | apply below_drew1) | exact HB.out)) hb); clear HO429; clear HO433; clear HB; have HO429 := n0_; have HO433 := n1_; have HO438 := n2_; have HB := n3_; clear n0_ n1_ n2_ n3_; (try clear hb); (try clear hb2); (try clear hk); (try clear hi); (try clear ho0)))
      (try simp only [Act.put, List.setIfInBounds_toArray, List.set_cons_zero, List.set_cons_succ])
      go_cut [58] (fun v58 wc => ∃ (kq : Nat) (x58_8 : Bool), v58 = .bool x58_8 ∧ Aside0 (laws_FnCutFile.j0 kq l0 t426 (wrap64 (1 + (Int.tmod t430 9))) t431 x58_8 = some r) ∧ Aside0 (kq ≤ k) ∧ Aside0 (Kd.R (Kd.int .i64) 3 wc w.heap.size (fun _ => True) (.slice Ao11 t426.length co11) t426) ∧ Aside0 (Kd.R (Kd.int .u8) 5 wc w.heap.size (fun _ => True) v432 t431) ∧ Aside0 (Below w.heap.size w wc))
      case first =>
        have H := HC9.out
        clear HC9
        by_cases c14 : t434 = true
        · subst c14
          have H1 : (if (t426.length : Int) = 0 then (laws_FnCutFile.j0 k l0 t426 (wrap64 (1 + (Int.tmod t430 9))) t431 true) else (laws_FnCutFile.j0 k l0 t426 (wrap64 (1 + (Int.tmod t430 9))) t431 (decide ((t426.length : Int) > 40)))) = some r := by rw [if_pos rfl] at H; exact H
          clear H
          have H := H1
          clear H1
          by_cases c15 : (t426.length : Int) = 0
          · rw [if_pos c15] at H
            have c15b0 : ((t426.length : Int) == 0) = true := beq_iff_eq.mpr c15
            have c15b1 : ((t426.length : Int) != 0) = false := bne_eq_false_iff_eq.mpr c15
            clear c15
            (first | rw [c15b0] | (simp only [i64_w, i32_w]; rw [c15b0]) | skip)
            have H' := Aside0.mk H
            clear H
            go_wp2
            go_meet
            case rel => exact ⟨_, (true), (by first | rfl | (simp; done) | (simp [*]; done)), H', ⟨by first | omega | exact Nat.le_refl _⟩, ⟨by (with_reducible repeat (first | apply Kd.R_alloc | apply Kd.R_drewN | apply Kd.R_drew)); first | exact HO429.out | (subst_vars; exact HO429.out)⟩, ⟨by (with_reducible repeat (first | apply Kd.R_alloc | apply Kd.R_drewN | apply Kd.R_drew)); first | exact Kd.R_mono HO433.out (fun _ hk => trivial) | (subst_vars; exact Kd.R_mono HO433.out (fun _ hk => trivial))⟩, ⟨by repeat (first | (with_reducible first | exact HB.out | apply below_alloc | apply pw_below_drewN | apply below_drew1) | exact HB.out)⟩⟩
          · rw [if_neg c15] at H
            have c15b0 : ((t426.length : Int) == 0) = false := beq_eq_false_iff_ne.mpr c15
            have c15b1 : ((t426.length : Int) != 0) = true := bne_iff_ne.mpr c15
            have c15b2 : ¬ (t426 = []) := fun h_ => c15 (by rw [h_]; rfl)
            (first | rw [c15b0] | (simp only [i64_w, i32_w]; rw [c15b0]) | skip)
            have H' := Aside0.mk H
            clear H
            go_wp2
            go_meet
            case rel => exact ⟨_, (decide ((t426.length : Int) > 40)), (by first | rfl | (simp; done) | (simp [*]; done)), H', ⟨by first | omega | exact Nat.le_refl _⟩, ⟨by (with_reducible repeat (first | apply Kd.R_alloc | apply Kd.R_drewN | apply Kd.R_drew)); first | exact HO429.out | (subst_vars; exact HO429.out)⟩, ⟨by (with_reducible repeat (first | apply Kd.R_alloc | apply Kd.R_drewN | apply Kd.R_drew)); first | exact Kd.R_mono HO433.out (fun _ hk => trivial) | (subst_vars; exact Kd.R_mono HO433.out (fun _ hk => trivial))⟩, ⟨by repeat (first | (with_reducible first | exact HB.out | apply below_alloc | apply pw_below_drewN | apply below_drew1) | exact HB.out)⟩⟩
        · replace c14 := Bool.eq_false_iff.mpr c14
          subst c14
          have H1 : (laws_FnCutFile.j0 k l0 t426 (wrap64 (1 + (Int.tmod t430 9))) t431 true) = some r := by rw [if_neg (show ¬ (false = true) by decide)] at H; exact H
          clear H
          have H := H1
          clear H1
          have H' := Aside0.mk H
          clear H
          go_wp2
          go_meet
          case rel => exact ⟨_, (true), (by first | rfl | (simp; done) | (simp [*]; done)), H', ⟨by first | omega | exact Nat.le_refl _⟩, ⟨by (with_reducible repeat (first | apply Kd.R_alloc | apply Kd.R_drewN | apply Kd.R_drew)); first | exact HO429.out | (subst_vars; exact HO429.out)⟩, ⟨by (with_reducible repeat (first | apply Kd.R_alloc | apply Kd.R_drewN | apply Kd.R_drew)); first | exact Kd.R_mono HO433.out (fun _ hk => trivial) | (subst_vars; exact Kd.R_mono HO433.out (fun _ hk => trivial))⟩, ⟨by repeat (first | (with_reducible first | exact HB.out | apply below_alloc | apply pw_below_drewN | apply below_drew1) | exact HB.out)⟩⟩
      case rest =>
        clear HC9
        try clear c1
        try clear p2
        try clear c3
        try clear c4
        try clear p6
        try clear c8
        try clear c8b0
        try clear c8b1
        try clear c8b2
        try clear c11
        try clear c14
        try clear c15
        try clear c15b0
        try clear c15b1
        try clear c15b2
        obtain ⟨kq, x58_8, rfl, HA, HJ8, HO_3, HO_6, HB⟩ := hcut
        cases kq with
        | zero => exact absurd HA.out (by simp [laws_FnCutFile.j0])
        | succ kj8 =>
          have H := HA.out
          clear HA
          simp only [laws_FnCutFile.j0] at H
          by_cases c16 : x58_8 = true
          · subst c16
            have H1 : ((impl_PackAll.f kj8 (([1, 2] : List Int)) 1).bind fun bt442 => (if bt442.2 = true then (some ((bt442.1.length : Int) == 12)) else (some false))) = some r := by rw [if_pos rfl] at H; exact H
            clear H
            have H := H1
            clear H1
            obtain ⟨y439, hy439⟩ : ∃ y_ : List Int, y_ = (([1, 2] : List Int)) := ⟨_, rfl⟩
            replace H : ((impl_PackAll.f kj8 y439 1).bind fun bt442 => (if bt442.2 = true then (some ((bt442.1.length : Int) == 12)) else (some false))) = some r := by first | (rw [hy439]; with_reducible exact H) | (have H2_ := (Option.bind_some _ _).symm.trans H; rw [hy439]; with_reducible exact H2_) | (have H2_ := (Option.bind_some _ _).symm.trans H; with_reducible exact H2_) | with_reducible exact H | (rw [hy439]; exact H) | exact H
            have Ny439 := Aside0.mk hy439
            clear hy439
            replace H := Option.bind_eq_some_iff.mp H
            obtain ⟨⟨t442, t445⟩, A170, H⟩ := H
            replace H : (if t445 = true then (some ((t442.length : Int) == 12)) else (some false)) = some r := H
            have A17 := Aside0.mk A170
            clear A170
            by_cases c18 : t445 = true
            · subst c18
              have H1 : (some ((t442.length : Int) == 12)) = some r := by rw [if_pos rfl] at H; exact H
              clear H
              have H := H1
              clear H1
              obtain rfl := Option.some.inj H
              go_wp2_with (first | ((with_reducible refine gate_dst (N := 60) rfl ?_); (try (refine gate_guard (by rfl) ?_; dsimp only)); refine Kd.R_lit (Kd.int .i64) _ 3 ?hg (N := 60) ?hd (xs := ([1, 2] : List Int)) (inner := [.int .i64 1, .int .i64 2]) (ok := fun _ => True) (okp := fun _ => True) ?hr ?hp (fun _ hk => hk) trivial (Below.refl _ _) (Nat.le_refl _) (by simp) ?_; (case hd => rfl); (case hg => rfl); (case hr => first | (go_simp; done) | (go_simp; rfl)); (case hp => exact (Reps.one (show Kd.M (Kd.int .i64) _ _ _ 1 [.int .i64 1] from rfl) (Reps.one (show Kd.M (Kd.int .i64) _ _ _ 2 [.int .i64 2] from rfl) (Reps.none _ _)))); intro v440 w19 ho20 hb hg_ hnew_; clear hg_ hnew_; (first | rw [← Ny439.out] at ho20 | (simp only [Int.reduceToNat] at ho20; rw [← Ny439.out] at ho20)); have n0_ := Aside0.mk (Kd.R_elder' (by (with_reducible repeat (first | apply Kd.R_alloc | apply Kd.R_drewN | apply Kd.R_drew)); first | exact HO_3.out | (subst_vars; exact HO_3.out)) (Kd.R_base ho20) hb); have n1_ := Aside0.mk (Kd.R_below (by (with_reducible repeat (first | apply Kd.R_alloc | apply Kd.R_drewN | apply Kd.R_drew)); first | exact HO_6.out | (subst_vars; exact HO_6.out)) hb); have n2_ := Aside0.mk (Kd.R_lower (Kd.R_new' ho20 (Kd.R_lt (by (with_reducible repeat (first | apply Kd.R_alloc | apply Kd.R_drewN | apply Kd.R_drew)); first | exact HO_3.out | (subst_vars; exact HO_3.out)))) (below_size (by repeat (first | (with_reducible first | exact HB.out | apply below_alloc | apply pw_below_drewN | apply below_drew1) | exact HB.out)))); have n3_ := Aside0.mk (below_step (by repeat (first | (with_reducible first | exact HB.out | apply below_alloc | apply pw_below_drewN | apply below_drew1) | exact HB.out)) hb); clear HO_3; clear HO_6; clear HB; have HO_3 := n0_; have HO_6 := n1_; have HO441 := n2_; have HB := n3_; clear n0_ n1_ n2_ n3_; clear hb ho20; obtain ⟨Ao21, co21, eo21⟩ := Kd.R_slice HO441.out; subst eo21) | ((with_reducible refine gate_callee (f := 40) rfl ?_); refine goesL_ (some 61) rfl rfl Try.func40 (by kernel_rfl) rfl #[.slice Ao21 y439.length co21, .int .i64 1] rfl (by (try simp only [List.map_toArray, List.map_cons, List.map_nil]); first | done | rfl | (simp only [List.length_drop, List.length_take]; rfl)) ?_; (with_reducible refine (impl_PackAll.calls kj8 (fun k_ => some k_ = (.slice Ao21 y439.length co21 : Value).ownBlock) _ _ y439 1 t442 true _ ?side1 A17.out).mono ?_); (case side1 => exact Kd.R_V (Kd.R_tight rfl (Kd.R_apart' (HO441.out) (Kd.R_typed HO_6.out) (by decide)))); rintro e w22 ⟨v443, rfl, ho0, hb⟩; refine ⟨_, rfl, ?_⟩; have n0_ := Aside0.mk (Kd.R_below (by (with_reducible repeat (first | apply Kd.R_alloc | apply Kd.R_drewN | apply Kd.R_drew)); first | exact HO_3.out | (subst_vars; exact HO_3.out)) hb); have n1_ := Aside0.mk (Kd.R_elder' (by (with_reducible repeat (first | apply Kd.R_alloc | apply Kd.R_drewN | apply Kd.R_drew)); first | exact HO_6.out | (subst_vars; exact HO_6.out)) (Kd.R_base ho0) hb); have n2_ := Aside0.mk (Kd.R_below (by (with_reducible repeat (first | apply Kd.R_alloc | apply Kd.R_drewN | apply Kd.R_drew)); first | exact HO441.out | (subst_vars; exact HO441.out)) hb); have n3_ := Aside0.mk (Kd.R_lower (Kd.R_new' (Kd.R_mono (ok' := fun k_ => True) ho0 (fun _ hk_ => trivial)) (Kd.R_lt (by (with_reducible repeat (first | apply Kd.R_alloc | apply Kd.R_drewN | apply Kd.R_drew)); first | exact HO_6.out | (subst_vars; exact HO_6.out)))) (below_size (by repeat (first | (with_reducible first | exact HB.out | apply below_alloc | apply pw_below_drewN | apply below_drew1) | exact HB.out)))); have n4_ := Aside0.mk (below_step (by repeat (first | (with_reducible first | exact HB.out | apply below_alloc | apply pw_below_drewN | apply below_drew1) | exact HB.out)) hb); clear HO_3; clear HO_6; clear HO441; clear HB; have HO_3 := n0_; have HO_6 := n1_; have HO441 := n2_; have HO444 := n3_; have HB := n4_; clear n0_ n1_ n2_ n3_ n4_; (try clear hb); (try clear hb2); (try clear hk); (try clear hi); (try clear ho0); obtain ⟨Ao23, co23, eo23⟩ := Kd.R_slice HO444.out; subst eo23))
              go_ret
              exact ⟨by first | rfl | (simp [errW_none, errW_some] <;> rfl) | (simp [*, errW_none, errW_some] <;> rfl), by repeat (first | (with_reducible first | exact HB.out | apply below_alloc | apply pw_below_drewN | apply below_drew1) | exact HB.out)⟩
            · replace c18 := Bool.eq_false_iff.mpr c18
              subst c18
              have H1 : (some false) = some r := by rw [if_neg (show ¬ (false = true) by decide)] at H; exact H
              clear H
              have H := H1
              clear H1
              exact absurd (Option.some.inj H) (by rw [hr_]; decide)
          · replace c16 := Bool.eq_false_iff.mpr c16
            subst c16
            have H1 : ((impl_OpenAll.f kj8 t431).bind fun bt446 => ((laws_at.f l0 1).bind fun t453 => ((laws_at.f l0 2).bind fun t454 => (if (t431.length : Int) = 0 then (none) else (laws_FnCutFile.l0 kj8 t426 (wrap64 (1 + (Int.tmod t430 9))) t431 bt446.2.1 (Int.tmod (wrap64 ((wrap64 (t453 * 256)) + t454)) (t431.length : Int)) 0))))) = some r := by rw [if_neg (show ¬ (false = true) by decide)] at H; exact H
            clear H
            have H := H1
            clear H1
            replace H := Option.bind_eq_some_iff.mp H
            obtain ⟨⟨t446, t447, t448⟩, A240, H⟩ := H
            replace H : ((laws_at.f l0 1).bind fun t453 => ((laws_at.f l0 2).bind fun t454 => (if (t431.length : Int) = 0 then (none) else (laws_FnCutFile.l0 kj8 t426 (wrap64 (1 + (Int.tmod t430 9))) t431 t447 (Int.tmod (wrap64 ((wrap64 (t453 * 256)) + t454)) (t431.length : Int)) 0)))) = some r := H
            have A24 := Aside0.mk A240
            clear A240
            replace H := Option.bind_eq_some_iff.mp H
            obtain ⟨t453, A250, H⟩ := H
            replace H : ((laws_at.f l0 2).bind fun t454 => (if (t431.length : Int) = 0 then (none) else (laws_FnCutFile.l0 kj8 t426 (wrap64 (1 + (Int.tmod t430 9))) t431 t447 (Int.tmod (wrap64 ((wrap64 (t453 * 256)) + t454)) (t431.length : Int)) 0))) = some r := H
            have A25 := Aside0.mk A250
            clear A250
            replace H := Option.bind_eq_some_iff.mp H
            obtain ⟨t454, A260, H⟩ := H
            replace H : (if (t431.length : Int) = 0 then (none) else (laws_FnCutFile.l0 kj8 t426 (wrap64 (1 + (Int.tmod t430 9))) t431 t447 (Int.tmod (wrap64 ((wrap64 (t453 * 256)) + t454)) (t431.length : Int)) 0)) = some r := H
            have A26 := Aside0.mk A260
            clear A260
            by_cases c27 : (t431.length : Int) = 0
            · rw [if_pos c27] at H
              exact absurd H (by simp)
            · rw [if_neg c27] at H
              have c27b0 : ((t431.length : Int) == 0) = false := beq_eq_false_iff_ne.mpr c27
              have c27b1 : ((t431.length : Int) != 0) = true := bne_iff_ne.mpr c27
              have c27b2 : ¬ (t431 = []) := fun h_ => c27 (by rw [h_]; rfl)
              have HC28 := Aside0.mk H
              clear H
              obtain ⟨Ao29, co29, eo29⟩ := Kd.R_slice HO_6.out
              subst eo29
              go_upto_block 0 with (first | ((with_reducible refine gate_callee (f := 46) rfl ?_); refine goesL_ (some 72) rfl rfl Try.func46 (by kernel_rfl) rfl #[.slice Ao29 t431.length co29] rfl (by (try simp only [List.map_toArray, List.map_cons, List.map_nil]); first | done | rfl | (simp only [List.length_drop, List.length_take]; rfl)) ?_; (with_reducible refine (impl_OpenAll.calls kj8 _ _ t431 t446 t447 t448 _ ?side1 ?side2 A24.out).mono ?_); (case side1 => repeat (first | exact (Kd.R_reads' HO_6.out).2.2 | (with_reducible refine Kd.C_alloc ?_ _) | (with_reducible refine Kd.C_drewN ?_ _) | (with_reducible refine Kd.C_drew ?_))); (case side2 => exact (Kd.R_reads' HO_6.out).2.1); rintro e w30 ⟨v449, v451, rfl, ho0, ho1, hb⟩; refine ⟨_, rfl, ?_⟩; have n0_ := Aside0.mk (Kd.R_mono (Kd.R_told (Kd.R_told (Kd.R_old (by (with_reducible repeat (first | apply Kd.R_alloc | apply Kd.R_drewN | apply Kd.R_drew)); first | exact HO_3.out | (subst_vars; exact HO_3.out)) hb) (Kd.R_base ho0)) (Kd.R_base ho1)) (fun _ h_ => h_.1)); have n1_ := Aside0.mk (Kd.R_below (by (with_reducible repeat (first | apply Kd.R_alloc | apply Kd.R_drewN | apply Kd.R_drew)); first | exact HO_6.out | (subst_vars; exact HO_6.out)) hb); have n2_ := Aside0.mk (Kd.R_lower (Kd.R_new' ho0 (Kd.R_lt (by (with_reducible repeat (first | apply Kd.R_alloc | apply Kd.R_drewN | apply Kd.R_drew)); first | exact HO_3.out | (subst_vars; exact HO_3.out)))) (below_size (by repeat (first | (with_reducible first | exact HB.out | apply below_alloc | apply pw_below_drewN | apply below_drew1) | exact HB.out)))); have n3_ := Aside0.mk (Kd.R_lower (Kd.R_new' ho1 (Kd.R_lt (by (with_reducible repeat (first | apply Kd.R_alloc | apply Kd.R_drewN | apply Kd.R_drew)); first | exact HO_3.out | (subst_vars; exact HO_3.out)))) (below_size (by repeat (first | (with_reducible first | exact HB.out | apply below_alloc | apply pw_below_drewN | apply below_drew1) | exact HB.out)))); have n4_ := Aside0.mk (below_step (by repeat (first | (with_reducible first | exact HB.out | apply below_alloc | apply pw_below_drewN | apply below_drew1) | exact HB.out)) hb); clear HO_3; clear HO_6; clear HB; have HO_3 := n0_; have HO_6 := n1_; have HO450 := n2_; have HO452 := n3_; have HB := n4_; clear n0_ n1_ n2_ n3_ n4_; (try clear hb); (try clear hb2); (try clear hk); (try clear hi); (try clear ho0); (try clear ho1)) | ((with_reducible refine gate_callee (f := 32) rfl ?_); refine goesL_ (some 77) rfl rfl Try.func32 (by kernel_rfl) rfl #[.slice A0 l0.length c0, .int .i64 1] rfl (by (try simp only [List.map_toArray, List.map_cons, List.map_nil]); first | done | rfl | (simp only [List.length_drop, List.length_take]; rfl)) ?_; (with_reducible refine (laws_at.calls _ _ l0 1 t453 _ ?side1 ?side2 A25.out).mono ?_); (case side1 => repeat (first | exact (Kd.C_below HR0.out HB.out) | (with_reducible refine Kd.C_alloc ?_ _) | (with_reducible refine Kd.C_drewN ?_ _) | (with_reducible refine Kd.C_drew ?_))); (case side2 => exact HC0.out); rintro e w' ⟨rfl, ⟨nd, rfl⟩⟩; refine ⟨_, rfl, ?_⟩) | ((with_reducible refine gate_callee (f := 32) rfl ?_); refine goesL_ (some 80) rfl rfl Try.func32 (by kernel_rfl) rfl #[.slice A0 l0.length c0, .int .i64 2] rfl (by (try simp only [List.map_toArray, List.map_cons, List.map_nil]); first | done | rfl | (simp only [List.length_drop, List.length_take]; rfl)) ?_; (with_reducible refine (laws_at.calls _ _ l0 2 t454 _ ?side1 ?side2 A26.out).mono ?_); (case side1 => repeat (first | exact (Kd.C_below HR0.out (by repeat (first | (with_reducible first | exact HB.out | apply below_alloc | apply pw_below_drewN | apply below_drew1) | exact HB.out))) | (with_reducible refine Kd.C_alloc ?_ _) | (with_reducible refine Kd.C_drewN ?_ _) | (with_reducible refine Kd.C_drew ?_))); (case side2 => exact HC0.out); rintro e w' ⟨rfl, ⟨nd, rfl⟩⟩; refine ⟨_, rfl, ?_⟩))
              (try simp only [Act.put, List.setIfInBounds_toArray, List.set_cons_zero, List.set_cons_succ])
              go_cut [16] (fun v16 wc => ∃ (kq : Nat) (x16_27 : Int), v16 = .int .i64 x16_27 ∧ Aside0 (laws_FnCutFile.j2 kq t426 (wrap64 (1 + (Int.tmod t430 9))) t431 t447 (Int.tmod (wrap64 ((wrap64 (t453 * 256)) + t454)) (t431.length : Int)) x16_27 = some r) ∧ Aside0 (kq ≤ kj8) ∧ Aside0 (Kd.R (Kd.int .i64) 3 wc w.heap.size (fun k_ => some k_ ≠ (v451 : Value).ownBlock) (.slice Ao11 t426.length co11) t426) ∧ Aside0 (Kd.R (Kd.int .u8) 5 wc w.heap.size (fun _ => True) (.slice Ao29 t431.length co29) t431) ∧ Aside0 (Kd.R (Kd.int .i64) 3 wc w.heap.size (fun k_ => some k_ ≠ ((.slice Ao11 t426.length co11) : Value).ownBlock) v451 t447) ∧ Aside0 (Below w.heap.size w wc))
              case first =>
                have H := HC28.out
                clear HC28
                have H' := Aside0.mk H
                clear H
                go_wp2
                go_loopg [16] kj8 (fun kq v16 w' => ∃ (x16_2 : Int), v16 = .int .i64 x16_2 ∧ Aside0 (laws_FnCutFile.l0 kq t426 (wrap64 (1 + (Int.tmod t430 9))) t431 t447 (Int.tmod (wrap64 ((wrap64 (t453 * 256)) + t454)) (t431.length : Int)) x16_2 = some r) ∧ Aside0 (kq ≤ kj8) ∧ Aside0 (Kd.R (Kd.int .i64) 3 w' w.heap.size (fun k_ => some k_ ≠ (v451 : Value).ownBlock) (.slice Ao11 t426.length co11) t426) ∧ Aside0 (Kd.R (Kd.int .u8) 5 w' w.heap.size (fun _ => True) (.slice Ao29 t431.length co29) t431) ∧ Aside0 (Kd.R (Kd.int .i64) 3 w' w.heap.size (fun k_ => some k_ ≠ ((.slice Ao11 t426.length co11) : Value).ownBlock) v451 t447) ∧ Aside0 (Below w.heap.size w w'))
                case atStart => exact ⟨(0), (by first | rfl | (simp; done) | (simp [*]; done)), H', ⟨Nat.le_refl _⟩, ⟨by (with_reducible repeat (first | apply Kd.R_alloc | apply Kd.R_drewN | apply Kd.R_drew)); first | exact Kd.R_mono HO_3.out (fun _ hk => hk.2) | (subst_vars; exact Kd.R_mono HO_3.out (fun _ hk => hk.2))⟩, ⟨by (with_reducible repeat (first | apply Kd.R_alloc | apply Kd.R_drewN | apply Kd.R_drew)); first | exact HO_6.out | (subst_vars; exact HO_6.out)⟩, ⟨by (with_reducible repeat (first | apply Kd.R_alloc | apply Kd.R_drewN | apply Kd.R_drew)); first | exact Kd.R_mono HO452.out (fun _ hk => hk.2) | (subst_vars; exact Kd.R_mono HO452.out (fun _ hk => hk.2))⟩, ⟨by repeat (first | (with_reducible first | exact HB.out | apply below_alloc | apply pw_below_drewN | apply below_drew1) | exact HB.out)⟩⟩
                case round =>
                  clear H'
                  try clear c1
                  try clear c2
                  try clear p2
                  try clear c3
                  try clear c4
                  try clear p6
                  try clear c8
                  try clear c8b0
                  try clear c8b1
                  try clear c8b2
                  try clear c11
                  try clear c14
                  try clear c15
                  try clear c15b0
                  try clear c15b1
                  try clear c15b2
                  try clear c16
                  try clear c18
                  try clear c27
                  try clear c27b0
                  try clear c27b1
                  try clear c27b2
                  try clear p2
                  try clear p6
                  obtain ⟨x16_2, rfl, HA, HK2, HO_3, HO_6, HO_13, HB⟩ := hrel
                  cases gk with
                  | zero => exact absurd HA.out (by simp [laws_FnCutFile.l0])
                  | succ k2 =>
                    have H := HA.out
                    clear HA
                    simp only [laws_FnCutFile.l0] at H
                    by_cases c31 : (wrap64 (x16_2 + 1)) < (t447.length : Int)
                    · rw [if_pos c31] at H
                      have c31b0 : decide ((wrap64 (x16_2 + 1)) < (t447.length : Int)) = true := decide_eq_true c31
                      clear c31
                      (first | rw [c31b0] | (simp only [i64_w, i32_w]; rw [c31b0]) | skip)
                      obtain ⟨ji32, hji32⟩ : ∃ j_ : Int, (wrap64 (x16_2 + 1)) = j_ := ⟨_, rfl⟩
                      replace H : (if 0 ≤ (ji32) then (if (rd t447 (ji32)) ≤ (Int.tmod (wrap64 ((wrap64 (t453 * 256)) + t454)) (t431.length : Int)) then (laws_FnCutFile.l0 k2 t426 (wrap64 (1 + (Int.tmod t430 9))) t431 t447 (Int.tmod (wrap64 ((wrap64 (t453 * 256)) + t454)) (t431.length : Int)) ji32) else (laws_FnCutFile.j2 k2 t426 (wrap64 (1 + (Int.tmod t430 9))) t431 t447 (Int.tmod (wrap64 ((wrap64 (t453 * 256)) + t454)) (t431.length : Int)) x16_2)) else (none)) = some r := by first | (rw [hji32] at H; exact H) | (simp only [hji32] at H ⊢; exact H)
                      (try rw [hji32] at c31b0)
                      have hji32w : (IntKind.i64.wrap (x16_2 + 1)) = ji32 := (i64_w _).trans hji32
                      by_cases c33 : 0 ≤ (ji32)
                      · rw [if_pos c33] at H
                        have c33b0 : decide (0 ≤ (ji32)) = true := decide_eq_true c33
                        clear c33
                        by_cases c34 : (rd t447 (ji32)) ≤ (Int.tmod (wrap64 ((wrap64 (t453 * 256)) + t454)) (t431.length : Int))
                        · rw [if_pos c34] at H
                          have c34b0 : decide ((rd t447 (ji32)) ≤ (Int.tmod (wrap64 ((wrap64 (t453 * 256)) + t454)) (t431.length : Int))) = true := decide_eq_true c34
                          clear c34
                          have H' := Aside0.mk H
                          clear H
                          obtain ⟨Ao35, co35, eo35⟩ := Kd.R_slice HO_13.out
                          subst eo35
                          have p455 : 0 ≤ ((ji32) : Int) := of_decide_eq_true (by first | (with_reducible assumption) | assumption)
                          have q455 : (ji32) < (t447.length : Int) := of_decide_eq_true (by first | (with_reducible assumption) | assumption)
                          obtain ⟨ad455, e455, hx455_0⟩ := Kd.at_int (Kd.R_reads' HO_13.out).2.2 (ji32) p455 q455
                          cases e455
                          replace p455 := eq_true p455
                          replace q455 := eq_true q455
                          go_wp2
                          go_roundg k2
                          case measure => have := HJ8.out; have := HK2.out; omega
                          case rel => exact ⟨(ji32), (by first | rfl | (simp; done) | (simp only [← hji32] <;> (first | rfl | simp)) | (simp [*]; done)), H', ⟨by have := HJ8.out; have := HK2.out; omega⟩, ⟨by (with_reducible repeat (first | apply Kd.R_alloc | apply Kd.R_drewN | apply Kd.R_drew)); first | exact HO_3.out | (subst_vars; exact HO_3.out)⟩, ⟨by (with_reducible repeat (first | apply Kd.R_alloc | apply Kd.R_drewN | apply Kd.R_drew)); first | exact HO_6.out | (subst_vars; exact HO_6.out)⟩, ⟨by (with_reducible repeat (first | apply Kd.R_alloc | apply Kd.R_drewN | apply Kd.R_drew)); first | exact HO_13.out | (subst_vars; exact HO_13.out)⟩, ⟨by repeat (first | (with_reducible first | exact HB.out | apply below_alloc | apply pw_below_drewN | apply below_drew1) | exact HB.out)⟩⟩
                        · rw [if_neg c34] at H
                          have c34b0 : decide ((rd t447 (ji32)) ≤ (Int.tmod (wrap64 ((wrap64 (t453 * 256)) + t454)) (t431.length : Int))) = false := decide_eq_false c34
                          clear c34
                          have H' := Aside0.mk H
                          clear H
                          obtain ⟨Ao36, co36, eo36⟩ := Kd.R_slice HO_13.out
                          subst eo36
                          have p455 : 0 ≤ ((ji32) : Int) := of_decide_eq_true (by first | (with_reducible assumption) | assumption)
                          have q455 : (ji32) < (t447.length : Int) := of_decide_eq_true (by first | (with_reducible assumption) | assumption)
                          obtain ⟨ad455, e455, hx455_0⟩ := Kd.at_int (Kd.R_reads' HO_13.out).2.2 (ji32) p455 q455
                          cases e455
                          replace p455 := eq_true p455
                          replace q455 := eq_true q455
                          go_wp2
                          go_meet
                          case rel => exact ⟨_, (x16_2), (by first | rfl | (simp; done) | (simp [*]; done)), H', ⟨by have := HJ8.out; have := HK2.out; first | omega | exact Nat.le_refl _⟩, ⟨by (with_reducible repeat (first | apply Kd.R_alloc | apply Kd.R_drewN | apply Kd.R_drew)); first | exact HO_3.out | (subst_vars; exact HO_3.out)⟩, ⟨by (with_reducible repeat (first | apply Kd.R_alloc | apply Kd.R_drewN | apply Kd.R_drew)); first | exact HO_6.out | (subst_vars; exact HO_6.out)⟩, ⟨by (with_reducible repeat (first | apply Kd.R_alloc | apply Kd.R_drewN | apply Kd.R_drew)); first | exact HO_13.out | (subst_vars; exact HO_13.out)⟩, ⟨by repeat (first | (with_reducible first | exact HB.out | apply below_alloc | apply pw_below_drewN | apply below_drew1) | exact HB.out)⟩⟩
                      · rw [if_neg c33] at H
                        exact absurd H (by simp)
                    · rw [if_neg c31] at H
                      have c31b0 : decide ((wrap64 (x16_2 + 1)) < (t447.length : Int)) = false := decide_eq_false c31
                      clear c31
                      (first | rw [c31b0] | (simp only [i64_w, i32_w]; rw [c31b0]) | skip)
                      have H' := Aside0.mk H
                      clear H
                      obtain ⟨Ao37, co37, eo37⟩ := Kd.R_slice HO_13.out
                      subst eo37
                      go_wp2
                      go_meet
                      case rel => exact ⟨_, (x16_2), (by first | rfl | (simp; done) | (simp [*]; done)), H', ⟨by have := HJ8.out; have := HK2.out; first | omega | exact Nat.le_refl _⟩, ⟨by (with_reducible repeat (first | apply Kd.R_alloc | apply Kd.R_drewN | apply Kd.R_drew)); first | exact HO_3.out | (subst_vars; exact HO_3.out)⟩, ⟨by (with_reducible repeat (first | apply Kd.R_alloc | apply Kd.R_drewN | apply Kd.R_drew)); first | exact HO_6.out | (subst_vars; exact HO_6.out)⟩, ⟨by (with_reducible repeat (first | apply Kd.R_alloc | apply Kd.R_drewN | apply Kd.R_drew)); first | exact HO_13.out | (subst_vars; exact HO_13.out)⟩, ⟨by repeat (first | (with_reducible first | exact HB.out | apply below_alloc | apply pw_below_drewN | apply below_drew1) | exact HB.out)⟩⟩
              case rest =>
                clear HC28
                try clear c1
                try clear c2
                try clear p2
                try clear c3
                try clear c4
                try clear p4
                try clear q4
                try clear hx4
                try clear p6
                try clear c8
                try clear c8b0
                try clear c8b1
                try clear c8b2
                try clear c11
                try clear c14
                try clear c15
                try clear c15b0
                try clear c15b1
                try clear c15b2
                try clear c16
                try clear c18
                try clear c27
                try clear c27b0
                try clear c27b1
                try clear c27b2
                try clear c31
                try clear c31b0
                try clear c32
                try clear c33
                try clear c33b0
                try clear c34
                try clear c34b0
                try clear hx455_0
                try clear p2
                try clear p455
                try clear p6
                try clear q455
                obtain ⟨kq, x16_27, rfl, HA, HJ27, HO_3, HO_6, HO_13, HB⟩ := hcut
                cases kq with
                | zero => exact absurd HA.out (by simp [laws_FnCutFile.j2])
                | succ kj27 =>
                  have H := HA.out
                  clear HA
                  simp only [laws_FnCutFile.j2] at H
                  obtain ⟨ji38, hji38⟩ : ∃ j_ : Int, (Int.tmod (wrap64 ((wrap64 (t453 * 256)) + t454)) (t431.length : Int)) = j_ := ⟨_, rfl⟩
                  replace H : (if 0 ≤ (ji38) then (if (ji38) ≤ (t431.length : Int) then ((impl_OpenAll.f kj27 (t431.take ((ji38) : Int).toNat)).bind fun bt460 => (if (wrap64 (x16_27 * (wrap64 (1 + (Int.tmod t430 9))))) > (t426.length : Int) then (some false) else (if (bt460.2.1.length : Int) = x16_27 then (if bt460.2.2 = 0 then (if 0 ≤ x16_27 then (if x16_27 < (t447.length : Int) then (if (rd t447 x16_27) = (ji38) then (if 0 ≤ (wrap64 (x16_27 * (wrap64 (1 + (Int.tmod t430 9))))) then (if (wrap64 (x16_27 * (wrap64 (1 + (Int.tmod t430 9))))) ≤ (t426.length : Int) then ((laws_sameInts.f kj27 bt460.1 (t426.take ((wrap64 (x16_27 * (wrap64 (1 + (Int.tmod t430 9))))) : Int).toNat)).bind fun t472 => (some t472)) else (none)) else (none)) else (some false)) else (none)) else (none)) else (if 0 ≤ (wrap64 (x16_27 * (wrap64 (1 + (Int.tmod t430 9))))) then (if (wrap64 (x16_27 * (wrap64 (1 + (Int.tmod t430 9))))) ≤ (t426.length : Int) then ((laws_sameInts.f kj27 bt460.1 (t426.take ((wrap64 (x16_27 * (wrap64 (1 + (Int.tmod t430 9))))) : Int).toNat)).bind fun t477 => (some t477)) else (none)) else (none))) else (some false)))) else (none)) else (none)) = some r := by first | (rw [hji38] at H; exact H) | (simp only [hji38] at H ⊢; exact H)
                  by_cases c39 : 0 ≤ (ji38)
                  · rw [if_pos c39] at H
                    have c39b0 := eq_true c39
                    have c39b1 : decide (0 ≤ (ji38)) = true := decide_eq_true c39
                    clear c39
                    by_cases c40 : (ji38) ≤ (t431.length : Int)
                    · rw [if_pos c40] at H
                      have c40b0 := eq_true c40
                      have c40b1 : decide ((ji38) ≤ (t431.length : Int)) = true := decide_eq_true c40
                      clear c40
                      obtain ⟨y456, hy456⟩ : ∃ y_ : List Int, y_ = (t431.take ((ji38) : Int).toNat) := ⟨_, rfl⟩
                      replace H : ((impl_OpenAll.f kj27 y456).bind fun bt460 => (if (wrap64 (x16_27 * (wrap64 (1 + (Int.tmod t430 9))))) > (t426.length : Int) then (some false) else (if (bt460.2.1.length : Int) = x16_27 then (if bt460.2.2 = 0 then (if 0 ≤ x16_27 then (if x16_27 < (t447.length : Int) then (if (rd t447 x16_27) = (ji38) then (if 0 ≤ (wrap64 (x16_27 * (wrap64 (1 + (Int.tmod t430 9))))) then (if (wrap64 (x16_27 * (wrap64 (1 + (Int.tmod t430 9))))) ≤ (t426.length : Int) then ((laws_sameInts.f kj27 bt460.1 (t426.take ((wrap64 (x16_27 * (wrap64 (1 + (Int.tmod t430 9))))) : Int).toNat)).bind fun t472 => (some t472)) else (none)) else (none)) else (some false)) else (none)) else (none)) else (if 0 ≤ (wrap64 (x16_27 * (wrap64 (1 + (Int.tmod t430 9))))) then (if (wrap64 (x16_27 * (wrap64 (1 + (Int.tmod t430 9))))) ≤ (t426.length : Int) then ((laws_sameInts.f kj27 bt460.1 (t426.take ((wrap64 (x16_27 * (wrap64 (1 + (Int.tmod t430 9))))) : Int).toNat)).bind fun t477 => (some t477)) else (none)) else (none))) else (some false)))) = some r := by first | (rw [hy456]; with_reducible exact H) | (have H2_ := (Option.bind_some _ _).symm.trans H; rw [hy456]; with_reducible exact H2_) | (have H2_ := (Option.bind_some _ _).symm.trans H; with_reducible exact H2_) | with_reducible exact H | (rw [hy456]; exact H) | exact H
                      have Ny456 := Aside0.mk hy456
                      clear hy456
                      replace H := Option.bind_eq_some_iff.mp H
                      obtain ⟨⟨t460, t461, t462⟩, A410, H⟩ := H
                      replace H : (if (wrap64 (x16_27 * (wrap64 (1 + (Int.tmod t430 9))))) > (t426.length : Int) then (some false) else (if (t461.length : Int) = x16_27 then (if t462 = 0 then (if 0 ≤ x16_27 then (if x16_27 < (t447.length : Int) then (if (rd t447 x16_27) = (ji38) then (if 0 ≤ (wrap64 (x16_27 * (wrap64 (1 + (Int.tmod t430 9))))) then (if (wrap64 (x16_27 * (wrap64 (1 + (Int.tmod t430 9))))) ≤ (t426.length : Int) then ((laws_sameInts.f kj27 t460 (t426.take ((wrap64 (x16_27 * (wrap64 (1 + (Int.tmod t430 9))))) : Int).toNat)).bind fun t472 => (some t472)) else (none)) else (none)) else (some false)) else (none)) else (none)) else (if 0 ≤ (wrap64 (x16_27 * (wrap64 (1 + (Int.tmod t430 9))))) then (if (wrap64 (x16_27 * (wrap64 (1 + (Int.tmod t430 9))))) ≤ (t426.length : Int) then ((laws_sameInts.f kj27 t460 (t426.take ((wrap64 (x16_27 * (wrap64 (1 + (Int.tmod t430 9))))) : Int).toNat)).bind fun t477 => (some t477)) else (none)) else (none))) else (some false))) = some r := H
                      have A41 := Aside0.mk A410
                      clear A410
                      by_cases c42 : (wrap64 (x16_27 * (wrap64 (1 + (Int.tmod t430 9))))) > (t426.length : Int)
                      · rw [if_pos c42] at H
                        have c42b0 : decide ((t426.length : Int) < (wrap64 (x16_27 * (wrap64 (1 + (Int.tmod t430 9)))))) = true := decide_eq_true c42
                        clear c42
                        exact absurd (Option.some.inj H) (by rw [hr_]; decide)
                      · rw [if_neg c42] at H
                        have c42b0 : decide ((t426.length : Int) < (wrap64 (x16_27 * (wrap64 (1 + (Int.tmod t430 9)))))) = false := decide_eq_false c42
                        clear c42
                        by_cases c43 : (t461.length : Int) = x16_27
                        · rw [if_pos c43] at H
                          have c43b0 : ((t461.length : Int) == x16_27) = true := beq_iff_eq.mpr c43
                          have c43b1 : ((t461.length : Int) != x16_27) = false := bne_eq_false_iff_eq.mpr c43
                          clear c43
                          by_cases c44 : t462 = 0
                          · rw [if_pos c44] at H
                            have c44b0 : (t462 == 0) = true := beq_iff_eq.mpr c44
                            have c44b1 : (t462 != 0) = false := bne_eq_false_iff_eq.mpr c44
                            clear c44
                            by_cases c45 : 0 ≤ x16_27
                            · rw [if_pos c45] at H
                              have c45b0 : decide (0 ≤ x16_27) = true := decide_eq_true c45
                              clear c45
                              by_cases c46 : x16_27 < (t447.length : Int)
                              · rw [if_pos c46] at H
                                have c46b0 : decide (x16_27 < (t447.length : Int)) = true := decide_eq_true c46
                                clear c46
                                by_cases c47 : (rd t447 x16_27) = (ji38)
                                · rw [if_pos c47] at H
                                  have c47b0 : ((rd t447 x16_27) == (ji38)) = true := beq_iff_eq.mpr c47
                                  have c47b1 : ((rd t447 x16_27) != (ji38)) = false := bne_eq_false_iff_eq.mpr c47
                                  clear c47
                                  obtain ⟨ji48, hji48⟩ : ∃ j_ : Int, (wrap64 (x16_27 * (wrap64 (1 + (Int.tmod t430 9))))) = j_ := ⟨_, rfl⟩
                                  replace H : (if 0 ≤ (ji48) then (if (ji48) ≤ (t426.length : Int) then ((laws_sameInts.f kj27 t460 (t426.take ((ji48) : Int).toNat)).bind fun t472 => (some t472)) else (none)) else (none)) = some r := by first | (rw [hji48] at H; exact H) | (simp only [hji48] at H ⊢; exact H)
                                  (try rw [hji48] at c42b0)
                                  (try rw [hji48] at A41)
                                  have hji48w : (IntKind.i64.wrap (x16_27 * (wrap64 (1 + (Int.tmod t430 9))))) = ji48 := (i64_w _).trans hji48
                                  by_cases c49 : 0 ≤ (ji48)
                                  · rw [if_pos c49] at H
                                    have c49b0 := eq_true c49
                                    have c49b1 : decide (0 ≤ (ji48)) = true := decide_eq_true c49
                                    clear c49
                                    by_cases c50 : (ji48) ≤ (t426.length : Int)
                                    · rw [if_pos c50] at H
                                      have c50b0 := eq_true c50
                                      have c50b1 : decide ((ji48) ≤ (t426.length : Int)) = true := decide_eq_true c50
                                      clear c50
                                      obtain ⟨y468, hy468⟩ : ∃ y_ : List Int, y_ = (t426.take ((ji48) : Int).toNat) := ⟨_, rfl⟩
                                      replace H : ((laws_sameInts.f kj27 t460 y468).bind fun t472 => (some t472)) = some r := by first | (rw [hy468]; with_reducible exact H) | (have H2_ := (Option.bind_some _ _).symm.trans H; rw [hy468]; with_reducible exact H2_) | (have H2_ := (Option.bind_some _ _).symm.trans H; with_reducible exact H2_) | with_reducible exact H | (rw [hy468]; exact H) | exact H
                                      have Ny468 := Aside0.mk hy468
                                      clear hy468
                                      replace H := Option.bind_eq_some_iff.mp H
                                      obtain ⟨t472, A510, H⟩ := H
                                      replace H : (some t472) = some r := H
                                      have A51 := Aside0.mk A510
                                      clear A510
                                      obtain rfl := Option.some.inj H
                                      have q52 : ((ji38) : Int) ≤ ((t431.length : Int) : Int) := of_decide_eq_true (by first | (with_reducible assumption) | assumption)
                                      obtain ⟨i052, hi052, _, hsz52, _⟩ := info_parts info5
                                      have hroom52 : t431.length ≤ co29 := (Kd.R_reads' HO_6.out).2.1
                                      have hC52 : Kd.C (Kd.int .u8) _ Ao29 t431.length t431 := (Kd.R_reads' HO_6.out).2.2
                                      have hcut52 := cut_to (P := Try.prog) 22 5 .i64 Try.underlying22 hi052 Ao29 t431.length co29 (ji38) (of_decide_eq_true (by first | (with_reducible assumption) | assumption)) q52 hroom52
                                      have hr52 := Kd.C_take (m := ((ji38) : Int).toNat) hC52 (by omega)
                                      have hy52 : y456.length = ((ji38) : Int).toNat := (by rw [Ny456.out, List.length_take]; omega)
                                      rw [← Ny456.out] at hr52
                                      rw [← hy52] at hcut52
                                      have HR459 := Aside0.mk hr52
                                      have HC459 := Aside0.mk (show y456.length ≤ co29 from by omega)
                                      clear hr52 hC52 hroom52 hi052 hsz52
                                      have KY52 := Aside0.mk hy52
                                      clear hy52
                                      have KL52 := Aside0.mk (show ((ji38) : Int).toNat ≤ t431.length from by omega)
                                      replace q52 := eq_true q52
                                      go_wp2_with (first | ((with_reducible refine gate_callee (f := 46) rfl ?_); refine goesL_ (some 105) rfl rfl Try.func46 (by kernel_rfl) rfl #[.slice Ao29 y456.length co29] rfl (by (try simp only [List.map_toArray, List.map_cons, List.map_nil]); first | done | rfl | (simp only [List.length_drop, List.length_take]; rfl)) ?_; (with_reducible refine (impl_OpenAll.calls kj27 _ _ y456 t460 t461 t462 _ ?side1 ?side2 A41.out).mono ?_); (case side1 => repeat (first | exact (by repeat (first | (with_reducible exact HR459.out) | (with_reducible refine Kd.C_alloc ?_ _) | (with_reducible refine Kd.C_drewN ?_ _) | (with_reducible refine Kd.C_drew ?_) | exact HR459.out)) | (with_reducible refine Kd.C_alloc ?_ _) | (with_reducible refine Kd.C_drewN ?_ _) | (with_reducible refine Kd.C_drew ?_))); (case side2 => exact HC459.out); rintro e w53 ⟨v463, v465, rfl, ho0, ho1, hb⟩; refine ⟨_, rfl, ?_⟩; have n0_ := Aside0.mk (Kd.R_mono (Kd.R_told (Kd.R_told (Kd.R_old (by (with_reducible repeat (first | apply Kd.R_alloc | apply Kd.R_drewN | apply Kd.R_drew)); first | exact HO_3.out | (subst_vars; exact HO_3.out)) hb) (Kd.R_base ho0)) (Kd.R_base ho1)) (fun _ h_ => h_.1)); have n1_ := Aside0.mk (Kd.R_below (by (with_reducible repeat (first | apply Kd.R_alloc | apply Kd.R_drewN | apply Kd.R_drew)); first | exact HO_6.out | (subst_vars; exact HO_6.out)) hb); have n2_ := Aside0.mk (Kd.R_mono (Kd.R_told (Kd.R_told (Kd.R_old (by (with_reducible repeat (first | apply Kd.R_alloc | apply Kd.R_drewN | apply Kd.R_drew)); first | exact HO_13.out | (subst_vars; exact HO_13.out)) hb) (Kd.R_base ho0)) (Kd.R_base ho1)) (fun _ h_ => h_.1)); have n3_ := Aside0.mk (Kd.R_lower (Kd.R_new' (Kd.R_new' ho0 (Kd.R_lt (by (with_reducible repeat (first | apply Kd.R_alloc | apply Kd.R_drewN | apply Kd.R_drew)); first | exact HO_3.out | (subst_vars; exact HO_3.out)))) (Kd.R_lt (by (with_reducible repeat (first | apply Kd.R_alloc | apply Kd.R_drewN | apply Kd.R_drew)); first | exact HO_13.out | (subst_vars; exact HO_13.out)))) (below_size (by repeat (first | (with_reducible first | exact HB.out | apply below_alloc | apply pw_below_drewN | apply below_drew1) | exact HB.out)))); have n4_ := Aside0.mk (Kd.R_lower (Kd.R_new' (Kd.R_new' ho1 (Kd.R_lt (by (with_reducible repeat (first | apply Kd.R_alloc | apply Kd.R_drewN | apply Kd.R_drew)); first | exact HO_3.out | (subst_vars; exact HO_3.out)))) (Kd.R_lt (by (with_reducible repeat (first | apply Kd.R_alloc | apply Kd.R_drewN | apply Kd.R_drew)); first | exact HO_13.out | (subst_vars; exact HO_13.out)))) (below_size (by repeat (first | (with_reducible first | exact HB.out | apply below_alloc | apply pw_below_drewN | apply below_drew1) | exact HB.out)))); have n5_ := Aside0.mk (Kd.C_below (by repeat (first | (with_reducible exact HR459.out) | (with_reducible refine Kd.C_alloc ?_ _) | (with_reducible refine Kd.C_drewN ?_ _) | (with_reducible refine Kd.C_drew ?_) | exact HR459.out)) hb); have n6_ := Aside0.mk (below_step (by repeat (first | (with_reducible first | exact HB.out | apply below_alloc | apply pw_below_drewN | apply below_drew1) | exact HB.out)) hb); clear HO_3; clear HO_6; clear HO_13; clear HR459; clear HB; have HO_3 := n0_; have HO_6 := n1_; have HO_13 := n2_; have HO464 := n3_; have HO466 := n4_; have HR459 := n5_; have HB := n6_; clear n0_ n1_ n2_ n3_ n4_ n5_ n6_; (try clear hb); (try clear hb2); (try clear hk); (try clear hi); (try clear ho0); (try clear ho1); obtain ⟨Ao54, co54, eo54⟩ := Kd.R_slice HO466.out; subst eo54; obtain ⟨Ao55, co55, eo55⟩ := Kd.R_slice HO_13.out; subst eo55; have p467 : 0 ≤ (x16_27 : Int) := of_decide_eq_true (by first | (with_reducible assumption) | assumption); have q467 : x16_27 < (t447.length : Int) := of_decide_eq_true (by first | (with_reducible assumption) | assumption); obtain ⟨ad467, e467, hx467_0⟩ := Kd.at_int (Kd.R_reads' HO_13.out).2.2 x16_27 p467 q467; cases e467; replace p467 := eq_true p467; replace q467 := eq_true q467; have q56 : ((ji48) : Int) ≤ ((t426.length : Int) : Int) := of_decide_eq_true (by first | (with_reducible assumption) | assumption); obtain ⟨i056, hi056, _, hsz56, _⟩ := info_parts info3; have hroom56 : t426.length ≤ co11 := (Kd.R_reads' HO_3.out).2.1; have hC56 : Kd.C (Kd.int .i64) _ Ao11 t426.length t426 := (Kd.R_reads' HO_3.out).2.2; have hcut56 := cut_to (P := Try.prog) 24 3 .i64 Try.underlying24 hi056 Ao11 t426.length co11 (ji48) (of_decide_eq_true (by first | (with_reducible assumption) | assumption)) q56 hroom56; have hr56 := Kd.C_take (m := ((ji48) : Int).toNat) hC56 (by omega); have hy56 : y468.length = ((ji48) : Int).toNat := (by rw [Ny468.out, List.length_take]; omega); rw [← Ny468.out] at hr56; rw [← hy56] at hcut56; have HR471 := Aside0.mk hr56; have HC471 := Aside0.mk (show y468.length ≤ co11 from by omega); clear hr56 hC56 hroom56 hi056 hsz56; have KY56 := Aside0.mk hy56; clear hy56; have KL56 := Aside0.mk (show ((ji48) : Int).toNat ≤ t426.length from by omega); replace q56 := eq_true q56; obtain ⟨Ao57, co57, eo57⟩ := Kd.R_slice HO464.out; subst eo57) | ((with_reducible refine gate_callee (f := 21) rfl ?_); refine goesL_ (some 138) rfl rfl Try.func21 (by kernel_rfl) rfl #[.slice Ao57 t460.length co57, .slice Ao11 y468.length co11] rfl (by (try simp only [List.map_toArray, List.map_cons, List.map_nil]); first | done | rfl | (simp only [List.length_drop, List.length_take]; rfl)) ?_; (with_reducible refine (laws_sameInts.calls kj27 _ _ t460 _ _ y468 t472 _ ?side1 ?side2 ?side3 ?side4 A51.out).mono ?_); (case side1 => repeat (first | exact (Kd.R_reads' HO464.out).2.2 | (with_reducible refine Kd.C_alloc ?_ _) | (with_reducible refine Kd.C_drewN ?_ _) | (with_reducible refine Kd.C_drew ?_))); (case side2 => exact (Kd.R_reads' HO464.out).2.1); (case side3 => repeat (first | exact (by repeat (first | (with_reducible exact HR471.out) | (with_reducible refine Kd.C_alloc ?_ _) | (with_reducible refine Kd.C_drewN ?_ _) | (with_reducible refine Kd.C_drew ?_) | exact HR471.out)) | (with_reducible refine Kd.C_alloc ?_ _) | (with_reducible refine Kd.C_drewN ?_ _) | (with_reducible refine Kd.C_drew ?_))); (case side4 => exact HC471.out); rintro e w' ⟨rfl, ⟨nd, rfl⟩⟩; refine ⟨_, rfl, ?_⟩))
                                      go_ret
                                      exact ⟨by first | rfl | (simp [errW_none, errW_some] <;> rfl) | (simp only [← hji38, ← hji48]; first | rfl | (simp [errW_none, errW_some] <;> rfl)) | (simp [*, errW_none, errW_some] <;> rfl), by repeat (first | (with_reducible first | exact HB.out | apply below_alloc | apply pw_below_drewN | apply below_drew1) | exact HB.out)⟩
                                    · rw [if_neg c50] at H
                                      exact absurd H (by simp)
                                  · rw [if_neg c49] at H
                                    exact absurd H (by simp)
                                · rw [if_neg c47] at H
                                  have c47b0 : ((rd t447 x16_27) == (ji38)) = false := beq_eq_false_iff_ne.mpr c47
                                  have c47b1 : ((rd t447 x16_27) != (ji38)) = true := bne_iff_ne.mpr c47
                                  exact absurd (Option.some.inj H) (by rw [hr_]; decide)
                              · rw [if_neg c46] at H
                                exact absurd H (by simp)
                            · rw [if_neg c45] at H
                              exact absurd H (by simp)
                          · rw [if_neg c44] at H
                            have c44b0 : (t462 == 0) = false := beq_eq_false_iff_ne.mpr c44
                            have c44b1 : (t462 != 0) = true := bne_iff_ne.mpr c44
                            obtain ⟨ji58, hji58⟩ : ∃ j_ : Int, (wrap64 (x16_27 * (wrap64 (1 + (Int.tmod t430 9))))) = j_ := ⟨_, rfl⟩
                            replace H : (if 0 ≤ (ji58) then (if (ji58) ≤ (t426.length : Int) then ((laws_sameInts.f kj27 t460 (t426.take ((ji58) : Int).toNat)).bind fun t477 => (some t477)) else (none)) else (none)) = some r := by first | (rw [hji58] at H; exact H) | (simp only [hji58] at H ⊢; exact H)
                            (try rw [hji58] at c42b0)
                            (try rw [hji58] at A41)
                            have hji58w : (IntKind.i64.wrap (x16_27 * (wrap64 (1 + (Int.tmod t430 9))))) = ji58 := (i64_w _).trans hji58
                            by_cases c59 : 0 ≤ (ji58)
                            · rw [if_pos c59] at H
                              have c59b0 := eq_true c59
                              have c59b1 : decide (0 ≤ (ji58)) = true := decide_eq_true c59
                              clear c59
                              by_cases c60 : (ji58) ≤ (t426.length : Int)
                              · rw [if_pos c60] at H
                                have c60b0 := eq_true c60
                                have c60b1 : decide ((ji58) ≤ (t426.length : Int)) = true := decide_eq_true c60
                                clear c60
                                obtain ⟨y473, hy473⟩ : ∃ y_ : List Int, y_ = (t426.take ((ji58) : Int).toNat) := ⟨_, rfl⟩
                                replace H : ((laws_sameInts.f kj27 t460 y473).bind fun t477 => (some t477)) = some r := by first | (rw [hy473]; with_reducible exact H) | (have H2_ := (Option.bind_some _ _).symm.trans H; rw [hy473]; with_reducible exact H2_) | (have H2_ := (Option.bind_some _ _).symm.trans H; with_reducible exact H2_) | with_reducible exact H | (rw [hy473]; exact H) | exact H
                                have Ny473 := Aside0.mk hy473
                                clear hy473
                                replace H := Option.bind_eq_some_iff.mp H
                                obtain ⟨t477, A610, H⟩ := H
                                replace H : (some t477) = some r := H
                                have A61 := Aside0.mk A610
                                clear A610
                                obtain rfl := Option.some.inj H
                                have q62 : ((ji38) : Int) ≤ ((t431.length : Int) : Int) := of_decide_eq_true (by first | (with_reducible assumption) | assumption)
                                obtain ⟨i062, hi062, _, hsz62, _⟩ := info_parts info5
                                have hroom62 : t431.length ≤ co29 := (Kd.R_reads' HO_6.out).2.1
                                have hC62 : Kd.C (Kd.int .u8) _ Ao29 t431.length t431 := (Kd.R_reads' HO_6.out).2.2
                                have hcut62 := cut_to (P := Try.prog) 22 5 .i64 Try.underlying22 hi062 Ao29 t431.length co29 (ji38) (of_decide_eq_true (by first | (with_reducible assumption) | assumption)) q62 hroom62
                                have hr62 := Kd.C_take (m := ((ji38) : Int).toNat) hC62 (by omega)
                                have hy62 : y456.length = ((ji38) : Int).toNat := (by rw [Ny456.out, List.length_take]; omega)
                                rw [← Ny456.out] at hr62
                                rw [← hy62] at hcut62
                                have HR459 := Aside0.mk hr62
                                have HC459 := Aside0.mk (show y456.length ≤ co29 from by omega)
                                clear hr62 hC62 hroom62 hi062 hsz62
                                have KY62 := Aside0.mk hy62
                                clear hy62
                                have KL62 := Aside0.mk (show ((ji38) : Int).toNat ≤ t431.length from by omega)
                                replace q62 := eq_true q62
                                go_wp2_with (first | ((with_reducible refine gate_callee (f := 46) rfl ?_); refine goesL_ (some 105) rfl rfl Try.func46 (by kernel_rfl) rfl #[.slice Ao29 y456.length co29] rfl (by (try simp only [List.map_toArray, List.map_cons, List.map_nil]); first | done | rfl | (simp only [List.length_drop, List.length_take]; rfl)) ?_; (with_reducible refine (impl_OpenAll.calls kj27 _ _ y456 t460 t461 t462 _ ?side1 ?side2 A41.out).mono ?_); (case side1 => repeat (first | exact (by repeat (first | (with_reducible exact HR459.out) | (with_reducible refine Kd.C_alloc ?_ _) | (with_reducible refine Kd.C_drewN ?_ _) | (with_reducible refine Kd.C_drew ?_) | exact HR459.out)) | (with_reducible refine Kd.C_alloc ?_ _) | (with_reducible refine Kd.C_drewN ?_ _) | (with_reducible refine Kd.C_drew ?_))); (case side2 => exact HC459.out); rintro e w63 ⟨v463, v465, rfl, ho0, ho1, hb⟩; refine ⟨_, rfl, ?_⟩; have n0_ := Aside0.mk (Kd.R_mono (Kd.R_told (Kd.R_told (Kd.R_old (by (with_reducible repeat (first | apply Kd.R_alloc | apply Kd.R_drewN | apply Kd.R_drew)); first | exact HO_3.out | (subst_vars; exact HO_3.out)) hb) (Kd.R_base ho0)) (Kd.R_base ho1)) (fun _ h_ => h_.1)); have n1_ := Aside0.mk (Kd.R_below (by (with_reducible repeat (first | apply Kd.R_alloc | apply Kd.R_drewN | apply Kd.R_drew)); first | exact HO_6.out | (subst_vars; exact HO_6.out)) hb); have n2_ := Aside0.mk (Kd.R_mono (Kd.R_told (Kd.R_told (Kd.R_old (by (with_reducible repeat (first | apply Kd.R_alloc | apply Kd.R_drewN | apply Kd.R_drew)); first | exact HO_13.out | (subst_vars; exact HO_13.out)) hb) (Kd.R_base ho0)) (Kd.R_base ho1)) (fun _ h_ => h_.1)); have n3_ := Aside0.mk (Kd.R_lower (Kd.R_new' (Kd.R_new' ho0 (Kd.R_lt (by (with_reducible repeat (first | apply Kd.R_alloc | apply Kd.R_drewN | apply Kd.R_drew)); first | exact HO_3.out | (subst_vars; exact HO_3.out)))) (Kd.R_lt (by (with_reducible repeat (first | apply Kd.R_alloc | apply Kd.R_drewN | apply Kd.R_drew)); first | exact HO_13.out | (subst_vars; exact HO_13.out)))) (below_size (by repeat (first | (with_reducible first | exact HB.out | apply below_alloc | apply pw_below_drewN | apply below_drew1) | exact HB.out)))); have n4_ := Aside0.mk (Kd.R_lower (Kd.R_new' (Kd.R_new' ho1 (Kd.R_lt (by (with_reducible repeat (first | apply Kd.R_alloc | apply Kd.R_drewN | apply Kd.R_drew)); first | exact HO_3.out | (subst_vars; exact HO_3.out)))) (Kd.R_lt (by (with_reducible repeat (first | apply Kd.R_alloc | apply Kd.R_drewN | apply Kd.R_drew)); first | exact HO_13.out | (subst_vars; exact HO_13.out)))) (below_size (by repeat (first | (with_reducible first | exact HB.out | apply below_alloc | apply pw_below_drewN | apply below_drew1) | exact HB.out)))); have n5_ := Aside0.mk (Kd.C_below (by repeat (first | (with_reducible exact HR459.out) | (with_reducible refine Kd.C_alloc ?_ _) | (with_reducible refine Kd.C_drewN ?_ _) | (with_reducible refine Kd.C_drew ?_) | exact HR459.out)) hb); have n6_ := Aside0.mk (below_step (by repeat (first | (with_reducible first | exact HB.out | apply below_alloc | apply pw_below_drewN | apply below_drew1) | exact HB.out)) hb); clear HO_3; clear HO_6; clear HO_13; clear HR459; clear HB; have HO_3 := n0_; have HO_6 := n1_; have HO_13 := n2_; have HO464 := n3_; have HO466 := n4_; have HR459 := n5_; have HB := n6_; clear n0_ n1_ n2_ n3_ n4_ n5_ n6_; (try clear hb); (try clear hb2); (try clear hk); (try clear hi); (try clear ho0); (try clear ho1); obtain ⟨Ao64, co64, eo64⟩ := Kd.R_slice HO466.out; subst eo64; have q65 : ((ji58) : Int) ≤ ((t426.length : Int) : Int) := of_decide_eq_true (by first | (with_reducible assumption) | assumption); obtain ⟨i065, hi065, _, hsz65, _⟩ := info_parts info3; have hroom65 : t426.length ≤ co11 := (Kd.R_reads' HO_3.out).2.1; have hC65 : Kd.C (Kd.int .i64) _ Ao11 t426.length t426 := (Kd.R_reads' HO_3.out).2.2; have hcut65 := cut_to (P := Try.prog) 24 3 .i64 Try.underlying24 hi065 Ao11 t426.length co11 (ji58) (of_decide_eq_true (by first | (with_reducible assumption) | assumption)) q65 hroom65; have hr65 := Kd.C_take (m := ((ji58) : Int).toNat) hC65 (by omega); have hy65 : y473.length = ((ji58) : Int).toNat := (by rw [Ny473.out, List.length_take]; omega); rw [← Ny473.out] at hr65; rw [← hy65] at hcut65; have HR476 := Aside0.mk hr65; have HC476 := Aside0.mk (show y473.length ≤ co11 from by omega); clear hr65 hC65 hroom65 hi065 hsz65; have KY65 := Aside0.mk hy65; clear hy65; have KL65 := Aside0.mk (show ((ji58) : Int).toNat ≤ t426.length from by omega); replace q65 := eq_true q65; obtain ⟨Ao66, co66, eo66⟩ := Kd.R_slice HO464.out; subst eo66) | ((with_reducible refine gate_callee (f := 21) rfl ?_); refine goesL_ (some 138) rfl rfl Try.func21 (by kernel_rfl) rfl #[.slice Ao66 t460.length co66, .slice Ao11 y473.length co11] rfl (by (try simp only [List.map_toArray, List.map_cons, List.map_nil]); first | done | rfl | (simp only [List.length_drop, List.length_take]; rfl)) ?_; (with_reducible refine (laws_sameInts.calls kj27 _ _ t460 _ _ y473 t477 _ ?side1 ?side2 ?side3 ?side4 A61.out).mono ?_); (case side1 => repeat (first | exact (Kd.R_reads' HO464.out).2.2 | (with_reducible refine Kd.C_alloc ?_ _) | (with_reducible refine Kd.C_drewN ?_ _) | (with_reducible refine Kd.C_drew ?_))); (case side2 => exact (Kd.R_reads' HO464.out).2.1); (case side3 => repeat (first | exact (by repeat (first | (with_reducible exact HR476.out) | (with_reducible refine Kd.C_alloc ?_ _) | (with_reducible refine Kd.C_drewN ?_ _) | (with_reducible refine Kd.C_drew ?_) | exact HR476.out)) | (with_reducible refine Kd.C_alloc ?_ _) | (with_reducible refine Kd.C_drewN ?_ _) | (with_reducible refine Kd.C_drew ?_))); (case side4 => exact HC476.out); rintro e w' ⟨rfl, ⟨nd, rfl⟩⟩; refine ⟨_, rfl, ?_⟩))
                                go_ret
                                exact ⟨by first | rfl | (simp [errW_none, errW_some] <;> rfl) | (simp only [← hji38, ← hji58]; first | rfl | (simp [errW_none, errW_some] <;> rfl)) | (simp [*, errW_none, errW_some] <;> rfl), by repeat (first | (with_reducible first | exact HB.out | apply below_alloc | apply pw_below_drewN | apply below_drew1) | exact HB.out)⟩
                              · rw [if_neg c60] at H
                                exact absurd H (by simp)
                            · rw [if_neg c59] at H
                              exact absurd H (by simp)
                        · rw [if_neg c43] at H
                          have c43b0 : ((t461.length : Int) == x16_27) = false := beq_eq_false_iff_ne.mpr c43
                          have c43b1 : ((t461.length : Int) != x16_27) = true := bne_iff_ne.mpr c43
                          exact absurd (Option.some.inj H) (by rw [hr_]; decide)
                    · rw [if_neg c40] at H
                      exact absurd H (by simp)
                  · rw [if_neg c39] at H
                    exact absurd H (by simp)

/-- THE ONE PURE STATEMENT of laws_FnCutFile: yours. -/
def laws_FnCutFile.Pure : Prop := ∀ (l0 : List Int), l0.length ≤ maxLen → l0.length * 1 ≤ 140737488351232 → (∀ x ∈ l0, (Lit.int .u8 x).wf = true) → ∃ k, laws_FnCutFile.f k l0 = some true
theorem laws_FnCutFile.walk (P : laws_FnCutFile.Pure) (a0 : Option Addr) (len0 cap0 : Nat) (z0 : List Int) (w : World) (w0 : (a0 = none ∧ len0 = 0 ∧ cap0 = 0 ∧ z0 = []) ∨ ∃ x, a0 = some x ∧ len0 ≤ cap0 ∧ cap0 ≤ maxLen ∧ z0.length = cap0 ∧ (∀ i, i < z0.length → w.cell? (x.add i) = some (.int .u8 (z0.getD i 0))) ∧ ∀ n ∈ z0, (Lit.int .u8 n).wf = true) (y0 : len0 * 1 ≤ 140737488351232) :
    Calls Try.prog 11 #[.slice a0 len0 cap0] w fun e w' => e = .returned (.bool true) ∧ Below w.heap.size w w' := by
  obtain ⟨l0, rfl, hr0, hm0, hw0, hc0⟩ := ReadsInt.ofRowC w0
  obtain ⟨k, h⟩ := P l0 hm0 y0 hw0
  refine (laws_FnCutFile.calls k _ _ l0 true w (Kd.C_of_reads (d := (0 : Int)) (h1 := fun _ => rfl) hr0) hc0 rfl h).mono ?_
  rintro e w' ⟨rfl, hd⟩
  exact ⟨rfl, hd⟩

end Go.Proofs.Ytieadaglkibjbaa.PFnCutFile
