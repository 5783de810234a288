-- Written by a turned copy of the print (see the notes of this repo): plain functions and their walks. Lean checks it.
import Derived.Test.YtpphjbogijjnpaaPFnExactBasisx0
import Derived.Test.YtpphjbogijjnpaaPFnExactBasisx1
import Derived.Test.YtpphjbogijjnpaaPFnExactBasisx2
import Derived.Test.YtpphjbogijjnpaaPFnExactBasisx4
import Derived.Test.YtpphjbogijjnpaaPFnExactBasisx6
namespace Go.Proofs.Ytpphjbogijjnpaa.PFnExactBasis
open Go.RowKit Go.Proofs.YtpphjbogijjnpaaW.PrintWords Go.Proofs.YtpphjbogijjnpaaW.PrintLast Go.Proofs.YtpphjbogijjnpaaW.PrintMore
attribute [local go_sem] max2_int min2_int max_two min_two max_three min_three max_four min_four   -- for this text's walks alone
set_option linter.unusedVariables false
set_option linter.unusedSimpArgs false

/-! ### laws_heldIntSS: function 29 -/
def laws_heldIntSS.l0 : Nat → List (List Int) → Int → Int → Option (Int)
  | 0, _, _, _ => none
  | k + 1, x0, x1, x5 => if x5 < (x0.length : Int) then (if 0 ≤ x5 then ((laws_heldIntS.f k (rd_L1 x0 x5) x1).bind fun t141 => (if t141 < 0 then (some (-1)) else (laws_heldIntSS.l0 k x0 t141 (wrap64 (x5 + 1))))) else (none)) else (some x1)
def laws_heldIntSS.f (k : Nat) (l0 : List (List Int)) (a1 : Int) : Option (Int) := laws_heldIntSS.l0 k l0 a1 0
theorem laws_heldIntSS.mono_l : ∀ k, (∀ y0 y1 y2, LeO (laws_heldIntSS.l0 k y0 y1 y2) (laws_heldIntSS.l0 (k + 1) y0 y1 y2))
  | 0 => fun _ _ _ r h => by simp [laws_heldIntSS.l0] at h
  | k + 1 => by
    have ih0 := laws_heldIntSS.mono_l k
    · intro y0 y1 y2
      unfold laws_heldIntSS.l0
      repeat' first
      | (with_reducible exact ih0 _ _ _)
      | (with_reducible exact laws_heldIntS.mono _ _ _)
      | (with_reducible exact LeO.refl _)
      | (with_reducible exact LeO.none _)
      | (with_reducible refine LeO.ite ?_ ?_)
      | (with_reducible refine LeO.bind ?_ (fun _ => ?_))
      | exact ih0 _ _ _
      | exact laws_heldIntS.mono _ _ _
      | exact LeO.none _
      | refine LeO.ite ?_ ?_
      | refine LeO.bind ?_ (fun _ => ?_)
theorem laws_heldIntSS.mono : ∀ a0 a1 k, LeO (laws_heldIntSS.f k a0 a1) (laws_heldIntSS.f (k + 1) a0 a1) := by
  intro a0 a1 k
  have ih0 := laws_heldIntSS.mono_l k
  unfold laws_heldIntSS.f
  repeat' first
      | (with_reducible exact ih0 _ _ _)
      | (with_reducible exact laws_heldIntS.mono _ _ _)
      | (with_reducible exact LeO.refl _)
      | (with_reducible exact LeO.none _)
      | (with_reducible refine LeO.ite ?_ ?_)
      | (with_reducible refine LeO.bind ?_ (fun _ => ?_))
      | exact ih0 _ _ _
      | exact laws_heldIntS.mono _ _ _
      | exact LeO.none _
      | refine LeO.ite ?_ ?_
      | refine LeO.bind ?_ (fun _ => ?_)
set_option maxHeartbeats 8000000 in
set_option maxRecDepth 100000 in
theorem laws_heldIntSS.calls (k : Nat) (A0 : Option Addr) (c0 : Nat) (l0 : List (List Int)) (a1 : Int) (r : Int) (w : World) (hr0 : Kd.C (Kd.slice 3 (Kd.int .i64)) w A0 l0.length l0) (hc0 : l0.length ≤ c0) (h : laws_heldIntSS.f k l0 a1 = some r) :
    Calls Try.prog 29 #[.slice A0 l0.length c0, .int .i64 a1] w fun e w' => e = .returned (.int .i64 r) ∧ Drawn0 w w' := by
  have HR0 := Aside0.mk hr0
  have HC0 := Aside0.mk hc0
  clear hr0 hc0
  have H : (laws_heldIntSS.l0 k l0 a1 0) = some r := h
  clear h
  have H' := Aside0.mk H
  clear H
  go_enter Try.func29, Try.ntmps29
  go_wp2
  (try simp only [Act.put, List.setIfInBounds_toArray, List.set_cons_zero, List.set_cons_succ])
  go_loopg [1, 5] k (fun kq v1 v5 w' => ∃ (x1_1 : Int) (x5_1 : Int), v1 = .int .i64 x1_1 ∧ v5 = .int .i64 x5_1 ∧ Aside0 (laws_heldIntSS.l0 kq l0 x1_1 x5_1 = some r) ∧ Aside0 (kq ≤ k) ∧ Drawn0 w w')
  case atStart => exact ⟨(a1), (0), (by first | rfl | (simp; done) | (simp [*]; done)), (by first | rfl | (simp; done) | (simp [*]; done)), H', ⟨Nat.le_refl _⟩, by repeat (first | exact Drawn0.refl _ | apply Drawn0.step)⟩
  case round =>
    clear H'
    try clear c2
    try clear p2
    obtain ⟨x1_1, x5_1, rfl, rfl, HA, HK1, ⟨m1, rfl⟩⟩ := hrel
    cases gk with
    | zero => exact absurd HA.out (by simp [laws_heldIntSS.l0])
    | succ k1 =>
      have H := HA.out
      clear HA
      simp only [laws_heldIntSS.l0] at H
      by_cases c3 : x5_1 < (l0.length : Int)
      · rw [if_pos c3] at H
        have c3b0 : decide (x5_1 < (l0.length : Int)) = true := decide_eq_true c3
        clear c3
        by_cases c4 : 0 ≤ x5_1
        · rw [if_pos c4] at H
          have c4b0 : decide (0 ≤ x5_1) = true := decide_eq_true c4
          clear c4
          replace H := Option.bind_eq_some_iff.mp H
          obtain ⟨t141, A50, H⟩ := H
          replace H : (if t141 < 0 then (some (-1)) else (laws_heldIntSS.l0 k1 l0 t141 (wrap64 (x5_1 + 1)))) = some r := H
          have A5 := Aside0.mk A50
          clear A50
          by_cases c6 : t141 < 0
          · rw [if_pos c6] at H
            have c6b0 : decide (t141 < 0) = true := decide_eq_true c6
            clear c6
            obtain rfl := Option.some.inj H
            have p140 : 0 ≤ (x5_1 : Int) := of_decide_eq_true (by first | (with_reducible assumption) | assumption)
            have q140 : x5_1 < (l0.length : Int) := of_decide_eq_true (by first | (with_reducible assumption) | assumption)
            obtain ⟨ad140, A140_0, c140_0, e140, hx140_0, hl140_0, hi140_0⟩ := at_L1 HR0.out x5_1 p140 q140
            cases e140
            have HR140_0 := Aside0.mk hi140_0
            have HC140_0 := Aside0.mk hl140_0
            clear hi140_0 hl140_0
            replace p140 := eq_true p140
            replace q140 := eq_true q140
            go_wp2_with (first | ((with_reducible refine gate_callee (f := 18) rfl ?_); refine goesL_ (some 17) rfl rfl Try.func18 (by kernel_rfl) rfl #[.slice A140_0 (rd_L1 l0 x5_1).length c140_0, .int .i64 x1_1] rfl (by (try simp only [List.map_toArray, List.map_cons, List.map_nil]); first | done | rfl | (simp only [List.length_drop, List.length_take]; rfl)) ?_; (with_reducible refine (laws_heldIntS.calls k1 _ _ (rd_L1 l0 x5_1) x1_1 t141 _ ?side1 ?side2 A5.out).mono ?_); (case side1 => repeat (first | exact HR140_0.out | (with_reducible refine Kd.C_alloc ?_ _) | (with_reducible refine Kd.C_drewN ?_ _) | (with_reducible refine Kd.C_drew ?_))); (case side2 => exact HC140_0.out); rintro e w' ⟨rfl, ⟨nd, rfl⟩⟩; refine ⟨_, rfl, ?_⟩))
            go_ret
            exact ⟨by first | rfl | (simp; done) | (simp [*]; done), by repeat (first | exact Drawn0.refl _ | apply Drawn0.step)⟩
          · rw [if_neg c6] at H
            have c6b0 : decide (t141 < 0) = false := decide_eq_false c6
            clear c6
            have H' := Aside0.mk H
            clear H
            have p140 : 0 ≤ (x5_1 : Int) := of_decide_eq_true (by first | (with_reducible assumption) | assumption)
            have q140 : x5_1 < (l0.length : Int) := of_decide_eq_true (by first | (with_reducible assumption) | assumption)
            obtain ⟨ad140, A140_0, c140_0, e140, hx140_0, hl140_0, hi140_0⟩ := at_L1 HR0.out x5_1 p140 q140
            cases e140
            have HR140_0 := Aside0.mk hi140_0
            have HC140_0 := Aside0.mk hl140_0
            clear hi140_0 hl140_0
            replace p140 := eq_true p140
            replace q140 := eq_true q140
            go_wp2_with (first | ((with_reducible refine gate_callee (f := 18) rfl ?_); refine goesL_ (some 17) rfl rfl Try.func18 (by kernel_rfl) rfl #[.slice A140_0 (rd_L1 l0 x5_1).length c140_0, .int .i64 x1_1] rfl (by (try simp only [List.map_toArray, List.map_cons, List.map_nil]); first | done | rfl | (simp only [List.length_drop, List.length_take]; rfl)) ?_; (with_reducible refine (laws_heldIntS.calls k1 _ _ (rd_L1 l0 x5_1) x1_1 t141 _ ?side1 ?side2 A5.out).mono ?_); (case side1 => repeat (first | exact HR140_0.out | (with_reducible refine Kd.C_alloc ?_ _) | (with_reducible refine Kd.C_drewN ?_ _) | (with_reducible refine Kd.C_drew ?_))); (case side2 => exact HC140_0.out); rintro e w' ⟨rfl, ⟨nd, rfl⟩⟩; refine ⟨_, rfl, ?_⟩))
            go_roundg k1
            case measure => have := HK1.out; omega
            case rel => exact ⟨(t141), (wrap64 (x5_1 + 1)), (by first | rfl | (simp; done) | (simp [*]; done)), (by first | rfl | (simp; done) | (simp [*]; done)), H', ⟨by have := HK1.out; omega⟩, by repeat (first | exact Drawn0.refl _ | apply Drawn0.step)⟩
        · rw [if_neg c4] at H
          exact absurd H (by simp)
      · rw [if_neg c3] at H
        have c3b0 : decide (x5_1 < (l0.length : Int)) = false := decide_eq_false c3
        clear c3
        obtain rfl := Option.some.inj H
        go_wp2
        go_ret
        exact ⟨by first | rfl | (simp; done) | (simp [*]; done), by repeat (first | exact Drawn0.refl _ | apply Drawn0.step)⟩

/-! ### laws_FnExactBasis: function 7 -/
def laws_FnExactBasis.f (k : Nat) (l0 : List (List Int)) (a1 : Int) : Option Bool := (laws_szIntSS.f k l0 1048576).bind fun t => if t < 0 then some true else
  (laws_toIntSS.f k l0).bind fun a => (spec_Basis.f k a a1).bind fun w => (impl_Basis.f k a a1).bind fun g => (laws_markIntSS.f k a 1).bind fun kk => (laws_markIntSS.go2 k g.1 1).bind fun m => (laws_heldIntSS.f k m.2 1).bind fun q =>
  if laws_eqIntSS.f k g.1 w.1 = some true ∧ laws_eqIntSS.f k a a = some true ∧ g.2 = w.2 ∧ 0 ≤ kk ∧ q = m.1 ∧ 0 ≤ q ∧ g.1.length ≤ 9000000000000000000 then some true else none
theorem lbDrawn {w w' : World} (h : Drawn0 w w') : Below w.heap.size w w' := by
  obtain ⟨nd, hq⟩ := h
  rw [hq]; exact pw_below_drewN (Below.refl _ _) _
/-- A row of rows that is only read is handed in. -/
theorem lbHeld (k : Nat) {A : Option Addr} {n c : Nat} {ml : List (List Int)} {q : Int} {w : World} {base : Nat} {ok : Nat → Prop} (hs : Kd.S (Kd.slice 3 (Kd.int .i64)) 23 w base ok (.slice A n c) ml) (h : laws_heldIntSS.f k ml 1 = some q) :
    Calls Try.prog 29 #[.slice A n c, .int .i64 1] w fun e w' => e = .returned (.int .i64 q) ∧ Drawn0 w w' := by
  obtain ⟨A_, c_, e⟩ := Kd.S_slice hs
  cases e
  exact laws_heldIntSS.calls k _ _ ml 1 q w (Kd.S_reads' hs).2.2 (Kd.S_reads' hs).2.1 h
set_option maxHeartbeats 8000000 in
set_option maxRecDepth 100000 in
theorem laws_FnExactBasis.calls (k : Nat) (A0 : Option Addr) (c0 : Nat) (l0 : List (List Int)) (a1 : Int) (r : Bool) (w : World) (hr0 : Kd.C (Kd.slice 3 (Kd.int .i64)) w A0 l0.length l0) (hc0 : l0.length ≤ c0) (hr_ : r = true) (h : laws_FnExactBasis.f k l0 a1 = some r) :
    Calls Try.prog 7 #[.slice A0 l0.length c0, .int .i64 a1] w fun e w' => e = .returned (.bool r) ∧ Below w.heap.size w w' := by
  subst hr_
  have HR := Aside0.mk hr0
  clear hr0
  obtain ⟨t, ht, h2⟩ := Option.bind_eq_some_iff.mp h
  clear h
  have HT := Aside0.mk ht
  clear ht
  by_cases hneg : t < 0
  · have hd : decide (t < 0) = true := decide_eq_true hneg
    clear h2 hneg
    go_enter Try.func7, Try.ntmps7
    go_wp2_with (go_at_call 9; (with_reducible refine (laws_szIntSS.calls k A0 c0 l0 1048576 t _ HR.out hc0 HT.out).mono ?_); rintro e w1 ⟨rfl, hd1⟩; have HB1 := Aside0.mk (lbDrawn hd1); clear hd1)
    go_ret
    exact ⟨rfl, HB1.out⟩
  · rw [if_neg hneg] at h2
    have hd : decide (t < 0) = false := decide_eq_false hneg
    clear hneg
    obtain ⟨a, ha, h3⟩ := Option.bind_eq_some_iff.mp h2
    obtain ⟨⟨wl, wb⟩, hw, h4⟩ := Option.bind_eq_some_iff.mp h3
    obtain ⟨⟨gl, gb⟩, hg, h5⟩ := Option.bind_eq_some_iff.mp h4
    obtain ⟨kk, hk, h6⟩ := Option.bind_eq_some_iff.mp h5
    obtain ⟨⟨m, ml⟩, hm, h7⟩ := Option.bind_eq_some_iff.mp h6
    obtain ⟨q, hq, h8⟩ := Option.bind_eq_some_iff.mp h7
    simp only at hm hq h8
    have h9 : laws_eqIntSS.f k gl wl = some true ∧ laws_eqIntSS.f k a a = some true ∧ gb = wb ∧ 0 ≤ kk ∧ q = m ∧ 0 ≤ q ∧ gl.length ≤ 9000000000000000000 := by
      split at h8
      · assumption
      · cases h8
    obtain ⟨e1, e2, rfl, hk0, rfl, hq0, hgl⟩ := h9
    have HA := Aside0.mk ha
    have HW := Aside0.mk hw
    have HG := Aside0.mk hg
    have HK := Aside0.mk hk
    have HM := Aside0.mk hm
    have HQ := Aside0.mk hq
    have HE1 := Aside0.mk e1
    have HE2 := Aside0.mk e2
    have HGL := Aside0.mk hgl
    have d1 : decide (kk < 0) = false := decide_eq_false (by omega)
    have d2 : decide (q < 0) = false := decide_eq_false (by omega)
    clear h2 h3 h4 h5 h6 h7 h8 ha hw hg hk hm hq e1 e2 hk0 hq0 hgl
    cases gb with
    | false =>
      go_enter Try.func7, Try.ntmps7
      go_wp2_with (first
        | (go_at_call 9; (with_reducible refine (laws_szIntSS.calls k A0 c0 l0 1048576 t _ HR.out hc0 HT.out).mono ?_); rintro e w1 ⟨rfl, hd1⟩; have HB1 := Aside0.mk (lbDrawn hd1); clear hd1)
        | (go_at_call 11; (with_reducible refine (laws_toIntSS.calls k A0 c0 l0 a w1 (Kd.C_below HR.out HB1.out) hc0 HA.out).mono ?_); rintro e w2 ⟨v1, rfl, ho, hb⟩; have HS1 := Aside0.mk ho; have HB2 := Aside0.mk (below_step HB1.out hb); clear ho hb; obtain ⟨A1, c1, e1⟩ := Kd.S_slice HS1.out; subst e1)
        | (go_at_call 27; (with_reducible refine (spec_Basis.calls k A1 c1 a a1 wl false w2 (Kd.S_reads' HS1.out).2.2 (Kd.S_reads' HS1.out).2.1 HW.out).mono ?_); rintro e w3 ⟨v2, rfl, ho, hb⟩; have HSW := Aside0.mk ho; have HB3 := Aside0.mk (below_step HB2.out hb); have HBr := Aside0.mk (Below.refl w3.heap.size w3); clear ho hb HS1; obtain ⟨A2, c2, e2⟩ := Kd.S_slice HSW.out; subst e2)
        | (go_at_call 11; (with_reducible refine (laws_toIntSS.calls k A0 c0 l0 a w3 (Kd.C_below HR.out HB3.out) hc0 HA.out).mono ?_); rintro e w4 ⟨v3, rfl, ho, hb⟩; have HSX := Aside0.mk ho; have HB4 := Aside0.mk hb; clear ho; obtain ⟨A3, c3, e3⟩ := Kd.S_slice HSX.out; subst e3)
        | (go_at_call 28; (with_reducible refine (impl_Basis.calls k A3 c3 a a1 gl false w4 (Kd.S_reads' HSX.out).2.2 (Kd.S_reads' HSX.out).2.1 HG.out).mono ?_); rintro e w5 ⟨v4, rfl, ho, hb⟩; have HSG := Aside0.mk ho; have HB5 := Aside0.mk (below_step HB4.out hb); have HSX5 := Aside0.mk (Kd.S_mono (ok' := fun k_ => k_ < w4.heap.size) (Kd.S_below (Kd.S_bound HSX.out) hb) (fun k_ hk_ => hk_.2.2.1)); have HSW5 := Aside0.mk (Kd.S_below HSW.out HB5.out); clear ho hb HSX; obtain ⟨A4, c4, e4⟩ := Kd.S_slice HSG.out; subst e4)
        | (go_at_call 15; (with_reducible refine (laws_eqIntSS.calls k A4 c4 gl A2 c2 wl true w5 (Kd.S_reads' HSG.out).2.2 (Kd.S_reads' HSG.out).2.1 (Kd.S_reads' HSW5.out).2.2 (Kd.S_reads' HSW5.out).2.1 HE1.out).mono ?_); rintro e w6 ⟨rfl, hd1⟩; have HB6 := Aside0.mk (lbDrawn hd1); have HB36 := Aside0.mk (below_step HB5.out (lbDrawn hd1)); clear hd1)
        | (go_at_call 11; (with_reducible refine (laws_toIntSS.calls k A0 c0 l0 a w6 (Kd.C_below HR.out (below_weaken HB3.out HB3.out.size HB36.out)) hc0 HA.out).mono ?_); rintro e w7 ⟨v5, rfl, ho, hb⟩; have HST := Aside0.mk ho; have HSX7 := Aside0.mk (Kd.S_below HSX5.out (below_step HB6.out hb)); have HSG7 := Aside0.mk (Kd.S_below (Kd.S_bound HSG.out) (below_step HB6.out hb)); have HB37 := Aside0.mk (below_step HB36.out hb); clear ho hb HSG HSX5 HSW5; obtain ⟨A5, c5, e5⟩ := Kd.S_slice HST.out; subst e5)
        | (go_at_call 15; (with_reducible refine (laws_eqIntSS.calls k A3 c3 a A5 c5 a true w7 (Kd.S_reads' HSX7.out).2.2 (Kd.S_reads' HSX7.out).2.1 (Kd.S_reads' HST.out).2.2 (Kd.S_reads' HST.out).2.1 HE2.out).mono ?_); rintro e w8 ⟨rfl, hd1⟩; have HSX8 := Aside0.mk (Kd.S_below HSX7.out (lbDrawn hd1)); have HSG8 := Aside0.mk (Kd.S_below HSG7.out (lbDrawn hd1)); have HB38 := Aside0.mk (below_step HB37.out (lbDrawn hd1)); clear hd1 HST HSX7 HSG7)
        | (go_at_call 16; (with_reducible refine (laws_markIntSS.calls k (fun k_ => k_ < w4.heap.size) (.slice A3 a.length c3) a 1 kk w3 w8 HB38.out HSX8.out HK.out).mono ?_); rintro e w9 ⟨rfl, hb, hkp⟩; have HB39 := Aside0.mk hb; have HSG9 := Aside0.mk (Kd.S_kept HSG8.out hkp (fun k_ hk_ hlt_ => by have h1_ := hk_.2.1; omega)); have HSW9 := Aside0.mk (Kd.S_below HSW.out hb); clear hb hkp HSX8 HSG8)
        | (go_at_call 15; (with_reducible refine (laws_eqIntSS.calls k A4 c4 gl A2 c2 wl true w9 (Kd.S_reads' HSG9.out).2.2 (Kd.S_reads' HSG9.out).2.1 (Kd.S_reads' HSW9.out).2.2 (Kd.S_reads' HSW9.out).2.1 HE1.out).mono ?_); rintro e wa ⟨rfl, hd1⟩; have HSGa := Aside0.mk (Kd.S_lower (Kd.S_mono (ok' := fun k_ => w4.heap.size ≤ k_) (Kd.S_below HSG9.out (lbDrawn hd1)) (fun k_ hk_ => hk_.2.1)) HB4.out.size); have HB3a := Aside0.mk (below_step HB39.out (lbDrawn hd1)); clear hd1 HSG9 HSW9)
        | (go_at_call 16; (with_reducible refine (laws_markIntSS.kept k (fun k_ => w4.heap.size ≤ k_) (.slice A4 gl.length c4) gl 1 q ml HGL.out w3 wa HB3a.out HSGa.out HM.out).mono ?_); rintro e wb ⟨rfl, hb, hkp, ho⟩; have HB3b := Aside0.mk hb; have HSM := Aside0.mk ho; clear hb hkp ho HSGa)
        | (go_at_call 29; (with_reducible refine (lbHeld k HSM.out HQ.out).mono ?_); rintro e wc ⟨rfl, hd1⟩; have HSMc := Aside0.mk (Kd.S_below HSM.out (lbDrawn hd1)); have HB3c := Aside0.mk (below_step HB3b.out (lbDrawn hd1)); clear hd1 HSM)
        | (go_at_call 11; (with_reducible refine (laws_toIntSS.calls k A0 c0 l0 a wc (Kd.C_below HR.out (below_weaken HB3.out HB3.out.size HB3c.out)) hc0 HA.out).mono ?_); rintro e wd ⟨v6, rfl, ho, hb⟩; have HSZ := Aside0.mk ho; have HSMd := Aside0.mk (Kd.S_below HSMc.out hb); have HB3d := Aside0.mk (below_step HB3c.out hb); clear ho hb HSMc; obtain ⟨A6, c6, e6⟩ := Kd.S_slice HSZ.out; subst e6)
        | (go_at_call 28; (with_reducible refine (impl_Basis.calls k A6 c6 a a1 gl false wd (Kd.S_reads' HSZ.out).2.2 (Kd.S_reads' HSZ.out).2.1 HG.out).mono ?_); rintro e we ⟨v7, rfl, ho, hb⟩; have HSH := Aside0.mk ho; have HSMe := Aside0.mk (Kd.S_below HSMd.out hb); have HB3e := Aside0.mk (below_step HB3d.out hb); have HSWe := Aside0.mk (Kd.S_below HSW.out (below_step HB3d.out hb)); clear ho hb HSZ HSMd; obtain ⟨A7, c7, e7⟩ := Kd.S_slice HSH.out; subst e7)
        | (go_at_call 15; (with_reducible refine (laws_eqIntSS.calls k A7 c7 gl A2 c2 wl true we (Kd.S_reads' HSH.out).2.2 (Kd.S_reads' HSH.out).2.1 (Kd.S_reads' HSWe.out).2.2 (Kd.S_reads' HSWe.out).2.1 HE1.out).mono ?_); rintro e wf ⟨rfl, hd1⟩; have HSMf := Aside0.mk (Kd.S_below HSMe.out (lbDrawn hd1)); have HB3f := Aside0.mk (below_step HB3e.out (lbDrawn hd1)); clear hd1 HSMe HSH HSWe)
        | (go_at_call 29; (with_reducible refine (lbHeld k HSMf.out HQ.out).mono ?_); rintro e wg ⟨rfl, hd1⟩; have HB3g := Aside0.mk (below_step HB3f.out (lbDrawn hd1)); clear hd1))
      go_ret
      exact ⟨rfl, below_weaken HB3.out HB3.out.size HB3g.out⟩
    | true =>
      go_enter Try.func7, Try.ntmps7
      go_wp2_with (first
        | (go_at_call 9; (with_reducible refine (laws_szIntSS.calls k A0 c0 l0 1048576 t _ HR.out hc0 HT.out).mono ?_); rintro e w1 ⟨rfl, hd1⟩; have HB1 := Aside0.mk (lbDrawn hd1); clear hd1)
        | (go_at_call 11; (with_reducible refine (laws_toIntSS.calls k A0 c0 l0 a w1 (Kd.C_below HR.out HB1.out) hc0 HA.out).mono ?_); rintro e w2 ⟨v1, rfl, ho, hb⟩; have HS1 := Aside0.mk ho; have HB2 := Aside0.mk (below_step HB1.out hb); clear ho hb; obtain ⟨A1, c1, e1⟩ := Kd.S_slice HS1.out; subst e1)
        | (go_at_call 27; (with_reducible refine (spec_Basis.calls k A1 c1 a a1 wl true w2 (Kd.S_reads' HS1.out).2.2 (Kd.S_reads' HS1.out).2.1 HW.out).mono ?_); rintro e w3 ⟨v2, rfl, ho, hb⟩; have HSW := Aside0.mk ho; have HB3 := Aside0.mk (below_step HB2.out hb); have HBr := Aside0.mk (Below.refl w3.heap.size w3); clear ho hb HS1; obtain ⟨A2, c2, e2⟩ := Kd.S_slice HSW.out; subst e2)
        | (go_at_call 11; (with_reducible refine (laws_toIntSS.calls k A0 c0 l0 a w3 (Kd.C_below HR.out HB3.out) hc0 HA.out).mono ?_); rintro e w4 ⟨v3, rfl, ho, hb⟩; have HSX := Aside0.mk ho; have HB4 := Aside0.mk hb; clear ho; obtain ⟨A3, c3, e3⟩ := Kd.S_slice HSX.out; subst e3)
        | (go_at_call 28; (with_reducible refine (impl_Basis.calls k A3 c3 a a1 gl true w4 (Kd.S_reads' HSX.out).2.2 (Kd.S_reads' HSX.out).2.1 HG.out).mono ?_); rintro e w5 ⟨v4, rfl, ho, hb⟩; have HSG := Aside0.mk ho; have HB5 := Aside0.mk (below_step HB4.out hb); have HSX5 := Aside0.mk (Kd.S_mono (ok' := fun k_ => k_ < w4.heap.size) (Kd.S_below (Kd.S_bound HSX.out) hb) (fun k_ hk_ => hk_.2.2.1)); have HSW5 := Aside0.mk (Kd.S_below HSW.out HB5.out); clear ho hb HSX; obtain ⟨A4, c4, e4⟩ := Kd.S_slice HSG.out; subst e4)
        | (go_at_call 15; (with_reducible refine (laws_eqIntSS.calls k A4 c4 gl A2 c2 wl true w5 (Kd.S_reads' HSG.out).2.2 (Kd.S_reads' HSG.out).2.1 (Kd.S_reads' HSW5.out).2.2 (Kd.S_reads' HSW5.out).2.1 HE1.out).mono ?_); rintro e w6 ⟨rfl, hd1⟩; have HB6 := Aside0.mk (lbDrawn hd1); have HB36 := Aside0.mk (below_step HB5.out (lbDrawn hd1)); clear hd1)
        | (go_at_call 11; (with_reducible refine (laws_toIntSS.calls k A0 c0 l0 a w6 (Kd.C_below HR.out (below_weaken HB3.out HB3.out.size HB36.out)) hc0 HA.out).mono ?_); rintro e w7 ⟨v5, rfl, ho, hb⟩; have HST := Aside0.mk ho; have HSX7 := Aside0.mk (Kd.S_below HSX5.out (below_step HB6.out hb)); have HSG7 := Aside0.mk (Kd.S_below (Kd.S_bound HSG.out) (below_step HB6.out hb)); have HB37 := Aside0.mk (below_step HB36.out hb); clear ho hb HSG HSX5 HSW5; obtain ⟨A5, c5, e5⟩ := Kd.S_slice HST.out; subst e5)
        | (go_at_call 15; (with_reducible refine (laws_eqIntSS.calls k A3 c3 a A5 c5 a true w7 (Kd.S_reads' HSX7.out).2.2 (Kd.S_reads' HSX7.out).2.1 (Kd.S_reads' HST.out).2.2 (Kd.S_reads' HST.out).2.1 HE2.out).mono ?_); rintro e w8 ⟨rfl, hd1⟩; have HSX8 := Aside0.mk (Kd.S_below HSX7.out (lbDrawn hd1)); have HSG8 := Aside0.mk (Kd.S_below HSG7.out (lbDrawn hd1)); have HB38 := Aside0.mk (below_step HB37.out (lbDrawn hd1)); clear hd1 HST HSX7 HSG7)
        | (go_at_call 16; (with_reducible refine (laws_markIntSS.calls k (fun k_ => k_ < w4.heap.size) (.slice A3 a.length c3) a 1 kk w3 w8 HB38.out HSX8.out HK.out).mono ?_); rintro e w9 ⟨rfl, hb, hkp⟩; have HB39 := Aside0.mk hb; have HSG9 := Aside0.mk (Kd.S_kept HSG8.out hkp (fun k_ hk_ hlt_ => by have h1_ := hk_.2.1; omega)); have HSW9 := Aside0.mk (Kd.S_below HSW.out hb); clear hb hkp HSX8 HSG8)
        | (go_at_call 15; (with_reducible refine (laws_eqIntSS.calls k A4 c4 gl A2 c2 wl true w9 (Kd.S_reads' HSG9.out).2.2 (Kd.S_reads' HSG9.out).2.1 (Kd.S_reads' HSW9.out).2.2 (Kd.S_reads' HSW9.out).2.1 HE1.out).mono ?_); rintro e wa ⟨rfl, hd1⟩; have HSGa := Aside0.mk (Kd.S_lower (Kd.S_mono (ok' := fun k_ => w4.heap.size ≤ k_) (Kd.S_below HSG9.out (lbDrawn hd1)) (fun k_ hk_ => hk_.2.1)) HB4.out.size); have HB3a := Aside0.mk (below_step HB39.out (lbDrawn hd1)); clear hd1 HSG9 HSW9)
        | (go_at_call 16; (with_reducible refine (laws_markIntSS.kept k (fun k_ => w4.heap.size ≤ k_) (.slice A4 gl.length c4) gl 1 q ml HGL.out w3 wa HB3a.out HSGa.out HM.out).mono ?_); rintro e wb ⟨rfl, hb, hkp, ho⟩; have HB3b := Aside0.mk hb; have HSM := Aside0.mk ho; clear hb hkp ho HSGa)
        | (go_at_call 29; (with_reducible refine (lbHeld k HSM.out HQ.out).mono ?_); rintro e wc ⟨rfl, hd1⟩; have HSMc := Aside0.mk (Kd.S_below HSM.out (lbDrawn hd1)); have HB3c := Aside0.mk (below_step HB3b.out (lbDrawn hd1)); clear hd1 HSM)
        | (go_at_call 11; (with_reducible refine (laws_toIntSS.calls k A0 c0 l0 a wc (Kd.C_below HR.out (below_weaken HB3.out HB3.out.size HB3c.out)) hc0 HA.out).mono ?_); rintro e wd ⟨v6, rfl, ho, hb⟩; have HSZ := Aside0.mk ho; have HSMd := Aside0.mk (Kd.S_below HSMc.out hb); have HB3d := Aside0.mk (below_step HB3c.out hb); clear ho hb HSMc; obtain ⟨A6, c6, e6⟩ := Kd.S_slice HSZ.out; subst e6)
        | (go_at_call 28; (with_reducible refine (impl_Basis.calls k A6 c6 a a1 gl true wd (Kd.S_reads' HSZ.out).2.2 (Kd.S_reads' HSZ.out).2.1 HG.out).mono ?_); rintro e we ⟨v7, rfl, ho, hb⟩; have HSH := Aside0.mk ho; have HSMe := Aside0.mk (Kd.S_below HSMd.out hb); have HB3e := Aside0.mk (below_step HB3d.out hb); have HSWe := Aside0.mk (Kd.S_below HSW.out (below_step HB3d.out hb)); clear ho hb HSZ HSMd; obtain ⟨A7, c7, e7⟩ := Kd.S_slice HSH.out; subst e7)
        | (go_at_call 15; (with_reducible refine (laws_eqIntSS.calls k A7 c7 gl A2 c2 wl true we (Kd.S_reads' HSH.out).2.2 (Kd.S_reads' HSH.out).2.1 (Kd.S_reads' HSWe.out).2.2 (Kd.S_reads' HSWe.out).2.1 HE1.out).mono ?_); rintro e wf ⟨rfl, hd1⟩; have HSMf := Aside0.mk (Kd.S_below HSMe.out (lbDrawn hd1)); have HB3f := Aside0.mk (below_step HB3e.out (lbDrawn hd1)); clear hd1 HSMe HSH HSWe)
        | (go_at_call 29; (with_reducible refine (lbHeld k HSMf.out HQ.out).mono ?_); rintro e wg ⟨rfl, hd1⟩; have HB3g := Aside0.mk (below_step HB3f.out (lbDrawn hd1)); clear hd1))
      go_ret
      exact ⟨rfl, below_weaken HB3.out HB3.out.size HB3g.out⟩


end Go.Proofs.Ytpphjbogijjnpaa.PFnExactBasis
