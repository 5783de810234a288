-- Written by a turned copy of the print (see the notes of this repo): plain functions and their walks. Lean checks it.
import Derived.Test.YtbhjgkbikmjaaaaPFnExactNodeNamex0
import Derived.Test.YtbhjgkbikmjaaaaPFnExactNodeNamex1
namespace Go.Proofs.Ytbhjgkbikmjaaaa.PFnExactNodeName
open Go.RowKit Go.Proofs.YtbhjgkbikmjaaaaW.PrintWords Go.Proofs.YtbhjgkbikmjaaaaW.PrintLast Go.Proofs.YtbhjgkbikmjaaaaW.PrintMore
attribute [local go_sem] max2_int min2_int max_two min_two max_three min_three max_four min_four   -- for this text's walks alone
set_option linter.unusedVariables false
set_option linter.unusedSimpArgs false

/-! ### spec_NodeName: function 24 -/
def spec_NodeName.l0 : Nat → ByteArray → Int → Int → Option (Bool)
  | 0, _, _, _ => none
  | k + 1, x0, x3, x4 => if x4 < (x0.size : Int) then ((spec_l20Rune.f x0 x4).bind fun bt118 => (if bt118.2 = 0 then (some false) else ((spec_l20Letter.f bt118.1).bind fun t120 => (if t120 = true then (spec_NodeName.l0 k x0 (wrap64 (x3 + 1)) (wrap64 (x4 + bt118.2))) else (if x3 = 0 then (some false) else (if bt118.1 = 95 then (spec_NodeName.l0 k x0 (wrap64 (x3 + 1)) (wrap64 (x4 + bt118.2))) else ((spec_l1In.f bt118.1 48 57).bind fun t121 => (if t121 = true then (spec_NodeName.l0 k x0 (wrap64 (x3 + 1)) (wrap64 (x4 + bt118.2))) else (some false))))))))) else ((spec_l1In.f x3 1 12).bind fun t117 => (some t117))
def spec_NodeName.f (k : Nat) (a0 : ByteArray) : Option (Bool) := spec_NodeName.l0 k a0 0 0
theorem spec_NodeName.mono_l : ∀ k, (∀ y0 y1 y2, LeO (spec_NodeName.l0 k y0 y1 y2) (spec_NodeName.l0 (k + 1) y0 y1 y2))
  | 0 => fun _ _ _ r h => by simp [spec_NodeName.l0] at h
  | k + 1 => by
    have ih0 := spec_NodeName.mono_l k
    · intro y0 y1 y2
      unfold spec_NodeName.l0
      repeat' first
      | (with_reducible exact ih0 _ _ _)
      | (with_reducible exact LeO.refl _)
      | (with_reducible exact LeO.none _)
      | (with_reducible refine LeO.ite ?_ ?_)
      | (with_reducible refine LeO.bind ?_ (fun _ => ?_))
      | exact ih0 _ _ _
      | exact LeO.none _
      | refine LeO.ite ?_ ?_
      | refine LeO.bind ?_ (fun _ => ?_)
theorem spec_NodeName.mono : ∀ a0 k, LeO (spec_NodeName.f k a0) (spec_NodeName.f (k + 1) a0) := by
  intro a0 k
  have ih0 := spec_NodeName.mono_l k
  unfold spec_NodeName.f
  repeat' first
      | (with_reducible exact ih0 _ _ _)
      | (with_reducible exact LeO.refl _)
      | (with_reducible exact LeO.none _)
      | (with_reducible refine LeO.ite ?_ ?_)
      | (with_reducible refine LeO.bind ?_ (fun _ => ?_))
      | exact ih0 _ _ _
      | exact LeO.none _
      | refine LeO.ite ?_ ?_
      | refine LeO.bind ?_ (fun _ => ?_)
set_option maxHeartbeats 8000000 in
set_option maxRecDepth 100000 in
theorem spec_NodeName.calls (k : Nat) (a0 : ByteArray) (r : Bool) (w : World) (h : spec_NodeName.f k a0 = some r) :
    Calls Try.prog 24 #[.string a0] w fun e w' => e = .returned (.bool r) ∧ Drawn0 w w' := by
  have H : (spec_NodeName.l0 k a0 0 0) = some r := h
  clear h
  have H' := Aside0.mk H
  clear H
  go_enter Try.func24, Try.ntmps24
  go_wp2
  go_loopg [3, 4] k (fun kq v3 v4 w' => ∃ (x3_1 : Int) (x4_1 : Int), v3 = .int .i64 x3_1 ∧ v4 = .int .i64 x4_1 ∧ Aside0 (spec_NodeName.l0 kq a0 x3_1 x4_1 = some r) ∧ Aside0 (kq ≤ k) ∧ Drawn0 w w')
  case atStart => exact ⟨(0), (0), (by first | rfl | (simp; done) | (simp [*]; done)), (by first | rfl | (simp; done) | (simp [*]; done)), H', ⟨Nat.le_refl _⟩, by repeat (first | exact Drawn0.refl _ | apply Drawn0.step)⟩
  case round =>
    clear H'
    obtain ⟨x3_1, x4_1, rfl, rfl, HA, HK1, ⟨m1, rfl⟩⟩ := hrel
    cases gk with
    | zero => exact absurd HA.out (by simp [spec_NodeName.l0])
    | succ k1 =>
      have H := HA.out
      clear HA
      simp only [spec_NodeName.l0] at H
      by_cases c2 : x4_1 < (a0.size : Int)
      · rw [if_pos c2] at H
        have c2b0 : decide (x4_1 < (a0.size : Int)) = true := decide_eq_true c2
        clear c2
        replace H := Option.bind_eq_some_iff.mp H
        obtain ⟨⟨t118, t119⟩, A30, H⟩ := H
        replace H : (if t119 = 0 then (some false) else ((spec_l20Letter.f t118).bind fun t120 => (if t120 = true then (spec_NodeName.l0 k1 a0 (wrap64 (x3_1 + 1)) (wrap64 (x4_1 + t119))) else (if x3_1 = 0 then (some false) else (if t118 = 95 then (spec_NodeName.l0 k1 a0 (wrap64 (x3_1 + 1)) (wrap64 (x4_1 + t119))) else ((spec_l1In.f t118 48 57).bind fun t121 => (if t121 = true then (spec_NodeName.l0 k1 a0 (wrap64 (x3_1 + 1)) (wrap64 (x4_1 + t119))) else (some false)))))))) = some r := H
        have A3 := Aside0.mk A30
        clear A30
        by_cases c4 : t119 = 0
        · rw [if_pos c4] at H
          have c4b0 : (t119 == 0) = true := beq_iff_eq.mpr c4
          have c4b1 : (t119 != 0) = false := bne_eq_false_iff_eq.mpr c4
          clear c4
          obtain rfl := Option.some.inj H
          go_wp2_with (first | ((with_reducible refine gate_callee (f := 48) rfl ?_); refine goesL_ (some 14) rfl rfl Try.func48 (by kernel_rfl) rfl #[.string a0, .int .i64 x4_1] rfl (by (try simp only [List.map_toArray, List.map_cons, List.map_nil]); first | done | rfl | (simp only [List.length_drop, List.length_take]; rfl)) ?_; (with_reducible refine (spec_l20Rune.calls a0 x4_1 t118 t119 _ A3.out).mono ?_); rintro e w' ⟨rfl, ⟨nd, rfl⟩⟩; refine ⟨_, rfl, ?_⟩))
          go_ret
          exact ⟨by first | rfl | (simp; done) | (simp [*]; done), by repeat (first | exact Drawn0.refl _ | apply Drawn0.step)⟩
        · rw [if_neg c4] at H
          have c4b0 : (t119 == 0) = false := beq_eq_false_iff_ne.mpr c4
          have c4b1 : (t119 != 0) = true := bne_iff_ne.mpr c4
          replace H := Option.bind_eq_some_iff.mp H
          obtain ⟨t120, A50, H⟩ := H
          replace H : (if t120 = true then (spec_NodeName.l0 k1 a0 (wrap64 (x3_1 + 1)) (wrap64 (x4_1 + t119))) else (if x3_1 = 0 then (some false) else (if t118 = 95 then (spec_NodeName.l0 k1 a0 (wrap64 (x3_1 + 1)) (wrap64 (x4_1 + t119))) else ((spec_l1In.f t118 48 57).bind fun t121 => (if t121 = true then (spec_NodeName.l0 k1 a0 (wrap64 (x3_1 + 1)) (wrap64 (x4_1 + t119))) else (some false)))))) = some r := H
          have A5 := Aside0.mk A50
          clear A50
          by_cases c6 : t120 = true
          · subst c6
            have H1 : (spec_NodeName.l0 k1 a0 (wrap64 (x3_1 + 1)) (wrap64 (x4_1 + t119))) = some r := by rw [if_pos rfl] at H; exact H
            clear H
            have H := H1
            clear H1
            have H' := Aside0.mk H
            clear H
            go_wp2_with (first | ((with_reducible refine gate_callee (f := 48) rfl ?_); refine goesL_ (some 14) rfl rfl Try.func48 (by kernel_rfl) rfl #[.string a0, .int .i64 x4_1] rfl (by (try simp only [List.map_toArray, List.map_cons, List.map_nil]); first | done | rfl | (simp only [List.length_drop, List.length_take]; rfl)) ?_; (with_reducible refine (spec_l20Rune.calls a0 x4_1 t118 t119 _ A3.out).mono ?_); rintro e w' ⟨rfl, ⟨nd, rfl⟩⟩; refine ⟨_, rfl, ?_⟩) | (go_at_call 49; (with_reducible refine (spec_l20Letter.calls t118 true _ A5.out).mono ?_); rintro e w' ⟨rfl, ⟨nd, rfl⟩⟩))
            go_roundg k1
            case measure => have := HK1.out; omega
            case rel => exact ⟨(wrap64 (x3_1 + 1)), (wrap64 (x4_1 + t119)), (by first | rfl | (simp; done) | (simp [*]; done)), (by first | rfl | (simp; done) | (simp [*]; done)), H', ⟨by have := HK1.out; omega⟩, by repeat (first | exact Drawn0.refl _ | apply Drawn0.step)⟩
          · replace c6 := Bool.eq_false_iff.mpr c6
            subst c6
            have H1 : (if x3_1 = 0 then (some false) else (if t118 = 95 then (spec_NodeName.l0 k1 a0 (wrap64 (x3_1 + 1)) (wrap64 (x4_1 + t119))) else ((spec_l1In.f t118 48 57).bind fun t121 => (if t121 = true then (spec_NodeName.l0 k1 a0 (wrap64 (x3_1 + 1)) (wrap64 (x4_1 + t119))) else (some false))))) = some r := by rw [if_neg (show ¬ (false = true) by decide)] at H; exact H
            clear H
            have H := H1
            clear H1
            by_cases c7 : x3_1 = 0
            · rw [if_pos c7] at H
              have c7b0 : (x3_1 == 0) = true := beq_iff_eq.mpr c7
              have c7b1 : (x3_1 != 0) = false := bne_eq_false_iff_eq.mpr c7
              clear c7
              obtain rfl := Option.some.inj H
              go_wp2_with (first | ((with_reducible refine gate_callee (f := 48) rfl ?_); refine goesL_ (some 14) rfl rfl Try.func48 (by kernel_rfl) rfl #[.string a0, .int .i64 x4_1] rfl (by (try simp only [List.map_toArray, List.map_cons, List.map_nil]); first | done | rfl | (simp only [List.length_drop, List.length_take]; rfl)) ?_; (with_reducible refine (spec_l20Rune.calls a0 x4_1 t118 t119 _ A3.out).mono ?_); rintro e w' ⟨rfl, ⟨nd, rfl⟩⟩; refine ⟨_, rfl, ?_⟩) | (go_at_call 49; (with_reducible refine (spec_l20Letter.calls t118 false _ A5.out).mono ?_); rintro e w' ⟨rfl, ⟨nd, rfl⟩⟩))
              go_ret
              exact ⟨by first | rfl | (simp; done) | (simp [*]; done), by repeat (first | exact Drawn0.refl _ | apply Drawn0.step)⟩
            · rw [if_neg c7] at H
              have c7b0 : (x3_1 == 0) = false := beq_eq_false_iff_ne.mpr c7
              have c7b1 : (x3_1 != 0) = true := bne_iff_ne.mpr c7
              by_cases c8 : t118 = 95
              · rw [if_pos c8] at H
                have c8b0 : (t118 == 95) = true := beq_iff_eq.mpr c8
                have c8b1 : (t118 != 95) = false := bne_eq_false_iff_eq.mpr c8
                clear c8
                have H' := Aside0.mk H
                clear H
                go_wp2_with (first | ((with_reducible refine gate_callee (f := 48) rfl ?_); refine goesL_ (some 14) rfl rfl Try.func48 (by kernel_rfl) rfl #[.string a0, .int .i64 x4_1] rfl (by (try simp only [List.map_toArray, List.map_cons, List.map_nil]); first | done | rfl | (simp only [List.length_drop, List.length_take]; rfl)) ?_; (with_reducible refine (spec_l20Rune.calls a0 x4_1 t118 t119 _ A3.out).mono ?_); rintro e w' ⟨rfl, ⟨nd, rfl⟩⟩; refine ⟨_, rfl, ?_⟩) | (go_at_call 49; (with_reducible refine (spec_l20Letter.calls t118 false _ A5.out).mono ?_); rintro e w' ⟨rfl, ⟨nd, rfl⟩⟩))
                go_roundg k1
                case measure => have := HK1.out; omega
                case rel => exact ⟨(wrap64 (x3_1 + 1)), (wrap64 (x4_1 + t119)), (by first | rfl | (simp; done) | (simp [*]; done)), (by first | rfl | (simp; done) | (simp [*]; done)), H', ⟨by have := HK1.out; omega⟩, by repeat (first | exact Drawn0.refl _ | apply Drawn0.step)⟩
              · rw [if_neg c8] at H
                have c8b0 : (t118 == 95) = false := beq_eq_false_iff_ne.mpr c8
                have c8b1 : (t118 != 95) = true := bne_iff_ne.mpr c8
                replace H := Option.bind_eq_some_iff.mp H
                obtain ⟨t121, A90, H⟩ := H
                replace H : (if t121 = true then (spec_NodeName.l0 k1 a0 (wrap64 (x3_1 + 1)) (wrap64 (x4_1 + t119))) else (some false)) = some r := H
                have A9 := Aside0.mk A90
                clear A90
                by_cases c10 : t121 = true
                · subst c10
                  have H1 : (spec_NodeName.l0 k1 a0 (wrap64 (x3_1 + 1)) (wrap64 (x4_1 + t119))) = some r := by rw [if_pos rfl] at H; exact H
                  clear H
                  have H := H1
                  clear H1
                  have H' := Aside0.mk H
                  clear H
                  go_wp2_with (first | ((with_reducible refine gate_callee (f := 48) rfl ?_); refine goesL_ (some 14) rfl rfl Try.func48 (by kernel_rfl) rfl #[.string a0, .int .i64 x4_1] rfl (by (try simp only [List.map_toArray, List.map_cons, List.map_nil]); first | done | rfl | (simp only [List.length_drop, List.length_take]; rfl)) ?_; (with_reducible refine (spec_l20Rune.calls a0 x4_1 t118 t119 _ A3.out).mono ?_); rintro e w' ⟨rfl, ⟨nd, rfl⟩⟩; refine ⟨_, rfl, ?_⟩) | (go_at_call 49; (with_reducible refine (spec_l20Letter.calls t118 false _ A5.out).mono ?_); rintro e w' ⟨rfl, ⟨nd, rfl⟩⟩) | (go_at_call 34; (with_reducible refine (spec_l1In.calls t118 48 57 true _ A9.out).mono ?_); rintro e w' ⟨rfl, ⟨nd, rfl⟩⟩))
                  go_roundg k1
                  case measure => have := HK1.out; omega
                  case rel => exact ⟨(wrap64 (x3_1 + 1)), (wrap64 (x4_1 + t119)), (by first | rfl | (simp; done) | (simp [*]; done)), (by first | rfl | (simp; done) | (simp [*]; done)), H', ⟨by have := HK1.out; omega⟩, by repeat (first | exact Drawn0.refl _ | apply Drawn0.step)⟩
                · replace c10 := Bool.eq_false_iff.mpr c10
                  subst c10
                  have H1 : (some false) = some r := by rw [if_neg (show ¬ (false = true) by decide)] at H; exact H
                  clear H
                  have H := H1
                  clear H1
                  obtain rfl := Option.some.inj H
                  go_wp2_with (first | ((with_reducible refine gate_callee (f := 48) rfl ?_); refine goesL_ (some 14) rfl rfl Try.func48 (by kernel_rfl) rfl #[.string a0, .int .i64 x4_1] rfl (by (try simp only [List.map_toArray, List.map_cons, List.map_nil]); first | done | rfl | (simp only [List.length_drop, List.length_take]; rfl)) ?_; (with_reducible refine (spec_l20Rune.calls a0 x4_1 t118 t119 _ A3.out).mono ?_); rintro e w' ⟨rfl, ⟨nd, rfl⟩⟩; refine ⟨_, rfl, ?_⟩) | (go_at_call 49; (with_reducible refine (spec_l20Letter.calls t118 false _ A5.out).mono ?_); rintro e w' ⟨rfl, ⟨nd, rfl⟩⟩) | (go_at_call 34; (with_reducible refine (spec_l1In.calls t118 48 57 false _ A9.out).mono ?_); rintro e w' ⟨rfl, ⟨nd, rfl⟩⟩))
                  go_ret
                  exact ⟨by first | rfl | (simp; done) | (simp [*]; done), by repeat (first | exact Drawn0.refl _ | apply Drawn0.step)⟩
      · rw [if_neg c2] at H
        have c2b0 : decide (x4_1 < (a0.size : Int)) = false := decide_eq_false c2
        clear c2
        replace H := Option.bind_eq_some_iff.mp H
        obtain ⟨t117, A110, H⟩ := H
        replace H : (some t117) = some r := H
        have A11 := Aside0.mk A110
        clear A110
        obtain rfl := Option.some.inj H
        go_wp2_with (first | ((with_reducible refine gate_callee (f := 34) rfl ?_); refine goesL_ (some 43) rfl rfl Try.func34 (by kernel_rfl) rfl #[.int .i64 x3_1, .int .i64 1, .int .i64 12] rfl (by (try simp only [List.map_toArray, List.map_cons, List.map_nil]); first | done | rfl | (simp only [List.length_drop, List.length_take]; rfl)) ?_; (with_reducible refine (spec_l1In.calls x3_1 1 12 t117 _ A11.out).mono ?_); rintro e w' ⟨rfl, ⟨nd, rfl⟩⟩; refine ⟨_, rfl, ?_⟩))
        go_ret
        exact ⟨by first | rfl | (simp; done) | (simp [*]; done), by repeat (first | exact Drawn0.refl _ | apply Drawn0.step)⟩

/-! ### impl_isLetter: function 50 -/
set_option maxRecDepth 100000 in
theorem isLetter_in (lo hi r : Int) (g : Nat) (w : World) (b : Bool) (hg : w.cell? ⟨g, 0, none⟩ = some (.int .i32 r)) (hb : (decide (lo ≤ r) && decide (r ≤ hi)) = b) :
    Calls Try.prog 63 #[.int .i32 lo, .int .i32 hi, .pointer (some ⟨g, 0, none⟩)] w fun e w' => e = .returned (.bool b) ∧ w = w' := by
  subst hb
  cases h1 : decide (lo ≤ r) with
  | false =>
    go_enter Try.func63, Try.ntmps63
    go_wp2
    go_ret
    exact ⟨rfl, rfl⟩
  | true =>
    cases h2 : decide (r ≤ hi) with
    | false =>
      go_enter Try.func63, Try.ntmps63
      go_wp2
      go_ret
      exact ⟨rfl, rfl⟩
    | true =>
      go_enter Try.func63, Try.ntmps63
      go_wp2
      go_ret
      exact ⟨rfl, rfl⟩
def letterB (r : Int) : Bool := (decide (65 ≤ r) && decide (r ≤ 90)) || ((decide (97 ≤ r) && decide (r ≤ 122)) || (((decide (192 ≤ r) && decide (r ≤ 591)) && ((r != 215) && (r != 247))) || ((decide (913 ≤ r) && decide (r ≤ 969)) && (r != 930))))
theorem isLetter_world (r : Int) (w : World) : (w.alloc (.cells #[.int .i32 r] 21)).cell? ⟨w.heap.size, 0, none⟩ = some (.int .i32 r) ∧ Below w.heap.size w (w.alloc (.cells #[.int .i32 r] 21)) :=
  ⟨by simp, (Below.refl _ _).alloc (Nat.le_refl _) _⟩
set_option maxHeartbeats 4000000 in
set_option maxRecDepth 100000 in
theorem isLetter_calls (r : Int) (w : World) :
    Calls Try.prog 50 #[.int .i32 r] w fun e w' => e = .returned (.bool (letterB r)) ∧ Below w.heap.size w w' := by
  obtain ⟨ha, hB⟩ := isLetter_world r w
  have HA := Aside0.mk ha
  have HB := Aside0.mk hB
  clear ha hB
  unfold letterB
  obtain ⟨b1, hb1⟩ : ∃ b, (decide (65 ≤ r) && decide (r ≤ 90)) = b := ⟨_, rfl⟩
  obtain ⟨b2, hb2⟩ : ∃ b, (decide (97 ≤ r) && decide (r ≤ 122)) = b := ⟨_, rfl⟩
  obtain ⟨b3, hb3⟩ : ∃ b, (decide (192 ≤ r) && decide (r ≤ 591)) = b := ⟨_, rfl⟩
  obtain ⟨b4, hb4⟩ : ∃ b, (decide (913 ≤ r) && decide (r ≤ 969)) = b := ⟨_, rfl⟩
  rw [hb1, hb2, hb3, hb4]
  have H1 := Aside0.mk hb1
  have H2 := Aside0.mk hb2
  have H3 := Aside0.mk hb3
  have H4 := Aside0.mk hb4
  clear hb1 hb2 hb3 hb4
  cases b1 with
  | true =>
    go_enter Try.func50, Try.ntmps50
    go_wp2_with (first | (go_at_call 63; (with_reducible refine (isLetter_in 65 90 r w.heap.size _ true HA.out H1.out).mono ?_); rintro e w' ⟨rfl, rfl⟩))
    go_ret
    exact ⟨rfl, HB.out⟩
  | false =>
    cases b2 with
    | true =>
      go_enter Try.func50, Try.ntmps50
      go_wp2_with (first | (go_at_call 63; (with_reducible refine (isLetter_in 65 90 r w.heap.size _ false HA.out H1.out).mono ?_); rintro e w' ⟨rfl, rfl⟩) | (go_at_call 63; (with_reducible refine (isLetter_in 97 122 r w.heap.size _ true HA.out H2.out).mono ?_); rintro e w' ⟨rfl, rfl⟩))
      go_ret
      exact ⟨rfl, HB.out⟩
    | false =>
      cases b3 with
      | false =>
        cases b4 with
        | false =>
          go_enter Try.func50, Try.ntmps50
          go_wp2_with (first | (go_at_call 63; (with_reducible refine (isLetter_in 65 90 r w.heap.size _ false HA.out H1.out).mono ?_); rintro e w' ⟨rfl, rfl⟩) | (go_at_call 63; (with_reducible refine (isLetter_in 97 122 r w.heap.size _ false HA.out H2.out).mono ?_); rintro e w' ⟨rfl, rfl⟩) | (go_at_call 63; (with_reducible refine (isLetter_in 192 591 r w.heap.size _ false HA.out H3.out).mono ?_); rintro e w' ⟨rfl, rfl⟩) | (go_at_call 63; (with_reducible refine (isLetter_in 913 969 r w.heap.size _ false HA.out H4.out).mono ?_); rintro e w' ⟨rfl, rfl⟩))
          go_ret
          exact ⟨rfl, HB.out⟩
        | true =>
          cases e3 : (r != 930) with
          | true =>
            go_enter Try.func50, Try.ntmps50
            go_wp2_with (first | (go_at_call 63; (with_reducible refine (isLetter_in 65 90 r w.heap.size _ false HA.out H1.out).mono ?_); rintro e w' ⟨rfl, rfl⟩) | (go_at_call 63; (with_reducible refine (isLetter_in 97 122 r w.heap.size _ false HA.out H2.out).mono ?_); rintro e w' ⟨rfl, rfl⟩) | (go_at_call 63; (with_reducible refine (isLetter_in 192 591 r w.heap.size _ false HA.out H3.out).mono ?_); rintro e w' ⟨rfl, rfl⟩) | (go_at_call 63; (with_reducible refine (isLetter_in 913 969 r w.heap.size _ true HA.out H4.out).mono ?_); rintro e w' ⟨rfl, rfl⟩))
            go_ret
            exact ⟨rfl, HB.out⟩
          | false =>
            go_enter Try.func50, Try.ntmps50
            go_wp2_with (first | (go_at_call 63; (with_reducible refine (isLetter_in 65 90 r w.heap.size _ false HA.out H1.out).mono ?_); rintro e w' ⟨rfl, rfl⟩) | (go_at_call 63; (with_reducible refine (isLetter_in 97 122 r w.heap.size _ false HA.out H2.out).mono ?_); rintro e w' ⟨rfl, rfl⟩) | (go_at_call 63; (with_reducible refine (isLetter_in 192 591 r w.heap.size _ false HA.out H3.out).mono ?_); rintro e w' ⟨rfl, rfl⟩) | (go_at_call 63; (with_reducible refine (isLetter_in 913 969 r w.heap.size _ true HA.out H4.out).mono ?_); rintro e w' ⟨rfl, rfl⟩))
            go_ret
            exact ⟨rfl, HB.out⟩
      | true =>
        cases e1 : (r != 215) with
        | true =>
          cases e2 : (r != 247) with
          | true =>
            go_enter Try.func50, Try.ntmps50
            go_wp2_with (first | (go_at_call 63; (with_reducible refine (isLetter_in 65 90 r w.heap.size _ false HA.out H1.out).mono ?_); rintro e w' ⟨rfl, rfl⟩) | (go_at_call 63; (with_reducible refine (isLetter_in 97 122 r w.heap.size _ false HA.out H2.out).mono ?_); rintro e w' ⟨rfl, rfl⟩) | (go_at_call 63; (with_reducible refine (isLetter_in 192 591 r w.heap.size _ true HA.out H3.out).mono ?_); rintro e w' ⟨rfl, rfl⟩))
            go_ret
            exact ⟨rfl, HB.out⟩
          | false =>
            cases b4 with
            | false =>
              go_enter Try.func50, Try.ntmps50
              go_wp2_with (first | (go_at_call 63; (with_reducible refine (isLetter_in 65 90 r w.heap.size _ false HA.out H1.out).mono ?_); rintro e w' ⟨rfl, rfl⟩) | (go_at_call 63; (with_reducible refine (isLetter_in 97 122 r w.heap.size _ false HA.out H2.out).mono ?_); rintro e w' ⟨rfl, rfl⟩) | (go_at_call 63; (with_reducible refine (isLetter_in 192 591 r w.heap.size _ true HA.out H3.out).mono ?_); rintro e w' ⟨rfl, rfl⟩) | (go_at_call 63; (with_reducible refine (isLetter_in 913 969 r w.heap.size _ false HA.out H4.out).mono ?_); rintro e w' ⟨rfl, rfl⟩))
              go_ret
              exact ⟨rfl, HB.out⟩
            | true =>
              cases e3 : (r != 930) with
              | true =>
                go_enter Try.func50, Try.ntmps50
                go_wp2_with (first | (go_at_call 63; (with_reducible refine (isLetter_in 65 90 r w.heap.size _ false HA.out H1.out).mono ?_); rintro e w' ⟨rfl, rfl⟩) | (go_at_call 63; (with_reducible refine (isLetter_in 97 122 r w.heap.size _ false HA.out H2.out).mono ?_); rintro e w' ⟨rfl, rfl⟩) | (go_at_call 63; (with_reducible refine (isLetter_in 192 591 r w.heap.size _ true HA.out H3.out).mono ?_); rintro e w' ⟨rfl, rfl⟩) | (go_at_call 63; (with_reducible refine (isLetter_in 913 969 r w.heap.size _ true HA.out H4.out).mono ?_); rintro e w' ⟨rfl, rfl⟩))
                go_ret
                exact ⟨rfl, HB.out⟩
              | false =>
                go_enter Try.func50, Try.ntmps50
                go_wp2_with (first | (go_at_call 63; (with_reducible refine (isLetter_in 65 90 r w.heap.size _ false HA.out H1.out).mono ?_); rintro e w' ⟨rfl, rfl⟩) | (go_at_call 63; (with_reducible refine (isLetter_in 97 122 r w.heap.size _ false HA.out H2.out).mono ?_); rintro e w' ⟨rfl, rfl⟩) | (go_at_call 63; (with_reducible refine (isLetter_in 192 591 r w.heap.size _ true HA.out H3.out).mono ?_); rintro e w' ⟨rfl, rfl⟩) | (go_at_call 63; (with_reducible refine (isLetter_in 913 969 r w.heap.size _ true HA.out H4.out).mono ?_); rintro e w' ⟨rfl, rfl⟩))
                go_ret
                exact ⟨rfl, HB.out⟩
        | false =>
          cases b4 with
          | false =>
            go_enter Try.func50, Try.ntmps50
            go_wp2_with (first | (go_at_call 63; (with_reducible refine (isLetter_in 65 90 r w.heap.size _ false HA.out H1.out).mono ?_); rintro e w' ⟨rfl, rfl⟩) | (go_at_call 63; (with_reducible refine (isLetter_in 97 122 r w.heap.size _ false HA.out H2.out).mono ?_); rintro e w' ⟨rfl, rfl⟩) | (go_at_call 63; (with_reducible refine (isLetter_in 192 591 r w.heap.size _ true HA.out H3.out).mono ?_); rintro e w' ⟨rfl, rfl⟩) | (go_at_call 63; (with_reducible refine (isLetter_in 913 969 r w.heap.size _ false HA.out H4.out).mono ?_); rintro e w' ⟨rfl, rfl⟩))
            go_ret
            exact ⟨rfl, HB.out⟩
          | true =>
            cases e3 : (r != 930) with
            | true =>
              go_enter Try.func50, Try.ntmps50
              go_wp2_with (first | (go_at_call 63; (with_reducible refine (isLetter_in 65 90 r w.heap.size _ false HA.out H1.out).mono ?_); rintro e w' ⟨rfl, rfl⟩) | (go_at_call 63; (with_reducible refine (isLetter_in 97 122 r w.heap.size _ false HA.out H2.out).mono ?_); rintro e w' ⟨rfl, rfl⟩) | (go_at_call 63; (with_reducible refine (isLetter_in 192 591 r w.heap.size _ true HA.out H3.out).mono ?_); rintro e w' ⟨rfl, rfl⟩) | (go_at_call 63; (with_reducible refine (isLetter_in 913 969 r w.heap.size _ true HA.out H4.out).mono ?_); rintro e w' ⟨rfl, rfl⟩))
              go_ret
              exact ⟨rfl, HB.out⟩
            | false =>
              go_enter Try.func50, Try.ntmps50
              go_wp2_with (first | (go_at_call 63; (with_reducible refine (isLetter_in 65 90 r w.heap.size _ false HA.out H1.out).mono ?_); rintro e w' ⟨rfl, rfl⟩) | (go_at_call 63; (with_reducible refine (isLetter_in 97 122 r w.heap.size _ false HA.out H2.out).mono ?_); rintro e w' ⟨rfl, rfl⟩) | (go_at_call 63; (with_reducible refine (isLetter_in 192 591 r w.heap.size _ true HA.out H3.out).mono ?_); rintro e w' ⟨rfl, rfl⟩) | (go_at_call 63; (with_reducible refine (isLetter_in 913 969 r w.heap.size _ true HA.out H4.out).mono ?_); rintro e w' ⟨rfl, rfl⟩))
              go_ret
              exact ⟨rfl, HB.out⟩
def impl_isLetter.f (a0 : Int) : Option Bool := some (letterB a0)
theorem impl_isLetter.calls (a0 : Int) (r : Bool) (w : World) (h : impl_isLetter.f a0 = some r) :
    Calls Try.prog 50 #[.int .i32 a0] w fun e w' => e = .returned (.bool r) ∧ Below w.heap.size w w' := by
  obtain rfl := Option.some.inj h
  exact isLetter_calls a0 w


/-! ### impl_NodeName: function 25 -/
def badRune (first : Bool) (r : Int) : Bool := (r == 65533) || (!letterB r && (first || ((r != 95) && (decide (r < 48) || decide (57 < r)))))
def nodeGo (s : ByteArray) : Nat → Nat → Int → Bool
  | 0, _, acc => decide (1 ≤ acc) && decide (acc ≤ 12)
  | b + 1, pos, acc => if pos < s.size then (if badRune (pos == 0) ((Utf8.decode s pos).1 : Int) = true then false else nodeGo s b (pos + (Utf8.decode s pos).2) (wrap64 (acc + 1))) else decide (1 ≤ acc) && decide (acc ≤ 12)
theorem nodeGo_end (s : ByteArray) (b pos : Nat) (acc : Int) (h : ¬ pos < s.size) : nodeGo s b pos acc = (decide (1 ≤ acc) && decide (acc ≤ 12)) := by
  cases b with
  | zero => rfl
  | succ b => exact if_neg h
theorem width_pos (s : ByteArray) (pos : Nat) (h : pos < s.size) : 1 ≤ (Utf8.decode s pos).2 := by
  by_cases ha : (s[pos]'h).toNat < 128
  · rw [decode_ascii s pos h ha]
    exact Nat.le_refl _
  · exact (decode_high s pos h (by omega)).2
def impl_NodeName.f (s : ByteArray) : Option Bool := some (nodeGo s s.size 0 0)
theorem node_start (w : World) (s : ByteArray) : (w.iter s 0).heap[w.heap.size]? = some (.stringIter s 0) ∧ Below w.heap.size w (w.iter s 0) := ⟨World.iter_heap w s 0, (Below.refl _ _).alloc (Nat.le_refl _) _⟩
theorem node_round (w w' : World) (s : ByteArray) (pos : Nat) (hk : w'.heap[w.heap.size]? = some (.stringIter s pos)) (hB : Below w.heap.size w w') (p : Nat) : (w'.iterAt w.heap.size s p).heap[w.heap.size]? = some (.stringIter s p) ∧ Below w.heap.size w (w'.iterAt w.heap.size s p) := ⟨Lib.iterAt_heap w' _ s pos p hk, Lib.below_iterAt hB (Nat.le_refl _) s p⟩
theorem node_call (w w2 w3 : World) (s : ByteArray) (p : Nat) (hk : w2.heap[w.heap.size]? = some (.stringIter s p)) (hB : Below w.heap.size w w2) (hb : Below w2.heap.size w2 w3) : w3.heap[w.heap.size]? = some (.stringIter s p) ∧ Below w.heap.size w w3 := ⟨blk_below hk hb, below_step hB hb⟩
theorem iterPos_of {w : World} {k : Nat} {s : ByteArray} {p : Nat} (h : w.heap[k]? = some (.stringIter s p)) : w.iterPos k = p := by simp [World.iterPos, h]
set_option maxHeartbeats 4000000 in
set_option maxRecDepth 100000 in
theorem impl_NodeName.calls (s : ByteArray) (r : Bool) (w : World) (h : impl_NodeName.f s = some r) :
    Calls Try.prog 25 #[.string s] w fun e w' => e = .returned (.bool r) ∧ Below w.heap.size w w' := by
  have hR := Option.some.inj h
  clear h
  obtain ⟨hs1, hs2⟩ := node_start w s
  have S1 := Aside0.mk hs1
  have S2 := Aside0.mk hs2
  clear hs1 hs2
  go_enter Try.func25, Try.ntmps25
  go_wp2
  go_loopw [3] (fun n w' => ∃ (pos b : Nat) (acc : Int), n = .int .i64 acc ∧ Aside0 (w'.heap[w.heap.size]? = some (.stringIter s pos)) ∧ Aside0 (Below w.heap.size w w') ∧ Aside0 (nodeGo s b pos acc = r) ∧ Aside0 (s.size ≤ pos + b)) (fun _ w' => s.size - w'.iterPos w.heap.size)
  case atStart => exact ⟨0, s.size, 0, rfl, S1, S2, ⟨hR⟩, ⟨by omega⟩⟩
  case round =>
    obtain ⟨pos, b, acc, rfl, HK, HB, HC, HN⟩ := hrel
    by_cases hp : pos < s.size
    · have hnx : ∀ ty, (Instr.next (.pointer (some ⟨w.heap.size, 0, none⟩)) true ty).run Try.prog wr = _ := fun ty => Lib.run_next_any_at wr w.heap.size s pos ty HK.out hp
      have hwd := Aside0.mk (width_pos s pos hp)
      have hp_ := Aside0.mk hp
      obtain ⟨hk2, hB2⟩ := node_round w wr s pos HK.out HB.out (pos + (Utf8.decode s pos).2)
      have HK2 := Aside0.mk hk2
      have HB2 := Aside0.mk hB2
      have HM := Aside0.mk (iterPos_of HK.out)
      clear hk2 hB2
      cases b with
      | zero => exact absurd HN.out (by have := hp; omega)
      | succ b =>
      have hC := HC.out
      rw [show nodeGo s (b + 1) pos acc = _ from if_pos hp] at hC
      clear HC hp
      generalize hcc : ((Utf8.decode s pos).1 : Int) = c at hnx hC
      clear hcc
      unfold badRune at hC
      cases e1 : (c == 65533) with
      | true =>
        rw [e1] at hC
        simp only [Bool.true_or, if_true] at hC
        subst hC
        go_wp2
        go_ret
        exact ⟨rfl, HB2.out⟩
      | false =>
        rw [e1, Bool.false_or] at hC
        have LC := Aside0.mk (isLetter_calls c)
        cases e2 : letterB c with
        | true =>
          rw [e2] at hC LC
          simp only [Bool.not_true, Bool.false_and, Bool.false_eq_true, if_false] at hC
          have HC := Aside0.mk hC
          clear hC e2
          go_wp2_with (go_at_call 50; (with_reducible refine (LC.out _).mono ?_); rintro e w3 ⟨rfl, hb3⟩)
          obtain ⟨hk3, hB3⟩ := node_call w _ w3 s _ HK2.out HB2.out hb3
          go_roundw
          case rel => exact ⟨_, b, _, rfl, ⟨hk3⟩, ⟨hB3⟩, HC, ⟨by have := HN.out; have := hwd.out; omega⟩⟩
          case measure => rw [iterPos_of hk3, HM.out]; have := hp_.out; have := hwd.out; omega
        | false =>
          rw [e2] at hC LC
          clear e2
          cases e3 : (pos == 0) with
          | true =>
            have T3 : (((pos : Nat) : Int) == 0) = true := by simpa using e3
            rw [e3] at hC
            clear e3
            simp only [Bool.not_false, Bool.true_and, Bool.true_or, Bool.false_or, if_true] at hC
            subst hC
            go_wp2_with (go_at_call 50; (with_reducible refine (LC.out _).mono ?_); rintro e w3 ⟨rfl, hb3⟩)
            obtain ⟨hk3, hB3⟩ := node_call w _ w3 s _ HK2.out HB2.out hb3
            go_ret
            exact ⟨rfl, hB3⟩
          | false =>
            have T3 : (((pos : Nat) : Int) == 0) = false := by simpa using e3
            rw [e3] at hC
            clear e3
            cases e4 : (c != 95) with
            | false =>
              rw [e4] at hC
              simp only [Bool.not_false, Bool.true_and, Bool.false_and, Bool.and_false, Bool.or_false, Bool.false_or, Bool.false_eq_true, if_false] at hC
              have HC := Aside0.mk hC
              clear hC
              go_wp2_with (go_at_call 50; (with_reducible refine (LC.out _).mono ?_); rintro e w3 ⟨rfl, hb3⟩)
              obtain ⟨hk3, hB3⟩ := node_call w _ w3 s _ HK2.out HB2.out hb3
              go_roundw
              case rel => exact ⟨_, b, _, rfl, ⟨hk3⟩, ⟨hB3⟩, HC, ⟨by have := HN.out; have := hwd.out; omega⟩⟩
              case measure => rw [iterPos_of hk3, HM.out]; have := hp_.out; have := hwd.out; omega
            | true =>
              rw [e4] at hC
              cases e5 : decide (c < 48) with
              | true =>
                rw [e5] at hC
                simp only [Bool.not_false, Bool.true_and, Bool.true_or, Bool.false_or, if_true] at hC
                subst hC
                go_wp2_with (go_at_call 50; (with_reducible refine (LC.out _).mono ?_); rintro e w3 ⟨rfl, hb3⟩)
                obtain ⟨hk3, hB3⟩ := node_call w _ w3 s _ HK2.out HB2.out hb3
                go_ret
                exact ⟨rfl, hB3⟩
              | false =>
                rw [e5] at hC
                cases e6 : decide (57 < c) with
                | true =>
                  rw [e6] at hC
                  simp only [Bool.not_false, Bool.true_and, Bool.true_or, Bool.false_or, if_true] at hC
                  subst hC
                  go_wp2_with (go_at_call 50; (with_reducible refine (LC.out _).mono ?_); rintro e w3 ⟨rfl, hb3⟩)
                  obtain ⟨hk3, hB3⟩ := node_call w _ w3 s _ HK2.out HB2.out hb3
                  go_ret
                  exact ⟨rfl, hB3⟩
                | false =>
                  rw [e6] at hC
                  simp only [Bool.not_false, Bool.true_and, Bool.false_and, Bool.and_false, Bool.or_false, Bool.false_or, Bool.false_eq_true, if_false] at hC
                  have HC := Aside0.mk hC
                  clear hC
                  go_wp2_with (go_at_call 50; (with_reducible refine (LC.out _).mono ?_); rintro e w3 ⟨rfl, hb3⟩)
                  obtain ⟨hk3, hB3⟩ := node_call w _ w3 s _ HK2.out HB2.out hb3
                  go_roundw
                  case rel => exact ⟨_, b, _, rfl, ⟨hk3⟩, ⟨hB3⟩, HC, ⟨by have := HN.out; have := hwd.out; omega⟩⟩
                  case measure => rw [iterPos_of hk3, HM.out]; have := hp_.out; have := hwd.out; omega
    · have hnx : ∀ ty, (Instr.next (.pointer (some ⟨w.heap.size, 0, none⟩)) true ty).run Try.prog wr = _ := fun ty => Lib.run_next_end_at wr w.heap.size s pos ty HK.out hp
      have hC := HC.out
      rw [nodeGo_end s b pos acc hp] at hC
      cases f1 : decide (1 ≤ acc) with
      | false =>
        rw [f1, Bool.false_and] at hC
        subst hC
        go_wp2
        go_ret
        exact ⟨rfl, HB.out⟩
      | true =>
        rw [f1, Bool.true_and] at hC
        subst hC
        go_wp2
        go_ret
        exact ⟨rfl, HB.out⟩


/-! ### laws_FnExactNodeName: function 6 -/
def laws_FnExactNodeName.f (k : Nat) (a0 : ByteArray) : Option (Bool) := if (a0.size : Int) > 1048576 then (some true) else ((spec_NodeName.f k a0).bind fun t122 => ((impl_NodeName.f a0).bind fun t123 => (if (t123 != t122) = true then (some false) else (some true))))
theorem laws_FnExactNodeName.mono : ∀ a0 k, LeO (laws_FnExactNodeName.f k a0) (laws_FnExactNodeName.f (k + 1) a0) := by
  intro a0 k
  unfold laws_FnExactNodeName.f
  repeat' first
      | (with_reducible exact spec_NodeName.mono _ _)
      | (with_reducible exact LeO.refl _)
      | (with_reducible exact LeO.none _)
      | (with_reducible refine LeO.ite ?_ ?_)
      | (with_reducible refine LeO.bind ?_ (fun _ => ?_))
      | exact spec_NodeName.mono _ _
      | exact LeO.none _
      | refine LeO.ite ?_ ?_
      | refine LeO.bind ?_ (fun _ => ?_)
set_option maxHeartbeats 8000000 in
set_option maxRecDepth 100000 in
theorem laws_FnExactNodeName.calls (k : Nat) (a0 : ByteArray) (r : Bool) (w : World) (hr_ : r = true) (h : laws_FnExactNodeName.f k a0 = some r) :
    Calls Try.prog 6 #[.string a0] w fun e w' => e = .returned (.bool r) ∧ Below w.heap.size w w' := by
  have HB := Aside0.mk (Below.refl w.heap.size w)
  have H : (if (a0.size : Int) > 1048576 then (some true) else ((spec_NodeName.f k a0).bind fun t122 => ((impl_NodeName.f a0).bind fun t123 => (if (t123 != t122) = true then (some false) else (some true))))) = some r := h
  clear h
  by_cases c2 : (a0.size : Int) > 1048576
  · rw [if_pos c2] at H
    have c2b0 : decide (1048576 < (a0.size : Int)) = true := decide_eq_true c2
    have c2b1 : decide (1048576 < a0.size) = true := decide_eq_true (by omega)
    clear c2
    obtain rfl := Option.some.inj H
    go_enter Try.func6, Try.ntmps6
    go_wp2
    go_ret
    exact ⟨by first | rfl | (simp [errW_none, errW_some] <;> rfl) | (simp [*, errW_none, errW_some] <;> rfl), by repeat (first | (with_reducible first | exact HB.out | apply below_alloc | apply pw_below_drewN | apply below_drew1) | exact HB.out)⟩
  · rw [if_neg c2] at H
    have c2b0 : decide (1048576 < (a0.size : Int)) = false := decide_eq_false c2
    have c2b1 : decide (1048576 < a0.size) = false := decide_eq_false (by omega)
    clear c2
    replace H := Option.bind_eq_some_iff.mp H
    obtain ⟨t122, A30, H⟩ := H
    replace H : ((impl_NodeName.f a0).bind fun t123 => (if (t123 != t122) = true then (some false) else (some true))) = some r := H
    have A3 := Aside0.mk A30
    clear A30
    replace H := Option.bind_eq_some_iff.mp H
    obtain ⟨t123, A40, H⟩ := H
    replace H : (if (t123 != t122) = true then (some false) else (some true)) = some r := H
    have A4 := Aside0.mk A40
    clear A40
    by_cases c5 : (t123 != t122) = true
    · rw [if_pos c5] at H
      have c5b0 : (t123 != t122) = true := c5
      (try (have c5b1 : decide (t123 = t122) = false := by simpa using c5))
      (try (have c5b2 : (t123 == t122) = false := by simpa using c5))
      (try (have c5b3 : ¬ (t123 = t122) := by simpa using c5))
      clear c5
      exact absurd (Option.some.inj H) (by rw [hr_]; decide)
    · rw [if_neg c5] at H
      have c5b0 : (t123 != t122) = false := by simpa using c5
      (try (have c5b1 : decide (t123 = t122) = true := by simpa using c5))
      (try (have c5b2 : (t123 == t122) = true := by simpa using c5))
      clear c5
      obtain rfl := Option.some.inj H
      go_enter Try.func6, Try.ntmps6
      go_wp2_with (first | ((with_reducible refine gate_callee (f := 24) rfl ?_); refine goesL_ (some 9) rfl rfl Try.func24 (by kernel_rfl) rfl #[.string a0] rfl (by (try simp only [List.map_toArray, List.map_cons, List.map_nil]); first | done | rfl | (simp only [List.length_drop, List.length_take]; rfl)) ?_; (with_reducible refine (spec_NodeName.calls k a0 t122 _ A3.out).mono ?_); rintro e w' ⟨rfl, ⟨nd, rfl⟩⟩; refine ⟨_, rfl, ?_⟩) | ((with_reducible refine gate_callee (f := 25) rfl ?_); refine goesL_ (some 11) rfl rfl Try.func25 (by kernel_rfl) rfl #[.string a0] rfl (by (try simp only [List.map_toArray, List.map_cons, List.map_nil]); first | done | rfl | (simp only [List.length_drop, List.length_take]; rfl)) ?_; (with_reducible refine (impl_NodeName.calls a0 t123 _ A4.out).mono ?_); rintro e w6 ⟨rfl, hb⟩; refine ⟨_, rfl, ?_⟩; have n0_ := Aside0.mk (below_step (by repeat (first | (with_reducible first | exact HB.out | apply below_alloc | apply pw_below_drewN | apply below_drew1) | exact HB.out)) hb); clear HB; have HB := n0_; clear n0_; (try clear hb); (try clear hb2); (try clear hk); (try clear hi)))
      go_ret
      exact ⟨by first | rfl | (simp [errW_none, errW_some] <;> rfl) | (simp [*, errW_none, errW_some] <;> rfl), by repeat (first | (with_reducible first | exact HB.out | apply below_alloc | apply pw_below_drewN | apply below_drew1) | exact HB.out)⟩

/-- THE ONE PURE STATEMENT of laws_FnExactNodeName: yours. -/
def laws_FnExactNodeName.Pure : Prop := ∀ (a0 : ByteArray), a0.size ≤ 140737488351232 → ∃ k, laws_FnExactNodeName.f k a0 = some true
theorem laws_FnExactNodeName.walk (P : laws_FnExactNodeName.Pure) (a0 : ByteArray) (w : World) (w0 : a0.size ≤ 140737488351232) :
    Calls Try.prog 6 #[.string a0] w fun e w' => e = .returned (.bool true) ∧ Below w.heap.size w w' := by
  obtain ⟨k, h⟩ := P a0 w0
  refine (laws_FnExactNodeName.calls k a0 true w rfl h).mono ?_
  rintro e w' ⟨rfl, hd⟩
  exact ⟨rfl, hd⟩

end Go.Proofs.Ytbhjgkbikmjaaaa.PFnExactNodeName
