-- Written by a turned copy of the print (see the notes of this repo): plain functions and their walks. Lean checks it.
import Derived.Test.YtmikakdcggehcaaPFnExactMendx0
import Derived.Test.YtmikakdcggehcaaPFnExactMendx8
namespace Go.Proofs.Ytmikakdcggehcaa.PFnExactMend
open Go.RowKit Go.Proofs.YtmikakdcggehcaaW.PrintWords Go.Proofs.YtmikakdcggehcaaW.PrintLast Go.Proofs.YtmikakdcggehcaaW.PrintMore
attribute [local go_sem] max2_int min2_int max_two min_two max_three min_three max_four min_four   -- for this text's walks alone
set_option linter.unusedVariables false
set_option linter.unusedSimpArgs false

/-! ### impl_Crc16: function 21 -/
mutual
def impl_Crc16.l0 : Nat → Int → List Int → Int → Int → Option (Int)
 | 0, _, _, _, _ => none
 | k + 1, x3, x9, x10, x11 => if x11 < x10 then (if 0 ≤ x11 then (if x11 < (x9.length : Int) then (impl_Crc16.l1 k (Go.bits .xor .i64 x3 (wrap64 ((wrap64 (rd x9 x11)) * 256))) x9 x10 x11 0) else (none)) else (none)) else (some x3)
def impl_Crc16.l1 : Nat → Int → List Int → Int → Int → Int → Option (Int)
 | 0, _, _, _, _, _ => none
 | k + 1, x3, x9, x10, x11, x20 => if x20 < 8 then (if (wrap64 (x3 * 2)) ≥ 65536 then (impl_Crc16.l1 k (Go.bits .xor .i64 (wrap64 (x3 * 2)) 69665) x9 x10 x11 (wrap64 (x20 + 1))) else (impl_Crc16.l1 k (wrap64 (x3 * 2)) x9 x10 x11 (wrap64 (x20 + 1)))) else (impl_Crc16.l0 k x3 x9 x10 (wrap64 (x11 + 1)))
end
def impl_Crc16.f (k : Nat) (l0 : List Int) : Option (Int) := if (l0.length : Int) > 65536 then (some 0) else (impl_Crc16.l0 k 65535 l0 (l0.length : Int) 0)
theorem impl_Crc16.mono_l : ∀ k, (∀ y0 y1 y2 y3, LeO (impl_Crc16.l0 k y0 y1 y2 y3) (impl_Crc16.l0 (k + 1) y0 y1 y2 y3)) ∧ (∀ y0 y1 y2 y3 y4, LeO (impl_Crc16.l1 k y0 y1 y2 y3 y4) (impl_Crc16.l1 (k + 1) y0 y1 y2 y3 y4))
 | 0 => ⟨fun _ _ _ _ r h => by simp [impl_Crc16.l0] at h, fun _ _ _ _ _ r h => by simp [impl_Crc16.l1] at h⟩
 | k + 1 => by
  obtain ⟨ih0, ih1⟩ := impl_Crc16.mono_l k
  refine ⟨?_, ?_⟩
  ·intro y0 y1 y2 y3
   unfold impl_Crc16.l0
   repeat' first
   | (with_reducible exact ih0 _ _ _ _)
   | (with_reducible exact ih1 _ _ _ _ _)
   | (with_reducible exact LeO.refl _)
   | (with_reducible exact LeO.none _)
   | (with_reducible refine LeO.ite ?_ ?_)
   | (with_reducible refine LeO.bind ?_ (fun _ => ?_))
   | exact ih0 _ _ _ _
   | exact ih1 _ _ _ _ _
   | exact LeO.none _
   | refine LeO.ite ?_ ?_
   | refine LeO.bind ?_ (fun _ => ?_)
  ·intro y0 y1 y2 y3 y4
   unfold impl_Crc16.l1
   repeat' first
   | (with_reducible exact ih0 _ _ _ _)
   | (with_reducible exact ih1 _ _ _ _ _)
   | (with_reducible exact LeO.refl _)
   | (with_reducible exact LeO.none _)
   | (with_reducible refine LeO.ite ?_ ?_)
   | (with_reducible refine LeO.bind ?_ (fun _ => ?_))
   | exact ih0 _ _ _ _
   | exact ih1 _ _ _ _ _
   | exact LeO.none _
   | refine LeO.ite ?_ ?_
   | refine LeO.bind ?_ (fun _ => ?_)
theorem impl_Crc16.mono : ∀ a0 k, LeO (impl_Crc16.f k a0) (impl_Crc16.f (k + 1) a0) := by
 intro a0 k
 obtain ⟨ih0, ih1⟩ := impl_Crc16.mono_l k
 unfold impl_Crc16.f
 repeat' first
  | (with_reducible exact ih0 _ _ _ _)
  | (with_reducible exact ih1 _ _ _ _ _)
  | (with_reducible exact LeO.refl _)
  | (with_reducible exact LeO.none _)
  | (with_reducible refine LeO.ite ?_ ?_)
  | (with_reducible refine LeO.bind ?_ (fun _ => ?_))
  | exact ih0 _ _ _ _
  | exact ih1 _ _ _ _ _
  | exact LeO.none _
  | refine LeO.ite ?_ ?_
  | refine LeO.bind ?_ (fun _ => ?_)
set_option maxHeartbeats 8000000 in
set_option maxRecDepth 100000 in
theorem impl_Crc16.calls (k : Nat) (A0 : Option Addr) (c0 : Nat) (l0 : List Int) (r : Int) (w : World) (hr0 : Kd.C (Kd.int .u8) w A0 l0.length l0) (hc0 : l0.length ≤ c0) (h : impl_Crc16.f k l0 = some r) :
 Calls Try.prog 21 #[.slice A0 l0.length c0] w fun e w' => e = .returned (.int .i64 r) ∧ Drawn0 w w' := by
 have HR0 := Aside0.mk hr0
 have HC0 := Aside0.mk hc0
 clear hr0 hc0
 have H : (if (l0.length : Int) > 65536 then (some 0) else (impl_Crc16.l0 k 65535 l0 (l0.length : Int) 0)) = some r := h
 clear h
 by_cases c2 : (l0.length : Int) > 65536
 case pos =>
  rw [if_pos c2] at H
  have c2b0 : decide (65536 < (l0.length : Int)) = true := zE c2
  have c2b1 : decide (65536 < l0.length) = true := zE (by omega)
  clear c2
  obtain rfl := Option.some.inj H
  go_enter Try.func21, Try.ntmps21
  go_wp2
  go_ret
  exact ⟨by first | rfl | (simp; done) | (simp [*]; done), by repeat (first | exact Drawn0.refl _ | apply Drawn0.step)⟩
 rw [if_neg c2] at H
 have c2b0 : decide (65536 < (l0.length : Int)) = false := decide_eq_false c2
 have c2b1 : decide (65536 < l0.length) = false := decide_eq_false (by omega)
 clear c2
 have H' := Aside0.mk H
 clear H
 go_enter Try.func21, Try.ntmps21
 go_wp2
 go_loopg [3, 11] k (fun kq v3 v11 w' => ∃ (x3_1 : Int) (x11_1 : Int), v3 = .int .i64 x3_1 ∧ v11 = .int .i64 x11_1 ∧ Aside0 (impl_Crc16.l0 kq x3_1 l0 (l0.length : Int) x11_1 = some r) ∧ Aside0 (kq ≤ k) ∧ Drawn0 w w')
 case atStart => exact ⟨(65535), (0), (by first | rfl | (simp; done) | (simp [*]; done)), (by first | rfl | (simp; done) | (simp [*]; done)), H', ⟨Nat.le_refl _⟩, by repeat (first | exact Drawn0.refl _ | apply Drawn0.step)⟩
 case round =>
  clear H'
  try clear c1
  try clear c2
  try clear c2b0
  try clear c2b1
  try clear p2
  obtain ⟨x3_1, x11_1, rfl, rfl, HA, HK1, ⟨m1, rfl⟩⟩ := hrel
  cases gk with
  | zero => exact absurd HA.out (by simp [impl_Crc16.l0])
  | succ k1 =>
   have H := HA.out
   clear HA
   simp only [impl_Crc16.l0] at H
   by_cases c3 : x11_1 < (l0.length : Int)
   case neg =>
    rw [if_neg c3] at H
    have c3b0 : decide (x11_1 < (l0.length : Int)) = false := decide_eq_false c3
    clear c3
    obtain rfl := Option.some.inj H
    go_wp2
    go_ret
    exact ⟨by first | rfl | (simp; done) | (simp [*]; done), by repeat (first | exact Drawn0.refl _ | apply Drawn0.step)⟩
   rw [if_pos c3] at H
   have c3b0 : decide (x11_1 < (l0.length : Int)) = true := zE c3
   clear c3
   by_cases c4 : 0 ≤ x11_1
   case neg =>
    rw [if_neg c4] at H
    exact absurd H (by simp)
   rw [if_pos c4] at H
   have c4b0 : decide (0 ≤ x11_1) = true := zE c4
   clear c4
   by_cases c5 : x11_1 < (l0.length : Int)
   case neg =>
    rw [if_neg c5] at H
    exact absurd H (by simp)
   rw [if_pos c5] at H
   have c5b0 : decide (x11_1 < (l0.length : Int)) = true := zE c5
   clear c5
   have H' := Aside0.mk H
   clear H
   have p302 : 0 ≤ (x11_1 : Int) := zT (by first | (with_reducible assumption) | assumption)
   have q302 : x11_1 < (l0.length : Int) := zT (by first | (with_reducible assumption) | assumption)
   obtain ⟨ad302, e302, hx302_0⟩ := Kd.at_int HR0.out x11_1 p302 q302
   cases e302
   replace p302 := eq_true p302
   replace q302 := eq_true q302
   go_wp2
   go_loopg [3, 20] k1 (fun kq v3 v20 w' => ∃ (x3_2 : Int) (x20_2 : Int), v3 = .int .i64 x3_2 ∧ v20 = .int .i64 x20_2 ∧ Aside0 (impl_Crc16.l1 kq x3_2 l0 (l0.length : Int) x11_1 x20_2 = some r) ∧ Aside0 (kq ≤ k1) ∧ Drawn0 w w')
   case atStart => exact ⟨(Go.bits .xor .i64 x3_1 (wrap64 ((wrap64 (rd l0 x11_1)) * 256))), (0), (by first | rfl | (simp; done) | (simp [*]; done)), (by first | rfl | (simp; done) | (simp [*]; done)), H', ⟨Nat.le_refl _⟩, by repeat (first | exact Drawn0.refl _ | apply Drawn0.step)⟩
   case round =>
    clear H'
    try clear c1
    try clear c2
    try clear c2b0
    try clear c2b1
    try clear p2
    try clear c3
    try clear c3b0
    try clear p3
    try clear q3
    try clear hx3
    try clear c4
    try clear c4b0
    try clear c5
    try clear c5b0
    try clear hx302_0
    try clear p2
    try clear p302
    try clear q302
    obtain ⟨x3_2, x20_2, rfl, rfl, HA, HK2, ⟨m2, rfl⟩⟩ := hrel
    cases gk with
    | zero => exact absurd HA.out (by simp [impl_Crc16.l1])
    | succ k2 =>
     have H := HA.out
     clear HA
     simp only [impl_Crc16.l1] at H
     by_cases c6 : x20_2 < 8
     case neg =>
      rw [if_neg c6] at H
      have c6b0 : decide (x20_2 < 8) = false := decide_eq_false c6
      clear c6
      have H' := Aside0.mk H
      clear H
      go_wp2
      go_roundg k2
      case measure => have := HK1.out; have := HK2.out; omega
      case rel => exact ⟨(x3_2), (wrap64 (x11_1 + 1)), (by first | rfl | (simp; done) | (simp [*]; done)), (by first | rfl | (simp; done) | (simp [*]; done)), H', ⟨by have := HK1.out; have := HK2.out; omega⟩, by repeat (first | exact Drawn0.refl _ | apply Drawn0.step)⟩
     rw [if_pos c6] at H
     have c6b0 : decide (x20_2 < 8) = true := zE c6
     clear c6
     by_cases c7 : (wrap64 (x3_2 * 2)) ≥ 65536
     case neg =>
      rw [if_neg c7] at H
      have c7b0 : decide (65536 ≤ (wrap64 (x3_2 * 2))) = false := decide_eq_false c7
      clear c7
      have H' := Aside0.mk H
      clear H
      go_wp2
      go_roundg k2
      case measure => have := HK1.out; have := HK2.out; omega
      case rel => exact ⟨(wrap64 (x3_2 * 2)), (wrap64 (x20_2 + 1)), (by first | rfl | (simp; done) | (simp [*]; done)), (by first | rfl | (simp; done) | (simp [*]; done)), H', ⟨by have := HK1.out; have := HK2.out; omega⟩, by repeat (first | exact Drawn0.refl _ | apply Drawn0.step)⟩
     rw [if_pos c7] at H
     have c7b0 : decide (65536 ≤ (wrap64 (x3_2 * 2))) = true := zE c7
     clear c7
     have H' := Aside0.mk H
     clear H
     go_wp2
     go_roundg k2
     case measure => have := HK1.out; have := HK2.out; omega
     case rel => exact ⟨(Go.bits .xor .i64 (wrap64 (x3_2 * 2)) 69665), (wrap64 (x20_2 + 1)), (by first | rfl | (simp; done) | (simp [*]; done)), (by first | rfl | (simp; done) | (simp [*]; done)), H', ⟨by have := HK1.out; have := HK2.out; omega⟩, by repeat (first | exact Drawn0.refl _ | apply Drawn0.step)⟩

/-! ### impl_orderOk: function 33 -/
def impl_orderOk.f (a0 : Int) : Option (Bool) := if a0 ≥ 0 then (some (decide (a0 ≤ 3))) else (some false)
set_option maxHeartbeats 8000000 in
set_option maxRecDepth 100000 in
theorem impl_orderOk.calls (a0 : Int) (r : Bool) (w : World) (h : impl_orderOk.f a0 = some r) :
 Calls Try.prog 33 #[.int .i64 a0] w fun e w' => e = .returned (.bool r) ∧ Drawn0 w w' := by
 have H : (if a0 ≥ 0 then (some (decide (a0 ≤ 3))) else (some false)) = some r := h
 clear h
 by_cases c2 : a0 ≥ 0
 case pos =>
  rw [if_pos c2] at H
  have c2b0 : decide (0 ≤ a0) = true := zE c2
  clear c2
  obtain rfl := Option.some.inj H
  go_enter Try.func33, Try.ntmps33
  go_wp2
  go_ret
  exact ⟨by first | rfl | (simp; done) | (simp [*]; done), by repeat (first | exact Drawn0.refl _ | apply Drawn0.step)⟩
 rw [if_neg c2] at H
 have c2b0 : decide (0 ≤ a0) = false := decide_eq_false c2
 clear c2
 obtain rfl := Option.some.inj H
 go_enter Try.func33, Try.ntmps33
 go_wp2
 go_ret
 exact ⟨by first | rfl | (simp; done) | (simp [*]; done), by repeat (first | exact Drawn0.refl _ | apply Drawn0.step)⟩

/-! ### impl_within: function 34 -/
def impl_within.l0 : Nat → Int → List Int → Int → Int → Option (Bool)
 | 0, _, _, _, _ => none
 | k + 1, x1, x7, x8, x9 => if x9 < x8 then (if 0 ≤ x9 then (if x9 < (x7.length : Int) then (if (rd x7 x9) < (wrap64 (-x1)) then (some false) else (if (rd x7 x9) > x1 then (some false) else (impl_within.l0 k x1 x7 x8 (wrap64 (x9 + 1))))) else (none)) else (none)) else (some true)
def impl_within.f (k : Nat) (l0 : List Int) (a1 : Int) : Option (Bool) := impl_within.l0 k a1 l0 (l0.length : Int) 0
theorem impl_within.mono_l : ∀ k, (∀ y0 y1 y2 y3, LeO (impl_within.l0 k y0 y1 y2 y3) (impl_within.l0 (k + 1) y0 y1 y2 y3))
 | 0 => fun _ _ _ _ r h => by simp [impl_within.l0] at h
 | k + 1 => by
  have ih0 := impl_within.mono_l k
  ·intro y0 y1 y2 y3
   unfold impl_within.l0
   repeat' first
   | (with_reducible exact ih0 _ _ _ _)
   | (with_reducible exact LeO.refl _)
   | (with_reducible exact LeO.none _)
   | (with_reducible refine LeO.ite ?_ ?_)
   | (with_reducible refine LeO.bind ?_ (fun _ => ?_))
   | exact ih0 _ _ _ _
   | exact LeO.none _
   | refine LeO.ite ?_ ?_
   | refine LeO.bind ?_ (fun _ => ?_)
theorem impl_within.mono : ∀ a0 a1 k, LeO (impl_within.f k a0 a1) (impl_within.f (k + 1) a0 a1) := by
 intro a0 a1 k
 have ih0 := impl_within.mono_l k
 unfold impl_within.f
 repeat' first
  | (with_reducible exact ih0 _ _ _ _)
  | (with_reducible exact LeO.refl _)
  | (with_reducible exact LeO.none _)
  | (with_reducible refine LeO.ite ?_ ?_)
  | (with_reducible refine LeO.bind ?_ (fun _ => ?_))
  | exact ih0 _ _ _ _
  | exact LeO.none _
  | refine LeO.ite ?_ ?_
  | refine LeO.bind ?_ (fun _ => ?_)
set_option maxHeartbeats 8000000 in
set_option maxRecDepth 100000 in
theorem impl_within.calls (k : Nat) (A0 : Option Addr) (c0 : Nat) (l0 : List Int) (a1 : Int) (r : Bool) (w : World) (hr0 : Kd.C (Kd.int .i64) w A0 l0.length l0) (hc0 : l0.length ≤ c0) (h : impl_within.f k l0 a1 = some r) :
 Calls Try.prog 34 #[.slice A0 l0.length c0, .int .i64 a1] w fun e w' => e = .returned (.bool r) ∧ Drawn0 w w' := by
 have HR0 := Aside0.mk hr0
 have HC0 := Aside0.mk hc0
 clear hr0 hc0
 have H : (impl_within.l0 k a1 l0 (l0.length : Int) 0) = some r := h
 clear h
 have H' := Aside0.mk H
 clear H
 go_enter Try.func34, Try.ntmps34
 go_wp2
 go_loopg [9] k (fun kq v9 w' => ∃ (x9_1 : Int), v9 = .int .i64 x9_1 ∧ Aside0 (impl_within.l0 kq a1 l0 (l0.length : Int) x9_1 = some r) ∧ Aside0 (kq ≤ k) ∧ Drawn0 w w')
 case atStart => exact ⟨(0), (by first | rfl | (simp; done) | (simp [*]; done)), H', ⟨Nat.le_refl _⟩, by repeat (first | exact Drawn0.refl _ | apply Drawn0.step)⟩
 case round =>
  clear H'
  try clear p2
  obtain ⟨x9_1, rfl, HA, HK1, ⟨m1, rfl⟩⟩ := hrel
  cases gk with
  | zero => exact absurd HA.out (by simp [impl_within.l0])
  | succ k1 =>
   have H := HA.out
   clear HA
   simp only [impl_within.l0] at H
   by_cases c3 : x9_1 < (l0.length : Int)
   case neg =>
    rw [if_neg c3] at H
    have c3b0 : decide (x9_1 < (l0.length : Int)) = false := decide_eq_false c3
    clear c3
    obtain rfl := Option.some.inj H
    go_wp2
    go_ret
    exact ⟨by first | rfl | (simp; done) | (simp [*]; done), by repeat (first | exact Drawn0.refl _ | apply Drawn0.step)⟩
   rw [if_pos c3] at H
   have c3b0 : decide (x9_1 < (l0.length : Int)) = true := zE c3
   clear c3
   by_cases c4 : 0 ≤ x9_1
   case neg =>
    rw [if_neg c4] at H
    exact absurd H (by simp)
   rw [if_pos c4] at H
   have c4b0 : decide (0 ≤ x9_1) = true := zE c4
   clear c4
   by_cases c5 : x9_1 < (l0.length : Int)
   case neg =>
    rw [if_neg c5] at H
    exact absurd H (by simp)
   rw [if_pos c5] at H
   have c5b0 : decide (x9_1 < (l0.length : Int)) = true := zE c5
   clear c5
   by_cases c6 : (rd l0 x9_1) < (wrap64 (-a1))
   case pos =>
    rw [if_pos c6] at H
    have c6b0 : decide ((rd l0 x9_1) < (wrap64 (-a1))) = true := zE c6
    clear c6
    obtain rfl := Option.some.inj H
    have p303 : 0 ≤ (x9_1 : Int) := zT (by first | (with_reducible assumption) | assumption)
    have q303 : x9_1 < (l0.length : Int) := zT (by first | (with_reducible assumption) | assumption)
    obtain ⟨ad303, e303, hx303_0⟩ := Kd.at_int HR0.out x9_1 p303 q303
    cases e303
    replace p303 := eq_true p303
    replace q303 := eq_true q303
    go_wp2
    go_ret
    exact ⟨by first | rfl | (simp; done) | (simp [*]; done), by repeat (first | exact Drawn0.refl _ | apply Drawn0.step)⟩
   rw [if_neg c6] at H
   have c6b0 : decide ((rd l0 x9_1) < (wrap64 (-a1))) = false := decide_eq_false c6
   clear c6
   by_cases c7 : (rd l0 x9_1) > a1
   case pos =>
    rw [if_pos c7] at H
    have c7b0 : decide (a1 < (rd l0 x9_1)) = true := zE c7
    clear c7
    obtain rfl := Option.some.inj H
    have p303 : 0 ≤ (x9_1 : Int) := zT (by first | (with_reducible assumption) | assumption)
    have q303 : x9_1 < (l0.length : Int) := zT (by first | (with_reducible assumption) | assumption)
    obtain ⟨ad303, e303, hx303_0⟩ := Kd.at_int HR0.out x9_1 p303 q303
    cases e303
    replace p303 := eq_true p303
    replace q303 := eq_true q303
    go_wp2
    go_ret
    exact ⟨by first | rfl | (simp; done) | (simp [*]; done), by repeat (first | exact Drawn0.refl _ | apply Drawn0.step)⟩
   rw [if_neg c7] at H
   have c7b0 : decide (a1 < (rd l0 x9_1)) = false := decide_eq_false c7
   clear c7
   have H' := Aside0.mk H
   clear H
   have p303 : 0 ≤ (x9_1 : Int) := zT (by first | (with_reducible assumption) | assumption)
   have q303 : x9_1 < (l0.length : Int) := zT (by first | (with_reducible assumption) | assumption)
   obtain ⟨ad303, e303, hx303_0⟩ := Kd.at_int HR0.out x9_1 p303 q303
   cases e303
   replace p303 := eq_true p303
   replace q303 := eq_true q303
   go_wp2
   go_roundg k1
   case measure => have := HK1.out; omega
   case rel => exact ⟨(wrap64 (x9_1 + 1)), (by first | rfl | (simp; done) | (simp [*]; done)), H', ⟨by have := HK1.out; omega⟩, by repeat (first | exact Drawn0.refl _ | apply Drawn0.step)⟩

/-! ### impl_foretold: function 35 -/
def impl_foretold.f (a0 : Int) (l1 : List Int) : Option Int :=
 if mn a0 (l1.length : Int) = 1 then some (rd l1 ((l1.length : Int) - 1))
 else if mn a0 (l1.length : Int) = 2 then some (wrap64 (wrap64 (2 * rd l1 ((l1.length : Int) - 1)) - rd l1 ((l1.length : Int) - 2)))
 else if mn a0 (l1.length : Int) = 3 then some (wrap64 (wrap64 (3 * wrap64 (rd l1 ((l1.length : Int) - 1) - rd l1 ((l1.length : Int) - 2))) + rd l1 ((l1.length : Int) - 3)))
 else some 0
theorem foretold_x (k : Int) (ga gn : Nat) (A : Option Addr) (c : Nat) (l : List Int) (w : World) (hk : 1 ≤ k) (hk2 : k ≤ 3) (hkl : k ≤ l.length) (ha : w.cell? ⟨ga, 0, none⟩ = some (.slice A l.length c)) (hn : w.cell? ⟨gn, 0, none⟩ = some (.int .i64 (l.length : Int))) (hr : Kd.C (Kd.int .i64) w A l.length l) :
 Calls Try.prog 44 #[.int .i64 k, .pointer (some ⟨ga, 0, none⟩), .pointer (some ⟨gn, 0, none⟩)] w fun e w' => e = .returned (.int .i64 (rd l ((l.length : Int) - k))) ∧ w = w' := by
 have hm := hr.2.1
 obtain ⟨ad, e1, hx⟩ := Kd.at_int hr ((l.length : Int) - k) (by omega) (by omega)
 subst e1
 have hw : wrap64 ((l.length : Int) - k) = (l.length : Int) - k := by unfold wrap64; omega
 have p0 : 0 ≤ (l.length : Int) - k := by omega
 have p1 : (l.length : Int) - k < (l.length : Int) := by omega
 have hm2 : (l.length : Int) ≤ 9223372036854775807 := by omega
 clear hr hm
 go_enter Try.func44, Try.ntmps44
 go_wp2
 go_ret
 exact ⟨rfl, rfl⟩
theorem foretold_world (A1 : Option Addr) (c1 : Nat) (l1 : List Int) (w : World) (hr : Kd.C (Kd.int .i64) w A1 l1.length l1) :
 ((w.alloc (.cells #[.slice A1 l1.length c1] 23)).alloc (.cells #[.int .i64 (l1.length : Int)] 3)).cell? ⟨w.heap.size, 0, none⟩ = some (.slice A1 l1.length c1) ∧
 ((w.alloc (.cells #[.slice A1 l1.length c1] 23)).alloc (.cells #[.int .i64 (l1.length : Int)] 3)).cell? ⟨w.heap.size + 1, 0, none⟩ = some (.int .i64 (l1.length : Int)) ∧
 Kd.C (Kd.int .i64) ((w.alloc (.cells #[.slice A1 l1.length c1] 23)).alloc (.cells #[.int .i64 (l1.length : Int)] 3)) A1 l1.length l1 ∧
 Below w.heap.size w ((w.alloc (.cells #[.slice A1 l1.length c1] 23)).alloc (.cells #[.int .i64 (l1.length : Int)] 3)) := by
 have hb : Below w.heap.size w ((w.alloc (.cells #[.slice A1 l1.length c1] 23)).alloc (.cells #[.int .i64 (l1.length : Int)] 3)) := ((Below.refl _ _).alloc (Nat.le_refl _) _).alloc (by simp) _
 exact ⟨by simp, by simp, Kd.C_below hr hb, hb⟩
set_option maxHeartbeats 4000000 in
set_option maxRecDepth 100000 in
theorem impl_foretold.calls (a0 : Int) (A1 : Option Addr) (c1 : Nat) (l1 : List Int) (r : Int) (w : World) (hr1 : Kd.C (Kd.int .i64) w A1 l1.length l1) (hc1 : l1.length ≤ c1) (h : impl_foretold.f a0 l1 = some r) :
 Calls Try.prog 35 #[.int .i64 a0, .slice A1 l1.length c1] w fun e w' => e = .returned (.int .i64 r) ∧ Below w.heap.size w w' := by
 obtain ⟨ha, hn, hC, hB⟩ := foretold_world A1 c1 l1 w hr1
 have HA := Aside0.mk ha
 have HN := Aside0.mk hn
 have HC := Aside0.mk hC
 have HB := Aside0.mk hB
 clear ha hn hC hB hr1 hc1
 have hmle : mn a0 (l1.length : Int) ≤ (l1.length : Int) := by unfold mn; split <;> omega
 by_cases h1 : mn a0 (l1.length : Int) = 1
 ·have hl := Aside0.mk (show (1 : Int) ≤ (l1.length : Int) by omega)
  have T1 : ((if (l1.length : Int) < a0 then (l1.length : Int) else a0) == 1) = true := beq_iff_eq.mpr h1
  obtain rfl : rd l1 ((l1.length : Int) - 1) = r := by simpa [impl_foretold.f, h1] using h
  clear h1 hmle h
  go_enter Try.func35, Try.ntmps35
  go_wp2_with (go_at_call 44; refine (foretold_x 1 w.heap.size (w.heap.size + 1) A1 c1 l1 _ (by omega) (by omega) hl.out HA.out HN.out HC.out).mono ?_; rintro e w' ⟨rfl, rfl⟩)
  all_goals (go_ret; exact ⟨rfl, HB.out⟩)
 by_cases h2 : mn a0 (l1.length : Int) = 2
 ·have hl := Aside0.mk (show (2 : Int) ≤ (l1.length : Int) by omega)
  have T1 : ((if (l1.length : Int) < a0 then (l1.length : Int) else a0) == 1) = false := beq_eq_false_iff_ne.mpr h1
  have T2 : ((if (l1.length : Int) < a0 then (l1.length : Int) else a0) == 2) = true := beq_iff_eq.mpr h2
  obtain rfl : wrap64 (wrap64 (2 * rd l1 ((l1.length : Int) - 1)) - rd l1 ((l1.length : Int) - 2)) = r := by simpa [impl_foretold.f, h2] using h
  clear h1 h2 hmle h
  obtain ⟨x1, hx1⟩ : ∃ x1, rd l1 ((l1.length : Int) - 1) = x1 := ⟨_, rfl⟩
  obtain ⟨x2, hx2⟩ : ∃ x2, rd l1 ((l1.length : Int) - 2) = x2 := ⟨_, rfl⟩
  have X1 := Aside0.mk hx1
  have X2 := Aside0.mk hx2
  rw [hx1, hx2]
  clear hx1 hx2
  go_enter Try.func35, Try.ntmps35
  go_wp2_with (first | (go_at_call 44; refine (foretold_x 1 w.heap.size (w.heap.size + 1) A1 c1 l1 _ (by omega) (by omega) (by have := hl.out; omega) HA.out HN.out HC.out).mono ?_; rw [X1.out]; rintro e w' ⟨rfl, rfl⟩) | (go_at_call 44; refine (foretold_x 2 w.heap.size (w.heap.size + 1) A1 c1 l1 _ (by omega) (by omega) hl.out HA.out HN.out HC.out).mono ?_; rw [X2.out]; rintro e w' ⟨rfl, rfl⟩))
  all_goals (go_ret; exact ⟨rfl, HB.out⟩)
 by_cases h3 : mn a0 (l1.length : Int) = 3
 ·have hl := Aside0.mk (show (3 : Int) ≤ (l1.length : Int) by omega)
  have T1 : ((if (l1.length : Int) < a0 then (l1.length : Int) else a0) == 1) = false := beq_eq_false_iff_ne.mpr h1
  have T2 : ((if (l1.length : Int) < a0 then (l1.length : Int) else a0) == 2) = false := beq_eq_false_iff_ne.mpr h2
  have T3 : ((if (l1.length : Int) < a0 then (l1.length : Int) else a0) == 3) = true := beq_iff_eq.mpr h3
  obtain rfl : wrap64 (wrap64 (3 * wrap64 (rd l1 ((l1.length : Int) - 1) - rd l1 ((l1.length : Int) - 2))) + rd l1 ((l1.length : Int) - 3)) = r := by simpa [impl_foretold.f, h3] using h
  clear h1 h2 h3 hmle h
  obtain ⟨x1, hx1⟩ : ∃ x1, rd l1 ((l1.length : Int) - 1) = x1 := ⟨_, rfl⟩
  obtain ⟨x2, hx2⟩ : ∃ x2, rd l1 ((l1.length : Int) - 2) = x2 := ⟨_, rfl⟩
  obtain ⟨x3, hx3⟩ : ∃ x3, rd l1 ((l1.length : Int) - 3) = x3 := ⟨_, rfl⟩
  have X1 := Aside0.mk hx1
  have X2 := Aside0.mk hx2
  have X3 := Aside0.mk hx3
  rw [hx1, hx2, hx3]
  clear hx1 hx2 hx3
  go_enter Try.func35, Try.ntmps35
  go_wp2_with (first | (go_at_call 44; refine (foretold_x 1 w.heap.size (w.heap.size + 1) A1 c1 l1 _ (by omega) (by omega) (by have := hl.out; omega) HA.out HN.out HC.out).mono ?_; rw [X1.out]; rintro e w' ⟨rfl, rfl⟩) | (go_at_call 44; refine (foretold_x 2 w.heap.size (w.heap.size + 1) A1 c1 l1 _ (by omega) (by omega) (by have := hl.out; omega) HA.out HN.out HC.out).mono ?_; rw [X2.out]; rintro e w' ⟨rfl, rfl⟩) | (go_at_call 44; refine (foretold_x 3 w.heap.size (w.heap.size + 1) A1 c1 l1 _ (by omega) (by omega) hl.out HA.out HN.out HC.out).mono ?_; rw [X3.out]; rintro e w' ⟨rfl, rfl⟩))
  all_goals (go_ret; exact ⟨rfl, HB.out⟩)
 have T1 : ((if (l1.length : Int) < a0 then (l1.length : Int) else a0) == 1) = false := beq_eq_false_iff_ne.mpr h1
 have T2 : ((if (l1.length : Int) < a0 then (l1.length : Int) else a0) == 2) = false := beq_eq_false_iff_ne.mpr h2
 have T3 : ((if (l1.length : Int) < a0 then (l1.length : Int) else a0) == 3) = false := beq_eq_false_iff_ne.mpr h3
 obtain rfl : 0 = r := by simpa [impl_foretold.f, h1, h2, h3] using h
 clear h1 h2 h3 hmle h
 go_enter Try.func35, Try.ntmps35
 go_wp2
 all_goals (go_ret; exact ⟨rfl, HB.out⟩)


/-! ### impl_UnGuess: function 22 -/
mutual
def impl_UnGuess.j0 : Nat → Int → List Int → Bool → Option (List Int × Bool)
 | 0, _, _, _ => none
 | k + 1, x0, x1, x22 => if x22 = true then (some (([] : List Int), false)) else (impl_UnGuess.l0 k x0 ([] : List Int) x1 (x1.length : Int) 0)
def impl_UnGuess.l0 : Nat → Int → List Int → List Int → Int → Int → Option (List Int × Bool)
 | 0, _, _, _, _, _ => none
 | k + 1, x0, x6, x23, x24, x25 => if x25 < x24 then (if 0 ≤ x25 then (if x25 < (x23.length : Int) then ((impl_foretold.f x0 x6).bind fun t307 => ((impl_sample.f (wrap64 ((rd x23 x25) + t307))).bind fun t308 => (if t308 = true then (if x6.length < 17592186044416 then (impl_UnGuess.l0 k x0 (x6 ++ [wrap64 ((rd x23 x25) + t307)]) x23 x24 (wrap64 (x25 + 1))) else (none)) else (some (([] : List Int), false))))) else (none)) else (none)) else (some (x6, true))
end
def impl_UnGuess.f (k : Nat) (a0 : Int) (l1 : List Int) : Option (List Int × Bool) := (impl_orderOk.f a0).bind fun t304 => (if t304 = true then (if (l1.length : Int) > 512 then (impl_UnGuess.j0 k a0 l1 true) else ((impl_within.f k l1 10000000000).bind fun t305 => (impl_UnGuess.j0 k a0 l1 (!t305)))) else (impl_UnGuess.j0 k a0 l1 true))
theorem impl_UnGuess.mono_l : ∀ k, (∀ y0 y1 y2, LeO (impl_UnGuess.j0 k y0 y1 y2) (impl_UnGuess.j0 (k + 1) y0 y1 y2)) ∧ (∀ y0 y1 y2 y3 y4, LeO (impl_UnGuess.l0 k y0 y1 y2 y3 y4) (impl_UnGuess.l0 (k + 1) y0 y1 y2 y3 y4))
 | 0 => ⟨fun _ _ _ r h => by simp [impl_UnGuess.j0] at h, fun _ _ _ _ _ r h => by simp [impl_UnGuess.l0] at h⟩
 | k + 1 => by
  obtain ⟨ih0, ih1⟩ := impl_UnGuess.mono_l k
  refine ⟨?_, ?_⟩
  ·intro y0 y1 y2
   unfold impl_UnGuess.j0
   repeat' first
   | (with_reducible exact ih0 _ _ _)
   | (with_reducible exact ih1 _ _ _ _ _)
   | (with_reducible exact impl_within.mono _ _ _)
   | (with_reducible exact LeO.refl _)
   | (with_reducible exact LeO.none _)
   | (with_reducible refine LeO.ite ?_ ?_)
   | (with_reducible refine LeO.bind ?_ (fun _ => ?_))
   | exact ih0 _ _ _
   | exact ih1 _ _ _ _ _
   | exact impl_within.mono _ _ _
   | exact LeO.none _
   | refine LeO.ite ?_ ?_
   | refine LeO.bind ?_ (fun _ => ?_)
  ·intro y0 y1 y2 y3 y4
   unfold impl_UnGuess.l0
   repeat' first
   | (with_reducible exact ih0 _ _ _)
   | (with_reducible exact ih1 _ _ _ _ _)
   | (with_reducible exact impl_within.mono _ _ _)
   | (with_reducible exact LeO.refl _)
   | (with_reducible exact LeO.none _)
   | (with_reducible refine LeO.ite ?_ ?_)
   | (with_reducible refine LeO.bind ?_ (fun _ => ?_))
   | exact ih0 _ _ _
   | exact ih1 _ _ _ _ _
   | exact impl_within.mono _ _ _
   | exact LeO.none _
   | refine LeO.ite ?_ ?_
   | refine LeO.bind ?_ (fun _ => ?_)
theorem impl_UnGuess.mono : ∀ a0 a1 k, LeO (impl_UnGuess.f k a0 a1) (impl_UnGuess.f (k + 1) a0 a1) := by
 intro a0 a1 k
 obtain ⟨ih0, ih1⟩ := impl_UnGuess.mono_l k
 unfold impl_UnGuess.f
 repeat' first
  | (with_reducible exact ih0 _ _ _)
  | (with_reducible exact ih1 _ _ _ _ _)
  | (with_reducible exact impl_within.mono _ _ _)
  | (with_reducible exact LeO.refl _)
  | (with_reducible exact LeO.none _)
  | (with_reducible refine LeO.ite ?_ ?_)
  | (with_reducible refine LeO.bind ?_ (fun _ => ?_))
  | exact ih0 _ _ _
  | exact ih1 _ _ _ _ _
  | exact impl_within.mono _ _ _
  | exact LeO.none _
  | refine LeO.ite ?_ ?_
  | refine LeO.bind ?_ (fun _ => ?_)
set_option maxHeartbeats 8000000 in
set_option maxRecDepth 100000 in
theorem impl_UnGuess.calls (k : Nat) (a0 : Int) (A1 : Option Addr) (c1 : Nat) (l1 : List Int) (r1 : List Int) (r2 : Bool) (w : World) (hr1 : Kd.C (Kd.int .i64) w A1 l1.length l1) (hc1 : l1.length ≤ c1) (h : impl_UnGuess.f k a0 l1 = some (r1, r2)) :
 Calls Try.prog 22 #[.int .i64 a0, .slice A1 l1.length c1] w fun e w' => ∃ v0_ : Value, e = .returned (.tuple #[v0_, .bool r2]) ∧ Kd.R (Kd.int .i64) 3 w' w.heap.size (fun _ => True) v0_ r1 ∧ Below w.heap.size w w' := by
 have HR1 := Aside0.mk hr1
 have HC1 := Aside0.mk hc1
 clear hr1 hc1
 have HB := Aside0.mk (Below.refl w.heap.size w)
 have H : ((impl_orderOk.f a0).bind fun t304 => (if t304 = true then (if (l1.length : Int) > 512 then (impl_UnGuess.j0 k a0 l1 true) else ((impl_within.f k l1 10000000000).bind fun t305 => (impl_UnGuess.j0 k a0 l1 (!t305)))) else (impl_UnGuess.j0 k a0 l1 true))) = some (r1, r2) := h
 clear h
 have HC3 := Aside0.mk H
 clear H
 go_enter Try.func22, Try.ntmps22
 go_upto_region 1 with (fail)
 go_cut [22] (fun v22 wc => ∃ (kq : Nat) (x22_2 : Bool), v22 = .bool x22_2 ∧ Aside0 (impl_UnGuess.j0 kq a0 l1 x22_2 = some (r1, r2)) ∧ Aside0 (kq ≤ k) ∧ Aside0 (Below w.heap.size w wc))
 case first =>
  have H := HC3.out
  clear HC3
  replace H := Option.bind_eq_some_iff.mp H
  obtain ⟨t304, A40, H⟩ := H
  replace H : (if t304 = true then (if (l1.length : Int) > 512 then (impl_UnGuess.j0 k a0 l1 true) else ((impl_within.f k l1 10000000000).bind fun t305 => (impl_UnGuess.j0 k a0 l1 (!t305)))) else (impl_UnGuess.j0 k a0 l1 true)) = some (r1, r2) := H
  have A4 := Aside0.mk A40
  clear A40
  by_cases c5 : t304 = true
  case neg =>
   replace c5 := Bool.eq_false_iff.mpr c5
   subst c5
   have H1 : (impl_UnGuess.j0 k a0 l1 true) = some (r1, r2) := by rw [if_neg (show ¬ (false = true) by decide)] at H; exact H
   clear H
   have H := H1
   clear H1
   have H' := Aside0.mk H
   clear H
   go_wp2_with (first | ((with_reducible refine gate_callee (f := 33) rfl ?_); refine goesL_ (some 11) rfl rfl Try.func33 (by kernel_rfl) rfl #[.int .i64 a0] rfl (by (try simp only [List.map_toArray, List.map_cons, List.map_nil]); first | done | rfl | (simp only [List.length_drop, List.length_take]; rfl)) ?_; (with_reducible refine (impl_orderOk.calls a0 false _ A4.out).mono ?_); rintro e w' ⟨rfl, ⟨nd, rfl⟩⟩; refine ⟨_, rfl, ?_⟩))
   go_meet
   case rel => exact ⟨_, (true), (by first | rfl | (simp; done) | (simp [*]; done)), H', ⟨by first | omega | exact Nat.le_refl _⟩, ⟨by repeat (first | (with_reducible first | exact HB.out | apply zBa | apply zBn | apply zBd) | exact HB.out)⟩⟩
  subst c5
  have H1 : (if (l1.length : Int) > 512 then (impl_UnGuess.j0 k a0 l1 true) else ((impl_within.f k l1 10000000000).bind fun t305 => (impl_UnGuess.j0 k a0 l1 (!t305)))) = some (r1, r2) := by rw [if_pos rfl] at H; exact H
  clear H
  have H := H1
  clear H1
  by_cases c6 : (l1.length : Int) > 512
  case pos =>
   rw [if_pos c6] at H
   have c6b0 : decide (512 < (l1.length : Int)) = true := zE c6
   have c6b1 : decide (512 < l1.length) = true := zE (by omega)
   clear c6
   (first | rw [c6b0] | (simp only [i64_w, i32_w]; rw [c6b0]) | skip)
   have H' := Aside0.mk H
   clear H
   go_wp2_with (first | ((with_reducible refine gate_callee (f := 33) rfl ?_); refine goesL_ (some 11) rfl rfl Try.func33 (by kernel_rfl) rfl #[.int .i64 a0] rfl (by (try simp only [List.map_toArray, List.map_cons, List.map_nil]); first | done | rfl | (simp only [List.length_drop, List.length_take]; rfl)) ?_; (with_reducible refine (impl_orderOk.calls a0 true _ A4.out).mono ?_); rintro e w' ⟨rfl, ⟨nd, rfl⟩⟩; refine ⟨_, rfl, ?_⟩))
   go_meet
   case rel => exact ⟨_, (true), (by first | rfl | (simp; done) | (simp [*]; done)), H', ⟨by first | omega | exact Nat.le_refl _⟩, ⟨by repeat (first | (with_reducible first | exact HB.out | apply zBa | apply zBn | apply zBd) | exact HB.out)⟩⟩
  rw [if_neg c6] at H
  have c6b0 : decide (512 < (l1.length : Int)) = false := decide_eq_false c6
  have c6b1 : decide (512 < l1.length) = false := decide_eq_false (by omega)
  clear c6
  (first | rw [c6b0] | (simp only [i64_w, i32_w]; rw [c6b0]) | skip)
  replace H := Option.bind_eq_some_iff.mp H
  obtain ⟨t305, A70, H⟩ := H
  replace H : (impl_UnGuess.j0 k a0 l1 (!t305)) = some (r1, r2) := H
  have A7 := Aside0.mk A70
  clear A70
  have H' := Aside0.mk H
  clear H
  go_wp2_with (first | ((with_reducible refine gate_callee (f := 33) rfl ?_); refine goesL_ (some 11) rfl rfl Try.func33 (by kernel_rfl) rfl #[.int .i64 a0] rfl (by (try simp only [List.map_toArray, List.map_cons, List.map_nil]); first | done | rfl | (simp only [List.length_drop, List.length_take]; rfl)) ?_; (with_reducible refine (impl_orderOk.calls a0 true _ A4.out).mono ?_); rintro e w' ⟨rfl, ⟨nd, rfl⟩⟩; refine ⟨_, rfl, ?_⟩) | (go_at_call 34; (with_reducible refine (impl_within.calls k _ _ l1 10000000000 t305 _ ?side1 ?side2 A7.out).mono ?_); (case side1 => repeat (first | exact (Kd.C_below HR1.out (by repeat (first | (with_reducible first | exact HB.out | apply zBa | apply zBn | apply zBd) | exact HB.out))) | (with_reducible first | refine zCa ?_ _ | refine zCn ?_ _ | refine zCd ?_))); (case side2 => exact HC1.out); rintro e w' ⟨rfl, ⟨nd, rfl⟩⟩))
  go_meet
  case rel => exact ⟨_, (!t305), (by first | rfl | (simp; done) | (simp [*]; done)), H', ⟨by first | omega | exact Nat.le_refl _⟩, ⟨by repeat (first | (with_reducible first | exact HB.out | apply zBa | apply zBn | apply zBd) | exact HB.out)⟩⟩
 case rest =>
  clear HC3
  try clear c1
  try clear c2
  try clear p2
  try clear c3
  try clear c5
  try clear c6
  try clear c6b0
  try clear c6b1
  obtain ⟨kq, x22_2, rfl, HA, HJ2, HB⟩ := hcut
  cases kq with
  | zero => exact absurd HA.out (by simp [impl_UnGuess.j0])
  | succ kj2 =>
   have H := HA.out
   clear HA
   simp only [impl_UnGuess.j0] at H
   by_cases c8 : x22_2 = true
   case pos =>
    subst c8
    have H1 : (some (([] : List Int), false)) = some (r1, r2) := by rw [if_pos rfl] at H; exact H
    clear H
    have H := H1
    clear H1
    simp only [Option.some.injEq, Prod.mk.injEq] at H
    obtain ⟨rfl, rfl⟩ := H
    go_wp2
    go_ret2
    exact ⟨_, by first | rfl | (simp [errW_none, errW_some] <;> rfl) | (simp [*, errW_none, errW_some] <;> rfl), by first | exact Kd.R_nil _ _ _ _ _ | exact Kd.N_nil _ _ _ _ _ | exact Kd.V_nil _ _ _ _ _ | exact Kd.Q_nil _ _ _ _ _ | exact Kd.S_nil _ _ _ _ _, by repeat (first | (with_reducible first | exact HB.out | apply zBa | apply zBn | apply zBd) | exact HB.out)⟩
   replace c8 := Bool.eq_false_iff.mpr c8
   subst c8
   have H1 : (impl_UnGuess.l0 kj2 a0 ([] : List Int) l1 (l1.length : Int) 0) = some (r1, r2) := by rw [if_neg (show ¬ (false = true) by decide)] at H; exact H
   clear H
   have H := H1
   clear H1
   have H' := Aside0.mk H
   clear H
   go_wp2
   go_loopg [6, 25] kj2 (fun kq v6 v25 w' => ∃ (x6_2 : List Int) (x25_2 : Int), v25 = .int .i64 x25_2 ∧ Aside0 (impl_UnGuess.l0 kq a0 x6_2 l1 (l1.length : Int) x25_2 = some (r1, r2)) ∧ Aside0 (kq ≤ kj2) ∧ Aside0 (Kd.R (Kd.int .i64) 3 w' w.heap.size (fun _ => True) v6 x6_2) ∧ Aside0 (Below w.heap.size w w'))
   case atStart => exact ⟨(([] : List Int)), (0), (by first | rfl | (simp; done) | (simp [*]; done)), H', ⟨Nat.le_refl _⟩, ⟨by first | exact Kd.R_nil _ _ _ _ _ | exact Kd.N_nil _ _ _ _ _ | exact Kd.V_nil _ _ _ _ _ | exact Kd.Q_nil _ _ _ _ _ | exact Kd.S_nil _ _ _ _ _⟩, ⟨by repeat (first | (with_reducible first | exact HB.out | apply zBa | apply zBn | apply zBd) | exact HB.out)⟩⟩
   case round =>
    clear H'
    try clear c1
    try clear c2
    try clear p2
    try clear c3
    try clear c5
    try clear c6
    try clear c6b0
    try clear c6b1
    try clear c8
    try clear p2
    obtain ⟨x6_2, x25_2, rfl, HA, HK2, HO_6, HB⟩ := hrel
    cases gk with
    | zero => exact absurd HA.out (by simp [impl_UnGuess.l0])
    | succ k2 =>
     have H := HA.out
     clear HA
     simp only [impl_UnGuess.l0] at H
     by_cases c9 : x25_2 < (l1.length : Int)
     case neg =>
      rw [if_neg c9] at H
      have c9b0 : decide (x25_2 < (l1.length : Int)) = false := decide_eq_false c9
      clear c9
      simp only [Option.some.injEq, Prod.mk.injEq] at H
      obtain ⟨rfl, rfl⟩ := H
      go_wp2
      go_ret2
      exact ⟨_, by first | rfl | (simp [errW_none, errW_some] <;> rfl) | (simp [*, errW_none, errW_some] <;> rfl), by (with_reducible repeat (first | apply zRa | apply zRn | apply zRd)); first | exact HO_6.out | (subst_vars; exact HO_6.out), by repeat (first | (with_reducible first | exact HB.out | apply zBa | apply zBn | apply zBd) | exact HB.out)⟩
     rw [if_pos c9] at H
     have c9b0 : decide (x25_2 < (l1.length : Int)) = true := zE c9
     clear c9
     by_cases c10 : 0 ≤ x25_2
     case neg =>
      rw [if_neg c10] at H
      exact absurd H (by simp)
     rw [if_pos c10] at H
     have c10b0 : decide (0 ≤ x25_2) = true := zE c10
     clear c10
     by_cases c11 : x25_2 < (l1.length : Int)
     case neg =>
      rw [if_neg c11] at H
      exact absurd H (by simp)
     rw [if_pos c11] at H
     have c11b0 : decide (x25_2 < (l1.length : Int)) = true := zE c11
     clear c11
     replace H := Option.bind_eq_some_iff.mp H
     obtain ⟨t307, A120, H⟩ := H
     replace H : ((impl_sample.f (wrap64 ((rd l1 x25_2) + t307))).bind fun t308 => (if t308 = true then (if x6_2.length < 17592186044416 then (impl_UnGuess.l0 k2 a0 (x6_2 ++ [wrap64 ((rd l1 x25_2) + t307)]) l1 (l1.length : Int) (wrap64 (x25_2 + 1))) else (none)) else (some (([] : List Int), false)))) = some (r1, r2) := H
     have A12 := Aside0.mk A120
     clear A120
     replace H := Option.bind_eq_some_iff.mp H
     obtain ⟨t308, A130, H⟩ := H
     replace H : (if t308 = true then (if x6_2.length < 17592186044416 then (impl_UnGuess.l0 k2 a0 (x6_2 ++ [wrap64 ((rd l1 x25_2) + t307)]) l1 (l1.length : Int) (wrap64 (x25_2 + 1))) else (none)) else (some (([] : List Int), false))) = some (r1, r2) := H
     have A13 := Aside0.mk A130
     clear A130
     by_cases c14 : t308 = true
     case neg =>
      replace c14 := Bool.eq_false_iff.mpr c14
      subst c14
      have H1 : (some (([] : List Int), false)) = some (r1, r2) := by rw [if_neg (show ¬ (false = true) by decide)] at H; exact H
      clear H
      have H := H1
      clear H1
      simp only [Option.some.injEq, Prod.mk.injEq] at H
      obtain ⟨rfl, rfl⟩ := H
      have p306 : 0 ≤ (x25_2 : Int) := zT (by first | (with_reducible assumption) | assumption)
      have q306 : x25_2 < (l1.length : Int) := zT (by first | (with_reducible assumption) | assumption)
      obtain ⟨ad306, e306, hx306_0⟩ := Kd.at_int HR1.out x25_2 p306 q306
      cases e306
      replace hx306_0 := (HB.out.cell (zW w _ hx306_0)).trans hx306_0
      replace p306 := eq_true p306
      replace q306 := eq_true q306
      obtain ⟨Ao19, co19, eo19⟩ := Kd.R_slice HO_6.out
      subst eo19
      go_wp2_with (first | ((with_reducible refine gate_callee (f := 35) rfl ?_); refine goesL_ (some 32) rfl rfl Try.func35 (by kernel_rfl) rfl #[.int .i64 a0, .slice Ao19 x6_2.length co19] rfl (by (try simp only [List.map_toArray, List.map_cons, List.map_nil]); first | done | rfl | (simp only [List.length_drop, List.length_take]; rfl)) ?_; (with_reducible refine (impl_foretold.calls a0 _ _ x6_2 t307 _ ?side1 ?side2 A12.out).mono ?_); (case side1 => repeat (first | exact (Kd.R_reads' HO_6.out).2.2 | (with_reducible first | refine zCa ?_ _ | refine zCn ?_ _ | refine zCd ?_))); (case side2 => exact (Kd.R_reads' HO_6.out).2.1); rintro e w20 ⟨rfl, hb⟩; refine ⟨_, rfl, ?_⟩; have n0_ := Aside0.mk (Kd.R_below (by (with_reducible repeat (first | apply zRa | apply zRn | apply zRd)); first | exact HO_6.out | (subst_vars; exact HO_6.out)) hb); have n1_ := Aside0.mk (below_step (by repeat (first | (with_reducible first | exact HB.out | apply zBa | apply zBn | apply zBd) | exact HB.out)) hb); clear HO_6; clear HB; have HO_6 := n0_; have HB := n1_; clear n0_ n1_; (try clear hb); (try clear hb2); (try clear hk); (try clear hi)) | ((with_reducible refine gate_callee (f := 32) rfl ?_); refine goesL_ (some 35) rfl rfl Try.func32 (by kernel_rfl) rfl #[.int .i64 (wrap64 ((rd l1 x25_2) + t307))] rfl (by (try simp only [List.map_toArray, List.map_cons, List.map_nil]); first | done | rfl | (simp only [List.length_drop, List.length_take]; rfl)) ?_; (with_reducible refine (impl_sample.calls (wrap64 ((rd l1 x25_2) + t307)) false _ A13.out).mono ?_); rintro e w' ⟨rfl, ⟨nd, rfl⟩⟩; refine ⟨_, rfl, ?_⟩))
      go_ret2
      exact ⟨_, by first | rfl | (simp [errW_none, errW_some] <;> rfl) | (simp [*, errW_none, errW_some] <;> rfl), by first | exact Kd.R_nil _ _ _ _ _ | exact Kd.N_nil _ _ _ _ _ | exact Kd.V_nil _ _ _ _ _ | exact Kd.Q_nil _ _ _ _ _ | exact Kd.S_nil _ _ _ _ _, by repeat (first | (with_reducible first | exact HB.out | apply zBa | apply zBn | apply zBd) | exact HB.out)⟩
     subst c14
     have H1 : (if x6_2.length < 17592186044416 then (impl_UnGuess.l0 k2 a0 (x6_2 ++ [wrap64 ((rd l1 x25_2) + t307)]) l1 (l1.length : Int) (wrap64 (x25_2 + 1))) else (none)) = some (r1, r2) := by rw [if_pos rfl] at H; exact H
     clear H
     have H := H1
     clear H1
     by_cases c15 : x6_2.length < 17592186044416
     case neg =>
      rw [if_neg c15] at H
      exact absurd H (by simp)
     rw [if_pos c15] at H
     have LMc15 := Aside0.mk c15
     clear c15
     obtain ⟨y309, hy309⟩ : ∃ y_ : List Int, y_ = (x6_2 ++ [wrap64 ((rd l1 x25_2) + t307)]) := ⟨_, rfl⟩
     replace H : (impl_UnGuess.l0 k2 a0 y309 l1 (l1.length : Int) (wrap64 (x25_2 + 1))) = some (r1, r2) := by first | (rw [hy309]; with_reducible exact H) | (have H2_ := (Option.bind_some _ _).symm.trans H; rw [hy309]; with_reducible exact H2_) | (have H2_ := (Option.bind_some _ _).symm.trans H; with_reducible exact H2_) | with_reducible exact H | (rw [hy309]; exact H) | exact H
     have Ny309 := Aside0.mk hy309
     clear hy309
     have H' := Aside0.mk H
     clear H
     have p306 : 0 ≤ (x25_2 : Int) := zT (by first | (with_reducible assumption) | assumption)
     have q306 : x25_2 < (l1.length : Int) := zT (by first | (with_reducible assumption) | assumption)
     obtain ⟨ad306, e306, hx306_0⟩ := Kd.at_int HR1.out x25_2 p306 q306
     cases e306
     replace hx306_0 := (HB.out.cell (zW w _ hx306_0)).trans hx306_0
     replace p306 := eq_true p306
     replace q306 := eq_true q306
     obtain ⟨Ao16, co16, eo16⟩ := Kd.R_slice HO_6.out
     subst eo16
     go_wp2_with (first | ((with_reducible refine gate_callee (f := 35) rfl ?_); refine goesL_ (some 32) rfl rfl Try.func35 (by kernel_rfl) rfl #[.int .i64 a0, .slice Ao16 x6_2.length co16] rfl (by (try simp only [List.map_toArray, List.map_cons, List.map_nil]); first | done | rfl | (simp only [List.length_drop, List.length_take]; rfl)) ?_; (with_reducible refine (impl_foretold.calls a0 _ _ x6_2 t307 _ ?side1 ?side2 A12.out).mono ?_); (case side1 => repeat (first | exact (Kd.R_reads' HO_6.out).2.2 | (with_reducible first | refine zCa ?_ _ | refine zCn ?_ _ | refine zCd ?_))); (case side2 => exact (Kd.R_reads' HO_6.out).2.1); rintro e w17 ⟨rfl, hb⟩; refine ⟨_, rfl, ?_⟩; have n0_ := Aside0.mk (Kd.R_below (by (with_reducible repeat (first | apply zRa | apply zRn | apply zRd)); first | exact HO_6.out | (subst_vars; exact HO_6.out)) hb); have n1_ := Aside0.mk (below_step (by repeat (first | (with_reducible first | exact HB.out | apply zBa | apply zBn | apply zBd) | exact HB.out)) hb); clear HO_6; clear HB; have HO_6 := n0_; have HB := n1_; clear n0_ n1_; (try clear hb); (try clear hb2); (try clear hk); (try clear hi)) | ((with_reducible refine gate_callee (f := 32) rfl ?_); refine goesL_ (some 35) rfl rfl Try.func32 (by kernel_rfl) rfl #[.int .i64 (wrap64 ((rd l1 x25_2) + t307))] rfl (by (try simp only [List.map_toArray, List.map_cons, List.map_nil]); first | done | rfl | (simp only [List.length_drop, List.length_take]; rfl)) ?_; (with_reducible refine (impl_sample.calls (wrap64 ((rd l1 x25_2) + t307)) true _ A13.out).mono ?_); rintro e w' ⟨rfl, ⟨nd, rfl⟩⟩; refine ⟨_, rfl, ?_⟩) | ((with_reducible refine gate_builtin (b := .append) (xs := #[.tmp 37, .tmp 39]) rfl ?_); (try (refine gate_guard (by rfl) ?_; dsimp only)); at_builtin; refine Kd.R_append (Kd.int .i64) (w0 := w) w.heap.size rfl (.tmp 37) (.tmp 39) 23 3 (.int .i64 0) 8 rfl Try.underlying23 info3 rfl (by decide) (by omega) (.slice Ao16 x6_2.length co16) x6_2 (wrap64 ((rd l1 x25_2) + t307)) [.int .i64 (wrap64 ((rd l1 x25_2) + t307))] (fun _ => True) (fun _ => False) rfl rfl ?aP (fun _ hk => hk.elim) ?aF ?aO ?aB ?aS ?aL ?_; (case aP => exact rfl); (case aB => exact (by repeat (first | (with_reducible first | exact HB.out | apply zBa | apply zBn | apply zBd) | exact HB.out))); (case aF => exact (fun _ _ => trivial)); (case aO => exact (by (with_reducible repeat (first | apply zRa | apply zRn | apply zRd)); first | exact HO_6.out | (subst_vars; exact HO_6.out))); (case aS => exact (below_size (by repeat (first | (with_reducible first | exact HB.out | apply zBa | apply zBn | apply zBd) | exact HB.out)))); (case aL => have := LMc15.out; omega); intro v310 w18 ho hb hg hat; (first | rw [← Ny309.out] at ho | (simp only [Int.reduceToNat] at ho; rw [← Ny309.out] at ho)); have n0_ := Aside0.mk (hb); have n1_ := Aside0.mk (ho); clear HB; clear HO_6; have HB := n0_; have HO311 := n1_; clear n0_ n1_; clear ho hb hg hat))
     go_roundg k2
     case measure => have := HJ2.out; have := HK2.out; omega
     case rel => exact ⟨(y309), (wrap64 (x25_2 + 1)), (by first | rfl | (simp; done) | (simp [*]; done)), H', ⟨by have := HJ2.out; have := HK2.out; omega⟩, ⟨by (with_reducible repeat (first | apply zRa | apply zRn | apply zRd)); first | exact HO311.out | (subst_vars; exact HO311.out)⟩, ⟨by repeat (first | (with_reducible first | exact HB.out | apply zBa | apply zBn | apply zBd) | exact HB.out)⟩⟩

/-! ### impl_SignalOk: function 36 -/
def impl_SignalOk.f (k : Nat) (l0 : List Int) : Option (Bool) := if (l0.length : Int) ≤ 512 then ((impl_within.f k l0 1000000000).bind fun t312 => (some t312)) else (some false)
theorem impl_SignalOk.mono : ∀ a0 k, LeO (impl_SignalOk.f k a0) (impl_SignalOk.f (k + 1) a0) := by
 intro a0 k
 unfold impl_SignalOk.f
 repeat' first
  | (with_reducible exact impl_within.mono _ _ _)
  | (with_reducible exact LeO.refl _)
  | (with_reducible exact LeO.none _)
  | (with_reducible refine LeO.ite ?_ ?_)
  | (with_reducible refine LeO.bind ?_ (fun _ => ?_))
  | exact impl_within.mono _ _ _
  | exact LeO.none _
  | refine LeO.ite ?_ ?_
  | refine LeO.bind ?_ (fun _ => ?_)
set_option maxHeartbeats 8000000 in
set_option maxRecDepth 100000 in
theorem impl_SignalOk.calls (k : Nat) (A0 : Option Addr) (c0 : Nat) (l0 : List Int) (r : Bool) (w : World) (hr0 : Kd.C (Kd.int .i64) w A0 l0.length l0) (hc0 : l0.length ≤ c0) (h : impl_SignalOk.f k l0 = some r) :
 Calls Try.prog 36 #[.slice A0 l0.length c0] w fun e w' => e = .returned (.bool r) ∧ Drawn0 w w' := by
 have HR0 := Aside0.mk hr0
 have HC0 := Aside0.mk hc0
 clear hr0 hc0
 have H : (if (l0.length : Int) ≤ 512 then ((impl_within.f k l0 1000000000).bind fun t312 => (some t312)) else (some false)) = some r := h
 clear h
 by_cases c2 : (l0.length : Int) ≤ 512
 case neg =>
  rw [if_neg c2] at H
  have c2b0 : decide ((l0.length : Int) ≤ 512) = false := decide_eq_false c2
  have c2b1 : decide (l0.length ≤ 512) = false := decide_eq_false (by omega)
  clear c2
  obtain rfl := Option.some.inj H
  go_enter Try.func36, Try.ntmps36
  go_wp2
  go_ret
  exact ⟨by first | rfl | (simp; done) | (simp [*]; done), by repeat (first | exact Drawn0.refl _ | apply Drawn0.step)⟩
 rw [if_pos c2] at H
 have c2b0 : decide ((l0.length : Int) ≤ 512) = true := zE c2
 have c2b1 : decide (l0.length ≤ 512) = true := zE (by omega)
 clear c2
 replace H := Option.bind_eq_some_iff.mp H
 obtain ⟨t312, A30, H⟩ := H
 replace H : (some t312) = some r := H
 have A3 := Aside0.mk A30
 clear A30
 obtain rfl := Option.some.inj H
 go_enter Try.func36, Try.ntmps36
 go_wp2_with (first | (go_at_call 34; (with_reducible refine (impl_within.calls k _ _ l0 1000000000 t312 _ ?side1 ?side2 A3.out).mono ?_); (case side1 => repeat (first | exact HR0.out | (with_reducible first | refine zCa ?_ _ | refine zCn ?_ _ | refine zCd ?_))); (case side2 => exact HC0.out); rintro e w' ⟨rfl, ⟨nd, rfl⟩⟩))
 go_ret
 exact ⟨by first | rfl | (simp; done) | (simp [*]; done), by repeat (first | exact Drawn0.refl _ | apply Drawn0.step)⟩

/-! ### impl_riceOk: function 45 -/
def impl_riceOk.f (k : Nat) (l0 : List Int) : Option (Bool) := if (l0.length : Int) ≤ 128 then ((impl_within.f k l0 1000000000).bind fun t313 => (some t313)) else (some false)
theorem impl_riceOk.mono : ∀ a0 k, LeO (impl_riceOk.f k a0) (impl_riceOk.f (k + 1) a0) := by
 intro a0 k
 unfold impl_riceOk.f
 repeat' first
  | (with_reducible exact impl_within.mono _ _ _)
  | (with_reducible exact LeO.refl _)
  | (with_reducible exact LeO.none _)
  | (with_reducible refine LeO.ite ?_ ?_)
  | (with_reducible refine LeO.bind ?_ (fun _ => ?_))
  | exact impl_within.mono _ _ _
  | exact LeO.none _
  | refine LeO.ite ?_ ?_
  | refine LeO.bind ?_ (fun _ => ?_)
set_option maxHeartbeats 8000000 in
set_option maxRecDepth 100000 in
theorem impl_riceOk.calls (k : Nat) (A0 : Option Addr) (c0 : Nat) (l0 : List Int) (r : Bool) (w : World) (hr0 : Kd.C (Kd.int .i64) w A0 l0.length l0) (hc0 : l0.length ≤ c0) (h : impl_riceOk.f k l0 = some r) :
 Calls Try.prog 45 #[.slice A0 l0.length c0] w fun e w' => e = .returned (.bool r) ∧ Drawn0 w w' := by
 have HR0 := Aside0.mk hr0
 have HC0 := Aside0.mk hc0
 clear hr0 hc0
 have H : (if (l0.length : Int) ≤ 128 then ((impl_within.f k l0 1000000000).bind fun t313 => (some t313)) else (some false)) = some r := h
 clear h
 by_cases c2 : (l0.length : Int) ≤ 128
 case neg =>
  rw [if_neg c2] at H
  have c2b0 : decide ((l0.length : Int) ≤ 128) = false := decide_eq_false c2
  have c2b1 : decide (l0.length ≤ 128) = false := decide_eq_false (by omega)
  clear c2
  obtain rfl := Option.some.inj H
  go_enter Try.func45, Try.ntmps45
  go_wp2
  go_ret
  exact ⟨by first | rfl | (simp; done) | (simp [*]; done), by repeat (first | exact Drawn0.refl _ | apply Drawn0.step)⟩
 rw [if_pos c2] at H
 have c2b0 : decide ((l0.length : Int) ≤ 128) = true := zE c2
 have c2b1 : decide (l0.length ≤ 128) = true := zE (by omega)
 clear c2
 replace H := Option.bind_eq_some_iff.mp H
 obtain ⟨t313, A30, H⟩ := H
 replace H : (some t313) = some r := H
 have A3 := Aside0.mk A30
 clear A30
 obtain rfl := Option.some.inj H
 go_enter Try.func45, Try.ntmps45
 go_wp2_with (first | (go_at_call 34; (with_reducible refine (impl_within.calls k _ _ l0 1000000000 t313 _ ?side1 ?side2 A3.out).mono ?_); (case side1 => repeat (first | exact HR0.out | (with_reducible first | refine zCa ?_ _ | refine zCn ?_ _ | refine zCd ?_))); (case side2 => exact HC0.out); rintro e w' ⟨rfl, ⟨nd, rfl⟩⟩))
 go_ret
 exact ⟨by first | rfl | (simp; done) | (simp [*]; done), by repeat (first | exact Drawn0.refl _ | apply Drawn0.step)⟩

/-! ### impl_folded: function 48 -/
def impl_folded.f (a0 : Int) : Option (Int) := if a0 < 0 then (some (wrap64 ((wrap64 ((-2) * a0)) - 1))) else (some (wrap64 (2 * a0)))
set_option maxHeartbeats 8000000 in
set_option maxRecDepth 100000 in
theorem impl_folded.calls (a0 : Int) (r : Int) (w : World) (h : impl_folded.f a0 = some r) :
 Calls Try.prog 48 #[.int .i64 a0] w fun e w' => e = .returned (.int .i64 r) ∧ Drawn0 w w' := by
 have H : (if a0 < 0 then (some (wrap64 ((wrap64 ((-2) * a0)) - 1))) else (some (wrap64 (2 * a0)))) = some r := h
 clear h
 by_cases c2 : a0 < 0
 case pos =>
  rw [if_pos c2] at H
  have c2b0 : decide (a0 < 0) = true := zE c2
  clear c2
  obtain rfl := Option.some.inj H
  go_enter Try.func48, Try.ntmps48
  go_wp2
  go_ret
  exact ⟨by first | rfl | (simp; done) | (simp [*]; done), by repeat (first | exact Drawn0.refl _ | apply Drawn0.step)⟩
 rw [if_neg c2] at H
 have c2b0 : decide (a0 < 0) = false := decide_eq_false c2
 clear c2
 obtain rfl := Option.some.inj H
 go_enter Try.func48, Try.ntmps48
 go_wp2
 go_ret
 exact ⟨by first | rfl | (simp; done) | (simp [*]; done), by repeat (first | exact Drawn0.refl _ | apply Drawn0.step)⟩

end Go.Proofs.Ytmikakdcggehcaa.PFnExactMend
