-- Written by a turned copy of the print (see the notes of this repo): plain functions and their walks. Lean checks it.
import Derived.Test.YtpphjbogijjnpaaPFnExactPassHintsx0
import Derived.Test.YtpphjbogijjnpaaPFnExactPassHintsx1
namespace Go.Proofs.Ytpphjbogijjnpaa.PFnExactPassHints
open Go.RowKit Go.Proofs.YtpphjbogijjnpaaW.PrintWords Go.Proofs.YtpphjbogijjnpaaW.PrintLast Go.Proofs.YtpphjbogijjnpaaW.PrintMore
attribute [local go_sem] max2_int min2_int max_two min_two max_three min_three max_four min_four   -- for this text's walks alone
set_option linter.unusedVariables false
set_option linter.unusedSimpArgs false

/-! ### laws_markIntSS: function 16 -/
def laws_markIntSS.go (k : Nat) : List (List Int) → Int → Option Int
 | [], a => some a
 | x :: xs, a => (laws_markIntS.f k x a).bind fun p => laws_markIntSS.go k xs p.1
def laws_markIntSS.f (k : Nat) (l0 : List (List Int)) (a1 : Int) : Option Int := if l0.length ≤ 9000000000000000000 then laws_markIntSS.go k l0 a1 else none
theorem laws_markIntSS.mono : ∀ a0 a1 k, LeO (laws_markIntSS.f k a0 a1) (laws_markIntSS.f (k + 1) a0 a1) := by
 have gm : ∀ (xs : List (List Int)) a k, LeO (laws_markIntSS.go k xs a) (laws_markIntSS.go (k + 1) xs a) := by
  intro xs
  induction xs with
  | nil => intro a1 k; exact LeO.refl _
  | cons x xs ih => intro a1 k; exact LeO.bind (laws_markIntS.mono _ _ _) (fun p => ih p.1 k)
 intro a0 a1 k
 unfold laws_markIntSS.f
 exact LeO.ite (gm _ _ _) (LeO.refl _)
theorem mss_one {w W1 W2 : World} {base n cap g : Nat} {ok oki : Nat → Prop} {i : Int} {xs : List (List Int)} {y y2 : List Int} {v : Value} {c : List Value}
 (hH : Kd.H (Kd.slice 3 (Kd.int .i64)) 23 w base ok (.slice (some ⟨g, 0, none⟩) n cap) xs i oki c) (hc : c = [v]) (hb : w = W1) (hR : (Kd.int .i64).R 3 W1 base oki v y) (hk : Kept W1 W2 oki) (hR2 : (Kd.int .i64).R 3 W2 base (fun k => oki k ∨ W1.heap.size ≤ k) v y2) :
 Kd.S (Kd.slice 3 (Kd.int .i64)) 23 W2 base ok (.slice (some ⟨g, 0, none⟩) n cap) (xs.set i.toNat y2) := by
 subst hb
 have h2 := Kd.H_kept hH hk (fun _ _ h => h)
 have h3 := Kd.R_mono (Kd.R_tight rfl hR2) (fun k hk => hR.1 k hk.symm)
 exact Kd.H_back h2 (okp := oki) ⟨v, hc, h3⟩ (fun _ h => h)
theorem mss_drop {xs : List (List Int)} {i : Nat} (h : i < xs.length) : xs.drop i = xs.getD i [] :: xs.drop (i + 1) := by
 rw [List.drop_eq_getElem_cons h, List.getD_eq_getElem?_getD, List.getElem?_eq_getElem h]; rfl
theorem mss_set {xs : List (List Int)} {i : Nat} {y : List Int} : (xs.set i y).drop (i + 1) = xs.drop (i + 1) := by
 rw [List.drop_set]; simp
theorem mss_go {k : Nat} {x : List Int} {xs : List (List Int)} {a r : Int} (h : laws_markIntSS.go k (x :: xs) a = some r) : ∃ r1 r2, laws_markIntS.f k x a = some (r1, r2) ∧ laws_markIntSS.go k xs r1 = some r := by
 obtain ⟨p, h1, h2⟩ := Option.bind_eq_some_iff.mp h
 exact ⟨p.1, p.2, h1, h2⟩
set_option maxHeartbeats 4000000 in
set_option maxRecDepth 100000 in
theorem laws_markIntSS.calls (k : Nat) (P0_ : Nat → Prop) (u9000_ : Value) (l0 : List (List Int)) (a1 : Int) (r : Int) (w0 w : World) (hB : Below w0.heap.size w0 w) (ho0 : Kd.S (Kd.slice 3 (Kd.int .i64)) 23 w w0.heap.size P0_ u9000_ l0) (h : laws_markIntSS.f k l0 a1 = some r) :
 Calls Try.prog 16 #[u9000_, .int .i64 a1] w fun e w' => e = .returned (.int .i64 r) ∧ Below w0.heap.size w0 w' ∧ Kept w w' (fun k_ => P0_ k_) := by
 have HS := Aside0.mk ho0
 have HB := Aside0.mk hB
 have HK := Aside0.mk (Kept.refl w (fun k_ => P0_ k_))
 clear ho0 hB
 obtain ⟨Ao, co, eo⟩ := Kd.R_slice (Kd.S_R HS.out)
 subst eo
 have HLen : Aside0 (l0.length ≤ 9000000000000000000) := ⟨by by_cases hl : l0.length ≤ 9000000000000000000; exact hl; rw [laws_markIntSS.f, if_neg hl] at h; cases h⟩
 have H' := Aside0.mk (show laws_markIntSS.go k (l0.drop 0) a1 = some r from by rw [laws_markIntSS.f, if_pos HLen.out] at h; exact h)
 clear h
 go_enter Try.func16, Try.ntmps16
 go_wp2
 (try simp only [Act.put, List.setIfInBounds_toArray, List.set_cons_zero, List.set_cons_succ])
 go_loopw [1, 5] (fun v1 v5 w' => ∃ (acc i : Int) (ys : List (List Int)), v1 = .int .i64 acc ∧ v5 = .int .i64 i ∧ Aside0 (0 ≤ i ∧ i ≤ (l0.length : Int) ∧ ys.length = l0.length) ∧ Aside0 (laws_markIntSS.go k (ys.drop i.toNat) acc = some r) ∧ Aside0 (Kd.S (Kd.slice 3 (Kd.int .i64)) 23 w' w0.heap.size P0_ (.slice Ao l0.length co) ys) ∧ Aside0 (Kept w w' (fun k_ => P0_ k_)) ∧ Aside0 (Below w0.heap.size w0 w')) (fun _ v _ => l0.length - (match v with | .int _ n => n.toNat | _ => 0))
 case atStart => exact ⟨a1, 0, l0, rfl, rfl, ⟨by omega⟩, H', HS, HK, HB⟩
 case round =>
  clear H' HS HK HB
  obtain ⟨acc, i, ys, rfl, rfl, HI, HA, HS, HK, HB⟩ := hrel
  by_cases hi : i < (l0.length : Int)
  case neg =>
   have hlt : decide (i < (l0.length : Int)) = false := decide_eq_false hi
   have HQ := Aside0.mk hi
   clear hi
   go_wp2
   go_ret
   have he := HA.out
   rw [List.drop_eq_nil_of_le (by have := HI.out; have := HQ.out; omega)] at he
   obtain rfl : acc = r := Option.some.inj he
   exact ⟨rfl, HB.out, HK.out⟩
  have hlt : decide (i < (l0.length : Int)) = true := zE hi
  obtain ⟨g, rfl⟩ : ∃ g, Ao = some ⟨g, 0, none⟩ := by
   obtain ⟨go5, co5, eo5, _⟩ := Kd.S_form HS.out (by have := HI.out; omega)
   injection eo5 with ea _ _
   exact ⟨go5, ea⟩
  obtain ⟨oki, ce, hcl, hM, hcc, hfr, hoki, hH⟩ := Kd.S_elem HS.out [] i HI.out.1 hi
  obtain ⟨ve, rfl, ge⟩ := hM
  have hv := hcc 0 _ rfl
  simp only [Nat.add_zero] at hv
  rw [show (Kd.slice 3 (Kd.int .i64)).sz = 1 from rfl, Nat.mul_one] at hv
  have hgo := HA.out
  rw [mss_drop (xs := ys) (i := i.toNat) (by have := HI.out; omega)] at hgo
  obtain ⟨r1, r2, hr1, hr2⟩ := mss_go hgo
  have HR1 := Aside0.mk hr1
  have HR2 := Aside0.mk hr2
  have HGE := Aside0.mk ge
  have HH := Aside0.mk hH
  have HOK := Aside0.mk hoki
  have p1 := eq_true HI.out.1
  have q1 := eq_true hi
  have HQ := Aside0.mk hi
  have hw : wrap64 (i + 1) = i + 1 := by have := HI.out; have := HLen.out; unfold wrap64; omega
  have HW := Aside0.mk hw
  clear hi hw hr1 hr2 hgo ge hH hoki hcc hfr hcl HA
  go_wp2_with (go_at_call 17; (with_reducible refine (laws_markIntS.calls k oki ve (ys.getD i.toNat []) acc r1 r2 w0 _ HB.out HGE.out HR1.out).mono ?_); rintro e w3 ⟨rfl, ho, hb, hk⟩)
  have HS3 := Aside0.mk (mss_one HH.out rfl rfl HGE.out hk ho)
  have HB3 := Aside0.mk hb
  have HK3 := Aside0.mk (Kept.then_ HK.out hk (fun j hj => .inl (HOK.out j hj).1))
  clear ho hb hk
  go_roundw
  case rel => exact ⟨r1, i + 1, _, rfl, by first | rfl | rw [HW.out], ⟨by have := HI.out; have := HQ.out; rw [List.length_set]; omega⟩, ⟨by rw [show (i + 1).toNat = i.toNat + 1 by have := HI.out; omega, mss_set]; exact HR2.out⟩, HS3, HK3, HB3⟩
  case measure => have := HI.out; have := HQ.out; have := HW.out; first | (simp only [this]; omega) | (simp; omega) | omega


/-! ### laws_heldIntS: function 18 -/
def laws_heldIntS.l0 : Nat → List Int → Int → Int → Option (Int)
 | 0, _, _, _ => none
 | k + 1, x0, x1, x5 => if x5 < (x0.length : Int) then (if 0 ≤ x5 then (if (rd x0 x5) = x1 then (laws_heldIntS.l0 k x0 (wrap64 (x1 + 1)) (wrap64 (x5 + 1))) else (some (-1))) else (none)) else (some x1)
def laws_heldIntS.f (k : Nat) (l0 : List Int) (a1 : Int) : Option (Int) := laws_heldIntS.l0 k l0 a1 0
theorem laws_heldIntS.mono_l : ∀ k, (∀ y0 y1 y2, LeO (laws_heldIntS.l0 k y0 y1 y2) (laws_heldIntS.l0 (k + 1) y0 y1 y2))
 | 0 => fun _ _ _ r h => by simp [laws_heldIntS.l0] at h
 | k + 1 => by
  have ih0 := laws_heldIntS.mono_l k
  ·intro y0 y1 y2
   unfold laws_heldIntS.l0
   repeat' first
   | (with_reducible exact ih0 _ _ _)
   | (with_reducible exact LeO.refl _)
   | (with_reducible exact LeO.none _)
   | (with_reducible refine LeO.ite ?_ ?_)
   | (with_reducible refine LeO.bind ?_ (fun _ => ?_))
   | exact ih0 _ _ _
   | exact LeO.none _
   | refine LeO.ite ?_ ?_
   | refine LeO.bind ?_ (fun _ => ?_)
theorem laws_heldIntS.mono : ∀ a0 a1 k, LeO (laws_heldIntS.f k a0 a1) (laws_heldIntS.f (k + 1) a0 a1) := by
 intro a0 a1 k
 have ih0 := laws_heldIntS.mono_l k
 unfold laws_heldIntS.f
 repeat' first
  | (with_reducible exact ih0 _ _ _)
  | (with_reducible exact LeO.refl _)
  | (with_reducible exact LeO.none _)
  | (with_reducible refine LeO.ite ?_ ?_)
  | (with_reducible refine LeO.bind ?_ (fun _ => ?_))
  | exact ih0 _ _ _
  | exact LeO.none _
  | refine LeO.ite ?_ ?_
  | refine LeO.bind ?_ (fun _ => ?_)
set_option maxHeartbeats 8000000 in
set_option maxRecDepth 100000 in
theorem laws_heldIntS.calls (k : Nat) (A0 : Option Addr) (c0 : Nat) (l0 : List Int) (a1 : Int) (r : Int) (w : World) (hr0 : Kd.C (Kd.int .i64) w A0 l0.length l0) (hc0 : l0.length ≤ c0) (h : laws_heldIntS.f k l0 a1 = some r) :
 Calls Try.prog 18 #[.slice A0 l0.length c0, .int .i64 a1] w fun e w' => e = .returned (.int .i64 r) ∧ Drawn0 w w' := by
 have HR0 := Aside0.mk hr0
 have HC0 := Aside0.mk hc0
 clear hr0 hc0
 have H : (laws_heldIntS.l0 k l0 a1 0) = some r := h
 clear h
 have H' := Aside0.mk H
 clear H
 go_enter Try.func18, Try.ntmps18
 go_wp2
 (try simp only [Act.put, List.setIfInBounds_toArray, List.set_cons_zero, List.set_cons_succ])
 go_loopg [1, 5] k (fun kq v1 v5 w' => ∃ (x1_1 : Int) (x5_1 : Int), v1 = .int .i64 x1_1 ∧ v5 = .int .i64 x5_1 ∧ Aside0 (laws_heldIntS.l0 kq l0 x1_1 x5_1 = some r) ∧ Aside0 (kq ≤ k) ∧ Drawn0 w w')
 case atStart => exact ⟨(a1), (0), (by first | rfl | (simp; done) | (simp [*]; done)), (by first | rfl | (simp; done) | (simp [*]; done)), H', ⟨Nat.le_refl _⟩, by repeat (first | exact Drawn0.refl _ | apply Drawn0.step)⟩
 case round =>
  clear H'
  try clear c1
  try clear p2
  obtain ⟨x1_1, x5_1, rfl, rfl, HA, HK1, ⟨m1, rfl⟩⟩ := hrel
  cases gk with
  | zero => exact absurd HA.out (by simp [laws_heldIntS.l0])
  | succ k1 =>
   have H := HA.out
   clear HA
   simp only [laws_heldIntS.l0] at H
   by_cases c3 : x5_1 < (l0.length : Int)
   case neg =>
    rw [if_neg c3] at H
    have c3b0 : decide (x5_1 < (l0.length : Int)) = false := decide_eq_false c3
    clear c3
    obtain rfl := Option.some.inj H
    go_wp2
    go_ret
    exact ⟨by first | rfl | (simp; done) | (simp [*]; done), by repeat (first | exact Drawn0.refl _ | apply Drawn0.step)⟩
   rw [if_pos c3] at H
   have c3b0 : decide (x5_1 < (l0.length : Int)) = true := zE c3
   clear c3
   by_cases c4 : 0 ≤ x5_1
   case neg =>
    rw [if_neg c4] at H
    exact absurd H (by simp)
   rw [if_pos c4] at H
   have c4b0 : decide (0 ≤ x5_1) = true := zE c4
   clear c4
   by_cases c5 : (rd l0 x5_1) = x1_1
   case neg =>
    rw [if_neg c5] at H
    have c5b0 : ((rd l0 x5_1) == x1_1) = false := beq_eq_false_iff_ne.mpr c5
    have c5b1 : ((rd l0 x5_1) != x1_1) = true := bne_iff_ne.mpr c5
    obtain rfl := Option.some.inj H
    have p122 : 0 ≤ (x5_1 : Int) := zT (by first | (with_reducible assumption) | assumption)
    have q122 : x5_1 < (l0.length : Int) := zT (by first | (with_reducible assumption) | assumption)
    obtain ⟨ad122, e122, hx122_0⟩ := Kd.at_int HR0.out x5_1 p122 q122
    cases e122
    replace p122 := eq_true p122
    replace q122 := eq_true q122
    go_wp2
    go_ret
    exact ⟨by first | rfl | (simp; done) | (simp [*]; done), by repeat (first | exact Drawn0.refl _ | apply Drawn0.step)⟩
   rw [if_pos c5] at H
   have c5b0 : ((rd l0 x5_1) == x1_1) = true := beq_iff_eq.mpr c5
   have c5b1 : ((rd l0 x5_1) != x1_1) = false := bne_eq_false_iff_eq.mpr c5
   clear c5
   have H' := Aside0.mk H
   clear H
   have p122 : 0 ≤ (x5_1 : Int) := zT (by first | (with_reducible assumption) | assumption)
   have q122 : x5_1 < (l0.length : Int) := zT (by first | (with_reducible assumption) | assumption)
   obtain ⟨ad122, e122, hx122_0⟩ := Kd.at_int HR0.out x5_1 p122 q122
   cases e122
   replace p122 := eq_true p122
   replace q122 := eq_true q122
   go_wp2
   go_roundg k1
   case measure => have := HK1.out; omega
   case rel => exact ⟨(wrap64 (x1_1 + 1)), (wrap64 (x5_1 + 1)), (by first | rfl | (simp; done) | (simp [*]; done)), (by first | rfl | (simp; done) | (simp [*]; done)), H', ⟨by have := HK1.out; omega⟩, by repeat (first | exact Drawn0.refl _ | apply Drawn0.step)⟩

/-! ### spec_l1In: function 38 -/
def spec_l1In.f (a0 : Int) (a1 : Int) (a2 : Int) : Option (Bool) := if a0 ≥ a1 then (some (decide (a0 ≤ a2))) else (some false)
set_option maxHeartbeats 8000000 in
set_option maxRecDepth 100000 in
theorem spec_l1In.calls (a0 : Int) (a1 : Int) (a2 : Int) (r : Bool) (w : World) (h : spec_l1In.f a0 a1 a2 = some r) :
 Calls Try.prog 38 #[.int .i64 a0, .int .i64 a1, .int .i64 a2] w fun e w' => e = .returned (.bool r) ∧ Drawn0 w w' := by
 have H : (if a0 ≥ a1 then (some (decide (a0 ≤ a2))) else (some false)) = some r := h
 clear h
 by_cases c4 : a0 ≥ a1
 case pos =>
  rw [if_pos c4] at H
  have c4b0 : decide (a1 ≤ a0) = true := zE c4
  clear c4
  obtain rfl := Option.some.inj H
  go_enter Try.func38, Try.ntmps38
  go_wp2
  go_ret
  exact ⟨by first | rfl | (simp; done) | (simp [*]; done), by repeat (first | exact Drawn0.refl _ | apply Drawn0.step)⟩
 rw [if_neg c4] at H
 have c4b0 : decide (a1 ≤ a0) = false := decide_eq_false c4
 clear c4
 obtain rfl := Option.some.inj H
 go_enter Try.func38, Try.ntmps38
 go_wp2
 go_ret
 exact ⟨by first | rfl | (simp; done) | (simp [*]; done), by repeat (first | exact Drawn0.refl _ | apply Drawn0.step)⟩

/-! ### spec_BitsOk: function 33 -/
def spec_BitsOk.l0 : Nat → List Int → Int → Option (Bool)
 | 0, _, _ => none
 | k + 1, x0, x3 => if x3 < (x0.length : Int) then (if 0 ≤ x3 then ((spec_l1In.f (rd x0 x3) 0 1).bind fun t124 => (if t124 = true then (spec_BitsOk.l0 k x0 (wrap64 (x3 + 1))) else (some false))) else (none)) else (some (decide ((x0.length : Int) ≤ 1024)))
def spec_BitsOk.f (k : Nat) (l0 : List Int) : Option (Bool) := spec_BitsOk.l0 k l0 0
theorem spec_BitsOk.mono_l : ∀ k, (∀ y0 y1, LeO (spec_BitsOk.l0 k y0 y1) (spec_BitsOk.l0 (k + 1) y0 y1))
 | 0 => fun _ _ r h => by simp [spec_BitsOk.l0] at h
 | k + 1 => by
  have ih0 := spec_BitsOk.mono_l k
  ·intro y0 y1
   unfold spec_BitsOk.l0
   repeat' first
   | (with_reducible exact ih0 _ _)
   | (with_reducible exact LeO.refl _)
   | (with_reducible exact LeO.none _)
   | (with_reducible refine LeO.ite ?_ ?_)
   | (with_reducible refine LeO.bind ?_ (fun _ => ?_))
   | exact ih0 _ _
   | exact LeO.none _
   | refine LeO.ite ?_ ?_
   | refine LeO.bind ?_ (fun _ => ?_)
theorem spec_BitsOk.mono : ∀ a0 k, LeO (spec_BitsOk.f k a0) (spec_BitsOk.f (k + 1) a0) := by
 intro a0 k
 have ih0 := spec_BitsOk.mono_l k
 unfold spec_BitsOk.f
 repeat' first
  | (with_reducible exact ih0 _ _)
  | (with_reducible exact LeO.refl _)
  | (with_reducible exact LeO.none _)
  | (with_reducible refine LeO.ite ?_ ?_)
  | (with_reducible refine LeO.bind ?_ (fun _ => ?_))
  | exact ih0 _ _
  | exact LeO.none _
  | refine LeO.ite ?_ ?_
  | refine LeO.bind ?_ (fun _ => ?_)
set_option maxHeartbeats 8000000 in
set_option maxRecDepth 100000 in
theorem spec_BitsOk.calls (k : Nat) (A0 : Option Addr) (c0 : Nat) (l0 : List Int) (r : Bool) (w : World) (hr0 : Kd.C (Kd.int .i64) w A0 l0.length l0) (hc0 : l0.length ≤ c0) (h : spec_BitsOk.f k l0 = some r) :
 Calls Try.prog 33 #[.slice A0 l0.length c0] w fun e w' => e = .returned (.bool r) ∧ Drawn0 w w' := by
 have HR0 := Aside0.mk hr0
 have HC0 := Aside0.mk hc0
 clear hr0 hc0
 have H : (spec_BitsOk.l0 k l0 0) = some r := h
 clear h
 have H' := Aside0.mk H
 clear H
 go_enter Try.func33, Try.ntmps33
 go_wp2
 (try simp only [Act.put, List.setIfInBounds_toArray, List.set_cons_zero, List.set_cons_succ])
 go_loopg [3] k (fun kq v3 w' => ∃ (x3_1 : Int), v3 = .int .i64 x3_1 ∧ Aside0 (spec_BitsOk.l0 kq l0 x3_1 = some r) ∧ Aside0 (kq ≤ k) ∧ Drawn0 w w')
 case atStart => exact ⟨(0), (by first | rfl | (simp; done) | (simp [*]; done)), H', ⟨Nat.le_refl _⟩, by repeat (first | exact Drawn0.refl _ | apply Drawn0.step)⟩
 case round =>
  clear H'
  obtain ⟨x3_1, rfl, HA, HK1, ⟨m1, rfl⟩⟩ := hrel
  cases gk with
  | zero => exact absurd HA.out (by simp [spec_BitsOk.l0])
  | succ k1 =>
   have H := HA.out
   clear HA
   simp only [spec_BitsOk.l0] at H
   by_cases c2 : x3_1 < (l0.length : Int)
   case neg =>
    rw [if_neg c2] at H
    have c2b0 : decide (x3_1 < (l0.length : Int)) = false := decide_eq_false c2
    clear c2
    obtain rfl := Option.some.inj H
    go_wp2
    go_ret
    exact ⟨by first | rfl | (simp; done) | (simp [*]; done), by repeat (first | exact Drawn0.refl _ | apply Drawn0.step)⟩
   rw [if_pos c2] at H
   have c2b0 : decide (x3_1 < (l0.length : Int)) = true := zE c2
   clear c2
   by_cases c3 : 0 ≤ x3_1
   case neg =>
    rw [if_neg c3] at H
    exact absurd H (by simp)
   rw [if_pos c3] at H
   have c3b0 : decide (0 ≤ x3_1) = true := zE c3
   clear c3
   replace H := Option.bind_eq_some_iff.mp H
   obtain ⟨t124, A40, H⟩ := H
   replace H : (if t124 = true then (spec_BitsOk.l0 k1 l0 (wrap64 (x3_1 + 1))) else (some false)) = some r := H
   have A4 := Aside0.mk A40
   clear A40
   by_cases c5 : t124 = true
   case neg =>
    replace c5 := Bool.eq_false_iff.mpr c5
    subst c5
    have H1 : (some false) = some r := by rw [if_neg (show ¬ (false = true) by decide)] at H; exact H
    clear H
    have H := H1
    clear H1
    obtain rfl := Option.some.inj H
    have p123 : 0 ≤ (x3_1 : Int) := zT (by first | (with_reducible assumption) | assumption)
    have q123 : x3_1 < (l0.length : Int) := zT (by first | (with_reducible assumption) | assumption)
    obtain ⟨ad123, e123, hx123_0⟩ := Kd.at_int HR0.out x3_1 p123 q123
    cases e123
    replace p123 := eq_true p123
    replace q123 := eq_true q123
    go_wp2_with (first | ((with_reducible refine gate_callee (f := 38) rfl ?_); refine goesL_ (some 14) rfl rfl Try.func38 (by kernel_rfl) rfl #[.int .i64 (rd l0 x3_1), .int .i64 0, .int .i64 1] rfl (by (try simp only [List.map_toArray, List.map_cons, List.map_nil]); first | done | rfl | (simp only [List.length_drop, List.length_take]; rfl)) ?_; (with_reducible refine (spec_l1In.calls (rd l0 x3_1) 0 1 false _ A4.out).mono ?_); rintro e w' ⟨rfl, ⟨nd, rfl⟩⟩; refine ⟨_, rfl, ?_⟩))
    go_ret
    exact ⟨by first | rfl | (simp; done) | (simp [*]; done), by repeat (first | exact Drawn0.refl _ | apply Drawn0.step)⟩
   subst c5
   have H1 : (spec_BitsOk.l0 k1 l0 (wrap64 (x3_1 + 1))) = some r := by rw [if_pos rfl] at H; exact H
   clear H
   have H := H1
   clear H1
   have H' := Aside0.mk H
   clear H
   have p123 : 0 ≤ (x3_1 : Int) := zT (by first | (with_reducible assumption) | assumption)
   have q123 : x3_1 < (l0.length : Int) := zT (by first | (with_reducible assumption) | assumption)
   obtain ⟨ad123, e123, hx123_0⟩ := Kd.at_int HR0.out x3_1 p123 q123
   cases e123
   replace p123 := eq_true p123
   replace q123 := eq_true q123
   go_wp2_with (first | ((with_reducible refine gate_callee (f := 38) rfl ?_); refine goesL_ (some 14) rfl rfl Try.func38 (by kernel_rfl) rfl #[.int .i64 (rd l0 x3_1), .int .i64 0, .int .i64 1] rfl (by (try simp only [List.map_toArray, List.map_cons, List.map_nil]); first | done | rfl | (simp only [List.length_drop, List.length_take]; rfl)) ?_; (with_reducible refine (spec_l1In.calls (rd l0 x3_1) 0 1 true _ A4.out).mono ?_); rintro e w' ⟨rfl, ⟨nd, rfl⟩⟩; refine ⟨_, rfl, ?_⟩))
   go_roundg k1
   case measure => have := HK1.out; omega
   case rel => exact ⟨(wrap64 (x3_1 + 1)), (by first | rfl | (simp; done) | (simp [*]; done)), H', ⟨by have := HK1.out; omega⟩, by repeat (first | exact Drawn0.refl _ | apply Drawn0.step)⟩

end Go.Proofs.Ytpphjbogijjnpaa.PFnExactPassHints
