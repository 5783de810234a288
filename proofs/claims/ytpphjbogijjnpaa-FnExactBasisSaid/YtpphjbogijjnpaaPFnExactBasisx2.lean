-- Written by a turned copy of the print (see the notes of this repo): plain functions and their walks. Lean checks it.
import Derived.Test.YtpphjbogijjnpaaPFnExactBasisx0
import Derived.Test.YtpphjbogijjnpaaPFnExactBasisx1
namespace Go.Proofs.Ytpphjbogijjnpaa.PFnExactBasis
open Go.RowKit Go.Proofs.YtpphjbogijjnpaaW.PrintWords Go.Proofs.YtpphjbogijjnpaaW.PrintLast Go.Proofs.YtpphjbogijjnpaaW.PrintMore
attribute [local go_sem] max2_int min2_int max_two min_two max_three min_three max_four min_four   -- for this text's walks alone
set_option linter.unusedVariables false
set_option linter.unusedSimpArgs false

/-! ### laws_markIntSS: function 16 -/
def laws_markIntSS.go (k : Nat) : List (List Int) → Int → Option Int
  | [], a => some a
  | x :: xs, a => (laws_markIntS.f k x a).bind fun p => laws_markIntSS.go k xs p.1
def laws_markIntSS.f (k : Nat) (l0 : List (List Int)) (a1 : Int) : Option Int := if l0.length ≤ 9000000000000000000 then laws_markIntSS.go k l0 a1 else none
theorem laws_markIntSS.mono : ∀ a0 a1 k, LeO (laws_markIntSS.f k a0 a1) (laws_markIntSS.f (k + 1) a0 a1) := by
  have gm : ∀ (xs : List (List Int)) a k, LeO (laws_markIntSS.go k xs a) (laws_markIntSS.go (k + 1) xs a) := by
    intro xs
    induction xs with
    | nil => intro a1 k; exact LeO.refl _
    | cons x xs ih => intro a1 k; exact LeO.bind (laws_markIntS.mono _ _ _) (fun p => ih p.1 k)
  intro a0 a1 k
  unfold laws_markIntSS.f
  exact LeO.ite (gm _ _ _) (LeO.refl _)
theorem mss_one {w W1 W2 : World} {base n cap g : Nat} {ok oki : Nat → Prop} {i : Int} {xs : List (List Int)} {y y2 : List Int} {v : Value} {c : List Value}
    (hH : Kd.H (Kd.slice 3 (Kd.int .i64)) 23 w base ok (.slice (some ⟨g, 0, none⟩) n cap) xs i oki c) (hc : c = [v]) (hb : w = W1) (hR : (Kd.int .i64).R 3 W1 base oki v y) (hk : Kept W1 W2 oki) (hR2 : (Kd.int .i64).R 3 W2 base (fun k => oki k ∨ W1.heap.size ≤ k) v y2) :
    Kd.S (Kd.slice 3 (Kd.int .i64)) 23 W2 base ok (.slice (some ⟨g, 0, none⟩) n cap) (xs.set i.toNat y2) := by
  subst hb
  have h2 := Kd.H_kept hH hk (fun _ _ h => h)
  have h3 := Kd.R_mono (Kd.R_tight rfl hR2) (fun k hk => hR.1 k hk.symm)
  exact Kd.H_back h2 (okp := oki) ⟨v, hc, h3⟩ (fun _ h => h)
theorem mss_drop {xs : List (List Int)} {i : Nat} (h : i < xs.length) : xs.drop i = xs.getD i [] :: xs.drop (i + 1) := by
  rw [List.drop_eq_getElem_cons h, List.getD_eq_getElem?_getD, List.getElem?_eq_getElem h]; rfl
theorem mss_set {xs : List (List Int)} {i : Nat} {y : List Int} : (xs.set i y).drop (i + 1) = xs.drop (i + 1) := by
  rw [List.drop_set]; simp
theorem mss_go {k : Nat} {x : List Int} {xs : List (List Int)} {a r : Int} (h : laws_markIntSS.go k (x :: xs) a = some r) : ∃ r1 r2, laws_markIntS.f k x a = some (r1, r2) ∧ laws_markIntSS.go k xs r1 = some r := by
  obtain ⟨p, h1, h2⟩ := Option.bind_eq_some_iff.mp h
  exact ⟨p.1, p.2, h1, h2⟩
def laws_markIntSS.go2 (k : Nat) : List (List Int) → Int → Option (Int × List (List Int))
  | [], a => some (a, [])
  | x :: xs, a => (laws_markIntS.f k x a).bind fun p => (laws_markIntSS.go2 k xs p.1).bind fun q => some (q.1, p.2 :: q.2)
theorem mss_go2 {k : Nat} {x : List Int} {xs : List (List Int)} {a r : Int} {zs : List (List Int)} (h : laws_markIntSS.go2 k (x :: xs) a = some (r, zs)) : ∃ r1 r2 ws, laws_markIntS.f k x a = some (r1, r2) ∧ laws_markIntSS.go2 k xs r1 = some (r, ws) ∧ zs = r2 :: ws := by
  obtain ⟨p, h1, h2⟩ := Option.bind_eq_some_iff.mp h
  obtain ⟨q, h3, h4⟩ := Option.bind_eq_some_iff.mp h2
  have h5 := Option.some.inj h4
  exact ⟨p.1, p.2, q.2, h1, by rw [h3]; rw [← (Prod.mk.inj h5).1], (Prod.mk.inj h5).2.symm⟩
theorem mss_of (k : Nat) : ∀ (xs : List (List Int)) (a r : Int), laws_markIntSS.go k xs a = some r → ∃ zs, laws_markIntSS.go2 k xs a = some (r, zs)
  | [], a, r, h => ⟨[], by rw [← Option.some.inj (show some a = some r from h)]; rfl⟩
  | x :: xs, a, r, h => by
    obtain ⟨p, h1, h2⟩ := Option.bind_eq_some_iff.mp h
    obtain ⟨zs, hz⟩ := mss_of k xs p.1 r h2
    exact ⟨p.2 :: zs, by simp only [laws_markIntSS.go2]; rw [h1]; simp only [Option.bind_some]; rw [hz]; rfl⟩
theorem mss_take {ys : List (List Int)} {i : Nat} (h : i < ys.length) (y : List Int) : (ys.set i y).take (i + 1) = ys.take i ++ [y] := by
  rw [← List.take_append_getElem (by simpa using h)]
  simp [List.take_set_of_le]
set_option maxHeartbeats 4000000 in
set_option maxRecDepth 100000 in
theorem laws_markIntSS.kept (k : Nat) (P0_ : Nat → Prop) (u9000_ : Value) (l0 : List (List Int)) (a1 : Int) (r : Int) (R_ : List (List Int)) (hm : l0.length ≤ 9000000000000000000) (w0 w : World) (hB : Below w0.heap.size w0 w) (ho0 : Kd.S (Kd.slice 3 (Kd.int .i64)) 23 w w0.heap.size P0_ u9000_ l0) (h : laws_markIntSS.go2 k l0 a1 = some (r, R_)) :
    Calls Try.prog 16 #[u9000_, .int .i64 a1] w fun e w' => e = .returned (.int .i64 r) ∧ Below w0.heap.size w0 w' ∧ Kept w w' (fun k_ => P0_ k_) ∧ Kd.S (Kd.slice 3 (Kd.int .i64)) 23 w' w0.heap.size P0_ u9000_ R_ := by
  have HS := Aside0.mk ho0
  have HB := Aside0.mk hB
  have HK := Aside0.mk (Kept.refl w (fun k_ => P0_ k_))
  clear ho0 hB
  obtain ⟨Ao, co, eo⟩ := Kd.R_slice (Kd.S_R HS.out)
  subst eo
  have HLen := Aside0.mk hm
  have H' := Aside0.mk (show ∃ zs, laws_markIntSS.go2 k (l0.drop 0) a1 = some (r, zs) ∧ l0.take 0 ++ zs = R_ from ⟨R_, h, rfl⟩)
  clear h
  go_enter Try.func16, Try.ntmps16
  go_wp2
  (try simp only [Act.put, List.setIfInBounds_toArray, List.set_cons_zero, List.set_cons_succ])
  go_loopw [1, 5] (fun v1 v5 w' => ∃ (acc i : Int) (ys : List (List Int)), v1 = .int .i64 acc ∧ v5 = .int .i64 i ∧ Aside0 (0 ≤ i ∧ i ≤ (l0.length : Int) ∧ ys.length = l0.length) ∧ Aside0 (∃ zs, laws_markIntSS.go2 k (ys.drop i.toNat) acc = some (r, zs) ∧ ys.take i.toNat ++ zs = R_) ∧ Aside0 (Kd.S (Kd.slice 3 (Kd.int .i64)) 23 w' w0.heap.size P0_ (.slice Ao l0.length co) ys) ∧ Aside0 (Kept w w' (fun k_ => P0_ k_)) ∧ Aside0 (Below w0.heap.size w0 w')) (fun _ v _ => l0.length - (match v with | .int _ n => n.toNat | _ => 0))
  case atStart => exact ⟨a1, 0, l0, rfl, rfl, ⟨by omega⟩, H', HS, HK, HB⟩
  case round =>
    clear H' HS HK HB
    obtain ⟨acc, i, ys, rfl, rfl, HI, HA, HS, HK, HB⟩ := hrel
    by_cases hi : i < (l0.length : Int)
    · have hlt : decide (i < (l0.length : Int)) = true := decide_eq_true hi
      obtain ⟨g, rfl⟩ : ∃ g, Ao = some ⟨g, 0, none⟩ := by
        obtain ⟨go5, co5, eo5, _⟩ := Kd.S_form HS.out (by have := HI.out; omega)
        injection eo5 with ea _ _
        exact ⟨go5, ea⟩
      obtain ⟨oki, ce, hcl, hM, hcc, hfr, hoki, hH⟩ := Kd.S_elem HS.out [] i HI.out.1 hi
      obtain ⟨ve, rfl, ge⟩ := hM
      have hv := hcc 0 _ rfl
      simp only [Nat.add_zero] at hv
      rw [show (Kd.slice 3 (Kd.int .i64)).sz = 1 from rfl, Nat.mul_one] at hv
      obtain ⟨zs, hgo, hzs⟩ := HA.out
      rw [mss_drop (xs := ys) (i := i.toNat) (by have := HI.out; omega)] at hgo
      obtain ⟨r1, r2, ws, hr1, hr2, hzw⟩ := mss_go2 hgo
      have HZ := Aside0.mk (hzw ▸ hzs)
      have HR1 := Aside0.mk hr1
      have HR2 := Aside0.mk hr2
      have HGE := Aside0.mk ge
      have HH := Aside0.mk hH
      have HOK := Aside0.mk hoki
      have p1 := eq_true HI.out.1
      have q1 := eq_true hi
      have HQ := Aside0.mk hi
      have hw : wrap64 (i + 1) = i + 1 := by have := HI.out; have := HLen.out; unfold wrap64; omega
      have HW := Aside0.mk hw
      clear hi hw hr1 hr2 hgo hzs hzw ge hH hoki hcc hfr hcl HA
      go_wp2_with (go_at_call 17; (with_reducible refine (laws_markIntS.calls k oki ve (ys.getD i.toNat []) acc r1 r2 w0 _ HB.out HGE.out HR1.out).mono ?_); rintro e w3 ⟨rfl, ho, hb, hk⟩)
      have HS3 := Aside0.mk (mss_one HH.out rfl rfl HGE.out hk ho)
      have HB3 := Aside0.mk hb
      have HK3 := Aside0.mk (Kept.then_ HK.out hk (fun j hj => .inl (HOK.out j hj).1))
      clear ho hb hk
      go_roundw
      case rel => exact ⟨r1, i + 1, _, rfl, by first | rfl | rw [HW.out], ⟨by have := HI.out; have := HQ.out; rw [List.length_set]; omega⟩, ⟨ws, by rw [show (i + 1).toNat = i.toNat + 1 by have := HI.out; omega, mss_set]; exact HR2.out, by rw [show (i + 1).toNat = i.toNat + 1 by have := HI.out; omega, mss_take (by have := HI.out; have := HQ.out; omega), List.append_assoc]; exact HZ.out⟩, HS3, HK3, HB3⟩
      case measure => have := HI.out; have := HQ.out; have := HW.out; first | (simp only [this]; omega) | (simp; omega) | omega
    · have hlt : decide (i < (l0.length : Int)) = false := decide_eq_false hi
      have HQ := Aside0.mk hi
      clear hi
      go_wp2
      go_ret
      obtain ⟨zs, he, hz⟩ := HA.out
      rw [List.drop_eq_nil_of_le (by have := HI.out; have := HQ.out; omega)] at he
      obtain ⟨rfl, rfl⟩ := Prod.mk.inj (Option.some.inj (show some (acc, ([] : List (List Int))) = some (r, zs) from he))
      rw [List.append_nil, List.take_of_length_le (by have := HI.out; have := HQ.out; omega)] at hz
      exact ⟨rfl, HB.out, HK.out, by rw [← hz]; exact HS.out⟩
theorem laws_markIntSS.calls (k : Nat) (P0_ : Nat → Prop) (u9000_ : Value) (l0 : List (List Int)) (a1 : Int) (r : Int) (w0 w : World) (hB : Below w0.heap.size w0 w) (ho0 : Kd.S (Kd.slice 3 (Kd.int .i64)) 23 w w0.heap.size P0_ u9000_ l0) (h : laws_markIntSS.f k l0 a1 = some r) :
    Calls Try.prog 16 #[u9000_, .int .i64 a1] w fun e w' => e = .returned (.int .i64 r) ∧ Below w0.heap.size w0 w' ∧ Kept w w' (fun k_ => P0_ k_) := by
  have hl : l0.length ≤ 9000000000000000000 := by by_cases hl : l0.length ≤ 9000000000000000000; exact hl; rw [laws_markIntSS.f, if_neg hl] at h; cases h
  rw [laws_markIntSS.f, if_pos hl] at h
  obtain ⟨zs, hz⟩ := mss_of k l0 a1 r h
  exact (laws_markIntSS.kept k P0_ u9000_ l0 a1 r zs hl w0 w hB ho0 hz).mono fun e w' he => ⟨he.1, he.2.1, he.2.2.1⟩


/-! ### spec_l1In: function 38 -/
def spec_l1In.f (a0 : Int) (a1 : Int) (a2 : Int) : Option (Bool) := if a0 ≥ a1 then (some (decide (a0 ≤ a2))) else (some false)
set_option maxHeartbeats 8000000 in
set_option maxRecDepth 100000 in
theorem spec_l1In.calls (a0 : Int) (a1 : Int) (a2 : Int) (r : Bool) (w : World) (h : spec_l1In.f a0 a1 a2 = some r) :
    Calls Try.prog 38 #[.int .i64 a0, .int .i64 a1, .int .i64 a2] w fun e w' => e = .returned (.bool r) ∧ Drawn0 w w' := by
  have H : (if a0 ≥ a1 then (some (decide (a0 ≤ a2))) else (some false)) = some r := h
  clear h
  by_cases c4 : a0 ≥ a1
  · rw [if_pos c4] at H
    have c4b0 : decide (a1 ≤ a0) = true := decide_eq_true c4
    clear c4
    obtain rfl := Option.some.inj H
    go_enter Try.func38, Try.ntmps38
    go_wp2
    go_ret
    exact ⟨by first | rfl | (simp; done) | (simp [*]; done), by repeat (first | exact Drawn0.refl _ | apply Drawn0.step)⟩
  · rw [if_neg c4] at H
    have c4b0 : decide (a1 ≤ a0) = false := decide_eq_false c4
    clear c4
    obtain rfl := Option.some.inj H
    go_enter Try.func38, Try.ntmps38
    go_wp2
    go_ret
    exact ⟨by first | rfl | (simp; done) | (simp [*]; done), by repeat (first | exact Drawn0.refl _ | apply Drawn0.step)⟩

end Go.Proofs.Ytpphjbogijjnpaa.PFnExactBasis
