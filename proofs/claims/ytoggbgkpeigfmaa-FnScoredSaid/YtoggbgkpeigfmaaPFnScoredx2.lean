-- Written by a turned copy of the print (see the notes of this repo): plain functions and their walks. Lean checks it.
import Derived.Test.YtoggbgkpeigfmaaPFnScoredx0
import Derived.Test.YtoggbgkpeigfmaaPFnScoredx1
namespace Go.Proofs.Ytoggbgkpeigfmaa.PFnScored
open Go.RowKit Go.Proofs.YtoggbgkpeigfmaaW.PrintWords Go.Proofs.YtoggbgkpeigfmaaW.PrintLast Go.Proofs.YtoggbgkpeigfmaaW.PrintMore
attribute [local go_sem] max2_int min2_int max_two min_two max_three min_three max_four min_four   -- for this text's walks alone
set_option linter.unusedVariables false
set_option linter.unusedSimpArgs false

/-! ### impl_Likeliest: function 10 -/
def lk_rd2 (xs : List (List Int)) (i : Int) : (List Int) := xs.getD i.toNat ([] : List Int)
theorem lk_at2 {w : World} {A : Option Addr} {n : Nat} {xs : List (List Int)} (h : Kd.C (Kd.slice 3 (Kd.int .i64)) w A n xs) (i : Int) (h0 : 0 ≤ i) (h1 : i < n) : ∃ ad A0 c0, A = some ad ∧ w.cell? (ad.add i.toNat) = some (.slice A0 (lk_rd2 xs i).length c0) ∧ (lk_rd2 xs i).length ≤ c0 ∧ (Kd.int .i64).C w A0 (lk_rd2 xs i).length (lk_rd2 xs i) := by
 obtain ⟨ad, c, e, _, hK, hc0⟩ := Kd.C_get h ([] : List Int) i h0 h1
 have hc : ∀ j u, c[j]? = some u → w.cell? (ad.add (i.toNat * 1 + j)) = some u := hc0
 obtain ⟨A0, c0, rfl, l0, g0⟩ := hK
 exact ⟨ad, A0, c0, e, by have hq := hc 0 _ rfl; rwa [Nat.mul_one, Nat.add_zero] at hq, l0, g0⟩
def lkOne (p s x : Int) : Int := if p = 1 then wrap64 (s + x) else wrap64 (s - x)
def lkGain (a b : Int) (soft : List Int) (t reg : Int) : Option Int := (impl_parity.f (Go.bits .and .i64 reg a)).bind fun pa => (impl_parity.f (Go.bits .and .i64 reg b)).bind fun pb => some (lkOne pb (lkOne pa 0 (rd soft (2 * t))) (rd soft (2 * t + 1)))
set_option maxHeartbeats 4000000 in
set_option maxRecDepth 100000 in
theorem gain_calls (a b : Int) (As : Option Addr) (cs : Nat) (soft : List Int) (ga gb gs : Nat) (t reg : Int) (w : World) (hga : w.cell? ⟨ga, 0, none⟩ = some (.int .i64 a)) (hgb : w.cell? ⟨gb, 0, none⟩ = some (.int .i64 b)) (hgs : w.cell? ⟨gs, 0, none⟩ = some (.slice As soft.length cs))
 (hr : Kd.C (Kd.int .i64) w As soft.length soft) (ht : 0 ≤ t) (ht2 : 2 * t + 1 < (soft.length : Int)) (hl : soft.length ≤ 1000000) (r : Int) (hG : lkGain a b soft t reg = some r) :
 Calls Try.prog 27 #[.int .i64 t, .int .i64 reg, .pointer (some ⟨ga, 0, none⟩), .pointer (some ⟨gb, 0, none⟩), .pointer (some ⟨gs, 0, none⟩)] w fun e w' => e = .returned (.int .i64 r) ∧ Below w.heap.size w w' := by
 obtain ⟨W, hW⟩ : ∃ W, W = w.alloc (.cells #[.int .i64 a, .int .i64 b] 3) := ⟨_, rfl⟩
 have hB : Below w.heap.size w W := by rw [hW]; exact zBa (Below.refl _ _) _
 have HB := Aside0.mk hB
 have hbx : W.heap[w.heap.size]? = some (.cells #[.int .i64 a, .int .i64 b] 3 (0, 0)) := by rw [hW]; exact blk_new _ _
 have hx0 : W.cell? ⟨w.heap.size, 0, none⟩ = some (.int .i64 a) := (blk_cell hbx 0).trans rfl
 have hx1 : W.cell? ⟨w.heap.size, 1, none⟩ = some (.int .i64 b) := (blk_cell hbx 1).trans rfl
 have hs2 : W.cell? ⟨gs, 0, none⟩ = some (.slice As soft.length cs) := (hB.cell (zW w _ hgs)).trans hgs
 have hC2 := Kd.C_below hr hB
 obtain ⟨ad, e0, hy0⟩ := Kd.at_int hC2 (2 * t) (by omega) (by omega)
 subst e0
 obtain ⟨ad1, e1, hy1⟩ := Kd.at_int hC2 (2 * t + 1) (by omega) (by omega)
 injection e1 with e1
 subst e1
 have w1 : wrap64 (2 * t) = 2 * t := by unfold wrap64; omega
 have w2 : wrap64 (2 * t + 1) = 2 * t + 1 := by unfold wrap64; omega
 have p0 := eq_true (show 0 ≤ 2 * t by omega)
 have p1 := eq_true (show 0 ≤ 2 * t + 1 by omega)
 have q0 := eq_true (show 2 * t < (soft.length : Int) by omega)
 have q1 := eq_true ht2
 clear hbx hC2 hr ht ht2 hl hB
 subst hW
 obtain ⟨pa, hpa, hG2⟩ := Option.bind_eq_some_iff.mp hG
 obtain ⟨pb, hpb, hG3⟩ := Option.bind_eq_some_iff.mp hG2
 obtain rfl := Option.some.inj hG3
 have HPA := Aside0.mk hpa
 have HPB := Aside0.mk hpb
 clear hG hG2 hG3 hpa hpb
 unfold lkOne
 by_cases c1 : pa = 1
 case pos =>
  have d1 : (pa == 1) = true := beq_iff_eq.mpr c1
  rw [if_pos c1]
  by_cases c2 : pb = 1
  case pos =>
   have d2 : (pb == 1) = true := beq_iff_eq.mpr c2
   rw [if_pos c2]
   clear c1 c2
   go_enter Try.func27, Try.ntmps27
   go_wp2
   refine wp_loop_rounds 3 ?_
   rw [rounds_succ]
   go_wp2_with (first | (go_at_call 25; (with_reducible refine (impl_parity.calls (Go.bits .and .i64 reg a) pa _ HPA.out).mono ?_); rintro e w' ⟨rfl, ⟨nd, rfl⟩⟩))
   rw [rounds_succ]
   go_wp2_with (first | (go_at_call 25; (with_reducible refine (impl_parity.calls (Go.bits .and .i64 reg b) pb _ HPB.out).mono ?_); rintro e w' ⟨rfl, ⟨nd2, rfl⟩⟩))
   rw [rounds_succ]
   go_wp2
   go_ret
   exact ⟨by first | rfl | (simp; done), zBn HB.out _⟩
  have d2 : (pb == 1) = false := beq_eq_false_iff_ne.mpr c2
  rw [if_neg c2]
  clear c1 c2
  go_enter Try.func27, Try.ntmps27
  go_wp2
  refine wp_loop_rounds 3 ?_
  rw [rounds_succ]
  go_wp2_with (first | (go_at_call 25; (with_reducible refine (impl_parity.calls (Go.bits .and .i64 reg a) pa _ HPA.out).mono ?_); rintro e w' ⟨rfl, ⟨nd, rfl⟩⟩))
  rw [rounds_succ]
  go_wp2_with (first | (go_at_call 25; (with_reducible refine (impl_parity.calls (Go.bits .and .i64 reg b) pb _ HPB.out).mono ?_); rintro e w' ⟨rfl, ⟨nd2, rfl⟩⟩))
  rw [rounds_succ]
  go_wp2
  go_ret
  exact ⟨by first | rfl | (simp; done), zBn HB.out _⟩
 have d1 : (pa == 1) = false := beq_eq_false_iff_ne.mpr c1
 rw [if_neg c1]
 by_cases c2 : pb = 1
 case pos =>
  have d2 : (pb == 1) = true := beq_iff_eq.mpr c2
  rw [if_pos c2]
  clear c1 c2
  go_enter Try.func27, Try.ntmps27
  go_wp2
  refine wp_loop_rounds 3 ?_
  rw [rounds_succ]
  go_wp2_with (first | (go_at_call 25; (with_reducible refine (impl_parity.calls (Go.bits .and .i64 reg a) pa _ HPA.out).mono ?_); rintro e w' ⟨rfl, ⟨nd, rfl⟩⟩))
  rw [rounds_succ]
  go_wp2_with (first | (go_at_call 25; (with_reducible refine (impl_parity.calls (Go.bits .and .i64 reg b) pb _ HPB.out).mono ?_); rintro e w' ⟨rfl, ⟨nd2, rfl⟩⟩))
  rw [rounds_succ]
  go_wp2
  go_ret
  exact ⟨by first | rfl | (simp; done), zBn HB.out _⟩
 have d2 : (pb == 1) = false := beq_eq_false_iff_ne.mpr c2
 rw [if_neg c2]
 clear c1 c2
 go_enter Try.func27, Try.ntmps27
 go_wp2
 refine wp_loop_rounds 3 ?_
 rw [rounds_succ]
 go_wp2_with (first | (go_at_call 25; (with_reducible refine (impl_parity.calls (Go.bits .and .i64 reg a) pa _ HPA.out).mono ?_); rintro e w' ⟨rfl, ⟨nd, rfl⟩⟩))
 rw [rounds_succ]
 go_wp2_with (first | (go_at_call 25; (with_reducible refine (impl_parity.calls (Go.bits .and .i64 reg b) pb _ HPB.out).mono ?_); rintro e w' ⟨rfl, ⟨nd2, rfl⟩⟩))
 rw [rounds_succ]
 go_wp2
 go_ret
 exact ⟨by first | rfl | (simp; done), zBn HB.out _⟩
theorem bsS_put2 {q e g n cap base : Nat} {W : World} {ok : Nat → Prop} {xs : List (List Int)} (h : Kd.S (Kd.slice q (Kd.int .i64)) e W base ok (.slice (some ⟨g, 0, none⟩) n cap) xs) (i k : Int) (hi0 : 0 ≤ i) (hi : i < n) (hk0 : 0 ≤ k) (hk : k < ((xs.getD i.toNat []).length : Int)) (v : Int) :
 ∃ gi ci, W.cell? ⟨g, i.toNat, none⟩ = some (.slice (some ⟨gi, 0, none⟩) (xs.getD i.toNat []).length ci) ∧ W.cell? ⟨gi, k.toNat, none⟩ = some (.int .i64 (rd (xs.getD i.toNat []) k)) ∧ W.frozen? ⟨gi, k.toNat, none⟩ = false ∧ ok gi ∧ gi ≠ g ∧
  Kd.S (Kd.slice q (Kd.int .i64)) e (W.setCell ⟨gi, k.toNat, none⟩ (.int .i64 v)) base ok (.slice (some ⟨g, 0, none⟩) n cap) (xs.set i.toNat ((xs.getD i.toNat []).set k.toNat v)) ∧ W.grownBy (W.setCell ⟨gi, k.toNat, none⟩ (.int .i64 v)) (some gi) := by
 obtain ⟨oki, c, hcl, hM, hcc, hoki, hbk⟩ := Kd.S_borrow h [] i hi0 hi
 obtain ⟨ve, rfl, ge⟩ := hM
 have hv := hcc 0 _ rfl
 rw [show (Kd.slice q (Kd.int .i64)).sz = 1 from rfl, Nat.mul_one, Nat.add_zero] at hv
 obtain ⟨gi, ci, rfl, _, _, _⟩ := Kd.R_form ge (by omega)
 obtain ⟨hx, hf⟩ := Kd.R_celln 0 ge k hk0 hk
 have hp := Kd.R_putg ge k v
 have hog := hoki gi (ge.1 _ rfl)
 refine ⟨gi, ci, ?_, ?_, ?_, hog.1, fun he => hog.2 (by rw [he]; rfl), ?_, hp.2⟩
 ·have := hv; rw [add_plain] at this; simpa using this
 ·exact hx
 ·exact hf
 ·exact hbk hp.2 (fun k_ e_ => by injection e_ with e_; subst e_; exact ge.1 _ rfl) ⟨_, rfl, hp.1⟩
theorem lk_bx {ws wc : World} {g : Nat} {v : Value} (hB : Below ws.heap.size ws wc) (h : ws.cell? ⟨g, 0, none⟩ = some v) : wc.cell? ⟨g, 0, none⟩ = some v := (hB.cell (zW ws _ h)).trans h
theorem lk_exit {β : Type} {e : β} {F : Value → β} {w ws w' : World} {r1 : List Int} (hb : Below w.heap.size w ws) (h : ∃ v0_ : Value, e = F v0_ ∧ Kd.R (Kd.int .i64) 3 w' ws.heap.size (fun _ => True) v0_ r1 ∧ Below ws.heap.size ws w') :
 ∃ v0_ : Value, e = F v0_ ∧ Kd.R (Kd.int .i64) 3 w' w.heap.size (fun _ => True) v0_ r1 ∧ Below w.heap.size w w' := by
 obtain ⟨v, h1, h2, h3⟩ := h
 exact ⟨v, h1, Kd.R_lower h2 (below_size hb), below_step hb h3⟩
theorem lk_put {q e g n cap base : Nat} {W : World} {xs : List (List Int)} (h : Kd.S (Kd.slice q (Kd.int .i64)) e W base (fun _ => True) (.slice (some ⟨g, 0, none⟩) n cap) xs) (i k : Int) (hi0 : 0 ≤ i) (hi : i < n) (hk0 : 0 ≤ k) (hk : k < ((lk_rd2 xs i).length : Int)) (v : Int) :
 ∃ gi ci, W.cell? ⟨g, i.toNat, none⟩ = some (.slice (some ⟨gi, 0, none⟩) (lk_rd2 xs i).length ci) ∧ W.cell? ⟨gi, k.toNat, none⟩ = some (.int .i64 (rd (lk_rd2 xs i) k)) ∧ W.frozen? ⟨gi, k.toNat, none⟩ = false ∧ base ≤ gi ∧ gi ≠ g ∧
  Kd.S (Kd.slice q (Kd.int .i64)) e (W.setCell ⟨gi, k.toNat, none⟩ (.int .i64 v)) base (fun _ => True) (.slice (some ⟨g, 0, none⟩) n cap) (xs.set i.toNat ((lk_rd2 xs i).set k.toNat v)) ∧ W.grownBy (W.setCell ⟨gi, k.toNat, none⟩ (.int .i64 v)) (some gi) := by
 obtain ⟨gi, ci, h1, h2, h3, h4, h5, h6, h7⟩ := bsS_put2 (Kd.S_bound h) i k hi0 hi hk0 hk v
 exact ⟨gi, ci, h1, h2, h3, h4.2.1, h5, Kd.S_mono h6 (fun _ hk => hk.1), h7⟩
def lkG (a b : Int) (soft : List Int) (t reg : Int) : Option Int := if 0 ≤ t ∧ 2 * t + 1 < (soft.length : Int) ∧ soft.length ≤ 1000000 then lkGain a b soft t reg else none
theorem lkG_calls (a b : Int) (As : Option Addr) (cs : Nat) (soft : List Int) (ga gb gs : Nat) (t reg : Int) (w : World) (hga : w.cell? ⟨ga, 0, none⟩ = some (.int .i64 a)) (hgb : w.cell? ⟨gb, 0, none⟩ = some (.int .i64 b)) (hgs : w.cell? ⟨gs, 0, none⟩ = some (.slice As soft.length cs))
 (hr : Kd.C (Kd.int .i64) w As soft.length soft) (r : Int) (hG : lkG a b soft t reg = some r) :
 Calls Try.prog 27 #[.int .i64 t, .int .i64 reg, .pointer (some ⟨ga, 0, none⟩), .pointer (some ⟨gb, 0, none⟩), .pointer (some ⟨gs, 0, none⟩)] w fun e w' => e = .returned (.int .i64 r) ∧ Below w.heap.size w w' := by
 unfold lkG at hG
 split at hG
 ·rename_i hc
  exact gain_calls a b As cs soft ga gb gs t reg w hga hgb hgs hr hc.1 hc.2.1 hc.2.2 r hG
 ·cases hG
mutual
def impl_Likeliest.j0 (a1 a2 : Int) (l3 : List Int) : Nat → Int → List Int → Bool → Option (List Int × Int × Bool)
 | 0, _, _, _ => none
 | k + 1, x0, x7, x38 => if x38 = true then (some (([] : List Int), 0, false)) else (if (wrap64 ((wrap64 ((x7.length : Int) / 2)) - x0)) < 0 then (impl_Likeliest.j1 a1 a2 l3 k x0 (wrap64 ((x7.length : Int) / 2)) (wrap64 ((wrap64 ((x7.length : Int) / 2)) - x0)) true) else (impl_Likeliest.j1 a1 a2 l3 k x0 (wrap64 ((x7.length : Int) / 2)) (wrap64 ((wrap64 ((x7.length : Int) / 2)) - x0)) (decide ((wrap64 ((wrap64 ((x7.length : Int) / 2)) - x0)) > 120))))
def impl_Likeliest.j1 (a1 a2 : Int) (l3 : List Int) : Nat → Int → Int → Int → Bool → Option (List Int × Int × Bool)
 | 0, _, _, _, _ => none
 | k + 1, x0, x11, x12, x50 => if x50 = true then (some (([] : List Int), 0, false)) else (if 0 ≤ x0 then (if 0 ≤ (wrap64 (x11 + 1)) then (if (wrap64 (x11 + 1) : Int).toNat ≤ 11728124029610 then ((some (List.replicate (wrap64 (x11 + 1) : Int).toNat [] : List (List Int))).bind fun y187 => (if 0 ≤ (wrap64 ((wrap64 ((shl .i64 1 x0) - 1)) + 1)) then (if (wrap64 ((wrap64 ((shl .i64 1 x0) - 1)) + 1) : Int).toNat ≤ 35184372088832 then (if 0 ≤ x11 then (if x11 < (y187.length : Int) then (impl_Likeliest.l0 a1 a2 l3 k x12 (wrap64 ((shl .i64 1 x0) - 1)) (y187.set (x11 : Int).toNat (List.replicate (wrap64 ((wrap64 ((shl .i64 1 x0) - 1)) + 1) : Int).toNat 0)) (wrap64 (x11 - 1))) else (none)) else (none)) else (none)) else (none))) else (none)) else (none)) else (none))
def impl_Likeliest.l0 (a1 a2 : Int) (l3 : List Int) : Nat → Int → Int → List (List Int) → Int → Option (List Int × Int × Bool)
 | 0, _, _, _, _ => none
 | k + 1, x12, x13, x15, x16 => if x16 ≥ 0 then (if 0 ≤ (wrap64 (x13 + 1)) then (if (wrap64 (x13 + 1) : Int).toNat ≤ 35184372088832 then (if 0 ≤ x16 then (if x16 < (x15.length : Int) then ((some (x15.set (x16 : Int).toNat (List.replicate (wrap64 (x13 + 1) : Int).toNat 0) : List (List Int))).bind fun y197 => (impl_Likeliest.l1 a1 a2 l3 k x12 x13 y197 x16 ((lk_rd2 y197 x16).length : Int) 0)) else (none)) else (none)) else (none)) else (none)) else (impl_Likeliest.l2 a1 a2 l3 k x13 x15 ([] : List Int) 0 x12 0)
def impl_Likeliest.l1 (a1 a2 : Int) (l3 : List Int) : Nat → Int → Int → List (List Int) → Int → Int → Int → Option (List Int × Int × Bool)
 | 0, _, _, _, _, _, _ => none
 | k + 1, x12, x13, x15, x16, x80, x81 => if x81 < x80 then ((lkG a1 a2 l3 x16 (wrap64 (x81 * 2))).bind fun t199 => (if 0 ≤ (wrap64 (x16 + 1)) then (if (wrap64 (x16 + 1)) < (x15.length : Int) then (if 0 ≤ (Go.bits .and .i64 (wrap64 (x81 * 2)) x13) then (if (Go.bits .and .i64 (wrap64 (x81 * 2)) x13) < ((lk_rd2 x15 (wrap64 (x16 + 1))).length : Int) then (if x16 < x12 then ((lkG a1 a2 l3 x16 (Go.bits .or .i64 (wrap64 (x81 * 2)) 1)).bind fun t202 => (if 0 ≤ (Go.bits .and .i64 (Go.bits .or .i64 (wrap64 (x81 * 2)) 1) x13) then (if (Go.bits .and .i64 (Go.bits .or .i64 (wrap64 (x81 * 2)) 1) x13) < ((lk_rd2 x15 (wrap64 (x16 + 1))).length : Int) then (if 0 ≤ x81 then (if x81 < ((lk_rd2 x15 x16).length : Int) then (if 0 ≤ x16 then (if x16 < (x15.length : Int) then (impl_Likeliest.l1 a1 a2 l3 k x12 x13 (x15.set (x16 : Int).toNat ((lk_rd2 x15 x16).set (x81 : Int).toNat (mx (wrap64 (t199 + (rd (lk_rd2 x15 (wrap64 (x16 + 1))) (Go.bits .and .i64 (wrap64 (x81 * 2)) x13)))) (wrap64 (t202 + (rd (lk_rd2 x15 (wrap64 (x16 + 1))) (Go.bits .and .i64 (Go.bits .or .i64 (wrap64 (x81 * 2)) 1) x13))))))) x16 x80 (wrap64 (x81 + 1))) else (none)) else (none)) else (none)) else (none)) else (none)) else (none))) else (if 0 ≤ x81 then (if x81 < ((lk_rd2 x15 x16).length : Int) then (if 0 ≤ x16 then (if x16 < (x15.length : Int) then (impl_Likeliest.l1 a1 a2 l3 k x12 x13 (x15.set (x16 : Int).toNat ((lk_rd2 x15 x16).set (x81 : Int).toNat (wrap64 (t199 + (rd (lk_rd2 x15 (wrap64 (x16 + 1))) (Go.bits .and .i64 (wrap64 (x81 * 2)) x13)))))) x16 x80 (wrap64 (x81 + 1))) else (none)) else (none)) else (none)) else (none))) else (none)) else (none)) else (none)) else (none))) else (impl_Likeliest.l0 a1 a2 l3 k x12 x13 x15 (wrap64 (x16 - 1)))
def impl_Likeliest.l2 (a1 a2 : Int) (l3 : List Int) : Nat → Int → List (List Int) → List Int → Int → Int → Int → Option (List Int × Int × Bool)
 | 0, _, _, _, _, _, _ => none
 | k + 1, x13, x15, x19, x20, x133, x134 => if x134 < x133 then ((lkG a1 a2 l3 x134 (wrap64 (x20 * 2))).bind fun t213 => (if 0 ≤ (wrap64 (x134 + 1)) then (if (wrap64 (x134 + 1)) < (x15.length : Int) then (if 0 ≤ (Go.bits .and .i64 (wrap64 (x20 * 2)) x13) then (if (Go.bits .and .i64 (wrap64 (x20 * 2)) x13) < ((lk_rd2 x15 (wrap64 (x134 + 1))).length : Int) then (if 0 ≤ x134 then (if x134 < (x15.length : Int) then (if 0 ≤ x20 then (if x20 < ((lk_rd2 x15 x134).length : Int) then (if (wrap64 (t213 + (rd (lk_rd2 x15 (wrap64 (x134 + 1))) (Go.bits .and .i64 (wrap64 (x20 * 2)) x13)))) < (rd (lk_rd2 x15 x134) x20) then (if x19.length < 17592186044416 then (impl_Likeliest.l2 a1 a2 l3 k x13 x15 (x19 ++ [1]) (Go.bits .and .i64 (Go.bits .or .i64 (wrap64 (x20 * 2)) 1) x13) x133 (wrap64 (x134 + 1))) else (none)) else (if x19.length < 17592186044416 then (impl_Likeliest.l2 a1 a2 l3 k x13 x15 (x19 ++ [0]) (Go.bits .and .i64 (Go.bits .or .i64 (wrap64 (x20 * 2)) 0) x13) x133 (wrap64 (x134 + 1))) else (none))) else (none)) else (none)) else (none)) else (none)) else (none)) else (none)) else (none)) else (none))) else (if 0 < (x15.length : Int) then (if 0 < ((lk_rd2 x15 0).length : Int) then (some (x19, rd (lk_rd2 x15 0) 0, true)) else (none)) else (none))
end
def impl_Likeliest.f (k : Nat) (a0 : Int) (a1 : Int) (a2 : Int) (l3 : List Int) : Option (List Int × Int × Bool) := (impl_coder.f a0 a1 a2).bind fun t185 => (if t185 = true then (if ((l3.length : Int) % 2) = 0 then ((impl_within.f k l3 100).bind fun t186 => (impl_Likeliest.j0 a1 a2 l3 k a0 l3 (!t186))) else (impl_Likeliest.j0 a1 a2 l3 k a0 l3 true)) else (impl_Likeliest.j0 a1 a2 l3 k a0 l3 true))
theorem impl_Likeliest.mono_l (a1 a2 : Int) (l3 : List Int) : ∀ k, (∀ y0 y1 y2, LeO (impl_Likeliest.j0 a1 a2 l3 k y0 y1 y2) (impl_Likeliest.j0 a1 a2 l3 (k + 1) y0 y1 y2)) ∧ (∀ y0 y1 y2 y3, LeO (impl_Likeliest.j1 a1 a2 l3 k y0 y1 y2 y3) (impl_Likeliest.j1 a1 a2 l3 (k + 1) y0 y1 y2 y3)) ∧ (∀ y0 y1 y2 y3, LeO (impl_Likeliest.l0 a1 a2 l3 k y0 y1 y2 y3) (impl_Likeliest.l0 a1 a2 l3 (k + 1) y0 y1 y2 y3)) ∧ (∀ y0 y1 y2 y3 y4 y5, LeO (impl_Likeliest.l1 a1 a2 l3 k y0 y1 y2 y3 y4 y5) (impl_Likeliest.l1 a1 a2 l3 (k + 1) y0 y1 y2 y3 y4 y5)) ∧ (∀ y0 y1 y2 y3 y4 y5, LeO (impl_Likeliest.l2 a1 a2 l3 k y0 y1 y2 y3 y4 y5) (impl_Likeliest.l2 a1 a2 l3 (k + 1) y0 y1 y2 y3 y4 y5))
 | 0 => ⟨fun _ _ _ r h => by simp [impl_Likeliest.j0] at h, fun _ _ _ _ r h => by simp [impl_Likeliest.j1] at h, fun _ _ _ _ r h => by simp [impl_Likeliest.l0] at h, fun _ _ _ _ _ _ r h => by simp [impl_Likeliest.l1] at h, fun _ _ _ _ _ _ r h => by simp [impl_Likeliest.l2] at h⟩
 | k + 1 => by
  obtain ⟨ih0, ih1, ih2, ih3, ih4⟩ := impl_Likeliest.mono_l a1 a2 l3 k
  refine ⟨?_, ?_, ?_, ?_, ?_⟩
  ·intro y0 y1 y2
   unfold impl_Likeliest.j0
   repeat' first
   | (with_reducible exact ih0 _ _ _)
   | (with_reducible exact ih1 _ _ _ _)
   | (with_reducible exact ih2 _ _ _ _)
   | (with_reducible exact ih3 _ _ _ _ _ _)
   | (with_reducible exact ih4 _ _ _ _ _ _)
   | (with_reducible exact impl_within.mono _ _ _)
   | (with_reducible exact LeO.refl _)
   | (with_reducible exact LeO.none _)
   | (with_reducible refine LeO.ite ?_ ?_)
   | (with_reducible refine LeO.bind ?_ (fun _ => ?_))
   | exact ih0 _ _ _
   | exact ih1 _ _ _ _
   | exact ih2 _ _ _ _
   | exact ih3 _ _ _ _ _ _
   | exact ih4 _ _ _ _ _ _
   | exact impl_within.mono _ _ _
   | exact LeO.none _
   | refine LeO.ite ?_ ?_
   | refine LeO.bind ?_ (fun _ => ?_)
  ·intro y0 y1 y2 y3
   unfold impl_Likeliest.j1
   repeat' first
   | (with_reducible exact ih0 _ _ _)
   | (with_reducible exact ih1 _ _ _ _)
   | (with_reducible exact ih2 _ _ _ _)
   | (with_reducible exact ih3 _ _ _ _ _ _)
   | (with_reducible exact ih4 _ _ _ _ _ _)
   | (with_reducible exact impl_within.mono _ _ _)
   | (with_reducible exact LeO.refl _)
   | (with_reducible exact LeO.none _)
   | (with_reducible refine LeO.ite ?_ ?_)
   | (with_reducible refine LeO.bind ?_ (fun _ => ?_))
   | exact ih0 _ _ _
   | exact ih1 _ _ _ _
   | exact ih2 _ _ _ _
   | exact ih3 _ _ _ _ _ _
   | exact ih4 _ _ _ _ _ _
   | exact impl_within.mono _ _ _
   | exact LeO.none _
   | refine LeO.ite ?_ ?_
   | refine LeO.bind ?_ (fun _ => ?_)
  ·intro y0 y1 y2 y3
   unfold impl_Likeliest.l0
   repeat' first
   | (with_reducible exact ih0 _ _ _)
   | (with_reducible exact ih1 _ _ _ _)
   | (with_reducible exact ih2 _ _ _ _)
   | (with_reducible exact ih3 _ _ _ _ _ _)
   | (with_reducible exact ih4 _ _ _ _ _ _)
   | (with_reducible exact impl_within.mono _ _ _)
   | (with_reducible exact LeO.refl _)
   | (with_reducible exact LeO.none _)
   | (with_reducible refine LeO.ite ?_ ?_)
   | (with_reducible refine LeO.bind ?_ (fun _ => ?_))
   | exact ih0 _ _ _
   | exact ih1 _ _ _ _
   | exact ih2 _ _ _ _
   | exact ih3 _ _ _ _ _ _
   | exact ih4 _ _ _ _ _ _
   | exact impl_within.mono _ _ _
   | exact LeO.none _
   | refine LeO.ite ?_ ?_
   | refine LeO.bind ?_ (fun _ => ?_)
  ·intro y0 y1 y2 y3 y4 y5
   unfold impl_Likeliest.l1
   repeat' first
   | (with_reducible exact ih0 _ _ _)
   | (with_reducible exact ih1 _ _ _ _)
   | (with_reducible exact ih2 _ _ _ _)
   | (with_reducible exact ih3 _ _ _ _ _ _)
   | (with_reducible exact ih4 _ _ _ _ _ _)
   | (with_reducible exact impl_within.mono _ _ _)
   | (with_reducible exact LeO.refl _)
   | (with_reducible exact LeO.none _)
   | (with_reducible refine LeO.ite ?_ ?_)
   | (with_reducible refine LeO.bind ?_ (fun _ => ?_))
   | exact ih0 _ _ _
   | exact ih1 _ _ _ _
   | exact ih2 _ _ _ _
   | exact ih3 _ _ _ _ _ _
   | exact ih4 _ _ _ _ _ _
   | exact impl_within.mono _ _ _
   | exact LeO.none _
   | refine LeO.ite ?_ ?_
   | refine LeO.bind ?_ (fun _ => ?_)
  ·intro y0 y1 y2 y3 y4 y5
   unfold impl_Likeliest.l2
   repeat' first
   | (with_reducible exact ih0 _ _ _)
   | (with_reducible exact ih1 _ _ _ _)
   | (with_reducible exact ih2 _ _ _ _)
   | (with_reducible exact ih3 _ _ _ _ _ _)
   | (with_reducible exact ih4 _ _ _ _ _ _)
   | (with_reducible exact impl_within.mono _ _ _)
   | (with_reducible exact LeO.refl _)
   | (with_reducible exact LeO.none _)
   | (with_reducible refine LeO.ite ?_ ?_)
   | (with_reducible refine LeO.bind ?_ (fun _ => ?_))
   | exact ih0 _ _ _
   | exact ih1 _ _ _ _
   | exact ih2 _ _ _ _
   | exact ih3 _ _ _ _ _ _
   | exact ih4 _ _ _ _ _ _
   | exact impl_within.mono _ _ _
   | exact LeO.none _
   | refine LeO.ite ?_ ?_
   | refine LeO.bind ?_ (fun _ => ?_)
theorem impl_Likeliest.mono : ∀ a0 a1 a2 a3 k, LeO (impl_Likeliest.f k a0 a1 a2 a3) (impl_Likeliest.f (k + 1) a0 a1 a2 a3) := by
 intro a0 a1 a2 a3 k
 obtain ⟨ih0, ih1, ih2, ih3, ih4⟩ := impl_Likeliest.mono_l a1 a2 a3 k
 unfold impl_Likeliest.f
 repeat' first
  | (with_reducible exact ih0 _ _ _)
  | (with_reducible exact ih1 _ _ _ _)
  | (with_reducible exact ih2 _ _ _ _)
  | (with_reducible exact ih3 _ _ _ _ _ _)
  | (with_reducible exact ih4 _ _ _ _ _ _)
  | (with_reducible exact impl_within.mono _ _ _)
  | (with_reducible exact LeO.refl _)
  | (with_reducible exact LeO.none _)
  | (with_reducible refine LeO.ite ?_ ?_)
  | (with_reducible refine LeO.bind ?_ (fun _ => ?_))
  | exact ih0 _ _ _
  | exact ih1 _ _ _ _
  | exact ih2 _ _ _ _
  | exact ih3 _ _ _ _ _ _
  | exact ih4 _ _ _ _ _ _
  | exact impl_within.mono _ _ _
  | exact LeO.none _
  | refine LeO.ite ?_ ?_
  | refine LeO.bind ?_ (fun _ => ?_)
def impl_Likeliest.T18 : Bool × List (List Nat × List Nat) := (true, [([], []), ([], []), ([], []), ([2], [2]), ([0, 1, 3], [0, 1, 3]), ([], []), ([], []), ([6], [6]), ([5, 7], [5, 7]), ([8], [8]), ([], []), ([10], [10]), ([], []), ([11, 12], [11, 12]), ([9, 13], [9, 13]), ([14], [14]), ([4, 15], [4, 15]), ([16, 4, 0, 1, 2, 3, 4, 5, 6, 7, 8, 9, 10, 11, 12, 13, 14, 15, 16], [16])])
def impl_Likeliest.B18 : List Nat := [0, 0, 0, 4, 15, 0, 0, 64, 224, 480, 0, 1024, 0, 7168, 16352, 32736, 65535, 131071]
theorem impl_Likeliest.tab18 : rtab .any (opsOf Try.f10 18) = impl_Likeliest.T18 := by kernel_rfl
theorem impl_Likeliest.bits18 : waitsOk impl_Likeliest.T18.2 impl_Likeliest.B18 = true := by kernel_rfl
def impl_Likeliest.T20 : Bool × List (List Nat × List Nat) := (true, [([], []), ([], []), ([], []), ([], []), ([3], [3]), ([4], [4]), ([1, 2, 5], [1, 2, 5]), ([], []), ([], []), ([8], [8]), ([7, 9], [7, 9]), ([10], [10]), ([], []), ([12], [12]), ([13], [13]), ([], []), ([14, 15], [14, 15]), ([11, 16], [11, 16]), ([17], [17]), ([6, 18], [6, 18]), ([0, 19], [0, 19]), ([20, 6, 0, 1, 2, 3, 4, 5, 6, 7, 8, 9, 10, 11, 12, 13, 14, 15, 16, 17, 18, 19, 20], [0, 20])])
def impl_Likeliest.B20 : List Nat := [0, 0, 0, 0, 8, 24, 62, 0, 0, 256, 896, 1920, 0, 4096, 12288, 0, 61440, 130944, 262016, 524286, 1048575, 2097151]
theorem impl_Likeliest.tab20 : rtab .any (opsOf Try.f10 20) = impl_Likeliest.T20 := by kernel_rfl
theorem impl_Likeliest.bits20 : waitsOk impl_Likeliest.T20.2 impl_Likeliest.B20 = true := by kernel_rfl
def impl_Likeliest.T29 : Bool × List (List Nat × List Nat) := (true, [([], []), ([], []), ([], []), ([2], [2]), ([0, 1, 3], [0, 1, 3]), ([], []), ([], []), ([6], [6]), ([5, 7], [5, 7]), ([8], [8]), ([], []), ([10], [10]), ([], []), ([11, 12], [11, 12]), ([9, 13], [9, 13]), ([14], [14]), ([4, 15], [4, 15]), ([], []), ([], []), ([17, 18], [17, 18]), ([19], [19]), ([], []), ([20, 21], [20, 21]), ([22], [22]), ([16, 23], [16, 23])])
def impl_Likeliest.B29 : List Nat := [0, 0, 0, 4, 15, 0, 0, 64, 224, 480, 0, 1024, 0, 7168, 16352, 32736, 65535, 0, 0, 393216, 917504, 0, 4063232, 8257536, 16777215]
theorem impl_Likeliest.tab29 : rtab .any (opsOf Try.f10 29) = impl_Likeliest.T29 := by kernel_rfl
theorem impl_Likeliest.bits29 : waitsOk impl_Likeliest.T29.2 impl_Likeliest.B29 = true := by kernel_rfl
def impl_Likeliest.T34 : Bool × List (List Nat × List Nat) := (true, [([], []), ([], []), ([1], [1]), ([2], [2]), ([3], [3]), ([4], [4]), ([0, 0], [0]), ([5, 6, 0, 1, 2, 3, 4, 5, 6], [5]), ([7, 0, 1, 2, 3, 4, 5, 6, 7], [])])
def impl_Likeliest.B34 : List Nat := [0, 0, 2, 6, 14, 30, 1, 127, 255]
theorem impl_Likeliest.tab34 : rtab .any (opsOf Try.f10 34) = impl_Likeliest.T34 := by kernel_rfl
theorem impl_Likeliest.bits34 : waitsOk impl_Likeliest.T34.2 impl_Likeliest.B34 = true := by kernel_rfl
set_option maxHeartbeats 8000000 in
set_option maxRecDepth 100000 in
theorem impl_Likeliest.calls (k : Nat) (a0 : Int) (a1 : Int) (a2 : Int) (A3 : Option Addr) (c3 : Nat) (l3 : List Int) (r1 : List Int) (r2 : Int) (r3 : Bool) (w : World) (hr3 : Kd.C (Kd.int .i64) w A3 l3.length l3) (hc3 : l3.length ≤ c3) (h : impl_Likeliest.f k a0 a1 a2 l3 = some (r1, r2, r3)) :
 Calls Try.prog 10 #[.int .i64 a0, .int .i64 a1, .int .i64 a2, .slice A3 l3.length c3] w fun e w' => ∃ v0_ : Value, e = .returned (.tuple #[v0_, .int .i64 r2, .bool r3]) ∧ Kd.R (Kd.int .i64) 3 w' w.heap.size (fun _ => True) v0_ r1 ∧ Below w.heap.size w w' := by
 have HR3 := Aside0.mk hr3
 have HC3 := Aside0.mk hc3
 clear hr3 hc3
 have HB := Aside0.mk (Below.refl w.heap.size w)
 have H : ((impl_coder.f a0 a1 a2).bind fun t185 => (if t185 = true then (if ((l3.length : Int) % 2) = 0 then ((impl_within.f k l3 100).bind fun t186 => (impl_Likeliest.j0 a1 a2 l3 k a0 l3 (!t186))) else (impl_Likeliest.j0 a1 a2 l3 k a0 l3 true)) else (impl_Likeliest.j0 a1 a2 l3 k a0 l3 true))) = some (r1, r2, r3) := h
 clear h
 have HC5 := Aside0.mk H
 clear H
 go_enter Try.func10, Try.ntmps10
 clear HB
 go_upto_region 1 with (first | ((with_reducible refine gate_dst (N := 5) rfl ?_); refine box_event ?hg (N := 5) ?hd (cs := #[.int .i64 a1]) (t := 3) ?hr ?_; (case hd => rfl); (case hg => rfl); (case hr => first | (go_simp; done) | (go_simp; rfl)); intro ga hg wa hbox hb; have BA := Aside0.mk hbox; have HB := Aside0.mk hb; have GA := Aside0.mk (Nat.le_of_eq hg.symm : w.heap.size ≤ ga); clear hbox hb hg) | ((with_reducible refine gate_dst (N := 6) rfl ?_); refine box_event ?hg (N := 6) ?hd (cs := #[.int .i64 a2]) (t := 3) ?hr ?_; (case hd => rfl); (case hg => rfl); (case hr => first | (go_simp; done) | (go_simp; rfl)); intro gb hg wb hbox hb; have n0_ := Aside0.mk (zNb BA.out hb); have BB := Aside0.mk hbox; have n1_ := Aside0.mk (below_step HB.out hb); clear BA HB hbox hb hg; have BA := n0_; have HB := n1_; clear n0_ n1_) | ((with_reducible refine gate_dst (N := 7) rfl ?_); refine box_event ?hg (N := 7) ?hd (cs := #[.slice A3 l3.length c3]) (t := 24) ?hr ?_; (case hd => rfl); (case hg => rfl); (case hr => first | (go_simp; done) | (go_simp; rfl)); intro gs hg ws hbox hb; have n0_ := Aside0.mk (zNb BA.out hb); have n2_ := Aside0.mk (zNb BB.out hb); have BS := Aside0.mk hbox; have n1_ := Aside0.mk (below_step HB.out hb); clear BA BB HB hbox hb hg; have BA := n0_; have BB := n2_; have HB := n1_; clear n0_ n1_ n2_; have hca : ws.cell? ⟨ga, 0, none⟩ = some (.int .i64 a1) := (blk_cell BA.out 0).trans rfl; have hcb : ws.cell? ⟨gb, 0, none⟩ = some (.int .i64 a2) := (blk_cell BB.out 0).trans rfl; have hcs : ws.cell? ⟨gs, 0, none⟩ = some (.slice A3 l3.length c3) := (blk_cell BS.out 0).trans rfl))
 have HBz := HB
 clear HB
 have HB := Aside0.mk (Below.refl ws.heap.size ws)
 have n_ := Aside0.mk (Kd.C_below HR3.out HBz.out)
 clear HR3
 have HR3 := n_
 clear n_ BA BB BS
 have CA := Aside0.mk hca
 have CB := Aside0.mk hcb
 have CS := Aside0.mk hcs
 go_cut [38] (fun v38 wc => ∃ (kq : Nat) (x38_4 : Bool), v38 = .bool x38_4 ∧ Aside0 (impl_Likeliest.j0 a1 a2 l3 kq a0 l3 x38_4 = some (r1, r2, r3)) ∧ Aside0 (kq ≤ k) ∧ Aside0 (Below ws.heap.size ws wc))
 case first =>
  have H := HC5.out
  clear HC5
  replace H := Option.bind_eq_some_iff.mp H
  obtain ⟨t185, A60, H⟩ := H
  replace H : (if t185 = true then (if ((l3.length : Int) % 2) = 0 then ((impl_within.f k l3 100).bind fun t186 => (impl_Likeliest.j0 a1 a2 l3 k a0 l3 (!t186))) else (impl_Likeliest.j0 a1 a2 l3 k a0 l3 true)) else (impl_Likeliest.j0 a1 a2 l3 k a0 l3 true)) = some (r1, r2, r3) := H
  have A6 := Aside0.mk A60
  clear A60
  by_cases c7 : t185 = true
  case neg =>
   replace c7 := Bool.eq_false_iff.mpr c7
   subst c7
   have H1 : (impl_Likeliest.j0 a1 a2 l3 k a0 l3 true) = some (r1, r2, r3) := by rw [if_neg (show ¬ (false = true) by decide)] at H; exact H
   clear H
   have H := H1
   clear H1
   have H' := Aside0.mk H
   clear H
   go_wp2_with (first | ((with_reducible refine gate_callee (f := 23) rfl ?_); refine goesL_ (some 26) rfl rfl Try.func23 (by kernel_rfl) rfl #[.int .i64 a0, .int .i64 a1, .int .i64 a2] rfl (by (try simp only [List.map_toArray, List.map_cons, List.map_nil]); first | done | rfl | (simp only [List.length_drop, List.length_take]; rfl)) ?_; (with_reducible refine (impl_coder.calls a0 a1 a2 false _ A6.out).mono ?_); rintro e w' ⟨rfl, ⟨nd, rfl⟩⟩; refine ⟨_, rfl, ?_⟩))
   go_meet
   case rel => exact ⟨_, (true), (by first | rfl | (simp; done) | (simp [*]; done)), H', ⟨by first | omega | exact Nat.le_refl _⟩, ⟨by repeat (first | (with_reducible first | exact HB.out | apply zBa | apply zBn | apply zBd) | exact HB.out)⟩⟩
  subst c7
  have H1 : (if ((l3.length : Int) % 2) = 0 then ((impl_within.f k l3 100).bind fun t186 => (impl_Likeliest.j0 a1 a2 l3 k a0 l3 (!t186))) else (impl_Likeliest.j0 a1 a2 l3 k a0 l3 true)) = some (r1, r2, r3) := by rw [if_pos rfl] at H; exact H
  clear H
  have H := H1
  clear H1
  by_cases c8 : ((l3.length : Int) % 2) = 0
  case neg =>
   rw [if_neg c8] at H
   have c8b0 : (((l3.length : Int) % 2) == 0) = false := beq_eq_false_iff_ne.mpr c8
   have c8b1 : (((l3.length : Int) % 2) != 0) = true := bne_iff_ne.mpr c8
   (first | rw [c8b0] | (simp only [i64_w, i32_w]; rw [c8b0]) | skip)
   have H' := Aside0.mk H
   clear H
   go_wp2_with (first | ((with_reducible refine gate_callee (f := 23) rfl ?_); refine goesL_ (some 26) rfl rfl Try.func23 (by kernel_rfl) rfl #[.int .i64 a0, .int .i64 a1, .int .i64 a2] rfl (by (try simp only [List.map_toArray, List.map_cons, List.map_nil]); first | done | rfl | (simp only [List.length_drop, List.length_take]; rfl)) ?_; (with_reducible refine (impl_coder.calls a0 a1 a2 true _ A6.out).mono ?_); rintro e w' ⟨rfl, ⟨nd, rfl⟩⟩; refine ⟨_, rfl, ?_⟩))
   go_meet
   case rel => exact ⟨_, (true), (by first | rfl | (simp; done) | (simp [*]; done)), H', ⟨by first | omega | exact Nat.le_refl _⟩, ⟨by repeat (first | (with_reducible first | exact HB.out | apply zBa | apply zBn | apply zBd) | exact HB.out)⟩⟩
  rw [if_pos c8] at H
  have c8b0 : (((l3.length : Int) % 2) == 0) = true := beq_iff_eq.mpr c8
  have c8b1 : (((l3.length : Int) % 2) != 0) = false := bne_eq_false_iff_eq.mpr c8
  clear c8
  (first | rw [c8b0] | (simp only [i64_w, i32_w]; rw [c8b0]) | skip)
  replace H := Option.bind_eq_some_iff.mp H
  obtain ⟨t186, A90, H⟩ := H
  replace H : (impl_Likeliest.j0 a1 a2 l3 k a0 l3 (!t186)) = some (r1, r2, r3) := H
  have A9 := Aside0.mk A90
  clear A90
  have H' := Aside0.mk H
  clear H
  go_wp2_with (first | ((with_reducible refine gate_callee (f := 23) rfl ?_); refine goesL_ (some 26) rfl rfl Try.func23 (by kernel_rfl) rfl #[.int .i64 a0, .int .i64 a1, .int .i64 a2] rfl (by (try simp only [List.map_toArray, List.map_cons, List.map_nil]); first | done | rfl | (simp only [List.length_drop, List.length_take]; rfl)) ?_; (with_reducible refine (impl_coder.calls a0 a1 a2 true _ A6.out).mono ?_); rintro e w' ⟨rfl, ⟨nd, rfl⟩⟩; refine ⟨_, rfl, ?_⟩) | (go_at_call 26; (with_reducible refine (impl_within.calls k _ _ l3 100 t186 _ ?side1 ?side2 A9.out).mono ?_); (case side1 => repeat (first | exact (Kd.C_below HR3.out (by repeat (first | (with_reducible first | exact HB.out | apply zBa | apply zBn | apply zBd) | exact HB.out))) | (with_reducible first | refine zCa ?_ _ | refine zCn ?_ _ | refine zCd ?_))); (case side2 => exact HC3.out); rintro e w' ⟨rfl, ⟨nd, rfl⟩⟩))
  go_meet
  case rel => exact ⟨_, (!t186), (by first | rfl | (simp; done) | (simp [*]; done)), H', ⟨by first | omega | exact Nat.le_refl _⟩, ⟨by repeat (first | (with_reducible first | exact HB.out | apply zBa | apply zBn | apply zBd) | exact HB.out)⟩⟩
 case rest =>
  clear HC5
  try clear c1
  try clear c2
  try clear p2
  try clear c3
  try clear c7
  try clear c8
  try clear c8b0
  try clear c8b1
  obtain ⟨kq, x38_4, rfl, HA, HJ4, HB⟩ := hcut
  clear hca hcb hcs
  have hcs := lk_bx HB.out CS.out
  cases kq with
  | zero => exact absurd HA.out (by simp [impl_Likeliest.j0])
  | succ kj4 =>
   have H := HA.out
   clear HA
   simp only [impl_Likeliest.j0] at H
   by_cases c10 : x38_4 = true
   case pos =>
    subst c10
    have H1 : (some (([] : List Int), 0, false)) = some (r1, r2, r3) := by rw [if_pos rfl] at H; exact H
    clear H
    have H := H1
    clear H1
    simp only [Option.some.injEq, Prod.mk.injEq] at H
    obtain ⟨rfl, rfl, rfl⟩ := H
    go_wp2
    go_ret3
    refine lk_exit HBz.out ?_
    exact ⟨_, by first | rfl | (simp [errW_none, errW_some] <;> rfl) | (simp [*, errW_none, errW_some] <;> rfl), by first | exact Kd.R_nil _ _ _ _ _ | exact Kd.N_nil _ _ _ _ _ | exact Kd.V_nil _ _ _ _ _ | exact Kd.Q_nil _ _ _ _ _ | exact Kd.S_nil _ _ _ _ _, by repeat (first | (with_reducible first | exact HB.out | apply zBa | apply zBn | apply zBd) | exact HB.out)⟩
   replace c10 := Bool.eq_false_iff.mpr c10
   subst c10
   have H1 : (if (wrap64 ((wrap64 ((l3.length : Int) / 2)) - a0)) < 0 then (impl_Likeliest.j1 a1 a2 l3 kj4 a0 (wrap64 ((l3.length : Int) / 2)) (wrap64 ((wrap64 ((l3.length : Int) / 2)) - a0)) true) else (impl_Likeliest.j1 a1 a2 l3 kj4 a0 (wrap64 ((l3.length : Int) / 2)) (wrap64 ((wrap64 ((l3.length : Int) / 2)) - a0)) (decide ((wrap64 ((wrap64 ((l3.length : Int) / 2)) - a0)) > 120)))) = some (r1, r2, r3) := by rw [if_neg (show ¬ (false = true) by decide)] at H; exact H
   clear H
   have H := H1
   clear H1
   have HC11 := Aside0.mk H
   clear H
   go_upto_region 5 with (fail)
   go_cut [50] (fun v50 wc => ∃ (kq : Nat) (x50_10 : Bool), v50 = .bool x50_10 ∧ Aside0 (impl_Likeliest.j1 a1 a2 l3 kq a0 (wrap64 ((l3.length : Int) / 2)) (wrap64 ((wrap64 ((l3.length : Int) / 2)) - a0)) x50_10 = some (r1, r2, r3)) ∧ Aside0 (kq ≤ kj4) ∧ Aside0 (Below ws.heap.size ws wc))
   case first =>
    have H := HC11.out
    clear HC11
    by_cases c12 : (wrap64 ((wrap64 ((l3.length : Int) / 2)) - a0)) < 0
    case pos =>
     rw [if_pos c12] at H
     have c12b0 : decide ((wrap64 ((wrap64 ((l3.length : Int) / 2)) - a0)) < 0) = true := zE c12
     clear c12
     (first | rw [c12b0] | (simp only [i64_w, i32_w]; rw [c12b0]) | skip)
     have H' := Aside0.mk H
     clear H
     go_wp2
     go_meet
     case rel => exact ⟨_, (true), (by first | rfl | (simp; done) | (simp [*]; done)), H', ⟨by have := HJ4.out; first | omega | exact Nat.le_refl _⟩, ⟨by repeat (first | (with_reducible first | exact HB.out | apply zBa | apply zBn | apply zBd) | exact HB.out)⟩⟩
    rw [if_neg c12] at H
    have c12b0 : decide ((wrap64 ((wrap64 ((l3.length : Int) / 2)) - a0)) < 0) = false := decide_eq_false c12
    clear c12
    (first | rw [c12b0] | (simp only [i64_w, i32_w]; rw [c12b0]) | skip)
    have H' := Aside0.mk H
    clear H
    go_wp2
    go_meet
    case rel => exact ⟨_, (decide ((wrap64 ((wrap64 ((l3.length : Int) / 2)) - a0)) > 120)), (by first | rfl | (simp; done) | (simp [*]; done)), H', ⟨by have := HJ4.out; first | omega | exact Nat.le_refl _⟩, ⟨by repeat (first | (with_reducible first | exact HB.out | apply zBa | apply zBn | apply zBd) | exact HB.out)⟩⟩
   case rest =>
    clear HC11
    try clear c1
    try clear c2
    try clear p2
    try clear c3
    try clear p6
    try clear c7
    try clear c8
    try clear c8b0
    try clear c8b1
    try clear c10
    try clear c12
    try clear c12b0
    try clear p2
    obtain ⟨kq, x50_10, rfl, HA, HJ10, HB⟩ := hcut
    clear hcs
    cases kq with
    | zero => exact absurd HA.out (by simp [impl_Likeliest.j1])
    | succ kj10 =>
     have H := HA.out
     clear HA
     simp only [impl_Likeliest.j1] at H
     by_cases c13 : x50_10 = true
     case pos =>
      subst c13
      have H1 : (some (([] : List Int), 0, false)) = some (r1, r2, r3) := by rw [if_pos rfl] at H; exact H
      clear H
      have H := H1
      clear H1
      simp only [Option.some.injEq, Prod.mk.injEq] at H
      obtain ⟨rfl, rfl, rfl⟩ := H
      go_wp2
      go_ret3
      refine lk_exit HBz.out ?_
      exact ⟨_, by first | rfl | (simp [errW_none, errW_some] <;> rfl) | (simp [*, errW_none, errW_some] <;> rfl), by first | exact Kd.R_nil _ _ _ _ _ | exact Kd.N_nil _ _ _ _ _ | exact Kd.V_nil _ _ _ _ _ | exact Kd.Q_nil _ _ _ _ _ | exact Kd.S_nil _ _ _ _ _, by repeat (first | (with_reducible first | exact HB.out | apply zBa | apply zBn | apply zBd) | exact HB.out)⟩
     replace c13 := Bool.eq_false_iff.mpr c13
     subst c13
     have H1 : (if 0 ≤ a0 then (if 0 ≤ (wrap64 ((wrap64 ((l3.length : Int) / 2)) + 1)) then (if (wrap64 ((wrap64 ((l3.length : Int) / 2)) + 1) : Int).toNat ≤ 11728124029610 then ((some (List.replicate (wrap64 ((wrap64 ((l3.length : Int) / 2)) + 1) : Int).toNat [] : List (List Int))).bind fun y187 => (if 0 ≤ (wrap64 ((wrap64 ((shl .i64 1 a0) - 1)) + 1)) then (if (wrap64 ((wrap64 ((shl .i64 1 a0) - 1)) + 1) : Int).toNat ≤ 35184372088832 then (if 0 ≤ (wrap64 ((l3.length : Int) / 2)) then (if (wrap64 ((l3.length : Int) / 2)) < (y187.length : Int) then (impl_Likeliest.l0 a1 a2 l3 kj10 (wrap64 ((wrap64 ((l3.length : Int) / 2)) - a0)) (wrap64 ((shl .i64 1 a0) - 1)) (y187.set ((wrap64 ((l3.length : Int) / 2)) : Int).toNat (List.replicate (wrap64 ((wrap64 ((shl .i64 1 a0) - 1)) + 1) : Int).toNat 0)) (wrap64 ((wrap64 ((l3.length : Int) / 2)) - 1))) else (none)) else (none)) else (none)) else (none))) else (none)) else (none)) else (none)) = some (r1, r2, r3) := by rw [if_neg (show ¬ (false = true) by decide)] at H; exact H
     clear H
     have H := H1
     clear H1
     by_cases c14 : 0 ≤ a0
     case neg =>
      rw [if_neg c14] at H
      exact absurd H (by simp)
     rw [if_pos c14] at H
     have c14b0 := eq_true c14
     have c14b1 : decide (0 ≤ a0) = true := zE c14
     clear c14
     obtain ⟨ji15, hji15⟩ : ∃ j_ : Int, (shl .i64 1 a0) = j_ := ⟨_, rfl⟩
     replace H : (if 0 ≤ (wrap64 ((wrap64 ((l3.length : Int) / 2)) + 1)) then (if (wrap64 ((wrap64 ((l3.length : Int) / 2)) + 1) : Int).toNat ≤ 11728124029610 then ((some (List.replicate (wrap64 ((wrap64 ((l3.length : Int) / 2)) + 1) : Int).toNat [] : List (List Int))).bind fun y187 => (if 0 ≤ (wrap64 ((wrap64 ((ji15) - 1)) + 1)) then (if (wrap64 ((wrap64 ((ji15) - 1)) + 1) : Int).toNat ≤ 35184372088832 then (if 0 ≤ (wrap64 ((l3.length : Int) / 2)) then (if (wrap64 ((l3.length : Int) / 2)) < (y187.length : Int) then (impl_Likeliest.l0 a1 a2 l3 kj10 (wrap64 ((wrap64 ((l3.length : Int) / 2)) - a0)) (wrap64 ((ji15) - 1)) (y187.set ((wrap64 ((l3.length : Int) / 2)) : Int).toNat (List.replicate (wrap64 ((wrap64 ((ji15) - 1)) + 1) : Int).toNat 0)) (wrap64 ((wrap64 ((l3.length : Int) / 2)) - 1))) else (none)) else (none)) else (none)) else (none))) else (none)) else (none)) = some (r1, r2, r3) := by first | (rw [hji15] at H; exact H) | (simp only [hji15] at H ⊢; exact H)
     have hji15_ : (IntKind.i64.wrap (1 * 2 ^ min a0.toNat 64)) = ji15 := hji15
     have hji15z : a0 ≤ 64 → (IntKind.i64.wrap (1 * 2 ^ a0.toNat)) = ji15 := shl_small hji15
     have hji15u : (IntKind.i64.wrap (2 ^ min a0.toNat 64)) = ji15 := by have h_ := hji15_; rw [Int.one_mul] at h_; exact h_
     have hji15v : a0 ≤ 64 → (IntKind.i64.wrap (2 ^ a0.toNat)) = ji15 := fun hle_ => by have h_ := hji15z hle_; rw [Int.one_mul] at h_; exact h_
     have hji15y : (wrap64 (1 * 2 ^ min a0.toNat 64)) = ji15 := (i64_w _).symm.trans hji15_
     have hji15x : a0 ≤ 64 → (wrap64 (1 * 2 ^ a0.toNat)) = ji15 := fun h_ => (i64_w _).symm.trans (hji15z h_)
     obtain ⟨ji16, hji16⟩ : ∃ j_ : Int, (wrap64 ((wrap64 ((l3.length : Int) / 2)) + 1)) = j_ := ⟨_, rfl⟩
     replace H : (if 0 ≤ (ji16) then (if (ji16 : Int).toNat ≤ 11728124029610 then ((some (List.replicate (ji16 : Int).toNat [] : List (List Int))).bind fun y187 => (if 0 ≤ (wrap64 ((wrap64 ((ji15) - 1)) + 1)) then (if (wrap64 ((wrap64 ((ji15) - 1)) + 1) : Int).toNat ≤ 35184372088832 then (if 0 ≤ (wrap64 ((l3.length : Int) / 2)) then (if (wrap64 ((l3.length : Int) / 2)) < (y187.length : Int) then (impl_Likeliest.l0 a1 a2 l3 kj10 (wrap64 ((wrap64 ((l3.length : Int) / 2)) - a0)) (wrap64 ((ji15) - 1)) (y187.set ((wrap64 ((l3.length : Int) / 2)) : Int).toNat (List.replicate (wrap64 ((wrap64 ((ji15) - 1)) + 1) : Int).toNat 0)) (wrap64 ((wrap64 ((l3.length : Int) / 2)) - 1))) else (none)) else (none)) else (none)) else (none))) else (none)) else (none)) = some (r1, r2, r3) := by first | (rw [hji16] at H; exact H) | (simp only [hji16] at H ⊢; exact H)
     have hji16w : (IntKind.i64.wrap ((wrap64 ((l3.length : Int) / 2)) + 1)) = ji16 := (i64_w _).trans hji16
     by_cases c17 : 0 ≤ (ji16)
     case neg =>
      rw [if_neg c17] at H
      exact absurd H (by simp)
     rw [if_pos c17] at H
     have c17b0 := eq_true c17
     have c17b1 : decide (0 ≤ (ji16)) = true := zE c17
     clear c17
     by_cases c18 : (ji16 : Int).toNat ≤ 11728124029610
     case neg =>
      rw [if_neg c18] at H
      exact absurd H (by simp)
     rw [if_pos c18] at H
     have c18b0 := eq_true c18
     have c18b1 : decide ((ji16 : Int).toNat ≤ 11728124029610) = true := zE c18
     clear c18
     obtain ⟨y187, hy187⟩ : ∃ y_ : List (List Int), y_ = (List.replicate (ji16 : Int).toNat []) := ⟨_, rfl⟩
     replace H : (if 0 ≤ (wrap64 ((wrap64 ((ji15) - 1)) + 1)) then (if (wrap64 ((wrap64 ((ji15) - 1)) + 1) : Int).toNat ≤ 35184372088832 then (if 0 ≤ (wrap64 ((l3.length : Int) / 2)) then (if (wrap64 ((l3.length : Int) / 2)) < (y187.length : Int) then (impl_Likeliest.l0 a1 a2 l3 kj10 (wrap64 ((wrap64 ((l3.length : Int) / 2)) - a0)) (wrap64 ((ji15) - 1)) (y187.set ((wrap64 ((l3.length : Int) / 2)) : Int).toNat (List.replicate (wrap64 ((wrap64 ((ji15) - 1)) + 1) : Int).toNat 0)) (wrap64 ((wrap64 ((l3.length : Int) / 2)) - 1))) else (none)) else (none)) else (none)) else (none)) = some (r1, r2, r3) := by first | (rw [hy187]; with_reducible exact H) | (have H2_ := (Option.bind_some _ _).symm.trans H; rw [hy187]; with_reducible exact H2_) | (have H2_ := (Option.bind_some _ _).symm.trans H; with_reducible exact H2_) | with_reducible exact H | (rw [hy187]; exact H) | exact H
     have Ny187 := Aside0.mk hy187
     clear hy187
     obtain ⟨ji19, hji19⟩ : ∃ j_ : Int, (wrap64 ((wrap64 ((ji15) - 1)) + 1)) = j_ := ⟨_, rfl⟩
     replace H : (if 0 ≤ (ji19) then (if (ji19 : Int).toNat ≤ 35184372088832 then (if 0 ≤ (wrap64 ((l3.length : Int) / 2)) then (if (wrap64 ((l3.length : Int) / 2)) < (y187.length : Int) then (impl_Likeliest.l0 a1 a2 l3 kj10 (wrap64 ((wrap64 ((l3.length : Int) / 2)) - a0)) (wrap64 ((ji15) - 1)) (y187.set ((wrap64 ((l3.length : Int) / 2)) : Int).toNat (List.replicate (ji19 : Int).toNat 0)) (wrap64 ((wrap64 ((l3.length : Int) / 2)) - 1))) else (none)) else (none)) else (none)) else (none)) = some (r1, r2, r3) := by first | (rw [hji19] at H; exact H) | (simp only [hji19] at H ⊢; exact H)
     have hji19w : (IntKind.i64.wrap ((wrap64 ((ji15) - 1)) + 1)) = ji19 := (i64_w _).trans hji19
     by_cases c20 : 0 ≤ (ji19)
     case neg =>
      rw [if_neg c20] at H
      exact absurd H (by simp)
     rw [if_pos c20] at H
     have c20b0 := eq_true c20
     have c20b1 : decide (0 ≤ (ji19)) = true := zE c20
     clear c20
     by_cases c21 : (ji19 : Int).toNat ≤ 35184372088832
     case neg =>
      rw [if_neg c21] at H
      exact absurd H (by simp)
     rw [if_pos c21] at H
     have c21b0 := eq_true c21
     have c21b1 : decide ((ji19 : Int).toNat ≤ 35184372088832) = true := zE c21
     clear c21
     obtain ⟨y190, hy190⟩ : ∃ y_ : List Int, y_ = (List.replicate (ji19 : Int).toNat 0) := ⟨_, rfl⟩
     replace H : (if 0 ≤ (wrap64 ((l3.length : Int) / 2)) then (if (wrap64 ((l3.length : Int) / 2)) < (y187.length : Int) then (impl_Likeliest.l0 a1 a2 l3 kj10 (wrap64 ((wrap64 ((l3.length : Int) / 2)) - a0)) (wrap64 ((ji15) - 1)) (y187.set ((wrap64 ((l3.length : Int) / 2)) : Int).toNat y190) (wrap64 ((wrap64 ((l3.length : Int) / 2)) - 1))) else (none)) else (none)) = some (r1, r2, r3) := by first | (rw [hy190]; with_reducible exact H) | (have H2_ := (Option.bind_some _ _).symm.trans H; rw [hy190]; with_reducible exact H2_) | (have H2_ := (Option.bind_some _ _).symm.trans H; with_reducible exact H2_) | with_reducible exact H | (rw [hy190]; exact H) | exact H
     have Ny190 := Aside0.mk hy190
     clear hy190
     obtain ⟨ji22, hji22⟩ : ∃ j_ : Int, (wrap64 ((l3.length : Int) / 2)) = j_ := ⟨_, rfl⟩
     replace H : (if 0 ≤ (ji22) then (if (ji22) < (y187.length : Int) then (impl_Likeliest.l0 a1 a2 l3 kj10 (wrap64 ((ji22) - a0)) (wrap64 ((ji15) - 1)) (y187.set ((ji22) : Int).toNat y190) (wrap64 ((ji22) - 1))) else (none)) else (none)) = some (r1, r2, r3) := by first | (rw [hji22] at H; exact H) | (simp only [hji22] at H ⊢; exact H)
     have hji22w : (IntKind.i64.wrap ((l3.length : Int) / 2)) = ji22 := (i64_w _).trans hji22
     have hji16v : (wrap64 ((ji22) + 1)) = ji16 := by rw [← hji22]; exact hji16
     have hji16u : (IntKind.i64.wrap ((ji22) + 1)) = ji16 := (i64_w _).trans hji16v
     by_cases c23 : 0 ≤ (ji22)
     case neg =>
      rw [if_neg c23] at H
      exact absurd H (by simp)
     rw [if_pos c23] at H
     have c23b0 : decide (0 ≤ (ji22)) = true := zE c23
     clear c23
     by_cases c24 : (ji22) < (y187.length : Int)
     case neg =>
      rw [if_neg c24] at H
      exact absurd H (by simp)
     rw [if_pos c24] at H
     have c24b0 : decide ((ji22) < (y187.length : Int)) = true := zE c24
     clear c24
     obtain ⟨y193, hy193⟩ : ∃ y_ : List (List Int), y_ = (y187.set ((ji22) : Int).toNat y190) := ⟨_, rfl⟩
     replace H : (impl_Likeliest.l0 a1 a2 l3 kj10 (wrap64 ((ji22) - a0)) (wrap64 ((ji15) - 1)) y193 (wrap64 ((ji22) - 1))) = some (r1, r2, r3) := by first | (rw [hy193]; with_reducible exact H) | (have H2_ := (Option.bind_some _ _).symm.trans H; rw [hy193]; with_reducible exact H2_) | (have H2_ := (Option.bind_some _ _).symm.trans H; with_reducible exact H2_) | with_reducible exact H | (rw [hy193]; exact H) | exact H
     have Ny193 := Aside0.mk hy193
     clear hy193
     have H' := Aside0.mk H
     clear H
     go_wp2_with (first | ((with_reducible refine gate_dst (N := 57) rfl ?_); (try (refine gate_guard (by rfl) ?_; dsimp only)); refine Kd.S_make (Kd.slice 3 (Kd.int .i64)) _ 24 rfl (N := 57) rfl 50 _ _ rfl ji16 rfl rfl Try.underlying50 (.slice none 0 0) 24 info24 rfl (by decide) (by omega) [] (ok := fun _ => True) (okp := fun _ => True) ⟨_, rfl, Kd.R_nil _ _ _ _ _⟩ (fun _ hk => hk) trivial (zT (by first | (with_reducible assumption) | assumption)) (Nat.le_trans (Nat.mul_le_mul_right _ (zT (by first | (with_reducible assumption) | assumption) : ji16.toNat ≤ 11728124029610)) (by omega)) (Below.refl _ _) (Nat.le_refl _) ?_; intro v188 w26 ho27 hb hg_ hnew_; clear hg_ hnew_; (first | rw [← Ny187.out] at ho27 | (simp only [Int.reduceToNat] at ho27; rw [← Ny187.out] at ho27)); have n0_ := Aside0.mk (Kd.S_lower ho27 (below_size (by repeat (first | (with_reducible first | exact HB.out | apply zBa | apply zBn | apply zBd) | exact HB.out)))); have n1_ := Aside0.mk (below_step (by repeat (first | (with_reducible first | exact HB.out | apply zBa | apply zBn | apply zBd) | exact HB.out)) hb); clear HB; have HO189 := n0_; have HB := n1_; clear n0_ n1_; clear hb ho27) | ((with_reducible refine gate_dst (N := 62) rfl ?_); (try (refine gate_guard (by rfl) ?_; dsimp only)); refine Kd.R_make (Kd.int .i64) _ 3 rfl (N := 62) rfl 24 _ _ rfl ji19 rfl rfl Try.underlying24 (.int .i64 0) 8 info3 rfl (by decide) (by omega) 0 (ok := fun _ => True) (okp := fun _ => True) rfl (fun _ hk => hk) trivial (zT (by first | (with_reducible assumption) | assumption)) (Nat.le_trans (Nat.mul_le_mul_right _ (zT (by first | (with_reducible assumption) | assumption) : ji19.toNat ≤ 35184372088832)) (by omega)) (Below.refl _ _) (Nat.le_refl _) ?_; intro v191 w28 ho29 hb hg_ hnew_; clear hg_ hnew_; (first | rw [← Ny190.out] at ho29 | (simp only [Int.reduceToNat] at ho29; rw [← Ny190.out] at ho29)); have n0_ := Aside0.mk (Kd.S_elder' (by (with_reducible repeat (first | apply Kd.S_alloc | apply Kd.S_drewN | apply Kd.S_drew)); first | exact HO189.out | (subst_vars; exact HO189.out)) (Kd.R_base ho29) hb); have n1_ := Aside0.mk (Kd.R_lower ho29 (below_size (by repeat (first | (with_reducible first | exact HB.out | apply zBa | apply zBn | apply zBd) | exact HB.out)))); have n2_ := Aside0.mk (below_step (by repeat (first | (with_reducible first | exact HB.out | apply zBa | apply zBn | apply zBd) | exact HB.out)) hb); clear HO189; clear HB; have HO189 := n0_; have HO192 := n1_; have HB := n2_; clear n0_ n1_ n2_; clear hb ho29; have p25 : 0 ≤ ((ji22) : Int) := zT (by first | (with_reducible assumption) | assumption); have q25 : ((ji22) : Int) < ((y187.length : Int) : Int) := zT (by first | (with_reducible assumption) | assumption); obtain ⟨go25, co25, eo25, gb25, gl25, cl25, HG25⟩ := Kd.S_form HO189.out (by omega); (first | cases eo25 | (injection eo25 with ea_ en_ ec_; (first | subst ea_ | (injection ea_ with ea_; subst ea_)); subst ec_; clear en_)); have GB25 := Aside0.mk gb25; have GG25 := Aside0.mk HG25; clear gb25 gl25 HG25; obtain ⟨_, ce25, hcl25, hM25, hcc25, hfr25, _, _⟩ := Kd.S_elem HO189.out [] ((ji22) : Int) p25 q25; obtain ⟨ve25_0, rfl, ge25_0⟩ := hM25; have hx25_0 := hcc25 0 _ rfl; have hf25_0 := hfr25 0; (try simp only [show ((Kd.slice 3 (Kd.int .i64))).sz = 1 from rfl, Nat.mul_one, Nat.add_zero] at hx25_0); (try simp only [show ((Kd.slice 3 (Kd.int .i64))).sz = 1 from rfl, Nat.mul_one, Nat.add_zero] at hf25_0); (try clear hcl25 hcc25 hfr25); (try clear hM25); replace p25 := eq_true p25; replace q25 := eq_true q25; have n_ := Aside0.mk (Kd.S_mono (ok' := (fun k_ => some k_ ≠ (v191 : Value).ownBlock)) HO189.out (fun k_ hk => hk.2)); clear HO189; have HO189 := n_; clear n_; have HX30 := Aside0.mk (show Kd.S (Kd.slice 3 (Kd.int .i64)) 24 w28 ws.heap.size (fun k_ => ((fun _ => True)) k_ ∧ ¬ ((fun k_ => some k_ = (v191 : Value).ownBlock)) k_) (.slice (some ⟨go25, 0, none⟩) y187.length co25) y187 from (by (with_reducible repeat (first | apply Kd.S_alloc | apply Kd.S_drewN | apply Kd.S_drew)); exact Kd.S_mono HO189.out (fun k_ hk => ⟨trivial, fun e_ => hk e_⟩))); obtain ⟨oki30, ce30, hcl30, hM30, hcc30, hfr30, hoki30, hH30⟩ := Kd.S_elem HX30.out [] ((ji22) : Int) (zT (by first | (with_reducible assumption) | assumption)) (by have h_ : ((ji22) : Int) < ((y187.length : Int) : Int) := zT (by first | (with_reducible assumption) | assumption); first | exact h_ | (have e_ := (Kd.S_reads' HO189.out).1; omega) | simpa using h_); obtain ⟨ve30_0, rfl, ge30_0⟩ := hM30; have HP30 := Kd.S_seg hH30 (zT (by first | (with_reducible assumption) | assumption)) (by have h_ : ((ji22) : Int) < ((y187.length : Int) : Int) := zT (by first | (with_reducible assumption) | assumption); first | exact h_ | (have e_ := (Kd.S_reads' HO189.out).1; omega) | simpa using h_) (seg := [v191]) (j := 0) (show 1 ≤ 1 from by decide) (x' := y190) (Kd.M_row (Kd.R_mono (Kd.R_tight rfl (Kd.R_mono (ok' := fun k_ => ((fun _ => True)) k_ ∧ k_ ≠ go25) (Kd.R_apart' (HO192.out) (Kd.S_typed HO189.out) (by decide)) (fun k_ hk => ⟨trivial, fun e_ => (hk.2) (by rw [e_]; rfl)⟩))) (fun _ h_ => Or.inr (h_)))) (fun _ hk => hk) (fun k_ hk_ => ((Kd.R_mono (ok' := fun k_ => ((fun _ => True)) k_ ∧ k_ ≠ go25) (Kd.R_apart' (HO192.out) (Kd.S_typed HO189.out) (by decide)) (fun k_ hk => ⟨trivial, fun e_ => (hk.2) (by rw [e_]; rfl)⟩))).1 k_ hk_.symm); have hx30_0 := hcc30 0 _ rfl; (try simp only [show ((Kd.slice 3 (Kd.int .i64))).sz = 1 from rfl, Nat.mul_one, Nat.add_zero] at hx30_0); have hf30_0 := hfr30 0; (try simp only [show ((Kd.slice 3 (Kd.int .i64))).sz = 1 from rfl, Nat.mul_one, Nat.add_zero] at hf30_0); (try clear hcl30 hcc30 hfr30 hoki30 hH30); (try clear hM30); (try simp only [show ((Kd.slice 3 (Kd.int .i64))).sz = 1 from rfl, Nat.mul_one, Nat.add_zero] at HP30)) | ((with_reducible refine gate_store (t := 24) (p := 63) rfl ?_); refine store_event (t := 24) (p := 63) (v := ?vo_w31) (w1 := (w28.setCell ⟨go25, ((ji22) : Int).toNat, none⟩ (v191))) ?hg ?ho ?hn ?hr ?_; (case ho => rfl); (case hg => rfl); (case hn => rfl); (case hr => first | (go_simp; done) | (go_simp; rfl) | (obtain ⟨_, _, eo_⟩ := Kd.R_slice HO192.out; subst eo_; first | (go_simp; done) | (go_simp; rfl))); intro w31 hw; have hg : w28.grownBy w31 (some go25) := (by rw [hw]; exact HP30.2); have hp_ : Kd.S (Kd.slice 3 (Kd.int .i64)) 24 w31 ws.heap.size (fun _ => True) (.slice (some ⟨go25, 0, none⟩) y187.length co25) y193 := (by rw [hw, Ny193.out]; exact HP30.1); clear HP30; have n0_ := Aside0.mk (hp_); have n1_ := Aside0.mk ((by rw [hw]; exact zBs (HB.out) GB25.out : Below ws.heap.size ws w31)); clear HO189; clear HB; clear HO192; have HO189 := n0_; have HB := n1_; clear n0_ n1_; clear hg hw hp_))
     (try simp only [Act.put, List.setIfInBounds_toArray, List.set_cons_zero, List.set_cons_succ])
     go_loopg [16] kj10 (fun kq v16 w' => ∃ (x15_3 : List (List Int)) (x16_3 : Int), v16 = .int .i64 x16_3 ∧ Aside0 (impl_Likeliest.l0 a1 a2 l3 kq (wrap64 ((ji22) - a0)) (wrap64 ((ji15) - 1)) x15_3 x16_3 = some (r1, r2, r3)) ∧ Aside0 (kq ≤ kj10) ∧ Aside0 (Kd.S (Kd.slice 3 (Kd.int .i64)) 24 w' ws.heap.size (fun _ => True) (.slice (some ⟨go25, 0, none⟩) y187.length co25) x15_3) ∧ Aside0 (Below ws.heap.size ws w'))
     case atStart => exact ⟨(y193), (wrap64 ((ji22) - 1)), (by first | rfl | (simp; done) | (simp only [← hji22] <;> (first | rfl | simp)) | (simp [*]; done)), H', ⟨Nat.le_refl _⟩, ⟨by (with_reducible repeat (first | apply Kd.S_alloc | apply Kd.S_drewN | apply Kd.S_drew)); first | exact HO189.out | (subst_vars; exact HO189.out)⟩, ⟨by repeat (first | (with_reducible first | exact HB.out | apply zBa | apply zBn | apply zBd) | exact HB.out)⟩⟩
     case round =>
      clear H'
      try clear c1
      try clear c2
      try clear p2
      try clear q2
      try clear hx2
      try clear c3
      try clear hx3
      try clear p6
      try clear c7
      try clear c8
      try clear c8b0
      try clear c8b1
      try clear c10
      try clear c12
      try clear c12b0
      try clear c13
      try clear c14
      try clear c14b0
      try clear c14b1
      try clear c17
      try clear c17b0
      try clear c17b1
      try clear c18
      try clear c18b0
      try clear c18b1
      try clear c20
      try clear c20b0
      try clear c20b1
      try clear c21
      try clear c21b0
      try clear c21b1
      try clear c23
      try clear c23b0
      try clear c24
      try clear c24b0
      try clear c25
      try clear p25
      try clear q25
      try clear hx25
      try clear hf25
      try clear c30
      try clear hx30
      try clear hf30
      try clear hx25_0
      try clear hx30_0
      try clear p2
      try clear p25
      try clear p6
      try clear q25
      obtain ⟨x15_3, x16_3, rfl, HA, HK3, HO_15, HB⟩ := hrel
      have hl15_3 := (Kd.S_reads' HO_15.out).1
      rw [hl15_3] at HO_15
      (try simp only [hl15_3])
      cases gk with
      | zero => exact absurd HA.out (by simp [impl_Likeliest.l0])
      | succ k3 =>
       have H := HA.out
       clear HA
       simp only [impl_Likeliest.l0] at H
       by_cases c32 : x16_3 ≥ 0
       case neg =>
        rw [if_neg c32] at H
        have c32b0 : decide (0 ≤ x16_3) = false := decide_eq_false c32
        (try (have c32w_hl15_3 := c32b0; simp only [hl15_3] at c32w_hl15_3))
        clear c32
        have H' := Aside0.mk H
        clear H
        go_wp2
        (try simp only [Act.put, List.setIfInBounds_toArray, List.set_cons_zero, List.set_cons_succ])
        go_loopg [19, 20, 134] k3 (fun kq v19 v20 v134 w' => ∃ (x19_4 : List Int) (x20_4 : Int) (x134_4 : Int), v20 = .int .i64 x20_4 ∧ v134 = .int .i64 x134_4 ∧ Aside0 (impl_Likeliest.l2 a1 a2 l3 kq (wrap64 ((ji15) - 1)) x15_3 x19_4 x20_4 (wrap64 ((ji22) - a0)) x134_4 = some (r1, r2, r3)) ∧ Aside0 (kq ≤ k3) ∧ Aside0 (Kd.S (Kd.slice 3 (Kd.int .i64)) 24 w' ws.heap.size (fun k_ => some k_ ≠ (v19 : Value).ownBlock) (.slice (some ⟨go25, 0, none⟩) x15_3.length co25) x15_3) ∧ Aside0 (Kd.R (Kd.int .i64) 3 w' ws.heap.size (fun _ => True) v19 x19_4) ∧ Aside0 (Below ws.heap.size ws w'))
        case atStart => exact ⟨(([] : List Int)), (0), (0), (by first | rfl | (simp; done) | (simp [*]; done)), (by first | rfl | (simp; done) | (simp [*]; done)), H', ⟨Nat.le_refl _⟩, ⟨by (try simp only [hl15_3]); (with_reducible repeat (first | apply Kd.S_alloc | apply Kd.S_drewN | apply Kd.S_drew)); first | exact Kd.S_mono HO_15.out (fun _ hk => (by simp [Value.ownBlock])) | (subst_vars; exact Kd.S_mono HO_15.out (fun _ hk => (by simp [Value.ownBlock])))⟩, ⟨by (try simp only [hl15_3]); first | exact Kd.R_nil _ _ _ _ _ | exact Kd.N_nil _ _ _ _ _ | exact Kd.V_nil _ _ _ _ _ | exact Kd.Q_nil _ _ _ _ _ | exact Kd.S_nil _ _ _ _ _⟩, ⟨by repeat (first | (with_reducible first | exact HB.out | apply zBa | apply zBn | apply zBd) | exact HB.out)⟩⟩
        case round =>
         clear H'
         try clear c2
         try clear p2
         try clear q2
         try clear hx2
         try clear c3
         try clear c4
         try clear c5
         try clear c6
         try clear p6
         try clear q6
         try clear hx6
         try clear hf6
         try clear c7
         try clear p7
         try clear q7
         try clear hx7
         try clear hf7
         try clear c8
         try clear hx8
         try clear hf8
         try clear c20
         try clear p20
         try clear q20
         try clear hx20
         try clear c25
         try clear c32
         try clear c32b0
         try clear c34
         try clear c35
         try clear c36
         try clear c37
         try clear c43
         try clear c43b0
         try clear c46
         try clear c47
         try clear c49
         try clear c50
         try clear c51
         try clear c51b0
         try clear c54
         try clear c55
         try clear c58
         try clear c59
         try clear c60
         try clear c61
         try clear c62
         try clear p62
         try clear q62
         try clear hx62
         try clear hf62
         try clear p64
         try clear c69
         try clear hx69
         try clear hf69
         try clear c72
         try clear c72b0
         try clear c72b1
         try clear c73
         try clear c73b0
         try clear c73b1
         try clear c74
         try clear c74b0
         try clear c75
         try clear c75b0
         try clear c76
         try clear p76
         try clear q76
         try clear hx76
         try clear hf76
         try clear c81
         try clear hx81
         try clear hf81
         try clear hx200_0
         try clear hx201_0
         try clear hx203_0
         try clear hx204_0
         try clear hx62_0
         try clear hx69_0
         try clear hx76_0
         try clear hx81_0
         try clear p200
         try clear p201
         try clear p203
         try clear p204
         try clear p62
         try clear p76
         try clear q200
         try clear q201
         try clear q203
         try clear q204
         try clear q62
         try clear q76
         obtain ⟨x19_4, x20_4, x134_4, rfl, rfl, HA, HK4, HO_15, HO_19, HB⟩ := hrel
         cases gk with
         | zero => exact absurd HA.out (by simp [impl_Likeliest.l2])
         | succ k4 =>
          have H := HA.out
          clear HA
          simp only [impl_Likeliest.l2] at H
          by_cases c83 : x134_4 < (wrap64 ((ji22) - a0))
          case neg =>
           rw [if_neg c83] at H
           have c83b0 : decide (x134_4 < (wrap64 ((ji22) - a0))) = false := decide_eq_false c83
           (try (have c83w_hl15_3 := c83b0; simp only [hl15_3] at c83w_hl15_3))
           clear c83
           by_cases c104 : 0 < (x15_3.length : Int)
           case neg =>
            rw [if_neg c104] at H
            exact absurd H (by simp)
           rw [if_pos c104] at H
           have c104b0 : decide (0 < (x15_3.length : Int)) = true := zE c104
           have c104b1 : decide (0 < x15_3.length) = true := zE (by omega)
           (try (have c104w_hl15_3 := c104b0; simp only [hl15_3] at c104w_hl15_3))
           clear c104
           by_cases c105 : 0 < ((lk_rd2 x15_3 0).length : Int)
           case neg =>
            rw [if_neg c105] at H
            exact absurd H (by simp)
           rw [if_pos c105] at H
           have c105b0 : decide (0 < ((lk_rd2 x15_3 0).length : Int)) = true := zE c105
           have c105b1 : decide (0 < (lk_rd2 x15_3 0).length) = true := zE (by omega)
           (try (have c105w_hl15_3 := c105b0; simp only [hl15_3] at c105w_hl15_3))
           clear c105
           simp only [Option.some.injEq, Prod.mk.injEq] at H
           obtain ⟨rfl, rfl, rfl⟩ := H
           try go_wp2
           have n0_ := Aside0.mk (Kd.S_drew HO_15.out)
           have n1_ := Aside0.mk (zRd HO_19.out)
           have n2_ := Aside0.mk (zBd HB.out)
           clear HO_15
           clear HO_19
           clear HB
           have HO_15 := n0_
           have HO_19 := n1_
           have HB := n2_
           clear n0_ n1_ n2_
           have p224 : 0 ≤ (0 : Int) := (by omega)
           have q224 : 0 < (x15_3.length : Int) := zT (by first | (with_reducible assumption) | assumption)
           obtain ⟨ad224, A224_0, c224_0, e224, hx224_0, hl224_0, hi224_0⟩ := lk_at2 (Kd.S_reads' HO_15.out).2.2 0 p224 q224
           obtain rfl : (⟨go25, 0, none⟩ : Addr) = ad224 := (by injection e224)
           obtain ⟨ce224, hce224, hMe224, hcc224⟩ := Kd.S_get HO_15.out [] 0 p224 (by first | exact q224 | exact zT (by first | (with_reducible assumption) | assumption) | (have e_ := (Kd.S_reads' HO_15.out).1; omega))
           obtain ⟨ve224_0, rfl, ge224_0⟩ := hMe224
           have hv224_0 := hcc224 0 _ rfl
           rw [Nat.add_zero, show ((Kd.slice 3 (Kd.int .i64))).sz = 1 from rfl, Nat.mul_one] at hv224_0
           replace hv224_0 := Option.some.inj (hv224_0.symm.trans hx224_0)
           rw [hv224_0] at ge224_0
           have HL224_0 := Aside0.mk (show Kd.R (Kd.int .i64) 3 _ _ _ _ (lk_rd2 x15_3 0) from ge224_0)
           clear hv224_0 ge224_0
           clear hcc224 hce224
           (first | simp only [add_plain] at hx224_0 | simp only [add_at] at hx224_0 | simp only [Addr.add, Nat.zero_add] at hx224_0 | skip)
           have qi224 : (0 < x15_3.length) = True := eq_true (by omega)
           (try rw [show ((0 : Int)).toNat = 0 from rfl] at hx224_0)
           (try rw [Addr.add_zero'] at hx224_0)
           have HR224_0 := Aside0.mk hi224_0
           have HC224_0 := Aside0.mk hl224_0
           clear hi224_0 hl224_0
           replace p224 := eq_true p224
           replace q224 := eq_true q224
           have p225 : 0 ≤ (0 : Int) := (by omega)
           have q225 : 0 < ((lk_rd2 x15_3 0).length : Int) := zT (by first | (with_reducible assumption) | assumption)
           obtain ⟨ad225, e225, hx225_0⟩ := Kd.at_int (by repeat (first | (with_reducible exact HR224_0.out) | (with_reducible first | refine zCa ?_ _ | refine zCn ?_ _ | refine zCd ?_) | exact HR224_0.out)) 0 p225 q225
           cases e225
           have qi225 : (0 < (lk_rd2 x15_3 0).length) = True := eq_true (by omega)
           (try rw [show ((0 : Int)).toNat = 0 from rfl] at hx225_0)
           (try rw [Addr.add_zero'] at hx225_0)
           replace p225 := eq_true p225
           replace q225 := eq_true q225
           refine start_ (n := 9) (S := fun w' => w'.cell? ⟨go25, 0, none⟩ = some (.slice (some ad225) (lk_rd2 x15_3 0).length c224_0) ∧ w'.cell? ad225 = some (.int .i64 (rd (lk_rd2 x15_3 0) 0))) (ds := []) #[false, false, false, false, false, false, false, false, false] (by kernel_rfl) rfl rfl ⟨hx224_0, hx225_0⟩ (fun hHeld => ?_); refine with_tabW impl_Likeliest.tab34 impl_Likeliest.bits34 (fun HT_ HW_ => ?_)
           generalize wr.drew = w106 at HO_15 HO_19 HB HL224_0 HR224_0 hx224_0 hx225_0 hHeld ⊢
           refine pure_ (i := 0) (N := some 173) (v := ?_) (a' := ?_) #[true, false, false, false, false, false, false, false, false] rfl rfl (any_of HT_.out (by kernel_rfl)) (fun _ _ _ h => h) (Or.inl ⟨by rfl, ?_⟩) ?_ ?_
           rotate_left
           ·intro w'
            go_simp
            with_reducible rfl
           rotate_left
           ·simp only [Act.put, List.setIfInBounds_toArray, List.set_cons_zero, List.set_cons_succ, i64_w, i32_w]
            rfl
           refine pure_ (i := 1) (N := some 174) (v := ?_) (a' := ?_) #[true, true, false, false, false, false, false, false, false] rfl rfl (any_of HT_.out (by kernel_rfl)) (fun _ _ _ h => h) (Or.inl ⟨by rfl, ?_⟩) ?_ ?_
           rotate_left
           ·intro w'
            go_simp
            with_reducible rfl
           rotate_left
           ·simp only [Act.put, List.setIfInBounds_toArray, List.set_cons_zero, List.set_cons_succ, i64_w, i32_w]
            rfl
           refine pure_ (i := 2) (N := some 175) (v := ?_) (a' := ?_) #[true, true, true, false, false, false, false, false, false] rfl rfl (any_of HT_.out (by kernel_rfl)) (fun _ _ _ h => h) (Or.inl ⟨by rfl, ?_⟩) ?_ ?_
           rotate_left
           ·intro w'
            go_simp
            with_reducible rfl
           rotate_left
           ·simp only [Act.put, List.setIfInBounds_toArray, List.set_cons_zero, List.set_cons_succ, i64_w, i32_w]
            rfl
           refine pure_ (i := 6) (N := some 8) (v := ?_) (a' := ?_) #[true, true, true, false, false, false, true, false, false] rfl rfl (any_of HT_.out (by kernel_rfl)) (fun _ _ _ h => h) (Or.inl ⟨by rfl, ?_⟩) ?_ ?_
           rotate_left
           ·intro w'
            go_simp
            with_reducible rfl
           rotate_left
           ·simp only [Act.put, List.setIfInBounds_toArray, List.set_cons_zero, List.set_cons_succ, i64_w, i32_w]
            rfl
           refine take_ (i := 3) (N := some 176) (v := ?_) (a' := ?_) #[true, true, true, true, false, false, true, false, false] rfl rfl (take_ofW HT_.out HW_.out (by kernel_rfl)) (fun _ _ _ h => h) (Or.inl ⟨by rfl, ?_⟩) hHeld ?_ ?_
           rotate_left
           ·rintro w' ⟨s0, s1⟩
            go_simp
            with_reducible rfl
           rotate_left
           ·simp only [Act.put, List.setIfInBounds_toArray, List.set_cons_zero, List.set_cons_succ, i64_w, i32_w]
            rfl
           refine pure_ (i := 4) (N := some 177) (v := ?_) (a' := ?_) #[true, true, true, true, true, false, true, false, false] rfl rfl (any_of HT_.out (by kernel_rfl)) (fun _ _ _ h => h) (Or.inl ⟨by rfl, ?_⟩) ?_ ?_
           rotate_left
           ·intro w'
            go_simp
            with_reducible rfl
           rotate_left
           ·simp only [Act.put, List.setIfInBounds_toArray, List.set_cons_zero, List.set_cons_succ, i64_w, i32_w]
            rfl
           refine take_ (i := 5) (N := some 178) (v := ?_) (a' := ?_) #[true, true, true, true, true, true, true, false, false] rfl rfl (take_ofW HT_.out HW_.out (by kernel_rfl)) (fun _ _ _ h => h) (Or.inl ⟨by rfl, ?_⟩) hHeld ?_ ?_
           rotate_left
           ·rintro w' ⟨s0, s1⟩
            go_simp
            with_reducible rfl
           rotate_left
           ·simp only [Act.put, List.setIfInBounds_toArray, List.set_cons_zero, List.set_cons_succ, i64_w, i32_w]
            rfl
           refine pure_ (i := 7) (N := some 9) (v := ?_) (a' := ?_) #[true, true, true, true, true, true, true, true, false] rfl rfl (any_of HT_.out (by kernel_rfl)) (fun _ _ _ h => h) (Or.inl ⟨by rfl, ?_⟩) ?_ ?_
           rotate_left
           ·intro w'
            go_simp
            with_reducible rfl
           rotate_left
           ·simp only [Act.put, List.setIfInBounds_toArray, List.set_cons_zero, List.set_cons_succ, i64_w, i32_w]
            rfl
           refine pure_ (i := 8) (N := some 10) (v := ?_) (a' := ?_) #[true, true, true, true, true, true, true, true, true] rfl rfl (any_of HT_.out (by kernel_rfl)) (fun _ _ _ h => h) (Or.inl ⟨by rfl, ?_⟩) ?_ ?_
           rotate_left
           ·intro w'
            go_simp
            with_reducible rfl
           rotate_left
           ·simp only [Act.put, List.setIfInBounds_toArray, List.set_cons_zero, List.set_cons_succ, i64_w, i32_w]
            rfl
           refine done_ (done_of HT_.out (by kernel_rfl)) ?_
           try go_wp2
           go_ret3
           refine lk_exit HBz.out ?_
           exact ⟨_, by first | rfl | (simp [errW_none, errW_some] <;> rfl) | (simp only [← hji15, ← hji16, ← hji19, ← hji22]; first | rfl | (simp [errW_none, errW_some] <;> rfl)) | (simp [*, errW_none, errW_some] <;> rfl), by (with_reducible repeat (first | apply zRa | apply zRn | apply zRd)); first | exact HO_19.out | (subst_vars; exact HO_19.out), by repeat (first | (with_reducible first | exact HB.out | apply zBa | apply zBn | apply zBd) | exact HB.out)⟩
          rw [if_pos c83] at H
          have c83b0 : decide (x134_4 < (wrap64 ((ji22) - a0))) = true := zE c83
          (try (have c83w_hl15_3 := c83b0; simp only [hl15_3] at c83w_hl15_3))
          clear c83
          replace H := Option.bind_eq_some_iff.mp H
          obtain ⟨t213, A840, H⟩ := H
          replace H : (if 0 ≤ (wrap64 (x134_4 + 1)) then (if (wrap64 (x134_4 + 1)) < (x15_3.length : Int) then (if 0 ≤ (Go.bits .and .i64 (wrap64 (x20_4 * 2)) (wrap64 ((ji15) - 1))) then (if (Go.bits .and .i64 (wrap64 (x20_4 * 2)) (wrap64 ((ji15) - 1))) < ((lk_rd2 x15_3 (wrap64 (x134_4 + 1))).length : Int) then (if 0 ≤ x134_4 then (if x134_4 < (x15_3.length : Int) then (if 0 ≤ x20_4 then (if x20_4 < ((lk_rd2 x15_3 x134_4).length : Int) then (if (wrap64 (t213 + (rd (lk_rd2 x15_3 (wrap64 (x134_4 + 1))) (Go.bits .and .i64 (wrap64 (x20_4 * 2)) (wrap64 ((ji15) - 1)))))) < (rd (lk_rd2 x15_3 x134_4) x20_4) then (if x19_4.length < 17592186044416 then (impl_Likeliest.l2 a1 a2 l3 k4 (wrap64 ((ji15) - 1)) x15_3 (x19_4 ++ [1]) (Go.bits .and .i64 (Go.bits .or .i64 (wrap64 (x20_4 * 2)) 1) (wrap64 ((ji15) - 1))) (wrap64 ((ji22) - a0)) (wrap64 (x134_4 + 1))) else (none)) else (if x19_4.length < 17592186044416 then (impl_Likeliest.l2 a1 a2 l3 k4 (wrap64 ((ji15) - 1)) x15_3 (x19_4 ++ [0]) (Go.bits .and .i64 (Go.bits .or .i64 (wrap64 (x20_4 * 2)) 0) (wrap64 ((ji15) - 1))) (wrap64 ((ji22) - a0)) (wrap64 (x134_4 + 1))) else (none))) else (none)) else (none)) else (none)) else (none)) else (none)) else (none)) else (none)) else (none)) = some (r1, r2, r3) := H
          have A84 := Aside0.mk A840
          clear A840
          obtain ⟨ji85, hji85⟩ : ∃ j_ : Int, (wrap64 (x134_4 + 1)) = j_ := ⟨_, rfl⟩
          replace H : (if 0 ≤ (ji85) then (if (ji85) < (x15_3.length : Int) then (if 0 ≤ (Go.bits .and .i64 (wrap64 (x20_4 * 2)) (wrap64 ((ji15) - 1))) then (if (Go.bits .and .i64 (wrap64 (x20_4 * 2)) (wrap64 ((ji15) - 1))) < ((lk_rd2 x15_3 (ji85)).length : Int) then (if 0 ≤ x134_4 then (if x134_4 < (x15_3.length : Int) then (if 0 ≤ x20_4 then (if x20_4 < ((lk_rd2 x15_3 x134_4).length : Int) then (if (wrap64 (t213 + (rd (lk_rd2 x15_3 (ji85)) (Go.bits .and .i64 (wrap64 (x20_4 * 2)) (wrap64 ((ji15) - 1)))))) < (rd (lk_rd2 x15_3 x134_4) x20_4) then (if x19_4.length < 17592186044416 then (impl_Likeliest.l2 a1 a2 l3 k4 (wrap64 ((ji15) - 1)) x15_3 (x19_4 ++ [1]) (Go.bits .and .i64 (Go.bits .or .i64 (wrap64 (x20_4 * 2)) 1) (wrap64 ((ji15) - 1))) (wrap64 ((ji22) - a0)) ji85) else (none)) else (if x19_4.length < 17592186044416 then (impl_Likeliest.l2 a1 a2 l3 k4 (wrap64 ((ji15) - 1)) x15_3 (x19_4 ++ [0]) (Go.bits .and .i64 (Go.bits .or .i64 (wrap64 (x20_4 * 2)) 0) (wrap64 ((ji15) - 1))) (wrap64 ((ji22) - a0)) ji85) else (none))) else (none)) else (none)) else (none)) else (none)) else (none)) else (none)) else (none)) else (none)) = some (r1, r2, r3) := by first | (rw [hji85] at H; exact H) | (simp only [hji85] at H ⊢; exact H)
          (try rw [hji85] at A84)
          have hji85w : (IntKind.i64.wrap (x134_4 + 1)) = ji85 := (i64_w _).trans hji85
          by_cases c86 : 0 ≤ (ji85)
          case neg =>
           rw [if_neg c86] at H
           exact absurd H (by simp)
          rw [if_pos c86] at H
          have c86b0 : decide (0 ≤ (ji85)) = true := zE c86
          (try (have c86w_hl15_3 := c86b0; simp only [hl15_3] at c86w_hl15_3))
          clear c86
          by_cases c87 : (ji85) < (x15_3.length : Int)
          case neg =>
           rw [if_neg c87] at H
           exact absurd H (by simp)
          rw [if_pos c87] at H
          have c87b0 : decide ((ji85) < (x15_3.length : Int)) = true := zE c87
          (try (have c87w_hl15_3 := c87b0; simp only [hl15_3] at c87w_hl15_3))
          clear c87
          obtain ⟨ji88, hji88⟩ : ∃ j_ : Int, (Go.bits .and .i64 (wrap64 (x20_4 * 2)) (wrap64 ((ji15) - 1))) = j_ := ⟨_, rfl⟩
          replace H : (if 0 ≤ (ji88) then (if (ji88) < ((lk_rd2 x15_3 (ji85)).length : Int) then (if 0 ≤ x134_4 then (if x134_4 < (x15_3.length : Int) then (if 0 ≤ x20_4 then (if x20_4 < ((lk_rd2 x15_3 x134_4).length : Int) then (if (wrap64 (t213 + (rd (lk_rd2 x15_3 (ji85)) (ji88)))) < (rd (lk_rd2 x15_3 x134_4) x20_4) then (if x19_4.length < 17592186044416 then (impl_Likeliest.l2 a1 a2 l3 k4 (wrap64 ((ji15) - 1)) x15_3 (x19_4 ++ [1]) (Go.bits .and .i64 (Go.bits .or .i64 (wrap64 (x20_4 * 2)) 1) (wrap64 ((ji15) - 1))) (wrap64 ((ji22) - a0)) ji85) else (none)) else (if x19_4.length < 17592186044416 then (impl_Likeliest.l2 a1 a2 l3 k4 (wrap64 ((ji15) - 1)) x15_3 (x19_4 ++ [0]) (Go.bits .and .i64 (Go.bits .or .i64 (wrap64 (x20_4 * 2)) 0) (wrap64 ((ji15) - 1))) (wrap64 ((ji22) - a0)) ji85) else (none))) else (none)) else (none)) else (none)) else (none)) else (none)) else (none)) = some (r1, r2, r3) := by first | (rw [hji88] at H; exact H) | (simp only [hji88] at H ⊢; exact H)
          (try rw [hji88] at A84)
          by_cases c89 : 0 ≤ (ji88)
          case neg =>
           rw [if_neg c89] at H
           exact absurd H (by simp)
          rw [if_pos c89] at H
          have c89b0 : decide (0 ≤ (ji88)) = true := zE c89
          (try (have c89w_hl15_3 := c89b0; simp only [hl15_3] at c89w_hl15_3))
          clear c89
          by_cases c90 : (ji88) < ((lk_rd2 x15_3 (ji85)).length : Int)
          case neg =>
           rw [if_neg c90] at H
           exact absurd H (by simp)
          rw [if_pos c90] at H
          have c90b0 : decide ((ji88) < ((lk_rd2 x15_3 (ji85)).length : Int)) = true := zE c90
          (try (have c90w_hl15_3 := c90b0; simp only [hl15_3] at c90w_hl15_3))
          clear c90
          by_cases c91 : 0 ≤ x134_4
          case neg =>
           rw [if_neg c91] at H
           exact absurd H (by simp)
          rw [if_pos c91] at H
          have c91b0 : decide (0 ≤ x134_4) = true := zE c91
          (try (have c91w_hl15_3 := c91b0; simp only [hl15_3] at c91w_hl15_3))
          clear c91
          by_cases c92 : x134_4 < (x15_3.length : Int)
          case neg =>
           rw [if_neg c92] at H
           exact absurd H (by simp)
          rw [if_pos c92] at H
          have c92b0 : decide (x134_4 < (x15_3.length : Int)) = true := zE c92
          (try (have c92w_hl15_3 := c92b0; simp only [hl15_3] at c92w_hl15_3))
          clear c92
          by_cases c93 : 0 ≤ x20_4
          case neg =>
           rw [if_neg c93] at H
           exact absurd H (by simp)
          rw [if_pos c93] at H
          have c93b0 : decide (0 ≤ x20_4) = true := zE c93
          (try (have c93w_hl15_3 := c93b0; simp only [hl15_3] at c93w_hl15_3))
          clear c93
          by_cases c94 : x20_4 < ((lk_rd2 x15_3 x134_4).length : Int)
          case neg =>
           rw [if_neg c94] at H
           exact absurd H (by simp)
          rw [if_pos c94] at H
          have c94b0 : decide (x20_4 < ((lk_rd2 x15_3 x134_4).length : Int)) = true := zE c94
          (try (have c94w_hl15_3 := c94b0; simp only [hl15_3] at c94w_hl15_3))
          clear c94
          by_cases c95 : (wrap64 (t213 + (rd (lk_rd2 x15_3 (ji85)) (ji88)))) < (rd (lk_rd2 x15_3 x134_4) x20_4)
          case pos =>
           rw [if_pos c95] at H
           have c95b0 : decide ((wrap64 (t213 + (rd (lk_rd2 x15_3 (ji85)) (ji88)))) < (rd (lk_rd2 x15_3 x134_4) x20_4)) = true := zE c95
           (try (have c95w_hl15_3 := c95b0; simp only [hl15_3] at c95w_hl15_3))
           clear c95
           by_cases c96 : x19_4.length < 17592186044416
           case neg =>
            rw [if_neg c96] at H
            exact absurd H (by simp)
           rw [if_pos c96] at H
           have LMc96 := Aside0.mk c96
           clear c96
           obtain ⟨y218, hy218⟩ : ∃ y_ : List Int, y_ = (x19_4 ++ [1]) := ⟨_, rfl⟩
           replace H : (impl_Likeliest.l2 a1 a2 l3 k4 (wrap64 ((ji15) - 1)) x15_3 y218 (Go.bits .and .i64 (Go.bits .or .i64 (wrap64 (x20_4 * 2)) 1) (wrap64 ((ji15) - 1))) (wrap64 ((ji22) - a0)) ji85) = some (r1, r2, r3) := by first | (rw [hy218]; with_reducible exact H) | (have H2_ := (Option.bind_some _ _).symm.trans H; rw [hy218]; with_reducible exact H2_) | (have H2_ := (Option.bind_some _ _).symm.trans H; with_reducible exact H2_) | with_reducible exact H | (rw [hy218]; exact H) | exact H
           have Ny218 := Aside0.mk hy218
           clear hy218
           have H' := Aside0.mk H
           clear H
           try go_wp2
           have n0_ := Aside0.mk (Kd.S_drew HO_15.out)
           have n1_ := Aside0.mk (zRd HO_19.out)
           have n2_ := Aside0.mk (zBd HB.out)
           clear HO_15
           clear HO_19
           clear HB
           have HO_15 := n0_
           have HO_19 := n1_
           have HB := n2_
           clear n0_ n1_ n2_
           have p214 : 0 ≤ ((ji85) : Int) := zT (by first | (with_reducible assumption) | assumption)
           have q214 : (ji85) < (x15_3.length : Int) := zT (by first | (with_reducible assumption) | assumption)
           obtain ⟨ad214, A214_0, c214_0, e214, hx214_0, hl214_0, hi214_0⟩ := lk_at2 (Kd.S_reads' HO_15.out).2.2 (ji85) p214 q214
           obtain rfl : (⟨go25, 0, none⟩ : Addr) = ad214 := (by injection e214)
           obtain ⟨ce214, hce214, hMe214, hcc214⟩ := Kd.S_get HO_15.out [] (ji85) p214 (by first | exact q214 | exact zT (by first | (with_reducible assumption) | assumption) | (have e_ := (Kd.S_reads' HO_15.out).1; omega))
           obtain ⟨ve214_0, rfl, ge214_0⟩ := hMe214
           have hv214_0 := hcc214 0 _ rfl
           rw [Nat.add_zero, show ((Kd.slice 3 (Kd.int .i64))).sz = 1 from rfl, Nat.mul_one] at hv214_0
           replace hv214_0 := Option.some.inj (hv214_0.symm.trans hx214_0)
           rw [hv214_0] at ge214_0
           have HL214_0 := Aside0.mk (show Kd.R (Kd.int .i64) 3 _ _ _ _ (lk_rd2 x15_3 (ji85)) from ge214_0)
           clear hv214_0 ge214_0
           clear hcc214 hce214
           (first | simp only [add_plain] at hx214_0 | simp only [add_at] at hx214_0 | simp only [Addr.add, Nat.zero_add] at hx214_0 | skip)
           have HR214_0 := Aside0.mk hi214_0
           have HC214_0 := Aside0.mk hl214_0
           clear hi214_0 hl214_0
           replace p214 := eq_true p214
           replace q214 := eq_true q214
           have p215 : 0 ≤ ((ji88) : Int) := zT (by first | (with_reducible assumption) | assumption)
           have q215 : (ji88) < ((lk_rd2 x15_3 (ji85)).length : Int) := zT (by first | (with_reducible assumption) | assumption)
           obtain ⟨ad215, e215, hx215_0⟩ := Kd.at_int (by repeat (first | (with_reducible exact HR214_0.out) | (with_reducible first | refine zCa ?_ _ | refine zCn ?_ _ | refine zCd ?_) | exact HR214_0.out)) (ji88) p215 q215
           cases e215
           replace p215 := eq_true p215
           replace q215 := eq_true q215
           have p216 : 0 ≤ (x134_4 : Int) := zT (by first | (with_reducible assumption) | assumption)
           have q216 : x134_4 < (x15_3.length : Int) := zT (by first | (with_reducible assumption) | assumption)
           obtain ⟨ad216, A216_0, c216_0, e216, hx216_0, hl216_0, hi216_0⟩ := lk_at2 (Kd.S_reads' HO_15.out).2.2 x134_4 p216 q216
           obtain rfl : (⟨go25, 0, none⟩ : Addr) = ad216 := (by injection e216)
           obtain ⟨ce216, hce216, hMe216, hcc216⟩ := Kd.S_get HO_15.out [] x134_4 p216 (by first | exact q216 | exact zT (by first | (with_reducible assumption) | assumption) | (have e_ := (Kd.S_reads' HO_15.out).1; omega))
           obtain ⟨ve216_0, rfl, ge216_0⟩ := hMe216
           have hv216_0 := hcc216 0 _ rfl
           rw [Nat.add_zero, show ((Kd.slice 3 (Kd.int .i64))).sz = 1 from rfl, Nat.mul_one] at hv216_0
           replace hv216_0 := Option.some.inj (hv216_0.symm.trans hx216_0)
           rw [hv216_0] at ge216_0
           have HL216_0 := Aside0.mk (show Kd.R (Kd.int .i64) 3 _ _ _ _ (lk_rd2 x15_3 x134_4) from ge216_0)
           clear hv216_0 ge216_0
           clear hcc216 hce216
           (first | simp only [add_plain] at hx216_0 | simp only [add_at] at hx216_0 | simp only [Addr.add, Nat.zero_add] at hx216_0 | skip)
           have HR216_0 := Aside0.mk hi216_0
           have HC216_0 := Aside0.mk hl216_0
           clear hi216_0 hl216_0
           replace p216 := eq_true p216
           replace q216 := eq_true q216
           have p217 : 0 ≤ (x20_4 : Int) := zT (by first | (with_reducible assumption) | assumption)
           have q217 : x20_4 < ((lk_rd2 x15_3 x134_4).length : Int) := zT (by first | (with_reducible assumption) | assumption)
           obtain ⟨ad217, e217, hx217_0⟩ := Kd.at_int (by repeat (first | (with_reducible exact HR216_0.out) | (with_reducible first | refine zCa ?_ _ | refine zCn ?_ _ | refine zCd ?_) | exact HR216_0.out)) x20_4 p217 q217
           cases e217
           replace p217 := eq_true p217
           replace q217 := eq_true q217
           refine start_ (n := 25) (S := fun w' => w'.cell? ⟨go25, ((ji85)).toNat, none⟩ = some (.slice (some ad215) (lk_rd2 x15_3 (ji85)).length c214_0) ∧ w'.cell? (ad215.add ((ji88)).toNat) = some (.int .i64 (rd (lk_rd2 x15_3 (ji85)) (ji88))) ∧ w'.cell? ⟨go25, (x134_4).toNat, none⟩ = some (.slice (some ad217) (lk_rd2 x15_3 x134_4).length c216_0) ∧ w'.cell? (ad217.add (x20_4).toNat) = some (.int .i64 (rd (lk_rd2 x15_3 x134_4) x20_4))) (ds := []) #[false, false, false, false, false, false, false, false, false, false, false, false, false, false, false, false, false, false, false, false, false, false, false, false, false] (by kernel_rfl) rfl rfl ⟨hx214_0, hx215_0, hx216_0, hx217_0⟩ (fun hHeld => ?_); refine with_tabW impl_Likeliest.tab29 impl_Likeliest.bits29 (fun HT_ HW_ => ?_)
           generalize wr.drew = w97 at HO_15 HO_19 HB HL214_0 HL216_0 HR214_0 HR216_0 hx214_0 hx215_0 hx216_0 hx217_0 hHeld ⊢
           refine pure_ (i := 0) (N := some 137) (v := ?_) (a' := ?_) #[true, false, false, false, false, false, false, false, false, false, false, false, false, false, false, false, false, false, false, false, false, false, false, false, false] rfl rfl (any_of HT_.out (by kernel_rfl)) (fun _ _ _ h => h) (Or.inl ⟨by rfl, ?_⟩) ?_ ?_
           rotate_left
           ·intro w'
            go_simp
            with_reducible rfl
           rotate_left
           ·simp only [Act.put, List.setIfInBounds_toArray, List.set_cons_zero, List.set_cons_succ, i64_w, i32_w]
            rfl
           refine pure_ (i := 1) (N := some 138) (v := ?_) (a' := ?_) #[true, true, false, false, false, false, false, false, false, false, false, false, false, false, false, false, false, false, false, false, false, false, false, false, false] rfl rfl (any_of HT_.out (by kernel_rfl)) (fun _ _ _ h => h) (Or.inl ⟨by rfl, ?_⟩) ?_ ?_
           rotate_left
           ·intro w'
            go_simp
            with_reducible rfl
           rotate_left
           ·simp only [Act.put, List.setIfInBounds_toArray, List.set_cons_zero, List.set_cons_succ, i64_w, i32_w]
            rfl
           refine pure_ (i := 2) (N := some 139) (v := ?_) (a' := ?_) #[true, true, true, false, false, false, false, false, false, false, false, false, false, false, false, false, false, false, false, false, false, false, false, false, false] rfl rfl (any_of HT_.out (by kernel_rfl)) (fun _ _ _ h => h) (Or.inl ⟨by rfl, ?_⟩) ?_ ?_
           rotate_left
           ·intro w'
            go_simp
            with_reducible rfl
           rotate_left
           ·simp only [Act.put, List.setIfInBounds_toArray, List.set_cons_zero, List.set_cons_succ, i64_w, i32_w]
            rfl
           refine pure_ (i := 3) (N := some 140) (v := ?_) (a' := ?_) #[true, true, true, true, false, false, false, false, false, false, false, false, false, false, false, false, false, false, false, false, false, false, false, false, false] rfl rfl (any_of HT_.out (by kernel_rfl)) (fun _ _ _ h => h) (Or.inl ⟨by rfl, ?_⟩) ?_ ?_
           rotate_left
           ·intro w'
            go_simp
            with_reducible rfl
           rotate_left
           ·simp only [Act.put, List.setIfInBounds_toArray, List.set_cons_zero, List.set_cons_succ, i64_w, i32_w]
            rfl
           refine pure_ (i := 5) (N := some 142) (v := ?_) (a' := ?_) #[true, true, true, true, false, true, false, false, false, false, false, false, false, false, false, false, false, false, false, false, false, false, false, false, false] rfl rfl (any_of HT_.out (by kernel_rfl)) (fun _ _ _ h => h) (Or.inl ⟨by rfl, ?_⟩) ?_ ?_
           rotate_left
           ·intro w'
            go_simp
            with_reducible rfl
           rotate_left
           ·simp only [Act.put, List.setIfInBounds_toArray, List.set_cons_zero, List.set_cons_succ, i64_w, i32_w]
            rfl
           refine pure_ (i := 6) (N := some 143) (v := ?_) (a' := ?_) #[true, true, true, true, false, true, true, false, false, false, false, false, false, false, false, false, false, false, false, false, false, false, false, false, false] rfl rfl (any_of HT_.out (by kernel_rfl)) (fun _ _ _ h => h) (Or.inl ⟨by rfl, ?_⟩) ?_ ?_
           rotate_left
           ·intro w'
            go_simp
            with_reducible rfl
           rotate_left
           ·simp only [Act.put, List.setIfInBounds_toArray, List.set_cons_zero, List.set_cons_succ, i64_w, i32_w]
            rfl
           refine pure_ (i := 7) (N := some 144) (v := ?_) (a' := ?_) #[true, true, true, true, false, true, true, true, false, false, false, false, false, false, false, false, false, false, false, false, false, false, false, false, false] rfl rfl (any_of HT_.out (by kernel_rfl)) (fun _ _ _ h => h) (Or.inl ⟨by rfl, ?_⟩) ?_ ?_
           rotate_left
           ·intro w'
            go_simp
            with_reducible rfl
           rotate_left
           ·simp only [Act.put, List.setIfInBounds_toArray, List.set_cons_zero, List.set_cons_succ, i64_w, i32_w]
            rfl
           refine pure_ (i := 8) (N := some 145) (v := ?_) (a' := ?_) #[true, true, true, true, false, true, true, true, true, false, false, false, false, false, false, false, false, false, false, false, false, false, false, false, false] rfl rfl (any_of HT_.out (by kernel_rfl)) (fun _ _ _ h => h) (Or.inl ⟨by rfl, ?_⟩) ?_ ?_
           rotate_left
           ·intro w'
            go_simp
            with_reducible rfl
           rotate_left
           ·simp only [Act.put, List.setIfInBounds_toArray, List.set_cons_zero, List.set_cons_succ, i64_w, i32_w]
            rfl
           refine pure_ (i := 10) (N := some 147) (v := ?_) (a' := ?_) #[true, true, true, true, false, true, true, true, true, false, true, false, false, false, false, false, false, false, false, false, false, false, false, false, false] rfl rfl (any_of HT_.out (by kernel_rfl)) (fun _ _ _ h => h) (Or.inl ⟨by rfl, ?_⟩) ?_ ?_
           rotate_left
           ·intro w'
            go_simp
            with_reducible rfl
           rotate_left
           ·simp only [Act.put, List.setIfInBounds_toArray, List.set_cons_zero, List.set_cons_succ, i64_w, i32_w]
            rfl
           refine pure_ (i := 11) (N := some 148) (v := ?_) (a' := ?_) #[true, true, true, true, false, true, true, true, true, false, true, true, false, false, false, false, false, false, false, false, false, false, false, false, false] rfl rfl (any_of HT_.out (by kernel_rfl)) (fun _ _ _ h => h) (Or.inl ⟨by rfl, ?_⟩) ?_ ?_
           rotate_left
           ·intro w'
            go_simp
            with_reducible rfl
           rotate_left
           ·simp only [Act.put, List.setIfInBounds_toArray, List.set_cons_zero, List.set_cons_succ, i64_w, i32_w]
            rfl
           refine pure_ (i := 12) (N := some 149) (v := ?_) (a' := ?_) #[true, true, true, true, false, true, true, true, true, false, true, true, true, false, false, false, false, false, false, false, false, false, false, false, false] rfl rfl (any_of HT_.out (by kernel_rfl)) (fun _ _ _ h => h) (Or.inl ⟨by rfl, ?_⟩) ?_ ?_
           rotate_left
           ·intro w'
            go_simp
            with_reducible rfl
           rotate_left
           ·simp only [Act.put, List.setIfInBounds_toArray, List.set_cons_zero, List.set_cons_succ, i64_w, i32_w]
            rfl
           refine pure_ (i := 13) (N := some 150) (v := ?_) (a' := ?_) #[true, true, true, true, false, true, true, true, true, false, true, true, true, true, false, false, false, false, false, false, false, false, false, false, false] rfl rfl (any_of HT_.out (by kernel_rfl)) (fun _ _ _ h => h) (Or.inl ⟨by rfl, ?_⟩) ?_ ?_
           rotate_left
           ·intro w'
            go_simp
            with_reducible rfl
           rotate_left
           ·simp only [Act.put, List.setIfInBounds_toArray, List.set_cons_zero, List.set_cons_succ, i64_w, i32_w]
            rfl
           refine pure_ (i := 17) (N := some 154) (v := ?_) (a' := ?_) #[true, true, true, true, false, true, true, true, true, false, true, true, true, true, false, false, false, true, false, false, false, false, false, false, false] rfl rfl (any_of HT_.out (by kernel_rfl)) (fun _ _ _ h => h) (Or.inl ⟨by rfl, ?_⟩) ?_ ?_
           rotate_left
           ·intro w'
            go_simp
            with_reducible rfl
           rotate_left
           ·simp only [Act.put, List.setIfInBounds_toArray, List.set_cons_zero, List.set_cons_succ, i64_w, i32_w]
            rfl
           refine pure_ (i := 18) (N := some 155) (v := ?_) (a' := ?_) #[true, true, true, true, false, true, true, true, true, false, true, true, true, true, false, false, false, true, true, false, false, false, false, false, false] rfl rfl (any_of HT_.out (by kernel_rfl)) (fun _ _ _ h => h) (Or.inl ⟨by rfl, ?_⟩) ?_ ?_
           rotate_left
           ·intro w'
            go_simp
            with_reducible rfl
           rotate_left
           ·simp only [Act.put, List.setIfInBounds_toArray, List.set_cons_zero, List.set_cons_succ, i64_w, i32_w]
            rfl
           refine pure_ (i := 19) (N := some 156) (v := ?_) (a' := ?_) #[true, true, true, true, false, true, true, true, true, false, true, true, true, true, false, false, false, true, true, true, false, false, false, false, false] rfl rfl (any_of HT_.out (by kernel_rfl)) (fun _ _ _ h => h) (Or.inl ⟨by rfl, ?_⟩) ?_ ?_
           rotate_left
           ·intro w'
            go_simp
            with_reducible rfl
           rotate_left
           ·simp only [Act.put, List.setIfInBounds_toArray, List.set_cons_zero, List.set_cons_succ, i64_w, i32_w]
            rfl
           refine pure_ (i := 21) (N := some 158) (v := ?_) (a' := ?_) #[true, true, true, true, false, true, true, true, true, false, true, true, true, true, false, false, false, true, true, true, false, true, false, false, false] rfl rfl (any_of HT_.out (by kernel_rfl)) (fun _ _ _ h => h) (Or.inl ⟨by rfl, ?_⟩) ?_ ?_
           rotate_left
           ·intro w'
            go_simp
            with_reducible rfl
           rotate_left
           ·simp only [Act.put, List.setIfInBounds_toArray, List.set_cons_zero, List.set_cons_succ, i64_w, i32_w]
            rfl
           refine take_ (i := 9) (N := some 146) (v := ?_) (a' := ?_) #[true, true, true, true, false, true, true, true, true, true, true, true, true, true, false, false, false, true, true, true, false, true, false, false, false] rfl rfl (take_ofW HT_.out HW_.out (by kernel_rfl)) (fun _ _ _ h => h) (Or.inl ⟨by rfl, ?_⟩) hHeld ?_ ?_
           rotate_left
           ·rintro w' ⟨s0, s1, s2, s3⟩
            go_simp
            with_reducible rfl
           rotate_left
           ·simp only [Act.put, List.setIfInBounds_toArray, List.set_cons_zero, List.set_cons_succ, i64_w, i32_w]
            rfl
           refine pure_ (i := 14) (N := some 151) (v := ?_) (a' := ?_) #[true, true, true, true, false, true, true, true, true, true, true, true, true, true, true, false, false, true, true, true, false, true, false, false, false] rfl rfl (any_of HT_.out (by kernel_rfl)) (fun _ _ _ h => h) (Or.inl ⟨by rfl, ?_⟩) ?_ ?_
           rotate_left
           ·intro w'
            go_simp
            with_reducible rfl
           rotate_left
           ·simp only [Act.put, List.setIfInBounds_toArray, List.set_cons_zero, List.set_cons_succ, i64_w, i32_w]
            rfl
           refine take_ (i := 15) (N := some 152) (v := ?_) (a' := ?_) #[true, true, true, true, false, true, true, true, true, true, true, true, true, true, true, true, false, true, true, true, false, true, false, false, false] rfl rfl (take_ofW HT_.out HW_.out (by kernel_rfl)) (fun _ _ _ h => h) (Or.inl ⟨by rfl, ?_⟩) hHeld ?_ ?_
           rotate_left
           ·rintro w' ⟨s0, s1, s2, s3⟩
            go_simp
            with_reducible rfl
           rotate_left
           ·simp only [Act.put, List.setIfInBounds_toArray, List.set_cons_zero, List.set_cons_succ, i64_w, i32_w]
            rfl
           refine take_ (i := 20) (N := some 157) (v := ?_) (a' := ?_) #[true, true, true, true, false, true, true, true, true, true, true, true, true, true, true, true, false, true, true, true, true, true, false, false, false] rfl rfl (take_ofW HT_.out HW_.out (by kernel_rfl)) (fun _ _ _ h => h) (Or.inl ⟨by rfl, ?_⟩) hHeld ?_ ?_
           rotate_left
           ·rintro w' ⟨s0, s1, s2, s3⟩
            go_simp
            with_reducible rfl
           rotate_left
           ·simp only [Act.put, List.setIfInBounds_toArray, List.set_cons_zero, List.set_cons_succ, i64_w, i32_w]
            rfl
           refine pure_ (i := 22) (N := some 159) (v := ?_) (a' := ?_) #[true, true, true, true, false, true, true, true, true, true, true, true, true, true, true, true, false, true, true, true, true, true, true, false, false] rfl rfl (any_of HT_.out (by kernel_rfl)) (fun _ _ _ h => h) (Or.inl ⟨by rfl, ?_⟩) ?_ ?_
           rotate_left
           ·intro w'
            go_simp
            with_reducible rfl
           rotate_left
           ·simp only [Act.put, List.setIfInBounds_toArray, List.set_cons_zero, List.set_cons_succ, i64_w, i32_w]
            rfl
           refine take_ (i := 23) (N := some 160) (v := ?_) (a' := ?_) #[true, true, true, true, false, true, true, true, true, true, true, true, true, true, true, true, false, true, true, true, true, true, true, true, false] rfl rfl (take_ofW HT_.out HW_.out (by kernel_rfl)) (fun _ _ _ h => h) (Or.inl ⟨by rfl, ?_⟩) hHeld ?_ ?_
           rotate_left
           ·rintro w' ⟨s0, s1, s2, s3⟩
            go_simp
            with_reducible rfl
           rotate_left
           ·simp only [Act.put, List.setIfInBounds_toArray, List.set_cons_zero, List.set_cons_succ, i64_w, i32_w]
            rfl
           refine one_ (i := 4) (N := some 141) #[true, true, true, true, true, true, true, true, true, true, true, true, true, true, true, true, false, true, true, true, true, true, true, true, false] rfl rfl (one_of HT_.out (by kernel_rfl)) (by decide) (fun K hK => ?_)
           refine call_ 27 #[.int .i64 x134_4, .int .i64 (wrap64 (x20_4 * 2)), .pointer (some ⟨ga, 0, none⟩), .pointer (some ⟨gb, 0, none⟩), .pointer (some ⟨gs, 0, none⟩)] (by rfl) rfl (by go_simp) ?_
           with_reducible refine (lkG_calls a1 a2 A3 c3 l3 ga gb gs x134_4 (wrap64 (x20_4 * 2)) _ (lk_bx HB.out CA.out) (lk_bx HB.out CB.out) (lk_bx HB.out CS.out) (Kd.C_below HR3.out HB.out) t213 A84.out).mono ?_
           rintro e w98 ⟨rfl, hb⟩
           have HS0_ := (hb.cell (zW _ _ (hHeld.1))).trans (hHeld.1)
           have HS1_ := (hb.cell (zW _ _ (hHeld.2.1))).trans (hHeld.2.1)
           have HS2_ := (hb.cell (zW _ _ (hHeld.2.2.1))).trans (hHeld.2.2.1)
           have HS3_ := (hb.cell (zW _ _ (hHeld.2.2.2))).trans (hHeld.2.2.2)
           refine ⟨_, rfl, ?_⟩
           have n0_ := Aside0.mk (Kd.S_below (by (with_reducible repeat (first | apply Kd.S_alloc | apply Kd.S_drewN | apply Kd.S_drew)); first | exact HO_15.out | (subst_vars; exact HO_15.out)) hb)
           have n1_ := Aside0.mk (Kd.R_below (by (with_reducible repeat (first | apply zRa | apply zRn | apply zRd)); first | exact HO_19.out | (subst_vars; exact HO_19.out)) hb)
           have n2_ := Aside0.mk (Kd.R_below (by (with_reducible repeat (first | apply zRa | apply zRn | apply zRd)); first | exact HL214_0.out | (subst_vars; exact HL214_0.out)) hb)
           have n3_ := Aside0.mk (Kd.R_below (by (with_reducible repeat (first | apply zRa | apply zRn | apply zRd)); first | exact HL216_0.out | (subst_vars; exact HL216_0.out)) hb)
           have n4_ := Aside0.mk (Kd.C_below (by repeat (first | (with_reducible exact HR214_0.out) | (with_reducible first | refine zCa ?_ _ | refine zCn ?_ _ | refine zCd ?_) | exact HR214_0.out)) hb)
           have n5_ := Aside0.mk (Kd.C_below (by repeat (first | (with_reducible exact HR216_0.out) | (with_reducible first | refine zCa ?_ _ | refine zCn ?_ _ | refine zCd ?_) | exact HR216_0.out)) hb)
           have n6_ := Aside0.mk (below_step (by repeat (first | (with_reducible first | exact HB.out | apply zBa | apply zBn | apply zBd) | exact HB.out)) hb)
           clear HO_15
           clear HO_19
           clear HL214_0
           clear HL216_0
           clear HR214_0
           clear HR216_0
           clear HB
           have HO_15 := n0_
           have HO_19 := n1_
           have HL214_0 := n2_
           have HL216_0 := n3_
           have HR214_0 := n4_
           have HR216_0 := n5_
           have HB := n6_
           clear n0_ n1_ n2_ n3_ n4_ n5_ n6_
           (try clear hb)
           (try clear hb2)
           (try clear hk)
           (try clear hi)
           refine hK.out _ _ ⟨HS0_, HS1_, HS2_, HS3_⟩ (fun hHeld => ?_)
           clear hK K
           refine norm_ (a' := ?_) ?_ ?_
           rotate_left
           ·show Act.put _ (some 141) _ = _
            simp only [Act.put, List.setIfInBounds_toArray, List.set_cons_zero, List.set_cons_succ, i64_w, i32_w]
            rfl
           refine pure_ (i := 16) (N := some 153) (v := ?_) (a' := ?_) #[true, true, true, true, true, true, true, true, true, true, true, true, true, true, true, true, true, true, true, true, true, true, true, true, false] rfl rfl (any_of HT_.out (by kernel_rfl)) (fun _ _ _ h => h) (Or.inl ⟨by rfl, ?_⟩) ?_ ?_
           rotate_left
           ·intro w'
            go_simp
            with_reducible rfl
           rotate_left
           ·simp only [Act.put, List.setIfInBounds_toArray, List.set_cons_zero, List.set_cons_succ, i64_w, i32_w]
            rfl
           refine pure_ (i := 24) (N := some 161) (v := ?_) (a' := ?_) #[true, true, true, true, true, true, true, true, true, true, true, true, true, true, true, true, true, true, true, true, true, true, true, true, true] rfl rfl (any_of HT_.out (by kernel_rfl)) (fun _ _ _ h => h) (Or.inl ⟨by rfl, ?_⟩) ?_ ?_
           rotate_left
           ·intro w'
            go_simp
            with_reducible rfl
           rotate_left
           ·simp only [Act.put, List.setIfInBounds_toArray, List.set_cons_zero, List.set_cons_succ, i64_w, i32_w]
            rfl
           refine done_ (done_of HT_.out (by kernel_rfl)) ?_
           try go_wp2_with (first | ((with_reducible refine gate_builtin (b := .append) (xs := #[.tmp 162, .tmp 164]) rfl ?_); (try (refine gate_guard (by rfl) ?_; dsimp only)); at_builtin; refine Kd.R_append (Kd.int .i64) (w0 := ws) ws.heap.size rfl (.tmp 162) (.tmp 164) 24 3 (.int .i64 0) 8 rfl Try.underlying24 info3 rfl (by decide) (by omega) u19 x19_4 1 [.int .i64 1] (fun _ => True) (fun _ => False) rfl rfl ?aP (fun _ hk => hk.elim) ?aF ?aO ?aB ?aS ?aL ?_; (case aP => exact rfl); (case aB => exact (by repeat (first | (with_reducible first | exact HB.out | apply zBa | apply zBn | apply zBd) | exact HB.out))); (case aF => exact (fun _ _ => trivial)); (case aO => exact (by (with_reducible repeat (first | apply zRa | apply zRn | apply zRd)); first | exact HO_19.out | (subst_vars; exact HO_19.out))); (case aS => exact (below_size (by repeat (first | (with_reducible first | exact HB.out | apply zBa | apply zBn | apply zBd) | exact HB.out)))); (case aL => have := LMc96.out; omega); intro v219 w99 ho hb hg hat; (first | rw [← Ny218.out] at ho | (simp only [Int.reduceToNat] at ho; rw [← Ny218.out] at ho)); have n0_ := Aside0.mk (Kd.S_after (ok := (fun _ => True)) (by (with_reducible repeat (first | apply Kd.S_alloc | apply Kd.S_drewN | apply Kd.S_drew)); first | exact Kd.S_mono HO_15.out (fun _ hk => ⟨trivial, hk⟩) | (subst_vars; exact Kd.S_mono HO_15.out (fun _ hk => ⟨trivial, hk⟩))) hg hat); have n1_ := Aside0.mk (Kd.R_after (ok := (fun k_ => some k_ ≠ (.slice (some ⟨go25, 0, none⟩) x15_3.length co25 : Value).ownBlock)) (by (with_reducible repeat (first | apply zRa | apply zRn | apply zRd)); first | exact Kd.R_mono HL214_0.out (fun _ hk => ⟨hk.2, hk.1⟩) | (subst_vars; exact Kd.R_mono HL214_0.out (fun _ hk => ⟨hk.2, hk.1⟩))) hg hat); have n2_ := Aside0.mk (Kd.R_after (ok := (fun k_ => some k_ ≠ (.slice (some ⟨go25, 0, none⟩) x15_3.length co25 : Value).ownBlock)) (by (with_reducible repeat (first | apply zRa | apply zRn | apply zRd)); first | exact Kd.R_mono HL216_0.out (fun _ hk => ⟨hk.2, hk.1⟩) | (subst_vars; exact Kd.R_mono HL216_0.out (fun _ hk => ⟨hk.2, hk.1⟩))) hg hat); have n3_ := Aside0.mk (hb); have n4_ := Aside0.mk (ho); clear HO_15; clear HL214_0; clear HL216_0; clear HB; clear HO_19; have HO_15 := n0_; have HL214_0 := n1_; have HL216_0 := n2_; have HB := n3_; have HO220 := n4_; clear n0_ n1_ n2_ n3_ n4_; clear ho hb hg hat))
           go_roundg k4
           case measure => have := HJ4.out; have := HJ10.out; have := HK3.out; have := HK4.out; omega
           case rel => exact ⟨(y218), (Go.bits .and .i64 (Go.bits .or .i64 (wrap64 (x20_4 * 2)) 1) (wrap64 ((ji15) - 1))), (ji85), (by first | rfl | (simp; done) | (simp only [← hji15] <;> (first | rfl | simp)) | (simp [*]; done)), (by first | rfl | (simp; done) | (simp only [← hji85] <;> (first | rfl | simp)) | (simp [*]; done)), H', ⟨by have := HJ4.out; have := HJ10.out; have := HK3.out; have := HK4.out; omega⟩, ⟨by (try simp only [hl15_3]); (with_reducible repeat (first | apply Kd.S_alloc | apply Kd.S_drewN | apply Kd.S_drew)); first | exact Kd.S_mono HO_15.out (fun _ hk => hk.2) | (subst_vars; exact Kd.S_mono HO_15.out (fun _ hk => hk.2))⟩, ⟨by (try simp only [hl15_3]); (with_reducible repeat (first | apply zRa | apply zRn | apply zRd)); first | exact HO220.out | (subst_vars; exact HO220.out)⟩, ⟨by repeat (first | (with_reducible first | exact HB.out | apply zBa | apply zBn | apply zBd) | exact HB.out)⟩⟩
          rw [if_neg c95] at H
          have c95b0 : decide ((wrap64 (t213 + (rd (lk_rd2 x15_3 (ji85)) (ji88)))) < (rd (lk_rd2 x15_3 x134_4) x20_4)) = false := decide_eq_false c95
          (try (have c95w_hl15_3 := c95b0; simp only [hl15_3] at c95w_hl15_3))
          clear c95
          by_cases c100 : x19_4.length < 17592186044416
          case neg =>
           rw [if_neg c100] at H
           exact absurd H (by simp)
          rw [if_pos c100] at H
          have LMc100 := Aside0.mk c100
          clear c100
          obtain ⟨y221, hy221⟩ : ∃ y_ : List Int, y_ = (x19_4 ++ [0]) := ⟨_, rfl⟩
          replace H : (impl_Likeliest.l2 a1 a2 l3 k4 (wrap64 ((ji15) - 1)) x15_3 y221 (Go.bits .and .i64 (Go.bits .or .i64 (wrap64 (x20_4 * 2)) 0) (wrap64 ((ji15) - 1))) (wrap64 ((ji22) - a0)) ji85) = some (r1, r2, r3) := by first | (rw [hy221]; with_reducible exact H) | (have H2_ := (Option.bind_some _ _).symm.trans H; rw [hy221]; with_reducible exact H2_) | (have H2_ := (Option.bind_some _ _).symm.trans H; with_reducible exact H2_) | with_reducible exact H | (rw [hy221]; exact H) | exact H
          have Ny221 := Aside0.mk hy221
          clear hy221
          have H' := Aside0.mk H
          clear H
          try go_wp2
          have n0_ := Aside0.mk (Kd.S_drew HO_15.out)
          have n1_ := Aside0.mk (zRd HO_19.out)
          have n2_ := Aside0.mk (zBd HB.out)
          clear HO_15
          clear HO_19
          clear HB
          have HO_15 := n0_
          have HO_19 := n1_
          have HB := n2_
          clear n0_ n1_ n2_
          have p214 : 0 ≤ ((ji85) : Int) := zT (by first | (with_reducible assumption) | assumption)
          have q214 : (ji85) < (x15_3.length : Int) := zT (by first | (with_reducible assumption) | assumption)
          obtain ⟨ad214, A214_0, c214_0, e214, hx214_0, hl214_0, hi214_0⟩ := lk_at2 (Kd.S_reads' HO_15.out).2.2 (ji85) p214 q214
          obtain rfl : (⟨go25, 0, none⟩ : Addr) = ad214 := (by injection e214)
          obtain ⟨ce214, hce214, hMe214, hcc214⟩ := Kd.S_get HO_15.out [] (ji85) p214 (by first | exact q214 | exact zT (by first | (with_reducible assumption) | assumption) | (have e_ := (Kd.S_reads' HO_15.out).1; omega))
          obtain ⟨ve214_0, rfl, ge214_0⟩ := hMe214
          have hv214_0 := hcc214 0 _ rfl
          rw [Nat.add_zero, show ((Kd.slice 3 (Kd.int .i64))).sz = 1 from rfl, Nat.mul_one] at hv214_0
          replace hv214_0 := Option.some.inj (hv214_0.symm.trans hx214_0)
          rw [hv214_0] at ge214_0
          have HL214_0 := Aside0.mk (show Kd.R (Kd.int .i64) 3 _ _ _ _ (lk_rd2 x15_3 (ji85)) from ge214_0)
          clear hv214_0 ge214_0
          clear hcc214 hce214
          (first | simp only [add_plain] at hx214_0 | simp only [add_at] at hx214_0 | simp only [Addr.add, Nat.zero_add] at hx214_0 | skip)
          have HR214_0 := Aside0.mk hi214_0
          have HC214_0 := Aside0.mk hl214_0
          clear hi214_0 hl214_0
          replace p214 := eq_true p214
          replace q214 := eq_true q214
          have p215 : 0 ≤ ((ji88) : Int) := zT (by first | (with_reducible assumption) | assumption)
          have q215 : (ji88) < ((lk_rd2 x15_3 (ji85)).length : Int) := zT (by first | (with_reducible assumption) | assumption)
          obtain ⟨ad215, e215, hx215_0⟩ := Kd.at_int (by repeat (first | (with_reducible exact HR214_0.out) | (with_reducible first | refine zCa ?_ _ | refine zCn ?_ _ | refine zCd ?_) | exact HR214_0.out)) (ji88) p215 q215
          cases e215
          replace p215 := eq_true p215
          replace q215 := eq_true q215
          have p216 : 0 ≤ (x134_4 : Int) := zT (by first | (with_reducible assumption) | assumption)
          have q216 : x134_4 < (x15_3.length : Int) := zT (by first | (with_reducible assumption) | assumption)
          obtain ⟨ad216, A216_0, c216_0, e216, hx216_0, hl216_0, hi216_0⟩ := lk_at2 (Kd.S_reads' HO_15.out).2.2 x134_4 p216 q216
          obtain rfl : (⟨go25, 0, none⟩ : Addr) = ad216 := (by injection e216)
          obtain ⟨ce216, hce216, hMe216, hcc216⟩ := Kd.S_get HO_15.out [] x134_4 p216 (by first | exact q216 | exact zT (by first | (with_reducible assumption) | assumption) | (have e_ := (Kd.S_reads' HO_15.out).1; omega))
          obtain ⟨ve216_0, rfl, ge216_0⟩ := hMe216
          have hv216_0 := hcc216 0 _ rfl
          rw [Nat.add_zero, show ((Kd.slice 3 (Kd.int .i64))).sz = 1 from rfl, Nat.mul_one] at hv216_0
          replace hv216_0 := Option.some.inj (hv216_0.symm.trans hx216_0)
          rw [hv216_0] at ge216_0
          have HL216_0 := Aside0.mk (show Kd.R (Kd.int .i64) 3 _ _ _ _ (lk_rd2 x15_3 x134_4) from ge216_0)
          clear hv216_0 ge216_0
          clear hcc216 hce216
          (first | simp only [add_plain] at hx216_0 | simp only [add_at] at hx216_0 | simp only [Addr.add, Nat.zero_add] at hx216_0 | skip)
          have HR216_0 := Aside0.mk hi216_0
          have HC216_0 := Aside0.mk hl216_0
          clear hi216_0 hl216_0
          replace p216 := eq_true p216
          replace q216 := eq_true q216
          have p217 : 0 ≤ (x20_4 : Int) := zT (by first | (with_reducible assumption) | assumption)
          have q217 : x20_4 < ((lk_rd2 x15_3 x134_4).length : Int) := zT (by first | (with_reducible assumption) | assumption)
          obtain ⟨ad217, e217, hx217_0⟩ := Kd.at_int (by repeat (first | (with_reducible exact HR216_0.out) | (with_reducible first | refine zCa ?_ _ | refine zCn ?_ _ | refine zCd ?_) | exact HR216_0.out)) x20_4 p217 q217
          cases e217
          replace p217 := eq_true p217
          replace q217 := eq_true q217
          refine start_ (n := 25) (S := fun w' => w'.cell? ⟨go25, ((ji85)).toNat, none⟩ = some (.slice (some ad215) (lk_rd2 x15_3 (ji85)).length c214_0) ∧ w'.cell? (ad215.add ((ji88)).toNat) = some (.int .i64 (rd (lk_rd2 x15_3 (ji85)) (ji88))) ∧ w'.cell? ⟨go25, (x134_4).toNat, none⟩ = some (.slice (some ad217) (lk_rd2 x15_3 x134_4).length c216_0) ∧ w'.cell? (ad217.add (x20_4).toNat) = some (.int .i64 (rd (lk_rd2 x15_3 x134_4) x20_4))) (ds := []) #[false, false, false, false, false, false, false, false, false, false, false, false, false, false, false, false, false, false, false, false, false, false, false, false, false] (by kernel_rfl) rfl rfl ⟨hx214_0, hx215_0, hx216_0, hx217_0⟩ (fun hHeld => ?_); refine with_tabW impl_Likeliest.tab29 impl_Likeliest.bits29 (fun HT_ HW_ => ?_)
          generalize wr.drew = w101 at HO_15 HO_19 HB HL214_0 HL216_0 HR214_0 HR216_0 hx214_0 hx215_0 hx216_0 hx217_0 hHeld ⊢
          refine pure_ (i := 0) (N := some 137) (v := ?_) (a' := ?_) #[true, false, false, false, false, false, false, false, false, false, false, false, false, false, false, false, false, false, false, false, false, false, false, false, false] rfl rfl (any_of HT_.out (by kernel_rfl)) (fun _ _ _ h => h) (Or.inl ⟨by rfl, ?_⟩) ?_ ?_
          rotate_left
          ·intro w'
           go_simp
           with_reducible rfl
          rotate_left
          ·simp only [Act.put, List.setIfInBounds_toArray, List.set_cons_zero, List.set_cons_succ, i64_w, i32_w]
           rfl
          refine pure_ (i := 1) (N := some 138) (v := ?_) (a' := ?_) #[true, true, false, false, false, false, false, false, false, false, false, false, false, false, false, false, false, false, false, false, false, false, false, false, false] rfl rfl (any_of HT_.out (by kernel_rfl)) (fun _ _ _ h => h) (Or.inl ⟨by rfl, ?_⟩) ?_ ?_
          rotate_left
          ·intro w'
           go_simp
           with_reducible rfl
          rotate_left
          ·simp only [Act.put, List.setIfInBounds_toArray, List.set_cons_zero, List.set_cons_succ, i64_w, i32_w]
           rfl
          refine pure_ (i := 2) (N := some 139) (v := ?_) (a' := ?_) #[true, true, true, false, false, false, false, false, false, false, false, false, false, false, false, false, false, false, false, false, false, false, false, false, false] rfl rfl (any_of HT_.out (by kernel_rfl)) (fun _ _ _ h => h) (Or.inl ⟨by rfl, ?_⟩) ?_ ?_
          rotate_left
          ·intro w'
           go_simp
           with_reducible rfl
          rotate_left
          ·simp only [Act.put, List.setIfInBounds_toArray, List.set_cons_zero, List.set_cons_succ, i64_w, i32_w]
           rfl
          refine pure_ (i := 3) (N := some 140) (v := ?_) (a' := ?_) #[true, true, true, true, false, false, false, false, false, false, false, false, false, false, false, false, false, false, false, false, false, false, false, false, false] rfl rfl (any_of HT_.out (by kernel_rfl)) (fun _ _ _ h => h) (Or.inl ⟨by rfl, ?_⟩) ?_ ?_
          rotate_left
          ·intro w'
           go_simp
           with_reducible rfl
          rotate_left
          ·simp only [Act.put, List.setIfInBounds_toArray, List.set_cons_zero, List.set_cons_succ, i64_w, i32_w]
           rfl
          refine pure_ (i := 5) (N := some 142) (v := ?_) (a' := ?_) #[true, true, true, true, false, true, false, false, false, false, false, false, false, false, false, false, false, false, false, false, false, false, false, false, false] rfl rfl (any_of HT_.out (by kernel_rfl)) (fun _ _ _ h => h) (Or.inl ⟨by rfl, ?_⟩) ?_ ?_
          rotate_left
          ·intro w'
           go_simp
           with_reducible rfl
          rotate_left
          ·simp only [Act.put, List.setIfInBounds_toArray, List.set_cons_zero, List.set_cons_succ, i64_w, i32_w]
           rfl
          refine pure_ (i := 6) (N := some 143) (v := ?_) (a' := ?_) #[true, true, true, true, false, true, true, false, false, false, false, false, false, false, false, false, false, false, false, false, false, false, false, false, false] rfl rfl (any_of HT_.out (by kernel_rfl)) (fun _ _ _ h => h) (Or.inl ⟨by rfl, ?_⟩) ?_ ?_
          rotate_left
          ·intro w'
           go_simp
           with_reducible rfl
          rotate_left
          ·simp only [Act.put, List.setIfInBounds_toArray, List.set_cons_zero, List.set_cons_succ, i64_w, i32_w]
           rfl
          refine pure_ (i := 7) (N := some 144) (v := ?_) (a' := ?_) #[true, true, true, true, false, true, true, true, false, false, false, false, false, false, false, false, false, false, false, false, false, false, false, false, false] rfl rfl (any_of HT_.out (by kernel_rfl)) (fun _ _ _ h => h) (Or.inl ⟨by rfl, ?_⟩) ?_ ?_
          rotate_left
          ·intro w'
           go_simp
           with_reducible rfl
          rotate_left
          ·simp only [Act.put, List.setIfInBounds_toArray, List.set_cons_zero, List.set_cons_succ, i64_w, i32_w]
           rfl
          refine pure_ (i := 8) (N := some 145) (v := ?_) (a' := ?_) #[true, true, true, true, false, true, true, true, true, false, false, false, false, false, false, false, false, false, false, false, false, false, false, false, false] rfl rfl (any_of HT_.out (by kernel_rfl)) (fun _ _ _ h => h) (Or.inl ⟨by rfl, ?_⟩) ?_ ?_
          rotate_left
          ·intro w'
           go_simp
           with_reducible rfl
          rotate_left
          ·simp only [Act.put, List.setIfInBounds_toArray, List.set_cons_zero, List.set_cons_succ, i64_w, i32_w]
           rfl
          refine pure_ (i := 10) (N := some 147) (v := ?_) (a' := ?_) #[true, true, true, true, false, true, true, true, true, false, true, false, false, false, false, false, false, false, false, false, false, false, false, false, false] rfl rfl (any_of HT_.out (by kernel_rfl)) (fun _ _ _ h => h) (Or.inl ⟨by rfl, ?_⟩) ?_ ?_
          rotate_left
          ·intro w'
           go_simp
           with_reducible rfl
          rotate_left
          ·simp only [Act.put, List.setIfInBounds_toArray, List.set_cons_zero, List.set_cons_succ, i64_w, i32_w]
           rfl
          refine pure_ (i := 11) (N := some 148) (v := ?_) (a' := ?_) #[true, true, true, true, false, true, true, true, true, false, true, true, false, false, false, false, false, false, false, false, false, false, false, false, false] rfl rfl (any_of HT_.out (by kernel_rfl)) (fun _ _ _ h => h) (Or.inl ⟨by rfl, ?_⟩) ?_ ?_
          rotate_left
          ·intro w'
           go_simp
           with_reducible rfl
          rotate_left
          ·simp only [Act.put, List.setIfInBounds_toArray, List.set_cons_zero, List.set_cons_succ, i64_w, i32_w]
           rfl
          refine pure_ (i := 12) (N := some 149) (v := ?_) (a' := ?_) #[true, true, true, true, false, true, true, true, true, false, true, true, true, false, false, false, false, false, false, false, false, false, false, false, false] rfl rfl (any_of HT_.out (by kernel_rfl)) (fun _ _ _ h => h) (Or.inl ⟨by rfl, ?_⟩) ?_ ?_
          rotate_left
          ·intro w'
           go_simp
           with_reducible rfl
          rotate_left
          ·simp only [Act.put, List.setIfInBounds_toArray, List.set_cons_zero, List.set_cons_succ, i64_w, i32_w]
           rfl
          refine pure_ (i := 13) (N := some 150) (v := ?_) (a' := ?_) #[true, true, true, true, false, true, true, true, true, false, true, true, true, true, false, false, false, false, false, false, false, false, false, false, false] rfl rfl (any_of HT_.out (by kernel_rfl)) (fun _ _ _ h => h) (Or.inl ⟨by rfl, ?_⟩) ?_ ?_
          rotate_left
          ·intro w'
           go_simp
           with_reducible rfl
          rotate_left
          ·simp only [Act.put, List.setIfInBounds_toArray, List.set_cons_zero, List.set_cons_succ, i64_w, i32_w]
           rfl
          refine pure_ (i := 17) (N := some 154) (v := ?_) (a' := ?_) #[true, true, true, true, false, true, true, true, true, false, true, true, true, true, false, false, false, true, false, false, false, false, false, false, false] rfl rfl (any_of HT_.out (by kernel_rfl)) (fun _ _ _ h => h) (Or.inl ⟨by rfl, ?_⟩) ?_ ?_
          rotate_left
          ·intro w'
           go_simp
           with_reducible rfl
          rotate_left
          ·simp only [Act.put, List.setIfInBounds_toArray, List.set_cons_zero, List.set_cons_succ, i64_w, i32_w]
           rfl
          refine pure_ (i := 18) (N := some 155) (v := ?_) (a' := ?_) #[true, true, true, true, false, true, true, true, true, false, true, true, true, true, false, false, false, true, true, false, false, false, false, false, false] rfl rfl (any_of HT_.out (by kernel_rfl)) (fun _ _ _ h => h) (Or.inl ⟨by rfl, ?_⟩) ?_ ?_
          rotate_left
          ·intro w'
           go_simp
           with_reducible rfl
          rotate_left
          ·simp only [Act.put, List.setIfInBounds_toArray, List.set_cons_zero, List.set_cons_succ, i64_w, i32_w]
           rfl
          refine pure_ (i := 19) (N := some 156) (v := ?_) (a' := ?_) #[true, true, true, true, false, true, true, true, true, false, true, true, true, true, false, false, false, true, true, true, false, false, false, false, false] rfl rfl (any_of HT_.out (by kernel_rfl)) (fun _ _ _ h => h) (Or.inl ⟨by rfl, ?_⟩) ?_ ?_
          rotate_left
          ·intro w'
           go_simp
           with_reducible rfl
          rotate_left
          ·simp only [Act.put, List.setIfInBounds_toArray, List.set_cons_zero, List.set_cons_succ, i64_w, i32_w]
           rfl
          refine pure_ (i := 21) (N := some 158) (v := ?_) (a' := ?_) #[true, true, true, true, false, true, true, true, true, false, true, true, true, true, false, false, false, true, true, true, false, true, false, false, false] rfl rfl (any_of HT_.out (by kernel_rfl)) (fun _ _ _ h => h) (Or.inl ⟨by rfl, ?_⟩) ?_ ?_
          rotate_left
          ·intro w'
           go_simp
           with_reducible rfl
          rotate_left
          ·simp only [Act.put, List.setIfInBounds_toArray, List.set_cons_zero, List.set_cons_succ, i64_w, i32_w]
           rfl
          refine take_ (i := 9) (N := some 146) (v := ?_) (a' := ?_) #[true, true, true, true, false, true, true, true, true, true, true, true, true, true, false, false, false, true, true, true, false, true, false, false, false] rfl rfl (take_ofW HT_.out HW_.out (by kernel_rfl)) (fun _ _ _ h => h) (Or.inl ⟨by rfl, ?_⟩) hHeld ?_ ?_
          rotate_left
          ·rintro w' ⟨s0, s1, s2, s3⟩
           go_simp
           with_reducible rfl
          rotate_left
          ·simp only [Act.put, List.setIfInBounds_toArray, List.set_cons_zero, List.set_cons_succ, i64_w, i32_w]
           rfl
          refine pure_ (i := 14) (N := some 151) (v := ?_) (a' := ?_) #[true, true, true, true, false, true, true, true, true, true, true, true, true, true, true, false, false, true, true, true, false, true, false, false, false] rfl rfl (any_of HT_.out (by kernel_rfl)) (fun _ _ _ h => h) (Or.inl ⟨by rfl, ?_⟩) ?_ ?_
          rotate_left
          ·intro w'
           go_simp
           with_reducible rfl
          rotate_left
          ·simp only [Act.put, List.setIfInBounds_toArray, List.set_cons_zero, List.set_cons_succ, i64_w, i32_w]
           rfl
          refine take_ (i := 15) (N := some 152) (v := ?_) (a' := ?_) #[true, true, true, true, false, true, true, true, true, true, true, true, true, true, true, true, false, true, true, true, false, true, false, false, false] rfl rfl (take_ofW HT_.out HW_.out (by kernel_rfl)) (fun _ _ _ h => h) (Or.inl ⟨by rfl, ?_⟩) hHeld ?_ ?_
          rotate_left
          ·rintro w' ⟨s0, s1, s2, s3⟩
           go_simp
           with_reducible rfl
          rotate_left
          ·simp only [Act.put, List.setIfInBounds_toArray, List.set_cons_zero, List.set_cons_succ, i64_w, i32_w]
           rfl
          refine take_ (i := 20) (N := some 157) (v := ?_) (a' := ?_) #[true, true, true, true, false, true, true, true, true, true, true, true, true, true, true, true, false, true, true, true, true, true, false, false, false] rfl rfl (take_ofW HT_.out HW_.out (by kernel_rfl)) (fun _ _ _ h => h) (Or.inl ⟨by rfl, ?_⟩) hHeld ?_ ?_
          rotate_left
          ·rintro w' ⟨s0, s1, s2, s3⟩
           go_simp
           with_reducible rfl
          rotate_left
          ·simp only [Act.put, List.setIfInBounds_toArray, List.set_cons_zero, List.set_cons_succ, i64_w, i32_w]
           rfl
          refine pure_ (i := 22) (N := some 159) (v := ?_) (a' := ?_) #[true, true, true, true, false, true, true, true, true, true, true, true, true, true, true, true, false, true, true, true, true, true, true, false, false] rfl rfl (any_of HT_.out (by kernel_rfl)) (fun _ _ _ h => h) (Or.inl ⟨by rfl, ?_⟩) ?_ ?_
          rotate_left
          ·intro w'
           go_simp
           with_reducible rfl
          rotate_left
          ·simp only [Act.put, List.setIfInBounds_toArray, List.set_cons_zero, List.set_cons_succ, i64_w, i32_w]
           rfl
          refine take_ (i := 23) (N := some 160) (v := ?_) (a' := ?_) #[true, true, true, true, false, true, true, true, true, true, true, true, true, true, true, true, false, true, true, true, true, true, true, true, false] rfl rfl (take_ofW HT_.out HW_.out (by kernel_rfl)) (fun _ _ _ h => h) (Or.inl ⟨by rfl, ?_⟩) hHeld ?_ ?_
          rotate_left
          ·rintro w' ⟨s0, s1, s2, s3⟩
           go_simp
           with_reducible rfl
          rotate_left
          ·simp only [Act.put, List.setIfInBounds_toArray, List.set_cons_zero, List.set_cons_succ, i64_w, i32_w]
           rfl
          refine one_ (i := 4) (N := some 141) #[true, true, true, true, true, true, true, true, true, true, true, true, true, true, true, true, false, true, true, true, true, true, true, true, false] rfl rfl (one_of HT_.out (by kernel_rfl)) (by decide) (fun K hK => ?_)
          refine call_ 27 #[.int .i64 x134_4, .int .i64 (wrap64 (x20_4 * 2)), .pointer (some ⟨ga, 0, none⟩), .pointer (some ⟨gb, 0, none⟩), .pointer (some ⟨gs, 0, none⟩)] (by rfl) rfl (by go_simp) ?_
          with_reducible refine (lkG_calls a1 a2 A3 c3 l3 ga gb gs x134_4 (wrap64 (x20_4 * 2)) _ (lk_bx HB.out CA.out) (lk_bx HB.out CB.out) (lk_bx HB.out CS.out) (Kd.C_below HR3.out HB.out) t213 A84.out).mono ?_
          rintro e w102 ⟨rfl, hb⟩
          have HS0_ := (hb.cell (zW _ _ (hHeld.1))).trans (hHeld.1)
          have HS1_ := (hb.cell (zW _ _ (hHeld.2.1))).trans (hHeld.2.1)
          have HS2_ := (hb.cell (zW _ _ (hHeld.2.2.1))).trans (hHeld.2.2.1)
          have HS3_ := (hb.cell (zW _ _ (hHeld.2.2.2))).trans (hHeld.2.2.2)
          refine ⟨_, rfl, ?_⟩
          have n0_ := Aside0.mk (Kd.S_below (by (with_reducible repeat (first | apply Kd.S_alloc | apply Kd.S_drewN | apply Kd.S_drew)); first | exact HO_15.out | (subst_vars; exact HO_15.out)) hb)
          have n1_ := Aside0.mk (Kd.R_below (by (with_reducible repeat (first | apply zRa | apply zRn | apply zRd)); first | exact HO_19.out | (subst_vars; exact HO_19.out)) hb)
          have n2_ := Aside0.mk (Kd.R_below (by (with_reducible repeat (first | apply zRa | apply zRn | apply zRd)); first | exact HL214_0.out | (subst_vars; exact HL214_0.out)) hb)
          have n3_ := Aside0.mk (Kd.R_below (by (with_reducible repeat (first | apply zRa | apply zRn | apply zRd)); first | exact HL216_0.out | (subst_vars; exact HL216_0.out)) hb)
          have n4_ := Aside0.mk (Kd.C_below (by repeat (first | (with_reducible exact HR214_0.out) | (with_reducible first | refine zCa ?_ _ | refine zCn ?_ _ | refine zCd ?_) | exact HR214_0.out)) hb)
          have n5_ := Aside0.mk (Kd.C_below (by repeat (first | (with_reducible exact HR216_0.out) | (with_reducible first | refine zCa ?_ _ | refine zCn ?_ _ | refine zCd ?_) | exact HR216_0.out)) hb)
          have n6_ := Aside0.mk (below_step (by repeat (first | (with_reducible first | exact HB.out | apply zBa | apply zBn | apply zBd) | exact HB.out)) hb)
          clear HO_15
          clear HO_19
          clear HL214_0
          clear HL216_0
          clear HR214_0
          clear HR216_0
          clear HB
          have HO_15 := n0_
          have HO_19 := n1_
          have HL214_0 := n2_
          have HL216_0 := n3_
          have HR214_0 := n4_
          have HR216_0 := n5_
          have HB := n6_
          clear n0_ n1_ n2_ n3_ n4_ n5_ n6_
          (try clear hb)
          (try clear hb2)
          (try clear hk)
          (try clear hi)
          refine hK.out _ _ ⟨HS0_, HS1_, HS2_, HS3_⟩ (fun hHeld => ?_)
          clear hK K
          refine norm_ (a' := ?_) ?_ ?_
          rotate_left
          ·show Act.put _ (some 141) _ = _
           simp only [Act.put, List.setIfInBounds_toArray, List.set_cons_zero, List.set_cons_succ, i64_w, i32_w]
           rfl
          refine pure_ (i := 16) (N := some 153) (v := ?_) (a' := ?_) #[true, true, true, true, true, true, true, true, true, true, true, true, true, true, true, true, true, true, true, true, true, true, true, true, false] rfl rfl (any_of HT_.out (by kernel_rfl)) (fun _ _ _ h => h) (Or.inl ⟨by rfl, ?_⟩) ?_ ?_
          rotate_left
          ·intro w'
           go_simp
           with_reducible rfl
          rotate_left
          ·simp only [Act.put, List.setIfInBounds_toArray, List.set_cons_zero, List.set_cons_succ, i64_w, i32_w]
           rfl
          refine pure_ (i := 24) (N := some 161) (v := ?_) (a' := ?_) #[true, true, true, true, true, true, true, true, true, true, true, true, true, true, true, true, true, true, true, true, true, true, true, true, true] rfl rfl (any_of HT_.out (by kernel_rfl)) (fun _ _ _ h => h) (Or.inl ⟨by rfl, ?_⟩) ?_ ?_
          rotate_left
          ·intro w'
           go_simp
           with_reducible rfl
          rotate_left
          ·simp only [Act.put, List.setIfInBounds_toArray, List.set_cons_zero, List.set_cons_succ, i64_w, i32_w]
           rfl
          refine done_ (done_of HT_.out (by kernel_rfl)) ?_
          try go_wp2_with (first | ((with_reducible refine gate_builtin (b := .append) (xs := #[.tmp 162, .tmp 164]) rfl ?_); (try (refine gate_guard (by rfl) ?_; dsimp only)); at_builtin; refine Kd.R_append (Kd.int .i64) (w0 := ws) ws.heap.size rfl (.tmp 162) (.tmp 164) 24 3 (.int .i64 0) 8 rfl Try.underlying24 info3 rfl (by decide) (by omega) u19 x19_4 0 [.int .i64 0] (fun _ => True) (fun _ => False) rfl rfl ?aP (fun _ hk => hk.elim) ?aF ?aO ?aB ?aS ?aL ?_; (case aP => exact rfl); (case aB => exact (by repeat (first | (with_reducible first | exact HB.out | apply zBa | apply zBn | apply zBd) | exact HB.out))); (case aF => exact (fun _ _ => trivial)); (case aO => exact (by (with_reducible repeat (first | apply zRa | apply zRn | apply zRd)); first | exact HO_19.out | (subst_vars; exact HO_19.out))); (case aS => exact (below_size (by repeat (first | (with_reducible first | exact HB.out | apply zBa | apply zBn | apply zBd) | exact HB.out)))); (case aL => have := LMc100.out; omega); intro v222 w103 ho hb hg hat; (first | rw [← Ny221.out] at ho | (simp only [Int.reduceToNat] at ho; rw [← Ny221.out] at ho)); have n0_ := Aside0.mk (Kd.S_after (ok := (fun _ => True)) (by (with_reducible repeat (first | apply Kd.S_alloc | apply Kd.S_drewN | apply Kd.S_drew)); first | exact Kd.S_mono HO_15.out (fun _ hk => ⟨trivial, hk⟩) | (subst_vars; exact Kd.S_mono HO_15.out (fun _ hk => ⟨trivial, hk⟩))) hg hat); have n1_ := Aside0.mk (Kd.R_after (ok := (fun k_ => some k_ ≠ (.slice (some ⟨go25, 0, none⟩) x15_3.length co25 : Value).ownBlock)) (by (with_reducible repeat (first | apply zRa | apply zRn | apply zRd)); first | exact Kd.R_mono HL214_0.out (fun _ hk => ⟨hk.2, hk.1⟩) | (subst_vars; exact Kd.R_mono HL214_0.out (fun _ hk => ⟨hk.2, hk.1⟩))) hg hat); have n2_ := Aside0.mk (Kd.R_after (ok := (fun k_ => some k_ ≠ (.slice (some ⟨go25, 0, none⟩) x15_3.length co25 : Value).ownBlock)) (by (with_reducible repeat (first | apply zRa | apply zRn | apply zRd)); first | exact Kd.R_mono HL216_0.out (fun _ hk => ⟨hk.2, hk.1⟩) | (subst_vars; exact Kd.R_mono HL216_0.out (fun _ hk => ⟨hk.2, hk.1⟩))) hg hat); have n3_ := Aside0.mk (hb); have n4_ := Aside0.mk (ho); clear HO_15; clear HL214_0; clear HL216_0; clear HB; clear HO_19; have HO_15 := n0_; have HL214_0 := n1_; have HL216_0 := n2_; have HB := n3_; have HO223 := n4_; clear n0_ n1_ n2_ n3_ n4_; clear ho hb hg hat))
          go_roundg k4
          case measure => have := HJ4.out; have := HJ10.out; have := HK3.out; have := HK4.out; omega
          case rel => exact ⟨(y221), (Go.bits .and .i64 (Go.bits .or .i64 (wrap64 (x20_4 * 2)) 0) (wrap64 ((ji15) - 1))), (ji85), (by first | rfl | (simp; done) | (simp only [← hji15] <;> (first | rfl | simp)) | (simp [*]; done)), (by first | rfl | (simp; done) | (simp only [← hji85] <;> (first | rfl | simp)) | (simp [*]; done)), H', ⟨by have := HJ4.out; have := HJ10.out; have := HK3.out; have := HK4.out; omega⟩, ⟨by (try simp only [hl15_3]); (with_reducible repeat (first | apply Kd.S_alloc | apply Kd.S_drewN | apply Kd.S_drew)); first | exact Kd.S_mono HO_15.out (fun _ hk => hk.2) | (subst_vars; exact Kd.S_mono HO_15.out (fun _ hk => hk.2))⟩, ⟨by (try simp only [hl15_3]); (with_reducible repeat (first | apply zRa | apply zRn | apply zRd)); first | exact HO223.out | (subst_vars; exact HO223.out)⟩, ⟨by repeat (first | (with_reducible first | exact HB.out | apply zBa | apply zBn | apply zBd) | exact HB.out)⟩⟩
       rw [if_pos c32] at H
       have c32b0 : decide (0 ≤ x16_3) = true := zE c32
       (try (have c32w_hl15_3 := c32b0; simp only [hl15_3] at c32w_hl15_3))
       clear c32
       obtain ⟨ji33, hji33⟩ : ∃ j_ : Int, (wrap64 ((wrap64 ((ji15) - 1)) + 1)) = j_ := ⟨_, rfl⟩
       replace H : (if 0 ≤ (ji33) then (if (ji33 : Int).toNat ≤ 35184372088832 then (if 0 ≤ x16_3 then (if x16_3 < (x15_3.length : Int) then ((some (x15_3.set (x16_3 : Int).toNat (List.replicate (ji33 : Int).toNat 0) : List (List Int))).bind fun y197 => (impl_Likeliest.l1 a1 a2 l3 k3 (wrap64 ((ji22) - a0)) (wrap64 ((ji15) - 1)) y197 x16_3 ((lk_rd2 y197 x16_3).length : Int) 0)) else (none)) else (none)) else (none)) else (none)) = some (r1, r2, r3) := by first | (rw [hji33] at H; exact H) | (simp only [hji33] at H ⊢; exact H)
       have hji33w : (IntKind.i64.wrap ((wrap64 ((ji15) - 1)) + 1)) = ji33 := (i64_w _).trans hji33
       clear hji19w hji19
       by_cases c34 : 0 ≤ (ji33)
       case neg =>
        rw [if_neg c34] at H
        exact absurd H (by simp)
       rw [if_pos c34] at H
       have c34b0 := eq_true c34
       have c34b1 : decide (0 ≤ (ji33)) = true := zE c34
       clear c34
       by_cases c35 : (ji33 : Int).toNat ≤ 35184372088832
       case neg =>
        rw [if_neg c35] at H
        exact absurd H (by simp)
       rw [if_pos c35] at H
       have c35b0 := eq_true c35
       have c35b1 : decide ((ji33 : Int).toNat ≤ 35184372088832) = true := zE c35
       clear c35
       obtain ⟨y194, hy194⟩ : ∃ y_ : List Int, y_ = (List.replicate (ji33 : Int).toNat 0) := ⟨_, rfl⟩
       replace H : (if 0 ≤ x16_3 then (if x16_3 < (x15_3.length : Int) then ((some (x15_3.set (x16_3 : Int).toNat y194 : List (List Int))).bind fun y197 => (impl_Likeliest.l1 a1 a2 l3 k3 (wrap64 ((ji22) - a0)) (wrap64 ((ji15) - 1)) y197 x16_3 ((lk_rd2 y197 x16_3).length : Int) 0)) else (none)) else (none)) = some (r1, r2, r3) := by first | (rw [hy194]; with_reducible exact H) | (have H2_ := (Option.bind_some _ _).symm.trans H; rw [hy194]; with_reducible exact H2_) | (have H2_ := (Option.bind_some _ _).symm.trans H; with_reducible exact H2_) | with_reducible exact H | (rw [hy194]; exact H) | exact H
       have Ny194 := Aside0.mk hy194
       clear hy194
       by_cases c36 : 0 ≤ x16_3
       case neg =>
        rw [if_neg c36] at H
        exact absurd H (by simp)
       rw [if_pos c36] at H
       have c36b0 : decide (0 ≤ x16_3) = true := zE c36
       (try (have c36w_hl15_3 := c36b0; simp only [hl15_3] at c36w_hl15_3))
       clear c36
       by_cases c37 : x16_3 < (x15_3.length : Int)
       case neg =>
        rw [if_neg c37] at H
        exact absurd H (by simp)
       rw [if_pos c37] at H
       have c37b0 : decide (x16_3 < (x15_3.length : Int)) = true := zE c37
       (try (have c37w_hl15_3 := c37b0; simp only [hl15_3] at c37w_hl15_3))
       clear c37
       obtain ⟨y197, hy197⟩ : ∃ y_ : List (List Int), y_ = (x15_3.set (x16_3 : Int).toNat y194) := ⟨_, rfl⟩
       replace H : (impl_Likeliest.l1 a1 a2 l3 k3 (wrap64 ((ji22) - a0)) (wrap64 ((ji15) - 1)) y197 x16_3 ((lk_rd2 y197 x16_3).length : Int) 0) = some (r1, r2, r3) := by first | (rw [hy197]; with_reducible exact H) | (have H2_ := (Option.bind_some _ _).symm.trans H; rw [hy197]; with_reducible exact H2_) | (have H2_ := (Option.bind_some _ _).symm.trans H; with_reducible exact H2_) | with_reducible exact H | (rw [hy197]; exact H) | exact H
       have Ny197 := Aside0.mk hy197
       clear hy197
       have H' := Aside0.mk H
       clear H
       go_wp2_with (first | ((with_reducible refine gate_dst (N := 74) rfl ?_); (try (refine gate_guard (by rfl) ?_; dsimp only)); refine Kd.R_make (Kd.int .i64) _ 3 rfl (N := 74) rfl 24 _ _ rfl ji33 rfl rfl Try.underlying24 (.int .i64 0) 8 info3 rfl (by decide) (by omega) 0 (ok := fun _ => True) (okp := fun _ => True) rfl (fun _ hk => hk) trivial (zT (by first | (with_reducible assumption) | assumption)) (Nat.le_trans (Nat.mul_le_mul_right _ (zT (by first | (with_reducible assumption) | assumption) : ji33.toNat ≤ 35184372088832)) (by omega)) (Below.refl _ _) (Nat.le_refl _) ?_; intro v195 w39 ho40 hb hg_ hnew_; clear hg_ hnew_; (first | rw [← Ny194.out] at ho40 | (simp only [Int.reduceToNat] at ho40; rw [← Ny194.out] at ho40)); have n0_ := Aside0.mk (Kd.S_elder' (by (with_reducible repeat (first | apply Kd.S_alloc | apply Kd.S_drewN | apply Kd.S_drew)); first | exact HO_15.out | (subst_vars; exact HO_15.out)) (Kd.R_base ho40) hb); have n1_ := Aside0.mk (Kd.R_lower ho40 (below_size (by repeat (first | (with_reducible first | exact HB.out | apply zBa | apply zBn | apply zBd) | exact HB.out)))); have n2_ := Aside0.mk (below_step (by repeat (first | (with_reducible first | exact HB.out | apply zBa | apply zBn | apply zBd) | exact HB.out)) hb); clear HO_15; clear HB; have HO_15 := n0_; have HO196 := n1_; have HB := n2_; clear n0_ n1_ n2_; clear hb ho40; have p38 : 0 ≤ (x16_3 : Int) := zT (by first | (with_reducible assumption) | assumption); have q38 : (x16_3 : Int) < ((x15_3.length : Int) : Int) := zT (by first | (with_reducible assumption) | assumption); obtain ⟨_, ce38, hcl38, hM38, hcc38, hfr38, _, _⟩ := Kd.S_elem HO_15.out [] (x16_3 : Int) p38 q38; obtain ⟨ve38_0, rfl, ge38_0⟩ := hM38; have hx38_0 := hcc38 0 _ rfl; have hf38_0 := hfr38 0; (try simp only [show ((Kd.slice 3 (Kd.int .i64))).sz = 1 from rfl, Nat.mul_one, Nat.add_zero] at hx38_0); (try simp only [show ((Kd.slice 3 (Kd.int .i64))).sz = 1 from rfl, Nat.mul_one, Nat.add_zero] at hf38_0); (try clear hcl38 hcc38 hfr38); (try clear hM38); replace p38 := eq_true p38; replace q38 := eq_true q38; have n_ := Aside0.mk (Kd.S_mono (ok' := (fun k_ => some k_ ≠ (v195 : Value).ownBlock)) HO_15.out (fun k_ hk => hk.2)); clear HO_15; have HO_15 := n_; clear n_; have HX41 := Aside0.mk (show Kd.S (Kd.slice 3 (Kd.int .i64)) 24 w39 ws.heap.size (fun k_ => ((fun _ => True)) k_ ∧ ¬ ((fun k_ => some k_ = (v195 : Value).ownBlock)) k_) (.slice (some ⟨go25, 0, none⟩) x15_3.length co25) x15_3 from (by (with_reducible repeat (first | apply Kd.S_alloc | apply Kd.S_drewN | apply Kd.S_drew)); exact Kd.S_mono HO_15.out (fun k_ hk => ⟨trivial, fun e_ => hk e_⟩))); obtain ⟨oki41, ce41, hcl41, hM41, hcc41, hfr41, hoki41, hH41⟩ := Kd.S_elem HX41.out [] (x16_3 : Int) (zT (by first | (with_reducible assumption) | assumption)) (by have h_ : (x16_3 : Int) < ((x15_3.length : Int) : Int) := zT (by first | (with_reducible assumption) | assumption); first | exact h_ | (have e_ := (Kd.S_reads' HO_15.out).1; omega) | simpa using h_); obtain ⟨ve41_0, rfl, ge41_0⟩ := hM41; have HP41 := Kd.S_seg hH41 (zT (by first | (with_reducible assumption) | assumption)) (by have h_ : (x16_3 : Int) < ((x15_3.length : Int) : Int) := zT (by first | (with_reducible assumption) | assumption); first | exact h_ | (have e_ := (Kd.S_reads' HO_15.out).1; omega) | simpa using h_) (seg := [v195]) (j := 0) (show 1 ≤ 1 from by decide) (x' := y194) (Kd.M_row (Kd.R_mono (Kd.R_tight rfl (Kd.R_mono (ok' := fun k_ => ((fun _ => True)) k_ ∧ k_ ≠ go25) (Kd.R_apart' (HO196.out) (Kd.S_typed HO_15.out) (by decide)) (fun k_ hk => ⟨trivial, fun e_ => (hk.2) (by rw [e_]; rfl)⟩))) (fun _ h_ => Or.inr (h_)))) (fun _ hk => hk) (fun k_ hk_ => ((Kd.R_mono (ok' := fun k_ => ((fun _ => True)) k_ ∧ k_ ≠ go25) (Kd.R_apart' (HO196.out) (Kd.S_typed HO_15.out) (by decide)) (fun k_ hk => ⟨trivial, fun e_ => (hk.2) (by rw [e_]; rfl)⟩))).1 k_ hk_.symm); have hx41_0 := hcc41 0 _ rfl; (try simp only [show ((Kd.slice 3 (Kd.int .i64))).sz = 1 from rfl, Nat.mul_one, Nat.add_zero] at hx41_0); have hf41_0 := hfr41 0; (try simp only [show ((Kd.slice 3 (Kd.int .i64))).sz = 1 from rfl, Nat.mul_one, Nat.add_zero] at hf41_0); (try clear hcl41 hcc41 hfr41 hoki41 hH41); (try clear hM41); (try simp only [show ((Kd.slice 3 (Kd.int .i64))).sz = 1 from rfl, Nat.mul_one, Nat.add_zero] at HP41)) | ((with_reducible refine gate_store (t := 24) (p := 75) rfl ?_); refine store_event (t := 24) (p := 75) (v := ?vo_w42) (w1 := (w39.setCell ⟨go25, (x16_3 : Int).toNat, none⟩ (v195))) ?hg ?ho ?hn ?hr ?_; (case ho => rfl); (case hg => rfl); (case hn => rfl); (case hr => first | (go_simp; done) | (go_simp; rfl) | (obtain ⟨_, _, eo_⟩ := Kd.R_slice HO196.out; subst eo_; first | (go_simp; done) | (go_simp; rfl))); intro w42 hw; have hg : w39.grownBy w42 (some go25) := (by rw [hw]; exact HP41.2); have hp_ : Kd.S (Kd.slice 3 (Kd.int .i64)) 24 w42 ws.heap.size (fun _ => True) (.slice (some ⟨go25, 0, none⟩) x15_3.length co25) y197 := (by rw [hw, Ny197.out]; exact HP41.1); clear HP41; have n0_ := Aside0.mk (hp_); have n1_ := Aside0.mk ((by rw [hw]; exact zBs (HB.out) GB25.out : Below ws.heap.size ws w42)); clear HO_15; clear HB; clear HO196; have HO_15 := n0_; have HB := n1_; clear n0_ n1_; clear hg hw hp_; have p198 : 0 ≤ (x16_3 : Int) := zT (by first | (with_reducible assumption) | assumption); have q198 : x16_3 < (y197.length : Int) := (by have h_ : (x16_3 : Int) < ((x15_3.length : Int) : Int) := zT (by first | (with_reducible assumption) | assumption); first | (have e_ := (Kd.S_reads' HO_15.out).1; omega) | simpa only [Ny197.out, List.length_set] using h_); have ql198 : ((x16_3 : Int) < ((x15_3.length : Int) : Int)) = True := eq_true (zT (by first | (with_reducible assumption) | assumption)); obtain ⟨ad198, A198_0, c198_0, e198, hx198_0, hl198_0, hi198_0⟩ := lk_at2 (Kd.S_reads' HO_15.out).2.2 x16_3 p198 q198; obtain rfl : (⟨go25, 0, none⟩ : Addr) = ad198 := (by injection e198); obtain ⟨ce198, hce198, hMe198, hcc198⟩ := Kd.S_get HO_15.out [] x16_3 p198 (by first | exact q198 | exact zT (by first | (with_reducible assumption) | assumption) | (have e_ := (Kd.S_reads' HO_15.out).1; omega)); obtain ⟨ve198_0, rfl, ge198_0⟩ := hMe198; have hv198_0 := hcc198 0 _ rfl; rw [Nat.add_zero, show ((Kd.slice 3 (Kd.int .i64))).sz = 1 from rfl, Nat.mul_one] at hv198_0; replace hv198_0 := Option.some.inj (hv198_0.symm.trans hx198_0); rw [hv198_0] at ge198_0; have HL198_0 := Aside0.mk (show Kd.R (Kd.int .i64) 3 _ _ _ _ (lk_rd2 y197 x16_3) from ge198_0); clear hv198_0 ge198_0; clear hcc198 hce198; (first | simp only [add_plain] at hx198_0 | simp only [add_at] at hx198_0 | simp only [Addr.add, Nat.zero_add] at hx198_0 | skip); have HR198_0 := Aside0.mk hi198_0; have HC198_0 := Aside0.mk hl198_0; clear hi198_0 hl198_0; replace p198 := eq_true p198; replace q198 := eq_true q198))
       (try simp only [Act.put, List.setIfInBounds_toArray, List.set_cons_zero, List.set_cons_succ])
       go_loopg [81] k3 (fun kq v81 w' => ∃ (x15_4 : List (List Int)) (x81_4 : Int), v81 = .int .i64 x81_4 ∧ Aside0 (impl_Likeliest.l1 a1 a2 l3 kq (wrap64 ((ji22) - a0)) (wrap64 ((ji15) - 1)) x15_4 x16_3 ((lk_rd2 y197 x16_3).length : Int) x81_4 = some (r1, r2, r3)) ∧ Aside0 (kq ≤ k3) ∧ Aside0 (Kd.S (Kd.slice 3 (Kd.int .i64)) 24 w' ws.heap.size (fun _ => True) (.slice (some ⟨go25, 0, none⟩) x15_3.length co25) x15_4) ∧ Aside0 (Below ws.heap.size ws w'))
       case atStart => exact ⟨(y197), (0), (by first | rfl | (simp; done) | (simp [*]; done)), H', ⟨Nat.le_refl _⟩, ⟨by (try simp only [hl15_3]); (with_reducible repeat (first | apply Kd.S_alloc | apply Kd.S_drewN | apply Kd.S_drew)); first | exact HO_15.out | (subst_vars; exact HO_15.out)⟩, ⟨by repeat (first | (with_reducible first | exact HB.out | apply zBa | apply zBn | apply zBd) | exact HB.out)⟩⟩
       case round =>
        clear H'
        try clear c1
        try clear p1
        try clear q1
        try clear hx1
        try clear c2
        try clear p2
        try clear q2
        try clear hx2
        try clear c3
        try clear p3
        try clear q3
        try clear hx3
        try clear c4
        try clear hx4
        try clear hf4
        try clear p6
        try clear c7
        try clear c8
        try clear c8b0
        try clear c8b1
        try clear c10
        try clear c12
        try clear c12b0
        try clear c13
        try clear c14
        try clear c14b0
        try clear c14b1
        try clear c17
        try clear c17b0
        try clear c17b1
        try clear c18
        try clear c18b0
        try clear c18b1
        try clear c19
        try clear p19
        try clear q19
        try clear hx19
        try clear c20
        try clear c20b0
        try clear c20b1
        try clear c21
        try clear c21b0
        try clear c21b1
        try clear c23
        try clear c23b0
        try clear c24
        try clear c24b0
        try clear c25
        try clear p25
        try clear q25
        try clear hx25
        try clear hf25
        try clear c30
        try clear hx30
        try clear hf30
        try clear c32
        try clear c32b0
        try clear c34
        try clear c34b0
        try clear c34b1
        try clear c35
        try clear c35b0
        try clear c35b1
        try clear c36
        try clear c36b0
        try clear c37
        try clear c37b0
        try clear c38
        try clear p38
        try clear q38
        try clear hx38
        try clear hf38
        try clear c41
        try clear hx41
        try clear hf41
        try clear hx198_0
        try clear hx25_0
        try clear hx30_0
        try clear hx38_0
        try clear hx41_0
        try clear p198
        try clear p2
        try clear p25
        try clear p38
        try clear p6
        try clear q198
        try clear q2
        try clear q25
        try clear q38
        obtain ⟨x15_4, x81_4, rfl, HA, HK4, HO_15, HB⟩ := hrel
        have hl15_4 := (Kd.S_reads' HO_15.out).1
        rw [hl15_4] at HO_15
        (try simp only [hl15_4])
        cases gk with
        | zero => exact absurd HA.out (by simp [impl_Likeliest.l1])
        | succ k4 =>
         have H := HA.out
         clear HA
         simp only [impl_Likeliest.l1] at H
         by_cases c43 : x81_4 < ((lk_rd2 y197 x16_3).length : Int)
         case neg =>
          rw [if_neg c43] at H
          have c43b0 : decide (x81_4 < ((lk_rd2 y197 x16_3).length : Int)) = false := decide_eq_false c43
          (try (have c43w_hl15_3 := c43b0; simp only [hl15_3] at c43w_hl15_3))
          (try (have c43w_hl15_4 := c43b0; simp only [hl15_4] at c43w_hl15_4))
          clear c43
          have H' := Aside0.mk H
          clear H
          go_wp2
          (try simp only [← hl15_3, ← hl15_4])
          go_roundg k4
          case measure => have := HJ4.out; have := HJ10.out; have := HK3.out; have := HK4.out; omega
          case rel => exact ⟨(x15_4), (wrap64 (x16_3 - 1)), (by first | rfl | (simp; done) | (simp [*]; done)), H', ⟨by have := HJ4.out; have := HJ10.out; have := HK3.out; have := HK4.out; omega⟩, ⟨by (try simp only [hl15_3]); (try simp only [hl15_4]); (with_reducible repeat (first | apply Kd.S_alloc | apply Kd.S_drewN | apply Kd.S_drew)); first | exact HO_15.out | (subst_vars; exact HO_15.out)⟩, ⟨by repeat (first | (with_reducible first | exact HB.out | apply zBa | apply zBn | apply zBd) | exact HB.out)⟩⟩
         rw [if_pos c43] at H
         have c43b0 : decide (x81_4 < ((lk_rd2 y197 x16_3).length : Int)) = true := zE c43
         (try (have c43w_hl15_3 := c43b0; simp only [hl15_3] at c43w_hl15_3))
         (try (have c43w_hl15_4 := c43b0; simp only [hl15_4] at c43w_hl15_4))
         clear c43
         replace H := Option.bind_eq_some_iff.mp H
         obtain ⟨t199, A440, H⟩ := H
         replace H : (if 0 ≤ (wrap64 (x16_3 + 1)) then (if (wrap64 (x16_3 + 1)) < (x15_4.length : Int) then (if 0 ≤ (Go.bits .and .i64 (wrap64 (x81_4 * 2)) (wrap64 ((ji15) - 1))) then (if (Go.bits .and .i64 (wrap64 (x81_4 * 2)) (wrap64 ((ji15) - 1))) < ((lk_rd2 x15_4 (wrap64 (x16_3 + 1))).length : Int) then (if x16_3 < (wrap64 ((ji22) - a0)) then ((lkG a1 a2 l3 x16_3 (Go.bits .or .i64 (wrap64 (x81_4 * 2)) 1)).bind fun t202 => (if 0 ≤ (Go.bits .and .i64 (Go.bits .or .i64 (wrap64 (x81_4 * 2)) 1) (wrap64 ((ji15) - 1))) then (if (Go.bits .and .i64 (Go.bits .or .i64 (wrap64 (x81_4 * 2)) 1) (wrap64 ((ji15) - 1))) < ((lk_rd2 x15_4 (wrap64 (x16_3 + 1))).length : Int) then (if 0 ≤ x81_4 then (if x81_4 < ((lk_rd2 x15_4 x16_3).length : Int) then (if 0 ≤ x16_3 then (if x16_3 < (x15_4.length : Int) then (impl_Likeliest.l1 a1 a2 l3 k4 (wrap64 ((ji22) - a0)) (wrap64 ((ji15) - 1)) (x15_4.set (x16_3 : Int).toNat ((lk_rd2 x15_4 x16_3).set (x81_4 : Int).toNat (mx (wrap64 (t199 + (rd (lk_rd2 x15_4 (wrap64 (x16_3 + 1))) (Go.bits .and .i64 (wrap64 (x81_4 * 2)) (wrap64 ((ji15) - 1)))))) (wrap64 (t202 + (rd (lk_rd2 x15_4 (wrap64 (x16_3 + 1))) (Go.bits .and .i64 (Go.bits .or .i64 (wrap64 (x81_4 * 2)) 1) (wrap64 ((ji15) - 1))))))))) x16_3 ((lk_rd2 y197 x16_3).length : Int) (wrap64 (x81_4 + 1))) else (none)) else (none)) else (none)) else (none)) else (none)) else (none))) else (if 0 ≤ x81_4 then (if x81_4 < ((lk_rd2 x15_4 x16_3).length : Int) then (if 0 ≤ x16_3 then (if x16_3 < (x15_4.length : Int) then (impl_Likeliest.l1 a1 a2 l3 k4 (wrap64 ((ji22) - a0)) (wrap64 ((ji15) - 1)) (x15_4.set (x16_3 : Int).toNat ((lk_rd2 x15_4 x16_3).set (x81_4 : Int).toNat (wrap64 (t199 + (rd (lk_rd2 x15_4 (wrap64 (x16_3 + 1))) (Go.bits .and .i64 (wrap64 (x81_4 * 2)) (wrap64 ((ji15) - 1)))))))) x16_3 ((lk_rd2 y197 x16_3).length : Int) (wrap64 (x81_4 + 1))) else (none)) else (none)) else (none)) else (none))) else (none)) else (none)) else (none)) else (none)) = some (r1, r2, r3) := H
         have A44 := Aside0.mk A440
         clear A440
         obtain ⟨ji45, hji45⟩ : ∃ j_ : Int, (wrap64 (x16_3 + 1)) = j_ := ⟨_, rfl⟩
         replace H : (if 0 ≤ (ji45) then (if (ji45) < (x15_4.length : Int) then (if 0 ≤ (Go.bits .and .i64 (wrap64 (x81_4 * 2)) (wrap64 ((ji15) - 1))) then (if (Go.bits .and .i64 (wrap64 (x81_4 * 2)) (wrap64 ((ji15) - 1))) < ((lk_rd2 x15_4 (ji45)).length : Int) then (if x16_3 < (wrap64 ((ji22) - a0)) then ((lkG a1 a2 l3 x16_3 (Go.bits .or .i64 (wrap64 (x81_4 * 2)) 1)).bind fun t202 => (if 0 ≤ (Go.bits .and .i64 (Go.bits .or .i64 (wrap64 (x81_4 * 2)) 1) (wrap64 ((ji15) - 1))) then (if (Go.bits .and .i64 (Go.bits .or .i64 (wrap64 (x81_4 * 2)) 1) (wrap64 ((ji15) - 1))) < ((lk_rd2 x15_4 (ji45)).length : Int) then (if 0 ≤ x81_4 then (if x81_4 < ((lk_rd2 x15_4 x16_3).length : Int) then (if 0 ≤ x16_3 then (if x16_3 < (x15_4.length : Int) then (impl_Likeliest.l1 a1 a2 l3 k4 (wrap64 ((ji22) - a0)) (wrap64 ((ji15) - 1)) (x15_4.set (x16_3 : Int).toNat ((lk_rd2 x15_4 x16_3).set (x81_4 : Int).toNat (mx (wrap64 (t199 + (rd (lk_rd2 x15_4 (ji45)) (Go.bits .and .i64 (wrap64 (x81_4 * 2)) (wrap64 ((ji15) - 1)))))) (wrap64 (t202 + (rd (lk_rd2 x15_4 (ji45)) (Go.bits .and .i64 (Go.bits .or .i64 (wrap64 (x81_4 * 2)) 1) (wrap64 ((ji15) - 1))))))))) x16_3 ((lk_rd2 y197 x16_3).length : Int) (wrap64 (x81_4 + 1))) else (none)) else (none)) else (none)) else (none)) else (none)) else (none))) else (if 0 ≤ x81_4 then (if x81_4 < ((lk_rd2 x15_4 x16_3).length : Int) then (if 0 ≤ x16_3 then (if x16_3 < (x15_4.length : Int) then (impl_Likeliest.l1 a1 a2 l3 k4 (wrap64 ((ji22) - a0)) (wrap64 ((ji15) - 1)) (x15_4.set (x16_3 : Int).toNat ((lk_rd2 x15_4 x16_3).set (x81_4 : Int).toNat (wrap64 (t199 + (rd (lk_rd2 x15_4 (ji45)) (Go.bits .and .i64 (wrap64 (x81_4 * 2)) (wrap64 ((ji15) - 1)))))))) x16_3 ((lk_rd2 y197 x16_3).length : Int) (wrap64 (x81_4 + 1))) else (none)) else (none)) else (none)) else (none))) else (none)) else (none)) else (none)) else (none)) = some (r1, r2, r3) := by first | (rw [hji45] at H; exact H) | (simp only [hji45] at H ⊢; exact H)
         (try rw [hji45] at A44)
         have hji45w : (IntKind.i64.wrap (x16_3 + 1)) = ji45 := (i64_w _).trans hji45
         by_cases c46 : 0 ≤ (ji45)
         case neg =>
          rw [if_neg c46] at H
          exact absurd H (by simp)
         rw [if_pos c46] at H
         have c46b0 : decide (0 ≤ (ji45)) = true := zE c46
         (try (have c46w_hl15_3 := c46b0; simp only [hl15_3] at c46w_hl15_3))
         (try (have c46w_hl15_4 := c46b0; simp only [hl15_4] at c46w_hl15_4))
         clear c46
         by_cases c47 : (ji45) < (x15_4.length : Int)
         case neg =>
          rw [if_neg c47] at H
          exact absurd H (by simp)
         rw [if_pos c47] at H
         have c47b0 : decide ((ji45) < (x15_4.length : Int)) = true := zE c47
         (try (have c47w_hl15_3 := c47b0; simp only [hl15_3] at c47w_hl15_3))
         (try (have c47w_hl15_4 := c47b0; simp only [hl15_4] at c47w_hl15_4))
         clear c47
         obtain ⟨ji48, hji48⟩ : ∃ j_ : Int, (Go.bits .and .i64 (wrap64 (x81_4 * 2)) (wrap64 ((ji15) - 1))) = j_ := ⟨_, rfl⟩
         replace H : (if 0 ≤ (ji48) then (if (ji48) < ((lk_rd2 x15_4 (ji45)).length : Int) then (if x16_3 < (wrap64 ((ji22) - a0)) then ((lkG a1 a2 l3 x16_3 (Go.bits .or .i64 (wrap64 (x81_4 * 2)) 1)).bind fun t202 => (if 0 ≤ (Go.bits .and .i64 (Go.bits .or .i64 (wrap64 (x81_4 * 2)) 1) (wrap64 ((ji15) - 1))) then (if (Go.bits .and .i64 (Go.bits .or .i64 (wrap64 (x81_4 * 2)) 1) (wrap64 ((ji15) - 1))) < ((lk_rd2 x15_4 (ji45)).length : Int) then (if 0 ≤ x81_4 then (if x81_4 < ((lk_rd2 x15_4 x16_3).length : Int) then (if 0 ≤ x16_3 then (if x16_3 < (x15_4.length : Int) then (impl_Likeliest.l1 a1 a2 l3 k4 (wrap64 ((ji22) - a0)) (wrap64 ((ji15) - 1)) (x15_4.set (x16_3 : Int).toNat ((lk_rd2 x15_4 x16_3).set (x81_4 : Int).toNat (mx (wrap64 (t199 + (rd (lk_rd2 x15_4 (ji45)) (ji48)))) (wrap64 (t202 + (rd (lk_rd2 x15_4 (ji45)) (Go.bits .and .i64 (Go.bits .or .i64 (wrap64 (x81_4 * 2)) 1) (wrap64 ((ji15) - 1))))))))) x16_3 ((lk_rd2 y197 x16_3).length : Int) (wrap64 (x81_4 + 1))) else (none)) else (none)) else (none)) else (none)) else (none)) else (none))) else (if 0 ≤ x81_4 then (if x81_4 < ((lk_rd2 x15_4 x16_3).length : Int) then (if 0 ≤ x16_3 then (if x16_3 < (x15_4.length : Int) then (impl_Likeliest.l1 a1 a2 l3 k4 (wrap64 ((ji22) - a0)) (wrap64 ((ji15) - 1)) (x15_4.set (x16_3 : Int).toNat ((lk_rd2 x15_4 x16_3).set (x81_4 : Int).toNat (wrap64 (t199 + (rd (lk_rd2 x15_4 (ji45)) (ji48)))))) x16_3 ((lk_rd2 y197 x16_3).length : Int) (wrap64 (x81_4 + 1))) else (none)) else (none)) else (none)) else (none))) else (none)) else (none)) = some (r1, r2, r3) := by first | (rw [hji48] at H; exact H) | (simp only [hji48] at H ⊢; exact H)
         (try rw [hji48] at A44)
         by_cases c49 : 0 ≤ (ji48)
         case neg =>
          rw [if_neg c49] at H
          exact absurd H (by simp)
         rw [if_pos c49] at H
         have c49b0 : decide (0 ≤ (ji48)) = true := zE c49
         (try (have c49w_hl15_3 := c49b0; simp only [hl15_3] at c49w_hl15_3))
         (try (have c49w_hl15_4 := c49b0; simp only [hl15_4] at c49w_hl15_4))
         clear c49
         by_cases c50 : (ji48) < ((lk_rd2 x15_4 (ji45)).length : Int)
         case neg =>
          rw [if_neg c50] at H
          exact absurd H (by simp)
         rw [if_pos c50] at H
         have c50b0 : decide ((ji48) < ((lk_rd2 x15_4 (ji45)).length : Int)) = true := zE c50
         (try (have c50w_hl15_3 := c50b0; simp only [hl15_3] at c50w_hl15_3))
         (try (have c50w_hl15_4 := c50b0; simp only [hl15_4] at c50w_hl15_4))
         clear c50
         by_cases c51 : x16_3 < (wrap64 ((ji22) - a0))
         case neg =>
          rw [if_neg c51] at H
          have c51b0 : decide (x16_3 < (wrap64 ((ji22) - a0))) = false := decide_eq_false c51
          (try (have c51w_hl15_3 := c51b0; simp only [hl15_3] at c51w_hl15_3))
          (try (have c51w_hl15_4 := c51b0; simp only [hl15_4] at c51w_hl15_4))
          clear c51
          by_cases c72 : 0 ≤ x81_4
          case neg =>
           rw [if_neg c72] at H
           exact absurd H (by simp)
          rw [if_pos c72] at H
          have c72b0 := eq_true c72
          have c72b1 : decide (0 ≤ x81_4) = true := zE c72
          clear c72
          by_cases c73 : x81_4 < ((lk_rd2 x15_4 x16_3).length : Int)
          case neg =>
           rw [if_neg c73] at H
           exact absurd H (by simp)
          rw [if_pos c73] at H
          have c73b0 := eq_true c73
          have c73b1 : decide (x81_4 < ((lk_rd2 x15_4 x16_3).length : Int)) = true := zE c73
          clear c73
          obtain ⟨y209, hy209⟩ : ∃ y_ : List Int, y_ = ((lk_rd2 x15_4 x16_3).set (x81_4 : Int).toNat (wrap64 (t199 + (rd (lk_rd2 x15_4 (ji45)) (ji48))))) := ⟨_, rfl⟩
          replace H : (if 0 ≤ x16_3 then (if x16_3 < (x15_4.length : Int) then (impl_Likeliest.l1 a1 a2 l3 k4 (wrap64 ((ji22) - a0)) (wrap64 ((ji15) - 1)) (x15_4.set (x16_3 : Int).toNat y209) x16_3 ((lk_rd2 y197 x16_3).length : Int) (wrap64 (x81_4 + 1))) else (none)) else (none)) = some (r1, r2, r3) := by first | (rw [hy209]; with_reducible exact H) | (have H2_ := (Option.bind_some _ _).symm.trans H; rw [hy209]; with_reducible exact H2_) | (have H2_ := (Option.bind_some _ _).symm.trans H; with_reducible exact H2_) | with_reducible exact H | (rw [hy209]; exact H) | exact H
          have Ny209 := Aside0.mk hy209
          clear hy209
          by_cases c74 : 0 ≤ x16_3
          case neg =>
           rw [if_neg c74] at H
           exact absurd H (by simp)
          rw [if_pos c74] at H
          have c74b0 : decide (0 ≤ x16_3) = true := zE c74
          (try (have c74w_hl15_3 := c74b0; simp only [hl15_3] at c74w_hl15_3))
          (try (have c74w_hl15_4 := c74b0; simp only [hl15_4] at c74w_hl15_4))
          clear c74
          by_cases c75 : x16_3 < (x15_4.length : Int)
          case neg =>
           rw [if_neg c75] at H
           exact absurd H (by simp)
          rw [if_pos c75] at H
          have c75b0 : decide (x16_3 < (x15_4.length : Int)) = true := zE c75
          (try (have c75w_hl15_3 := c75b0; simp only [hl15_3] at c75w_hl15_3))
          (try (have c75w_hl15_4 := c75b0; simp only [hl15_4] at c75w_hl15_4))
          clear c75
          obtain ⟨y212, hy212⟩ : ∃ y_ : List (List Int), y_ = (x15_4.set (x16_3 : Int).toNat y209) := ⟨_, rfl⟩
          replace H : (impl_Likeliest.l1 a1 a2 l3 k4 (wrap64 ((ji22) - a0)) (wrap64 ((ji15) - 1)) y212 x16_3 ((lk_rd2 y197 x16_3).length : Int) (wrap64 (x81_4 + 1))) = some (r1, r2, r3) := by first | (rw [hy212]; with_reducible exact H) | (have H2_ := (Option.bind_some _ _).symm.trans H; rw [hy212]; with_reducible exact H2_) | (have H2_ := (Option.bind_some _ _).symm.trans H; with_reducible exact H2_) | with_reducible exact H | (rw [hy212]; exact H) | exact H
          have Ny212 := Aside0.mk hy212
          clear hy212
          have H' := Aside0.mk H
          clear H
          try go_wp2
          have n0_ := Aside0.mk (Kd.S_drew HO_15.out)
          have n1_ := Aside0.mk (zBd HB.out)
          clear HO_15
          clear HB
          have HO_15 := n0_
          have HB := n1_
          clear n0_ n1_
          have p200 : 0 ≤ ((ji45) : Int) := zT (by first | (with_reducible assumption) | assumption)
          have q200 : (ji45) < (x15_4.length : Int) := zT (by first | (with_reducible assumption) | assumption)
          obtain ⟨ad200, A200_0, c200_0, e200, hx200_0, hl200_0, hi200_0⟩ := lk_at2 (Kd.S_reads' HO_15.out).2.2 (ji45) p200 q200
          obtain rfl : (⟨go25, 0, none⟩ : Addr) = ad200 := (by injection e200)
          obtain ⟨ce200, hce200, hMe200, hcc200⟩ := Kd.S_get HO_15.out [] (ji45) p200 (by first | exact q200 | exact zT (by first | (with_reducible assumption) | assumption) | (have e_ := (Kd.S_reads' HO_15.out).1; omega))
          obtain ⟨ve200_0, rfl, ge200_0⟩ := hMe200
          have hv200_0 := hcc200 0 _ rfl
          rw [Nat.add_zero, show ((Kd.slice 3 (Kd.int .i64))).sz = 1 from rfl, Nat.mul_one] at hv200_0
          replace hv200_0 := Option.some.inj (hv200_0.symm.trans hx200_0)
          rw [hv200_0] at ge200_0
          have HL200_0 := Aside0.mk (show Kd.R (Kd.int .i64) 3 _ _ _ _ (lk_rd2 x15_4 (ji45)) from ge200_0)
          clear hv200_0 ge200_0
          clear hcc200 hce200
          (first | simp only [add_plain] at hx200_0 | simp only [add_at] at hx200_0 | simp only [Addr.add, Nat.zero_add] at hx200_0 | skip)
          have HR200_0 := Aside0.mk hi200_0
          have HC200_0 := Aside0.mk hl200_0
          clear hi200_0 hl200_0
          replace p200 := eq_true p200
          replace q200 := eq_true q200
          have p201 : 0 ≤ ((ji48) : Int) := zT (by first | (with_reducible assumption) | assumption)
          have q201 : (ji48) < ((lk_rd2 x15_4 (ji45)).length : Int) := zT (by first | (with_reducible assumption) | assumption)
          obtain ⟨ad201, e201, hx201_0⟩ := Kd.at_int (by repeat (first | (with_reducible exact HR200_0.out) | (with_reducible first | refine zCa ?_ _ | refine zCn ?_ _ | refine zCd ?_) | exact HR200_0.out)) (ji48) p201 q201
          cases e201
          replace p201 := eq_true p201
          replace q201 := eq_true q201
          refine start_ (n := 18) (S := fun w' => w'.cell? ⟨go25, ((ji45)).toNat, none⟩ = some (.slice (some ad201) (lk_rd2 x15_4 (ji45)).length c200_0) ∧ w'.cell? (ad201.add ((ji48)).toNat) = some (.int .i64 (rd (lk_rd2 x15_4 (ji45)) (ji48)))) (ds := []) #[false, false, false, false, false, false, false, false, false, false, false, false, false, false, false, false, false, false] (by kernel_rfl) rfl rfl ⟨hx200_0, hx201_0⟩ (fun hHeld => ?_); refine with_tabW impl_Likeliest.tab18 impl_Likeliest.bits18 (fun HT_ HW_ => ?_)
          generalize wr.drew = w77 at HO_15 HB HL200_0 HR200_0 hx200_0 hx201_0 hHeld ⊢
          refine pure_ (i := 0) (N := some 84) (v := ?_) (a' := ?_) #[true, false, false, false, false, false, false, false, false, false, false, false, false, false, false, false, false, false] rfl rfl (any_of HT_.out (by kernel_rfl)) (fun _ _ _ h => h) (Or.inl ⟨by rfl, ?_⟩) ?_ ?_
          rotate_left
          ·intro w'
           go_simp
           with_reducible rfl
          rotate_left
          ·simp only [Act.put, List.setIfInBounds_toArray, List.set_cons_zero, List.set_cons_succ, i64_w, i32_w]
           rfl
          refine pure_ (i := 1) (N := some 85) (v := ?_) (a' := ?_) #[true, true, false, false, false, false, false, false, false, false, false, false, false, false, false, false, false, false] rfl rfl (any_of HT_.out (by kernel_rfl)) (fun _ _ _ h => h) (Or.inl ⟨by rfl, ?_⟩) ?_ ?_
          rotate_left
          ·intro w'
           go_simp
           with_reducible rfl
          rotate_left
          ·simp only [Act.put, List.setIfInBounds_toArray, List.set_cons_zero, List.set_cons_succ, i64_w, i32_w]
           rfl
          refine pure_ (i := 2) (N := some 86) (v := ?_) (a' := ?_) #[true, true, true, false, false, false, false, false, false, false, false, false, false, false, false, false, false, false] rfl rfl (any_of HT_.out (by kernel_rfl)) (fun _ _ _ h => h) (Or.inl ⟨by rfl, ?_⟩) ?_ ?_
          rotate_left
          ·intro w'
           go_simp
           with_reducible rfl
          rotate_left
          ·simp only [Act.put, List.setIfInBounds_toArray, List.set_cons_zero, List.set_cons_succ, i64_w, i32_w]
           rfl
          refine pure_ (i := 3) (N := some 87) (v := ?_) (a' := ?_) #[true, true, true, true, false, false, false, false, false, false, false, false, false, false, false, false, false, false] rfl rfl (any_of HT_.out (by kernel_rfl)) (fun _ _ _ h => h) (Or.inl ⟨by rfl, ?_⟩) ?_ ?_
          rotate_left
          ·intro w'
           go_simp
           with_reducible rfl
          rotate_left
          ·simp only [Act.put, List.setIfInBounds_toArray, List.set_cons_zero, List.set_cons_succ, i64_w, i32_w]
           rfl
          refine pure_ (i := 5) (N := some 89) (v := ?_) (a' := ?_) #[true, true, true, true, false, true, false, false, false, false, false, false, false, false, false, false, false, false] rfl rfl (any_of HT_.out (by kernel_rfl)) (fun _ _ _ h => h) (Or.inl ⟨by rfl, ?_⟩) ?_ ?_
          rotate_left
          ·intro w'
           go_simp
           with_reducible rfl
          rotate_left
          ·simp only [Act.put, List.setIfInBounds_toArray, List.set_cons_zero, List.set_cons_succ, i64_w, i32_w]
           rfl
          refine pure_ (i := 6) (N := some 90) (v := ?_) (a' := ?_) #[true, true, true, true, false, true, true, false, false, false, false, false, false, false, false, false, false, false] rfl rfl (any_of HT_.out (by kernel_rfl)) (fun _ _ _ h => h) (Or.inl ⟨by rfl, ?_⟩) ?_ ?_
          rotate_left
          ·intro w'
           go_simp
           with_reducible rfl
          rotate_left
          ·simp only [Act.put, List.setIfInBounds_toArray, List.set_cons_zero, List.set_cons_succ, i64_w, i32_w]
           rfl
          refine pure_ (i := 7) (N := some 91) (v := ?_) (a' := ?_) #[true, true, true, true, false, true, true, true, false, false, false, false, false, false, false, false, false, false] rfl rfl (any_of HT_.out (by kernel_rfl)) (fun _ _ _ h => h) (Or.inl ⟨by rfl, ?_⟩) ?_ ?_
          rotate_left
          ·intro w'
           go_simp
           with_reducible rfl
          rotate_left
          ·simp only [Act.put, List.setIfInBounds_toArray, List.set_cons_zero, List.set_cons_succ, i64_w, i32_w]
           rfl
          refine pure_ (i := 8) (N := some 92) (v := ?_) (a' := ?_) #[true, true, true, true, false, true, true, true, true, false, false, false, false, false, false, false, false, false] rfl rfl (any_of HT_.out (by kernel_rfl)) (fun _ _ _ h => h) (Or.inl ⟨by rfl, ?_⟩) ?_ ?_
          rotate_left
          ·intro w'
           go_simp
           with_reducible rfl
          rotate_left
          ·simp only [Act.put, List.setIfInBounds_toArray, List.set_cons_zero, List.set_cons_succ, i64_w, i32_w]
           rfl
          refine pure_ (i := 10) (N := some 94) (v := ?_) (a' := ?_) #[true, true, true, true, false, true, true, true, true, false, true, false, false, false, false, false, false, false] rfl rfl (any_of HT_.out (by kernel_rfl)) (fun _ _ _ h => h) (Or.inl ⟨by rfl, ?_⟩) ?_ ?_
          rotate_left
          ·intro w'
           go_simp
           with_reducible rfl
          rotate_left
          ·simp only [Act.put, List.setIfInBounds_toArray, List.set_cons_zero, List.set_cons_succ, i64_w, i32_w]
           rfl
          refine pure_ (i := 11) (N := some 95) (v := ?_) (a' := ?_) #[true, true, true, true, false, true, true, true, true, false, true, true, false, false, false, false, false, false] rfl rfl (any_of HT_.out (by kernel_rfl)) (fun _ _ _ h => h) (Or.inl ⟨by rfl, ?_⟩) ?_ ?_
          rotate_left
          ·intro w'
           go_simp
           with_reducible rfl
          rotate_left
          ·simp only [Act.put, List.setIfInBounds_toArray, List.set_cons_zero, List.set_cons_succ, i64_w, i32_w]
           rfl
          refine pure_ (i := 12) (N := some 96) (v := ?_) (a' := ?_) #[true, true, true, true, false, true, true, true, true, false, true, true, true, false, false, false, false, false] rfl rfl (any_of HT_.out (by kernel_rfl)) (fun _ _ _ h => h) (Or.inl ⟨by rfl, ?_⟩) ?_ ?_
          rotate_left
          ·intro w'
           go_simp
           with_reducible rfl
          rotate_left
          ·simp only [Act.put, List.setIfInBounds_toArray, List.set_cons_zero, List.set_cons_succ, i64_w, i32_w]
           rfl
          refine pure_ (i := 13) (N := some 97) (v := ?_) (a' := ?_) #[true, true, true, true, false, true, true, true, true, false, true, true, true, true, false, false, false, false] rfl rfl (any_of HT_.out (by kernel_rfl)) (fun _ _ _ h => h) (Or.inl ⟨by rfl, ?_⟩) ?_ ?_
          rotate_left
          ·intro w'
           go_simp
           with_reducible rfl
          rotate_left
          ·simp only [Act.put, List.setIfInBounds_toArray, List.set_cons_zero, List.set_cons_succ, i64_w, i32_w]
           rfl
          refine take_ (i := 9) (N := some 93) (v := ?_) (a' := ?_) #[true, true, true, true, false, true, true, true, true, true, true, true, true, true, false, false, false, false] rfl rfl (take_ofW HT_.out HW_.out (by kernel_rfl)) (fun _ _ _ h => h) (Or.inl ⟨by rfl, ?_⟩) hHeld ?_ ?_
          rotate_left
          ·rintro w' ⟨s0, s1⟩
           go_simp
           with_reducible rfl
          rotate_left
          ·simp only [Act.put, List.setIfInBounds_toArray, List.set_cons_zero, List.set_cons_succ, i64_w, i32_w]
           rfl
          refine pure_ (i := 14) (N := some 98) (v := ?_) (a' := ?_) #[true, true, true, true, false, true, true, true, true, true, true, true, true, true, true, false, false, false] rfl rfl (any_of HT_.out (by kernel_rfl)) (fun _ _ _ h => h) (Or.inl ⟨by rfl, ?_⟩) ?_ ?_
          rotate_left
          ·intro w'
           go_simp
           with_reducible rfl
          rotate_left
          ·simp only [Act.put, List.setIfInBounds_toArray, List.set_cons_zero, List.set_cons_succ, i64_w, i32_w]
           rfl
          refine take_ (i := 15) (N := some 99) (v := ?_) (a' := ?_) #[true, true, true, true, false, true, true, true, true, true, true, true, true, true, true, true, false, false] rfl rfl (take_ofW HT_.out HW_.out (by kernel_rfl)) (fun _ _ _ h => h) (Or.inl ⟨by rfl, ?_⟩) hHeld ?_ ?_
          rotate_left
          ·rintro w' ⟨s0, s1⟩
           go_simp
           with_reducible rfl
          rotate_left
          ·simp only [Act.put, List.setIfInBounds_toArray, List.set_cons_zero, List.set_cons_succ, i64_w, i32_w]
           rfl
          refine one_ (i := 4) (N := some 88) #[true, true, true, true, true, true, true, true, true, true, true, true, true, true, true, true, false, false] rfl rfl (one_of HT_.out (by kernel_rfl)) (by decide) (fun K hK => ?_)
          refine call_ 27 #[.int .i64 x16_3, .int .i64 (wrap64 (x81_4 * 2)), .pointer (some ⟨ga, 0, none⟩), .pointer (some ⟨gb, 0, none⟩), .pointer (some ⟨gs, 0, none⟩)] (by rfl) rfl (by go_simp) ?_
          with_reducible refine (lkG_calls a1 a2 A3 c3 l3 ga gb gs x16_3 (wrap64 (x81_4 * 2)) _ (lk_bx HB.out CA.out) (lk_bx HB.out CB.out) (lk_bx HB.out CS.out) (Kd.C_below HR3.out HB.out) t199 A44.out).mono ?_
          rintro e w78 ⟨rfl, hb⟩
          have HS0_ := (hb.cell (zW _ _ (hHeld.1))).trans (hHeld.1)
          have HS1_ := (hb.cell (zW _ _ (hHeld.2))).trans (hHeld.2)
          refine ⟨_, rfl, ?_⟩
          have n0_ := Aside0.mk (Kd.S_below (by (with_reducible repeat (first | apply Kd.S_alloc | apply Kd.S_drewN | apply Kd.S_drew)); first | exact HO_15.out | (subst_vars; exact HO_15.out)) hb)
          have n1_ := Aside0.mk (Kd.R_below (by (with_reducible repeat (first | apply zRa | apply zRn | apply zRd)); first | exact HL200_0.out | (subst_vars; exact HL200_0.out)) hb)
          have n2_ := Aside0.mk (Kd.C_below (by repeat (first | (with_reducible exact HR200_0.out) | (with_reducible first | refine zCa ?_ _ | refine zCn ?_ _ | refine zCd ?_) | exact HR200_0.out)) hb)
          have n3_ := Aside0.mk (below_step (by repeat (first | (with_reducible first | exact HB.out | apply zBa | apply zBn | apply zBd) | exact HB.out)) hb)
          clear HO_15
          clear HL200_0
          clear HR200_0
          clear HB
          have HO_15 := n0_
          have HL200_0 := n1_
          have HR200_0 := n2_
          have HB := n3_
          clear n0_ n1_ n2_ n3_
          (try clear hb)
          (try clear hb2)
          (try clear hk)
          (try clear hi)
          refine hK.out _ _ ⟨HS0_, HS1_⟩ (fun hHeld => ?_)
          clear hK K
          refine norm_ (a' := ?_) ?_ ?_
          rotate_left
          ·show Act.put _ (some 88) _ = _
           simp only [Act.put, List.setIfInBounds_toArray, List.set_cons_zero, List.set_cons_succ, i64_w, i32_w]
           rfl
          refine pure_ (i := 16) (N := some 100) (v := ?_) (a' := ?_) #[true, true, true, true, true, true, true, true, true, true, true, true, true, true, true, true, true, false] rfl rfl (any_of HT_.out (by kernel_rfl)) (fun _ _ _ h => h) (Or.inl ⟨by rfl, ?_⟩) ?_ ?_
          rotate_left
          ·intro w'
           go_simp
           with_reducible rfl
          rotate_left
          ·simp only [Act.put, List.setIfInBounds_toArray, List.set_cons_zero, List.set_cons_succ, i64_w, i32_w]
           rfl
          refine pure_ (i := 17) (N := some 18) (v := ?_) (a' := ?_) #[true, true, true, true, true, true, true, true, true, true, true, true, true, true, true, true, true, true] rfl rfl (any_of HT_.out (by kernel_rfl)) (fun _ _ _ h => h) (Or.inl ⟨by rfl, ?_⟩) ?_ ?_
          rotate_left
          ·intro w'
           go_simp
           with_reducible rfl
          rotate_left
          ·simp only [Act.put, List.setIfInBounds_toArray, List.set_cons_zero, List.set_cons_succ, i64_w, i32_w]
           rfl
          refine done_ (done_of HT_.out (by kernel_rfl)) ?_
          have HZ := lk_put HO_15.out x16_3 x81_4 (zT (by first | (with_reducible assumption) | assumption)) (zT (by first | (with_reducible assumption) | assumption)) (of_eq_true c72b0) (of_eq_true c73b0) (wrap64 (t199 + (rd (lk_rd2 x15_4 (ji45)) (ji48))))
          have pz_ := eq_true (show 0 ≤ x16_3 from zT (by first | (with_reducible assumption) | assumption))
          have qz_ := eq_true (show x16_3 < (x15_4.length : Int) from zT (by first | (with_reducible assumption) | assumption))
          obtain ⟨gi, ci, hz1, hz2, hz3, hz4, hz5, hz6, hz7⟩ := HZ
          have HZ6 := Aside0.mk hz6
          have HZ7 := Aside0.mk hz7
          have HZ4 := Aside0.mk hz4
          clear hz4 hz5 hz6 hz7
          try go_wp2_with (first | ((with_reducible refine gate_store (t := 3) (p := 131) rfl ?_); refine store_event (t := 3) (p := 131) (v := ?vo_z) (w1 := (w78.setCell ⟨gi, (x81_4 : Int).toNat, none⟩ (.int .i64 (wrap64 (t199 + (rd (lk_rd2 x15_4 (ji45)) (ji48))))))) ?hg ?ho ?hn ?hr ?_; (case ho => rfl); (case hg => rfl); (case hn => rfl); (case hr => first | (go_simp; done) | (go_simp; rfl)); intro wz_ hw; have hp_ : Kd.S (Kd.slice 3 (Kd.int .i64)) 24 wz_ ws.heap.size (fun _ => True) (.slice (some ⟨go25, 0, none⟩) x15_4.length co25) y212 := (by rw [hw, Ny212.out, Ny209.out]; exact HZ6.out); have n0_ := Aside0.mk (hp_); have n1_ := Aside0.mk ((by rw [hw]; exact zBs (HB.out) HZ4.out : Below ws.heap.size ws wz_)); clear HO_15; clear HB; have HO_15 := n0_; have HB := n1_; clear n0_ n1_; clear hw hp_ hz1 hz2 hz3))
          (try simp only [← hl15_4])
          go_roundg k4
          case measure => have := HJ4.out; have := HJ10.out; have := HK3.out; have := HK4.out; omega
          case rel => exact ⟨(y212), (wrap64 (x81_4 + 1)), (by first | rfl | (simp; done) | (simp [*]; done)), H', ⟨by have := HJ4.out; have := HJ10.out; have := HK3.out; have := HK4.out; omega⟩, ⟨by (try simp only [hl15_3]); (try simp only [hl15_4]); (with_reducible repeat (first | apply Kd.S_alloc | apply Kd.S_drewN | apply Kd.S_drew)); first | exact HO_15.out | (subst_vars; exact HO_15.out)⟩, ⟨by repeat (first | (with_reducible first | exact HB.out | apply zBa | apply zBn | apply zBd) | exact HB.out)⟩⟩
         rw [if_pos c51] at H
         have c51b0 : decide (x16_3 < (wrap64 ((ji22) - a0))) = true := zE c51
         (try (have c51w_hl15_3 := c51b0; simp only [hl15_3] at c51w_hl15_3))
         (try (have c51w_hl15_4 := c51b0; simp only [hl15_4] at c51w_hl15_4))
         clear c51
         replace H := Option.bind_eq_some_iff.mp H
         obtain ⟨t202, A520, H⟩ := H
         replace H : (if 0 ≤ (Go.bits .and .i64 (Go.bits .or .i64 (wrap64 (x81_4 * 2)) 1) (wrap64 ((ji15) - 1))) then (if (Go.bits .and .i64 (Go.bits .or .i64 (wrap64 (x81_4 * 2)) 1) (wrap64 ((ji15) - 1))) < ((lk_rd2 x15_4 (ji45)).length : Int) then (if 0 ≤ x81_4 then (if x81_4 < ((lk_rd2 x15_4 x16_3).length : Int) then (if 0 ≤ x16_3 then (if x16_3 < (x15_4.length : Int) then (impl_Likeliest.l1 a1 a2 l3 k4 (wrap64 ((ji22) - a0)) (wrap64 ((ji15) - 1)) (x15_4.set (x16_3 : Int).toNat ((lk_rd2 x15_4 x16_3).set (x81_4 : Int).toNat (mx (wrap64 (t199 + (rd (lk_rd2 x15_4 (ji45)) (ji48)))) (wrap64 (t202 + (rd (lk_rd2 x15_4 (ji45)) (Go.bits .and .i64 (Go.bits .or .i64 (wrap64 (x81_4 * 2)) 1) (wrap64 ((ji15) - 1))))))))) x16_3 ((lk_rd2 y197 x16_3).length : Int) (wrap64 (x81_4 + 1))) else (none)) else (none)) else (none)) else (none)) else (none)) else (none)) = some (r1, r2, r3) := H
         have A52 := Aside0.mk A520
         clear A520
         obtain ⟨ji53, hji53⟩ : ∃ j_ : Int, (Go.bits .and .i64 (Go.bits .or .i64 (wrap64 (x81_4 * 2)) 1) (wrap64 ((ji15) - 1))) = j_ := ⟨_, rfl⟩
         replace H : (if 0 ≤ (ji53) then (if (ji53) < ((lk_rd2 x15_4 (ji45)).length : Int) then (if 0 ≤ x81_4 then (if x81_4 < ((lk_rd2 x15_4 x16_3).length : Int) then (if 0 ≤ x16_3 then (if x16_3 < (x15_4.length : Int) then (impl_Likeliest.l1 a1 a2 l3 k4 (wrap64 ((ji22) - a0)) (wrap64 ((ji15) - 1)) (x15_4.set (x16_3 : Int).toNat ((lk_rd2 x15_4 x16_3).set (x81_4 : Int).toNat (mx (wrap64 (t199 + (rd (lk_rd2 x15_4 (ji45)) (ji48)))) (wrap64 (t202 + (rd (lk_rd2 x15_4 (ji45)) (ji53))))))) x16_3 ((lk_rd2 y197 x16_3).length : Int) (wrap64 (x81_4 + 1))) else (none)) else (none)) else (none)) else (none)) else (none)) else (none)) = some (r1, r2, r3) := by first | (rw [hji53] at H; exact H) | (simp only [hji53] at H ⊢; exact H)
         (try rw [hji53] at A44)
         (try rw [hji53] at A52)
         by_cases c54 : 0 ≤ (ji53)
         case neg =>
          rw [if_neg c54] at H
          exact absurd H (by simp)
         rw [if_pos c54] at H
         have c54b0 : decide (0 ≤ (ji53)) = true := zE c54
         (try (have c54w_hl15_3 := c54b0; simp only [hl15_3] at c54w_hl15_3))
         (try (have c54w_hl15_4 := c54b0; simp only [hl15_4] at c54w_hl15_4))
         clear c54
         by_cases c55 : (ji53) < ((lk_rd2 x15_4 (ji45)).length : Int)
         case neg =>
          rw [if_neg c55] at H
          exact absurd H (by simp)
         rw [if_pos c55] at H
         have c55b0 : decide ((ji53) < ((lk_rd2 x15_4 (ji45)).length : Int)) = true := zE c55
         (try (have c55w_hl15_3 := c55b0; simp only [hl15_3] at c55w_hl15_3))
         (try (have c55w_hl15_4 := c55b0; simp only [hl15_4] at c55w_hl15_4))
         clear c55
         obtain ⟨ji56, hji56⟩ : ∃ j_ : Int, (mx (wrap64 (t199 + (rd (lk_rd2 x15_4 (ji45)) (ji48)))) (wrap64 (t202 + (rd (lk_rd2 x15_4 (ji45)) (ji53))))) = j_ := ⟨_, rfl⟩
         replace H : (if 0 ≤ x81_4 then (if x81_4 < ((lk_rd2 x15_4 x16_3).length : Int) then (if 0 ≤ x16_3 then (if x16_3 < (x15_4.length : Int) then (impl_Likeliest.l1 a1 a2 l3 k4 (wrap64 ((ji22) - a0)) (wrap64 ((ji15) - 1)) (x15_4.set (x16_3 : Int).toNat ((lk_rd2 x15_4 x16_3).set (x81_4 : Int).toNat (ji56))) x16_3 ((lk_rd2 y197 x16_3).length : Int) (wrap64 (x81_4 + 1))) else (none)) else (none)) else (none)) else (none)) = some (r1, r2, r3) := by first | (rw [hji56] at H; exact H) | (simp only [hji56] at H ⊢; exact H)
         (try rw [hji56] at A44)
         (try rw [hji56] at A52)
         have hji56_ : (if (wrap64 (t199 + (rd (lk_rd2 x15_4 (ji45)) (ji48)))) < (wrap64 (t202 + (rd (lk_rd2 x15_4 (ji45)) (ji53)))) then (wrap64 (t202 + (rd (lk_rd2 x15_4 (ji45)) (ji53)))) else (wrap64 (t199 + (rd (lk_rd2 x15_4 (ji45)) (ji48))))) = ji56 := hji56
         by_cases c58 : 0 ≤ x81_4
         case neg =>
          rw [if_neg c58] at H
          exact absurd H (by simp)
         rw [if_pos c58] at H
         have c58b0 := eq_true c58
         have c58b1 : decide (0 ≤ x81_4) = true := zE c58
         clear c58
         by_cases c59 : x81_4 < ((lk_rd2 x15_4 x16_3).length : Int)
         case neg =>
          rw [if_neg c59] at H
          exact absurd H (by simp)
         rw [if_pos c59] at H
         have c59b0 := eq_true c59
         have c59b1 : decide (x81_4 < ((lk_rd2 x15_4 x16_3).length : Int)) = true := zE c59
         clear c59
         obtain ⟨y205, hy205⟩ : ∃ y_ : List Int, y_ = ((lk_rd2 x15_4 x16_3).set (x81_4 : Int).toNat (ji56)) := ⟨_, rfl⟩
         replace H : (if 0 ≤ x16_3 then (if x16_3 < (x15_4.length : Int) then (impl_Likeliest.l1 a1 a2 l3 k4 (wrap64 ((ji22) - a0)) (wrap64 ((ji15) - 1)) (x15_4.set (x16_3 : Int).toNat y205) x16_3 ((lk_rd2 y197 x16_3).length : Int) (wrap64 (x81_4 + 1))) else (none)) else (none)) = some (r1, r2, r3) := by first | (rw [hy205]; with_reducible exact H) | (have H2_ := (Option.bind_some _ _).symm.trans H; rw [hy205]; with_reducible exact H2_) | (have H2_ := (Option.bind_some _ _).symm.trans H; with_reducible exact H2_) | with_reducible exact H | (rw [hy205]; exact H) | exact H
         have Ny205 := Aside0.mk hy205
         clear hy205
         by_cases c60 : 0 ≤ x16_3
         case neg =>
          rw [if_neg c60] at H
          exact absurd H (by simp)
         rw [if_pos c60] at H
         have c60b0 : decide (0 ≤ x16_3) = true := zE c60
         (try (have c60w_hl15_3 := c60b0; simp only [hl15_3] at c60w_hl15_3))
         (try (have c60w_hl15_4 := c60b0; simp only [hl15_4] at c60w_hl15_4))
         clear c60
         by_cases c61 : x16_3 < (x15_4.length : Int)
         case neg =>
          rw [if_neg c61] at H
          exact absurd H (by simp)
         rw [if_pos c61] at H
         have c61b0 : decide (x16_3 < (x15_4.length : Int)) = true := zE c61
         (try (have c61w_hl15_3 := c61b0; simp only [hl15_3] at c61w_hl15_3))
         (try (have c61w_hl15_4 := c61b0; simp only [hl15_4] at c61w_hl15_4))
         clear c61
         obtain ⟨y208, hy208⟩ : ∃ y_ : List (List Int), y_ = (x15_4.set (x16_3 : Int).toNat y205) := ⟨_, rfl⟩
         replace H : (impl_Likeliest.l1 a1 a2 l3 k4 (wrap64 ((ji22) - a0)) (wrap64 ((ji15) - 1)) y208 x16_3 ((lk_rd2 y197 x16_3).length : Int) (wrap64 (x81_4 + 1))) = some (r1, r2, r3) := by first | (rw [hy208]; with_reducible exact H) | (have H2_ := (Option.bind_some _ _).symm.trans H; rw [hy208]; with_reducible exact H2_) | (have H2_ := (Option.bind_some _ _).symm.trans H; with_reducible exact H2_) | with_reducible exact H | (rw [hy208]; exact H) | exact H
         have Ny208 := Aside0.mk hy208
         clear hy208
         have H' := Aside0.mk H
         clear H
         try go_wp2
         have n0_ := Aside0.mk (Kd.S_drew HO_15.out)
         have n1_ := Aside0.mk (zBd HB.out)
         clear HO_15
         clear HB
         have HO_15 := n0_
         have HB := n1_
         clear n0_ n1_
         have p200 : 0 ≤ ((ji45) : Int) := zT (by first | (with_reducible assumption) | assumption)
         have q200 : (ji45) < (x15_4.length : Int) := zT (by first | (with_reducible assumption) | assumption)
         obtain ⟨ad200, A200_0, c200_0, e200, hx200_0, hl200_0, hi200_0⟩ := lk_at2 (Kd.S_reads' HO_15.out).2.2 (ji45) p200 q200
         obtain rfl : (⟨go25, 0, none⟩ : Addr) = ad200 := (by injection e200)
         obtain ⟨ce200, hce200, hMe200, hcc200⟩ := Kd.S_get HO_15.out [] (ji45) p200 (by first | exact q200 | exact zT (by first | (with_reducible assumption) | assumption) | (have e_ := (Kd.S_reads' HO_15.out).1; omega))
         obtain ⟨ve200_0, rfl, ge200_0⟩ := hMe200
         have hv200_0 := hcc200 0 _ rfl
         rw [Nat.add_zero, show ((Kd.slice 3 (Kd.int .i64))).sz = 1 from rfl, Nat.mul_one] at hv200_0
         replace hv200_0 := Option.some.inj (hv200_0.symm.trans hx200_0)
         rw [hv200_0] at ge200_0
         have HL200_0 := Aside0.mk (show Kd.R (Kd.int .i64) 3 _ _ _ _ (lk_rd2 x15_4 (ji45)) from ge200_0)
         clear hv200_0 ge200_0
         clear hcc200 hce200
         (first | simp only [add_plain] at hx200_0 | simp only [add_at] at hx200_0 | simp only [Addr.add, Nat.zero_add] at hx200_0 | skip)
         have HR200_0 := Aside0.mk hi200_0
         have HC200_0 := Aside0.mk hl200_0
         clear hi200_0 hl200_0
         replace p200 := eq_true p200
         replace q200 := eq_true q200
         have p201 : 0 ≤ ((ji48) : Int) := zT (by first | (with_reducible assumption) | assumption)
         have q201 : (ji48) < ((lk_rd2 x15_4 (ji45)).length : Int) := zT (by first | (with_reducible assumption) | assumption)
         obtain ⟨ad201, e201, hx201_0⟩ := Kd.at_int (by repeat (first | (with_reducible exact HR200_0.out) | (with_reducible first | refine zCa ?_ _ | refine zCn ?_ _ | refine zCd ?_) | exact HR200_0.out)) (ji48) p201 q201
         cases e201
         replace p201 := eq_true p201
         replace q201 := eq_true q201
         refine start_ (n := 18) (S := fun w' => w'.cell? ⟨go25, ((ji45)).toNat, none⟩ = some (.slice (some ad201) (lk_rd2 x15_4 (ji45)).length c200_0) ∧ w'.cell? (ad201.add ((ji48)).toNat) = some (.int .i64 (rd (lk_rd2 x15_4 (ji45)) (ji48)))) (ds := []) #[false, false, false, false, false, false, false, false, false, false, false, false, false, false, false, false, false, false] (by kernel_rfl) rfl rfl ⟨hx200_0, hx201_0⟩ (fun hHeld => ?_); refine with_tabW impl_Likeliest.tab18 impl_Likeliest.bits18 (fun HT_ HW_ => ?_)
         generalize wr.drew = w63 at HO_15 HB HL200_0 HR200_0 hx200_0 hx201_0 hHeld ⊢
         refine pure_ (i := 0) (N := some 84) (v := ?_) (a' := ?_) #[true, false, false, false, false, false, false, false, false, false, false, false, false, false, false, false, false, false] rfl rfl (any_of HT_.out (by kernel_rfl)) (fun _ _ _ h => h) (Or.inl ⟨by rfl, ?_⟩) ?_ ?_
         rotate_left
         ·intro w'
          go_simp
          with_reducible rfl
         rotate_left
         ·simp only [Act.put, List.setIfInBounds_toArray, List.set_cons_zero, List.set_cons_succ, i64_w, i32_w]
          rfl
         refine pure_ (i := 1) (N := some 85) (v := ?_) (a' := ?_) #[true, true, false, false, false, false, false, false, false, false, false, false, false, false, false, false, false, false] rfl rfl (any_of HT_.out (by kernel_rfl)) (fun _ _ _ h => h) (Or.inl ⟨by rfl, ?_⟩) ?_ ?_
         rotate_left
         ·intro w'
          go_simp
          with_reducible rfl
         rotate_left
         ·simp only [Act.put, List.setIfInBounds_toArray, List.set_cons_zero, List.set_cons_succ, i64_w, i32_w]
          rfl
         refine pure_ (i := 2) (N := some 86) (v := ?_) (a' := ?_) #[true, true, true, false, false, false, false, false, false, false, false, false, false, false, false, false, false, false] rfl rfl (any_of HT_.out (by kernel_rfl)) (fun _ _ _ h => h) (Or.inl ⟨by rfl, ?_⟩) ?_ ?_
         rotate_left
         ·intro w'
          go_simp
          with_reducible rfl
         rotate_left
         ·simp only [Act.put, List.setIfInBounds_toArray, List.set_cons_zero, List.set_cons_succ, i64_w, i32_w]
          rfl
         refine pure_ (i := 3) (N := some 87) (v := ?_) (a' := ?_) #[true, true, true, true, false, false, false, false, false, false, false, false, false, false, false, false, false, false] rfl rfl (any_of HT_.out (by kernel_rfl)) (fun _ _ _ h => h) (Or.inl ⟨by rfl, ?_⟩) ?_ ?_
         rotate_left
         ·intro w'
          go_simp
          with_reducible rfl
         rotate_left
         ·simp only [Act.put, List.setIfInBounds_toArray, List.set_cons_zero, List.set_cons_succ, i64_w, i32_w]
          rfl
         refine pure_ (i := 5) (N := some 89) (v := ?_) (a' := ?_) #[true, true, true, true, false, true, false, false, false, false, false, false, false, false, false, false, false, false] rfl rfl (any_of HT_.out (by kernel_rfl)) (fun _ _ _ h => h) (Or.inl ⟨by rfl, ?_⟩) ?_ ?_
         rotate_left
         ·intro w'
          go_simp
          with_reducible rfl
         rotate_left
         ·simp only [Act.put, List.setIfInBounds_toArray, List.set_cons_zero, List.set_cons_succ, i64_w, i32_w]
          rfl
         refine pure_ (i := 6) (N := some 90) (v := ?_) (a' := ?_) #[true, true, true, true, false, true, true, false, false, false, false, false, false, false, false, false, false, false] rfl rfl (any_of HT_.out (by kernel_rfl)) (fun _ _ _ h => h) (Or.inl ⟨by rfl, ?_⟩) ?_ ?_
         rotate_left
         ·intro w'
          go_simp
          with_reducible rfl
         rotate_left
         ·simp only [Act.put, List.setIfInBounds_toArray, List.set_cons_zero, List.set_cons_succ, i64_w, i32_w]
          rfl
         refine pure_ (i := 7) (N := some 91) (v := ?_) (a' := ?_) #[true, true, true, true, false, true, true, true, false, false, false, false, false, false, false, false, false, false] rfl rfl (any_of HT_.out (by kernel_rfl)) (fun _ _ _ h => h) (Or.inl ⟨by rfl, ?_⟩) ?_ ?_
         rotate_left
         ·intro w'
          go_simp
          with_reducible rfl
         rotate_left
         ·simp only [Act.put, List.setIfInBounds_toArray, List.set_cons_zero, List.set_cons_succ, i64_w, i32_w]
          rfl
         refine pure_ (i := 8) (N := some 92) (v := ?_) (a' := ?_) #[true, true, true, true, false, true, true, true, true, false, false, false, false, false, false, false, false, false] rfl rfl (any_of HT_.out (by kernel_rfl)) (fun _ _ _ h => h) (Or.inl ⟨by rfl, ?_⟩) ?_ ?_
         rotate_left
         ·intro w'
          go_simp
          with_reducible rfl
         rotate_left
         ·simp only [Act.put, List.setIfInBounds_toArray, List.set_cons_zero, List.set_cons_succ, i64_w, i32_w]
          rfl
         refine pure_ (i := 10) (N := some 94) (v := ?_) (a' := ?_) #[true, true, true, true, false, true, true, true, true, false, true, false, false, false, false, false, false, false] rfl rfl (any_of HT_.out (by kernel_rfl)) (fun _ _ _ h => h) (Or.inl ⟨by rfl, ?_⟩) ?_ ?_
         rotate_left
         ·intro w'
          go_simp
          with_reducible rfl
         rotate_left
         ·simp only [Act.put, List.setIfInBounds_toArray, List.set_cons_zero, List.set_cons_succ, i64_w, i32_w]
          rfl
         refine pure_ (i := 11) (N := some 95) (v := ?_) (a' := ?_) #[true, true, true, true, false, true, true, true, true, false, true, true, false, false, false, false, false, false] rfl rfl (any_of HT_.out (by kernel_rfl)) (fun _ _ _ h => h) (Or.inl ⟨by rfl, ?_⟩) ?_ ?_
         rotate_left
         ·intro w'
          go_simp
          with_reducible rfl
         rotate_left
         ·simp only [Act.put, List.setIfInBounds_toArray, List.set_cons_zero, List.set_cons_succ, i64_w, i32_w]
          rfl
         refine pure_ (i := 12) (N := some 96) (v := ?_) (a' := ?_) #[true, true, true, true, false, true, true, true, true, false, true, true, true, false, false, false, false, false] rfl rfl (any_of HT_.out (by kernel_rfl)) (fun _ _ _ h => h) (Or.inl ⟨by rfl, ?_⟩) ?_ ?_
         rotate_left
         ·intro w'
          go_simp
          with_reducible rfl
         rotate_left
         ·simp only [Act.put, List.setIfInBounds_toArray, List.set_cons_zero, List.set_cons_succ, i64_w, i32_w]
          rfl
         refine pure_ (i := 13) (N := some 97) (v := ?_) (a' := ?_) #[true, true, true, true, false, true, true, true, true, false, true, true, true, true, false, false, false, false] rfl rfl (any_of HT_.out (by kernel_rfl)) (fun _ _ _ h => h) (Or.inl ⟨by rfl, ?_⟩) ?_ ?_
         rotate_left
         ·intro w'
          go_simp
          with_reducible rfl
         rotate_left
         ·simp only [Act.put, List.setIfInBounds_toArray, List.set_cons_zero, List.set_cons_succ, i64_w, i32_w]
          rfl
         refine take_ (i := 9) (N := some 93) (v := ?_) (a' := ?_) #[true, true, true, true, false, true, true, true, true, true, true, true, true, true, false, false, false, false] rfl rfl (take_ofW HT_.out HW_.out (by kernel_rfl)) (fun _ _ _ h => h) (Or.inl ⟨by rfl, ?_⟩) hHeld ?_ ?_
         rotate_left
         ·rintro w' ⟨s0, s1⟩
          go_simp
          with_reducible rfl
         rotate_left
         ·simp only [Act.put, List.setIfInBounds_toArray, List.set_cons_zero, List.set_cons_succ, i64_w, i32_w]
          rfl
         refine pure_ (i := 14) (N := some 98) (v := ?_) (a' := ?_) #[true, true, true, true, false, true, true, true, true, true, true, true, true, true, true, false, false, false] rfl rfl (any_of HT_.out (by kernel_rfl)) (fun _ _ _ h => h) (Or.inl ⟨by rfl, ?_⟩) ?_ ?_
         rotate_left
         ·intro w'
          go_simp
          with_reducible rfl
         rotate_left
         ·simp only [Act.put, List.setIfInBounds_toArray, List.set_cons_zero, List.set_cons_succ, i64_w, i32_w]
          rfl
         refine take_ (i := 15) (N := some 99) (v := ?_) (a' := ?_) #[true, true, true, true, false, true, true, true, true, true, true, true, true, true, true, true, false, false] rfl rfl (take_ofW HT_.out HW_.out (by kernel_rfl)) (fun _ _ _ h => h) (Or.inl ⟨by rfl, ?_⟩) hHeld ?_ ?_
         rotate_left
         ·rintro w' ⟨s0, s1⟩
          go_simp
          with_reducible rfl
         rotate_left
         ·simp only [Act.put, List.setIfInBounds_toArray, List.set_cons_zero, List.set_cons_succ, i64_w, i32_w]
          rfl
         refine one_ (i := 4) (N := some 88) #[true, true, true, true, true, true, true, true, true, true, true, true, true, true, true, true, false, false] rfl rfl (one_of HT_.out (by kernel_rfl)) (by decide) (fun K hK => ?_)
         refine call_ 27 #[.int .i64 x16_3, .int .i64 (wrap64 (x81_4 * 2)), .pointer (some ⟨ga, 0, none⟩), .pointer (some ⟨gb, 0, none⟩), .pointer (some ⟨gs, 0, none⟩)] (by rfl) rfl (by go_simp) ?_
         with_reducible refine (lkG_calls a1 a2 A3 c3 l3 ga gb gs x16_3 (wrap64 (x81_4 * 2)) _ (lk_bx HB.out CA.out) (lk_bx HB.out CB.out) (lk_bx HB.out CS.out) (Kd.C_below HR3.out HB.out) t199 A44.out).mono ?_
         rintro e w64 ⟨rfl, hb⟩
         have HS0_ := (hb.cell (zW _ _ (hHeld.1))).trans (hHeld.1)
         have HS1_ := (hb.cell (zW _ _ (hHeld.2))).trans (hHeld.2)
         refine ⟨_, rfl, ?_⟩
         have n0_ := Aside0.mk (Kd.S_below (by (with_reducible repeat (first | apply Kd.S_alloc | apply Kd.S_drewN | apply Kd.S_drew)); first | exact HO_15.out | (subst_vars; exact HO_15.out)) hb)
         have n1_ := Aside0.mk (Kd.R_below (by (with_reducible repeat (first | apply zRa | apply zRn | apply zRd)); first | exact HL200_0.out | (subst_vars; exact HL200_0.out)) hb)
         have n2_ := Aside0.mk (Kd.C_below (by repeat (first | (with_reducible exact HR200_0.out) | (with_reducible first | refine zCa ?_ _ | refine zCn ?_ _ | refine zCd ?_) | exact HR200_0.out)) hb)
         have n3_ := Aside0.mk (below_step (by repeat (first | (with_reducible first | exact HB.out | apply zBa | apply zBn | apply zBd) | exact HB.out)) hb)
         clear HO_15
         clear HL200_0
         clear HR200_0
         clear HB
         have HO_15 := n0_
         have HL200_0 := n1_
         have HR200_0 := n2_
         have HB := n3_
         clear n0_ n1_ n2_ n3_
         (try clear hb)
         (try clear hb2)
         (try clear hk)
         (try clear hi)
         refine hK.out _ _ ⟨HS0_, HS1_⟩ (fun hHeld => ?_)
         clear hK K
         refine norm_ (a' := ?_) ?_ ?_
         rotate_left
         ·show Act.put _ (some 88) _ = _
          simp only [Act.put, List.setIfInBounds_toArray, List.set_cons_zero, List.set_cons_succ, i64_w, i32_w]
          rfl
         refine pure_ (i := 16) (N := some 100) (v := ?_) (a' := ?_) #[true, true, true, true, true, true, true, true, true, true, true, true, true, true, true, true, true, false] rfl rfl (any_of HT_.out (by kernel_rfl)) (fun _ _ _ h => h) (Or.inl ⟨by rfl, ?_⟩) ?_ ?_
         rotate_left
         ·intro w'
          go_simp
          with_reducible rfl
         rotate_left
         ·simp only [Act.put, List.setIfInBounds_toArray, List.set_cons_zero, List.set_cons_succ, i64_w, i32_w]
          rfl
         refine pure_ (i := 17) (N := some 18) (v := ?_) (a' := ?_) #[true, true, true, true, true, true, true, true, true, true, true, true, true, true, true, true, true, true] rfl rfl (any_of HT_.out (by kernel_rfl)) (fun _ _ _ h => h) (Or.inl ⟨by rfl, ?_⟩) ?_ ?_
         rotate_left
         ·intro w'
          go_simp
          with_reducible rfl
         rotate_left
         ·simp only [Act.put, List.setIfInBounds_toArray, List.set_cons_zero, List.set_cons_succ, i64_w, i32_w]
          rfl
         refine done_ (done_of HT_.out (by kernel_rfl)) ?_
         try go_wp2
         have n0_ := Aside0.mk (Kd.S_drew HO_15.out)
         have n1_ := Aside0.mk (zRd HL200_0.out)
         have n2_ := Aside0.mk (zCd HR200_0.out)
         have n3_ := Aside0.mk (zBd HB.out)
         clear HO_15
         clear HL200_0
         clear HR200_0
         clear HB
         have HO_15 := n0_
         have HL200_0 := n1_
         have HR200_0 := n2_
         have HB := n3_
         clear n0_ n1_ n2_ n3_
         have p203 : 0 ≤ ((ji45) : Int) := zT (by first | (with_reducible assumption) | assumption)
         have q203 : (ji45) < (x15_4.length : Int) := zT (by first | (with_reducible assumption) | assumption)
         obtain ⟨ad203, A203_0, c203_0, e203, hx203_0, hl203_0, hi203_0⟩ := lk_at2 (Kd.S_reads' HO_15.out).2.2 (ji45) p203 q203
         obtain rfl : (⟨go25, 0, none⟩ : Addr) = ad203 := (by injection e203)
         obtain ⟨ce203, hce203, hMe203, hcc203⟩ := Kd.S_get HO_15.out [] (ji45) p203 (by first | exact q203 | exact zT (by first | (with_reducible assumption) | assumption) | (have e_ := (Kd.S_reads' HO_15.out).1; omega))
         obtain ⟨ve203_0, rfl, ge203_0⟩ := hMe203
         have hv203_0 := hcc203 0 _ rfl
         rw [Nat.add_zero, show ((Kd.slice 3 (Kd.int .i64))).sz = 1 from rfl, Nat.mul_one] at hv203_0
         replace hv203_0 := Option.some.inj (hv203_0.symm.trans hx203_0)
         rw [hv203_0] at ge203_0
         have HL203_0 := Aside0.mk (show Kd.R (Kd.int .i64) 3 _ _ _ _ (lk_rd2 x15_4 (ji45)) from ge203_0)
         clear hv203_0 ge203_0
         clear hcc203 hce203
         (first | simp only [add_plain] at hx203_0 | simp only [add_at] at hx203_0 | simp only [Addr.add, Nat.zero_add] at hx203_0 | skip)
         have HR203_0 := Aside0.mk hi203_0
         have HC203_0 := Aside0.mk hl203_0
         clear hi203_0 hl203_0
         replace p203 := eq_true p203
         replace q203 := eq_true q203
         have p204 : 0 ≤ ((ji53) : Int) := zT (by first | (with_reducible assumption) | assumption)
         have q204 : (ji53) < ((lk_rd2 x15_4 (ji45)).length : Int) := zT (by first | (with_reducible assumption) | assumption)
         obtain ⟨ad204, e204, hx204_0⟩ := Kd.at_int (by repeat (first | (with_reducible exact HR203_0.out) | (with_reducible first | refine zCa ?_ _ | refine zCn ?_ _ | refine zCd ?_) | exact HR203_0.out)) (ji53) p204 q204
         cases e204
         replace p204 := eq_true p204
         replace q204 := eq_true q204
         refine start_ (n := 22) (S := fun w' => w'.cell? ⟨go25, ((ji45)).toNat, none⟩ = some (.slice (some ad204) (lk_rd2 x15_4 (ji45)).length c203_0) ∧ w'.cell? (ad204.add ((ji53)).toNat) = some (.int .i64 (rd (lk_rd2 x15_4 (ji45)) (ji53)))) (ds := []) #[false, false, false, false, false, false, false, false, false, false, false, false, false, false, false, false, false, false, false, false, false, false] (by kernel_rfl) rfl rfl ⟨hx203_0, hx204_0⟩ (fun hHeld => ?_); refine with_tabW impl_Likeliest.tab20 impl_Likeliest.bits20 (fun HT_ HW_ => ?_)
         generalize w64.drew = w65 at HO_15 HL200_0 HR200_0 HB HL203_0 HR203_0 hx203_0 hx204_0 hHeld ⊢
         refine pure_ (i := 0) (N := some 104) (v := ?_) (a' := ?_) #[true, false, false, false, false, false, false, false, false, false, false, false, false, false, false, false, false, false, false, false, false, false] rfl rfl (any_of HT_.out (by kernel_rfl)) (fun _ _ _ h => h) (Or.inl ⟨by rfl, ?_⟩) ?_ ?_
         rotate_left
         ·intro w'
          go_simp
          with_reducible rfl
         rotate_left
         ·simp only [Act.put, List.setIfInBounds_toArray, List.set_cons_zero, List.set_cons_succ, i64_w, i32_w]
          rfl
         refine pure_ (i := 1) (N := some 105) (v := ?_) (a' := ?_) #[true, true, false, false, false, false, false, false, false, false, false, false, false, false, false, false, false, false, false, false, false, false] rfl rfl (any_of HT_.out (by kernel_rfl)) (fun _ _ _ h => h) (Or.inl ⟨by rfl, ?_⟩) ?_ ?_
         rotate_left
         ·intro w'
          go_simp
          with_reducible rfl
         rotate_left
         ·simp only [Act.put, List.setIfInBounds_toArray, List.set_cons_zero, List.set_cons_succ, i64_w, i32_w]
          rfl
         refine pure_ (i := 2) (N := some 106) (v := ?_) (a' := ?_) #[true, true, true, false, false, false, false, false, false, false, false, false, false, false, false, false, false, false, false, false, false, false] rfl rfl (any_of HT_.out (by kernel_rfl)) (fun _ _ _ h => h) (Or.inl ⟨by rfl, ?_⟩) ?_ ?_
         rotate_left
         ·intro w'
          go_simp
          with_reducible rfl
         rotate_left
         ·simp only [Act.put, List.setIfInBounds_toArray, List.set_cons_zero, List.set_cons_succ, i64_w, i32_w]
          rfl
         refine pure_ (i := 3) (N := some 107) (v := ?_) (a' := ?_) #[true, true, true, true, false, false, false, false, false, false, false, false, false, false, false, false, false, false, false, false, false, false] rfl rfl (any_of HT_.out (by kernel_rfl)) (fun _ _ _ h => h) (Or.inl ⟨by rfl, ?_⟩) ?_ ?_
         rotate_left
         ·intro w'
          go_simp
          with_reducible rfl
         rotate_left
         ·simp only [Act.put, List.setIfInBounds_toArray, List.set_cons_zero, List.set_cons_succ, i64_w, i32_w]
          rfl
         refine pure_ (i := 4) (N := some 108) (v := ?_) (a' := ?_) #[true, true, true, true, true, false, false, false, false, false, false, false, false, false, false, false, false, false, false, false, false, false] rfl rfl (any_of HT_.out (by kernel_rfl)) (fun _ _ _ h => h) (Or.inl ⟨by rfl, ?_⟩) ?_ ?_
         rotate_left
         ·intro w'
          go_simp
          with_reducible rfl
         rotate_left
         ·simp only [Act.put, List.setIfInBounds_toArray, List.set_cons_zero, List.set_cons_succ, i64_w, i32_w]
          rfl
         refine pure_ (i := 5) (N := some 109) (v := ?_) (a' := ?_) #[true, true, true, true, true, true, false, false, false, false, false, false, false, false, false, false, false, false, false, false, false, false] rfl rfl (any_of HT_.out (by kernel_rfl)) (fun _ _ _ h => h) (Or.inl ⟨by rfl, ?_⟩) ?_ ?_
         rotate_left
         ·intro w'
          go_simp
          with_reducible rfl
         rotate_left
         ·simp only [Act.put, List.setIfInBounds_toArray, List.set_cons_zero, List.set_cons_succ, i64_w, i32_w]
          rfl
         refine pure_ (i := 7) (N := some 111) (v := ?_) (a' := ?_) #[true, true, true, true, true, true, false, true, false, false, false, false, false, false, false, false, false, false, false, false, false, false] rfl rfl (any_of HT_.out (by kernel_rfl)) (fun _ _ _ h => h) (Or.inl ⟨by rfl, ?_⟩) ?_ ?_
         rotate_left
         ·intro w'
          go_simp
          with_reducible rfl
         rotate_left
         ·simp only [Act.put, List.setIfInBounds_toArray, List.set_cons_zero, List.set_cons_succ, i64_w, i32_w]
          rfl
         refine pure_ (i := 8) (N := some 112) (v := ?_) (a' := ?_) #[true, true, true, true, true, true, false, true, true, false, false, false, false, false, false, false, false, false, false, false, false, false] rfl rfl (any_of HT_.out (by kernel_rfl)) (fun _ _ _ h => h) (Or.inl ⟨by rfl, ?_⟩) ?_ ?_
         rotate_left
         ·intro w'
          go_simp
          with_reducible rfl
         rotate_left
         ·simp only [Act.put, List.setIfInBounds_toArray, List.set_cons_zero, List.set_cons_succ, i64_w, i32_w]
          rfl
         refine pure_ (i := 9) (N := some 113) (v := ?_) (a' := ?_) #[true, true, true, true, true, true, false, true, true, true, false, false, false, false, false, false, false, false, false, false, false, false] rfl rfl (any_of HT_.out (by kernel_rfl)) (fun _ _ _ h => h) (Or.inl ⟨by rfl, ?_⟩) ?_ ?_
         rotate_left
         ·intro w'
          go_simp
          with_reducible rfl
         rotate_left
         ·simp only [Act.put, List.setIfInBounds_toArray, List.set_cons_zero, List.set_cons_succ, i64_w, i32_w]
          rfl
         refine pure_ (i := 10) (N := some 114) (v := ?_) (a' := ?_) #[true, true, true, true, true, true, false, true, true, true, true, false, false, false, false, false, false, false, false, false, false, false] rfl rfl (any_of HT_.out (by kernel_rfl)) (fun _ _ _ h => h) (Or.inl ⟨by rfl, ?_⟩) ?_ ?_
         rotate_left
         ·intro w'
          go_simp
          with_reducible rfl
         rotate_left
         ·simp only [Act.put, List.setIfInBounds_toArray, List.set_cons_zero, List.set_cons_succ, i64_w, i32_w]
          rfl
         refine pure_ (i := 12) (N := some 116) (v := ?_) (a' := ?_) #[true, true, true, true, true, true, false, true, true, true, true, false, true, false, false, false, false, false, false, false, false, false] rfl rfl (any_of HT_.out (by kernel_rfl)) (fun _ _ _ h => h) (Or.inl ⟨by rfl, ?_⟩) ?_ ?_
         rotate_left
         ·intro w'
          go_simp
          with_reducible rfl
         rotate_left
         ·simp only [Act.put, List.setIfInBounds_toArray, List.set_cons_zero, List.set_cons_succ, i64_w, i32_w]
          rfl
         refine pure_ (i := 13) (N := some 117) (v := ?_) (a' := ?_) #[true, true, true, true, true, true, false, true, true, true, true, false, true, true, false, false, false, false, false, false, false, false] rfl rfl (any_of HT_.out (by kernel_rfl)) (fun _ _ _ h => h) (Or.inl ⟨by rfl, ?_⟩) ?_ ?_
         rotate_left
         ·intro w'
          go_simp
          with_reducible rfl
         rotate_left
         ·simp only [Act.put, List.setIfInBounds_toArray, List.set_cons_zero, List.set_cons_succ, i64_w, i32_w]
          rfl
         refine pure_ (i := 14) (N := some 118) (v := ?_) (a' := ?_) #[true, true, true, true, true, true, false, true, true, true, true, false, true, true, true, false, false, false, false, false, false, false] rfl rfl (any_of HT_.out (by kernel_rfl)) (fun _ _ _ h => h) (Or.inl ⟨by rfl, ?_⟩) ?_ ?_
         rotate_left
         ·intro w'
          go_simp
          with_reducible rfl
         rotate_left
         ·simp only [Act.put, List.setIfInBounds_toArray, List.set_cons_zero, List.set_cons_succ, i64_w, i32_w]
          rfl
         refine pure_ (i := 15) (N := some 119) (v := ?_) (a' := ?_) #[true, true, true, true, true, true, false, true, true, true, true, false, true, true, true, true, false, false, false, false, false, false] rfl rfl (any_of HT_.out (by kernel_rfl)) (fun _ _ _ h => h) (Or.inl ⟨by rfl, ?_⟩) ?_ ?_
         rotate_left
         ·intro w'
          go_simp
          with_reducible rfl
         rotate_left
         ·simp only [Act.put, List.setIfInBounds_toArray, List.set_cons_zero, List.set_cons_succ, i64_w, i32_w]
          rfl
         refine pure_ (i := 16) (N := some 120) (v := ?_) (a' := ?_) #[true, true, true, true, true, true, false, true, true, true, true, false, true, true, true, true, true, false, false, false, false, false] rfl rfl (any_of HT_.out (by kernel_rfl)) (fun _ _ _ h => h) (Or.inl ⟨by rfl, ?_⟩) ?_ ?_
         rotate_left
         ·intro w'
          go_simp
          with_reducible rfl
         rotate_left
         ·simp only [Act.put, List.setIfInBounds_toArray, List.set_cons_zero, List.set_cons_succ, i64_w, i32_w]
          rfl
         refine take_ (i := 11) (N := some 115) (v := ?_) (a' := ?_) #[true, true, true, true, true, true, false, true, true, true, true, true, true, true, true, true, true, false, false, false, false, false] rfl rfl (take_ofW HT_.out HW_.out (by kernel_rfl)) (fun _ _ _ h => h) (Or.inl ⟨by rfl, ?_⟩) hHeld ?_ ?_
         rotate_left
         ·rintro w' ⟨s0, s1⟩
          go_simp
          with_reducible rfl
         rotate_left
         ·simp only [Act.put, List.setIfInBounds_toArray, List.set_cons_zero, List.set_cons_succ, i64_w, i32_w]
          rfl
         refine pure_ (i := 17) (N := some 121) (v := ?_) (a' := ?_) #[true, true, true, true, true, true, false, true, true, true, true, true, true, true, true, true, true, true, false, false, false, false] rfl rfl (any_of HT_.out (by kernel_rfl)) (fun _ _ _ h => h) (Or.inl ⟨by rfl, ?_⟩) ?_ ?_
         rotate_left
         ·intro w'
          go_simp
          with_reducible rfl
         rotate_left
         ·simp only [Act.put, List.setIfInBounds_toArray, List.set_cons_zero, List.set_cons_succ, i64_w, i32_w]
          rfl
         refine take_ (i := 18) (N := some 122) (v := ?_) (a' := ?_) #[true, true, true, true, true, true, false, true, true, true, true, true, true, true, true, true, true, true, true, false, false, false] rfl rfl (take_ofW HT_.out HW_.out (by kernel_rfl)) (fun _ _ _ h => h) (Or.inl ⟨by rfl, ?_⟩) hHeld ?_ ?_
         rotate_left
         ·rintro w' ⟨s0, s1⟩
          go_simp
          with_reducible rfl
         rotate_left
         ·simp only [Act.put, List.setIfInBounds_toArray, List.set_cons_zero, List.set_cons_succ, i64_w, i32_w]
          rfl
         refine one_ (i := 6) (N := some 110) #[true, true, true, true, true, true, true, true, true, true, true, true, true, true, true, true, true, true, true, false, false, false] rfl rfl (one_of HT_.out (by kernel_rfl)) (by decide) (fun K hK => ?_)
         refine call_ 27 #[.int .i64 x16_3, .int .i64 (Go.bits .or .i64 (wrap64 (x81_4 * 2)) 1), .pointer (some ⟨ga, 0, none⟩), .pointer (some ⟨gb, 0, none⟩), .pointer (some ⟨gs, 0, none⟩)] (by rfl) rfl (by go_simp) ?_
         with_reducible refine (lkG_calls a1 a2 A3 c3 l3 ga gb gs x16_3 (Go.bits .or .i64 (wrap64 (x81_4 * 2)) 1) _ (lk_bx HB.out CA.out) (lk_bx HB.out CB.out) (lk_bx HB.out CS.out) (Kd.C_below HR3.out HB.out) t202 A52.out).mono ?_
         rintro e w66 ⟨rfl, hb⟩
         have HS0_ := (hb.cell (zW _ _ (hHeld.1))).trans (hHeld.1)
         have HS1_ := (hb.cell (zW _ _ (hHeld.2))).trans (hHeld.2)
         refine ⟨_, rfl, ?_⟩
         have n0_ := Aside0.mk (Kd.S_below (by (with_reducible repeat (first | apply Kd.S_alloc | apply Kd.S_drewN | apply Kd.S_drew)); first | exact HO_15.out | (subst_vars; exact HO_15.out)) hb)
         have n1_ := Aside0.mk (Kd.R_below (by (with_reducible repeat (first | apply zRa | apply zRn | apply zRd)); first | exact HL200_0.out | (subst_vars; exact HL200_0.out)) hb)
         have n2_ := Aside0.mk (Kd.R_below (by (with_reducible repeat (first | apply zRa | apply zRn | apply zRd)); first | exact HL203_0.out | (subst_vars; exact HL203_0.out)) hb)
         have n3_ := Aside0.mk (Kd.C_below (by repeat (first | (with_reducible exact HR200_0.out) | (with_reducible first | refine zCa ?_ _ | refine zCn ?_ _ | refine zCd ?_) | exact HR200_0.out)) hb)
         have n4_ := Aside0.mk (Kd.C_below (by repeat (first | (with_reducible exact HR203_0.out) | (with_reducible first | refine zCa ?_ _ | refine zCn ?_ _ | refine zCd ?_) | exact HR203_0.out)) hb)
         have n5_ := Aside0.mk (below_step (by repeat (first | (with_reducible first | exact HB.out | apply zBa | apply zBn | apply zBd) | exact HB.out)) hb)
         clear HO_15
         clear HL200_0
         clear HL203_0
         clear HR200_0
         clear HR203_0
         clear HB
         have HO_15 := n0_
         have HL200_0 := n1_
         have HL203_0 := n2_
         have HR200_0 := n3_
         have HR203_0 := n4_
         have HB := n5_
         clear n0_ n1_ n2_ n3_ n4_ n5_
         (try clear hb)
         (try clear hb2)
         (try clear hk)
         (try clear hi)
         refine hK.out _ _ ⟨HS0_, HS1_⟩ (fun hHeld => ?_)
         clear hK K
         refine norm_ (a' := ?_) ?_ ?_
         rotate_left
         ·show Act.put _ (some 110) _ = _
          simp only [Act.put, List.setIfInBounds_toArray, List.set_cons_zero, List.set_cons_succ, i64_w, i32_w]
          rfl
         refine pure_ (i := 19) (N := some 123) (v := ?_) (a' := ?_) #[true, true, true, true, true, true, true, true, true, true, true, true, true, true, true, true, true, true, true, true, false, false] rfl rfl (any_of HT_.out (by kernel_rfl)) (fun _ _ _ h => h) (Or.inl ⟨by rfl, ?_⟩) ?_ ?_
         rotate_left
         ·intro w'
          go_simp
          with_reducible rfl
         rotate_left
         ·simp only [Act.put, List.setIfInBounds_toArray, List.set_cons_zero, List.set_cons_succ, i64_w, i32_w]
          rfl
         refine pure_ (i := 20) (N := some 124) (v := ?_) (a' := ?_) #[true, true, true, true, true, true, true, true, true, true, true, true, true, true, true, true, true, true, true, true, true, false] rfl rfl (any_of HT_.out (by kernel_rfl)) (fun _ _ _ h => h) (Or.inl ⟨by rfl, ?_⟩) ?_ ?_
         rotate_left
         ·intro w'
          go_simp
          with_reducible rfl
         rotate_left
         ·simp only [Act.put, List.setIfInBounds_toArray, List.set_cons_zero, List.set_cons_succ, i64_w, i32_w]
          rfl
         refine pure_ (i := 21) (N := some 18) (v := ?_) (a' := ?_) #[true, true, true, true, true, true, true, true, true, true, true, true, true, true, true, true, true, true, true, true, true, true] rfl rfl (any_of HT_.out (by kernel_rfl)) (fun _ _ _ h => h) (Or.inl ⟨by rfl, ?_⟩) ?_ ?_
         rotate_left
         ·intro w'
          go_simp
          with_reducible rfl
         rotate_left
         ·simp only [Act.put, List.setIfInBounds_toArray, List.set_cons_zero, List.set_cons_succ, i64_w, i32_w]
          rfl
         refine done_ (done_of HT_.out (by kernel_rfl)) ?_
         have HZ := lk_put HO_15.out x16_3 x81_4 (zT (by first | (with_reducible assumption) | assumption)) (zT (by first | (with_reducible assumption) | assumption)) (of_eq_true c58b0) (of_eq_true c59b0) (ji56)
         have pz_ := eq_true (show 0 ≤ x16_3 from zT (by first | (with_reducible assumption) | assumption))
         have qz_ := eq_true (show x16_3 < (x15_4.length : Int) from zT (by first | (with_reducible assumption) | assumption))
         obtain ⟨gi, ci, hz1, hz2, hz3, hz4, hz5, hz6, hz7⟩ := HZ
         have HZ6 := Aside0.mk hz6
         have HZ7 := Aside0.mk hz7
         have HZ4 := Aside0.mk hz4
         clear hz4 hz5 hz6 hz7
         try go_wp2_with (first | ((with_reducible refine gate_store (t := 3) (p := 131) rfl ?_); refine store_event (t := 3) (p := 131) (v := ?vo_z) (w1 := (w66.setCell ⟨gi, (x81_4 : Int).toNat, none⟩ (.int .i64 (ji56)))) ?hg ?ho ?hn ?hr ?_; (case ho => rfl); (case hg => rfl); (case hn => rfl); (case hr => first | (go_simp; done) | (go_simp; rfl)); intro wz_ hw; have hp_ : Kd.S (Kd.slice 3 (Kd.int .i64)) 24 wz_ ws.heap.size (fun _ => True) (.slice (some ⟨go25, 0, none⟩) x15_4.length co25) y208 := (by rw [hw, Ny208.out, Ny205.out]; exact HZ6.out); have n0_ := Aside0.mk (hp_); have n1_ := Aside0.mk ((by rw [hw]; exact zBs (HB.out) HZ4.out : Below ws.heap.size ws wz_)); clear HO_15; clear HB; have HO_15 := n0_; have HB := n1_; clear n0_ n1_; clear hw hp_ hz1 hz2 hz3))
         (try simp only [← hl15_4])
         go_roundg k4
         case measure => have := HJ4.out; have := HJ10.out; have := HK3.out; have := HK4.out; omega
         case rel => exact ⟨(y208), (wrap64 (x81_4 + 1)), (by first | rfl | (simp; done) | (simp [*]; done)), H', ⟨by have := HJ4.out; have := HJ10.out; have := HK3.out; have := HK4.out; omega⟩, ⟨by (try simp only [hl15_3]); (try simp only [hl15_4]); (with_reducible repeat (first | apply Kd.S_alloc | apply Kd.S_drewN | apply Kd.S_drew)); first | exact HO_15.out | (subst_vars; exact HO_15.out)⟩, ⟨by repeat (first | (with_reducible first | exact HB.out | apply zBa | apply zBn | apply zBd) | exact HB.out)⟩⟩


end Go.Proofs.Ytoggbgkpeigfmaa.PFnScored
