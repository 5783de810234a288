import Derived.Test.YtoggbgkpeigfmaaPFnLikeliestx4
import Derived.Test.YtoggbgkpeigfmaaAidV
set_option linter.unusedVariables false
set_option linter.unusedSimpArgs false
namespace Go.Proofs.Ytoggbgkpeigfmaa.Pure
open Go Go.RowKit Go.Proofs.Ytoggbgkpeigfmaa.PFnLikeliest Go.Proofs.YtoggbgkpeigfmaaW.PrintWords Go.Proofs.YtoggbgkpeigfmaaW.PrintLast Go.Proofs.YtoggbgkpeigfmaaW.PrintMore
def onesN : Nat → Int → Int
 | 0, _ => 0
 | n + 1, x => x % 2 + onesN n (x / 2)
theorem onesN_nonneg : ∀ (n : Nat) (x : Int), 0 ≤ onesN n x ∧ onesN n x ≤ n
 | 0, _ => by simp [onesN]
 | n + 1, x => by have := onesN_nonneg n (x / 2); simp only [onesN]; omega
def parB (x : Int) : Int := onesN 8 x % 2
def bitOk (x : Int) : Bool := decide (x = 0 ∨ x = 1)
theorem allBits_iff {l : List Int} : l.all bitOk = true ↔ ∀ x ∈ l, x = 0 ∨ x = 1 := by simp [List.all_eq_true, bitOk]
def bitsB (l : List Int) : Bool := l.all bitOk && decide (l.length ≤ 1024)
theorem bitsB_iff {l : List Int} : bitsB l = true ↔ (∀ x ∈ l, x = 0 ∨ x = 1) ∧ l.length ≤ 1024 := by
 unfold bitsB; rw [Bool.and_eq_true, allBits_iff]; simp
theorem shl_one {y : Nat} (hy : y ≤ 60) : shl .i64 1 (y : Int) = 2 ^ y := by
 unfold shl
 have hp : (2 : Int) ^ y ≤ 2 ^ 60 := by
  have : (2 : Nat) ^ y ≤ 2 ^ 60 := Nat.pow_le_pow_right (by omega) (by omega)
  exact_mod_cast this
 have hp0 : (0 : Int) < 2 ^ y := Int.pow_pos (by omega)
 rw [show min ((y : Int).toNat) IntKind.i64.bits = y by simp [IntKind.bits]; omega, IntKind.wrap_i64]
 omega
/-- A coder is right. -/
def coderB (m a b : Int) : Bool := decide ((1 ≤ m ∧ m ≤ 6) ∧ (1 ≤ a ∧ a ≤ 2 ^ (m.toNat + 1) - 1) ∧ (1 ≤ b ∧ b ≤ 2 ^ (m.toNat + 1) - 1))
theorem pow_small {m : Nat} (h : m ≤ 6) : (2 : Int) ^ (m + 1) ≤ 128 ∧ (0 : Int) < 2 ^ (m + 1) ∧ ∃ q : Int, (2 : Int) ^ (m + 1) = 2 * q ∧ q ≤ 64 := by
 have h1 : (2 : Int) ^ (m + 1) ≤ 2 ^ 7 := by
  have : (2 : Nat) ^ (m + 1) ≤ 2 ^ 7 := Nat.pow_le_pow_right (by omega) (by omega)
  exact_mod_cast this
 have h2 : (2 : Int) ^ (m + 1) = 2 * 2 ^ m := by rw [Int.pow_succ]; omega
 exact ⟨by omega, Int.pow_pos (by omega), 2 ^ m, h2, by omega⟩
/-- The next bit: the message's, then noughts. -/
def bitAt (l : List Int) (i : Nat) : Int := if i < l.length then rd l i else 0
def spreadGo (M a b : Int) (l : List Int) : Nat → Nat → Int → List Int
 | 0, _, _ => []
 | d + 1, i, r => parB (bits .and .i64 ((2 * r + bitAt l i) % M) a) :: parB (bits .and .i64 ((2 * r + bitAt l i) % M) b) :: spreadGo M a b l d (i + 1) ((2 * r + bitAt l i) % M)
theorem spreadGo_len (M a b : Int) (l : List Int) : ∀ d i r, (spreadGo M a b l d i r).length = 2 * d
 | 0, _, _ => rfl
 | d + 1, i, r => by simp only [spreadGo, List.length_cons, spreadGo_len M a b l d]; omega
def spreadOf (m a b : Int) (l : List Int) : List Int × Bool :=
 if coderB m a b = true ∧ bitsB l = true ∧ l.length ≤ 120 then (spreadGo (2 ^ (m.toNat + 1)) a b l (l.length + m.toNat) 0 0, true) else ([], false)
theorem bitAt_bit {l : List Int} (h : ∀ x ∈ l, x = 0 ∨ x = 1) (i : Nat) : bitAt l i = 0 ∨ bitAt l i = 1 := by
 unfold bitAt
 split
 ·exact h _ (rd_mem (by assumption))
 ·exact .inl rfl
theorem and_bd {r M a : Int} (hM : M ≤ 128) (hr : 0 ≤ r ∧ r < M) (ha : 0 ≤ a) (ha2 : a ≤ 127) : 0 ≤ bits .and .i64 r a ∧ bits .and .i64 r a ≤ 127 := by
 have := bits_and_le r a ha (by omega)
 omega
/-- x & (M - 1) | y of an even x. -/
theorem or_add {x y : Int} (hx0 : 0 ≤ x) (hx : x % 2 = 0) (hx1 : x < 1000) (hy : y = 0 ∨ y = 1) : bits .or .i64 x y = x + y :=
 bits_join .i64 62 (by decide) (fun n h0 h1 => by rw [IntKind.wrap_i64]; omega) 1 x y hx0 (by simpa using hx) (by omega) (by omega) (by omega) (by omega)
theorem or_zero_join {M r y : Int} {n : Nat} (hM : M = 2 ^ n) (hn : 1 ≤ n ∧ n ≤ 7) (hr : 0 ≤ r ∧ r < M) (hM1 : M ≤ 128) (hy : y = 0 ∨ y = 1) : bits .or .i64 (bits .and .i64 (r * 2) (M - 1)) y = (2 * r + y) % M := by
 have hq : ∃ q : Int, M = 2 * q := by
  obtain ⟨n', rfl⟩ : ∃ n', n = n' + 1 := ⟨n - 1, by omega⟩
  exact ⟨2 ^ n', by rw [hM, Int.pow_succ]; omega⟩
 obtain ⟨q, hq⟩ := hq
 have h1 := bits_and_mask (r * 2) n (by omega)
 rw [← hM] at h1
 rw [h1]
 have hM0 : 0 < M := by omega
 have h2 : (r * 2) % M = r * 2 ∨ (r * 2) % M = r * 2 - M := by
  rcases Int.lt_or_le (r * 2) M with h | h
  ·exact .inl (Int.emod_eq_of_lt (by omega) h)
  ·refine .inr ?_
   rw [← Int.sub_emod_right]
   exact Int.emod_eq_of_lt (by omega) (by omega)
 have h3 : (2 * r + y) % M = (r * 2) % M + y := by
  rcases Int.lt_or_le (r * 2) M with h | h
  ·rw [Int.emod_eq_of_lt (by omega) h, Int.emod_eq_of_lt (by omega) (by omega)]; omega
  ·have e1 : (r * 2) % M = r * 2 - M := by rw [← Int.sub_emod_right]; exact Int.emod_eq_of_lt (by omega) (by omega)
   have e2 : (2 * r + y) % M = 2 * r + y - M := by rw [← Int.sub_emod_right]; exact Int.emod_eq_of_lt (by omega) (by omega)
   rw [e1, e2]; omega
 rw [h3]
 rcases h2 with e | e
 ·rw [e]; exact or_add (by omega) (by omega) (by omega) hy
 ·rw [e]
  refine or_add ?_ (by omega) (by omega) hy
  rw [← e]; exact Int.emod_nonneg _ (by omega)
/-- The wraps of a round of Spread, told away from its powers (omega compares atoms by unfolding them). -/
theorem sp_facts {m n i : Nat} {r : Int} (hm : m ≤ 6) (hn : n ≤ 120) (hi : i ≤ 1000) (h0 : 0 ≤ r) (h1 : r ≤ 127) : wrap64 ((n : Int) + m) = (n : Int) + m ∧ wrap64 ((m : Int) + 1) = ((m + 1 : Nat) : Int) ∧ IntKind.u64.wrap ((m + 1 : Nat) : Int) = ((m + 1 : Nat) : Int) ∧ wrap64 ((i : Int) + 1) = ((i + 1 : Nat) : Int) ∧ wrap64 (2 * r) = 2 * r ∧ wrap64 (r * 2) = r * 2 :=
 ⟨w64 (by omega) (by omega), (w64_add (by omega) (by omega)).trans (by omega), wu64 (by omega) (by omega), w64_add (by omega) (by omega), w64 (by omega) (by omega), w64 (by omega) (by omega)⟩
theorem w64_reg {r x : Int} (h0 : 0 ≤ r) (h1 : r ≤ 127) (hx : x = 0 ∨ x = 1) : wrap64 (2 * r + x) = 2 * r + x := w64 (by omega) (by omega)
theorem w64_mask {M : Int} (h0 : 0 < M) (h1 : M ≤ 128) : wrap64 (M - 1) = M - 1 := w64 (by omega) (by omega)
theorem nat_nonneg_ (n : Nat) : (0 : Int) ≤ (n : Int) := Int.natCast_nonneg n
/-! Paths through a trellis: their scores, the best from a state on, and the word that the greedy walk takes. -/
def gnV (a b : Int) (soft : List Int) (t : Nat) (reg : Int) : Int :=
 rd soft ((2 * t : Nat) : Int) * (2 * parB (bits .and .i64 reg a) - 1) + rd soft ((2 * t + 1 : Nat) : Int) * (2 * parB (bits .and .i64 reg b) - 1)
def pthS (Q a b : Int) (soft l : List Int) : Nat → Nat → Int → Int
 | 0, _, _ => 0
 | d + 1, i, s => gnV a b soft i (2 * s + bitAt l i) + pthS Q a b soft l d (i + 1) ((2 * s + bitAt l i) % Q)
def bstV (Q a b : Int) (n : Nat) (soft : List Int) : Nat → Nat → Int → Int
 | 0, _, _ => 0
 | d + 1, i, s => if i < n then max (gnV a b soft i (2 * s) + bstV Q a b n soft d (i + 1) (2 * s % Q)) (gnV a b soft i (2 * s + 1) + bstV Q a b n soft d (i + 1) ((2 * s + 1) % Q)) else gnV a b soft i (2 * s) + bstV Q a b n soft d (i + 1) (2 * s % Q)
def outV (Q a b : Int) (n m : Nat) (soft : List Int) : Nat → Nat → Int → List Int
 | 0, _, _ => []
 | d + 1, i, s => if gnV a b soft i (2 * s) + bstV Q a b n soft (d + m) (i + 1) (2 * s % Q) < bstV Q a b n soft (d + 1 + m) i s then 1 :: outV Q a b n m soft d (i + 1) ((2 * s + 1) % Q) else 0 :: outV Q a b n m soft d (i + 1) (2 * s % Q)
theorem outV_len (Q a b : Int) (n m : Nat) (soft : List Int) : ∀ d i s, (outV Q a b n m soft d i s).length = d
 | 0, _, _ => rfl
 | d + 1, i, s => by
  simp only [outV]
  split
  ·simp [outV_len Q a b n m soft d]
  ·simp [outV_len Q a b n m soft d]
theorem outV_bit (Q a b : Int) (n m : Nat) (soft : List Int) : ∀ d i s, ∀ x ∈ outV Q a b n m soft d i s, x = 0 ∨ x = 1
 | 0, _, _ => by simp [outV]
 | d + 1, i, s => by
  simp only [outV]
  split
  ·intro x hx
   rcases List.mem_cons.1 hx with h | h
   ·exact .inr h
   ·exact outV_bit Q a b n m soft d _ _ x h
  ·intro x hx
   rcases List.mem_cons.1 hx with h | h
   ·exact .inl h
   ·exact outV_bit Q a b n m soft d _ _ x h
theorem bitAt_past {l : List Int} {i : Nat} (h : l.length ≤ i) : bitAt l i = 0 := if_neg (by omega)
theorem pthS_le (Q a b : Int) (n : Nat) (soft l : List Int) (hl : l.length = n) (hb : ∀ x ∈ l, x = 0 ∨ x = 1) : ∀ d i s, pthS Q a b soft l d i s ≤ bstV Q a b n soft d i s
 | 0, _, _ => Int.le_refl _
 | d + 1, i, s => by
  simp only [pthS, bstV]
  by_cases hi : i < n
  case neg =>
   rw [if_neg hi, bitAt_past (by omega), Int.add_zero]
   have := pthS_le Q a b n soft l hl hb d (i + 1) (2 * s % Q)
   omega
  rw [if_pos hi]
  rcases bitAt_bit hb i with e | e
  ·rw [e, Int.add_zero]
   have := pthS_le Q a b n soft l hl hb d (i + 1) (2 * s % Q)
   omega
  ·rw [e]
   have := pthS_le Q a b n soft l hl hb d (i + 1) ((2 * s + 1) % Q)
   omega
theorem pthS_tail (Q a b : Int) (n : Nat) (soft l : List Int) (hl : l.length = n) : ∀ d i s, n ≤ i → pthS Q a b soft l d i s = bstV Q a b n soft d i s
 | 0, _, _, _ => rfl
 | d + 1, i, s, hi => by
  simp only [pthS, bstV]
  rw [if_neg (by omega), bitAt_past (by omega), Int.add_zero, pthS_tail Q a b n soft l hl d (i + 1) _ (by omega)]
theorem bitAt_drop {l t : List Int} {i : Nat} {x : Int} (h : l.drop i = x :: t) : bitAt l i = x ∧ l.drop (i + 1) = t := by
 have hi : i < l.length := by
  rcases Nat.lt_or_ge i l.length with h1 | h1
  ·exact h1
  ·rw [List.drop_of_length_le h1] at h; cases h
 rw [drop_rd hi] at h
 injection h with h1 h2
 exact ⟨(if_pos hi).trans h1, h2⟩
theorem outV_att (Q a b : Int) (n m : Nat) (soft l : List Int) (hl : l.length = n) : ∀ d i s, i + d = n → l.drop i = outV Q a b n m soft d i s → pthS Q a b soft l (d + m) i s = bstV Q a b n soft (d + m) i s
 | 0, i, s, hi, _ => pthS_tail Q a b n soft l hl (0 + m) i s (by omega)
 | d + 1, i, s, hi, h => by
  simp only [outV] at h
  have e : bstV Q a b n soft (d + 1 + m) i s = max (gnV a b soft i (2 * s) + bstV Q a b n soft (d + m) (i + 1) (2 * s % Q)) (gnV a b soft i (2 * s + 1) + bstV Q a b n soft (d + m) (i + 1) ((2 * s + 1) % Q)) := by
   rw [show d + 1 + m = d + m + 1 by omega]
   simp only [bstV]
   rw [if_pos (by omega)]
  have e2 : pthS Q a b soft l (d + 1 + m) i s = gnV a b soft i (2 * s + bitAt l i) + pthS Q a b soft l (d + m) (i + 1) ((2 * s + bitAt l i) % Q) := by
   rw [show d + 1 + m = d + m + 1 by omega]
   rfl
  rw [e2]
  split at h
  ·rename_i hc
   obtain ⟨h1, h2⟩ := bitAt_drop h
   rw [h1, outV_att Q a b n m soft l hl d (i + 1) _ (by omega) h2]
   rw [e] at hc ⊢
   omega
  ·rename_i hc
   obtain ⟨h1, h2⟩ := bitAt_drop h
   rw [h1, Int.add_zero, outV_att Q a b n m soft l hl d (i + 1) _ (by omega) h2]
   rw [e] at hc ⊢
   omega
def dotS : List Int → List Int → Int
 | x :: xs, y :: ys => x * (2 * y - 1) + dotS xs ys
 | _, _ => 0
theorem reg_mod {M Q r x : Int} (hM : M = 2 * Q) (hQ : 0 < Q) (hx : x = 0 ∨ x = 1) : (2 * r + x) % M = 2 * (r % Q) + x := by
 have h1 := Int.emod_nonneg r (show Q ≠ 0 by omega)
 have h2 := Int.emod_lt_of_pos r hQ
 have h3 := Int.mul_ediv_add_emod r Q
 have h4 : 2 * r + x = (2 * (r % Q) + x) + (r / Q) * M := by
  rw [hM]
  have : r / Q * (2 * Q) = 2 * (Q * (r / Q)) := by rw [Int.mul_comm Q (r / Q), Int.mul_left_comm]
  omega
 rw [h4, Int.add_mul_emod_self_right]
 exact Int.emod_eq_of_lt (by omega) (by omega)
theorem drop_two {soft : List Int} {i : Nat} (h : 2 * i + 1 < soft.length) : soft.drop (2 * i) = rd soft ((2 * i : Nat) : Int) :: rd soft ((2 * i + 1 : Nat) : Int) :: soft.drop (2 * (i + 1)) := by
 rw [drop_rd (xs := soft) (i := 2 * i) (by omega), drop_rd (xs := soft) (i := 2 * i + 1) h, show 2 * i + 1 + 1 = 2 * (i + 1) by omega]
theorem pthS_dot {M Q : Int} (hM : M = 2 * Q) (hQ : 0 < Q) (a b : Int) (soft l : List Int) (hb : ∀ x ∈ l, x = 0 ∨ x = 1) : ∀ d i r, 2 * (i + d) ≤ soft.length → pthS Q a b soft l d i (r % Q) = dotS (soft.drop (2 * i)) (spreadGo M a b l d i r)
 | 0, i, r, _ => by
  simp only [pthS, spreadGo]
  cases soft.drop (2 * i) <;> rfl
 | d + 1, i, r, hi => by
  have hx := bitAt_bit hb i
  have hm := reg_mod hM hQ (r := r) hx
  simp only [pthS, spreadGo]
  rw [drop_two (by omega)]
  simp only [dotS]
  rw [← pthS_dot hM hQ a b soft l hb d (i + 1) ((2 * r + bitAt l i) % M) (by omega), hm]
  unfold gnV
  omega
/-- The values are small. -/
theorem gnV_bd {a b : Int} {soft : List Int} (h : ∀ i : Nat, -100 ≤ rd soft i ∧ rd soft i ≤ 100) (t : Nat) (reg : Int) : -200 ≤ gnV a b soft t reg ∧ gnV a b soft t reg ≤ 200 := by
 unfold gnV
 have h1 := h (2 * t)
 have h2 := h (2 * t + 1)
 have e1 : parB (bits .and .i64 reg a) = 0 ∨ parB (bits .and .i64 reg a) = 1 := by unfold parB; omega
 have e2 : parB (bits .and .i64 reg b) = 0 ∨ parB (bits .and .i64 reg b) = 1 := by unfold parB; omega
 rcases e1 with e1 | e1 <;> rcases e2 with e2 | e2 <;> rw [e1, e2] <;> omega
theorem bstV_bd {Q a b : Int} {n : Nat} {soft : List Int} (h : ∀ i : Nat, -100 ≤ rd soft i ∧ rd soft i ≤ 100) : ∀ (d i : Nat) (s : Int), -200 * (d : Int) ≤ bstV Q a b n soft d i s ∧ bstV Q a b n soft d i s ≤ 200 * (d : Int)
 | 0, _, _ => by simp [bstV]
 | d + 1, i, s => by
  simp only [bstV]
  have h1 := gnV_bd (a := a) (b := b) h i (2 * s)
  have h2 := gnV_bd (a := a) (b := b) h i (2 * s + 1)
  have h3 := bstV_bd (Q := Q) (a := a) (b := b) (n := n) h d (i + 1) (2 * s % Q)
  have h4 := bstV_bd (Q := Q) (a := a) (b := b) (n := n) h d (i + 1) ((2 * s + 1) % Q)
  split <;> omega
theorem parity_all : ∀ x : Fin 128, impl_parity.f ((x.1 : Nat) : Int) = some (parB ((x.1 : Nat) : Int)) := by decide +kernel
theorem parity_eq {x : Int} (h0 : 0 ≤ x) (h1 : x ≤ 127) : impl_parity.f x = some (parB x) := by
 obtain ⟨n, rfl⟩ := Int.eq_ofNat_of_zero_le h0
 exact parity_all ⟨n, by omega⟩
def allIn (a : Int) (l : List Int) : Bool := l.all fun x => decide (-a ≤ x) && decide (x ≤ a)
theorem allIn_iff {a : Int} {l : List Int} : allIn a l = true ↔ ∀ x ∈ l, -a ≤ x ∧ x ≤ a := by
 unfold allIn; simp [List.all_eq_true]
theorem within_l0 (l : List Int) (a : Int) (ha : 0 ≤ a) (ha' : a ≤ 9000000000000000000) (hl : l.length ≤ 35184372088832) : ∀ (d i : Nat), i + d = l.length → Ev (fun k => impl_within.l0 k a l (l.length : Int) (i : Int)) (allIn a (l.drop i)) := by
 intro d
 induction d with
 | zero =>
  intro i hi
  refine (Ev.round (f := fun _ => some true) (Ev.some_ rfl) (fun k => by simp only [impl_within.l0]; rw [if_neg (by omega)])).to ?_
  rw [List.drop_of_length_le (by omega)]; rfl
 | succ d ih =>
  intro i hi
  rw [drop_rd (xs := l) (i := i) (by omega)]
  by_cases h1 : rd l i < -a
  case pos =>
   refine (Ev.round (f := fun _ => some false) (Ev.some_ rfl) (fun k => ?_)).to (by simp [allIn]; intros; omega)
   simp only [impl_within.l0]
   rw [if_pos (by omega), if_pos (by omega), if_pos (by omega), w64 (n := -a) (by omega) (by omega), if_pos h1]
  by_cases h2 : rd l i > a
  case pos =>
   refine (Ev.round (f := fun _ => some false) (Ev.some_ rfl) (fun k => ?_)).to (by simp [allIn]; intros; omega)
   simp only [impl_within.l0]
   rw [if_pos (by omega), if_pos (by omega), if_pos (by omega), w64 (n := -a) (by omega) (by omega), if_neg h1, if_pos h2]
  refine (Ev.round (ih (i + 1) (by omega)) (fun k => ?_)).to ?_
  ·simp only [impl_within.l0]
   rw [if_pos (by omega), if_pos (by omega), if_pos (by omega), w64 (n := -a) (by omega) (by omega), if_neg h1, if_neg h2, w64_add (by omega) (by omega)]
   simp
  ·simp [allIn]; intros; omega
theorem within_ev (l : List Int) (a : Int) (ha : 0 ≤ a) (ha' : a ≤ 9000000000000000000) (hl : l.length ≤ 35184372088832) : Ev (fun k => impl_within.f k l a) (allIn a l) :=
 (within_l0 l a ha ha' hl l.length 0 (by omega)).to (by simp)
theorem isBit_eq (a : Int) : impl_isBit.f a = some (decide (a = 0 ∨ a = 1)) := by
 unfold impl_isBit.f
 by_cases h : a = 0
 case pos => simp [h]
 rw [if_neg h]; simp [h]; by_cases h1 : a = 1 <;> simp [h1]
theorem iBitsOk_l0 (l : List Int) (hl : l.length ≤ 1048576) : ∀ (d i : Nat), i + d = l.length → Ev (fun k => impl_BitsOk.l0 k l l (l.length : Int) (i : Int)) ((l.drop i).all bitOk && decide (l.length ≤ 1024)) := by
 intro d
 induction d with
 | zero =>
  intro i hi
  refine Ev.succ ?_
  simp only [impl_BitsOk.l0]
  rw [List.drop_of_length_le (by omega)]
  exact Ev.neg (by omega) (Ev.some_ (by simp; omega))
 | succ d ih =>
  intro i hi
  refine Ev.succ ?_
  simp only [impl_BitsOk.l0, isBit_eq, Option.bind_some]
  refine Ev.pos (by omega) (Ev.pos (by omega) (Ev.pos (by omega) ?_))
  rw [drop_rd (xs := l) (i := i) (by omega), w64_add (by omega) (by omega)]
  by_cases h1 : rd l i = 0 ∨ rd l i = 1
  case neg => exact Ev.neg (by simp [h1]) (Ev.some_ (by simp [bitOk, h1]))
  exact Ev.pos (by simp [h1]) ((ih (i + 1) (by omega)).to (by simp [bitOk, h1]))
theorem iBitsOk_ev (l : List Int) (hl : l.length ≤ 1048576) : Ev (fun k => impl_BitsOk.f k l) (bitsB l) :=
 (iBitsOk_l0 l hl l.length 0 (by omega)).to (by simp [bitsB])
theorem coder_eq (m a b : Int) : impl_coder.f m a b = some (coderB m a b) := by
 unfold impl_coder.f coderB
 by_cases h : 1 ≤ m ∧ m ≤ 6
 case neg =>
  have : (if m < 1 then some false else if m > 6 then some false else if 0 ≤ wrap64 (m + 1) then (if a ≥ 1 then (if a ≤ wrap64 (shl .i64 1 (wrap64 (m + 1)) - 1) then (if b ≥ 1 then some (decide (b ≤ wrap64 (shl .i64 1 (wrap64 (m + 1)) - 1))) else some false) else some false) else some false) else none) = some false := by
   by_cases h1 : m < 1
   case pos => rw [if_pos h1]
   rw [if_neg h1, if_pos (by omega)]
  rw [this, Option.some.injEq]; symm; rw [decide_eq_false_iff_not]; exact fun hh => h hh.1
 obtain ⟨n, rfl⟩ := Int.eq_ofNat_of_zero_le (show 0 ≤ m by omega)
 have hp := pow_small (m := n) (by omega)
 rw [if_neg (by omega), if_neg (by omega), w64_add (by omega) (by omega), if_pos (by omega), show ((n : Int) + 1) = ((n + 1 : Nat) : Int) by omega, shl_one (by omega), w64 (by omega) (by omega), Int.toNat_natCast]
 by_cases h2 : 1 ≤ a
 case neg => rw [if_neg h2, Option.some.injEq]; symm; rw [decide_eq_false_iff_not]; exact fun hh => h2 hh.2.1.1
 rw [if_pos h2]
 by_cases h3 : a ≤ 2 ^ (n + 1) - 1
 case neg => rw [if_neg h3, Option.some.injEq]; symm; rw [decide_eq_false_iff_not]; exact fun hh => h3 hh.2.1.2
 rw [if_pos h3]
 by_cases h4 : 1 ≤ b
 case neg => rw [if_neg h4, Option.some.injEq]; symm; rw [decide_eq_false_iff_not]; exact fun hh => h4 hh.2.2.1
 rw [if_pos h4, Option.some.injEq, decide_eq_decide]
 exact ⟨fun h5 => ⟨h, ⟨h2, h3⟩, h4, h5⟩, fun h5 => h5.2.2.2⟩
theorem iSpread_body {m a b ta tb R n : Int} {l acc : List Int} {i : Int} {res : List Int × Bool} (hl : acc.length ≤ 1000)
 (h : Ev (fun k => impl_Spread.l0 k m a b l (acc ++ [ta, tb]) R n i) res) :
 Ev (fun k => (some ([ta, tb] : List Int)).bind fun y => if acc.length + y.length < 17592186044416 then impl_Spread.l0 k m a b l (acc ++ y) R n i else none) res := by
 simp only [Option.bind_some]
 exact Ev.pos (by simp; omega) h
theorem iSpread_l0 (m : Nat) (hm : 1 ≤ m ∧ m ≤ 6) (a b : Int) (ha : 0 ≤ a ∧ a ≤ 127) (hb : 0 ≤ b ∧ b ≤ 127) (l : List Int) (hl : l.length ≤ 120) (hbit : ∀ x ∈ l, x = 0 ∨ x = 1) : ∀ (d i : Nat) (acc : List Int) (r : Int), i + d = l.length + m → acc.length = 2 * i → 0 ≤ r → r < 2 ^ (m + 1) → Ev (fun k => impl_Spread.l0 k (m : Int) a b l acc r ((l.length : Int) + m) (i : Int)) (acc ++ spreadGo (2 ^ (m + 1)) a b l d i r, true) := by
 obtain ⟨hp1, hp2, q, hq, hq2⟩ := pow_small (m := m) (by omega)
 intro d
 induction d with
 | zero =>
  intro i acc r hi ha' hr0 hr1
  refine Ev.succ ?_
  simp only [impl_Spread.l0]
  exact Ev.neg (by omega) (Ev.some_ (by simp [spreadGo]))
 | succ d ih =>
  intro i acc r hi ha' hr0 hr1
  have hbt := bitAt_bit hbit i
  have hmod : 0 ≤ (2 * r + bitAt l i) % 2 ^ (m + 1) ∧ (2 * r + bitAt l i) % 2 ^ (m + 1) < 2 ^ (m + 1) := ⟨Int.emod_nonneg _ (by omega), Int.emod_lt_of_pos _ hp2⟩
  have A := and_bd (a := a) hp1 hmod ha.1 ha.2
  have B := and_bd (a := b) hp1 hmod hb.1 hb.2
  have rec_ := ih (i + 1) (acc ++ [parB (bits .and .i64 ((2 * r + bitAt l i) % 2 ^ (m + 1)) a), parB (bits .and .i64 ((2 * r + bitAt l i) % 2 ^ (m + 1)) b)]) _ (by omega) (by simp; omega) hmod.1 hmod.2
  have ee : acc ++ spreadGo (2 ^ (m + 1)) a b l (d + 1) i r = (acc ++ [parB (bits .and .i64 ((2 * r + bitAt l i) % 2 ^ (m + 1)) a), parB (bits .and .i64 ((2 * r + bitAt l i) % 2 ^ (m + 1)) b)]) ++ spreadGo (2 ^ (m + 1)) a b l d (i + 1) ((2 * r + bitAt l i) % 2 ^ (m + 1)) := by
   simp only [spreadGo, parB, List.append_assoc, List.cons_append, List.nil_append]
  rw [← ee] at rec_
  clear ee
  have body := iSpread_body (m := (m : Int)) (a := a) (b := b) (l := l) (acc := acc) (by omega) rec_
  have PA := parity_eq A.1 A.2
  have PB := parity_eq B.1 B.2
  clear rec_ A B hmod
  have c1 : (i : Int) < (l.length : Int) + m := by clear PA PB body; omega
  have c5 : r ≤ 127 := by clear PA PB body; omega
  have c6 : i ≤ 1000 := by clear PA PB body; omega
  have ej : bits .or .i64 (bits .and .i64 (r * 2) (2 ^ (m + 1) - 1)) (bitAt l i) = (2 * r + bitAt l i) % 2 ^ (m + 1) := by clear PA PB body; exact or_zero_join rfl (by omega) ⟨hr0, hr1⟩ hp1 hbt
  have f3 := shl_one (y := m + 1) (by omega)
  have f6 := w64_mask hp2 hp1
  obtain ⟨f1, e1, f2, f4, f5, f7⟩ := sp_facts (m := m) (n := l.length) (i := i) hm.2 hl c6 hr0 c5
  refine Ev.succ ?_
  simp only [impl_Spread.l0]
  simp only [e1, f3, f4, f6, f7]
  refine Ev.pos c1 ?_
  by_cases hil : i < l.length
  case neg =>
   have eb : bitAt l i = 0 := if_neg hil
   rw [eb] at body ej PA PB
   simp only [ej, PA, PB, Option.bind_some] at body ⊢
   exact Ev.neg (fun h => hil (Int.ofNat_lt.1 h)) (Ev.pos (nat_nonneg_ _) body)
  have eb : bitAt l i = rd l i := if_pos hil
  rw [eb] at body ej PA PB
  simp only [ej, PA, PB, Option.bind_some] at body ⊢
  exact Ev.pos (Int.ofNat_lt.2 hil) (Ev.pos (nat_nonneg_ i) (Ev.pos (nat_nonneg_ _) body))
theorem iSpread_ev (m a b : Int) (l : List Int) (hl : l.length ≤ 1048576) : Ev (fun k => impl_Spread.f k m a b l) (spreadOf m a b l) := by
 have bad : Ev (fun k => impl_Spread.j0 k m a b l true) ([], false) := by
  refine Ev.succ ?_
  simp only [impl_Spread.j0]
  exact Ev.pos trivial (Ev.some_ rfl)
 unfold impl_Spread.f spreadOf
 rw [coder_eq]
 simp only [Option.bind_some]
 by_cases h1 : coderB m a b = true
 case neg => rw [if_neg (fun h => h1 h.1)]; exact Ev.neg h1 bad
 refine Ev.pos h1 (Ev.next (iBitsOk_ev l hl) ?_)
 by_cases h2 : bitsB l = true
 case neg => rw [if_neg (fun h => h2 h.2.1)]; exact Ev.neg h2 bad
 refine Ev.pos h2 ?_
 by_cases h3 : l.length ≤ 120
 case neg => rw [if_neg (fun h => h3 h.2.2), show decide ((l.length : Int) > 120) = true by simp; omega]; exact bad
 rw [if_pos ⟨h1, h2, h3⟩, show decide ((l.length : Int) > 120) = false by simp; omega]
 have hc := h1
 unfold coderB at hc
 simp only [decide_eq_true_eq] at hc
 obtain ⟨n, rfl⟩ := Int.eq_ofNat_of_zero_le (show 0 ≤ m by omega)
 rw [Int.toNat_natCast] at hc ⊢
 have hp := pow_small (m := n) (by omega)
 refine Ev.succ ?_
 simp only [impl_Spread.j0]
 rw [w64 (n := (l.length : Int) + n) (by omega) (by omega)]
 exact Ev.neg (by simp) ((iSpread_l0 n (by omega) a b (by omega) (by omega) l h3 (bitsB_iff.1 h2).1 (l.length + n) 0 [] 0 (by omega) (by simp) (by omega) (by omega)).to (by simp))
theorem lkOne_eq {p s x : Int} (hp : p = 0 ∨ p = 1) (hs : -1000 ≤ s ∧ s ≤ 1000) (hx : -100 ≤ x ∧ x ≤ 100) : lkOne p s x = s + x * (2 * p - 1) := by
 unfold lkOne
 rcases hp with rfl | rfl
 ·rw [if_neg (by decide), w64 (by omega) (by omega)]; omega
 ·rw [if_pos rfl, w64 (by omega) (by omega)]; omega
theorem parB_bit (x : Int) : parB x = 0 ∨ parB x = 1 := by unfold parB; omega
theorem lkG_eq {a b : Int} {soft : List Int} (ha : 0 ≤ a ∧ a ≤ 127) (hb : 0 ≤ b ∧ b ≤ 127) (h : ∀ i : Nat, -100 ≤ rd soft i ∧ rd soft i ≤ 100) (hl : soft.length ≤ 1000) (t : Nat) (ht : 2 * t + 1 < soft.length) (reg : Int) : lkG a b soft t reg = some (gnV a b soft t reg) := by
 unfold lkG lkGain
 rw [if_pos ⟨by omega, by omega, by omega⟩]
 have A := bits_and_le reg a ha.1 (by omega)
 have B := bits_and_le reg b hb.1 (by omega)
 rw [parity_eq A.1 (by omega), parity_eq B.1 (by omega)]
 have h1 := h (2 * t)
 have h2 := h (2 * t + 1)
 have p1 := parB_bit (bits .and .i64 reg a)
 have p2 := parB_bit (bits .and .i64 reg b)
 simp only [Option.bind_some, Option.some.injEq]
 rw [show (2 * (t : Int)) = ((2 * t : Nat) : Int) by omega, show (((2 * t : Nat) : Int) + 1) = ((2 * t + 1 : Nat) : Int) by omega]
 rw [lkOne_eq p1 (by omega) h1, lkOne_eq p2 (by rcases p1 with e | e <;> rw [e] <;> omega) h2]
 unfold gnV
 omega
def rowOk (Q a b : Int) (n N : Nat) (soft : List Int) (x15 : List (List Int)) (j c : Nat) : Prop := ((lk_rd2 x15 (j : Int)).length : Int) = Q ∧ ∀ s : Nat, s < c → rd (lk_rd2 x15 (j : Int)) (s : Int) = bstV Q a b n soft (N - j) j (s : Int)
theorem rd2_set_eq {xs : List (List Int)} {t : Nat} (h : t < xs.length) (v : List Int) : lk_rd2 (xs.set t v) (t : Int) = v := by
 unfold lk_rd2
 simp [List.getD_eq_getElem?_getD, h]
theorem rd2_set_ne {xs : List (List Int)} {t j : Nat} (h : t ≠ j) (v : List Int) : lk_rd2 (xs.set t v) (j : Int) = lk_rd2 xs (j : Int) := by
 unfold lk_rd2
 simp [List.getD_eq_getElem?_getD, List.getElem?_set_ne h]
theorem rd_set_eq {xs : List Int} {t : Nat} (h : t < xs.length) (v : Int) : rd (xs.set t v) (t : Int) = v := by
 simp [rd_nat, List.getD_eq_getElem?_getD, h]
theorem rd_set_ne {xs : List Int} {t j : Nat} (h : t ≠ j) (v : Int) : rd (xs.set t v) (j : Int) = rd xs (j : Int) := by
 simp [rd_nat, List.getD_eq_getElem?_getD, List.getElem?_set_ne h]
theorem rowOk_other {Q a b : Int} {n N : Nat} {soft : List Int} {x15 : List (List Int)} {j c t : Nat} (h : rowOk Q a b n N soft x15 j c) (hj : t ≠ j) (v : List Int) : rowOk Q a b n N soft (x15.set t v) j c := by
 unfold rowOk at h ⊢
 rw [rd2_set_ne hj]
 exact h
theorem rowOk_next {Q a b : Int} {n N : Nat} {soft : List Int} {x15 : List (List Int)} {t s : Nat} (h : rowOk Q a b n N soft x15 t s) (ht : t < x15.length) (hs : (s : Int) < Q) {v : Int} (hv : v = bstV Q a b n soft (N - t) t (s : Int)) : rowOk Q a b n N soft (x15.set t ((lk_rd2 x15 (t : Int)).set s v)) t (s + 1) := by
 obtain ⟨h1, h2⟩ := h
 unfold rowOk
 rw [rd2_set_eq ht]
 refine ⟨by simpa using h1, fun c hc => ?_⟩
 rcases Nat.lt_or_ge c s with h3 | h3
 ·rw [rd_set_ne (by omega)]
  exact h2 c h3
 ·have : c = s := by omega
  subst this
  rw [rd_set_eq (by omega)]
  exact hv
theorem two_and (m : Nat) (hm : m ≤ 6) (x : Int) : bits .and .i64 x (2 ^ m - 1) = x % 2 ^ m := bits_and_mask x m (by omega)
theorem lk_w {s : Int} {t c : Nat} (h0 : 0 ≤ s) (h1 : s < 100) (ht : t ≤ 1000) (hc : c ≤ 1000) : wrap64 (s * 2) = 2 * s ∧ bits .or .i64 (2 * s) 1 = 2 * s + 1 ∧ bits .or .i64 (2 * s) 0 = 2 * s ∧ wrap64 ((t : Int) + 1) = ((t + 1 : Nat) : Int) ∧ wrap64 ((c : Int) + 1) = ((c + 1 : Nat) : Int) :=
 ⟨(w64 (by omega) (by omega)).trans (by omega), or_add (by omega) (by omega) (by omega) (.inr rfl), (or_add (by omega) (by omega) (by omega) (.inl rfl)).trans (by omega), (w64 (by omega) (by omega)).trans (by omega), (w64 (by omega) (by omega)).trans (by omega)⟩
theorem lk_sum {Q a b : Int} {n : Nat} {soft : List Int} (h : ∀ i : Nat, -100 ≤ rd soft i ∧ rd soft i ≤ 100) (t : Nat) (r s : Int) (d i : Nat) (hd : d ≤ 1000) : wrap64 (gnV a b soft t r + bstV Q a b n soft d i s) = gnV a b soft t r + bstV Q a b n soft d i s := by
 have b1 := bstV_bd (Q := Q) (a := a) (b := b) (n := n) h d i s
 have b3 := gnV_bd (a := a) (b := b) h t r
 exact w64 (by omega) (by omega)
theorem lk_read {Q a b : Int} {n N : Nat} {soft : List Int} {x15 : List (List Int)} {j : Nat} (h : rowOk Q a b n N soft x15 j Q.toNat) {x : Int} (h0 : 0 ≤ x) (h1 : x < Q) : rd (lk_rd2 x15 (j : Int)) x = bstV Q a b n soft (N - j) j x := by
 have := h.2 x.toNat (by omega)
 rwa [Int.toNat_of_nonneg h0] at this
theorem mx_max (x y : Int) : mx x y = max x y := by unfold mx; split <;> omega
theorem lk_l1 (m n : Nat) (hm : 1 ≤ m ∧ m ≤ 6) (a b : Int) (ha : 0 ≤ a ∧ a ≤ 127) (hb : 0 ≤ b ∧ b ≤ 127) (soft : List Int) (h100 : ∀ i : Nat, -100 ≤ rd soft i ∧ rd soft i ≤ 100) (hlen : soft.length = 2 * (n + m)) (hn : n ≤ 120) {Q : Int} (hQ : Q = 2 ^ m) (hQ2 : 0 < Q ∧ Q ≤ 64) (t : Nat) (ht : t < n + m) (res : List Int × Int × Bool) (H : ∀ x15 : List (List Int), x15.length = n + m + 1 → (∀ j : Nat, t ≤ j → j ≤ n + m → rowOk Q a b n (n + m) soft x15 j Q.toNat) → Ev (fun k => impl_Likeliest.l0 a b soft k (n : Int) (Q - 1) x15 (wrap64 ((t : Int) - 1))) res) :
 ∀ (d s : Nat) (x15 : List (List Int)), s + d = Q.toNat → x15.length = n + m + 1 → (∀ j : Nat, t < j → j ≤ n + m → rowOk Q a b n (n + m) soft x15 j Q.toNat) → rowOk Q a b n (n + m) soft x15 t s → Ev (fun k => impl_Likeliest.l1 a b soft k (n : Int) (Q - 1) x15 (t : Int) Q (s : Int)) res := by
 intro d
 induction d with
 | zero =>
  intro s x15 hs hx hj ht2
  refine Ev.succ ?_
  simp only [impl_Likeliest.l1]
  refine Ev.neg (by omega) (H x15 hx fun j h1 h2 => ?_)
  rcases Nat.lt_or_ge t j with h3 | h3
  ·exact hj j h3 h2
  ·have : j = t := by omega
   subst this
   rw [show Q.toNat = s by omega]; exact ht2
 | succ d ih =>
  intro s x15 hs hx hj ht2
  have hs2 : (s : Int) < Q := by omega
  have e1 : 0 ≤ 2 * (s : Int) % Q ∧ 2 * (s : Int) % Q < Q := ⟨Int.emod_nonneg _ (by omega), Int.emod_lt_of_pos _ hQ2.1⟩
  have e2 : 0 ≤ (2 * (s : Int) + 1) % Q ∧ (2 * (s : Int) + 1) % Q < Q := ⟨Int.emod_nonneg _ (by omega), Int.emod_lt_of_pos _ hQ2.1⟩
  have r := hj (t + 1) (by omega) (by omega)
  have q1 := ht2.1
  have E : bstV Q a b n soft (n + m - t) t (s : Int) = if t < n then max (gnV a b soft t (2 * (s : Int)) + bstV Q a b n soft (n + m - (t + 1)) (t + 1) (2 * (s : Int) % Q)) (gnV a b soft t (2 * (s : Int) + 1) + bstV Q a b n soft (n + m - (t + 1)) (t + 1) ((2 * (s : Int) + 1) % Q)) else gnV a b soft t (2 * (s : Int)) + bstV Q a b n soft (n + m - (t + 1)) (t + 1) (2 * (s : Int) % Q) := by
   rw [show n + m - t = (n + m - (t + 1)) + 1 by omega]
   simp only [bstV]
  have step : ∀ v : Int, v = bstV Q a b n soft (n + m - t) t (s : Int) → Ev (fun k => impl_Likeliest.l1 a b soft k (n : Int) (Q - 1) (x15.set t ((lk_rd2 x15 (t : Int)).set s v)) (t : Int) Q ((s + 1 : Nat) : Int)) res := fun v hv =>
   ih (s + 1) _ (by omega) (by simpa using hx) (fun j h1 h2 => rowOk_other (hj j h1 h2) (by omega) _) (rowOk_next ht2 (by omega) hs2 hv)
  have c1 : ((t + 1 : Nat) : Int) < (x15.length : Int) := by omega
  have c2 : 2 * (s : Int) % Q < ((lk_rd2 x15 ((t + 1 : Nat) : Int)).length : Int) := by rw [r.1]; exact e1.2
  have c3 : (2 * (s : Int) + 1) % Q < ((lk_rd2 x15 ((t + 1 : Nat) : Int)).length : Int) := by rw [r.1]; exact e2.2
  have c4 : (s : Int) < ((lk_rd2 x15 (t : Int)).length : Int) := by rw [q1]; exact hs2
  have c5 : (t : Int) < (x15.length : Int) := by omega
  have g1 := lkG_eq ha hb h100 (by omega) t (by omega) (2 * (s : Int))
  have g2 := lkG_eq ha hb h100 (by omega) t (by omega) (2 * (s : Int) + 1)
  have v1 := lk_read r e1.1 e1.2
  have v2 := lk_read r e2.1 e2.2
  have W1 := lk_sum (Q := Q) (a := a) (b := b) (n := n) h100 t (2 * (s : Int)) (2 * (s : Int) % Q) (n + m - (t + 1)) (t + 1) (by omega)
  have W2 := lk_sum (Q := Q) (a := a) (b := b) (n := n) h100 t (2 * (s : Int) + 1) ((2 * (s : Int) + 1) % Q) (n + m - (t + 1)) (t + 1) (by omega)
  have w5 : ∀ x : Int, bits .and .i64 x (Q - 1) = x % Q := fun x => by rw [hQ]; exact two_and m hm.2 x
  obtain ⟨w1, w2, _, w3, w4⟩ := lk_w (s := (s : Int)) (t := t) (c := s) (by omega) (by omega) (by omega) (by omega)
  refine Ev.succ ?_
  simp only [impl_Likeliest.l1]
  simp only [w1, w2, w3, w4, w5, g1, g2, v1, v2, W1, W2, Option.bind_some, Int.toNat_natCast]
  refine Ev.pos hs2 (Ev.pos (Int.natCast_nonneg _) (Ev.pos c1 (Ev.pos e1.1 (Ev.pos c2 ?_))))
  by_cases hc : t < n
  case neg =>
   rw [if_neg hc] at E
   exact Ev.neg (fun h => hc (Int.ofNat_lt.1 h)) (Ev.pos (Int.natCast_nonneg _) (Ev.pos c4 (Ev.pos (Int.natCast_nonneg _) (Ev.pos c5 (step _ E.symm)))))
  rw [if_pos hc] at E
  exact Ev.pos (Int.ofNat_lt.2 hc) (Ev.pos e2.1 (Ev.pos c3 (Ev.pos (Int.natCast_nonneg _) (Ev.pos c4 (Ev.pos (Int.natCast_nonneg _) (Ev.pos c5 (step _ (by rw [E]; exact mx_max _ _))))))))
theorem lk_l2 (m n : Nat) (hm : 1 ≤ m ∧ m ≤ 6) (a b : Int) (ha : 0 ≤ a ∧ a ≤ 127) (hb : 0 ≤ b ∧ b ≤ 127) (soft : List Int) (h100 : ∀ i : Nat, -100 ≤ rd soft i ∧ rd soft i ≤ 100) (hlen : soft.length = 2 * (n + m)) (hn : n ≤ 120) {Q : Int} (hQ : Q = 2 ^ m) (hQ2 : 0 < Q ∧ Q ≤ 64) (x15 : List (List Int)) (hx : x15.length = n + m + 1) (hr : ∀ j : Nat, j ≤ n + m → rowOk Q a b n (n + m) soft x15 j Q.toNat) :
 ∀ (d i : Nat) (s : Int) (acc : List Int), i + d = n → 0 ≤ s → s < Q → acc.length = i → Ev (fun k => impl_Likeliest.l2 a b soft k (Q - 1) x15 acc s (n : Int) (i : Int)) (acc ++ outV Q a b n m soft d i s, bstV Q a b n soft (n + m) 0 0, true) := by
 intro d
 induction d with
 | zero =>
  intro i s acc hi h0 h1 hacc
  obtain ⟨r1, r2⟩ := hr 0 (by omega)
  have v := r2 0 (by omega)
  refine Ev.succ ?_
  simp only [impl_Likeliest.l2]
  refine Ev.neg (by omega) (Ev.pos (by omega) (Ev.pos (by have r1 := r1; simp only [Int.natCast_zero] at r1; omega) (Ev.some_ ?_)))
  simp only [outV, List.append_nil]
  simp only [Int.natCast_zero, Nat.sub_zero] at v
  rw [v]
 | succ d ih =>
  intro i s acc hi h0 h1 hacc
  have e1 : 0 ≤ 2 * s % Q ∧ 2 * s % Q < Q := ⟨Int.emod_nonneg _ (by omega), Int.emod_lt_of_pos _ hQ2.1⟩
  have e2 : 0 ≤ (2 * s + 1) % Q ∧ (2 * s + 1) % Q < Q := ⟨Int.emod_nonneg _ (by omega), Int.emod_lt_of_pos _ hQ2.1⟩
  have r := hr (i + 1) (by omega)
  have q := hr i (by omega)
  have c0 : (i : Int) < (n : Int) := by omega
  have c1 : ((i + 1 : Nat) : Int) < (x15.length : Int) := by omega
  have c2 : 2 * s % Q < ((lk_rd2 x15 ((i + 1 : Nat) : Int)).length : Int) := by rw [r.1]; exact e1.2
  have c3 : (i : Int) < (x15.length : Int) := by omega
  have c4 : s < ((lk_rd2 x15 (i : Int)).length : Int) := by rw [q.1]; exact h1
  have c5 : acc.length < 17592186044416 := by omega
  have I1 := fun x => ih (i + 1) ((2 * s + 1) % Q) (acc ++ [x]) (by omega) e2.1 e2.2 (by simp [hacc])
  have I0 := fun x => ih (i + 1) (2 * s % Q) (acc ++ [x]) (by omega) e1.1 e1.2 (by simp [hacc])
  have g1 := lkG_eq ha hb h100 (by omega) i (by omega) (2 * s)
  have v1 := lk_read r e1.1 e1.2
  rw [show n + m - (i + 1) = d + m by omega] at v1
  have v2 := lk_read q h0 h1
  rw [show n + m - i = d + 1 + m by omega] at v2
  have W1 := lk_sum (Q := Q) (a := a) (b := b) (n := n) h100 i (2 * s) (2 * s % Q) (d + m) (i + 1) (by omega)
  have w5 : ∀ x : Int, bits .and .i64 x (Q - 1) = x % Q := fun x => by rw [hQ]; exact two_and m hm.2 x
  obtain ⟨w1, w2, w2', w3, _⟩ := lk_w (s := s) (t := i) (c := i) h0 (by omega) (by omega) (by omega)
  refine Ev.succ ?_
  simp only [impl_Likeliest.l2]
  simp only [w1, w2, w2', w3, w5, g1, v1, v2, W1, Option.bind_some]
  refine Ev.pos c0 (Ev.pos (Int.natCast_nonneg _) (Ev.pos c1 (Ev.pos e1.1 (Ev.pos c2 (Ev.pos (Int.natCast_nonneg _) (Ev.pos c3 (Ev.pos h0 (Ev.pos c4 ?_))))))))
  simp only [outV]
  by_cases hc : gnV a b soft i (2 * s) + bstV Q a b n soft (d + m) (i + 1) (2 * s % Q) < bstV Q a b n soft (d + 1 + m) i s
  case neg =>
   rw [if_neg hc]
   exact Ev.neg hc (Ev.pos c5 ((I0 0).to (by simp)))
  rw [if_pos hc]
  exact Ev.pos hc (Ev.pos c5 ((I1 1).to (by simp)))
theorem lk_l0 (m n : Nat) (hm : 1 ≤ m ∧ m ≤ 6) (a b : Int) (ha : 0 ≤ a ∧ a ≤ 127) (hb : 0 ≤ b ∧ b ≤ 127) (soft : List Int) (h100 : ∀ i : Nat, -100 ≤ rd soft i ∧ rd soft i ≤ 100) (hlen : soft.length = 2 * (n + m)) (hn : n ≤ 120) {Q : Int} (hQ : Q = 2 ^ m) (hQ2 : 0 < Q ∧ Q ≤ 64) :
 ∀ (t : Nat) (x15 : List (List Int)), t ≤ n + m → x15.length = n + m + 1 → (∀ j : Nat, t ≤ j → j ≤ n + m → rowOk Q a b n (n + m) soft x15 j Q.toNat) → Ev (fun k => impl_Likeliest.l0 a b soft k (n : Int) (Q - 1) x15 ((t : Int) - 1)) (outV Q a b n m soft n 0 0, bstV Q a b n soft (n + m) 0 0, true) := by
 intro t
 induction t with
 | zero =>
  intro x15 _ hx hj
  refine Ev.succ ?_
  simp only [impl_Likeliest.l0]
  exact Ev.neg (by omega) ((lk_l2 m n hm a b ha hb soft h100 hlen hn hQ hQ2 x15 hx (fun j h => hj j (by omega) h) n 0 0 [] (by omega) (by omega) hQ2.1 rfl).to (by simp))
 | succ t ih =>
  intro x15 ht hx hj
  have e : ((t + 1 : Nat) : Int) - 1 = (t : Int) := by omega
  have w1 : wrap64 (Q - 1 + 1) = Q := by rw [w64 (by omega) (by omega)]; omega
  refine Ev.succ ?_
  simp only [impl_Likeliest.l0]
  simp only [e, w1, Int.toNat_natCast, Option.bind_some]
  have hl : lk_rd2 (x15.set t (List.replicate Q.toNat 0)) (t : Int) = List.replicate Q.toNat 0 := rd2_set_eq (by omega) _
  have hlz : (((lk_rd2 (x15.set t (List.replicate Q.toNat 0)) (t : Int)).length : Nat) : Int) = Q := by rw [hl]; simp; omega
  refine Ev.pos (by omega) (Ev.pos (by omega) (Ev.pos (by omega) (Ev.pos (by omega) (Ev.pos (by omega) ?_))))
  rw [hlz]
  refine lk_l1 m n hm a b ha hb soft h100 hlen hn hQ hQ2 t (by omega) _ (fun y hy hyj => ?_) Q.toNat 0 _ (by omega) (by simpa using hx) (fun j h1 h2 => rowOk_other (hj j (by omega) h2) (by omega) _) ⟨hlz, fun s hs => by omega⟩
  rw [w64 (by omega) (by omega)]
  exact ih y (by omega) hy hyj
theorem lk_j1 (m n : Nat) (hm : 1 ≤ m ∧ m ≤ 6) (a b : Int) (ha : 0 ≤ a ∧ a ≤ 127) (hb : 0 ≤ b ∧ b ≤ 127) (soft : List Int) (h100 : ∀ i : Nat, -100 ≤ rd soft i ∧ rd soft i ≤ 100) (hlen : soft.length = 2 * (n + m)) (hn : n ≤ 120) : Ev (fun k => impl_Likeliest.j1 a b soft k (m : Int) ((n + m : Nat) : Int) (n : Int) false) (outV (2 ^ m) a b n m soft n 0 0, bstV (2 ^ m) a b n soft (n + m) 0 0, true) := by
 have hp : (0 : Int) < 2 ^ m ∧ (2 : Int) ^ m ≤ 64 := by
  obtain ⟨_, h2, q, hq, hq2⟩ := pow_small (m := m) hm.2
  rw [Int.pow_succ] at hq h2
  omega
 obtain ⟨Q, hQ⟩ : ∃ Q : Int, Q = 2 ^ m := ⟨_, rfl⟩
 have w1 : wrap64 (shl .i64 1 (m : Int) - 1) = Q - 1 := by rw [shl_one (by omega), w64 (by omega) (by omega), hQ]
 rw [← hQ] at hp ⊢
 have w2 : wrap64 (Q - 1 + 1) = Q := by rw [w64 (by omega) (by omega)]; omega
 have w3 : wrap64 (((n + m : Nat) : Int) + 1) = ((n + m + 1 : Nat) : Int) := by rw [w64 (by omega) (by omega)]; omega
 have w4 : wrap64 (((n + m : Nat) : Int) - 1) = ((n + m : Nat) : Int) - 1 := w64 (by omega) (by omega)
 refine Ev.succ ?_
 simp only [impl_Likeliest.j1]
 simp only [w1, w2, w3, w4, Int.toNat_natCast, Option.bind_some, List.length_replicate]
 have hr : lk_rd2 ((List.replicate (n + m + 1) ([] : List Int)).set (n + m) (List.replicate Q.toNat 0)) ((n + m : Nat) : Int) = List.replicate Q.toNat 0 := rd2_set_eq (by simp) _
 refine Ev.neg (by decide) (Ev.pos (by omega) (Ev.pos (by omega) (Ev.pos (by omega) (Ev.pos (by omega) (Ev.pos (by omega) (Ev.pos (by omega) (Ev.pos (by omega) ?_)))))))
 refine lk_l0 m n hm a b ha hb soft h100 hlen hn hQ hp (n + m) _ (by omega) (by simp) (fun j h1 h2 => ?_)
 have : j = n + m := by omega
 subst this
 unfold rowOk
 rw [hr]
 refine ⟨by simp; omega, fun s hs => ?_⟩
 rw [show n + m - (n + m) = 0 by omega]
 simp only [bstV]
 rw [rd_nat, List.getD_eq_getElem?_getD, List.getElem?_replicate, if_pos hs]
 rfl
def likOf (m a b : Int) (soft : List Int) : List Int × Int × Bool :=
 if coderB m a b = true ∧ soft.length % 2 = 0 ∧ allIn 100 soft = true ∧ m ≤ (soft.length / 2 : Nat) ∧ (soft.length / 2 : Nat) - m ≤ 120 then
  (outV (2 ^ m.toNat) a b (soft.length / 2 - m.toNat) m.toNat soft (soft.length / 2 - m.toNat) 0 0, bstV (2 ^ m.toNat) a b (soft.length / 2 - m.toNat) soft (soft.length / 2) 0 0, true)
 else ([], 0, false)
theorem rd_100 {soft : List Int} (h : allIn 100 soft = true) : ∀ i : Nat, -100 ≤ rd soft i ∧ rd soft i ≤ 100 := by
 intro i
 rcases Nat.lt_or_ge i soft.length with h1 | h1
 ·exact allIn_iff.1 h _ (rd_mem h1)
 ·rw [rd_nat, List.getD_eq_getElem?_getD, List.getElem?_eq_none h1]; simp
theorem iLikeliest_ev (m a b : Int) (soft : List Int) (hl : soft.length ≤ 35184372088832) : Ev (fun k => impl_Likeliest.f k m a b soft) (likOf m a b soft) := by
 have bad : Ev (fun k => impl_Likeliest.j0 a b soft k m soft true) ([], 0, false) := by
  refine Ev.succ ?_
  simp only [impl_Likeliest.j0]
  exact Ev.pos trivial (Ev.some_ rfl)
 have bad1 : ∀ x y : Int, Ev (fun k => impl_Likeliest.j1 a b soft k m x y true) ([], 0, false) := fun x y => by
  refine Ev.succ ?_
  simp only [impl_Likeliest.j1]
  exact Ev.pos trivial (Ev.some_ rfl)
 unfold impl_Likeliest.f likOf
 rw [coder_eq]
 simp only [Option.bind_some]
 by_cases h1 : coderB m a b = true
 case neg =>
  rw [if_neg (fun h => h1 h.1)]
  exact Ev.neg h1 bad
 refine Ev.pos h1 ?_
 by_cases h2 : soft.length % 2 = 0
 case neg =>
  rw [if_neg (fun h => h2 h.2.1)]
  exact Ev.neg (by omega) bad
 refine Ev.pos (by omega) (Ev.next (within_ev soft 100 (by omega) (by omega) hl) ?_)
 by_cases h3 : allIn 100 soft = true
 case neg =>
  rw [if_neg (fun h => h3 h.2.2.1)]
  rw [show (!allIn 100 soft) = true by simp [h3]]
  exact bad
 rw [h3]
 have hc := h1
 unfold coderB at hc
 simp only [decide_eq_true_eq] at hc
 obtain ⟨n, rfl⟩ := Int.eq_ofNat_of_zero_le (show 0 ≤ m by omega)
 rw [Int.toNat_natCast] at hc ⊢
 have hp := pow_small (m := n) (by omega)
 have w1 : wrap64 ((soft.length : Int) / 2) = ((soft.length / 2 : Nat) : Int) := by rw [w64 (by omega) (by omega)]; omega
 refine Ev.succ ?_
 simp only [impl_Likeliest.j0, Bool.not_true]
 rw [w1]
 refine Ev.neg (by decide) ?_
 have w2 : wrap64 (((soft.length / 2 : Nat) : Int) - (n : Int)) = ((soft.length / 2 : Nat) : Int) - (n : Int) := w64 (by omega) (by omega)
 rw [w2]
 by_cases h4 : (n : Int) ≤ ((soft.length / 2 : Nat) : Int)
 case neg =>
  rw [if_neg (fun h => h4 h.2.2.2.1)]
  exact Ev.pos (by omega) (bad1 _ _)
 refine Ev.neg (by omega) ?_
 by_cases h5 : ((soft.length / 2 : Nat) : Int) - (n : Int) ≤ 120
 case neg =>
  rw [if_neg (fun h => h5 h.2.2.2.2), show decide (((soft.length / 2 : Nat) : Int) - (n : Int) > 120) = true by simp; omega]
  exact bad1 _ _
 rw [if_pos ⟨h1, h2, trivial, h4, h5⟩, show decide (((soft.length / 2 : Nat) : Int) - (n : Int) > 120) = false by simp; omega]
 obtain ⟨N, hN⟩ : ∃ N, N = soft.length / 2 - n := ⟨_, rfl⟩
 have e1 : soft.length / 2 = N + n := by omega
 rw [← hN, e1, show (((N + n : Nat) : Int) - (n : Int)) = (N : Int) by omega]
 exact lk_j1 n N (by omega) a b (by omega) (by omega) soft (rd_100 h3) (by omega) (by omega)
/-! Places where two lists differ; the coder of memory 2 with masks 7 and 5 keeps two words five places apart. -/
def hamD : List Int → List Int → Nat
 | x :: xs, y :: ys => (if x = y then 0 else 1) + hamD xs ys
 | _, _ => 0
theorem hamD_self : ∀ xs, hamD xs xs = 0
 | [] => rfl
 | x :: xs => by simp [hamD, hamD_self xs]
theorem hamD_comm : ∀ xs ys, hamD xs ys = hamD ys xs
 | [], [] => rfl
 | [], _ :: _ => rfl
 | _ :: _, [] => rfl
 | x :: xs, y :: ys => by
  simp only [hamD, hamD_comm xs ys]
  by_cases h : x = y
  case pos => subst h; rfl
  rw [if_neg h, if_neg (Ne.symm h)]
theorem hamD_tri : ∀ xs ys zs, xs.length = ys.length → ys.length = zs.length → hamD xs zs ≤ hamD xs ys + hamD ys zs
 | [], _, _, _, _ => by simp [hamD]
 | x :: xs, [], _, h, _ => by simp at h
 | x :: xs, y :: ys, [], _, h => by simp at h
 | x :: xs, y :: ys, z :: zs, h, h2 => by
  have := hamD_tri xs ys zs (by simpa using h) (by simpa using h2)
  simp only [hamD]
  by_cases a : x = y
  case pos => subst a; simp; omega
  by_cases b : y = z
  case pos => subst b; rw [if_neg a]; simp; omega
  rw [if_neg a, if_neg b]; split <;> omega
theorem hamD_set : ∀ (A C : List Int) (p : Nat) (x : Int), p < A.length → p < C.length → rd A p = rd C p → x ≠ rd C p → hamD (A.set p x) C = hamD A C + 1
 | [], _, p, x, h, _, _, _ => by simp at h
 | a :: A, [], p, x, _, h, _, _ => by simp at h
 | a :: A, c :: C, 0, x, _, _, h, h2 => by
  have h : a = c := h
  have h2 : x ≠ c := h2
  simp only [List.set_cons_zero, hamD]
  rw [if_neg h2, if_pos h]; omega
 | a :: A, c :: C, p + 1, x, h0, h1, h, h2 => by
  have := hamD_set A C p x (by simpa using h0) (by simpa using h1) (show A.getD p 0 = C.getD p 0 from h) (show x ≠ C.getD p 0 from h2)
  simp only [List.set_cons_succ, hamD]
  omega
theorem dotS_ham : ∀ xs ys : List Int, xs.length = ys.length → (∀ x ∈ xs, x = 0 ∨ x = 1) → (∀ y ∈ ys, y = 0 ∨ y = 1) → dotS (xs.map fun x => 2 * x - 1) ys = (xs.length : Int) - 2 * (hamD xs ys : Int)
 | [], [], _, _, _ => rfl
 | [], _ :: _, h, _, _ => by simp at h
 | _ :: _, [], h, _, _ => by simp at h
 | x :: xs, y :: ys, h, hx, hy => by
  have := dotS_ham xs ys (by simpa using h) (fun z hz => hx z (by simp [hz])) (fun z hz => hy z (by simp [hz]))
  simp only [List.map_cons, dotS, hamD, this, List.length_cons]
  rcases hx x (by simp) with e | e <;> rcases hy y (by simp) with e2 | e2 <;> subst e <;> subst e2 <;> simp <;> omega
def potS (r s : Int) : Nat := if r % 4 = s % 4 then 0 else if r % 2 = s % 2 then 2 else 3
def stpH (r s x y : Int) : Nat := (if parB (bits .and .i64 ((2 * r + x) % 8) 7) = parB (bits .and .i64 ((2 * s + y) % 8) 7) then 0 else 1) + (if parB (bits .and .i64 ((2 * r + x) % 8) 5) = parB (bits .and .i64 ((2 * s + y) % 8) 5) then 0 else 1)
theorem pot_step : ∀ r s : Fin 8, ∀ x y : Fin 2, potS (r.1 : Nat) (s.1 : Nat) ≤ stpH (r.1 : Nat) (s.1 : Nat) (x.1 : Nat) (y.1 : Nat) + potS ((2 * (r.1 : Nat) + (x.1 : Nat)) % 8 : Int) ((2 * (s.1 : Nat) + (y.1 : Nat)) % 8 : Int) := by decide +kernel
theorem pot_end : ∀ r s : Fin 8, potS (r.1 : Nat) (s.1 : Nat) ≤ stpH (r.1 : Nat) (s.1 : Nat) 0 0 + stpH ((2 * (r.1 : Nat) + 0) % 8 : Int) ((2 * (s.1 : Nat) + 0) % 8 : Int) 0 0 := by decide +kernel
theorem pot_start : ∀ r : Fin 8, ∀ x y : Fin 2, x ≠ y → 5 ≤ stpH (r.1 : Nat) (r.1 : Nat) (x.1 : Nat) (y.1 : Nat) + potS ((2 * (r.1 : Nat) + (x.1 : Nat)) % 8 : Int) ((2 * (r.1 : Nat) + (y.1 : Nat)) % 8 : Int) := by decide +kernel
theorem ham_cons (l u : List Int) (d i : Nat) (r s : Int) : hamD (spreadGo 8 7 5 l (d + 1) i r) (spreadGo 8 7 5 u (d + 1) i s) = stpH r s (bitAt l i) (bitAt u i) + hamD (spreadGo 8 7 5 l d (i + 1) ((2 * r + bitAt l i) % 8)) (spreadGo 8 7 5 u d (i + 1) ((2 * s + bitAt u i) % 8)) := by
 simp only [spreadGo, hamD, stpH]
 omega
theorem fin_of {r : Int} {n : Nat} (h : 0 ≤ r ∧ r < n) : ∃ k : Fin n, r = ((k.1 : Nat) : Int) := ⟨⟨r.toNat, by omega⟩, by simp; omega⟩
theorem fin_bit {x : Int} (h : x = 0 ∨ x = 1) : ∃ k : Fin 2, x = ((k.1 : Nat) : Int) := fin_of (n := 2) (by omega)
theorem ham_pot (l u : List Int) (hl : ∀ x ∈ l, x = 0 ∨ x = 1) (hu : ∀ x ∈ u, x = 0 ∨ x = 1) (he : l.length = u.length) : ∀ d i r s, i + d = l.length → 0 ≤ r ∧ r < 8 → 0 ≤ s ∧ s < 8 → potS r s ≤ hamD (spreadGo 8 7 5 l (d + 2) i r) (spreadGo 8 7 5 u (d + 2) i s)
 | 0, i, r, s, hi, hr, hs => by
  rw [ham_cons, ham_cons, bitAt_past (by omega), bitAt_past (l := u) (by omega), bitAt_past (by omega), bitAt_past (l := u) (by omega)]
  obtain ⟨k, rfl⟩ := fin_of (n := 8) hr
  obtain ⟨j, rfl⟩ := fin_of (n := 8) hs
  have := pot_end k j
  omega
 | d + 1, i, r, s, hi, hr, hs => by
  rw [ham_cons]
  have := ham_pot l u hl hu he d (i + 1) ((2 * r + bitAt l i) % 8) ((2 * s + bitAt u i) % 8) (by omega) (by omega) (by omega)
  obtain ⟨k, rfl⟩ := fin_of (n := 8) hr
  obtain ⟨j, rfl⟩ := fin_of (n := 8) hs
  obtain ⟨x, hx⟩ := fin_bit (bitAt_bit hl i)
  obtain ⟨y, hy⟩ := fin_bit (bitAt_bit hu i)
  rw [hx, hy] at this ⊢
  have := pot_step k j x y
  omega
theorem ham_five (l u : List Int) (hl : ∀ x ∈ l, x = 0 ∨ x = 1) (hu : ∀ x ∈ u, x = 0 ∨ x = 1) (he : l.length = u.length) : ∀ d i r, i + d = l.length → 0 ≤ r ∧ r < 8 → l.drop i ≠ u.drop i → 5 ≤ hamD (spreadGo 8 7 5 l (d + 2) i r) (spreadGo 8 7 5 u (d + 2) i r)
 | 0, i, r, hi, hr, hn => by
  exact absurd (by rw [List.drop_of_length_le (by omega), List.drop_of_length_le (by omega)]) hn
 | d + 1, i, r, hi, hr, hn => by
  rw [ham_cons]
  by_cases hb : bitAt l i = bitAt u i
  case neg =>
   have := ham_pot l u hl hu he d (i + 1) ((2 * r + bitAt l i) % 8) ((2 * r + bitAt u i) % 8) (by omega) (by omega) (by omega)
   obtain ⟨k, rfl⟩ := fin_of (n := 8) hr
   obtain ⟨x, hx⟩ := fin_bit (bitAt_bit hl i)
   obtain ⟨y, hy⟩ := fin_bit (bitAt_bit hu i)
   rw [hx, hy] at this hb ⊢
   have := pot_start k x y (fun e => hb (by rw [e]))
   omega
  have h2 := ham_five l u hl hu he d (i + 1) ((2 * r + bitAt l i) % 8) (by omega) (by omega) (fun e => hn (by
   rw [drop_rd (xs := l) (i := i) (by omega), drop_rd (xs := u) (i := i) (by omega), e]
   have h3 : bitAt l i = rd l i := if_pos (by omega)
   have h4 : bitAt u i = rd u i := if_pos (by omega)
   rw [← h3, ← h4, hb]))
  rw [← hb]
  omega
def softOf (l : List Int) : List Int × Bool := if bitsB l = true then (l.map fun x => 2 * x - 1, true) else ([], false)
theorem iSoften_l0 (l : List Int) (hl : l.length ≤ 1048576) (hb : ∀ x ∈ l, x = 0 ∨ x = 1) : ∀ (d i : Nat) (acc : List Int), i + d = l.length → acc.length = i → Ev (fun k => impl_Soften.l0 k 1 acc l (l.length : Int) (i : Int)) (acc ++ (l.drop i).map (fun x => 2 * x - 1), true) := by
 intro d
 induction d with
 | zero =>
  intro i acc hi ha
  refine Ev.succ ?_
  simp only [impl_Soften.l0]
  rw [List.drop_of_length_le (by omega)]
  exact Ev.neg (by omega) (Ev.some_ (by simp))
 | succ d ih =>
  intro i acc hi ha
  have hx := hb _ (rd_mem (xs := l) (i := i) (by omega))
  have e : wrap64 (wrap64 (wrap64 (2 * rd l i) - 1) * 1) = 2 * rd l i - 1 := by
   rcases hx with h | h <;> rw [h] <;> decide +kernel
  refine Ev.succ ?_
  simp only [impl_Soften.l0, e]
  rw [drop_rd (xs := l) (i := i) (by omega), w64_add (by omega) (by omega)]
  exact Ev.pos (by omega) (Ev.pos (by omega) (Ev.pos (by omega) (Ev.pos (by omega) ((ih (i + 1) (acc ++ [2 * rd l i - 1]) (by omega) (by simp [ha])).to (by simp)))))
theorem iSoften_ev (l : List Int) (hl : l.length ≤ 1048576) : Ev (fun k => impl_Soften.f k l 1) (softOf l) := by
 have bad : Ev (fun k => impl_Soften.j0 k l 1 true) ([], false) := by
  refine Ev.succ ?_
  simp only [impl_Soften.j0]
  exact Ev.pos trivial (Ev.some_ rfl)
 unfold impl_Soften.f softOf
 refine Ev.next (iBitsOk_ev l hl) ?_
 by_cases h : bitsB l = true
 case neg =>
  rw [if_neg h]
  exact Ev.neg h bad
 rw [if_pos h]
 refine Ev.pos h (Ev.neg (by decide) ?_)
 refine Ev.succ ?_
 simp only [impl_Soften.j0]
 exact Ev.neg (by decide) ((iSoften_l0 l hl (bitsB_iff.1 h).1 l.length 0 [] (by omega) rfl).to (by simp))
theorem l1New_l0 (l : List Int) : ∀ (d i : Nat) (h : Int), i + d = l.length → (i : Int) ≤ 4000 → EvP (fun k => spec_l1New.l0 k l h (i : Int)) (fun r => r.1 = l ∧ r.2.1 = 0) := by
 intro d
 induction d with
 | zero =>
  intro i h hi _
  refine EvP.succ ?_
  simp only [spec_l1New.l0]
  exact EvP.neg (by omega) (EvP.now ⟨rfl, rfl⟩)
 | succ d ih =>
  intro i h hi hi2
  refine EvP.succ ?_
  simp only [spec_l1New.l0]
  refine EvP.pos (by omega) ?_
  by_cases h4 : (i : Int) < 4000
  case neg => exact EvP.neg h4 (EvP.now ⟨rfl, rfl⟩)
  rw [w64_add (by omega) (by omega)]
  exact EvP.pos h4 (EvP.pos (by omega) (ih (i + 1) _ (by omega) (by omega)))
theorem l1New_ev (l : List Int) : EvP (fun k => spec_l1New.f k l) (fun r => r.1 = l ∧ r.2.1 = 0) := l1New_l0 l l.length 0 _ (by omega) (by omega)
theorem l1Byte_ok (l : List Int) (p h : Int) (h0 : 0 ≤ p) (h1 : p ≤ l.length) (hl : l.length ≤ 1048576) : ∃ r, spec_l1Byte.f l p h = some r ∧ (0 ≤ r.1 ∧ r.1 ≤ 255) ∧ 0 ≤ r.2.1 ∧ r.2.1 ≤ l.length := by
 unfold spec_l1Byte.f
 by_cases hp : p < (l.length : Int)
 case neg =>
  rw [if_neg hp]
  exact ⟨_, rfl, bits_and_le _ 255 (by omega) (by omega), h0, h1⟩
 rw [if_pos hp, if_pos h0]
 refine ⟨_, rfl, bits_and_le _ 255 (by omega) (by omega), ?_⟩
 simp only
 rw [w64_add h0 (by omega)]
 omega
theorem l1Below_ok (l : List Int) (p h n : Int) (h0 : 0 ≤ p) (h1 : p ≤ l.length) (hl : l.length ≤ 1048576) : ∃ r, spec_l1Below.f l p h n = some r ∧ (0 ≤ r.1 ∧ (r.1 < n ∨ r.1 = 0)) ∧ 0 ≤ r.2.1 ∧ r.2.1 ≤ l.length := by
 unfold spec_l1Below.f
 by_cases hn : n ≤ 0
 ·rw [if_pos hn]; exact ⟨_, rfl, ⟨by simp, .inr rfl⟩, h0, h1⟩
 rw [if_neg hn]
 have tm : ∀ x : Int, 0 ≤ x → 0 ≤ Int.tmod x n ∧ Int.tmod x n < n := fun x hx => by
  rw [Int.tmod_eq_emod_of_nonneg hx]
  exact ⟨Int.emod_nonneg _ (by omega), Int.emod_lt_of_pos _ (by omega)⟩
 by_cases h2 : n ≤ 256
 case pos =>
  rw [if_pos h2]
  obtain ⟨r, e, hb, hp⟩ := l1Byte_ok l p h h0 h1 hl
  rw [e]
  simp only [Option.bind_some]
  rw [if_neg (by omega)]
  exact ⟨_, rfl, ⟨(tm _ hb.1).1, .inl (tm _ hb.1).2⟩, hp⟩
 rw [if_neg h2]
 obtain ⟨r, e, hb, hp⟩ := l1Byte_ok l p h h0 h1 hl
 obtain ⟨r2, e2, hb2, hp2⟩ := l1Byte_ok l r.2.1 r.2.2 hp.1 hp.2 hl
 obtain ⟨r3, e3, hb3, hp3⟩ := l1Byte_ok l r2.2.1 r2.2.2 hp2.1 hp2.2 hl
 obtain ⟨r4, e4, hb4, hp4⟩ := l1Byte_ok l r3.2.1 r3.2.2 hp3.1 hp3.2 hl
 rw [e]; simp only [Option.bind_some]
 rw [e2]; simp only [Option.bind_some]
 rw [e3]; simp only [Option.bind_some]
 rw [e4]; simp only [Option.bind_some]
 rw [if_neg (by omega), w64 (n := r.1 * 16777216) (by omega) (by omega), w64 (n := r2.1 * 65536) (by omega) (by omega), w64 (n := r3.1 * 256) (by omega) (by omega), w64 (n := r.1 * 16777216 + _) (by omega) (by omega), w64 (n := r.1 * 16777216 + _ + _) (by omega) (by omega), w64 (n := r.1 * 16777216 + _ + _ + _) (by omega) (by omega)]
 exact ⟨_, rfl, ⟨(tm _ (by omega)).1, .inl (tm _ (by omega)).2⟩, hp4⟩
theorem l13Draw_l0 (l : List Int) (hl : l.length ≤ 1048576) : ∀ (d : Nat) (xs : List Int) (p h : Int), xs.length + d ≤ 100000 → 0 ≤ p → p ≤ l.length → (∀ x ∈ xs, x = 0 ∨ x = 1) → EvP (fun k => spec_l13Draw.l0 k xs (d : Int) l p h) (fun r => (r.1.length = xs.length + d ∧ ∀ x ∈ r.1, x = 0 ∨ x = 1) ∧ 0 ≤ r.2.1 ∧ r.2.1 ≤ l.length) := by
 intro d
 induction d with
 | zero =>
  intro xs p h hx h0 h1 hb
  refine EvP.succ ?_
  simp only [spec_l13Draw.l0]
  exact EvP.neg (by omega) (EvP.now ⟨⟨rfl, hb⟩, h0, h1⟩)
 | succ d ih =>
  intro xs p h hx h0 h1 hb
  refine EvP.succ ?_
  simp only [spec_l13Draw.l0]
  obtain ⟨r, e, hr, hp⟩ := l1Below_ok l p h 2 h0 h1 hl
  rw [e]; simp only [Option.bind_some]
  refine EvP.pos (by omega) (EvP.pos (by omega) ?_)
  rw [show wrap64 (((d + 1 : Nat) : Int) - 1) = (d : Int) by rw [w64 (by omega) (by omega)]; omega]
  refine (ih (xs ++ [r.1]) r.2.1 r.2.2 (by simp; omega) hp.1 hp.2 ?_).mono (fun r h => ⟨⟨by simpa [Nat.add_assoc, Nat.add_comm 1] using h.1.1, h.1.2⟩, h.2⟩)
  intro x hx
  rcases List.mem_append.1 hx with h | h
  ·exact hb x h
  ·simp at h; omega
theorem l13Draw_ev (l : List Int) (hl : l.length ≤ 1048576) (p h n : Int) (h0 : 0 ≤ p) (h1 : p ≤ l.length) (hn : 0 ≤ n ∧ n ≤ 1000) : EvP (fun k => spec_l13Draw.f k l p h n) (fun r => ((r.1.length : Int) ≤ n ∧ ∀ x ∈ r.1, x = 0 ∨ x = 1) ∧ 0 ≤ r.2.1 ∧ r.2.1 ≤ l.length) := by
 unfold spec_l13Draw.f
 obtain ⟨r, e, hb, hp⟩ := l1Below_ok l p h (wrap64 (n + 1)) h0 h1 hl
 rw [w64 (by omega) (by omega)] at hb
 rw [e]; simp only [Option.bind_some]
 have hr : r.1 = ((r.1.toNat : Nat) : Int) := by omega
 rw [hr]
 exact (l13Draw_l0 l hl _ _ _ _ (by simp; omega) hp.1 hp.2 (by simp)).mono (fun r h => ⟨⟨by have := h.1.1; simp at this; omega, h.1.2⟩, h.2⟩)
theorem sameInts_l0 (a b : List Int) (h : a.length = b.length) (hl : a.length ≤ 35184372088832) : ∀ (d i : Nat), i + d = a.length → Ev (fun k => laws_sameInts.l0 k a b (i : Int)) (decide (a.drop i = b.drop i)) := by
 intro d
 induction d with
 | zero =>
  intro i hi
  refine Ev.round (f := fun _ => some true) (Ev.some_ ?_) (fun k => by simp only [laws_sameInts.l0]; rw [if_neg (by omega)])
  rw [List.drop_of_length_le (by omega), List.drop_of_length_le (by omega)]; simp
 | succ d ih =>
  intro i hi
  by_cases he : rd a i = rd b i
  case neg =>
   refine (Ev.round (f := fun _ => some false) (Ev.some_ rfl) (fun k => ?_)).to ?_
   ·simp only [laws_sameInts.l0]
    rw [if_pos (by omega), if_pos (by omega), if_pos (by omega), if_neg he]
   ·rw [drop_rd (xs := a) (i := i) (by omega), drop_rd (xs := b) (i := i) (by omega)]; simp [he]
  refine (Ev.round (ih (i + 1) (by omega)) (fun k => ?_)).to ?_
  ·simp only [laws_sameInts.l0]
   rw [if_pos (by omega), if_pos (by omega), if_pos (by omega), if_pos he, w64_add (by omega) (by omega)]; simp
  ·rw [drop_rd (xs := a) (i := i) (by omega), drop_rd (xs := b) (i := i) (by omega), he]; simp
theorem sameInts_ev (a b : List Int) (hl : a.length ≤ 35184372088832) : Ev (fun k => laws_sameInts.f k a b) (decide (a = b)) := by
 unfold laws_sameInts.f
 by_cases h : a.length = b.length
 case pos => exact Ev.pos (by omega) (sameInts_l0 a b h hl a.length 0 (by omega))
 exact (Ev.neg (by omega) (Ev.some_ rfl)).to (by simp; intro e; exact h (by rw [e]))
def noisyP (n : Int) (ps : List Int) : Prop := ps = [] ∨ (∃ p, ps = [p] ∧ 0 ≤ p ∧ p < n) ∨ ∃ p q, ps = [p, q] ∧ p ≠ q ∧ (0 ≤ p ∧ p < n) ∧ 0 ≤ q ∧ q < n
theorem DrawNoisy_l0 (l : List Int) (hl : l.length ≤ 1048576) (bs : List Int) (n : Int) (hn : 0 < n) : ∀ (d : Nat) (ps : List Int) (p h : Int), ps.length + d ≤ 2 → 0 ≤ p → p ≤ l.length → noisyP n ps → EvP (fun k => spec_DrawNoisy.l0 k bs n ps (d : Int) l p h) (fun r => r.1 = bs ∧ noisyP n r.2) := by
 intro d
 induction d with
 | zero =>
  intro ps p h hx h0 h1 hb
  refine EvP.succ ?_
  simp only [spec_DrawNoisy.l0]
  exact EvP.neg (by omega) (EvP.now ⟨rfl, hb⟩)
 | succ d ih =>
  intro ps p h hx h0 h1 hb
  refine EvP.succ ?_
  simp only [spec_DrawNoisy.l0]
  obtain ⟨r, e, hr, hp⟩ := l1Below_ok l p h n h0 h1 hl
  rw [e]; simp only [Option.bind_some]
  rw [show wrap64 (((d + 1 : Nat) : Int) - 1) = (d : Int) by rw [w64 (by omega) (by omega)]; omega]
  refine EvP.pos (by omega) ?_
  rcases hb with rfl | ⟨a, rfl, ha⟩ | ⟨a, b, rfl, _⟩
  ·exact EvP.pos (by simp) (EvP.pos (by simp) (ih _ _ _ (by simp at hx ⊢; omega) hp.1 hp.2 (.inr (.inl ⟨r.1, rfl, by omega⟩))))
  ·refine EvP.neg (by simp) (EvP.pos (by simp) (EvP.both (fun _ => ih _ _ _ (by simp at hx ⊢; omega) hp.1 hp.2 (.inr (.inl ⟨a, rfl, ha⟩))) (fun hne => EvP.pos (by simp) (ih _ _ _ (by simp at hx ⊢; omega) hp.1 hp.2 (.inr (.inr ⟨a, r.1, rfl, fun h => hne (by rw [← h]; rfl), ha, by omega⟩))))))
  ·simp at hx; omega
theorem DrawNoisy_ev (l : List Int) (hl : l.length ≤ 1048576) : EvP (fun k => spec_DrawNoisy.f k l) (fun r => (r.1.length ≤ 30 ∧ ∀ x ∈ r.1, x = 0 ∨ x = 1) ∧ noisyP (2 * (r.1.length + 2)) r.2) := by
 unfold spec_DrawNoisy.f
 refine EvP.next (l1New_ev l) ?_
 rintro ⟨l', p', h'⟩ ⟨rfl, hp⟩
 simp only at hp
 subst hp
 refine EvP.next (l13Draw_ev l' hl 0 h' 30 (by omega) (by omega) (by omega)) ?_
 rintro ⟨bs, p, h⟩ ⟨⟨hb1, hb2⟩, h0, h1⟩
 simp only at hb1 hb2 h0 h1
 obtain ⟨r, e, hr, hp⟩ := l1Below_ok l' p h 3 h0 h1 hl
 simp only [e, Option.bind_some]
 have e1 : wrap64 (2 * wrap64 ((bs.length : Int) + 2)) = 2 * ((bs.length : Int) + 2) := by rw [w64 (n := (bs.length : Int) + 2) (by omega) (by omega), w64 (by omega) (by omega)]
 rw [e1, show r.1 = ((r.1.toNat : Nat) : Int) by omega]
 refine (DrawNoisy_l0 l' hl bs _ (by omega) _ [] _ _ (by simp; omega) hp.1 hp.2 (.inl rfl)).mono ?_
 rintro ⟨b2, ps⟩ ⟨h2, h3⟩
 simp only at h2 h3
 subst h2
 exact ⟨⟨by simp only; omega, hb2⟩, h3⟩
def flipAll : List Int → List Int → List Int
 | L, [] => L
 | L, p :: ps => flipAll (L.set p.toNat (1 - rd L p)) ps
theorem flip_bit {L : List Int} (hL : ∀ x ∈ L, x = 0 ∨ x = 1) (p : Int) : ∀ x ∈ L.set p.toNat (1 - rd L p), x = 0 ∨ x = 1 := by
 intro x hx
 rcases List.mem_or_eq_of_mem_set hx with h | h
 ·exact hL x h
 ·have : rd L p = 0 ∨ rd L p = 1 := by
   unfold rd
   rcases Nat.lt_or_ge p.toNat L.length with h1 | h1
   ·rw [List.getD_eq_getElem?_getD, List.getElem?_eq_getElem h1]
    exact hL _ (List.getElem_mem h1)
   ·rw [List.getD_eq_getElem?_getD, List.getElem?_eq_none h1]; exact .inl rfl
  omega
theorem flipAll_bit : ∀ (ps L : List Int), (∀ x ∈ L, x = 0 ∨ x = 1) → ∀ x ∈ flipAll L ps, x = 0 ∨ x = 1
 | [], _, h => h
 | p :: ps, L, h => flipAll_bit ps _ (flip_bit h p)
theorem flipAll_len : ∀ (ps L : List Int), (flipAll L ps).length = L.length
 | [], _ => rfl
 | p :: ps, L => by simp only [flipAll, flipAll_len ps]; simp
theorem law_flips (bs places : List Int) (res : Bool) (hp : places.length ≤ 2) : ∀ (d i : Nat) (L : List Int), i + d = places.length → (∀ x ∈ L, x = 0 ∨ x = 1) → (∀ p ∈ places, 0 ≤ p ∧ p < (L.length : Int)) → Ev (fun k => laws_FnLikeliest.l0 k bs places (flipAll L (places.drop i)) (places.length : Int)) res → Ev (fun k => laws_FnLikeliest.l0 k bs places L (i : Int)) res := by
 intro d
 induction d with
 | zero =>
  intro i L hi hL hpl H
  rw [List.drop_of_length_le (by omega)] at H
  rw [show (i : Int) = (places.length : Int) by omega]
  exact H
 | succ d ih =>
  intro i L hi hL hpl H
  have hm := hpl _ (rd_mem (xs := places) (i := i) (by omega))
  refine Ev.succ ?_
  simp only [laws_FnLikeliest.l0]
  have hb : rd L (rd places i) = 0 ∨ rd L (rd places i) = 1 := by
   have := rd_mem (xs := L) (i := (rd places i).toNat) (by omega)
   rw [Int.toNat_of_nonneg hm.1] at this
   exact hL _ this
  rw [w64 (n := 1 - rd L (rd places i)) (by omega) (by omega), w64_add (by omega) (by omega)]
  refine Ev.pos (by omega) (Ev.pos (by omega) (Ev.pos hm.1 (Ev.pos hm.2 ?_)))
  refine ih (i + 1) _ (by omega) (flip_bit hL _) (by simpa using hpl) ?_
  rw [drop_rd (xs := places) (i := i) (by omega)] at H
  exact H
theorem spreadGo_bit (M a b : Int) (l : List Int) : ∀ d i r, ∀ x ∈ spreadGo M a b l d i r, x = 0 ∨ x = 1
 | 0, _, _ => by simp [spreadGo]
 | d + 1, i, r => by
  intro x hx
  simp only [spreadGo, List.mem_cons] at hx
  rcases hx with h | h | h
  ·rw [h]; exact parB_bit _
  ·rw [h]; exact parB_bit _
  ·exact spreadGo_bit M a b l d _ _ x h
theorem flip_ham (C : List Int) (hC : ∀ x ∈ C, x = 0 ∨ x = 1) (ps : List Int) (h : noisyP C.length ps) : hamD (flipAll C ps) C = ps.length := by
 have one : ∀ p : Int, 0 ≤ p ∧ p < (C.length : Int) → ((1 - rd C p ≠ rd C p) ∧ rd C p = rd C (p.toNat : Int)) := fun p hp => by
  have := rd_mem (xs := C) (i := p.toNat) (by omega)
  rw [Int.toNat_of_nonneg hp.1] at this ⊢
  have := hC _ this
  exact ⟨by omega, rfl⟩
 rcases h with rfl | ⟨p, rfl, hp⟩ | ⟨p, q, rfl, hne, hp, hq⟩
 ·exact hamD_self _
 ·have := hamD_set C C p.toNat (1 - rd C p) (by omega) (by omega) rfl (by rw [← (one p hp).2]; exact (one p hp).1)
  rw [hamD_self] at this
  exact this
 ·have h1 := hamD_set C C p.toNat (1 - rd C p) (by omega) (by omega) rfl (by rw [← (one p hp).2]; exact (one p hp).1)
  rw [hamD_self] at h1
  have e : rd (C.set p.toNat (1 - rd C p)) (q.toNat : Int) = rd C (q.toNat : Int) := rd_set_ne (by omega) _
  have e2 : rd (C.set p.toNat (1 - rd C p)) q = rd C q := by rw [Int.toNat_of_nonneg hq.1] at e; exact e
  have h2 := hamD_set (C.set p.toNat (1 - rd C p)) C q.toNat (1 - rd C q) (by simp; omega) (by omega) e (by rw [← (one q hq).2]; exact (one q hq).1)
  simp only [flipAll, e2]
  rw [h2, h1]
  rfl
theorem lik_back (bs : List Int) (hb : ∀ x ∈ bs, x = 0 ∨ x = 1) (hn : bs.length ≤ 30) (L : List Int) (hL : ∀ x ∈ L, x = 0 ∨ x = 1) (hlen : L.length = 2 * (bs.length + 2)) (hh : hamD L (spreadGo 8 7 5 bs (bs.length + 2) 0 0) ≤ 2) :
 likOf 2 7 5 (L.map fun x => 2 * x - 1) = (bs, (L.length : Int) - 2 * (hamD L (spreadGo 8 7 5 bs (bs.length + 2) 0 0) : Int), true) := by
 obtain ⟨soft, hs⟩ : ∃ soft, soft = L.map fun x => 2 * x - 1 := ⟨_, rfl⟩
 have hsl : soft.length = 2 * (bs.length + 2) := by rw [hs]; simpa using hlen
 have hin : allIn 100 soft = true := allIn_iff.2 fun x hx => by
  rw [hs] at hx
  obtain ⟨y, hy, rfl⟩ := List.mem_map.1 hx
  have := hL y hy
  omega
 rw [← hs]
 unfold likOf
 rw [if_pos ⟨by decide, by omega, hin, by omega, by omega⟩]
 have e1 : soft.length / 2 - Int.toNat 2 = bs.length := by rw [show Int.toNat 2 = 2 from rfl]; omega
 have e2 : soft.length / 2 = bs.length + 2 := by omega
 rw [e1, e2, show Int.toNat 2 = 2 from rfl, show (2 : Int) ^ 2 = 4 by decide]
 obtain ⟨u, hu⟩ : ∃ u, u = outV 4 7 5 bs.length 2 soft bs.length 0 0 := ⟨_, rfl⟩
 have hul : u.length = bs.length := by rw [hu]; exact outV_len _ _ _ _ _ _ _ _ _
 have hub : ∀ x ∈ u, x = 0 ∨ x = 1 := by rw [hu]; exact outV_bit _ _ _ _ _ _ _ _ _
 have a1 := outV_att 4 7 5 bs.length 2 soft u hul bs.length 0 0 (by omega) (by rw [List.drop_zero]; exact hu)
 have a2 := pthS_le 4 7 5 bs.length soft bs rfl hb (bs.length + 2) 0 0
 have d1 := pthS_dot (M := 8) (Q := 4) (by decide) (by decide) 7 5 soft u hub (bs.length + 2) 0 0 (by omega)
 have d2 := pthS_dot (M := 8) (Q := 4) (by decide) (by decide) 7 5 soft bs hb (bs.length + 2) 0 0 (by omega)
 rw [show (0 : Int) % 4 = 0 by decide, Nat.mul_zero, List.drop_zero, hs, dotS_ham _ _ (by rw [spreadGo_len]; omega) hL (spreadGo_bit _ _ _ _ _ _ _), ← hs] at d1 d2
 have t1 := hamD_tri (spreadGo 8 7 5 bs (bs.length + 2) 0 0) L (spreadGo 8 7 5 u (bs.length + 2) 0 0) (by rw [spreadGo_len]; omega) (by rw [spreadGo_len]; omega)
 rw [hamD_comm (spreadGo 8 7 5 bs (bs.length + 2) 0 0) L] at t1
 have hle : hamD L (spreadGo 8 7 5 u (bs.length + 2) 0 0) ≤ hamD L (spreadGo 8 7 5 bs (bs.length + 2) 0 0) := by omega
 have hub2 : u = bs := by
  refine Classical.byContradiction fun hne => ?_
  have := ham_five bs u hb hub hul.symm bs.length 0 0 (by omega) (by omega) (by rw [List.drop_zero, List.drop_zero]; exact fun h => hne h.symm)
  omega
 rw [← hu, hub2, ← a1, d1, hub2]
theorem FnLikeliest (l : List Int) (m0 : l.length ≤ maxLen) (w0 : ∀ x ∈ l, (Lit.int .u8 x).wf = true) : ∃ k, laws_FnLikeliest.f k l = some true := by
 refine EvP.law ?_
 unfold laws_FnLikeliest.f laws_big.f
 simp only [Option.bind_some]
 refine EvP.both (fun _ => EvP.now rfl) (fun hl => ?_)
 refine EvP.next (DrawNoisy_ev l (by simp at hl; omega)) ?_
 rintro ⟨bs, ps⟩ ⟨⟨hn, hb⟩, hps⟩
 simp only at hn hb hps
 refine Ev.p ?_
 simp only
 have hsp : spreadOf 2 7 5 bs = (spreadGo 8 7 5 bs (bs.length + 2) 0 0, true) := by
  unfold spreadOf
  rw [if_pos ⟨by decide, bitsB_iff.2 ⟨hb, by omega⟩, by omega⟩]
  rfl
 refine Ev.next ((iSpread_ev 2 7 5 bs (by omega)).to hsp) ?_
 obtain ⟨C, hC⟩ : ∃ C, C = spreadGo 8 7 5 bs (bs.length + 2) 0 0 := ⟨_, rfl⟩
 have hCl : C.length = 2 * (bs.length + 2) := by rw [hC]; exact spreadGo_len _ _ _ _ _ _ _
 have hCb : ∀ x ∈ C, x = 0 ∨ x = 1 := by rw [hC]; exact spreadGo_bit _ _ _ _ _ _ _
 rw [← hC]
 have hps2 : noisyP (C.length : Int) ps := by rw [hCl, show ((2 * (bs.length + 2) : Nat) : Int) = 2 * ((bs.length : Int) + 2) by omega]; exact hps
 have hpl : ps.length ≤ 2 := by rcases hps with rfl | ⟨p, rfl, _⟩ | ⟨p, q, rfl, _⟩ <;> simp
 have hpr : ∀ p ∈ ps, 0 ≤ p ∧ p < (C.length : Int) := by
  rcases hps2 with rfl | ⟨p, rfl, hp⟩ | ⟨p, q, rfl, _, hp, hq⟩
  ·simp
  ·intro x hx; simp at hx; subst hx; exact hp
  ·intro x hx; simp at hx
   rcases hx with rfl | rfl
   ·exact hp
   ·exact hq
 have e1 : wrap64 (2 * wrap64 ((bs.length : Int) + 2)) = 2 * ((bs.length : Int) + 2) := by rw [w64 (n := (bs.length : Int) + 2) (by omega) (by omega), w64 (by omega) (by omega)]
 refine Ev.pos rfl ?_
 simp only [e1]
 rw [show ((C.length : Int) != 2 * ((bs.length : Int) + 2)) = false by simp; omega]
 refine Ev.succ ?_
 simp only [laws_FnLikeliest.j0]
 refine Ev.neg (by decide) ?_
 refine law_flips bs ps true hpl ps.length 0 C (by omega) hCb hpr ?_
 rw [List.drop_zero]
 have hLb := flipAll_bit ps C hCb
 have hLl := flipAll_len ps C
 have hLh := flip_ham C hCb ps hps2
 obtain ⟨L, hL⟩ : ∃ L, L = flipAll C ps := ⟨_, rfl⟩
 rw [← hL] at hLb hLl hLh ⊢
 have hback := lik_back bs hb hn L hLb (by omega) (by rw [← hC, hLh]; exact hpl)
 rw [← hC, hLh] at hback
 have hso : softOf L = (L.map fun x => 2 * x - 1, true) := if_pos (bitsB_iff.2 ⟨hLb, by omega⟩)
 refine Ev.succ ?_
 simp only [laws_FnLikeliest.l0]
 refine Ev.neg (by omega) (Ev.next ((iSoften_ev L (by omega)).to hso) (Ev.next ((iLikeliest_ev 2 7 5 _ (by simp; omega)).to hback) (Ev.pos rfl (Ev.pos rfl (Ev.next (sameInts_ev bs bs (by omega)) (Ev.pos (by simp) (Ev.some_ ?_)))))))
 rw [w64 (n := 2 * (ps.length : Int)) (by omega) (by omega), w64 (by omega) (by omega)]
 simp
end Go.Proofs.Ytoggbgkpeigfmaa.Pure
