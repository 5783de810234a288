import Derived.Test.YtoggbgkpeigfmaaPFnScoredx11
import Derived.Test.YtoggbgkpeigfmaaAidS
set_option linter.unusedVariables false
set_option linter.unusedSimpArgs false
namespace Go.Proofs.Ytoggbgkpeigfmaa.Pure
open Go Go.RowKit Go.Proofs.Ytoggbgkpeigfmaa.PFnScored Go.Proofs.YtoggbgkpeigfmaaW.PrintWords Go.Proofs.YtoggbgkpeigfmaaW.PrintLast Go.Proofs.YtoggbgkpeigfmaaW.PrintMore
def onesN : Nat → Int → Int
 | 0, _ => 0
 | n + 1, x => x % 2 + onesN n (x / 2)
theorem onesN_nonneg : ∀ (n : Nat) (x : Int), 0 ≤ onesN n x ∧ onesN n x ≤ n
 | 0, _ => by simp [onesN]
 | n + 1, x => by have := onesN_nonneg n (x / 2); simp only [onesN]; omega
def parB (x : Int) : Int := onesN 8 x % 2
def bitOk (x : Int) : Bool := decide (x = 0 ∨ x = 1)
theorem allBits_iff {l : List Int} : l.all bitOk = true ↔ ∀ x ∈ l, x = 0 ∨ x = 1 := by simp [List.all_eq_true, bitOk]
def bitsB (l : List Int) : Bool := l.all bitOk && decide (l.length ≤ 1024)
theorem bitsB_iff {l : List Int} : bitsB l = true ↔ (∀ x ∈ l, x = 0 ∨ x = 1) ∧ l.length ≤ 1024 := by
 unfold bitsB; rw [Bool.and_eq_true, allBits_iff]; simp
theorem shl_one {y : Nat} (hy : y ≤ 60) : shl .i64 1 (y : Int) = 2 ^ y := by
 unfold shl
 have hp : (2 : Int) ^ y ≤ 2 ^ 60 := by
  have : (2 : Nat) ^ y ≤ 2 ^ 60 := Nat.pow_le_pow_right (by omega) (by omega)
  exact_mod_cast this
 have hp0 : (0 : Int) < 2 ^ y := Int.pow_pos (by omega)
 rw [show min ((y : Int).toNat) IntKind.i64.bits = y by simp [IntKind.bits]; omega, IntKind.wrap_i64]
 omega
/-- A coder is right. -/
def coderB (m a b : Int) : Bool := decide ((1 ≤ m ∧ m ≤ 6) ∧ (1 ≤ a ∧ a ≤ 2 ^ (m.toNat + 1) - 1) ∧ (1 ≤ b ∧ b ≤ 2 ^ (m.toNat + 1) - 1))
theorem pow_small {m : Nat} (h : m ≤ 6) : (2 : Int) ^ (m + 1) ≤ 128 ∧ (0 : Int) < 2 ^ (m + 1) ∧ ∃ q : Int, (2 : Int) ^ (m + 1) = 2 * q ∧ q ≤ 64 := by
 have h1 : (2 : Int) ^ (m + 1) ≤ 2 ^ 7 := by
  have : (2 : Nat) ^ (m + 1) ≤ 2 ^ 7 := Nat.pow_le_pow_right (by omega) (by omega)
  exact_mod_cast this
 have h2 : (2 : Int) ^ (m + 1) = 2 * 2 ^ m := by rw [Int.pow_succ]; omega
 exact ⟨by omega, Int.pow_pos (by omega), 2 ^ m, h2, by omega⟩
/-- The next bit: the message's, then noughts. -/
def bitAt (l : List Int) (i : Nat) : Int := if i < l.length then rd l i else 0
def spreadGo (M a b : Int) (l : List Int) : Nat → Nat → Int → List Int
 | 0, _, _ => []
 | d + 1, i, r => parB (bits .and .i64 ((2 * r + bitAt l i) % M) a) :: parB (bits .and .i64 ((2 * r + bitAt l i) % M) b) :: spreadGo M a b l d (i + 1) ((2 * r + bitAt l i) % M)
theorem spreadGo_len (M a b : Int) (l : List Int) : ∀ d i r, (spreadGo M a b l d i r).length = 2 * d
 | 0, _, _ => rfl
 | d + 1, i, r => by simp only [spreadGo, List.length_cons, spreadGo_len M a b l d]; omega
def spreadOf (m a b : Int) (l : List Int) : List Int × Bool :=
 if coderB m a b = true ∧ bitsB l = true ∧ l.length ≤ 120 then (spreadGo (2 ^ (m.toNat + 1)) a b l (l.length + m.toNat) 0 0, true) else ([], false)
theorem bitAt_bit {l : List Int} (h : ∀ x ∈ l, x = 0 ∨ x = 1) (i : Nat) : bitAt l i = 0 ∨ bitAt l i = 1 := by
 unfold bitAt
 split
 ·exact h _ (rd_mem (by assumption))
 ·exact .inl rfl
theorem and_bd {r M a : Int} (hM : M ≤ 128) (hr : 0 ≤ r ∧ r < M) (ha : 0 ≤ a) (ha2 : a ≤ 127) : 0 ≤ bits .and .i64 r a ∧ bits .and .i64 r a ≤ 127 := by
 have := bits_and_le r a ha (by omega)
 omega
/-- x & (M - 1) | y of an even x. -/
theorem or_add {x y : Int} (hx0 : 0 ≤ x) (hx : x % 2 = 0) (hx1 : x < 1000) (hy : y = 0 ∨ y = 1) : bits .or .i64 x y = x + y :=
 bits_join .i64 62 (by decide) (fun n h0 h1 => by rw [IntKind.wrap_i64]; omega) 1 x y hx0 (by simpa using hx) (by omega) (by omega) (by omega) (by omega)
theorem or_zero_join {M r y : Int} {n : Nat} (hM : M = 2 ^ n) (hn : 1 ≤ n ∧ n ≤ 7) (hr : 0 ≤ r ∧ r < M) (hM1 : M ≤ 128) (hy : y = 0 ∨ y = 1) : bits .or .i64 (bits .and .i64 (r * 2) (M - 1)) y = (2 * r + y) % M := by
 have hq : ∃ q : Int, M = 2 * q := by
  obtain ⟨n', rfl⟩ : ∃ n', n = n' + 1 := ⟨n - 1, by omega⟩
  exact ⟨2 ^ n', by rw [hM, Int.pow_succ]; omega⟩
 obtain ⟨q, hq⟩ := hq
 have h1 := bits_and_mask (r * 2) n (by omega)
 rw [← hM] at h1
 rw [h1]
 have hM0 : 0 < M := by omega
 have h2 : (r * 2) % M = r * 2 ∨ (r * 2) % M = r * 2 - M := by
  rcases Int.lt_or_le (r * 2) M with h | h
  ·exact .inl (Int.emod_eq_of_lt (by omega) h)
  ·refine .inr ?_
   rw [← Int.sub_emod_right]
   exact Int.emod_eq_of_lt (by omega) (by omega)
 have h3 : (2 * r + y) % M = (r * 2) % M + y := by
  rcases Int.lt_or_le (r * 2) M with h | h
  ·rw [Int.emod_eq_of_lt (by omega) h, Int.emod_eq_of_lt (by omega) (by omega)]; omega
  ·have e1 : (r * 2) % M = r * 2 - M := by rw [← Int.sub_emod_right]; exact Int.emod_eq_of_lt (by omega) (by omega)
   have e2 : (2 * r + y) % M = 2 * r + y - M := by rw [← Int.sub_emod_right]; exact Int.emod_eq_of_lt (by omega) (by omega)
   rw [e1, e2]; omega
 rw [h3]
 rcases h2 with e | e
 ·rw [e]; exact or_add (by omega) (by omega) (by omega) hy
 ·rw [e]
  refine or_add ?_ (by omega) (by omega) hy
  rw [← e]; exact Int.emod_nonneg _ (by omega)
/-- The wraps of a round of Spread, told away from its powers (omega compares atoms by unfolding them). -/
theorem sp_facts {m n i : Nat} {r : Int} (hm : m ≤ 6) (hn : n ≤ 120) (hi : i ≤ 1000) (h0 : 0 ≤ r) (h1 : r ≤ 127) : wrap64 ((n : Int) + m) = (n : Int) + m ∧ wrap64 ((m : Int) + 1) = ((m + 1 : Nat) : Int) ∧ IntKind.u64.wrap ((m + 1 : Nat) : Int) = ((m + 1 : Nat) : Int) ∧ wrap64 ((i : Int) + 1) = ((i + 1 : Nat) : Int) ∧ wrap64 (2 * r) = 2 * r ∧ wrap64 (r * 2) = r * 2 :=
 ⟨w64 (by omega) (by omega), (w64_add (by omega) (by omega)).trans (by omega), wu64 (by omega) (by omega), w64_add (by omega) (by omega), w64 (by omega) (by omega), w64 (by omega) (by omega)⟩
theorem w64_reg {r x : Int} (h0 : 0 ≤ r) (h1 : r ≤ 127) (hx : x = 0 ∨ x = 1) : wrap64 (2 * r + x) = 2 * r + x := w64 (by omega) (by omega)
theorem w64_mask {M : Int} (h0 : 0 < M) (h1 : M ≤ 128) : wrap64 (M - 1) = M - 1 := w64 (by omega) (by omega)
theorem nat_nonneg_ (n : Nat) : (0 : Int) ≤ (n : Int) := Int.natCast_nonneg n
/-! Paths through a trellis: their scores, the best from a state on, and the word that the greedy walk takes. -/
def gnV (a b : Int) (soft : List Int) (t : Nat) (reg : Int) : Int :=
 rd soft ((2 * t : Nat) : Int) * (2 * parB (bits .and .i64 reg a) - 1) + rd soft ((2 * t + 1 : Nat) : Int) * (2 * parB (bits .and .i64 reg b) - 1)
def pthS (Q a b : Int) (soft l : List Int) : Nat → Nat → Int → Int
 | 0, _, _ => 0
 | d + 1, i, s => gnV a b soft i (2 * s + bitAt l i) + pthS Q a b soft l d (i + 1) ((2 * s + bitAt l i) % Q)
def bstV (Q a b : Int) (n : Nat) (soft : List Int) : Nat → Nat → Int → Int
 | 0, _, _ => 0
 | d + 1, i, s => if i < n then max (gnV a b soft i (2 * s) + bstV Q a b n soft d (i + 1) (2 * s % Q)) (gnV a b soft i (2 * s + 1) + bstV Q a b n soft d (i + 1) ((2 * s + 1) % Q)) else gnV a b soft i (2 * s) + bstV Q a b n soft d (i + 1) (2 * s % Q)
def outV (Q a b : Int) (n m : Nat) (soft : List Int) : Nat → Nat → Int → List Int
 | 0, _, _ => []
 | d + 1, i, s => if gnV a b soft i (2 * s) + bstV Q a b n soft (d + m) (i + 1) (2 * s % Q) < bstV Q a b n soft (d + 1 + m) i s then 1 :: outV Q a b n m soft d (i + 1) ((2 * s + 1) % Q) else 0 :: outV Q a b n m soft d (i + 1) (2 * s % Q)
theorem outV_len (Q a b : Int) (n m : Nat) (soft : List Int) : ∀ d i s, (outV Q a b n m soft d i s).length = d
 | 0, _, _ => rfl
 | d + 1, i, s => by
  simp only [outV]
  split
  ·simp [outV_len Q a b n m soft d]
  ·simp [outV_len Q a b n m soft d]
theorem outV_bit (Q a b : Int) (n m : Nat) (soft : List Int) : ∀ d i s, ∀ x ∈ outV Q a b n m soft d i s, x = 0 ∨ x = 1
 | 0, _, _ => by simp [outV]
 | d + 1, i, s => by
  simp only [outV]
  split
  ·intro x hx
   rcases List.mem_cons.1 hx with h | h
   ·exact .inr h
   ·exact outV_bit Q a b n m soft d _ _ x h
  ·intro x hx
   rcases List.mem_cons.1 hx with h | h
   ·exact .inl h
   ·exact outV_bit Q a b n m soft d _ _ x h
theorem bitAt_past {l : List Int} {i : Nat} (h : l.length ≤ i) : bitAt l i = 0 := if_neg (by omega)
theorem pthS_le (Q a b : Int) (n : Nat) (soft l : List Int) (hl : l.length = n) (hb : ∀ x ∈ l, x = 0 ∨ x = 1) : ∀ d i s, pthS Q a b soft l d i s ≤ bstV Q a b n soft d i s
 | 0, _, _ => Int.le_refl _
 | d + 1, i, s => by
  simp only [pthS, bstV]
  by_cases hi : i < n
  case neg =>
   rw [if_neg hi, bitAt_past (by omega), Int.add_zero]
   have := pthS_le Q a b n soft l hl hb d (i + 1) (2 * s % Q)
   omega
  rw [if_pos hi]
  rcases bitAt_bit hb i with e | e
  ·rw [e, Int.add_zero]
   have := pthS_le Q a b n soft l hl hb d (i + 1) (2 * s % Q)
   omega
  ·rw [e]
   have := pthS_le Q a b n soft l hl hb d (i + 1) ((2 * s + 1) % Q)
   omega
theorem pthS_tail (Q a b : Int) (n : Nat) (soft l : List Int) (hl : l.length = n) : ∀ d i s, n ≤ i → pthS Q a b soft l d i s = bstV Q a b n soft d i s
 | 0, _, _, _ => rfl
 | d + 1, i, s, hi => by
  simp only [pthS, bstV]
  rw [if_neg (by omega), bitAt_past (by omega), Int.add_zero, pthS_tail Q a b n soft l hl d (i + 1) _ (by omega)]
theorem bitAt_drop {l t : List Int} {i : Nat} {x : Int} (h : l.drop i = x :: t) : bitAt l i = x ∧ l.drop (i + 1) = t := by
 have hi : i < l.length := by
  rcases Nat.lt_or_ge i l.length with h1 | h1
  ·exact h1
  ·rw [List.drop_of_length_le h1] at h; cases h
 rw [drop_rd hi] at h
 injection h with h1 h2
 exact ⟨(if_pos hi).trans h1, h2⟩
theorem outV_att (Q a b : Int) (n m : Nat) (soft l : List Int) (hl : l.length = n) : ∀ d i s, i + d = n → l.drop i = outV Q a b n m soft d i s → pthS Q a b soft l (d + m) i s = bstV Q a b n soft (d + m) i s
 | 0, i, s, hi, _ => pthS_tail Q a b n soft l hl (0 + m) i s (by omega)
 | d + 1, i, s, hi, h => by
  simp only [outV] at h
  have e : bstV Q a b n soft (d + 1 + m) i s = max (gnV a b soft i (2 * s) + bstV Q a b n soft (d + m) (i + 1) (2 * s % Q)) (gnV a b soft i (2 * s + 1) + bstV Q a b n soft (d + m) (i + 1) ((2 * s + 1) % Q)) := by
   rw [show d + 1 + m = d + m + 1 by omega]
   simp only [bstV]
   rw [if_pos (by omega)]
  have e2 : pthS Q a b soft l (d + 1 + m) i s = gnV a b soft i (2 * s + bitAt l i) + pthS Q a b soft l (d + m) (i + 1) ((2 * s + bitAt l i) % Q) := by
   rw [show d + 1 + m = d + m + 1 by omega]
   rfl
  rw [e2]
  split at h
  ·rename_i hc
   obtain ⟨h1, h2⟩ := bitAt_drop h
   rw [h1, outV_att Q a b n m soft l hl d (i + 1) _ (by omega) h2]
   rw [e] at hc ⊢
   omega
  ·rename_i hc
   obtain ⟨h1, h2⟩ := bitAt_drop h
   rw [h1, Int.add_zero, outV_att Q a b n m soft l hl d (i + 1) _ (by omega) h2]
   rw [e] at hc ⊢
   omega
def dotS : List Int → List Int → Int
 | x :: xs, y :: ys => x * (2 * y - 1) + dotS xs ys
 | _, _ => 0
theorem reg_mod {M Q r x : Int} (hM : M = 2 * Q) (hQ : 0 < Q) (hx : x = 0 ∨ x = 1) : (2 * r + x) % M = 2 * (r % Q) + x := by
 have h1 := Int.emod_nonneg r (show Q ≠ 0 by omega)
 have h2 := Int.emod_lt_of_pos r hQ
 have h3 := Int.mul_ediv_add_emod r Q
 have h4 : 2 * r + x = (2 * (r % Q) + x) + (r / Q) * M := by
  rw [hM]
  have : r / Q * (2 * Q) = 2 * (Q * (r / Q)) := by rw [Int.mul_comm Q (r / Q), Int.mul_left_comm]
  omega
 rw [h4, Int.add_mul_emod_self_right]
 exact Int.emod_eq_of_lt (by omega) (by omega)
theorem drop_two {soft : List Int} {i : Nat} (h : 2 * i + 1 < soft.length) : soft.drop (2 * i) = rd soft ((2 * i : Nat) : Int) :: rd soft ((2 * i + 1 : Nat) : Int) :: soft.drop (2 * (i + 1)) := by
 rw [drop_rd (xs := soft) (i := 2 * i) (by omega), drop_rd (xs := soft) (i := 2 * i + 1) h, show 2 * i + 1 + 1 = 2 * (i + 1) by omega]
theorem pthS_dot {M Q : Int} (hM : M = 2 * Q) (hQ : 0 < Q) (a b : Int) (soft l : List Int) (hb : ∀ x ∈ l, x = 0 ∨ x = 1) : ∀ d i r, 2 * (i + d) ≤ soft.length → pthS Q a b soft l d i (r % Q) = dotS (soft.drop (2 * i)) (spreadGo M a b l d i r)
 | 0, i, r, _ => by
  simp only [pthS, spreadGo]
  cases soft.drop (2 * i) <;> rfl
 | d + 1, i, r, hi => by
  have hx := bitAt_bit hb i
  have hm := reg_mod hM hQ (r := r) hx
  simp only [pthS, spreadGo]
  rw [drop_two (by omega)]
  simp only [dotS]
  rw [← pthS_dot hM hQ a b soft l hb d (i + 1) ((2 * r + bitAt l i) % M) (by omega), hm]
  unfold gnV
  omega
/-- The values are small. -/
theorem gnV_bd {a b : Int} {soft : List Int} (h : ∀ i : Nat, -100 ≤ rd soft i ∧ rd soft i ≤ 100) (t : Nat) (reg : Int) : -200 ≤ gnV a b soft t reg ∧ gnV a b soft t reg ≤ 200 := by
 unfold gnV
 have h1 := h (2 * t)
 have h2 := h (2 * t + 1)
 have e1 : parB (bits .and .i64 reg a) = 0 ∨ parB (bits .and .i64 reg a) = 1 := by unfold parB; omega
 have e2 : parB (bits .and .i64 reg b) = 0 ∨ parB (bits .and .i64 reg b) = 1 := by unfold parB; omega
 rcases e1 with e1 | e1 <;> rcases e2 with e2 | e2 <;> rw [e1, e2] <;> omega
theorem bstV_bd {Q a b : Int} {n : Nat} {soft : List Int} (h : ∀ i : Nat, -100 ≤ rd soft i ∧ rd soft i ≤ 100) : ∀ (d i : Nat) (s : Int), -200 * (d : Int) ≤ bstV Q a b n soft d i s ∧ bstV Q a b n soft d i s ≤ 200 * (d : Int)
 | 0, _, _ => by simp [bstV]
 | d + 1, i, s => by
  simp only [bstV]
  have h1 := gnV_bd (a := a) (b := b) h i (2 * s)
  have h2 := gnV_bd (a := a) (b := b) h i (2 * s + 1)
  have h3 := bstV_bd (Q := Q) (a := a) (b := b) (n := n) h d (i + 1) (2 * s % Q)
  have h4 := bstV_bd (Q := Q) (a := a) (b := b) (n := n) h d (i + 1) ((2 * s + 1) % Q)
  split <;> omega
theorem parity_all : ∀ x : Fin 128, impl_parity.f ((x.1 : Nat) : Int) = some (parB ((x.1 : Nat) : Int)) := by decide +kernel
theorem parity_eq {x : Int} (h0 : 0 ≤ x) (h1 : x ≤ 127) : impl_parity.f x = some (parB x) := by
 obtain ⟨n, rfl⟩ := Int.eq_ofNat_of_zero_le h0
 exact parity_all ⟨n, by omega⟩
def allIn (a : Int) (l : List Int) : Bool := l.all fun x => decide (-a ≤ x) && decide (x ≤ a)
theorem allIn_iff {a : Int} {l : List Int} : allIn a l = true ↔ ∀ x ∈ l, -a ≤ x ∧ x ≤ a := by
 unfold allIn; simp [List.all_eq_true]
theorem within_l0 (l : List Int) (a : Int) (ha : 0 ≤ a) (ha' : a ≤ 9000000000000000000) (hl : l.length ≤ 35184372088832) : ∀ (d i : Nat), i + d = l.length → Ev (fun k => impl_within.l0 k a l (l.length : Int) (i : Int)) (allIn a (l.drop i)) := by
 intro d
 induction d with
 | zero =>
  intro i hi
  refine (Ev.round (f := fun _ => some true) (Ev.some_ rfl) (fun k => by simp only [impl_within.l0]; rw [if_neg (by omega)])).to ?_
  rw [List.drop_of_length_le (by omega)]; rfl
 | succ d ih =>
  intro i hi
  rw [drop_rd (xs := l) (i := i) (by omega)]
  by_cases h1 : rd l i < -a
  case pos =>
   refine (Ev.round (f := fun _ => some false) (Ev.some_ rfl) (fun k => ?_)).to (by simp [allIn]; intros; omega)
   simp only [impl_within.l0]
   rw [if_pos (by omega), if_pos (by omega), if_pos (by omega), w64 (n := -a) (by omega) (by omega), if_pos h1]
  by_cases h2 : rd l i > a
  case pos =>
   refine (Ev.round (f := fun _ => some false) (Ev.some_ rfl) (fun k => ?_)).to (by simp [allIn]; intros; omega)
   simp only [impl_within.l0]
   rw [if_pos (by omega), if_pos (by omega), if_pos (by omega), w64 (n := -a) (by omega) (by omega), if_neg h1, if_pos h2]
  refine (Ev.round (ih (i + 1) (by omega)) (fun k => ?_)).to ?_
  ·simp only [impl_within.l0]
   rw [if_pos (by omega), if_pos (by omega), if_pos (by omega), w64 (n := -a) (by omega) (by omega), if_neg h1, if_neg h2, w64_add (by omega) (by omega)]
   simp
  ·simp [allIn]; intros; omega
theorem within_ev (l : List Int) (a : Int) (ha : 0 ≤ a) (ha' : a ≤ 9000000000000000000) (hl : l.length ≤ 35184372088832) : Ev (fun k => impl_within.f k l a) (allIn a l) :=
 (within_l0 l a ha ha' hl l.length 0 (by omega)).to (by simp)
theorem coder_eq (m a b : Int) : impl_coder.f m a b = some (coderB m a b) := by
 unfold impl_coder.f coderB
 by_cases h : 1 ≤ m ∧ m ≤ 6
 case neg =>
  have : (if m < 1 then some false else if m > 6 then some false else if 0 ≤ wrap64 (m + 1) then (if a ≥ 1 then (if a ≤ wrap64 (shl .i64 1 (wrap64 (m + 1)) - 1) then (if b ≥ 1 then some (decide (b ≤ wrap64 (shl .i64 1 (wrap64 (m + 1)) - 1))) else some false) else some false) else some false) else none) = some false := by
   by_cases h1 : m < 1
   case pos => rw [if_pos h1]
   rw [if_neg h1, if_pos (by omega)]
  rw [this, Option.some.injEq]; symm; rw [decide_eq_false_iff_not]; exact fun hh => h hh.1
 obtain ⟨n, rfl⟩ := Int.eq_ofNat_of_zero_le (show 0 ≤ m by omega)
 have hp := pow_small (m := n) (by omega)
 rw [if_neg (by omega), if_neg (by omega), w64_add (by omega) (by omega), if_pos (by omega), show ((n : Int) + 1) = ((n + 1 : Nat) : Int) by omega, shl_one (by omega), w64 (by omega) (by omega), Int.toNat_natCast]
 by_cases h2 : 1 ≤ a
 case neg => rw [if_neg h2, Option.some.injEq]; symm; rw [decide_eq_false_iff_not]; exact fun hh => h2 hh.2.1.1
 rw [if_pos h2]
 by_cases h3 : a ≤ 2 ^ (n + 1) - 1
 case neg => rw [if_neg h3, Option.some.injEq]; symm; rw [decide_eq_false_iff_not]; exact fun hh => h3 hh.2.1.2
 rw [if_pos h3]
 by_cases h4 : 1 ≤ b
 case neg => rw [if_neg h4, Option.some.injEq]; symm; rw [decide_eq_false_iff_not]; exact fun hh => h4 hh.2.2.1
 rw [if_pos h4, Option.some.injEq, decide_eq_decide]
 exact ⟨fun h5 => ⟨h, ⟨h2, h3⟩, h4, h5⟩, fun h5 => h5.2.2.2⟩
theorem lkOne_eq {p s x : Int} (hp : p = 0 ∨ p = 1) (hs : -1000 ≤ s ∧ s ≤ 1000) (hx : -100 ≤ x ∧ x ≤ 100) : lkOne p s x = s + x * (2 * p - 1) := by
 unfold lkOne
 rcases hp with rfl | rfl
 ·rw [if_neg (by decide), w64 (by omega) (by omega)]; omega
 ·rw [if_pos rfl, w64 (by omega) (by omega)]; omega
theorem parB_bit (x : Int) : parB x = 0 ∨ parB x = 1 := by unfold parB; omega
theorem lkG_eq {a b : Int} {soft : List Int} (ha : 0 ≤ a ∧ a ≤ 127) (hb : 0 ≤ b ∧ b ≤ 127) (h : ∀ i : Nat, -100 ≤ rd soft i ∧ rd soft i ≤ 100) (hl : soft.length ≤ 1000) (t : Nat) (ht : 2 * t + 1 < soft.length) (reg : Int) : lkG a b soft t reg = some (gnV a b soft t reg) := by
 unfold lkG lkGain
 rw [if_pos ⟨by omega, by omega, by omega⟩]
 have A := bits_and_le reg a ha.1 (by omega)
 have B := bits_and_le reg b hb.1 (by omega)
 rw [parity_eq A.1 (by omega), parity_eq B.1 (by omega)]
 have h1 := h (2 * t)
 have h2 := h (2 * t + 1)
 have p1 := parB_bit (bits .and .i64 reg a)
 have p2 := parB_bit (bits .and .i64 reg b)
 simp only [Option.bind_some, Option.some.injEq]
 rw [show (2 * (t : Int)) = ((2 * t : Nat) : Int) by omega, show (((2 * t : Nat) : Int) + 1) = ((2 * t + 1 : Nat) : Int) by omega]
 rw [lkOne_eq p1 (by omega) h1, lkOne_eq p2 (by rcases p1 with e | e <;> rw [e] <;> omega) h2]
 unfold gnV
 omega
def rowOk (Q a b : Int) (n N : Nat) (soft : List Int) (x15 : List (List Int)) (j c : Nat) : Prop := ((lk_rd2 x15 (j : Int)).length : Int) = Q ∧ ∀ s : Nat, s < c → rd (lk_rd2 x15 (j : Int)) (s : Int) = bstV Q a b n soft (N - j) j (s : Int)
theorem rd2_set_eq {xs : List (List Int)} {t : Nat} (h : t < xs.length) (v : List Int) : lk_rd2 (xs.set t v) (t : Int) = v := by
 unfold lk_rd2
 simp [List.getD_eq_getElem?_getD, h]
theorem rd2_set_ne {xs : List (List Int)} {t j : Nat} (h : t ≠ j) (v : List Int) : lk_rd2 (xs.set t v) (j : Int) = lk_rd2 xs (j : Int) := by
 unfold lk_rd2
 simp [List.getD_eq_getElem?_getD, List.getElem?_set_ne h]
theorem rd_set_eq {xs : List Int} {t : Nat} (h : t < xs.length) (v : Int) : rd (xs.set t v) (t : Int) = v := by
 simp [rd_nat, List.getD_eq_getElem?_getD, h]
theorem rd_set_ne {xs : List Int} {t j : Nat} (h : t ≠ j) (v : Int) : rd (xs.set t v) (j : Int) = rd xs (j : Int) := by
 simp [rd_nat, List.getD_eq_getElem?_getD, List.getElem?_set_ne h]
theorem rowOk_other {Q a b : Int} {n N : Nat} {soft : List Int} {x15 : List (List Int)} {j c t : Nat} (h : rowOk Q a b n N soft x15 j c) (hj : t ≠ j) (v : List Int) : rowOk Q a b n N soft (x15.set t v) j c := by
 unfold rowOk at h ⊢
 rw [rd2_set_ne hj]
 exact h
theorem rowOk_next {Q a b : Int} {n N : Nat} {soft : List Int} {x15 : List (List Int)} {t s : Nat} (h : rowOk Q a b n N soft x15 t s) (ht : t < x15.length) (hs : (s : Int) < Q) {v : Int} (hv : v = bstV Q a b n soft (N - t) t (s : Int)) : rowOk Q a b n N soft (x15.set t ((lk_rd2 x15 (t : Int)).set s v)) t (s + 1) := by
 obtain ⟨h1, h2⟩ := h
 unfold rowOk
 rw [rd2_set_eq ht]
 refine ⟨by simpa using h1, fun c hc => ?_⟩
 rcases Nat.lt_or_ge c s with h3 | h3
 ·rw [rd_set_ne (by omega)]
  exact h2 c h3
 ·have : c = s := by omega
  subst this
  rw [rd_set_eq (by omega)]
  exact hv
theorem two_and (m : Nat) (hm : m ≤ 6) (x : Int) : bits .and .i64 x (2 ^ m - 1) = x % 2 ^ m := bits_and_mask x m (by omega)
theorem lk_w {s : Int} {t c : Nat} (h0 : 0 ≤ s) (h1 : s < 100) (ht : t ≤ 1000) (hc : c ≤ 1000) : wrap64 (s * 2) = 2 * s ∧ bits .or .i64 (2 * s) 1 = 2 * s + 1 ∧ bits .or .i64 (2 * s) 0 = 2 * s ∧ wrap64 ((t : Int) + 1) = ((t + 1 : Nat) : Int) ∧ wrap64 ((c : Int) + 1) = ((c + 1 : Nat) : Int) :=
 ⟨(w64 (by omega) (by omega)).trans (by omega), or_add (by omega) (by omega) (by omega) (.inr rfl), (or_add (by omega) (by omega) (by omega) (.inl rfl)).trans (by omega), (w64 (by omega) (by omega)).trans (by omega), (w64 (by omega) (by omega)).trans (by omega)⟩
theorem lk_sum {Q a b : Int} {n : Nat} {soft : List Int} (h : ∀ i : Nat, -100 ≤ rd soft i ∧ rd soft i ≤ 100) (t : Nat) (r s : Int) (d i : Nat) (hd : d ≤ 1000) : wrap64 (gnV a b soft t r + bstV Q a b n soft d i s) = gnV a b soft t r + bstV Q a b n soft d i s := by
 have b1 := bstV_bd (Q := Q) (a := a) (b := b) (n := n) h d i s
 have b3 := gnV_bd (a := a) (b := b) h t r
 exact w64 (by omega) (by omega)
theorem lk_read {Q a b : Int} {n N : Nat} {soft : List Int} {x15 : List (List Int)} {j : Nat} (h : rowOk Q a b n N soft x15 j Q.toNat) {x : Int} (h0 : 0 ≤ x) (h1 : x < Q) : rd (lk_rd2 x15 (j : Int)) x = bstV Q a b n soft (N - j) j x := by
 have := h.2 x.toNat (by omega)
 rwa [Int.toNat_of_nonneg h0] at this
theorem mx_max (x y : Int) : mx x y = max x y := by unfold mx; split <;> omega
theorem lk_l1 (m n : Nat) (hm : 1 ≤ m ∧ m ≤ 6) (a b : Int) (ha : 0 ≤ a ∧ a ≤ 127) (hb : 0 ≤ b ∧ b ≤ 127) (soft : List Int) (h100 : ∀ i : Nat, -100 ≤ rd soft i ∧ rd soft i ≤ 100) (hlen : soft.length = 2 * (n + m)) (hn : n ≤ 120) {Q : Int} (hQ : Q = 2 ^ m) (hQ2 : 0 < Q ∧ Q ≤ 64) (t : Nat) (ht : t < n + m) (res : List Int × Int × Bool) (H : ∀ x15 : List (List Int), x15.length = n + m + 1 → (∀ j : Nat, t ≤ j → j ≤ n + m → rowOk Q a b n (n + m) soft x15 j Q.toNat) → Ev (fun k => impl_Likeliest.l0 a b soft k (n : Int) (Q - 1) x15 (wrap64 ((t : Int) - 1))) res) :
 ∀ (d s : Nat) (x15 : List (List Int)), s + d = Q.toNat → x15.length = n + m + 1 → (∀ j : Nat, t < j → j ≤ n + m → rowOk Q a b n (n + m) soft x15 j Q.toNat) → rowOk Q a b n (n + m) soft x15 t s → Ev (fun k => impl_Likeliest.l1 a b soft k (n : Int) (Q - 1) x15 (t : Int) Q (s : Int)) res := by
 intro d
 induction d with
 | zero =>
  intro s x15 hs hx hj ht2
  refine Ev.succ ?_
  simp only [impl_Likeliest.l1]
  refine Ev.neg (by omega) (H x15 hx fun j h1 h2 => ?_)
  rcases Nat.lt_or_ge t j with h3 | h3
  ·exact hj j h3 h2
  ·have : j = t := by omega
   subst this
   rw [show Q.toNat = s by omega]; exact ht2
 | succ d ih =>
  intro s x15 hs hx hj ht2
  have hs2 : (s : Int) < Q := by omega
  have e1 : 0 ≤ 2 * (s : Int) % Q ∧ 2 * (s : Int) % Q < Q := ⟨Int.emod_nonneg _ (by omega), Int.emod_lt_of_pos _ hQ2.1⟩
  have e2 : 0 ≤ (2 * (s : Int) + 1) % Q ∧ (2 * (s : Int) + 1) % Q < Q := ⟨Int.emod_nonneg _ (by omega), Int.emod_lt_of_pos _ hQ2.1⟩
  have r := hj (t + 1) (by omega) (by omega)
  have q1 := ht2.1
  have E : bstV Q a b n soft (n + m - t) t (s : Int) = if t < n then max (gnV a b soft t (2 * (s : Int)) + bstV Q a b n soft (n + m - (t + 1)) (t + 1) (2 * (s : Int) % Q)) (gnV a b soft t (2 * (s : Int) + 1) + bstV Q a b n soft (n + m - (t + 1)) (t + 1) ((2 * (s : Int) + 1) % Q)) else gnV a b soft t (2 * (s : Int)) + bstV Q a b n soft (n + m - (t + 1)) (t + 1) (2 * (s : Int) % Q) := by
   rw [show n + m - t = (n + m - (t + 1)) + 1 by omega]
   simp only [bstV]
  have step : ∀ v : Int, v = bstV Q a b n soft (n + m - t) t (s : Int) → Ev (fun k => impl_Likeliest.l1 a b soft k (n : Int) (Q - 1) (x15.set t ((lk_rd2 x15 (t : Int)).set s v)) (t : Int) Q ((s + 1 : Nat) : Int)) res := fun v hv =>
   ih (s + 1) _ (by omega) (by simpa using hx) (fun j h1 h2 => rowOk_other (hj j h1 h2) (by omega) _) (rowOk_next ht2 (by omega) hs2 hv)
  have c1 : ((t + 1 : Nat) : Int) < (x15.length : Int) := by omega
  have c2 : 2 * (s : Int) % Q < ((lk_rd2 x15 ((t + 1 : Nat) : Int)).length : Int) := by rw [r.1]; exact e1.2
  have c3 : (2 * (s : Int) + 1) % Q < ((lk_rd2 x15 ((t + 1 : Nat) : Int)).length : Int) := by rw [r.1]; exact e2.2
  have c4 : (s : Int) < ((lk_rd2 x15 (t : Int)).length : Int) := by rw [q1]; exact hs2
  have c5 : (t : Int) < (x15.length : Int) := by omega
  have g1 := lkG_eq ha hb h100 (by omega) t (by omega) (2 * (s : Int))
  have g2 := lkG_eq ha hb h100 (by omega) t (by omega) (2 * (s : Int) + 1)
  have v1 := lk_read r e1.1 e1.2
  have v2 := lk_read r e2.1 e2.2
  have W1 := lk_sum (Q := Q) (a := a) (b := b) (n := n) h100 t (2 * (s : Int)) (2 * (s : Int) % Q) (n + m - (t + 1)) (t + 1) (by omega)
  have W2 := lk_sum (Q := Q) (a := a) (b := b) (n := n) h100 t (2 * (s : Int) + 1) ((2 * (s : Int) + 1) % Q) (n + m - (t + 1)) (t + 1) (by omega)
  have w5 : ∀ x : Int, bits .and .i64 x (Q - 1) = x % Q := fun x => by rw [hQ]; exact two_and m hm.2 x
  obtain ⟨w1, w2, _, w3, w4⟩ := lk_w (s := (s : Int)) (t := t) (c := s) (by omega) (by omega) (by omega) (by omega)
  refine Ev.succ ?_
  simp only [impl_Likeliest.l1]
  simp only [w1, w2, w3, w4, w5, g1, g2, v1, v2, W1, W2, Option.bind_some, Int.toNat_natCast]
  refine Ev.pos hs2 (Ev.pos (Int.natCast_nonneg _) (Ev.pos c1 (Ev.pos e1.1 (Ev.pos c2 ?_))))
  by_cases hc : t < n
  case neg =>
   rw [if_neg hc] at E
   exact Ev.neg (fun h => hc (Int.ofNat_lt.1 h)) (Ev.pos (Int.natCast_nonneg _) (Ev.pos c4 (Ev.pos (Int.natCast_nonneg _) (Ev.pos c5 (step _ E.symm)))))
  rw [if_pos hc] at E
  exact Ev.pos (Int.ofNat_lt.2 hc) (Ev.pos e2.1 (Ev.pos c3 (Ev.pos (Int.natCast_nonneg _) (Ev.pos c4 (Ev.pos (Int.natCast_nonneg _) (Ev.pos c5 (step _ (by rw [E]; exact mx_max _ _))))))))
theorem lk_l2 (m n : Nat) (hm : 1 ≤ m ∧ m ≤ 6) (a b : Int) (ha : 0 ≤ a ∧ a ≤ 127) (hb : 0 ≤ b ∧ b ≤ 127) (soft : List Int) (h100 : ∀ i : Nat, -100 ≤ rd soft i ∧ rd soft i ≤ 100) (hlen : soft.length = 2 * (n + m)) (hn : n ≤ 120) {Q : Int} (hQ : Q = 2 ^ m) (hQ2 : 0 < Q ∧ Q ≤ 64) (x15 : List (List Int)) (hx : x15.length = n + m + 1) (hr : ∀ j : Nat, j ≤ n + m → rowOk Q a b n (n + m) soft x15 j Q.toNat) :
 ∀ (d i : Nat) (s : Int) (acc : List Int), i + d = n → 0 ≤ s → s < Q → acc.length = i → Ev (fun k => impl_Likeliest.l2 a b soft k (Q - 1) x15 acc s (n : Int) (i : Int)) (acc ++ outV Q a b n m soft d i s, bstV Q a b n soft (n + m) 0 0, true) := by
 intro d
 induction d with
 | zero =>
  intro i s acc hi h0 h1 hacc
  obtain ⟨r1, r2⟩ := hr 0 (by omega)
  have v := r2 0 (by omega)
  refine Ev.succ ?_
  simp only [impl_Likeliest.l2]
  refine Ev.neg (by omega) (Ev.pos (by omega) (Ev.pos (by have r1 := r1; simp only [Int.natCast_zero] at r1; omega) (Ev.some_ ?_)))
  simp only [outV, List.append_nil]
  simp only [Int.natCast_zero, Nat.sub_zero] at v
  rw [v]
 | succ d ih =>
  intro i s acc hi h0 h1 hacc
  have e1 : 0 ≤ 2 * s % Q ∧ 2 * s % Q < Q := ⟨Int.emod_nonneg _ (by omega), Int.emod_lt_of_pos _ hQ2.1⟩
  have e2 : 0 ≤ (2 * s + 1) % Q ∧ (2 * s + 1) % Q < Q := ⟨Int.emod_nonneg _ (by omega), Int.emod_lt_of_pos _ hQ2.1⟩
  have r := hr (i + 1) (by omega)
  have q := hr i (by omega)
  have c0 : (i : Int) < (n : Int) := by omega
  have c1 : ((i + 1 : Nat) : Int) < (x15.length : Int) := by omega
  have c2 : 2 * s % Q < ((lk_rd2 x15 ((i + 1 : Nat) : Int)).length : Int) := by rw [r.1]; exact e1.2
  have c3 : (i : Int) < (x15.length : Int) := by omega
  have c4 : s < ((lk_rd2 x15 (i : Int)).length : Int) := by rw [q.1]; exact h1
  have c5 : acc.length < 17592186044416 := by omega
  have I1 := fun x => ih (i + 1) ((2 * s + 1) % Q) (acc ++ [x]) (by omega) e2.1 e2.2 (by simp [hacc])
  have I0 := fun x => ih (i + 1) (2 * s % Q) (acc ++ [x]) (by omega) e1.1 e1.2 (by simp [hacc])
  have g1 := lkG_eq ha hb h100 (by omega) i (by omega) (2 * s)
  have v1 := lk_read r e1.1 e1.2
  rw [show n + m - (i + 1) = d + m by omega] at v1
  have v2 := lk_read q h0 h1
  rw [show n + m - i = d + 1 + m by omega] at v2
  have W1 := lk_sum (Q := Q) (a := a) (b := b) (n := n) h100 i (2 * s) (2 * s % Q) (d + m) (i + 1) (by omega)
  have w5 : ∀ x : Int, bits .and .i64 x (Q - 1) = x % Q := fun x => by rw [hQ]; exact two_and m hm.2 x
  obtain ⟨w1, w2, w2', w3, _⟩ := lk_w (s := s) (t := i) (c := i) h0 (by omega) (by omega) (by omega)
  refine Ev.succ ?_
  simp only [impl_Likeliest.l2]
  simp only [w1, w2, w2', w3, w5, g1, v1, v2, W1, Option.bind_some]
  refine Ev.pos c0 (Ev.pos (Int.natCast_nonneg _) (Ev.pos c1 (Ev.pos e1.1 (Ev.pos c2 (Ev.pos (Int.natCast_nonneg _) (Ev.pos c3 (Ev.pos h0 (Ev.pos c4 ?_))))))))
  simp only [outV]
  by_cases hc : gnV a b soft i (2 * s) + bstV Q a b n soft (d + m) (i + 1) (2 * s % Q) < bstV Q a b n soft (d + 1 + m) i s
  case neg =>
   rw [if_neg hc]
   exact Ev.neg hc (Ev.pos c5 ((I0 0).to (by simp)))
  rw [if_pos hc]
  exact Ev.pos hc (Ev.pos c5 ((I1 1).to (by simp)))
theorem lk_l0 (m n : Nat) (hm : 1 ≤ m ∧ m ≤ 6) (a b : Int) (ha : 0 ≤ a ∧ a ≤ 127) (hb : 0 ≤ b ∧ b ≤ 127) (soft : List Int) (h100 : ∀ i : Nat, -100 ≤ rd soft i ∧ rd soft i ≤ 100) (hlen : soft.length = 2 * (n + m)) (hn : n ≤ 120) {Q : Int} (hQ : Q = 2 ^ m) (hQ2 : 0 < Q ∧ Q ≤ 64) :
 ∀ (t : Nat) (x15 : List (List Int)), t ≤ n + m → x15.length = n + m + 1 → (∀ j : Nat, t ≤ j → j ≤ n + m → rowOk Q a b n (n + m) soft x15 j Q.toNat) → Ev (fun k => impl_Likeliest.l0 a b soft k (n : Int) (Q - 1) x15 ((t : Int) - 1)) (outV Q a b n m soft n 0 0, bstV Q a b n soft (n + m) 0 0, true) := by
 intro t
 induction t with
 | zero =>
  intro x15 _ hx hj
  refine Ev.succ ?_
  simp only [impl_Likeliest.l0]
  exact Ev.neg (by omega) ((lk_l2 m n hm a b ha hb soft h100 hlen hn hQ hQ2 x15 hx (fun j h => hj j (by omega) h) n 0 0 [] (by omega) (by omega) hQ2.1 rfl).to (by simp))
 | succ t ih =>
  intro x15 ht hx hj
  have e : ((t + 1 : Nat) : Int) - 1 = (t : Int) := by omega
  have w1 : wrap64 (Q - 1 + 1) = Q := by rw [w64 (by omega) (by omega)]; omega
  refine Ev.succ ?_
  simp only [impl_Likeliest.l0]
  simp only [e, w1, Int.toNat_natCast, Option.bind_some]
  have hl : lk_rd2 (x15.set t (List.replicate Q.toNat 0)) (t : Int) = List.replicate Q.toNat 0 := rd2_set_eq (by omega) _
  have hlz : (((lk_rd2 (x15.set t (List.replicate Q.toNat 0)) (t : Int)).length : Nat) : Int) = Q := by rw [hl]; simp; omega
  refine Ev.pos (by omega) (Ev.pos (by omega) (Ev.pos (by omega) (Ev.pos (by omega) (Ev.pos (by omega) ?_))))
  rw [hlz]
  refine lk_l1 m n hm a b ha hb soft h100 hlen hn hQ hQ2 t (by omega) _ (fun y hy hyj => ?_) Q.toNat 0 _ (by omega) (by simpa using hx) (fun j h1 h2 => rowOk_other (hj j (by omega) h2) (by omega) _) ⟨hlz, fun s hs => by omega⟩
  rw [w64 (by omega) (by omega)]
  exact ih y (by omega) hy hyj
theorem lk_j1 (m n : Nat) (hm : 1 ≤ m ∧ m ≤ 6) (a b : Int) (ha : 0 ≤ a ∧ a ≤ 127) (hb : 0 ≤ b ∧ b ≤ 127) (soft : List Int) (h100 : ∀ i : Nat, -100 ≤ rd soft i ∧ rd soft i ≤ 100) (hlen : soft.length = 2 * (n + m)) (hn : n ≤ 120) : Ev (fun k => impl_Likeliest.j1 a b soft k (m : Int) ((n + m : Nat) : Int) (n : Int) false) (outV (2 ^ m) a b n m soft n 0 0, bstV (2 ^ m) a b n soft (n + m) 0 0, true) := by
 have hp : (0 : Int) < 2 ^ m ∧ (2 : Int) ^ m ≤ 64 := by
  obtain ⟨_, h2, q, hq, hq2⟩ := pow_small (m := m) hm.2
  rw [Int.pow_succ] at hq h2
  omega
 obtain ⟨Q, hQ⟩ : ∃ Q : Int, Q = 2 ^ m := ⟨_, rfl⟩
 have w1 : wrap64 (shl .i64 1 (m : Int) - 1) = Q - 1 := by rw [shl_one (by omega), w64 (by omega) (by omega), hQ]
 rw [← hQ] at hp ⊢
 have w2 : wrap64 (Q - 1 + 1) = Q := by rw [w64 (by omega) (by omega)]; omega
 have w3 : wrap64 (((n + m : Nat) : Int) + 1) = ((n + m + 1 : Nat) : Int) := by rw [w64 (by omega) (by omega)]; omega
 have w4 : wrap64 (((n + m : Nat) : Int) - 1) = ((n + m : Nat) : Int) - 1 := w64 (by omega) (by omega)
 refine Ev.succ ?_
 simp only [impl_Likeliest.j1]
 simp only [w1, w2, w3, w4, Int.toNat_natCast, Option.bind_some, List.length_replicate]
 have hr : lk_rd2 ((List.replicate (n + m + 1) ([] : List Int)).set (n + m) (List.replicate Q.toNat 0)) ((n + m : Nat) : Int) = List.replicate Q.toNat 0 := rd2_set_eq (by simp) _
 refine Ev.neg (by decide) (Ev.pos (by omega) (Ev.pos (by omega) (Ev.pos (by omega) (Ev.pos (by omega) (Ev.pos (by omega) (Ev.pos (by omega) (Ev.pos (by omega) ?_)))))))
 refine lk_l0 m n hm a b ha hb soft h100 hlen hn hQ hp (n + m) _ (by omega) (by simp) (fun j h1 h2 => ?_)
 have : j = n + m := by omega
 subst this
 unfold rowOk
 rw [hr]
 refine ⟨by simp; omega, fun s hs => ?_⟩
 rw [show n + m - (n + m) = 0 by omega]
 simp only [bstV]
 rw [rd_nat, List.getD_eq_getElem?_getD, List.getElem?_replicate, if_pos hs]
 rfl
def likOf (m a b : Int) (soft : List Int) : List Int × Int × Bool :=
 if coderB m a b = true ∧ soft.length % 2 = 0 ∧ allIn 100 soft = true ∧ m ≤ (soft.length / 2 : Nat) ∧ (soft.length / 2 : Nat) - m ≤ 120 then
  (outV (2 ^ m.toNat) a b (soft.length / 2 - m.toNat) m.toNat soft (soft.length / 2 - m.toNat) 0 0, bstV (2 ^ m.toNat) a b (soft.length / 2 - m.toNat) soft (soft.length / 2) 0 0, true)
 else ([], 0, false)
theorem rd_100 {soft : List Int} (h : allIn 100 soft = true) : ∀ i : Nat, -100 ≤ rd soft i ∧ rd soft i ≤ 100 := by
 intro i
 rcases Nat.lt_or_ge i soft.length with h1 | h1
 ·exact allIn_iff.1 h _ (rd_mem h1)
 ·rw [rd_nat, List.getD_eq_getElem?_getD, List.getElem?_eq_none h1]; simp
theorem iLikeliest_ev (m a b : Int) (soft : List Int) (hl : soft.length ≤ 35184372088832) : Ev (fun k => impl_Likeliest.f k m a b soft) (likOf m a b soft) := by
 have bad : Ev (fun k => impl_Likeliest.j0 a b soft k m soft true) ([], 0, false) := by
  refine Ev.succ ?_
  simp only [impl_Likeliest.j0]
  exact Ev.pos trivial (Ev.some_ rfl)
 have bad1 : ∀ x y : Int, Ev (fun k => impl_Likeliest.j1 a b soft k m x y true) ([], 0, false) := fun x y => by
  refine Ev.succ ?_
  simp only [impl_Likeliest.j1]
  exact Ev.pos trivial (Ev.some_ rfl)
 unfold impl_Likeliest.f likOf
 rw [coder_eq]
 simp only [Option.bind_some]
 by_cases h1 : coderB m a b = true
 case neg =>
  rw [if_neg (fun h => h1 h.1)]
  exact Ev.neg h1 bad
 refine Ev.pos h1 ?_
 by_cases h2 : soft.length % 2 = 0
 case neg =>
  rw [if_neg (fun h => h2 h.2.1)]
  exact Ev.neg (by omega) bad
 refine Ev.pos (by omega) (Ev.next (within_ev soft 100 (by omega) (by omega) hl) ?_)
 by_cases h3 : allIn 100 soft = true
 case neg =>
  rw [if_neg (fun h => h3 h.2.2.1)]
  rw [show (!allIn 100 soft) = true by simp [h3]]
  exact bad
 rw [h3]
 have hc := h1
 unfold coderB at hc
 simp only [decide_eq_true_eq] at hc
 obtain ⟨n, rfl⟩ := Int.eq_ofNat_of_zero_le (show 0 ≤ m by omega)
 rw [Int.toNat_natCast] at hc ⊢
 have hp := pow_small (m := n) (by omega)
 have w1 : wrap64 ((soft.length : Int) / 2) = ((soft.length / 2 : Nat) : Int) := by rw [w64 (by omega) (by omega)]; omega
 refine Ev.succ ?_
 simp only [impl_Likeliest.j0, Bool.not_true]
 rw [w1]
 refine Ev.neg (by decide) ?_
 have w2 : wrap64 (((soft.length / 2 : Nat) : Int) - (n : Int)) = ((soft.length / 2 : Nat) : Int) - (n : Int) := w64 (by omega) (by omega)
 rw [w2]
 by_cases h4 : (n : Int) ≤ ((soft.length / 2 : Nat) : Int)
 case neg =>
  rw [if_neg (fun h => h4 h.2.2.2.1)]
  exact Ev.pos (by omega) (bad1 _ _)
 refine Ev.neg (by omega) ?_
 by_cases h5 : ((soft.length / 2 : Nat) : Int) - (n : Int) ≤ 120
 case neg =>
  rw [if_neg (fun h => h5 h.2.2.2.2), show decide (((soft.length / 2 : Nat) : Int) - (n : Int) > 120) = true by simp; omega]
  exact bad1 _ _
 rw [if_pos ⟨h1, h2, trivial, h4, h5⟩, show decide (((soft.length / 2 : Nat) : Int) - (n : Int) > 120) = false by simp; omega]
 obtain ⟨N, hN⟩ : ∃ N, N = soft.length / 2 - n := ⟨_, rfl⟩
 have e1 : soft.length / 2 = N + n := by omega
 rw [← hN, e1, show (((N + n : Nat) : Int) - (n : Int)) = (N : Int) by omega]
 exact lk_j1 n N (by omega) a b (by omega) (by omega) soft (rd_100 h3) (by omega) (by omega)
/-! Lists of bits, the first in the order of words. -/
def lexLt : List Int → List Int → Bool
 | x :: xs, y :: ys => if x = y then lexLt xs ys else decide (x < y)
 | _, _ => false
theorem lexLt_self : ∀ xs, lexLt xs xs = false
 | [] => rfl
 | x :: xs => by simp only [lexLt]; rw [if_pos trivial]; exact lexLt_self xs
theorem lexLt_asymm : ∀ xs ys, lexLt xs ys = true → lexLt ys xs = false
 | [], _, h => by simp [lexLt] at h
 | _ :: _, [], h => by simp [lexLt] at h
 | x :: xs, y :: ys, h => by
  simp only [lexLt] at h ⊢
  by_cases e : x = y
  case pos =>
   subst e
   rw [if_pos rfl] at h ⊢
   exact lexLt_asymm xs ys h
  rw [if_neg e] at h
  rw [if_neg (Ne.symm e)]
  simp at h ⊢; omega
theorem lexLe_trans : ∀ a b c : List Int, a.length = b.length → b.length = c.length → lexLt b a = false → lexLt c b = false → lexLt c a = false
 | [], _, [], _, _, _, _ => rfl
 | [], _, _ :: _, _, _, _, _ => by simp [lexLt]
 | x :: a, [], _, h, _, _, _ => by simp at h
 | x :: a, y :: b, [], _, h, _, _ => by simp at h
 | x :: a, y :: b, z :: c, h1, h2, h3, h4 => by
  simp only [lexLt] at h3 h4 ⊢
  by_cases e : y = x
  case pos =>
   subst e
   rw [if_pos rfl] at h3
   by_cases e2 : z = y
   case neg =>
    rw [if_neg e2] at h4 ⊢
    exact h4
   subst e2
   rw [if_pos rfl] at h4 ⊢
   exact lexLe_trans a b c (by simpa using h1) (by simpa using h2) h3 h4
  rw [if_neg e] at h3
  by_cases e2 : z = y
  case pos =>
   subst e2
   rw [if_neg e]
   exact h3
  rw [if_neg e2] at h4
  have h3 : ¬ y < x := by simpa using h3
  have h4 : ¬ z < y := by simpa using h4
  rw [if_neg (by omega)]
  simp; omega
theorem lexLe_antisymm : ∀ a b : List Int, a.length = b.length → lexLt b a = false → lexLt a b = false → a = b
 | [], [], _, _, _ => rfl
 | [], _ :: _, h, _, _ => by simp at h
 | _ :: _, [], h, _, _ => by simp at h
 | x :: a, y :: b, h, h1, h2 => by
  simp only [lexLt] at h1 h2
  by_cases e : x = y
  case neg =>
   rw [if_neg (Ne.symm e)] at h1
   rw [if_neg e] at h2
   simp at h1 h2; omega
  subst e
  rw [if_pos rfl] at h1 h2
  rw [lexLe_antisymm a b (by simpa using h) h1 h2]
theorem lexLt_snoc : ∀ (a b : List Int) (x : Int), a.length = b.length → lexLt (a ++ [x]) (b ++ [x]) = lexLt a b
 | [], [], x, _ => by simp [lexLt]
 | [], _ :: _, _, h => by simp at h
 | _ :: _, [], _, h => by simp at h
 | y :: a, z :: b, x, h => by
  simp only [List.cons_append, lexLt]
  rw [lexLt_snoc a b x (by simpa using h)]
/-! Words told from their beginning: the state and the score behind i steps; what is best among those that end in a state. -/
def stF (Q : Int) (l : List Int) : Nat → Int
 | 0 => 0
 | i + 1 => (2 * stF Q l i + bitAt l i) % Q
def scF (Q a b : Int) (soft l : List Int) : Nat → Int
 | 0 => 0
 | i + 1 => scF Q a b soft l i + gnV a b soft i (2 * stF Q l i + bitAt l i)
theorem pthS_scF (Q a b : Int) (soft l : List Int) : ∀ d i, pthS Q a b soft l d i (stF Q l i) + scF Q a b soft l i = scF Q a b soft l (i + d)
 | 0, i => by simp [pthS]
 | d + 1, i => by
  have := pthS_scF Q a b soft l d (i + 1)
  simp only [pthS]
  rw [show i + (d + 1) = i + 1 + d by omega, ← this]
  simp only [stF, scF]
  omega
theorem stF_congr (Q : Int) (u v : List Int) : ∀ i, (∀ j, j < i → bitAt u j = bitAt v j) → stF Q u i = stF Q v i
 | 0, _ => rfl
 | i + 1, h => by
  simp only [stF]
  rw [stF_congr Q u v i (fun j hj => h j (by omega)), h i (by omega)]
theorem scF_congr (Q a b : Int) (soft u v : List Int) : ∀ i, (∀ j, j < i → bitAt u j = bitAt v j) → scF Q a b soft u i = scF Q a b soft v i
 | 0, _ => rfl
 | i + 1, h => by
  simp only [scF]
  rw [scF_congr Q a b soft u v i (fun j hj => h j (by omega)), stF_congr Q u v i (fun j hj => h j (by omega)), h i (by omega)]
theorem stF_bd {Q : Int} (hQ : 0 < Q) (l : List Int) : ∀ i, 0 ≤ stF Q l i ∧ stF Q l i < Q
 | 0 => ⟨Int.le_refl _, hQ⟩
 | i + 1 => ⟨Int.emod_nonneg _ (by omega), Int.emod_lt_of_pos _ hQ⟩
theorem scF_bd {Q a b : Int} {soft : List Int} (h : ∀ i : Nat, -100 ≤ rd soft i ∧ rd soft i ≤ 100) (l : List Int) : ∀ i : Nat, -200 * (i : Int) ≤ scF Q a b soft l i ∧ scF Q a b soft l i ≤ 200 * (i : Int)
 | 0 => by simp [scF]
 | i + 1 => by
  simp only [scF]
  have h1 := gnV_bd (a := a) (b := b) h i (2 * stF Q l i + bitAt l i)
  have h2 := scF_bd (Q := Q) (a := a) (b := b) h l i
  omega
theorem bitAt_take (w : List Int) (i j : Nat) (h : j < i) : bitAt (w.take i) j = bitAt w j := by
 unfold bitAt
 by_cases hw : j < w.length
 case neg => rw [if_neg (by simp; omega), if_neg hw]
 rw [if_pos (by simp; omega), if_pos hw, rd_nat, rd_nat]
 simp [List.getD_eq_getElem?_getD, List.getElem?_take, h]
theorem bitAt_snoc (w : List Int) (x : Int) (j : Nat) (h : j < w.length) : bitAt (w ++ [x]) j = bitAt w j := by
 unfold bitAt
 rw [if_pos (by simp; omega), if_pos h, rd_nat, rd_nat]
 simp [List.getD_eq_getElem?_getD, List.getElem?_append_left h]
theorem bitAt_end (w : List Int) (x : Int) : bitAt (w ++ [x]) w.length = x := by
 unfold bitAt
 rw [if_pos (by simp), rd_nat]
 simp [List.getD_eq_getElem?_getD]
def Dom (p : Int) (u : List Int) (q : Int) (v : List Int) : Prop := q < p ∨ (p = q ∧ lexLt v u = false)
theorem Dom.trans {p q r : Int} {u v w : List Int} (h1 : Dom p u q v) (h2 : Dom q v r w) (e1 : u.length = v.length) (e2 : v.length = w.length) : Dom p u r w := by
 rcases h1 with h1 | ⟨h1, h3⟩ <;> rcases h2 with h2 | ⟨h2, h4⟩
 ·exact .inl (by omega)
 ·exact .inl (by omega)
 ·exact .inl (by omega)
 ·exact .inr ⟨by omega, lexLe_trans u v w e1 e2 h3 h4⟩
theorem Dom.self (p : Int) (u : List Int) : Dom p u p u := .inr ⟨rfl, lexLt_self u⟩
def wordOk (n i : Nat) (w : List Int) : Prop := (∀ x ∈ w, x = 0 ∨ x = 1) ∧ w.length = min i n
theorem wordOk.take {n i : Nat} {w : List Int} (h : wordOk n (i + 1) w) : wordOk n i (w.take i) :=
 ⟨fun x hx => h.1 x (List.mem_of_mem_take hx), by rw [List.length_take, h.2]; omega⟩
section
variable (Q a b : Int) (n : Nat) (soft : List Int)
theorem stF_take (w : List Int) (i : Nat) : stF Q (w.take i) i = stF Q w i := stF_congr Q _ _ i (fun j hj => bitAt_take w i j hj)
theorem scF_take (w : List Int) (i : Nat) : scF Q a b soft (w.take i) i = scF Q a b soft w i := scF_congr Q a b soft _ _ i (fun j hj => bitAt_take w i j hj)
/-- A word with one step more. -/
def wordNext (i : Nat) (u : List Int) (x : Int) : List Int := if i < n then u ++ [x] else u
theorem wordNext_ok {i : Nat} {u : List Int} {x : Int} (h : wordOk n i u) (hx : x = 0 ∨ x = 1) (hl : ¬ i < n → x = 0) : wordOk n (i + 1) (wordNext n i u x) ∧ stF Q (wordNext n i u x) (i + 1) = (2 * stF Q u i + x) % Q ∧ scF Q a b soft (wordNext n i u x) (i + 1) = scF Q a b soft u i + gnV a b soft i (2 * stF Q u i + x) := by
 have hu := h.2
 unfold wordNext
 by_cases hi : i < n
 case neg =>
  rw [if_neg hi]
  have e2 : bitAt u i = x := by rw [bitAt_past (by omega), hl hi]
  refine ⟨⟨h.1, by omega⟩, ?_, ?_⟩
  ·simp only [stF]; rw [e2]
  ·simp only [scF]; rw [e2]
 rw [if_pos hi]
 have e1 : ∀ j, j < i → bitAt (u ++ [x]) j = bitAt u j := fun j hj => bitAt_snoc u x j (by omega)
 have e2 : bitAt (u ++ [x]) i = x := by
  have := bitAt_end u x
  rwa [show u.length = i by omega] at this
 refine ⟨⟨fun y hy => ?_, by simp; omega⟩, ?_, ?_⟩
 ·rcases List.mem_append.1 hy with hy | hy
  ·exact h.1 y hy
  ·simp at hy; rw [hy]; exact hx
 ·simp only [stF]; rw [stF_congr Q _ _ i e1, e2]
 ·simp only [scF]; rw [scF_congr Q a b soft _ _ i e1, stF_congr Q _ _ i e1, e2]
theorem wordNext_take {i : Nat} {w : List Int} (h : wordOk n (i + 1) w) : wordNext n i (w.take i) (bitAt w i) = w := by
 have hw := h.2
 unfold wordNext
 by_cases hi : i < n
 case neg => rw [if_neg hi, List.take_of_length_le (by omega)]
 rw [if_pos hi]
 have hl : i < w.length := by omega
 rw [show bitAt w i = rd w i from if_pos hl, ← take_rd hl, List.take_of_length_le (by omega)]
theorem wordNext_lex {i : Nat} {u v : List Int} (x : Int) (h : u.length = v.length) : lexLt (wordNext n i u x) (wordNext n i v x) = lexLt u v := by
 unfold wordNext
 split
 ·exact lexLt_snoc u v x h
 ·rfl
/-- What stands before a word, with score and state, is best; so is its next step among those that come of that state by that bit. -/
theorem wordNext_dom {i : Nat} {u : List Int} {x s : Int} (hu : wordOk n i u) (hs : stF Q u i = s) (hd : ∀ w, wordOk n i w → stF Q w i = s → Dom (scF Q a b soft u i) u (scF Q a b soft w i) w) (w : List Int) (hw : wordOk n (i + 1) w) (hws : stF Q w i = s) (hx : bitAt w i = x) :
 Dom (scF Q a b soft u i + gnV a b soft i (2 * s + x)) (wordNext n i u x) (scF Q a b soft w (i + 1)) w := by
 have h1 := hd (w.take i) hw.take (by rw [stF_take]; exact hws)
 rw [scF_take] at h1
 have e : scF Q a b soft w (i + 1) = scF Q a b soft w i + gnV a b soft i (2 * s + x) := by simp only [scF]; rw [hws, hx]
 have e2 := wordNext_take n hw
 rw [hx] at e2
 rw [e]
 rcases h1 with h1 | ⟨h1, h2⟩
 ·exact .inl (by omega)
 ·refine .inr ⟨by omega, ?_⟩
  rw [← e2, wordNext_lex n x (by rw [hw.take.2, hu.2])]
  exact h2
/-- What the greedy walk takes comes first among the best. -/
theorem outV_lex (m : Nat) (l : List Int) (hl : l.length = n) (hb : ∀ x ∈ l, x = 0 ∨ x = 1) : ∀ d i s, i + d = n → pthS Q a b soft l (d + m) i s = bstV Q a b n soft (d + m) i s → lexLt (l.drop i) (outV Q a b n m soft d i s) = false
 | 0, i, s, hi, _ => by rw [List.drop_of_length_le (by omega)]; rfl
 | d + 1, i, s, hi, h => by
  have e : bstV Q a b n soft (d + 1 + m) i s = max (gnV a b soft i (2 * s) + bstV Q a b n soft (d + m) (i + 1) (2 * s % Q)) (gnV a b soft i (2 * s + 1) + bstV Q a b n soft (d + m) (i + 1) ((2 * s + 1) % Q)) := by
   rw [show d + 1 + m = d + m + 1 by omega]
   simp only [bstV]
   rw [if_pos (by omega)]
  have e2 : pthS Q a b soft l (d + 1 + m) i s = gnV a b soft i (2 * s + bitAt l i) + pthS Q a b soft l (d + m) (i + 1) ((2 * s + bitAt l i) % Q) := by
   rw [show d + 1 + m = d + m + 1 by omega]
   rfl
  have hx : bitAt l i = rd l i := if_pos (by omega)
  rw [e2] at h
  rw [drop_rd (xs := l) (i := i) (by omega), ← hx]
  simp only [outV]
  have l0 := pthS_le Q a b n soft l hl hb (d + m) (i + 1) (2 * s % Q)
  have l1 := pthS_le Q a b n soft l hl hb (d + m) (i + 1) ((2 * s + 1) % Q)
  rcases bitAt_bit hb i with hz | hz
  ·rw [hz, Int.add_zero] at h
   rw [hz]
   rw [if_neg (by omega)]
   simp only [lexLt]
   rw [if_pos trivial]
   refine outV_lex m l hl hb d (i + 1) _ (by omega) ?_
   rw [e] at h
   omega
  ·rw [hz] at h
   rw [hz]
   by_cases hc : gnV a b soft i (2 * s) + bstV Q a b n soft (d + m) (i + 1) (2 * s % Q) < bstV Q a b n soft (d + 1 + m) i s
   case neg =>
    rw [if_neg hc]
    simp only [lexLt]
    rw [if_neg (by decide)]
    decide
   rw [if_pos hc]
   simp only [lexLt]
   rw [if_pos trivial]
   refine outV_lex m l hl hb d (i + 1) _ (by omega) ?_
   rw [e] at h hc
   omega
end
/-- Every word ends in state 0. -/
theorem stF_end (m n : Nat) (l : List Int) (hl : l.length = n) : ∀ j : Nat, stF (2 ^ m) l (n + j) = (stF (2 ^ m) l n * 2 ^ j) % 2 ^ m
 | 0 => by
  have := stF_bd (Q := 2 ^ m) (Int.pow_pos (by omega)) l n
  rw [Nat.add_zero, Int.pow_zero, Int.mul_one]
  exact (Int.emod_eq_of_lt this.1 this.2).symm
 | j + 1 => by
  rw [show n + (j + 1) = n + j + 1 by omega]
  simp only [stF]
  rw [bitAt_past (by omega), Int.add_zero, stF_end m n l hl j, Int.pow_succ, ← Int.mul_assoc, Int.mul_comm (stF (2 ^ m) l n * 2 ^ j) 2, Int.mul_emod, Int.emod_emod, ← Int.mul_emod]
theorem stF_zero (m n : Nat) (l : List Int) (hl : l.length = n) : stF (2 ^ m) l (n + m) = 0 := by
 rw [stF_end m n l hl m]
 exact Int.mul_emod_left _ _
theorem l1In_eq (a b c : Int) : spec_l1In.f a b c = some (decide (b ≤ a) && decide (a ≤ c)) := by
 unfold spec_l1In.f
 by_cases h : a ≥ b
 case pos => rw [if_pos h]; simp [show b ≤ a from h]
 rw [if_neg h]; simp [show ¬ b ≤ a from h]
theorem l15Coder_eq (m a b : Int) : spec_l15Coder.f m a b = some (coderB m a b) := by
 unfold spec_l15Coder.f coderB
 simp only [l1In_eq, Option.bind_some]
 by_cases h : 1 ≤ m ∧ m ≤ 6
 case neg =>
  rw [if_neg (by simp; omega), Option.some.injEq]
  symm; rw [decide_eq_false_iff_not]; exact fun hh => h hh.1
 obtain ⟨n, rfl⟩ := Int.eq_ofNat_of_zero_le (show 0 ≤ m by omega)
 have hp := pow_small (m := n) (by omega)
 rw [if_pos (by simp; omega), w64_add (by omega) (by omega), show ((n : Int) + 1) = ((n + 1 : Nat) : Int) by omega, wu64 (by omega) (by omega), if_pos (by omega), shl_one (by omega), w64 (by omega) (by omega), Int.toNat_natCast]
 by_cases h2 : 1 ≤ a ∧ a ≤ 2 ^ (n + 1) - 1
 case pos =>
  rw [if_pos (by simp [h2]), Option.some.injEq]
  rw [Bool.eq_iff_iff]; simp; omega
 rw [if_neg (by simpa using h2), Option.some.injEq]
 symm; rw [decide_eq_false_iff_not]; exact fun hh => h2 hh.2.1
theorem l14Ones_l0 : ∀ (n : Nat) (x s : Int), 0 ≤ x → x < 2 ^ n → 0 ≤ s → s ≤ 1000 - n → n ≤ 60 → Ev (fun k => spec_l14Ones.l0 k x s) (s + onesN n x) := by
 intro n
 induction n with
 | zero =>
  intro x s h0 h1 _ _ _
  refine Ev.succ ?_
  simp only [spec_l14Ones.l0]
  exact Ev.neg (by simp at h1; omega) (Ev.some_ (by simp [onesN]))
 | succ n ih =>
  intro x s h0 h1 h2 h3 h4
  have e : (2 : Int) ^ (n + 1) = 2 * 2 ^ n := by rw [Int.pow_succ]; omega
  have hb : (2 : Int) ^ (n + 1) ≤ 2 ^ 60 := by
   have : (2 : Nat) ^ (n + 1) ≤ 2 ^ 60 := Nat.pow_le_pow_right (by omega) (by omega)
   exact_mod_cast this
  by_cases hx : x = 0
  case pos =>
   subst hx
   have z : ∀ m : Nat, onesN m 0 = 0 := by
    intro m
    induction m with
    | zero => rfl
    | succ m ihm => simp [onesN, ihm]
   refine Ev.succ ?_
   simp only [spec_l14Ones.l0]
   exact Ev.neg (by omega) (Ev.some_ (by rw [z]; omega))
  refine Ev.succ ?_
  simp only [spec_l14Ones.l0]
  rw [Int.tdiv_eq_ediv_of_nonneg h0, Int.tmod_eq_emod_of_nonneg h0, w64 (by omega) (by omega), w64 (by omega) (by omega)]
  exact Ev.pos (by omega) ((ih (x / 2) (s + x % 2) (by omega) (by omega) (by omega) (by omega) (by omega)).to (by simp only [onesN]; omega))
theorem l14Ones_ev {x : Int} (h0 : 0 ≤ x) (h1 : x ≤ 127) : Ev (fun k => spec_l14Ones.f k x) (onesN 8 x) :=
 (l14Ones_l0 8 x 0 h0 (by omega) (by omega) (by omega) (by omega)).to (by simp)
theorem l9Wide_l0 (l : List Int) (a : Int) (ha : 0 ≤ a) (ha' : a ≤ 9000000000000000000) (hl : l.length ≤ 35184372088832) : ∀ (d i : Nat), i + d = l.length → Ev (fun k => spec_l9Wide.l0 k l a (i : Int)) (allIn a (l.drop i)) := by
 intro d
 induction d with
 | zero =>
  intro i hi
  refine (Ev.round (f := fun _ => some true) (Ev.some_ rfl) (fun k => by simp only [spec_l9Wide.l0]; rw [if_neg (by omega)])).to ?_
  rw [List.drop_of_length_le (by omega)]; rfl
 | succ d ih =>
  intro i hi
  rw [drop_rd (xs := l) (i := i) (by omega)]
  by_cases h1 : -a ≤ rd l i ∧ rd l i ≤ a
  case neg =>
   refine (Ev.round (f := fun _ => some false) (Ev.some_ rfl) (fun k => ?_)).to (by simp [allIn]; intros; omega)
   simp only [spec_l9Wide.l0, l1In_eq, Option.bind_some]
   rw [if_pos (by omega), if_pos (by omega), w64 (n := -a) (by omega) (by omega), if_neg (by simp; omega)]
  refine (Ev.round (ih (i + 1) (by omega)) (fun k => ?_)).to ?_
  ·simp only [spec_l9Wide.l0, l1In_eq, Option.bind_some]
   rw [if_pos (by omega), if_pos (by omega), w64 (n := -a) (by omega) (by omega), if_pos (by simp; omega), w64_add (by omega) (by omega)]
   simp
  ·simp [allIn]; intros; omega
theorem l9Wide_ev (l : List Int) (a : Int) (ha : 0 ≤ a) (ha' : a ≤ 9000000000000000000) (hl : l.length ≤ 35184372088832) : Ev (fun k => spec_l9Wide.f k l a) (allIn a l) :=
 (l9Wide_l0 l a ha ha' hl l.length 0 (by omega)).to (by simp)
theorem EvP.via {α β : Type} {g : Nat → Option α} {o : α → Nat → Option β} {a : α} {P : β → Prop} (h : Ev g a) (K : EvP (o a) P) : EvP (fun n => (g n).bind fun x => o x n) P := by
 obtain ⟨r, h2, hp⟩ := K
 exact ⟨r, Ev.next h h2, hp⟩
theorem l15First_l0 (u v : List Int) (he : u.length = v.length) (hl : u.length ≤ 1000) : ∀ d i : Nat, i + d = u.length → Ev (fun k => spec_l15First.l0 k u v (i : Int)) (lexLt (u.drop i) (v.drop i)) := by
 intro d
 induction d with
 | zero =>
  intro i hi
  refine Ev.succ ?_
  simp only [spec_l15First.l0]
  rw [List.drop_of_length_le (by omega)]
  exact Ev.neg (by omega) (Ev.some_ (by simp [lexLt]))
 | succ d ih =>
  intro i hi
  refine Ev.succ ?_
  simp only [spec_l15First.l0]
  rw [drop_rd (xs := u) (i := i) (by omega), drop_rd (xs := v) (i := i) (by omega), w64_add (by omega) (by omega)]
  simp only [lexLt]
  exact Ev.pos (by omega) (Ev.pos (by omega) (Ev.pos (by omega) (Ev.cond (fun _ => ih (i + 1) (by omega)) (fun _ => Ev.some_ rfl))))
theorem l15First_ev (u v : List Int) (he : u.length = v.length) (hl : u.length ≤ 1000) : Ev (fun k => spec_l15First.f k u v) (lexLt u v) :=
 (l15First_l0 u v he hl u.length 0 (by omega)).to (by simp)
theorem rdT_set_eq {xs : List S54} {t : Nat} (h : t < xs.length) (v : S54) : rd_T54 (xs.set t v) (t : Int) = v := by
 unfold rd_T54
 simp [List.getD_eq_getElem?_getD, h]
theorem rdT_set_ne {xs : List S54} {t j : Nat} (h : t ≠ j) (v : S54) : rd_T54 (xs.set t v) (j : Int) = rd_T54 xs (j : Int) := by
 unfold rd_T54
 simp [List.getD_eq_getElem?_getD, List.getElem?_set_ne h]
section
variable (Q a b : Int) (n : Nat) (soft : List Int) (i : Nat)
def bestAt (p : S54) (s : Int) : Prop :=
 (p.f0 = true → ∀ w, wordOk n i w → stF Q w i ≠ s) ∧ (p.f0 = false → wordOk n i p.f2 ∧ stF Q p.f2 i = s ∧ p.f1 = scF Q a b soft p.f2 i ∧ ∀ w, wordOk n i w → stF Q w i = s → Dom p.f1 p.f2 (scF Q a b soft w i) w)
def pathsOk (ps : List S54) : Prop := (ps.length : Int) = Q ∧ ∀ s : Nat, (s : Int) < Q → bestAt Q a b n soft i (rd_T54 ps s) s
def gone (w : List Int) (s0 b0 : Int) : Prop := stF Q w i < s0 ∨ (stF Q w i = s0 ∧ bitAt w i < b0)
def midAt (o : S54) (t s0 b0 : Int) : Prop :=
 (o.f0 = true → ∀ w, wordOk n (i + 1) w → stF Q w (i + 1) = t → ¬ gone Q i w s0 b0) ∧ (o.f0 = false → wordOk n (i + 1) o.f2 ∧ stF Q o.f2 (i + 1) = t ∧ o.f1 = scF Q a b soft o.f2 (i + 1) ∧ ∀ w, wordOk n (i + 1) w → stF Q w (i + 1) = t → gone Q i w s0 b0 → Dom o.f1 o.f2 (scF Q a b soft w (i + 1)) w)
def midOk (out : List S54) (s0 b0 : Int) : Prop := (out.length : Int) = Q ∧ ∀ t : Nat, (t : Int) < Q → midAt Q a b n soft i (rd_T54 out t) t s0 b0
theorem midAt.sub {o : S54} {t s0 b0 s1 b1 : Int} (h : midAt Q a b n soft i o t s0 b0) (hg : ∀ w, wordOk n (i + 1) w → stF Q w (i + 1) = t → gone Q i w s1 b1 → gone Q i w s0 b0) : midAt Q a b n soft i o t s1 b1 :=
 ⟨fun h0 w h1 h2 h3 => h.1 h0 w h1 h2 (hg w h1 h2 h3), fun h0 => ⟨(h.2 h0).1, (h.2 h0).2.1, (h.2 h0).2.2.1, fun w h1 h2 h3 => (h.2 h0).2.2.2 w h1 h2 (hg w h1 h2 h3)⟩⟩
theorem midOk.sub {out : List S54} {s0 b0 s1 b1 : Int} (h : midOk Q a b n soft i out s0 b0) (hg : ∀ w, wordOk n (i + 1) w → gone Q i w s1 b1 → gone Q i w s0 b0) : midOk Q a b n soft i out s1 b1 :=
 ⟨h.1, fun t ht => (h.2 t ht).sub Q a b n soft i (fun w h1 _ h3 => hg w h1 h3)⟩
/-- No word comes to this state: both its bits are passed over. -/
theorem midOk.none {ps out : List S54} {s : Nat} (hp : pathsOk Q a b n soft i ps) (hs : (s : Int) < Q) (hn : (rd_T54 ps s).f0 = true) (h : midOk Q a b n soft i out s 0) : midOk Q a b n soft i out ((s + 1 : Nat) : Int) 0 := by
 refine h.sub Q a b n soft i (fun w hw hg => ?_)
 have hne := (hp.2 s hs).1 hn (w.take i) hw.take
 rw [stF_take] at hne
 have hb := bitAt_bit hw.1 i
 rcases hg with hg | ⟨hg, hg2⟩
 ·exact .inl (by omega)
 ·omega
theorem midOk.last {out : List S54} {s : Int} (hi : n ≤ i) (h : midOk Q a b n soft i out s 1) : midOk Q a b n soft i out s 2 := by
 refine h.sub Q a b n soft i (fun w hw hg => ?_)
 have hw2 := hw.2
 have hz : bitAt w i = 0 := bitAt_past (by omega)
 rcases hg with hg | ⟨hg, hg2⟩
 ·exact .inl hg
 ·exact .inr ⟨hg, by omega⟩
theorem midOk.next {out : List S54} {s : Nat} (h : midOk Q a b n soft i out s 2) : midOk Q a b n soft i out ((s + 1 : Nat) : Int) 0 := by
 refine h.sub Q a b n soft i (fun w hw hg => ?_)
 have hb := bitAt_bit hw.1 i
 rcases hg with hg | ⟨hg, hg2⟩
 ·rcases Int.lt_or_le (stF Q w i) s with h1 | h1
  ·exact .inl h1
  ·exact .inr ⟨by omega, by omega⟩
 ·omega
theorem midOk.done {out : List S54} (hQ : 0 < Q) (h : midOk Q a b n soft i out Q 0) : pathsOk Q a b n soft (i + 1) out :=
 ⟨h.1, fun t ht => ⟨fun h0 w hw hs => (h.2 t ht).1 h0 w hw hs (.inl (stF_bd hQ w i).2), fun h0 => ⟨((h.2 t ht).2 h0).1, ((h.2 t ht).2 h0).2.1, ((h.2 t ht).2 h0).2.2.1, fun w hw hs => ((h.2 t ht).2 h0).2.2.2 w hw hs (.inl (stF_bd hQ w i).2)⟩⟩⟩
theorem midOk.init {out : List S54} (hQ : 0 < Q) (hl : (out.length : Int) = Q) (h : ∀ t : Nat, (t : Int) < Q → (rd_T54 out t).f0 = true) : midOk Q a b n soft i out 0 0 :=
 ⟨hl, fun t ht => ⟨fun _ w hw _ hg => by
  have := stF_bd hQ w i
  have hb := bitAt_bit hw.1 i
  rcases hg with hg | hg <;> omega, fun h0 => by rw [h t ht] at h0; cases h0⟩⟩
/-- A path one step on, laid where it ends. -/
theorem midOk.put {ps out : List S54} {s : Nat} {x : Int} (hQ : 0 < Q) (hp : pathsOk Q a b n soft i ps) (hs : (s : Int) < Q) (hn : (rd_T54 ps s).f0 = false) (hx : x = 0 ∨ x = 1) (hl : ¬ i < n → x = 0) (h : midOk Q a b n soft i out s x) (t : Nat) (ht : (t : Int) = (2 * (s : Int) + x) % Q) (sc : Int) (hsc : sc = (rd_T54 ps s).f1 + gnV a b soft i (2 * s + x)) (u : List Int) (hu : u = wordNext n i (rd_T54 ps s).f2 x) :
 (((rd_T54 out t).f0 = true ∨ (rd_T54 out t).f1 < sc ∨ (sc = (rd_T54 out t).f1 ∧ lexLt u (rd_T54 out t).f2 = true)) → midOk Q a b n soft i (out.set t ⟨false, sc, u⟩) s (x + 1)) ∧ (¬ ((rd_T54 out t).f0 = true ∨ (rd_T54 out t).f1 < sc ∨ (sc = (rd_T54 out t).f1 ∧ lexLt u (rd_T54 out t).f2 = true)) → midOk Q a b n soft i out s (x + 1)) ∧ ((rd_T54 out t).f0 = false → u.length = (rd_T54 out t).f2.length) ∧ u.length ≤ n ∧ sc = scF Q a b soft u (i + 1) := by
 obtain ⟨p1, p2, p3, p4⟩ := (hp.2 s hs).2 hn
 obtain ⟨n1, n2, n3⟩ := wordNext_ok Q a b n soft p1 hx hl
 rw [p2, ← ht] at n2
 rw [p2, ← p3, ← hsc] at n3
 rw [← hu] at n1 n2 n3
 have hdom : ∀ w, wordOk n (i + 1) w → stF Q w i = s → bitAt w i = x → Dom sc u (scF Q a b soft w (i + 1)) w := fun w hw h1 h2 => by
  have := wordNext_dom Q a b n soft p1 p2 (fun w hw hs => by rw [← p3]; exact p4 w hw hs) w hw h1 h2
  rw [← p3, ← hsc, ← hu] at this
  exact this
 have htQ : (t : Int) < Q := by rw [ht]; exact Int.emod_lt_of_pos _ hQ
 have htl : t < out.length := by have := h.1; omega
 have hsplit : ∀ w, gone Q i w s (x + 1) → gone Q i w s x ∨ (stF Q w i = s ∧ bitAt w i = x) := fun w hg => by
  rcases hg with hg | ⟨hg, hg2⟩
  ·exact .inl (.inl hg)
  ·rcases Int.lt_or_le (bitAt w i) x with h1 | h1
   ·exact .inl (.inr ⟨hg, h1⟩)
   ·exact .inr ⟨hg, by omega⟩
 have hother : ∀ j : Nat, j ≠ t → (j : Int) < Q → midAt Q a b n soft i (rd_T54 out j) j s (x + 1) := fun j hj hjQ =>
  (h.2 j hjQ).sub Q a b n soft i (fun w _ h2 hg => by
   rcases hsplit w hg with h3 | ⟨h3, h4⟩
   ·exact h3
   ·exfalso
    have : stF Q w (i + 1) = (2 * stF Q w i + bitAt w i) % Q := rfl
    rw [h3, h4, ← ht, h2] at this
    omega)
 have hlen : ∀ v, wordOk n (i + 1) v → v.length = u.length := fun v hv => by rw [hv.2, n1.2]
 refine ⟨fun hbt => ⟨by simpa using h.1, fun j hj => ?_⟩, fun hbt => ⟨h.1, fun j hj => ?_⟩, fun h0 => by rw [← hlen _ ((h.2 t htQ).2 h0).1], by have := n1.2; omega, n3.symm⟩
 ·by_cases hjt : j = t
  case neg =>
   rw [rdT_set_ne (Ne.symm hjt)]
   exact hother j hjt hj
  subst hjt
  rw [rdT_set_eq htl]
  refine ⟨fun h0 => (by cases h0), fun _ => ⟨n1, n2, n3.symm, fun w hw h2 hg => ?_⟩⟩
  rcases hsplit w hg with h3 | ⟨h3, h4⟩
  ·by_cases h0 : (rd_T54 out j).f0 = true
   case pos => exact absurd h3 ((h.2 j hj).1 h0 w hw h2)
   have h0 : (rd_T54 out j).f0 = false := by simpa using h0
   obtain ⟨o1, o2, o3, o4⟩ := (h.2 j hj).2 h0
   have hd := o4 w hw h2 h3
   have hu2 : Dom sc u (rd_T54 out j).f1 (rd_T54 out j).f2 := by
    rcases hbt with hb | hb | ⟨hb, hb2⟩
    ·rw [h0] at hb; cases hb
    ·exact .inl hb
    ·exact .inr ⟨hb, lexLt_asymm _ _ hb2⟩
   exact hu2.trans hd (hlen _ o1).symm ((hlen _ o1).trans (hlen _ hw).symm)
  ·exact hdom w hw h3 h4
 ·by_cases hjt : j = t
  case neg => exact hother j hjt hj
  subst hjt
  have h0 : (rd_T54 out j).f0 = false := by
   cases hh : (rd_T54 out j).f0 with
   | true => exact absurd (.inl hh) hbt
   | false => rfl
  obtain ⟨o1, o2, o3, o4⟩ := (h.2 j hj).2 h0
  refine ⟨fun h1 => (by rw [h0] at h1; cases h1), fun _ => ⟨o1, o2, o3, fun w hw h2 hg => ?_⟩⟩
  rcases hsplit w hg with h3 | ⟨h3, h4⟩
  ·exact o4 w hw h2 h3
  ·have hd := hdom w hw h3 h4
   have hou : Dom (rd_T54 out j).f1 (rd_T54 out j).f2 sc u := by
    rcases Int.lt_or_le sc (rd_T54 out j).f1 with h5 | h5
    ·exact .inl h5
    ·refine .inr ⟨?_, ?_⟩
     ·rcases Int.lt_or_le (rd_T54 out j).f1 sc with h6 | h6
      ·exact absurd (.inr (.inl h6)) hbt
      ·omega
     ·cases hh : lexLt u (rd_T54 out j).f2 with
      | false => rfl
      | true =>
       refine absurd (.inr (.inr ⟨?_, hh⟩)) hbt
       rcases Int.lt_or_le (rd_T54 out j).f1 sc with h6 | h6
       ·exact absurd (.inr (.inl h6)) hbt
       ·omega
   exact hou.trans hd (hlen _ o1) (hlen _ hw).symm
end
theorem l15Bet_ev (s : Int) (y : List Int) (o : S54) (h : o.f0 = false → y.length = o.f2.length) (hl : y.length ≤ 1000) : Ev (fun k => l15Bet k s y o) (decide (o.f0 = true ∨ o.f1 < s ∨ (s = o.f1 ∧ lexLt y o.f2 = true))) := by
 unfold l15Bet
 by_cases h0 : o.f0 = true
 case pos => exact (Ev.pos h0 (Ev.some_ rfl)).to (by simp [h0])
 refine Ev.neg h0 ?_
 by_cases h1 : s > o.f1
 case pos => exact (Ev.pos h1 (Ev.some_ rfl)).to (by simp; exact .inr (.inl h1))
 refine Ev.neg h1 ?_
 by_cases h2 : s = o.f1
 case neg => exact (Ev.neg h2 (Ev.some_ rfl)).to (by simp [h0, h2]; omega)
 refine (Ev.pos h2 (l15First_ev y o.f2 (h (by simpa using h0)) hl)).to ?_
 rw [Bool.eq_iff_iff]; simp [h0, h2]
theorem l15_sc {f x y pa pb : Int} (hf : -100000 ≤ f ∧ f ≤ 100000) (hx : -100 ≤ x ∧ x ≤ 100) (hy : -100 ≤ y ∧ y ≤ 100) (ha : pa = 0 ∨ pa = 1) (hb : pb = 0 ∨ pb = 1) :
 wrap64 (wrap64 (f + wrap64 (x * wrap64 (wrap64 (2 * pa) - 1))) + wrap64 (y * wrap64 (wrap64 (2 * pb) - 1))) = f + (x * (2 * pa - 1) + y * (2 * pb - 1)) := by
 have e0 : wrap64 (wrap64 (2 * 0) - 1) = -1 := by decide +kernel
 have e1 : wrap64 (wrap64 (2 * 1) - 1) = 1 := by decide +kernel
 rcases ha with rfl | rfl <;> rcases hb with rfl | rfl <;> simp only [e0, e1]
 ·rw [w64 (n := x * -1) (by omega) (by omega), w64 (n := y * -1) (by omega) (by omega), w64 (n := f + _) (by omega) (by omega), w64 (by omega) (by omega)]; omega
 ·rw [w64 (n := x * -1) (by omega) (by omega), w64 (n := y * 1) (by omega) (by omega), w64 (n := f + _) (by omega) (by omega), w64 (by omega) (by omega)]; omega
 ·rw [w64 (n := x * 1) (by omega) (by omega), w64 (n := y * -1) (by omega) (by omega), w64 (n := f + _) (by omega) (by omega), w64 (by omega) (by omega)]; omega
 ·rw [w64 (n := x * 1) (by omega) (by omega), w64 (n := y * 1) (by omega) (by omega), w64 (n := f + _) (by omega) (by omega), w64 (by omega) (by omega)]; omega
theorem l15_r {m n i : Nat} {s : Nat} {x Q : Int} (hm : 1 ≤ m ∧ m ≤ 6) (hQ : Q = 2 ^ m) (hQ2 : 0 < Q ∧ Q ≤ 64) (hs : (s : Int) < Q) (hx : x = 0 ∨ x = 1) : wrap64 (wrap64 (2 * (s : Int)) + x) = 2 * (s : Int) + x ∧ IntKind.u64.wrap (m : Int) = (m : Int) ∧ shl .i64 1 (m : Int) = Q ∧ Int.tmod (2 * (s : Int) + x) Q = (2 * (s : Int) + x) % Q ∧ wrap64 (x + 1) = x + 1 :=
 ⟨by rw [w64 (n := 2 * (s : Int)) (by omega) (by omega), w64 (by omega) (by omega)], wu64 (by omega) (by omega), by rw [shl_one (by omega), hQ], Int.tmod_eq_emod_of_nonneg (by omega), w64 (by omega) (by omega)⟩
theorem l15_tail {m : Int} {a b X Y Q t sc x : Int} {ps out : List S54} {last : Bool} {s : Nat} {u : List Int} {P : List S54 → Prop} (hQ : 0 < Q) (hm : 0 ≤ m) (ht0 : 0 ≤ t) (ht1 : t < (out.length : Int)) (hlen : (rd_T54 out t).f0 = false → u.length = (rd_T54 out t).f2.length) (hul : u.length ≤ 1000)
 (H1 : ((rd_T54 out t).f0 = true ∨ (rd_T54 out t).f1 < sc ∨ (sc = (rd_T54 out t).f1 ∧ lexLt u (rd_T54 out t).f2 = true)) → EvP (fun k => spec_l15Step.l2 k m a b ps X Y last (out.set t.toNat ⟨false, sc, u⟩) s (x + 1)) P) (H2 : ¬ ((rd_T54 out t).f0 = true ∨ (rd_T54 out t).f1 < sc ∨ (sc = (rd_T54 out t).f1 ∧ lexLt u (rd_T54 out t).f2 = true)) → EvP (fun k => spec_l15Step.l2 k m a b ps X Y last out s (x + 1)) P) :
 EvP (fun k => if 0 ≤ m then (if Q = 0 then none else (if 0 ≤ t then (if t < (out.length : Int) then ((l15Bet k sc u (rd_T54 out t)).bind fun t128 => (if t128 = true then spec_l15Step.l2 k m a b ps X Y last (out.set t.toNat ⟨false, sc, u⟩) s (x + 1) else spec_l15Step.l2 k m a b ps X Y last out s (x + 1))) else none) else none)) else none) P := by
 refine EvP.pos hm (EvP.neg (by omega) (EvP.pos ht0 (EvP.pos ht1 (EvP.via (l15Bet_ev sc u _ hlen hul) ?_))))
 exact EvP.both (fun h => H1 (by simpa using h)) (fun h => H2 (by simpa using h))
theorem l15_l2 (m n : Nat) (hm : 1 ≤ m ∧ m ≤ 6) (a b : Int) (ha : 0 ≤ a ∧ a ≤ 127) (hb : 0 ≤ b ∧ b ≤ 127) (soft : List Int) (h100 : ∀ i : Nat, -100 ≤ rd soft i ∧ rd soft i ≤ 100) (hn : n ≤ 120) {Q : Int} (hQ : Q = 2 ^ m) (hQ2 : 0 < Q ∧ Q ≤ 64)
 (i : Nat) (hi : i < n + m) (ps out : List S54) (hp : pathsOk Q a b n soft i ps) (s : Nat) (hs : (s : Int) < Q) (hn0 : (rd_T54 ps s).f0 = false) (x : Int) (hx : x = 0 ∨ x = 1) (hmid : midOk Q a b n soft i out s x) {P : List S54 → Prop}
 (H : ∀ out', midOk Q a b n soft i out' s (x + 1) → EvP (fun k => spec_l15Step.l2 k (m : Int) a b ps (rd soft ((2 * i : Nat) : Int)) (rd soft ((2 * i + 1 : Nat) : Int)) (decide (n ≤ i)) out' (s : Int) (x + 1)) P) :
 EvP (fun k => spec_l15Step.l2 k (m : Int) a b ps (rd soft ((2 * i : Nat) : Int)) (rd soft ((2 * i + 1 : Nat) : Int)) (decide (n ≤ i)) out (s : Int) x) P := by
 obtain ⟨w1, w2, w3, w4, w5⟩ := l15_r (n := n) (i := i) hm hQ hQ2 hs hx
 obtain ⟨p1, p2, p3, p4⟩ := (hp.2 s hs).2 hn0
 have hpl := hp.1
 have hul := p1.2
 have hfb := scF_bd (Q := Q) (a := a) (b := b) h100 (rd_T54 ps s).f2 i
 have A := bits_and_le (2 * (s : Int) + x) a ha.1 (by omega)
 have B := bits_and_le (2 * (s : Int) + x) b hb.1 (by omega)
 have oa := l14Ones_ev A.1 (by omega)
 have ob := l14Ones_ev B.1 (by omega)
 have hta : Int.tmod (onesN 8 (bits .and .i64 (2 * (s : Int) + x) a)) 2 = parB (bits .and .i64 (2 * (s : Int) + x) a) := Int.tmod_eq_emod_of_nonneg (onesN_nonneg 8 _).1
 have htb : Int.tmod (onesN 8 (bits .and .i64 (2 * (s : Int) + x) b)) 2 = parB (bits .and .i64 (2 * (s : Int) + x) b) := Int.tmod_eq_emod_of_nonneg (onesN_nonneg 8 _).1
 have hsc := l15_sc (f := (rd_T54 ps s).f1) (by omega) (h100 (2 * i)) (h100 (2 * i + 1)) (parB_bit (bits .and .i64 (2 * (s : Int) + x) a)) (parB_bit (bits .and .i64 (2 * (s : Int) + x) b))
 have hg : (rd_T54 ps s).f1 + (rd soft ((2 * i : Nat) : Int) * (2 * parB (bits .and .i64 (2 * (s : Int) + x) a) - 1) + rd soft ((2 * i + 1 : Nat) : Int) * (2 * parB (bits .and .i64 (2 * (s : Int) + x) b) - 1)) = (rd_T54 ps s).f1 + gnV a b soft i (2 * s + x) := rfl
 have T0 : 0 ≤ (2 * (s : Int) + x) % Q := Int.emod_nonneg _ (by omega)
 have T1 : (2 * (s : Int) + x) % Q < Q := Int.emod_lt_of_pos _ hQ2.1
 have c1 : (s : Int) < (ps.length : Int) := by rw [hpl]; exact hs
 have ht : ((((2 * (s : Int) + x) % Q).toNat : Nat) : Int) = (2 * (s : Int) + x) % Q := Int.toNat_of_nonneg T0
 have ht1 : (2 * (s : Int) + x) % Q < (out.length : Int) := by rw [hmid.1]; exact T1
 have hu30 : (rd_T54 ps s).f2.length < 17592186044416 := by omega
 have hu3 : ([] : List Int).length + (rd_T54 ps s).f2.length < 17592186044416 := by simp; omega
 refine EvP.succ ?_
 simp only [spec_l15Step.l2]
 refine EvP.pos (by omega) (EvP.pos (Int.natCast_nonneg _) (EvP.pos c1 ?_))
 rw [hn0]
 refine EvP.succ ?_
 simp only [spec_l15Step.j3]
 refine EvP.pos rfl ?_
 have put := fun hl : ¬ i < n → x = 0 => midOk.put Q a b n soft i hQ2.1 hp hs hn0 hx hl hmid ((2 * (s : Int) + x) % Q).toNat ht ((rd_T54 ps s).f1 + gnV a b soft i (2 * s + x)) rfl _ rfl
 rw [ht] at put
 by_cases hl : n ≤ i
 case neg =>
  obtain ⟨u1, u2, u3, u4, _⟩ := put (fun h => absurd (show i < n by omega) h)
  have hw : wordNext n i (rd_T54 ps s).f2 x = (rd_T54 ps s).f2 ++ [x] := if_pos (by omega)
  rw [hw] at u1 u2 u3 u4
  refine EvP.neg (by simpa using hl) ?_
  refine EvP.succ ?_
  simp only [spec_l15Step.j4]
  refine EvP.neg (by decide) (EvP.pos (Int.natCast_nonneg _) (EvP.pos c1 ?_))
  simp only [w1, w2, w3, w4, w5]
  refine EvP.via oa (EvP.via ob ?_)
  simp only [Option.bind_some, hta, htb, hsc, hg, List.nil_append]
  refine EvP.pos hu3 (EvP.neg (by simpa using hl) (EvP.pos hu30 ?_))
  exact l15_tail hQ2.1 (Int.natCast_nonneg _) T0 ht1 u3 (by omega) (fun h => H _ (u1 h)) (fun h => H _ (u2 h))
 refine EvP.pos (by simpa using hl) ?_
 rcases hx with rfl | rfl
 ·obtain ⟨u1, u2, u3, u4, _⟩ := put (fun _ => rfl)
  have hw : wordNext n i (rd_T54 ps s).f2 0 = (rd_T54 ps s).f2 := if_neg (by omega)
  rw [hw] at u1 u2 u3 u4
  refine EvP.succ ?_
  simp only [spec_l15Step.j4]
  refine EvP.neg (by decide) (EvP.pos (Int.natCast_nonneg _) (EvP.pos c1 ?_))
  simp only [w1, w2, w3, w4, w5]
  refine EvP.via oa (EvP.via ob ?_)
  simp only [Option.bind_some, hta, htb, hsc, hg, List.nil_append]
  refine EvP.pos hu3 (EvP.pos (by simpa using hl) ?_)
  exact l15_tail hQ2.1 (Int.natCast_nonneg _) T0 ht1 u3 (by omega) (fun h => H _ (u1 h)) (fun h => H _ (u2 h))
 ·refine EvP.succ ?_
  simp only [spec_l15Step.j4]
  refine EvP.pos (by decide) ?_
  simp only [w5]
  exact H out (hmid.last Q a b n soft i hl)
theorem l15_l1 (m n : Nat) (hm : 1 ≤ m ∧ m ≤ 6) (a b : Int) (ha : 0 ≤ a ∧ a ≤ 127) (hb : 0 ≤ b ∧ b ≤ 127) (soft : List Int) (h100 : ∀ i : Nat, -100 ≤ rd soft i ∧ rd soft i ≤ 100) (hn : n ≤ 120) {Q : Int} (hQ : Q = 2 ^ m) (hQ2 : 0 < Q ∧ Q ≤ 64)
 (i : Nat) (hi : i < n + m) (ps : List S54) (hp : pathsOk Q a b n soft i ps) : ∀ (d s : Nat) (out : List S54), (s : Int) + d = Q → midOk Q a b n soft i out s 0 → EvP (fun k => spec_l15Step.l1 k (m : Int) a b ps (rd soft ((2 * i : Nat) : Int)) (rd soft ((2 * i + 1 : Nat) : Int)) (decide (n ≤ i)) out (s : Int)) (pathsOk Q a b n soft (i + 1)) := by
 have hpl := hp.1
 intro d
 induction d with
 | zero =>
  intro s out hs hmid
  refine EvP.succ ?_
  simp only [spec_l15Step.l1]
  rw [show (s : Int) = Q by omega] at hmid ⊢
  exact EvP.neg (by omega) (EvP.now (hmid.done Q a b n soft i hQ2.1))
 | succ d ih =>
  intro s out hs hmid
  have hs2 : (s : Int) < Q := by omega
  have w : wrap64 ((s : Int) + 1) = ((s + 1 : Nat) : Int) := by rw [w64 (by omega) (by omega)]; omega
  refine EvP.succ ?_
  simp only [spec_l15Step.l1]
  refine EvP.pos (by omega) ?_
  cases h0 : (rd_T54 ps s).f0 with
  | true =>
   refine EvP.succ ?_
   simp only [spec_l15Step.l2]
   refine EvP.pos (by omega) (EvP.pos (Int.natCast_nonneg _) (EvP.pos (by omega) ?_))
   rw [h0]
   refine EvP.succ ?_
   simp only [spec_l15Step.j3, w]
   exact EvP.neg (by decide) (ih (s + 1) out (by omega) (hmid.none Q a b n soft i hp hs2 h0))
  | false =>
   refine l15_l2 m n hm a b ha hb soft h100 hn hQ hQ2 i hi ps out hp s hs2 h0 0 (.inl rfl) hmid (fun out1 h1 => ?_)
   refine l15_l2 m n hm a b ha hb soft h100 hn hQ hQ2 i hi ps out1 hp s hs2 h0 1 (.inr rfl) h1 (fun out2 h2 => ?_)
   refine EvP.succ ?_
   simp only [spec_l15Step.l2]
   refine EvP.neg (by decide) ?_
   refine EvP.succ ?_
   simp only [spec_l15Step.j3, w]
   exact EvP.neg (by decide) (ih (s + 1) out2 (by omega) (h2.next Q a b n soft i))
theorem l15_l0 {m a b X Y : Int} {last : Bool} {ps : List S54} {P : List S54 → Prop} (Q : Nat) (hQ : Q ≤ 64) (H : ∀ out : List S54, out.length = Q → (∀ t : Nat, t < Q → (rd_T54 out t).f0 = true) → EvP (fun k => spec_l15Step.l1 k m a b ps X Y last out 0) P) : ∀ (d j : Nat) (out : List S54), j + d = Q → out.length = Q → (∀ t : Nat, t < j → (rd_T54 out t).f0 = true) → EvP (fun k => spec_l15Step.l0 k m a b ps X Y last out (j : Int)) P := by
 intro d
 induction d with
 | zero =>
  intro j out hj hl h
  refine EvP.succ ?_
  simp only [spec_l15Step.l0]
  exact EvP.neg (by omega) (H out hl (fun t ht => h t (by omega)))
 | succ d ih =>
  intro j out hj hl h
  refine EvP.succ ?_
  simp only [spec_l15Step.l0, Int.toNat_natCast]
  rw [w64_add (by omega) (by omega)]
  refine EvP.pos (by omega) (EvP.pos (by omega) (ih (j + 1) _ (by omega) (by simpa using hl) (fun t ht => ?_)))
  by_cases e : t = j
  case pos =>
   subst e
   rw [rdT_set_eq (by omega)]
  rw [rdT_set_ne (Ne.symm e)]
  exact h t (by omega)
theorem l15Step_ev (m n : Nat) (hm : 1 ≤ m ∧ m ≤ 6) (a b : Int) (ha : 0 ≤ a ∧ a ≤ 127) (hb : 0 ≤ b ∧ b ≤ 127) (soft : List Int) (h100 : ∀ i : Nat, -100 ≤ rd soft i ∧ rd soft i ≤ 100) (hn : n ≤ 120) {Q : Int} (hQ : Q = 2 ^ m) (hQ2 : 0 < Q ∧ Q ≤ 64)
 (i : Nat) (hi : i < n + m) (ps : List S54) (hp : pathsOk Q a b n soft i ps) : EvP (fun k => spec_l15Step.f k (m : Int) a b ps (rd soft ((2 * i : Nat) : Int)) (rd soft ((2 * i + 1 : Nat) : Int)) (decide (n ≤ i))) (pathsOk Q a b n soft (i + 1)) := by
 have hpl := hp.1
 unfold spec_l15Step.f
 refine EvP.pos (by omega) (EvP.pos (by omega) ?_)
 refine l15_l0 Q.toNat (by omega) (fun out hl h => ?_) Q.toNat 0 _ (by omega) (by simp; omega) (fun t ht => by omega)
 exact l15_l1 m n hm a b ha hb soft h100 hn hQ hQ2 i hi ps hp Q.toNat 0 out (by simp; omega) (midOk.init Q a b n soft i hQ2.1 (by omega) (fun t ht => h t (by omega)))
/-- What spec.Likeliest tells of numbers that are right. -/
def bestWord (m n : Nat) (a b : Int) (soft : List Int) (r : List Int × Int × Bool) : Prop :=
 wordOk n (n + m) r.1 ∧ r.2.1 = scF (2 ^ m) a b soft r.1 (n + m) ∧ r.2.2 = true ∧ ∀ w, wordOk n (n + m) w → Dom r.2.1 r.1 (scF (2 ^ m) a b soft w (n + m)) w
theorem sLik_w {i n m : Nat} (h : i ≤ 1000 ∧ n ≤ 1000 ∧ m ≤ 1000) : wrap64 (2 * (i : Int)) = ((2 * i : Nat) : Int) ∧ wrap64 (((2 * i : Nat) : Int) + 1) = ((2 * i + 1 : Nat) : Int) ∧ wrap64 ((i : Int) + 1) = ((i + 1 : Nat) : Int) ∧ wrap64 ((n : Int) + m) = (n : Int) + m :=
 ⟨(w64 (by omega) (by omega)).trans (by omega), (w64 (by omega) (by omega)).trans (by omega), (w64 (by omega) (by omega)).trans (by omega), w64 (by omega) (by omega)⟩
theorem sLik_l1 (m n : Nat) (hm : 1 ≤ m ∧ m ≤ 6) (a b : Int) (ha : 0 ≤ a ∧ a ≤ 127) (hb : 0 ≤ b ∧ b ≤ 127) (soft : List Int) (h100 : ∀ i : Nat, -100 ≤ rd soft i ∧ rd soft i ≤ 100) (hlen : soft.length = 2 * (n + m)) (hn : n ≤ 120) (hQ2 : (0 : Int) < 2 ^ m ∧ (2 : Int) ^ m ≤ 64) : ∀ (d i : Nat) (ps : List S54), i + d = n + m → pathsOk (2 ^ m) a b n soft i ps → EvP (fun k => spec_Likeliest.l1 k (m : Int) a b soft (n : Int) ps (i : Int)) (bestWord m n a b soft) := by
 intro d
 induction d with
 | zero =>
  intro i ps hi hp
  have hpl := hp.1
  refine EvP.succ ?_
  simp only [spec_Likeliest.l1]
  rw [w64 (n := (n : Int) + m) (by omega) (by omega)]
  refine EvP.neg (by omega) (EvP.pos (by omega) (EvP.now ?_))
  obtain ⟨h1, h2⟩ := hp.2 0 (by omega)
  rw [show i = n + m by omega] at h1 h2
  have h0 : (rd_T54 ps ((0 : Nat) : Int)).f0 = false := by
   cases h0 : (rd_T54 ps ((0 : Nat) : Int)).f0 with
   | false => rfl
   | true =>
    have := h1 h0 (List.replicate n 0) ⟨fun x hx => .inl (List.eq_of_mem_replicate hx), by simp⟩
    rw [stF_zero m n _ (by simp)] at this
    exact absurd rfl this
  obtain ⟨p1, p2, p3, p4⟩ := h2 h0
  exact ⟨p1, p3, rfl, fun w hw => p4 w hw (stF_zero m n w (by have := hw.2; omega))⟩
 | succ d ih =>
  intro i ps hi hp
  have c1 : (i : Int) < (n : Int) + m := by omega
  have c2 : ((2 * i : Nat) : Int) < (soft.length : Int) := by omega
  have c3 : ((2 * i + 1 : Nat) : Int) < (soft.length : Int) := by omega
  have w4 : decide ((i : Int) ≥ (n : Int)) = decide (n ≤ i) := by rw [decide_eq_decide]; omega
  have st := l15Step_ev m n hm a b ha hb soft h100 hn rfl hQ2 i (by omega) ps hp
  have ih2 := fun r => ih (i + 1) r (by omega)
  have hii : i ≤ 1000 ∧ n ≤ 1000 ∧ m ≤ 1000 := by omega
  clear ih hp
  obtain ⟨w1, w2, w3, w5⟩ := sLik_w hii
  refine EvP.succ ?_
  simp only [spec_Likeliest.l1]
  simp only [w1, w2, w3, w4, w5]
  exact EvP.pos c1 (EvP.pos (Int.natCast_nonneg _) (EvP.pos c2 (EvP.pos (Int.natCast_nonneg _) (EvP.pos c3 (EvP.next st (fun r hr => ih2 r hr))))))
theorem sLik_l0 {m a b : Int} {soft : List Int} {n : Int} {P : List Int × Int × Bool → Prop} (Q : Nat) (hQ : Q ≤ 64) (H : ∀ out : List S54, out.length = Q → rd_T54 out 0 = z54 → (∀ t : Nat, 1 ≤ t → t < Q → (rd_T54 out t).f0 = true) → EvP (fun k => spec_Likeliest.l1 k m a b soft n out 0) P) : ∀ (d j : Nat) (out : List S54), j + d = Q → 1 ≤ j → out.length = Q → rd_T54 out 0 = z54 → (∀ t : Nat, 1 ≤ t → t < j → (rd_T54 out t).f0 = true) → EvP (fun k => spec_Likeliest.l0 k m a b soft n out (j : Int)) P := by
 intro d
 induction d with
 | zero =>
  intro j out hj _ hl hz h
  refine EvP.succ ?_
  simp only [spec_Likeliest.l0]
  exact EvP.neg (by omega) (H out hl hz (fun t h1 ht => h t h1 (by omega)))
 | succ d ih =>
  intro j out hj h1 hl hz h
  refine EvP.succ ?_
  simp only [spec_Likeliest.l0, Int.toNat_natCast]
  rw [w64_add (by omega) (by omega)]
  refine EvP.pos (by omega) (EvP.pos (by omega) (ih (j + 1) _ (by omega) (by omega) (by simpa using hl) ?_ (fun t h2 ht => ?_)))
  ·have := rdT_set_ne (xs := out) (t := j) (j := 0) (by omega) (⟨true, (rd_T54 out (j : Int)).f1, (rd_T54 out (j : Int)).f2⟩ : S54)
   exact this.trans hz
  ·by_cases e : t = j
   case pos =>
    subst e
    rw [rdT_set_eq (by omega)]
   rw [rdT_set_ne (Ne.symm e)]
   exact h t h2 (by omega)
/-- The guards of Likeliest. -/
def likOk (m a b : Int) (soft : List Int) : Prop := coderB m a b = true ∧ soft.length % 2 = 0 ∧ allIn 100 soft = true ∧ m ≤ (soft.length / 2 : Nat) ∧ (soft.length / 2 : Nat) - m ≤ 120
theorem half_w {L N : Nat} (hl : L ≤ 35184372088832) (hN : N ≤ 6) : wrap64 ((L : Int) / 2) = ((L / 2 : Nat) : Int) ∧ wrap64 (((L / 2 : Nat) : Int) - (N : Int)) = ((L / 2 : Nat) : Int) - (N : Int) :=
 ⟨(w64 (by omega) (by omega)).trans (by omega), w64 (by omega) (by omega)⟩
theorem coder_facts {m a b : Int} (h : coderB m a b = true) : ∃ N : Nat, m = (N : Int) ∧ (1 ≤ N ∧ N ≤ 6) ∧ (0 ≤ a ∧ a ≤ 127) ∧ (0 ≤ b ∧ b ≤ 127) ∧ (0 : Int) < 2 ^ N ∧ (2 : Int) ^ N ≤ 64 := by
 unfold coderB at h
 simp only [decide_eq_true_eq] at h
 obtain ⟨N, rfl⟩ := Int.eq_ofNat_of_zero_le (show 0 ≤ m by omega)
 rw [Int.toNat_natCast] at h
 obtain ⟨g1, g2, q, g3, g4⟩ := pow_small (m := N) (by omega)
 rw [Int.pow_succ] at g1 g2 g3 h
 exact ⟨N, rfl, by omega, by omega, by omega, by omega, by omega⟩
theorem sLikeliest_ev (m a b : Int) (soft : List Int) (hl : soft.length ≤ 35184372088832) : EvP (fun k => spec_Likeliest.f k m a b soft) (fun r => (likOk m a b soft → bestWord m.toNat (soft.length / 2 - m.toNat) a b soft r) ∧ (¬ likOk m a b soft → r = ([], 0, false))) := by
 have bad : ∀ x : Int, ¬ likOk m a b soft → EvP (fun k => spec_Likeliest.j0 k m a b soft x true) (fun r => (likOk m a b soft → bestWord m.toNat (soft.length / 2 - m.toNat) a b soft r) ∧ (¬ likOk m a b soft → r = ([], 0, false))) := fun x h => by
  refine EvP.succ ?_
  simp only [spec_Likeliest.j0]
  exact EvP.pos trivial (EvP.now ⟨fun h2 => absurd h2 h, fun _ => rfl⟩)
 unfold spec_Likeliest.f
 refine EvP.via (Ev.here (l15Coder_eq m a b)) ?_
 by_cases h1 : coderB m a b = true
 case neg => exact EvP.neg h1 (bad _ (fun h => h1 h.1))
 refine EvP.pos h1 ?_
 obtain ⟨N, rfl, hN, ha, hb, hQ2⟩ := coder_facts h1
 rw [Int.toNat_natCast] at bad ⊢
 by_cases h2 : soft.length % 2 = 0
 case neg => exact EvP.neg (by omega) (bad _ (fun h => h2 h.2.1))
 refine EvP.pos (by omega) ?_
 obtain ⟨w1, w2⟩ := half_w hl hN.2
 rw [w1, w2]
 clear w1 w2
 by_cases h3 : (N : Int) ≤ (soft.length / 2 : Nat) ∧ ((soft.length / 2 : Nat) : Int) - N ≤ 120
 case neg => exact EvP.via (Ev.here (l1In_eq _ _ _)) (EvP.neg (by simp; omega) (bad _ (fun h => h3 ⟨h.2.2.2.1, h.2.2.2.2⟩)))
 refine EvP.via (Ev.here (l1In_eq _ _ _)) (EvP.pos (by simp; omega) (EvP.via (l9Wide_ev soft 100 (by omega) (by omega) hl) ?_))
 by_cases h4 : allIn 100 soft = true
 case neg =>
  rw [show (!allIn 100 soft) = true by simp [h4]]
  exact bad _ (fun h => h4 h.2.2.1)
 have hok : likOk N a b soft := ⟨h1, h2, h4, h3.1, h3.2⟩
 rw [h4]
 obtain ⟨n, hn⟩ : ∃ n, n = soft.length / 2 - N := ⟨_, rfl⟩
 rw [← hn, show ((soft.length / 2 : Nat) : Int) - (N : Int) = (n : Int) by omega]
 have h100 := rd_100 h4
 have hls : soft.length = 2 * (n + N) := by omega
 have hn120 : n ≤ 120 := by omega
 obtain ⟨Q, hQ⟩ : ∃ Q : Int, Q = 2 ^ N := ⟨_, rfl⟩
 have hQ3 := hQ2
 rw [← hQ] at hQ2
 refine EvP.succ ?_
 simp only [spec_Likeliest.j0]
 rw [wu64 (n := (N : Int)) (by omega) (by omega), shl_one (by omega), ← hQ]
 refine EvP.neg (by decide) (EvP.pos (by omega) (EvP.pos (by omega) (EvP.pos (by omega) ?_)))
 refine EvP.mono (P := bestWord N n a b soft) ?_ (fun r hr => ⟨fun _ => hr, fun h => absurd hok h⟩)
 refine sLik_l0 Q.toNat (by omega) (fun out hl2 hz h => ?_) (Q.toNat - 1) 1 _ (by omega) (by omega) (by simp) (by
  unfold rd_T54
  rw [List.getD_eq_getElem?_getD, List.getElem?_replicate, if_pos (by omega)]
  rfl) (fun t _ _ => by omega)
 refine sLik_l1 N n hN a b ha hb soft h100 hls hn120 hQ3 (n + N) 0 out (by omega) ?_
 rw [← hQ]
 clear hQ hQ3
 refine ⟨by omega, fun s hs => ?_⟩
 by_cases e : s = 0
 case neg =>
  refine ⟨fun _ w _ => ?_, fun h0 => ?_⟩
  ·simp only [stF]; omega
  ·rw [h s (by omega) (by omega)] at h0; cases h0
 subst e
 have hz' : rd_T54 out ((0 : Nat) : Int) = z54 := hz
 rw [hz']
 exact ⟨fun h => (by cases h), fun _ => ⟨⟨fun x hx => by simp [z54] at hx, by simp [z54]⟩, rfl, rfl, fun w hw _ => by
  have : w = [] := List.length_eq_zero_iff.1 (by have := hw.2; omega)
  rw [this]
  exact .inr ⟨rfl, rfl⟩⟩⟩
theorem lik_same (m a b : Int) (soft : List Int) (r : List Int × Int × Bool) (h1 : likOk m a b soft → bestWord m.toNat (soft.length / 2 - m.toNat) a b soft r) (h2 : ¬ likOk m a b soft → r = ([], 0, false)) : r = likOf m a b soft := by
 by_cases h : likOk m a b soft
 case neg =>
  rw [h2 h]
  exact (if_neg h).symm
 have hb := h1 h
 have e : likOf m a b soft = (outV (2 ^ m.toNat) a b (soft.length / 2 - m.toNat) m.toNat soft (soft.length / 2 - m.toNat) 0 0, bstV (2 ^ m.toNat) a b (soft.length / 2 - m.toNat) soft (soft.length / 2) 0 0, true) := if_pos h
 rw [e]
 obtain ⟨n, hn⟩ : ∃ n, n = soft.length / 2 - m.toNat := ⟨_, rfl⟩
 obtain ⟨N, hN⟩ : ∃ N, N = m.toNat := ⟨_, rfl⟩
 have hm : m ≤ (soft.length / 2 : Nat) := h.2.2.2.1
 have hL : soft.length / 2 = n + N := by omega
 rw [← hn, ← hN] at hb ⊢
 rw [hL]
 obtain ⟨v, p, ok⟩ := r
 obtain ⟨b1, b2, b3, b4⟩ := hb
 simp only at b1 b2 b3 b4
 obtain ⟨Q, hQ⟩ : ∃ Q : Int, Q = 2 ^ N := ⟨_, rfl⟩
 rw [← hQ] at b2 b4 ⊢
 obtain ⟨u, hu⟩ : ∃ u, u = outV Q a b n N soft n 0 0 := ⟨_, rfl⟩
 have hul : u.length = n := by rw [hu]; exact outV_len _ _ _ _ _ _ _ _ _
 have hub : ∀ x ∈ u, x = 0 ∨ x = 1 := by rw [hu]; exact outV_bit _ _ _ _ _ _ _ _ _
 have hvl : v.length = n := by have := b1.2; omega
 have a1 := outV_att Q a b n N soft u hul n 0 0 (by omega) (by rw [List.drop_zero]; exact hu)
 have a2 := pthS_le Q a b n soft v hvl b1.1 (n + N) 0 0
 have s1 := pthS_scF Q a b soft u (n + N) 0
 have s2 := pthS_scF Q a b soft v (n + N) 0
 simp only [stF, scF, Int.add_zero, Nat.zero_add] at s1 s2
 have hd := b4 u ⟨hub, by omega⟩
 rw [← hu]
 have key : p = scF Q a b soft u (n + N) ∧ lexLt u v = false := by
  rcases hd with hd | hd
  ·omega
  ·exact hd
 have hx := outV_lex Q a b n soft N v hvl b1.1 n 0 0 (by omega) (by omega)
 rw [List.drop_zero, ← hu] at hx
 have huv := lexLe_antisymm u v (by omega) hx key.2
 rw [← huv, b3, show p = bstV Q a b n soft (n + N) 0 0 by omega]
theorem sLik_ev (m a b : Int) (soft : List Int) (hl : soft.length ≤ 35184372088832) : Ev (fun k => spec_Likeliest.f k m a b soft) (likOf m a b soft) := by
 obtain ⟨r, h, h1, h2⟩ := sLikeliest_ev m a b soft hl
 exact h.to (lik_same m a b soft r h1 h2)
theorem likOf_len (m a b : Int) (soft : List Int) : (likOf m a b soft).1.length ≤ 120 := by
 unfold likOf
 split
 ·rename_i h
  simp only [outV_len]
  omega
 ·simp
theorem isBit_eq (a : Int) : impl_isBit.f a = some (decide (a = 0 ∨ a = 1)) := by
 unfold impl_isBit.f
 by_cases h : a = 0
 case pos => simp [h]
 rw [if_neg h]; simp [h]; by_cases h1 : a = 1 <;> simp [h1]
theorem iBitsOk_l0 (l : List Int) (hl : l.length ≤ 1048576) : ∀ (d i : Nat), i + d = l.length → Ev (fun k => impl_BitsOk.l0 k l l (l.length : Int) (i : Int)) ((l.drop i).all bitOk && decide (l.length ≤ 1024)) := by
 intro d
 induction d with
 | zero =>
  intro i hi
  refine Ev.succ ?_
  simp only [impl_BitsOk.l0]
  rw [List.drop_of_length_le (by omega)]
  exact Ev.neg (by omega) (Ev.some_ (by simp; omega))
 | succ d ih =>
  intro i hi
  refine Ev.succ ?_
  simp only [impl_BitsOk.l0, isBit_eq, Option.bind_some]
  refine Ev.pos (by omega) (Ev.pos (by omega) (Ev.pos (by omega) ?_))
  rw [drop_rd (xs := l) (i := i) (by omega), w64_add (by omega) (by omega)]
  by_cases h1 : rd l i = 0 ∨ rd l i = 1
  case neg => exact Ev.neg (by simp [h1]) (Ev.some_ (by simp [bitOk, h1]))
  exact Ev.pos (by simp [h1]) ((ih (i + 1) (by omega)).to (by simp [bitOk, h1]))
theorem iBitsOk_ev (l : List Int) (hl : l.length ≤ 1048576) : Ev (fun k => impl_BitsOk.f k l) (bitsB l) :=
 (iBitsOk_l0 l hl l.length 0 (by omega)).to (by simp [bitsB])
theorem iSpread_body {m a b ta tb R n : Int} {l acc : List Int} {i : Int} {res : List Int × Bool} (hl : acc.length ≤ 1000)
 (h : Ev (fun k => impl_Spread.l0 k m a b l (acc ++ [ta, tb]) R n i) res) :
 Ev (fun k => (some ([ta, tb] : List Int)).bind fun y => if acc.length + y.length < 17592186044416 then impl_Spread.l0 k m a b l (acc ++ y) R n i else none) res := by
 simp only [Option.bind_some]
 exact Ev.pos (by simp; omega) h
theorem iSpread_l0 (m : Nat) (hm : 1 ≤ m ∧ m ≤ 6) (a b : Int) (ha : 0 ≤ a ∧ a ≤ 127) (hb : 0 ≤ b ∧ b ≤ 127) (l : List Int) (hl : l.length ≤ 120) (hbit : ∀ x ∈ l, x = 0 ∨ x = 1) : ∀ (d i : Nat) (acc : List Int) (r : Int), i + d = l.length + m → acc.length = 2 * i → 0 ≤ r → r < 2 ^ (m + 1) → Ev (fun k => impl_Spread.l0 k (m : Int) a b l acc r ((l.length : Int) + m) (i : Int)) (acc ++ spreadGo (2 ^ (m + 1)) a b l d i r, true) := by
 obtain ⟨hp1, hp2, q, hq, hq2⟩ := pow_small (m := m) (by omega)
 intro d
 induction d with
 | zero =>
  intro i acc r hi ha' hr0 hr1
  refine Ev.succ ?_
  simp only [impl_Spread.l0]
  exact Ev.neg (by omega) (Ev.some_ (by simp [spreadGo]))
 | succ d ih =>
  intro i acc r hi ha' hr0 hr1
  have hbt := bitAt_bit hbit i
  have hmod : 0 ≤ (2 * r + bitAt l i) % 2 ^ (m + 1) ∧ (2 * r + bitAt l i) % 2 ^ (m + 1) < 2 ^ (m + 1) := ⟨Int.emod_nonneg _ (by omega), Int.emod_lt_of_pos _ hp2⟩
  have A := and_bd (a := a) hp1 hmod ha.1 ha.2
  have B := and_bd (a := b) hp1 hmod hb.1 hb.2
  have rec_ := ih (i + 1) (acc ++ [parB (bits .and .i64 ((2 * r + bitAt l i) % 2 ^ (m + 1)) a), parB (bits .and .i64 ((2 * r + bitAt l i) % 2 ^ (m + 1)) b)]) _ (by omega) (by simp; omega) hmod.1 hmod.2
  have ee : acc ++ spreadGo (2 ^ (m + 1)) a b l (d + 1) i r = (acc ++ [parB (bits .and .i64 ((2 * r + bitAt l i) % 2 ^ (m + 1)) a), parB (bits .and .i64 ((2 * r + bitAt l i) % 2 ^ (m + 1)) b)]) ++ spreadGo (2 ^ (m + 1)) a b l d (i + 1) ((2 * r + bitAt l i) % 2 ^ (m + 1)) := by
   simp only [spreadGo, parB, List.append_assoc, List.cons_append, List.nil_append]
  rw [← ee] at rec_
  clear ee
  have body := iSpread_body (m := (m : Int)) (a := a) (b := b) (l := l) (acc := acc) (by omega) rec_
  have PA := parity_eq A.1 A.2
  have PB := parity_eq B.1 B.2
  clear rec_ A B hmod
  have c1 : (i : Int) < (l.length : Int) + m := by clear PA PB body; omega
  have c5 : r ≤ 127 := by clear PA PB body; omega
  have c6 : i ≤ 1000 := by clear PA PB body; omega
  have ej : bits .or .i64 (bits .and .i64 (r * 2) (2 ^ (m + 1) - 1)) (bitAt l i) = (2 * r + bitAt l i) % 2 ^ (m + 1) := by clear PA PB body; exact or_zero_join rfl (by omega) ⟨hr0, hr1⟩ hp1 hbt
  have f3 := shl_one (y := m + 1) (by omega)
  have f6 := w64_mask hp2 hp1
  obtain ⟨f1, e1, f2, f4, f5, f7⟩ := sp_facts (m := m) (n := l.length) (i := i) hm.2 hl c6 hr0 c5
  refine Ev.succ ?_
  simp only [impl_Spread.l0]
  simp only [e1, f3, f4, f6, f7]
  refine Ev.pos c1 ?_
  by_cases hil : i < l.length
  case neg =>
   have eb : bitAt l i = 0 := if_neg hil
   rw [eb] at body ej PA PB
   simp only [ej, PA, PB, Option.bind_some] at body ⊢
   exact Ev.neg (fun h => hil (Int.ofNat_lt.1 h)) (Ev.pos (nat_nonneg_ _) body)
  have eb : bitAt l i = rd l i := if_pos hil
  rw [eb] at body ej PA PB
  simp only [ej, PA, PB, Option.bind_some] at body ⊢
  exact Ev.pos (Int.ofNat_lt.2 hil) (Ev.pos (nat_nonneg_ i) (Ev.pos (nat_nonneg_ _) body))
theorem iSpread_ev (m a b : Int) (l : List Int) (hl : l.length ≤ 1048576) : Ev (fun k => impl_Spread.f k m a b l) (spreadOf m a b l) := by
 have bad : Ev (fun k => impl_Spread.j0 k m a b l true) ([], false) := by
  refine Ev.succ ?_
  simp only [impl_Spread.j0]
  exact Ev.pos trivial (Ev.some_ rfl)
 unfold impl_Spread.f spreadOf
 rw [coder_eq]
 simp only [Option.bind_some]
 by_cases h1 : coderB m a b = true
 case neg => rw [if_neg (fun h => h1 h.1)]; exact Ev.neg h1 bad
 refine Ev.pos h1 (Ev.next (iBitsOk_ev l hl) ?_)
 by_cases h2 : bitsB l = true
 case neg => rw [if_neg (fun h => h2 h.2.1)]; exact Ev.neg h2 bad
 refine Ev.pos h2 ?_
 by_cases h3 : l.length ≤ 120
 case neg => rw [if_neg (fun h => h3 h.2.2), show decide ((l.length : Int) > 120) = true by simp; omega]; exact bad
 rw [if_pos ⟨h1, h2, h3⟩, show decide ((l.length : Int) > 120) = false by simp; omega]
 have hc := h1
 unfold coderB at hc
 simp only [decide_eq_true_eq] at hc
 obtain ⟨n, rfl⟩ := Int.eq_ofNat_of_zero_le (show 0 ≤ m by omega)
 rw [Int.toNat_natCast] at hc ⊢
 have hp := pow_small (m := n) (by omega)
 refine Ev.succ ?_
 simp only [impl_Spread.j0]
 rw [w64 (n := (l.length : Int) + n) (by omega) (by omega)]
 exact Ev.neg (by simp) ((iSpread_l0 n (by omega) a b (by omega) (by omega) l h3 (bitsB_iff.1 h2).1 (l.length + n) 0 [] 0 (by omega) (by simp) (by omega) (by omega)).to (by simp))
theorem sBitsOk_l0 (l : List Int) (hl : l.length ≤ 1048576) : ∀ (d i : Nat), i + d = l.length → Ev (fun k => spec_BitsOk.l0 k l (i : Int)) ((l.drop i).all bitOk && decide (l.length ≤ 1024)) := by
 intro d
 induction d with
 | zero =>
  intro i hi
  refine Ev.succ ?_
  simp only [spec_BitsOk.l0]
  rw [List.drop_of_length_le (by omega)]
  exact Ev.neg (by omega) (Ev.some_ (by simp; omega))
 | succ d ih =>
  intro i hi
  refine Ev.succ ?_
  simp only [spec_BitsOk.l0, l1In_eq, Option.bind_some]
  refine Ev.pos (by omega) (Ev.pos (by omega) ?_)
  rw [drop_rd (xs := l) (i := i) (by omega), w64_add (by omega) (by omega)]
  by_cases h1 : rd l i = 0 ∨ rd l i = 1
  case neg => exact Ev.neg (by simp; omega) (Ev.some_ (by simp [bitOk, h1]))
  exact Ev.pos (by simp; omega) ((ih (i + 1) (by omega)).to (by simp [bitOk, h1]))
theorem sBitsOk_ev (l : List Int) (hl : l.length ≤ 1048576) : Ev (fun k => spec_BitsOk.f k l) (bitsB l) :=
 (sBitsOk_l0 l hl l.length 0 (by omega)).to (by simp [bitsB])
theorem sSpread_body {m a b A B R ta tb : Int} {l acc : List Int} {i : Int} {res : List Int × Bool} (oa : Ev (fun k => spec_l14Ones.f k A) ta) (ob : Ev (fun k => spec_l14Ones.f k B) tb) (ha : 0 ≤ ta) (hb : 0 ≤ tb) (hl : acc.length ≤ 1000)
 (h : Ev (fun k => spec_Spread.l0 k m a b l (acc ++ [ta % 2, tb % 2]) R i) res) :
 Ev (fun k => (spec_l14Ones.f k A).bind fun t => (spec_l14Ones.f k B).bind fun u => (some ([Int.tmod t 2, Int.tmod u 2] : List Int)).bind fun y => if acc.length + y.length < 17592186044416 then spec_Spread.l0 k m a b l (acc ++ y) R i else none) res := by
 refine Ev.next oa (Ev.next ob ?_)
 simp only [Option.bind_some]
 rw [Int.tmod_eq_emod_of_nonneg ha, Int.tmod_eq_emod_of_nonneg hb]
 exact Ev.pos (by simp; omega) h
theorem sSpread_l0 (m : Nat) (hm : 1 ≤ m ∧ m ≤ 6) (a b : Int) (ha : 0 ≤ a ∧ a ≤ 127) (hb : 0 ≤ b ∧ b ≤ 127) (l : List Int) (hl : l.length ≤ 120) (hbit : ∀ x ∈ l, x = 0 ∨ x = 1) : ∀ (d i : Nat) (acc : List Int) (r : Int), i + d = l.length + m → acc.length = 2 * i → 0 ≤ r → r < 2 ^ (m + 1) → Ev (fun k => spec_Spread.l0 k (m : Int) a b l acc r (i : Int)) (acc ++ spreadGo (2 ^ (m + 1)) a b l d i r, true) := by
 obtain ⟨hp1, hp2, q, hq, hq2⟩ := pow_small (m := m) (by omega)
 intro d
 induction d with
 | zero =>
  intro i acc r hi ha' hr0 hr1
  refine Ev.succ ?_
  simp only [spec_Spread.l0]
  rw [w64 (n := (l.length : Int) + m) (by omega) (by omega)]
  exact Ev.neg (by omega) (Ev.some_ (by simp [spreadGo]))
 | succ d ih =>
  intro i acc r hi ha' hr0 hr1
  have hbt := bitAt_bit hbit i
  have hmod : 0 ≤ (2 * r + bitAt l i) % 2 ^ (m + 1) ∧ (2 * r + bitAt l i) % 2 ^ (m + 1) < 2 ^ (m + 1) := ⟨Int.emod_nonneg _ (by omega), Int.emod_lt_of_pos _ hp2⟩
  have A := and_bd (a := a) hp1 hmod ha.1 ha.2
  have B := and_bd (a := b) hp1 hmod hb.1 hb.2
  have oa := l14Ones_ev A.1 A.2
  have ob := l14Ones_ev B.1 B.2
  have na := onesN_nonneg 8 (bits .and .i64 ((2 * r + bitAt l i) % 2 ^ (m + 1)) a)
  have nb := onesN_nonneg 8 (bits .and .i64 ((2 * r + bitAt l i) % 2 ^ (m + 1)) b)
  have rec_ := ih (i + 1) (acc ++ [onesN 8 (bits .and .i64 ((2 * r + bitAt l i) % 2 ^ (m + 1)) a) % 2, onesN 8 (bits .and .i64 ((2 * r + bitAt l i) % 2 ^ (m + 1)) b) % 2]) _ (by omega) (by simp; omega) hmod.1 hmod.2
  have ee : acc ++ spreadGo (2 ^ (m + 1)) a b l (d + 1) i r = (acc ++ [onesN 8 (bits .and .i64 ((2 * r + bitAt l i) % 2 ^ (m + 1)) a) % 2, onesN 8 (bits .and .i64 ((2 * r + bitAt l i) % 2 ^ (m + 1)) b) % 2]) ++ spreadGo (2 ^ (m + 1)) a b l d (i + 1) ((2 * r + bitAt l i) % 2 ^ (m + 1)) := by
   simp only [spreadGo, parB, List.append_assoc, List.cons_append, List.nil_append]
  rw [← ee] at rec_
  clear ee
  have body := sSpread_body (m := (m : Int)) (a := a) (b := b) (l := l) (acc := acc) oa ob na.1 nb.1 (by omega) rec_
  clear rec_ na nb oa ob A B hmod
  refine Ev.succ ?_
  simp only [spec_Spread.l0]
  have c1 : (i : Int) < (l.length : Int) + m := by omega
  have c0 : ¬ (2 : Int) ^ (m + 1) = 0 := by omega
  have c5 : r ≤ 127 := by omega
  have c6 : i ≤ 1000 := by omega
  have c7 : 0 ≤ 2 * r + bitAt l i := by omega
  have f3 := shl_one (y := m + 1) (by omega)
  obtain ⟨f1, e1, f2, f4, f5, _⟩ := sp_facts (m := m) (n := l.length) (i := i) hm.2 hl c6 hr0 c5
  have f6 := w64_reg hr0 c5 hbt
  have f7 := Int.tmod_eq_emod_of_nonneg (b := (2 : Int) ^ (m + 1)) c7
  simp only [f1, e1, f2, f3, f4, f5]
  refine Ev.pos c1 ?_
  by_cases hil : i < l.length
  case neg =>
   have eb : bitAt l i = 0 := if_neg hil
   rw [eb, Int.add_zero] at body f7
   simp only [f7]
   exact Ev.neg (fun h => hil (Int.ofNat_lt.1 h)) (Ev.pos (nat_nonneg_ _) (Ev.neg c0 body))
  have eb : bitAt l i = rd l i := if_pos hil
  rw [eb] at body f6 f7
  simp only [f6, f7]
  exact Ev.pos (Int.ofNat_lt.2 hil) (Ev.pos (nat_nonneg_ i) (Ev.pos (nat_nonneg_ _) (Ev.neg c0 body)))
theorem sSpread_ev (m a b : Int) (l : List Int) (hl : l.length ≤ 1048576) : Ev (fun k => spec_Spread.f k m a b l) (spreadOf m a b l) := by
 have bad : Ev (fun k => spec_Spread.j0 k m a b l [] true) ([], false) := by
  refine Ev.succ ?_
  simp only [spec_Spread.j0]
  exact Ev.pos trivial (Ev.some_ rfl)
 unfold spec_Spread.f spreadOf
 rw [l15Coder_eq]
 simp only [Option.bind_some]
 by_cases h1 : coderB m a b = true
 case neg => rw [if_neg (fun h => h1 h.1)]; exact Ev.neg h1 bad
 refine Ev.pos h1 (Ev.next (sBitsOk_ev l hl) ?_)
 by_cases h2 : bitsB l = true
 case neg => rw [if_neg (fun h => h2 h.2.1)]; exact Ev.neg h2 bad
 refine Ev.pos h2 ?_
 by_cases h3 : l.length ≤ 120
 case neg => rw [if_neg (fun h => h3 h.2.2), show decide ((l.length : Int) > 120) = true by simp; omega]; exact bad
 rw [if_pos ⟨h1, h2, h3⟩, show decide ((l.length : Int) > 120) = false by simp; omega]
 have hc := h1
 unfold coderB at hc
 simp only [decide_eq_true_eq] at hc
 obtain ⟨n, rfl⟩ := Int.eq_ofNat_of_zero_le (show 0 ≤ m by omega)
 rw [Int.toNat_natCast] at hc ⊢
 have hp := pow_small (m := n) (by omega)
 refine Ev.succ ?_
 simp only [spec_Spread.j0]
 exact Ev.neg (by simp) ((sSpread_l0 n (by omega) a b (by omega) (by omega) l h3 (bitsB_iff.1 h2).1 (l.length + n) 0 [] 0 (by omega) (by simp) (by omega) (by omega)).to (by simp))
theorem l1New_l0 (l : List Int) : ∀ (d i : Nat) (h : Int), i + d = l.length → (i : Int) ≤ 4000 → EvP (fun k => spec_l1New.l0 k l h (i : Int)) (fun r => r.1 = l ∧ r.2.1 = 0) := by
 intro d
 induction d with
 | zero =>
  intro i h hi _
  refine EvP.succ ?_
  simp only [spec_l1New.l0]
  exact EvP.neg (by omega) (EvP.now ⟨rfl, rfl⟩)
 | succ d ih =>
  intro i h hi hi2
  refine EvP.succ ?_
  simp only [spec_l1New.l0]
  refine EvP.pos (by omega) ?_
  by_cases h4 : (i : Int) < 4000
  case neg => exact EvP.neg h4 (EvP.now ⟨rfl, rfl⟩)
  rw [w64_add (by omega) (by omega)]
  exact EvP.pos h4 (EvP.pos (by omega) (ih (i + 1) _ (by omega) (by omega)))
theorem l1New_ev (l : List Int) : EvP (fun k => spec_l1New.f k l) (fun r => r.1 = l ∧ r.2.1 = 0) := l1New_l0 l l.length 0 _ (by omega) (by omega)
theorem l1Byte_ok (l : List Int) (p h : Int) (h0 : 0 ≤ p) (h1 : p ≤ l.length) (hl : l.length ≤ 1048576) : ∃ r, spec_l1Byte.f l p h = some r ∧ (0 ≤ r.1 ∧ r.1 ≤ 255) ∧ 0 ≤ r.2.1 ∧ r.2.1 ≤ l.length := by
 unfold spec_l1Byte.f
 by_cases hp : p < (l.length : Int)
 case neg =>
  rw [if_neg hp]
  exact ⟨_, rfl, bits_and_le _ 255 (by omega) (by omega), h0, h1⟩
 rw [if_pos hp, if_pos h0]
 refine ⟨_, rfl, bits_and_le _ 255 (by omega) (by omega), ?_⟩
 simp only
 rw [w64_add h0 (by omega)]
 omega
theorem l1Below_ok (l : List Int) (p h n : Int) (h0 : 0 ≤ p) (h1 : p ≤ l.length) (hl : l.length ≤ 1048576) : ∃ r, spec_l1Below.f l p h n = some r ∧ (0 ≤ r.1 ∧ (r.1 < n ∨ r.1 = 0)) ∧ 0 ≤ r.2.1 ∧ r.2.1 ≤ l.length := by
 unfold spec_l1Below.f
 by_cases hn : n ≤ 0
 ·rw [if_pos hn]; exact ⟨_, rfl, ⟨by simp, .inr rfl⟩, h0, h1⟩
 rw [if_neg hn]
 have tm : ∀ x : Int, 0 ≤ x → 0 ≤ Int.tmod x n ∧ Int.tmod x n < n := fun x hx => by
  rw [Int.tmod_eq_emod_of_nonneg hx]
  exact ⟨Int.emod_nonneg _ (by omega), Int.emod_lt_of_pos _ (by omega)⟩
 by_cases h2 : n ≤ 256
 case pos =>
  rw [if_pos h2]
  obtain ⟨r, e, hb, hp⟩ := l1Byte_ok l p h h0 h1 hl
  rw [e]
  simp only [Option.bind_some]
  rw [if_neg (by omega)]
  exact ⟨_, rfl, ⟨(tm _ hb.1).1, .inl (tm _ hb.1).2⟩, hp⟩
 rw [if_neg h2]
 obtain ⟨r, e, hb, hp⟩ := l1Byte_ok l p h h0 h1 hl
 obtain ⟨r2, e2, hb2, hp2⟩ := l1Byte_ok l r.2.1 r.2.2 hp.1 hp.2 hl
 obtain ⟨r3, e3, hb3, hp3⟩ := l1Byte_ok l r2.2.1 r2.2.2 hp2.1 hp2.2 hl
 obtain ⟨r4, e4, hb4, hp4⟩ := l1Byte_ok l r3.2.1 r3.2.2 hp3.1 hp3.2 hl
 rw [e]; simp only [Option.bind_some]
 rw [e2]; simp only [Option.bind_some]
 rw [e3]; simp only [Option.bind_some]
 rw [e4]; simp only [Option.bind_some]
 rw [if_neg (by omega), w64 (n := r.1 * 16777216) (by omega) (by omega), w64 (n := r2.1 * 65536) (by omega) (by omega), w64 (n := r3.1 * 256) (by omega) (by omega), w64 (n := r.1 * 16777216 + _) (by omega) (by omega), w64 (n := r.1 * 16777216 + _ + _) (by omega) (by omega), w64 (n := r.1 * 16777216 + _ + _ + _) (by omega) (by omega)]
 exact ⟨_, rfl, ⟨(tm _ (by omega)).1, .inl (tm _ (by omega)).2⟩, hp4⟩
theorem l1Once_ok (l : List Int) (p h n : Int) (h0 : 0 ≤ p) (h1 : p ≤ l.length) (hl : l.length ≤ 1048576) : ∃ r, spec_l1Once.f l p h n = some r ∧ 0 ≤ r.2.1 ∧ r.2.1 ≤ l.length := by
 obtain ⟨r, e, hb, hp⟩ := l1Below_ok l p h n h0 h1 hl
 unfold spec_l1Once.f
 rw [e]; simp only [Option.bind_some]
 exact ⟨_, rfl, hp⟩
theorem l1PickInt_ok (l : List Int) (p h : Int) (xs : List Int) (h0 : 0 ≤ p) (h1 : p ≤ l.length) (hl : l.length ≤ 1048576) (hx : 0 < xs.length) : ∃ r, spec_l1PickInt.f l p h xs = some r ∧ r.1 ∈ xs ∧ 0 ≤ r.2.1 ∧ r.2.1 ≤ l.length := by
 unfold spec_l1PickInt.f
 obtain ⟨r, e, hb, hp⟩ := l1Below_ok l p h xs.length h0 h1 hl
 rw [e]
 simp only [Option.bind_some]
 rw [if_pos hb.1, if_pos (by omega)]
 refine ⟨_, rfl, ?_, hp⟩
 have : r.1 = ((r.1.toNat : Nat) : Int) := by omega
 simp only
 rw [this]
 exact rd_mem (by omega)
theorem u64_nonneg (x : Int) : 0 ≤ IntKind.u64.wrap x := by rw [IntKind.wrap_u64]; exact Int.emod_nonneg _ (by omega)
theorem l15DrawCoder_j0 (l : List Int) (hl : l.length ≤ 1048576) (m a b p h : Int) (h0 : 0 ≤ p) (h1 : p ≤ l.length) : EvP (fun k => spec_l15DrawCoder.j0 k m a b l p h) (fun r => 0 ≤ r.2.2.2.1 ∧ r.2.2.2.1 ≤ l.length) := by
 refine EvP.succ ?_
 simp only [spec_l15DrawCoder.j0]
 obtain ⟨r, e, hb, hp⟩ := l1Below_ok l p h 30 h0 h1 hl
 rw [e]; simp only [Option.bind_some]
 refine EvP.both (fun _ => ?_) (fun _ => EvP.both (fun _ => EvP.pos (u64_nonneg _) ?_) (fun _ => EvP.now hp))
 ·obtain ⟨q, e2, _, hq⟩ := l1PickInt_ok l r.2.1 r.2.2 [0, 6, 7] hp.1 hp.2 hl (by decide)
  rw [e2]; simp only [Option.bind_some]
  exact EvP.now hq
 ·obtain ⟨q, e2, _, hq⟩ := l1PickInt_ok l r.2.1 r.2.2 [0, shl .i64 1 (IntKind.u64.wrap (wrap64 (m + 1)))] hp.1 hp.2 hl (by simp)
  rw [e2]; simp only [Option.bind_some]
  exact EvP.now hq
theorem l15DrawCoder_ev (l : List Int) (hl : l.length ≤ 1048576) (p h : Int) (h0 : 0 ≤ p) (h1 : p ≤ l.length) : EvP (fun k => spec_l15DrawCoder.f k l p h) (fun r => 0 ≤ r.2.2.2.1 ∧ r.2.2.2.1 ≤ l.length) := by
 unfold spec_l15DrawCoder.f
 obtain ⟨r, e, _, hp⟩ := l1Below_ok l p h 4 h0 h1 hl
 rw [e]; simp only [Option.bind_some]
 refine EvP.pos (u64_nonneg _) ?_
 obtain ⟨r2, e2, _, hp2⟩ := l1Below_ok l r.2.1 r.2.2 (wrap64 ((shl .i64 1 (IntKind.u64.wrap (wrap64 ((wrap64 (1 + r.1)) + 1)))) - 1)) hp.1 hp.2 hl
 rw [e2]; simp only [Option.bind_some]
 obtain ⟨r3, e3, _, hp3⟩ := l1Below_ok l r2.2.1 r2.2.2 (wrap64 ((shl .i64 1 (IntKind.u64.wrap (wrap64 ((wrap64 (1 + r.1)) + 1)))) - 1)) hp2.1 hp2.2 hl
 rw [e3]; simp only [Option.bind_some]
 obtain ⟨r4, e4, hp4⟩ := l1Once_ok l r3.2.1 r3.2.2 2 hp3.1 hp3.2 hl
 rw [e4]; simp only [Option.bind_some]
 exact EvP.both (fun _ => l15DrawCoder_j0 l hl _ _ _ _ _ hp4.1 hp4.2) (fun _ => l15DrawCoder_j0 l hl _ _ _ _ _ hp4.1 hp4.2)
theorem l13Draw_l0 (l : List Int) (hl : l.length ≤ 1048576) : ∀ (d : Nat) (xs : List Int) (p h : Int), xs.length + d ≤ 100000 → 0 ≤ p → p ≤ l.length → (∀ x ∈ xs, x = 0 ∨ x = 1) → EvP (fun k => spec_l13Draw.l0 k xs (d : Int) l p h) (fun r => (r.1.length = xs.length + d ∧ ∀ x ∈ r.1, x = 0 ∨ x = 1) ∧ 0 ≤ r.2.1 ∧ r.2.1 ≤ l.length) := by
 intro d
 induction d with
 | zero =>
  intro xs p h hx h0 h1 hb
  refine EvP.succ ?_
  simp only [spec_l13Draw.l0]
  exact EvP.neg (by omega) (EvP.now ⟨⟨rfl, hb⟩, h0, h1⟩)
 | succ d ih =>
  intro xs p h hx h0 h1 hb
  refine EvP.succ ?_
  simp only [spec_l13Draw.l0]
  obtain ⟨r, e, hr, hp⟩ := l1Below_ok l p h 2 h0 h1 hl
  rw [e]; simp only [Option.bind_some]
  refine EvP.pos (by omega) (EvP.pos (by omega) ?_)
  rw [show wrap64 (((d + 1 : Nat) : Int) - 1) = (d : Int) by rw [w64 (by omega) (by omega)]; omega]
  refine (ih (xs ++ [r.1]) r.2.1 r.2.2 (by simp; omega) hp.1 hp.2 ?_).mono (fun r h => ⟨⟨by simpa [Nat.add_assoc, Nat.add_comm 1] using h.1.1, h.1.2⟩, h.2⟩)
  intro x hx
  rcases List.mem_append.1 hx with h | h
  ·exact hb x h
  ·simp at h; omega
theorem l13Draw_ev (l : List Int) (hl : l.length ≤ 1048576) (p h n : Int) (h0 : 0 ≤ p) (h1 : p ≤ l.length) (hn : 0 ≤ n ∧ n ≤ 1000) : EvP (fun k => spec_l13Draw.f k l p h n) (fun r => ((r.1.length : Int) ≤ n ∧ ∀ x ∈ r.1, x = 0 ∨ x = 1) ∧ 0 ≤ r.2.1 ∧ r.2.1 ≤ l.length) := by
 unfold spec_l13Draw.f
 obtain ⟨r, e, hb, hp⟩ := l1Below_ok l p h (wrap64 (n + 1)) h0 h1 hl
 rw [w64 (by omega) (by omega)] at hb
 rw [e]; simp only [Option.bind_some]
 have hr : r.1 = ((r.1.toNat : Nat) : Int) := by omega
 rw [hr]
 exact (l13Draw_l0 l hl _ _ _ _ (by simp; omega) hp.1 hp.2 (by simp)).mono (fun r h => ⟨⟨by have := h.1.1; simp at this; omega, h.1.2⟩, h.2⟩)
theorem l1Size_ok (l : List Int) (m : Int) (hl : l.length ≤ 1048576) (hm : 2 ≤ m) : ∃ r, spec_l1Size.f l m = some r ∧ 2 ≤ r ∧ r ≤ m := by
 unfold spec_l1Size.f
 rw [w64 (n := (l.length : Int) / 20) (by omega) (by omega), w64 (n := 2 + _) (by omega) (by omega)]
 by_cases h : 2 + (l.length : Int) / 20 > m
 case pos => rw [if_pos h]; exact ⟨_, rfl, hm, by omega⟩
 rw [if_neg h]; exact ⟨_, rfl, by omega, by omega⟩
theorem sameInts_l0 (a b : List Int) (h : a.length = b.length) (hl : a.length ≤ 35184372088832) : ∀ (d i : Nat), i + d = a.length → Ev (fun k => laws_sameInts.l0 k a b (i : Int)) (decide (a.drop i = b.drop i)) := by
 intro d
 induction d with
 | zero =>
  intro i hi
  refine Ev.round (f := fun _ => some true) (Ev.some_ ?_) (fun k => by simp only [laws_sameInts.l0]; rw [if_neg (by omega)])
  rw [List.drop_of_length_le (by omega), List.drop_of_length_le (by omega)]; simp
 | succ d ih =>
  intro i hi
  by_cases he : rd a i = rd b i
  case neg =>
   refine (Ev.round (f := fun _ => some false) (Ev.some_ rfl) (fun k => ?_)).to ?_
   ·simp only [laws_sameInts.l0]
    rw [if_pos (by omega), if_pos (by omega), if_pos (by omega), if_neg he]
   ·rw [drop_rd (xs := a) (i := i) (by omega), drop_rd (xs := b) (i := i) (by omega)]; simp [he]
  refine (Ev.round (ih (i + 1) (by omega)) (fun k => ?_)).to ?_
  ·simp only [laws_sameInts.l0]
   rw [if_pos (by omega), if_pos (by omega), if_pos (by omega), if_pos he, w64_add (by omega) (by omega)]; simp
  ·rw [drop_rd (xs := a) (i := i) (by omega), drop_rd (xs := b) (i := i) (by omega), he]; simp
theorem sameInts_ev (a b : List Int) (hl : a.length ≤ 35184372088832) : Ev (fun k => laws_sameInts.f k a b) (decide (a = b)) := by
 unfold laws_sameInts.f
 by_cases h : a.length = b.length
 case pos => exact Ev.pos (by omega) (sameInts_l0 a b h hl a.length 0 (by omega))
 exact (Ev.neg (by omega) (Ev.some_ rfl)).to (by simp; intro e; exact h (by rw [e]))
theorem lawsAt_ok (l : List Int) (hl : l.length ≤ 1048576) (hb : ∀ x ∈ l, 0 ≤ x ∧ x < 256) (i : Nat) (hi : i ≤ 1000) : ∃ v, laws_at.f l (i : Int) = some v ∧ 0 ≤ v ∧ v < 256 := by
 unfold laws_at.f
 by_cases h : (i : Int) < (l.length : Int)
 case pos =>
  have hm := hb _ (rd_mem (xs := l) (i := i) (by omega))
  rw [if_pos h, if_pos (by omega), w64 (n := rd l (i : Int)) (by omega) (by omega)]
  exact ⟨_, rfl, hm⟩
 rw [if_neg h, w64 (n := (i : Int) * 7) (by omega) (by omega), w64 (n := (i : Int) * 7 + (l.length : Int)) (by omega) (by omega), Int.tmod_eq_emod_of_nonneg (by omega)]
 exact ⟨_, rfl, by omega, by omega⟩
theorem spreadOf_len (m a b : Int) (l : List Int) : (spreadOf m a b l).1.length ≤ 300 := by
 unfold spreadOf
 split
 ·rename_i h
  obtain ⟨N, rfl, hN, _⟩ := coder_facts h.1
  simp only [spreadGo_len, Int.toNat_natCast]
  omega
 ·simp
theorem sSoften_l0 (l : List Int) (hl : l.length ≤ 1000) (z : Int) : ∀ (d i : Nat) (acc : List Int), i + d = l.length → acc.length = i → EvP (fun k => spec_Soften.l0 k l z acc (i : Int)) (fun r => r.1.length ≤ 1000) := by
 intro d
 induction d with
 | zero =>
  intro i acc hi ha
  refine EvP.succ ?_
  simp only [spec_Soften.l0]
  exact EvP.neg (by omega) (EvP.now (by simp only; omega))
 | succ d ih =>
  intro i acc hi ha
  refine EvP.succ ?_
  simp only [spec_Soften.l0]
  rw [w64_add (by omega) (by omega)]
  exact EvP.pos (by omega) (EvP.pos (by omega) (EvP.pos (by omega) (ih (i + 1) _ (by omega) (by simp [ha]))))
theorem sSoften_ev (l : List Int) (hl : l.length ≤ 1000) (z : Int) : EvP (fun k => spec_Soften.f k l z) (fun r => r.1.length ≤ 1000) := by
 have bad : EvP (fun k => spec_Soften.j0 k l z [] true) (fun r => r.1.length ≤ 1000) := by
  refine EvP.succ ?_
  simp only [spec_Soften.j0]
  exact EvP.pos trivial (EvP.now (by simp))
 have good : EvP (fun k => spec_Soften.j0 k l z [] false) (fun r => r.1.length ≤ 1000) := by
  refine EvP.succ ?_
  simp only [spec_Soften.j0]
  exact EvP.neg (by decide) (sSoften_l0 l hl z l.length 0 [] (by omega) rfl)
 unfold spec_Soften.f
 simp only [Option.bind_some]
 refine EvP.via (sBitsOk_ev l (by omega)) ?_
 refine EvP.both (fun _ => EvP.via (Ev.here (l1In_eq _ _ _)) ?_) (fun _ => bad)
 cases h : (!(decide ((0 : Int) ≤ z) && decide (z ≤ 100))) with
 | true => exact bad
 | false => exact good
theorem DrawLik_j1 (l : List Int) (hl : l.length ≤ 1048576) (m a b : Int) (xs : List Int) (hx : xs.length ≤ 1000) (p h : Int) (h0 : 0 ≤ p) (h1 : p ≤ l.length) : EvP (fun k => spec_DrawLikeliest.j1 k m a b xs l p h) (fun r => r.2.2.2.length ≤ 1002) := by
 refine EvP.succ ?_
 simp only [spec_DrawLikeliest.j1]
 obtain ⟨r, e, _, hp⟩ := l1Below_ok l p h 30 h0 h1 hl
 rw [e]; simp only [Option.bind_some]
 refine EvP.both (fun _ => EvP.pos (by omega) (EvP.now (by simp; omega))) (fun _ => EvP.both (fun _ => ?_) (fun _ => EvP.now (by simp only; omega)))
 obtain ⟨q, e2, _, hq⟩ := l1PickInt_ok l r.2.1 r.2.2 [100, 101, (-101)] hp.1 hp.2 hl (by decide)
 rw [e2]; simp only [Option.bind_some]
 exact EvP.pos (by simp; omega) (EvP.now (by simp; omega))
theorem DrawLik_l0 (l : List Int) (hl : l.length ≤ 1048576) (m a b : Int) (ok : Bool) : ∀ (d i : Nat) (xs : List Int) (p h : Int), i + d = xs.length → xs.length ≤ 1000 → 0 ≤ p → p ≤ l.length → EvP (fun k => spec_DrawLikeliest.l0 k m a b ok xs (i : Int) l p h) (fun r => r.2.2.2.length ≤ 1002) := by
 intro d
 induction d with
 | zero =>
  intro i xs p h hi hx h0 h1
  refine EvP.succ ?_
  simp only [spec_DrawLikeliest.l0]
  exact EvP.neg (by omega) (EvP.both (fun _ => DrawLik_j1 l hl m a b xs hx p h h0 h1) (fun _ => EvP.pos (by decide) (DrawLik_j1 l hl m a b _ (by simp) p h h0 h1)))
 | succ d ih =>
  intro i xs p h hi hx h0 h1
  refine EvP.succ ?_
  simp only [spec_DrawLikeliest.l0]
  rw [w64_add (by omega) (by omega)]
  obtain ⟨r, e, hp⟩ := l1Once_ok l p h 5 h0 h1 hl
  rw [e]; simp only [Option.bind_some]
  refine EvP.pos (by omega) (EvP.both (fun _ => ?_) (fun _ => ih (i + 1) xs _ _ (by omega) hx hp.1 hp.2))
  obtain ⟨q, e2, _, hq⟩ := l1Below_ok l r.2.1 r.2.2 9 hp.1 hp.2 hl
  rw [e2]; simp only [Option.bind_some]
  exact EvP.pos (by omega) (ih (i + 1) _ _ _ (by simp; omega) (by simpa using hx) hq.1 hq.2)
theorem DrawLik_ev (l : List Int) (hl : l.length ≤ 1048576) : EvP (fun k => spec_DrawLikeliest.f k l) (fun r => r.2.2.2.length ≤ 1002) := by
 unfold spec_DrawLikeliest.f
 refine EvP.next (l1New_ev l) ?_
 rintro ⟨l', p', h'⟩ ⟨rfl, hp⟩
 simp only at hp
 subst hp
 refine EvP.next (l15DrawCoder_ev l' hl 0 h' (by omega) (by omega)) ?_
 rintro ⟨m, a, b, p, h⟩ ⟨h0, h1⟩
 simp only at h0 h1
 obtain ⟨z, ez, hz⟩ := l1Size_ok l' 12 hl (by omega)
 simp only [ez, Option.bind_some]
 refine EvP.next (l13Draw_ev l' hl p h z h0 h1 (by omega)) ?_
 rintro ⟨bs, p2, h2⟩ ⟨⟨hb1, hb2⟩, hp2⟩
 simp only at hb1 hb2 hp2
 refine EvP.via (sSpread_ev m a b bs (by omega)) ?_
 have hsl := spreadOf_len m a b bs
 obtain ⟨q, e2, _, hq⟩ := l1PickInt_ok l' p2 h2 [0, 1, 3, 100] hp2.1 hp2.2 hl (by decide)
 simp only [e2, Option.bind_some]
 refine EvP.next (sSoften_ev _ (by omega) q.1) ?_
 rintro ⟨xs, ok⟩ hx
 simp only at hx
 exact DrawLik_l0 l' hl m a b _ xs.length 0 xs _ _ (by omega) hx hq.1 hq.2
theorem scoreOf_l0 (soft list : List Int) (he : list.length = soft.length) (hl : soft.length ≤ 1000) (h100 : ∀ i : Nat, -100 ≤ rd soft i ∧ rd soft i ≤ 100) (hb : ∀ x ∈ list, x = 0 ∨ x = 1) : ∀ (d i : Nat) (s : Int), i + d = list.length → -100 * (i : Int) ≤ s → s ≤ 100 * (i : Int) → Ev (fun k => laws_scoreOf.l0 k soft list true s (i : Int)) (s + dotS (soft.drop i) (list.drop i)) := by
 intro d
 induction d with
 | zero =>
  intro i s hi h0 h1
  refine Ev.succ ?_
  simp only [laws_scoreOf.l0]
  rw [List.drop_of_length_le (by omega)]
  exact Ev.neg (by omega) (Ev.some_ (by simp [dotS]))
 | succ d ih =>
  intro i s hi h0 h1
  have hx := hb _ (rd_mem (xs := list) (i := i) (by omega))
  have hs := h100 i
  have e : wrap64 (s + wrap64 (rd soft i * wrap64 (wrap64 (2 * rd list i) - 1))) = s + rd soft i * (2 * rd list i - 1) := by
   have e0 : wrap64 (wrap64 (2 * 0) - 1) = -1 := by decide +kernel
   have e1 : wrap64 (wrap64 (2 * 1) - 1) = 1 := by decide +kernel
   rcases hx with h | h <;> rw [h]
   ·rw [e0, w64 (n := rd soft i * -1) (by omega) (by omega), w64 (by omega) (by omega)]; omega
   ·rw [e1, w64 (n := rd soft i * 1) (by omega) (by omega), w64 (by omega) (by omega)]; omega
  have hn : -100 * ((i + 1 : Nat) : Int) ≤ s + rd soft i * (2 * rd list i - 1) ∧ s + rd soft i * (2 * rd list i - 1) ≤ 100 * ((i + 1 : Nat) : Int) := by
   rcases hx with h | h <;> rw [h] <;> omega
  have r := ih (i + 1) (s + rd soft i * (2 * rd list i - 1)) (by omega) hn.1 hn.2
  have c1 : (i : Int) < (list.length : Int) := by omega
  have c2 : (list.length : Int) = (soft.length : Int) := by omega
  have c3 : (i : Int) < (soft.length : Int) := by omega
  have w := w64_add (i := (i : Int)) (by omega) (by omega)
  rw [drop_rd (xs := soft) (i := i) (by omega), drop_rd (xs := list) (i := i) (by omega)]
  simp only [dotS]
  refine Ev.succ ?_
  simp only [laws_scoreOf.l0]
  simp only [e, w]
  exact Ev.pos c1 (Ev.pos trivial (Ev.pos c2 (Ev.pos (Int.natCast_nonneg _) (Ev.pos c3 (r.to (by rw [Int.add_assoc]))))))
theorem spreadGo_bit2 (M a b : Int) (l : List Int) : ∀ d i r, ∀ x ∈ spreadGo M a b l d i r, x = 0 ∨ x = 1
 | 0, _, _ => by simp [spreadGo]
 | d + 1, i, r => by
  intro x hx
  simp only [spreadGo, List.mem_cons] at hx
  rcases hx with h | h | h
  ·rw [h]; exact parB_bit _
  ·rw [h]; exact parB_bit _
  ·exact spreadGo_bit2 M a b l d _ _ x h
theorem scoreOf_ev (N n : Nat) (hN : 1 ≤ N ∧ N ≤ 6) (a b : Int) (hc : coderB N a b = true) (soft : List Int) (h100 : ∀ i : Nat, -100 ≤ rd soft i ∧ rd soft i ≤ 100) (hls : soft.length = 2 * (n + N)) (hn : n ≤ 120) (w : List Int) (hw : w.length = n) (hb : ∀ x ∈ w, x = 0 ∨ x = 1) : Ev (fun k => laws_scoreOf.f k (N : Int) a b soft w) (pthS (2 ^ N) a b soft w (n + N) 0 0) := by
 have hsp : spreadOf N a b w = (spreadGo (2 ^ (N + 1)) a b w (n + N) 0 0, true) := by
  unfold spreadOf
  rw [if_pos ⟨hc, bitsB_iff.2 ⟨hb, by omega⟩, by omega⟩, Int.toNat_natCast, hw]
 unfold laws_scoreOf.f
 refine Ev.next ((iSpread_ev N a b w (by omega)).to hsp) ?_
 have hsl := spreadGo_len (2 ^ (N + 1)) a b w (n + N) 0 0
 refine (scoreOf_l0 soft _ (by rw [hsl, hls]) (by omega) h100 (spreadGo_bit2 _ _ _ _ _ _ _) _ 0 0 (Nat.zero_add _) (by simp) (by simp)).to ?_
 have hQ : (0 : Int) < 2 ^ N := Int.pow_pos (by omega)
 have hd := pthS_dot (M := 2 ^ (N + 1)) (Q := 2 ^ N) (by rw [Int.pow_succ, Int.mul_comm]) hQ a b soft w hb (n + N) 0 0 (by omega)
 rw [Int.zero_emod] at hd
 rw [hd, List.drop_zero, List.drop_zero, Int.zero_add]
theorem scored_l0 (x1 : List Int) (hx1 : x1.length ≤ 1048576) (hxb : ∀ x ∈ x1, 0 ≤ x ∧ x < 256) (m a b : Int) (soft got : List Int) (sc : Int) (hg : got.length ≤ 120) (H : ∀ o : List Int, o.length = got.length → (∀ x ∈ o, x = 0 ∨ x = 1) → ∃ r, Ev (fun k => laws_scoreOf.f k m a b soft o) r ∧ r ≤ sc) (H2 : Ev (fun k => laws_scoreOf.f k m a b soft got) sc) : ∀ (d i : Nat) (o : List Int), i + d = got.length → o.length = i → (∀ x ∈ o, x = 0 ∨ x = 1) → Ev (fun k => laws_FnScored.l0 k x1 m a b soft got sc o (i : Int)) true := by
 intro d
 induction d with
 | zero =>
  intro i o hi ho hb
  obtain ⟨r, h1, h2⟩ := H o (by omega) hb
  refine Ev.succ ?_
  simp only [laws_FnScored.l0]
  exact Ev.neg (by omega) (Ev.next H2 (Ev.pos rfl (Ev.next h1 (Ev.some_ (decide_eq_true h2)))))
 | succ d ih =>
  intro i o hi ho hb
  obtain ⟨v, ev, h0, h1⟩ := lawsAt_ok x1 hx1 hxb i (by omega)
  refine Ev.succ ?_
  simp only [laws_FnScored.l0, ev, Option.bind_some]
  rw [w64_add (by omega) (by omega), Int.tmod_eq_emod_of_nonneg h0]
  refine Ev.pos (by omega) (Ev.pos (by omega) (ih (i + 1) _ (by omega) (by simp [ho]) (fun x hx => ?_)))
  rcases List.mem_append.1 hx with h | h
  ·exact hb x h
  ·simp at h; omega
theorem FnScored (l more : List Int) (m0 : l.length ≤ maxLen) (w0 : ∀ x ∈ l, (Lit.int .u8 x).wf = true) (m1 : more.length ≤ maxLen) (w1 : ∀ x ∈ more, (Lit.int .u8 x).wf = true) : ∃ k, laws_FnScored.f k l more = some true := by
 refine EvP.law ?_
 have out : EvP (fun k => laws_FnScored.j0 k l more true) (· = true) := by
  refine EvP.succ ?_
  simp only [laws_FnScored.j0]
  exact EvP.pos trivial (EvP.now rfl)
 unfold laws_FnScored.f laws_big.f
 simp only [Option.bind_some]
 refine EvP.both (fun _ => out) (fun hl => ?_)
 have hl : l.length ≤ 1048576 := by simp at hl; omega
 cases hm : decide ((more.length : Int) > 1048576) with
 | true => exact out
 | false =>
  have hm : more.length ≤ 1048576 := by simp at hm; omega
  refine EvP.succ ?_
  simp only [laws_FnScored.j0]
  refine EvP.neg (by decide) (EvP.next (DrawLik_ev l hl) ?_)
  rintro ⟨m, a, b, soft⟩ hs
  simp only at hs
  refine Ev.p ?_
  simp only
  refine Ev.next (iLikeliest_ev m a b soft (by omega)) (Ev.next (sLik_ev m a b soft (by omega)) (Ev.neg (by simp) ?_))
  have hxb : ∀ x ∈ more, 0 ≤ x ∧ x < 256 := fun x hx => by
   have h2 := w1 x hx
   simp [Lit.wf, IntKind.min, IntKind.max, IntKind.signed, IntKind.bits] at h2
   omega
  by_cases hok : likOk m a b soft
  case neg =>
   have e : likOf m a b soft = ([], 0, false) := if_neg hok
   rw [e]
   refine Ev.neg (by simp) (Ev.next ((iSpread_ev 1 1 3 [1] (by simp)).to (show spreadOf 1 1 3 [1] = ([1, 1, 0, 1], true) by decide +kernel)) (Ev.pos rfl (Ev.next (sameInts_ev [1, 1, 0, 1] [1, 1, 0, 1] (by simp)) (Ev.some_ (by simp)))))
  have e : likOf m a b soft = (outV (2 ^ m.toNat) a b (soft.length / 2 - m.toNat) m.toNat soft (soft.length / 2 - m.toNat) 0 0, bstV (2 ^ m.toNat) a b (soft.length / 2 - m.toNat) soft (soft.length / 2) 0 0, true) := if_pos hok
  have hlen := likOf_len m a b soft
  rw [e] at hlen ⊢
  simp only at hlen ⊢
  obtain ⟨N, rfl, hN, _⟩ := coder_facts hok.1
  rw [Int.toNat_natCast] at hlen ⊢
  have hmm : (N : Int) ≤ (soft.length / 2 : Nat) := hok.2.2.2.1
  have hm2 : ((soft.length / 2 : Nat) : Int) - N ≤ 120 := hok.2.2.2.2
  have heven := hok.2.1
  obtain ⟨n, hn⟩ : ∃ n, n = soft.length / 2 - N := ⟨_, rfl⟩
  have hL : soft.length / 2 = n + N := by omega
  have hls : soft.length = 2 * (n + N) := by omega
  have hn120 : n ≤ 120 := by omega
  rw [← hn] at hlen ⊢
  rw [hL]
  have h100 := rd_100 hok.2.2.1
  have hc := hok.1
  obtain ⟨u, hu⟩ : ∃ u, u = outV (2 ^ N) a b n N soft n 0 0 := ⟨_, rfl⟩
  have hul : u.length = n := by rw [hu]; exact outV_len _ _ _ _ _ _ _ _ _
  have hub : ∀ x ∈ u, x = 0 ∨ x = 1 := by rw [hu]; exact outV_bit _ _ _ _ _ _ _ _ _
  have a1 := outV_att (2 ^ N) a b n N soft u hul n 0 0 (by omega) (by rw [List.drop_zero]; exact hu)
  rw [← hu] at hlen ⊢
  refine Ev.pos trivial ?_
  refine scored_l0 more hm hxb N a b soft u _ hlen (fun o ho hb => ⟨_, scoreOf_ev N n hN a b hc soft h100 hls hn120 o (by omega) hb, pthS_le (2 ^ N) a b n soft o (by omega) hb (n + N) 0 0⟩) ((scoreOf_ev N n hN a b hc soft h100 hls hn120 u hul hub).to a1) u.length 0 [] (by omega) rfl (by simp)
end Go.Proofs.Ytoggbgkpeigfmaa.Pure
