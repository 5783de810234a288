import Derived.Test.YtnmglbdhnegebaaPFnExactSpreadx3
import Derived.Test.YtnmglbdhnegebaaAid
set_option linter.unusedVariables false
set_option linter.unusedSimpArgs false
namespace Go.Proofs.Ytnmglbdhnegebaa.Pure
open Go Go.RowKit Go.Proofs.Ytnmglbdhnegebaa.PFnExactSpread Go.Proofs.YtnmglbdhnegebaaW.PrintWords Go.Proofs.YtnmglbdhnegebaaW.PrintLast Go.Proofs.YtnmglbdhnegebaaW.PrintMore
theorem toIntS_l0 (l : List Int) (hl : l.length ≤ 35184372088832) : ∀ (d i : Nat) (acc : List Int), i + d = l.length → acc.length = l.length → acc.take i = l.take i → Ev (fun k => laws_toIntS.l0 k l acc (i : Int)) l := by
  intro d
  induction d with
  | zero =>
    intro i acc h h1 h2
    refine Ev.round (f := fun _ => some acc) (Ev.some_ ?_) (fun k => by simp only [laws_toIntS.l0]; rw [if_neg (by omega)])
    rw [List.take_of_length_le (by omega), List.take_of_length_le (by omega)] at h2
    exact h2
  | succ d ih =>
    intro i acc h h1 h2
    have hi : i < l.length := by omega
    refine Ev.round (ih (i + 1) (acc.set i (rd l i)) (by omega) (by simp [h1]) ?_) (fun k => ?_)
    · rw [take_rd hi, ← h2]; exact take_set_end (by omega) _
    · simp only [laws_toIntS.l0]
      rw [if_pos (by omega), if_pos (by omega), if_pos (by omega), w64_add (by omega) (by omega)]
      simp
theorem toIntS_ev (l : List Int) (hl : l.length ≤ 35184372088832) : Ev (fun k => laws_toIntS.f k l) l := by
  unfold laws_toIntS.f
  refine Ev.pos (by omega) (Ev.pos (by omega) ?_)
  exact toIntS_l0 l hl l.length 0 _ (by omega) (by simp) (by simp)
theorem eqIntS_l0 (a b : List Int) (h : a.length = b.length) (hl : a.length ≤ 35184372088832) : ∀ (d i : Nat), i + d = a.length → Ev (fun k => laws_eqIntS.l0 k a b (i : Int)) (decide (a.drop i = b.drop i)) := by
  intro d
  induction d with
  | zero =>
    intro i hi
    refine Ev.round (f := fun _ => some true) (Ev.some_ ?_) (fun k => by simp only [laws_eqIntS.l0]; rw [if_neg (by omega)])
    rw [List.drop_of_length_le (by omega), List.drop_of_length_le (by omega)]; simp
  | succ d ih =>
    intro i hi
    by_cases he : rd a i = rd b i
    · refine (Ev.round (ih (i + 1) (by omega)) (fun k => ?_)).to ?_
      · simp only [laws_eqIntS.l0]
        rw [if_pos (by omega), if_pos (by omega), if_pos (by omega), if_pos he, w64_add (by omega) (by omega)]; simp
      · rw [drop_rd (xs := a) (i := i) (by omega), drop_rd (xs := b) (i := i) (by omega), he]; simp
    · refine (Ev.round (f := fun _ => some false) (Ev.some_ rfl) (fun k => ?_)).to ?_
      · simp only [laws_eqIntS.l0]
        rw [if_pos (by omega), if_pos (by omega), if_pos (by omega), if_neg he]
      · rw [drop_rd (xs := a) (i := i) (by omega), drop_rd (xs := b) (i := i) (by omega)]; simp [he]
theorem eqIntS_ev (a b : List Int) (hl : a.length ≤ 35184372088832) : Ev (fun k => laws_eqIntS.f k a b) (decide (a = b)) := by
  unfold laws_eqIntS.f
  by_cases h : a.length = b.length
  · exact Ev.pos (by omega) (eqIntS_l0 a b h hl a.length 0 (by omega))
  · exact (Ev.neg (by omega) (Ev.some_ rfl)).to (by simp; intro e; exact h (by rw [e]))
def iota (a : Int) : Nat → List Int
  | 0 => []
  | n + 1 => a :: iota (a + 1) n
theorem iota_length : ∀ (n : Nat) (a : Int), (iota a n).length = n
  | 0, _ => rfl
  | n + 1, a => by simp [iota, iota_length n]
theorem markIntS_l0 (m : Nat) (hm : m ≤ 1048576) : ∀ (d i : Nat) (l : List Int) (a : Int), i + d = l.length → l.length ≤ 1048576 → 0 ≤ a → a ≤ 1000000000 + i → Ev (fun k => laws_markIntS.l0 k l a (i : Int)) (a + d, l.take i ++ iota a d) := by
  intro d
  induction d with
  | zero =>
    intro i l a hi hl h0 h1
    refine Ev.succ ?_
    simp only [laws_markIntS.l0]
    refine Ev.neg (by omega) (Ev.some_ ?_)
    rw [List.take_of_length_le (by omega)]; simp [iota]
  | succ d ih =>
    intro i l a hi hl h0 h1
    refine Ev.succ ?_
    simp only [laws_markIntS.l0]
    refine Ev.pos (by omega) (Ev.pos (by omega) ?_)
    rw [w64_add (by omega) (by omega), w64_add (by omega) (by omega)]
    refine (ih (i + 1) (l.set i a) (a + 1) (by simp; omega) (by simpa using hl) (by omega) (by omega)).to ?_
    rw [take_set_end (by omega)]
    simp only [iota, List.append_assoc, List.cons_append, List.nil_append, Prod.mk.injEq, and_true]
    omega
theorem markIntS_ev (l : List Int) (a : Int) (hl : l.length ≤ 1048576) (h0 : 0 ≤ a) (h1 : a ≤ 1000000000) : Ev (fun k => laws_markIntS.f k l a) (a + l.length, iota a l.length) := by
  unfold laws_markIntS.f
  exact (markIntS_l0 l.length hl l.length 0 l a (by omega) hl h0 (by omega)).to (by simp)
theorem heldIntS_l0 (p : List Int) : ∀ (d : Nat) (a : Int) (l : List Int), l = p ++ iota a d → l.length ≤ 1048576 → ∀ i : Nat, i = p.length → 0 ≤ a → a ≤ 1000000000 + i → Ev (fun k => laws_heldIntS.l0 k l a (i : Int)) (a + d) := by
  intro d
  induction d generalizing p with
  | zero =>
    intro a l hl hn i hi h0 h1
    refine Ev.succ ?_
    simp only [laws_heldIntS.l0]
    have : l.length = p.length := by rw [hl]; simp [iota]
    exact Ev.neg (by omega) (Ev.some_ (by omega))
  | succ d ih =>
    intro a l hl hn i hi h0 h1
    have e : l.length = p.length + (d + 1) := by rw [hl]; simp [iota, iota_length]
    refine Ev.succ ?_
    simp only [laws_heldIntS.l0]
    refine Ev.pos (by omega) (Ev.pos (by omega) (Ev.pos ?_ ?_))
    · rw [rd_get l i (by omega)]
      subst hl
      rw [List.getElem_append_right (by omega)]
      simp [iota, hi]
    · rw [w64_add (by omega) (by omega), w64_add (by omega) (by omega)]
      exact (ih (p ++ [a]) (a + 1) l (by rw [hl]; simp [iota]) hn (i + 1) (by simp [hi]) (by omega) (by omega)).to (by omega)
theorem heldIntS_ev (n : Nat) (a : Int) (hn : n ≤ 1048576) (h0 : 0 ≤ a) (h1 : a ≤ 1000000000) : Ev (fun k => laws_heldIntS.f k (iota a n) a) (a + n) :=
  heldIntS_l0 [] n a (iota a n) (by simp) (by rw [iota_length]; exact hn) 0 rfl h0 (by omega)
def onesN : Nat → Int → Int
  | 0, _ => 0
  | n + 1, x => x % 2 + onesN n (x / 2)
theorem onesN_nonneg : ∀ (n : Nat) (x : Int), 0 ≤ onesN n x ∧ onesN n x ≤ n
  | 0, _ => by simp [onesN]
  | n + 1, x => by have := onesN_nonneg n (x / 2); simp only [onesN]; omega
def parB (x : Int) : Int := onesN 8 x % 2
def bitOk (x : Int) : Bool := decide (x = 0 ∨ x = 1)
theorem allBits_iff {l : List Int} : l.all bitOk = true ↔ ∀ x ∈ l, x = 0 ∨ x = 1 := by simp [List.all_eq_true, bitOk]
def bitsB (l : List Int) : Bool := l.all bitOk && decide (l.length ≤ 1024)
theorem bitsB_iff {l : List Int} : bitsB l = true ↔ (∀ x ∈ l, x = 0 ∨ x = 1) ∧ l.length ≤ 1024 := by
  unfold bitsB; rw [Bool.and_eq_true, allBits_iff]; simp
theorem shl_one {y : Nat} (hy : y ≤ 60) : shl .i64 1 (y : Int) = 2 ^ y := by
  unfold shl
  have hp : (2 : Int) ^ y ≤ 2 ^ 60 := by
    have : (2 : Nat) ^ y ≤ 2 ^ 60 := Nat.pow_le_pow_right (by omega) (by omega)
    exact_mod_cast this
  have hp0 : (0 : Int) < 2 ^ y := Int.pow_pos (by omega)
  rw [show min ((y : Int).toNat) IntKind.i64.bits = y by simp [IntKind.bits]; omega, IntKind.wrap_i64]
  omega
/-- A coder is right. -/
def coderB (m a b : Int) : Bool := decide ((1 ≤ m ∧ m ≤ 6) ∧ (1 ≤ a ∧ a ≤ 2 ^ (m.toNat + 1) - 1) ∧ (1 ≤ b ∧ b ≤ 2 ^ (m.toNat + 1) - 1))
theorem pow_small {m : Nat} (h : m ≤ 6) : (2 : Int) ^ (m + 1) ≤ 128 ∧ (0 : Int) < 2 ^ (m + 1) ∧ ∃ q : Int, (2 : Int) ^ (m + 1) = 2 * q ∧ q ≤ 64 := by
  have h1 : (2 : Int) ^ (m + 1) ≤ 2 ^ 7 := by
    have : (2 : Nat) ^ (m + 1) ≤ 2 ^ 7 := Nat.pow_le_pow_right (by omega) (by omega)
    exact_mod_cast this
  have h2 : (2 : Int) ^ (m + 1) = 2 * 2 ^ m := by rw [Int.pow_succ]; omega
  exact ⟨by omega, Int.pow_pos (by omega), 2 ^ m, h2, by omega⟩
/-- The next bit: the message's, then noughts. -/
def bitAt (l : List Int) (i : Nat) : Int := if i < l.length then rd l i else 0
def spreadGo (M a b : Int) (l : List Int) : Nat → Nat → Int → List Int
  | 0, _, _ => []
  | d + 1, i, r => parB (bits .and .i64 ((2 * r + bitAt l i) % M) a) :: parB (bits .and .i64 ((2 * r + bitAt l i) % M) b) :: spreadGo M a b l d (i + 1) ((2 * r + bitAt l i) % M)
theorem spreadGo_len (M a b : Int) (l : List Int) : ∀ d i r, (spreadGo M a b l d i r).length = 2 * d
  | 0, _, _ => rfl
  | d + 1, i, r => by simp only [spreadGo, List.length_cons, spreadGo_len M a b l d]; omega
def spreadOf (m a b : Int) (l : List Int) : List Int × Bool :=
  if coderB m a b = true ∧ bitsB l = true ∧ l.length ≤ 120 then (spreadGo (2 ^ (m.toNat + 1)) a b l (l.length + m.toNat) 0 0, true) else ([], false)
theorem bitAt_bit {l : List Int} (h : ∀ x ∈ l, x = 0 ∨ x = 1) (i : Nat) : bitAt l i = 0 ∨ bitAt l i = 1 := by
  unfold bitAt
  split
  · exact h _ (rd_mem (by assumption))
  · exact .inl rfl
theorem and_bd {r M a : Int} (hM : M ≤ 128) (hr : 0 ≤ r ∧ r < M) (ha : 0 ≤ a) (ha2 : a ≤ 127) : 0 ≤ bits .and .i64 r a ∧ bits .and .i64 r a ≤ 127 := by
  have := bits_and_le r a ha (by omega)
  omega
/-- x & (M - 1) | y of an even x. -/
theorem or_add {x y : Int} (hx0 : 0 ≤ x) (hx : x % 2 = 0) (hx1 : x < 1000) (hy : y = 0 ∨ y = 1) : bits .or .i64 x y = x + y :=
  bits_join .i64 62 (by decide) (fun n h0 h1 => by rw [IntKind.wrap_i64]; omega) 1 x y hx0 (by simpa using hx) (by omega) (by omega) (by omega) (by omega)
theorem or_zero_join {M r y : Int} {n : Nat} (hM : M = 2 ^ n) (hn : 1 ≤ n ∧ n ≤ 7) (hr : 0 ≤ r ∧ r < M) (hM1 : M ≤ 128) (hy : y = 0 ∨ y = 1) : bits .or .i64 (bits .and .i64 (r * 2) (M - 1)) y = (2 * r + y) % M := by
  have hq : ∃ q : Int, M = 2 * q := by
    obtain ⟨n', rfl⟩ : ∃ n', n = n' + 1 := ⟨n - 1, by omega⟩
    exact ⟨2 ^ n', by rw [hM, Int.pow_succ]; omega⟩
  obtain ⟨q, hq⟩ := hq
  have h1 := bits_and_mask (r * 2) n (by omega)
  rw [← hM] at h1
  rw [h1]
  have hM0 : 0 < M := by omega
  have h2 : (r * 2) % M = r * 2 ∨ (r * 2) % M = r * 2 - M := by
    rcases Int.lt_or_le (r * 2) M with h | h
    · exact .inl (Int.emod_eq_of_lt (by omega) h)
    · refine .inr ?_
      rw [← Int.sub_emod_right]
      exact Int.emod_eq_of_lt (by omega) (by omega)
  have h3 : (2 * r + y) % M = (r * 2) % M + y := by
    rcases Int.lt_or_le (r * 2) M with h | h
    · rw [Int.emod_eq_of_lt (by omega) h, Int.emod_eq_of_lt (by omega) (by omega)]; omega
    · have e1 : (r * 2) % M = r * 2 - M := by rw [← Int.sub_emod_right]; exact Int.emod_eq_of_lt (by omega) (by omega)
      have e2 : (2 * r + y) % M = 2 * r + y - M := by rw [← Int.sub_emod_right]; exact Int.emod_eq_of_lt (by omega) (by omega)
      rw [e1, e2]; omega
  rw [h3]
  rcases h2 with e | e
  · rw [e]; exact or_add (by omega) (by omega) (by omega) hy
  · rw [e]
    refine or_add ?_ (by omega) (by omega) hy
    rw [← e]; exact Int.emod_nonneg _ (by omega)
/-- The wraps of a round of Spread, told away from its powers (omega compares atoms by unfolding them). -/
theorem sp_facts {m n i : Nat} {r : Int} (hm : m ≤ 6) (hn : n ≤ 120) (hi : i ≤ 1000) (h0 : 0 ≤ r) (h1 : r ≤ 127) : wrap64 ((n : Int) + m) = (n : Int) + m ∧ wrap64 ((m : Int) + 1) = ((m + 1 : Nat) : Int) ∧ IntKind.u64.wrap ((m + 1 : Nat) : Int) = ((m + 1 : Nat) : Int) ∧ wrap64 ((i : Int) + 1) = ((i + 1 : Nat) : Int) ∧ wrap64 (2 * r) = 2 * r ∧ wrap64 (r * 2) = r * 2 :=
  ⟨w64 (by omega) (by omega), (w64_add (by omega) (by omega)).trans (by omega), wu64 (by omega) (by omega), w64_add (by omega) (by omega), w64 (by omega) (by omega), w64 (by omega) (by omega)⟩
theorem w64_reg {r x : Int} (h0 : 0 ≤ r) (h1 : r ≤ 127) (hx : x = 0 ∨ x = 1) : wrap64 (2 * r + x) = 2 * r + x := w64 (by omega) (by omega)
theorem w64_mask {M : Int} (h0 : 0 < M) (h1 : M ≤ 128) : wrap64 (M - 1) = M - 1 := w64 (by omega) (by omega)
theorem nat_nonneg_ (n : Nat) : (0 : Int) ≤ (n : Int) := Int.natCast_nonneg n
theorem l14Ones_l0 : ∀ (n : Nat) (x s : Int), 0 ≤ x → x < 2 ^ n → 0 ≤ s → s ≤ 1000 - n → n ≤ 60 → Ev (fun k => spec_l14Ones.l0 k x s) (s + onesN n x) := by
  intro n
  induction n with
  | zero =>
    intro x s h0 h1 _ _ _
    refine Ev.succ ?_
    simp only [spec_l14Ones.l0]
    exact Ev.neg (by simp at h1; omega) (Ev.some_ (by simp [onesN]))
  | succ n ih =>
    intro x s h0 h1 h2 h3 h4
    have e : (2 : Int) ^ (n + 1) = 2 * 2 ^ n := by rw [Int.pow_succ]; omega
    have hb : (2 : Int) ^ (n + 1) ≤ 2 ^ 60 := by
      have : (2 : Nat) ^ (n + 1) ≤ 2 ^ 60 := Nat.pow_le_pow_right (by omega) (by omega)
      exact_mod_cast this
    by_cases hx : x = 0
    · subst hx
      have z : ∀ m : Nat, onesN m 0 = 0 := by
        intro m
        induction m with
        | zero => rfl
        | succ m ihm => simp [onesN, ihm]
      refine Ev.succ ?_
      simp only [spec_l14Ones.l0]
      exact Ev.neg (by omega) (Ev.some_ (by rw [z]; omega))
    · refine Ev.succ ?_
      simp only [spec_l14Ones.l0]
      rw [Int.tdiv_eq_ediv_of_nonneg h0, Int.tmod_eq_emod_of_nonneg h0, w64 (by omega) (by omega), w64 (by omega) (by omega)]
      exact Ev.pos (by omega) ((ih (x / 2) (s + x % 2) (by omega) (by omega) (by omega) (by omega) (by omega)).to (by simp only [onesN]; omega))
theorem l14Ones_ev {x : Int} (h0 : 0 ≤ x) (h1 : x ≤ 127) : Ev (fun k => spec_l14Ones.f k x) (onesN 8 x) :=
  (l14Ones_l0 8 x 0 h0 (by omega) (by omega) (by omega) (by omega)).to (by simp)
theorem l1In_eq (a b c : Int) : spec_l1In.f a b c = some (decide (b ≤ a) && decide (a ≤ c)) := by
  unfold spec_l1In.f
  by_cases h : a ≥ b
  · rw [if_pos h]; simp [show b ≤ a from h]
  · rw [if_neg h]; simp [show ¬ b ≤ a from h]
theorem sBitsOk_l0 (l : List Int) (hl : l.length ≤ 1048576) : ∀ (d i : Nat), i + d = l.length → Ev (fun k => spec_BitsOk.l0 k l (i : Int)) ((l.drop i).all bitOk && decide (l.length ≤ 1024)) := by
  intro d
  induction d with
  | zero =>
    intro i hi
    refine Ev.succ ?_
    simp only [spec_BitsOk.l0]
    rw [List.drop_of_length_le (by omega)]
    exact Ev.neg (by omega) (Ev.some_ (by simp; omega))
  | succ d ih =>
    intro i hi
    refine Ev.succ ?_
    simp only [spec_BitsOk.l0, l1In_eq, Option.bind_some]
    refine Ev.pos (by omega) (Ev.pos (by omega) ?_)
    rw [drop_rd (xs := l) (i := i) (by omega), w64_add (by omega) (by omega)]
    by_cases h1 : rd l i = 0 ∨ rd l i = 1
    · exact Ev.pos (by simp; omega) ((ih (i + 1) (by omega)).to (by simp [bitOk, h1]))
    · exact Ev.neg (by simp; omega) (Ev.some_ (by simp [bitOk, h1]))
theorem sBitsOk_ev (l : List Int) (hl : l.length ≤ 1048576) : Ev (fun k => spec_BitsOk.f k l) (bitsB l) :=
  (sBitsOk_l0 l hl l.length 0 (by omega)).to (by simp [bitsB])
theorem l15Coder_eq (m a b : Int) : spec_l15Coder.f m a b = some (coderB m a b) := by
  unfold spec_l15Coder.f coderB
  simp only [l1In_eq, Option.bind_some]
  by_cases h : 1 ≤ m ∧ m ≤ 6
  · obtain ⟨n, rfl⟩ := Int.eq_ofNat_of_zero_le (show 0 ≤ m by omega)
    have hp := pow_small (m := n) (by omega)
    rw [if_pos (by simp; omega), w64_add (by omega) (by omega), show ((n : Int) + 1) = ((n + 1 : Nat) : Int) by omega, wu64 (by omega) (by omega), if_pos (by omega), shl_one (by omega), w64 (by omega) (by omega), Int.toNat_natCast]
    by_cases h2 : 1 ≤ a ∧ a ≤ 2 ^ (n + 1) - 1
    · rw [if_pos (by simp [h2]), Option.some.injEq]
      rw [Bool.eq_iff_iff]; simp; omega
    · rw [if_neg (by simpa using h2), Option.some.injEq]
      symm; rw [decide_eq_false_iff_not]; exact fun hh => h2 hh.2.1
  · rw [if_neg (by simp; omega), Option.some.injEq]
    symm; rw [decide_eq_false_iff_not]; exact fun hh => h hh.1
theorem sSpread_body {m a b A B R ta tb : Int} {l acc : List Int} {i : Int} {res : List Int × Bool} (oa : Ev (fun k => spec_l14Ones.f k A) ta) (ob : Ev (fun k => spec_l14Ones.f k B) tb) (ha : 0 ≤ ta) (hb : 0 ≤ tb) (hl : acc.length ≤ 1000)
    (h : Ev (fun k => spec_Spread.l0 k m a b l (acc ++ [ta % 2, tb % 2]) R i) res) :
    Ev (fun k => (spec_l14Ones.f k A).bind fun t => (spec_l14Ones.f k B).bind fun u => (some ([Int.tmod t 2, Int.tmod u 2] : List Int)).bind fun y => if acc.length + y.length < 17592186044416 then spec_Spread.l0 k m a b l (acc ++ y) R i else none) res := by
  refine Ev.next oa (Ev.next ob ?_)
  simp only [Option.bind_some]
  rw [Int.tmod_eq_emod_of_nonneg ha, Int.tmod_eq_emod_of_nonneg hb]
  exact Ev.pos (by simp; omega) h
theorem sSpread_l0 (m : Nat) (hm : 1 ≤ m ∧ m ≤ 6) (a b : Int) (ha : 0 ≤ a ∧ a ≤ 127) (hb : 0 ≤ b ∧ b ≤ 127) (l : List Int) (hl : l.length ≤ 120) (hbit : ∀ x ∈ l, x = 0 ∨ x = 1) : ∀ (d i : Nat) (acc : List Int) (r : Int), i + d = l.length + m → acc.length = 2 * i → 0 ≤ r → r < 2 ^ (m + 1) → Ev (fun k => spec_Spread.l0 k (m : Int) a b l acc r (i : Int)) (acc ++ spreadGo (2 ^ (m + 1)) a b l d i r, true) := by
  obtain ⟨hp1, hp2, q, hq, hq2⟩ := pow_small (m := m) (by omega)
  intro d
  induction d with
  | zero =>
    intro i acc r hi ha' hr0 hr1
    refine Ev.succ ?_
    simp only [spec_Spread.l0]
    rw [w64 (n := (l.length : Int) + m) (by omega) (by omega)]
    exact Ev.neg (by omega) (Ev.some_ (by simp [spreadGo]))
  | succ d ih =>
    intro i acc r hi ha' hr0 hr1
    have hbt := bitAt_bit hbit i
    have hmod : 0 ≤ (2 * r + bitAt l i) % 2 ^ (m + 1) ∧ (2 * r + bitAt l i) % 2 ^ (m + 1) < 2 ^ (m + 1) := ⟨Int.emod_nonneg _ (by omega), Int.emod_lt_of_pos _ hp2⟩
    have A := and_bd (a := a) hp1 hmod ha.1 ha.2
    have B := and_bd (a := b) hp1 hmod hb.1 hb.2
    have oa := l14Ones_ev A.1 A.2
    have ob := l14Ones_ev B.1 B.2
    have na := onesN_nonneg 8 (bits .and .i64 ((2 * r + bitAt l i) % 2 ^ (m + 1)) a)
    have nb := onesN_nonneg 8 (bits .and .i64 ((2 * r + bitAt l i) % 2 ^ (m + 1)) b)
    have rec_ := ih (i + 1) (acc ++ [onesN 8 (bits .and .i64 ((2 * r + bitAt l i) % 2 ^ (m + 1)) a) % 2, onesN 8 (bits .and .i64 ((2 * r + bitAt l i) % 2 ^ (m + 1)) b) % 2]) _ (by omega) (by simp; omega) hmod.1 hmod.2
    have ee : acc ++ spreadGo (2 ^ (m + 1)) a b l (d + 1) i r = (acc ++ [onesN 8 (bits .and .i64 ((2 * r + bitAt l i) % 2 ^ (m + 1)) a) % 2, onesN 8 (bits .and .i64 ((2 * r + bitAt l i) % 2 ^ (m + 1)) b) % 2]) ++ spreadGo (2 ^ (m + 1)) a b l d (i + 1) ((2 * r + bitAt l i) % 2 ^ (m + 1)) := by
      simp only [spreadGo, parB, List.append_assoc, List.cons_append, List.nil_append]
    rw [← ee] at rec_
    clear ee
    have body := sSpread_body (m := (m : Int)) (a := a) (b := b) (l := l) (acc := acc) oa ob na.1 nb.1 (by omega) rec_
    clear rec_ na nb oa ob A B hmod
    refine Ev.succ ?_
    simp only [spec_Spread.l0]
    have c1 : (i : Int) < (l.length : Int) + m := by omega
    have c0 : ¬ (2 : Int) ^ (m + 1) = 0 := by omega
    have c5 : r ≤ 127 := by omega
    have c6 : i ≤ 1000 := by omega
    have c7 : 0 ≤ 2 * r + bitAt l i := by omega
    have f3 := shl_one (y := m + 1) (by omega)
    obtain ⟨f1, e1, f2, f4, f5, _⟩ := sp_facts (m := m) (n := l.length) (i := i) hm.2 hl c6 hr0 c5
    have f6 := w64_reg hr0 c5 hbt
    have f7 := Int.tmod_eq_emod_of_nonneg (b := (2 : Int) ^ (m + 1)) c7
    simp only [f1, e1, f2, f3, f4, f5]
    refine Ev.pos c1 ?_
    by_cases hil : i < l.length
    · have eb : bitAt l i = rd l i := if_pos hil
      rw [eb] at body f6 f7
      simp only [f6, f7]
      exact Ev.pos (Int.ofNat_lt.2 hil) (Ev.pos (nat_nonneg_ i) (Ev.pos (nat_nonneg_ _) (Ev.neg c0 body)))
    · have eb : bitAt l i = 0 := if_neg hil
      rw [eb, Int.add_zero] at body f7
      simp only [f7]
      exact Ev.neg (fun h => hil (Int.ofNat_lt.1 h)) (Ev.pos (nat_nonneg_ _) (Ev.neg c0 body))
theorem sSpread_ev (m a b : Int) (l : List Int) (hl : l.length ≤ 1048576) : Ev (fun k => spec_Spread.f k m a b l) (spreadOf m a b l) := by
  have bad : Ev (fun k => spec_Spread.j0 k m a b l [] true) ([], false) := by
    refine Ev.succ ?_
    simp only [spec_Spread.j0]
    exact Ev.pos trivial (Ev.some_ rfl)
  unfold spec_Spread.f spreadOf
  rw [l15Coder_eq]
  simp only [Option.bind_some]
  by_cases h1 : coderB m a b = true
  · refine Ev.pos h1 (Ev.next (sBitsOk_ev l hl) ?_)
    by_cases h2 : bitsB l = true
    · refine Ev.pos h2 ?_
      by_cases h3 : l.length ≤ 120
      · rw [if_pos ⟨h1, h2, h3⟩, show decide ((l.length : Int) > 120) = false by simp; omega]
        have hc := h1
        unfold coderB at hc
        simp only [decide_eq_true_eq] at hc
        obtain ⟨n, rfl⟩ := Int.eq_ofNat_of_zero_le (show 0 ≤ m by omega)
        rw [Int.toNat_natCast] at hc ⊢
        have hp := pow_small (m := n) (by omega)
        refine Ev.succ ?_
        simp only [spec_Spread.j0]
        exact Ev.neg (by simp) ((sSpread_l0 n (by omega) a b (by omega) (by omega) l h3 (bitsB_iff.1 h2).1 (l.length + n) 0 [] 0 (by omega) (by simp) (by omega) (by omega)).to (by simp))
      · rw [if_neg (fun h => h3 h.2.2), show decide ((l.length : Int) > 120) = true by simp; omega]; exact bad
    · rw [if_neg (fun h => h2 h.2.1)]; exact Ev.neg h2 bad
  · rw [if_neg (fun h => h1 h.1)]; exact Ev.neg h1 bad
theorem parity_all : ∀ x : Fin 128, impl_parity.f ((x.1 : Nat) : Int) = some (parB ((x.1 : Nat) : Int)) := by decide +kernel
theorem parity_eq {x : Int} (h0 : 0 ≤ x) (h1 : x ≤ 127) : impl_parity.f x = some (parB x) := by
  obtain ⟨n, rfl⟩ := Int.eq_ofNat_of_zero_le h0
  exact parity_all ⟨n, by omega⟩
theorem isBit_eq (a : Int) : impl_isBit.f a = some (decide (a = 0 ∨ a = 1)) := by
  unfold impl_isBit.f
  by_cases h : a = 0
  · simp [h]
  · rw [if_neg h]; simp [h]; by_cases h1 : a = 1 <;> simp [h1]
theorem iBitsOk_l0 (l : List Int) (hl : l.length ≤ 1048576) : ∀ (d i : Nat), i + d = l.length → Ev (fun k => impl_BitsOk.l0 k l l (l.length : Int) (i : Int)) ((l.drop i).all bitOk && decide (l.length ≤ 1024)) := by
  intro d
  induction d with
  | zero =>
    intro i hi
    refine Ev.succ ?_
    simp only [impl_BitsOk.l0]
    rw [List.drop_of_length_le (by omega)]
    exact Ev.neg (by omega) (Ev.some_ (by simp; omega))
  | succ d ih =>
    intro i hi
    refine Ev.succ ?_
    simp only [impl_BitsOk.l0, isBit_eq, Option.bind_some]
    refine Ev.pos (by omega) (Ev.pos (by omega) (Ev.pos (by omega) ?_))
    rw [drop_rd (xs := l) (i := i) (by omega), w64_add (by omega) (by omega)]
    by_cases h1 : rd l i = 0 ∨ rd l i = 1
    · exact Ev.pos (by simp [h1]) ((ih (i + 1) (by omega)).to (by simp [bitOk, h1]))
    · exact Ev.neg (by simp [h1]) (Ev.some_ (by simp [bitOk, h1]))
theorem iBitsOk_ev (l : List Int) (hl : l.length ≤ 1048576) : Ev (fun k => impl_BitsOk.f k l) (bitsB l) :=
  (iBitsOk_l0 l hl l.length 0 (by omega)).to (by simp [bitsB])
theorem coder_eq (m a b : Int) : impl_coder.f m a b = some (coderB m a b) := by
  unfold impl_coder.f coderB
  by_cases h : 1 ≤ m ∧ m ≤ 6
  · obtain ⟨n, rfl⟩ := Int.eq_ofNat_of_zero_le (show 0 ≤ m by omega)
    have hp := pow_small (m := n) (by omega)
    rw [if_neg (by omega), if_neg (by omega), w64_add (by omega) (by omega), if_pos (by omega), show ((n : Int) + 1) = ((n + 1 : Nat) : Int) by omega, shl_one (by omega), w64 (by omega) (by omega), Int.toNat_natCast]
    by_cases h2 : 1 ≤ a
    · rw [if_pos h2]
      by_cases h3 : a ≤ 2 ^ (n + 1) - 1
      · rw [if_pos h3]
        by_cases h4 : 1 ≤ b
        · rw [if_pos h4, Option.some.injEq, decide_eq_decide]
          exact ⟨fun h5 => ⟨h, ⟨h2, h3⟩, h4, h5⟩, fun h5 => h5.2.2.2⟩
        · rw [if_neg h4, Option.some.injEq]; symm; rw [decide_eq_false_iff_not]; exact fun hh => h4 hh.2.2.1
      · rw [if_neg h3, Option.some.injEq]; symm; rw [decide_eq_false_iff_not]; exact fun hh => h3 hh.2.1.2
    · rw [if_neg h2, Option.some.injEq]; symm; rw [decide_eq_false_iff_not]; exact fun hh => h2 hh.2.1.1
  · have : (if m < 1 then some false else if m > 6 then some false else if 0 ≤ wrap64 (m + 1) then (if a ≥ 1 then (if a ≤ wrap64 (shl .i64 1 (wrap64 (m + 1)) - 1) then (if b ≥ 1 then some (decide (b ≤ wrap64 (shl .i64 1 (wrap64 (m + 1)) - 1))) else some false) else some false) else some false) else none) = some false := by
      by_cases h1 : m < 1
      · rw [if_pos h1]
      · rw [if_neg h1, if_pos (by omega)]
    rw [this, Option.some.injEq]; symm; rw [decide_eq_false_iff_not]; exact fun hh => h hh.1
theorem iSpread_body {m a b ta tb R n : Int} {l acc : List Int} {i : Int} {res : List Int × Bool} (hl : acc.length ≤ 1000)
    (h : Ev (fun k => impl_Spread.l0 k m a b l (acc ++ [ta, tb]) R n i) res) :
    Ev (fun k => (some ([ta, tb] : List Int)).bind fun y => if acc.length + y.length < 17592186044416 then impl_Spread.l0 k m a b l (acc ++ y) R n i else none) res := by
  simp only [Option.bind_some]
  exact Ev.pos (by simp; omega) h
theorem iSpread_l0 (m : Nat) (hm : 1 ≤ m ∧ m ≤ 6) (a b : Int) (ha : 0 ≤ a ∧ a ≤ 127) (hb : 0 ≤ b ∧ b ≤ 127) (l : List Int) (hl : l.length ≤ 120) (hbit : ∀ x ∈ l, x = 0 ∨ x = 1) : ∀ (d i : Nat) (acc : List Int) (r : Int), i + d = l.length + m → acc.length = 2 * i → 0 ≤ r → r < 2 ^ (m + 1) → Ev (fun k => impl_Spread.l0 k (m : Int) a b l acc r ((l.length : Int) + m) (i : Int)) (acc ++ spreadGo (2 ^ (m + 1)) a b l d i r, true) := by
  obtain ⟨hp1, hp2, q, hq, hq2⟩ := pow_small (m := m) (by omega)
  intro d
  induction d with
  | zero =>
    intro i acc r hi ha' hr0 hr1
    refine Ev.succ ?_
    simp only [impl_Spread.l0]
    exact Ev.neg (by omega) (Ev.some_ (by simp [spreadGo]))
  | succ d ih =>
    intro i acc r hi ha' hr0 hr1
    have hbt := bitAt_bit hbit i
    have hmod : 0 ≤ (2 * r + bitAt l i) % 2 ^ (m + 1) ∧ (2 * r + bitAt l i) % 2 ^ (m + 1) < 2 ^ (m + 1) := ⟨Int.emod_nonneg _ (by omega), Int.emod_lt_of_pos _ hp2⟩
    have A := and_bd (a := a) hp1 hmod ha.1 ha.2
    have B := and_bd (a := b) hp1 hmod hb.1 hb.2
    have rec_ := ih (i + 1) (acc ++ [parB (bits .and .i64 ((2 * r + bitAt l i) % 2 ^ (m + 1)) a), parB (bits .and .i64 ((2 * r + bitAt l i) % 2 ^ (m + 1)) b)]) _ (by omega) (by simp; omega) hmod.1 hmod.2
    have ee : acc ++ spreadGo (2 ^ (m + 1)) a b l (d + 1) i r = (acc ++ [parB (bits .and .i64 ((2 * r + bitAt l i) % 2 ^ (m + 1)) a), parB (bits .and .i64 ((2 * r + bitAt l i) % 2 ^ (m + 1)) b)]) ++ spreadGo (2 ^ (m + 1)) a b l d (i + 1) ((2 * r + bitAt l i) % 2 ^ (m + 1)) := by
      simp only [spreadGo, parB, List.append_assoc, List.cons_append, List.nil_append]
    rw [← ee] at rec_
    clear ee
    have body := iSpread_body (m := (m : Int)) (a := a) (b := b) (l := l) (acc := acc) (by omega) rec_
    have PA := parity_eq A.1 A.2
    have PB := parity_eq B.1 B.2
    clear rec_ A B hmod
    have c1 : (i : Int) < (l.length : Int) + m := by clear PA PB body; omega
    have c5 : r ≤ 127 := by clear PA PB body; omega
    have c6 : i ≤ 1000 := by clear PA PB body; omega
    have ej : bits .or .i64 (bits .and .i64 (r * 2) (2 ^ (m + 1) - 1)) (bitAt l i) = (2 * r + bitAt l i) % 2 ^ (m + 1) := by clear PA PB body; exact or_zero_join rfl (by omega) ⟨hr0, hr1⟩ hp1 hbt
    have f3 := shl_one (y := m + 1) (by omega)
    have f6 := w64_mask hp2 hp1
    obtain ⟨f1, e1, f2, f4, f5, f7⟩ := sp_facts (m := m) (n := l.length) (i := i) hm.2 hl c6 hr0 c5
    refine Ev.succ ?_
    simp only [impl_Spread.l0]
    simp only [e1, f3, f4, f6, f7]
    refine Ev.pos c1 ?_
    by_cases hil : i < l.length
    · have eb : bitAt l i = rd l i := if_pos hil
      rw [eb] at body ej PA PB
      simp only [ej, PA, PB, Option.bind_some] at body ⊢
      exact Ev.pos (Int.ofNat_lt.2 hil) (Ev.pos (nat_nonneg_ i) (Ev.pos (nat_nonneg_ _) body))
    · have eb : bitAt l i = 0 := if_neg hil
      rw [eb] at body ej PA PB
      simp only [ej, PA, PB, Option.bind_some] at body ⊢
      exact Ev.neg (fun h => hil (Int.ofNat_lt.1 h)) (Ev.pos (nat_nonneg_ _) body)
theorem iSpread_ev (m a b : Int) (l : List Int) (hl : l.length ≤ 1048576) : Ev (fun k => impl_Spread.f k m a b l) (spreadOf m a b l) := by
  have bad : Ev (fun k => impl_Spread.j0 k m a b l true) ([], false) := by
    refine Ev.succ ?_
    simp only [impl_Spread.j0]
    exact Ev.pos trivial (Ev.some_ rfl)
  unfold impl_Spread.f spreadOf
  rw [coder_eq]
  simp only [Option.bind_some]
  by_cases h1 : coderB m a b = true
  · refine Ev.pos h1 (Ev.next (iBitsOk_ev l hl) ?_)
    by_cases h2 : bitsB l = true
    · refine Ev.pos h2 ?_
      by_cases h3 : l.length ≤ 120
      · rw [if_pos ⟨h1, h2, h3⟩, show decide ((l.length : Int) > 120) = false by simp; omega]
        have hc := h1
        unfold coderB at hc
        simp only [decide_eq_true_eq] at hc
        obtain ⟨n, rfl⟩ := Int.eq_ofNat_of_zero_le (show 0 ≤ m by omega)
        rw [Int.toNat_natCast] at hc ⊢
        have hp := pow_small (m := n) (by omega)
        refine Ev.succ ?_
        simp only [impl_Spread.j0]
        rw [w64 (n := (l.length : Int) + n) (by omega) (by omega)]
        exact Ev.neg (by simp) ((iSpread_l0 n (by omega) a b (by omega) (by omega) l h3 (bitsB_iff.1 h2).1 (l.length + n) 0 [] 0 (by omega) (by simp) (by omega) (by omega)).to (by simp))
      · rw [if_neg (fun h => h3 h.2.2), show decide ((l.length : Int) > 120) = true by simp; omega]; exact bad
    · rw [if_neg (fun h => h2 h.2.1)]; exact Ev.neg h2 bad
  · rw [if_neg (fun h => h1 h.1)]; exact Ev.neg h1 bad
theorem FnExactSpread (m : Int) (a : Int) (b : Int) (l : List Int) (w0 : (Lit.int .i64 m).wf = true) (w1 : (Lit.int .i64 a).wf = true) (w2 : (Lit.int .i64 b).wf = true) (m3 : l.length ≤ maxLen) (w3 : ∀ x ∈ l, (Lit.int .i64 x).wf = true) : ∃ k, laws_FnExactSpread.f k m a b l = some true := by
  refine Ev.rounds ?_
  unfold laws_FnExactSpread.f
  by_cases hl : (l.length : Int) > 1048576
  · exact Ev.pos hl (Ev.some_ rfl)
  have hg : (spreadOf m a b l).1.length ≤ 1000 := by
    unfold spreadOf
    split
    · rename_i h
      have hc := h.1
      unfold coderB at hc
      simp only [decide_eq_true_eq] at hc
      simp only [spreadGo_len]
      omega
    · simp
  have ti := toIntS_ev l (by omega)
  have si := sSpread_ev m a b l (by omega)
  have ii := iSpread_ev m a b l (by omega)
  have ee := eqIntS_ev (spreadOf m a b l).1 (spreadOf m a b l).1 (by omega)
  refine Ev.neg hl (Ev.next ti (Ev.next si (Ev.next ti (Ev.next ii (Ev.next ee (Ev.pos (by simp) ?_))))))
  refine Ev.succ ?_
  simp only [laws_FnExactSpread.j0]
  refine Ev.neg (by simp) (Ev.next ti (Ev.next (eqIntS_ev l l (by omega)) (Ev.pos (by simp) (Ev.next (markIntS_ev l 1 (by omega) (by omega) (by omega)) (Ev.neg (by simp only; omega) (Ev.next ee (Ev.pos (by simp) ?_)))))))
  refine Ev.succ ?_
  simp only [laws_FnExactSpread.j1]
  have hh := heldIntS_ev (spreadOf m a b l).1.length 1 (by omega) (by omega) (by omega)
  refine Ev.neg (by simp) (Ev.next (markIntS_ev (spreadOf m a b l).1 1 (by omega) (by omega) (by omega)) (Ev.next hh (Ev.neg (by omega) (Ev.pos rfl (Ev.next ti (Ev.next ii (Ev.next ee (Ev.pos (by simp) ?_))))))))
  refine Ev.succ ?_
  simp only [laws_FnExactSpread.j2]
  exact Ev.neg (by simp) (Ev.next hh (Ev.neg (by omega) (Ev.pos rfl (Ev.some_ rfl))))
end Go.Proofs.Ytnmglbdhnegebaa.Pure
