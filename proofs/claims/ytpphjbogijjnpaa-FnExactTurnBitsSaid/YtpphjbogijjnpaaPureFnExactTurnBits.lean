import Derived.Test.YtpphjbogijjnpaaPFnExactTurnBitsx9
import Derived.Test.YtpphjbogijjnpaaAid
set_option linter.unusedVariables false
set_option linter.unusedSimpArgs false
namespace Go.Proofs.Ytpphjbogijjnpaa.Pure
open Go Go.RowKit Go.Proofs.Ytpphjbogijjnpaa.PFnExactTurnBits Go.Proofs.YtpphjbogijjnpaaW.PrintWords Go.Proofs.YtpphjbogijjnpaaW.PrintLast Go.Proofs.YtpphjbogijjnpaaW.PrintMore
theorem eqIntS_l0 (a b : List Int) (h : a.length = b.length) (hl : a.length ≤ 35184372088832) : ∀ (d i : Nat), i + d = a.length → Ev (fun k => laws_eqIntS.l0 k a b (i : Int)) (decide (a.drop i = b.drop i)) := by
  intro d
  induction d with
  | zero =>
    intro i hi
    refine Ev.round (f := fun _ => some true) (Ev.some_ ?_) (fun k => by simp only [laws_eqIntS.l0]; rw [if_neg (by omega)])
    rw [List.drop_of_length_le (by omega), List.drop_of_length_le (by omega)]; simp
  | succ d ih =>
    intro i hi
    by_cases he : rd a i = rd b i
    · refine (Ev.round (ih (i + 1) (by omega)) (fun k => ?_)).to ?_
      · simp only [laws_eqIntS.l0]
        rw [if_pos (by omega), if_pos (by omega), if_pos (by omega), if_pos he, w64_add (by omega) (by omega)]; simp
      · rw [drop_rd (xs := a) (i := i) (by omega), drop_rd (xs := b) (i := i) (by omega), he]; simp
    · refine (Ev.round (f := fun _ => some false) (Ev.some_ rfl) (fun k => ?_)).to ?_
      · simp only [laws_eqIntS.l0]
        rw [if_pos (by omega), if_pos (by omega), if_pos (by omega), if_neg he]
      · rw [drop_rd (xs := a) (i := i) (by omega), drop_rd (xs := b) (i := i) (by omega)]; simp [he]
theorem eqIntS_ev (a b : List Int) (hl : a.length ≤ 35184372088832) : Ev (fun k => laws_eqIntS.f k a b) (decide (a = b)) := by
  unfold laws_eqIntS.f
  by_cases h : a.length = b.length
  · exact Ev.pos (by omega) (eqIntS_l0 a b h hl a.length 0 (by omega))
  · exact (Ev.neg (by omega) (Ev.some_ rfl)).to (by simp; intro e; exact h (by rw [e]))
theorem toIntS_l0 (l : List Int) (hl : l.length ≤ 35184372088832) : ∀ (d i : Nat) (acc : List Int), i + d = l.length → acc.length = l.length → acc.take i = l.take i → Ev (fun k => laws_toIntS.l0 k l acc (i : Int)) l := by
  intro d
  induction d with
  | zero =>
    intro i acc h h1 h2
    refine Ev.round (f := fun _ => some acc) (Ev.some_ ?_) (fun k => by simp only [laws_toIntS.l0]; rw [if_neg (by omega)])
    rw [List.take_of_length_le (by omega), List.take_of_length_le (by omega)] at h2
    exact h2
  | succ d ih =>
    intro i acc h h1 h2
    have hi : i < l.length := by omega
    refine Ev.round (ih (i + 1) (acc.set i (rd l i)) (by omega) (by simp [h1]) ?_) (fun k => ?_)
    · rw [take_rd hi, ← h2]; exact take_set_end (by omega) _
    · simp only [laws_toIntS.l0]
      rw [if_pos (by omega), if_pos (by omega), if_pos (by omega), w64_add (by omega) (by omega)]
      simp
theorem toIntS_ev (l : List Int) (hl : l.length ≤ 35184372088832) : Ev (fun k => laws_toIntS.f k l) l := by
  unfold laws_toIntS.f
  refine Ev.pos (by omega) (Ev.pos (by omega) ?_)
  exact toIntS_l0 l hl l.length 0 _ (by omega) (by simp) (by simp)
theorem rdL1_nat (xs : List (List Int)) (i : Nat) (h : i < xs.length) : rd_L1 xs (i : Int) = xs[i] := by simp [rd_L1, List.getD_eq_getElem?_getD, h]
theorem rdL1_mem {xs : List (List Int)} {i : Nat} (h : i < xs.length) : rd_L1 xs (i : Int) ∈ xs := by rw [rdL1_nat xs i h]; exact List.getElem_mem h
theorem drop_rdL1 {xs : List (List Int)} {i : Nat} (h : i < xs.length) : xs.drop i = rd_L1 xs (i : Int) :: xs.drop (i + 1) := by rw [rdL1_nat xs i h]; exact List.drop_eq_getElem_cons h
theorem take_rdL1 {xs : List (List Int)} {i : Nat} (h : i < xs.length) : xs.take (i + 1) = xs.take i ++ [rd_L1 xs (i : Int)] := by rw [rdL1_nat xs i h]; exact (List.take_append_getElem h).symm
/-- How long all rows are. -/
def totL : List (List Int) → Int
  | [] => 0
  | x :: l => x.length + totL l
theorem totL_nonneg : ∀ l, 0 ≤ totL l
  | [] => by simp [totL]
  | x :: l => by have := totL_nonneg l; simp only [totL]; omega
theorem totL_mem {l : List (List Int)} {x : List Int} (h : x ∈ l) : (x.length : Int) ≤ totL l := by
  induction l with
  | nil => cases h
  | cons y l ih =>
    have := totL_nonneg l
    simp only [totL]
    rcases List.mem_cons.1 h with rfl | h
    · omega
    · have := ih h; omega
theorem toIntSS_l0 (l : List (List Int)) (hl : l.length ≤ 1048576) (hx : ∀ x ∈ l, x.length ≤ 35184372088832) : ∀ (d i : Nat) (acc : List (List Int)), i + d = l.length → acc.length = l.length → acc.take i = l.take i → Ev (fun k => laws_toIntSS.l0 k l acc (i : Int)) l := by
  intro d
  induction d with
  | zero =>
    intro i acc h h1 h2
    refine Ev.round (f := fun _ => some acc) (Ev.some_ ?_) (fun k => by simp only [laws_toIntSS.l0]; rw [if_neg (by omega)])
    rw [List.take_of_length_le (by omega), List.take_of_length_le (by omega)] at h2
    exact h2
  | succ d ih =>
    intro i acc h h1 h2
    have hi : i < l.length := by omega
    refine Ev.succ ?_
    simp only [laws_toIntSS.l0]
    refine Ev.pos (by omega) (Ev.pos (by omega) (Ev.next (toIntS_ev _ (hx _ (rdL1_mem hi))) (Ev.pos (by omega) ?_)))
    rw [w64_add (by omega) (by omega)]
    refine ih (i + 1) (acc.set i _) (by omega) (by simp [h1]) ?_
    rw [take_rdL1 hi, ← h2]; exact take_set_end (by omega) _
theorem toIntSS_ev (l : List (List Int)) (hl : l.length ≤ 1048576) (hx : ∀ x ∈ l, x.length ≤ 35184372088832) : Ev (fun k => laws_toIntSS.f k l) l := by
  unfold laws_toIntSS.f
  refine Ev.pos (by omega) (Ev.pos (by omega) ?_)
  exact toIntSS_l0 l hl hx l.length 0 _ (by omega) (by simp) (by simp)
theorem eqIntSS_l0 (a b : List (List Int)) (h : a.length = b.length) (hl : a.length ≤ 1048576) (hx : ∀ x ∈ a, x.length ≤ 35184372088832) : ∀ (d i : Nat), i + d = a.length → Ev (fun k => laws_eqIntSS.l0 k a b (i : Int)) (decide (a.drop i = b.drop i)) := by
  intro d
  induction d with
  | zero =>
    intro i hi
    refine Ev.round (f := fun _ => some true) (Ev.some_ ?_) (fun k => by simp only [laws_eqIntSS.l0]; rw [if_neg (by omega)])
    rw [List.drop_of_length_le (by omega), List.drop_of_length_le (by omega)]; simp
  | succ d ih =>
    intro i hi
    have hi1 : i < a.length := by omega
    refine Ev.succ ?_
    simp only [laws_eqIntSS.l0]
    refine Ev.pos (by omega) (Ev.pos (by omega) (Ev.pos (by omega) (Ev.next (eqIntS_ev _ _ (hx _ (rdL1_mem hi1))) ?_)))
    rw [w64_add (by omega) (by omega), drop_rdL1 (xs := a) (i := i) (by omega), drop_rdL1 (xs := b) (i := i) (by omega)]
    by_cases he : rd_L1 a i = rd_L1 b i
    · exact (Ev.pos (by simp [he]) (ih (i + 1) (by omega))).to (by simp [he])
    · exact (Ev.neg (by simp [he]) (Ev.some_ rfl)).to (by simp [he])
theorem eqIntSS_ev (a b : List (List Int)) (hl : a.length ≤ 1048576) (hx : ∀ x ∈ a, x.length ≤ 35184372088832) : Ev (fun k => laws_eqIntSS.f k a b) (decide (a = b)) := by
  unfold laws_eqIntSS.f
  by_cases h : a.length = b.length
  · exact Ev.pos (by omega) (eqIntSS_l0 a b h hl hx a.length 0 (by omega))
  · exact (Ev.neg (by omega) (Ev.some_ rfl)).to (by simp; intro e; exact h (by rw [e]))
/-- What is left of n when t are taken: -1 where there are not so many. -/
def leftB (n t : Int) : Int := if n < t then -1 else n - t
theorem leftB_lt {n t : Int} (h : n < t) : leftB n t = -1 := if_pos h
theorem leftB_ge {n t : Int} (h : ¬ n < t) : leftB n t = n - t := if_neg h
theorem leftB_two {n s t : Int} (h : ¬ n < s) (ht : 0 ≤ t) : leftB (n - s) t = leftB n (s + t) := by unfold leftB; split <;> split <;> omega
theorem szIntS_eq (x : List Int) (n : Int) (h0 : 0 ≤ n) (h1 : n ≤ 1048576) (hx : x.length ≤ maxLen) : laws_szIntS.f x n = some (leftB n x.length) := by
  unfold maxLen at hx
  unfold laws_szIntS.f leftB
  rw [w64 (by omega) (by omega)]
  by_cases h : n < x.length
  · rw [if_pos (by omega), if_pos h]
  · rw [if_neg (by omega), if_neg h]
theorem szIntSS_l0 (l : List (List Int)) (hl : l.length ≤ 1048576) (hx : ∀ x ∈ l, x.length ≤ maxLen) : ∀ (d i : Nat) (n : Int), i + d = l.length → 0 ≤ n → n ≤ 1048576 → Ev (fun k => laws_szIntSS.l0 k l n (i : Int)) (leftB n (totL (l.drop i))) := by
  intro d
  induction d with
  | zero =>
    intro i n hi h0 h1
    refine Ev.succ ?_
    simp only [laws_szIntSS.l0]
    refine Ev.neg (by omega) (Ev.some_ ?_)
    rw [List.drop_of_length_le (by omega)]; simp only [totL]; rw [leftB_ge (by omega)]; omega
  | succ d ih =>
    intro i n hi h0 h1
    have hi1 : i < l.length := by omega
    have hp := totL_nonneg (l.drop (i + 1))
    refine Ev.succ ?_
    simp only [laws_szIntSS.l0]
    rw [szIntS_eq _ n h0 h1 (hx _ (rdL1_mem hi1)), w64_add (by omega) (by omega), drop_rdL1 hi1]
    simp only [Option.bind_some, totL]
    refine Ev.pos (by omega) (Ev.pos (by omega) ?_)
    by_cases hn : n < ((rd_L1 l i).length : Int)
    · rw [leftB_lt hn, leftB_lt (by omega)]
      exact Ev.pos (by omega) (Ev.some_ rfl)
    · rw [leftB_ge hn, ← leftB_two hn hp]
      exact Ev.neg (by omega) (ih (i + 1) _ (by omega) (by omega) (by omega))
theorem szIntSS_ev (l : List (List Int)) (n : Int) (h0 : 0 ≤ n) (h1 : n ≤ 1048576) (hm : l.length ≤ maxLen) (hx : ∀ x ∈ l, x.length ≤ maxLen) : Ev (fun k => laws_szIntSS.f k l n) (leftB n (l.length + totL l)) := by
  unfold maxLen at hm
  have hp := totL_nonneg l
  unfold laws_szIntSS.f
  rw [w64 (by omega) (by omega)]
  by_cases h : n < (l.length : Int)
  · rw [leftB_lt (by omega)]; exact Ev.pos (by omega) (Ev.some_ rfl)
  · rw [← leftB_two h hp]
    exact Ev.neg (by omega) (szIntSS_l0 l (by omega) hx l.length 0 _ (by omega) (by omega) (by omega))
/-- Ascending places of 0 .. n - 1, from the i-th on. -/
def ascB (n : Int) (c : List Int) : Nat → Nat → Bool
  | 0, _ => true
  | d + 1, i => if (0 ≤ rd c i ∧ rd c i ≤ n - 1) ∧ (i = 0 ∨ rd c ((i : Int) - 1) < rd c i) then ascB n c d (i + 1) else false
def checkB (n : Int) (c : List Int) : Bool := decide (2 ≤ c.length ∧ c.length ≤ 16) && ascB n c c.length 0
def checksB (l : List (List Int)) (n : Int) : Bool := decide ((1 ≤ n ∧ n ≤ 128) ∧ l.length ≤ 64) && l.all (checkB n)
def bitOk (x : Int) : Bool := decide (x = 0 ∨ x = 1)
theorem allBits_iff {l : List Int} : l.all bitOk = true ↔ ∀ x ∈ l, x = 0 ∨ x = 1 := by simp [List.all_eq_true, bitOk]
def bitsB (l : List Int) : Bool := l.all bitOk && decide (l.length ≤ 1024)
theorem bitsB_iff {l : List Int} : bitsB l = true ↔ (∀ x ∈ l, x = 0 ∨ x = 1) ∧ l.length ≤ 1024 := by
  unfold bitsB; rw [Bool.and_eq_true, allBits_iff]; simp
def failSum (w c : List Int) (s : Int) : Int := c.foldl (fun s x => s + rd w x) s
def failsFrom (w : List Int) : List (List Int) → Int → List Int
  | [], _ => []
  | c :: cs, i => if failSum w c 0 % 2 = 1 then i :: failsFrom w cs (i + 1) else failsFrom w cs (i + 1)
def failsV (l : List (List Int)) (w : List Int) : List Int × Bool := if (bitsB w && checksB l (w.length : Int)) = true then (failsFrom w l 0, true) else ([], false)
theorem asc_bd {n : Int} {c : List Int} : ∀ (d i : Nat), ascB n c d i = true → ∀ j : Nat, i ≤ j → j < i + d → 0 ≤ rd c j ∧ rd c j ≤ n - 1 := by
  intro d
  induction d with
  | zero => intro i _ j h1 h2; omega
  | succ d ih =>
    intro i h j h1 h2
    unfold ascB at h
    split at h
    · rename_i hc
      by_cases hj : j = i
      · subst hj; exact hc.1
      · exact ih (i + 1) h j (by omega) (by omega)
    · cases h
structure ChecksIn (l : List (List Int)) (n : Int) : Prop where
  n1 : 1 ≤ n ∧ n ≤ 128
  len : l.length ≤ 64
  row : ∀ i : Nat, i < l.length → 2 ≤ (rd_L1 l i).length ∧ (rd_L1 l i).length ≤ 16
  bd : ∀ i : Nat, i < l.length → ∀ j : Nat, j < (rd_L1 l i).length → 0 ≤ rd (rd_L1 l i) j ∧ rd (rd_L1 l i) j ≤ n - 1
theorem checksIn {l : List (List Int)} {n : Int} (h : checksB l n = true) : ChecksIn l n := by
  unfold checksB at h
  rw [Bool.and_eq_true, decide_eq_true_eq, List.all_eq_true] at h
  have row : ∀ i : Nat, i < l.length → checkB n (rd_L1 l i) = true := fun i hi => h.2 _ (by
    have := drop_rdL1 hi
    exact List.mem_of_mem_drop (i := i) (by rw [this]; exact List.mem_cons_self))
  refine ⟨h.1.1, h.1.2, fun i hi => ?_, fun i hi j hj => ?_⟩
  · have := row i hi
    unfold checkB at this
    rw [Bool.and_eq_true, decide_eq_true_eq] at this
    exact this.1
  · have := row i hi
    unfold checkB at this
    rw [Bool.and_eq_true, decide_eq_true_eq] at this
    exact asc_bd _ _ this.2 j (by omega) (by omega)
theorem failSum_step {w c : List Int} {j : Nat} (hj : j < c.length) (s : Int) : failSum w (c.drop j) s = failSum w (c.drop (j + 1)) (s + rd w (rd c j)) := by
  rw [drop_rd hj]; rfl
theorem failSum_nil {w c : List Int} {j : Nat} (hj : c.length ≤ j) (s : Int) : failSum w (c.drop j) s = s := by
  rw [List.drop_of_length_le hj]; rfl
theorem failsFrom_step {w : List Int} {l : List (List Int)} {i : Nat} (hi : i < l.length) : failsFrom w (l.drop i) i = if failSum w ((rd_L1 l i).drop 0) 0 % 2 = 1 then (i : Int) :: failsFrom w (l.drop (i + 1)) ((i + 1 : Nat) : Int) else failsFrom w (l.drop (i + 1)) ((i + 1 : Nat) : Int) := by
  rw [drop_rdL1 hi]; rfl
theorem bitAt {w : List Int} (hw : ∀ x ∈ w, x = 0 ∨ x = 1) {x : Int} (h0 : 0 ≤ x) (h1 : x < w.length) : rd w x = 0 ∨ rd w x = 1 := by
  have := rd_mem (xs := w) (i := x.toNat) (by omega)
  rw [Int.toNat_of_nonneg h0] at this
  exact hw _ this
theorem xor_mod2 (s b : Int) (hb : b = 0 ∨ b = 1) : Go.bits .xor .i64 (s % 2) b = (s + b) % 2 := by
  have h : s % 2 = 0 ∨ s % 2 = 1 := by omega
  rcases h with h | h <;> rcases hb with rfl | rfl
  · rw [h, show Go.bits .xor .i64 0 0 = 0 by decide +kernel]; omega
  · rw [h, show Go.bits .xor .i64 0 1 = 1 by decide +kernel]; omega
  · rw [h, show Go.bits .xor .i64 1 0 = 1 by decide +kernel]; omega
  · rw [h, show Go.bits .xor .i64 1 1 = 0 by decide +kernel]; omega
theorem failsFrom_len (w : List Int) : ∀ (l : List (List Int)) (i : Int), (failsFrom w l i).length ≤ l.length := by
  intro l
  induction l with
  | nil => intro i; simp [failsFrom]
  | cons c l ih => intro i; simp only [failsFrom]; split <;> (simp only [List.length_cons]; have := ih (i + 1); omega)
theorem failsFrom_in (w : List Int) : ∀ (l : List (List Int)) (i : Int), ∀ x ∈ failsFrom w l i, i ≤ x ∧ x < i + l.length := by
  intro l
  induction l with
  | nil => intro i x hx; simp [failsFrom] at hx
  | cons c l ih =>
    intro i x hx
    simp only [failsFrom] at hx
    simp only [List.length_cons]
    split at hx
    · rcases List.mem_cons.1 hx with rfl | hx
      · omega
      · have := ih (i + 1) x hx; omega
    · have := ih (i + 1) x hx; omega
def maxOne2 (a b : Int) : Int := if a < b then b else a
/-- One more at each place of a check. -/
def countRow (c cs : List Int) : List Int := c.foldl (fun a x => a.set x.toNat (rd a x + 1)) cs
def countsOf (l : List (List Int)) (bad cs : List Int) : List Int := bad.foldl (fun a i => countRow (rd_L1 l i) a) cs
structure IsMax (cs : List Int) (m : Int) : Prop where
  mem : m ∈ cs
  le : ∀ x ∈ cs, x ≤ m
theorem IsMax.eq {cs : List Int} {m n : Int} (h : IsMax cs m) (g : IsMax cs n) : m = n := Int.le_antisymm (g.le _ h.mem) (h.le _ g.mem)
theorem IsMax.zeros {n : Nat} (h : 0 < n) : IsMax (List.replicate n 0) 0 := ⟨by rw [List.mem_replicate]; exact ⟨by omega, rfl⟩, fun x hx => by rw [List.mem_replicate] at hx; omega⟩
theorem set_at {cs : List Int} {j : Nat} (h : j < cs.length) (v : Int) : rd (cs.set j v) (j : Int) = v := by simp [rd, List.getD_eq_getElem?_getD, h]
theorem IsMax.set {cs : List Int} {m : Int} {j : Nat} (h : IsMax cs m) (hj : j < cs.length) : IsMax (cs.set j (rd cs j + 1)) (if rd cs j + 1 > m then rd cs j + 1 else m) := by
  split
  · rename_i hg
    refine ⟨List.mem_or_eq_of_mem_set (by have := List.getElem_mem (l := cs.set j (rd cs j + 1)) (n := j) (by simpa using hj); simpa using this) |>.elim (fun h2 => ?_) (fun _ => ?_), fun x hx => ?_⟩
    · exact List.mem_iff_getElem.2 ⟨j, by simpa using hj, by simp⟩
    · exact List.mem_iff_getElem.2 ⟨j, by simpa using hj, by simp⟩
    · rcases List.mem_or_eq_of_mem_set hx with h2 | h2
      · have := h.le x h2; omega
      · omega
  · rename_i hg
    obtain ⟨i, hi, he⟩ := List.mem_iff_getElem.1 h.mem
    have hne : i ≠ j := by
      intro e
      subst e
      rw [rd_get cs i hi] at hg
      omega
    refine ⟨List.mem_iff_getElem.2 ⟨i, by simpa using hi, by rw [List.getElem_set_ne (by omega)]; exact he⟩, fun x hx => ?_⟩
    rcases List.mem_or_eq_of_mem_set hx with h2 | h2
    · exact h.le x h2
    · omega
/-- No count is more than b, nor less than 0. -/
def InB (cs : List Int) (b : Int) : Prop := ∀ x ∈ cs, 0 ≤ x ∧ x ≤ b
theorem InB.zeros (n : Nat) : InB (List.replicate n 0) 0 := fun x hx => by rw [List.mem_replicate] at hx; omega
theorem InB.mono {cs : List Int} {b c : Int} (h : InB cs b) (hc : b ≤ c) : InB cs c := fun x hx => by have := h x hx; omega
theorem InB.set {cs : List Int} {b : Int} {j : Nat} (h : InB cs b) (hj : j < cs.length) : InB (cs.set j (rd cs j + 1)) (b + 1) := fun x hx => by
  have := h _ (rd_mem hj)
  rcases List.mem_or_eq_of_mem_set hx with h2 | h2
  · have := h x h2; omega
  · omega
theorem countRow_step {c cs : List Int} {j : Nat} (hj : j < c.length) : countRow (c.drop j) cs = countRow (c.drop (j + 1)) (cs.set (rd c j).toNat (rd cs (rd c j) + 1)) := by rw [drop_rd hj]; rfl
theorem countRow_nil {c cs : List Int} {j : Nat} (hj : c.length ≤ j) : countRow (c.drop j) cs = cs := by rw [List.drop_of_length_le hj]; rfl
theorem countsOf_step {l : List (List Int)} {b cs : List Int} {i : Nat} (hi : i < b.length) : countsOf l (b.drop i) cs = countsOf l (b.drop (i + 1)) (countRow (rd_L1 l (rd b i)) cs) := by rw [drop_rd hi]; rfl
theorem countsOf_nil {l : List (List Int)} {b cs : List Int} {i : Nat} (hi : b.length ≤ i) : countsOf l (b.drop i) cs = cs := by rw [List.drop_of_length_le hi]; rfl
/-- The bits at the places that are counted most are turned. -/
def turnA (cs : List Int) (m : Int) : List Int → Nat → List Int
  | [], _ => []
  | x :: xs, i => (if rd cs i = m then 1 - x else x) :: turnA cs m xs (i + 1)
theorem turnA_len (cs : List Int) (m : Int) : ∀ (xs : List Int) (i : Nat), (turnA cs m xs i).length = xs.length
  | [], _ => rfl
  | _ :: xs, i => by simp only [turnA, List.length_cons, turnA_len cs m xs (i + 1)]
theorem turnA_bits (cs : List Int) (m : Int) : ∀ (xs : List Int) (i : Nat), (∀ x ∈ xs, x = 0 ∨ x = 1) → ∀ x ∈ turnA cs m xs i, x = 0 ∨ x = 1
  | [], _, _ => by simp [turnA]
  | y :: xs, i, h => by
    intro x hx
    simp only [turnA, List.mem_cons] at hx
    have hy := h y (by simp)
    rcases hx with rfl | hx
    · split <;> omega
    · exact turnA_bits cs m xs (i + 1) (fun z hz => h z (by simp [hz])) x hx
def mostOf (cs : List Int) : Int := (cs.drop 1).foldl maxOne2 (rd cs 0)
theorem maxFold (xs : List Int) : ∀ (a : Int), (xs.foldl maxOne2 a = a ∨ xs.foldl maxOne2 a ∈ xs) ∧ a ≤ xs.foldl maxOne2 a ∧ ∀ x ∈ xs, x ≤ xs.foldl maxOne2 a := by
  induction xs with
  | nil => intro a; simp
  | cons y xs ih =>
    intro a
    rw [List.foldl_cons]
    obtain ⟨h1, h2, h3⟩ := ih (maxOne2 a y)
    have hm : (maxOne2 a y = a ∨ maxOne2 a y = y) ∧ a ≤ maxOne2 a y ∧ y ≤ maxOne2 a y := by unfold maxOne2; split <;> omega
    refine ⟨?_, by omega, ?_⟩
    · rcases h1 with h1 | h1
      · rcases hm.1 with h4 | h4
        · exact .inl (by omega)
        · exact .inr (by rw [h1, h4]; simp)
      · exact .inr (by simp [h1])
    · intro x hx
      rcases List.mem_cons.1 hx with rfl | hx
      · omega
      · exact h3 x hx
theorem mostOf_is {cs : List Int} (h : 0 < cs.length) : IsMax cs (mostOf cs) := by
  cases cs with
  | nil => simp at h
  | cons y xs =>
    obtain ⟨h1, h2, h3⟩ := maxFold xs y
    refine ⟨?_, fun x hx => ?_⟩
    · show xs.foldl maxOne2 y ∈ y :: xs
      rcases h1 with h1 | h1
      · rw [h1]; simp
      · simp [h1]
    · show x ≤ xs.foldl maxOne2 y
      rcases List.mem_cons.1 hx with rfl | hx
      · exact h2
      · exact h3 x hx
def turnOnce (l : List (List Int)) (w : List Int) : List Int :=
  turnA (countsOf l (failsFrom w l 0) (List.replicate w.length 0)) (mostOf (countsOf l (failsFrom w l 0) (List.replicate w.length 0))) w 0
theorem countRow_len : ∀ (c cs : List Int), (countRow c cs).length = cs.length
  | [], _ => rfl
  | x :: c, cs => by
    have := countRow_len c (cs.set x.toNat (rd cs x + 1))
    rw [List.length_set] at this
    exact this
theorem countsOf_len (l : List (List Int)) : ∀ (b cs : List Int), (countsOf l b cs).length = cs.length
  | [], _ => rfl
  | x :: b, cs => by
    have := countsOf_len l b (countRow (rd_L1 l x) cs)
    rw [countRow_len] at this
    exact this
def turnGo (l : List (List Int)) : Nat → List Int → Int → List Int × Int × Bool
  | 0, w, n => (w, n, decide ((failsFrom w l 0).length = 0))
  | d + 1, w, n => if (failsFrom w l 0).length = 0 then (w, n, true) else turnGo l d (turnOnce l w) (n + 1)
def turnV (l : List (List Int)) (w : List Int) (r : Int) : List Int × Int × Bool := if ((bitsB w && checksB l (w.length : Int)) && decide (0 ≤ r ∧ r ≤ 50)) = true then turnGo l r.toNat w 0 else ([], 0, false)
theorem l1In_eq (a b c : Int) : spec_l1In.f a b c = some (decide (b ≤ a) && decide (a ≤ c)) := by
  unfold spec_l1In.f
  by_cases h : a ≥ b
  · rw [if_pos h]; simp [show b ≤ a from h]
  · rw [if_neg h]; simp [show ¬ b ≤ a from h]
theorem sChecksOk_l (n : Int) (hn : 1 ≤ n ∧ n ≤ 128) (l : List (List Int)) (hl : l.length ≤ 64) : ∀ (d i : Nat), i + d = l.length → Ev (fun k => spec_ChecksOk.l0 k l n (i : Int)) ((l.drop i).all (checkB n)) := by
  intro d
  induction d with
  | zero =>
    intro i hi
    refine Ev.succ ?_
    simp only [spec_ChecksOk.l0]
    exact Ev.neg (by omega) (Ev.some_ (by rw [List.drop_of_length_le (by omega)]; rfl))
  | succ d ih =>
    intro i hi
    have hi1 : i < l.length := by omega
    refine Ev.succ ?_
    simp only [spec_ChecksOk.l0, l1In_eq, Option.bind_some]
    refine Ev.pos (by omega) (Ev.pos (by omega) ?_)
    rw [drop_rdL1 hi1, List.all_cons]
    by_cases h1 : 2 ≤ (rd_L1 l i).length ∧ (rd_L1 l i).length ≤ 16
    · refine Ev.pos (by simp; omega) ?_
      have e : checkB n (rd_L1 l i) = ascB n (rd_L1 l i) (rd_L1 l i).length 0 := by
        unfold checkB; rw [show decide (2 ≤ (rd_L1 l i).length ∧ (rd_L1 l i).length ≤ 16) = true by simp; omega]; rfl
      rw [e]
      have inner : ∀ (d' j : Nat), j + d' = (rd_L1 l i).length → Ev (fun k => spec_ChecksOk.l1 k l n (i : Int) (j : Int)) (ascB n (rd_L1 l i) d' j && (l.drop (i + 1)).all (checkB n)) := by
        intro d'
        induction d' with
        | zero =>
          intro j hj
          refine Ev.succ ?_
          simp only [spec_ChecksOk.l1]
          refine Ev.pos (by omega) (Ev.pos (by omega) (Ev.neg (by omega) ?_))
          rw [w64_add (by omega) (by omega)]
          exact ih (i + 1) (by omega)
        | succ d' ih' =>
          intro j hj
          refine Ev.succ ?_
          simp only [spec_ChecksOk.l1, l1In_eq, Option.bind_some]
          refine Ev.pos (by omega) (Ev.pos (by omega) (Ev.pos (by omega) (Ev.pos (by omega) ?_)))
          rw [w64_add (i := (j : Int)) (by omega) (by omega), w64 (n := n - 1) (by omega) (by omega)]
          simp only [ascB]
          by_cases h2 : 0 ≤ rd (rd_L1 l i) j ∧ rd (rd_L1 l i) j ≤ n - 1
          · refine Ev.pos (by simp; omega) ?_
            by_cases h3 : (j : Int) > 0
            · rw [w64 (by omega) (by omega)]
              refine Ev.pos h3 (Ev.pos (by omega) (Ev.pos (by omega) ?_))
              by_cases h4 : rd (rd_L1 l i) ((j : Int) - 1) ≥ rd (rd_L1 l i) j
              · rw [if_neg (by omega)]; exact Ev.pos h4 (Ev.some_ rfl)
              · rw [if_pos (by omega)]; exact Ev.neg h4 (ih' (j + 1) (by omega))
            · rw [if_pos (by omega)]; exact Ev.neg h3 (ih' (j + 1) (by omega))
          · rw [if_neg (by omega)]; exact Ev.neg (by simp; omega) (Ev.some_ rfl)
      exact inner (rd_L1 l i).length 0 (by omega)
    · refine Ev.neg (by simp; omega) (Ev.some_ ?_)
      unfold checkB; rw [show decide (2 ≤ (rd_L1 l i).length ∧ (rd_L1 l i).length ≤ 16) = false by simp; omega]; rfl
theorem sChecksOk_ev (l : List (List Int)) (n : Int) : Ev (fun k => spec_ChecksOk.f k l n) (checksB l n) := by
  have bad : Ev (fun k => spec_ChecksOk.j0 k l n true) false := by
    refine Ev.succ ?_
    simp only [spec_ChecksOk.j0]
    exact Ev.pos trivial (Ev.some_ rfl)
  unfold spec_ChecksOk.f checksB
  simp only [l1In_eq, Option.bind_some]
  by_cases h1 : 1 ≤ n ∧ n ≤ 128
  · refine Ev.pos (by simp; omega) ?_
    by_cases h3 : l.length ≤ 64
    · rw [show decide ((l.length : Int) > 64) = false by simp; omega, show decide ((1 ≤ n ∧ n ≤ 128) ∧ l.length ≤ 64) = true by simp; omega]
      refine Ev.succ ?_
      simp only [spec_ChecksOk.j0]
      exact Ev.neg (by simp) ((sChecksOk_l n (by omega) l h3 l.length 0 (by omega)).to (by simp))
    · rw [show decide ((l.length : Int) > 64) = true by simp; omega]
      exact bad.to (by rw [show decide ((1 ≤ n ∧ n ≤ 128) ∧ l.length ≤ 64) = false by simp; omega]; rfl)
  · exact Ev.neg (by simp; omega) (bad.to (by rw [show decide ((1 ≤ n ∧ n ≤ 128) ∧ l.length ≤ 64) = false by simp; omega]; rfl))
theorem sBitsOk_l0 (l : List Int) (hl : l.length ≤ 1048576) : ∀ (d i : Nat), i + d = l.length → Ev (fun k => spec_BitsOk.l0 k l (i : Int)) ((l.drop i).all bitOk && decide (l.length ≤ 1024)) := by
  intro d
  induction d with
  | zero =>
    intro i hi
    refine Ev.succ ?_
    simp only [spec_BitsOk.l0]
    rw [List.drop_of_length_le (by omega)]
    exact Ev.neg (by omega) (Ev.some_ (by simp; omega))
  | succ d ih =>
    intro i hi
    refine Ev.succ ?_
    simp only [spec_BitsOk.l0, l1In_eq, Option.bind_some]
    refine Ev.pos (by omega) (Ev.pos (by omega) ?_)
    rw [drop_rd (xs := l) (i := i) (by omega), w64_add (by omega) (by omega)]
    by_cases h1 : rd l i = 0 ∨ rd l i = 1
    · exact Ev.pos (by simp; omega) ((ih (i + 1) (by omega)).to (by simp [bitOk, h1]))
    · exact Ev.neg (by simp; omega) (Ev.some_ (by simp [bitOk, h1]))
theorem sBitsOk_ev (l : List Int) (hl : l.length ≤ 1048576) : Ev (fun k => spec_BitsOk.f k l) (bitsB l) :=
  (sBitsOk_l0 l hl l.length 0 (by omega)).to (by simp [bitsB])
theorem sFails_l (l : List (List Int)) (w : List Int) (hc : ChecksIn l w.length) (hw : ∀ x ∈ w, x = 0 ∨ x = 1) : ∀ (d i : Nat) (acc : List Int), i + d = l.length → acc.length ≤ i → Ev (fun k => spec_Fails.l0 k l w acc (i : Int)) (acc ++ failsFrom w (l.drop i) i, true) := by
  intro d
  induction d with
  | zero =>
    intro i acc hi ha
    refine Ev.succ ?_
    simp only [spec_Fails.l0]
    exact Ev.neg (by omega) (Ev.some_ (by rw [List.drop_of_length_le (by omega)]; simp [failsFrom]))
  | succ d ih =>
    intro i acc hi ha
    have hi1 : i < l.length := by omega
    have hlen := hc.len
    have hrow := hc.row i hi1
    refine Ev.succ ?_
    simp only [spec_Fails.l0]
    refine Ev.pos (by omega) ?_
    rw [failsFrom_step hi1]
    have inner : ∀ (d' j : Nat) (s : Int), j + d' = (rd_L1 l i).length → 0 ≤ s → s ≤ j → Ev (fun k => spec_Fails.l1 k l w acc (i : Int) s (j : Int)) (acc ++ (if failSum w ((rd_L1 l i).drop j) s % 2 = 1 then (i : Int) :: failsFrom w (l.drop (i + 1)) ((i + 1 : Nat) : Int) else failsFrom w (l.drop (i + 1)) ((i + 1 : Nat) : Int)), true) := by
      intro d'
      induction d' with
      | zero =>
        intro j s hj h0 h1
        refine Ev.succ ?_
        simp only [spec_Fails.l1]
        refine Ev.pos (by omega) (Ev.pos (by omega) (Ev.neg (by omega) ?_))
        rw [failSum_nil (by omega), Int.tmod_eq_emod_of_nonneg h0, w64_add (by omega) (by omega)]
        by_cases hs : s % 2 = 1
        · rw [if_pos hs]
          exact Ev.pos hs (Ev.pos (by omega) ((ih (i + 1) (acc ++ [(i : Int)]) (by omega) (by rw [List.length_append]; simp only [List.length_singleton]; omega)).to (by simp)))
        · rw [if_neg hs]
          exact Ev.neg hs (ih (i + 1) acc (by omega) (by omega))
      | succ d' ih' =>
        intro j s hj h0 h1
        have hb := hc.bd i hi1 j (by omega)
        have hv := bitAt hw hb.1 (by omega)
        refine Ev.succ ?_
        simp only [spec_Fails.l1]
        refine Ev.pos (by omega) (Ev.pos (by omega) (Ev.pos (by omega) (Ev.pos (by omega) (Ev.pos hb.1 (Ev.pos (by omega) ?_)))))
        rw [w64_add (i := (j : Int)) (by omega) (by omega), w64 (n := s + _) (by omega) (by omega), failSum_step (by omega)]
        exact ih' (j + 1) _ (by omega) (by omega) (by omega)
    exact inner (rd_L1 l i).length 0 0 (by omega) (by omega) (by omega)
theorem sFails_ev (l : List (List Int)) (w : List Int) (hw : w.length ≤ 1048576) : Ev (fun k => spec_Fails.f k l w) (failsV l w) := by
  unfold spec_Fails.f failsV
  refine Ev.next (Ev.some_ rfl) (Ev.next (sBitsOk_ev w hw) ?_)
  cases hb : bitsB w
  · refine Ev.neg (by simp) (Ev.succ ?_)
    simp only [spec_Fails.j0]
    exact Ev.pos trivial (Ev.some_ (by simp))
  · refine Ev.pos rfl (Ev.next (sChecksOk_ev l w.length) (Ev.succ ?_))
    simp only [spec_Fails.j0]
    cases hc : checksB l (w.length : Int)
    · exact Ev.pos (by simp) (Ev.some_ (by simp))
    · exact Ev.neg (by simp) ((sFails_l l w (checksIn hc) (bitsB_iff.1 hb).1 l.length 0 [] (by omega) (by simp)).to (by simp))
theorem sTurn_l3 (l : List (List Int)) (r n : Int) (cnt : List Int) (most : Int) (res : List Int × Int × Bool) (hn : cnt.length ≤ 128) : ∀ (xs A : List Int), (∀ x ∈ xs, x = 0 ∨ x = 1) → A.length + xs.length = cnt.length → Ev (fun k => (spec_Fails.f k l (A ++ turnA cnt most xs A.length)).bind fun b => spec_TurnBits.l0 k l r b.1 (A ++ turnA cnt most xs A.length) (wrap64 (n + 1))) res →
    Ev (fun k => spec_TurnBits.l3 k l r (A ++ xs) n cnt most (A.length : Int)) res := by
  intro xs
  induction xs with
  | nil =>
    intro A _ hl H
    refine Ev.succ ?_
    simp only [spec_TurnBits.l3]
    refine Ev.neg (by simp) ?_
    simp only [turnA] at H
    exact H
  | cons x xs ih =>
    intro A hb hl H
    simp only [List.length_cons] at hl
    have hx := hb x (by simp)
    refine Ev.succ ?_
    simp only [spec_TurnBits.l3]
    refine Ev.pos (by simp; omega) (Ev.pos (by omega) (Ev.pos (by omega) ?_))
    have e1 : rd (A ++ x :: xs) (A.length : Int) = x := by simp [rd, List.getD_eq_getElem?_getD]
    have e2 : ∀ v, (A ++ x :: xs).set ((A.length : Nat) : Int).toNat v = (A ++ [v]) ++ xs := fun v => by simp
    rw [w64_add (i := (A.length : Int)) (by omega) (by omega), e1]
    have next : ∀ v, (if rd cnt (A.length : Int) = most then 1 - x else x) = v → Ev (fun k => spec_TurnBits.l3 k l r ((A ++ [v]) ++ xs) n cnt most ((A.length : Int) + 1)) res := fun v hv => by
      have h1 : (A ++ [v]).length = A.length + 1 := by simp
      have := ih (A ++ [v]) (fun y hy => hb y (by simp [hy])) (by rw [h1]; omega) (by
        rw [h1]
        simp only [turnA, hv] at H
        simpa using H)
      rw [h1] at this
      exact this
    by_cases hc : rd cnt (A.length : Int) = most
    · refine Ev.pos hc ?_
      rw [e2, w64 (by omega) (by omega)]
      exact next _ (if_pos hc)
    · refine Ev.neg hc ?_
      have := next x (if_neg hc)
      simpa using this
theorem sTurn_l1 (l : List (List Int)) (r n : Int) (w bad : List Int) (res : List Int × Int × Bool) (hc : ChecksIn l w.length) (hbad : ∀ x ∈ bad, 0 ≤ x ∧ x < l.length) (hbl : bad.length ≤ 64) : ∀ (d i : Nat) (cnt : List Int) (most : Int), i + d = bad.length → cnt.length = w.length → InB cnt (16 * i) → IsMax cnt most →
    (∀ m, IsMax (countsOf l (bad.drop i) cnt) m → Ev (fun k => spec_TurnBits.l3 k l r w n (countsOf l (bad.drop i) cnt) m 0) res) → Ev (fun k => spec_TurnBits.l1 k l r bad w n cnt most (i : Int)) res := by
  intro d
  induction d with
  | zero =>
    intro i cnt most hi hl hb hm H
    refine Ev.succ ?_
    simp only [spec_TurnBits.l1]
    rw [countsOf_nil (by omega)] at H
    exact Ev.neg (by omega) (H most hm)
  | succ d ih =>
    intro i cnt most hi hl hb hm H
    have hi1 : i < bad.length := by omega
    have hx := hbad _ (rd_mem hi1)
    refine Ev.succ ?_
    simp only [spec_TurnBits.l1]
    refine Ev.pos (by omega) (Ev.pos (by omega) (Ev.pos hx.1 (Ev.pos hx.2 ?_)))
    rw [countsOf_step hi1] at H
    obtain ⟨q, hq⟩ : ∃ q : Nat, rd bad (i : Int) = (q : Int) := ⟨(rd bad (i : Int)).toNat, by omega⟩
    rw [hq] at H hx ⊢
    have hrow := hc.row q (by omega)
    have hbd := hc.bd q (by omega)
    generalize hcc : rd_L1 l (q : Int) = c at hrow hbd H ⊢
    have inner : ∀ (d' j : Nat) (cnt : List Int) (most : Int), j + d' = c.length → cnt.length = w.length → InB cnt (16 * i + j) → IsMax cnt most →
        (∀ m, IsMax (countsOf l (bad.drop (i + 1)) (countRow (c.drop j) cnt)) m → Ev (fun k => spec_TurnBits.l3 k l r w n (countsOf l (bad.drop (i + 1)) (countRow (c.drop j) cnt)) m 0) res) → Ev (fun k => spec_TurnBits.l2 k l r bad w n cnt most (i : Int) c (j : Int)) res := by
      intro d'
      induction d' with
      | zero =>
        intro j cnt most hj hl hb hm H
        refine Ev.succ ?_
        simp only [spec_TurnBits.l2]
        rw [countRow_nil (by omega)] at H
        rw [w64_add (i := (i : Int)) (by omega) (by omega)]
        exact Ev.neg (by omega) (ih (i + 1) cnt most (by omega) hl (hb.mono (by omega)) hm H)
      | succ d' ih' =>
        intro j cnt most hj hl hb hm H
        have hv := hbd j (by omega)
        obtain ⟨p, hp⟩ : ∃ p : Nat, rd c (j : Int) = (p : Int) := ⟨(rd c (j : Int)).toNat, by omega⟩
        have hpl : p < cnt.length := by omega
        have hcv := hb _ (rd_mem hpl)
        refine Ev.succ ?_
        simp only [spec_TurnBits.l2]
        refine Ev.pos (by omega) (Ev.pos (by omega) (Ev.pos hv.1 (Ev.pos (by omega) (Ev.next (Ev.some_ rfl) ?_))))
        rw [countRow_step (by omega)] at H
        rw [hp] at H ⊢
        rw [w64_add (i := (j : Int)) (by omega) (by omega), w64_add (i := rd cnt (p : Int)) (by omega) (by omega)]
        rw [show ((p : Int)).toNat = p from rfl] at H ⊢
        rw [set_at hpl]
        have hb2 : InB (cnt.set p (rd cnt (p : Int) + 1)) (16 * i + (j + 1 : Nat)) := (InB.set hb hpl).mono (by omega)
        have hm2 := IsMax.set hm hpl
        by_cases hg : rd cnt (p : Int) + 1 > most
        · rw [if_pos hg] at hm2
          exact Ev.pos hg (ih' (j + 1) _ _ (by omega) (by rw [List.length_set]; exact hl) hb2 hm2 H)
        · rw [if_neg hg] at hm2
          exact Ev.neg hg (ih' (j + 1) _ _ (by omega) (by rw [List.length_set]; exact hl) hb2 hm2 H)
    exact inner c.length 0 cnt most (by omega) hl (hb.mono (by omega)) hm H
theorem sFails_in (l : List (List Int)) (w : List Int) (hc : checksB l (w.length : Int) = true) (hw : ∀ x ∈ w, x = 0 ∨ x = 1) : Ev (fun k => spec_Fails.f k l w) (failsFrom w l 0, true) := by
  have hn := (checksIn hc).n1
  have := sFails_ev l w (by omega)
  rw [failsV, if_pos (by rw [hc, bitsB_iff.2 ⟨hw, by omega⟩]; rfl)] at this
  exact this
theorem len_nil (l : List Int) : ((l.length : Int) == 0) = decide (l.length = 0) := by
  cases l with
  | nil => rfl
  | cons x l => rw [show (((x :: l).length : Int) == 0) = false by simp; omega, show decide ((x :: l).length = 0) = false by simp]
theorem sTurn_l0 (l : List (List Int)) (N : Nat) (hcb : checksB l (N : Int) = true) (r : Int) (hr : r ≤ 50) : ∀ (d : Nat) (w : List Int) (n : Int), n + d = r → 0 ≤ n → w.length = N → (∀ x ∈ w, x = 0 ∨ x = 1) → Ev (fun k => spec_TurnBits.l0 k l r (failsFrom w l 0) w n) (turnGo l d w n) := by
  intro d
  have hc := checksIn hcb
  have hn1 := hc.n1
  induction d with
  | zero =>
    intro w n hd hn hw hb
    have fin : Ev (fun k => spec_TurnBits.j2 k l r (failsFrom w l 0) w n false) (turnGo l 0 w n) := by
      refine Ev.succ ?_
      simp only [spec_TurnBits.j2]
      exact Ev.neg (by simp) (Ev.some_ (by rw [turnGo, len_nil]))
    refine Ev.succ ?_
    simp only [spec_TurnBits.l0]
    rw [show decide (n < r) = false from decide_eq_false (by omega)]
    exact Ev.both (fun _ => fin) (fun _ => fin)
  | succ d ih =>
    intro w n hd hn hw hb
    refine Ev.succ ?_
    simp only [spec_TurnBits.l0]
    rw [show decide (n < r) = true from decide_eq_true (by omega)]
    by_cases h0 : (failsFrom w l 0).length = 0
    · refine Ev.neg (by omega) (Ev.succ ?_)
      simp only [spec_TurnBits.j2]
      exact Ev.neg (by simp) (Ev.some_ (by rw [turnGo, if_pos h0, h0]; rfl))
    · refine Ev.pos (by omega) (Ev.succ ?_)
      simp only [spec_TurnBits.j2]
      rw [turnGo, if_neg h0]
      refine Ev.pos trivial (Ev.pos (by omega) (Ev.pos (by omega) ?_))
      rw [show ((w.length : Int)).toNat = w.length from rfl]
      have hfl := failsFrom_len w l 0
      have hll := hc.len
      refine sTurn_l1 l r n w _ _ (by rw [hw]; exact hc) (fun x hx => by have := failsFrom_in w l 0 x hx; omega) (by omega) (failsFrom w l 0).length 0 _ 0 (by omega) (by simp) (InB.zeros _) (IsMax.zeros (by omega)) (fun m hm => ?_)
      rw [List.drop_zero] at hm ⊢
      have hlen : (countsOf l (failsFrom w l 0) (List.replicate w.length 0)).length = w.length := by rw [countsOf_len]; simp
      have hme : m = mostOf (countsOf l (failsFrom w l 0) (List.replicate w.length 0)) := hm.eq (mostOf_is (by omega))
      rw [turnOnce, ← hme]
      have hb2 := turnA_bits (countsOf l (failsFrom w l 0) (List.replicate w.length 0)) m w 0 hb
      have hl2 := turnA_len (countsOf l (failsFrom w l 0) (List.replicate w.length 0)) m w 0
      refine sTurn_l3 l r n _ m _ (by omega) w [] hb (by simp [hlen]) ?_
      simp only [List.nil_append, List.length_nil]
      refine Ev.next (sFails_in l _ (by rw [hl2, hw]; exact hcb) hb2) ?_
      rw [w64_add (by omega) (by omega)]
      exact ih _ (n + 1) (by omega) (by omega) (by omega) hb2
theorem sTurn_ev (l : List (List Int)) (w : List Int) (r : Int) (hw : w.length ≤ 1048576) : Ev (fun k => spec_TurnBits.f k l w r) (turnV l w r) := by
  unfold spec_TurnBits.f turnV
  have bad : ∀ b, Ev (fun k => spec_TurnBits.j0 k l w r b true) ([], 0, false) := fun b => by
    refine Ev.succ ?_
    simp only [spec_TurnBits.j0]
    exact Ev.pos trivial (Ev.some_ rfl)
  refine Ev.next (sFails_ev l w hw) ?_
  unfold failsV
  by_cases h : (bitsB w && checksB l (w.length : Int)) = true
  · rw [if_pos h, h]
    rw [Bool.and_eq_true] at h
    have hb := bitsB_iff.1 h.1
    refine Ev.pos rfl ?_
    simp only [l1In_eq, Option.bind_some]
    by_cases hr : 0 ≤ r ∧ r ≤ 50
    · rw [if_pos (by simp; omega)]
      rw [show (!(decide (0 ≤ r) && decide (r ≤ 50))) = false by simp; omega]
      refine Ev.succ ?_
      simp only [spec_TurnBits.j0]
      refine Ev.neg (by simp) (Ev.next (Ev.some_ rfl) (Ev.pos (by simp; omega) ?_))
      exact sTurn_l0 l w.length h.2 r hr.2 r.toNat w 0 (by omega) (by omega) rfl hb.1
    · rw [if_neg (by simp; omega)]
      rw [show (!(decide (0 ≤ r) && decide (r ≤ 50))) = true by simp; omega]
      exact bad _
  · rw [if_neg h, if_neg (by intro h2; rw [Bool.and_eq_true] at h2; exact h h2.1)]
    exact Ev.neg (by simp) (bad _)
theorem ifails_l (l : List (List Int)) (w : List Int) (hc : ChecksIn l w.length) (hw : ∀ x ∈ w, x = 0 ∨ x = 1) : ∀ (d i : Nat) (acc : List Int), i + d = l.length → acc.length ≤ i → Ev (fun k => impl_fails.l0 k w acc l (l.length : Int) (i : Int)) (acc ++ failsFrom w (l.drop i) i) := by
  intro d
  induction d with
  | zero =>
    intro i acc hi ha
    refine Ev.succ ?_
    simp only [impl_fails.l0]
    exact Ev.neg (by omega) (Ev.some_ (by rw [List.drop_of_length_le (by omega)]; simp [failsFrom]))
  | succ d ih =>
    intro i acc hi ha
    have hi1 : i < l.length := by omega
    have hlen := hc.len
    have hrow := hc.row i hi1
    refine Ev.succ ?_
    simp only [impl_fails.l0]
    refine Ev.pos (by omega) (Ev.pos (by omega) (Ev.pos (by omega) ?_))
    rw [failsFrom_step hi1]
    have inner : ∀ (d' j : Nat) (s e : Int), j + d' = (rd_L1 l i).length → e = s % 2 → Ev (fun k => impl_fails.l1 k w acc (i : Int) e l (l.length : Int) (i : Int) (rd_L1 l i) ((rd_L1 l i).length : Int) (j : Int)) (acc ++ (if failSum w ((rd_L1 l i).drop j) s % 2 = 1 then (i : Int) :: failsFrom w (l.drop (i + 1)) ((i + 1 : Nat) : Int) else failsFrom w (l.drop (i + 1)) ((i + 1 : Nat) : Int))) := by
      intro d'
      induction d' with
      | zero =>
        intro j s e hj he
        subst he
        refine Ev.succ ?_
        simp only [impl_fails.l1]
        refine Ev.neg (by omega) ?_
        rw [failSum_nil (by omega), w64_add (by omega) (by omega)]
        by_cases hs : s % 2 = 1
        · rw [if_pos hs]
          exact Ev.pos hs (Ev.pos (by omega) ((ih (i + 1) (acc ++ [(i : Int)]) (by omega) (by rw [List.length_append]; simp only [List.length_singleton]; omega)).to (by simp)))
        · rw [if_neg hs]
          exact Ev.neg hs (ih (i + 1) acc (by omega) (by omega))
      | succ d' ih' =>
        intro j s e hj he
        subst he
        have hb := hc.bd i hi1 j (by omega)
        have hv := bitAt hw hb.1 (by omega)
        refine Ev.succ ?_
        simp only [impl_fails.l1]
        refine Ev.pos (by omega) (Ev.pos (by omega) (Ev.pos (by omega) (Ev.pos hb.1 (Ev.pos (by omega) ?_))))
        rw [w64_add (i := (j : Int)) (by omega) (by omega), xor_mod2 s _ hv, failSum_step (by omega)]
        exact ih' (j + 1) _ _ (by omega) rfl
    exact inner (rd_L1 l i).length 0 0 0 (by omega) (by omega)
theorem ifails_ev (l : List (List Int)) (w : List Int) (hc : ChecksIn l w.length) (hw : ∀ x ∈ w, x = 0 ∨ x = 1) : Ev (fun k => impl_fails.f k l w) (failsFrom w l 0) :=
  (ifails_l l w hc hw l.length 0 [] (by omega) (by simp)).to (by simp)
theorem ascending_l0 (n : Int) (hn : 1 ≤ n ∧ n ≤ 128) (c : List Int) (hl : c.length ≤ 16) : ∀ (d i : Nat), i + d = c.length → Ev (fun k => impl_ascending.l0 k c n c (c.length : Int) (i : Int)) (ascB n c d i) := by
  intro d
  induction d with
  | zero =>
    intro i hi
    refine Ev.succ ?_
    simp only [impl_ascending.l0]
    exact Ev.neg (by omega) (Ev.some_ rfl)
  | succ d ih =>
    intro i hi
    refine Ev.succ ?_
    simp only [impl_ascending.l0]
    refine Ev.pos (by omega) (Ev.pos (by omega) (Ev.pos (by omega) ?_))
    rw [w64_add (by omega) (by omega)]
    simp only [ascB]
    by_cases h1 : rd c i < 0
    · rw [if_neg (by omega)]; exact Ev.pos h1 (Ev.some_ rfl)
    refine Ev.neg h1 ?_
    by_cases h2 : rd c i ≥ n
    · rw [if_neg (by omega)]; exact Ev.pos h2 (Ev.some_ rfl)
    refine Ev.neg h2 ?_
    by_cases h3 : (i : Int) > 0
    · rw [w64 (by omega) (by omega)]
      refine Ev.pos h3 (Ev.pos (by omega) (Ev.pos (by omega) ?_))
      by_cases h4 : rd c i ≤ rd c ((i : Int) - 1)
      · rw [if_neg (by omega)]; exact Ev.pos h4 (Ev.some_ rfl)
      · rw [if_pos (by omega)]; exact Ev.neg h4 (ih (i + 1) (by omega))
    · rw [if_pos (by omega)]; exact Ev.neg h3 (ih (i + 1) (by omega))
theorem iChecksOk_l0 (n : Int) (hn : 1 ≤ n ∧ n ≤ 128) (l : List (List Int)) (hl : l.length ≤ 64) : ∀ (d i : Nat), i + d = l.length → Ev (fun k => impl_ChecksOk.l0 k n l (l.length : Int) (i : Int)) ((l.drop i).all (checkB n)) := by
  intro d
  induction d with
  | zero =>
    intro i hi
    refine Ev.succ ?_
    simp only [impl_ChecksOk.l0]
    exact Ev.neg (by omega) (Ev.some_ (by rw [List.drop_of_length_le (by omega)]; rfl))
  | succ d ih =>
    intro i hi
    have hi1 : i < l.length := by omega
    refine Ev.succ ?_
    simp only [impl_ChecksOk.l0]
    refine Ev.pos (by omega) (Ev.pos (by omega) (Ev.pos (by omega) ?_))
    rw [w64_add (by omega) (by omega), drop_rdL1 hi1, List.all_cons]
    by_cases h1 : ((rd_L1 l i).length : Int) < 2
    · exact Ev.pos h1 (Ev.some_ (by unfold checkB; rw [show decide (2 ≤ (rd_L1 l i).length ∧ (rd_L1 l i).length ≤ 16) = false by simp; omega]; rfl))
    refine Ev.neg h1 ?_
    by_cases h2 : ((rd_L1 l i).length : Int) > 16
    · exact Ev.pos h2 (Ev.some_ (by unfold checkB; rw [show decide (2 ≤ (rd_L1 l i).length ∧ (rd_L1 l i).length ≤ 16) = false by simp; omega]; rfl))
    refine Ev.neg h2 (Ev.next (ascending_l0 n hn (rd_L1 l i) (by omega) (rd_L1 l i).length 0 (by omega)) ?_)
    have e : checkB n (rd_L1 l i) = ascB n (rd_L1 l i) (rd_L1 l i).length 0 := by
      unfold checkB; rw [show decide (2 ≤ (rd_L1 l i).length ∧ (rd_L1 l i).length ≤ 16) = true by simp; omega]; rfl
    rw [e]
    cases hb : ascB n (rd_L1 l i) (rd_L1 l i).length 0
    · exact Ev.neg (by simp) (Ev.some_ rfl)
    · exact Ev.pos rfl (ih (i + 1) (by omega))
theorem iChecksOk_ev (l : List (List Int)) (n : Int) : Ev (fun k => impl_ChecksOk.f k l n) (checksB l n) := by
  have bad : Ev (fun k => impl_ChecksOk.j0 k l n true) false := by
    refine Ev.succ ?_
    simp only [impl_ChecksOk.j0]
    exact Ev.pos trivial (Ev.some_ rfl)
  unfold impl_ChecksOk.f checksB
  by_cases h1 : n < 1
  · exact Ev.pos h1 (bad.to (by rw [show decide ((1 ≤ n ∧ n ≤ 128) ∧ l.length ≤ 64) = false by simp; omega]; rfl))
  refine Ev.neg h1 ?_
  by_cases h2 : n > 128
  · exact Ev.pos h2 (bad.to (by rw [show decide ((1 ≤ n ∧ n ≤ 128) ∧ l.length ≤ 64) = false by simp; omega]; rfl))
  refine Ev.neg h2 ?_
  by_cases h3 : l.length ≤ 64
  · rw [show decide ((l.length : Int) > 64) = false by simp; omega, show decide ((1 ≤ n ∧ n ≤ 128) ∧ l.length ≤ 64) = true by simp; omega]
    refine Ev.succ ?_
    simp only [impl_ChecksOk.j0]
    exact Ev.neg (by simp) ((iChecksOk_l0 n (by omega) l h3 l.length 0 (by omega)).to (by simp))
  · rw [show decide ((l.length : Int) > 64) = true by simp; omega]
    exact bad.to (by rw [show decide ((1 ≤ n ∧ n ≤ 128) ∧ l.length ≤ 64) = false by simp; omega]; rfl)
theorem isBit_eq (a : Int) : impl_isBit.f a = some (decide (a = 0 ∨ a = 1)) := by
  unfold impl_isBit.f
  by_cases h : a = 0
  · simp [h]
  · rw [if_neg h]; simp [h]; by_cases h1 : a = 1 <;> simp [h1]
theorem iBitsOk_l0 (l : List Int) (hl : l.length ≤ 1048576) : ∀ (d i : Nat), i + d = l.length → Ev (fun k => impl_BitsOk.l0 k l l (l.length : Int) (i : Int)) ((l.drop i).all bitOk && decide (l.length ≤ 1024)) := by
  intro d
  induction d with
  | zero =>
    intro i hi
    refine Ev.succ ?_
    simp only [impl_BitsOk.l0]
    rw [List.drop_of_length_le (by omega)]
    exact Ev.neg (by omega) (Ev.some_ (by simp; omega))
  | succ d ih =>
    intro i hi
    refine Ev.succ ?_
    simp only [impl_BitsOk.l0, isBit_eq, Option.bind_some]
    refine Ev.pos (by omega) (Ev.pos (by omega) (Ev.pos (by omega) ?_))
    rw [drop_rd (xs := l) (i := i) (by omega), w64_add (by omega) (by omega)]
    by_cases h1 : rd l i = 0 ∨ rd l i = 1
    · exact Ev.pos (by simp [h1]) ((ih (i + 1) (by omega)).to (by simp [bitOk, h1]))
    · exact Ev.neg (by simp [h1]) (Ev.some_ (by simp [bitOk, h1]))
theorem iBitsOk_ev (l : List Int) (hl : l.length ≤ 1048576) : Ev (fun k => impl_BitsOk.f k l) (bitsB l) :=
  (iBitsOk_l0 l hl l.length 0 (by omega)).to (by simp [bitsB])
theorem xor_one (b : Int) (hb : b = 0 ∨ b = 1) : Go.bits .xor .i64 b 1 = 1 - b := by
  rcases hb with rfl | rfl <;> decide +kernel
theorem iTurn_l3 (l : List (List Int)) (r n : Int) (cnt : List Int) (most : Int) (res : List Int × Int × Bool) (hn : cnt.length ≤ 128) : ∀ (xs A : List Int), (∀ x ∈ xs, x = 0 ∨ x = 1) → A.length + xs.length = cnt.length → Ev (fun k => impl_TurnBits.l0 k l r (A ++ turnA cnt most xs A.length) (wrap64 (n + 1))) res →
    Ev (fun k => impl_TurnBits.l3 k l r (A ++ xs) n cnt most (cnt.length : Int) (A.length : Int)) res := by
  intro xs
  induction xs with
  | nil =>
    intro A _ hl H
    simp only [List.length_nil] at hl
    refine Ev.succ ?_
    simp only [impl_TurnBits.l3]
    refine Ev.neg (by omega) ?_
    simp only [turnA] at H
    exact H
  | cons x xs ih =>
    intro A hb hl H
    simp only [List.length_cons] at hl
    have hx := hb x (by simp)
    refine Ev.succ ?_
    simp only [impl_TurnBits.l3]
    refine Ev.pos (by omega) (Ev.pos (by omega) (Ev.pos (by omega) ?_))
    have e1 : rd (A ++ x :: xs) (A.length : Int) = x := by simp [rd, List.getD_eq_getElem?_getD]
    have e2 : ∀ v, (A ++ x :: xs).set ((A.length : Nat) : Int).toNat v = (A ++ [v]) ++ xs := fun v => by simp
    rw [w64_add (i := (A.length : Int)) (by omega) (by omega), e1]
    have next : ∀ v, (if rd cnt (A.length : Int) = most then 1 - x else x) = v → Ev (fun k => impl_TurnBits.l3 k l r ((A ++ [v]) ++ xs) n cnt most (cnt.length : Int) ((A.length : Int) + 1)) res := fun v hv => by
      have h1 : (A ++ [v]).length = A.length + 1 := by simp
      have := ih (A ++ [v]) (fun y hy => hb y (by simp [hy])) (by rw [h1]; omega) (by
        rw [h1]
        simp only [turnA, hv] at H
        simpa using H)
      rw [h1] at this
      exact this
    by_cases hc : rd cnt (A.length : Int) = most
    · refine Ev.pos hc (Ev.pos (by simp; omega) ?_)
      rw [e2, xor_one x hx]
      exact next _ (if_pos hc)
    · refine Ev.neg hc ?_
      have := next x (if_neg hc)
      simpa using this
theorem iTurn_l1 (l : List (List Int)) (r n : Int) (w bad : List Int) (res : List Int × Int × Bool) (hc : ChecksIn l w.length) (hbad : ∀ x ∈ bad, 0 ≤ x ∧ x < l.length) (hbl : bad.length ≤ 64) : ∀ (d i : Nat) (cnt : List Int), i + d = bad.length → cnt.length = w.length → InB cnt (16 * i) →
    Ev (fun k => impl_TurnBits.l3 k l r w n (countsOf l (bad.drop i) cnt) (mostOf (countsOf l (bad.drop i) cnt)) (w.length : Int) 0) res → Ev (fun k => impl_TurnBits.l1 k l r w n bad cnt (bad.length : Int) (i : Int)) res := by
  intro d
  have hn1 := hc.n1
  induction d with
  | zero =>
    intro i cnt hi hl hb H
    refine Ev.succ ?_
    simp only [impl_TurnBits.l1]
    rw [countsOf_nil (by omega)] at H
    refine Ev.neg (by omega) (Ev.next (Ev.here (show slices_Max_int_int.f cnt = some (mostOf cnt) from if_pos (by omega))) ?_)
    rw [hl]; exact H
  | succ d ih =>
    intro i cnt hi hl hb H
    have hi1 : i < bad.length := by omega
    have hx := hbad _ (rd_mem hi1)
    refine Ev.succ ?_
    simp only [impl_TurnBits.l1]
    refine Ev.pos (by omega) (Ev.pos (by omega) (Ev.pos (by omega) (Ev.pos hx.1 (Ev.pos hx.2 ?_))))
    rw [countsOf_step hi1] at H
    obtain ⟨q, hq⟩ : ∃ q : Nat, rd bad (i : Int) = (q : Int) := ⟨(rd bad (i : Int)).toNat, by omega⟩
    rw [hq] at H hx ⊢
    have hrow := hc.row q (by omega)
    have hbd := hc.bd q (by omega)
    generalize hcc : rd_L1 l (q : Int) = c at hrow hbd H ⊢
    have inner : ∀ (d' j : Nat) (cnt : List Int), j + d' = c.length → cnt.length = w.length → InB cnt (16 * i + j) →
        Ev (fun k => impl_TurnBits.l3 k l r w n (countsOf l (bad.drop (i + 1)) (countRow (c.drop j) cnt)) (mostOf (countsOf l (bad.drop (i + 1)) (countRow (c.drop j) cnt))) (w.length : Int) 0) res → Ev (fun k => impl_TurnBits.l2 k l r w n bad cnt (bad.length : Int) (i : Int) c (c.length : Int) (j : Int)) res := by
      intro d'
      induction d' with
      | zero =>
        intro j cnt hj hl hb H
        refine Ev.succ ?_
        simp only [impl_TurnBits.l2]
        rw [countRow_nil (by omega)] at H
        rw [w64_add (i := (i : Int)) (by omega) (by omega)]
        exact Ev.neg (by omega) (ih (i + 1) cnt (by omega) hl (hb.mono (by omega)) H)
      | succ d' ih' =>
        intro j cnt hj hl hb H
        have hv := hbd j (by omega)
        obtain ⟨p, hp⟩ : ∃ p : Nat, rd c (j : Int) = (p : Int) := ⟨(rd c (j : Int)).toNat, by omega⟩
        have hpl : p < cnt.length := by omega
        have hcv := hb _ (rd_mem hpl)
        refine Ev.succ ?_
        simp only [impl_TurnBits.l2]
        refine Ev.pos (by omega) (Ev.pos (by omega) (Ev.pos (by omega) (Ev.pos hv.1 (Ev.pos (by omega) ?_))))
        rw [countRow_step (by omega)] at H
        rw [hp] at H ⊢
        rw [w64_add (i := (j : Int)) (by omega) (by omega), w64_add (i := rd cnt (p : Int)) (by omega) (by omega)]
        rw [show ((p : Int)).toNat = p from rfl] at H ⊢
        have hb2 : InB (cnt.set p (rd cnt (p : Int) + 1)) (16 * i + (j + 1 : Nat)) := (InB.set hb hpl).mono (by omega)
        exact ih' (j + 1) _ (by omega) (by rw [List.length_set]; exact hl) hb2 H
    exact inner c.length 0 cnt (by omega) hl (hb.mono (by omega)) H
theorem len_nil2 (l : List Int) : ((l.length : Int) == 0) = decide (l.length = 0) := by
  cases l with
  | nil => rfl
  | cons x l => rw [show (((x :: l).length : Int) == 0) = false by simp; omega, show decide ((x :: l).length = 0) = false by simp]
theorem iTurn_l0 (l : List (List Int)) (N : Nat) (hcb : checksB l (N : Int) = true) (r : Int) (hr : r ≤ 50) : ∀ (d : Nat) (w : List Int) (n : Int), n + d = r → 0 ≤ n → w.length = N → (∀ x ∈ w, x = 0 ∨ x = 1) → Ev (fun k => impl_TurnBits.l0 k l r w n) (turnGo l d w n) := by
  intro d
  have hc := checksIn hcb
  have hn1 := hc.n1
  induction d with
  | zero =>
    intro w n hd hn hw hb
    have fin : Ev (fun k => impl_TurnBits.j2 k l r w n (failsFrom w l 0) true) (turnGo l 0 w n) := by
      refine Ev.succ ?_
      simp only [impl_TurnBits.j2]
      exact Ev.pos trivial (Ev.some_ (by rw [turnGo, len_nil2]))
    refine Ev.succ ?_
    simp only [impl_TurnBits.l0]
    refine Ev.next (ifails_ev l w (by rw [hw]; exact hc) hb) ?_
    rw [show (n == r) = true by simp; omega]
    exact Ev.both (fun _ => fin) (fun _ => fin)
  | succ d ih =>
    intro w n hd hn hw hb
    refine Ev.succ ?_
    simp only [impl_TurnBits.l0]
    refine Ev.next (ifails_ev l w (by rw [hw]; exact hc) hb) ?_
    rw [show (n == r) = false by simp; omega]
    by_cases h0 : (failsFrom w l 0).length = 0
    · refine Ev.pos (by omega) (Ev.succ ?_)
      simp only [impl_TurnBits.j2]
      exact Ev.pos trivial (Ev.some_ (by rw [turnGo, if_pos h0, h0]; rfl))
    · refine Ev.neg (by omega) (Ev.succ ?_)
      simp only [impl_TurnBits.j2]
      rw [turnGo, if_neg h0]
      refine Ev.neg (by simp) (Ev.pos (by omega) (Ev.pos (by omega) ?_))
      rw [show ((w.length : Int)).toNat = w.length from rfl]
      have hfl := failsFrom_len w l 0
      have hll := hc.len
      refine iTurn_l1 l r n w _ _ (by rw [hw]; exact hc) (fun x hx => by have := failsFrom_in w l 0 x hx; omega) (by omega) (failsFrom w l 0).length 0 _ (by omega) (by simp) (InB.zeros _) ?_
      rw [List.drop_zero]
      have hlen : (countsOf l (failsFrom w l 0) (List.replicate w.length 0)).length = w.length := by rw [countsOf_len]; simp
      rw [turnOnce]
      generalize countsOf l (failsFrom w l 0) (List.replicate w.length 0) = cnt at hlen
      generalize mostOf cnt = m
      have hb2 := turnA_bits cnt m w 0 hb
      have hl2 := turnA_len cnt m w 0
      have := iTurn_l3 l r n cnt m (turnGo l d (turnA cnt m w 0) (n + 1)) (by omega) w [] hb (by simp [hlen]) (by
        simp only [List.nil_append, List.length_nil]
        rw [w64_add (by omega) (by omega)]
        exact ih _ (n + 1) (by omega) (by omega) (by omega) hb2)
      rw [hlen] at this
      exact this
theorem iTurn_ev (l : List (List Int)) (w : List Int) (r : Int) (hw : w.length ≤ 1048576) : Ev (fun k => impl_TurnBits.f k l w r) (turnV l w r) := by
  unfold impl_TurnBits.f turnV
  have bad : Ev (fun k => impl_TurnBits.j0 k l w r true) ([], 0, false) := by
    refine Ev.succ ?_
    simp only [impl_TurnBits.j0]
    exact Ev.pos trivial (Ev.some_ rfl)
  refine Ev.next (iBitsOk_ev w hw) ?_
  cases hbb : bitsB w
  · rw [if_neg (by simp)]; exact Ev.neg (by simp) bad
  refine Ev.pos rfl (Ev.next (iChecksOk_ev l w.length) ?_)
  cases hcb : checksB l (w.length : Int)
  · rw [if_neg (by simp)]; exact Ev.neg (by simp) bad
  refine Ev.pos rfl ?_
  have hr0 : impl_roundsOk.f r = some (decide (0 ≤ r ∧ r ≤ 50)) := by
    unfold impl_roundsOk.f
    by_cases h : r ≥ 0
    · rw [if_pos h]; simp [h]
    · rw [if_neg h]; simp; omega
  refine Ev.next (Ev.here hr0) ?_
  by_cases hr : 0 ≤ r ∧ r ≤ 50
  · rw [if_pos (by simp; omega), show (!decide (0 ≤ r ∧ r ≤ 50)) = false by simp; omega]
    refine Ev.succ ?_
    simp only [impl_TurnBits.j0]
    have hn := bitsB_iff.1 hbb
    refine Ev.neg (by simp) (Ev.next (Ev.here (show slices_Clone_int_int.f w = some w from if_pos (by omega))) ?_)
    exact iTurn_l0 l w.length hcb r hr.2 r.toNat w 0 (by omega) (by omega) rfl hn.1
  · rw [if_neg (by simp; omega), show (!decide (0 ≤ r ∧ r ≤ 50)) = true by simp; omega]
    exact bad
def iota (a : Int) : Nat → List Int
  | 0 => []
  | n + 1 => a :: iota (a + 1) n
theorem iota_length : ∀ (n : Nat) (a : Int), (iota a n).length = n
  | 0, _ => rfl
  | n + 1, a => by simp [iota, iota_length n]
theorem markIntS_l0 (m : Nat) (hm : m ≤ 1048576) : ∀ (d i : Nat) (l : List Int) (a : Int), i + d = l.length → l.length ≤ 1048576 → 0 ≤ a → a ≤ 1000000000 + i → Ev (fun k => laws_markIntS.l0 k l a (i : Int)) (a + d, l.take i ++ iota a d) := by
  intro d
  induction d with
  | zero =>
    intro i l a hi hl h0 h1
    refine Ev.succ ?_
    simp only [laws_markIntS.l0]
    refine Ev.neg (by omega) (Ev.some_ ?_)
    rw [List.take_of_length_le (by omega)]; simp [iota]
  | succ d ih =>
    intro i l a hi hl h0 h1
    refine Ev.succ ?_
    simp only [laws_markIntS.l0]
    refine Ev.pos (by omega) (Ev.pos (by omega) ?_)
    rw [w64_add (by omega) (by omega), w64_add (by omega) (by omega)]
    refine (ih (i + 1) (l.set i a) (a + 1) (by simp; omega) (by simpa using hl) (by omega) (by omega)).to ?_
    rw [take_set_end (by omega)]
    simp only [iota, List.append_assoc, List.cons_append, List.nil_append, Prod.mk.injEq, and_true]
    omega
theorem markIntS_ev (l : List Int) (a : Int) (hl : l.length ≤ 1048576) (h0 : 0 ≤ a) (h1 : a ≤ 1000000000) : Ev (fun k => laws_markIntS.f k l a) (a + l.length, iota a l.length) := by
  unfold laws_markIntS.f
  exact (markIntS_l0 l.length hl l.length 0 l a (by omega) hl h0 (by omega)).to (by simp)
theorem heldIntS_l0 (p : List Int) : ∀ (d : Nat) (a : Int) (l : List Int), l = p ++ iota a d → l.length ≤ 1048576 → ∀ i : Nat, i = p.length → 0 ≤ a → a ≤ 1000000000 + i → Ev (fun k => laws_heldIntS.l0 k l a (i : Int)) (a + d) := by
  intro d
  induction d generalizing p with
  | zero =>
    intro a l hl hn i hi h0 h1
    refine Ev.succ ?_
    simp only [laws_heldIntS.l0]
    have : l.length = p.length := by rw [hl]; simp [iota]
    exact Ev.neg (by omega) (Ev.some_ (by omega))
  | succ d ih =>
    intro a l hl hn i hi h0 h1
    have e : l.length = p.length + (d + 1) := by rw [hl]; simp [iota, iota_length]
    refine Ev.succ ?_
    simp only [laws_heldIntS.l0]
    refine Ev.pos (by omega) (Ev.pos (by omega) (Ev.pos ?_ ?_))
    · rw [rd_get l i (by omega)]
      subst hl
      rw [List.getElem_append_right (by omega)]
      simp [iota, hi]
    · rw [w64_add (by omega) (by omega), w64_add (by omega) (by omega)]
      exact (ih (p ++ [a]) (a + 1) l (by rw [hl]; simp [iota]) hn (i + 1) (by simp [hi]) (by omega) (by omega)).to (by omega)
theorem heldIntS_ev (n : Nat) (a : Int) (hn : n ≤ 1048576) (h0 : 0 ≤ a) (h1 : a ≤ 1000000000) : Ev (fun k => laws_heldIntS.f k (iota a n) a) (a + n) :=
  heldIntS_l0 [] n a (iota a n) (by simp) (by rw [iota_length]; exact hn) 0 rfl h0 (by omega)
theorem markSS_go (l : List (List Int)) : ∀ (a : Int), 0 ≤ a → a + totL l ≤ 1000000000 → (∀ x ∈ l, x.length ≤ 1048576) → Ev (fun k => laws_markIntSS.go k l a) (a + totL l) := by
  induction l with
  | nil => intro a _ _ _; exact Ev.some_ (by simp [totL])
  | cons x l ih =>
    intro a h0 h1 hx
    have hn := totL_nonneg l
    simp only [totL] at h1 ⊢
    simp only [laws_markIntSS.go]
    exact Ev.next (markIntS_ev x a (hx x (by simp)) h0 (by omega)) ((ih (a + x.length) (by omega) (by omega) (fun y hy => hx y (by simp [hy]))).to (by omega))
theorem markIntSS_ev (l : List (List Int)) (a : Int) (hl : l.length ≤ 1048576) (h0 : 0 ≤ a) (h1 : a + totL l ≤ 1000000000) (hx : ∀ x ∈ l, x.length ≤ 1048576) : Ev (fun k => laws_markIntSS.f k l a) (a + totL l) := by
  unfold laws_markIntSS.f
  exact Ev.pos (by omega) (markSS_go l a h0 h1 hx)
theorem turnGo_len (l : List (List Int)) : ∀ (d : Nat) (w : List Int) (n : Int), (turnGo l d w n).1.length = w.length
  | 0, _, _ => rfl
  | d + 1, w, n => by
    unfold turnGo
    split
    · rfl
    · rw [turnGo_len l d, turnOnce, turnA_len]
theorem turnV_len (l : List (List Int)) (w : List Int) (r : Int) : (turnV l w r).1.length ≤ w.length := by
  unfold turnV
  split
  · rw [turnGo_len]; omega
  · simp
theorem FnExactTurnBits (l0 : List (List Int)) (l1 : List Int) (a2 : Int) (m0 : l0.length ≤ maxLen) (w0 : ∀ x ∈ l0, x.length ≤ maxLen ∧ ∀ y ∈ x, (Lit.int .i64 y).wf = true) (m1 : l1.length ≤ maxLen) (w1 : ∀ x ∈ l1, (Lit.int .i64 x).wf = true) (w2 : (Lit.int .i64 a2).wf = true) : ∃ k, laws_FnExactTurnBits.f k l0 l1 a2 = some true := by
  refine Ev.rounds ?_
  unfold laws_FnExactTurnBits.f
  by_cases hl : (l1.length : Int) > 1048576
  · exact Ev.pos hl (Ev.some_ rfl)
  refine Ev.neg hl (Ev.next (szIntSS_ev l0 1048576 (by omega) (by omega) m0 (fun x hx => (w0 x hx).1)) ?_)
  have hp := totL_nonneg l0
  by_cases h : (1048576 : Int) < l0.length + totL l0
  · rw [leftB_lt h]; exact Ev.pos (by omega) (Ev.some_ rfl)
  rw [leftB_ge h]
  have hx : ∀ x ∈ l0, x.length ≤ 1048576 := fun x hx => by have := totL_mem hx; omega
  have hx2 : ∀ x ∈ l0, x.length ≤ 35184372088832 := fun x h_ => by have := hx x h_; omega
  have ht := toIntSS_ev l0 (by omega) hx2
  have ti := toIntS_ev l1 (by omega)
  have si := sTurn_ev l0 l1 a2 (by omega)
  have ii := iTurn_ev l0 l1 a2 (by omega)
  have hg : (turnV l0 l1 a2).1.length ≤ 1048576 := by have := turnV_len l0 l1 a2; omega
  have ee := eqIntS_ev (turnV l0 l1 a2).1 (turnV l0 l1 a2).1 (by omega)
  refine Ev.neg (by omega) (Ev.next ht (Ev.next ti (Ev.next si (Ev.next ht (Ev.next ti (Ev.next ii (Ev.next ee (Ev.pos (by simp) (Ev.pos (by first | rfl | trivial) ?_)))))))))
  refine Ev.succ ?_
  simp only [laws_FnExactTurnBits.j0]
  refine Ev.neg (by simp) (Ev.next ht (Ev.next (eqIntSS_ev l0 l0 (by omega) hx2) (Ev.pos (by simp) (Ev.next ti (Ev.next (eqIntS_ev l1 l1 (by omega)) (Ev.pos (by simp) (Ev.next (markIntSS_ev l0 1 (by omega) (by omega) (by omega) hx) (Ev.next (markIntS_ev l1 _ (by omega) (by omega) (by omega)) (Ev.neg (by simp only; omega) (Ev.next ee (Ev.pos (by simp) (Ev.pos (by first | rfl | trivial) ?_))))))))))))
  refine Ev.succ ?_
  simp only [laws_FnExactTurnBits.j1]
  have hh := heldIntS_ev (turnV l0 l1 a2).1.length 1 (by omega) (by omega) (by omega)
  refine Ev.neg (by simp) (Ev.next (markIntS_ev (turnV l0 l1 a2).1 1 (by omega) (by omega) (by omega)) (Ev.next hh (Ev.neg (by omega) (Ev.pos rfl (Ev.next ht (Ev.next ti (Ev.next ii (Ev.next ee (Ev.pos (by simp) (Ev.pos (by first | rfl | trivial) ?_))))))))))
  refine Ev.succ ?_
  simp only [laws_FnExactTurnBits.j2]
  exact Ev.neg (by simp) (Ev.next hh (Ev.neg (by omega) (Ev.pos rfl (Ev.some_ rfl))))
end Go.Proofs.Ytpphjbogijjnpaa.Pure
