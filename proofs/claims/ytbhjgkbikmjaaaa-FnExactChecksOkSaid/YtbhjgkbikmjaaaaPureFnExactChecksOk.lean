import Derived.Test.YtbhjgkbikmjaaaaPFnExactChecksOkx4
import Derived.Test.YtbhjgkbikmjaaaaAid
set_option linter.unusedVariables false
set_option linter.unusedSimpArgs false
namespace Go.Proofs.Ytbhjgkbikmjaaaa.Pure
open Go Go.RowKit Go.Proofs.Ytbhjgkbikmjaaaa.PFnExactChecksOk Go.Proofs.YtbhjgkbikmjaaaaW.PrintWords Go.Proofs.YtbhjgkbikmjaaaaW.PrintLast Go.Proofs.YtbhjgkbikmjaaaaW.PrintMore
theorem eqIntS_l0 (a b : List Int) (h : a.length = b.length) (hl : a.length ≤ 35184372088832) : ∀ (d i : Nat), i + d = a.length → Ev (fun k => laws_eqIntS.l0 k a b (i : Int)) (decide (a.drop i = b.drop i)) := by
  intro d
  induction d with
  | zero =>
    intro i hi
    refine Ev.round (f := fun _ => some true) (Ev.some_ ?_) (fun k => by simp only [laws_eqIntS.l0]; rw [if_neg (by omega)])
    rw [List.drop_of_length_le (by omega), List.drop_of_length_le (by omega)]; simp
  | succ d ih =>
    intro i hi
    by_cases he : rd a i = rd b i
    · refine (Ev.round (ih (i + 1) (by omega)) (fun k => ?_)).to ?_
      · simp only [laws_eqIntS.l0]
        rw [if_pos (by omega), if_pos (by omega), if_pos (by omega), if_pos he, w64_add (by omega) (by omega)]; simp
      · rw [drop_rd (xs := a) (i := i) (by omega), drop_rd (xs := b) (i := i) (by omega), he]; simp
    · refine (Ev.round (f := fun _ => some false) (Ev.some_ rfl) (fun k => ?_)).to ?_
      · simp only [laws_eqIntS.l0]
        rw [if_pos (by omega), if_pos (by omega), if_pos (by omega), if_neg he]
      · rw [drop_rd (xs := a) (i := i) (by omega), drop_rd (xs := b) (i := i) (by omega)]; simp [he]
theorem eqIntS_ev (a b : List Int) (hl : a.length ≤ 35184372088832) : Ev (fun k => laws_eqIntS.f k a b) (decide (a = b)) := by
  unfold laws_eqIntS.f
  by_cases h : a.length = b.length
  · exact Ev.pos (by omega) (eqIntS_l0 a b h hl a.length 0 (by omega))
  · exact (Ev.neg (by omega) (Ev.some_ rfl)).to (by simp; intro e; exact h (by rw [e]))
theorem toIntS_l0 (l : List Int) (hl : l.length ≤ 35184372088832) : ∀ (d i : Nat) (acc : List Int), i + d = l.length → acc.length = l.length → acc.take i = l.take i → Ev (fun k => laws_toIntS.l0 k l acc (i : Int)) l := by
  intro d
  induction d with
  | zero =>
    intro i acc h h1 h2
    refine Ev.round (f := fun _ => some acc) (Ev.some_ ?_) (fun k => by simp only [laws_toIntS.l0]; rw [if_neg (by omega)])
    rw [List.take_of_length_le (by omega), List.take_of_length_le (by omega)] at h2
    exact h2
  | succ d ih =>
    intro i acc h h1 h2
    have hi : i < l.length := by omega
    refine Ev.round (ih (i + 1) (acc.set i (rd l i)) (by omega) (by simp [h1]) ?_) (fun k => ?_)
    · rw [take_rd hi, ← h2]; exact take_set_end (by omega) _
    · simp only [laws_toIntS.l0]
      rw [if_pos (by omega), if_pos (by omega), if_pos (by omega), w64_add (by omega) (by omega)]
      simp
theorem toIntS_ev (l : List Int) (hl : l.length ≤ 35184372088832) : Ev (fun k => laws_toIntS.f k l) l := by
  unfold laws_toIntS.f
  refine Ev.pos (by omega) (Ev.pos (by omega) ?_)
  exact toIntS_l0 l hl l.length 0 _ (by omega) (by simp) (by simp)
theorem rdL1_nat (xs : List (List Int)) (i : Nat) (h : i < xs.length) : rd_L1 xs (i : Int) = xs[i] := by simp [rd_L1, List.getD_eq_getElem?_getD, h]
theorem rdL1_mem {xs : List (List Int)} {i : Nat} (h : i < xs.length) : rd_L1 xs (i : Int) ∈ xs := by rw [rdL1_nat xs i h]; exact List.getElem_mem h
theorem drop_rdL1 {xs : List (List Int)} {i : Nat} (h : i < xs.length) : xs.drop i = rd_L1 xs (i : Int) :: xs.drop (i + 1) := by rw [rdL1_nat xs i h]; exact List.drop_eq_getElem_cons h
theorem take_rdL1 {xs : List (List Int)} {i : Nat} (h : i < xs.length) : xs.take (i + 1) = xs.take i ++ [rd_L1 xs (i : Int)] := by rw [rdL1_nat xs i h]; exact (List.take_append_getElem h).symm
/-- How long all rows are. -/
def totL : List (List Int) → Int
  | [] => 0
  | x :: l => x.length + totL l
theorem totL_nonneg : ∀ l, 0 ≤ totL l
  | [] => by simp [totL]
  | x :: l => by have := totL_nonneg l; simp only [totL]; omega
theorem totL_mem {l : List (List Int)} {x : List Int} (h : x ∈ l) : (x.length : Int) ≤ totL l := by
  induction l with
  | nil => cases h
  | cons y l ih =>
    have := totL_nonneg l
    simp only [totL]
    rcases List.mem_cons.1 h with rfl | h
    · omega
    · have := ih h; omega
theorem toIntSS_l0 (l : List (List Int)) (hl : l.length ≤ 1048576) (hx : ∀ x ∈ l, x.length ≤ 35184372088832) : ∀ (d i : Nat) (acc : List (List Int)), i + d = l.length → acc.length = l.length → acc.take i = l.take i → Ev (fun k => laws_toIntSS.l0 k l acc (i : Int)) l := by
  intro d
  induction d with
  | zero =>
    intro i acc h h1 h2
    refine Ev.round (f := fun _ => some acc) (Ev.some_ ?_) (fun k => by simp only [laws_toIntSS.l0]; rw [if_neg (by omega)])
    rw [List.take_of_length_le (by omega), List.take_of_length_le (by omega)] at h2
    exact h2
  | succ d ih =>
    intro i acc h h1 h2
    have hi : i < l.length := by omega
    refine Ev.succ ?_
    simp only [laws_toIntSS.l0]
    refine Ev.pos (by omega) (Ev.pos (by omega) (Ev.next (toIntS_ev _ (hx _ (rdL1_mem hi))) (Ev.pos (by omega) ?_)))
    rw [w64_add (by omega) (by omega)]
    refine ih (i + 1) (acc.set i _) (by omega) (by simp [h1]) ?_
    rw [take_rdL1 hi, ← h2]; exact take_set_end (by omega) _
theorem toIntSS_ev (l : List (List Int)) (hl : l.length ≤ 1048576) (hx : ∀ x ∈ l, x.length ≤ 35184372088832) : Ev (fun k => laws_toIntSS.f k l) l := by
  unfold laws_toIntSS.f
  refine Ev.pos (by omega) (Ev.pos (by omega) ?_)
  exact toIntSS_l0 l hl hx l.length 0 _ (by omega) (by simp) (by simp)
theorem eqIntSS_l0 (a b : List (List Int)) (h : a.length = b.length) (hl : a.length ≤ 1048576) (hx : ∀ x ∈ a, x.length ≤ 35184372088832) : ∀ (d i : Nat), i + d = a.length → Ev (fun k => laws_eqIntSS.l0 k a b (i : Int)) (decide (a.drop i = b.drop i)) := by
  intro d
  induction d with
  | zero =>
    intro i hi
    refine Ev.round (f := fun _ => some true) (Ev.some_ ?_) (fun k => by simp only [laws_eqIntSS.l0]; rw [if_neg (by omega)])
    rw [List.drop_of_length_le (by omega), List.drop_of_length_le (by omega)]; simp
  | succ d ih =>
    intro i hi
    have hi1 : i < a.length := by omega
    refine Ev.succ ?_
    simp only [laws_eqIntSS.l0]
    refine Ev.pos (by omega) (Ev.pos (by omega) (Ev.pos (by omega) (Ev.next (eqIntS_ev _ _ (hx _ (rdL1_mem hi1))) ?_)))
    rw [w64_add (by omega) (by omega), drop_rdL1 (xs := a) (i := i) (by omega), drop_rdL1 (xs := b) (i := i) (by omega)]
    by_cases he : rd_L1 a i = rd_L1 b i
    · exact (Ev.pos (by simp [he]) (ih (i + 1) (by omega))).to (by simp [he])
    · exact (Ev.neg (by simp [he]) (Ev.some_ rfl)).to (by simp [he])
theorem eqIntSS_ev (a b : List (List Int)) (hl : a.length ≤ 1048576) (hx : ∀ x ∈ a, x.length ≤ 35184372088832) : Ev (fun k => laws_eqIntSS.f k a b) (decide (a = b)) := by
  unfold laws_eqIntSS.f
  by_cases h : a.length = b.length
  · exact Ev.pos (by omega) (eqIntSS_l0 a b h hl hx a.length 0 (by omega))
  · exact (Ev.neg (by omega) (Ev.some_ rfl)).to (by simp; intro e; exact h (by rw [e]))
/-- What is left of n when t are taken: -1 where there are not so many. -/
def leftB (n t : Int) : Int := if n < t then -1 else n - t
theorem leftB_lt {n t : Int} (h : n < t) : leftB n t = -1 := if_pos h
theorem leftB_ge {n t : Int} (h : ¬ n < t) : leftB n t = n - t := if_neg h
theorem leftB_two {n s t : Int} (h : ¬ n < s) (ht : 0 ≤ t) : leftB (n - s) t = leftB n (s + t) := by unfold leftB; split <;> split <;> omega
theorem szIntS_eq (x : List Int) (n : Int) (h0 : 0 ≤ n) (h1 : n ≤ 1048576) (hx : x.length ≤ maxLen) : laws_szIntS.f x n = some (leftB n x.length) := by
  unfold maxLen at hx
  unfold laws_szIntS.f leftB
  rw [w64 (by omega) (by omega)]
  by_cases h : n < x.length
  · rw [if_pos (by omega), if_pos h]
  · rw [if_neg (by omega), if_neg h]
theorem szIntSS_l0 (l : List (List Int)) (hl : l.length ≤ 1048576) (hx : ∀ x ∈ l, x.length ≤ maxLen) : ∀ (d i : Nat) (n : Int), i + d = l.length → 0 ≤ n → n ≤ 1048576 → Ev (fun k => laws_szIntSS.l0 k l n (i : Int)) (leftB n (totL (l.drop i))) := by
  intro d
  induction d with
  | zero =>
    intro i n hi h0 h1
    refine Ev.succ ?_
    simp only [laws_szIntSS.l0]
    refine Ev.neg (by omega) (Ev.some_ ?_)
    rw [List.drop_of_length_le (by omega)]; simp only [totL]; rw [leftB_ge (by omega)]; omega
  | succ d ih =>
    intro i n hi h0 h1
    have hi1 : i < l.length := by omega
    have hp := totL_nonneg (l.drop (i + 1))
    refine Ev.succ ?_
    simp only [laws_szIntSS.l0]
    rw [szIntS_eq _ n h0 h1 (hx _ (rdL1_mem hi1)), w64_add (by omega) (by omega), drop_rdL1 hi1]
    simp only [Option.bind_some, totL]
    refine Ev.pos (by omega) (Ev.pos (by omega) ?_)
    by_cases hn : n < ((rd_L1 l i).length : Int)
    · rw [leftB_lt hn, leftB_lt (by omega)]
      exact Ev.pos (by omega) (Ev.some_ rfl)
    · rw [leftB_ge hn, ← leftB_two hn hp]
      exact Ev.neg (by omega) (ih (i + 1) _ (by omega) (by omega) (by omega))
theorem szIntSS_ev (l : List (List Int)) (n : Int) (h0 : 0 ≤ n) (h1 : n ≤ 1048576) (hm : l.length ≤ maxLen) (hx : ∀ x ∈ l, x.length ≤ maxLen) : Ev (fun k => laws_szIntSS.f k l n) (leftB n (l.length + totL l)) := by
  unfold maxLen at hm
  have hp := totL_nonneg l
  unfold laws_szIntSS.f
  rw [w64 (by omega) (by omega)]
  by_cases h : n < (l.length : Int)
  · rw [leftB_lt (by omega)]; exact Ev.pos (by omega) (Ev.some_ rfl)
  · rw [← leftB_two h hp]
    exact Ev.neg (by omega) (szIntSS_l0 l (by omega) hx l.length 0 _ (by omega) (by omega) (by omega))
/-- Ascending places of 0 .. n - 1, from the i-th on. -/
def ascB (n : Int) (c : List Int) : Nat → Nat → Bool
  | 0, _ => true
  | d + 1, i => if (0 ≤ rd c i ∧ rd c i ≤ n - 1) ∧ (i = 0 ∨ rd c ((i : Int) - 1) < rd c i) then ascB n c d (i + 1) else false
def checkB (n : Int) (c : List Int) : Bool := decide (2 ≤ c.length ∧ c.length ≤ 16) && ascB n c c.length 0
def checksB (l : List (List Int)) (n : Int) : Bool := decide ((1 ≤ n ∧ n ≤ 128) ∧ l.length ≤ 64) && l.all (checkB n)
theorem l1In_eq (a b c : Int) : spec_l1In.f a b c = some (decide (b ≤ a) && decide (a ≤ c)) := by
  unfold spec_l1In.f
  by_cases h : a ≥ b
  · rw [if_pos h]; simp [show b ≤ a from h]
  · rw [if_neg h]; simp [show ¬ b ≤ a from h]
theorem sChecksOk_l (n : Int) (hn : 1 ≤ n ∧ n ≤ 128) (l : List (List Int)) (hl : l.length ≤ 64) : ∀ (d i : Nat), i + d = l.length → Ev (fun k => spec_ChecksOk.l0 k l n (i : Int)) ((l.drop i).all (checkB n)) := by
  intro d
  induction d with
  | zero =>
    intro i hi
    refine Ev.succ ?_
    simp only [spec_ChecksOk.l0]
    exact Ev.neg (by omega) (Ev.some_ (by rw [List.drop_of_length_le (by omega)]; rfl))
  | succ d ih =>
    intro i hi
    have hi1 : i < l.length := by omega
    refine Ev.succ ?_
    simp only [spec_ChecksOk.l0, l1In_eq, Option.bind_some]
    refine Ev.pos (by omega) (Ev.pos (by omega) ?_)
    rw [drop_rdL1 hi1, List.all_cons]
    by_cases h1 : 2 ≤ (rd_L1 l i).length ∧ (rd_L1 l i).length ≤ 16
    · refine Ev.pos (by simp; omega) ?_
      have e : checkB n (rd_L1 l i) = ascB n (rd_L1 l i) (rd_L1 l i).length 0 := by
        unfold checkB; rw [show decide (2 ≤ (rd_L1 l i).length ∧ (rd_L1 l i).length ≤ 16) = true by simp; omega]; rfl
      rw [e]
      have inner : ∀ (d' j : Nat), j + d' = (rd_L1 l i).length → Ev (fun k => spec_ChecksOk.l1 k l n (i : Int) (j : Int)) (ascB n (rd_L1 l i) d' j && (l.drop (i + 1)).all (checkB n)) := by
        intro d'
        induction d' with
        | zero =>
          intro j hj
          refine Ev.succ ?_
          simp only [spec_ChecksOk.l1]
          refine Ev.pos (by omega) (Ev.pos (by omega) (Ev.neg (by omega) ?_))
          rw [w64_add (by omega) (by omega)]
          exact ih (i + 1) (by omega)
        | succ d' ih' =>
          intro j hj
          refine Ev.succ ?_
          simp only [spec_ChecksOk.l1, l1In_eq, Option.bind_some]
          refine Ev.pos (by omega) (Ev.pos (by omega) (Ev.pos (by omega) (Ev.pos (by omega) ?_)))
          rw [w64_add (i := (j : Int)) (by omega) (by omega), w64 (n := n - 1) (by omega) (by omega)]
          simp only [ascB]
          by_cases h2 : 0 ≤ rd (rd_L1 l i) j ∧ rd (rd_L1 l i) j ≤ n - 1
          · refine Ev.pos (by simp; omega) ?_
            by_cases h3 : (j : Int) > 0
            · rw [w64 (by omega) (by omega)]
              refine Ev.pos h3 (Ev.pos (by omega) (Ev.pos (by omega) ?_))
              by_cases h4 : rd (rd_L1 l i) ((j : Int) - 1) ≥ rd (rd_L1 l i) j
              · rw [if_neg (by omega)]; exact Ev.pos h4 (Ev.some_ rfl)
              · rw [if_pos (by omega)]; exact Ev.neg h4 (ih' (j + 1) (by omega))
            · rw [if_pos (by omega)]; exact Ev.neg h3 (ih' (j + 1) (by omega))
          · rw [if_neg (by omega)]; exact Ev.neg (by simp; omega) (Ev.some_ rfl)
      exact inner (rd_L1 l i).length 0 (by omega)
    · refine Ev.neg (by simp; omega) (Ev.some_ ?_)
      unfold checkB; rw [show decide (2 ≤ (rd_L1 l i).length ∧ (rd_L1 l i).length ≤ 16) = false by simp; omega]; rfl
theorem sChecksOk_ev (l : List (List Int)) (n : Int) : Ev (fun k => spec_ChecksOk.f k l n) (checksB l n) := by
  have bad : Ev (fun k => spec_ChecksOk.j0 k l n true) false := by
    refine Ev.succ ?_
    simp only [spec_ChecksOk.j0]
    exact Ev.pos trivial (Ev.some_ rfl)
  unfold spec_ChecksOk.f checksB
  simp only [l1In_eq, Option.bind_some]
  by_cases h1 : 1 ≤ n ∧ n ≤ 128
  · refine Ev.pos (by simp; omega) ?_
    by_cases h3 : l.length ≤ 64
    · rw [show decide ((l.length : Int) > 64) = false by simp; omega, show decide ((1 ≤ n ∧ n ≤ 128) ∧ l.length ≤ 64) = true by simp; omega]
      refine Ev.succ ?_
      simp only [spec_ChecksOk.j0]
      exact Ev.neg (by simp) ((sChecksOk_l n (by omega) l h3 l.length 0 (by omega)).to (by simp))
    · rw [show decide ((l.length : Int) > 64) = true by simp; omega]
      exact bad.to (by rw [show decide ((1 ≤ n ∧ n ≤ 128) ∧ l.length ≤ 64) = false by simp; omega]; rfl)
  · exact Ev.neg (by simp; omega) (bad.to (by rw [show decide ((1 ≤ n ∧ n ≤ 128) ∧ l.length ≤ 64) = false by simp; omega]; rfl))
theorem ascending_l0 (n : Int) (hn : 1 ≤ n ∧ n ≤ 128) (c : List Int) (hl : c.length ≤ 16) : ∀ (d i : Nat), i + d = c.length → Ev (fun k => impl_ascending.l0 k c n c (c.length : Int) (i : Int)) (ascB n c d i) := by
  intro d
  induction d with
  | zero =>
    intro i hi
    refine Ev.succ ?_
    simp only [impl_ascending.l0]
    exact Ev.neg (by omega) (Ev.some_ rfl)
  | succ d ih =>
    intro i hi
    refine Ev.succ ?_
    simp only [impl_ascending.l0]
    refine Ev.pos (by omega) (Ev.pos (by omega) (Ev.pos (by omega) ?_))
    rw [w64_add (by omega) (by omega)]
    simp only [ascB]
    by_cases h1 : rd c i < 0
    · rw [if_neg (by omega)]; exact Ev.pos h1 (Ev.some_ rfl)
    refine Ev.neg h1 ?_
    by_cases h2 : rd c i ≥ n
    · rw [if_neg (by omega)]; exact Ev.pos h2 (Ev.some_ rfl)
    refine Ev.neg h2 ?_
    by_cases h3 : (i : Int) > 0
    · rw [w64 (by omega) (by omega)]
      refine Ev.pos h3 (Ev.pos (by omega) (Ev.pos (by omega) ?_))
      by_cases h4 : rd c i ≤ rd c ((i : Int) - 1)
      · rw [if_neg (by omega)]; exact Ev.pos h4 (Ev.some_ rfl)
      · rw [if_pos (by omega)]; exact Ev.neg h4 (ih (i + 1) (by omega))
    · rw [if_pos (by omega)]; exact Ev.neg h3 (ih (i + 1) (by omega))
theorem iChecksOk_l0 (n : Int) (hn : 1 ≤ n ∧ n ≤ 128) (l : List (List Int)) (hl : l.length ≤ 64) : ∀ (d i : Nat), i + d = l.length → Ev (fun k => impl_ChecksOk.l0 k n l (l.length : Int) (i : Int)) ((l.drop i).all (checkB n)) := by
  intro d
  induction d with
  | zero =>
    intro i hi
    refine Ev.succ ?_
    simp only [impl_ChecksOk.l0]
    exact Ev.neg (by omega) (Ev.some_ (by rw [List.drop_of_length_le (by omega)]; rfl))
  | succ d ih =>
    intro i hi
    have hi1 : i < l.length := by omega
    refine Ev.succ ?_
    simp only [impl_ChecksOk.l0]
    refine Ev.pos (by omega) (Ev.pos (by omega) (Ev.pos (by omega) ?_))
    rw [w64_add (by omega) (by omega), drop_rdL1 hi1, List.all_cons]
    by_cases h1 : ((rd_L1 l i).length : Int) < 2
    · exact Ev.pos h1 (Ev.some_ (by unfold checkB; rw [show decide (2 ≤ (rd_L1 l i).length ∧ (rd_L1 l i).length ≤ 16) = false by simp; omega]; rfl))
    refine Ev.neg h1 ?_
    by_cases h2 : ((rd_L1 l i).length : Int) > 16
    · exact Ev.pos h2 (Ev.some_ (by unfold checkB; rw [show decide (2 ≤ (rd_L1 l i).length ∧ (rd_L1 l i).length ≤ 16) = false by simp; omega]; rfl))
    refine Ev.neg h2 (Ev.next (ascending_l0 n hn (rd_L1 l i) (by omega) (rd_L1 l i).length 0 (by omega)) ?_)
    have e : checkB n (rd_L1 l i) = ascB n (rd_L1 l i) (rd_L1 l i).length 0 := by
      unfold checkB; rw [show decide (2 ≤ (rd_L1 l i).length ∧ (rd_L1 l i).length ≤ 16) = true by simp; omega]; rfl
    rw [e]
    cases hb : ascB n (rd_L1 l i) (rd_L1 l i).length 0
    · exact Ev.neg (by simp) (Ev.some_ rfl)
    · exact Ev.pos rfl (ih (i + 1) (by omega))
theorem iChecksOk_ev (l : List (List Int)) (n : Int) : Ev (fun k => impl_ChecksOk.f k l n) (checksB l n) := by
  have bad : Ev (fun k => impl_ChecksOk.j0 k l n true) false := by
    refine Ev.succ ?_
    simp only [impl_ChecksOk.j0]
    exact Ev.pos trivial (Ev.some_ rfl)
  unfold impl_ChecksOk.f checksB
  by_cases h1 : n < 1
  · exact Ev.pos h1 (bad.to (by rw [show decide ((1 ≤ n ∧ n ≤ 128) ∧ l.length ≤ 64) = false by simp; omega]; rfl))
  refine Ev.neg h1 ?_
  by_cases h2 : n > 128
  · exact Ev.pos h2 (bad.to (by rw [show decide ((1 ≤ n ∧ n ≤ 128) ∧ l.length ≤ 64) = false by simp; omega]; rfl))
  refine Ev.neg h2 ?_
  by_cases h3 : l.length ≤ 64
  · rw [show decide ((l.length : Int) > 64) = false by simp; omega, show decide ((1 ≤ n ∧ n ≤ 128) ∧ l.length ≤ 64) = true by simp; omega]
    refine Ev.succ ?_
    simp only [impl_ChecksOk.j0]
    exact Ev.neg (by simp) ((iChecksOk_l0 n (by omega) l h3 l.length 0 (by omega)).to (by simp))
  · rw [show decide ((l.length : Int) > 64) = true by simp; omega]
    exact bad.to (by rw [show decide ((1 ≤ n ∧ n ≤ 128) ∧ l.length ≤ 64) = false by simp; omega]; rfl)
theorem FnExactChecksOk (l0 : List (List Int)) (a1 : Int) (m0 : l0.length ≤ maxLen) (w0 : ∀ x ∈ l0, x.length ≤ maxLen ∧ ∀ y ∈ x, (Lit.int .i64 y).wf = true) (w1 : (Lit.int .i64 a1).wf = true) : ∃ k, laws_FnExactChecksOk.f k l0 a1 = some true := by
  refine Ev.rounds ?_
  unfold laws_FnExactChecksOk.f
  refine Ev.next (szIntSS_ev l0 1048576 (by omega) (by omega) m0 (fun x hx => (w0 x hx).1)) ?_
  have hp := totL_nonneg l0
  by_cases h : (1048576 : Int) < l0.length + totL l0
  · rw [leftB_lt h]; exact Ev.pos (by omega) (Ev.some_ rfl)
  · rw [leftB_ge h]
    have hx : ∀ x ∈ l0, x.length ≤ 35184372088832 := fun x hx => by have := totL_mem hx; omega
    have ht := toIntSS_ev l0 (by omega) hx
    exact Ev.neg (by omega) (Ev.next ht (Ev.next (sChecksOk_ev l0 a1) (Ev.next ht (Ev.next (iChecksOk_ev l0 a1) (Ev.neg (by simp) (Ev.next ht (Ev.next (eqIntSS_ev l0 l0 (by omega) hx) (Ev.pos (by simp) (Ev.some_ rfl)))))))))
end Go.Proofs.Ytbhjgkbikmjaaaa.Pure
