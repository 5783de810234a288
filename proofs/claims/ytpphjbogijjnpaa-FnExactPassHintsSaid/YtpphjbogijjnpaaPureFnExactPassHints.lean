import Derived.Test.YtpphjbogijjnpaaPFnExactPassHintsx9
import Derived.Test.YtpphjbogijjnpaaAidV
set_option linter.unusedVariables false
set_option linter.unusedSimpArgs false
namespace Go.Proofs.Ytpphjbogijjnpaa.Pure
open Go Go.RowKit Go.Proofs.Ytpphjbogijjnpaa.PFnExactPassHints Go.Proofs.YtpphjbogijjnpaaW.PrintWords Go.Proofs.YtpphjbogijjnpaaW.PrintLast Go.Proofs.YtpphjbogijjnpaaW.PrintMore
theorem eqIntS_l0 (a b : List Int) (h : a.length = b.length) (hl : a.length ≤ 35184372088832) : ∀ (d i : Nat), i + d = a.length → Ev (fun k => laws_eqIntS.l0 k a b (i : Int)) (decide (a.drop i = b.drop i)) := by
 intro d
 induction d with
 | zero =>
  intro i hi
  refine Ev.round (f := fun _ => some true) (Ev.some_ ?_) (fun k => by simp only [laws_eqIntS.l0]; rw [if_neg (by omega)])
  rw [List.drop_of_length_le (by omega), List.drop_of_length_le (by omega)]; simp
 | succ d ih =>
  intro i hi
  by_cases he : rd a i = rd b i
  case neg =>
   refine (Ev.round (f := fun _ => some false) (Ev.some_ rfl) (fun k => ?_)).to ?_
   ·simp only [laws_eqIntS.l0]
    rw [if_pos (by omega), if_pos (by omega), if_pos (by omega), if_neg he]
   ·rw [drop_rd (xs := a) (i := i) (by omega), drop_rd (xs := b) (i := i) (by omega)]; simp [he]
  refine (Ev.round (ih (i + 1) (by omega)) (fun k => ?_)).to ?_
  ·simp only [laws_eqIntS.l0]
   rw [if_pos (by omega), if_pos (by omega), if_pos (by omega), if_pos he, w64_add (by omega) (by omega)]; simp
  ·rw [drop_rd (xs := a) (i := i) (by omega), drop_rd (xs := b) (i := i) (by omega), he]; simp
theorem eqIntS_ev (a b : List Int) (hl : a.length ≤ 35184372088832) : Ev (fun k => laws_eqIntS.f k a b) (decide (a = b)) := by
 unfold laws_eqIntS.f
 by_cases h : a.length = b.length
 case pos => exact Ev.pos (by omega) (eqIntS_l0 a b h hl a.length 0 (by omega))
 exact (Ev.neg (by omega) (Ev.some_ rfl)).to (by simp; intro e; exact h (by rw [e]))
theorem toIntS_l0 (l : List Int) (hl : l.length ≤ 35184372088832) : ∀ (d i : Nat) (acc : List Int), i + d = l.length → acc.length = l.length → acc.take i = l.take i → Ev (fun k => laws_toIntS.l0 k l acc (i : Int)) l := by
 intro d
 induction d with
 | zero =>
  intro i acc h h1 h2
  refine Ev.round (f := fun _ => some acc) (Ev.some_ ?_) (fun k => by simp only [laws_toIntS.l0]; rw [if_neg (by omega)])
  rw [List.take_of_length_le (by omega), List.take_of_length_le (by omega)] at h2
  exact h2
 | succ d ih =>
  intro i acc h h1 h2
  have hi : i < l.length := by omega
  refine Ev.round (ih (i + 1) (acc.set i (rd l i)) (by omega) (by simp [h1]) ?_) (fun k => ?_)
  ·rw [take_rd hi, ← h2]; exact take_set_end (by omega) _
  ·simp only [laws_toIntS.l0]
   rw [if_pos (by omega), if_pos (by omega), if_pos (by omega), w64_add (by omega) (by omega)]
   simp
theorem toIntS_ev (l : List Int) (hl : l.length ≤ 35184372088832) : Ev (fun k => laws_toIntS.f k l) l := by
 unfold laws_toIntS.f
 refine Ev.pos (by omega) (Ev.pos (by omega) ?_)
 exact toIntS_l0 l hl l.length 0 _ (by omega) (by simp) (by simp)
theorem rdL1_nat (xs : List (List Int)) (i : Nat) (h : i < xs.length) : rd_L1 xs (i : Int) = xs[i] := by simp [rd_L1, List.getD_eq_getElem?_getD, h]
theorem rdL1_mem {xs : List (List Int)} {i : Nat} (h : i < xs.length) : rd_L1 xs (i : Int) ∈ xs := by rw [rdL1_nat xs i h]; exact List.getElem_mem h
theorem drop_rdL1 {xs : List (List Int)} {i : Nat} (h : i < xs.length) : xs.drop i = rd_L1 xs (i : Int) :: xs.drop (i + 1) := by rw [rdL1_nat xs i h]; exact List.drop_eq_getElem_cons h
theorem take_rdL1 {xs : List (List Int)} {i : Nat} (h : i < xs.length) : xs.take (i + 1) = xs.take i ++ [rd_L1 xs (i : Int)] := by rw [rdL1_nat xs i h]; exact (List.take_append_getElem h).symm
/-- How long all rows are. -/
def totL : List (List Int) → Int
 | [] => 0
 | x :: l => x.length + totL l
theorem totL_nonneg : ∀ l, 0 ≤ totL l
 | [] => by simp [totL]
 | x :: l => by have := totL_nonneg l; simp only [totL]; omega
theorem totL_mem {l : List (List Int)} {x : List Int} (h : x ∈ l) : (x.length : Int) ≤ totL l := by
 induction l with
 | nil => cases h
 | cons y l ih =>
  have := totL_nonneg l
  simp only [totL]
  rcases List.mem_cons.1 h with rfl | h
  ·omega
  ·have := ih h; omega
theorem toIntSS_l0 (l : List (List Int)) (hl : l.length ≤ 1048576) (hx : ∀ x ∈ l, x.length ≤ 35184372088832) : ∀ (d i : Nat) (acc : List (List Int)), i + d = l.length → acc.length = l.length → acc.take i = l.take i → Ev (fun k => laws_toIntSS.l0 k l acc (i : Int)) l := by
 intro d
 induction d with
 | zero =>
  intro i acc h h1 h2
  refine Ev.round (f := fun _ => some acc) (Ev.some_ ?_) (fun k => by simp only [laws_toIntSS.l0]; rw [if_neg (by omega)])
  rw [List.take_of_length_le (by omega), List.take_of_length_le (by omega)] at h2
  exact h2
 | succ d ih =>
  intro i acc h h1 h2
  have hi : i < l.length := by omega
  refine Ev.succ ?_
  simp only [laws_toIntSS.l0]
  refine Ev.pos (by omega) (Ev.pos (by omega) (Ev.next (toIntS_ev _ (hx _ (rdL1_mem hi))) (Ev.pos (by omega) ?_)))
  rw [w64_add (by omega) (by omega)]
  refine ih (i + 1) (acc.set i _) (by omega) (by simp [h1]) ?_
  rw [take_rdL1 hi, ← h2]; exact take_set_end (by omega) _
theorem toIntSS_ev (l : List (List Int)) (hl : l.length ≤ 1048576) (hx : ∀ x ∈ l, x.length ≤ 35184372088832) : Ev (fun k => laws_toIntSS.f k l) l := by
 unfold laws_toIntSS.f
 refine Ev.pos (by omega) (Ev.pos (by omega) ?_)
 exact toIntSS_l0 l hl hx l.length 0 _ (by omega) (by simp) (by simp)
theorem eqIntSS_l0 (a b : List (List Int)) (h : a.length = b.length) (hl : a.length ≤ 1048576) (hx : ∀ x ∈ a, x.length ≤ 35184372088832) : ∀ (d i : Nat), i + d = a.length → Ev (fun k => laws_eqIntSS.l0 k a b (i : Int)) (decide (a.drop i = b.drop i)) := by
 intro d
 induction d with
 | zero =>
  intro i hi
  refine Ev.round (f := fun _ => some true) (Ev.some_ ?_) (fun k => by simp only [laws_eqIntSS.l0]; rw [if_neg (by omega)])
  rw [List.drop_of_length_le (by omega), List.drop_of_length_le (by omega)]; simp
 | succ d ih =>
  intro i hi
  have hi1 : i < a.length := by omega
  refine Ev.succ ?_
  simp only [laws_eqIntSS.l0]
  refine Ev.pos (by omega) (Ev.pos (by omega) (Ev.pos (by omega) (Ev.next (eqIntS_ev _ _ (hx _ (rdL1_mem hi1))) ?_)))
  rw [w64_add (by omega) (by omega), drop_rdL1 (xs := a) (i := i) (by omega), drop_rdL1 (xs := b) (i := i) (by omega)]
  by_cases he : rd_L1 a i = rd_L1 b i
  case neg => exact (Ev.neg (by simp [he]) (Ev.some_ rfl)).to (by simp [he])
  exact (Ev.pos (by simp [he]) (ih (i + 1) (by omega))).to (by simp [he])
theorem eqIntSS_ev (a b : List (List Int)) (hl : a.length ≤ 1048576) (hx : ∀ x ∈ a, x.length ≤ 35184372088832) : Ev (fun k => laws_eqIntSS.f k a b) (decide (a = b)) := by
 unfold laws_eqIntSS.f
 by_cases h : a.length = b.length
 case pos => exact Ev.pos (by omega) (eqIntSS_l0 a b h hl hx a.length 0 (by omega))
 exact (Ev.neg (by omega) (Ev.some_ rfl)).to (by simp; intro e; exact h (by rw [e]))
/-- What is left of n when t are taken: -1 where there are not so many. -/
def leftB (n t : Int) : Int := if n < t then -1 else n - t
theorem leftB_lt {n t : Int} (h : n < t) : leftB n t = -1 := if_pos h
theorem leftB_ge {n t : Int} (h : ¬ n < t) : leftB n t = n - t := if_neg h
theorem leftB_two {n s t : Int} (h : ¬ n < s) (ht : 0 ≤ t) : leftB (n - s) t = leftB n (s + t) := by unfold leftB; split <;> split <;> omega
theorem szIntS_eq (x : List Int) (n : Int) (h0 : 0 ≤ n) (h1 : n ≤ 1048576) (hx : x.length ≤ maxLen) : laws_szIntS.f x n = some (leftB n x.length) := by
 unfold maxLen at hx
 unfold laws_szIntS.f leftB
 rw [w64 (by omega) (by omega)]
 by_cases h : n < x.length
 case neg => rw [if_neg (by omega), if_neg h]
 rw [if_pos (by omega), if_pos h]
theorem szIntSS_l0 (l : List (List Int)) (hl : l.length ≤ 1048576) (hx : ∀ x ∈ l, x.length ≤ maxLen) : ∀ (d i : Nat) (n : Int), i + d = l.length → 0 ≤ n → n ≤ 1048576 → Ev (fun k => laws_szIntSS.l0 k l n (i : Int)) (leftB n (totL (l.drop i))) := by
 intro d
 induction d with
 | zero =>
  intro i n hi h0 h1
  refine Ev.succ ?_
  simp only [laws_szIntSS.l0]
  refine Ev.neg (by omega) (Ev.some_ ?_)
  rw [List.drop_of_length_le (by omega)]; simp only [totL]; rw [leftB_ge (by omega)]; omega
 | succ d ih =>
  intro i n hi h0 h1
  have hi1 : i < l.length := by omega
  have hp := totL_nonneg (l.drop (i + 1))
  refine Ev.succ ?_
  simp only [laws_szIntSS.l0]
  rw [szIntS_eq _ n h0 h1 (hx _ (rdL1_mem hi1)), w64_add (by omega) (by omega), drop_rdL1 hi1]
  simp only [Option.bind_some, totL]
  refine Ev.pos (by omega) (Ev.pos (by omega) ?_)
  by_cases hn : n < ((rd_L1 l i).length : Int)
  case pos =>
   rw [leftB_lt hn, leftB_lt (by omega)]
   exact Ev.pos (by omega) (Ev.some_ rfl)
  rw [leftB_ge hn, ← leftB_two hn hp]
  exact Ev.neg (by omega) (ih (i + 1) _ (by omega) (by omega) (by omega))
theorem szIntSS_ev (l : List (List Int)) (n : Int) (h0 : 0 ≤ n) (h1 : n ≤ 1048576) (hm : l.length ≤ maxLen) (hx : ∀ x ∈ l, x.length ≤ maxLen) : Ev (fun k => laws_szIntSS.f k l n) (leftB n (l.length + totL l)) := by
 unfold maxLen at hm
 have hp := totL_nonneg l
 unfold laws_szIntSS.f
 rw [w64 (by omega) (by omega)]
 by_cases h : n < (l.length : Int)
 case pos => rw [leftB_lt (by omega)]; exact Ev.pos (by omega) (Ev.some_ rfl)
 rw [← leftB_two h hp]
 exact Ev.neg (by omega) (szIntSS_l0 l (by omega) hx l.length 0 _ (by omega) (by omega) (by omega))
/-- Ascending places of 0 .. n - 1, from the i-th on. -/
def ascB (n : Int) (c : List Int) : Nat → Nat → Bool
 | 0, _ => true
 | d + 1, i => if (0 ≤ rd c i ∧ rd c i ≤ n - 1) ∧ (i = 0 ∨ rd c ((i : Int) - 1) < rd c i) then ascB n c d (i + 1) else false
def checkB (n : Int) (c : List Int) : Bool := decide (2 ≤ c.length ∧ c.length ≤ 16) && ascB n c c.length 0
def checksB (l : List (List Int)) (n : Int) : Bool := decide ((1 ≤ n ∧ n ≤ 128) ∧ l.length ≤ 64) && l.all (checkB n)
def bitOk (x : Int) : Bool := decide (x = 0 ∨ x = 1)
theorem allBits_iff {l : List Int} : l.all bitOk = true ↔ ∀ x ∈ l, x = 0 ∨ x = 1 := by simp [List.all_eq_true, bitOk]
def bitsB (l : List Int) : Bool := l.all bitOk && decide (l.length ≤ 1024)
theorem bitsB_iff {l : List Int} : bitsB l = true ↔ (∀ x ∈ l, x = 0 ∨ x = 1) ∧ l.length ≤ 1024 := by
 unfold bitsB; rw [Bool.and_eq_true, allBits_iff]; simp
def failSum (w c : List Int) (s : Int) : Int := c.foldl (fun s x => s + rd w x) s
def failsFrom (w : List Int) : List (List Int) → Int → List Int
 | [], _ => []
 | c :: cs, i => if failSum w c 0 % 2 = 1 then i :: failsFrom w cs (i + 1) else failsFrom w cs (i + 1)
def failsV (l : List (List Int)) (w : List Int) : List Int × Bool := if (bitsB w && checksB l (w.length : Int)) = true then (failsFrom w l 0, true) else ([], false)
theorem asc_bd {n : Int} {c : List Int} : ∀ (d i : Nat), ascB n c d i = true → ∀ j : Nat, i ≤ j → j < i + d → 0 ≤ rd c j ∧ rd c j ≤ n - 1 := by
 intro d
 induction d with
 | zero => intro i _ j h1 h2; omega
 | succ d ih =>
  intro i h j h1 h2
  unfold ascB at h
  split at h
  ·rename_i hc
   by_cases hj : j = i
   case pos => subst hj; exact hc.1
   exact ih (i + 1) h j (by omega) (by omega)
  ·cases h
structure ChecksIn (l : List (List Int)) (n : Int) : Prop where
  n1 : 1 ≤ n ∧ n ≤ 128
  len : l.length ≤ 64
  row : ∀ i : Nat, i < l.length → 2 ≤ (rd_L1 l i).length ∧ (rd_L1 l i).length ≤ 16
  bd : ∀ i : Nat, i < l.length → ∀ j : Nat, j < (rd_L1 l i).length → 0 ≤ rd (rd_L1 l i) j ∧ rd (rd_L1 l i) j ≤ n - 1
theorem checksIn {l : List (List Int)} {n : Int} (h : checksB l n = true) : ChecksIn l n := by
 unfold checksB at h
 rw [Bool.and_eq_true, decide_eq_true_eq, List.all_eq_true] at h
 have row : ∀ i : Nat, i < l.length → checkB n (rd_L1 l i) = true := fun i hi => h.2 _ (by
  have := drop_rdL1 hi
  exact List.mem_of_mem_drop (i := i) (by rw [this]; exact List.mem_cons_self))
 refine ⟨h.1.1, h.1.2, fun i hi => ?_, fun i hi j hj => ?_⟩
 ·have := row i hi
  unfold checkB at this
  rw [Bool.and_eq_true, decide_eq_true_eq] at this
  exact this.1
 ·have := row i hi
  unfold checkB at this
  rw [Bool.and_eq_true, decide_eq_true_eq] at this
  exact asc_bd _ _ this.2 j (by omega) (by omega)
theorem failSum_step {w c : List Int} {j : Nat} (hj : j < c.length) (s : Int) : failSum w (c.drop j) s = failSum w (c.drop (j + 1)) (s + rd w (rd c j)) := by
 rw [drop_rd hj]; rfl
theorem failSum_nil {w c : List Int} {j : Nat} (hj : c.length ≤ j) (s : Int) : failSum w (c.drop j) s = s := by
 rw [List.drop_of_length_le hj]; rfl
theorem failsFrom_step {w : List Int} {l : List (List Int)} {i : Nat} (hi : i < l.length) : failsFrom w (l.drop i) i = if failSum w ((rd_L1 l i).drop 0) 0 % 2 = 1 then (i : Int) :: failsFrom w (l.drop (i + 1)) ((i + 1 : Nat) : Int) else failsFrom w (l.drop (i + 1)) ((i + 1 : Nat) : Int) := by
 rw [drop_rdL1 hi]; rfl
theorem bitAt {w : List Int} (hw : ∀ x ∈ w, x = 0 ∨ x = 1) {x : Int} (h0 : 0 ≤ x) (h1 : x < w.length) : rd w x = 0 ∨ rd w x = 1 := by
 have := rd_mem (xs := w) (i := x.toNat) (by omega)
 rw [Int.toNat_of_nonneg h0] at this
 exact hw _ this
theorem xor_mod2 (s b : Int) (hb : b = 0 ∨ b = 1) : Go.bits .xor .i64 (s % 2) b = (s + b) % 2 := by
 have h : s % 2 = 0 ∨ s % 2 = 1 := by omega
 rcases h with h | h <;> rcases hb with rfl | rfl
 ·rw [h, show Go.bits .xor .i64 0 0 = 0 by decide +kernel]; omega
 ·rw [h, show Go.bits .xor .i64 0 1 = 1 by decide +kernel]; omega
 ·rw [h, show Go.bits .xor .i64 1 0 = 1 by decide +kernel]; omega
 ·rw [h, show Go.bits .xor .i64 1 1 = 0 by decide +kernel]; omega
theorem failsFrom_len (w : List Int) : ∀ (l : List (List Int)) (i : Int), (failsFrom w l i).length ≤ l.length := by
 intro l
 induction l with
 | nil => intro i; simp [failsFrom]
 | cons c l ih => intro i; simp only [failsFrom]; split <;> (simp only [List.length_cons]; have := ih (i + 1); omega)
theorem failsFrom_in (w : List Int) : ∀ (l : List (List Int)) (i : Int), ∀ x ∈ failsFrom w l i, i ≤ x ∧ x < i + l.length := by
 intro l
 induction l with
 | nil => intro i x hx; simp [failsFrom] at hx
 | cons c l ih =>
  intro i x hx
  simp only [failsFrom] at hx
  simp only [List.length_cons]
  split at hx
  ·rcases List.mem_cons.1 hx with rfl | hx
   ·omega
   ·have := ih (i + 1) x hx; omega
  ·have := ih (i + 1) x hx; omega
def allIn (a : Int) (l : List Int) : Bool := l.all fun x => decide (-a ≤ x) && decide (x ≤ a)
theorem allIn_iff {a : Int} {l : List Int} : allIn a l = true ↔ ∀ x ∈ l, -a ≤ x ∧ x ≤ a := by
 unfold allIn; simp [List.all_eq_true]
def sumRow (c o : List Int) : Nat → Nat → List Int → List Int
 | 0, _, s => s
 | d + 1, j, s => sumRow c o d (j + 1) (s.set (rd c j).toNat (rd s (rd c j) + rd o j))
def sumAll (l own : List (List Int)) : Nat → Nat → List Int → List Int
 | 0, _, s => s
 | d + 1, i, s => sumAll l own d (i + 1) (sumRow (rd_L1 l i) (rd_L1 own i) (rd_L1 l i).length 0 s)
def wordOf (s : List Int) : List Int := s.map fun x => if x < 0 then 1 else 0
def msgGo (s c o : List Int) (j : Nat) : Nat → Nat → Int → Bool → Int
 | 0, _, least, neg => if neg = true then -least else least
 | d + 1, y, least, neg => if y = j then msgGo s c o j d (y + 1) least neg else
  if rd s (rd c y) - rd o y < 0 then msgGo s c o j d (y + 1) (if -(rd s (rd c y) - rd o y) < least then -(rd s (rd c y) - rd o y) else least) (!neg)
  else msgGo s c o j d (y + 1) (if rd s (rd c y) - rd o y < least then rd s (rd c y) - rd o y else least) neg
def rowNext (s c o : List Int) : Nat → Nat → List Int
 | 0, _ => []
 | d + 1, j => msgGo s c o j c.length 0 1000 false :: rowNext s c o d (j + 1)
def ownNext (s : List Int) (l own : List (List Int)) : Nat → Nat → List (List Int)
 | 0, _ => []
 | d + 1, i => rowNext s (rd_L1 l i) (rd_L1 own i) (rd_L1 l i).length 0 :: ownNext s l own d (i + 1)
def zeroRow (c : List Int) : List Int := List.replicate c.length 0
def sumsOf (l own : List (List Int)) (h : List Int) : List Int := sumAll l own l.length 0 h
def hintGo (l : List (List Int)) (h : List Int) : Nat → List (List Int) → Int → List Int × Int × Bool
 | 0, own, n => (wordOf (sumsOf l own h), n, decide ((failsFrom (wordOf (sumsOf l own h)) l 0).length = 0))
 | d + 1, own, n => if (failsFrom (wordOf (sumsOf l own h)) l 0).length = 0 then (wordOf (sumsOf l own h), n, true) else hintGo l h d (ownNext (sumsOf l own h) l own l.length 0) (n + 1)
def hintV (l : List (List Int)) (h : List Int) (r : Int) : List Int × Int × Bool := if ((checksB l (h.length : Int) && allIn 1000 h) && decide (0 ≤ r ∧ r ≤ 50)) = true then hintGo l h r.toNat (l.map zeroRow) 0 else ([], 0, false)
/-- No number is further from 0 than b. -/
def InAb (s : List Int) (b : Int) : Prop := ∀ x ∈ s, -b ≤ x ∧ x ≤ b
structure OwnOk (l own : List (List Int)) : Prop where
  len : own.length = l.length
  row : ∀ i : Nat, i < l.length → (rd_L1 own i).length = (rd_L1 l i).length
  bd : ∀ i : Nat, i < l.length → InAb (rd_L1 own i) 1000
theorem InAb.mono {s : List Int} {b c : Int} (h : InAb s b) (hc : b ≤ c) : InAb s c := fun x hx => by have := h x hx; omega
theorem InAb.set {s : List Int} {b v : Int} {p : Nat} (h : InAb s b) (hp : p < s.length) (hv : -1000 ≤ v ∧ v ≤ 1000) : InAb (s.set p (rd s p + v)) (b + 1000) := fun x hx => by
 have := h _ (rd_mem hp)
 rcases List.mem_or_eq_of_mem_set hx with h2 | h2
 ·have := h x h2; omega
 ·omega
theorem sumRow_len (c o : List Int) : ∀ (d j : Nat) (s : List Int), (sumRow c o d j s).length = s.length
 | 0, _, _ => rfl
 | d + 1, j, s => by unfold sumRow; rw [sumRow_len c o d, List.length_set]
theorem sumRow_ab {c o : List Int} {n : Int} (ho : InAb o 1000) (hl : o.length = c.length) (hc : ∀ j : Nat, j < c.length → 0 ≤ rd c j ∧ rd c j < n) : ∀ (d j : Nat) (s : List Int) (b : Int), j + d = c.length → (s.length : Int) = n → InAb s b → InAb (sumRow c o d j s) (b + 1000 * d)
 | 0, _, _, _, _, _, h => h.mono (by omega)
 | d + 1, j, s, b, hj, hn, h => by
  have h1 := hc j (by omega)
  obtain ⟨p, hp⟩ : ∃ p : Nat, rd c (j : Int) = (p : Int) := ⟨(rd c (j : Int)).toNat, by omega⟩
  unfold sumRow
  rw [hp]
  exact (sumRow_ab ho hl hc d (j + 1) _ (b + 1000) (by omega) (by rw [List.length_set]; exact hn) (InAb.set h (by omega) (ho _ (rd_mem (by omega))))).mono (by omega)
theorem sumAll_len (l own : List (List Int)) : ∀ (d i : Nat) (s : List Int), (sumAll l own d i s).length = s.length
 | 0, _, _ => rfl
 | d + 1, i, s => by unfold sumAll; rw [sumAll_len l own d, sumRow_len]
theorem sumAll_ab {l own : List (List Int)} {n : Int} (hc : ChecksIn l n) (ho : OwnOk l own) : ∀ (d i : Nat) (s : List Int) (b : Int), i + d = l.length → (s.length : Int) = n → InAb s b → InAb (sumAll l own d i s) (b + 16000 * d)
 | 0, _, _, _, _, _, h => h.mono (by omega)
 | d + 1, i, s, b, hi, hn, h => by
  have hr := hc.row i (by omega)
  unfold sumAll
  have h1 := sumRow_ab (n := n) (ho.bd i (by omega)) (ho.row i (by omega)) (fun j hj => by have := hc.bd i (by omega) j hj; omega) (rd_L1 l i).length 0 s b (by omega) hn h
  exact (sumAll_ab hc ho d (i + 1) _ (b + 16000) (by omega) (by rw [sumRow_len]; exact hn) (h1.mono (by omega))).mono (by omega)
theorem sumsOf_ab {l own : List (List Int)} {h : List Int} (hc : ChecksIn l h.length) (ho : OwnOk l own) (hh : InAb h 1000) : InAb (sumsOf l own h) 1025000 := by
 have hl := hc.len
 exact (sumAll_ab hc ho l.length 0 h 1000 (by omega) rfl hh).mono (by omega)
theorem sumsOf_len (l own : List (List Int)) (h : List Int) : (sumsOf l own h).length = h.length := sumAll_len _ _ _ _ _
theorem wordOf_len (s : List Int) : (wordOf s).length = s.length := by simp [wordOf]
theorem wordOf_bits (s : List Int) : ∀ x ∈ wordOf s, x = 0 ∨ x = 1 := by
 intro x hx
 simp only [wordOf, List.mem_map] at hx
 obtain ⟨y, _, rfl⟩ := hx
 split <;> omega
theorem msgGo_ab (s c o : List Int) (j : Nat) : ∀ (d y : Nat) (least : Int) (neg : Bool), 0 ≤ least → least ≤ 1000 → -1000 ≤ msgGo s c o j d y least neg ∧ msgGo s c o j d y least neg ≤ 1000
 | 0, _, least, neg, h0, h1 => by unfold msgGo; split <;> omega
 | d + 1, y, least, neg, h0, h1 => by
  unfold msgGo
  split
  ·exact msgGo_ab s c o j d (y + 1) least neg h0 h1
  ·split
   ·exact msgGo_ab s c o j d (y + 1) _ _ (by split <;> omega) (by split <;> omega)
   ·exact msgGo_ab s c o j d (y + 1) _ _ (by split <;> omega) (by split <;> omega)
theorem rowNext_len (s c o : List Int) : ∀ (d j : Nat), (rowNext s c o d j).length = d
 | 0, _ => rfl
 | d + 1, j => by unfold rowNext; rw [List.length_cons, rowNext_len s c o d]
theorem rowNext_ab (s c o : List Int) : ∀ (d j : Nat), InAb (rowNext s c o d j) 1000
 | 0, _ => by intro x hx; simp [rowNext] at hx
 | d + 1, j => by
  intro x hx
  unfold rowNext at hx
  rcases List.mem_cons.1 hx with rfl | hx
  ·exact msgGo_ab s c o j c.length 0 1000 false (by omega) (by omega)
  ·exact rowNext_ab s c o d (j + 1) x hx
theorem ownNext_len (s : List Int) (l own : List (List Int)) : ∀ (d i : Nat), (ownNext s l own d i).length = d
 | 0, _ => rfl
 | d + 1, i => by unfold ownNext; rw [List.length_cons, ownNext_len s l own d]
theorem ownNext_at (s : List Int) (l own : List (List Int)) : ∀ (d i q : Nat), q < d → rd_L1 (ownNext s l own d i) (q : Int) = rowNext s (rd_L1 l ((i + q : Nat) : Int)) (rd_L1 own ((i + q : Nat) : Int)) (rd_L1 l ((i + q : Nat) : Int)).length 0
 | 0, _, q, h => by omega
 | d + 1, i, 0, _ => by unfold ownNext; simp [rd_L1]
 | d + 1, i, q + 1, h => by
  unfold ownNext
  have := ownNext_at s l own d (i + 1) q (by omega)
  rw [show i + (q + 1) = i + 1 + q by omega, ← this]
  simp [rd_L1, Int.toNat_natCast_add_one]
theorem ownNext_ok (s : List Int) (l own : List (List Int)) : OwnOk l (ownNext s l own l.length 0) := by
 refine ⟨ownNext_len s l own l.length 0, fun i hi => ?_, fun i hi => ?_⟩
 ·rw [ownNext_at s l own l.length 0 i hi, rowNext_len, Nat.zero_add]
 ·rw [ownNext_at s l own l.length 0 i hi]; exact rowNext_ab _ _ _ _ _
theorem zero_ok (l : List (List Int)) : OwnOk l (l.map zeroRow) := by
 have h : ∀ i : Nat, i < l.length → rd_L1 (l.map zeroRow) (i : Int) = zeroRow (rd_L1 l i) := fun i hi => by
  rw [rdL1_nat _ i (by simpa using hi), rdL1_nat _ i hi]; simp
 refine ⟨by simp, fun i hi => by rw [h i hi]; simp [zeroRow], fun i hi => ?_⟩
 rw [h i hi]
 intro x hx
 rw [zeroRow, List.mem_replicate] at hx
 omega
theorem len_nil3 (l : List Int) : ((l.length : Int) == 0) = decide (l.length = 0) := by
 cases l with
 | nil => rfl
 | cons x l => rw [show (((x :: l).length : Int) == 0) = false by simp; omega, show decide ((x :: l).length = 0) = false by simp]
theorem l1In_eq (a b c : Int) : spec_l1In.f a b c = some (decide (b ≤ a) && decide (a ≤ c)) := by
 unfold spec_l1In.f
 by_cases h : a ≥ b
 case pos => rw [if_pos h]; simp [show b ≤ a from h]
 rw [if_neg h]; simp [show ¬ b ≤ a from h]
theorem sChecksOk_l (n : Int) (hn : 1 ≤ n ∧ n ≤ 128) (l : List (List Int)) (hl : l.length ≤ 64) : ∀ (d i : Nat), i + d = l.length → Ev (fun k => spec_ChecksOk.l0 k l n (i : Int)) ((l.drop i).all (checkB n)) := by
 intro d
 induction d with
 | zero =>
  intro i hi
  refine Ev.succ ?_
  simp only [spec_ChecksOk.l0]
  exact Ev.neg (by omega) (Ev.some_ (by rw [List.drop_of_length_le (by omega)]; rfl))
 | succ d ih =>
  intro i hi
  have hi1 : i < l.length := by omega
  refine Ev.succ ?_
  simp only [spec_ChecksOk.l0, l1In_eq, Option.bind_some]
  refine Ev.pos (by omega) (Ev.pos (by omega) ?_)
  rw [drop_rdL1 hi1, List.all_cons]
  by_cases h1 : 2 ≤ (rd_L1 l i).length ∧ (rd_L1 l i).length ≤ 16
  case neg =>
   refine Ev.neg (by simp; omega) (Ev.some_ ?_)
   unfold checkB; rw [show decide (2 ≤ (rd_L1 l i).length ∧ (rd_L1 l i).length ≤ 16) = false by simp; omega]; rfl
  refine Ev.pos (by simp; omega) ?_
  have e : checkB n (rd_L1 l i) = ascB n (rd_L1 l i) (rd_L1 l i).length 0 := by
   unfold checkB; rw [show decide (2 ≤ (rd_L1 l i).length ∧ (rd_L1 l i).length ≤ 16) = true by simp; omega]; rfl
  rw [e]
  have inner : ∀ (d' j : Nat), j + d' = (rd_L1 l i).length → Ev (fun k => spec_ChecksOk.l1 k l n (i : Int) (j : Int)) (ascB n (rd_L1 l i) d' j && (l.drop (i + 1)).all (checkB n)) := by
   intro d'
   induction d' with
   | zero =>
    intro j hj
    refine Ev.succ ?_
    simp only [spec_ChecksOk.l1]
    refine Ev.pos (by omega) (Ev.pos (by omega) (Ev.neg (by omega) ?_))
    rw [w64_add (by omega) (by omega)]
    exact ih (i + 1) (by omega)
   | succ d' ih' =>
    intro j hj
    refine Ev.succ ?_
    simp only [spec_ChecksOk.l1, l1In_eq, Option.bind_some]
    refine Ev.pos (by omega) (Ev.pos (by omega) (Ev.pos (by omega) (Ev.pos (by omega) ?_)))
    rw [w64_add (i := (j : Int)) (by omega) (by omega), w64 (n := n - 1) (by omega) (by omega)]
    simp only [ascB]
    by_cases h2 : 0 ≤ rd (rd_L1 l i) j ∧ rd (rd_L1 l i) j ≤ n - 1
    case neg => rw [if_neg (by omega)]; exact Ev.neg (by simp; omega) (Ev.some_ rfl)
    refine Ev.pos (by simp; omega) ?_
    by_cases h3 : (j : Int) > 0
    case neg => rw [if_pos (by omega)]; exact Ev.neg h3 (ih' (j + 1) (by omega))
    rw [w64 (by omega) (by omega)]
    refine Ev.pos h3 (Ev.pos (by omega) (Ev.pos (by omega) ?_))
    by_cases h4 : rd (rd_L1 l i) ((j : Int) - 1) ≥ rd (rd_L1 l i) j
    case pos => rw [if_neg (by omega)]; exact Ev.pos h4 (Ev.some_ rfl)
    rw [if_pos (by omega)]; exact Ev.neg h4 (ih' (j + 1) (by omega))
  exact inner (rd_L1 l i).length 0 (by omega)
theorem sChecksOk_ev (l : List (List Int)) (n : Int) : Ev (fun k => spec_ChecksOk.f k l n) (checksB l n) := by
 have bad : Ev (fun k => spec_ChecksOk.j0 k l n true) false := by
  refine Ev.succ ?_
  simp only [spec_ChecksOk.j0]
  exact Ev.pos trivial (Ev.some_ rfl)
 unfold spec_ChecksOk.f checksB
 simp only [l1In_eq, Option.bind_some]
 by_cases h1 : 1 ≤ n ∧ n ≤ 128
 case neg => exact Ev.neg (by simp; omega) (bad.to (by rw [show decide ((1 ≤ n ∧ n ≤ 128) ∧ l.length ≤ 64) = false by simp; omega]; rfl))
 refine Ev.pos (by simp; omega) ?_
 by_cases h3 : l.length ≤ 64
 case neg =>
  rw [show decide ((l.length : Int) > 64) = true by simp; omega]
  exact bad.to (by rw [show decide ((1 ≤ n ∧ n ≤ 128) ∧ l.length ≤ 64) = false by simp; omega]; rfl)
 rw [show decide ((l.length : Int) > 64) = false by simp; omega, show decide ((1 ≤ n ∧ n ≤ 128) ∧ l.length ≤ 64) = true by simp; omega]
 refine Ev.succ ?_
 simp only [spec_ChecksOk.j0]
 exact Ev.neg (by simp) ((sChecksOk_l n (by omega) l h3 l.length 0 (by omega)).to (by simp))
theorem sBitsOk_l0 (l : List Int) (hl : l.length ≤ 1048576) : ∀ (d i : Nat), i + d = l.length → Ev (fun k => spec_BitsOk.l0 k l (i : Int)) ((l.drop i).all bitOk && decide (l.length ≤ 1024)) := by
 intro d
 induction d with
 | zero =>
  intro i hi
  refine Ev.succ ?_
  simp only [spec_BitsOk.l0]
  rw [List.drop_of_length_le (by omega)]
  exact Ev.neg (by omega) (Ev.some_ (by simp; omega))
 | succ d ih =>
  intro i hi
  refine Ev.succ ?_
  simp only [spec_BitsOk.l0, l1In_eq, Option.bind_some]
  refine Ev.pos (by omega) (Ev.pos (by omega) ?_)
  rw [drop_rd (xs := l) (i := i) (by omega), w64_add (by omega) (by omega)]
  by_cases h1 : rd l i = 0 ∨ rd l i = 1
  case neg => exact Ev.neg (by simp; omega) (Ev.some_ (by simp [bitOk, h1]))
  exact Ev.pos (by simp; omega) ((ih (i + 1) (by omega)).to (by simp [bitOk, h1]))
theorem sBitsOk_ev (l : List Int) (hl : l.length ≤ 1048576) : Ev (fun k => spec_BitsOk.f k l) (bitsB l) :=
 (sBitsOk_l0 l hl l.length 0 (by omega)).to (by simp [bitsB])
theorem sFails_l (l : List (List Int)) (w : List Int) (hc : ChecksIn l w.length) (hw : ∀ x ∈ w, x = 0 ∨ x = 1) : ∀ (d i : Nat) (acc : List Int), i + d = l.length → acc.length ≤ i → Ev (fun k => spec_Fails.l0 k l w acc (i : Int)) (acc ++ failsFrom w (l.drop i) i, true) := by
 intro d
 induction d with
 | zero =>
  intro i acc hi ha
  refine Ev.succ ?_
  simp only [spec_Fails.l0]
  exact Ev.neg (by omega) (Ev.some_ (by rw [List.drop_of_length_le (by omega)]; simp [failsFrom]))
 | succ d ih =>
  intro i acc hi ha
  have hi1 : i < l.length := by omega
  have hlen := hc.len
  have hrow := hc.row i hi1
  refine Ev.succ ?_
  simp only [spec_Fails.l0]
  refine Ev.pos (by omega) ?_
  rw [failsFrom_step hi1]
  have inner : ∀ (d' j : Nat) (s : Int), j + d' = (rd_L1 l i).length → 0 ≤ s → s ≤ j → Ev (fun k => spec_Fails.l1 k l w acc (i : Int) s (j : Int)) (acc ++ (if failSum w ((rd_L1 l i).drop j) s % 2 = 1 then (i : Int) :: failsFrom w (l.drop (i + 1)) ((i + 1 : Nat) : Int) else failsFrom w (l.drop (i + 1)) ((i + 1 : Nat) : Int)), true) := by
   intro d'
   induction d' with
   | zero =>
    intro j s hj h0 h1
    refine Ev.succ ?_
    simp only [spec_Fails.l1]
    refine Ev.pos (by omega) (Ev.pos (by omega) (Ev.neg (by omega) ?_))
    rw [failSum_nil (by omega), Int.tmod_eq_emod_of_nonneg h0, w64_add (by omega) (by omega)]
    by_cases hs : s % 2 = 1
    case neg =>
     rw [if_neg hs]
     exact Ev.neg hs (ih (i + 1) acc (by omega) (by omega))
    rw [if_pos hs]
    exact Ev.pos hs (Ev.pos (by omega) ((ih (i + 1) (acc ++ [(i : Int)]) (by omega) (by rw [List.length_append]; simp only [List.length_singleton]; omega)).to (by simp)))
   | succ d' ih' =>
    intro j s hj h0 h1
    have hb := hc.bd i hi1 j (by omega)
    have hv := bitAt hw hb.1 (by omega)
    refine Ev.succ ?_
    simp only [spec_Fails.l1]
    refine Ev.pos (by omega) (Ev.pos (by omega) (Ev.pos (by omega) (Ev.pos (by omega) (Ev.pos hb.1 (Ev.pos (by omega) ?_)))))
    rw [w64_add (i := (j : Int)) (by omega) (by omega), w64 (n := s + _) (by omega) (by omega), failSum_step (by omega)]
    exact ih' (j + 1) _ (by omega) (by omega) (by omega)
  exact inner (rd_L1 l i).length 0 0 (by omega) (by omega) (by omega)
theorem sFails_ev (l : List (List Int)) (w : List Int) (hw : w.length ≤ 1048576) : Ev (fun k => spec_Fails.f k l w) (failsV l w) := by
 unfold spec_Fails.f failsV
 refine Ev.next (Ev.some_ rfl) (Ev.next (sBitsOk_ev w hw) ?_)
 cases hb : bitsB w
 ·refine Ev.neg (by simp) (Ev.succ ?_)
  simp only [spec_Fails.j0]
  exact Ev.pos trivial (Ev.some_ (by simp))
 ·refine Ev.pos rfl (Ev.next (sChecksOk_ev l w.length) (Ev.succ ?_))
  simp only [spec_Fails.j0]
  cases hc : checksB l (w.length : Int)
  ·exact Ev.pos (by simp) (Ev.some_ (by simp))
  ·exact Ev.neg (by simp) ((sFails_l l w (checksIn hc) (bitsB_iff.1 hb).1 l.length 0 [] (by omega) (by simp)).to (by simp))
theorem l9Wide_l0 (l : List Int) (a : Int) (ha : 0 ≤ a) (ha' : a ≤ 9000000000000000000) (hl : l.length ≤ 35184372088832) : ∀ (d i : Nat), i + d = l.length → Ev (fun k => spec_l9Wide.l0 k l a (i : Int)) (allIn a (l.drop i)) := by
 intro d
 induction d with
 | zero =>
  intro i hi
  refine (Ev.round (f := fun _ => some true) (Ev.some_ rfl) (fun k => by simp only [spec_l9Wide.l0]; rw [if_neg (by omega)])).to ?_
  rw [List.drop_of_length_le (by omega)]; rfl
 | succ d ih =>
  intro i hi
  rw [drop_rd (xs := l) (i := i) (by omega)]
  by_cases h1 : -a ≤ rd l i ∧ rd l i ≤ a
  case neg =>
   refine (Ev.round (f := fun _ => some false) (Ev.some_ rfl) (fun k => ?_)).to (by simp [allIn]; intros; omega)
   simp only [spec_l9Wide.l0, l1In_eq, Option.bind_some]
   rw [if_pos (by omega), if_pos (by omega), w64 (n := -a) (by omega) (by omega), if_neg (by simp; omega)]
  refine (Ev.round (ih (i + 1) (by omega)) (fun k => ?_)).to ?_
  ·simp only [spec_l9Wide.l0, l1In_eq, Option.bind_some]
   rw [if_pos (by omega), if_pos (by omega), w64 (n := -a) (by omega) (by omega), if_pos (by simp; omega), w64_add (by omega) (by omega)]
   simp
  ·simp [allIn]; intros; omega
theorem l9Wide_ev (l : List Int) (a : Int) (ha : 0 ≤ a) (ha' : a ≤ 9000000000000000000) (hl : l.length ≤ 35184372088832) : Ev (fun k => spec_l9Wide.f k l a) (allIn a l) :=
 (l9Wide_l0 l a ha ha' hl l.length 0 (by omega)).to (by simp)
theorem l16Sums_l (l own : List (List Int)) (n : Int) (hc : ChecksIn l n) (ho : OwnOk l own) : ∀ (d i : Nat) (s : List Int), i + d = l.length → (s.length : Int) = n → InAb s (1000 + 16000 * i) → Ev (fun k => spec_l16Sums.l0 k l own s (i : Int)) (sumAll l own d i s) := by
 intro d
 have hll := hc.len
 induction d with
 | zero =>
  intro i s hi hn hb
  refine Ev.succ ?_
  simp only [spec_l16Sums.l0]
  exact Ev.neg (by omega) (Ev.some_ rfl)
 | succ d ih =>
  intro i s hi hn hb
  have hr := hc.row i (by omega)
  have hol := ho.row i (by omega)
  have hob := ho.bd i (by omega)
  have holen := ho.len
  refine Ev.succ ?_
  simp only [spec_l16Sums.l0]
  refine Ev.pos (by omega) ?_
  rw [sumAll]
  have inner : ∀ (d' j : Nat) (s : List Int), j + d' = (rd_L1 l i).length → (s.length : Int) = n → InAb s (1000 + 16000 * i + 1000 * j) → Ev (fun k => spec_l16Sums.l1 k l own s (i : Int) (j : Int)) (sumAll l own d (i + 1) (sumRow (rd_L1 l i) (rd_L1 own i) d' j s)) := by
   intro d'
   induction d' with
   | zero =>
    intro j s hj hn hb
    refine Ev.succ ?_
    simp only [spec_l16Sums.l1]
    refine Ev.pos (by omega) (Ev.pos (by omega) (Ev.neg (by omega) ?_))
    rw [w64_add (by omega) (by omega), sumRow]
    exact ih (i + 1) s (by omega) hn (hb.mono (by omega))
   | succ d' ih' =>
    intro j s hj hn hb
    have hv := hc.bd i (by omega) j (by omega)
    have hov := hob _ (rd_mem (xs := rd_L1 own i) (i := j) (by omega))
    rw [sumRow]
    obtain ⟨p, hp⟩ : ∃ p : Nat, rd (rd_L1 l i) (j : Int) = (p : Int) := ⟨(rd (rd_L1 l i) (j : Int)).toNat, by omega⟩
    have hpl : p < s.length := by omega
    have hsv := hb _ (rd_mem hpl)
    refine Ev.succ ?_
    simp only [spec_l16Sums.l1]
    refine Ev.pos (by omega) (Ev.pos (by omega) (Ev.pos (by omega) (Ev.pos (by omega) (Ev.pos hv.1 (Ev.pos (by omega) (Ev.pos (by omega) (Ev.pos (by omega) ?_)))))))
    rw [hp, w64_add (i := (j : Int)) (by omega) (by omega), w64 (n := rd s (p : Int) + _) (by omega) (by omega)]
    exact ih' (j + 1) _ (by omega) (by rw [List.length_set]; exact hn) ((InAb.set hb hpl hov).mono (by omega))
  exact inner (rd_L1 l i).length 0 s (by omega) hn (hb.mono (by omega))
theorem l16Sums_ev (l own : List (List Int)) (h : List Int) (hc : ChecksIn l h.length) (ho : OwnOk l own) (hh : InAb h 1000) : Ev (fun k => spec_l16Sums.f k l h own) (sumsOf l own h) := by
 have hn := hc.n1
 unfold spec_l16Sums.f
 refine Ev.next (Ev.some_ rfl) (Ev.pos (by simp; omega) ?_)
 exact l16Sums_l l own h.length hc ho l.length 0 h (by omega) rfl (hh.mono (by omega))
theorem l16Word_l (s : List Int) (hl : s.length ≤ 128) : ∀ (d i : Nat) (acc : List Int), i + d = s.length → acc.length ≤ i → Ev (fun k => spec_l16Word.l0 k s acc (i : Int)) (acc ++ wordOf (s.drop i)) := by
 intro d
 induction d with
 | zero =>
  intro i acc hi ha
  refine Ev.succ ?_
  simp only [spec_l16Word.l0]
  exact Ev.neg (by omega) (Ev.some_ (by rw [List.drop_of_length_le (by omega)]; simp [wordOf]))
 | succ d ih =>
  intro i acc hi ha
  refine Ev.succ ?_
  simp only [spec_l16Word.l0]
  refine Ev.pos (by omega) (Ev.pos (by omega) ?_)
  rw [drop_rd (xs := s) (i := i) (by omega), w64_add (by omega) (by omega)]
  by_cases h : rd s i < 0
  case neg => exact Ev.neg h (Ev.pos (by omega) ((ih (i + 1) (acc ++ [0]) (by omega) (by simp; omega)).to (by simp [wordOf, h])))
  exact Ev.pos h (Ev.pos (by omega) ((ih (i + 1) (acc ++ [1]) (by omega) (by simp; omega)).to (by simp [wordOf, h])))
theorem l16Word_ev (s : List Int) (hl : s.length ≤ 128) : Ev (fun k => spec_l16Word.f k s) (wordOf s) :=
 (l16Word_l s hl s.length 0 [] (by omega) (by simp)).to (by simp)
theorem sHint_l4 (l : List (List Int)) (h : List Int) (r n : Int) (own acc : List (List Int)) (s row : List Int) (i j : Nat) (res : List Int × Int × Bool) (hc : ChecksIn l s.length) (ho : OwnOk l own) (hs : InAb s 1025000) (hi : i < l.length) (hj : j < 16) (hrl : row.length ≤ 16) : ∀ (d y : Nat) (least : Int) (neg : Bool), y + d = (rd_L1 l i).length → 0 ≤ least → least ≤ 1000 →
 Ev (fun k => spec_PassHints.l3 k l h r own n s acc (i : Int) (row ++ [msgGo s (rd_L1 l i) (rd_L1 own i) j d y least neg]) ((j : Int) + 1)) res → Ev (fun k => spec_PassHints.l4 k l h r own n s acc (i : Int) row (j : Int) least neg (y : Int)) res := by
 intro d
 have hr := hc.row i hi
 have hol := ho.row i hi
 have hob := ho.bd i hi
 have holen := ho.len
 induction d with
 | zero =>
  intro y least neg hy h0 h1 H
  refine Ev.succ ?_
  simp only [spec_PassHints.l4]
  refine Ev.pos (by omega) (Ev.pos (by omega) (Ev.neg (by omega) ?_))
  rw [w64_add (i := (j : Int)) (by omega) (by omega), w64 (n := -least) (by omega) (by omega)]
  simp only [msgGo] at H
  cases neg
  ·refine Ev.neg (by simp) (Ev.pos (by omega) ?_)
   simpa using H
  ·refine Ev.pos rfl (Ev.pos (by omega) ?_)
   simpa using H
 | succ d ih =>
  intro y least neg hy h0 h1 H
  have hv := hc.bd i hi y (by omega)
  have hov := hob _ (rd_mem (xs := rd_L1 own i) (i := y) (by omega))
  have hsv : -1025000 ≤ rd s (rd (rd_L1 l i) y) ∧ rd s (rd (rd_L1 l i) y) ≤ 1025000 := by
   obtain ⟨p, hp⟩ : ∃ p : Nat, rd (rd_L1 l i) (y : Int) = (p : Int) := ⟨(rd (rd_L1 l i) (y : Int)).toNat, by omega⟩
   rw [hp]; exact hs _ (rd_mem (by omega))
  refine Ev.succ ?_
  simp only [spec_PassHints.l4]
  refine Ev.pos (by omega) (Ev.pos (by omega) (Ev.pos (by omega) (Ev.pos (by omega) (Ev.pos hv.1 (Ev.pos (by omega) (Ev.pos (by omega) (Ev.pos (by omega) ?_)))))))
  rw [w64_add (i := (y : Int)) (by omega) (by omega)]
  rw [msgGo] at H
  by_cases hjy : y = j
  ·rw [if_pos hjy] at H
   exact Ev.pos (by omega) (ih (y + 1) least neg (by omega) h0 h1 H)
  rw [if_neg hjy] at H
  refine Ev.neg (by omega) ?_
  generalize hx : rd s (rd (rd_L1 l i) y) - rd (rd_L1 own i) y = x at H ⊢
  rw [w64 (n := x) (by omega) (by omega), w64 (n := -x) (by omega) (by omega)]
  by_cases hneg : x < 0
  case neg =>
   rw [if_neg hneg] at H
   refine Ev.neg hneg ?_
   by_cases hlt : x < least
   case neg =>
    rw [if_neg hlt] at H
    exact Ev.neg hlt (ih (y + 1) _ _ (by omega) (by omega) (by omega) H)
   rw [if_pos hlt] at H
   exact Ev.pos hlt (ih (y + 1) _ _ (by omega) (by omega) (by omega) H)
  rw [if_pos hneg] at H
  refine Ev.pos hneg ?_
  by_cases hlt : -x < least
  case neg =>
   rw [if_neg hlt] at H
   exact Ev.neg hlt (ih (y + 1) _ _ (by omega) (by omega) (by omega) H)
  rw [if_pos hlt] at H
  exact Ev.pos hlt (ih (y + 1) _ _ (by omega) (by omega) (by omega) H)
theorem sHint_l3 (l : List (List Int)) (h : List Int) (r n : Int) (own acc : List (List Int)) (s : List Int) (i : Nat) (res : List Int × Int × Bool) (hc : ChecksIn l s.length) (ho : OwnOk l own) (hs : InAb s 1025000) (hi : i < l.length) (ha : acc.length ≤ i) : ∀ (d j : Nat) (row : List Int), j + d = (rd_L1 l i).length → row.length ≤ j →
 Ev (fun k => spec_PassHints.l2 k l h r own n s (acc ++ [row ++ rowNext s (rd_L1 l i) (rd_L1 own i) d j]) ((i : Int) + 1)) res → Ev (fun k => spec_PassHints.l3 k l h r own n s acc (i : Int) row (j : Int)) res := by
 intro d
 have hr := hc.row i hi
 have hll := hc.len
 induction d with
 | zero =>
  intro j row hj hrl H
  refine Ev.succ ?_
  simp only [spec_PassHints.l3]
  refine Ev.pos (by omega) (Ev.pos (by omega) (Ev.neg (by omega) (Ev.pos (by omega) ?_)))
  rw [w64_add (i := (i : Int)) (by omega) (by omega)]
  simpa [rowNext] using H
 | succ d ih =>
  intro j row hj hrl H
  refine Ev.succ ?_
  simp only [spec_PassHints.l3]
  refine Ev.pos (by omega) (Ev.pos (by omega) (Ev.pos (by omega) ?_))
  rw [rowNext] at H
  refine sHint_l4 l h r n own acc s row i j res hc ho hs hi (by omega) (by omega) (rd_L1 l i).length 0 1000 false (by omega) (by omega) (by omega) ?_
  refine ih (j + 1) _ (by omega) (by simp; omega) ?_
  simpa using H
theorem sHint_l2 (l : List (List Int)) (h : List Int) (r n : Int) (own : List (List Int)) (s : List Int) (res : List Int × Int × Bool) (hc : ChecksIn l s.length) (ho : OwnOk l own) (hs : InAb s 1025000) : ∀ (d i : Nat) (acc : List (List Int)), i + d = l.length → acc.length ≤ i →
 Ev (fun k => spec_PassHints.l1 k l h r (acc ++ ownNext s l own d i) (wrap64 (n + 1))) res → Ev (fun k => spec_PassHints.l2 k l h r own n s acc (i : Int)) res := by
 intro d
 have hll := hc.len
 induction d with
 | zero =>
  intro i acc hi ha H
  refine Ev.succ ?_
  simp only [spec_PassHints.l2]
  refine Ev.neg (by omega) ?_
  simpa [ownNext] using H
 | succ d ih =>
  intro i acc hi ha H
  refine Ev.succ ?_
  simp only [spec_PassHints.l2]
  refine Ev.pos (by omega) ?_
  rw [ownNext] at H
  refine sHint_l3 l h r n own acc s i res hc ho hs (by omega) ha (rd_L1 l i).length 0 [] (by omega) (by simp) ?_
  refine ih (i + 1) _ (by omega) (by simp; omega) ?_
  simpa using H
theorem sFails_in2 (l : List (List Int)) (w : List Int) (hc : checksB l (w.length : Int) = true) (hw : ∀ x ∈ w, x = 0 ∨ x = 1) : Ev (fun k => spec_Fails.f k l w) (failsFrom w l 0, true) := by
 have hn := (checksIn hc).n1
 have := sFails_ev l w (by omega)
 rw [failsV, if_pos (by rw [hc, bitsB_iff.2 ⟨hw, by omega⟩]; rfl)] at this
 exact this
theorem sHint_l1 (l : List (List Int)) (h : List Int) (hcb : checksB l (h.length : Int) = true) (hh : InAb h 1000) (r : Int) (hr : r ≤ 50) : ∀ (d : Nat) (own : List (List Int)) (n : Int), n + d = r → 0 ≤ n → OwnOk l own → Ev (fun k => spec_PassHints.l1 k l h r own n) (hintGo l h d own n) := by
 intro d
 have hc := checksIn hcb
 have hn1 := hc.n1
 induction d with
 | zero =>
  intro own n hd hn ho
  have hsl := sumsOf_len l own h
  have hwl := wordOf_len (sumsOf l own h)
  have fin : Ev (fun k => spec_PassHints.j3 k l h r own n (sumsOf l own h) (wordOf (sumsOf l own h)) (failsFrom (wordOf (sumsOf l own h)) l 0) true) (hintGo l h 0 own n) := by
   refine Ev.succ ?_
   simp only [spec_PassHints.j3]
   exact Ev.pos trivial (Ev.some_ (by rw [hintGo, len_nil3]))
  refine Ev.succ ?_
  simp only [spec_PassHints.l1]
  refine Ev.next (l16Sums_ev l own h hc ho hh) (Ev.next (l16Word_ev _ (by omega)) (Ev.next (sFails_in2 l _ (by rw [hwl, hsl]; exact hcb) (wordOf_bits _)) ?_))
  rw [show (n == r) = true by simp; omega]
  exact Ev.both (fun _ => fin) (fun _ => fin)
 | succ d ih =>
  intro own n hd hn ho
  have hsl := sumsOf_len l own h
  have hwl := wordOf_len (sumsOf l own h)
  refine Ev.succ ?_
  simp only [spec_PassHints.l1]
  refine Ev.next (l16Sums_ev l own h hc ho hh) (Ev.next (l16Word_ev _ (by omega)) (Ev.next (sFails_in2 l _ (by rw [hwl, hsl]; exact hcb) (wordOf_bits _)) ?_))
  rw [show (n == r) = false by simp; omega, hintGo]
  by_cases h0 : (failsFrom (wordOf (sumsOf l own h)) l 0).length = 0
  case pos =>
   rw [if_pos h0]
   refine Ev.pos (by simp only; omega) (Ev.succ ?_)
   simp only [spec_PassHints.j3]
   exact Ev.pos trivial (Ev.some_ (by rw [h0]; rfl))
  rw [if_neg h0]
  refine Ev.neg (by simp only; omega) (Ev.succ ?_)
  simp only [spec_PassHints.j3]
  refine Ev.neg (by simp) ?_
  refine sHint_l2 l h r n own (sumsOf l own h) _ (by rw [hsl]; exact hc) ho (sumsOf_ab hc ho hh) l.length 0 [] (by omega) (by simp) ?_
  rw [w64_add (by omega) (by omega), List.nil_append]
  exact ih _ (n + 1) (by omega) (by omega) (ownNext_ok _ _ _)
theorem sHint_l0 (l : List (List Int)) (h : List Int) (r : Int) (res : List Int × Int × Bool) (hl : l.length ≤ 64) (hx : ∀ i : Nat, i < l.length → (rd_L1 l i).length ≤ 16) (H : Ev (fun k => spec_PassHints.l1 k l h r (l.map zeroRow) 0) res) : ∀ (d i : Nat), i + d = l.length → Ev (fun k => spec_PassHints.l0 k l h r ((l.take i).map zeroRow) (i : Int)) res := by
 intro d
 induction d with
 | zero =>
  intro i hi
  refine Ev.succ ?_
  simp only [spec_PassHints.l0]
  refine Ev.neg (by omega) ?_
  rw [List.take_of_length_le (by omega)]; exact H
 | succ d ih =>
  intro i hi
  have := hx i (by omega)
  refine Ev.succ ?_
  simp only [spec_PassHints.l0]
  refine Ev.pos (by omega) (Ev.pos (by omega) (Ev.pos (by omega) (Ev.pos (by omega) (Ev.pos (by simp; omega) ?_))))
  rw [w64_add (by omega) (by omega)]
  have e : (l.take i).map zeroRow ++ [List.replicate ((rd_L1 l i).length : Int).toNat 0] = (l.take (i + 1)).map zeroRow := by
   rw [take_rdL1 (by omega)]; simp [zeroRow]
  rw [e]
  exact ih (i + 1) (by omega)
theorem sHint_ev (l : List (List Int)) (h : List Int) (r : Int) (hw : h.length ≤ 1048576) : Ev (fun k => spec_PassHints.f k l h r) (hintV l h r) := by
 have bad : Ev (fun k => spec_PassHints.j0 k l h r true) ([], 0, false) := by
  refine Ev.succ ?_
  simp only [spec_PassHints.j0]
  exact Ev.pos trivial (Ev.some_ rfl)
 unfold spec_PassHints.f hintV
 refine Ev.next (sChecksOk_ev l h.length) ?_
 cases hcb : checksB l (h.length : Int)
 ·rw [if_neg (by simp)]; exact Ev.neg (by simp) bad
 refine Ev.pos rfl (Ev.next (l9Wide_ev h 1000 (by omega) (by omega) (by omega)) ?_)
 cases hab : allIn 1000 h
 ·rw [if_neg (by simp)]; exact Ev.neg (by simp) bad
 refine Ev.pos rfl ?_
 simp only [l1In_eq, Option.bind_some]
 by_cases hr : 0 ≤ r ∧ r ≤ 50
 case neg =>
  rw [if_neg (by simp; omega), show (!(decide (0 ≤ r) && decide (r ≤ 50))) = true by simp; omega]
  exact bad
 rw [if_pos (by simp; omega), show (!(decide (0 ≤ r) && decide (r ≤ 50))) = false by simp; omega]
 refine Ev.succ ?_
 simp only [spec_PassHints.j0]
 have hc := checksIn hcb
 refine Ev.neg (by simp) (sHint_l0 l h r _ hc.len (fun i hi => (hc.row i hi).2) ?_ l.length 0 (by omega))
 exact sHint_l1 l h hcb (fun x hx => allIn_iff.1 hab x hx) r hr.2 r.toNat _ 0 (by omega) (by omega) (zero_ok l)
theorem ifails_l (l : List (List Int)) (w : List Int) (hc : ChecksIn l w.length) (hw : ∀ x ∈ w, x = 0 ∨ x = 1) : ∀ (d i : Nat) (acc : List Int), i + d = l.length → acc.length ≤ i → Ev (fun k => impl_fails.l0 k w acc l (l.length : Int) (i : Int)) (acc ++ failsFrom w (l.drop i) i) := by
 intro d
 induction d with
 | zero =>
  intro i acc hi ha
  refine Ev.succ ?_
  simp only [impl_fails.l0]
  exact Ev.neg (by omega) (Ev.some_ (by rw [List.drop_of_length_le (by omega)]; simp [failsFrom]))
 | succ d ih =>
  intro i acc hi ha
  have hi1 : i < l.length := by omega
  have hlen := hc.len
  have hrow := hc.row i hi1
  refine Ev.succ ?_
  simp only [impl_fails.l0]
  refine Ev.pos (by omega) (Ev.pos (by omega) (Ev.pos (by omega) ?_))
  rw [failsFrom_step hi1]
  have inner : ∀ (d' j : Nat) (s e : Int), j + d' = (rd_L1 l i).length → e = s % 2 → Ev (fun k => impl_fails.l1 k w acc (i : Int) e l (l.length : Int) (i : Int) (rd_L1 l i) ((rd_L1 l i).length : Int) (j : Int)) (acc ++ (if failSum w ((rd_L1 l i).drop j) s % 2 = 1 then (i : Int) :: failsFrom w (l.drop (i + 1)) ((i + 1 : Nat) : Int) else failsFrom w (l.drop (i + 1)) ((i + 1 : Nat) : Int))) := by
   intro d'
   induction d' with
   | zero =>
    intro j s e hj he
    subst he
    refine Ev.succ ?_
    simp only [impl_fails.l1]
    refine Ev.neg (by omega) ?_
    rw [failSum_nil (by omega), w64_add (by omega) (by omega)]
    by_cases hs : s % 2 = 1
    case neg =>
     rw [if_neg hs]
     exact Ev.neg hs (ih (i + 1) acc (by omega) (by omega))
    rw [if_pos hs]
    exact Ev.pos hs (Ev.pos (by omega) ((ih (i + 1) (acc ++ [(i : Int)]) (by omega) (by rw [List.length_append]; simp only [List.length_singleton]; omega)).to (by simp)))
   | succ d' ih' =>
    intro j s e hj he
    subst he
    have hb := hc.bd i hi1 j (by omega)
    have hv := bitAt hw hb.1 (by omega)
    refine Ev.succ ?_
    simp only [impl_fails.l1]
    refine Ev.pos (by omega) (Ev.pos (by omega) (Ev.pos (by omega) (Ev.pos hb.1 (Ev.pos (by omega) ?_))))
    rw [w64_add (i := (j : Int)) (by omega) (by omega), xor_mod2 s _ hv, failSum_step (by omega)]
    exact ih' (j + 1) _ _ (by omega) rfl
  exact inner (rd_L1 l i).length 0 0 0 (by omega) (by omega)
theorem ifails_ev (l : List (List Int)) (w : List Int) (hc : ChecksIn l w.length) (hw : ∀ x ∈ w, x = 0 ∨ x = 1) : Ev (fun k => impl_fails.f k l w) (failsFrom w l 0) :=
 (ifails_l l w hc hw l.length 0 [] (by omega) (by simp)).to (by simp)
theorem ascending_l0 (n : Int) (hn : 1 ≤ n ∧ n ≤ 128) (c : List Int) (hl : c.length ≤ 16) : ∀ (d i : Nat), i + d = c.length → Ev (fun k => impl_ascending.l0 k c n c (c.length : Int) (i : Int)) (ascB n c d i) := by
 intro d
 induction d with
 | zero =>
  intro i hi
  refine Ev.succ ?_
  simp only [impl_ascending.l0]
  exact Ev.neg (by omega) (Ev.some_ rfl)
 | succ d ih =>
  intro i hi
  refine Ev.succ ?_
  simp only [impl_ascending.l0]
  refine Ev.pos (by omega) (Ev.pos (by omega) (Ev.pos (by omega) ?_))
  rw [w64_add (by omega) (by omega)]
  simp only [ascB]
  by_cases h1 : rd c i < 0
  ·rw [if_neg (by omega)]; exact Ev.pos h1 (Ev.some_ rfl)
  refine Ev.neg h1 ?_
  by_cases h2 : rd c i ≥ n
  ·rw [if_neg (by omega)]; exact Ev.pos h2 (Ev.some_ rfl)
  refine Ev.neg h2 ?_
  by_cases h3 : (i : Int) > 0
  case neg => rw [if_pos (by omega)]; exact Ev.neg h3 (ih (i + 1) (by omega))
  rw [w64 (by omega) (by omega)]
  refine Ev.pos h3 (Ev.pos (by omega) (Ev.pos (by omega) ?_))
  by_cases h4 : rd c i ≤ rd c ((i : Int) - 1)
  case pos => rw [if_neg (by omega)]; exact Ev.pos h4 (Ev.some_ rfl)
  rw [if_pos (by omega)]; exact Ev.neg h4 (ih (i + 1) (by omega))
theorem iChecksOk_l0 (n : Int) (hn : 1 ≤ n ∧ n ≤ 128) (l : List (List Int)) (hl : l.length ≤ 64) : ∀ (d i : Nat), i + d = l.length → Ev (fun k => impl_ChecksOk.l0 k n l (l.length : Int) (i : Int)) ((l.drop i).all (checkB n)) := by
 intro d
 induction d with
 | zero =>
  intro i hi
  refine Ev.succ ?_
  simp only [impl_ChecksOk.l0]
  exact Ev.neg (by omega) (Ev.some_ (by rw [List.drop_of_length_le (by omega)]; rfl))
 | succ d ih =>
  intro i hi
  have hi1 : i < l.length := by omega
  refine Ev.succ ?_
  simp only [impl_ChecksOk.l0]
  refine Ev.pos (by omega) (Ev.pos (by omega) (Ev.pos (by omega) ?_))
  rw [w64_add (by omega) (by omega), drop_rdL1 hi1, List.all_cons]
  by_cases h1 : ((rd_L1 l i).length : Int) < 2
  ·exact Ev.pos h1 (Ev.some_ (by unfold checkB; rw [show decide (2 ≤ (rd_L1 l i).length ∧ (rd_L1 l i).length ≤ 16) = false by simp; omega]; rfl))
  refine Ev.neg h1 ?_
  by_cases h2 : ((rd_L1 l i).length : Int) > 16
  ·exact Ev.pos h2 (Ev.some_ (by unfold checkB; rw [show decide (2 ≤ (rd_L1 l i).length ∧ (rd_L1 l i).length ≤ 16) = false by simp; omega]; rfl))
  refine Ev.neg h2 (Ev.next (ascending_l0 n hn (rd_L1 l i) (by omega) (rd_L1 l i).length 0 (by omega)) ?_)
  have e : checkB n (rd_L1 l i) = ascB n (rd_L1 l i) (rd_L1 l i).length 0 := by
   unfold checkB; rw [show decide (2 ≤ (rd_L1 l i).length ∧ (rd_L1 l i).length ≤ 16) = true by simp; omega]; rfl
  rw [e]
  cases hb : ascB n (rd_L1 l i) (rd_L1 l i).length 0
  ·exact Ev.neg (by simp) (Ev.some_ rfl)
  ·exact Ev.pos rfl (ih (i + 1) (by omega))
theorem iChecksOk_ev (l : List (List Int)) (n : Int) : Ev (fun k => impl_ChecksOk.f k l n) (checksB l n) := by
 have bad : Ev (fun k => impl_ChecksOk.j0 k l n true) false := by
  refine Ev.succ ?_
  simp only [impl_ChecksOk.j0]
  exact Ev.pos trivial (Ev.some_ rfl)
 unfold impl_ChecksOk.f checksB
 by_cases h1 : n < 1
 ·exact Ev.pos h1 (bad.to (by rw [show decide ((1 ≤ n ∧ n ≤ 128) ∧ l.length ≤ 64) = false by simp; omega]; rfl))
 refine Ev.neg h1 ?_
 by_cases h2 : n > 128
 ·exact Ev.pos h2 (bad.to (by rw [show decide ((1 ≤ n ∧ n ≤ 128) ∧ l.length ≤ 64) = false by simp; omega]; rfl))
 refine Ev.neg h2 ?_
 by_cases h3 : l.length ≤ 64
 case neg =>
  rw [show decide ((l.length : Int) > 64) = true by simp; omega]
  exact bad.to (by rw [show decide ((1 ≤ n ∧ n ≤ 128) ∧ l.length ≤ 64) = false by simp; omega]; rfl)
 rw [show decide ((l.length : Int) > 64) = false by simp; omega, show decide ((1 ≤ n ∧ n ≤ 128) ∧ l.length ≤ 64) = true by simp; omega]
 refine Ev.succ ?_
 simp only [impl_ChecksOk.j0]
 exact Ev.neg (by simp) ((iChecksOk_l0 n (by omega) l h3 l.length 0 (by omega)).to (by simp))
theorem within_l0 (l : List Int) (a : Int) (ha : 0 ≤ a) (ha' : a ≤ 9000000000000000000) (hl : l.length ≤ 35184372088832) : ∀ (d i : Nat), i + d = l.length → Ev (fun k => impl_within.l0 k a l (l.length : Int) (i : Int)) (allIn a (l.drop i)) := by
 intro d
 induction d with
 | zero =>
  intro i hi
  refine (Ev.round (f := fun _ => some true) (Ev.some_ rfl) (fun k => by simp only [impl_within.l0]; rw [if_neg (by omega)])).to ?_
  rw [List.drop_of_length_le (by omega)]; rfl
 | succ d ih =>
  intro i hi
  rw [drop_rd (xs := l) (i := i) (by omega)]
  by_cases h1 : rd l i < -a
  case pos =>
   refine (Ev.round (f := fun _ => some false) (Ev.some_ rfl) (fun k => ?_)).to (by simp [allIn]; intros; omega)
   simp only [impl_within.l0]
   rw [if_pos (by omega), if_pos (by omega), if_pos (by omega), w64 (n := -a) (by omega) (by omega), if_pos h1]
  by_cases h2 : rd l i > a
  case pos =>
   refine (Ev.round (f := fun _ => some false) (Ev.some_ rfl) (fun k => ?_)).to (by simp [allIn]; intros; omega)
   simp only [impl_within.l0]
   rw [if_pos (by omega), if_pos (by omega), if_pos (by omega), w64 (n := -a) (by omega) (by omega), if_neg h1, if_pos h2]
  refine (Ev.round (ih (i + 1) (by omega)) (fun k => ?_)).to ?_
  ·simp only [impl_within.l0]
   rw [if_pos (by omega), if_pos (by omega), if_pos (by omega), w64 (n := -a) (by omega) (by omega), if_neg h1, if_neg h2, w64_add (by omega) (by omega)]
   simp
  ·simp [allIn]; intros; omega
theorem within_ev (l : List Int) (a : Int) (ha : 0 ≤ a) (ha' : a ≤ 9000000000000000000) (hl : l.length ≤ 35184372088832) : Ev (fun k => impl_within.f k l a) (allIn a l) :=
 (within_l0 l a ha ha' hl l.length 0 (by omega)).to (by simp)
theorem iHint_l7 (l : List (List Int)) (h : List Int) (r n : Int) (own : List (List Int)) (s row o c : List Int) (i j : Nat) (res : List Int × Int × Bool) (hbd : ∀ j : Nat, j < c.length → 0 ≤ rd c j ∧ rd c j < s.length) (hro : rd_L1 own (i : Int) = o) (hol : o.length = c.length) (hob : InAb o 1000) (hcl : c.length ≤ 16) (hil : i < own.length) (hs : InAb s 1025000) (hj : j < row.length) (hrl : row.length ≤ 16) : ∀ (d y : Nat) (least : Int) (neg : Bool), y + d = c.length → 0 ≤ least → least ≤ 1000 →
 Ev (fun k => impl_PassHints.l6 k l h r own n s (i : Int) c (row.set j (msgGo s c o j d y least neg)) l (l.length : Int) (i : Int) (c.length : Int) ((j : Int) + 1)) res → Ev (fun k => impl_PassHints.l7 k l h r own n s (i : Int) c row (j : Int) least neg l (l.length : Int) (i : Int) (c.length : Int) (j : Int) c (c.length : Int) (y : Int)) res := by
 intro d
 induction d with
 | zero =>
  intro y least neg hy h0 h1 H
  refine Ev.succ ?_
  simp only [impl_PassHints.l7]
  refine Ev.neg (by omega) ?_
  rw [w64_add (i := (j : Int)) (by omega) (by omega), w64 (n := -least) (by omega) (by omega)]
  simp only [msgGo] at H
  cases neg
  ·refine Ev.neg (by simp) (Ev.pos (by omega) (Ev.pos (by omega) ?_))
   simpa using H
  ·refine Ev.pos rfl (Ev.pos (by omega) (Ev.pos (by omega) ?_))
   simpa using H
 | succ d ih =>
  intro y least neg hy h0 h1 H
  have hv := hbd y (by omega)
  have hov := hob _ (rd_mem (xs := o) (i := y) (by omega))
  have hsv : -1025000 ≤ rd s (rd c y) ∧ rd s (rd c y) ≤ 1025000 := by
   obtain ⟨p, hp⟩ : ∃ p : Nat, rd c (y : Int) = (p : Int) := ⟨(rd c (y : Int)).toNat, by omega⟩
   rw [hp]; exact hs _ (rd_mem (by omega))
  refine Ev.succ ?_
  simp only [impl_PassHints.l7]
  refine Ev.pos (by omega) (Ev.pos (by omega) (Ev.pos (by omega) ?_))
  rw [w64_add (i := (y : Int)) (by omega) (by omega)]
  rw [msgGo] at H
  by_cases hjy : y = j
  ·rw [if_pos hjy] at H
   exact Ev.pos (by omega) (ih (y + 1) least neg (by omega) h0 h1 H)
  rw [if_neg hjy] at H
  refine Ev.neg (by omega) (Ev.pos hv.1 (Ev.pos hv.2 (Ev.pos (by omega) (Ev.pos (by omega) ?_))))
  rw [hro]
  refine Ev.pos (by omega) ?_
  generalize hx : rd s (rd c y) - rd o y = x at H ⊢
  rw [w64 (n := x) (by omega) (by omega), w64 (n := -x) (by omega) (by omega)]
  by_cases hneg : x < 0
  case neg =>
   rw [if_neg hneg] at H
   exact Ev.neg hneg (ih (y + 1) _ _ (by omega) (by unfold mn; split <;> omega) (by unfold mn; split <;> omega) H)
  rw [if_pos hneg] at H
  exact Ev.pos hneg (ih (y + 1) _ _ (by omega) (by unfold mn; split <;> omega) (by unfold mn; split <;> omega) H)
theorem iHint_l6 (l : List (List Int)) (h : List Int) (r n : Int) (own : List (List Int)) (s o c : List Int) (i : Nat) (res : List Int × Int × Bool) (hbd : ∀ j : Nat, j < c.length → 0 ≤ rd c j ∧ rd c j < s.length) (hro : rd_L1 own (i : Int) = o) (hol : o.length = c.length) (hob : InAb o 1000) (hcl : c.length ≤ 16) (hil : i < own.length) (hs : InAb s 1025000) (hi : i < l.length) (hll : l.length ≤ 64) : ∀ (d j : Nat) (A : List Int), j + d = c.length → A.length = j →
 Ev (fun k => impl_PassHints.l5 k l h r (own.set i (A ++ rowNext s c o d j)) n s l (l.length : Int) ((i : Int) + 1)) res → Ev (fun k => impl_PassHints.l6 k l h r own n s (i : Int) c (A ++ List.replicate d 0) l (l.length : Int) (i : Int) (c.length : Int) (j : Int)) res := by
 intro d
 induction d with
 | zero =>
  intro j A hj hA H
  refine Ev.succ ?_
  simp only [impl_PassHints.l6]
  refine Ev.neg (by omega) (Ev.pos (by omega) (Ev.pos (by omega) ?_))
  rw [w64_add (i := (i : Int)) (by omega) (by omega)]
  simpa [rowNext] using H
 | succ d ih =>
  intro j A hj hA H
  refine Ev.succ ?_
  simp only [impl_PassHints.l6]
  refine Ev.pos (by omega) ?_
  rw [rowNext] at H
  refine iHint_l7 l h r n own s _ o c i j res hbd hro hol hob hcl hil hs (by simp; omega) (by simp; omega) c.length 0 1000 false (by omega) (by omega) (by omega) ?_
  have e : (A ++ List.replicate (d + 1) 0).set j (msgGo s c o j c.length 0 1000 false) = (A ++ [msgGo s c o j c.length 0 1000 false]) ++ List.replicate d 0 := by
   subst hA; simp [List.replicate_succ]
  rw [e]
  refine ih (j + 1) _ (by omega) (by simp; omega) ?_
  simpa using H
theorem iHint_l5 (l : List (List Int)) (h : List Int) (r n : Int) (own : List (List Int)) (s : List Int) (res : List Int × Int × Bool) (hc : ChecksIn l s.length) (ho : OwnOk l own) (hs : InAb s 1025000) : ∀ (d i : Nat) (A : List (List Int)), i + d = l.length → A.length = i →
 Ev (fun k => impl_PassHints.l1 k l h r (A ++ ownNext s l own d i) (wrap64 (n + 1))) res → Ev (fun k => impl_PassHints.l5 k l h r (A ++ own.drop i) n s l (l.length : Int) (i : Int)) res := by
 intro d
 have hll := hc.len
 have holen := ho.len
 induction d with
 | zero =>
  intro i A hi hA H
  refine Ev.succ ?_
  simp only [impl_PassHints.l5]
  refine Ev.neg (by omega) ?_
  rw [List.drop_of_length_le (by omega)]
  simpa [ownNext] using H
 | succ d ih =>
  intro i A hi hA H
  have hr := hc.row i (by omega)
  refine Ev.succ ?_
  simp only [impl_PassHints.l5]
  refine Ev.pos (by omega) (Ev.pos (by omega) (Ev.pos (by omega) (Ev.pos (by omega) (Ev.pos (by omega) ?_))))
  rw [ownNext] at H
  have hro : rd_L1 (A ++ own.drop i) (i : Int) = rd_L1 own (i : Int) := by
   rw [drop_rdL1 (by omega)]; subst hA; simp [rd_L1, List.getD_eq_getElem?_getD]
  have := iHint_l6 l h r n (A ++ own.drop i) s (rd_L1 own i) (rd_L1 l i) i res (fun j hj => by have := hc.bd i (by omega) j hj; omega) hro (ho.row i (by omega)) (ho.bd i (by omega)) (by omega) (by simp; omega) hs (by omega) hll (rd_L1 l i).length 0 [] (by omega) rfl (by
   have e : ∀ v, (A ++ own.drop i).set i v = (A ++ [v]) ++ own.drop (i + 1) := fun v => by
    rw [drop_rdL1 (by omega)]; subst hA; simp
   rw [e]
   refine ih (i + 1) _ (by omega) (by simp; omega) ?_
   simpa using H)
  exact this
theorem iHint_l3 (l : List (List Int)) (h : List Int) (r n : Int) (own : List (List Int)) (o c : List Int) (i : Nat) (N : Int) (res : List Int × Int × Bool) (hbd : ∀ j : Nat, j < c.length → 0 ≤ rd c j ∧ rd c j < N) (hro : rd_L1 own (i : Int) = o) (hol : o.length = c.length) (hob : InAb o 1000) (hcl : c.length ≤ 16) (hil : i < own.length) (hi : i < 64) : ∀ (d j : Nat) (s : List Int), j + d = c.length → (s.length : Int) = N → InAb s (1000 + 16000 * i + 1000 * j) →
 Ev (fun k => impl_PassHints.l2 k l h r own n (sumRow c o d j s) l (l.length : Int) ((i : Int) + 1)) res → Ev (fun k => impl_PassHints.l3 k l h r own n s (i : Int) l (l.length : Int) (i : Int) c (c.length : Int) (j : Int)) res := by
 intro d
 induction d with
 | zero =>
  intro j s hj hn hb H
  refine Ev.succ ?_
  simp only [impl_PassHints.l3]
  refine Ev.neg (by omega) ?_
  rw [w64_add (i := (i : Int)) (by omega) (by omega)]
  exact H
 | succ d ih =>
  intro j s hj hn hb H
  have hv := hbd j (by omega)
  have hov := hob _ (rd_mem (xs := o) (i := j) (by omega))
  rw [sumRow] at H
  obtain ⟨p, hp⟩ : ∃ p : Nat, rd c (j : Int) = (p : Int) := ⟨(rd c (j : Int)).toNat, by omega⟩
  have hpl : p < s.length := by omega
  have hsv := hb _ (rd_mem hpl)
  refine Ev.succ ?_
  simp only [impl_PassHints.l3]
  refine Ev.pos (by omega) (Ev.pos (by omega) (Ev.pos (by omega) (Ev.pos hv.1 (Ev.pos (by omega) (Ev.pos (by omega) (Ev.pos (by omega) ?_))))))
  rw [hro]
  refine Ev.pos (by omega) ?_
  rw [hp] at H ⊢
  rw [w64_add (i := (j : Int)) (by omega) (by omega), w64 (n := rd s (p : Int) + _) (by omega) (by omega)]
  exact ih (j + 1) _ (by omega) (by rw [List.length_set]; exact hn) ((InAb.set hb hpl hov).mono (by omega)) H
theorem iHint_l2 (l : List (List Int)) (h : List Int) (r n : Int) (own : List (List Int)) (N : Int) (res : List Int × Int × Bool) (hc : ChecksIn l N) (ho : OwnOk l own) (hh : h.length ≤ 128) : ∀ (d i : Nat) (s : List Int), i + d = l.length → (s.length : Int) = N → InAb s (1000 + 16000 * i) →
 Ev (fun k => impl_PassHints.l4 k l h r own n (sumAll l own d i s) (List.replicate h.length 0) (s.length : Int) 0) res → Ev (fun k => impl_PassHints.l2 k l h r own n s l (l.length : Int) (i : Int)) res := by
 intro d
 have hll := hc.len
 have holen := ho.len
 induction d with
 | zero =>
  intro i s hi hn hb H
  refine Ev.succ ?_
  simp only [impl_PassHints.l2]
  exact Ev.neg (by omega) (Ev.pos (by omega) (Ev.pos (by omega) H))
 | succ d ih =>
  intro i s hi hn hb H
  have hr := hc.row i (by omega)
  rw [sumAll] at H
  refine Ev.succ ?_
  simp only [impl_PassHints.l2]
  refine Ev.pos (by omega) (Ev.pos (by omega) (Ev.pos (by omega) ?_))
  refine iHint_l3 l h r n own (rd_L1 own i) (rd_L1 l i) i N res (fun j hj => by have := hc.bd i (by omega) j hj; omega) rfl (ho.row i (by omega)) (ho.bd i (by omega)) (by omega) (by omega) (by omega) (rd_L1 l i).length 0 s (by omega) hn (hb.mono (by omega)) ?_
  have h1 := sumRow_ab (n := N) (ho.bd i (by omega)) (ho.row i (by omega)) (fun j hj => by have := hc.bd i (by omega) j hj; omega) (rd_L1 l i).length 0 s _ (by omega) hn hb
  have h2 := sumRow_len (rd_L1 l i) (rd_L1 own i) (rd_L1 l i).length 0 s
  refine ih (i + 1) _ (by omega) (by rw [h2]; exact hn) (h1.mono (by omega)) ?_
  rw [h2]; exact H
theorem iHint_l4 (l : List (List Int)) (h : List Int) (r n : Int) (own : List (List Int)) (s : List Int) (res : List Int × Int × Bool) (hl : s.length ≤ 128)
 (H : Ev (fun k => (impl_fails.f k l (wordOf s)).bind fun t => (if (t.length : Int) = 0 then (impl_PassHints.j6 k l h r own n s (wordOf s) ((t.length : Int) == 0) true) else (impl_PassHints.j6 k l h r own n s (wordOf s) ((t.length : Int) == 0) (n == r)))) res) : ∀ (d i : Nat), i + d = s.length →
 Ev (fun k => impl_PassHints.l4 k l h r own n s (wordOf (s.take i) ++ List.replicate d 0) (s.length : Int) (i : Int)) res := by
 intro d
 induction d with
 | zero =>
  intro i hi
  refine Ev.succ ?_
  simp only [impl_PassHints.l4]
  refine Ev.neg (by omega) ?_
  rw [List.take_of_length_le (by omega)]
  simpa using H
 | succ d ih =>
  intro i hi
  have hw : (wordOf (s.take i)).length = i := by rw [wordOf_len, List.length_take]; omega
  refine Ev.succ ?_
  simp only [impl_PassHints.l4]
  refine Ev.pos (by omega) (Ev.pos (by omega) (Ev.pos (by omega) ?_))
  rw [w64_add (by omega) (by omega)]
  have hn := ih (i + 1) (by omega)
  rw [take_rd (by omega), show wordOf (s.take i ++ [rd s (i : Int)]) = wordOf (s.take i) ++ [if rd s (i : Int) < 0 then 1 else 0] by simp [wordOf]] at hn
  by_cases hx : rd s i < 0
  case neg =>
   rw [if_neg hx] at hn
   refine Ev.neg hx ?_
   have e : wordOf (s.take i) ++ List.replicate (d + 1) 0 = (wordOf (s.take i) ++ [0]) ++ List.replicate d 0 := by simp [List.replicate_succ]
   rw [e]; exact hn
  rw [if_pos hx] at hn
  refine Ev.pos hx (Ev.pos (by simp [hw]; omega) ?_)
  have e : (wordOf (s.take i) ++ List.replicate (d + 1) 0).set ((i : Int)).toNat 1 = (wordOf (s.take i) ++ [1]) ++ List.replicate d 0 := by
   rw [show ((i : Int)).toNat = i from rfl]
   generalize wordOf (s.take i) = A at hw
   subst hw; simp [List.replicate_succ]
  rw [e]; exact hn
theorem iHint_l1 (l : List (List Int)) (h : List Int) (hcb : checksB l (h.length : Int) = true) (hh : InAb h 1000) (r : Int) (hr : r ≤ 50) : ∀ (d : Nat) (own : List (List Int)) (n : Int), n + d = r → 0 ≤ n → OwnOk l own → Ev (fun k => impl_PassHints.l1 k l h r own n) (hintGo l h d own n) := by
 intro d
 have hc := checksIn hcb
 have hn1 := hc.n1
 have start : ∀ (own : List (List Int)) (n : Int) (res : List Int × Int × Bool), OwnOk l own → Ev (fun k => (impl_fails.f k l (wordOf (sumsOf l own h))).bind fun t => (if (t.length : Int) = 0 then (impl_PassHints.j6 k l h r own n (sumsOf l own h) (wordOf (sumsOf l own h)) ((t.length : Int) == 0) true) else (impl_PassHints.j6 k l h r own n (sumsOf l own h) (wordOf (sumsOf l own h)) ((t.length : Int) == 0) (n == r)))) res → Ev (fun k => impl_PassHints.l1 k l h r own n) res := fun own n res ho H => by
  have hsl := sumsOf_len l own h
  refine Ev.succ ?_
  simp only [impl_PassHints.l1]
  refine Ev.next (Ev.here (show slices_Clone_int_int.f h = some h from if_pos (by omega))) ?_
  refine iHint_l2 l h r n own h.length res hc ho (by omega) l.length 0 h (by omega) rfl (hh.mono (by omega)) ?_
  have := iHint_l4 l h r n own (sumsOf l own h) res (by omega) H (sumsOf l own h).length 0 (by omega)
  rw [hsl] at this
  simpa [wordOf, sumsOf] using this
 induction d with
 | zero =>
  intro own n hd hn ho
  have hsl := sumsOf_len l own h
  have hwl := wordOf_len (sumsOf l own h)
  have fin : ∀ b, b = decide ((failsFrom (wordOf (sumsOf l own h)) l 0).length = 0) → Ev (fun k => impl_PassHints.j6 k l h r own n (sumsOf l own h) (wordOf (sumsOf l own h)) b true) (hintGo l h 0 own n) := fun b hb => by
   subst hb
   refine Ev.succ ?_
   simp only [impl_PassHints.j6]
   exact Ev.pos trivial (Ev.some_ (by rw [hintGo]))
  refine start own n _ ho (Ev.next (ifails_ev l _ (by rw [hwl, hsl]; exact hc) (wordOf_bits _)) ?_)
  rw [show (n == r) = true by simp; omega]
  exact Ev.both (fun _ => fin _ (len_nil3 _)) (fun _ => fin _ (len_nil3 _))
 | succ d ih =>
  intro own n hd hn ho
  have hsl := sumsOf_len l own h
  have hwl := wordOf_len (sumsOf l own h)
  refine start own n _ ho (Ev.next (ifails_ev l _ (by rw [hwl, hsl]; exact hc) (wordOf_bits _)) ?_)
  rw [show (n == r) = false by simp; omega, hintGo]
  by_cases h0 : (failsFrom (wordOf (sumsOf l own h)) l 0).length = 0
  case pos =>
   rw [if_pos h0]
   refine Ev.pos (by omega) (Ev.succ ?_)
   simp only [impl_PassHints.j6]
   exact Ev.pos trivial (Ev.some_ (by rw [h0]; rfl))
  rw [if_neg h0]
  refine Ev.neg (by omega) (Ev.succ ?_)
  simp only [impl_PassHints.j6]
  refine Ev.neg (by simp) ?_
  have := iHint_l5 l h r n own (sumsOf l own h) (hintGo l h d (ownNext (sumsOf l own h) l own l.length 0) (n + 1)) (by rw [hsl]; exact hc) ho (sumsOf_ab hc ho hh) l.length 0 [] (by omega) rfl (by
   rw [w64_add (by omega) (by omega), List.nil_append]
   exact ih _ (n + 1) (by omega) (by omega) (ownNext_ok _ _ _))
  simpa using this
theorem iHint_l0 (l : List (List Int)) (h : List Int) (r : Int) (res : List Int × Int × Bool) (hl : l.length ≤ 64) (hx : ∀ i : Nat, i < l.length → (rd_L1 l i).length ≤ 16) (H : Ev (fun k => impl_PassHints.l1 k l h r (l.map zeroRow) 0) res) : ∀ (d i : Nat), i + d = l.length → Ev (fun k => impl_PassHints.l0 k l h r ((l.take i).map zeroRow ++ List.replicate d []) l (l.length : Int) (i : Int)) res := by
 intro d
 induction d with
 | zero =>
  intro i hi
  refine Ev.succ ?_
  simp only [impl_PassHints.l0]
  refine Ev.neg (by omega) ?_
  rw [List.take_of_length_le (by omega)]; simpa using H
 | succ d ih =>
  intro i hi
  have := hx i (by omega)
  refine Ev.succ ?_
  simp only [impl_PassHints.l0]
  refine Ev.pos (by omega) (Ev.pos (by omega) (Ev.pos (by omega) (Ev.pos (by omega) (Ev.pos (by omega) (Ev.pos (by simp; omega) ?_)))))
  rw [w64_add (by omega) (by omega)]
  have e : ((l.take i).map zeroRow ++ List.replicate (d + 1) []).set ((i : Int)).toNat (List.replicate ((rd_L1 l i).length : Int).toNat 0) = (l.take (i + 1)).map zeroRow ++ List.replicate d [] := by
   rw [take_rdL1 (by omega)]
   have hw : ((l.take i).map zeroRow).length = i := by simp; omega
   rw [show ((i : Int)).toNat = i from rfl, show ((rd_L1 l i).length : Int).toNat = (rd_L1 l i).length from rfl, List.map_append]
   generalize (l.take i).map zeroRow = A at hw
   subst hw; simp [List.replicate_succ, zeroRow]
  rw [e]
  exact ih (i + 1) (by omega)
theorem iHint_ev (l : List (List Int)) (h : List Int) (r : Int) (hw : h.length ≤ 1048576) : Ev (fun k => impl_PassHints.f k l h r) (hintV l h r) := by
 have bad : Ev (fun k => impl_PassHints.j0 k l h r true) ([], 0, false) := by
  refine Ev.succ ?_
  simp only [impl_PassHints.j0]
  exact Ev.pos trivial (Ev.some_ rfl)
 unfold impl_PassHints.f hintV
 refine Ev.next (iChecksOk_ev l h.length) ?_
 cases hcb : checksB l (h.length : Int)
 ·rw [if_neg (by simp)]; exact Ev.neg (by simp) bad
 refine Ev.pos rfl (Ev.next (within_ev h 1000 (by omega) (by omega) (by omega)) ?_)
 cases hab : allIn 1000 h
 ·rw [if_neg (by simp)]; exact Ev.neg (by simp) bad
 refine Ev.pos rfl ?_
 have hr0 : impl_roundsOk.f r = some (decide (0 ≤ r ∧ r ≤ 50)) := by
  unfold impl_roundsOk.f
  by_cases h : r ≥ 0
  case pos => rw [if_pos h]; simp [h]
  rw [if_neg h]; simp; omega
 refine Ev.next (Ev.here hr0) ?_
 by_cases hr : 0 ≤ r ∧ r ≤ 50
 case neg =>
  rw [if_neg (by simp; omega), show (!decide (0 ≤ r ∧ r ≤ 50)) = true by simp; omega]
  exact bad
 rw [if_pos (by simp; omega), show (!decide (0 ≤ r ∧ r ≤ 50)) = false by simp; omega]
 refine Ev.succ ?_
 simp only [impl_PassHints.j0]
 have hc := checksIn hcb
 have hll := hc.len
 refine Ev.neg (by simp) (Ev.pos (by omega) (Ev.pos (by omega) ?_))
 have := iHint_l0 l h r _ hc.len (fun i hi => (hc.row i hi).2) (iHint_l1 l h hcb (fun x hx => allIn_iff.1 hab x hx) r hr.2 r.toNat _ 0 (by omega) (by omega) (zero_ok l)) l.length 0 (by omega)
 simpa using this
def iota (a : Int) : Nat → List Int
 | 0 => []
 | n + 1 => a :: iota (a + 1) n
theorem iota_length : ∀ (n : Nat) (a : Int), (iota a n).length = n
 | 0, _ => rfl
 | n + 1, a => by simp [iota, iota_length n]
theorem markIntS_l0 (m : Nat) (hm : m ≤ 1048576) : ∀ (d i : Nat) (l : List Int) (a : Int), i + d = l.length → l.length ≤ 1048576 → 0 ≤ a → a ≤ 1000000000 + i → Ev (fun k => laws_markIntS.l0 k l a (i : Int)) (a + d, l.take i ++ iota a d) := by
 intro d
 induction d with
 | zero =>
  intro i l a hi hl h0 h1
  refine Ev.succ ?_
  simp only [laws_markIntS.l0]
  refine Ev.neg (by omega) (Ev.some_ ?_)
  rw [List.take_of_length_le (by omega)]; simp [iota]
 | succ d ih =>
  intro i l a hi hl h0 h1
  refine Ev.succ ?_
  simp only [laws_markIntS.l0]
  refine Ev.pos (by omega) (Ev.pos (by omega) ?_)
  rw [w64_add (by omega) (by omega), w64_add (by omega) (by omega)]
  refine (ih (i + 1) (l.set i a) (a + 1) (by simp; omega) (by simpa using hl) (by omega) (by omega)).to ?_
  rw [take_set_end (by omega)]
  simp only [iota, List.append_assoc, List.cons_append, List.nil_append, Prod.mk.injEq, and_true]
  omega
theorem markIntS_ev (l : List Int) (a : Int) (hl : l.length ≤ 1048576) (h0 : 0 ≤ a) (h1 : a ≤ 1000000000) : Ev (fun k => laws_markIntS.f k l a) (a + l.length, iota a l.length) := by
 unfold laws_markIntS.f
 exact (markIntS_l0 l.length hl l.length 0 l a (by omega) hl h0 (by omega)).to (by simp)
theorem heldIntS_l0 (p : List Int) : ∀ (d : Nat) (a : Int) (l : List Int), l = p ++ iota a d → l.length ≤ 1048576 → ∀ i : Nat, i = p.length → 0 ≤ a → a ≤ 1000000000 + i → Ev (fun k => laws_heldIntS.l0 k l a (i : Int)) (a + d) := by
 intro d
 induction d generalizing p with
 | zero =>
  intro a l hl hn i hi h0 h1
  refine Ev.succ ?_
  simp only [laws_heldIntS.l0]
  have : l.length = p.length := by rw [hl]; simp [iota]
  exact Ev.neg (by omega) (Ev.some_ (by omega))
 | succ d ih =>
  intro a l hl hn i hi h0 h1
  have e : l.length = p.length + (d + 1) := by rw [hl]; simp [iota, iota_length]
  refine Ev.succ ?_
  simp only [laws_heldIntS.l0]
  refine Ev.pos (by omega) (Ev.pos (by omega) (Ev.pos ?_ ?_))
  ·rw [rd_get l i (by omega)]
   subst hl
   rw [List.getElem_append_right (by omega)]
   simp [iota, hi]
  ·rw [w64_add (by omega) (by omega), w64_add (by omega) (by omega)]
   exact (ih (p ++ [a]) (a + 1) l (by rw [hl]; simp [iota]) hn (i + 1) (by simp [hi]) (by omega) (by omega)).to (by omega)
theorem heldIntS_ev (n : Nat) (a : Int) (hn : n ≤ 1048576) (h0 : 0 ≤ a) (h1 : a ≤ 1000000000) : Ev (fun k => laws_heldIntS.f k (iota a n) a) (a + n) :=
 heldIntS_l0 [] n a (iota a n) (by simp) (by rw [iota_length]; exact hn) 0 rfl h0 (by omega)
theorem markSS_go (l : List (List Int)) : ∀ (a : Int), 0 ≤ a → a + totL l ≤ 1000000000 → (∀ x ∈ l, x.length ≤ 1048576) → Ev (fun k => laws_markIntSS.go k l a) (a + totL l) := by
 induction l with
 | nil => intro a _ _ _; exact Ev.some_ (by simp [totL])
 | cons x l ih =>
  intro a h0 h1 hx
  have hn := totL_nonneg l
  simp only [totL] at h1 ⊢
  simp only [laws_markIntSS.go]
  exact Ev.next (markIntS_ev x a (hx x (by simp)) h0 (by omega)) ((ih (a + x.length) (by omega) (by omega) (fun y hy => hx y (by simp [hy]))).to (by omega))
theorem markIntSS_ev (l : List (List Int)) (a : Int) (hl : l.length ≤ 1048576) (h0 : 0 ≤ a) (h1 : a + totL l ≤ 1000000000) (hx : ∀ x ∈ l, x.length ≤ 1048576) : Ev (fun k => laws_markIntSS.f k l a) (a + totL l) := by
 unfold laws_markIntSS.f
 exact Ev.pos (by omega) (markSS_go l a h0 h1 hx)
theorem hintGo_len (l : List (List Int)) (h : List Int) : ∀ (d : Nat) (own : List (List Int)) (n : Int), (hintGo l h d own n).1.length = h.length
 | 0, own, _ => by show (wordOf _).length = _; rw [wordOf_len, sumsOf_len]
 | d + 1, own, n => by
  unfold hintGo
  split
  ·show (wordOf _).length = _; rw [wordOf_len, sumsOf_len]
  ·exact hintGo_len l h d _ _
theorem hintV_len (l : List (List Int)) (h : List Int) (r : Int) : (hintV l h r).1.length ≤ h.length := by
 unfold hintV
 split
 ·rw [hintGo_len]; omega
 ·simp
theorem FnExactPassHints (l0 : List (List Int)) (l1 : List Int) (a2 : Int) (m0 : l0.length ≤ maxLen) (w0 : ∀ x ∈ l0, x.length ≤ maxLen ∧ ∀ y ∈ x, (Lit.int .i64 y).wf = true) (m1 : l1.length ≤ maxLen) (w1 : ∀ x ∈ l1, (Lit.int .i64 x).wf = true) (w2 : (Lit.int .i64 a2).wf = true) : ∃ k, laws_FnExactPassHints.f k l0 l1 a2 = some true := by
 refine Ev.rounds ?_
 unfold laws_FnExactPassHints.f
 by_cases hl : (l1.length : Int) > 1048576
 ·exact Ev.pos hl (Ev.some_ rfl)
 refine Ev.neg hl (Ev.next (szIntSS_ev l0 1048576 (by omega) (by omega) m0 (fun x hx => (w0 x hx).1)) ?_)
 have hp := totL_nonneg l0
 by_cases h : (1048576 : Int) < l0.length + totL l0
 ·rw [leftB_lt h]; exact Ev.pos (by omega) (Ev.some_ rfl)
 rw [leftB_ge h]
 have hx : ∀ x ∈ l0, x.length ≤ 1048576 := fun x hx => by have := totL_mem hx; omega
 have hx2 : ∀ x ∈ l0, x.length ≤ 35184372088832 := fun x h_ => by have := hx x h_; omega
 have ht := toIntSS_ev l0 (by omega) hx2
 have ti := toIntS_ev l1 (by omega)
 have si := sHint_ev l0 l1 a2 (by omega)
 have ii := iHint_ev l0 l1 a2 (by omega)
 have hg : (hintV l0 l1 a2).1.length ≤ 1048576 := by have := hintV_len l0 l1 a2; omega
 have ee := eqIntS_ev (hintV l0 l1 a2).1 (hintV l0 l1 a2).1 (by omega)
 refine Ev.neg (by omega) (Ev.next ht (Ev.next ti (Ev.next si (Ev.next ht (Ev.next ti (Ev.next ii (Ev.next ee (Ev.pos (by simp) (Ev.pos (by first | rfl | trivial) ?_)))))))))
 refine Ev.succ ?_
 simp only [laws_FnExactPassHints.j0]
 refine Ev.neg (by simp) (Ev.next ht (Ev.next (eqIntSS_ev l0 l0 (by omega) hx2) (Ev.pos (by simp) (Ev.next ti (Ev.next (eqIntS_ev l1 l1 (by omega)) (Ev.pos (by simp) (Ev.next (markIntSS_ev l0 1 (by omega) (by omega) (by omega) hx) (Ev.next (markIntS_ev l1 _ (by omega) (by omega) (by omega)) (Ev.neg (by simp only; omega) (Ev.next ee (Ev.pos (by simp) (Ev.pos (by first | rfl | trivial) ?_))))))))))))
 refine Ev.succ ?_
 simp only [laws_FnExactPassHints.j1]
 have hh := heldIntS_ev (hintV l0 l1 a2).1.length 1 (by omega) (by omega) (by omega)
 refine Ev.neg (by simp) (Ev.next (markIntS_ev (hintV l0 l1 a2).1 1 (by omega) (by omega) (by omega)) (Ev.next hh (Ev.neg (by omega) (Ev.pos rfl (Ev.next ht (Ev.next ti (Ev.next ii (Ev.next ee (Ev.pos (by simp) (Ev.pos (by first | rfl | trivial) ?_))))))))))
 refine Ev.succ ?_
 simp only [laws_FnExactPassHints.j2]
 exact Ev.neg (by simp) (Ev.next hh (Ev.neg (by omega) (Ev.pos rfl (Ev.some_ rfl))))
end Go.Proofs.Ytpphjbogijjnpaa.Pure
