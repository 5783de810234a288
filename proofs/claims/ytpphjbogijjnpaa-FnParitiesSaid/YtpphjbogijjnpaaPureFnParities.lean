import Derived.Test.YtpphjbogijjnpaaPFnParitiesx16
import Derived.Test.YtpphjbogijjnpaaAidU
set_option linter.unusedVariables false
set_option linter.unusedSimpArgs false
namespace Go.Proofs.Ytpphjbogijjnpaa.Pure
open Go Go.RowKit Go.Proofs.Ytpphjbogijjnpaa.PFnParities Go.Proofs.YtpphjbogijjnpaaW.PrintWords Go.Proofs.YtpphjbogijjnpaaW.PrintLast Go.Proofs.YtpphjbogijjnpaaW.PrintMore
theorem rdL1_nat (xs : List (List Int)) (i : Nat) (h : i < xs.length) : rd_L1 xs (i : Int) = xs[i] := by simp [rd_L1, List.getD_eq_getElem?_getD, h]
theorem rdL1_mem {xs : List (List Int)} {i : Nat} (h : i < xs.length) : rd_L1 xs (i : Int) ∈ xs := by rw [rdL1_nat xs i h]; exact List.getElem_mem h
theorem drop_rdL1 {xs : List (List Int)} {i : Nat} (h : i < xs.length) : xs.drop i = rd_L1 xs (i : Int) :: xs.drop (i + 1) := by rw [rdL1_nat xs i h]; exact List.drop_eq_getElem_cons h
theorem take_rdL1 {xs : List (List Int)} {i : Nat} (h : i < xs.length) : xs.take (i + 1) = xs.take i ++ [rd_L1 xs (i : Int)] := by rw [rdL1_nat xs i h]; exact (List.take_append_getElem h).symm
def ascB (n : Int) (c : List Int) : Nat → Nat → Bool
 | 0, _ => true
 | d + 1, i => if (0 ≤ rd c i ∧ rd c i ≤ n - 1) ∧ (i = 0 ∨ rd c ((i : Int) - 1) < rd c i) then ascB n c d (i + 1) else false
def checkB (n : Int) (c : List Int) : Bool := decide (2 ≤ c.length ∧ c.length ≤ 16) && ascB n c c.length 0
def zcB (l : List (List Int)) (n : Int) : Bool := decide ((1 ≤ n ∧ n ≤ 128) ∧ l.length ≤ 64) && l.all (checkB n)
def bitOk (x : Int) : Bool := decide (x = 0 ∨ x = 1)
theorem allBits_iff {l : List Int} : l.all bitOk = true ↔ ∀ x ∈ l, x = 0 ∨ x = 1 := by simp [List.all_eq_true, bitOk]
def bitsB (l : List Int) : Bool := l.all bitOk && decide (l.length ≤ 1024)
theorem bitsB_iff {l : List Int} : bitsB l = true ↔ (∀ x ∈ l, x = 0 ∨ x = 1) ∧ l.length ≤ 1024 := by
 unfold bitsB; rw [Bool.and_eq_true, allBits_iff]; simp
def failSum (w c : List Int) (s : Int) : Int := c.foldl (fun s x => s + rd w x) s
def zfF (w : List Int) : List (List Int) → Int → List Int
 | [], _ => []
 | c :: cs, i => if failSum w c 0 % 2 = 1 then i :: zfF w cs (i + 1) else zfF w cs (i + 1)
def failsV (l : List (List Int)) (w : List Int) : List Int × Bool := if (bitsB w && zcB l (w.length : Int)) = true then (zfF w l 0, true) else ([], false)
theorem asc_bd {n : Int} {c : List Int} : ∀ (d i : Nat), ascB n c d i = true → ∀ j : Nat, i ≤ j → j < i + d → 0 ≤ rd c j ∧ rd c j ≤ n - 1 := by
 intro d
 induction d with
 | zero => intro i _ j h1 h2; omega
 | succ d ih =>
  intro i h j h1 h2
  unfold ascB at h
  split at h
  ·rename_i hc
   by_cases hj : j = i
   case pos => subst hj; exact hc.1
   exact ih (i + 1) h j (by omega) (by omega)
  ·cases h
structure ChecksIn (l : List (List Int)) (n : Int) : Prop where
  n1 : 1 ≤ n ∧ n ≤ 128
  len : l.length ≤ 64
  row : ∀ i : Nat, i < l.length → 2 ≤ (rd_L1 l i).length ∧ (rd_L1 l i).length ≤ 16
  bd : ∀ i : Nat, i < l.length → ∀ j : Nat, j < (rd_L1 l i).length → 0 ≤ rd (rd_L1 l i) j ∧ rd (rd_L1 l i) j ≤ n - 1
theorem checksIn {l : List (List Int)} {n : Int} (h : zcB l n = true) : ChecksIn l n := by
 unfold zcB at h
 rw [Bool.and_eq_true, decide_eq_true_eq, List.all_eq_true] at h
 have row : ∀ i : Nat, i < l.length → checkB n (rd_L1 l i) = true := fun i hi => h.2 _ (by
  have := drop_rdL1 hi
  exact List.mem_of_mem_drop (i := i) (by rw [this]; exact List.mem_cons_self))
 refine ⟨h.1.1, h.1.2, fun i hi => ?_, fun i hi j hj => ?_⟩
 ·have := row i hi
  unfold checkB at this
  rw [Bool.and_eq_true, decide_eq_true_eq] at this
  exact this.1
 ·have := row i hi
  unfold checkB at this
  rw [Bool.and_eq_true, decide_eq_true_eq] at this
  exact asc_bd _ _ this.2 j (by omega) (by omega)
theorem failSum_step {w c : List Int} {j : Nat} (hj : j < c.length) (s : Int) : failSum w (c.drop j) s = failSum w (c.drop (j + 1)) (s + rd w (rd c j)) := by
 rw [drop_rd hj]; rfl
theorem failSum_nil {w c : List Int} {j : Nat} (hj : c.length ≤ j) (s : Int) : failSum w (c.drop j) s = s := by
 rw [List.drop_of_length_le hj]; rfl
theorem failsFrom_step {w : List Int} {l : List (List Int)} {i : Nat} (hi : i < l.length) : zfF w (l.drop i) i = if failSum w ((rd_L1 l i).drop 0) 0 % 2 = 1 then (i : Int) :: zfF w (l.drop (i + 1)) ((i + 1 : Nat) : Int) else zfF w (l.drop (i + 1)) ((i + 1 : Nat) : Int) := by
 rw [drop_rdL1 hi]; rfl
theorem bitAt {w : List Int} (hw : ∀ x ∈ w, x = 0 ∨ x = 1) {x : Int} (h0 : 0 ≤ x) (h1 : x < w.length) : rd w x = 0 ∨ rd w x = 1 := by
 have := rd_mem (xs := w) (i := x.toNat) (by omega)
 rw [Int.toNat_of_nonneg h0] at this
 exact hw _ this
theorem xor_mod2 (s b : Int) (hb : b = 0 ∨ b = 1) : Go.bits .xor .i64 (s % 2) b = (s + b) % 2 := by
 have h : s % 2 = 0 ∨ s % 2 = 1 := by omega
 rcases h with h | h <;> rcases hb with rfl | rfl
 ·rw [h, show Go.bits .xor .i64 0 0 = 0 by decide +kernel]; omega
 ·rw [h, show Go.bits .xor .i64 0 1 = 1 by decide +kernel]; omega
 ·rw [h, show Go.bits .xor .i64 1 0 = 1 by decide +kernel]; omega
 ·rw [h, show Go.bits .xor .i64 1 1 = 0 by decide +kernel]; omega
theorem failsFrom_len (w : List Int) : ∀ (l : List (List Int)) (i : Int), (zfF w l i).length ≤ l.length := by
 intro l
 induction l with
 | nil => intro i; simp [zfF]
 | cons c l ih => intro i; simp only [zfF]; split <;> (simp only [List.length_cons]; have := ih (i + 1); omega)
theorem failsFrom_in (w : List Int) : ∀ (l : List (List Int)) (i : Int), ∀ x ∈ zfF w l i, i ≤ x ∧ x < i + l.length := by
 intro l
 induction l with
 | nil => intro i x hx; simp [zfF] at hx
 | cons c l ih =>
  intro i x hx
  simp only [zfF] at hx
  simp only [List.length_cons]
  split at hx
  ·rcases List.mem_cons.1 hx with rfl | hx
   ·omega
   ·have := ih (i + 1) x hx; omega
  ·have := ih (i + 1) x hx; omega
def allIn (a : Int) (l : List Int) : Bool := l.all fun x => decide (-a ≤ x) && decide (x ≤ a)
theorem allIn_iff {a : Int} {l : List Int} : allIn a l = true ↔ ∀ x ∈ l, -a ≤ x ∧ x ≤ a := by
 unfold allIn; simp [List.all_eq_true]
def sumRow (c o : List Int) : Nat → Nat → List Int → List Int
 | 0, _, s => s
 | d + 1, j, s => sumRow c o d (j + 1) (s.set (rd c j).toNat (rd s (rd c j) + rd o j))
def sumAll (l own : List (List Int)) : Nat → Nat → List Int → List Int
 | 0, _, s => s
 | d + 1, i, s => sumAll l own d (i + 1) (sumRow (rd_L1 l i) (rd_L1 own i) (rd_L1 l i).length 0 s)
def zwO (s : List Int) : List Int := s.map fun x => if x < 0 then 1 else 0
def msgGo (s c o : List Int) (j : Nat) : Nat → Nat → Int → Bool → Int
 | 0, _, least, neg => if neg = true then -least else least
 | d + 1, y, least, neg => if y = j then msgGo s c o j d (y + 1) least neg else
  if rd s (rd c y) - rd o y < 0 then msgGo s c o j d (y + 1) (if -(rd s (rd c y) - rd o y) < least then -(rd s (rd c y) - rd o y) else least) (!neg)
  else msgGo s c o j d (y + 1) (if rd s (rd c y) - rd o y < least then rd s (rd c y) - rd o y else least) neg
def rowNext (s c o : List Int) : Nat → Nat → List Int
 | 0, _ => []
 | d + 1, j => msgGo s c o j c.length 0 1000 false :: rowNext s c o d (j + 1)
def ownNext (s : List Int) (l own : List (List Int)) : Nat → Nat → List (List Int)
 | 0, _ => []
 | d + 1, i => rowNext s (rd_L1 l i) (rd_L1 own i) (rd_L1 l i).length 0 :: ownNext s l own d (i + 1)
def z0R (c : List Int) : List Int := List.replicate c.length 0
def zsO (l own : List (List Int)) (h : List Int) : List Int := sumAll l own l.length 0 h
def hintGo (l : List (List Int)) (h : List Int) : Nat → List (List Int) → Int → List Int × Int × Bool
 | 0, own, n => (zwO (zsO l own h), n, decide ((zfF (zwO (zsO l own h)) l 0).length = 0))
 | d + 1, own, n => if (zfF (zwO (zsO l own h)) l 0).length = 0 then (zwO (zsO l own h), n, true) else hintGo l h d (ownNext (zsO l own h) l own l.length 0) (n + 1)
def hintV (l : List (List Int)) (h : List Int) (r : Int) : List Int × Int × Bool := if ((zcB l (h.length : Int) && allIn 1000 h) && decide (0 ≤ r ∧ r ≤ 50)) = true then hintGo l h r.toNat (l.map z0R) 0 else ([], 0, false)
def InAb (s : List Int) (b : Int) : Prop := ∀ x ∈ s, -b ≤ x ∧ x ≤ b
structure OwnOk (l own : List (List Int)) : Prop where
  len : own.length = l.length
  row : ∀ i : Nat, i < l.length → (rd_L1 own i).length = (rd_L1 l i).length
  bd : ∀ i : Nat, i < l.length → InAb (rd_L1 own i) 1000
theorem InAb.mono {s : List Int} {b c : Int} (h : InAb s b) (hc : b ≤ c) : InAb s c := fun x hx => by have := h x hx; omega
theorem InAb.set {s : List Int} {b v : Int} {p : Nat} (h : InAb s b) (hp : p < s.length) (hv : -1000 ≤ v ∧ v ≤ 1000) : InAb (s.set p (rd s p + v)) (b + 1000) := fun x hx => by
 have := h _ (rd_mem hp)
 rcases List.mem_or_eq_of_mem_set hx with h2 | h2
 ·have := h x h2; omega
 ·omega
theorem sumRow_len (c o : List Int) : ∀ (d j : Nat) (s : List Int), (sumRow c o d j s).length = s.length
 | 0, _, _ => rfl
 | d + 1, j, s => by unfold sumRow; rw [sumRow_len c o d, List.length_set]
theorem sumRow_ab {c o : List Int} {n : Int} (ho : InAb o 1000) (hl : o.length = c.length) (hc : ∀ j : Nat, j < c.length → 0 ≤ rd c j ∧ rd c j < n) : ∀ (d j : Nat) (s : List Int) (b : Int), j + d = c.length → (s.length : Int) = n → InAb s b → InAb (sumRow c o d j s) (b + 1000 * d)
 | 0, _, _, _, _, _, h => h.mono (by omega)
 | d + 1, j, s, b, hj, hn, h => by
  have h1 := hc j (by omega)
  obtain ⟨p, hp⟩ : ∃ p : Nat, rd c (j : Int) = (p : Int) := ⟨(rd c (j : Int)).toNat, by omega⟩
  unfold sumRow
  rw [hp]
  exact (sumRow_ab ho hl hc d (j + 1) _ (b + 1000) (by omega) (by rw [List.length_set]; exact hn) (InAb.set h (by omega) (ho _ (rd_mem (by omega))))).mono (by omega)
theorem sumAll_len (l own : List (List Int)) : ∀ (d i : Nat) (s : List Int), (sumAll l own d i s).length = s.length
 | 0, _, _ => rfl
 | d + 1, i, s => by unfold sumAll; rw [sumAll_len l own d, sumRow_len]
theorem sumAll_ab {l own : List (List Int)} {n : Int} (hc : ChecksIn l n) (ho : OwnOk l own) : ∀ (d i : Nat) (s : List Int) (b : Int), i + d = l.length → (s.length : Int) = n → InAb s b → InAb (sumAll l own d i s) (b + 16000 * d)
 | 0, _, _, _, _, _, h => h.mono (by omega)
 | d + 1, i, s, b, hi, hn, h => by
  have hr := hc.row i (by omega)
  unfold sumAll
  have h1 := sumRow_ab (n := n) (ho.bd i (by omega)) (ho.row i (by omega)) (fun j hj => by have := hc.bd i (by omega) j hj; omega) (rd_L1 l i).length 0 s b (by omega) hn h
  exact (sumAll_ab hc ho d (i + 1) _ (b + 16000) (by omega) (by rw [sumRow_len]; exact hn) (h1.mono (by omega))).mono (by omega)
theorem sumsOf_ab {l own : List (List Int)} {h : List Int} (hc : ChecksIn l h.length) (ho : OwnOk l own) (hh : InAb h 1000) : InAb (zsO l own h) 1025000 := by
 have hl := hc.len
 exact (sumAll_ab hc ho l.length 0 h 1000 (by omega) rfl hh).mono (by omega)
theorem sumsOf_len (l own : List (List Int)) (h : List Int) : (zsO l own h).length = h.length := sumAll_len _ _ _ _ _
theorem wordOf_len (s : List Int) : (zwO s).length = s.length := by simp [zwO]
theorem wordOf_bits (s : List Int) : ∀ x ∈ zwO s, x = 0 ∨ x = 1 := by
 intro x hx
 simp only [zwO, List.mem_map] at hx
 obtain ⟨y, _, rfl⟩ := hx
 split <;> omega
theorem msgGo_ab (s c o : List Int) (j : Nat) : ∀ (d y : Nat) (least : Int) (neg : Bool), 0 ≤ least → least ≤ 1000 → -1000 ≤ msgGo s c o j d y least neg ∧ msgGo s c o j d y least neg ≤ 1000
 | 0, _, least, neg, h0, h1 => by unfold msgGo; split <;> omega
 | d + 1, y, least, neg, h0, h1 => by
  unfold msgGo
  split
  ·exact msgGo_ab s c o j d (y + 1) least neg h0 h1
  ·split
   ·exact msgGo_ab s c o j d (y + 1) _ _ (by split <;> omega) (by split <;> omega)
   ·exact msgGo_ab s c o j d (y + 1) _ _ (by split <;> omega) (by split <;> omega)
theorem rowNext_len (s c o : List Int) : ∀ (d j : Nat), (rowNext s c o d j).length = d
 | 0, _ => rfl
 | d + 1, j => by unfold rowNext; rw [List.length_cons, rowNext_len s c o d]
theorem rowNext_ab (s c o : List Int) : ∀ (d j : Nat), InAb (rowNext s c o d j) 1000
 | 0, _ => by intro x hx; simp [rowNext] at hx
 | d + 1, j => by
  intro x hx
  unfold rowNext at hx
  rcases List.mem_cons.1 hx with rfl | hx
  ·exact msgGo_ab s c o j c.length 0 1000 false (by omega) (by omega)
  ·exact rowNext_ab s c o d (j + 1) x hx
theorem ownNext_len (s : List Int) (l own : List (List Int)) : ∀ (d i : Nat), (ownNext s l own d i).length = d
 | 0, _ => rfl
 | d + 1, i => by unfold ownNext; rw [List.length_cons, ownNext_len s l own d]
theorem ownNext_at (s : List Int) (l own : List (List Int)) : ∀ (d i q : Nat), q < d → rd_L1 (ownNext s l own d i) (q : Int) = rowNext s (rd_L1 l ((i + q : Nat) : Int)) (rd_L1 own ((i + q : Nat) : Int)) (rd_L1 l ((i + q : Nat) : Int)).length 0
 | 0, _, q, h => by omega
 | d + 1, i, 0, _ => by unfold ownNext; simp [rd_L1]
 | d + 1, i, q + 1, h => by
  unfold ownNext
  have := ownNext_at s l own d (i + 1) q (by omega)
  rw [show i + (q + 1) = i + 1 + q by omega, ← this]
  simp [rd_L1, Int.toNat_natCast_add_one]
theorem ownNext_ok (s : List Int) (l own : List (List Int)) : OwnOk l (ownNext s l own l.length 0) := by
 refine ⟨ownNext_len s l own l.length 0, fun i hi => ?_, fun i hi => ?_⟩
 ·rw [ownNext_at s l own l.length 0 i hi, rowNext_len, Nat.zero_add]
 ·rw [ownNext_at s l own l.length 0 i hi]; exact rowNext_ab _ _ _ _ _
theorem zero_ok (l : List (List Int)) : OwnOk l (l.map z0R) := by
 have h : ∀ i : Nat, i < l.length → rd_L1 (l.map z0R) (i : Int) = z0R (rd_L1 l i) := fun i hi => by
  rw [rdL1_nat _ i (by simpa using hi), rdL1_nat _ i hi]; simp
 refine ⟨by simp, fun i hi => by rw [h i hi]; simp [z0R], fun i hi => ?_⟩
 rw [h i hi]
 intro x hx
 rw [z0R, List.mem_replicate] at hx
 omega
theorem len_nil3 (l : List Int) : ((l.length : Int) == 0) = decide (l.length = 0) := by
 cases l with
 | nil => rfl
 | cons x l => rw [show (((x :: l).length : Int) == 0) = false by simp; omega, show decide ((x :: l).length = 0) = false by simp]
theorem l1In_eq (a b c : Int) : spec_l1In.f a b c = some (decide (b ≤ a) && decide (a ≤ c)) := by
 unfold spec_l1In.f
 by_cases h : a ≥ b
 case pos => rw [if_pos h]; simp [show b ≤ a from h]
 rw [if_neg h]; simp [show ¬ b ≤ a from h]
theorem sChecksOk_l (n : Int) (hn : 1 ≤ n ∧ n ≤ 128) (l : List (List Int)) (hl : l.length ≤ 64) : ∀ (d i : Nat), i + d = l.length → Ev (fun k => spec_ChecksOk.l0 k l n (i : Int)) ((l.drop i).all (checkB n)) := by
 intro d
 induction d with
 | zero =>
  intro i hi
  refine Ev.succ ?_
  simp only [spec_ChecksOk.l0]
  exact Ev.neg (by omega) (Ev.some_ (by rw [List.drop_of_length_le (by omega)]; rfl))
 | succ d ih =>
  intro i hi
  have hi1 : i < l.length := by omega
  refine Ev.succ ?_
  simp only [spec_ChecksOk.l0, l1In_eq, Option.bind_some]
  refine Ev.pos (by omega) (Ev.pos (by omega) ?_)
  rw [drop_rdL1 hi1, List.all_cons]
  by_cases h1 : 2 ≤ (rd_L1 l i).length ∧ (rd_L1 l i).length ≤ 16
  case neg =>
   refine Ev.neg (by simp; omega) (Ev.some_ ?_)
   unfold checkB; rw [show decide (2 ≤ (rd_L1 l i).length ∧ (rd_L1 l i).length ≤ 16) = false by simp; omega]; rfl
  refine Ev.pos (by simp; omega) ?_
  have e : checkB n (rd_L1 l i) = ascB n (rd_L1 l i) (rd_L1 l i).length 0 := by
   unfold checkB; rw [show decide (2 ≤ (rd_L1 l i).length ∧ (rd_L1 l i).length ≤ 16) = true by simp; omega]; rfl
  rw [e]
  have inner : ∀ (d' j : Nat), j + d' = (rd_L1 l i).length → Ev (fun k => spec_ChecksOk.l1 k l n (i : Int) (j : Int)) (ascB n (rd_L1 l i) d' j && (l.drop (i + 1)).all (checkB n)) := by
   intro d'
   induction d' with
   | zero =>
    intro j hj
    refine Ev.succ ?_
    simp only [spec_ChecksOk.l1]
    refine Ev.pos (by omega) (Ev.pos (by omega) (Ev.neg (by omega) ?_))
    rw [w64_add (by omega) (by omega)]
    exact ih (i + 1) (by omega)
   | succ d' ih' =>
    intro j hj
    refine Ev.succ ?_
    simp only [spec_ChecksOk.l1, l1In_eq, Option.bind_some]
    refine Ev.pos (by omega) (Ev.pos (by omega) (Ev.pos (by omega) (Ev.pos (by omega) ?_)))
    rw [w64_add (i := (j : Int)) (by omega) (by omega), w64 (n := n - 1) (by omega) (by omega)]
    simp only [ascB]
    by_cases h2 : 0 ≤ rd (rd_L1 l i) j ∧ rd (rd_L1 l i) j ≤ n - 1
    case neg => rw [if_neg (by omega)]; exact Ev.neg (by simp; omega) (Ev.some_ rfl)
    refine Ev.pos (by simp; omega) ?_
    by_cases h3 : (j : Int) > 0
    case neg => rw [if_pos (by omega)]; exact Ev.neg h3 (ih' (j + 1) (by omega))
    rw [w64 (by omega) (by omega)]
    refine Ev.pos h3 (Ev.pos (by omega) (Ev.pos (by omega) ?_))
    by_cases h4 : rd (rd_L1 l i) ((j : Int) - 1) ≥ rd (rd_L1 l i) j
    case pos => rw [if_neg (by omega)]; exact Ev.pos h4 (Ev.some_ rfl)
    rw [if_pos (by omega)]; exact Ev.neg h4 (ih' (j + 1) (by omega))
  exact inner (rd_L1 l i).length 0 (by omega)
theorem sChecksOk_ev (l : List (List Int)) (n : Int) : Ev (fun k => spec_ChecksOk.f k l n) (zcB l n) := by
 have bad : Ev (fun k => spec_ChecksOk.j0 k l n true) false := by
  refine Ev.succ ?_
  simp only [spec_ChecksOk.j0]
  exact Ev.pos trivial (Ev.some_ rfl)
 unfold spec_ChecksOk.f zcB
 simp only [l1In_eq, Option.bind_some]
 by_cases h1 : 1 ≤ n ∧ n ≤ 128
 case neg => exact Ev.neg (by simp; omega) (bad.to (by rw [show decide ((1 ≤ n ∧ n ≤ 128) ∧ l.length ≤ 64) = false by simp; omega]; rfl))
 refine Ev.pos (by simp; omega) ?_
 by_cases h3 : l.length ≤ 64
 case neg =>
  rw [show decide ((l.length : Int) > 64) = true by simp; omega]
  exact bad.to (by rw [show decide ((1 ≤ n ∧ n ≤ 128) ∧ l.length ≤ 64) = false by simp; omega]; rfl)
 rw [show decide ((l.length : Int) > 64) = false by simp; omega, show decide ((1 ≤ n ∧ n ≤ 128) ∧ l.length ≤ 64) = true by simp; omega]
 refine Ev.succ ?_
 simp only [spec_ChecksOk.j0]
 exact Ev.neg (by simp) ((sChecksOk_l n (by omega) l h3 l.length 0 (by omega)).to (by simp))
theorem sBitsOk_l0 (l : List Int) (hl : l.length ≤ 1048576) : ∀ (d i : Nat), i + d = l.length → Ev (fun k => spec_BitsOk.l0 k l (i : Int)) ((l.drop i).all bitOk && decide (l.length ≤ 1024)) := by
 intro d
 induction d with
 | zero =>
  intro i hi
  refine Ev.succ ?_
  simp only [spec_BitsOk.l0]
  rw [List.drop_of_length_le (by omega)]
  exact Ev.neg (by omega) (Ev.some_ (by simp; omega))
 | succ d ih =>
  intro i hi
  refine Ev.succ ?_
  simp only [spec_BitsOk.l0, l1In_eq, Option.bind_some]
  refine Ev.pos (by omega) (Ev.pos (by omega) ?_)
  rw [drop_rd (xs := l) (i := i) (by omega), w64_add (by omega) (by omega)]
  by_cases h1 : rd l i = 0 ∨ rd l i = 1
  case neg => exact Ev.neg (by simp; omega) (Ev.some_ (by simp [bitOk, h1]))
  exact Ev.pos (by simp; omega) ((ih (i + 1) (by omega)).to (by simp [bitOk, h1]))
theorem sBitsOk_ev (l : List Int) (hl : l.length ≤ 1048576) : Ev (fun k => spec_BitsOk.f k l) (bitsB l) :=
 (sBitsOk_l0 l hl l.length 0 (by omega)).to (by simp [bitsB])
theorem sFails_l (l : List (List Int)) (w : List Int) (hc : ChecksIn l w.length) (hw : ∀ x ∈ w, x = 0 ∨ x = 1) : ∀ (d i : Nat) (acc : List Int), i + d = l.length → acc.length ≤ i → Ev (fun k => spec_Fails.l0 k l w acc (i : Int)) (acc ++ zfF w (l.drop i) i, true) := by
 intro d
 induction d with
 | zero =>
  intro i acc hi ha
  refine Ev.succ ?_
  simp only [spec_Fails.l0]
  exact Ev.neg (by omega) (Ev.some_ (by rw [List.drop_of_length_le (by omega)]; simp [zfF]))
 | succ d ih =>
  intro i acc hi ha
  have hi1 : i < l.length := by omega
  have hlen := hc.len
  have hrow := hc.row i hi1
  refine Ev.succ ?_
  simp only [spec_Fails.l0]
  refine Ev.pos (by omega) ?_
  rw [failsFrom_step hi1]
  have inner : ∀ (d' j : Nat) (s : Int), j + d' = (rd_L1 l i).length → 0 ≤ s → s ≤ j → Ev (fun k => spec_Fails.l1 k l w acc (i : Int) s (j : Int)) (acc ++ (if failSum w ((rd_L1 l i).drop j) s % 2 = 1 then (i : Int) :: zfF w (l.drop (i + 1)) ((i + 1 : Nat) : Int) else zfF w (l.drop (i + 1)) ((i + 1 : Nat) : Int)), true) := by
   intro d'
   induction d' with
   | zero =>
    intro j s hj h0 h1
    refine Ev.succ ?_
    simp only [spec_Fails.l1]
    refine Ev.pos (by omega) (Ev.pos (by omega) (Ev.neg (by omega) ?_))
    rw [failSum_nil (by omega), Int.tmod_eq_emod_of_nonneg h0, w64_add (by omega) (by omega)]
    by_cases hs : s % 2 = 1
    case neg =>
     rw [if_neg hs]
     exact Ev.neg hs (ih (i + 1) acc (by omega) (by omega))
    rw [if_pos hs]
    exact Ev.pos hs (Ev.pos (by omega) ((ih (i + 1) (acc ++ [(i : Int)]) (by omega) (by rw [List.length_append]; simp only [List.length_singleton]; omega)).to (by simp)))
   | succ d' ih' =>
    intro j s hj h0 h1
    have hb := hc.bd i hi1 j (by omega)
    have hv := bitAt hw hb.1 (by omega)
    refine Ev.succ ?_
    simp only [spec_Fails.l1]
    refine Ev.pos (by omega) (Ev.pos (by omega) (Ev.pos (by omega) (Ev.pos (by omega) (Ev.pos hb.1 (Ev.pos (by omega) ?_)))))
    rw [w64_add (i := (j : Int)) (by omega) (by omega), w64 (n := s + _) (by omega) (by omega), failSum_step (by omega)]
    exact ih' (j + 1) _ (by omega) (by omega) (by omega)
  exact inner (rd_L1 l i).length 0 0 (by omega) (by omega) (by omega)
theorem sFails_ev (l : List (List Int)) (w : List Int) (hw : w.length ≤ 1048576) : Ev (fun k => spec_Fails.f k l w) (failsV l w) := by
 unfold spec_Fails.f failsV
 refine Ev.next (Ev.some_ rfl) (Ev.next (sBitsOk_ev w hw) ?_)
 cases hb : bitsB w
 ·refine Ev.neg (by simp) (Ev.succ ?_)
  simp only [spec_Fails.j0]
  exact Ev.pos trivial (Ev.some_ (by simp))
 ·refine Ev.pos rfl (Ev.next (sChecksOk_ev l w.length) (Ev.succ ?_))
  simp only [spec_Fails.j0]
  cases hc : zcB l (w.length : Int)
  ·exact Ev.pos (by simp) (Ev.some_ (by simp))
  ·exact Ev.neg (by simp) ((sFails_l l w (checksIn hc) (bitsB_iff.1 hb).1 l.length 0 [] (by omega) (by simp)).to (by simp))
theorem l9Wide_l0 (l : List Int) (a : Int) (ha : 0 ≤ a) (ha' : a ≤ 9000000000000000000) (hl : l.length ≤ 35184372088832) : ∀ (d i : Nat), i + d = l.length → Ev (fun k => spec_l9Wide.l0 k l a (i : Int)) (allIn a (l.drop i)) := by
 intro d
 induction d with
 | zero =>
  intro i hi
  refine (Ev.round (f := fun _ => some true) (Ev.some_ rfl) (fun k => by simp only [spec_l9Wide.l0]; rw [if_neg (by omega)])).to ?_
  rw [List.drop_of_length_le (by omega)]; rfl
 | succ d ih =>
  intro i hi
  rw [drop_rd (xs := l) (i := i) (by omega)]
  by_cases h1 : -a ≤ rd l i ∧ rd l i ≤ a
  case neg =>
   refine (Ev.round (f := fun _ => some false) (Ev.some_ rfl) (fun k => ?_)).to (by simp [allIn]; intros; omega)
   simp only [spec_l9Wide.l0, l1In_eq, Option.bind_some]
   rw [if_pos (by omega), if_pos (by omega), w64 (n := -a) (by omega) (by omega), if_neg (by simp; omega)]
  refine (Ev.round (ih (i + 1) (by omega)) (fun k => ?_)).to ?_
  ·simp only [spec_l9Wide.l0, l1In_eq, Option.bind_some]
   rw [if_pos (by omega), if_pos (by omega), w64 (n := -a) (by omega) (by omega), if_pos (by simp; omega), w64_add (by omega) (by omega)]
   simp
  ·simp [allIn]; intros; omega
theorem l9Wide_ev (l : List Int) (a : Int) (ha : 0 ≤ a) (ha' : a ≤ 9000000000000000000) (hl : l.length ≤ 35184372088832) : Ev (fun k => spec_l9Wide.f k l a) (allIn a l) :=
 (l9Wide_l0 l a ha ha' hl l.length 0 (by omega)).to (by simp)
theorem l16Sums_l (l own : List (List Int)) (n : Int) (hc : ChecksIn l n) (ho : OwnOk l own) : ∀ (d i : Nat) (s : List Int), i + d = l.length → (s.length : Int) = n → InAb s (1000 + 16000 * i) → Ev (fun k => spec_l16Sums.l0 k l own s (i : Int)) (sumAll l own d i s) := by
 intro d
 have hll := hc.len
 induction d with
 | zero =>
  intro i s hi hn hb
  refine Ev.succ ?_
  simp only [spec_l16Sums.l0]
  exact Ev.neg (by omega) (Ev.some_ rfl)
 | succ d ih =>
  intro i s hi hn hb
  have hr := hc.row i (by omega)
  have hol := ho.row i (by omega)
  have hob := ho.bd i (by omega)
  have holen := ho.len
  refine Ev.succ ?_
  simp only [spec_l16Sums.l0]
  refine Ev.pos (by omega) ?_
  rw [sumAll]
  have inner : ∀ (d' j : Nat) (s : List Int), j + d' = (rd_L1 l i).length → (s.length : Int) = n → InAb s (1000 + 16000 * i + 1000 * j) → Ev (fun k => spec_l16Sums.l1 k l own s (i : Int) (j : Int)) (sumAll l own d (i + 1) (sumRow (rd_L1 l i) (rd_L1 own i) d' j s)) := by
   intro d'
   induction d' with
   | zero =>
    intro j s hj hn hb
    refine Ev.succ ?_
    simp only [spec_l16Sums.l1]
    refine Ev.pos (by omega) (Ev.pos (by omega) (Ev.neg (by omega) ?_))
    rw [w64_add (by omega) (by omega), sumRow]
    exact ih (i + 1) s (by omega) hn (hb.mono (by omega))
   | succ d' ih' =>
    intro j s hj hn hb
    have hv := hc.bd i (by omega) j (by omega)
    have hov := hob _ (rd_mem (xs := rd_L1 own i) (i := j) (by omega))
    rw [sumRow]
    obtain ⟨p, hp⟩ : ∃ p : Nat, rd (rd_L1 l i) (j : Int) = (p : Int) := ⟨(rd (rd_L1 l i) (j : Int)).toNat, by omega⟩
    have hpl : p < s.length := by omega
    have hsv := hb _ (rd_mem hpl)
    refine Ev.succ ?_
    simp only [spec_l16Sums.l1]
    refine Ev.pos (by omega) (Ev.pos (by omega) (Ev.pos (by omega) (Ev.pos (by omega) (Ev.pos hv.1 (Ev.pos (by omega) (Ev.pos (by omega) (Ev.pos (by omega) ?_)))))))
    rw [hp, w64_add (i := (j : Int)) (by omega) (by omega), w64 (n := rd s (p : Int) + _) (by omega) (by omega)]
    exact ih' (j + 1) _ (by omega) (by rw [List.length_set]; exact hn) ((InAb.set hb hpl hov).mono (by omega))
  exact inner (rd_L1 l i).length 0 s (by omega) hn (hb.mono (by omega))
theorem l16Sums_ev (l own : List (List Int)) (h : List Int) (hc : ChecksIn l h.length) (ho : OwnOk l own) (hh : InAb h 1000) : Ev (fun k => spec_l16Sums.f k l h own) (zsO l own h) := by
 have hn := hc.n1
 unfold spec_l16Sums.f
 refine Ev.next (Ev.some_ rfl) (Ev.pos (by simp; omega) ?_)
 exact l16Sums_l l own h.length hc ho l.length 0 h (by omega) rfl (hh.mono (by omega))
theorem l16Word_l (s : List Int) (hl : s.length ≤ 128) : ∀ (d i : Nat) (acc : List Int), i + d = s.length → acc.length ≤ i → Ev (fun k => spec_l16Word.l0 k s acc (i : Int)) (acc ++ zwO (s.drop i)) := by
 intro d
 induction d with
 | zero =>
  intro i acc hi ha
  refine Ev.succ ?_
  simp only [spec_l16Word.l0]
  exact Ev.neg (by omega) (Ev.some_ (by rw [List.drop_of_length_le (by omega)]; simp [zwO]))
 | succ d ih =>
  intro i acc hi ha
  refine Ev.succ ?_
  simp only [spec_l16Word.l0]
  refine Ev.pos (by omega) (Ev.pos (by omega) ?_)
  rw [drop_rd (xs := s) (i := i) (by omega), w64_add (by omega) (by omega)]
  by_cases h : rd s i < 0
  case neg => exact Ev.neg h (Ev.pos (by omega) ((ih (i + 1) (acc ++ [0]) (by omega) (by simp; omega)).to (by simp [zwO, h])))
  exact Ev.pos h (Ev.pos (by omega) ((ih (i + 1) (acc ++ [1]) (by omega) (by simp; omega)).to (by simp [zwO, h])))
theorem l16Word_ev (s : List Int) (hl : s.length ≤ 128) : Ev (fun k => spec_l16Word.f k s) (zwO s) :=
 (l16Word_l s hl s.length 0 [] (by omega) (by simp)).to (by simp)
theorem sHint_l4 (l : List (List Int)) (h : List Int) (r n : Int) (own acc : List (List Int)) (s row : List Int) (i j : Nat) (res : List Int × Int × Bool) (hc : ChecksIn l s.length) (ho : OwnOk l own) (hs : InAb s 1025000) (hi : i < l.length) (hj : j < 16) (hrl : row.length ≤ 16) : ∀ (d y : Nat) (least : Int) (neg : Bool), y + d = (rd_L1 l i).length → 0 ≤ least → least ≤ 1000 →
 Ev (fun k => spec_PassHints.l3 k l h r own n s acc (i : Int) (row ++ [msgGo s (rd_L1 l i) (rd_L1 own i) j d y least neg]) ((j : Int) + 1)) res → Ev (fun k => spec_PassHints.l4 k l h r own n s acc (i : Int) row (j : Int) least neg (y : Int)) res := by
 intro d
 have hr := hc.row i hi
 have hol := ho.row i hi
 have hob := ho.bd i hi
 have holen := ho.len
 induction d with
 | zero =>
  intro y least neg hy h0 h1 H
  refine Ev.succ ?_
  simp only [spec_PassHints.l4]
  refine Ev.pos (by omega) (Ev.pos (by omega) (Ev.neg (by omega) ?_))
  rw [w64_add (i := (j : Int)) (by omega) (by omega), w64 (n := -least) (by omega) (by omega)]
  simp only [msgGo] at H
  cases neg
  ·refine Ev.neg (by simp) (Ev.pos (by omega) ?_)
   simpa using H
  ·refine Ev.pos rfl (Ev.pos (by omega) ?_)
   simpa using H
 | succ d ih =>
  intro y least neg hy h0 h1 H
  have hv := hc.bd i hi y (by omega)
  have hov := hob _ (rd_mem (xs := rd_L1 own i) (i := y) (by omega))
  have hsv : -1025000 ≤ rd s (rd (rd_L1 l i) y) ∧ rd s (rd (rd_L1 l i) y) ≤ 1025000 := by
   obtain ⟨p, hp⟩ : ∃ p : Nat, rd (rd_L1 l i) (y : Int) = (p : Int) := ⟨(rd (rd_L1 l i) (y : Int)).toNat, by omega⟩
   rw [hp]; exact hs _ (rd_mem (by omega))
  refine Ev.succ ?_
  simp only [spec_PassHints.l4]
  refine Ev.pos (by omega) (Ev.pos (by omega) (Ev.pos (by omega) (Ev.pos (by omega) (Ev.pos hv.1 (Ev.pos (by omega) (Ev.pos (by omega) (Ev.pos (by omega) ?_)))))))
  rw [w64_add (i := (y : Int)) (by omega) (by omega)]
  rw [msgGo] at H
  by_cases hjy : y = j
  ·rw [if_pos hjy] at H
   exact Ev.pos (by omega) (ih (y + 1) least neg (by omega) h0 h1 H)
  rw [if_neg hjy] at H
  refine Ev.neg (by omega) ?_
  generalize hx : rd s (rd (rd_L1 l i) y) - rd (rd_L1 own i) y = x at H ⊢
  rw [w64 (n := x) (by omega) (by omega), w64 (n := -x) (by omega) (by omega)]
  by_cases hneg : x < 0
  case neg =>
   rw [if_neg hneg] at H
   refine Ev.neg hneg ?_
   by_cases hlt : x < least
   case neg =>
    rw [if_neg hlt] at H
    exact Ev.neg hlt (ih (y + 1) _ _ (by omega) (by omega) (by omega) H)
   rw [if_pos hlt] at H
   exact Ev.pos hlt (ih (y + 1) _ _ (by omega) (by omega) (by omega) H)
  rw [if_pos hneg] at H
  refine Ev.pos hneg ?_
  by_cases hlt : -x < least
  case neg =>
   rw [if_neg hlt] at H
   exact Ev.neg hlt (ih (y + 1) _ _ (by omega) (by omega) (by omega) H)
  rw [if_pos hlt] at H
  exact Ev.pos hlt (ih (y + 1) _ _ (by omega) (by omega) (by omega) H)
theorem sHint_l3 (l : List (List Int)) (h : List Int) (r n : Int) (own acc : List (List Int)) (s : List Int) (i : Nat) (res : List Int × Int × Bool) (hc : ChecksIn l s.length) (ho : OwnOk l own) (hs : InAb s 1025000) (hi : i < l.length) (ha : acc.length ≤ i) : ∀ (d j : Nat) (row : List Int), j + d = (rd_L1 l i).length → row.length ≤ j →
 Ev (fun k => spec_PassHints.l2 k l h r own n s (acc ++ [row ++ rowNext s (rd_L1 l i) (rd_L1 own i) d j]) ((i : Int) + 1)) res → Ev (fun k => spec_PassHints.l3 k l h r own n s acc (i : Int) row (j : Int)) res := by
 intro d
 have hr := hc.row i hi
 have hll := hc.len
 induction d with
 | zero =>
  intro j row hj hrl H
  refine Ev.succ ?_
  simp only [spec_PassHints.l3]
  refine Ev.pos (by omega) (Ev.pos (by omega) (Ev.neg (by omega) (Ev.pos (by omega) ?_)))
  rw [w64_add (i := (i : Int)) (by omega) (by omega)]
  simpa [rowNext] using H
 | succ d ih =>
  intro j row hj hrl H
  refine Ev.succ ?_
  simp only [spec_PassHints.l3]
  refine Ev.pos (by omega) (Ev.pos (by omega) (Ev.pos (by omega) ?_))
  rw [rowNext] at H
  refine sHint_l4 l h r n own acc s row i j res hc ho hs hi (by omega) (by omega) (rd_L1 l i).length 0 1000 false (by omega) (by omega) (by omega) ?_
  refine ih (j + 1) _ (by omega) (by simp; omega) ?_
  simpa using H
theorem sHint_l2 (l : List (List Int)) (h : List Int) (r n : Int) (own : List (List Int)) (s : List Int) (res : List Int × Int × Bool) (hc : ChecksIn l s.length) (ho : OwnOk l own) (hs : InAb s 1025000) : ∀ (d i : Nat) (acc : List (List Int)), i + d = l.length → acc.length ≤ i →
 Ev (fun k => spec_PassHints.l1 k l h r (acc ++ ownNext s l own d i) (wrap64 (n + 1))) res → Ev (fun k => spec_PassHints.l2 k l h r own n s acc (i : Int)) res := by
 intro d
 have hll := hc.len
 induction d with
 | zero =>
  intro i acc hi ha H
  refine Ev.succ ?_
  simp only [spec_PassHints.l2]
  refine Ev.neg (by omega) ?_
  simpa [ownNext] using H
 | succ d ih =>
  intro i acc hi ha H
  refine Ev.succ ?_
  simp only [spec_PassHints.l2]
  refine Ev.pos (by omega) ?_
  rw [ownNext] at H
  refine sHint_l3 l h r n own acc s i res hc ho hs (by omega) ha (rd_L1 l i).length 0 [] (by omega) (by simp) ?_
  refine ih (i + 1) _ (by omega) (by simp; omega) ?_
  simpa using H
theorem sFails_in2 (l : List (List Int)) (w : List Int) (hc : zcB l (w.length : Int) = true) (hw : ∀ x ∈ w, x = 0 ∨ x = 1) : Ev (fun k => spec_Fails.f k l w) (zfF w l 0, true) := by
 have hn := (checksIn hc).n1
 have := sFails_ev l w (by omega)
 rw [failsV, if_pos (by rw [hc, bitsB_iff.2 ⟨hw, by omega⟩]; rfl)] at this
 exact this
theorem sHint_l1 (l : List (List Int)) (h : List Int) (hcb : zcB l (h.length : Int) = true) (hh : InAb h 1000) (r : Int) (hr : r ≤ 50) : ∀ (d : Nat) (own : List (List Int)) (n : Int), n + d = r → 0 ≤ n → OwnOk l own → Ev (fun k => spec_PassHints.l1 k l h r own n) (hintGo l h d own n) := by
 intro d
 have hc := checksIn hcb
 have hn1 := hc.n1
 induction d with
 | zero =>
  intro own n hd hn ho
  have hsl := sumsOf_len l own h
  have hwl := wordOf_len (zsO l own h)
  have fin : Ev (fun k => spec_PassHints.j3 k l h r own n (zsO l own h) (zwO (zsO l own h)) (zfF (zwO (zsO l own h)) l 0) true) (hintGo l h 0 own n) := by
   refine Ev.succ ?_
   simp only [spec_PassHints.j3]
   exact Ev.pos trivial (Ev.some_ (by rw [hintGo, len_nil3]))
  refine Ev.succ ?_
  simp only [spec_PassHints.l1]
  refine Ev.next (l16Sums_ev l own h hc ho hh) (Ev.next (l16Word_ev _ (by omega)) (Ev.next (sFails_in2 l _ (by rw [hwl, hsl]; exact hcb) (wordOf_bits _)) ?_))
  rw [show (n == r) = true by simp; omega]
  exact Ev.both (fun _ => fin) (fun _ => fin)
 | succ d ih =>
  intro own n hd hn ho
  have hsl := sumsOf_len l own h
  have hwl := wordOf_len (zsO l own h)
  refine Ev.succ ?_
  simp only [spec_PassHints.l1]
  refine Ev.next (l16Sums_ev l own h hc ho hh) (Ev.next (l16Word_ev _ (by omega)) (Ev.next (sFails_in2 l _ (by rw [hwl, hsl]; exact hcb) (wordOf_bits _)) ?_))
  rw [show (n == r) = false by simp; omega, hintGo]
  by_cases h0 : (zfF (zwO (zsO l own h)) l 0).length = 0
  case pos =>
   rw [if_pos h0]
   refine Ev.pos (by simp only; omega) (Ev.succ ?_)
   simp only [spec_PassHints.j3]
   exact Ev.pos trivial (Ev.some_ (by rw [h0]; rfl))
  rw [if_neg h0]
  refine Ev.neg (by simp only; omega) (Ev.succ ?_)
  simp only [spec_PassHints.j3]
  refine Ev.neg (by simp) ?_
  refine sHint_l2 l h r n own (zsO l own h) _ (by rw [hsl]; exact hc) ho (sumsOf_ab hc ho hh) l.length 0 [] (by omega) (by simp) ?_
  rw [w64_add (by omega) (by omega), List.nil_append]
  exact ih _ (n + 1) (by omega) (by omega) (ownNext_ok _ _ _)
theorem sHint_l0 (l : List (List Int)) (h : List Int) (r : Int) (res : List Int × Int × Bool) (hl : l.length ≤ 64) (hx : ∀ i : Nat, i < l.length → (rd_L1 l i).length ≤ 16) (H : Ev (fun k => spec_PassHints.l1 k l h r (l.map z0R) 0) res) : ∀ (d i : Nat), i + d = l.length → Ev (fun k => spec_PassHints.l0 k l h r ((l.take i).map z0R) (i : Int)) res := by
 intro d
 induction d with
 | zero =>
  intro i hi
  refine Ev.succ ?_
  simp only [spec_PassHints.l0]
  refine Ev.neg (by omega) ?_
  rw [List.take_of_length_le (by omega)]; exact H
 | succ d ih =>
  intro i hi
  have := hx i (by omega)
  refine Ev.succ ?_
  simp only [spec_PassHints.l0]
  refine Ev.pos (by omega) (Ev.pos (by omega) (Ev.pos (by omega) (Ev.pos (by omega) (Ev.pos (by simp; omega) ?_))))
  rw [w64_add (by omega) (by omega)]
  have e : (l.take i).map z0R ++ [List.replicate ((rd_L1 l i).length : Int).toNat 0] = (l.take (i + 1)).map z0R := by
   rw [take_rdL1 (by omega)]; simp [z0R]
  rw [e]
  exact ih (i + 1) (by omega)
theorem sHint_ev (l : List (List Int)) (h : List Int) (r : Int) (hw : h.length ≤ 1048576) : Ev (fun k => spec_PassHints.f k l h r) (hintV l h r) := by
 have bad : Ev (fun k => spec_PassHints.j0 k l h r true) ([], 0, false) := by
  refine Ev.succ ?_
  simp only [spec_PassHints.j0]
  exact Ev.pos trivial (Ev.some_ rfl)
 unfold spec_PassHints.f hintV
 refine Ev.next (sChecksOk_ev l h.length) ?_
 cases hcb : zcB l (h.length : Int)
 ·rw [if_neg (by simp)]; exact Ev.neg (by simp) bad
 refine Ev.pos rfl (Ev.next (l9Wide_ev h 1000 (by omega) (by omega) (by omega)) ?_)
 cases hab : allIn 1000 h
 ·rw [if_neg (by simp)]; exact Ev.neg (by simp) bad
 refine Ev.pos rfl ?_
 simp only [l1In_eq, Option.bind_some]
 by_cases hr : 0 ≤ r ∧ r ≤ 50
 case neg =>
  rw [if_neg (by simp; omega), show (!(decide (0 ≤ r) && decide (r ≤ 50))) = true by simp; omega]
  exact bad
 rw [if_pos (by simp; omega), show (!(decide (0 ≤ r) && decide (r ≤ 50))) = false by simp; omega]
 refine Ev.succ ?_
 simp only [spec_PassHints.j0]
 have hc := checksIn hcb
 refine Ev.neg (by simp) (sHint_l0 l h r _ hc.len (fun i hi => (hc.row i hi).2) ?_ l.length 0 (by omega))
 exact sHint_l1 l h hcb (fun x hx => allIn_iff.1 hab x hx) r hr.2 r.toNat _ 0 (by omega) (by omega) (zero_ok l)
theorem ifails_l (l : List (List Int)) (w : List Int) (hc : ChecksIn l w.length) (hw : ∀ x ∈ w, x = 0 ∨ x = 1) : ∀ (d i : Nat) (acc : List Int), i + d = l.length → acc.length ≤ i → Ev (fun k => impl_fails.l0 k w acc l (l.length : Int) (i : Int)) (acc ++ zfF w (l.drop i) i) := by
 intro d
 induction d with
 | zero =>
  intro i acc hi ha
  refine Ev.succ ?_
  simp only [impl_fails.l0]
  exact Ev.neg (by omega) (Ev.some_ (by rw [List.drop_of_length_le (by omega)]; simp [zfF]))
 | succ d ih =>
  intro i acc hi ha
  have hi1 : i < l.length := by omega
  have hlen := hc.len
  have hrow := hc.row i hi1
  refine Ev.succ ?_
  simp only [impl_fails.l0]
  refine Ev.pos (by omega) (Ev.pos (by omega) (Ev.pos (by omega) ?_))
  rw [failsFrom_step hi1]
  have inner : ∀ (d' j : Nat) (s e : Int), j + d' = (rd_L1 l i).length → e = s % 2 → Ev (fun k => impl_fails.l1 k w acc (i : Int) e l (l.length : Int) (i : Int) (rd_L1 l i) ((rd_L1 l i).length : Int) (j : Int)) (acc ++ (if failSum w ((rd_L1 l i).drop j) s % 2 = 1 then (i : Int) :: zfF w (l.drop (i + 1)) ((i + 1 : Nat) : Int) else zfF w (l.drop (i + 1)) ((i + 1 : Nat) : Int))) := by
   intro d'
   induction d' with
   | zero =>
    intro j s e hj he
    subst he
    refine Ev.succ ?_
    simp only [impl_fails.l1]
    refine Ev.neg (by omega) ?_
    rw [failSum_nil (by omega), w64_add (by omega) (by omega)]
    by_cases hs : s % 2 = 1
    case neg =>
     rw [if_neg hs]
     exact Ev.neg hs (ih (i + 1) acc (by omega) (by omega))
    rw [if_pos hs]
    exact Ev.pos hs (Ev.pos (by omega) ((ih (i + 1) (acc ++ [(i : Int)]) (by omega) (by rw [List.length_append]; simp only [List.length_singleton]; omega)).to (by simp)))
   | succ d' ih' =>
    intro j s e hj he
    subst he
    have hb := hc.bd i hi1 j (by omega)
    have hv := bitAt hw hb.1 (by omega)
    refine Ev.succ ?_
    simp only [impl_fails.l1]
    refine Ev.pos (by omega) (Ev.pos (by omega) (Ev.pos (by omega) (Ev.pos hb.1 (Ev.pos (by omega) ?_))))
    rw [w64_add (i := (j : Int)) (by omega) (by omega), xor_mod2 s _ hv, failSum_step (by omega)]
    exact ih' (j + 1) _ _ (by omega) rfl
  exact inner (rd_L1 l i).length 0 0 0 (by omega) (by omega)
theorem ifails_ev (l : List (List Int)) (w : List Int) (hc : ChecksIn l w.length) (hw : ∀ x ∈ w, x = 0 ∨ x = 1) : Ev (fun k => impl_fails.f k l w) (zfF w l 0) :=
 (ifails_l l w hc hw l.length 0 [] (by omega) (by simp)).to (by simp)
theorem ascending_l0 (n : Int) (hn : 1 ≤ n ∧ n ≤ 128) (c : List Int) (hl : c.length ≤ 16) : ∀ (d i : Nat), i + d = c.length → Ev (fun k => impl_ascending.l0 k c n c (c.length : Int) (i : Int)) (ascB n c d i) := by
 intro d
 induction d with
 | zero =>
  intro i hi
  refine Ev.succ ?_
  simp only [impl_ascending.l0]
  exact Ev.neg (by omega) (Ev.some_ rfl)
 | succ d ih =>
  intro i hi
  refine Ev.succ ?_
  simp only [impl_ascending.l0]
  refine Ev.pos (by omega) (Ev.pos (by omega) (Ev.pos (by omega) ?_))
  rw [w64_add (by omega) (by omega)]
  simp only [ascB]
  by_cases h1 : rd c i < 0
  ·rw [if_neg (by omega)]; exact Ev.pos h1 (Ev.some_ rfl)
  refine Ev.neg h1 ?_
  by_cases h2 : rd c i ≥ n
  ·rw [if_neg (by omega)]; exact Ev.pos h2 (Ev.some_ rfl)
  refine Ev.neg h2 ?_
  by_cases h3 : (i : Int) > 0
  case neg => rw [if_pos (by omega)]; exact Ev.neg h3 (ih (i + 1) (by omega))
  rw [w64 (by omega) (by omega)]
  refine Ev.pos h3 (Ev.pos (by omega) (Ev.pos (by omega) ?_))
  by_cases h4 : rd c i ≤ rd c ((i : Int) - 1)
  case pos => rw [if_neg (by omega)]; exact Ev.pos h4 (Ev.some_ rfl)
  rw [if_pos (by omega)]; exact Ev.neg h4 (ih (i + 1) (by omega))
theorem iChecksOk_l0 (n : Int) (hn : 1 ≤ n ∧ n ≤ 128) (l : List (List Int)) (hl : l.length ≤ 64) : ∀ (d i : Nat), i + d = l.length → Ev (fun k => impl_ChecksOk.l0 k n l (l.length : Int) (i : Int)) ((l.drop i).all (checkB n)) := by
 intro d
 induction d with
 | zero =>
  intro i hi
  refine Ev.succ ?_
  simp only [impl_ChecksOk.l0]
  exact Ev.neg (by omega) (Ev.some_ (by rw [List.drop_of_length_le (by omega)]; rfl))
 | succ d ih =>
  intro i hi
  have hi1 : i < l.length := by omega
  refine Ev.succ ?_
  simp only [impl_ChecksOk.l0]
  refine Ev.pos (by omega) (Ev.pos (by omega) (Ev.pos (by omega) ?_))
  rw [w64_add (by omega) (by omega), drop_rdL1 hi1, List.all_cons]
  by_cases h1 : ((rd_L1 l i).length : Int) < 2
  ·exact Ev.pos h1 (Ev.some_ (by unfold checkB; rw [show decide (2 ≤ (rd_L1 l i).length ∧ (rd_L1 l i).length ≤ 16) = false by simp; omega]; rfl))
  refine Ev.neg h1 ?_
  by_cases h2 : ((rd_L1 l i).length : Int) > 16
  ·exact Ev.pos h2 (Ev.some_ (by unfold checkB; rw [show decide (2 ≤ (rd_L1 l i).length ∧ (rd_L1 l i).length ≤ 16) = false by simp; omega]; rfl))
  refine Ev.neg h2 (Ev.next (ascending_l0 n hn (rd_L1 l i) (by omega) (rd_L1 l i).length 0 (by omega)) ?_)
  have e : checkB n (rd_L1 l i) = ascB n (rd_L1 l i) (rd_L1 l i).length 0 := by
   unfold checkB; rw [show decide (2 ≤ (rd_L1 l i).length ∧ (rd_L1 l i).length ≤ 16) = true by simp; omega]; rfl
  rw [e]
  cases hb : ascB n (rd_L1 l i) (rd_L1 l i).length 0
  ·exact Ev.neg (by simp) (Ev.some_ rfl)
  ·exact Ev.pos rfl (ih (i + 1) (by omega))
theorem iChecksOk_ev (l : List (List Int)) (n : Int) : Ev (fun k => impl_ChecksOk.f k l n) (zcB l n) := by
 have bad : Ev (fun k => impl_ChecksOk.j0 k l n true) false := by
  refine Ev.succ ?_
  simp only [impl_ChecksOk.j0]
  exact Ev.pos trivial (Ev.some_ rfl)
 unfold impl_ChecksOk.f zcB
 by_cases h1 : n < 1
 ·exact Ev.pos h1 (bad.to (by rw [show decide ((1 ≤ n ∧ n ≤ 128) ∧ l.length ≤ 64) = false by simp; omega]; rfl))
 refine Ev.neg h1 ?_
 by_cases h2 : n > 128
 ·exact Ev.pos h2 (bad.to (by rw [show decide ((1 ≤ n ∧ n ≤ 128) ∧ l.length ≤ 64) = false by simp; omega]; rfl))
 refine Ev.neg h2 ?_
 by_cases h3 : l.length ≤ 64
 case neg =>
  rw [show decide ((l.length : Int) > 64) = true by simp; omega]
  exact bad.to (by rw [show decide ((1 ≤ n ∧ n ≤ 128) ∧ l.length ≤ 64) = false by simp; omega]; rfl)
 rw [show decide ((l.length : Int) > 64) = false by simp; omega, show decide ((1 ≤ n ∧ n ≤ 128) ∧ l.length ≤ 64) = true by simp; omega]
 refine Ev.succ ?_
 simp only [impl_ChecksOk.j0]
 exact Ev.neg (by simp) ((iChecksOk_l0 n (by omega) l h3 l.length 0 (by omega)).to (by simp))
theorem within_l0 (l : List Int) (a : Int) (ha : 0 ≤ a) (ha' : a ≤ 9000000000000000000) (hl : l.length ≤ 35184372088832) : ∀ (d i : Nat), i + d = l.length → Ev (fun k => impl_within.l0 k a l (l.length : Int) (i : Int)) (allIn a (l.drop i)) := by
 intro d
 induction d with
 | zero =>
  intro i hi
  refine (Ev.round (f := fun _ => some true) (Ev.some_ rfl) (fun k => by simp only [impl_within.l0]; rw [if_neg (by omega)])).to ?_
  rw [List.drop_of_length_le (by omega)]; rfl
 | succ d ih =>
  intro i hi
  rw [drop_rd (xs := l) (i := i) (by omega)]
  by_cases h1 : rd l i < -a
  case pos =>
   refine (Ev.round (f := fun _ => some false) (Ev.some_ rfl) (fun k => ?_)).to (by simp [allIn]; intros; omega)
   simp only [impl_within.l0]
   rw [if_pos (by omega), if_pos (by omega), if_pos (by omega), w64 (n := -a) (by omega) (by omega), if_pos h1]
  by_cases h2 : rd l i > a
  case pos =>
   refine (Ev.round (f := fun _ => some false) (Ev.some_ rfl) (fun k => ?_)).to (by simp [allIn]; intros; omega)
   simp only [impl_within.l0]
   rw [if_pos (by omega), if_pos (by omega), if_pos (by omega), w64 (n := -a) (by omega) (by omega), if_neg h1, if_pos h2]
  refine (Ev.round (ih (i + 1) (by omega)) (fun k => ?_)).to ?_
  ·simp only [impl_within.l0]
   rw [if_pos (by omega), if_pos (by omega), if_pos (by omega), w64 (n := -a) (by omega) (by omega), if_neg h1, if_neg h2, w64_add (by omega) (by omega)]
   simp
  ·simp [allIn]; intros; omega
theorem within_ev (l : List Int) (a : Int) (ha : 0 ≤ a) (ha' : a ≤ 9000000000000000000) (hl : l.length ≤ 35184372088832) : Ev (fun k => impl_within.f k l a) (allIn a l) :=
 (within_l0 l a ha ha' hl l.length 0 (by omega)).to (by simp)
theorem iHint_l7 (l : List (List Int)) (h : List Int) (r n : Int) (own : List (List Int)) (s row o c : List Int) (i j : Nat) (res : List Int × Int × Bool) (hbd : ∀ j : Nat, j < c.length → 0 ≤ rd c j ∧ rd c j < s.length) (hro : rd_L1 own (i : Int) = o) (hol : o.length = c.length) (hob : InAb o 1000) (hcl : c.length ≤ 16) (hil : i < own.length) (hs : InAb s 1025000) (hj : j < row.length) (hrl : row.length ≤ 16) : ∀ (d y : Nat) (least : Int) (neg : Bool), y + d = c.length → 0 ≤ least → least ≤ 1000 →
 Ev (fun k => impl_PassHints.l6 k l h r own n s (i : Int) c (row.set j (msgGo s c o j d y least neg)) l (l.length : Int) (i : Int) (c.length : Int) ((j : Int) + 1)) res → Ev (fun k => impl_PassHints.l7 k l h r own n s (i : Int) c row (j : Int) least neg l (l.length : Int) (i : Int) (c.length : Int) (j : Int) c (c.length : Int) (y : Int)) res := by
 intro d
 induction d with
 | zero =>
  intro y least neg hy h0 h1 H
  refine Ev.succ ?_
  simp only [impl_PassHints.l7]
  refine Ev.neg (by omega) ?_
  rw [w64_add (i := (j : Int)) (by omega) (by omega), w64 (n := -least) (by omega) (by omega)]
  simp only [msgGo] at H
  cases neg
  ·refine Ev.neg (by simp) (Ev.pos (by omega) (Ev.pos (by omega) ?_))
   simpa using H
  ·refine Ev.pos rfl (Ev.pos (by omega) (Ev.pos (by omega) ?_))
   simpa using H
 | succ d ih =>
  intro y least neg hy h0 h1 H
  have hv := hbd y (by omega)
  have hov := hob _ (rd_mem (xs := o) (i := y) (by omega))
  have hsv : -1025000 ≤ rd s (rd c y) ∧ rd s (rd c y) ≤ 1025000 := by
   obtain ⟨p, hp⟩ : ∃ p : Nat, rd c (y : Int) = (p : Int) := ⟨(rd c (y : Int)).toNat, by omega⟩
   rw [hp]; exact hs _ (rd_mem (by omega))
  refine Ev.succ ?_
  simp only [impl_PassHints.l7]
  refine Ev.pos (by omega) (Ev.pos (by omega) (Ev.pos (by omega) ?_))
  rw [w64_add (i := (y : Int)) (by omega) (by omega)]
  rw [msgGo] at H
  by_cases hjy : y = j
  ·rw [if_pos hjy] at H
   exact Ev.pos (by omega) (ih (y + 1) least neg (by omega) h0 h1 H)
  rw [if_neg hjy] at H
  refine Ev.neg (by omega) (Ev.pos hv.1 (Ev.pos hv.2 (Ev.pos (by omega) (Ev.pos (by omega) ?_))))
  rw [hro]
  refine Ev.pos (by omega) ?_
  generalize hx : rd s (rd c y) - rd o y = x at H ⊢
  rw [w64 (n := x) (by omega) (by omega), w64 (n := -x) (by omega) (by omega)]
  by_cases hneg : x < 0
  case neg =>
   rw [if_neg hneg] at H
   exact Ev.neg hneg (ih (y + 1) _ _ (by omega) (by unfold mn; split <;> omega) (by unfold mn; split <;> omega) H)
  rw [if_pos hneg] at H
  exact Ev.pos hneg (ih (y + 1) _ _ (by omega) (by unfold mn; split <;> omega) (by unfold mn; split <;> omega) H)
theorem iHint_l6 (l : List (List Int)) (h : List Int) (r n : Int) (own : List (List Int)) (s o c : List Int) (i : Nat) (res : List Int × Int × Bool) (hbd : ∀ j : Nat, j < c.length → 0 ≤ rd c j ∧ rd c j < s.length) (hro : rd_L1 own (i : Int) = o) (hol : o.length = c.length) (hob : InAb o 1000) (hcl : c.length ≤ 16) (hil : i < own.length) (hs : InAb s 1025000) (hi : i < l.length) (hll : l.length ≤ 64) : ∀ (d j : Nat) (A : List Int), j + d = c.length → A.length = j →
 Ev (fun k => impl_PassHints.l5 k l h r (own.set i (A ++ rowNext s c o d j)) n s l (l.length : Int) ((i : Int) + 1)) res → Ev (fun k => impl_PassHints.l6 k l h r own n s (i : Int) c (A ++ List.replicate d 0) l (l.length : Int) (i : Int) (c.length : Int) (j : Int)) res := by
 intro d
 induction d with
 | zero =>
  intro j A hj hA H
  refine Ev.succ ?_
  simp only [impl_PassHints.l6]
  refine Ev.neg (by omega) (Ev.pos (by omega) (Ev.pos (by omega) ?_))
  rw [w64_add (i := (i : Int)) (by omega) (by omega)]
  simpa [rowNext] using H
 | succ d ih =>
  intro j A hj hA H
  refine Ev.succ ?_
  simp only [impl_PassHints.l6]
  refine Ev.pos (by omega) ?_
  rw [rowNext] at H
  refine iHint_l7 l h r n own s _ o c i j res hbd hro hol hob hcl hil hs (by simp; omega) (by simp; omega) c.length 0 1000 false (by omega) (by omega) (by omega) ?_
  have e : (A ++ List.replicate (d + 1) 0).set j (msgGo s c o j c.length 0 1000 false) = (A ++ [msgGo s c o j c.length 0 1000 false]) ++ List.replicate d 0 := by
   subst hA; simp [List.replicate_succ]
  rw [e]
  refine ih (j + 1) _ (by omega) (by simp; omega) ?_
  simpa using H
theorem iHint_l5 (l : List (List Int)) (h : List Int) (r n : Int) (own : List (List Int)) (s : List Int) (res : List Int × Int × Bool) (hc : ChecksIn l s.length) (ho : OwnOk l own) (hs : InAb s 1025000) : ∀ (d i : Nat) (A : List (List Int)), i + d = l.length → A.length = i →
 Ev (fun k => impl_PassHints.l1 k l h r (A ++ ownNext s l own d i) (wrap64 (n + 1))) res → Ev (fun k => impl_PassHints.l5 k l h r (A ++ own.drop i) n s l (l.length : Int) (i : Int)) res := by
 intro d
 have hll := hc.len
 have holen := ho.len
 induction d with
 | zero =>
  intro i A hi hA H
  refine Ev.succ ?_
  simp only [impl_PassHints.l5]
  refine Ev.neg (by omega) ?_
  rw [List.drop_of_length_le (by omega)]
  simpa [ownNext] using H
 | succ d ih =>
  intro i A hi hA H
  have hr := hc.row i (by omega)
  refine Ev.succ ?_
  simp only [impl_PassHints.l5]
  refine Ev.pos (by omega) (Ev.pos (by omega) (Ev.pos (by omega) (Ev.pos (by omega) (Ev.pos (by omega) ?_))))
  rw [ownNext] at H
  have hro : rd_L1 (A ++ own.drop i) (i : Int) = rd_L1 own (i : Int) := by
   rw [drop_rdL1 (by omega)]; subst hA; simp [rd_L1, List.getD_eq_getElem?_getD]
  have := iHint_l6 l h r n (A ++ own.drop i) s (rd_L1 own i) (rd_L1 l i) i res (fun j hj => by have := hc.bd i (by omega) j hj; omega) hro (ho.row i (by omega)) (ho.bd i (by omega)) (by omega) (by simp; omega) hs (by omega) hll (rd_L1 l i).length 0 [] (by omega) rfl (by
   have e : ∀ v, (A ++ own.drop i).set i v = (A ++ [v]) ++ own.drop (i + 1) := fun v => by
    rw [drop_rdL1 (by omega)]; subst hA; simp
   rw [e]
   refine ih (i + 1) _ (by omega) (by simp; omega) ?_
   simpa using H)
  exact this
theorem iHint_l3 (l : List (List Int)) (h : List Int) (r n : Int) (own : List (List Int)) (o c : List Int) (i : Nat) (N : Int) (res : List Int × Int × Bool) (hbd : ∀ j : Nat, j < c.length → 0 ≤ rd c j ∧ rd c j < N) (hro : rd_L1 own (i : Int) = o) (hol : o.length = c.length) (hob : InAb o 1000) (hcl : c.length ≤ 16) (hil : i < own.length) (hi : i < 64) : ∀ (d j : Nat) (s : List Int), j + d = c.length → (s.length : Int) = N → InAb s (1000 + 16000 * i + 1000 * j) →
 Ev (fun k => impl_PassHints.l2 k l h r own n (sumRow c o d j s) l (l.length : Int) ((i : Int) + 1)) res → Ev (fun k => impl_PassHints.l3 k l h r own n s (i : Int) l (l.length : Int) (i : Int) c (c.length : Int) (j : Int)) res := by
 intro d
 induction d with
 | zero =>
  intro j s hj hn hb H
  refine Ev.succ ?_
  simp only [impl_PassHints.l3]
  refine Ev.neg (by omega) ?_
  rw [w64_add (i := (i : Int)) (by omega) (by omega)]
  exact H
 | succ d ih =>
  intro j s hj hn hb H
  have hv := hbd j (by omega)
  have hov := hob _ (rd_mem (xs := o) (i := j) (by omega))
  rw [sumRow] at H
  obtain ⟨p, hp⟩ : ∃ p : Nat, rd c (j : Int) = (p : Int) := ⟨(rd c (j : Int)).toNat, by omega⟩
  have hpl : p < s.length := by omega
  have hsv := hb _ (rd_mem hpl)
  refine Ev.succ ?_
  simp only [impl_PassHints.l3]
  refine Ev.pos (by omega) (Ev.pos (by omega) (Ev.pos (by omega) (Ev.pos hv.1 (Ev.pos (by omega) (Ev.pos (by omega) (Ev.pos (by omega) ?_))))))
  rw [hro]
  refine Ev.pos (by omega) ?_
  rw [hp] at H ⊢
  rw [w64_add (i := (j : Int)) (by omega) (by omega), w64 (n := rd s (p : Int) + _) (by omega) (by omega)]
  exact ih (j + 1) _ (by omega) (by rw [List.length_set]; exact hn) ((InAb.set hb hpl hov).mono (by omega)) H
theorem iHint_l2 (l : List (List Int)) (h : List Int) (r n : Int) (own : List (List Int)) (N : Int) (res : List Int × Int × Bool) (hc : ChecksIn l N) (ho : OwnOk l own) (hh : h.length ≤ 128) : ∀ (d i : Nat) (s : List Int), i + d = l.length → (s.length : Int) = N → InAb s (1000 + 16000 * i) →
 Ev (fun k => impl_PassHints.l4 k l h r own n (sumAll l own d i s) (List.replicate h.length 0) (s.length : Int) 0) res → Ev (fun k => impl_PassHints.l2 k l h r own n s l (l.length : Int) (i : Int)) res := by
 intro d
 have hll := hc.len
 have holen := ho.len
 induction d with
 | zero =>
  intro i s hi hn hb H
  refine Ev.succ ?_
  simp only [impl_PassHints.l2]
  exact Ev.neg (by omega) (Ev.pos (by omega) (Ev.pos (by omega) H))
 | succ d ih =>
  intro i s hi hn hb H
  have hr := hc.row i (by omega)
  rw [sumAll] at H
  refine Ev.succ ?_
  simp only [impl_PassHints.l2]
  refine Ev.pos (by omega) (Ev.pos (by omega) (Ev.pos (by omega) ?_))
  refine iHint_l3 l h r n own (rd_L1 own i) (rd_L1 l i) i N res (fun j hj => by have := hc.bd i (by omega) j hj; omega) rfl (ho.row i (by omega)) (ho.bd i (by omega)) (by omega) (by omega) (by omega) (rd_L1 l i).length 0 s (by omega) hn (hb.mono (by omega)) ?_
  have h1 := sumRow_ab (n := N) (ho.bd i (by omega)) (ho.row i (by omega)) (fun j hj => by have := hc.bd i (by omega) j hj; omega) (rd_L1 l i).length 0 s _ (by omega) hn hb
  have h2 := sumRow_len (rd_L1 l i) (rd_L1 own i) (rd_L1 l i).length 0 s
  refine ih (i + 1) _ (by omega) (by rw [h2]; exact hn) (h1.mono (by omega)) ?_
  rw [h2]; exact H
theorem iHint_l4 (l : List (List Int)) (h : List Int) (r n : Int) (own : List (List Int)) (s : List Int) (res : List Int × Int × Bool) (hl : s.length ≤ 128)
 (H : Ev (fun k => (impl_fails.f k l (zwO s)).bind fun t => (if (t.length : Int) = 0 then (impl_PassHints.j6 k l h r own n s (zwO s) ((t.length : Int) == 0) true) else (impl_PassHints.j6 k l h r own n s (zwO s) ((t.length : Int) == 0) (n == r)))) res) : ∀ (d i : Nat), i + d = s.length →
 Ev (fun k => impl_PassHints.l4 k l h r own n s (zwO (s.take i) ++ List.replicate d 0) (s.length : Int) (i : Int)) res := by
 intro d
 induction d with
 | zero =>
  intro i hi
  refine Ev.succ ?_
  simp only [impl_PassHints.l4]
  refine Ev.neg (by omega) ?_
  rw [List.take_of_length_le (by omega)]
  simpa using H
 | succ d ih =>
  intro i hi
  have hw : (zwO (s.take i)).length = i := by rw [wordOf_len, List.length_take]; omega
  refine Ev.succ ?_
  simp only [impl_PassHints.l4]
  refine Ev.pos (by omega) (Ev.pos (by omega) (Ev.pos (by omega) ?_))
  rw [w64_add (by omega) (by omega)]
  have hn := ih (i + 1) (by omega)
  rw [take_rd (by omega), show zwO (s.take i ++ [rd s (i : Int)]) = zwO (s.take i) ++ [if rd s (i : Int) < 0 then 1 else 0] by simp [zwO]] at hn
  by_cases hx : rd s i < 0
  case neg =>
   rw [if_neg hx] at hn
   refine Ev.neg hx ?_
   have e : zwO (s.take i) ++ List.replicate (d + 1) 0 = (zwO (s.take i) ++ [0]) ++ List.replicate d 0 := by simp [List.replicate_succ]
   rw [e]; exact hn
  rw [if_pos hx] at hn
  refine Ev.pos hx (Ev.pos (by simp [hw]; omega) ?_)
  have e : (zwO (s.take i) ++ List.replicate (d + 1) 0).set ((i : Int)).toNat 1 = (zwO (s.take i) ++ [1]) ++ List.replicate d 0 := by
   rw [show ((i : Int)).toNat = i from rfl]
   generalize zwO (s.take i) = A at hw
   subst hw; simp [List.replicate_succ]
  rw [e]; exact hn
theorem iHint_l1 (l : List (List Int)) (h : List Int) (hcb : zcB l (h.length : Int) = true) (hh : InAb h 1000) (r : Int) (hr : r ≤ 50) : ∀ (d : Nat) (own : List (List Int)) (n : Int), n + d = r → 0 ≤ n → OwnOk l own → Ev (fun k => impl_PassHints.l1 k l h r own n) (hintGo l h d own n) := by
 intro d
 have hc := checksIn hcb
 have hn1 := hc.n1
 have start : ∀ (own : List (List Int)) (n : Int) (res : List Int × Int × Bool), OwnOk l own → Ev (fun k => (impl_fails.f k l (zwO (zsO l own h))).bind fun t => (if (t.length : Int) = 0 then (impl_PassHints.j6 k l h r own n (zsO l own h) (zwO (zsO l own h)) ((t.length : Int) == 0) true) else (impl_PassHints.j6 k l h r own n (zsO l own h) (zwO (zsO l own h)) ((t.length : Int) == 0) (n == r)))) res → Ev (fun k => impl_PassHints.l1 k l h r own n) res := fun own n res ho H => by
  have hsl := sumsOf_len l own h
  refine Ev.succ ?_
  simp only [impl_PassHints.l1]
  refine Ev.next (Ev.here (show slices_Clone_int_int.f h = some h from if_pos (by omega))) ?_
  refine iHint_l2 l h r n own h.length res hc ho (by omega) l.length 0 h (by omega) rfl (hh.mono (by omega)) ?_
  have := iHint_l4 l h r n own (zsO l own h) res (by omega) H (zsO l own h).length 0 (by omega)
  rw [hsl] at this
  simpa [zwO, zsO] using this
 induction d with
 | zero =>
  intro own n hd hn ho
  have hsl := sumsOf_len l own h
  have hwl := wordOf_len (zsO l own h)
  have fin : ∀ b, b = decide ((zfF (zwO (zsO l own h)) l 0).length = 0) → Ev (fun k => impl_PassHints.j6 k l h r own n (zsO l own h) (zwO (zsO l own h)) b true) (hintGo l h 0 own n) := fun b hb => by
   subst hb
   refine Ev.succ ?_
   simp only [impl_PassHints.j6]
   exact Ev.pos trivial (Ev.some_ (by rw [hintGo]))
  refine start own n _ ho (Ev.next (ifails_ev l _ (by rw [hwl, hsl]; exact hc) (wordOf_bits _)) ?_)
  rw [show (n == r) = true by simp; omega]
  exact Ev.both (fun _ => fin _ (len_nil3 _)) (fun _ => fin _ (len_nil3 _))
 | succ d ih =>
  intro own n hd hn ho
  have hsl := sumsOf_len l own h
  have hwl := wordOf_len (zsO l own h)
  refine start own n _ ho (Ev.next (ifails_ev l _ (by rw [hwl, hsl]; exact hc) (wordOf_bits _)) ?_)
  rw [show (n == r) = false by simp; omega, hintGo]
  by_cases h0 : (zfF (zwO (zsO l own h)) l 0).length = 0
  case pos =>
   rw [if_pos h0]
   refine Ev.pos (by omega) (Ev.succ ?_)
   simp only [impl_PassHints.j6]
   exact Ev.pos trivial (Ev.some_ (by rw [h0]; rfl))
  rw [if_neg h0]
  refine Ev.neg (by omega) (Ev.succ ?_)
  simp only [impl_PassHints.j6]
  refine Ev.neg (by simp) ?_
  have := iHint_l5 l h r n own (zsO l own h) (hintGo l h d (ownNext (zsO l own h) l own l.length 0) (n + 1)) (by rw [hsl]; exact hc) ho (sumsOf_ab hc ho hh) l.length 0 [] (by omega) rfl (by
   rw [w64_add (by omega) (by omega), List.nil_append]
   exact ih _ (n + 1) (by omega) (by omega) (ownNext_ok _ _ _))
  simpa using this
theorem iHint_l0 (l : List (List Int)) (h : List Int) (r : Int) (res : List Int × Int × Bool) (hl : l.length ≤ 64) (hx : ∀ i : Nat, i < l.length → (rd_L1 l i).length ≤ 16) (H : Ev (fun k => impl_PassHints.l1 k l h r (l.map z0R) 0) res) : ∀ (d i : Nat), i + d = l.length → Ev (fun k => impl_PassHints.l0 k l h r ((l.take i).map z0R ++ List.replicate d []) l (l.length : Int) (i : Int)) res := by
 intro d
 induction d with
 | zero =>
  intro i hi
  refine Ev.succ ?_
  simp only [impl_PassHints.l0]
  refine Ev.neg (by omega) ?_
  rw [List.take_of_length_le (by omega)]; simpa using H
 | succ d ih =>
  intro i hi
  have := hx i (by omega)
  refine Ev.succ ?_
  simp only [impl_PassHints.l0]
  refine Ev.pos (by omega) (Ev.pos (by omega) (Ev.pos (by omega) (Ev.pos (by omega) (Ev.pos (by omega) (Ev.pos (by simp; omega) ?_)))))
  rw [w64_add (by omega) (by omega)]
  have e : ((l.take i).map z0R ++ List.replicate (d + 1) []).set ((i : Int)).toNat (List.replicate ((rd_L1 l i).length : Int).toNat 0) = (l.take (i + 1)).map z0R ++ List.replicate d [] := by
   rw [take_rdL1 (by omega)]
   have hw : ((l.take i).map z0R).length = i := by simp; omega
   rw [show ((i : Int)).toNat = i from rfl, show ((rd_L1 l i).length : Int).toNat = (rd_L1 l i).length from rfl, List.map_append]
   generalize (l.take i).map z0R = A at hw
   subst hw; simp [List.replicate_succ, z0R]
  rw [e]
  exact ih (i + 1) (by omega)
theorem iHint_ev (l : List (List Int)) (h : List Int) (r : Int) (hw : h.length ≤ 1048576) : Ev (fun k => impl_PassHints.f k l h r) (hintV l h r) := by
 have bad : Ev (fun k => impl_PassHints.j0 k l h r true) ([], 0, false) := by
  refine Ev.succ ?_
  simp only [impl_PassHints.j0]
  exact Ev.pos trivial (Ev.some_ rfl)
 unfold impl_PassHints.f hintV
 refine Ev.next (iChecksOk_ev l h.length) ?_
 cases hcb : zcB l (h.length : Int)
 ·rw [if_neg (by simp)]; exact Ev.neg (by simp) bad
 refine Ev.pos rfl (Ev.next (within_ev h 1000 (by omega) (by omega) (by omega)) ?_)
 cases hab : allIn 1000 h
 ·rw [if_neg (by simp)]; exact Ev.neg (by simp) bad
 refine Ev.pos rfl ?_
 have hr0 : impl_roundsOk.f r = some (decide (0 ≤ r ∧ r ≤ 50)) := by
  unfold impl_roundsOk.f
  by_cases h : r ≥ 0
  case pos => rw [if_pos h]; simp [h]
  rw [if_neg h]; simp; omega
 refine Ev.next (Ev.here hr0) ?_
 by_cases hr : 0 ≤ r ∧ r ≤ 50
 case neg =>
  rw [if_neg (by simp; omega), show (!decide (0 ≤ r ∧ r ≤ 50)) = true by simp; omega]
  exact bad
 rw [if_pos (by simp; omega), show (!decide (0 ≤ r ∧ r ≤ 50)) = false by simp; omega]
 refine Ev.succ ?_
 simp only [impl_PassHints.j0]
 have hc := checksIn hcb
 have hll := hc.len
 refine Ev.neg (by simp) (Ev.pos (by omega) (Ev.pos (by omega) ?_))
 have := iHint_l0 l h r _ hc.len (fun i hi => (hc.row i hi).2) (iHint_l1 l h hcb (fun x hx => allIn_iff.1 hab x hx) r hr.2 r.toNat _ 0 (by omega) (by omega) (zero_ok l)) l.length 0 (by omega)
 simpa using this
def maxOne2 (a b : Int) : Int := if a < b then b else a
def countRow (c cs : List Int) : List Int := c.foldl (fun a x => a.set x.toNat (rd a x + 1)) cs
def zcO (l : List (List Int)) (bad cs : List Int) : List Int := bad.foldl (fun a i => countRow (rd_L1 l i) a) cs
structure IsMax (cs : List Int) (m : Int) : Prop where
  mem : m ∈ cs
  le : ∀ x ∈ cs, x ≤ m
theorem IsMax.eq {cs : List Int} {m n : Int} (h : IsMax cs m) (g : IsMax cs n) : m = n := Int.le_antisymm (g.le _ h.mem) (h.le _ g.mem)
theorem IsMax.zeros {n : Nat} (h : 0 < n) : IsMax (List.replicate n 0) 0 := ⟨by rw [List.mem_replicate]; exact ⟨by omega, rfl⟩, fun x hx => by rw [List.mem_replicate] at hx; omega⟩
theorem set_at {cs : List Int} {j : Nat} (h : j < cs.length) (v : Int) : rd (cs.set j v) (j : Int) = v := by simp [rd, List.getD_eq_getElem?_getD, h]
theorem IsMax.set {cs : List Int} {m : Int} {j : Nat} (h : IsMax cs m) (hj : j < cs.length) : IsMax (cs.set j (rd cs j + 1)) (if rd cs j + 1 > m then rd cs j + 1 else m) := by
 split
 ·rename_i hg
  refine ⟨List.mem_or_eq_of_mem_set (by have := List.getElem_mem (l := cs.set j (rd cs j + 1)) (n := j) (by simpa using hj); simpa using this) |>.elim (fun h2 => ?_) (fun _ => ?_), fun x hx => ?_⟩
  ·exact List.mem_iff_getElem.2 ⟨j, by simpa using hj, by simp⟩
  ·exact List.mem_iff_getElem.2 ⟨j, by simpa using hj, by simp⟩
  ·rcases List.mem_or_eq_of_mem_set hx with h2 | h2
   ·have := h.le x h2; omega
   ·omega
 ·rename_i hg
  obtain ⟨i, hi, he⟩ := List.mem_iff_getElem.1 h.mem
  have hne : i ≠ j := by
   intro e
   subst e
   rw [rd_get cs i hi] at hg
   omega
  refine ⟨List.mem_iff_getElem.2 ⟨i, by simpa using hi, by rw [List.getElem_set_ne (by omega)]; exact he⟩, fun x hx => ?_⟩
  rcases List.mem_or_eq_of_mem_set hx with h2 | h2
  ·exact h.le x h2
  ·omega
def InB (cs : List Int) (b : Int) : Prop := ∀ x ∈ cs, 0 ≤ x ∧ x ≤ b
theorem InB.zeros (n : Nat) : InB (List.replicate n 0) 0 := fun x hx => by rw [List.mem_replicate] at hx; omega
theorem InB.mono {cs : List Int} {b c : Int} (h : InB cs b) (hc : b ≤ c) : InB cs c := fun x hx => by have := h x hx; omega
theorem InB.set {cs : List Int} {b : Int} {j : Nat} (h : InB cs b) (hj : j < cs.length) : InB (cs.set j (rd cs j + 1)) (b + 1) := fun x hx => by
 have := h _ (rd_mem hj)
 rcases List.mem_or_eq_of_mem_set hx with h2 | h2
 ·have := h x h2; omega
 ·omega
theorem countRow_step {c cs : List Int} {j : Nat} (hj : j < c.length) : countRow (c.drop j) cs = countRow (c.drop (j + 1)) (cs.set (rd c j).toNat (rd cs (rd c j) + 1)) := by rw [drop_rd hj]; rfl
theorem countRow_nil {c cs : List Int} {j : Nat} (hj : c.length ≤ j) : countRow (c.drop j) cs = cs := by rw [List.drop_of_length_le hj]; rfl
theorem countsOf_step {l : List (List Int)} {b cs : List Int} {i : Nat} (hi : i < b.length) : zcO l (b.drop i) cs = zcO l (b.drop (i + 1)) (countRow (rd_L1 l (rd b i)) cs) := by rw [drop_rd hi]; rfl
theorem countsOf_nil {l : List (List Int)} {b cs : List Int} {i : Nat} (hi : b.length ≤ i) : zcO l (b.drop i) cs = cs := by rw [List.drop_of_length_le hi]; rfl
def turnA (cs : List Int) (m : Int) : List Int → Nat → List Int
 | [], _ => []
 | x :: xs, i => (if rd cs i = m then 1 - x else x) :: turnA cs m xs (i + 1)
theorem turnA_len (cs : List Int) (m : Int) : ∀ (xs : List Int) (i : Nat), (turnA cs m xs i).length = xs.length
 | [], _ => rfl
 | _ :: xs, i => by simp only [turnA, List.length_cons, turnA_len cs m xs (i + 1)]
theorem turnA_bits (cs : List Int) (m : Int) : ∀ (xs : List Int) (i : Nat), (∀ x ∈ xs, x = 0 ∨ x = 1) → ∀ x ∈ turnA cs m xs i, x = 0 ∨ x = 1
 | [], _, _ => by simp [turnA]
 | y :: xs, i, h => by
  intro x hx
  simp only [turnA, List.mem_cons] at hx
  have hy := h y (by simp)
  rcases hx with rfl | hx
  ·split <;> omega
  ·exact turnA_bits cs m xs (i + 1) (fun z hz => h z (by simp [hz])) x hx
def mostOf (cs : List Int) : Int := (cs.drop 1).foldl maxOne2 (rd cs 0)
theorem maxFold (xs : List Int) : ∀ (a : Int), (xs.foldl maxOne2 a = a ∨ xs.foldl maxOne2 a ∈ xs) ∧ a ≤ xs.foldl maxOne2 a ∧ ∀ x ∈ xs, x ≤ xs.foldl maxOne2 a := by
 induction xs with
 | nil => intro a; simp
 | cons y xs ih =>
  intro a
  rw [List.foldl_cons]
  obtain ⟨h1, h2, h3⟩ := ih (maxOne2 a y)
  have hm : (maxOne2 a y = a ∨ maxOne2 a y = y) ∧ a ≤ maxOne2 a y ∧ y ≤ maxOne2 a y := by unfold maxOne2; split <;> omega
  refine ⟨?_, by omega, ?_⟩
  ·rcases h1 with h1 | h1
   ·rcases hm.1 with h4 | h4
    ·exact .inl (by omega)
    ·exact .inr (by rw [h1, h4]; simp)
   ·exact .inr (by simp [h1])
  ·intro x hx
   rcases List.mem_cons.1 hx with rfl | hx
   ·omega
   ·exact h3 x hx
theorem mostOf_is {cs : List Int} (h : 0 < cs.length) : IsMax cs (mostOf cs) := by
 cases cs with
 | nil => simp at h
 | cons y xs =>
  obtain ⟨h1, h2, h3⟩ := maxFold xs y
  refine ⟨?_, fun x hx => ?_⟩
  ·show xs.foldl maxOne2 y ∈ y :: xs
   rcases h1 with h1 | h1
   ·rw [h1]; simp
   ·simp [h1]
  ·show x ≤ xs.foldl maxOne2 y
   rcases List.mem_cons.1 hx with rfl | hx
   ·exact h2
   ·exact h3 x hx
def turnOnce (l : List (List Int)) (w : List Int) : List Int :=
 turnA (zcO l (zfF w l 0) (List.replicate w.length 0)) (mostOf (zcO l (zfF w l 0) (List.replicate w.length 0))) w 0
theorem countRow_len : ∀ (c cs : List Int), (countRow c cs).length = cs.length
 | [], _ => rfl
 | x :: c, cs => by
  have := countRow_len c (cs.set x.toNat (rd cs x + 1))
  rw [List.length_set] at this
  exact this
theorem countsOf_len (l : List (List Int)) : ∀ (b cs : List Int), (zcO l b cs).length = cs.length
 | [], _ => rfl
 | x :: b, cs => by
  have := countsOf_len l b (countRow (rd_L1 l x) cs)
  rw [countRow_len] at this
  exact this
def turnGo (l : List (List Int)) : Nat → List Int → Int → List Int × Int × Bool
 | 0, w, n => (w, n, decide ((zfF w l 0).length = 0))
 | d + 1, w, n => if (zfF w l 0).length = 0 then (w, n, true) else turnGo l d (turnOnce l w) (n + 1)
def turnV (l : List (List Int)) (w : List Int) (r : Int) : List Int × Int × Bool := if ((bitsB w && zcB l (w.length : Int)) && decide (0 ≤ r ∧ r ≤ 50)) = true then turnGo l r.toNat w 0 else ([], 0, false)
theorem sTurn_l3 (l : List (List Int)) (r n : Int) (cnt : List Int) (most : Int) (res : List Int × Int × Bool) (hn : cnt.length ≤ 128) : ∀ (xs A : List Int), (∀ x ∈ xs, x = 0 ∨ x = 1) → A.length + xs.length = cnt.length → Ev (fun k => (spec_Fails.f k l (A ++ turnA cnt most xs A.length)).bind fun b => spec_TurnBits.l0 k l r b.1 (A ++ turnA cnt most xs A.length) (wrap64 (n + 1))) res →
 Ev (fun k => spec_TurnBits.l3 k l r (A ++ xs) n cnt most (A.length : Int)) res := by
 intro xs
 induction xs with
 | nil =>
  intro A _ hl H
  refine Ev.succ ?_
  simp only [spec_TurnBits.l3]
  refine Ev.neg (by simp) ?_
  simp only [turnA] at H
  exact H
 | cons x xs ih =>
  intro A hb hl H
  simp only [List.length_cons] at hl
  have hx := hb x (by simp)
  refine Ev.succ ?_
  simp only [spec_TurnBits.l3]
  refine Ev.pos (by simp; omega) (Ev.pos (by omega) (Ev.pos (by omega) ?_))
  have e1 : rd (A ++ x :: xs) (A.length : Int) = x := by simp [rd, List.getD_eq_getElem?_getD]
  have e2 : ∀ v, (A ++ x :: xs).set ((A.length : Nat) : Int).toNat v = (A ++ [v]) ++ xs := fun v => by simp
  rw [w64_add (i := (A.length : Int)) (by omega) (by omega), e1]
  have next : ∀ v, (if rd cnt (A.length : Int) = most then 1 - x else x) = v → Ev (fun k => spec_TurnBits.l3 k l r ((A ++ [v]) ++ xs) n cnt most ((A.length : Int) + 1)) res := fun v hv => by
   have h1 : (A ++ [v]).length = A.length + 1 := by simp
   have := ih (A ++ [v]) (fun y hy => hb y (by simp [hy])) (by rw [h1]; omega) (by
    rw [h1]
    simp only [turnA, hv] at H
    simpa using H)
   rw [h1] at this
   exact this
  by_cases hc : rd cnt (A.length : Int) = most
  case neg =>
   refine Ev.neg hc ?_
   have := next x (if_neg hc)
   simpa using this
  refine Ev.pos hc ?_
  rw [e2, w64 (by omega) (by omega)]
  exact next _ (if_pos hc)
theorem sTurn_l1 (l : List (List Int)) (r n : Int) (w bad : List Int) (res : List Int × Int × Bool) (hc : ChecksIn l w.length) (hbad : ∀ x ∈ bad, 0 ≤ x ∧ x < l.length) (hbl : bad.length ≤ 64) : ∀ (d i : Nat) (cnt : List Int) (most : Int), i + d = bad.length → cnt.length = w.length → InB cnt (16 * i) → IsMax cnt most →
 (∀ m, IsMax (zcO l (bad.drop i) cnt) m → Ev (fun k => spec_TurnBits.l3 k l r w n (zcO l (bad.drop i) cnt) m 0) res) → Ev (fun k => spec_TurnBits.l1 k l r bad w n cnt most (i : Int)) res := by
 intro d
 induction d with
 | zero =>
  intro i cnt most hi hl hb hm H
  refine Ev.succ ?_
  simp only [spec_TurnBits.l1]
  rw [countsOf_nil (by omega)] at H
  exact Ev.neg (by omega) (H most hm)
 | succ d ih =>
  intro i cnt most hi hl hb hm H
  have hi1 : i < bad.length := by omega
  have hx := hbad _ (rd_mem hi1)
  refine Ev.succ ?_
  simp only [spec_TurnBits.l1]
  refine Ev.pos (by omega) (Ev.pos (by omega) (Ev.pos hx.1 (Ev.pos hx.2 ?_)))
  rw [countsOf_step hi1] at H
  obtain ⟨q, hq⟩ : ∃ q : Nat, rd bad (i : Int) = (q : Int) := ⟨(rd bad (i : Int)).toNat, by omega⟩
  rw [hq] at H hx ⊢
  have hrow := hc.row q (by omega)
  have hbd := hc.bd q (by omega)
  generalize hcc : rd_L1 l (q : Int) = c at hrow hbd H ⊢
  have inner : ∀ (d' j : Nat) (cnt : List Int) (most : Int), j + d' = c.length → cnt.length = w.length → InB cnt (16 * i + j) → IsMax cnt most →
   (∀ m, IsMax (zcO l (bad.drop (i + 1)) (countRow (c.drop j) cnt)) m → Ev (fun k => spec_TurnBits.l3 k l r w n (zcO l (bad.drop (i + 1)) (countRow (c.drop j) cnt)) m 0) res) → Ev (fun k => spec_TurnBits.l2 k l r bad w n cnt most (i : Int) c (j : Int)) res := by
   intro d'
   induction d' with
   | zero =>
    intro j cnt most hj hl hb hm H
    refine Ev.succ ?_
    simp only [spec_TurnBits.l2]
    rw [countRow_nil (by omega)] at H
    rw [w64_add (i := (i : Int)) (by omega) (by omega)]
    exact Ev.neg (by omega) (ih (i + 1) cnt most (by omega) hl (hb.mono (by omega)) hm H)
   | succ d' ih' =>
    intro j cnt most hj hl hb hm H
    have hv := hbd j (by omega)
    obtain ⟨p, hp⟩ : ∃ p : Nat, rd c (j : Int) = (p : Int) := ⟨(rd c (j : Int)).toNat, by omega⟩
    have hpl : p < cnt.length := by omega
    have hcv := hb _ (rd_mem hpl)
    refine Ev.succ ?_
    simp only [spec_TurnBits.l2]
    refine Ev.pos (by omega) (Ev.pos (by omega) (Ev.pos hv.1 (Ev.pos (by omega) (Ev.next (Ev.some_ rfl) ?_))))
    rw [countRow_step (by omega)] at H
    rw [hp] at H ⊢
    rw [w64_add (i := (j : Int)) (by omega) (by omega), w64_add (i := rd cnt (p : Int)) (by omega) (by omega)]
    rw [show ((p : Int)).toNat = p from rfl] at H ⊢
    rw [set_at hpl]
    have hb2 : InB (cnt.set p (rd cnt (p : Int) + 1)) (16 * i + (j + 1 : Nat)) := (InB.set hb hpl).mono (by omega)
    have hm2 := IsMax.set hm hpl
    by_cases hg : rd cnt (p : Int) + 1 > most
    case neg =>
     rw [if_neg hg] at hm2
     exact Ev.neg hg (ih' (j + 1) _ _ (by omega) (by rw [List.length_set]; exact hl) hb2 hm2 H)
    rw [if_pos hg] at hm2
    exact Ev.pos hg (ih' (j + 1) _ _ (by omega) (by rw [List.length_set]; exact hl) hb2 hm2 H)
  exact inner c.length 0 cnt most (by omega) hl (hb.mono (by omega)) hm H
theorem sFails_in (l : List (List Int)) (w : List Int) (hc : zcB l (w.length : Int) = true) (hw : ∀ x ∈ w, x = 0 ∨ x = 1) : Ev (fun k => spec_Fails.f k l w) (zfF w l 0, true) := by
 have hn := (checksIn hc).n1
 have := sFails_ev l w (by omega)
 rw [failsV, if_pos (by rw [hc, bitsB_iff.2 ⟨hw, by omega⟩]; rfl)] at this
 exact this
theorem len_nil (l : List Int) : ((l.length : Int) == 0) = decide (l.length = 0) := by
 cases l with
 | nil => rfl
 | cons x l => rw [show (((x :: l).length : Int) == 0) = false by simp; omega, show decide ((x :: l).length = 0) = false by simp]
theorem sTurn_l0 (l : List (List Int)) (N : Nat) (hcb : zcB l (N : Int) = true) (r : Int) (hr : r ≤ 50) : ∀ (d : Nat) (w : List Int) (n : Int), n + d = r → 0 ≤ n → w.length = N → (∀ x ∈ w, x = 0 ∨ x = 1) → Ev (fun k => spec_TurnBits.l0 k l r (zfF w l 0) w n) (turnGo l d w n) := by
 intro d
 have hc := checksIn hcb
 have hn1 := hc.n1
 induction d with
 | zero =>
  intro w n hd hn hw hb
  have fin : Ev (fun k => spec_TurnBits.j2 k l r (zfF w l 0) w n false) (turnGo l 0 w n) := by
   refine Ev.succ ?_
   simp only [spec_TurnBits.j2]
   exact Ev.neg (by simp) (Ev.some_ (by rw [turnGo, len_nil]))
  refine Ev.succ ?_
  simp only [spec_TurnBits.l0]
  rw [show decide (n < r) = false from decide_eq_false (by omega)]
  exact Ev.both (fun _ => fin) (fun _ => fin)
 | succ d ih =>
  intro w n hd hn hw hb
  refine Ev.succ ?_
  simp only [spec_TurnBits.l0]
  rw [show decide (n < r) = true from decide_eq_true (by omega)]
  by_cases h0 : (zfF w l 0).length = 0
  case pos =>
   refine Ev.neg (by omega) (Ev.succ ?_)
   simp only [spec_TurnBits.j2]
   exact Ev.neg (by simp) (Ev.some_ (by rw [turnGo, if_pos h0, h0]; rfl))
  refine Ev.pos (by omega) (Ev.succ ?_)
  simp only [spec_TurnBits.j2]
  rw [turnGo, if_neg h0]
  refine Ev.pos trivial (Ev.pos (by omega) (Ev.pos (by omega) ?_))
  rw [show ((w.length : Int)).toNat = w.length from rfl]
  have hfl := failsFrom_len w l 0
  have hll := hc.len
  refine sTurn_l1 l r n w _ _ (by rw [hw]; exact hc) (fun x hx => by have := failsFrom_in w l 0 x hx; omega) (by omega) (zfF w l 0).length 0 _ 0 (by omega) (by simp) (InB.zeros _) (IsMax.zeros (by omega)) (fun m hm => ?_)
  rw [List.drop_zero] at hm ⊢
  have hlen : (zcO l (zfF w l 0) (List.replicate w.length 0)).length = w.length := by rw [countsOf_len]; simp
  have hme : m = mostOf (zcO l (zfF w l 0) (List.replicate w.length 0)) := hm.eq (mostOf_is (by omega))
  rw [turnOnce, ← hme]
  have hb2 := turnA_bits (zcO l (zfF w l 0) (List.replicate w.length 0)) m w 0 hb
  have hl2 := turnA_len (zcO l (zfF w l 0) (List.replicate w.length 0)) m w 0
  refine sTurn_l3 l r n _ m _ (by omega) w [] hb (by simp [hlen]) ?_
  simp only [List.nil_append, List.length_nil]
  refine Ev.next (sFails_in l _ (by rw [hl2, hw]; exact hcb) hb2) ?_
  rw [w64_add (by omega) (by omega)]
  exact ih _ (n + 1) (by omega) (by omega) (by omega) hb2
theorem sTurn_ev (l : List (List Int)) (w : List Int) (r : Int) (hw : w.length ≤ 1048576) : Ev (fun k => spec_TurnBits.f k l w r) (turnV l w r) := by
 unfold spec_TurnBits.f turnV
 have bad : ∀ b, Ev (fun k => spec_TurnBits.j0 k l w r b true) ([], 0, false) := fun b => by
  refine Ev.succ ?_
  simp only [spec_TurnBits.j0]
  exact Ev.pos trivial (Ev.some_ rfl)
 refine Ev.next (sFails_ev l w hw) ?_
 unfold failsV
 by_cases h : (bitsB w && zcB l (w.length : Int)) = true
 case neg =>
  rw [if_neg h, if_neg (by intro h2; rw [Bool.and_eq_true] at h2; exact h h2.1)]
  exact Ev.neg (by simp) (bad _)
 rw [if_pos h, h]
 rw [Bool.and_eq_true] at h
 have hb := bitsB_iff.1 h.1
 refine Ev.pos rfl ?_
 simp only [l1In_eq, Option.bind_some]
 by_cases hr : 0 ≤ r ∧ r ≤ 50
 case neg =>
  rw [if_neg (by simp; omega)]
  rw [show (!(decide (0 ≤ r) && decide (r ≤ 50))) = true by simp; omega]
  exact bad _
 rw [if_pos (by simp; omega)]
 rw [show (!(decide (0 ≤ r) && decide (r ≤ 50))) = false by simp; omega]
 refine Ev.succ ?_
 simp only [spec_TurnBits.j0]
 refine Ev.neg (by simp) (Ev.next (Ev.some_ rfl) (Ev.pos (by simp; omega) ?_))
 exact sTurn_l0 l w.length h.2 r hr.2 r.toNat w 0 (by omega) (by omega) rfl hb.1
theorem isBit_eq (a : Int) : impl_isBit.f a = some (decide (a = 0 ∨ a = 1)) := by
 unfold impl_isBit.f
 by_cases h : a = 0
 case pos => simp [h]
 rw [if_neg h]; simp [h]; by_cases h1 : a = 1 <;> simp [h1]
theorem iBitsOk_l0 (l : List Int) (hl : l.length ≤ 1048576) : ∀ (d i : Nat), i + d = l.length → Ev (fun k => impl_BitsOk.l0 k l l (l.length : Int) (i : Int)) ((l.drop i).all bitOk && decide (l.length ≤ 1024)) := by
 intro d
 induction d with
 | zero =>
  intro i hi
  refine Ev.succ ?_
  simp only [impl_BitsOk.l0]
  rw [List.drop_of_length_le (by omega)]
  exact Ev.neg (by omega) (Ev.some_ (by simp; omega))
 | succ d ih =>
  intro i hi
  refine Ev.succ ?_
  simp only [impl_BitsOk.l0, isBit_eq, Option.bind_some]
  refine Ev.pos (by omega) (Ev.pos (by omega) (Ev.pos (by omega) ?_))
  rw [drop_rd (xs := l) (i := i) (by omega), w64_add (by omega) (by omega)]
  by_cases h1 : rd l i = 0 ∨ rd l i = 1
  case neg => exact Ev.neg (by simp [h1]) (Ev.some_ (by simp [bitOk, h1]))
  exact Ev.pos (by simp [h1]) ((ih (i + 1) (by omega)).to (by simp [bitOk, h1]))
theorem iBitsOk_ev (l : List Int) (hl : l.length ≤ 1048576) : Ev (fun k => impl_BitsOk.f k l) (bitsB l) :=
 (iBitsOk_l0 l hl l.length 0 (by omega)).to (by simp [bitsB])
theorem xor_one (b : Int) (hb : b = 0 ∨ b = 1) : Go.bits .xor .i64 b 1 = 1 - b := by
 rcases hb with rfl | rfl <;> decide +kernel
theorem iTurn_l3 (l : List (List Int)) (r n : Int) (cnt : List Int) (most : Int) (res : List Int × Int × Bool) (hn : cnt.length ≤ 128) : ∀ (xs A : List Int), (∀ x ∈ xs, x = 0 ∨ x = 1) → A.length + xs.length = cnt.length → Ev (fun k => impl_TurnBits.l0 k l r (A ++ turnA cnt most xs A.length) (wrap64 (n + 1))) res →
 Ev (fun k => impl_TurnBits.l3 k l r (A ++ xs) n cnt most (cnt.length : Int) (A.length : Int)) res := by
 intro xs
 induction xs with
 | nil =>
  intro A _ hl H
  simp only [List.length_nil] at hl
  refine Ev.succ ?_
  simp only [impl_TurnBits.l3]
  refine Ev.neg (by omega) ?_
  simp only [turnA] at H
  exact H
 | cons x xs ih =>
  intro A hb hl H
  simp only [List.length_cons] at hl
  have hx := hb x (by simp)
  refine Ev.succ ?_
  simp only [impl_TurnBits.l3]
  refine Ev.pos (by omega) (Ev.pos (by omega) (Ev.pos (by omega) ?_))
  have e1 : rd (A ++ x :: xs) (A.length : Int) = x := by simp [rd, List.getD_eq_getElem?_getD]
  have e2 : ∀ v, (A ++ x :: xs).set ((A.length : Nat) : Int).toNat v = (A ++ [v]) ++ xs := fun v => by simp
  rw [w64_add (i := (A.length : Int)) (by omega) (by omega), e1]
  have next : ∀ v, (if rd cnt (A.length : Int) = most then 1 - x else x) = v → Ev (fun k => impl_TurnBits.l3 k l r ((A ++ [v]) ++ xs) n cnt most (cnt.length : Int) ((A.length : Int) + 1)) res := fun v hv => by
   have h1 : (A ++ [v]).length = A.length + 1 := by simp
   have := ih (A ++ [v]) (fun y hy => hb y (by simp [hy])) (by rw [h1]; omega) (by
    rw [h1]
    simp only [turnA, hv] at H
    simpa using H)
   rw [h1] at this
   exact this
  by_cases hc : rd cnt (A.length : Int) = most
  case neg =>
   refine Ev.neg hc ?_
   have := next x (if_neg hc)
   simpa using this
  refine Ev.pos hc (Ev.pos (by simp; omega) ?_)
  rw [e2, xor_one x hx]
  exact next _ (if_pos hc)
theorem iTurn_l1 (l : List (List Int)) (r n : Int) (w bad : List Int) (res : List Int × Int × Bool) (hc : ChecksIn l w.length) (hbad : ∀ x ∈ bad, 0 ≤ x ∧ x < l.length) (hbl : bad.length ≤ 64) : ∀ (d i : Nat) (cnt : List Int), i + d = bad.length → cnt.length = w.length → InB cnt (16 * i) →
 Ev (fun k => impl_TurnBits.l3 k l r w n (zcO l (bad.drop i) cnt) (mostOf (zcO l (bad.drop i) cnt)) (w.length : Int) 0) res → Ev (fun k => impl_TurnBits.l1 k l r w n bad cnt (bad.length : Int) (i : Int)) res := by
 intro d
 have hn1 := hc.n1
 induction d with
 | zero =>
  intro i cnt hi hl hb H
  refine Ev.succ ?_
  simp only [impl_TurnBits.l1]
  rw [countsOf_nil (by omega)] at H
  refine Ev.neg (by omega) (Ev.next (Ev.here (show slices_Max_int_int.f cnt = some (mostOf cnt) from if_pos (by omega))) ?_)
  rw [hl]; exact H
 | succ d ih =>
  intro i cnt hi hl hb H
  have hi1 : i < bad.length := by omega
  have hx := hbad _ (rd_mem hi1)
  refine Ev.succ ?_
  simp only [impl_TurnBits.l1]
  refine Ev.pos (by omega) (Ev.pos (by omega) (Ev.pos (by omega) (Ev.pos hx.1 (Ev.pos hx.2 ?_))))
  rw [countsOf_step hi1] at H
  obtain ⟨q, hq⟩ : ∃ q : Nat, rd bad (i : Int) = (q : Int) := ⟨(rd bad (i : Int)).toNat, by omega⟩
  rw [hq] at H hx ⊢
  have hrow := hc.row q (by omega)
  have hbd := hc.bd q (by omega)
  generalize hcc : rd_L1 l (q : Int) = c at hrow hbd H ⊢
  have inner : ∀ (d' j : Nat) (cnt : List Int), j + d' = c.length → cnt.length = w.length → InB cnt (16 * i + j) →
   Ev (fun k => impl_TurnBits.l3 k l r w n (zcO l (bad.drop (i + 1)) (countRow (c.drop j) cnt)) (mostOf (zcO l (bad.drop (i + 1)) (countRow (c.drop j) cnt))) (w.length : Int) 0) res → Ev (fun k => impl_TurnBits.l2 k l r w n bad cnt (bad.length : Int) (i : Int) c (c.length : Int) (j : Int)) res := by
   intro d'
   induction d' with
   | zero =>
    intro j cnt hj hl hb H
    refine Ev.succ ?_
    simp only [impl_TurnBits.l2]
    rw [countRow_nil (by omega)] at H
    rw [w64_add (i := (i : Int)) (by omega) (by omega)]
    exact Ev.neg (by omega) (ih (i + 1) cnt (by omega) hl (hb.mono (by omega)) H)
   | succ d' ih' =>
    intro j cnt hj hl hb H
    have hv := hbd j (by omega)
    obtain ⟨p, hp⟩ : ∃ p : Nat, rd c (j : Int) = (p : Int) := ⟨(rd c (j : Int)).toNat, by omega⟩
    have hpl : p < cnt.length := by omega
    have hcv := hb _ (rd_mem hpl)
    refine Ev.succ ?_
    simp only [impl_TurnBits.l2]
    refine Ev.pos (by omega) (Ev.pos (by omega) (Ev.pos (by omega) (Ev.pos hv.1 (Ev.pos (by omega) ?_))))
    rw [countRow_step (by omega)] at H
    rw [hp] at H ⊢
    rw [w64_add (i := (j : Int)) (by omega) (by omega), w64_add (i := rd cnt (p : Int)) (by omega) (by omega)]
    rw [show ((p : Int)).toNat = p from rfl] at H ⊢
    have hb2 : InB (cnt.set p (rd cnt (p : Int) + 1)) (16 * i + (j + 1 : Nat)) := (InB.set hb hpl).mono (by omega)
    exact ih' (j + 1) _ (by omega) (by rw [List.length_set]; exact hl) hb2 H
  exact inner c.length 0 cnt (by omega) hl (hb.mono (by omega)) H
theorem len_nil2 (l : List Int) : ((l.length : Int) == 0) = decide (l.length = 0) := by
 cases l with
 | nil => rfl
 | cons x l => rw [show (((x :: l).length : Int) == 0) = false by simp; omega, show decide ((x :: l).length = 0) = false by simp]
theorem iTurn_l0 (l : List (List Int)) (N : Nat) (hcb : zcB l (N : Int) = true) (r : Int) (hr : r ≤ 50) : ∀ (d : Nat) (w : List Int) (n : Int), n + d = r → 0 ≤ n → w.length = N → (∀ x ∈ w, x = 0 ∨ x = 1) → Ev (fun k => impl_TurnBits.l0 k l r w n) (turnGo l d w n) := by
 intro d
 have hc := checksIn hcb
 have hn1 := hc.n1
 induction d with
 | zero =>
  intro w n hd hn hw hb
  have fin : Ev (fun k => impl_TurnBits.j2 k l r w n (zfF w l 0) true) (turnGo l 0 w n) := by
   refine Ev.succ ?_
   simp only [impl_TurnBits.j2]
   exact Ev.pos trivial (Ev.some_ (by rw [turnGo, len_nil2]))
  refine Ev.succ ?_
  simp only [impl_TurnBits.l0]
  refine Ev.next (ifails_ev l w (by rw [hw]; exact hc) hb) ?_
  rw [show (n == r) = true by simp; omega]
  exact Ev.both (fun _ => fin) (fun _ => fin)
 | succ d ih =>
  intro w n hd hn hw hb
  refine Ev.succ ?_
  simp only [impl_TurnBits.l0]
  refine Ev.next (ifails_ev l w (by rw [hw]; exact hc) hb) ?_
  rw [show (n == r) = false by simp; omega]
  by_cases h0 : (zfF w l 0).length = 0
  case pos =>
   refine Ev.pos (by omega) (Ev.succ ?_)
   simp only [impl_TurnBits.j2]
   exact Ev.pos trivial (Ev.some_ (by rw [turnGo, if_pos h0, h0]; rfl))
  refine Ev.neg (by omega) (Ev.succ ?_)
  simp only [impl_TurnBits.j2]
  rw [turnGo, if_neg h0]
  refine Ev.neg (by simp) (Ev.pos (by omega) (Ev.pos (by omega) ?_))
  rw [show ((w.length : Int)).toNat = w.length from rfl]
  have hfl := failsFrom_len w l 0
  have hll := hc.len
  refine iTurn_l1 l r n w _ _ (by rw [hw]; exact hc) (fun x hx => by have := failsFrom_in w l 0 x hx; omega) (by omega) (zfF w l 0).length 0 _ (by omega) (by simp) (InB.zeros _) ?_
  rw [List.drop_zero]
  have hlen : (zcO l (zfF w l 0) (List.replicate w.length 0)).length = w.length := by rw [countsOf_len]; simp
  rw [turnOnce]
  generalize zcO l (zfF w l 0) (List.replicate w.length 0) = cnt at hlen
  generalize mostOf cnt = m
  have hb2 := turnA_bits cnt m w 0 hb
  have hl2 := turnA_len cnt m w 0
  have := iTurn_l3 l r n cnt m (turnGo l d (turnA cnt m w 0) (n + 1)) (by omega) w [] hb (by simp [hlen]) (by
   simp only [List.nil_append, List.length_nil]
   rw [w64_add (by omega) (by omega)]
   exact ih _ (n + 1) (by omega) (by omega) (by omega) hb2)
  rw [hlen] at this
  exact this
theorem iTurn_ev (l : List (List Int)) (w : List Int) (r : Int) (hw : w.length ≤ 1048576) : Ev (fun k => impl_TurnBits.f k l w r) (turnV l w r) := by
 unfold impl_TurnBits.f turnV
 have bad : Ev (fun k => impl_TurnBits.j0 k l w r true) ([], 0, false) := by
  refine Ev.succ ?_
  simp only [impl_TurnBits.j0]
  exact Ev.pos trivial (Ev.some_ rfl)
 refine Ev.next (iBitsOk_ev w hw) ?_
 cases hbb : bitsB w
 ·rw [if_neg (by simp)]; exact Ev.neg (by simp) bad
 refine Ev.pos rfl (Ev.next (iChecksOk_ev l w.length) ?_)
 cases hcb : zcB l (w.length : Int)
 ·rw [if_neg (by simp)]; exact Ev.neg (by simp) bad
 refine Ev.pos rfl ?_
 have hr0 : impl_roundsOk.f r = some (decide (0 ≤ r ∧ r ≤ 50)) := by
  unfold impl_roundsOk.f
  by_cases h : r ≥ 0
  case pos => rw [if_pos h]; simp [h]
  rw [if_neg h]; simp; omega
 refine Ev.next (Ev.here hr0) ?_
 by_cases hr : 0 ≤ r ∧ r ≤ 50
 case neg =>
  rw [if_neg (by simp; omega), show (!decide (0 ≤ r ∧ r ≤ 50)) = true by simp; omega]
  exact bad
 rw [if_pos (by simp; omega), show (!decide (0 ≤ r ∧ r ≤ 50)) = false by simp; omega]
 refine Ev.succ ?_
 simp only [impl_TurnBits.j0]
 have hn := bitsB_iff.1 hbb
 refine Ev.neg (by simp) (Ev.next (Ev.here (show slices_Clone_int_int.f w = some w from if_pos (by omega))) ?_)
 exact iTurn_l0 l w.length hcb r hr.2 r.toNat w 0 (by omega) (by omega) rfl hn.1
theorem iFails_ev (l : List (List Int)) (w : List Int) (hw : w.length ≤ 1048576) : Ev (fun k => impl_Fails.f k l w) (failsV l w) := by
 unfold impl_Fails.f failsV
 refine Ev.next (iBitsOk_ev w hw) ?_
 cases hb : bitsB w
 ·exact Ev.neg (by simp) (Ev.some_ (by simp))
 ·refine Ev.pos rfl (Ev.next (iChecksOk_ev l w.length) ?_)
  cases hc : zcB l (w.length : Int)
  ·exact Ev.neg (by simp) (Ev.some_ (by simp))
  ·exact Ev.pos rfl (Ev.next (ifails_ev l w (checksIn hc) (bitsB_iff.1 hb).1) (Ev.some_ (by simp)))
theorem l1New_l0 (l : List Int) : ∀ (d i : Nat) (h : Int), i + d = l.length → (i : Int) ≤ 4000 → EvP (fun k => spec_l1New.l0 k l h (i : Int)) (fun r => r.1 = l ∧ r.2.1 = 0) := by
 intro d
 induction d with
 | zero =>
  intro i h hi _
  refine EvP.succ ?_
  simp only [spec_l1New.l0]
  exact EvP.neg (by omega) (EvP.now ⟨rfl, rfl⟩)
 | succ d ih =>
  intro i h hi hi2
  refine EvP.succ ?_
  simp only [spec_l1New.l0]
  refine EvP.pos (by omega) ?_
  by_cases h4 : (i : Int) < 4000
  case neg => exact EvP.neg h4 (EvP.now ⟨rfl, rfl⟩)
  rw [w64_add (by omega) (by omega)]
  exact EvP.pos h4 (EvP.pos (by omega) (ih (i + 1) _ (by omega) (by omega)))
theorem l1New_ev (l : List Int) : EvP (fun k => spec_l1New.f k l) (fun r => r.1 = l ∧ r.2.1 = 0) := l1New_l0 l l.length 0 _ (by omega) (by omega)
theorem l1Byte_ok (l : List Int) (p h : Int) (h0 : 0 ≤ p) (h1 : p ≤ l.length) (hl : l.length ≤ 1048576) : ∃ r, spec_l1Byte.f l p h = some r ∧ (0 ≤ r.1 ∧ r.1 ≤ 255) ∧ 0 ≤ r.2.1 ∧ r.2.1 ≤ l.length := by
 unfold spec_l1Byte.f
 by_cases hp : p < (l.length : Int)
 case neg =>
  rw [if_neg hp]
  exact ⟨_, rfl, bits_and_le _ 255 (by omega) (by omega), h0, h1⟩
 rw [if_pos hp, if_pos h0]
 refine ⟨_, rfl, bits_and_le _ 255 (by omega) (by omega), ?_⟩
 simp only
 rw [w64_add h0 (by omega)]
 omega
theorem l1Below_ok (l : List Int) (p h n : Int) (h0 : 0 ≤ p) (h1 : p ≤ l.length) (hl : l.length ≤ 1048576) : ∃ r, spec_l1Below.f l p h n = some r ∧ (0 ≤ r.1 ∧ (r.1 < n ∨ r.1 = 0)) ∧ 0 ≤ r.2.1 ∧ r.2.1 ≤ l.length := by
 unfold spec_l1Below.f
 by_cases hn : n ≤ 0
 ·rw [if_pos hn]; exact ⟨_, rfl, ⟨by simp, .inr rfl⟩, h0, h1⟩
 rw [if_neg hn]
 have tm : ∀ x : Int, 0 ≤ x → 0 ≤ Int.tmod x n ∧ Int.tmod x n < n := fun x hx => by
  rw [Int.tmod_eq_emod_of_nonneg hx]
  exact ⟨Int.emod_nonneg _ (by omega), Int.emod_lt_of_pos _ (by omega)⟩
 by_cases h2 : n ≤ 256
 case pos =>
  rw [if_pos h2]
  obtain ⟨r, e, hb, hp⟩ := l1Byte_ok l p h h0 h1 hl
  rw [e]
  simp only [Option.bind_some]
  rw [if_neg (by omega)]
  exact ⟨_, rfl, ⟨(tm _ hb.1).1, .inl (tm _ hb.1).2⟩, hp⟩
 rw [if_neg h2]
 obtain ⟨r, e, hb, hp⟩ := l1Byte_ok l p h h0 h1 hl
 obtain ⟨r2, e2, hb2, hp2⟩ := l1Byte_ok l r.2.1 r.2.2 hp.1 hp.2 hl
 obtain ⟨r3, e3, hb3, hp3⟩ := l1Byte_ok l r2.2.1 r2.2.2 hp2.1 hp2.2 hl
 obtain ⟨r4, e4, hb4, hp4⟩ := l1Byte_ok l r3.2.1 r3.2.2 hp3.1 hp3.2 hl
 rw [e]; simp only [Option.bind_some]
 rw [e2]; simp only [Option.bind_some]
 rw [e3]; simp only [Option.bind_some]
 rw [e4]; simp only [Option.bind_some]
 rw [if_neg (by omega), w64 (n := r.1 * 16777216) (by omega) (by omega), w64 (n := r2.1 * 65536) (by omega) (by omega), w64 (n := r3.1 * 256) (by omega) (by omega), w64 (n := r.1 * 16777216 + _) (by omega) (by omega), w64 (n := r.1 * 16777216 + _ + _) (by omega) (by omega), w64 (n := r.1 * 16777216 + _ + _ + _) (by omega) (by omega)]
 exact ⟨_, rfl, ⟨(tm _ (by omega)).1, .inl (tm _ (by omega)).2⟩, hp4⟩
theorem l1Once_ok (l : List Int) (p h n : Int) (h0 : 0 ≤ p) (h1 : p ≤ l.length) (hl : l.length ≤ 1048576) : ∃ r, spec_l1Once.f l p h n = some r ∧ 0 ≤ r.2.1 ∧ r.2.1 ≤ l.length := by
 obtain ⟨r, e, hb, hp⟩ := l1Below_ok l p h n h0 h1 hl
 unfold spec_l1Once.f
 rw [e]; simp only [Option.bind_some]
 exact ⟨_, rfl, hp⟩
theorem l1PickInt_ok (l : List Int) (p h : Int) (xs : List Int) (h0 : 0 ≤ p) (h1 : p ≤ l.length) (hl : l.length ≤ 1048576) (hx : 0 < xs.length) : ∃ r, spec_l1PickInt.f l p h xs = some r ∧ r.1 ∈ xs ∧ 0 ≤ r.2.1 ∧ r.2.1 ≤ l.length := by
 unfold spec_l1PickInt.f
 obtain ⟨r, e, hb, hp⟩ := l1Below_ok l p h xs.length h0 h1 hl
 rw [e]
 simp only [Option.bind_some]
 rw [if_pos hb.1, if_pos (by omega)]
 refine ⟨_, rfl, ?_, hp⟩
 have : r.1 = ((r.1.toNat : Nat) : Int) := by omega
 simp only
 rw [this]
 exact rd_mem (by omega)
theorem l16Draw_l (l : List Int) (hl : l.length ≤ 1048576) (n : Int) (hn : 3 ≤ n ∧ n ≤ 16) : ∀ (d : Nat) (xs : List (List Int)) (p h : Int), xs.length + d ≤ 1000 → 0 ≤ p → p ≤ l.length → EvP (fun k => spec_l16Draw.l0 k n xs (d : Int) l p h) (fun r => (0 ≤ r.2.1 ∧ r.2.1 ≤ 129) ∧ 0 ≤ r.2.2.1 ∧ r.2.2.1 ≤ l.length) := by
 intro d
 induction d with
 | zero =>
  intro xs p h hx h0 h1
  obtain ⟨r, e, hb, hp⟩ := l1Below_ok l p h 30 h0 h1 hl
  obtain ⟨r2, e2, hb2, hp2⟩ := l1Below_ok l r.2.1 r.2.2 3 hp.1 hp.2 hl
  obtain ⟨r3, e3, hb3, hp3⟩ := l1Below_ok l r.2.1 r.2.2 2 hp.1 hp.2 hl
  obtain ⟨r4, e4, hb4, hp4⟩ := l1PickInt_ok l r.2.1 r.2.2 [0, 128, 129] hp.1 hp.2 hl (by decide)
  refine EvP.succ ?_
  simp only [spec_l16Draw.l0]
  refine EvP.neg (by omega) (EvP.next (Ev.p (Ev.here e)) ?_)
  rintro r rfl
  refine EvP.both (fun _ => ?_) (fun _ => EvP.both (fun _ => ?_) (fun _ => EvP.both (fun _ => ?_) (fun _ => EvP.both (fun _ => ?_) (fun _ => ?_))))
  ·refine EvP.next (Ev.p (Ev.here e2)) ?_
   rintro r2 rfl
   exact EvP.pos (by omega) (EvP.now ⟨by simp only; omega, hp2⟩)
  ·exact EvP.pos (by omega) (EvP.now ⟨by simp only; omega, hp⟩)
  ·refine EvP.next (Ev.p (Ev.here e3)) ?_
   rintro r3 rfl
   exact EvP.pos (by omega) (EvP.now ⟨by simp only; omega, hp3⟩)
  ·refine EvP.next (Ev.p (Ev.here e4)) ?_
   rintro r4 rfl
   refine EvP.now ⟨?_, hp4⟩
   have := hb4
   simp only [List.mem_cons, List.not_mem_nil, or_false] at this
   simp only
   omega
  ·exact EvP.now ⟨by simp only; omega, hp⟩
 | succ d ih =>
  intro xs p h hx h0 h1
  refine EvP.succ ?_
  simp only [spec_l16Draw.l0]
  refine EvP.pos (by omega) ?_
  have inner : ∀ (d' j : Nat) (row : List Int) (p h : Int), (j : Int) + d' = n → row.length ≤ j → 0 ≤ p → p ≤ l.length → EvP (fun k => spec_l16Draw.l1 k n xs ((d + 1 : Nat) : Int) row (j : Int) l p h) (fun r => (0 ≤ r.2.1 ∧ r.2.1 ≤ 129) ∧ 0 ≤ r.2.2.1 ∧ r.2.2.1 ≤ l.length) := by
   intro d'
   induction d' with
   | zero =>
    intro j row p h hj hr h0 h1
    refine EvP.succ ?_
    simp only [spec_l16Draw.l1]
    refine EvP.neg (by omega) ?_
    rw [show wrap64 (((d + 1 : Nat) : Int) - 1) = (d : Int) by rw [w64 (by omega) (by omega)]; omega]
    have go := ih xs p h (by omega) h0 h1
    exact EvP.both (fun _ => EvP.both (fun _ => EvP.pos (by omega) (ih _ p h (by simp; omega) h0 h1)) (fun _ => go)) (fun _ => go)
   | succ d' ih' =>
    intro j row p h hj hr h0 h1
    obtain ⟨r, e, hb, hp⟩ := l1Below_ok l p h n h0 h1 hl
    refine EvP.succ ?_
    simp only [spec_l16Draw.l1]
    refine EvP.pos (by omega) (EvP.next (Ev.p (Ev.here e)) ?_)
    rintro r rfl
    rw [w64_add (by omega) (by omega)]
    exact EvP.both (fun _ => EvP.pos (by omega) (ih' (j + 1) _ _ _ (by omega) (by simp; omega) hp.1 hp.2)) (fun _ => ih' (j + 1) _ _ _ (by omega) (by omega) hp.1 hp.2)
  obtain ⟨N, hN⟩ : ∃ N : Nat, n = (N : Int) := ⟨n.toNat, by omega⟩
  exact inner N 0 [] p h (by omega) (by simp) h0 h1
theorem l16Draw_ev (l : List Int) (hl : l.length ≤ 1048576) (p h : Int) (h0 : 0 ≤ p) (h1 : p ≤ l.length) : EvP (fun k => spec_l16Draw.f k l p h) (fun r => (0 ≤ r.2.1 ∧ r.2.1 ≤ 129) ∧ 0 ≤ r.2.2.1 ∧ r.2.2.1 ≤ l.length) := by
 obtain ⟨r, e, hb, hp⟩ := l1Below_ok l p h 14 h0 h1 hl
 unfold spec_l16Draw.f
 refine EvP.next (Ev.p (Ev.here e)) ?_
 rintro r rfl
 rw [w64 (n := 3 + r.1) (by omega) (by omega)]
 obtain ⟨r2, e2, hb2, hp2⟩ := l1Below_ok l r.2.1 r.2.2 (3 + r.1) hp.1 hp.2 hl
 refine EvP.next (Ev.p (Ev.here e2)) ?_
 rintro r2 rfl
 obtain ⟨N, hN⟩ : ∃ N : Nat, r2.1 = (N : Int) := ⟨r2.1.toNat, by omega⟩
 rw [hN]
 exact l16Draw_l l hl _ (by omega) N [] _ _ (by simp; omega) hp2.1 hp2.2
theorem bsIn_of {l : List (List Int)} {n : Int} (h : zcB l n = true) : bsIn l n := by
 have hc := checksIn h
 refine ⟨hc.n1, hc.len, fun c hm => ?_⟩
 obtain ⟨i, hi, he⟩ := List.mem_iff_getElem.1 hm
 have e : rd_L1 l (i : Int) = c := by rw [rdL1_nat l i hi]; exact he
 have hr := hc.row i hi
 have hb := hc.bd i hi
 rw [e] at hr hb
 refine ⟨hr.2, fun x hx => ?_⟩
 obtain ⟨j, hj, he2⟩ := List.mem_iff_getElem.1 hx
 have := hb j hj
 rw [rd_get c j hj, he2] at this
 omega
theorem sBasis_ev (l : List (List Int)) (n : Int) : Ev (fun k => spec_Basis.f k l n) (if zcB l n = true then (bsBasis l n.toNat, true) else ([], false)) := by
 unfold spec_Basis.f
 refine Ev.next (sChecksOk_ev l n) ?_
 cases hc : zcB l n
 ·exact Ev.neg (by simp) (Ev.some_ (by simp))
 ·exact Ev.pos rfl (Ev.pos (bsIn_of hc) (Ev.some_ (by simp)))
theorem bsWord_len (rows : List (List Int)) (lead : List Int) (col : Int) : ∀ (d i : Nat) (w : List Int), (bsWord rows lead col d i w).length = w.length
 | 0, _, _ => rfl
 | d + 1, i, w => by unfold bsWord; rw [bsWord_len rows lead col d, List.length_set]
theorem bsOut_rows (n : Nat) (rows : List (List Int)) (lead : List Int) : ∀ (d col : Nat), (∀ r ∈ bsOut n rows lead d col, r.length = n) ∧ (bsOut n rows lead d col).length ≤ d
 | 0, _ => ⟨fun r hr => by simp [bsOut] at hr, by simp [bsOut]⟩
 | d + 1, col => by
  obtain ⟨h1, h2⟩ := bsOut_rows n rows lead d (col + 1)
  unfold bsOut
  constructor
  ·intro r hr
   rcases List.mem_append.1 hr with h3 | h3
   ·split at h3
    ·rw [List.mem_singleton] at h3
     rw [h3, bsWord_len]; simp
    ·simp at h3
   ·exact h1 r h3
  ·rw [List.length_append]
   split
   ·simp only [List.length_singleton]; omega
   ·simp only [List.length_nil]; omega
theorem bsBasis_rows (l : List (List Int)) (n : Nat) : (∀ r ∈ bsBasis l n, r.length = n) ∧ (bsBasis l n).length ≤ n := bsOut_rows _ _ _ _ _
theorem l16Word_l3 (l : List Int) (hl : l.length ≤ 1048576) (n : Int) (w : List Int) (hw : w.length = n.toNat) : ∀ (d : Nat) (w : List Int) (p h : Int), w.length = n.toNat → d ≤ 1000 → 0 ≤ p → p ≤ l.length → EvP (fun k => spec_l16DrawWord.l3 k n w (d : Int) l p h) (fun r => r.1.length = n.toNat ∧ 0 ≤ r.2.1 ∧ r.2.1 ≤ l.length) := by
 intro d
 induction d with
 | zero =>
  intro w p h hw _ h0 h1
  refine EvP.succ ?_
  simp only [spec_l16DrawWord.l3]
  exact EvP.neg (by omega) (EvP.now ⟨hw, h0, h1⟩)
 | succ d ih =>
  intro w p h hw hd h0 h1
  refine EvP.succ ?_
  simp only [spec_l16DrawWord.l3]
  refine EvP.pos (by omega) (EvP.both (fun hn => ?_) (fun _ => EvP.now ⟨hw, h0, h1⟩))
  obtain ⟨r, e, hb, hp⟩ := l1Below_ok l p h n h0 h1 hl
  refine EvP.next (Ev.p (Ev.here e)) ?_
  rintro r rfl
  rw [show wrap64 (((d + 1 : Nat) : Int) - 1) = (d : Int) by rw [w64 (by omega) (by omega)]; omega]
  exact EvP.pos hb.1 (EvP.pos (by omega) (ih _ _ _ (by rw [List.length_set]; exact hw) (by omega) hp.1 hp.2))
theorem l16Word_l1 (l : List Int) (hl : l.length ≤ 1048576) (n : Int) (hn : 0 ≤ n ∧ n ≤ 129) (b : List (List Int)) (hb : (∀ r ∈ b, r.length = n.toNat) ∧ b.length ≤ n.toNat) : ∀ (d i : Nat) (w : List Int) (p h : Int), i + d = b.length → w.length = n.toNat → 0 ≤ p → p ≤ l.length → EvP (fun k => spec_l16DrawWord.l1 k n w b (i : Int) l p h) (fun r => r.1.length = n.toNat ∧ 0 ≤ r.2.1 ∧ r.2.1 ≤ l.length) := by
 intro d
 induction d with
 | zero =>
  intro i w p h hi hw h0 h1
  obtain ⟨r, e, hbb, hp⟩ := l1Below_ok l p h 3 h0 h1 hl
  refine EvP.succ ?_
  simp only [spec_l16DrawWord.l1]
  refine EvP.neg (by omega) (EvP.next (Ev.p (Ev.here e)) ?_)
  rintro r rfl
  obtain ⟨N, hN⟩ : ∃ N : Nat, r.1 = (N : Int) := ⟨r.1.toNat, by omega⟩
  rw [hN]
  exact l16Word_l3 l hl n w hw N w _ _ hw (by omega) hp.1 hp.2
 | succ d ih =>
  intro i w p h hi hw h0 h1
  have hil : i < b.length := by omega
  have hrow : (rd_L1 b i).length = n.toNat := hb.1 _ (rdL1_mem hil)
  obtain ⟨r, e, hp⟩ := l1Once_ok l p h 2 h0 h1 hl
  refine EvP.succ ?_
  simp only [spec_l16DrawWord.l1]
  refine EvP.pos (by omega) (EvP.next (Ev.p (Ev.here e)) ?_)
  rintro r rfl
  have inner : ∀ (d' j : Nat) (w : List Int) (p h : Int), (j : Int) + d' = n → w.length = n.toNat → 0 ≤ p → p ≤ l.length → EvP (fun k => spec_l16DrawWord.l2 k n w b (i : Int) (j : Int) l p h) (fun r => r.1.length = n.toNat ∧ 0 ≤ r.2.1 ∧ r.2.1 ≤ l.length) := by
   intro d'
   induction d' with
   | zero =>
    intro j w p h hj hw h0 h1
    refine EvP.succ ?_
    simp only [spec_l16DrawWord.l2]
    refine EvP.neg (by omega) ?_
    rw [w64_add (by omega) (by omega)]
    exact ih (i + 1) w p h (by omega) hw h0 h1
   | succ d' ih' =>
    intro j w p h hj hw h0 h1
    refine EvP.succ ?_
    simp only [spec_l16DrawWord.l2]
    refine EvP.pos (by omega) (EvP.pos (by omega) (EvP.pos (by omega) (EvP.pos (by omega) (EvP.pos (by omega) (EvP.pos (by omega) ?_)))))
    rw [w64_add (by omega) (by omega)]
    exact ih' (j + 1) _ p h (by omega) (by rw [List.length_set]; exact hw) h0 h1
  refine EvP.both (fun _ => inner n.toNat 0 w _ _ (by omega) hw hp.1 hp.2) (fun _ => ?_)
  rw [w64_add (by omega) (by omega)]
  exact ih (i + 1) w _ _ (by omega) hw hp.1 hp.2
theorem l16Word_j1 (l : List Int) (hl : l.length ≤ 1048576) (n : Int) (hn : 0 ≤ n ∧ n ≤ 129) (b : List (List Int)) (w : List Int) (hw : w.length = n.toNat) (s : Bool) (hb : s = false → (∀ r ∈ b, r.length = n.toNat) ∧ b.length ≤ n.toNat) (p h : Int) (h0 : 0 ≤ p) (h1 : p ≤ l.length) : EvP (fun k => spec_l16DrawWord.j1 k n w b s l p h) (fun r => r.1.length = n.toNat ∧ 0 ≤ r.2.1 ∧ r.2.1 ≤ l.length) := by
 refine EvP.succ ?_
 simp only [spec_l16DrawWord.j1]
 cases s with
 | true => exact EvP.pos rfl (EvP.now ⟨hw, h0, h1⟩)
 | false => exact EvP.neg (by simp) (EvP.pos hn.1 (EvP.pos (by omega) (l16Word_l1 l hl n hn b (hb rfl) b.length 0 _ p h (by omega) (by simp) h0 h1)))
theorem l16DrawWord_ev (l : List Int) (hl : l.length ≤ 1048576) (ch : List (List Int)) (n : Int) (hn : 0 ≤ n ∧ n ≤ 129) (p h : Int) (h0 : 0 ≤ p) (h1 : p ≤ l.length) : EvP (fun k => spec_l16DrawWord.f k l p h ch n) (fun r => r.1.length = n.toNat ∧ 0 ≤ r.2.1 ∧ r.2.1 ≤ l.length) := by
 have go : ∀ (d i : Nat) (w : List Int) (p h : Int), (i : Int) + d = n → w.length = i → 0 ≤ p → p ≤ l.length → EvP (fun k => spec_l16DrawWord.l0 k ch n w (i : Int) l p h) (fun r => r.1.length = n.toNat ∧ 0 ≤ r.2.1 ∧ r.2.1 ≤ l.length) := by
  intro d
  induction d with
  | zero =>
   intro i w p h hi hw h0 h1
   refine EvP.succ ?_
   simp only [spec_l16DrawWord.l0]
   refine EvP.neg (by omega) (EvP.next (Ev.p (sBasis_ev ch n)) ?_)
   rintro _ rfl
   cases hc : zcB ch n
   ·exact EvP.neg (by simp) (l16Word_j1 l hl n hn _ w (by omega) true (by simp) p h h0 h1)
   ·obtain ⟨r, e, hp⟩ := l1Once_ok l p h 4 h0 h1 hl
    refine EvP.pos (by simp) (EvP.next (Ev.p (Ev.here e)) ?_)
    rintro r rfl
    exact l16Word_j1 l hl n hn _ w (by omega) _ (fun _ => by simpa using bsBasis_rows ch n.toNat) _ _ hp.1 hp.2
  | succ d ih =>
   intro i w p h hi hw h0 h1
   obtain ⟨r, e, hb, hp⟩ := l1Below_ok l p h 2 h0 h1 hl
   refine EvP.succ ?_
   simp only [spec_l16DrawWord.l0]
   refine EvP.pos (by omega) (EvP.next (Ev.p (Ev.here e)) ?_)
   rintro r rfl
   rw [w64_add (by omega) (by omega)]
   exact EvP.pos (by omega) (ih (i + 1) _ _ _ (by omega) (by simp; omega) hp.1 hp.2)
 exact go n.toNat 0 [] p h (by omega) rfl h0 h1
theorem l1Byte_ok2 (l : List Int) (p h : Int) (h0 : 0 ≤ p) (h1 : p ≤ l.length) (hl : l.length ≤ 2000000) : ∃ r, spec_l1Byte.f l p h = some r ∧ (0 ≤ r.1 ∧ r.1 ≤ 255) ∧ 0 ≤ r.2.1 ∧ r.2.1 ≤ l.length := by
 unfold spec_l1Byte.f
 by_cases hp : p < (l.length : Int)
 case neg =>
  rw [if_neg hp]
  exact ⟨_, rfl, bits_and_le _ 255 (by omega) (by omega), h0, h1⟩
 rw [if_pos hp, if_pos h0]
 refine ⟨_, rfl, bits_and_le _ 255 (by omega) (by omega), ?_⟩
 simp only
 rw [w64_add h0 (by omega)]
 omega
theorem l1Below_ok2 (l : List Int) (p h n : Int) (h0 : 0 ≤ p) (h1 : p ≤ l.length) (hl : l.length ≤ 2000000) : ∃ r, spec_l1Below.f l p h n = some r ∧ (0 ≤ r.1 ∧ (r.1 < n ∨ r.1 = 0)) ∧ 0 ≤ r.2.1 ∧ r.2.1 ≤ l.length := by
 unfold spec_l1Below.f
 by_cases hn : n ≤ 0
 ·rw [if_pos hn]; exact ⟨_, rfl, ⟨by simp, .inr rfl⟩, h0, h1⟩
 rw [if_neg hn]
 have tm : ∀ x : Int, 0 ≤ x → 0 ≤ Int.tmod x n ∧ Int.tmod x n < n := fun x hx => by
  rw [Int.tmod_eq_emod_of_nonneg hx]
  exact ⟨Int.emod_nonneg _ (by omega), Int.emod_lt_of_pos _ (by omega)⟩
 by_cases h2 : n ≤ 256
 case pos =>
  rw [if_pos h2]
  obtain ⟨r, e, hb, hp⟩ := l1Byte_ok2 l p h h0 h1 hl
  rw [e]
  simp only [Option.bind_some]
  rw [if_neg (by omega)]
  exact ⟨_, rfl, ⟨(tm _ hb.1).1, .inl (tm _ hb.1).2⟩, hp⟩
 rw [if_neg h2]
 obtain ⟨r, e, hb, hp⟩ := l1Byte_ok2 l p h h0 h1 hl
 obtain ⟨r2, e2, hb2, hp2⟩ := l1Byte_ok2 l r.2.1 r.2.2 hp.1 hp.2 hl
 obtain ⟨r3, e3, hb3, hp3⟩ := l1Byte_ok2 l r2.2.1 r2.2.2 hp2.1 hp2.2 hl
 obtain ⟨r4, e4, hb4, hp4⟩ := l1Byte_ok2 l r3.2.1 r3.2.2 hp3.1 hp3.2 hl
 rw [e]; simp only [Option.bind_some]
 rw [e2]; simp only [Option.bind_some]
 rw [e3]; simp only [Option.bind_some]
 rw [e4]; simp only [Option.bind_some]
 rw [if_neg (by omega), w64 (n := r.1 * 16777216) (by omega) (by omega), w64 (n := r2.1 * 65536) (by omega) (by omega), w64 (n := r3.1 * 256) (by omega) (by omega), w64 (n := r.1 * 16777216 + _) (by omega) (by omega), w64 (n := r.1 * 16777216 + _ + _) (by omega) (by omega), w64 (n := r.1 * 16777216 + _ + _ + _) (by omega) (by omega)]
 exact ⟨_, rfl, ⟨(tm _ (by omega)).1, .inl (tm _ (by omega)).2⟩, hp4⟩
theorem l1Once_ok2 (l : List Int) (p h n : Int) (h0 : 0 ≤ p) (h1 : p ≤ l.length) (hl : l.length ≤ 2000000) : ∃ r, spec_l1Once.f l p h n = some r ∧ 0 ≤ r.2.1 ∧ r.2.1 ≤ l.length := by
 obtain ⟨r, e, hb, hp⟩ := l1Below_ok2 l p h n h0 h1 hl
 unfold spec_l1Once.f
 rw [e]; simp only [Option.bind_some]
 exact ⟨_, rfl, hp⟩
theorem l1PickInt_ok2 (l : List Int) (p h : Int) (xs : List Int) (h0 : 0 ≤ p) (h1 : p ≤ l.length) (hl : l.length ≤ 2000000) (hx : 0 < xs.length) : ∃ r, spec_l1PickInt.f l p h xs = some r ∧ r.1 ∈ xs ∧ 0 ≤ r.2.1 ∧ r.2.1 ≤ l.length := by
 unfold spec_l1PickInt.f
 obtain ⟨r, e, hb, hp⟩ := l1Below_ok2 l p h xs.length h0 h1 hl
 rw [e]
 simp only [Option.bind_some]
 rw [if_pos hb.1, if_pos (by omega)]
 refine ⟨_, rfl, ?_, hp⟩
 have : r.1 = ((r.1.toNat : Nat) : Int) := by omega
 simp only
 rw [this]
 exact rd_mem (by omega)
theorem drawFails_ev (l : List Int) (hl : l.length ≤ 1048576) : EvP (fun k => spec_DrawFails.f k l) (fun r => r.2.length ≤ 129) := by
 unfold spec_DrawFails.f
 refine EvP.next (l1New_ev l) ?_
 rintro ⟨c, p, h⟩ ⟨rfl, rfl⟩
 refine EvP.next (l16Draw_ev c hl 0 h (by omega) (by omega)) ?_
 rintro ⟨ch, n, p1, h1⟩ ⟨hn, hp⟩
 refine EvP.next (l16DrawWord_ev c hl ch n hn p1 h1 hp.1 hp.2) ?_
 rintro ⟨w, p2, h2⟩ ⟨hw, hp2⟩
 simp only at hw hn hp2 ⊢
 obtain ⟨r, e, hp3⟩ := l1Once_ok c p2 h2 30 hp2.1 hp2.2 hl
 refine EvP.next (Ev.p (Ev.here e)) ?_
 rintro r rfl
 refine EvP.both (fun _ => EvP.both (fun h3 => EvP.pos h3 (EvP.now (by simp; omega))) (fun _ => EvP.now (by simp; omega))) (fun _ => EvP.now (by simp; omega))
theorem drawTurn_ev (l : List Int) (hl : l.length ≤ 1048576) : EvP (fun k => spec_DrawTurnBits.f k l) (fun r => r.2.1.length ≤ 129) := by
 unfold spec_DrawTurnBits.f
 refine EvP.next (drawFails_ev l (by omega)) ?_
 rintro ⟨ch, w⟩ hw
 refine EvP.pos (by omega) (EvP.next (l1New_ev (l ++ [5])) ?_)
 rintro ⟨c, p, h⟩ ⟨rfl, rfl⟩
 obtain ⟨r, e, _⟩ := l1PickInt_ok2 (l ++ [5]) 0 h [0, 1, 2, 5, 10, 50, 51, -1] (by omega) (by omega) (by simp; omega) (by decide)
 refine EvP.next (Ev.p (Ev.here e)) ?_
 rintro r rfl
 exact EvP.now hw
theorem dpHints_ok (c w : List Int) (hc : c.length ≤ 2000000) : ∀ (d i : Nat) (acc : List Int) (p h : Int), 0 ≤ p → p ≤ c.length → ∃ r, dpHints c w d i acc p h = some r ∧ r.length = acc.length + d := by
 intro d
 induction d with
 | zero => intro i acc p h _ _; exact ⟨acc, rfl, rfl⟩
 | succ d ih =>
  intro i acc p h h0 h1
  obtain ⟨u, e1, _, hp1⟩ := l1Below_ok2 c p h 20 h0 h1 hc
  obtain ⟨v, e2, hp2⟩ := l1Once_ok2 c u.2.1 u.2.2 30 hp1.1 hp1.2 hc
  obtain ⟨q, e3, _, hp3⟩ := l1PickInt_ok2 c v.2.1 v.2.2 [0, 1000, -1000, 1001, -1001] hp2.1 hp2.2 hc (by decide)
  unfold dpHints
  rw [e1]; simp only [Option.bind_some]
  rw [e2]; simp only [Option.bind_some]
  split
  ·rw [e3]; simp only [Option.bind_some]
   obtain ⟨r, er, hr⟩ := ih (i + 1) (acc ++ [q.1]) q.2.1 q.2.2 hp3.1 hp3.2
   exact ⟨r, er, by rw [hr]; simp; omega⟩
  ·obtain ⟨r, er, hr⟩ := ih (i + 1) (acc ++ [wrap64 (wrap64 (1 - wrap64 (2 * rd w i)) * wrap64 (1 + u.1))]) v.2.1 v.2.2 hp2.1 hp2.2
   exact ⟨r, er, by rw [hr]; simp; omega⟩
theorem drawHints_ev (l : List Int) (hl : l.length ≤ 1048576) : EvP (fun k => spec_DrawPassHints.f k l) (fun r => r.2.1.length ≤ 129) := by
 unfold spec_DrawPassHints.f
 refine EvP.next (drawTurn_ev l hl) ?_
 rintro ⟨ch, w, rr⟩ hw
 simp only at hw
 refine EvP.pos ⟨by omega, by simp only; omega⟩ (EvP.next (l1New_ev (l ++ [6])) ?_)
 rintro ⟨c, p, h⟩ ⟨rfl, rfl⟩
 obtain ⟨r, e, hr⟩ := dpHints_ok (l ++ [6]) w (by simp; omega) w.length 0 [] 0 h (by omega) (by omega)
 refine EvP.next (Ev.p (Ev.here e)) ?_
 rintro r rfl
 exact EvP.now (by simp only; rw [hr]; simp; omega)
theorem sameInts_l0 (a b : List Int) (h : a.length = b.length) (hl : a.length ≤ 35184372088832) : ∀ (d i : Nat), i + d = a.length → Ev (fun k => laws_sameInts.l0 k a b (i : Int)) (decide (a.drop i = b.drop i)) := by
 intro d
 induction d with
 | zero =>
  intro i hi
  refine Ev.round (f := fun _ => some true) (Ev.some_ ?_) (fun k => by simp only [laws_sameInts.l0]; rw [if_neg (by omega)])
  rw [List.drop_of_length_le (by omega), List.drop_of_length_le (by omega)]; simp
 | succ d ih =>
  intro i hi
  by_cases he : rd a i = rd b i
  case neg =>
   refine (Ev.round (f := fun _ => some false) (Ev.some_ rfl) (fun k => ?_)).to ?_
   ·simp only [laws_sameInts.l0]
    rw [if_pos (by omega), if_pos (by omega), if_pos (by omega), if_neg he]
   ·rw [drop_rd (xs := a) (i := i) (by omega), drop_rd (xs := b) (i := i) (by omega)]; simp [he]
  refine (Ev.round (ih (i + 1) (by omega)) (fun k => ?_)).to ?_
  ·simp only [laws_sameInts.l0]
   rw [if_pos (by omega), if_pos (by omega), if_pos (by omega), if_pos he, w64_add (by omega) (by omega)]; simp
  ·rw [drop_rd (xs := a) (i := i) (by omega), drop_rd (xs := b) (i := i) (by omega), he]; simp
theorem sameInts_ev (a b : List Int) (hl : a.length ≤ 35184372088832) : Ev (fun k => laws_sameInts.f k a b) (decide (a = b)) := by
 unfold laws_sameInts.f
 by_cases h : a.length = b.length
 case pos => exact Ev.pos (by omega) (sameInts_l0 a b h hl a.length 0 (by omega))
 exact (Ev.neg (by omega) (Ev.some_ rfl)).to (by simp; intro e; exact h (by rw [e]))
theorem lawsAt_ok (l : List Int) (hl : l.length ≤ 1048576) (hb : ∀ x ∈ l, 0 ≤ x ∧ x < 256) (i : Nat) (hi : i ≤ 1000) : ∃ v, laws_at.f l (i : Int) = some v ∧ 0 ≤ v ∧ v < 256 := by
 unfold laws_at.f
 by_cases h : (i : Int) < (l.length : Int)
 case pos =>
  have hm := hb _ (rd_mem (xs := l) (i := i) (by omega))
  rw [if_pos h, if_pos (by omega), w64 (n := rd l (i : Int)) (by omega) (by omega)]
  exact ⟨_, rfl, hm⟩
 rw [if_neg h, w64 (n := (i : Int) * 7) (by omega) (by omega), w64 (n := (i : Int) * 7 + (l.length : Int)) (by omega) (by omega), Int.tmod_eq_emod_of_nonneg (by omega)]
 exact ⟨_, rfl, by omega, by omega⟩
theorem good_fails {l : List (List Int)} {w : List Int} (hb : bitsB w = true) (hc : zcB l (w.length : Int) = true) (h : (zfF w l 0).length = 0) : failsV l w = ([], true) := by
 rw [failsV, if_pos (by rw [hb, hc]; rfl), List.eq_nil_of_length_eq_zero h]
theorem good_turn {l : List (List Int)} {w : List Int} (hb : bitsB w = true) (hc : zcB l (w.length : Int) = true) (h : (zfF w l 0).length = 0) : turnV l w 0 = (w, 0, true) := by
 rw [turnV, if_pos (by rw [hb, hc]; rfl)]
 show (w, (0 : Int), decide ((zfF w l 0).length = 0)) = _
 rw [decide_eq_true h]
theorem bits_of {w : List Int} (h : ∀ x ∈ w, x = 0 ∨ x = 1) (hl : w.length ≤ 1024) : bitsB w = true := bitsB_iff.2 ⟨h, hl⟩
theorem hintGo_ok (l : List (List Int)) (h : List Int) : ∀ (d : Nat) (own : List (List Int)) (n : Int), (hintGo l h d own n).2.2 = true → (∃ s : List Int, (hintGo l h d own n).1 = zwO s ∧ s.length = h.length) ∧ (zfF (hintGo l h d own n).1 l 0).length = 0
 | 0, own, n, ht => by
  have h2 := of_decide_eq_true (show decide ((zfF (zwO (zsO l own h)) l 0).length = 0) = true from ht)
  exact ⟨⟨_, rfl, sumsOf_len l own h⟩, h2⟩
 | d + 1, own, n, ht => by
  unfold hintGo at ht ⊢
  by_cases h0 : (zfF (zwO (zsO l own h)) l 0).length = 0
  case neg =>
   simp only [if_neg h0] at ht ⊢
   exact hintGo_ok l h d _ _ ht
  simp only [if_pos h0] at ht ⊢
  exact ⟨⟨_, rfl, sumsOf_len l own h⟩, h0⟩
theorem hintV_ok {l : List (List Int)} {h : List Int} {r : Int} (ht : (hintV l h r).2.2 = true) : bitsB (hintV l h r).1 = true ∧ zcB l ((hintV l h r).1.length : Int) = true ∧ (zfF (hintV l h r).1 l 0).length = 0 := by
 unfold hintV at ht ⊢
 split at ht
 ·rename_i hc
  rw [if_pos hc]
  rw [Bool.and_eq_true, Bool.and_eq_true] at hc
  obtain ⟨⟨s, e, hs⟩, h2⟩ := hintGo_ok l h _ _ _ ht
  have hn := (checksIn hc.1.1).n1
  have hlen : (hintGo l h r.toNat (l.map z0R) 0).1.length = h.length := by rw [e, wordOf_len, hs]
  refine ⟨bits_of (by rw [e]; exact wordOf_bits s) (by omega), by rw [hlen]; exact hc.1.1, h2⟩
 ·cases ht
theorem turnOnce_bits (l : List (List Int)) (w : List Int) (h : ∀ x ∈ w, x = 0 ∨ x = 1) : (∀ x ∈ turnOnce l w, x = 0 ∨ x = 1) ∧ (turnOnce l w).length = w.length := ⟨turnA_bits _ _ w 0 h, turnA_len _ _ w 0⟩
theorem turnGo_ok (l : List (List Int)) : ∀ (d : Nat) (w : List Int) (n : Int), (∀ x ∈ w, x = 0 ∨ x = 1) → (turnGo l d w n).2.2 = true → (∀ x ∈ (turnGo l d w n).1, x = 0 ∨ x = 1) ∧ (turnGo l d w n).1.length = w.length ∧ (zfF (turnGo l d w n).1 l 0).length = 0
 | 0, w, n, hb, ht => ⟨hb, rfl, of_decide_eq_true (show decide ((zfF w l 0).length = 0) = true from ht)⟩
 | d + 1, w, n, hb, ht => by
  unfold turnGo at ht ⊢
  by_cases h0 : (zfF w l 0).length = 0
  case pos =>
   simp only [if_pos h0] at ht ⊢
   exact ⟨hb, by first | rfl | trivial, h0⟩
  simp only [if_neg h0] at ht ⊢
  obtain ⟨h1, h2⟩ := turnOnce_bits l w hb
  obtain ⟨a, b, c⟩ := turnGo_ok l d (turnOnce l w) (n + 1) h1 ht
  exact ⟨a, b.trans h2, c⟩
theorem turnV_ok {l : List (List Int)} {w : List Int} {r : Int} (ht : (turnV l w r).2.2 = true) : bitsB (turnV l w r).1 = true ∧ zcB l ((turnV l w r).1.length : Int) = true ∧ (zfF (turnV l w r).1 l 0).length = 0 := by
 unfold turnV at ht ⊢
 split at ht
 ·rename_i hc
  rw [if_pos hc]
  rw [Bool.and_eq_true, Bool.and_eq_true] at hc
  have hb := bitsB_iff.1 hc.1.1
  obtain ⟨h1, h2, h3⟩ := turnGo_ok l r.toNat w 0 hb.1 ht
  exact ⟨bits_of h1 (by rw [h2]; exact hb.2), by rw [h2]; exact hc.1.2, h3⟩
 ·cases ht
theorem hintV_len2 (l : List (List Int)) (h : List Int) (r : Int) : (hintV l h r).1.length ≤ h.length := by
 have go : ∀ (d : Nat) (own : List (List Int)) (n : Int), (hintGo l h d own n).1.length = h.length := by
  intro d
  induction d with
  | zero => intro own n; show (zwO _).length = _; rw [wordOf_len, sumsOf_len]
  | succ d ih =>
   intro own n
   unfold hintGo
   split
   ·show (zwO _).length = _; rw [wordOf_len, sumsOf_len]
   ·exact ih _ _
 unfold hintV
 split
 ·rw [go]; omega
 ·simp
theorem turnV_len2 (l : List (List Int)) (w : List Int) (r : Int) : (turnV l w r).1.length ≤ w.length := by
 have go : ∀ (d : Nat) (w : List Int) (n : Int), (turnGo l d w n).1.length = w.length := by
  intro d
  induction d with
  | zero => intro w n; rfl
  | succ d ih =>
   intro w n
   unfold turnGo
   split
   ·rfl
   ·rw [ih]; exact turnA_len _ _ w 0
 unfold turnV
 split
 ·rw [go]; omega
 ·simp
theorem par_end : Ev (fun k => (impl_TurnBits.f k [[0, 1], [1, 2]] [0, 1, 0] 5).bind fun b => (if b.2.2 = true then (if b.2.1 = 1 then ((laws_sameInts.f k b.1 [0, 0, 0]).bind fun t => (some t)) else (some false)) else (some false))) true := by
 refine Ev.next ((iTurn_ev [[0, 1], [1, 2]] [0, 1, 0] 5 (by simp)).to (show turnV [[0, 1], [1, 2]] [0, 1, 0] 5 = ([0, 0, 0], 1, true) by decide +kernel)) ?_
 exact Ev.pos rfl (Ev.pos rfl (Ev.next (sameInts_ev [0, 0, 0] [0, 0, 0] (by simp)) (Ev.some_ (by simp))))
theorem par_j3 (ch : List (List Int)) (w : List Int) (r : Int) (hw : w.length ≤ 1048576) : Ev (fun k => laws_FnParities.j3 k ch (turnV ch w r).1 (turnV ch w r).2.2) true := by
 refine Ev.succ ?_
 simp only [laws_FnParities.j3]
 cases ht : (turnV ch w r).2.2
 ·exact Ev.neg (by simp) par_end
 ·obtain ⟨h1, h2, h3⟩ := turnV_ok ht
  have hl := turnV_len2 ch w r
  refine Ev.pos rfl (Ev.next ((iFails_ev ch (turnV ch w r).1 (by omega)).to (good_fails h1 h2 h3)) (Ev.pos rfl (Ev.succ ?_)))
  simp only [laws_FnParities.j4]
  exact Ev.neg (by simp) par_end
theorem FnParities (l0 : List Int) (m0 : l0.length ≤ maxLen) (hb0 : ∀ x ∈ l0, (Lit.int .u8 x).wf = true) : ∃ k, laws_FnParities.f k l0 = some true := by
 refine EvP.law ?_
 unfold laws_FnParities.f
 refine EvP.next (Ev.p (Ev.here (show laws_big.f l0 = some _ from rfl))) ?_
 rintro _ rfl
 by_cases hl : (l0.length : Int) > 1048576
 ·exact EvP.pos (by simpa using hl) (EvP.now rfl)
 refine EvP.neg (by simpa using hl) (EvP.next (drawHints_ev l0 (by omega)) ?_)
 rintro ⟨ch, h, rr⟩ hh
 simp only at hh ⊢
 refine EvP.next (iHint_ev ch h rr (by omega)).p ?_
 rintro _ rfl
 refine EvP.next (sHint_ev ch h rr (by omega)).p ?_
 rintro _ rfl
 refine EvP.neg (by simp) ?_
 refine EvP.succ ?_
 simp only [laws_FnParities.j0]
 refine EvP.neg (by simp) ?_
 have hb : ∀ x ∈ l0, 0 ≤ x ∧ x < 256 := fun x hx => by
  have h := hb0 x hx
  simp [Lit.wf, IntKind.min, IntKind.max] at h
  simp [IntKind.signed, IntKind.bits] at h
  omega
 have loop : ∀ (d i : Nat) (w : List Int), i + d = h.length → w.length = i → EvP (fun k => laws_FnParities.l0 k l0 ch h rr (hintV ch h rr).1 (hintV ch h rr).2.2 w (i : Int)) (· = true) := by
  intro d
  induction d with
  | succ d ih =>
   intro i w hi hw
   obtain ⟨v, e, hv⟩ := lawsAt_ok l0 (by omega) hb i (by omega)
   refine EvP.succ ?_
   simp only [laws_FnParities.l0]
   refine EvP.pos (by omega) (EvP.next (Ev.p (Ev.here e)) ?_)
   rintro v rfl
   rw [w64_add (by omega) (by omega)]
   exact EvP.pos (by omega) (ih (i + 1) _ (by omega) (by simp; omega))
  | zero =>
   intro i w hi hw
   refine EvP.succ ?_
   simp only [laws_FnParities.l0]
   refine EvP.neg (by omega) (EvP.next (iTurn_ev ch w rr (by omega)).p ?_)
   rintro _ rfl
   refine EvP.next (sTurn_ev ch w rr (by omega)).p ?_
   rintro _ rfl
   refine EvP.neg (by simp) (EvP.succ ?_)
   simp only [laws_FnParities.j2]
   refine EvP.neg (by simp) ?_
   have fin := (par_j3 ch w rr (by omega)).p
   cases ht : (hintV ch h rr).2.2
   ·exact EvP.neg (by simp) fin
   ·obtain ⟨h1, h2, h3⟩ := hintV_ok ht
    have hl2 := hintV_len2 ch h rr
    refine EvP.pos rfl (EvP.next ((iFails_ev ch (hintV ch h rr).1 (by omega)).to (good_fails h1 h2 h3)).p ?_)
    rintro _ rfl
    refine EvP.next ((iTurn_ev ch (hintV ch h rr).1 0 (by omega)).to (good_turn h1 h2 h3)).p ?_
    rintro _ rfl
    refine EvP.pos rfl (EvP.neg (by simp) (EvP.pos rfl (EvP.pos rfl (EvP.next (sameInts_ev (hintV ch h rr).1 (hintV ch h rr).1 (by omega)).p ?_))))
    rintro _ rfl
    exact EvP.pos (by simp) fin
 exact loop h.length 0 [] (by omega) rfl
end Go.Proofs.Ytpphjbogijjnpaa.Pure
