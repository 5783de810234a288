import Derived.Test.YtpphjbogijjnpaaPFnBasisx9
import Derived.Test.YtpphjbogijjnpaaAid
set_option linter.unusedVariables false
set_option linter.unusedSimpArgs false
namespace Go.Proofs.Ytpphjbogijjnpaa.Pure
open Go Go.RowKit Go.Proofs.Ytpphjbogijjnpaa.PFnBasis Go.Proofs.YtpphjbogijjnpaaW.PrintWords Go.Proofs.YtpphjbogijjnpaaW.PrintLast Go.Proofs.YtpphjbogijjnpaaW.PrintMore
theorem rdL1_nat (xs : List (List Int)) (i : Nat) (h : i < xs.length) : rd_L1 xs (i : Int) = xs[i] := by simp [rd_L1, List.getD_eq_getElem?_getD, h]
theorem rdL1_mem {xs : List (List Int)} {i : Nat} (h : i < xs.length) : rd_L1 xs (i : Int) ∈ xs := by rw [rdL1_nat xs i h]; exact List.getElem_mem h
theorem drop_rdL1 {xs : List (List Int)} {i : Nat} (h : i < xs.length) : xs.drop i = rd_L1 xs (i : Int) :: xs.drop (i + 1) := by rw [rdL1_nat xs i h]; exact List.drop_eq_getElem_cons h
theorem take_rdL1 {xs : List (List Int)} {i : Nat} (h : i < xs.length) : xs.take (i + 1) = xs.take i ++ [rd_L1 xs (i : Int)] := by rw [rdL1_nat xs i h]; exact (List.take_append_getElem h).symm
/-- Ascending places of 0 .. n - 1, from the i-th on. -/
def ascB (n : Int) (c : List Int) : Nat → Nat → Bool
  | 0, _ => true
  | d + 1, i => if (0 ≤ rd c i ∧ rd c i ≤ n - 1) ∧ (i = 0 ∨ rd c ((i : Int) - 1) < rd c i) then ascB n c d (i + 1) else false
def checkB (n : Int) (c : List Int) : Bool := decide (2 ≤ c.length ∧ c.length ≤ 16) && ascB n c c.length 0
def checksB (l : List (List Int)) (n : Int) : Bool := decide ((1 ≤ n ∧ n ≤ 128) ∧ l.length ≤ 64) && l.all (checkB n)
def bitOk (x : Int) : Bool := decide (x = 0 ∨ x = 1)
theorem allBits_iff {l : List Int} : l.all bitOk = true ↔ ∀ x ∈ l, x = 0 ∨ x = 1 := by simp [List.all_eq_true, bitOk]
def bitsB (l : List Int) : Bool := l.all bitOk && decide (l.length ≤ 1024)
theorem bitsB_iff {l : List Int} : bitsB l = true ↔ (∀ x ∈ l, x = 0 ∨ x = 1) ∧ l.length ≤ 1024 := by
  unfold bitsB; rw [Bool.and_eq_true, allBits_iff]; simp
def failSum (w c : List Int) (s : Int) : Int := c.foldl (fun s x => s + rd w x) s
def failsFrom (w : List Int) : List (List Int) → Int → List Int
  | [], _ => []
  | c :: cs, i => if failSum w c 0 % 2 = 1 then i :: failsFrom w cs (i + 1) else failsFrom w cs (i + 1)
def failsV (l : List (List Int)) (w : List Int) : List Int × Bool := if (bitsB w && checksB l (w.length : Int)) = true then (failsFrom w l 0, true) else ([], false)
theorem asc_bd {n : Int} {c : List Int} : ∀ (d i : Nat), ascB n c d i = true → ∀ j : Nat, i ≤ j → j < i + d → 0 ≤ rd c j ∧ rd c j ≤ n - 1 := by
  intro d
  induction d with
  | zero => intro i _ j h1 h2; omega
  | succ d ih =>
    intro i h j h1 h2
    unfold ascB at h
    split at h
    · rename_i hc
      by_cases hj : j = i
      · subst hj; exact hc.1
      · exact ih (i + 1) h j (by omega) (by omega)
    · cases h
structure ChecksIn (l : List (List Int)) (n : Int) : Prop where
  n1 : 1 ≤ n ∧ n ≤ 128
  len : l.length ≤ 64
  row : ∀ i : Nat, i < l.length → 2 ≤ (rd_L1 l i).length ∧ (rd_L1 l i).length ≤ 16
  bd : ∀ i : Nat, i < l.length → ∀ j : Nat, j < (rd_L1 l i).length → 0 ≤ rd (rd_L1 l i) j ∧ rd (rd_L1 l i) j ≤ n - 1
theorem checksIn {l : List (List Int)} {n : Int} (h : checksB l n = true) : ChecksIn l n := by
  unfold checksB at h
  rw [Bool.and_eq_true, decide_eq_true_eq, List.all_eq_true] at h
  have row : ∀ i : Nat, i < l.length → checkB n (rd_L1 l i) = true := fun i hi => h.2 _ (by
    have := drop_rdL1 hi
    exact List.mem_of_mem_drop (i := i) (by rw [this]; exact List.mem_cons_self))
  refine ⟨h.1.1, h.1.2, fun i hi => ?_, fun i hi j hj => ?_⟩
  · have := row i hi
    unfold checkB at this
    rw [Bool.and_eq_true, decide_eq_true_eq] at this
    exact this.1
  · have := row i hi
    unfold checkB at this
    rw [Bool.and_eq_true, decide_eq_true_eq] at this
    exact asc_bd _ _ this.2 j (by omega) (by omega)
theorem failSum_step {w c : List Int} {j : Nat} (hj : j < c.length) (s : Int) : failSum w (c.drop j) s = failSum w (c.drop (j + 1)) (s + rd w (rd c j)) := by
  rw [drop_rd hj]; rfl
theorem failSum_nil {w c : List Int} {j : Nat} (hj : c.length ≤ j) (s : Int) : failSum w (c.drop j) s = s := by
  rw [List.drop_of_length_le hj]; rfl
theorem failsFrom_step {w : List Int} {l : List (List Int)} {i : Nat} (hi : i < l.length) : failsFrom w (l.drop i) i = if failSum w ((rd_L1 l i).drop 0) 0 % 2 = 1 then (i : Int) :: failsFrom w (l.drop (i + 1)) ((i + 1 : Nat) : Int) else failsFrom w (l.drop (i + 1)) ((i + 1 : Nat) : Int) := by
  rw [drop_rdL1 hi]; rfl
theorem bitAt {w : List Int} (hw : ∀ x ∈ w, x = 0 ∨ x = 1) {x : Int} (h0 : 0 ≤ x) (h1 : x < w.length) : rd w x = 0 ∨ rd w x = 1 := by
  have := rd_mem (xs := w) (i := x.toNat) (by omega)
  rw [Int.toNat_of_nonneg h0] at this
  exact hw _ this
theorem xor_mod2 (s b : Int) (hb : b = 0 ∨ b = 1) : Go.bits .xor .i64 (s % 2) b = (s + b) % 2 := by
  have h : s % 2 = 0 ∨ s % 2 = 1 := by omega
  rcases h with h | h <;> rcases hb with rfl | rfl
  · rw [h, show Go.bits .xor .i64 0 0 = 0 by decide +kernel]; omega
  · rw [h, show Go.bits .xor .i64 0 1 = 1 by decide +kernel]; omega
  · rw [h, show Go.bits .xor .i64 1 0 = 1 by decide +kernel]; omega
  · rw [h, show Go.bits .xor .i64 1 1 = 0 by decide +kernel]; omega
theorem failsFrom_len (w : List Int) : ∀ (l : List (List Int)) (i : Int), (failsFrom w l i).length ≤ l.length := by
  intro l
  induction l with
  | nil => intro i; simp [failsFrom]
  | cons c l ih => intro i; simp only [failsFrom]; split <;> (simp only [List.length_cons]; have := ih (i + 1); omega)
theorem failsFrom_in (w : List Int) : ∀ (l : List (List Int)) (i : Int), ∀ x ∈ failsFrom w l i, i ≤ x ∧ x < i + l.length := by
  intro l
  induction l with
  | nil => intro i x hx; simp [failsFrom] at hx
  | cons c l ih =>
    intro i x hx
    simp only [failsFrom] at hx
    simp only [List.length_cons]
    split at hx
    · rcases List.mem_cons.1 hx with rfl | hx
      · omega
      · have := ih (i + 1) x hx; omega
    · have := ih (i + 1) x hx; omega
theorem l1In_eq (a b c : Int) : spec_l1In.f a b c = some (decide (b ≤ a) && decide (a ≤ c)) := by
  unfold spec_l1In.f
  by_cases h : a ≥ b
  · rw [if_pos h]; simp [show b ≤ a from h]
  · rw [if_neg h]; simp [show ¬ b ≤ a from h]
theorem sChecksOk_l (n : Int) (hn : 1 ≤ n ∧ n ≤ 128) (l : List (List Int)) (hl : l.length ≤ 64) : ∀ (d i : Nat), i + d = l.length → Ev (fun k => spec_ChecksOk.l0 k l n (i : Int)) ((l.drop i).all (checkB n)) := by
  intro d
  induction d with
  | zero =>
    intro i hi
    refine Ev.succ ?_
    simp only [spec_ChecksOk.l0]
    exact Ev.neg (by omega) (Ev.some_ (by rw [List.drop_of_length_le (by omega)]; rfl))
  | succ d ih =>
    intro i hi
    have hi1 : i < l.length := by omega
    refine Ev.succ ?_
    simp only [spec_ChecksOk.l0, l1In_eq, Option.bind_some]
    refine Ev.pos (by omega) (Ev.pos (by omega) ?_)
    rw [drop_rdL1 hi1, List.all_cons]
    by_cases h1 : 2 ≤ (rd_L1 l i).length ∧ (rd_L1 l i).length ≤ 16
    · refine Ev.pos (by simp; omega) ?_
      have e : checkB n (rd_L1 l i) = ascB n (rd_L1 l i) (rd_L1 l i).length 0 := by
        unfold checkB; rw [show decide (2 ≤ (rd_L1 l i).length ∧ (rd_L1 l i).length ≤ 16) = true by simp; omega]; rfl
      rw [e]
      have inner : ∀ (d' j : Nat), j + d' = (rd_L1 l i).length → Ev (fun k => spec_ChecksOk.l1 k l n (i : Int) (j : Int)) (ascB n (rd_L1 l i) d' j && (l.drop (i + 1)).all (checkB n)) := by
        intro d'
        induction d' with
        | zero =>
          intro j hj
          refine Ev.succ ?_
          simp only [spec_ChecksOk.l1]
          refine Ev.pos (by omega) (Ev.pos (by omega) (Ev.neg (by omega) ?_))
          rw [w64_add (by omega) (by omega)]
          exact ih (i + 1) (by omega)
        | succ d' ih' =>
          intro j hj
          refine Ev.succ ?_
          simp only [spec_ChecksOk.l1, l1In_eq, Option.bind_some]
          refine Ev.pos (by omega) (Ev.pos (by omega) (Ev.pos (by omega) (Ev.pos (by omega) ?_)))
          rw [w64_add (i := (j : Int)) (by omega) (by omega), w64 (n := n - 1) (by omega) (by omega)]
          simp only [ascB]
          by_cases h2 : 0 ≤ rd (rd_L1 l i) j ∧ rd (rd_L1 l i) j ≤ n - 1
          · refine Ev.pos (by simp; omega) ?_
            by_cases h3 : (j : Int) > 0
            · rw [w64 (by omega) (by omega)]
              refine Ev.pos h3 (Ev.pos (by omega) (Ev.pos (by omega) ?_))
              by_cases h4 : rd (rd_L1 l i) ((j : Int) - 1) ≥ rd (rd_L1 l i) j
              · rw [if_neg (by omega)]; exact Ev.pos h4 (Ev.some_ rfl)
              · rw [if_pos (by omega)]; exact Ev.neg h4 (ih' (j + 1) (by omega))
            · rw [if_pos (by omega)]; exact Ev.neg h3 (ih' (j + 1) (by omega))
          · rw [if_neg (by omega)]; exact Ev.neg (by simp; omega) (Ev.some_ rfl)
      exact inner (rd_L1 l i).length 0 (by omega)
    · refine Ev.neg (by simp; omega) (Ev.some_ ?_)
      unfold checkB; rw [show decide (2 ≤ (rd_L1 l i).length ∧ (rd_L1 l i).length ≤ 16) = false by simp; omega]; rfl
theorem sChecksOk_ev (l : List (List Int)) (n : Int) : Ev (fun k => spec_ChecksOk.f k l n) (checksB l n) := by
  have bad : Ev (fun k => spec_ChecksOk.j0 k l n true) false := by
    refine Ev.succ ?_
    simp only [spec_ChecksOk.j0]
    exact Ev.pos trivial (Ev.some_ rfl)
  unfold spec_ChecksOk.f checksB
  simp only [l1In_eq, Option.bind_some]
  by_cases h1 : 1 ≤ n ∧ n ≤ 128
  · refine Ev.pos (by simp; omega) ?_
    by_cases h3 : l.length ≤ 64
    · rw [show decide ((l.length : Int) > 64) = false by simp; omega, show decide ((1 ≤ n ∧ n ≤ 128) ∧ l.length ≤ 64) = true by simp; omega]
      refine Ev.succ ?_
      simp only [spec_ChecksOk.j0]
      exact Ev.neg (by simp) ((sChecksOk_l n (by omega) l h3 l.length 0 (by omega)).to (by simp))
    · rw [show decide ((l.length : Int) > 64) = true by simp; omega]
      exact bad.to (by rw [show decide ((1 ≤ n ∧ n ≤ 128) ∧ l.length ≤ 64) = false by simp; omega]; rfl)
  · exact Ev.neg (by simp; omega) (bad.to (by rw [show decide ((1 ≤ n ∧ n ≤ 128) ∧ l.length ≤ 64) = false by simp; omega]; rfl))
theorem bsIn_of {l : List (List Int)} {n : Int} (h : checksB l n = true) : bsIn l n := by
  have hc := checksIn h
  refine ⟨hc.n1, hc.len, fun c hm => ?_⟩
  obtain ⟨i, hi, he⟩ := List.mem_iff_getElem.1 hm
  have e : rd_L1 l (i : Int) = c := by rw [rdL1_nat l i hi]; exact he
  have hr := hc.row i hi
  have hb := hc.bd i hi
  rw [e] at hr hb
  refine ⟨hr.2, fun x hx => ?_⟩
  obtain ⟨j, hj, he2⟩ := List.mem_iff_getElem.1 hx
  have := hb j hj
  rw [rd_get c j hj, he2] at this
  omega
theorem sBasis_ev (l : List (List Int)) (n : Int) : Ev (fun k => spec_Basis.f k l n) (if checksB l n = true then (bsBasis l n.toNat, true) else ([], false)) := by
  unfold spec_Basis.f
  refine Ev.next (sChecksOk_ev l n) ?_
  cases hc : checksB l n
  · exact Ev.neg (by simp) (Ev.some_ (by simp))
  · exact Ev.pos rfl (Ev.pos (bsIn_of hc) (Ev.some_ (by simp)))
theorem bsWord_len (rows : List (List Int)) (lead : List Int) (col : Int) : ∀ (d i : Nat) (w : List Int), (bsWord rows lead col d i w).length = w.length
  | 0, _, _ => rfl
  | d + 1, i, w => by unfold bsWord; rw [bsWord_len rows lead col d, List.length_set]
theorem bsOut_rows (n : Nat) (rows : List (List Int)) (lead : List Int) : ∀ (d col : Nat), (∀ r ∈ bsOut n rows lead d col, r.length = n) ∧ (bsOut n rows lead d col).length ≤ d
  | 0, _ => ⟨fun r hr => by simp [bsOut] at hr, by simp [bsOut]⟩
  | d + 1, col => by
    obtain ⟨h1, h2⟩ := bsOut_rows n rows lead d (col + 1)
    unfold bsOut
    constructor
    · intro r hr
      rcases List.mem_append.1 hr with h3 | h3
      · split at h3
        · rw [List.mem_singleton] at h3
          rw [h3, bsWord_len]; simp
        · simp at h3
      · exact h1 r h3
    · rw [List.length_append]
      split
      · simp only [List.length_singleton]; omega
      · simp only [List.length_nil]; omega
theorem bsBasis_rows (l : List (List Int)) (n : Nat) : (∀ r ∈ bsBasis l n, r.length = n) ∧ (bsBasis l n).length ≤ n := bsOut_rows _ _ _ _ _
def bs01 (r : List Int) : Prop := ∀ x ∈ r, x = 0 ∨ x = 1
def all01 (l : List (List Int)) : Prop := ∀ r ∈ l, bs01 r
theorem bs01_rd {r : List Int} (h : bs01 r) (i : Int) : rd r i = 0 ∨ rd r i = 1 := by
  unfold rd
  by_cases hi : i.toNat < r.length
  · rw [List.getD_eq_getElem?_getD, List.getElem?_eq_getElem hi]; exact h _ (List.getElem_mem hi)
  · rw [List.getD_eq_getElem?_getD, List.getElem?_eq_none (by omega)]; exact Or.inl rfl
theorem bs01_getD {l : List (List Int)} (h : all01 l) (i : Nat) : bs01 (l.getD i []) := by
  by_cases hi : i < l.length
  · rw [List.getD_eq_getElem?_getD, List.getElem?_eq_getElem hi]; exact h _ (List.getElem_mem hi)
  · rw [List.getD_eq_getElem?_getD, List.getElem?_eq_none (by omega)]; intro x hx; simp at hx
theorem bs01_set {r : List Int} (h : bs01 r) (i : Nat) {v : Int} (hv : v = 0 ∨ v = 1) : bs01 (r.set i v) := by
  intro x hx
  rcases List.mem_or_eq_of_mem_set hx with h1 | h1
  · exact h x h1
  · rw [h1]; exact hv
theorem all01_set {l : List (List Int)} (h : all01 l) (i : Nat) {v : List Int} (hv : bs01 v) : all01 (l.set i v) := by
  intro x hx
  rcases List.mem_or_eq_of_mem_set hx with h1 | h1
  · exact h x h1
  · rw [h1]; exact hv
theorem xor01 {a b : Int} (ha : a = 0 ∨ a = 1) (hb : b = 0 ∨ b = 1) : Go.bits .xor .i64 a b = 0 ∨ Go.bits .xor .i64 a b = 1 := by
  rcases ha with rfl | rfl <;> rcases hb with rfl | rfl <;> decide
theorem xor0 {b : Int} (hb : b = 0 ∨ b = 1) : Go.bits .xor .i64 0 b = b := by
  rcases hb with rfl | rfl <;> decide
theorem bsXor01 {b : List Int} (hb : bs01 b) : ∀ (d k : Nat) (a : List Int), bs01 a → bs01 (bsXor b d k a)
  | 0, _, _, h => h
  | d + 1, k, a, h => bsXor01 hb d (k + 1) _ (bs01_set h k (xor01 (bs01_rd h _) (bs01_rd hb _)))
theorem bsFind_le (rows : List (List Int)) (col : Int) : ∀ (d p : Nat), p ≤ bsFind rows col d p ∧ bsFind rows col d p ≤ p + d
  | 0, p => ⟨Nat.le_refl _, by simp [bsFind]⟩
  | d + 1, p => by
    unfold bsFind
    have := bsFind_le rows col d (p + 1)
    split <;> omega
theorem bsSwap01 {rows : List (List Int)} (h : all01 rows) (p q : Nat) : all01 (bsSwap rows p q) := all01_set (all01_set h p (bs01_getD h q)) q (bs01_getD h p)
theorem bsSwap_len (rows : List (List Int)) (p q : Nat) : (bsSwap rows p q).length = rows.length := by unfold bsSwap; simp
theorem bsClear01 (n : Nat) (col : Int) (at_ : Nat) : ∀ (d i : Nat) (rows : List (List Int)), all01 rows → all01 (bsClear n col at_ d i rows) ∧ (bsClear n col at_ d i rows).length = rows.length
  | 0, _, rows, h => ⟨h, rfl⟩
  | d + 1, i, rows, h => by
    unfold bsClear
    split
    · have := bsClear01 n col at_ d (i + 1) _ (all01_set h i (bsXor01 (bs01_getD h at_) n 0 _ (bs01_getD h i)))
      rw [List.length_set] at this
      exact this
    · exact bsClear01 n col at_ d (i + 1) rows h
theorem bsElim_inv (n : Nat) : ∀ (d col : Nat) (rows : List (List Int)) (lead : List Int), all01 rows → lead.length ≤ rows.length → lead.Pairwise (· < ·) → (∀ x ∈ lead, 0 ≤ x ∧ x < (col : Int)) →
    all01 (bsElim n d col rows lead).1 ∧ (bsElim n d col rows lead).2.length ≤ rows.length ∧ (bsElim n d col rows lead).1.length = rows.length ∧ (bsElim n d col rows lead).2.Pairwise (· < ·) ∧ ∀ x ∈ (bsElim n d col rows lead).2, 0 ≤ x ∧ x < ((col + d : Nat) : Int)
  | 0, _, _, _, h1, h2, h3, h4 => ⟨h1, h2, rfl, h3, h4⟩
  | d + 1, col, rows, lead, h1, h2, h3, h4 => by
    unfold bsElim
    have hf := bsFind_le rows col (rows.length - lead.length) lead.length
    split
    · have := bsElim_inv n d (col + 1) rows lead h1 h2 h3 (fun x hx => by have := h4 x hx; omega)
      rw [show col + (d + 1) = col + 1 + d by omega]
      exact this
    · rename_i hlt
      have hc := bsClear01 n col lead.length rows.length 0 _ (bsSwap01 h1 (bsFind rows col (rows.length - lead.length) lead.length) lead.length)
      rw [bsSwap_len] at hc
      have := bsElim_inv n d (col + 1) _ (lead ++ [(col : Int)]) hc.1 (by rw [hc.2, List.length_append, List.length_singleton]; omega)
        (List.pairwise_append.2 ⟨h3, List.pairwise_singleton _ _, fun a ha b hb => by rw [List.mem_singleton] at hb; have := h4 a ha; omega⟩)
        (fun x hx => (List.mem_append.1 hx).elim (fun h5 => by have := h4 x h5; omega) (fun h5 => by rw [List.mem_singleton] at h5; omega))
      rw [hc.2] at this
      rw [show col + (d + 1) = col + 1 + d by omega]
      exact this
theorem bsRow01 (n : Nat) (c : List Int) : bs01 (bsRow n c) ∧ (bsRow n c).length = n := by
  unfold bsRow
  have go : ∀ (c : List Int) (r : List Int), bs01 r → bs01 (c.foldl (fun r x => r.set x.toNat 1) r) ∧ (c.foldl (fun r x => r.set x.toNat 1) r).length = r.length := by
    intro c
    induction c with
    | nil => intro r h; exact ⟨h, rfl⟩
    | cons x c ih => intro r h; have := ih _ (bs01_set h x.toNat (Or.inr rfl)); rw [List.length_set] at this; exact this
  have := go c (List.replicate n 0) (fun x hx => Or.inl (List.eq_of_mem_replicate hx))
  rw [List.length_replicate] at this
  exact this
theorem bsRows01 (l : List (List Int)) (n : Nat) : all01 (l.map (bsRow n)) := by
  intro r hr
  obtain ⟨c, _, rfl⟩ := List.mem_map.1 hr
  exact (bsRow01 n c).1
/-- The parity of what two words have in common, up to n. -/
def dotF (r x : Nat → Bool) : Nat → Bool
  | 0 => false
  | n + 1 => dotF r x n ^^ (r n && x n)
theorem dotF_congr {r r' x x' : Nat → Bool} : ∀ n : Nat, (∀ k, k < n → r k = r' k) → (∀ k, k < n → x k = x' k) → dotF r x n = dotF r' x' n
  | 0, _, _ => rfl
  | n + 1, h, g => by
    unfold dotF
    rw [dotF_congr n (fun k hk => h k (by omega)) (fun k hk => g k (by omega)), h n (by omega), g n (by omega)]
theorem dotF_xl (r s x : Nat → Bool) : ∀ n : Nat, dotF (fun k => r k ^^ s k) x n = (dotF r x n ^^ dotF s x n)
  | 0 => rfl
  | n + 1 => by
    unfold dotF
    rw [dotF_xl r s x n]
    cases dotF r x n <;> cases dotF s x n <;> cases r n <;> cases s n <;> cases x n <;> rfl
theorem dotF_xr (r x y : Nat → Bool) : ∀ n : Nat, dotF r (fun k => x k ^^ y k) n = (dotF r x n ^^ dotF r y n)
  | 0 => rfl
  | n + 1 => by
    unfold dotF
    rw [dotF_xr r x y n]
    cases dotF r x n <;> cases dotF r y n <;> cases r n <;> cases x n <;> cases y n <;> rfl
theorem dotF_zl {r : Nat → Bool} (x : Nat → Bool) : ∀ n : Nat, (∀ k, k < n → r k = false) → dotF r x n = false
  | 0, _ => rfl
  | n + 1, h => by unfold dotF; rw [dotF_zl x n (fun k hk => h k (by omega)), h n (by omega)]; rfl
theorem dotF_zr (r : Nat → Bool) {x : Nat → Bool} : ∀ n : Nat, (∀ k, k < n → x k = false) → dotF r x n = false
  | 0, _ => rfl
  | n + 1, h => by unfold dotF; rw [dotF_zr r n (fun k hk => h k (by omega)), h n (by omega)]; cases r n <;> rfl
theorem dotF_one (r : Nat → Bool) (p : Nat) (y : Bool) : ∀ n : Nat, p < n → dotF r (fun k => decide (k = p) && y) n = (r p && y)
  | 0, h => by omega
  | n + 1, h => by
    unfold dotF
    by_cases hp : p = n
    · subst hp
      rw [dotF_zr r p (fun k hk => by rw [show decide (k = p) = false by simp; omega]; rfl)]
      simp
    · rw [dotF_one r p y n (by omega), show decide (n = p) = false by simp; omega]
      cases r p <;> cases y <;> cases r n <;> rfl
theorem dotF_oneL (x : Nat → Bool) (p : Nat) : ∀ n : Nat, p < n → dotF (fun k => decide (k = p)) x n = x p
  | 0, h => by omega
  | n + 1, h => by
    unfold dotF
    by_cases hp : p = n
    · subst hp
      rw [dotF_zl x p (fun k hk => by simp; omega)]
      simp
    · rw [dotF_oneL x p n (by omega), show decide (n = p) = false by simp; omega]
      cases x p <;> rfl
/-- A word's places as bits. -/
def bsB (r : List Int) (k : Nat) : Bool := rd r (k : Int) == 1
theorem bsB_xor {a b : Int} (ha : a = 0 ∨ a = 1) (hb : b = 0 ∨ b = 1) : (Go.bits .xor .i64 a b == 1) = ((a == 1) ^^ (b == 1)) := by
  rcases ha with rfl | rfl <;> rcases hb with rfl | rfl <;> decide +kernel
theorem bsB_true {r : List Int} {k : Nat} : bsB r k = true ↔ rd r (k : Int) = 1 := by unfold bsB; simp
theorem bsB_false {r : List Int} (h : bs01 r) {k : Nat} : bsB r k = false ↔ rd r (k : Int) = 0 := by
  have := bs01_rd h (k : Int)
  unfold bsB
  simp
  omega
theorem rd_set (w : List Int) (p : Nat) (v : Int) (k : Nat) : rd (w.set p v) (k : Int) = if p = k ∧ k < w.length then v else rd w (k : Int) := by
  rw [rd_nat, rd_nat, List.getD_eq_getElem?_getD, List.getD_eq_getElem?_getD, List.getElem?_set]
  by_cases h : p = k
  · subst h
    by_cases h2 : p < w.length
    · simp [h2]
    · simp [h2]
  · simp [h]
theorem bsXor_len (b : List Int) : ∀ (d k : Nat) (a : List Int), (bsXor b d k a).length = a.length
  | 0, _, _ => rfl
  | d + 1, k, a => by unfold bsXor; rw [bsXor_len b d (k + 1), List.length_set]
theorem bsXor_rd (b : List Int) : ∀ (d k : Nat) (a : List Int) (j : Nat), rd (bsXor b d k a) (j : Int) = if k ≤ j ∧ j < k + d ∧ j < a.length then Go.bits .xor .i64 (rd a (j : Int)) (rd b (j : Int)) else rd a (j : Int)
  | 0, k, a, j => by rw [if_neg (by omega)]; rfl
  | d + 1, k, a, j => by
    unfold bsXor
    rw [bsXor_rd b d (k + 1), List.length_set, rd_set]
    by_cases h1 : k = j
    · subst h1
      rw [if_neg (by omega)]
      by_cases h2 : k < a.length
      · rw [if_pos ⟨rfl, h2⟩, if_pos (by omega)]
      · rw [if_neg (by omega), if_neg (by omega)]
    · rw [if_neg (c := k = j ∧ j < a.length) (fun h => h1 h.1)]
      by_cases h2 : k + 1 ≤ j ∧ j < k + 1 + d ∧ j < a.length
      · rw [if_pos h2, if_pos (by omega)]
      · rw [if_neg h2, if_neg (by omega)]
theorem bsXor_B {a b : List Int} (ha : bs01 a) (hb : bs01 b) (n : Nat) (hn : a.length = n) (j : Nat) (hj : j < n) : bsB (bsXor b n 0 a) j = (bsB a j ^^ bsB b j) := by
  unfold bsB
  rw [bsXor_rd, if_pos (by omega)]
  exact bsB_xor (bs01_rd ha _) (bs01_rd hb _)
theorem getD_set {l : List (List Int)} {i : Nat} (hi : i < l.length) (v : List Int) (m : Nat) : (l.set i v).getD m [] = if m = i then v else l.getD m [] := by
  rw [List.getD_eq_getElem?_getD, List.getD_eq_getElem?_getD, List.getElem?_set]
  by_cases h : i = m
  · subst h; simp [hi]
  · rw [if_neg h, if_neg (fun e => h e.symm)]
theorem bsClear_get (n : Nat) (col : Int) (at_ : Nat) : ∀ (d i : Nat) (rows : List (List Int)), i + d ≤ rows.length → ∀ m : Nat, (bsClear n col at_ d i rows).getD m [] = if i ≤ m ∧ m < i + d ∧ m ≠ at_ ∧ rd (rows.getD m []) col = 1 then bsXor (rows.getD at_ []) n 0 (rows.getD m []) else rows.getD m []
  | 0, i, rows, h, m => by rw [if_neg (by omega)]; rfl
  | d + 1, i, rows, h, m => by
    unfold bsClear
    by_cases hc : i ≠ at_ ∧ rd (rows.getD i []) col = 1
    · rw [if_pos hc, bsClear_get n col at_ d (i + 1) _ (by rw [List.length_set]; omega) m, getD_set (by omega) _ m, getD_set (by omega) _ at_, if_neg (c := at_ = i) (fun e => hc.1 e.symm)]
      by_cases hm : m = i
      · subst hm
        rw [if_pos rfl, if_neg (by omega), if_pos ⟨by omega, by omega, hc.1, hc.2⟩]
      · rw [if_neg hm]
        by_cases h2 : i + 1 ≤ m ∧ m < i + 1 + d ∧ m ≠ at_ ∧ rd (rows.getD m []) col = 1
        · rw [if_pos h2, if_pos ⟨by omega, by omega, h2.2.2⟩]
        · rw [if_neg h2, if_neg (fun h3 => h2 ⟨by omega, by omega, h3.2.2⟩)]
    · rw [if_neg hc, bsClear_get n col at_ d (i + 1) rows (by omega) m]
      by_cases h2 : i + 1 ≤ m ∧ m < i + 1 + d ∧ m ≠ at_ ∧ rd (rows.getD m []) col = 1
      · rw [if_pos h2, if_pos ⟨by omega, by omega, h2.2.2⟩]
      · rw [if_neg h2]
        by_cases hm : m = i
        · subst hm; rw [if_neg (fun h3 => hc h3.2.2)]
        · rw [if_neg (fun h3 => h2 ⟨by omega, by omega, h3.2.2⟩)]
theorem bsSwap_get {rows : List (List Int)} {p q : Nat} (hp : p < rows.length) (hq : q < rows.length) (m : Nat) : (bsSwap rows p q).getD m [] = if m = q then rows.getD p [] else if m = p then rows.getD q [] else rows.getD m [] := by
  unfold bsSwap
  rw [getD_set (by rw [List.length_set]; exact hq), getD_set hp]
theorem bsFind_sp (rows : List (List Int)) (col : Int) : ∀ (d p : Nat), (∀ m, p ≤ m → m < bsFind rows col d p → rd (rows.getD m []) col = 0) ∧ (bsFind rows col d p < p + d → rd (rows.getD (bsFind rows col d p) []) col ≠ 0)
  | 0, p => ⟨fun m h1 h2 => by unfold bsFind at h2; omega, fun h => by unfold bsFind at h; omega⟩
  | d + 1, p => by
    unfold bsFind
    split
    · rename_i h
      obtain ⟨h1, h2⟩ := bsFind_sp rows col d (p + 1)
      refine ⟨fun m h3 h4 => ?_, fun h3 => h2 (by omega)⟩
      by_cases hm : m = p
      · subst hm; exact h
      · exact h1 m (by omega) h4
    · rename_i h
      exact ⟨fun m h1 h2 => by omega, fun _ => h⟩
/-- Each row has an even part in common with x. -/
def bsSat (n : Nat) (rows : List (List Int)) (x : Nat → Bool) : Prop := ∀ m, m < rows.length → dotF (bsB (rows.getD m [])) x n = false
structure BsInv (n : Nat) (l0 : List (List Int)) (col : Nat) (rows : List (List Int)) (lead : List Int) : Prop where
  bits : all01 rows
  wid : ∀ m, m < rows.length → (rows.getD m []).length = n
  ll : lead.length ≤ rows.length
  bd : ∀ x ∈ lead, 0 ≤ x ∧ x < (col : Int)
  one : ∀ j, j < lead.length → ∀ m, m < rows.length → bsB (rows.getD m []) (rd lead (j : Int)).toNat = decide (m = j)
  nil : ∀ m, lead.length ≤ m → m < rows.length → ∀ c, c < col → bsB (rows.getD m []) c = false
  sat : ∀ x, bsSat n rows x → bsSat n l0 x
theorem bsElim_sp (n : Nat) (l0 : List (List Int)) : ∀ (d col : Nat) (rows : List (List Int)) (lead : List Int), col + d = n → BsInv n l0 col rows lead → BsInv n l0 n (bsElim n d col rows lead).1 (bsElim n d col rows lead).2
  | 0, col, rows, lead, hd, H => by obtain rfl : col = n := by omega
                                    exact H
  | d + 1, col, rows, lead, hd, H => by
    unfold bsElim
    have hf := bsFind_le rows col (rows.length - lead.length) lead.length
    obtain ⟨hz, hnz⟩ := bsFind_sp rows col (rows.length - lead.length) lead.length
    have hll := H.ll
    generalize bsFind rows col (rows.length - lead.length) lead.length = q at hf hz hnz
    split
    · rename_i hq
      refine bsElim_sp n l0 d (col + 1) rows lead (by omega) ⟨H.bits, H.wid, H.ll, fun x hx => by have := H.bd x hx; omega, H.one, fun m h1 h2 c hc => ?_, H.sat⟩
      by_cases hcc : c = col
      · subst hcc
        exact (bsB_false (bs01_getD H.bits m)).2 (hz m h1 (by omega))
      · exact H.nil m h1 h2 c (by omega)
    · rename_i hq
      have hqn := hnz (by omega)
      have hq1 : rd (rows.getD q []) (col : Int) = 1 := by have := bs01_rd (bs01_getD H.bits q) (col : Int); omega
      have hsl := bsSwap_len rows q lead.length
      have sg := bsSwap_get (rows := rows) (p := q) (q := lead.length) (by omega) (by omega)
      have sb := bsSwap01 H.bits q lead.length
      have hc := bsClear01 n col lead.length rows.length 0 _ sb
      have cg := bsClear_get n col lead.length rows.length 0 (bsSwap rows q lead.length) (by omega)
      have atE : (bsSwap rows q lead.length).getD lead.length [] = rows.getD q [] := by rw [sg, if_pos rfl]
      have swid : ∀ m, m < rows.length → ((bsSwap rows q lead.length).getD m []).length = n := fun m hm => by
        rw [sg]; split
        · exact H.wid q (by omega)
        · split
          · exact H.wid _ (by omega)
          · exact H.wid m hm
      -- the bits of a row after the step
      have key : ∀ m, m < rows.length → ∀ c, c < n → bsB ((bsClear n col lead.length rows.length 0 (bsSwap rows q lead.length)).getD m []) c = (bsB ((bsSwap rows q lead.length).getD m []) c ^^ ((decide (m ≠ lead.length) && bsB ((bsSwap rows q lead.length).getD m []) col) && bsB (rows.getD q []) c)) := fun m hm c hcn => by
        rw [cg m]
        by_cases h1 : m ≠ lead.length ∧ rd ((bsSwap rows q lead.length).getD m []) (col : Int) = 1
        · rw [if_pos ⟨by omega, by omega, h1.1, h1.2⟩, bsXor_B (bs01_getD sb m) (bs01_getD sb _) n (swid m hm) c hcn, atE, show decide (m ≠ lead.length) = true from decide_eq_true h1.1, bsB_true.2 h1.2]
          simp
        · rw [if_neg (fun h2 => h1 h2.2.2)]
          by_cases h3 : m = lead.length
          · rw [show decide (m ≠ lead.length) = false by simp [h3]]; simp
          · have : bsB ((bsSwap rows q lead.length).getD m []) col = false := (bsB_false (bs01_getD sb m)).2 (by have := bs01_rd (bs01_getD sb m) (col : Int); have : ¬ rd ((bsSwap rows q lead.length).getD m []) (col : Int) = 1 := fun e => h1 ⟨h3, e⟩; omega)
            rw [this]; simp
      have old : ∀ j, j < lead.length → ∀ m, m < rows.length → bsB ((bsSwap rows q lead.length).getD m []) (rd lead (j : Int)).toNat = decide (m = j) := fun j hj m hm => by
        rw [sg]; split
        · rename_i e; rw [H.one j hj q (by omega)]; simp; omega
        · split
          · rename_i e; rw [H.one j hj lead.length (by omega)]; simp; omega
          · exact H.one j hj m hm
      have nilq : ∀ c, c < col → bsB (rows.getD q []) c = false := fun c hcc => H.nil q (by omega) (by omega) c hcc
      have ldn : ∀ j, j < lead.length → (rd lead (j : Int)).toNat < col := fun j hj => by have := H.bd _ (rd_mem hj); omega
      refine bsElim_sp n l0 d (col + 1) _ (lead ++ [(col : Int)]) (by omega) ⟨hc.1, fun m hm => ?_, by rw [hc.2, hsl, List.length_append, List.length_singleton]; omega, fun x hx => ?_, fun j hj m hm => ?_, fun m h1 h2 c hcc => ?_, fun x hx => H.sat x ?_⟩
      · rw [hc.2, hsl] at hm
        rw [cg m]; split
        · rw [bsXor_len]; exact swid m hm
        · exact swid m hm
      · rcases List.mem_append.1 hx with h5 | h5
        · have := H.bd x h5; omega
        · rw [List.mem_singleton] at h5; omega
      · rw [hc.2, hsl] at hm
        rw [List.length_append, List.length_singleton] at hj
        by_cases hjl : j < lead.length
        · have e : rd (lead ++ [(col : Int)]) (j : Int) = rd lead (j : Int) := by rw [rd_nat, rd_nat, List.getD_eq_getElem?_getD, List.getD_eq_getElem?_getD, List.getElem?_append_left hjl]
          rw [e, key m hm _ (by have := ldn j hjl; omega), old j hjl m hm, nilq _ (ldn j hjl)]
          simp
        · obtain rfl : j = lead.length := by omega
          have e : rd (lead ++ [(col : Int)]) (lead.length : Int) = (col : Int) := by rw [rd_nat, List.getD_eq_getElem?_getD, List.getElem?_append_right (by omega)]; simp
          rw [e, show ((col : Int)).toNat = col from rfl, key m hm col (by omega), bsB_true.2 hq1]
          by_cases hml : m = lead.length
          · subst hml
            rw [atE, bsB_true.2 hq1]; simp
          · rw [show decide (m = lead.length) = false by simp [hml], show decide (m ≠ lead.length) = true by simp [hml]]
            simp
      · rw [hc.2, hsl] at h2
        rw [List.length_append, List.length_singleton] at h1
        have hrow : ∀ c, c < col → bsB ((bsSwap rows q lead.length).getD m []) c = false := fun c hc2 => by
          rw [sg, if_neg (by omega)]; split
          · exact H.nil _ (Nat.le_refl _) (by omega) c hc2
          · exact H.nil m (by omega) h2 c hc2
        rw [key m h2 c (by omega), show decide (m ≠ lead.length) = true by simp; omega]
        by_cases hcc2 : c = col
        · subst hcc2; rw [bsB_true.2 hq1]; simp
        · rw [hrow c (by omega), nilq c (by omega)]; simp
      · -- what the new rows hold, the old ones hold
        have sw : bsSat n (bsSwap rows q lead.length) x := fun m hm => by
          rw [hsl] at hm
          have ha := hx lead.length (by rw [hc.2, hsl]; omega)
          have hm2 := hx m (by rw [hc.2, hsl]; exact hm)
          have e1 : dotF (bsB (rows.getD q [])) x n = false := by
            rw [← ha]
            refine dotF_congr n (fun c hcn => ?_) (fun _ _ => rfl)
            rw [key lead.length (by omega) c hcn, atE]; simp
          have e2 := dotF_congr (x := x) (x' := x) n (key m hm) (fun _ _ => rfl)
          rw [hm2, dotF_xl] at e2
          have e3 : dotF (fun k => (decide (m ≠ lead.length) && bsB ((bsSwap rows q lead.length).getD m []) col) && bsB (rows.getD q []) k) x n = false := by
            cases (decide (m ≠ lead.length) && bsB ((bsSwap rows q lead.length).getD m []) col)
            · exact dotF_zl x n (fun k _ => rfl)
            · rw [← e1]; exact dotF_congr n (fun k _ => by simp) (fun _ _ => rfl)
          rw [e3] at e2
          rw [Bool.xor_false] at e2
          exact e2.symm
        intro m hm
        by_cases h1 : m = q
        · subst h1
          have := sw lead.length (by omega)
          rwa [atE] at this
        · by_cases h2 : m = lead.length
          · subst h2
            have := sw q (by omega)
            rw [sg, if_neg (fun e => h1 e.symm), if_pos rfl] at this
            exact this
          · have := sw m (by omega)
            rw [sg, if_neg h2, if_neg h1] at this
            exact this
theorem bsStart (n : Nat) (l : List (List Int)) : BsInv n (l.map (bsRow n)) 0 (l.map (bsRow n)) [] := by
  refine ⟨bsRows01 l n, fun m hm => ?_, by simp, by simp, fun j hj => by simp at hj, fun m _ _ c hc => by omega, fun x h => h⟩
  rw [List.length_map] at hm
  rw [List.getD_eq_getElem?_getD, List.getElem?_map, List.getElem?_eq_getElem hm]
  exact (bsRow01 n _).2
def bsFree (lead : List Int) : Nat → Nat → List Nat
  | 0, _ => []
  | d + 1, col => (if (lead.all fun x => x != (col : Int)) = true then [col] else []) ++ bsFree lead d (col + 1)
def bsW (n : Nat) (rows : List (List Int)) (lead : List Int) (c : Nat) : List Int := bsWord rows lead (c : Int) lead.length 0 ((List.replicate n 0).set c 1)
theorem bsOut_map (n : Nat) (rows : List (List Int)) (lead : List Int) : ∀ d col : Nat, bsOut n rows lead d col = (bsFree lead d col).map (bsW n rows lead)
  | 0, _ => rfl
  | d + 1, col => by
    unfold bsOut bsFree
    rw [bsOut_map n rows lead d (col + 1), List.map_append]
    split
    · rfl
    · rfl
theorem bsFree_mem (lead : List Int) : ∀ (d col : Nat), ∀ c ∈ bsFree lead d col, col ≤ c ∧ c < col + d ∧ ∀ x ∈ lead, x ≠ (c : Int)
  | 0, col, c, h => by simp [bsFree] at h
  | d + 1, col, c, h => by
    unfold bsFree at h
    rcases List.mem_append.1 h with h | h
    · split at h
      · rename_i ha
        rw [List.mem_singleton] at h
        subst h
        exact ⟨Nat.le_refl _, by omega, fun x hx => by have := List.all_eq_true.1 ha x hx; simpa using this⟩
      · simp at h
    · have := bsFree_mem lead d (col + 1) c h
      exact ⟨by omega, by omega, this.2.2⟩
theorem bsFree_lt (lead : List Int) : ∀ (d col : Nat), (bsFree lead d col).Pairwise (· < ·)
  | 0, col => List.Pairwise.nil
  | d + 1, col => by
    unfold bsFree
    refine List.pairwise_append.2 ⟨?_, bsFree_lt lead d (col + 1), fun a ha b hb => ?_⟩
    · split
      · exact List.pairwise_singleton _ _
      · exact List.Pairwise.nil
    · split at ha
      · rw [List.mem_singleton] at ha
        have := bsFree_mem lead d (col + 1) b hb
        omega
      · simp at ha
theorem bsWord_rd (rows : List (List Int)) (lead : List Int) (c : Int) (k : Nat) (hk : ∀ x ∈ lead, 0 ≤ x ∧ x ≠ (k : Int)) : ∀ (d i : Nat) (w : List Int), i + d ≤ lead.length → rd (bsWord rows lead c d i w) (k : Int) = rd w (k : Int)
  | 0, _, _, _ => rfl
  | d + 1, i, w, h => by
    unfold bsWord
    rw [bsWord_rd rows lead c k hk d (i + 1) _ (by omega), rd_set, if_neg]
    have := hk _ (rd_mem (xs := lead) (i := i) (by omega))
    omega
theorem bsWord01 (rows : List (List Int)) (hr : all01 rows) (lead : List Int) (c : Int) : ∀ (d i : Nat) (w : List Int), bs01 w → bs01 (bsWord rows lead c d i w)
  | 0, _, _, h => h
  | d + 1, i, w, h => bsWord01 rows hr lead c d (i + 1) _ (bs01_set h _ (xor01 (bs01_rd h _) (bs01_rd (bs01_getD hr i) c)))
theorem unit01 (n c : Nat) : bs01 ((List.replicate n 0).set c 1) := bs01_set (fun x hx => Or.inl (List.eq_of_mem_replicate hx)) c (Or.inr rfl)
theorem unit_B {n c : Nat} (hc : c < n) (k : Nat) : bsB ((List.replicate n 0).set c 1) k = decide (k = c) := by
  unfold bsB
  rw [rd_set]
  by_cases h : c = k
  · subst h; rw [if_pos ⟨rfl, by rw [List.length_replicate]; exact hc⟩]; simp
  · rw [if_neg (fun e => h e.1), show decide (k = c) = false by simp; omega, rd_nat, List.getD_eq_getElem?_getD, List.getElem?_replicate]
    split <;> rfl
theorem bsWord_dot {n : Nat} {l0 rows : List (List Int)} {lead : List Int} (H : BsInv n l0 n rows lead) (m : Nat) (hm : m < rows.length) (c : Nat) : ∀ (d i : Nat) (w : List Int), i + d ≤ lead.length → w.length = n → bs01 w →
    dotF (bsB (rows.getD m [])) (bsB (bsWord rows lead (c : Int) d i w)) n = (dotF (bsB (rows.getD m [])) (bsB w) n ^^ (decide (i ≤ m ∧ m < i + d) && bsB (rows.getD m []) c))
  | 0, i, w, _, _, _ => by rw [show decide (i ≤ m ∧ m < i + 0) = false by rw [decide_eq_false_iff_not]; omega]; simp [bsWord]
  | d + 1, i, w, h, hw, hb => by
    have hi : i < lead.length := by omega
    have hbd := H.bd _ (rd_mem hi)
    have hll := H.ll
    unfold bsWord
    have hx := xor01 (bs01_rd hb (rd lead (i : Int))) (bs01_rd (bs01_getD H.bits i) (c : Int))
    rw [bsWord_dot H m hm c d (i + 1) _ (by omega) (by rw [List.length_set]; exact hw) (bs01_set hb _ hx)]
    have e : ∀ k, k < n → bsB (w.set (rd lead (i : Int)).toNat (Go.bits .xor .i64 (rd w (rd lead (i : Int))) (rd (rows.getD i []) (c : Int)))) k = (bsB w k ^^ (decide (k = (rd lead (i : Int)).toNat) && bsB (rows.getD i []) c)) := fun k hk => by
      by_cases hk2 : (rd lead (i : Int)).toNat = k
      · have e2 : rd lead (i : Int) = (k : Int) := by omega
        rw [show decide (k = (rd lead (i : Int)).toNat) = true by simp; omega]
        unfold bsB
        rw [rd_set, if_pos ⟨hk2, by omega⟩, e2, bsB_xor (bs01_rd hb _) (bs01_rd (bs01_getD H.bits i) _)]
        simp
      · rw [show decide (k = (rd lead (i : Int)).toNat) = false by simp; omega]
        unfold bsB
        rw [rd_set, if_neg (fun e => hk2 e.1)]
        simp
    rw [dotF_congr n (fun _ _ => rfl) e, dotF_xr, dotF_one _ _ _ n (by omega), H.one i hi m hm]
    by_cases hmi : m = i
    · subst hmi
      rw [show decide (m + 1 ≤ m ∧ m < m + 1 + d) = false by simp; omega, show decide (m ≤ m ∧ m < m + (d + 1)) = true by rw [decide_eq_true_eq]; omega]
      simp
    · rw [show decide (m = i) = false by simp [hmi], show decide (i + 1 ≤ m ∧ m < i + 1 + d) = decide (i ≤ m ∧ m < i + (d + 1)) by rw [decide_eq_decide]; omega]
      simp
theorem bsW_sat {n : Nat} {l0 rows : List (List Int)} {lead : List Int} (H : BsInv n l0 n rows lead) (c : Nat) (hc : c < n) : bsSat n l0 (bsB (bsW n rows lead c)) := by
  refine H.sat _ (fun m hm => ?_)
  unfold bsW
  rw [bsWord_dot H m hm c lead.length 0 _ (by omega) (by simp) (unit01 n c), dotF_congr (r' := bsB (rows.getD m [])) n (fun _ _ => rfl) (fun k _ => unit_B hc k)]
  rw [show (fun k => decide (k = c)) = (fun k => decide (k = c) && true) by funext k; simp, dotF_one _ _ _ n hc]
  by_cases h : m < lead.length
  · rw [show decide (0 ≤ m ∧ m < 0 + lead.length) = true by simp; omega]; simp
  · rw [H.nil m (by omega) hm c hc]; simp
theorem bsBasis_inv (l : List (List Int)) (n : Nat) : BsInv n (l.map (bsRow n)) n (bsElim n n 0 (l.map (bsRow n)) []).1 (bsElim n n 0 (l.map (bsRow n)) []).2 := bsElim_sp n _ n 0 _ [] (by omega) (bsStart n l)
theorem bsBasis_word (l : List (List Int)) (n : Nat) : ∀ w ∈ bsBasis l n, bs01 w ∧ w.length = n ∧ bsSat n (l.map (bsRow n)) (bsB w) := by
  intro w hw
  have hl := (bsBasis_rows l n).1 w hw
  unfold bsBasis at hw
  have H := bsBasis_inv l n
  rw [bsOut_map] at hw
  obtain ⟨c, hc, rfl⟩ := List.mem_map.1 hw
  have hm := bsFree_mem _ _ _ c hc
  exact ⟨bsWord01 _ H.bits _ _ _ _ _ (unit01 n c), hl, bsW_sat H c (by omega)⟩
theorem bsBasis_alone (l : List (List Int)) (n : Nat) (i : Nat) (hi : i < (bsBasis l n).length) : ∃ k, k < n ∧ rd ((bsBasis l n).getD i []) (k : Int) = 1 ∧ ∀ o, o < (bsBasis l n).length → o = i ∨ rd ((bsBasis l n).getD o []) (k : Int) = 0 := by
  have H := bsBasis_inv l n
  unfold bsBasis at hi ⊢
  generalize (bsElim n n 0 (l.map (bsRow n)) []).1 = rows at H hi ⊢
  generalize (bsElim n n 0 (l.map (bsRow n)) []).2 = lead at H hi ⊢
  rw [bsOut_map] at hi ⊢
  rw [List.length_map] at hi
  have hm := bsFree_mem lead n 0
  have hp := bsFree_lt lead n 0
  generalize bsFree lead n 0 = F at hm hp hi ⊢
  have g : ∀ o (ho : o < F.length), (F.map (bsW n rows lead)).getD o [] = bsW n rows lead F[o] := fun o ho => by
    rw [List.getD_eq_getElem?_getD, List.getElem?_map, List.getElem?_eq_getElem ho]; rfl
  have hFi := hm F[i] (List.getElem_mem hi)
  have v : ∀ o (ho : o < F.length), rd (bsW n rows lead F[o]) ((F[i] : Nat) : Int) = if F[i] = F[o] then 1 else 0 := fun o ho => by
    unfold bsW
    rw [bsWord_rd rows lead _ F[i] (fun x hx => ⟨(H.bd x hx).1, hFi.2.2 x hx⟩) _ _ _ (by omega)]
    have hFo := hm F[o] (List.getElem_mem ho)
    have u := unit_B (n := n) (c := F[o]) (by omega) F[i]
    by_cases he : F[i] = F[o]
    · rw [if_pos he]; rw [show decide (F[i] = F[o]) = true from decide_eq_true he] at u; exact bsB_true.1 u
    · rw [if_neg he]; rw [show decide (F[i] = F[o]) = false from decide_eq_false he] at u; exact (bsB_false (unit01 n _)).1 u
  refine ⟨F[i], by omega, ?_, fun o ho => ?_⟩
  · rw [g i hi, v i hi, if_pos rfl]
  · rw [List.length_map] at ho
    by_cases hoi : o = i
    · exact Or.inl hoi
    · right
      rw [g o ho, v o ho, if_neg]
      rcases Nat.lt_or_ge o i with h | h
      · have := List.pairwise_iff_getElem.1 hp o i ho hi h; omega
      · have := List.pairwise_iff_getElem.1 hp i o hi ho (by omega); omega
/-- A check's own row has what the check tells. -/
theorem asc_step {n : Int} {c : List Int} : ∀ (d i : Nat), ascB n c d i = true → ∀ j : Nat, i ≤ j → j < i + d → j = 0 ∨ rd c ((j : Int) - 1) < rd c j := by
  intro d
  induction d with
  | zero => intro i _ j h1 h2; omega
  | succ d ih =>
    intro i h j h1 h2
    unfold ascB at h
    split at h
    · rename_i hc
      by_cases hj : j = i
      · subst hj; exact hc.2
      · exact ih (i + 1) h j (by omega) (by omega)
    · cases h
theorem asc_pw {n : Int} {c : List Int} (h : ascB n c c.length 0 = true) : c.Pairwise (· < ·) := by
  have st := asc_step c.length 0 h
  have up : ∀ (d i : Nat), i + d + 1 < c.length → rd c (i : Int) < rd c ((i + d + 1 : Nat) : Int) := by
    intro d
    induction d with
    | zero => intro i hi; have := st (i + 1) (by omega) (by omega); rw [show ((i + 1 : Nat) : Int) - 1 = (i : Int) by omega] at this; simpa using this
    | succ d ih =>
      intro i hi
      have h1 := ih i (by omega)
      have h2 := st (i + (d + 1) + 1) (by omega) (by omega)
      rw [show ((i + (d + 1) + 1 : Nat) : Int) - 1 = ((i + d + 1 : Nat) : Int) by omega] at h2
      omega
  refine List.pairwise_iff_getElem.2 (fun i j hi hj hij => ?_)
  have := up (j - i - 1) i (by omega)
  rw [show i + (j - i - 1) + 1 = j by omega, rd_get c i hi, rd_get c j hj] at this
  exact this
theorem bsRow_B (n : Nat) : ∀ (c : List Int) (r : List Int), r.length = n → (∀ x ∈ c, 0 ≤ x) → ∀ k, k < n → bsB (c.foldl (fun r x => r.set x.toNat 1) r) k = (bsB r k || decide ((k : Int) ∈ c))
  | [], r, hr, h0, k, hk => by simp
  | x :: c, r, hr, h0, k, hk => by
    rw [List.foldl_cons, bsRow_B n c _ (by rw [List.length_set]; exact hr) (fun y hy => h0 y (by simp [hy])) k hk]
    have h1 := h0 x (by simp)
    by_cases hx : (k : Int) = x
    · have : bsB (r.set x.toNat 1) k = true := bsB_true.2 (by rw [rd_set, if_pos ⟨by omega, by omega⟩])
      rw [this]; simp [hx]
    · have : bsB (r.set x.toNat 1) k = bsB r k := by unfold bsB; rw [rd_set, if_neg (by omega)]
      rw [this]; simp [hx]
theorem failSum_dot (n : Nat) (w : List Int) (hw : bs01 w) : ∀ (c : List Int) (s : Int), c.Nodup → (∀ x ∈ c, 0 ≤ x ∧ x < (n : Int)) → decide (failSum w c s % 2 = 1) = (decide (s % 2 = 1) ^^ dotF (fun k => decide ((k : Int) ∈ c)) (bsB w) n)
  | [], s, _, _ => by rw [dotF_zl _ n (fun k _ => by simp), Bool.xor_false]; rfl
  | x :: c, s, hn, hb => by
    rw [List.nodup_cons] at hn
    have hx := hb x (by simp)
    rw [show failSum w (x :: c) s = failSum w c (s + rd w x) from rfl, failSum_dot n w hw c _ hn.2 (fun y hy => hb y (by simp [hy]))]
    have e : ∀ k, k < n → decide ((k : Int) ∈ x :: c) = (decide (k = x.toNat) ^^ decide ((k : Int) ∈ c)) := fun k hk => by
      by_cases hk2 : (k : Int) = x
      · have h3 : (k : Int) ∉ c := hk2 ▸ hn.1
        rw [show decide (k = x.toNat) = true by simp; omega, show decide ((k : Int) ∈ c) = false by simp [h3]]; simp [hk2]
      · rw [show decide (k = x.toNat) = false by simp; omega]; simp [hk2]
    rw [dotF_congr n e (fun _ _ => rfl), dotF_xl, dotF_oneL _ _ n (by omega)]
    have hr := bs01_rd hw x
    have eb : bsB w x.toNat = decide (rd w x = 1) := by unfold bsB; rw [show ((x.toNat : Nat) : Int) = x by omega]; rfl
    rw [eb]
    rcases hr with hr | hr
    · rw [hr]; simp
    · rw [hr]
      by_cases h2 : s % 2 = 1
      · rw [show decide ((s + 1) % 2 = 1) = false by simp; omega, show decide (s % 2 = 1) = true by simp; omega]; simp
      · rw [show decide ((s + 1) % 2 = 1) = true by simp; omega, show decide (s % 2 = 1) = false by simp; omega]; simp
theorem failsFrom_nil (w : List Int) : ∀ (l : List (List Int)) (i : Int), (∀ c ∈ l, ¬ failSum w c 0 % 2 = 1) → failsFrom w l i = []
  | [], _, _ => rfl
  | c :: l, i, h => by
    unfold failsFrom
    rw [if_neg (h c (by simp))]
    exact failsFrom_nil w l (i + 1) (fun c' hc => h c' (by simp [hc]))
theorem bsSat_fails {n : Nat} {l : List (List Int)} (hc : checksB l (n : Int) = true) {w : List Int} (hw : bs01 w) (hs : bsSat n (l.map (bsRow n)) (bsB w)) : failsFrom w l 0 = [] := by
  refine failsFrom_nil w l 0 (fun c hm => ?_)
  obtain ⟨i, hi, he⟩ := List.mem_iff_getElem.1 hm
  have h := hs i (by rw [List.length_map]; exact hi)
  rw [List.getD_eq_getElem?_getD, List.getElem?_map, List.getElem?_eq_getElem hi, he] at h
  have hck : checkB (n : Int) c = true := by
    unfold checksB at hc
    rw [Bool.and_eq_true, List.all_eq_true] at hc
    exact hc.2 c hm
  unfold checkB at hck
  rw [Bool.and_eq_true, decide_eq_true_eq] at hck
  have hb : ∀ x ∈ c, 0 ≤ x ∧ x < (n : Int) := fun x hx => by
    obtain ⟨j, hj, he2⟩ := List.mem_iff_getElem.1 hx
    have := asc_bd _ _ hck.2 j (by omega) (by omega)
    rw [rd_get c j hj, he2] at this
    omega
  have hnd : c.Nodup := (asc_pw hck.2).imp (fun h => by omega)
  have e := failSum_dot n w hw c 0 hnd hb
  have e2 : dotF (bsB (bsRow n c)) (bsB w) n = dotF (fun k => decide ((k : Int) ∈ c)) (bsB w) n := dotF_congr n (fun k hk => by
    unfold bsRow
    rw [bsRow_B n c _ (by simp) (fun x hx => (hb x hx).1) k hk]
    have : bsB (List.replicate n 0) k = false := (bsB_false (fun x hx => Or.inl (List.eq_of_mem_replicate hx))).2 (by rw [rd_nat, List.getD_eq_getElem?_getD, List.getElem?_replicate]; split <;> rfl)
    rw [this]; simp) (fun _ _ => rfl)
  have h' : dotF (bsB (bsRow n c)) (bsB w) n = false := h
  rw [← e2, h'] at e
  simp at e
  omega
theorem bsSat_xor {n : Nat} {l : List (List Int)} {x y : Nat → Bool} (hx : bsSat n l x) (hy : bsSat n l y) : bsSat n l (fun k => x k ^^ y k) := fun m hm => by rw [dotF_xr, hx m hm, hy m hm]; rfl
theorem bsSat_zero (n : Nat) (l : List (List Int)) : bsSat n l (bsB (List.replicate n 0)) := fun m hm => dotF_zr _ n (fun k _ => (bsB_false (fun x hx => Or.inl (List.eq_of_mem_replicate hx))).2 (by rw [rd_nat, List.getD_eq_getElem?_getD, List.getElem?_replicate]; split <;> rfl))
theorem ascending_l0 (n : Int) (hn : 1 ≤ n ∧ n ≤ 128) (c : List Int) (hl : c.length ≤ 16) : ∀ (d i : Nat), i + d = c.length → Ev (fun k => impl_ascending.l0 k c n c (c.length : Int) (i : Int)) (ascB n c d i) := by
  intro d
  induction d with
  | zero =>
    intro i hi
    refine Ev.succ ?_
    simp only [impl_ascending.l0]
    exact Ev.neg (by omega) (Ev.some_ rfl)
  | succ d ih =>
    intro i hi
    refine Ev.succ ?_
    simp only [impl_ascending.l0]
    refine Ev.pos (by omega) (Ev.pos (by omega) (Ev.pos (by omega) ?_))
    rw [w64_add (by omega) (by omega)]
    simp only [ascB]
    by_cases h1 : rd c i < 0
    · rw [if_neg (by omega)]; exact Ev.pos h1 (Ev.some_ rfl)
    refine Ev.neg h1 ?_
    by_cases h2 : rd c i ≥ n
    · rw [if_neg (by omega)]; exact Ev.pos h2 (Ev.some_ rfl)
    refine Ev.neg h2 ?_
    by_cases h3 : (i : Int) > 0
    · rw [w64 (by omega) (by omega)]
      refine Ev.pos h3 (Ev.pos (by omega) (Ev.pos (by omega) ?_))
      by_cases h4 : rd c i ≤ rd c ((i : Int) - 1)
      · rw [if_neg (by omega)]; exact Ev.pos h4 (Ev.some_ rfl)
      · rw [if_pos (by omega)]; exact Ev.neg h4 (ih (i + 1) (by omega))
    · rw [if_pos (by omega)]; exact Ev.neg h3 (ih (i + 1) (by omega))
theorem iChecksOk_l0 (n : Int) (hn : 1 ≤ n ∧ n ≤ 128) (l : List (List Int)) (hl : l.length ≤ 64) : ∀ (d i : Nat), i + d = l.length → Ev (fun k => impl_ChecksOk.l0 k n l (l.length : Int) (i : Int)) ((l.drop i).all (checkB n)) := by
  intro d
  induction d with
  | zero =>
    intro i hi
    refine Ev.succ ?_
    simp only [impl_ChecksOk.l0]
    exact Ev.neg (by omega) (Ev.some_ (by rw [List.drop_of_length_le (by omega)]; rfl))
  | succ d ih =>
    intro i hi
    have hi1 : i < l.length := by omega
    refine Ev.succ ?_
    simp only [impl_ChecksOk.l0]
    refine Ev.pos (by omega) (Ev.pos (by omega) (Ev.pos (by omega) ?_))
    rw [w64_add (by omega) (by omega), drop_rdL1 hi1, List.all_cons]
    by_cases h1 : ((rd_L1 l i).length : Int) < 2
    · exact Ev.pos h1 (Ev.some_ (by unfold checkB; rw [show decide (2 ≤ (rd_L1 l i).length ∧ (rd_L1 l i).length ≤ 16) = false by simp; omega]; rfl))
    refine Ev.neg h1 ?_
    by_cases h2 : ((rd_L1 l i).length : Int) > 16
    · exact Ev.pos h2 (Ev.some_ (by unfold checkB; rw [show decide (2 ≤ (rd_L1 l i).length ∧ (rd_L1 l i).length ≤ 16) = false by simp; omega]; rfl))
    refine Ev.neg h2 (Ev.next (ascending_l0 n hn (rd_L1 l i) (by omega) (rd_L1 l i).length 0 (by omega)) ?_)
    have e : checkB n (rd_L1 l i) = ascB n (rd_L1 l i) (rd_L1 l i).length 0 := by
      unfold checkB; rw [show decide (2 ≤ (rd_L1 l i).length ∧ (rd_L1 l i).length ≤ 16) = true by simp; omega]; rfl
    rw [e]
    cases hb : ascB n (rd_L1 l i) (rd_L1 l i).length 0
    · exact Ev.neg (by simp) (Ev.some_ rfl)
    · exact Ev.pos rfl (ih (i + 1) (by omega))
theorem iChecksOk_ev (l : List (List Int)) (n : Int) : Ev (fun k => impl_ChecksOk.f k l n) (checksB l n) := by
  have bad : Ev (fun k => impl_ChecksOk.j0 k l n true) false := by
    refine Ev.succ ?_
    simp only [impl_ChecksOk.j0]
    exact Ev.pos trivial (Ev.some_ rfl)
  unfold impl_ChecksOk.f checksB
  by_cases h1 : n < 1
  · exact Ev.pos h1 (bad.to (by rw [show decide ((1 ≤ n ∧ n ≤ 128) ∧ l.length ≤ 64) = false by simp; omega]; rfl))
  refine Ev.neg h1 ?_
  by_cases h2 : n > 128
  · exact Ev.pos h2 (bad.to (by rw [show decide ((1 ≤ n ∧ n ≤ 128) ∧ l.length ≤ 64) = false by simp; omega]; rfl))
  refine Ev.neg h2 ?_
  by_cases h3 : l.length ≤ 64
  · rw [show decide ((l.length : Int) > 64) = false by simp; omega, show decide ((1 ≤ n ∧ n ≤ 128) ∧ l.length ≤ 64) = true by simp; omega]
    refine Ev.succ ?_
    simp only [impl_ChecksOk.j0]
    exact Ev.neg (by simp) ((iChecksOk_l0 n (by omega) l h3 l.length 0 (by omega)).to (by simp))
  · rw [show decide ((l.length : Int) > 64) = true by simp; omega]
    exact bad.to (by rw [show decide ((1 ≤ n ∧ n ≤ 128) ∧ l.length ≤ 64) = false by simp; omega]; rfl)
theorem sIndex_l0 (l : List Int) (x : Int) (hl : l.length ≤ 1048576) : ∀ (d i : Nat), i + d = l.length → EvP (fun k => slices_Index_int_int.l0 k l x (l.length : Int) (i : Int)) (fun r => decide (r ≥ 0) = (l.drop i).contains x) := by
  intro d
  induction d with
  | zero =>
    intro i hi
    refine EvP.succ ?_
    simp only [slices_Index_int_int.l0]
    refine EvP.of (Ev.neg (by omega) (Ev.some_ rfl)) ?_
    rw [List.drop_of_length_le (by omega)]; rfl
  | succ d ih =>
    intro i hi
    refine EvP.succ ?_
    simp only [slices_Index_int_int.l0]
    obtain ⟨r, hr, hp⟩ := ih (i + 1) (by omega)
    have e := drop_rd (xs := l) (i := i) (by omega)
    by_cases h : x = rd l (i : Int)
    · refine EvP.of (Ev.pos (by omega) (Ev.pos (by omega) (Ev.pos (by omega) (Ev.pos h (Ev.some_ rfl))))) ?_
      rw [e, ← h]; simp
    · refine EvP.of (Ev.pos (by omega) (Ev.pos (by omega) (Ev.pos (by omega) (Ev.neg h (by rw [w64_add (by omega) (by omega)]; exact hr))))) ?_
      rw [e, hp, List.contains_cons]
      simp [h]
theorem sContains_ev (l : List Int) (x : Int) (hl : l.length ≤ 1048576) : Ev (fun k => slices_Contains_int_int.f k l x) (l.contains x) := by
  obtain ⟨r, hr, hp⟩ := sIndex_l0 l x hl l.length 0 (by omega)
  unfold slices_Contains_int_int.f slices_Index_int_int.f
  exact Ev.next hr (Ev.some_ (by rw [hp]; rfl))
theorem ibFind_eq (rows : List (List Int)) (col : Int) : ∀ (d p : Nat), ibFind rows col d p = bsFind rows col d p
  | 0, _ => rfl
  | d + 1, p => by unfold ibFind bsFind; rw [ibFind_eq rows col d (p + 1)]
theorem ibXor_eq (b : List Int) : ∀ (d k : Nat) (a : List Int), ibXor b d k a = bsXor b d k a
  | 0, _, _ => rfl
  | d + 1, k, a => by unfold ibXor bsXor; rw [ibXor_eq b d (k + 1)]
theorem ibSwap_eq (rows : List (List Int)) (p q : Nat) : ibSwap rows p q = bsSwap rows q p := by
  unfold ibSwap bsSwap
  by_cases h : p = q
  · subst h; rfl
  · exact List.set_comm _ _ h
theorem ibClear_eq (n : Nat) (col : Int) (at_ : Nat) : ∀ (d i : Nat) (rows : List (List Int)), all01 rows → ibClear n col at_ d i rows = bsClear n col at_ d i rows
  | 0, _, _, _ => rfl
  | d + 1, i, rows, h => by
    unfold ibClear bsClear
    rw [ibXor_eq]
    have hb := bs01_rd (bs01_getD h i) col
    by_cases hc : i ≠ at_ ∧ rd (rows.getD i []) col = 1
    · rw [if_pos hc, if_pos ⟨hc.1, by omega⟩]
      exact ibClear_eq n col at_ d (i + 1) _ (all01_set h i (bsXor01 (bs01_getD h at_) n 0 _ (bs01_getD h i)))
    · rw [if_neg hc, if_neg (fun h2 => hc ⟨h2.1, by have := h2.2; omega⟩)]
      exact ibClear_eq n col at_ d (i + 1) rows h
theorem ibElim_eq (n : Nat) : ∀ (d col : Nat) (rows : List (List Int)) (lead : List Int), all01 rows → lead.length ≤ rows.length → ibElim n d col rows lead = bsElim n d col rows lead
  | 0, _, _, _, _, _ => rfl
  | d + 1, col, rows, lead, h1, h2 => by
    unfold ibElim bsElim
    rw [ibFind_eq, ibSwap_eq, ibClear_eq n col lead.length rows.length 0 _ (bsSwap01 h1 _ _)]
    have hf := bsFind_le rows col (rows.length - lead.length) lead.length
    by_cases h : bsFind rows col (rows.length - lead.length) lead.length = rows.length
    · rw [if_pos h, if_pos (by omega)]
      exact ibElim_eq n d (col + 1) rows lead h1 h2
    · rw [if_neg h, if_neg (by omega)]
      have hc := bsClear01 n col lead.length rows.length 0 _ (bsSwap01 h1 (bsFind rows col (rows.length - lead.length) lead.length) lead.length)
      rw [bsSwap_len] at hc
      exact ibElim_eq n d (col + 1) _ _ hc.1 (by rw [hc.2, List.length_append, List.length_singleton]; omega)
theorem rd_set_ne (w : List Int) {a b : Int} (h0 : 0 ≤ a) (h1 : 0 ≤ b) (h : a ≠ b) (v : Int) : rd (w.set a.toNat v) b = rd w b := by
  unfold rd
  rw [List.getD_eq_getElem?_getD, List.getD_eq_getElem?_getD, List.getElem?_set_ne (by omega)]
theorem ibWord_eq (rows : List (List Int)) (hr : all01 rows) (lead : List Int) (hp : lead.Pairwise (· < ·)) (h0 : ∀ x ∈ lead, 0 ≤ x) (col : Int) : ∀ (d i : Nat) (w : List Int), i + d = lead.length → (∀ j : Nat, i ≤ j → j < lead.length → rd w (rd lead (j : Int)) = 0) → ibWord rows lead col d i w = bsWord rows lead col d i w
  | 0, _, _, _, _ => rfl
  | d + 1, i, w, hd, hw => by
    unfold ibWord bsWord
    rw [hw i (Nat.le_refl _) (by omega), xor0 (bs01_rd (bs01_getD hr i) col)]
    refine ibWord_eq rows hr lead hp h0 col d (i + 1) _ (by omega) (fun j hj hl => ?_)
    have hi : i < lead.length := by omega
    have hlt : rd lead (i : Int) < rd lead (j : Int) := by
      rw [rd_get lead i hi, rd_get lead j hl]
      exact List.pairwise_iff_getElem.1 hp i j hi hl (by omega)
    rw [rd_set_ne w (h0 _ (rd_mem hi)) (h0 _ (rd_mem hl)) (by omega)]
    exact hw j (by omega) hl
theorem ibOut_ev (n : Nat) (rows : List (List Int)) (hr : all01 rows) (lead : List Int) (hl : lead.length ≤ 1048576) (hp : lead.Pairwise (· < ·)) (h0 : ∀ x ∈ lead, 0 ≤ x) : ∀ (d col : Nat), Ev (fun k => ibOut k n rows lead d col) (bsOut n rows lead d col)
  | 0, _ => Ev.some_ rfl
  | d + 1, col => by
    simp only [ibOut]
    refine Ev.next (sContains_ev lead (col : Int) hl) (Ev.next (ibOut_ev n rows hr lead hl hp h0 d (col + 1)) (Ev.some_ ?_))
    rw [show bsOut n rows lead (d + 1) col = (if (lead.all fun x => x != (col : Int)) = true then [bsWord rows lead col lead.length 0 ((List.replicate n 0).set col 1)] else []) ++ bsOut n rows lead d (col + 1) from rfl]
    cases hc : lead.contains (col : Int)
    · have hm : (col : Int) ∉ lead := fun h => by rw [List.contains_iff_mem.2 h] at hc; cases hc
      have ha : (lead.all fun x => x != (col : Int)) = true := List.all_eq_true.2 (fun x hx => by simp; intro h; exact hm (h ▸ hx))
      rw [if_neg (by simp), if_pos ha, ibWord_eq rows hr lead hp h0 col lead.length 0 _ (by omega) (fun j _ hj => ?_)]
      · rfl
      · have h1 : rd lead (j : Int) ∈ lead := rd_mem hj
        have h2 := h0 _ h1
        have e := rd_set_ne (List.replicate n 0) (a := (col : Int)) (b := rd lead (j : Int)) (by omega) h2 (fun h => hm (h ▸ h1)) 1
        rw [show ((col : Int)).toNat = col from rfl] at e
        rw [e]
        generalize rd lead (j : Int) = z
        unfold rd
        rw [List.getD_eq_getElem?_getD, List.getElem?_replicate]
        split <;> rfl
    · have hm := List.contains_iff_mem.1 hc
      have ha : ¬ (lead.all fun x => x != (col : Int)) = true := fun h => by have := List.all_eq_true.1 h _ hm; simp at this
      rw [if_pos rfl, if_neg ha]; rfl
theorem iBasis_ev (l : List (List Int)) (n : Int) : Ev (fun k => impl_Basis.f k l n) (if checksB l n = true then (bsBasis l n.toNat, true) else ([], false)) := by
  unfold impl_Basis.f
  refine Ev.next (iChecksOk_ev l n) ?_
  cases hc : checksB l n
  · exact Ev.neg (by simp) (Ev.some_ (by simp))
  · refine Ev.pos rfl (Ev.pos (bsIn_of hc) ?_)
    unfold ibBasis bsBasis
    have h1 := bsRows01 l n.toNat
    have h2 := bsElim_inv n.toNat n.toNat 0 _ [] h1 (by simp) List.Pairwise.nil (by simp)
    have hl := (checksIn hc).len
    have e : ibRow n.toNat = bsRow n.toNat := rfl
    rw [e, ibElim_eq n.toNat n.toNat 0 _ [] h1 (by simp)]
    rw [List.length_map] at h2
    exact Ev.next (ibOut_ev n.toNat _ h2.1 _ (by omega) h2.2.2.2.1 (fun x hx => (h2.2.2.2.2 x hx).1) n.toNat 0) (Ev.some_ (by simp))
theorem ifails_l (l : List (List Int)) (w : List Int) (hc : ChecksIn l w.length) (hw : ∀ x ∈ w, x = 0 ∨ x = 1) : ∀ (d i : Nat) (acc : List Int), i + d = l.length → acc.length ≤ i → Ev (fun k => impl_fails.l0 k w acc l (l.length : Int) (i : Int)) (acc ++ failsFrom w (l.drop i) i) := by
  intro d
  induction d with
  | zero =>
    intro i acc hi ha
    refine Ev.succ ?_
    simp only [impl_fails.l0]
    exact Ev.neg (by omega) (Ev.some_ (by rw [List.drop_of_length_le (by omega)]; simp [failsFrom]))
  | succ d ih =>
    intro i acc hi ha
    have hi1 : i < l.length := by omega
    have hlen := hc.len
    have hrow := hc.row i hi1
    refine Ev.succ ?_
    simp only [impl_fails.l0]
    refine Ev.pos (by omega) (Ev.pos (by omega) (Ev.pos (by omega) ?_))
    rw [failsFrom_step hi1]
    have inner : ∀ (d' j : Nat) (s e : Int), j + d' = (rd_L1 l i).length → e = s % 2 → Ev (fun k => impl_fails.l1 k w acc (i : Int) e l (l.length : Int) (i : Int) (rd_L1 l i) ((rd_L1 l i).length : Int) (j : Int)) (acc ++ (if failSum w ((rd_L1 l i).drop j) s % 2 = 1 then (i : Int) :: failsFrom w (l.drop (i + 1)) ((i + 1 : Nat) : Int) else failsFrom w (l.drop (i + 1)) ((i + 1 : Nat) : Int))) := by
      intro d'
      induction d' with
      | zero =>
        intro j s e hj he
        subst he
        refine Ev.succ ?_
        simp only [impl_fails.l1]
        refine Ev.neg (by omega) ?_
        rw [failSum_nil (by omega), w64_add (by omega) (by omega)]
        by_cases hs : s % 2 = 1
        · rw [if_pos hs]
          exact Ev.pos hs (Ev.pos (by omega) ((ih (i + 1) (acc ++ [(i : Int)]) (by omega) (by rw [List.length_append]; simp only [List.length_singleton]; omega)).to (by simp)))
        · rw [if_neg hs]
          exact Ev.neg hs (ih (i + 1) acc (by omega) (by omega))
      | succ d' ih' =>
        intro j s e hj he
        subst he
        have hb := hc.bd i hi1 j (by omega)
        have hv := bitAt hw hb.1 (by omega)
        refine Ev.succ ?_
        simp only [impl_fails.l1]
        refine Ev.pos (by omega) (Ev.pos (by omega) (Ev.pos (by omega) (Ev.pos hb.1 (Ev.pos (by omega) ?_))))
        rw [w64_add (i := (j : Int)) (by omega) (by omega), xor_mod2 s _ hv, failSum_step (by omega)]
        exact ih' (j + 1) _ _ (by omega) rfl
    exact inner (rd_L1 l i).length 0 0 0 (by omega) (by omega)
theorem ifails_ev (l : List (List Int)) (w : List Int) (hc : ChecksIn l w.length) (hw : ∀ x ∈ w, x = 0 ∨ x = 1) : Ev (fun k => impl_fails.f k l w) (failsFrom w l 0) :=
  (ifails_l l w hc hw l.length 0 [] (by omega) (by simp)).to (by simp)
theorem isBit_eq (a : Int) : impl_isBit.f a = some (decide (a = 0 ∨ a = 1)) := by
  unfold impl_isBit.f
  by_cases h : a = 0
  · simp [h]
  · rw [if_neg h]; simp [h]; by_cases h1 : a = 1 <;> simp [h1]
theorem iBitsOk_l0 (l : List Int) (hl : l.length ≤ 1048576) : ∀ (d i : Nat), i + d = l.length → Ev (fun k => impl_BitsOk.l0 k l l (l.length : Int) (i : Int)) ((l.drop i).all bitOk && decide (l.length ≤ 1024)) := by
  intro d
  induction d with
  | zero =>
    intro i hi
    refine Ev.succ ?_
    simp only [impl_BitsOk.l0]
    rw [List.drop_of_length_le (by omega)]
    exact Ev.neg (by omega) (Ev.some_ (by simp; omega))
  | succ d ih =>
    intro i hi
    refine Ev.succ ?_
    simp only [impl_BitsOk.l0, isBit_eq, Option.bind_some]
    refine Ev.pos (by omega) (Ev.pos (by omega) (Ev.pos (by omega) ?_))
    rw [drop_rd (xs := l) (i := i) (by omega), w64_add (by omega) (by omega)]
    by_cases h1 : rd l i = 0 ∨ rd l i = 1
    · exact Ev.pos (by simp [h1]) ((ih (i + 1) (by omega)).to (by simp [bitOk, h1]))
    · exact Ev.neg (by simp [h1]) (Ev.some_ (by simp [bitOk, h1]))
theorem iBitsOk_ev (l : List Int) (hl : l.length ≤ 1048576) : Ev (fun k => impl_BitsOk.f k l) (bitsB l) :=
  (iBitsOk_l0 l hl l.length 0 (by omega)).to (by simp [bitsB])
theorem iFails_ev (l : List (List Int)) (w : List Int) (hw : w.length ≤ 1048576) : Ev (fun k => impl_Fails.f k l w) (failsV l w) := by
  unfold impl_Fails.f failsV
  refine Ev.next (iBitsOk_ev w hw) ?_
  cases hb : bitsB w
  · exact Ev.neg (by simp) (Ev.some_ (by simp))
  · refine Ev.pos rfl (Ev.next (iChecksOk_ev l w.length) ?_)
    cases hc : checksB l (w.length : Int)
    · exact Ev.neg (by simp) (Ev.some_ (by simp))
    · exact Ev.pos rfl (Ev.next (ifails_ev l w (checksIn hc) (bitsB_iff.1 hb).1) (Ev.some_ (by simp)))
theorem l1New_l0 (l : List Int) : ∀ (d i : Nat) (h : Int), i + d = l.length → (i : Int) ≤ 4000 → EvP (fun k => spec_l1New.l0 k l h (i : Int)) (fun r => r.1 = l ∧ r.2.1 = 0) := by
  intro d
  induction d with
  | zero =>
    intro i h hi _
    refine EvP.succ ?_
    simp only [spec_l1New.l0]
    exact EvP.neg (by omega) (EvP.now ⟨rfl, rfl⟩)
  | succ d ih =>
    intro i h hi hi2
    refine EvP.succ ?_
    simp only [spec_l1New.l0]
    refine EvP.pos (by omega) ?_
    by_cases h4 : (i : Int) < 4000
    · rw [w64_add (by omega) (by omega)]
      exact EvP.pos h4 (EvP.pos (by omega) (ih (i + 1) _ (by omega) (by omega)))
    · exact EvP.neg h4 (EvP.now ⟨rfl, rfl⟩)
theorem l1New_ev (l : List Int) : EvP (fun k => spec_l1New.f k l) (fun r => r.1 = l ∧ r.2.1 = 0) := l1New_l0 l l.length 0 _ (by omega) (by omega)
theorem l1Byte_ok (l : List Int) (p h : Int) (h0 : 0 ≤ p) (h1 : p ≤ l.length) (hl : l.length ≤ 1048576) : ∃ r, spec_l1Byte.f l p h = some r ∧ (0 ≤ r.1 ∧ r.1 ≤ 255) ∧ 0 ≤ r.2.1 ∧ r.2.1 ≤ l.length := by
  unfold spec_l1Byte.f
  by_cases hp : p < (l.length : Int)
  · rw [if_pos hp, if_pos h0]
    refine ⟨_, rfl, bits_and_le _ 255 (by omega) (by omega), ?_⟩
    simp only
    rw [w64_add h0 (by omega)]
    omega
  · rw [if_neg hp]
    exact ⟨_, rfl, bits_and_le _ 255 (by omega) (by omega), h0, h1⟩
theorem l1Below_ok (l : List Int) (p h n : Int) (h0 : 0 ≤ p) (h1 : p ≤ l.length) (hl : l.length ≤ 1048576) : ∃ r, spec_l1Below.f l p h n = some r ∧ (0 ≤ r.1 ∧ (r.1 < n ∨ r.1 = 0)) ∧ 0 ≤ r.2.1 ∧ r.2.1 ≤ l.length := by
  unfold spec_l1Below.f
  by_cases hn : n ≤ 0
  · rw [if_pos hn]; exact ⟨_, rfl, ⟨by simp, .inr rfl⟩, h0, h1⟩
  rw [if_neg hn]
  have tm : ∀ x : Int, 0 ≤ x → 0 ≤ Int.tmod x n ∧ Int.tmod x n < n := fun x hx => by
    rw [Int.tmod_eq_emod_of_nonneg hx]
    exact ⟨Int.emod_nonneg _ (by omega), Int.emod_lt_of_pos _ (by omega)⟩
  by_cases h2 : n ≤ 256
  · rw [if_pos h2]
    obtain ⟨r, e, hb, hp⟩ := l1Byte_ok l p h h0 h1 hl
    rw [e]
    simp only [Option.bind_some]
    rw [if_neg (by omega)]
    exact ⟨_, rfl, ⟨(tm _ hb.1).1, .inl (tm _ hb.1).2⟩, hp⟩
  · rw [if_neg h2]
    obtain ⟨r, e, hb, hp⟩ := l1Byte_ok l p h h0 h1 hl
    obtain ⟨r2, e2, hb2, hp2⟩ := l1Byte_ok l r.2.1 r.2.2 hp.1 hp.2 hl
    obtain ⟨r3, e3, hb3, hp3⟩ := l1Byte_ok l r2.2.1 r2.2.2 hp2.1 hp2.2 hl
    obtain ⟨r4, e4, hb4, hp4⟩ := l1Byte_ok l r3.2.1 r3.2.2 hp3.1 hp3.2 hl
    rw [e]; simp only [Option.bind_some]
    rw [e2]; simp only [Option.bind_some]
    rw [e3]; simp only [Option.bind_some]
    rw [e4]; simp only [Option.bind_some]
    rw [if_neg (by omega), w64 (n := r.1 * 16777216) (by omega) (by omega), w64 (n := r2.1 * 65536) (by omega) (by omega), w64 (n := r3.1 * 256) (by omega) (by omega), w64 (n := r.1 * 16777216 + _) (by omega) (by omega), w64 (n := r.1 * 16777216 + _ + _) (by omega) (by omega), w64 (n := r.1 * 16777216 + _ + _ + _) (by omega) (by omega)]
    exact ⟨_, rfl, ⟨(tm _ (by omega)).1, .inl (tm _ (by omega)).2⟩, hp4⟩
theorem l1PickInt_ok (l : List Int) (p h : Int) (xs : List Int) (h0 : 0 ≤ p) (h1 : p ≤ l.length) (hl : l.length ≤ 1048576) (hx : 0 < xs.length) : ∃ r, spec_l1PickInt.f l p h xs = some r ∧ r.1 ∈ xs ∧ 0 ≤ r.2.1 ∧ r.2.1 ≤ l.length := by
  unfold spec_l1PickInt.f
  obtain ⟨r, e, hb, hp⟩ := l1Below_ok l p h xs.length h0 h1 hl
  rw [e]
  simp only [Option.bind_some]
  rw [if_pos hb.1, if_pos (by omega)]
  refine ⟨_, rfl, ?_, hp⟩
  have : r.1 = ((r.1.toNat : Nat) : Int) := by omega
  simp only
  rw [this]
  exact rd_mem (by omega)
theorem l16Draw_l (l : List Int) (hl : l.length ≤ 1048576) (n : Int) (hn : 3 ≤ n ∧ n ≤ 16) : ∀ (d : Nat) (xs : List (List Int)) (p h : Int), xs.length + d ≤ 1000 → 0 ≤ p → p ≤ l.length → EvP (fun k => spec_l16Draw.l0 k n xs (d : Int) l p h) (fun r => (0 ≤ r.2.1 ∧ r.2.1 ≤ 129) ∧ 0 ≤ r.2.2.1 ∧ r.2.2.1 ≤ l.length) := by
  intro d
  induction d with
  | zero =>
    intro xs p h hx h0 h1
    obtain ⟨r, e, hb, hp⟩ := l1Below_ok l p h 30 h0 h1 hl
    obtain ⟨r2, e2, hb2, hp2⟩ := l1Below_ok l r.2.1 r.2.2 3 hp.1 hp.2 hl
    obtain ⟨r3, e3, hb3, hp3⟩ := l1Below_ok l r.2.1 r.2.2 2 hp.1 hp.2 hl
    obtain ⟨r4, e4, hb4, hp4⟩ := l1PickInt_ok l r.2.1 r.2.2 [0, 128, 129] hp.1 hp.2 hl (by decide)
    refine EvP.succ ?_
    simp only [spec_l16Draw.l0]
    refine EvP.neg (by omega) (EvP.next (Ev.p (Ev.here e)) ?_)
    rintro r rfl
    refine EvP.both (fun _ => ?_) (fun _ => EvP.both (fun _ => ?_) (fun _ => EvP.both (fun _ => ?_) (fun _ => EvP.both (fun _ => ?_) (fun _ => ?_))))
    · refine EvP.next (Ev.p (Ev.here e2)) ?_
      rintro r2 rfl
      exact EvP.pos (by omega) (EvP.now ⟨by simp only; omega, hp2⟩)
    · exact EvP.pos (by omega) (EvP.now ⟨by simp only; omega, hp⟩)
    · refine EvP.next (Ev.p (Ev.here e3)) ?_
      rintro r3 rfl
      exact EvP.pos (by omega) (EvP.now ⟨by simp only; omega, hp3⟩)
    · refine EvP.next (Ev.p (Ev.here e4)) ?_
      rintro r4 rfl
      refine EvP.now ⟨?_, hp4⟩
      have := hb4
      simp only [List.mem_cons, List.not_mem_nil, or_false] at this
      simp only
      omega
    · exact EvP.now ⟨by simp only; omega, hp⟩
  | succ d ih =>
    intro xs p h hx h0 h1
    refine EvP.succ ?_
    simp only [spec_l16Draw.l0]
    refine EvP.pos (by omega) ?_
    have inner : ∀ (d' j : Nat) (row : List Int) (p h : Int), (j : Int) + d' = n → row.length ≤ j → 0 ≤ p → p ≤ l.length → EvP (fun k => spec_l16Draw.l1 k n xs ((d + 1 : Nat) : Int) row (j : Int) l p h) (fun r => (0 ≤ r.2.1 ∧ r.2.1 ≤ 129) ∧ 0 ≤ r.2.2.1 ∧ r.2.2.1 ≤ l.length) := by
      intro d'
      induction d' with
      | zero =>
        intro j row p h hj hr h0 h1
        refine EvP.succ ?_
        simp only [spec_l16Draw.l1]
        refine EvP.neg (by omega) ?_
        rw [show wrap64 (((d + 1 : Nat) : Int) - 1) = (d : Int) by rw [w64 (by omega) (by omega)]; omega]
        have go := ih xs p h (by omega) h0 h1
        exact EvP.both (fun _ => EvP.both (fun _ => EvP.pos (by omega) (ih _ p h (by simp; omega) h0 h1)) (fun _ => go)) (fun _ => go)
      | succ d' ih' =>
        intro j row p h hj hr h0 h1
        obtain ⟨r, e, hb, hp⟩ := l1Below_ok l p h n h0 h1 hl
        refine EvP.succ ?_
        simp only [spec_l16Draw.l1]
        refine EvP.pos (by omega) (EvP.next (Ev.p (Ev.here e)) ?_)
        rintro r rfl
        rw [w64_add (by omega) (by omega)]
        exact EvP.both (fun _ => EvP.pos (by omega) (ih' (j + 1) _ _ _ (by omega) (by simp; omega) hp.1 hp.2)) (fun _ => ih' (j + 1) _ _ _ (by omega) (by omega) hp.1 hp.2)
    obtain ⟨N, hN⟩ : ∃ N : Nat, n = (N : Int) := ⟨n.toNat, by omega⟩
    exact inner N 0 [] p h (by omega) (by simp) h0 h1
theorem l16Draw_ev (l : List Int) (hl : l.length ≤ 1048576) (p h : Int) (h0 : 0 ≤ p) (h1 : p ≤ l.length) : EvP (fun k => spec_l16Draw.f k l p h) (fun r => (0 ≤ r.2.1 ∧ r.2.1 ≤ 129) ∧ 0 ≤ r.2.2.1 ∧ r.2.2.1 ≤ l.length) := by
  obtain ⟨r, e, hb, hp⟩ := l1Below_ok l p h 14 h0 h1 hl
  unfold spec_l16Draw.f
  refine EvP.next (Ev.p (Ev.here e)) ?_
  rintro r rfl
  rw [w64 (n := 3 + r.1) (by omega) (by omega)]
  obtain ⟨r2, e2, hb2, hp2⟩ := l1Below_ok l r.2.1 r.2.2 (3 + r.1) hp.1 hp.2 hl
  refine EvP.next (Ev.p (Ev.here e2)) ?_
  rintro r2 rfl
  obtain ⟨N, hN⟩ : ∃ N : Nat, r2.1 = (N : Int) := ⟨r2.1.toNat, by omega⟩
  rw [hN]
  exact l16Draw_l l hl _ (by omega) N [] _ _ (by simp; omega) hp2.1 hp2.2
theorem sameInts_l0 (a b : List Int) (h : a.length = b.length) (hl : a.length ≤ 35184372088832) : ∀ (d i : Nat), i + d = a.length → Ev (fun k => laws_sameInts.l0 k a b (i : Int)) (decide (a.drop i = b.drop i)) := by
  intro d
  induction d with
  | zero =>
    intro i hi
    refine Ev.round (f := fun _ => some true) (Ev.some_ ?_) (fun k => by simp only [laws_sameInts.l0]; rw [if_neg (by omega)])
    rw [List.drop_of_length_le (by omega), List.drop_of_length_le (by omega)]; simp
  | succ d ih =>
    intro i hi
    by_cases he : rd a i = rd b i
    · refine (Ev.round (ih (i + 1) (by omega)) (fun k => ?_)).to ?_
      · simp only [laws_sameInts.l0]
        rw [if_pos (by omega), if_pos (by omega), if_pos (by omega), if_pos he, w64_add (by omega) (by omega)]; simp
      · rw [drop_rd (xs := a) (i := i) (by omega), drop_rd (xs := b) (i := i) (by omega), he]; simp
    · refine (Ev.round (f := fun _ => some false) (Ev.some_ rfl) (fun k => ?_)).to ?_
      · simp only [laws_sameInts.l0]
        rw [if_pos (by omega), if_pos (by omega), if_pos (by omega), if_neg he]
      · rw [drop_rd (xs := a) (i := i) (by omega), drop_rd (xs := b) (i := i) (by omega)]; simp [he]
theorem sameInts_ev (a b : List Int) (hl : a.length ≤ 35184372088832) : Ev (fun k => laws_sameInts.f k a b) (decide (a = b)) := by
  unfold laws_sameInts.f
  by_cases h : a.length = b.length
  · exact Ev.pos (by omega) (sameInts_l0 a b h hl a.length 0 (by omega))
  · exact (Ev.neg (by omega) (Ev.some_ rfl)).to (by simp; intro e; exact h (by rw [e]))
theorem sameRows_l0 (a b : List (List Int)) (h : a.length = b.length) (hl : a.length ≤ 35184372088832) (hx : ∀ x ∈ a, x.length ≤ 35184372088832) : ∀ (d i : Nat), i + d = a.length → Ev (fun k => laws_sameRows.l0 k a b (i : Int)) (decide (a.drop i = b.drop i)) := by
  intro d
  induction d with
  | zero =>
    intro i hi
    refine Ev.succ ?_
    simp only [laws_sameRows.l0]
    refine Ev.neg (by omega) (Ev.some_ ?_)
    rw [List.drop_of_length_le (by omega), List.drop_of_length_le (by omega)]; simp
  | succ d ih =>
    intro i hi
    refine Ev.succ ?_
    simp only [laws_sameRows.l0]
    refine Ev.pos (by omega) (Ev.pos (by omega) (Ev.pos (by omega) (Ev.next (sameInts_ev (rd_L1 a (i : Int)) (rd_L1 b (i : Int)) (hx _ (rdL1_mem (by omega)))) ?_)))
    rw [w64_add (by omega) (by omega), drop_rdL1 (xs := a) (i := i) (by omega), drop_rdL1 (xs := b) (i := i) (by omega)]
    by_cases he : rd_L1 a (i : Int) = rd_L1 b (i : Int)
    · refine Ev.pos (by simp [he]) ((ih (i + 1) (by omega)).to ?_)
      rw [he]; simp
    · exact Ev.neg (by simp [he]) (Ev.some_ (by simp [he]))
theorem sameRows_ev (a b : List (List Int)) (hl : a.length ≤ 35184372088832) (hx : ∀ x ∈ a, x.length ≤ 35184372088832) : Ev (fun k => laws_sameRows.f k a b) (decide (a = b)) := by
  unfold laws_sameRows.f
  by_cases h : a.length = b.length
  · exact Ev.pos (by omega) (sameRows_l0 a b h hl hx a.length 0 (by omega))
  · exact (Ev.neg (by omega) (Ev.some_ rfl)).to (by simp; intro e; exact h (by rw [e]))
theorem lawsAt_ok (l : List Int) (hl : l.length ≤ 1048576) (hb : ∀ x ∈ l, 0 ≤ x ∧ x < 256) (i : Nat) (hi : i ≤ 1000) : ∃ v, laws_at.f l (i : Int) = some v ∧ 0 ≤ v ∧ v < 256 := by
  unfold laws_at.f
  by_cases h : (i : Int) < (l.length : Int)
  · have hm := hb _ (rd_mem (xs := l) (i := i) (by omega))
    rw [if_pos h, if_pos (by omega), w64 (n := rd l (i : Int)) (by omega) (by omega)]
    exact ⟨_, rfl, hm⟩
  · rw [if_neg h, w64 (n := (i : Int) * 7) (by omega) (by omega), w64 (n := (i : Int) * 7 + (l.length : Int)) (by omega) (by omega), Int.tmod_eq_emod_of_nonneg (by omega)]
    exact ⟨_, rfl, by omega, by omega⟩
theorem wf8 {x : Int} (h : (Lit.int .u8 x).wf = true) : 0 ≤ x ∧ x < 256 := by
  have h2 := h
  simp [Lit.wf, IntKind.min, IntKind.max, IntKind.signed, IntKind.bits] at h2
  omega
/-- Is a place one where the i-th word alone has a 1? -/
def fbMine (b : List (List Int)) (i k : Nat) : Nat → Nat → Bool → Bool
  | 0, _, m => m
  | d + 1, o, m => fbMine b i k d (o + 1) (if m = true then (if o = i then true else rd (b.getD o []) (k : Int) == 0) else false)
def fbAlone (b : List (List Int)) (i : Nat) : Nat → Nat → Bool → Bool
  | 0, _, al => al
  | d + 1, k, al => fbAlone b i d (k + 1) (if al = true then true else fbMine b i k b.length 0 (rd (b.getD i []) (k : Int) == 1))
theorem fbMine_true {b : List (List Int)} {i k : Nat} (h : ∀ o, o < b.length → o = i ∨ rd (b.getD o []) (k : Int) = 0) : ∀ (d o : Nat), o + d = b.length → fbMine b i k d o true = true
  | 0, _, _ => rfl
  | d + 1, o, hd => by
    unfold fbMine
    have e : (if true = true then (if o = i then true else rd (b.getD o []) (k : Int) == 0) else false) = true := by
      rw [if_pos rfl]
      by_cases ho : o = i
      · rw [if_pos ho]
      · rw [if_neg ho]
        rcases h o (by omega) with h1 | h1
        · exact absurd h1 ho
        · rw [h1]; rfl
    rw [e]
    exact fbMine_true h d (o + 1) (by omega)
theorem fbAlone_al (b : List (List Int)) (i : Nat) : ∀ (d k : Nat), fbAlone b i d k true = true
  | 0, _ => rfl
  | d + 1, k => by unfold fbAlone; rw [if_pos rfl]; exact fbAlone_al b i d (k + 1)
theorem fbAlone_true {b : List (List Int)} {i k0 : Nat} (h1 : rd (b.getD i []) (k0 : Int) = 1) (h : ∀ o, o < b.length → o = i ∨ rd (b.getD o []) (k0 : Int) = 0) : ∀ (d k : Nat) (al : Bool), k ≤ k0 → k0 < k + d → fbAlone b i d k al = true
  | 0, _, _, _, _ => by omega
  | d + 1, k, al, hk, hd => by
    unfold fbAlone
    by_cases e : k = k0
    · subst e
      have : (if al = true then true else fbMine b i k b.length 0 (rd (b.getD i []) (k : Int) == 1)) = true := by
        cases al
        · rw [if_neg (by simp), h1]; exact fbMine_true h b.length 0 (by omega)
        · rfl
      rw [this]
      exact fbAlone_al b i d (k + 1)
    · exact fbAlone_true h1 h d (k + 1) _ (by omega) (by omega)
section
variable {l0 : List Int} {C : List (List Int)} {N : Nat} {b : List (List Int)} (hb : b.length ≤ 1000) (hw : ∀ o, o < b.length → (b.getD o []).length = N) (hN : N ≤ 1024)
include hb hw hN
theorem fb_l3 (x11 : List Int) (i k : Nat) (hi : i < b.length) (hk : k < N) (al : Bool) {r : Bool} : ∀ (d o : Nat) (m : Bool), o + d = b.length → Ev (fun q => laws_FnBasis.l2 q l0 C (N : Int) b x11 (i : Int) (if al = true then true else fbMine b i k d o m) ((k + 1 : Nat) : Int)) r →
    Ev (fun q => laws_FnBasis.l3 q l0 C (N : Int) b x11 (i : Int) al (k : Int) m (o : Int)) r
  | 0, o, m, ho, H => by
    refine Ev.succ ?_
    simp only [laws_FnBasis.l3]
    rw [w64_add (i := (k : Int)) (by omega) (by omega)]
    refine Ev.neg (by omega) ?_
    cases al
    · exact Ev.neg (by simp) (by simpa [fbMine] using H)
    · exact Ev.pos rfl (by simpa [fbMine] using H)
  | d + 1, o, m, ho, H => by
    refine Ev.succ ?_
    simp only [laws_FnBasis.l3]
    rw [w64_add (i := (o : Int)) (by omega) (by omega)]
    refine Ev.pos (by omega) ?_
    cases m
    · refine Ev.neg (by simp) (fb_l3 x11 i k hi hk al d (o + 1) false (by omega) ?_)
      simpa [fbMine] using H
    · refine Ev.pos rfl ?_
      by_cases hoi : o = i
      · refine Ev.pos (by omega) (fb_l3 x11 i k hi hk al d (o + 1) true (by omega) ?_)
        simpa [fbMine, hoi] using H
      · have hl := hw o (by omega)
        refine Ev.neg (by omega) (Ev.pos (by omega) (Ev.pos (by omega) (Ev.pos ?_ ?_)))
        · show (k : Int) < ((b.getD o []).length : Int); omega
        · refine fb_l3 x11 i k hi hk al d (o + 1) _ (by omega) ?_
          have e : fbMine b i k (d + 1) o true = fbMine b i k d (o + 1) (rd (b.getD o []) (k : Int) == 0) := by
            conv => lhs; unfold fbMine
            rw [if_pos rfl, if_neg hoi]
          rw [e] at H
          exact H
theorem fb_l2 (x11 : List Int) (i : Nat) (hi : i < b.length) {r : Bool} : ∀ (d k : Nat) (al : Bool), k + d = N → fbAlone b i d k al = true → Ev (fun q => laws_FnBasis.l0 q l0 C (N : Int) b x11 ((i + 1 : Nat) : Int)) r →
    Ev (fun q => laws_FnBasis.l2 q l0 C (N : Int) b x11 (i : Int) al (k : Int)) r
  | 0, k, al, hk, ha, H => by
    refine Ev.succ ?_
    simp only [laws_FnBasis.l2]
    rw [w64_add (by omega) (by omega)]
    exact Ev.neg (by omega) (Ev.pos ha H)
  | d + 1, k, al, hk, ha, H => by
    have hl := hw i hi
    refine Ev.succ ?_
    simp only [laws_FnBasis.l2]
    refine Ev.pos (by omega) (Ev.pos (by omega) (Ev.pos (by omega) (Ev.pos (by omega) (Ev.pos ?_ ?_))))
    · show (k : Int) < ((b.getD i []).length : Int); omega
    · exact fb_l3 hb hw hN x11 i k hi (by omega) al b.length 0 _ (by omega) (fb_l2 x11 i hi d (k + 1) _ (by omega) ha H)
omit hb in
theorem fb_l1 (hl0 : l0.length ≤ 1048576) (i : Nat) (hi : i < b.length) (v : Int) (hv : laws_at.f l0 (i : Int) = some v) (he : Int.tmod v 2 = 0) {r : Bool} : ∀ (d j : Nat) (x11 : List Int), j + d = N → x11.length = N → Ev (fun q => laws_FnBasis.j3 q l0 C (N : Int) b (bsXor (b.getD i []) d j x11) (i : Int)) r →
    Ev (fun q => laws_FnBasis.l1 q l0 C (N : Int) b x11 (i : Int) (j : Int)) r
  | 0, j, x11, hj, hx, H => by
    refine Ev.succ ?_
    simp only [laws_FnBasis.l1]
    exact Ev.neg (by omega) H
  | d + 1, j, x11, hj, hx, H => by
    have hl := hw i hi
    refine Ev.succ ?_
    simp only [laws_FnBasis.l1]
    refine Ev.pos (by omega) (Ev.next (Ev.here hv) (Ev.pos he (Ev.pos (by omega) (Ev.pos (by omega) (Ev.pos (by omega) (Ev.pos (by omega) (Ev.pos ?_ ?_)))))))
    · show (j : Int) < ((b.getD i []).length : Int); omega
    · rw [w64_add (by omega) (by omega)]
      exact fb_l1 hl0 i hi v hv he d (j + 1) _ (by omega) (by rw [List.length_set]; exact hx) H
theorem fb_l0 (hl0 : l0.length ≤ 1048576) (hb8 : ∀ x ∈ l0, 0 ≤ x ∧ x < 256) (al : ∀ i, i < b.length → ∃ k, k < N ∧ rd (b.getD i []) (k : Int) = 1 ∧ ∀ o, o < b.length → o = i ∨ rd (b.getD o []) (k : Int) = 0)
    (G : List Int → Prop) (hG : ∀ i x, i < b.length → G x → G (bsXor (b.getD i []) N 0 x)) (hGl : ∀ x, G x → x.length = N) (fin : ∀ x, G x → Ev (fun q => impl_Fails.f q C x) ([], true)) : ∀ (d i : Nat) (x11 : List Int), i + d = b.length → G x11 → Ev (fun q => laws_FnBasis.l0 q l0 C (N : Int) b x11 (i : Int)) true
  | 0, i, x11, hi, hx => by
    refine Ev.succ ?_
    simp only [laws_FnBasis.l0]
    exact Ev.neg (by omega) (Ev.next (fin x11 hx) (Ev.pos rfl (Ev.some_ rfl)))
  | d + 1, i, x11, hi, hx => by
    have hl := hw i (by omega)
    obtain ⟨v, hv, _, _⟩ := lawsAt_ok l0 hl0 hb8 i (by omega)
    obtain ⟨k0, hk0, h1, h2⟩ := al i (by omega)
    have nx : ∀ x, G x → Ev (fun q => laws_FnBasis.j3 q l0 C (N : Int) b x (i : Int)) true := fun x hG2 => by
      refine Ev.succ ?_
      simp only [laws_FnBasis.j3]
      exact fb_l2 hb hw hN x i (by omega) N 0 false (by omega) (fbAlone_true h1 h2 N 0 false (by omega) (by omega)) (fb_l0 hl0 hb8 al G hG hGl fin d (i + 1) x (by omega) hG2)
    refine Ev.succ ?_
    simp only [laws_FnBasis.l0]
    refine Ev.pos (by omega) (Ev.pos (by omega) (Ev.pos ?_ ?_))
    · show ((b.getD i []).length : Int) = (N : Int); omega
    by_cases he : Int.tmod v 2 = 0
    · exact fb_l1 hw hN hl0 i (by omega) v hv he N 0 x11 (by omega) (hGl x11 hx) (nx _ (hG i x11 (by omega) hx))
    · refine Ev.succ ?_
      simp only [laws_FnBasis.l1]
      exact Ev.both (fun _ => Ev.next (Ev.here hv) (Ev.neg he (nx x11 hx))) (fun _ => nx x11 hx)
end
theorem FnBasis (l0 : List Int) (m0 : l0.length ≤ maxLen) (w0 : ∀ x ∈ l0, (Lit.int .u8 x).wf = true) : ∃ k, laws_FnBasis.f k l0 = some true := by
  refine EvP.law ?_
  unfold laws_FnBasis.f
  refine EvP.next (Ev.p (Ev.here (show laws_big.f l0 = some _ from rfl))) ?_
  rintro _ rfl
  by_cases hbig : (l0.length : Int) > 1048576
  · exact EvP.pos (by simpa using hbig) (EvP.now rfl)
  have hb8 : ∀ x ∈ l0, 0 ≤ x ∧ x < 256 := fun x hx => wf8 (w0 x hx)
  refine EvP.neg (by simpa using hbig) ?_
  have hl : l0.length ≤ 1048576 := by omega
  have hdraw : EvP (fun k => spec_DrawBasis.f k l0) (fun r => 0 ≤ r.2 ∧ r.2 ≤ 129) := by
    unfold spec_DrawBasis.f
    refine EvP.next (l1New_ev l0) ?_
    rintro ⟨c, p, h⟩ ⟨rfl, rfl⟩
    refine EvP.next (l16Draw_ev c hl 0 h (by omega) (by omega)) ?_
    rintro ⟨ch, n, p1, h1⟩ ⟨hn, hp⟩
    exact EvP.now hn
  refine EvP.next hdraw ?_
  rintro ⟨C, n⟩ ⟨hn0, hn1⟩
  simp only at hn0 hn1 ⊢
  refine EvP.next (Ev.p (iBasis_ev C n)) ?_
  rintro t rfl
  refine EvP.next (Ev.p (sBasis_ev C n)) ?_
  rintro t rfl
  refine EvP.neg (by simp) ?_
  refine EvP.of (r := true) ?_ rfl
  refine Ev.succ ?_
  simp only [laws_FnBasis.j0]
  refine Ev.neg (by simp) ?_
  cases hc : checksB C n
  · refine Ev.neg (by simp) (Ev.next (iBasis_ev [[0, 1]] 2) ?_)
    have e1 : checksB [[0, 1]] 2 = true := by decide +kernel
    have e2 : bsBasis [[0, 1]] (2 : Int).toNat = [[1, 1]] := by decide +kernel
    rw [e1, e2]
    exact Ev.pos rfl (Ev.next (sameRows_ev [[1, 1]] [[1, 1]] (by simp) (by simp)) (Ev.some_ (by simp)))
  · obtain ⟨N, rfl⟩ : ∃ N : Nat, n = (N : Int) := ⟨n.toNat, by omega⟩
    rw [if_pos rfl]
    simp only [show ((N : Int)).toNat = N from rfl]
    have hN := (checksIn hc).n1
    have hbr := bsBasis_rows C N
    have hbw := bsBasis_word C N
    have hba := bsBasis_alone C N
    generalize bsBasis C N = b at hbr hbw hba ⊢
    have mem : ∀ o, o < b.length → b.getD o [] ∈ b := fun o ho => by rw [List.getD_eq_getElem?_getD, List.getElem?_eq_getElem ho]; exact List.getElem_mem ho
    refine Ev.pos trivial (Ev.pos (by omega) (Ev.pos (by omega) ?_))
    refine fb_l0 (by omega) (fun o ho => (hbw _ (mem o ho)).2.1) (by omega) (by omega) hb8 hba (fun x => bs01 x ∧ x.length = N ∧ bsSat N (C.map (bsRow N)) (bsB x)) (fun i x hi hx => ?_) (fun x hx => hx.2.1) (fun x hx => ?_) b.length 0 _ (by omega) ?_
    · have hwi := hbw _ (mem i hi)
      refine ⟨bsXor01 hwi.1 N 0 x hx.1, by rw [bsXor_len]; exact hx.2.1, fun m hm => ?_⟩
      rw [dotF_congr (r' := bsB ((C.map (bsRow N)).getD m [])) N (fun _ _ => rfl) (fun k hk => bsXor_B hx.1 hwi.1 N hx.2.1 k hk)]
      exact bsSat_xor hx.2.2 hwi.2.2 m hm
    · have hf := iFails_ev C x (by omega)
      have e : failsV C x = ([], true) := by
        have e1 : bitsB x = true := bitsB_iff.2 ⟨hx.1, by omega⟩
        rw [failsV, hx.2.1, e1, hc, if_pos (by decide), bsSat_fails hc hx.1 hx.2.2]
      rw [e] at hf
      exact hf
    · exact ⟨fun x hx => Or.inl (List.eq_of_mem_replicate hx), by simp, bsSat_zero N _⟩
end Go.Proofs.Ytpphjbogijjnpaa.Pure
