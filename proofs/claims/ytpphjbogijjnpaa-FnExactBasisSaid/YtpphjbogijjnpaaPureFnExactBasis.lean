import Derived.Test.YtpphjbogijjnpaaPFnExactBasisx7
import Derived.Test.YtpphjbogijjnpaaAid
set_option linter.unusedVariables false
set_option linter.unusedSimpArgs false
namespace Go.Proofs.Ytpphjbogijjnpaa.Pure
open Go Go.RowKit Go.Proofs.Ytpphjbogijjnpaa.PFnExactBasis Go.Proofs.YtpphjbogijjnpaaW.PrintWords Go.Proofs.YtpphjbogijjnpaaW.PrintLast Go.Proofs.YtpphjbogijjnpaaW.PrintMore
theorem rdL1_nat (xs : List (List Int)) (i : Nat) (h : i < xs.length) : rd_L1 xs (i : Int) = xs[i] := by simp [rd_L1, List.getD_eq_getElem?_getD, h]
theorem rdL1_mem {xs : List (List Int)} {i : Nat} (h : i < xs.length) : rd_L1 xs (i : Int) ∈ xs := by rw [rdL1_nat xs i h]; exact List.getElem_mem h
theorem drop_rdL1 {xs : List (List Int)} {i : Nat} (h : i < xs.length) : xs.drop i = rd_L1 xs (i : Int) :: xs.drop (i + 1) := by rw [rdL1_nat xs i h]; exact List.drop_eq_getElem_cons h
theorem take_rdL1 {xs : List (List Int)} {i : Nat} (h : i < xs.length) : xs.take (i + 1) = xs.take i ++ [rd_L1 xs (i : Int)] := by rw [rdL1_nat xs i h]; exact (List.take_append_getElem h).symm
/-- Ascending places of 0 .. n - 1, from the i-th on. -/
def ascB (n : Int) (c : List Int) : Nat → Nat → Bool
  | 0, _ => true
  | d + 1, i => if (0 ≤ rd c i ∧ rd c i ≤ n - 1) ∧ (i = 0 ∨ rd c ((i : Int) - 1) < rd c i) then ascB n c d (i + 1) else false
def checkB (n : Int) (c : List Int) : Bool := decide (2 ≤ c.length ∧ c.length ≤ 16) && ascB n c c.length 0
def checksB (l : List (List Int)) (n : Int) : Bool := decide ((1 ≤ n ∧ n ≤ 128) ∧ l.length ≤ 64) && l.all (checkB n)
def bitOk (x : Int) : Bool := decide (x = 0 ∨ x = 1)
theorem allBits_iff {l : List Int} : l.all bitOk = true ↔ ∀ x ∈ l, x = 0 ∨ x = 1 := by simp [List.all_eq_true, bitOk]
def bitsB (l : List Int) : Bool := l.all bitOk && decide (l.length ≤ 1024)
theorem bitsB_iff {l : List Int} : bitsB l = true ↔ (∀ x ∈ l, x = 0 ∨ x = 1) ∧ l.length ≤ 1024 := by
  unfold bitsB; rw [Bool.and_eq_true, allBits_iff]; simp
def failSum (w c : List Int) (s : Int) : Int := c.foldl (fun s x => s + rd w x) s
def failsFrom (w : List Int) : List (List Int) → Int → List Int
  | [], _ => []
  | c :: cs, i => if failSum w c 0 % 2 = 1 then i :: failsFrom w cs (i + 1) else failsFrom w cs (i + 1)
def failsV (l : List (List Int)) (w : List Int) : List Int × Bool := if (bitsB w && checksB l (w.length : Int)) = true then (failsFrom w l 0, true) else ([], false)
theorem asc_bd {n : Int} {c : List Int} : ∀ (d i : Nat), ascB n c d i = true → ∀ j : Nat, i ≤ j → j < i + d → 0 ≤ rd c j ∧ rd c j ≤ n - 1 := by
  intro d
  induction d with
  | zero => intro i _ j h1 h2; omega
  | succ d ih =>
    intro i h j h1 h2
    unfold ascB at h
    split at h
    · rename_i hc
      by_cases hj : j = i
      · subst hj; exact hc.1
      · exact ih (i + 1) h j (by omega) (by omega)
    · cases h
structure ChecksIn (l : List (List Int)) (n : Int) : Prop where
  n1 : 1 ≤ n ∧ n ≤ 128
  len : l.length ≤ 64
  row : ∀ i : Nat, i < l.length → 2 ≤ (rd_L1 l i).length ∧ (rd_L1 l i).length ≤ 16
  bd : ∀ i : Nat, i < l.length → ∀ j : Nat, j < (rd_L1 l i).length → 0 ≤ rd (rd_L1 l i) j ∧ rd (rd_L1 l i) j ≤ n - 1
theorem checksIn {l : List (List Int)} {n : Int} (h : checksB l n = true) : ChecksIn l n := by
  unfold checksB at h
  rw [Bool.and_eq_true, decide_eq_true_eq, List.all_eq_true] at h
  have row : ∀ i : Nat, i < l.length → checkB n (rd_L1 l i) = true := fun i hi => h.2 _ (by
    have := drop_rdL1 hi
    exact List.mem_of_mem_drop (i := i) (by rw [this]; exact List.mem_cons_self))
  refine ⟨h.1.1, h.1.2, fun i hi => ?_, fun i hi j hj => ?_⟩
  · have := row i hi
    unfold checkB at this
    rw [Bool.and_eq_true, decide_eq_true_eq] at this
    exact this.1
  · have := row i hi
    unfold checkB at this
    rw [Bool.and_eq_true, decide_eq_true_eq] at this
    exact asc_bd _ _ this.2 j (by omega) (by omega)
theorem failSum_step {w c : List Int} {j : Nat} (hj : j < c.length) (s : Int) : failSum w (c.drop j) s = failSum w (c.drop (j + 1)) (s + rd w (rd c j)) := by
  rw [drop_rd hj]; rfl
theorem failSum_nil {w c : List Int} {j : Nat} (hj : c.length ≤ j) (s : Int) : failSum w (c.drop j) s = s := by
  rw [List.drop_of_length_le hj]; rfl
theorem failsFrom_step {w : List Int} {l : List (List Int)} {i : Nat} (hi : i < l.length) : failsFrom w (l.drop i) i = if failSum w ((rd_L1 l i).drop 0) 0 % 2 = 1 then (i : Int) :: failsFrom w (l.drop (i + 1)) ((i + 1 : Nat) : Int) else failsFrom w (l.drop (i + 1)) ((i + 1 : Nat) : Int) := by
  rw [drop_rdL1 hi]; rfl
theorem bitAt {w : List Int} (hw : ∀ x ∈ w, x = 0 ∨ x = 1) {x : Int} (h0 : 0 ≤ x) (h1 : x < w.length) : rd w x = 0 ∨ rd w x = 1 := by
  have := rd_mem (xs := w) (i := x.toNat) (by omega)
  rw [Int.toNat_of_nonneg h0] at this
  exact hw _ this
theorem xor_mod2 (s b : Int) (hb : b = 0 ∨ b = 1) : Go.bits .xor .i64 (s % 2) b = (s + b) % 2 := by
  have h : s % 2 = 0 ∨ s % 2 = 1 := by omega
  rcases h with h | h <;> rcases hb with rfl | rfl
  · rw [h, show Go.bits .xor .i64 0 0 = 0 by decide +kernel]; omega
  · rw [h, show Go.bits .xor .i64 0 1 = 1 by decide +kernel]; omega
  · rw [h, show Go.bits .xor .i64 1 0 = 1 by decide +kernel]; omega
  · rw [h, show Go.bits .xor .i64 1 1 = 0 by decide +kernel]; omega
theorem failsFrom_len (w : List Int) : ∀ (l : List (List Int)) (i : Int), (failsFrom w l i).length ≤ l.length := by
  intro l
  induction l with
  | nil => intro i; simp [failsFrom]
  | cons c l ih => intro i; simp only [failsFrom]; split <;> (simp only [List.length_cons]; have := ih (i + 1); omega)
theorem failsFrom_in (w : List Int) : ∀ (l : List (List Int)) (i : Int), ∀ x ∈ failsFrom w l i, i ≤ x ∧ x < i + l.length := by
  intro l
  induction l with
  | nil => intro i x hx; simp [failsFrom] at hx
  | cons c l ih =>
    intro i x hx
    simp only [failsFrom] at hx
    simp only [List.length_cons]
    split at hx
    · rcases List.mem_cons.1 hx with rfl | hx
      · omega
      · have := ih (i + 1) x hx; omega
    · have := ih (i + 1) x hx; omega
theorem l1In_eq (a b c : Int) : spec_l1In.f a b c = some (decide (b ≤ a) && decide (a ≤ c)) := by
  unfold spec_l1In.f
  by_cases h : a ≥ b
  · rw [if_pos h]; simp [show b ≤ a from h]
  · rw [if_neg h]; simp [show ¬ b ≤ a from h]
theorem sChecksOk_l (n : Int) (hn : 1 ≤ n ∧ n ≤ 128) (l : List (List Int)) (hl : l.length ≤ 64) : ∀ (d i : Nat), i + d = l.length → Ev (fun k => spec_ChecksOk.l0 k l n (i : Int)) ((l.drop i).all (checkB n)) := by
  intro d
  induction d with
  | zero =>
    intro i hi
    refine Ev.succ ?_
    simp only [spec_ChecksOk.l0]
    exact Ev.neg (by omega) (Ev.some_ (by rw [List.drop_of_length_le (by omega)]; rfl))
  | succ d ih =>
    intro i hi
    have hi1 : i < l.length := by omega
    refine Ev.succ ?_
    simp only [spec_ChecksOk.l0, l1In_eq, Option.bind_some]
    refine Ev.pos (by omega) (Ev.pos (by omega) ?_)
    rw [drop_rdL1 hi1, List.all_cons]
    by_cases h1 : 2 ≤ (rd_L1 l i).length ∧ (rd_L1 l i).length ≤ 16
    · refine Ev.pos (by simp; omega) ?_
      have e : checkB n (rd_L1 l i) = ascB n (rd_L1 l i) (rd_L1 l i).length 0 := by
        unfold checkB; rw [show decide (2 ≤ (rd_L1 l i).length ∧ (rd_L1 l i).length ≤ 16) = true by simp; omega]; rfl
      rw [e]
      have inner : ∀ (d' j : Nat), j + d' = (rd_L1 l i).length → Ev (fun k => spec_ChecksOk.l1 k l n (i : Int) (j : Int)) (ascB n (rd_L1 l i) d' j && (l.drop (i + 1)).all (checkB n)) := by
        intro d'
        induction d' with
        | zero =>
          intro j hj
          refine Ev.succ ?_
          simp only [spec_ChecksOk.l1]
          refine Ev.pos (by omega) (Ev.pos (by omega) (Ev.neg (by omega) ?_))
          rw [w64_add (by omega) (by omega)]
          exact ih (i + 1) (by omega)
        | succ d' ih' =>
          intro j hj
          refine Ev.succ ?_
          simp only [spec_ChecksOk.l1, l1In_eq, Option.bind_some]
          refine Ev.pos (by omega) (Ev.pos (by omega) (Ev.pos (by omega) (Ev.pos (by omega) ?_)))
          rw [w64_add (i := (j : Int)) (by omega) (by omega), w64 (n := n - 1) (by omega) (by omega)]
          simp only [ascB]
          by_cases h2 : 0 ≤ rd (rd_L1 l i) j ∧ rd (rd_L1 l i) j ≤ n - 1
          · refine Ev.pos (by simp; omega) ?_
            by_cases h3 : (j : Int) > 0
            · rw [w64 (by omega) (by omega)]
              refine Ev.pos h3 (Ev.pos (by omega) (Ev.pos (by omega) ?_))
              by_cases h4 : rd (rd_L1 l i) ((j : Int) - 1) ≥ rd (rd_L1 l i) j
              · rw [if_neg (by omega)]; exact Ev.pos h4 (Ev.some_ rfl)
              · rw [if_pos (by omega)]; exact Ev.neg h4 (ih' (j + 1) (by omega))
            · rw [if_pos (by omega)]; exact Ev.neg h3 (ih' (j + 1) (by omega))
          · rw [if_neg (by omega)]; exact Ev.neg (by simp; omega) (Ev.some_ rfl)
      exact inner (rd_L1 l i).length 0 (by omega)
    · refine Ev.neg (by simp; omega) (Ev.some_ ?_)
      unfold checkB; rw [show decide (2 ≤ (rd_L1 l i).length ∧ (rd_L1 l i).length ≤ 16) = false by simp; omega]; rfl
theorem sChecksOk_ev (l : List (List Int)) (n : Int) : Ev (fun k => spec_ChecksOk.f k l n) (checksB l n) := by
  have bad : Ev (fun k => spec_ChecksOk.j0 k l n true) false := by
    refine Ev.succ ?_
    simp only [spec_ChecksOk.j0]
    exact Ev.pos trivial (Ev.some_ rfl)
  unfold spec_ChecksOk.f checksB
  simp only [l1In_eq, Option.bind_some]
  by_cases h1 : 1 ≤ n ∧ n ≤ 128
  · refine Ev.pos (by simp; omega) ?_
    by_cases h3 : l.length ≤ 64
    · rw [show decide ((l.length : Int) > 64) = false by simp; omega, show decide ((1 ≤ n ∧ n ≤ 128) ∧ l.length ≤ 64) = true by simp; omega]
      refine Ev.succ ?_
      simp only [spec_ChecksOk.j0]
      exact Ev.neg (by simp) ((sChecksOk_l n (by omega) l h3 l.length 0 (by omega)).to (by simp))
    · rw [show decide ((l.length : Int) > 64) = true by simp; omega]
      exact bad.to (by rw [show decide ((1 ≤ n ∧ n ≤ 128) ∧ l.length ≤ 64) = false by simp; omega]; rfl)
  · exact Ev.neg (by simp; omega) (bad.to (by rw [show decide ((1 ≤ n ∧ n ≤ 128) ∧ l.length ≤ 64) = false by simp; omega]; rfl))
theorem bsIn_of {l : List (List Int)} {n : Int} (h : checksB l n = true) : bsIn l n := by
  have hc := checksIn h
  refine ⟨hc.n1, hc.len, fun c hm => ?_⟩
  obtain ⟨i, hi, he⟩ := List.mem_iff_getElem.1 hm
  have e : rd_L1 l (i : Int) = c := by rw [rdL1_nat l i hi]; exact he
  have hr := hc.row i hi
  have hb := hc.bd i hi
  rw [e] at hr hb
  refine ⟨hr.2, fun x hx => ?_⟩
  obtain ⟨j, hj, he2⟩ := List.mem_iff_getElem.1 hx
  have := hb j hj
  rw [rd_get c j hj, he2] at this
  omega
theorem sBasis_ev (l : List (List Int)) (n : Int) : Ev (fun k => spec_Basis.f k l n) (if checksB l n = true then (bsBasis l n.toNat, true) else ([], false)) := by
  unfold spec_Basis.f
  refine Ev.next (sChecksOk_ev l n) ?_
  cases hc : checksB l n
  · exact Ev.neg (by simp) (Ev.some_ (by simp))
  · exact Ev.pos rfl (Ev.pos (bsIn_of hc) (Ev.some_ (by simp)))
theorem bsWord_len (rows : List (List Int)) (lead : List Int) (col : Int) : ∀ (d i : Nat) (w : List Int), (bsWord rows lead col d i w).length = w.length
  | 0, _, _ => rfl
  | d + 1, i, w => by unfold bsWord; rw [bsWord_len rows lead col d, List.length_set]
theorem bsOut_rows (n : Nat) (rows : List (List Int)) (lead : List Int) : ∀ (d col : Nat), (∀ r ∈ bsOut n rows lead d col, r.length = n) ∧ (bsOut n rows lead d col).length ≤ d
  | 0, _ => ⟨fun r hr => by simp [bsOut] at hr, by simp [bsOut]⟩
  | d + 1, col => by
    obtain ⟨h1, h2⟩ := bsOut_rows n rows lead d (col + 1)
    unfold bsOut
    constructor
    · intro r hr
      rcases List.mem_append.1 hr with h3 | h3
      · split at h3
        · rw [List.mem_singleton] at h3
          rw [h3, bsWord_len]; simp
        · simp at h3
      · exact h1 r h3
    · rw [List.length_append]
      split
      · simp only [List.length_singleton]; omega
      · simp only [List.length_nil]; omega
theorem bsBasis_rows (l : List (List Int)) (n : Nat) : (∀ r ∈ bsBasis l n, r.length = n) ∧ (bsBasis l n).length ≤ n := bsOut_rows _ _ _ _ _
def bs01 (r : List Int) : Prop := ∀ x ∈ r, x = 0 ∨ x = 1
def all01 (l : List (List Int)) : Prop := ∀ r ∈ l, bs01 r
theorem bs01_rd {r : List Int} (h : bs01 r) (i : Int) : rd r i = 0 ∨ rd r i = 1 := by
  unfold rd
  by_cases hi : i.toNat < r.length
  · rw [List.getD_eq_getElem?_getD, List.getElem?_eq_getElem hi]; exact h _ (List.getElem_mem hi)
  · rw [List.getD_eq_getElem?_getD, List.getElem?_eq_none (by omega)]; exact Or.inl rfl
theorem bs01_getD {l : List (List Int)} (h : all01 l) (i : Nat) : bs01 (l.getD i []) := by
  by_cases hi : i < l.length
  · rw [List.getD_eq_getElem?_getD, List.getElem?_eq_getElem hi]; exact h _ (List.getElem_mem hi)
  · rw [List.getD_eq_getElem?_getD, List.getElem?_eq_none (by omega)]; intro x hx; simp at hx
theorem bs01_set {r : List Int} (h : bs01 r) (i : Nat) {v : Int} (hv : v = 0 ∨ v = 1) : bs01 (r.set i v) := by
  intro x hx
  rcases List.mem_or_eq_of_mem_set hx with h1 | h1
  · exact h x h1
  · rw [h1]; exact hv
theorem all01_set {l : List (List Int)} (h : all01 l) (i : Nat) {v : List Int} (hv : bs01 v) : all01 (l.set i v) := by
  intro x hx
  rcases List.mem_or_eq_of_mem_set hx with h1 | h1
  · exact h x h1
  · rw [h1]; exact hv
theorem xor01 {a b : Int} (ha : a = 0 ∨ a = 1) (hb : b = 0 ∨ b = 1) : Go.bits .xor .i64 a b = 0 ∨ Go.bits .xor .i64 a b = 1 := by
  rcases ha with rfl | rfl <;> rcases hb with rfl | rfl <;> decide
theorem xor0 {b : Int} (hb : b = 0 ∨ b = 1) : Go.bits .xor .i64 0 b = b := by
  rcases hb with rfl | rfl <;> decide
theorem bsXor01 {b : List Int} (hb : bs01 b) : ∀ (d k : Nat) (a : List Int), bs01 a → bs01 (bsXor b d k a)
  | 0, _, _, h => h
  | d + 1, k, a, h => bsXor01 hb d (k + 1) _ (bs01_set h k (xor01 (bs01_rd h _) (bs01_rd hb _)))
theorem bsFind_le (rows : List (List Int)) (col : Int) : ∀ (d p : Nat), p ≤ bsFind rows col d p ∧ bsFind rows col d p ≤ p + d
  | 0, p => ⟨Nat.le_refl _, by simp [bsFind]⟩
  | d + 1, p => by
    unfold bsFind
    have := bsFind_le rows col d (p + 1)
    split <;> omega
theorem bsSwap01 {rows : List (List Int)} (h : all01 rows) (p q : Nat) : all01 (bsSwap rows p q) := all01_set (all01_set h p (bs01_getD h q)) q (bs01_getD h p)
theorem bsSwap_len (rows : List (List Int)) (p q : Nat) : (bsSwap rows p q).length = rows.length := by unfold bsSwap; simp
theorem bsClear01 (n : Nat) (col : Int) (at_ : Nat) : ∀ (d i : Nat) (rows : List (List Int)), all01 rows → all01 (bsClear n col at_ d i rows) ∧ (bsClear n col at_ d i rows).length = rows.length
  | 0, _, rows, h => ⟨h, rfl⟩
  | d + 1, i, rows, h => by
    unfold bsClear
    split
    · have := bsClear01 n col at_ d (i + 1) _ (all01_set h i (bsXor01 (bs01_getD h at_) n 0 _ (bs01_getD h i)))
      rw [List.length_set] at this
      exact this
    · exact bsClear01 n col at_ d (i + 1) rows h
theorem bsElim_inv (n : Nat) : ∀ (d col : Nat) (rows : List (List Int)) (lead : List Int), all01 rows → lead.length ≤ rows.length → lead.Pairwise (· < ·) → (∀ x ∈ lead, 0 ≤ x ∧ x < (col : Int)) →
    all01 (bsElim n d col rows lead).1 ∧ (bsElim n d col rows lead).2.length ≤ rows.length ∧ (bsElim n d col rows lead).1.length = rows.length ∧ (bsElim n d col rows lead).2.Pairwise (· < ·) ∧ ∀ x ∈ (bsElim n d col rows lead).2, 0 ≤ x ∧ x < ((col + d : Nat) : Int)
  | 0, _, _, _, h1, h2, h3, h4 => ⟨h1, h2, rfl, h3, h4⟩
  | d + 1, col, rows, lead, h1, h2, h3, h4 => by
    unfold bsElim
    have hf := bsFind_le rows col (rows.length - lead.length) lead.length
    split
    · have := bsElim_inv n d (col + 1) rows lead h1 h2 h3 (fun x hx => by have := h4 x hx; omega)
      rw [show col + (d + 1) = col + 1 + d by omega]
      exact this
    · rename_i hlt
      have hc := bsClear01 n col lead.length rows.length 0 _ (bsSwap01 h1 (bsFind rows col (rows.length - lead.length) lead.length) lead.length)
      rw [bsSwap_len] at hc
      have := bsElim_inv n d (col + 1) _ (lead ++ [(col : Int)]) hc.1 (by rw [hc.2, List.length_append, List.length_singleton]; omega)
        (List.pairwise_append.2 ⟨h3, List.pairwise_singleton _ _, fun a ha b hb => by rw [List.mem_singleton] at hb; have := h4 a ha; omega⟩)
        (fun x hx => (List.mem_append.1 hx).elim (fun h5 => by have := h4 x h5; omega) (fun h5 => by rw [List.mem_singleton] at h5; omega))
      rw [hc.2] at this
      rw [show col + (d + 1) = col + 1 + d by omega]
      exact this
theorem bsRow01 (n : Nat) (c : List Int) : bs01 (bsRow n c) ∧ (bsRow n c).length = n := by
  unfold bsRow
  have go : ∀ (c : List Int) (r : List Int), bs01 r → bs01 (c.foldl (fun r x => r.set x.toNat 1) r) ∧ (c.foldl (fun r x => r.set x.toNat 1) r).length = r.length := by
    intro c
    induction c with
    | nil => intro r h; exact ⟨h, rfl⟩
    | cons x c ih => intro r h; have := ih _ (bs01_set h x.toNat (Or.inr rfl)); rw [List.length_set] at this; exact this
  have := go c (List.replicate n 0) (fun x hx => Or.inl (List.eq_of_mem_replicate hx))
  rw [List.length_replicate] at this
  exact this
theorem bsRows01 (l : List (List Int)) (n : Nat) : all01 (l.map (bsRow n)) := by
  intro r hr
  obtain ⟨c, _, rfl⟩ := List.mem_map.1 hr
  exact (bsRow01 n c).1
theorem ascending_l0 (n : Int) (hn : 1 ≤ n ∧ n ≤ 128) (c : List Int) (hl : c.length ≤ 16) : ∀ (d i : Nat), i + d = c.length → Ev (fun k => impl_ascending.l0 k c n c (c.length : Int) (i : Int)) (ascB n c d i) := by
  intro d
  induction d with
  | zero =>
    intro i hi
    refine Ev.succ ?_
    simp only [impl_ascending.l0]
    exact Ev.neg (by omega) (Ev.some_ rfl)
  | succ d ih =>
    intro i hi
    refine Ev.succ ?_
    simp only [impl_ascending.l0]
    refine Ev.pos (by omega) (Ev.pos (by omega) (Ev.pos (by omega) ?_))
    rw [w64_add (by omega) (by omega)]
    simp only [ascB]
    by_cases h1 : rd c i < 0
    · rw [if_neg (by omega)]; exact Ev.pos h1 (Ev.some_ rfl)
    refine Ev.neg h1 ?_
    by_cases h2 : rd c i ≥ n
    · rw [if_neg (by omega)]; exact Ev.pos h2 (Ev.some_ rfl)
    refine Ev.neg h2 ?_
    by_cases h3 : (i : Int) > 0
    · rw [w64 (by omega) (by omega)]
      refine Ev.pos h3 (Ev.pos (by omega) (Ev.pos (by omega) ?_))
      by_cases h4 : rd c i ≤ rd c ((i : Int) - 1)
      · rw [if_neg (by omega)]; exact Ev.pos h4 (Ev.some_ rfl)
      · rw [if_pos (by omega)]; exact Ev.neg h4 (ih (i + 1) (by omega))
    · rw [if_pos (by omega)]; exact Ev.neg h3 (ih (i + 1) (by omega))
theorem iChecksOk_l0 (n : Int) (hn : 1 ≤ n ∧ n ≤ 128) (l : List (List Int)) (hl : l.length ≤ 64) : ∀ (d i : Nat), i + d = l.length → Ev (fun k => impl_ChecksOk.l0 k n l (l.length : Int) (i : Int)) ((l.drop i).all (checkB n)) := by
  intro d
  induction d with
  | zero =>
    intro i hi
    refine Ev.succ ?_
    simp only [impl_ChecksOk.l0]
    exact Ev.neg (by omega) (Ev.some_ (by rw [List.drop_of_length_le (by omega)]; rfl))
  | succ d ih =>
    intro i hi
    have hi1 : i < l.length := by omega
    refine Ev.succ ?_
    simp only [impl_ChecksOk.l0]
    refine Ev.pos (by omega) (Ev.pos (by omega) (Ev.pos (by omega) ?_))
    rw [w64_add (by omega) (by omega), drop_rdL1 hi1, List.all_cons]
    by_cases h1 : ((rd_L1 l i).length : Int) < 2
    · exact Ev.pos h1 (Ev.some_ (by unfold checkB; rw [show decide (2 ≤ (rd_L1 l i).length ∧ (rd_L1 l i).length ≤ 16) = false by simp; omega]; rfl))
    refine Ev.neg h1 ?_
    by_cases h2 : ((rd_L1 l i).length : Int) > 16
    · exact Ev.pos h2 (Ev.some_ (by unfold checkB; rw [show decide (2 ≤ (rd_L1 l i).length ∧ (rd_L1 l i).length ≤ 16) = false by simp; omega]; rfl))
    refine Ev.neg h2 (Ev.next (ascending_l0 n hn (rd_L1 l i) (by omega) (rd_L1 l i).length 0 (by omega)) ?_)
    have e : checkB n (rd_L1 l i) = ascB n (rd_L1 l i) (rd_L1 l i).length 0 := by
      unfold checkB; rw [show decide (2 ≤ (rd_L1 l i).length ∧ (rd_L1 l i).length ≤ 16) = true by simp; omega]; rfl
    rw [e]
    cases hb : ascB n (rd_L1 l i) (rd_L1 l i).length 0
    · exact Ev.neg (by simp) (Ev.some_ rfl)
    · exact Ev.pos rfl (ih (i + 1) (by omega))
theorem iChecksOk_ev (l : List (List Int)) (n : Int) : Ev (fun k => impl_ChecksOk.f k l n) (checksB l n) := by
  have bad : Ev (fun k => impl_ChecksOk.j0 k l n true) false := by
    refine Ev.succ ?_
    simp only [impl_ChecksOk.j0]
    exact Ev.pos trivial (Ev.some_ rfl)
  unfold impl_ChecksOk.f checksB
  by_cases h1 : n < 1
  · exact Ev.pos h1 (bad.to (by rw [show decide ((1 ≤ n ∧ n ≤ 128) ∧ l.length ≤ 64) = false by simp; omega]; rfl))
  refine Ev.neg h1 ?_
  by_cases h2 : n > 128
  · exact Ev.pos h2 (bad.to (by rw [show decide ((1 ≤ n ∧ n ≤ 128) ∧ l.length ≤ 64) = false by simp; omega]; rfl))
  refine Ev.neg h2 ?_
  by_cases h3 : l.length ≤ 64
  · rw [show decide ((l.length : Int) > 64) = false by simp; omega, show decide ((1 ≤ n ∧ n ≤ 128) ∧ l.length ≤ 64) = true by simp; omega]
    refine Ev.succ ?_
    simp only [impl_ChecksOk.j0]
    exact Ev.neg (by simp) ((iChecksOk_l0 n (by omega) l h3 l.length 0 (by omega)).to (by simp))
  · rw [show decide ((l.length : Int) > 64) = true by simp; omega]
    exact bad.to (by rw [show decide ((1 ≤ n ∧ n ≤ 128) ∧ l.length ≤ 64) = false by simp; omega]; rfl)
theorem sIndex_l0 (l : List Int) (x : Int) (hl : l.length ≤ 1048576) : ∀ (d i : Nat), i + d = l.length → EvP (fun k => slices_Index_int_int.l0 k l x (l.length : Int) (i : Int)) (fun r => decide (r ≥ 0) = (l.drop i).contains x) := by
  intro d
  induction d with
  | zero =>
    intro i hi
    refine EvP.succ ?_
    simp only [slices_Index_int_int.l0]
    refine EvP.of (Ev.neg (by omega) (Ev.some_ rfl)) ?_
    rw [List.drop_of_length_le (by omega)]; rfl
  | succ d ih =>
    intro i hi
    refine EvP.succ ?_
    simp only [slices_Index_int_int.l0]
    obtain ⟨r, hr, hp⟩ := ih (i + 1) (by omega)
    have e := drop_rd (xs := l) (i := i) (by omega)
    by_cases h : x = rd l (i : Int)
    · refine EvP.of (Ev.pos (by omega) (Ev.pos (by omega) (Ev.pos (by omega) (Ev.pos h (Ev.some_ rfl))))) ?_
      rw [e, ← h]; simp
    · refine EvP.of (Ev.pos (by omega) (Ev.pos (by omega) (Ev.pos (by omega) (Ev.neg h (by rw [w64_add (by omega) (by omega)]; exact hr))))) ?_
      rw [e, hp, List.contains_cons]
      simp [h]
theorem sContains_ev (l : List Int) (x : Int) (hl : l.length ≤ 1048576) : Ev (fun k => slices_Contains_int_int.f k l x) (l.contains x) := by
  obtain ⟨r, hr, hp⟩ := sIndex_l0 l x hl l.length 0 (by omega)
  unfold slices_Contains_int_int.f slices_Index_int_int.f
  exact Ev.next hr (Ev.some_ (by rw [hp]; rfl))
theorem ibFind_eq (rows : List (List Int)) (col : Int) : ∀ (d p : Nat), ibFind rows col d p = bsFind rows col d p
  | 0, _ => rfl
  | d + 1, p => by unfold ibFind bsFind; rw [ibFind_eq rows col d (p + 1)]
theorem ibXor_eq (b : List Int) : ∀ (d k : Nat) (a : List Int), ibXor b d k a = bsXor b d k a
  | 0, _, _ => rfl
  | d + 1, k, a => by unfold ibXor bsXor; rw [ibXor_eq b d (k + 1)]
theorem ibSwap_eq (rows : List (List Int)) (p q : Nat) : ibSwap rows p q = bsSwap rows q p := by
  unfold ibSwap bsSwap
  by_cases h : p = q
  · subst h; rfl
  · exact List.set_comm _ _ h
theorem ibClear_eq (n : Nat) (col : Int) (at_ : Nat) : ∀ (d i : Nat) (rows : List (List Int)), all01 rows → ibClear n col at_ d i rows = bsClear n col at_ d i rows
  | 0, _, _, _ => rfl
  | d + 1, i, rows, h => by
    unfold ibClear bsClear
    rw [ibXor_eq]
    have hb := bs01_rd (bs01_getD h i) col
    by_cases hc : i ≠ at_ ∧ rd (rows.getD i []) col = 1
    · rw [if_pos hc, if_pos ⟨hc.1, by omega⟩]
      exact ibClear_eq n col at_ d (i + 1) _ (all01_set h i (bsXor01 (bs01_getD h at_) n 0 _ (bs01_getD h i)))
    · rw [if_neg hc, if_neg (fun h2 => hc ⟨h2.1, by have := h2.2; omega⟩)]
      exact ibClear_eq n col at_ d (i + 1) rows h
theorem ibElim_eq (n : Nat) : ∀ (d col : Nat) (rows : List (List Int)) (lead : List Int), all01 rows → lead.length ≤ rows.length → ibElim n d col rows lead = bsElim n d col rows lead
  | 0, _, _, _, _, _ => rfl
  | d + 1, col, rows, lead, h1, h2 => by
    unfold ibElim bsElim
    rw [ibFind_eq, ibSwap_eq, ibClear_eq n col lead.length rows.length 0 _ (bsSwap01 h1 _ _)]
    have hf := bsFind_le rows col (rows.length - lead.length) lead.length
    by_cases h : bsFind rows col (rows.length - lead.length) lead.length = rows.length
    · rw [if_pos h, if_pos (by omega)]
      exact ibElim_eq n d (col + 1) rows lead h1 h2
    · rw [if_neg h, if_neg (by omega)]
      have hc := bsClear01 n col lead.length rows.length 0 _ (bsSwap01 h1 (bsFind rows col (rows.length - lead.length) lead.length) lead.length)
      rw [bsSwap_len] at hc
      exact ibElim_eq n d (col + 1) _ _ hc.1 (by rw [hc.2, List.length_append, List.length_singleton]; omega)
theorem rd_set_ne (w : List Int) {a b : Int} (h0 : 0 ≤ a) (h1 : 0 ≤ b) (h : a ≠ b) (v : Int) : rd (w.set a.toNat v) b = rd w b := by
  unfold rd
  rw [List.getD_eq_getElem?_getD, List.getD_eq_getElem?_getD, List.getElem?_set_ne (by omega)]
theorem ibWord_eq (rows : List (List Int)) (hr : all01 rows) (lead : List Int) (hp : lead.Pairwise (· < ·)) (h0 : ∀ x ∈ lead, 0 ≤ x) (col : Int) : ∀ (d i : Nat) (w : List Int), i + d = lead.length → (∀ j : Nat, i ≤ j → j < lead.length → rd w (rd lead (j : Int)) = 0) → ibWord rows lead col d i w = bsWord rows lead col d i w
  | 0, _, _, _, _ => rfl
  | d + 1, i, w, hd, hw => by
    unfold ibWord bsWord
    rw [hw i (Nat.le_refl _) (by omega), xor0 (bs01_rd (bs01_getD hr i) col)]
    refine ibWord_eq rows hr lead hp h0 col d (i + 1) _ (by omega) (fun j hj hl => ?_)
    have hi : i < lead.length := by omega
    have hlt : rd lead (i : Int) < rd lead (j : Int) := by
      rw [rd_get lead i hi, rd_get lead j hl]
      exact List.pairwise_iff_getElem.1 hp i j hi hl (by omega)
    rw [rd_set_ne w (h0 _ (rd_mem hi)) (h0 _ (rd_mem hl)) (by omega)]
    exact hw j (by omega) hl
theorem ibOut_ev (n : Nat) (rows : List (List Int)) (hr : all01 rows) (lead : List Int) (hl : lead.length ≤ 1048576) (hp : lead.Pairwise (· < ·)) (h0 : ∀ x ∈ lead, 0 ≤ x) : ∀ (d col : Nat), Ev (fun k => ibOut k n rows lead d col) (bsOut n rows lead d col)
  | 0, _ => Ev.some_ rfl
  | d + 1, col => by
    simp only [ibOut]
    refine Ev.next (sContains_ev lead (col : Int) hl) (Ev.next (ibOut_ev n rows hr lead hl hp h0 d (col + 1)) (Ev.some_ ?_))
    rw [show bsOut n rows lead (d + 1) col = (if (lead.all fun x => x != (col : Int)) = true then [bsWord rows lead col lead.length 0 ((List.replicate n 0).set col 1)] else []) ++ bsOut n rows lead d (col + 1) from rfl]
    cases hc : lead.contains (col : Int)
    · have hm : (col : Int) ∉ lead := fun h => by rw [List.contains_iff_mem.2 h] at hc; cases hc
      have ha : (lead.all fun x => x != (col : Int)) = true := List.all_eq_true.2 (fun x hx => by simp; intro h; exact hm (h ▸ hx))
      rw [if_neg (by simp), if_pos ha, ibWord_eq rows hr lead hp h0 col lead.length 0 _ (by omega) (fun j _ hj => ?_)]
      · rfl
      · have h1 : rd lead (j : Int) ∈ lead := rd_mem hj
        have h2 := h0 _ h1
        have e := rd_set_ne (List.replicate n 0) (a := (col : Int)) (b := rd lead (j : Int)) (by omega) h2 (fun h => hm (h ▸ h1)) 1
        rw [show ((col : Int)).toNat = col from rfl] at e
        rw [e]
        generalize rd lead (j : Int) = z
        unfold rd
        rw [List.getD_eq_getElem?_getD, List.getElem?_replicate]
        split <;> rfl
    · have hm := List.contains_iff_mem.1 hc
      have ha : ¬ (lead.all fun x => x != (col : Int)) = true := fun h => by have := List.all_eq_true.1 h _ hm; simp at this
      rw [if_pos rfl, if_neg ha]; rfl
theorem iBasis_ev (l : List (List Int)) (n : Int) : Ev (fun k => impl_Basis.f k l n) (if checksB l n = true then (bsBasis l n.toNat, true) else ([], false)) := by
  unfold impl_Basis.f
  refine Ev.next (iChecksOk_ev l n) ?_
  cases hc : checksB l n
  · exact Ev.neg (by simp) (Ev.some_ (by simp))
  · refine Ev.pos rfl (Ev.pos (bsIn_of hc) ?_)
    unfold ibBasis bsBasis
    have h1 := bsRows01 l n.toNat
    have h2 := bsElim_inv n.toNat n.toNat 0 _ [] h1 (by simp) List.Pairwise.nil (by simp)
    have hl := (checksIn hc).len
    have e : ibRow n.toNat = bsRow n.toNat := rfl
    rw [e, ibElim_eq n.toNat n.toNat 0 _ [] h1 (by simp)]
    rw [List.length_map] at h2
    exact Ev.next (ibOut_ev n.toNat _ h2.1 _ (by omega) h2.2.2.2.1 (fun x hx => (h2.2.2.2.2 x hx).1) n.toNat 0) (Ev.some_ (by simp))
theorem eqIntS_l0 (a b : List Int) (h : a.length = b.length) (hl : a.length ≤ 35184372088832) : ∀ (d i : Nat), i + d = a.length → Ev (fun k => laws_eqIntS.l0 k a b (i : Int)) (decide (a.drop i = b.drop i)) := by
  intro d
  induction d with
  | zero =>
    intro i hi
    refine Ev.round (f := fun _ => some true) (Ev.some_ ?_) (fun k => by simp only [laws_eqIntS.l0]; rw [if_neg (by omega)])
    rw [List.drop_of_length_le (by omega), List.drop_of_length_le (by omega)]; simp
  | succ d ih =>
    intro i hi
    by_cases he : rd a i = rd b i
    · refine (Ev.round (ih (i + 1) (by omega)) (fun k => ?_)).to ?_
      · simp only [laws_eqIntS.l0]
        rw [if_pos (by omega), if_pos (by omega), if_pos (by omega), if_pos he, w64_add (by omega) (by omega)]; simp
      · rw [drop_rd (xs := a) (i := i) (by omega), drop_rd (xs := b) (i := i) (by omega), he]; simp
    · refine (Ev.round (f := fun _ => some false) (Ev.some_ rfl) (fun k => ?_)).to ?_
      · simp only [laws_eqIntS.l0]
        rw [if_pos (by omega), if_pos (by omega), if_pos (by omega), if_neg he]
      · rw [drop_rd (xs := a) (i := i) (by omega), drop_rd (xs := b) (i := i) (by omega)]; simp [he]
theorem eqIntS_ev (a b : List Int) (hl : a.length ≤ 35184372088832) : Ev (fun k => laws_eqIntS.f k a b) (decide (a = b)) := by
  unfold laws_eqIntS.f
  by_cases h : a.length = b.length
  · exact Ev.pos (by omega) (eqIntS_l0 a b h hl a.length 0 (by omega))
  · exact (Ev.neg (by omega) (Ev.some_ rfl)).to (by simp; intro e; exact h (by rw [e]))
theorem toIntS_l0 (l : List Int) (hl : l.length ≤ 35184372088832) : ∀ (d i : Nat) (acc : List Int), i + d = l.length → acc.length = l.length → acc.take i = l.take i → Ev (fun k => laws_toIntS.l0 k l acc (i : Int)) l := by
  intro d
  induction d with
  | zero =>
    intro i acc h h1 h2
    refine Ev.round (f := fun _ => some acc) (Ev.some_ ?_) (fun k => by simp only [laws_toIntS.l0]; rw [if_neg (by omega)])
    rw [List.take_of_length_le (by omega), List.take_of_length_le (by omega)] at h2
    exact h2
  | succ d ih =>
    intro i acc h h1 h2
    have hi : i < l.length := by omega
    refine Ev.round (ih (i + 1) (acc.set i (rd l i)) (by omega) (by simp [h1]) ?_) (fun k => ?_)
    · rw [take_rd hi, ← h2]; exact take_set_end (by omega) _
    · simp only [laws_toIntS.l0]
      rw [if_pos (by omega), if_pos (by omega), if_pos (by omega), w64_add (by omega) (by omega)]
      simp
theorem toIntS_ev (l : List Int) (hl : l.length ≤ 35184372088832) : Ev (fun k => laws_toIntS.f k l) l := by
  unfold laws_toIntS.f
  refine Ev.pos (by omega) (Ev.pos (by omega) ?_)
  exact toIntS_l0 l hl l.length 0 _ (by omega) (by simp) (by simp)
/-- How long all rows are. -/
def totL : List (List Int) → Int
  | [] => 0
  | x :: l => x.length + totL l
theorem totL_nonneg : ∀ l, 0 ≤ totL l
  | [] => by simp [totL]
  | x :: l => by have := totL_nonneg l; simp only [totL]; omega
theorem totL_mem {l : List (List Int)} {x : List Int} (h : x ∈ l) : (x.length : Int) ≤ totL l := by
  induction l with
  | nil => cases h
  | cons y l ih =>
    have := totL_nonneg l
    simp only [totL]
    rcases List.mem_cons.1 h with rfl | h
    · omega
    · have := ih h; omega
theorem toIntSS_l0 (l : List (List Int)) (hl : l.length ≤ 1048576) (hx : ∀ x ∈ l, x.length ≤ 35184372088832) : ∀ (d i : Nat) (acc : List (List Int)), i + d = l.length → acc.length = l.length → acc.take i = l.take i → Ev (fun k => laws_toIntSS.l0 k l acc (i : Int)) l := by
  intro d
  induction d with
  | zero =>
    intro i acc h h1 h2
    refine Ev.round (f := fun _ => some acc) (Ev.some_ ?_) (fun k => by simp only [laws_toIntSS.l0]; rw [if_neg (by omega)])
    rw [List.take_of_length_le (by omega), List.take_of_length_le (by omega)] at h2
    exact h2
  | succ d ih =>
    intro i acc h h1 h2
    have hi : i < l.length := by omega
    refine Ev.succ ?_
    simp only [laws_toIntSS.l0]
    refine Ev.pos (by omega) (Ev.pos (by omega) (Ev.next (toIntS_ev _ (hx _ (rdL1_mem hi))) (Ev.pos (by omega) ?_)))
    rw [w64_add (by omega) (by omega)]
    refine ih (i + 1) (acc.set i _) (by omega) (by simp [h1]) ?_
    rw [take_rdL1 hi, ← h2]; exact take_set_end (by omega) _
theorem toIntSS_ev (l : List (List Int)) (hl : l.length ≤ 1048576) (hx : ∀ x ∈ l, x.length ≤ 35184372088832) : Ev (fun k => laws_toIntSS.f k l) l := by
  unfold laws_toIntSS.f
  refine Ev.pos (by omega) (Ev.pos (by omega) ?_)
  exact toIntSS_l0 l hl hx l.length 0 _ (by omega) (by simp) (by simp)
theorem eqIntSS_l0 (a b : List (List Int)) (h : a.length = b.length) (hl : a.length ≤ 1048576) (hx : ∀ x ∈ a, x.length ≤ 35184372088832) : ∀ (d i : Nat), i + d = a.length → Ev (fun k => laws_eqIntSS.l0 k a b (i : Int)) (decide (a.drop i = b.drop i)) := by
  intro d
  induction d with
  | zero =>
    intro i hi
    refine Ev.round (f := fun _ => some true) (Ev.some_ ?_) (fun k => by simp only [laws_eqIntSS.l0]; rw [if_neg (by omega)])
    rw [List.drop_of_length_le (by omega), List.drop_of_length_le (by omega)]; simp
  | succ d ih =>
    intro i hi
    have hi1 : i < a.length := by omega
    refine Ev.succ ?_
    simp only [laws_eqIntSS.l0]
    refine Ev.pos (by omega) (Ev.pos (by omega) (Ev.pos (by omega) (Ev.next (eqIntS_ev _ _ (hx _ (rdL1_mem hi1))) ?_)))
    rw [w64_add (by omega) (by omega), drop_rdL1 (xs := a) (i := i) (by omega), drop_rdL1 (xs := b) (i := i) (by omega)]
    by_cases he : rd_L1 a i = rd_L1 b i
    · exact (Ev.pos (by simp [he]) (ih (i + 1) (by omega))).to (by simp [he])
    · exact (Ev.neg (by simp [he]) (Ev.some_ rfl)).to (by simp [he])
theorem eqIntSS_ev (a b : List (List Int)) (hl : a.length ≤ 1048576) (hx : ∀ x ∈ a, x.length ≤ 35184372088832) : Ev (fun k => laws_eqIntSS.f k a b) (decide (a = b)) := by
  unfold laws_eqIntSS.f
  by_cases h : a.length = b.length
  · exact Ev.pos (by omega) (eqIntSS_l0 a b h hl hx a.length 0 (by omega))
  · exact (Ev.neg (by omega) (Ev.some_ rfl)).to (by simp; intro e; exact h (by rw [e]))
/-- What is left of n when t are taken: -1 where there are not so many. -/
def leftB (n t : Int) : Int := if n < t then -1 else n - t
theorem leftB_lt {n t : Int} (h : n < t) : leftB n t = -1 := if_pos h
theorem leftB_ge {n t : Int} (h : ¬ n < t) : leftB n t = n - t := if_neg h
theorem leftB_two {n s t : Int} (h : ¬ n < s) (ht : 0 ≤ t) : leftB (n - s) t = leftB n (s + t) := by unfold leftB; split <;> split <;> omega
theorem szIntS_eq (x : List Int) (n : Int) (h0 : 0 ≤ n) (h1 : n ≤ 1048576) (hx : x.length ≤ maxLen) : laws_szIntS.f x n = some (leftB n x.length) := by
  unfold maxLen at hx
  unfold laws_szIntS.f leftB
  rw [w64 (by omega) (by omega)]
  by_cases h : n < x.length
  · rw [if_pos (by omega), if_pos h]
  · rw [if_neg (by omega), if_neg h]
theorem szIntSS_l0 (l : List (List Int)) (hl : l.length ≤ 1048576) (hx : ∀ x ∈ l, x.length ≤ maxLen) : ∀ (d i : Nat) (n : Int), i + d = l.length → 0 ≤ n → n ≤ 1048576 → Ev (fun k => laws_szIntSS.l0 k l n (i : Int)) (leftB n (totL (l.drop i))) := by
  intro d
  induction d with
  | zero =>
    intro i n hi h0 h1
    refine Ev.succ ?_
    simp only [laws_szIntSS.l0]
    refine Ev.neg (by omega) (Ev.some_ ?_)
    rw [List.drop_of_length_le (by omega)]; simp only [totL]; rw [leftB_ge (by omega)]; omega
  | succ d ih =>
    intro i n hi h0 h1
    have hi1 : i < l.length := by omega
    have hp := totL_nonneg (l.drop (i + 1))
    refine Ev.succ ?_
    simp only [laws_szIntSS.l0]
    rw [szIntS_eq _ n h0 h1 (hx _ (rdL1_mem hi1)), w64_add (by omega) (by omega), drop_rdL1 hi1]
    simp only [Option.bind_some, totL]
    refine Ev.pos (by omega) (Ev.pos (by omega) ?_)
    by_cases hn : n < ((rd_L1 l i).length : Int)
    · rw [leftB_lt hn, leftB_lt (by omega)]
      exact Ev.pos (by omega) (Ev.some_ rfl)
    · rw [leftB_ge hn, ← leftB_two hn hp]
      exact Ev.neg (by omega) (ih (i + 1) _ (by omega) (by omega) (by omega))
theorem szIntSS_ev (l : List (List Int)) (n : Int) (h0 : 0 ≤ n) (h1 : n ≤ 1048576) (hm : l.length ≤ maxLen) (hx : ∀ x ∈ l, x.length ≤ maxLen) : Ev (fun k => laws_szIntSS.f k l n) (leftB n (l.length + totL l)) := by
  unfold maxLen at hm
  have hp := totL_nonneg l
  unfold laws_szIntSS.f
  rw [w64 (by omega) (by omega)]
  by_cases h : n < (l.length : Int)
  · rw [leftB_lt (by omega)]; exact Ev.pos (by omega) (Ev.some_ rfl)
  · rw [← leftB_two h hp]
    exact Ev.neg (by omega) (szIntSS_l0 l (by omega) hx l.length 0 _ (by omega) (by omega) (by omega))
def iota (a : Int) : Nat → List Int
  | 0 => []
  | n + 1 => a :: iota (a + 1) n
theorem iota_length : ∀ (n : Nat) (a : Int), (iota a n).length = n
  | 0, _ => rfl
  | n + 1, a => by simp [iota, iota_length n]
theorem markIntS_l0 (m : Nat) (hm : m ≤ 1048576) : ∀ (d i : Nat) (l : List Int) (a : Int), i + d = l.length → l.length ≤ 1048576 → 0 ≤ a → a ≤ 1000000000 + i → Ev (fun k => laws_markIntS.l0 k l a (i : Int)) (a + d, l.take i ++ iota a d) := by
  intro d
  induction d with
  | zero =>
    intro i l a hi hl h0 h1
    refine Ev.succ ?_
    simp only [laws_markIntS.l0]
    refine Ev.neg (by omega) (Ev.some_ ?_)
    rw [List.take_of_length_le (by omega)]; simp [iota]
  | succ d ih =>
    intro i l a hi hl h0 h1
    refine Ev.succ ?_
    simp only [laws_markIntS.l0]
    refine Ev.pos (by omega) (Ev.pos (by omega) ?_)
    rw [w64_add (by omega) (by omega), w64_add (by omega) (by omega)]
    refine (ih (i + 1) (l.set i a) (a + 1) (by simp; omega) (by simpa using hl) (by omega) (by omega)).to ?_
    rw [take_set_end (by omega)]
    simp only [iota, List.append_assoc, List.cons_append, List.nil_append, Prod.mk.injEq, and_true]
    omega
theorem markIntS_ev (l : List Int) (a : Int) (hl : l.length ≤ 1048576) (h0 : 0 ≤ a) (h1 : a ≤ 1000000000) : Ev (fun k => laws_markIntS.f k l a) (a + l.length, iota a l.length) := by
  unfold laws_markIntS.f
  exact (markIntS_l0 l.length hl l.length 0 l a (by omega) hl h0 (by omega)).to (by simp)
theorem heldIntS_l0 (p : List Int) : ∀ (d : Nat) (a : Int) (l : List Int), l = p ++ iota a d → l.length ≤ 1048576 → ∀ i : Nat, i = p.length → 0 ≤ a → a ≤ 1000000000 + i → Ev (fun k => laws_heldIntS.l0 k l a (i : Int)) (a + d) := by
  intro d
  induction d generalizing p with
  | zero =>
    intro a l hl hn i hi h0 h1
    refine Ev.succ ?_
    simp only [laws_heldIntS.l0]
    have : l.length = p.length := by rw [hl]; simp [iota]
    exact Ev.neg (by omega) (Ev.some_ (by omega))
  | succ d ih =>
    intro a l hl hn i hi h0 h1
    have e : l.length = p.length + (d + 1) := by rw [hl]; simp [iota, iota_length]
    refine Ev.succ ?_
    simp only [laws_heldIntS.l0]
    refine Ev.pos (by omega) (Ev.pos (by omega) (Ev.pos ?_ ?_))
    · rw [rd_get l i (by omega)]
      subst hl
      rw [List.getElem_append_right (by omega)]
      simp [iota, hi]
    · rw [w64_add (by omega) (by omega), w64_add (by omega) (by omega)]
      exact (ih (p ++ [a]) (a + 1) l (by rw [hl]; simp [iota]) hn (i + 1) (by simp [hi]) (by omega) (by omega)).to (by omega)
theorem heldIntS_ev (n : Nat) (a : Int) (hn : n ≤ 1048576) (h0 : 0 ≤ a) (h1 : a ≤ 1000000000) : Ev (fun k => laws_heldIntS.f k (iota a n) a) (a + n) :=
  heldIntS_l0 [] n a (iota a n) (by simp) (by rw [iota_length]; exact hn) 0 rfl h0 (by omega)
theorem markSS_go (l : List (List Int)) : ∀ (a : Int), 0 ≤ a → a + totL l ≤ 1000000000 → (∀ x ∈ l, x.length ≤ 1048576) → Ev (fun k => laws_markIntSS.go k l a) (a + totL l) := by
  induction l with
  | nil => intro a _ _ _; exact Ev.some_ (by simp [totL])
  | cons x l ih =>
    intro a h0 h1 hx
    have hn := totL_nonneg l
    simp only [totL] at h1 ⊢
    simp only [laws_markIntSS.go]
    exact Ev.next (markIntS_ev x a (hx x (by simp)) h0 (by omega)) ((ih (a + x.length) (by omega) (by omega) (fun y hy => hx y (by simp [hy]))).to (by omega))
theorem markIntSS_ev (l : List (List Int)) (a : Int) (hl : l.length ≤ 1048576) (h0 : 0 ≤ a) (h1 : a + totL l ≤ 1000000000) (hx : ∀ x ∈ l, x.length ≤ 1048576) : Ev (fun k => laws_markIntSS.f k l a) (a + totL l) := by
  unfold laws_markIntSS.f
  exact Ev.pos (by omega) (markSS_go l a h0 h1 hx)
def iotaSS : List (List Int) → Int → List (List Int)
  | [], _ => []
  | x :: xs, a => iota a x.length :: iotaSS xs (a + x.length)
theorem iotaSS_length : ∀ (l : List (List Int)) (a : Int), (iotaSS l a).length = l.length
  | [], _ => rfl
  | x :: xs, a => by simp [iotaSS, iotaSS_length xs]
theorem markSS_go2 (l : List (List Int)) : ∀ (a : Int), 0 ≤ a → a + totL l ≤ 1000000000 → (∀ x ∈ l, x.length ≤ 1048576) → Ev (fun k => laws_markIntSS.go2 k l a) (a + totL l, iotaSS l a) := by
  induction l with
  | nil => intro a _ _ _; exact Ev.some_ (by simp [totL, iotaSS])
  | cons x l ih =>
    intro a h0 h1 hx
    have hn := totL_nonneg l
    simp only [totL] at h1 ⊢
    simp only [laws_markIntSS.go2, iotaSS]
    exact Ev.next (markIntS_ev x a (hx x (by simp)) h0 (by omega)) (Ev.next (ih (a + x.length) (by omega) (by omega) (fun y hy => hx y (by simp [hy]))) (Ev.some_ (by simp only [Prod.mk.injEq, and_true]; omega)))
theorem heldSS_l0 : ∀ (d p : List (List Int)) (a : Int) (l : List (List Int)), l = p ++ iotaSS d a → l.length ≤ 1048576 → 0 ≤ a → a + totL d ≤ 1000000000 → (∀ x ∈ d, x.length ≤ 1048576) → Ev (fun k => laws_heldIntSS.l0 k l a (p.length : Int)) (a + totL d)
  | [], p, a, l, hl, hn, h0, h1, hx => by
    refine Ev.succ ?_
    simp only [laws_heldIntSS.l0]
    have : l.length = p.length := by rw [hl]; simp [iotaSS]
    exact Ev.neg (by omega) (Ev.some_ (by simp [totL]))
  | x :: d, p, a, l, hl, hn, h0, h1, hx => by
    have ht := totL_nonneg d
    simp only [totL] at h1 ⊢
    have e : l.length = p.length + (d.length + 1) := by rw [hl]; simp [iotaSS, iotaSS_length]
    refine Ev.succ ?_
    simp only [laws_heldIntSS.l0]
    have er : rd_L1 l (p.length : Int) = iota a x.length := by
      rw [rdL1_nat l p.length (by omega)]
      subst hl
      rw [List.getElem_append_right (by omega)]
      simp [iotaSS]
    rw [er, w64_add (by omega) (by omega)]
    refine Ev.pos (by omega) (Ev.pos (by omega) (Ev.next (heldIntS_ev x.length a (hx x (by simp)) h0 (by omega)) (Ev.neg (by omega) ?_)))
    have := heldSS_l0 d (p ++ [iota a x.length]) (a + x.length) l (by rw [hl]; simp [iotaSS]) hn (by omega) (by omega) (fun y hy => hx y (by simp [hy]))
    rw [List.length_append, List.length_singleton] at this
    exact this.to (by omega)
theorem heldIntSS_ev (l : List (List Int)) (a : Int) (hl : l.length ≤ 1048576) (h0 : 0 ≤ a) (h1 : a + totL l ≤ 1000000000) (hx : ∀ x ∈ l, x.length ≤ 1048576) : Ev (fun k => laws_heldIntSS.f k (iotaSS l a) a) (a + totL l) := by
  unfold laws_heldIntSS.f
  exact heldSS_l0 l [] a _ rfl (by rw [iotaSS_length]; exact hl) h0 h1 hx
theorem FnExactBasis (l0 : List (List Int)) (a1 : Int) (m0 : l0.length ≤ maxLen) (w0 : ∀ x ∈ l0, x.length ≤ maxLen ∧ ∀ y ∈ x, (Lit.int .i64 y).wf = true) (g1 : (Lit.int .i64 a1).wf = true) : ∃ k, laws_FnExactBasis.f k l0 a1 = some true := by
  refine Ev.rounds ?_
  unfold laws_FnExactBasis.f
  refine Ev.next (szIntSS_ev l0 1048576 (by omega) (by omega) m0 (fun x hx => (w0 x hx).1)) ?_
  have hp := totL_nonneg l0
  by_cases h : (1048576 : Int) < l0.length + totL l0
  · rw [leftB_lt h]; exact Ev.pos (by omega) (Ev.some_ rfl)
  rw [leftB_ge h]
  have hx : ∀ x ∈ l0, x.length ≤ 1048576 := fun x hx => by have := totL_mem hx; omega
  have hx2 : ∀ x ∈ l0, x.length ≤ 35184372088832 := fun x h_ => by have := hx x h_; omega
  have ht := toIntSS_ev l0 (by omega) hx2
  have hg : ∃ g : List (List Int) × Bool, g = (if checksB l0 a1 = true then (bsBasis l0 a1.toNat, true) else ([], false)) ∧ g.1.length ≤ 128 ∧ (∀ x ∈ g.1, x.length ≤ 128) := by
    refine ⟨_, rfl, ?_⟩
    cases hc : checksB l0 a1
    · simp
    · have hb := bsBasis_rows l0 a1.toNat
      have hn := (checksIn hc).n1
      refine ⟨by simp only [if_true]; omega, fun x hx => ?_⟩
      simp only [if_true] at hx
      rw [hb.1 x hx]; omega
  obtain ⟨g, eg, g1_, g2_⟩ := hg
  have si := sBasis_ev l0 a1
  have ii := iBasis_ev l0 a1
  rw [← eg] at si ii
  have tg : totL g.1 ≤ 128 * 128 := by
    have : ∀ l : List (List Int), (∀ x ∈ l, x.length ≤ 128) → totL l ≤ 128 * l.length := by
      intro l
      induction l with
      | nil => intro _; simp [totL]
      | cons x l ih => intro hl; have h1 := hl x (by simp); have h2 := ih (fun y hy => hl y (by simp [hy])); simp only [totL, List.length_cons]; omega
    have := this g.1 g2_
    omega
  have t0 := totL_nonneg g.1
  have gx : ∀ x ∈ g.1, x.length ≤ 1048576 := fun x hx => by have := g2_ x hx; omega
  refine Ev.neg (by omega) (Ev.next ht (Ev.next si (Ev.next ii (Ev.next (markIntSS_ev l0 1 (by omega) (by omega) (by omega) hx) (Ev.next (markSS_go2 g.1 1 (by omega) (by omega) gx) (Ev.next (heldIntSS_ev g.1 1 (by omega) (by omega) (by omega) gx) ?_))))))
  obtain ⟨K1, h1⟩ := eqIntSS_ev g.1 g.1 (by omega) (fun x hx => by have := g2_ x hx; omega)
  obtain ⟨K2, h2⟩ := eqIntSS_ev l0 l0 (by omega) hx2
  refine ⟨K1 + K2, fun k hk => ?_⟩
  refine if_pos ⟨?_, ?_, rfl, by omega, rfl, by omega, by omega⟩
  · exact (h1 k (by omega)).trans (by simp)
  · exact (h2 k (by omega)).trans (by simp)
end Go.Proofs.Ytpphjbogijjnpaa.Pure
