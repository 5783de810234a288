import Derived.Test.YtbhjgkbikmjaaaaPFnExactNodeNamex2
import Derived.Test.YtbhjgkbikmjaaaaAid
set_option linter.unusedVariables false
set_option linter.unusedSimpArgs false
namespace Go.Proofs.Ytbhjgkbikmjaaaa.Pure
open Go Go.RowKit Go.Proofs.Ytbhjgkbikmjaaaa.PFnExactNodeName Go.Proofs.YtbhjgkbikmjaaaaW.PrintWords Go.Proofs.YtbhjgkbikmjaaaaW.PrintLast Go.Proofs.YtbhjgkbikmjaaaaW.PrintMore
theorem wadd1 {e : Nat} (h : e ≤ 9000000000000000000) : wrap64 ((e : Int) + 1) = ((e + 1 : Nat) : Int) := by rw [w64 (by omega) (by omega)]; omega
theorem wadd2 {e : Nat} (h : e ≤ 9000000000000000000) : wrap64 ((e : Int) + 2) = ((e + 2 : Nat) : Int) := by rw [w64 (by omega) (by omega)]; omega
theorem wadd3 {e : Nat} (h : e ≤ 9000000000000000000) : wrap64 ((e : Int) + 3) = ((e + 3 : Nat) : Int) := by rw [w64 (by omega) (by omega)]; omega
theorem wround8 {e u : Nat} (h : e ≤ 1000000000000000000) (h2 : u ≤ 1000000000000000000) : wrap64 ((e : Int) + wrap64 (Int.tdiv (wrap64 ((u : Int) + 7)) 8)) = ((e + (u + 7) / 8 : Nat) : Int) := by
  rw [w64 (n := (u : Int) + 7) (by omega) (by omega), Int.tdiv_eq_ediv_of_nonneg (by omega), w64 (n := ((u : Int) + 7) / 8) (by omega) (by omega), w64 (by omega) (by omega)]; omega
theorem l1In_eq (a b c : Int) : spec_l1In.f a b c = some (decide (b ≤ a) && decide (a ≤ c)) := by
  unfold spec_l1In.f
  by_cases h : a ≥ b
  · rw [if_pos h]; simp [show b ≤ a from h]
  · rw [if_neg h]; simp [show ¬ b ≤ a from h]
theorem bt_get (s : ByteArray) (i : Nat) (h : i < s.size) : bt s (i : Int) = ((s.get! i).toNat : Int) := by
  unfold bt
  rw [dif_pos (by rw [Int.toNat_natCast]; exact h)]
  have e : s.get! i = s[i] := by
    simp [ByteArray.get!, getElem!_pos, h]
    rfl
  rw [e]
  simp only [Int.toNat_natCast]
theorem decode_one (s : ByteArray) (i : Nat) (h : (s.get! i).toNat < 128) : Utf8.decode s i = ((s.get! i).toNat, 1) := by
  simp only [Utf8.decode, Nat.add_zero, h, if_true]
theorem decode_two (s : ByteArray) (i : Nat) (h : 194 ≤ (s.get! i).toNat ∧ (s.get! i).toNat ≤ 223) (h1 : i + 1 < s.size) (h2 : 128 ≤ (s.get! (i + 1)).toNat ∧ (s.get! (i + 1)).toNat ≤ 191) : Utf8.decode s i = (((s.get! i).toNat - 192) * 64 + ((s.get! (i + 1)).toNat - 128), 2) := by
  have e1 : ((s.get! i).toNat / 32 == 6) = true := by rw [beq_iff_eq]; omega
  have e2 : ((s.get! (i + 1)).toNat / 64 == 2) = true := by rw [beq_iff_eq]; omega
  have e3 : decide (i + 1 < s.size) = true := decide_eq_true h1
  have e4 : (s.get! i).toNat % 32 * 64 + (s.get! (i + 1)).toNat % 64 ≥ 128 := by omega
  simp only [Utf8.decode, Nat.add_zero, e1, e2, e3, Bool.and_self, if_true]
  rw [if_neg (by omega), if_pos (by omega)]
  refine Prod.ext ?_ rfl
  simp only
  omega
theorem decode_else (s : ByteArray) (i : Nat) (h0 : 128 ≤ (s.get! i).toNat) (h : ¬ ((194 ≤ (s.get! i).toNat ∧ (s.get! i).toNat ≤ 223) ∧ i + 1 < s.size ∧ 128 ≤ (s.get! (i + 1)).toNat ∧ (s.get! (i + 1)).toNat ≤ 191)) : (Utf8.decode s i).1 = 65533 ∨ 2048 ≤ (Utf8.decode s i).1 := by
  simp only [Utf8.decode, Nat.add_zero]
  rw [if_neg (by omega)]
  split
  · rename_i hc
    rw [Bool.and_eq_true, Bool.and_eq_true, beq_iff_eq, beq_iff_eq, decide_eq_true_eq] at hc
    split
    · exfalso; omega
    · exact .inl rfl
  · split
    · split
      · rename_i hc
        rw [Bool.and_eq_true] at hc
        have := of_decide_eq_true hc.1
        exact .inr (by simp only; omega)
      · exact .inl rfl
    · split
      · split
        · rename_i hc
          rw [Bool.and_eq_true] at hc
          have := of_decide_eq_true hc.1
          exact .inr (by simp only; omega)
        · exact .inl rfl
      · exact .inl rfl
theorem nodeGo_stop (s : ByteArray) (b pos : Nat) (acc : Int) (h : ¬ pos < s.size) : nodeGo s b pos acc = (decide (1 ≤ acc) && decide (acc ≤ 12)) := by
  cases b with
  | zero => rfl
  | succ b => exact if_neg h
theorem letterB_iff (r : Int) : letterB r = true ↔ ((65 ≤ r ∧ r ≤ 90) ∨ (97 ≤ r ∧ r ≤ 122) ∨ ((192 ≤ r ∧ r ≤ 591) ∧ r ≠ 215 ∧ r ≠ 247) ∨ ((913 ≤ r ∧ r ≤ 969) ∧ r ≠ 930)) := by
  simp [letterB]
theorem letterB_yes {r : Int} (h : (65 ≤ r ∧ r ≤ 90) ∨ (97 ≤ r ∧ r ≤ 122) ∨ ((192 ≤ r ∧ r ≤ 591) ∧ r ≠ 215 ∧ r ≠ 247) ∨ ((913 ≤ r ∧ r ≤ 969) ∧ r ≠ 930)) : letterB r = true := (letterB_iff r).2 h
theorem letterB_no {r : Int} (h : ¬ ((65 ≤ r ∧ r ≤ 90) ∨ (97 ≤ r ∧ r ≤ 122) ∨ ((192 ≤ r ∧ r ≤ 591) ∧ r ≠ 215 ∧ r ≠ 247) ∨ ((913 ≤ r ∧ r ≤ 969) ∧ r ≠ 930))) : letterB r = false := by
  cases e : letterB r with
  | true => exact absurd ((letterB_iff r).1 e) h
  | false => rfl
theorem letter_eq (r : Int) : spec_l20Letter.f r = some (letterB r) := by
  unfold spec_l20Letter.f
  simp only [l1In_eq, Option.bind_some]
  repeat' split
  all_goals (try simp only [Bool.and_eq_true, decide_eq_true_eq] at *)
  all_goals first
    | (exfalso; omega)
    | (rw [letterB_yes (by omega)]; done)
    | (rw [letterB_no (by omega)]; done)
    | (by_cases h9 : r = 930
       · rw [letterB_no (by omega)]; simp [h9]
       · rw [letterB_yes (by omega)]; simp [h9])
theorem rune_eq (s : ByteArray) (i : Nat) (h : i < s.size) (hs : s.size ≤ 1048576) : ∃ r n : Int, spec_l20Rune.f s (i : Int) = some (r, n) ∧ ((n = 0 ∧ ∀ b, badRune b ((Utf8.decode s i).1 : Int) = true) ∨ ((n = 1 ∨ n = 2) ∧ n = ((Utf8.decode s i).2 : Int) ∧ r = ((Utf8.decode s i).1 : Int) ∧ r < 65533)) := by
  have b0 := bt_get s i h
  have hb : (s.get! i).toNat < 256 := (s.get! i).toNat_lt
  unfold spec_l20Rune.f
  rw [if_pos (by omega), if_pos (by omega), b0, w64 (n := (((s.get! i).toNat : Nat) : Int)) (by omega) (by omega), wadd1 (e := i) (by omega)]
  by_cases c1 : (s.get! i).toNat < 128
  · rw [if_pos (by omega)]
    refine ⟨_, _, rfl, .inr ⟨.inl rfl, ?_, ?_, by omega⟩⟩ <;> rw [decode_one s i c1] <;> rfl
  · rw [if_neg (by omega)]
    have bad : ¬ ((194 ≤ (s.get! i).toNat ∧ (s.get! i).toNat ≤ 223) ∧ i + 1 < s.size ∧ 128 ≤ (s.get! (i + 1)).toNat ∧ (s.get! (i + 1)).toNat ≤ 191) → ∀ b, badRune b ((Utf8.decode s i).1 : Int) = true := by
      intro hn b
      have hd := decode_else s i (by omega) hn
      unfold badRune
      rcases hd with hd | hd
      · rw [hd]; rfl
      · rw [letterB_no (by omega)]
        have e1 : ((((Utf8.decode s i).1 : Nat) : Int) != 95) = true := by rw [bne_iff_ne]; omega
        have e2 : decide (57 < (((Utf8.decode s i).1 : Nat) : Int)) = true := decide_eq_true (by omega)
        rw [e1, e2]
        simp
    by_cases c2 : (s.get! i).toNat < 194
    · rw [if_pos (by omega)]
      exact ⟨_, _, rfl, .inl ⟨rfl, bad (fun hx => by omega)⟩⟩
    · rw [if_neg (by omega)]
      by_cases c3 : (s.get! i).toNat > 223
      · rw [if_pos (by omega)]
        exact ⟨_, _, rfl, .inl ⟨rfl, bad (fun hx => by omega)⟩⟩
      · rw [if_neg (by omega)]
        by_cases c4 : i + 1 < s.size
        · have b1 := bt_get s (i + 1) c4
          have hb1 : (s.get! (i + 1)).toNat < 256 := (s.get! (i + 1)).toNat_lt
          rw [if_neg (by omega), if_pos (by omega), if_pos (by omega), b1]
          by_cases c5 : (s.get! (i + 1)).toNat < 128
          · rw [if_pos (by omega)]
            exact ⟨_, _, rfl, .inl ⟨rfl, bad (fun hx => by omega)⟩⟩
          · rw [if_neg (by omega)]
            by_cases c6 : (s.get! (i + 1)).toNat > 191
            · rw [if_pos (by omega)]
              exact ⟨_, _, rfl, .inl ⟨rfl, bad (fun hx => by omega)⟩⟩
            · rw [if_neg (by omega)]
              have hd := decode_two s i (by omega) c4 (by omega)
              rw [w64 (n := (((s.get! i).toNat : Nat) : Int) - 192) (by omega) (by omega), w64 (n := ((((s.get! i).toNat : Nat) : Int) - 192) * 64) (by omega) (by omega), w64 (n := (((s.get! (i + 1)).toNat : Nat) : Int)) (by omega) (by omega), w64 (n := ((((s.get! i).toNat : Nat) : Int) - 192) * 64 + (((s.get! (i + 1)).toNat : Nat) : Int)) (by omega) (by omega), w64 (by omega) (by omega)]
              refine ⟨_, _, rfl, .inr ⟨.inr rfl, ?_, ?_, by omega⟩⟩ <;> rw [hd]
              · rfl
              · simp only; omega
        · rw [if_pos (by omega)]
          exact ⟨_, _, rfl, .inl ⟨rfl, bad (fun hx => by omega)⟩⟩
theorem node_l0 (s : ByteArray) (hs : s.size ≤ 1048576) : ∀ (b pos many : Nat), s.size ≤ pos + b → (many = 0 ↔ pos = 0) → many ≤ pos → pos ≤ 2000000 → Ev (fun k => spec_NodeName.l0 k s (many : Int) (pos : Int)) (nodeGo s b pos (many : Int)) := by
  have fin : ∀ (b pos many : Nat), ¬ pos < s.size → Ev (fun k => spec_NodeName.l0 k s (many : Int) (pos : Int)) (nodeGo s b pos (many : Int)) := by
    intro b pos many h
    rw [nodeGo_stop s b pos _ h]
    refine Ev.succ ?_
    simp only [spec_NodeName.l0]
    exact Ev.neg (by omega) (Ev.next (Ev.here (l1In_eq _ _ _)) (Ev.some_ rfl))
  intro b
  induction b with
  | zero => exact fun pos many h1 _ _ _ => fin 0 pos many (by omega)
  | succ b ih =>
    intro pos many h1 h2 h3 h4
    by_cases hp : pos < s.size
    · rw [show nodeGo s (b + 1) pos (many : Int) = _ from if_pos hp]
      obtain ⟨r, n, hr, hd⟩ := rune_eq s pos hp hs
      refine Ev.succ ?_
      simp only [spec_NodeName.l0]
      refine Ev.pos (by omega) (Ev.next (Ev.here hr) ?_)
      rcases hd with ⟨hn, hbad⟩ | ⟨hn, hn2, hr2, hr3⟩
      · rw [hbad, if_pos rfl]
        exact Ev.pos hn (Ev.some_ rfl)
      · have nx := ih (pos + (Utf8.decode s pos).2) (many + 1) (by omega) (by omega) (by omega) (by omega)
        rw [wadd1 (e := many) (by omega)] 
        rw [show wrap64 ((pos : Int) + n) = ((pos + (Utf8.decode s pos).2 : Nat) : Int) by rw [w64 (by omega) (by omega)]; omega]
        rw [← hr2]
        refine Ev.neg (show ¬ n = 0 by omega) (Ev.next (Ev.here (letter_eq r)) ?_)
        have e0 : (r == 65533) = false := by rw [beq_eq_false_iff_ne]; omega
        unfold badRune
        rw [e0, Bool.false_or]
        cases e1 : letterB r with
        | true =>
          rw [if_neg (by simp)]
          exact Ev.pos rfl nx
        | false =>
          refine Ev.neg (by decide) ?_
          by_cases c1 : many = 0
          · have hp0 : pos = 0 := h2.1 c1
            rw [if_pos (by simp [hp0])]
            exact Ev.pos (by omega) (Ev.some_ rfl)
          · have hp0 : (pos == 0) = false := by rw [beq_eq_false_iff_ne]; exact fun hx => c1 (h2.2 hx)
            refine Ev.neg (by omega) ?_
            rw [hp0]
            by_cases c2 : r = 95
            · rw [if_neg (by simp [c2])]
              exact Ev.pos c2 nx
            · refine Ev.neg c2 (Ev.next (Ev.here (l1In_eq _ _ _)) ?_)
              have e2 : (r != 95) = true := by rw [bne_iff_ne]; exact c2
              rw [e2]
              by_cases c3 : 48 ≤ r ∧ r ≤ 57
              · rw [if_neg (by simp; omega)]
                exact Ev.pos (by simp; omega) nx
              · rw [if_pos (by simp; omega)]
                exact Ev.neg (by simp; omega) (Ev.some_ rfl)
    · exact fin (b + 1) pos many hp
theorem FnExactNodeName (s0 : ByteArray) (w0 : s0.size ≤ maxLen) : ∃ k, laws_FnExactNodeName.f k s0 = some true := by
  refine Ev.rounds ?_
  unfold laws_FnExactNodeName.f
  refine Ev.both (fun _ => Ev.some_ rfl) (fun hl => ?_)
  refine Ev.next (node_l0 s0 (by omega) s0.size 0 0 (by omega) (by omega) (by omega) (by omega)) (Ev.next (Ev.here rfl) (Ev.neg (by simp) (Ev.some_ rfl)))
end Go.Proofs.Ytbhjgkbikmjaaaa.Pure
