import Derived.Test.YtckadpomhdjkhaaPFnExactPlanOkx9
import Derived.Test.YtckadpomhdjkhaaAid
set_option linter.unusedVariables false
set_option linter.unusedSimpArgs false
namespace Go.Proofs.Ytckadpomhdjkhaa.Pure
open Go Go.RowKit Go.Proofs.Ytckadpomhdjkhaa.PFnExactPlanOk Go.Proofs.YtckadpomhdjkhaaW.PrintWords Go.Proofs.YtckadpomhdjkhaaW.PrintLast Go.Proofs.YtckadpomhdjkhaaW.PrintMore
theorem wadd1 {e : Nat} (h : e ≤ 9000000000000000000) : wrap64 ((e : Int) + 1) = ((e + 1 : Nat) : Int) := by rw [w64 (by omega) (by omega)]; omega
theorem wadd2 {e : Nat} (h : e ≤ 9000000000000000000) : wrap64 ((e : Int) + 2) = ((e + 2 : Nat) : Int) := by rw [w64 (by omega) (by omega)]; omega
theorem wadd3 {e : Nat} (h : e ≤ 9000000000000000000) : wrap64 ((e : Int) + 3) = ((e + 3 : Nat) : Int) := by rw [w64 (by omega) (by omega)]; omega
theorem wround8 {e u : Nat} (h : e ≤ 1000000000000000000) (h2 : u ≤ 1000000000000000000) : wrap64 ((e : Int) + wrap64 (Int.tdiv (wrap64 ((u : Int) + 7)) 8)) = ((e + (u + 7) / 8 : Nat) : Int) := by
  rw [w64 (n := (u : Int) + 7) (by omega) (by omega), Int.tdiv_eq_ediv_of_nonneg (by omega), w64 (n := ((u : Int) + 7) / 8) (by omega) (by omega), w64 (by omega) (by omega)]; omega
theorem l1In_eq (a b c : Int) : spec_l1In.f a b c = some (decide (b ≤ a) && decide (a ≤ c)) := by
  unfold spec_l1In.f
  by_cases h : a ≥ b
  · rw [if_pos h]; simp [show b ≤ a from h]
  · rw [if_neg h]; simp [show ¬ b ≤ a from h]
theorem bt_get (s : ByteArray) (i : Nat) (h : i < s.size) : bt s (i : Int) = ((s.get! i).toNat : Int) := by
  unfold bt
  rw [dif_pos (by rw [Int.toNat_natCast]; exact h)]
  have e : s.get! i = s[i] := by
    simp [ByteArray.get!, getElem!_pos, h]
    rfl
  rw [e]
  simp only [Int.toNat_natCast]
theorem decode_one (s : ByteArray) (i : Nat) (h : (s.get! i).toNat < 128) : Utf8.decode s i = ((s.get! i).toNat, 1) := by
  simp only [Utf8.decode, Nat.add_zero, h, if_true]
theorem decode_two (s : ByteArray) (i : Nat) (h : 194 ≤ (s.get! i).toNat ∧ (s.get! i).toNat ≤ 223) (h1 : i + 1 < s.size) (h2 : 128 ≤ (s.get! (i + 1)).toNat ∧ (s.get! (i + 1)).toNat ≤ 191) : Utf8.decode s i = (((s.get! i).toNat - 192) * 64 + ((s.get! (i + 1)).toNat - 128), 2) := by
  have e1 : ((s.get! i).toNat / 32 == 6) = true := by rw [beq_iff_eq]; omega
  have e2 : ((s.get! (i + 1)).toNat / 64 == 2) = true := by rw [beq_iff_eq]; omega
  have e3 : decide (i + 1 < s.size) = true := decide_eq_true h1
  have e4 : (s.get! i).toNat % 32 * 64 + (s.get! (i + 1)).toNat % 64 ≥ 128 := by omega
  simp only [Utf8.decode, Nat.add_zero, e1, e2, e3, Bool.and_self, if_true]
  rw [if_neg (by omega), if_pos (by omega)]
  refine Prod.ext ?_ rfl
  simp only
  omega
theorem decode_else (s : ByteArray) (i : Nat) (h0 : 128 ≤ (s.get! i).toNat) (h : ¬ ((194 ≤ (s.get! i).toNat ∧ (s.get! i).toNat ≤ 223) ∧ i + 1 < s.size ∧ 128 ≤ (s.get! (i + 1)).toNat ∧ (s.get! (i + 1)).toNat ≤ 191)) : (Utf8.decode s i).1 = 65533 ∨ 2048 ≤ (Utf8.decode s i).1 := by
  simp only [Utf8.decode, Nat.add_zero]
  rw [if_neg (by omega)]
  split
  · rename_i hc
    rw [Bool.and_eq_true, Bool.and_eq_true, beq_iff_eq, beq_iff_eq, decide_eq_true_eq] at hc
    split
    · exfalso; omega
    · exact .inl rfl
  · split
    · split
      · rename_i hc
        rw [Bool.and_eq_true] at hc
        have := of_decide_eq_true hc.1
        exact .inr (by simp only; omega)
      · exact .inl rfl
    · split
      · split
        · rename_i hc
          rw [Bool.and_eq_true] at hc
          have := of_decide_eq_true hc.1
          exact .inr (by simp only; omega)
        · exact .inl rfl
      · exact .inl rfl
theorem nodeGo_stop (s : ByteArray) (b pos : Nat) (acc : Int) (h : ¬ pos < s.size) : nodeGo s b pos acc = (decide (1 ≤ acc) && decide (acc ≤ 12)) := by
  cases b with
  | zero => rfl
  | succ b => exact if_neg h
theorem letterB_iff (r : Int) : letterB r = true ↔ ((65 ≤ r ∧ r ≤ 90) ∨ (97 ≤ r ∧ r ≤ 122) ∨ ((192 ≤ r ∧ r ≤ 591) ∧ r ≠ 215 ∧ r ≠ 247) ∨ ((913 ≤ r ∧ r ≤ 969) ∧ r ≠ 930)) := by
  simp [letterB]
theorem letterB_yes {r : Int} (h : (65 ≤ r ∧ r ≤ 90) ∨ (97 ≤ r ∧ r ≤ 122) ∨ ((192 ≤ r ∧ r ≤ 591) ∧ r ≠ 215 ∧ r ≠ 247) ∨ ((913 ≤ r ∧ r ≤ 969) ∧ r ≠ 930)) : letterB r = true := (letterB_iff r).2 h
theorem letterB_no {r : Int} (h : ¬ ((65 ≤ r ∧ r ≤ 90) ∨ (97 ≤ r ∧ r ≤ 122) ∨ ((192 ≤ r ∧ r ≤ 591) ∧ r ≠ 215 ∧ r ≠ 247) ∨ ((913 ≤ r ∧ r ≤ 969) ∧ r ≠ 930))) : letterB r = false := by
  cases e : letterB r with
  | true => exact absurd ((letterB_iff r).1 e) h
  | false => rfl
theorem letter_eq (r : Int) : spec_l20Letter.f r = some (letterB r) := by
  unfold spec_l20Letter.f
  simp only [l1In_eq, Option.bind_some]
  repeat' split
  all_goals (try simp only [Bool.and_eq_true, decide_eq_true_eq] at *)
  all_goals first
    | (exfalso; omega)
    | (rw [letterB_yes (by omega)]; done)
    | (rw [letterB_no (by omega)]; done)
    | (by_cases h9 : r = 930
       · rw [letterB_no (by omega)]; simp [h9]
       · rw [letterB_yes (by omega)]; simp [h9])
theorem rune_eq (s : ByteArray) (i : Nat) (h : i < s.size) (hs : s.size ≤ 1048576) : ∃ r n : Int, spec_l20Rune.f s (i : Int) = some (r, n) ∧ ((n = 0 ∧ ∀ b, badRune b ((Utf8.decode s i).1 : Int) = true) ∨ ((n = 1 ∨ n = 2) ∧ n = ((Utf8.decode s i).2 : Int) ∧ r = ((Utf8.decode s i).1 : Int) ∧ r < 65533)) := by
  have b0 := bt_get s i h
  have hb : (s.get! i).toNat < 256 := (s.get! i).toNat_lt
  unfold spec_l20Rune.f
  rw [if_pos (by omega), if_pos (by omega), b0, w64 (n := (((s.get! i).toNat : Nat) : Int)) (by omega) (by omega), wadd1 (e := i) (by omega)]
  by_cases c1 : (s.get! i).toNat < 128
  · rw [if_pos (by omega)]
    refine ⟨_, _, rfl, .inr ⟨.inl rfl, ?_, ?_, by omega⟩⟩ <;> rw [decode_one s i c1] <;> rfl
  · rw [if_neg (by omega)]
    have bad : ¬ ((194 ≤ (s.get! i).toNat ∧ (s.get! i).toNat ≤ 223) ∧ i + 1 < s.size ∧ 128 ≤ (s.get! (i + 1)).toNat ∧ (s.get! (i + 1)).toNat ≤ 191) → ∀ b, badRune b ((Utf8.decode s i).1 : Int) = true := by
      intro hn b
      have hd := decode_else s i (by omega) hn
      unfold badRune
      rcases hd with hd | hd
      · rw [hd]; rfl
      · rw [letterB_no (by omega)]
        have e1 : ((((Utf8.decode s i).1 : Nat) : Int) != 95) = true := by rw [bne_iff_ne]; omega
        have e2 : decide (57 < (((Utf8.decode s i).1 : Nat) : Int)) = true := decide_eq_true (by omega)
        rw [e1, e2]
        simp
    by_cases c2 : (s.get! i).toNat < 194
    · rw [if_pos (by omega)]
      exact ⟨_, _, rfl, .inl ⟨rfl, bad (fun hx => by omega)⟩⟩
    · rw [if_neg (by omega)]
      by_cases c3 : (s.get! i).toNat > 223
      · rw [if_pos (by omega)]
        exact ⟨_, _, rfl, .inl ⟨rfl, bad (fun hx => by omega)⟩⟩
      · rw [if_neg (by omega)]
        by_cases c4 : i + 1 < s.size
        · have b1 := bt_get s (i + 1) c4
          have hb1 : (s.get! (i + 1)).toNat < 256 := (s.get! (i + 1)).toNat_lt
          rw [if_neg (by omega), if_pos (by omega), if_pos (by omega), b1]
          by_cases c5 : (s.get! (i + 1)).toNat < 128
          · rw [if_pos (by omega)]
            exact ⟨_, _, rfl, .inl ⟨rfl, bad (fun hx => by omega)⟩⟩
          · rw [if_neg (by omega)]
            by_cases c6 : (s.get! (i + 1)).toNat > 191
            · rw [if_pos (by omega)]
              exact ⟨_, _, rfl, .inl ⟨rfl, bad (fun hx => by omega)⟩⟩
            · rw [if_neg (by omega)]
              have hd := decode_two s i (by omega) c4 (by omega)
              rw [w64 (n := (((s.get! i).toNat : Nat) : Int) - 192) (by omega) (by omega), w64 (n := ((((s.get! i).toNat : Nat) : Int) - 192) * 64) (by omega) (by omega), w64 (n := (((s.get! (i + 1)).toNat : Nat) : Int)) (by omega) (by omega), w64 (n := ((((s.get! i).toNat : Nat) : Int) - 192) * 64 + (((s.get! (i + 1)).toNat : Nat) : Int)) (by omega) (by omega), w64 (by omega) (by omega)]
              refine ⟨_, _, rfl, .inr ⟨.inr rfl, ?_, ?_, by omega⟩⟩ <;> rw [hd]
              · rfl
              · simp only; omega
        · rw [if_pos (by omega)]
          exact ⟨_, _, rfl, .inl ⟨rfl, bad (fun hx => by omega)⟩⟩
theorem node_l0 (s : ByteArray) (hs : s.size ≤ 1048576) : ∀ (b pos many : Nat), s.size ≤ pos + b → (many = 0 ↔ pos = 0) → many ≤ pos → pos ≤ 2000000 → Ev (fun k => spec_NodeName.l0 k s (many : Int) (pos : Int)) (nodeGo s b pos (many : Int)) := by
  have fin : ∀ (b pos many : Nat), ¬ pos < s.size → Ev (fun k => spec_NodeName.l0 k s (many : Int) (pos : Int)) (nodeGo s b pos (many : Int)) := by
    intro b pos many h
    rw [nodeGo_stop s b pos _ h]
    refine Ev.succ ?_
    simp only [spec_NodeName.l0]
    exact Ev.neg (by omega) (Ev.next (Ev.here (l1In_eq _ _ _)) (Ev.some_ rfl))
  intro b
  induction b with
  | zero => exact fun pos many h1 _ _ _ => fin 0 pos many (by omega)
  | succ b ih =>
    intro pos many h1 h2 h3 h4
    by_cases hp : pos < s.size
    · rw [show nodeGo s (b + 1) pos (many : Int) = _ from if_pos hp]
      obtain ⟨r, n, hr, hd⟩ := rune_eq s pos hp hs
      refine Ev.succ ?_
      simp only [spec_NodeName.l0]
      refine Ev.pos (by omega) (Ev.next (Ev.here hr) ?_)
      rcases hd with ⟨hn, hbad⟩ | ⟨hn, hn2, hr2, hr3⟩
      · rw [hbad, if_pos rfl]
        exact Ev.pos hn (Ev.some_ rfl)
      · have nx := ih (pos + (Utf8.decode s pos).2) (many + 1) (by omega) (by omega) (by omega) (by omega)
        rw [wadd1 (e := many) (by omega)] 
        rw [show wrap64 ((pos : Int) + n) = ((pos + (Utf8.decode s pos).2 : Nat) : Int) by rw [w64 (by omega) (by omega)]; omega]
        rw [← hr2]
        refine Ev.neg (show ¬ n = 0 by omega) (Ev.next (Ev.here (letter_eq r)) ?_)
        have e0 : (r == 65533) = false := by rw [beq_eq_false_iff_ne]; omega
        unfold badRune
        rw [e0, Bool.false_or]
        cases e1 : letterB r with
        | true =>
          rw [if_neg (by simp)]
          exact Ev.pos rfl nx
        | false =>
          refine Ev.neg (by decide) ?_
          by_cases c1 : many = 0
          · have hp0 : pos = 0 := h2.1 c1
            rw [if_pos (by simp [hp0])]
            exact Ev.pos (by omega) (Ev.some_ rfl)
          · have hp0 : (pos == 0) = false := by rw [beq_eq_false_iff_ne]; exact fun hx => c1 (h2.2 hx)
            refine Ev.neg (by omega) ?_
            rw [hp0]
            by_cases c2 : r = 95
            · rw [if_neg (by simp [c2])]
              exact Ev.pos c2 nx
            · refine Ev.neg c2 (Ev.next (Ev.here (l1In_eq _ _ _)) ?_)
              have e2 : (r != 95) = true := by rw [bne_iff_ne]; exact c2
              rw [e2]
              by_cases c3 : 48 ≤ r ∧ r ≤ 57
              · rw [if_neg (by simp; omega)]
                exact Ev.pos (by simp; omega) nx
              · rw [if_pos (by simp; omega)]
                exact Ev.neg (by simp; omega) (Ev.some_ rfl)
    · exact fin (b + 1) pos many hp
def cNode (x : S126) : S94 := ⟨x.f0, x.f1, x.f2⟩
def cLink (x : S130) : S97 := ⟨x.f0, x.f1⟩
theorem rd94 {xs : List S94} {i : Nat} (h : i < xs.length) : rd_T94 xs (i : Int) = xs[i] := by simp [rd_T94, List.getD_eq_getElem?_getD, h]
theorem rd97 {xs : List S97} {i : Nat} (h : i < xs.length) : rd_T97 xs (i : Int) = xs[i] := by simp [rd_T97, List.getD_eq_getElem?_getD, h]
theorem drop97 {xs : List S97} {i : Nat} (h : i < xs.length) : xs.drop i = rd_T97 xs (i : Int) :: xs.drop (i + 1) := by rw [rd97 h]; exact List.drop_eq_getElem_cons h
theorem drop94 {xs : List S94} {i : Nat} (h : i < xs.length) : xs.drop i = rd_T94 xs (i : Int) :: xs.drop (i + 1) := by rw [rd94 h]; exact List.drop_eq_getElem_cons h
theorem take126 {xs : List S126} {i : Nat} (h : i < xs.length) : xs.take (i + 1) = xs.take i ++ [rd_T126 xs (i : Int)] := by
  rw [show rd_T126 xs (i : Int) = xs[i] by simp [rd_T126, List.getD_eq_getElem?_getD, h]]; exact (List.take_append_getElem h).symm
theorem take130 {xs : List S130} {i : Nat} (h : i < xs.length) : xs.take (i + 1) = xs.take i ++ [rd_T130 xs (i : Int)] := by
  rw [show rd_T130 xs (i : Int) = xs[i] by simp [rd_T130, List.getD_eq_getElem?_getD, h]]; exact (List.take_append_getElem h).symm
theorem drop126 {xs : List S126} {i : Nat} (h : i < xs.length) : xs.drop i = rd_T126 xs (i : Int) :: xs.drop (i + 1) := by
  rw [show rd_T126 xs (i : Int) = xs[i] by simp [rd_T126, List.getD_eq_getElem?_getD, h]]; exact List.drop_eq_getElem_cons h
theorem toNodeS_l0 (l : List S126) (hl : l.length ≤ 1048576) : ∀ (d i : Nat) (acc : List S94), i + d = l.length → acc.length = l.length → acc.take i = (l.take i).map cNode → Ev (fun k => laws_toNodeS.l0 k l acc (i : Int)) (l.map cNode) := by
  intro d
  induction d with
  | zero =>
    intro i acc hi ha ht
    refine Ev.succ ?_
    simp only [laws_toNodeS.l0]
    refine Ev.neg (by omega) (Ev.some_ ?_)
    rw [List.take_of_length_le (by omega), List.take_of_length_le (by omega)] at ht
    exact ht
  | succ d ih =>
    intro i acc hi ha ht
    refine Ev.succ ?_
    simp only [laws_toNodeS.l0, laws_toNode.f, Option.bind_some]
    rw [wadd1 (e := i) (by omega), Int.toNat_natCast]
    refine Ev.pos (by omega) (Ev.pos (by omega) (Ev.pos (by omega) (ih (i + 1) _ (by omega) (by simpa using ha) ?_)))
    rw [take_set_end (by omega), take126 (by omega), List.map_append, ht]
    rfl
theorem toNodeS_ev (l : List S126) (hl : l.length ≤ 1048576) : Ev (fun k => laws_toNodeS.f k l) (l.map cNode) := by
  unfold laws_toNodeS.f
  refine Ev.pos (by omega) (Ev.pos (by rw [Int.toNat_natCast]; omega) ?_)
  rw [Int.toNat_natCast]
  exact toNodeS_l0 l hl l.length 0 _ (by omega) (by simp) (by simp)
theorem toLinkS_l0 (l : List S130) (hl : l.length ≤ 1048576) : ∀ (d i : Nat) (acc : List S97), i + d = l.length → acc.length = l.length → acc.take i = (l.take i).map cLink → Ev (fun k => laws_toLinkS.l0 k l acc (i : Int)) (l.map cLink) := by
  intro d
  induction d with
  | zero =>
    intro i acc hi ha ht
    refine Ev.succ ?_
    simp only [laws_toLinkS.l0]
    refine Ev.neg (by omega) (Ev.some_ ?_)
    rw [List.take_of_length_le (by omega), List.take_of_length_le (by omega)] at ht
    exact ht
  | succ d ih =>
    intro i acc hi ha ht
    refine Ev.succ ?_
    simp only [laws_toLinkS.l0, laws_toLink.f, Option.bind_some]
    rw [wadd1 (e := i) (by omega), Int.toNat_natCast]
    refine Ev.pos (by omega) (Ev.pos (by omega) (Ev.pos (by omega) (ih (i + 1) _ (by omega) (by simpa using ha) ?_)))
    rw [take_set_end (by omega), take130 (by omega), List.map_append, ht]
    rfl
theorem toLinkS_ev (l : List S130) (hl : l.length ≤ 1048576) : Ev (fun k => laws_toLinkS.f k l) (l.map cLink) := by
  unfold laws_toLinkS.f
  refine Ev.pos (by omega) (Ev.pos (by rw [Int.toNat_natCast]; omega) ?_)
  rw [Int.toNat_natCast]
  exact toLinkS_l0 l hl l.length 0 _ (by omega) (by simp) (by simp)
theorem toPlan_ev (a : List S126) (b : List S130) (ha : a.length ≤ 1048576) (hb : b.length ≤ 1048576) : Ev (fun k => laws_toPlan.f k a b) (a.map cNode, b.map cLink) := by
  unfold laws_toPlan.f
  exact Ev.next (toNodeS_ev a ha) (Ev.next (toLinkS_ev b hb) (Ev.some_ rfl))
/-- How many bytes all names have. -/
def totN : List S126 → Int
  | [] => 0
  | x :: l => x.f0.size + totN l
theorem totN_nonneg : ∀ l, 0 ≤ totN l
  | [] => by simp [totN]
  | x :: l => by have := totN_nonneg l; simp only [totN]; omega
theorem totN_mem {l : List S126} {x : S126} (h : x ∈ l) : (x.f0.size : Int) ≤ totN l := by
  induction l with
  | nil => cases h
  | cons y l ih =>
    have := totN_nonneg l
    simp only [totN]
    rcases List.mem_cons.1 h with rfl | h
    · omega
    · have := ih h; omega
theorem szNodeS_l0 (l : List S126) (hl : l.length ≤ 1048576) (hs : ∀ x ∈ l, x.f0.size ≤ maxLen) : ∀ (d i : Nat) (a : Int), i + d = l.length → 0 ≤ a → a ≤ 1048576 → Ev (fun k => laws_szNodeS.l0 k l a (i : Int)) (if a < totN (l.drop i) then -1 else a - totN (l.drop i)) := by
  intro d
  induction d with
  | zero =>
    intro i a hi h0 h1
    refine Ev.succ ?_
    simp only [laws_szNodeS.l0]
    have e : totN (l.drop i) = 0 := by rw [List.drop_of_length_le (by omega)]; rfl
    refine Ev.neg (by omega) (Ev.some_ ?_)
    rw [e, if_neg (by omega)]; omega
  | succ d ih =>
    intro i a hi h0 h1
    have hi1 : i < l.length := by omega
    refine Ev.succ ?_
    have hm : (rd_T126 l (i : Int)) ∈ l := by
      rw [show rd_T126 l (i : Int) = l[i] by simp [rd_T126, List.getD_eq_getElem?_getD, hi1]]; exact List.getElem_mem hi1
    have hz := hs _ hm
    simp only [laws_szNodeS.l0, laws_szNode.f]
    have hp := totN_nonneg (l.drop (i + 1))
    have hmx : maxLen = 9223372036854775807 := rfl
    obtain ⟨n, hn⟩ : ∃ n, (rd_T126 l (i : Int)).f0.size = n := ⟨_, rfl⟩
    have et : totN (l.drop i) = (n : Int) + totN (l.drop (i + 1)) := by rw [drop126 hi1, ← hn]; rfl
    rw [hn] at hz
    rw [et, hn]
    have hw : wrap64 (a - (n : Int)) = a - n := w64 (by omega) (by omega)
    rw [hw, wadd1 (e := i) (by omega)]
    refine Ev.pos (by omega) (Ev.pos (by omega) ?_)
    by_cases c : a - (n : Int) < 0
    · rw [if_pos c, if_pos (by omega)]
      simp only [Option.bind_some]
      exact Ev.pos (by decide) (Ev.some_ rfl)
    · rw [if_neg c]
      simp only [Option.bind_some]
      refine Ev.neg c ((ih (i + 1) (a - n) (by omega) (by omega) (by omega)).to ?_)
      by_cases c2 : a - (n : Int) < totN (l.drop (i + 1))
      · rw [if_pos c2, if_pos (by omega)]
      · rw [if_neg c2, if_neg (by omega)]; omega
theorem szPlan_ev (a : List S126) (b : List S130) (ha : a.length ≤ maxLen) (hb : b.length ≤ maxLen) (hs : ∀ x ∈ a, x.f0.size ≤ maxLen) : ∃ r : Int, Ev (fun k => laws_szPlan.f k a b 1048576) r ∧ (r < 0 ∨ (a.length ≤ 1048576 ∧ b.length ≤ 1048576 ∧ ∀ x ∈ a, x.f0.size ≤ 1048576)) := by
  have hmx : maxLen = 9223372036854775807 := rfl
  unfold laws_szPlan.f laws_szNodeS.f laws_szLinkS.f
  rw [w64 (n := 1048576 - (a.length : Int)) (by omega) (by omega)]
  by_cases c : (1048576 : Int) - (a.length : Int) < 0
  · exact ⟨-1, Ev.next (Ev.pos c (Ev.some_ rfl)) (Ev.pos (by decide) (Ev.some_ rfl)), .inl (by decide)⟩
  · have h1 := szNodeS_l0 a (by omega) hs a.length 0 (1048576 - a.length) (by omega) (by omega) (by omega)
    rw [List.drop_zero] at h1
    have hp := totN_nonneg a
    by_cases c2 : (1048576 : Int) - (a.length : Int) < totN a
    · rw [if_pos c2] at h1
      exact ⟨-1, Ev.next (Ev.neg c h1) (Ev.pos (by decide) (Ev.some_ rfl)), .inl (by decide)⟩
    · rw [if_neg c2] at h1
      have hw : wrap64 ((1048576 : Int) - (a.length : Int) - totN a - (b.length : Int)) = (1048576 : Int) - (a.length : Int) - totN a - (b.length : Int) := w64 (by omega) (by omega)
      by_cases c3 : (1048576 : Int) - (a.length : Int) - totN a - (b.length : Int) < 0
      · exact ⟨-1, Ev.next (Ev.neg c h1) (Ev.neg (by omega) (Ev.next (a := -1) (Ev.here (by rw [hw, if_pos c3])) (Ev.pos (by decide) (Ev.some_ rfl)))), .inl (by decide)⟩
      · refine ⟨(1048576 : Int) - (a.length : Int) - totN a - (b.length : Int), Ev.next (Ev.neg c h1) (Ev.neg (by omega) (Ev.next (a := (1048576 : Int) - (a.length : Int) - totN a - (b.length : Int)) (Ev.here (by rw [hw, if_neg c3])) (Ev.neg c3 (Ev.some_ rfl)))), .inr ⟨by omega, by omega, fun x hx => ?_⟩⟩
        have := totN_mem hx
        omega
theorem eqNodeS_l0 (l : List S94) (hl : l.length ≤ 1048576) : ∀ (d i : Nat), i + d = l.length → Ev (fun k => laws_eqNodeS.l0 k l l (i : Int)) true := by
  intro d
  induction d with
  | zero =>
    intro i hi
    refine Ev.succ ?_
    simp only [laws_eqNodeS.l0]
    exact Ev.neg (by omega) (Ev.some_ rfl)
  | succ d ih =>
    intro i hi
    refine Ev.succ ?_
    simp only [laws_eqNodeS.l0]
    rw [wadd1 (e := i) (by omega)]
    refine Ev.pos (by omega) (Ev.pos (by omega) (Ev.pos (by omega) (Ev.next (Ev.here (r := true) ?_) (Ev.pos rfl (ih (i + 1) (by omega))))))
    unfold laws_eqNode.f
    simp
theorem eqLinkS_l0 (l : List S97) (hl : l.length ≤ 1048576) : ∀ (d i : Nat), i + d = l.length → Ev (fun k => laws_eqLinkS.l0 k l l (i : Int)) true := by
  intro d
  induction d with
  | zero =>
    intro i hi
    refine Ev.succ ?_
    simp only [laws_eqLinkS.l0]
    exact Ev.neg (by omega) (Ev.some_ rfl)
  | succ d ih =>
    intro i hi
    refine Ev.succ ?_
    simp only [laws_eqLinkS.l0]
    rw [wadd1 (e := i) (by omega)]
    refine Ev.pos (by omega) (Ev.pos (by omega) (Ev.pos (by omega) (Ev.next (Ev.here (r := true) ?_) (Ev.pos rfl (ih (i + 1) (by omega))))))
    unfold laws_eqLink.f
    simp
theorem eqPlan_ev (a : List S94) (b : List S97) (ha : a.length ≤ 1048576) (hb : b.length ≤ 1048576) : Ev (fun k => laws_eqPlan.f k a b a b) true := by
  unfold laws_eqPlan.f laws_eqNodeS.f laws_eqLinkS.f
  exact Ev.next (Ev.pos rfl (eqNodeS_l0 a ha a.length 0 (Nat.zero_add _))) (Ev.pos rfl (Ev.next (Ev.pos rfl (eqLinkS_l0 b hb b.length 0 (Nat.zero_add _))) (Ev.pos rfl (Ev.some_ rfl))))
theorem ba_data (s : ByteArray) : ∀ (d i : Nat) (r : List UInt8), i + d = s.size → ByteArray.toList.loop s i r = r.reverse ++ s.data.toList.drop i := by
  intro d
  induction d with
  | zero =>
    intro i r h
    have hl : s.data.toList.length = s.size := by rw [Array.length_toList]; rfl
    unfold ByteArray.toList.loop
    rw [if_neg (by omega), List.drop_of_length_le (by omega), List.append_nil]
  | succ d ih =>
    intro i r h
    have hl : s.data.toList.length = s.size := by rw [Array.length_toList]; rfl
    unfold ByteArray.toList.loop
    rw [if_pos (by omega), ih (i + 1) _ (by omega), List.drop_eq_getElem_cons (i := i) (by omega)]
    have e : s.data[i]! = s.data[i]'(by rw [← Array.length_toList]; omega) := getElem!_pos _ _ _
    simp [ByteArray.get!, e]
theorem ba_toList (s : ByteArray) : s.toList = s.data.toList := by
  have := ba_data s s.size 0 [] (by omega)
  unfold ByteArray.toList
  rw [this]; rfl
theorem ba_inj {a b : ByteArray} : a.toList = b.toList ↔ a = b := by
  rw [ba_toList, ba_toList]
  constructor
  · intro h
    cases a; cases b
    simp only [ByteArray.mk.injEq]
    exact Array.toList_inj.1 h
  · intro h; rw [h]
def kindB (a b : Int) : Bool := if a = 1 ∨ a = 2 ∨ a = 4 then b == 0 else if a = 3 then decide (-1000 ≤ b) && decide (b ≤ 1000) else decide (1 ≤ b) && decide (b ≤ 64)
def nodeB (x : S94) : Bool := nodeGo x.f0 x.f0.size 0 0 && ((decide (1 ≤ x.f1) && decide (x.f1 ≤ 8)) && kindB x.f1 x.f2)
def nodesFrom (l : List S94) : Nat → Nat → Bool
  | 0, _ => true
  | d + 1, i => nodeB (rd_T94 l (i : Int)) && (!po_seen l (i : Int) && nodesFrom l d (i + 1))
def linkB (ns : List S94) (x : S97) : Bool := (decide (0 ≤ x.f0) && decide (x.f0 ≤ (ns.length : Int) - 1)) && ((decide (0 ≤ x.f1) && decide (x.f1 ≤ (ns.length : Int) - 1)) && decide ((rd_T94 ns x.f0).f1 ≠ 2))
def linksRes (ns : List S94) : List S97 → List Int → Option (List Int)
  | [], c => some c
  | x :: xs, c => if linkB ns x = true then linksRes ns xs (c.set x.f1.toNat (wrap64 (rd c x.f1 + 1))) else none
def doorsN (k : Int) : Int := if k = 1 then 0 else if k = 4 then 2 else 1
def doorsFrom (l : List S94) (c : List Int) : Nat → Nat → Bool
  | 0, _ => true
  | d + 1, i => decide (rd c (i : Int) = doorsN (rd_T94 l (i : Int)).f1) && doorsFrom l c d (i + 1)
def endB (ns : List S94) : Option (List Int) → Bool
  | none => false
  | some c => doorsFrom ns c ns.length 0
def planB (ns : List S94) (ls : List S97) : Bool := decide (1 ≤ (ns.length : Int) ∧ (ns.length : Int) ≤ 20) && (decide ((ls.length : Int) ≤ 40) && (nodesFrom ns ns.length 0 && endB ns (linksRes ns ls (List.replicate ns.length 0))))
theorem to_eq (a b c : Int) : impl_to.f a b c = some (decide (b ≤ a) && decide (a ≤ c)) := by
  unfold impl_to.f
  by_cases h : a ≥ b
  · rw [if_pos h]; simp [show b ≤ a from h]
  · rw [if_neg h]; simp [show ¬ b ≤ a from h]
theorem sBare_eq (a : Int) : spec_l20Bare.f a = some (decide (a = 1 ∨ a = 2 ∨ a = 4)) := by
  unfold spec_l20Bare.f
  by_cases h1 : a = 1
  · rw [if_pos h1]; simp [h1]
  · rw [if_neg h1]
    by_cases h2 : a = 2
    · rw [if_pos h2]; simp [h2]
    · rw [if_neg h2]
      by_cases h4 : a = 4
      · simp [h4]
      · simp [h1, h2, h4]
theorem iPlain_eq (a : Int) : impl_plainKind.f a = some (decide (a = 1 ∨ a = 2 ∨ a = 4)) := sBare_eq a
theorem kind_ite (a b : Int) : (if decide (a = 1 ∨ a = 2 ∨ a = 4) = true then some (b == 0) else if a = 3 then some (decide (-1000 ≤ b) && decide (b ≤ 1000)) else some (decide (1 ≤ b) && decide (b ≤ 64))) = some (kindB a b) := by
  unfold kindB
  by_cases h : a = 1 ∨ a = 2 ∨ a = 4
  · rw [if_pos (decide_eq_true h), if_pos h]
  · rw [if_neg (by simpa using h), if_neg h]
    by_cases h3 : a = 3
    · rw [if_pos h3, if_pos h3]
    · rw [if_neg h3, if_neg h3]
theorem sNode_j0 (b : Bool) (x : S94) : Ev (fun k => spec_l20Node.j0 k b x.f0 x.f1 x.f2) (!b && kindB x.f1 x.f2) := by
  refine Ev.succ ?_
  simp only [spec_l20Node.j0, sBare_eq, l1In_eq, Option.bind_some, kind_ite]
  cases b with
  | true => exact Ev.pos rfl (Ev.some_ rfl)
  | false => exact Ev.neg (by decide) (Ev.some_ rfl)
theorem iNode_j0 (b : Bool) (x : S94) : Ev (fun k => impl_nodeOk.j0 k b x.f0 x.f1 x.f2) (!b && kindB x.f1 x.f2) := by
  refine Ev.succ ?_
  simp only [impl_nodeOk.j0, iPlain_eq, to_eq, Option.bind_some, kind_ite]
  cases b with
  | true => exact Ev.pos rfl (Ev.some_ rfl)
  | false => exact Ev.neg (by decide) (Ev.some_ rfl)
theorem sNode_ev (x : S94) (hs : x.f0.size ≤ 1048576) : Ev (fun k => spec_l20Node.f k x.f0 x.f1 x.f2) (nodeB x) := by
  unfold spec_l20Node.f nodeB spec_NodeName.f
  refine Ev.next (node_l0 x.f0 hs x.f0.size 0 0 (by omega) (by omega) (by omega) (by omega)) ?_
  rw [show ((0 : Nat) : Int) = 0 from rfl]
  cases nodeGo x.f0 x.f0.size 0 0 with
  | false => exact Ev.neg (by decide) ((sNode_j0 true x).to rfl)
  | true =>
    simp only [l1In_eq, Option.bind_some]
    exact Ev.pos (by trivial) ((sNode_j0 _ x).to (by simp))
theorem iNode_ev (x : S94) : Ev (fun k => impl_nodeOk.f k x.f0 x.f1 x.f2) (nodeB x) := by
  unfold impl_nodeOk.f nodeB impl_NodeName.f
  simp only [Option.bind_some]
  cases nodeGo x.f0 x.f0.size 0 0 with
  | false => exact Ev.neg (by decide) ((iNode_j0 true x).to rfl)
  | true =>
    refine Ev.pos rfl ?_
    by_cases h : x.f1 < 1
    · exact Ev.pos h ((iNode_j0 true x).to (by simp [show ¬ 1 ≤ x.f1 by omega]))
    · refine Ev.neg h ((iNode_j0 _ x).to ?_)
      by_cases h8 : x.f1 > 8
      · simp [h8, show ¬ x.f1 ≤ 8 by omega]
      · simp [h8, show x.f1 ≤ 8 by omega, show 1 ≤ x.f1 by omega]
theorem find_l0 (ns : List S94) (ls : List S97) (i : Nat) (hi : i < ns.length) (hl : ns.length ≤ 1048576) : ∀ (d j : Nat), j + d = i → ∃ r : Int, Ev (fun k => spec_l20Find.l0 k (rd_T94 ns (i : Int)).f0 (j : Int) ns ls) r ∧ (r = (i : Int) ↔ ((ns.drop j).take d).any (fun x => decide (x.f0 = (rd_T94 ns (i : Int)).f0)) = false) := by
  intro d
  induction d with
  | zero =>
    intro j hj
    have e : j = i := by omega
    subst e
    refine ⟨(j : Int), Ev.succ ?_, by simp⟩
    simp only [spec_l20Find.l0]
    exact Ev.pos (by omega) (Ev.pos (by omega) (Ev.pos (by trivial) (Ev.some_ rfl)))
  | succ d ih =>
    intro j hj
    have hj1 : j < ns.length := by omega
    rw [drop94 hj1, List.take_succ_cons, List.any_cons]
    by_cases he : (rd_T94 ns (j : Int)).f0 = (rd_T94 ns (i : Int)).f0
    · refine ⟨(j : Int), Ev.succ ?_, ?_⟩
      · simp only [spec_l20Find.l0]
        exact Ev.pos (by omega) (Ev.pos (by omega) (Ev.pos (by rw [he]) (Ev.some_ rfl)))
      · rw [decide_eq_true he, Bool.true_or]
        constructor
        · intro h; omega
        · intro h; cases h
    · obtain ⟨r, h1, h2⟩ := ih (j + 1) (by omega)
      refine ⟨r, Ev.succ ?_, ?_⟩
      · simp only [spec_l20Find.l0]
        rw [wadd1 (e := j) (by omega)]
        exact Ev.pos (by omega) (Ev.pos (by omega) (Ev.neg (fun h => he (ba_inj.1 h)) h1))
      · rw [decide_eq_false he, Bool.false_or]
        exact h2
theorem find_ev (ns : List S94) (ls : List S97) (i : Nat) (hi : i < ns.length) (hl : ns.length ≤ 1048576) : ∃ r : Int, Ev (fun k => spec_l20Find.f k ns ls (rd_T94 ns (i : Int)).f0) r ∧ (r = (i : Int) ↔ po_seen ns (i : Int) = false) := by
  obtain ⟨r, h1, h2⟩ := find_l0 ns ls i hi hl i 0 (by omega)
  exact ⟨r, h1, h2⟩
theorem doors_eq (k : Int) : spec_l20Doors.f k = some (doorsN k) := by
  unfold spec_l20Doors.f doorsN
  by_cases h1 : k = 1
  · rw [if_pos h1, if_pos h1]
  · rw [if_neg h1, if_neg h1]
    by_cases h4 : k = 4
    · rw [if_pos h4, if_pos h4]
    · rw [if_neg h4, if_neg h4]
theorem iDoors_eq (k : Int) : impl_doors.f k = some (doorsN k) := doors_eq k
theorem sPlan_l2 (ns : List S94) (ls : List S97) (c : List Int) (hn : ns.length ≤ 20) (hc : c.length = ns.length) : ∀ (d i : Nat), i + d = ns.length → Ev (fun k => spec_PlanOk.l2 k c (i : Int) ns ls) (doorsFrom ns c d i) := by
  intro d
  induction d with
  | zero =>
    intro i hi
    refine Ev.succ ?_
    simp only [spec_PlanOk.l2]
    exact Ev.neg (by omega) (Ev.some_ rfl)
  | succ d ih =>
    intro i hi
    refine Ev.succ ?_
    simp only [spec_PlanOk.l2, doors_eq, Option.bind_some]
    rw [wadd1 (e := i) (by omega)]
    refine Ev.pos (by omega) (Ev.pos (by omega) (Ev.pos (by omega) ?_))
    show Ev _ (decide (rd c (i : Int) = doorsN (rd_T94 ns (i : Int)).f1) && doorsFrom ns c d (i + 1))
    by_cases h : rd c (i : Int) = doorsN (rd_T94 ns (i : Int)).f1
    · rw [decide_eq_true h, Bool.true_and]
      exact Ev.pos h (ih (i + 1) (by omega))
    · rw [decide_eq_false h, Bool.false_and]
      exact Ev.neg h (Ev.some_ rfl)
theorem iPlan_l2 (ns : List S94) (c : List Int) (hn : ns.length ≤ 20) (hc : c.length = ns.length) : ∀ (d i : Nat), i + d = ns.length → Ev (fun k => impl_PlanOk.l2 k c ns (ns.length : Int) (i : Int)) (doorsFrom ns c d i) := by
  intro d
  induction d with
  | zero =>
    intro i hi
    refine Ev.succ ?_
    simp only [impl_PlanOk.l2]
    exact Ev.neg (by omega) (Ev.some_ rfl)
  | succ d ih =>
    intro i hi
    refine Ev.succ ?_
    simp only [impl_PlanOk.l2, iDoors_eq, Option.bind_some]
    rw [wadd1 (e := i) (by omega)]
    refine Ev.pos (by omega) (Ev.pos (by omega) (Ev.pos (by omega) (Ev.pos (by omega) ?_)))
    show Ev _ (decide (rd c (i : Int) = doorsN (rd_T94 ns (i : Int)).f1) && doorsFrom ns c d (i + 1))
    by_cases h : rd c (i : Int) = doorsN (rd_T94 ns (i : Int)).f1
    · rw [decide_eq_true h, Bool.true_and]
      exact Ev.pos h (ih (i + 1) (by omega))
    · rw [decide_eq_false h, Bool.false_and]
      exact Ev.neg h (Ev.some_ rfl)
theorem linkB_parts (ns : List S94) (x : S97) : linkB ns x = true ↔ (0 ≤ x.f0 ∧ x.f0 ≤ (ns.length : Int) - 1) ∧ (0 ≤ x.f1 ∧ x.f1 ≤ (ns.length : Int) - 1) ∧ (rd_T94 ns x.f0).f1 ≠ 2 := by
  unfold linkB
  simp
theorem sPlan_l1 (ns : List S94) (ls : List S97) (hn : ns.length ≤ 20) (hls : ls.length ≤ 40) : ∀ (d i : Nat) (c : List Int), i + d = ls.length → c.length = ns.length → Ev (fun k => spec_PlanOk.l1 k c (i : Int) ns ls) (endB ns (linksRes ns (ls.drop i) c)) := by
  intro d
  induction d with
  | zero =>
    intro i c hi hc
    refine Ev.succ ?_
    simp only [spec_PlanOk.l1]
    rw [List.drop_of_length_le (by omega)]
    exact Ev.neg (by omega) (sPlan_l2 ns ls c hn hc ns.length 0 (by omega))
  | succ d ih =>
    intro i c hi hc
    refine Ev.succ ?_
    simp only [spec_PlanOk.l1, l1In_eq, Option.bind_some]
    rw [wadd1 (e := i) (by omega), w64 (n := (ns.length : Int) - 1) (by omega) (by omega), drop97 (by omega)]
    refine Ev.pos (by omega) (Ev.pos (by omega) ?_)
    generalize rd_T97 ls (i : Int) = x
    show Ev _ (endB ns (if linkB ns x = true then linksRes ns (ls.drop (i + 1)) (c.set x.f1.toNat (wrap64 (rd c x.f1 + 1))) else none))
    by_cases h : linkB ns x = true
    · rw [if_pos h]
      obtain ⟨⟨h1, h2⟩, ⟨h3, h4⟩, h5⟩ := (linkB_parts ns x).1 h
      exact Ev.pos (by simp [h1, h2]) (Ev.pos (by simp [h3, h4]) (Ev.pos h1 (Ev.pos (by omega) (Ev.neg h5 (Ev.pos h3 (Ev.pos (by omega) (ih (i + 1) _ (by omega) (by simpa using hc))))))))
    · rw [if_neg h]
      refine Ev.both (fun h1 => Ev.both (fun h2 => ?_) (fun _ => Ev.some_ rfl)) (fun _ => Ev.some_ rfl)
      simp only [Bool.and_eq_true, decide_eq_true_eq] at h1 h2
      refine Ev.pos h1.1 (Ev.pos (by omega) (Ev.pos ?_ (Ev.some_ rfl)))
      exact Decidable.byContradiction fun h5 => h ((linkB_parts ns x).2 ⟨h1, h2, h5⟩)
theorem iPlan_l1 (ns : List S94) (ls : List S97) (hn : ns.length ≤ 20) (hls : ls.length ≤ 40) : ∀ (d i : Nat) (c : List Int), i + d = ls.length → c.length = ns.length → Ev (fun k => impl_PlanOk.l1 k c ls (ls.length : Int) (i : Int) ns ls) (endB ns (linksRes ns (ls.drop i) c)) := by
  intro d
  induction d with
  | zero =>
    intro i c hi hc
    refine Ev.succ ?_
    simp only [impl_PlanOk.l1]
    rw [List.drop_of_length_le (by omega)]
    exact Ev.neg (by omega) (iPlan_l2 ns c hn hc ns.length 0 (by omega))
  | succ d ih =>
    intro i c hi hc
    refine Ev.succ ?_
    simp only [impl_PlanOk.l1, to_eq, Option.bind_some]
    rw [wadd1 (e := i) (by omega), w64 (n := (ns.length : Int) - 1) (by omega) (by omega), drop97 (by omega)]
    refine Ev.pos (by omega) (Ev.pos (by omega) (Ev.pos (by omega) ?_))
    generalize rd_T97 ls (i : Int) = x
    show Ev _ (endB ns (if linkB ns x = true then linksRes ns (ls.drop (i + 1)) (c.set x.f1.toNat (wrap64 (rd c x.f1 + 1))) else none))
    by_cases h : linkB ns x = true
    · rw [if_pos h]
      obtain ⟨⟨h1, h2⟩, ⟨h3, h4⟩, h5⟩ := (linkB_parts ns x).1 h
      exact Ev.pos (by simp [h1, h2]) (Ev.pos (by simp [h3, h4]) (Ev.pos h1 (Ev.pos (by omega) (Ev.neg h5 (Ev.pos h3 (Ev.pos (by omega) (ih (i + 1) _ (by omega) (by simpa using hc))))))))
    · rw [if_neg h]
      refine Ev.both (fun h1 => Ev.both (fun h2 => ?_) (fun _ => Ev.some_ rfl)) (fun _ => Ev.some_ rfl)
      simp only [Bool.and_eq_true, decide_eq_true_eq] at h1 h2
      refine Ev.pos h1.1 (Ev.pos (by omega) (Ev.pos ?_ (Ev.some_ rfl)))
      exact Decidable.byContradiction fun h5 => h ((linkB_parts ns x).2 ⟨h1, h2, h5⟩)
theorem size94 {ns : List S94} {i : Nat} (hs : ∀ x ∈ ns, x.f0.size ≤ 1048576) (hi : i < ns.length) : (rd_T94 ns (i : Int)).f0.size ≤ 1048576 := by rw [rd94 hi]; exact hs _ (List.getElem_mem hi)
theorem sPlan_l0 (ns : List S94) (ls : List S97) (hn : ns.length ≤ 20) (hls : ls.length ≤ 40) (hs : ∀ x ∈ ns, x.f0.size ≤ 1048576) : ∀ (d i : Nat), i + d = ns.length → Ev (fun k => spec_PlanOk.l0 k (List.replicate ns.length 0) (i : Int) ns ls) (nodesFrom ns d i && endB ns (linksRes ns ls (List.replicate ns.length 0))) := by
  intro d
  induction d with
  | zero =>
    intro i hi
    refine Ev.succ ?_
    simp only [spec_PlanOk.l0]
    exact Ev.neg (by omega) (sPlan_l1 ns ls hn hls ls.length 0 _ (by omega) (by simp))
  | succ d ih =>
    intro i hi
    obtain ⟨r, hr, hri⟩ := find_ev ns ls i (by omega) (by omega)
    refine Ev.succ ?_
    simp only [spec_PlanOk.l0]
    rw [wadd1 (e := i) (by omega)]
    refine Ev.pos (by omega) (Ev.pos (by omega) (Ev.next (sNode_ev _ (size94 hs (by omega))) ?_))
    show Ev _ ((nodeB (rd_T94 ns (i : Int)) && (!po_seen ns (i : Int) && nodesFrom ns d (i + 1))) && endB ns (linksRes ns ls (List.replicate ns.length 0)))
    cases nodeB (rd_T94 ns (i : Int)) with
    | false => exact Ev.neg (by decide) (Ev.some_ rfl)
    | true =>
      refine Ev.pos rfl (Ev.next hr ?_)
      cases hse : po_seen ns (i : Int) with
      | true => exact Ev.neg (fun h => by rw [hri.1 h] at hse; cases hse) (Ev.some_ rfl)
      | false => exact Ev.pos (hri.2 hse) ((ih (i + 1) (by omega)).to (by simp))
theorem iPlan_l0 (ns : List S94) (ls : List S97) (hn : ns.length ≤ 20) (hls : ls.length ≤ 40) (hs : ∀ x ∈ ns, x.f0.size ≤ 1048576) : ∀ (d i : Nat), i + d = ns.length → Ev (fun k => impl_PlanOk.l0 k ns (ns.length : Int) (i : Int) ns ls) (nodesFrom ns d i && endB ns (linksRes ns ls (List.replicate ns.length 0))) := by
  intro d
  induction d with
  | zero =>
    intro i hi
    refine Ev.succ ?_
    simp only [impl_PlanOk.l0]
    refine Ev.neg (by omega) (Ev.pos (by omega) (Ev.pos (by omega) ?_))
    rw [Int.toNat_natCast]
    exact iPlan_l1 ns ls hn hls ls.length 0 _ (by omega) (by simp)
  | succ d ih =>
    intro i hi
    refine Ev.succ ?_
    simp only [impl_PlanOk.l0]
    rw [wadd1 (e := i) (by omega)]
    refine Ev.pos (by omega) (Ev.pos (by omega) (Ev.pos (by omega) (Ev.pos (size94 hs (by omega)) (Ev.next (iNode_ev _) ?_))))
    show Ev _ ((nodeB (rd_T94 ns (i : Int)) && (!po_seen ns (i : Int) && nodesFrom ns d (i + 1))) && endB ns (linksRes ns ls (List.replicate ns.length 0)))
    cases nodeB (rd_T94 ns (i : Int)) with
    | false => exact Ev.neg (by decide) (Ev.some_ rfl)
    | true =>
      refine Ev.pos rfl ?_
      cases hse : po_seen ns (i : Int) with
      | true => exact Ev.pos rfl (Ev.some_ rfl)
      | false => exact Ev.neg (by decide) ((ih (i + 1) (by omega)).to (by simp))
theorem sPlan_ev (ns : List S94) (ls : List S97) (hs : ∀ x ∈ ns, x.f0.size ≤ 1048576) : Ev (fun k => spec_PlanOk.f k ns ls) (planB ns ls) := by
  have ft : ∀ b : Bool, b = true → Ev (fun k => spec_PlanOk.j0 k b ns ls) false := by
    intro b hb
    refine Ev.succ ?_
    simp only [spec_PlanOk.j0]
    exact Ev.pos hb (Ev.some_ rfl)
  unfold spec_PlanOk.f planB
  rw [l1In_eq]
  simp only [Option.bind_some]
  by_cases h1 : 1 ≤ (ns.length : Int) ∧ (ns.length : Int) ≤ 20
  · rw [decide_eq_true h1, Bool.true_and]
    refine Ev.pos (by simp; omega) ?_
    by_cases h2 : (ls.length : Int) ≤ 40
    · rw [decide_eq_true h2, decide_eq_false (show ¬ (ls.length : Int) > 40 by omega), Bool.true_and]
      refine Ev.succ ?_
      simp only [spec_PlanOk.j0]
      refine Ev.neg (by decide) (Ev.pos (by omega) (Ev.pos (by omega) ?_))
      rw [Int.toNat_natCast]
      exact sPlan_l0 ns ls (by omega) (by omega) hs ns.length 0 (by omega)
    · rw [decide_eq_false h2, Bool.false_and]
      exact ft _ (by simp; omega)
  · rw [decide_eq_false h1, Bool.false_and]
    exact Ev.neg (by simp; omega) (ft _ rfl)
theorem iPlan_ev (ns : List S94) (ls : List S97) (hs : ∀ x ∈ ns, x.f0.size ≤ 1048576) : Ev (fun k => impl_PlanOk.f k ns ls) (planB ns ls) := by
  have ft : ∀ b : Bool, b = true → Ev (fun k => impl_PlanOk.j0 k b ns ls) false := by
    intro b hb
    refine Ev.succ ?_
    simp only [impl_PlanOk.j0]
    exact Ev.pos hb (Ev.some_ rfl)
  unfold impl_PlanOk.f planB
  by_cases h1 : 1 ≤ (ns.length : Int) ∧ (ns.length : Int) ≤ 20
  · rw [decide_eq_true h1, Bool.true_and]
    refine Ev.neg (by omega) (Ev.neg (by omega) ?_)
    by_cases h2 : (ls.length : Int) ≤ 40
    · rw [decide_eq_true h2, decide_eq_false (show ¬ (ls.length : Int) > 40 by omega), Bool.true_and]
      refine Ev.succ ?_
      simp only [impl_PlanOk.j0]
      exact Ev.neg (by decide) (iPlan_l0 ns ls (by omega) (by omega) hs ns.length 0 (by omega))
    · rw [decide_eq_false h2, Bool.false_and]
      exact ft _ (by simp; omega)
  · rw [decide_eq_false h1, Bool.false_and]
    exact Ev.both (fun _ => ft _ rfl) (fun _ => Ev.both (fun _ => ft _ rfl) (fun _ => ft _ (by omega)))
theorem FnExactPlanOk (l0_0 : List S126) (l0_1 : List S130) (m0_0 : l0_0.length ≤ maxLen) (w0_0 : ∀ x ∈ l0_0, (x.f0.size ≤ maxLen) ∧ ((Lit.int .i64 x.f1).wf = true) ∧ ((Lit.int .i64 x.f2).wf = true)) (m0_1 : l0_1.length ≤ maxLen) (w0_1 : ∀ x ∈ l0_1, ((Lit.int .i64 x.f0).wf = true) ∧ ((Lit.int .i64 x.f1).wf = true)) : ∃ k, laws_FnExactPlanOk.f k l0_0 l0_1 = some true := by
  refine Ev.rounds ?_
  unfold laws_FnExactPlanOk.f
  obtain ⟨r, hr, hd⟩ := szPlan_ev l0_0 l0_1 m0_0 m0_1 (fun x hx => (w0_0 x hx).1)
  refine Ev.next hr ?_
  rcases hd with hd | ⟨ha, hb, hs⟩
  · exact Ev.pos hd (Ev.some_ rfl)
  · by_cases hd : r < 0
    · exact Ev.pos hd (Ev.some_ rfl)
    · have tp := toPlan_ev l0_0 l0_1 ha hb
      have hs2 : ∀ x ∈ l0_0.map cNode, x.f0.size ≤ 1048576 := by
        intro x hx
        obtain ⟨y, hy, rfl⟩ := List.mem_map.1 hx
        exact hs y hy
      exact Ev.neg hd (Ev.next tp (Ev.next (sPlan_ev _ _ hs2) (Ev.next tp (Ev.next (iPlan_ev _ _ hs2) (Ev.neg (by simp) (Ev.next tp (Ev.next (eqPlan_ev _ _ (by simpa using ha) (by simpa using hb)) (Ev.pos rfl (Ev.some_ rfl)))))))))
end Go.Proofs.Ytckadpomhdjkhaa.Pure
