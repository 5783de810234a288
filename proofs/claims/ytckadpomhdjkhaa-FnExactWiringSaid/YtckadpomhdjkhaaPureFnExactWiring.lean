import Derived.Test.YtckadpomhdjkhaaPFnExactWiringx12
import Derived.Test.YtckadpomhdjkhaaAidV
set_option linter.unusedVariables false
set_option linter.unusedSimpArgs false
namespace Go.Proofs.Ytckadpomhdjkhaa.Pure
open Go Go.RowKit Go.Proofs.Ytckadpomhdjkhaa.PFnExactWiring Go.Proofs.YtckadpomhdjkhaaW.PrintWords Go.Proofs.YtckadpomhdjkhaaW.PrintLast Go.Proofs.YtckadpomhdjkhaaW.PrintMore
theorem qab {e : Nat} (h : e ≤ 9000000000000000000) : wrap64 ((e : Int) + 1) = ((e + 1 : Nat) : Int) := by rw [w64 (by omega) (by omega)]; omega
theorem qaj (a b c : Int) : spec_l1In.f a b c = some (decide (b ≤ a) && decide (a ≤ c)) := by
  unfold spec_l1In.f
  by_cases h : a ≥ b
  · rw [if_pos h]; simp [show b ≤ a from h]
  · rw [if_neg h]; simp [show ¬ b ≤ a from h]
theorem qca (s : ByteArray) (i : Nat) (h : i < s.size) : bt s (i : Int) = ((s.get! i).toNat : Int) := by
  unfold bt
  rw [dif_pos (by rw [Int.toNat_natCast]; exact h)]
  have e : s.get! i = s[i] := by
    simp [ByteArray.get!, getElem!_pos, h]
    rfl
  rw [e]
  simp only [Int.toNat_natCast]
theorem qbk (s : ByteArray) (i : Nat) (h : (s.get! i).toNat < 128) : Utf8.decode s i = ((s.get! i).toNat, 1) := by
  simp only [Utf8.decode, Nat.add_zero, h, if_true]
theorem qbl (s : ByteArray) (i : Nat) (h : 194 ≤ (s.get! i).toNat ∧ (s.get! i).toNat ≤ 223) (h1 : i + 1 < s.size) (h2 : 128 ≤ (s.get! (i + 1)).toNat ∧ (s.get! (i + 1)).toNat ≤ 191) : Utf8.decode s i = (((s.get! i).toNat - 192) * 64 + ((s.get! (i + 1)).toNat - 128), 2) := by
  have e1 : ((s.get! i).toNat / 32 == 6) = true := by rw [beq_iff_eq]; omega
  have e2 : ((s.get! (i + 1)).toNat / 64 == 2) = true := by rw [beq_iff_eq]; omega
  have e3 : decide (i + 1 < s.size) = true := decide_eq_true h1
  have e4 : (s.get! i).toNat % 32 * 64 + (s.get! (i + 1)).toNat % 64 ≥ 128 := by omega
  simp only [Utf8.decode, Nat.add_zero, e1, e2, e3, Bool.and_self, if_true]
  rw [if_neg (by omega), if_pos (by omega)]
  refine Prod.ext ?_ rfl
  simp only
  omega
theorem qbf (s : ByteArray) (i : Nat) (h0 : 128 ≤ (s.get! i).toNat) (h : ¬ ((194 ≤ (s.get! i).toNat ∧ (s.get! i).toNat ≤ 223) ∧ i + 1 < s.size ∧ 128 ≤ (s.get! (i + 1)).toNat ∧ (s.get! (i + 1)).toNat ≤ 191)) : (Utf8.decode s i).1 = 65533 ∨ 2048 ≤ (Utf8.decode s i).1 := by
  simp only [Utf8.decode, Nat.add_zero]
  rw [if_neg (by omega)]
  split
  · rename_i hc
    rw [Bool.and_eq_true, Bool.and_eq_true, beq_iff_eq, beq_iff_eq, decide_eq_true_eq] at hc
    split
    · exfalso; omega
    · exact .inl rfl
  · split
    · split
      · rename_i hc
        rw [Bool.and_eq_true] at hc
        have := of_decide_eq_true hc.1
        exact .inr (by simp only; omega)
      · exact .inl rfl
    · split
      · split
        · rename_i hc
          rw [Bool.and_eq_true] at hc
          have := of_decide_eq_true hc.1
          exact .inr (by simp only; omega)
        · exact .inl rfl
      · exact .inl rfl
theorem qbg (s : ByteArray) (b pos : Nat) (acc : Int) (h : ¬ pos < s.size) : nodeGo s b pos acc = (decide (1 ≤ acc) && decide (acc ≤ 12)) := by
  cases b with
  | zero => rfl
  | succ b => exact if_neg h
theorem qau (r : Int) : letterB r = true ↔ ((65 ≤ r ∧ r ≤ 90) ∨ (97 ≤ r ∧ r ≤ 122) ∨ ((192 ≤ r ∧ r ≤ 591) ∧ r ≠ 215 ∧ r ≠ 247) ∨ ((913 ≤ r ∧ r ≤ 969) ∧ r ≠ 930)) := by
  simp [letterB]
theorem qav {r : Int} (h : (65 ≤ r ∧ r ≤ 90) ∨ (97 ≤ r ∧ r ≤ 122) ∨ ((192 ≤ r ∧ r ≤ 591) ∧ r ≠ 215 ∧ r ≠ 247) ∨ ((913 ≤ r ∧ r ≤ 969) ∧ r ≠ 930)) : letterB r = true := (qau r).2 h
theorem qas {r : Int} (h : ¬ ((65 ≤ r ∧ r ≤ 90) ∨ (97 ≤ r ∧ r ≤ 122) ∨ ((192 ≤ r ∧ r ≤ 591) ∧ r ≠ 215 ∧ r ≠ 247) ∨ ((913 ≤ r ∧ r ≤ 969) ∧ r ≠ 930))) : letterB r = false := by
  cases e : letterB r with
  | true => exact absurd ((qau r).1 e) h
  | false => rfl
theorem qcb (r : Int) : spec_l20Letter.f r = some (letterB r) := by
  unfold spec_l20Letter.f
  simp only [qaj, Option.bind_some]
  repeat' split
  all_goals (try simp only [Bool.and_eq_true, decide_eq_true_eq] at *)
  all_goals first
    | (exfalso; omega)
    | (rw [qav (by omega)]; done)
    | (rw [qas (by omega)]; done)
    | (by_cases h9 : r = 930
       · rw [qas (by omega)]; simp [h9]
       · rw [qav (by omega)]; simp [h9])
theorem qdf (s : ByteArray) (i : Nat) (h : i < s.size) (hs : s.size ≤ 1048576) : ∃ r n : Int, spec_l20Rune.f s (i : Int) = some (r, n) ∧ ((n = 0 ∧ ∀ b, badRune b ((Utf8.decode s i).1 : Int) = true) ∨ ((n = 1 ∨ n = 2) ∧ n = ((Utf8.decode s i).2 : Int) ∧ r = ((Utf8.decode s i).1 : Int) ∧ r < 65533)) := by
  have b0 := qca s i h
  have hb : (s.get! i).toNat < 256 := (s.get! i).toNat_lt
  unfold spec_l20Rune.f
  rw [if_pos (by omega), if_pos (by omega), b0, w64 (n := (((s.get! i).toNat : Nat) : Int)) (by omega) (by omega), qab (e := i) (by omega)]
  by_cases c1 : (s.get! i).toNat < 128
  · rw [if_pos (by omega)]
    refine ⟨_, _, rfl, .inr ⟨.inl rfl, ?_, ?_, by omega⟩⟩ <;> rw [qbk s i c1] <;> rfl
  · rw [if_neg (by omega)]
    have bad : ¬ ((194 ≤ (s.get! i).toNat ∧ (s.get! i).toNat ≤ 223) ∧ i + 1 < s.size ∧ 128 ≤ (s.get! (i + 1)).toNat ∧ (s.get! (i + 1)).toNat ≤ 191) → ∀ b, badRune b ((Utf8.decode s i).1 : Int) = true := by
      intro hn b
      have hd := qbf s i (by omega) hn
      unfold badRune
      rcases hd with hd | hd
      · rw [hd]; rfl
      · rw [qas (by omega)]
        have e1 : ((((Utf8.decode s i).1 : Nat) : Int) != 95) = true := by rw [bne_iff_ne]; omega
        have e2 : decide (57 < (((Utf8.decode s i).1 : Nat) : Int)) = true := decide_eq_true (by omega)
        rw [e1, e2]
        simp
    by_cases c2 : (s.get! i).toNat < 194
    · rw [if_pos (by omega)]
      exact ⟨_, _, rfl, .inl ⟨rfl, bad (fun hx => by omega)⟩⟩
    · rw [if_neg (by omega)]
      by_cases c3 : (s.get! i).toNat > 223
      · rw [if_pos (by omega)]
        exact ⟨_, _, rfl, .inl ⟨rfl, bad (fun hx => by omega)⟩⟩
      · rw [if_neg (by omega)]
        by_cases c4 : i + 1 < s.size
        · have b1 := qca s (i + 1) c4
          have hb1 : (s.get! (i + 1)).toNat < 256 := (s.get! (i + 1)).toNat_lt
          rw [if_neg (by omega), if_pos (by omega), if_pos (by omega), b1]
          by_cases c5 : (s.get! (i + 1)).toNat < 128
          · rw [if_pos (by omega)]
            exact ⟨_, _, rfl, .inl ⟨rfl, bad (fun hx => by omega)⟩⟩
          · rw [if_neg (by omega)]
            by_cases c6 : (s.get! (i + 1)).toNat > 191
            · rw [if_pos (by omega)]
              exact ⟨_, _, rfl, .inl ⟨rfl, bad (fun hx => by omega)⟩⟩
            · rw [if_neg (by omega)]
              have hd := qbl s i (by omega) c4 (by omega)
              rw [w64 (n := (((s.get! i).toNat : Nat) : Int) - 192) (by omega) (by omega), w64 (n := ((((s.get! i).toNat : Nat) : Int) - 192) * 64) (by omega) (by omega), w64 (n := (((s.get! (i + 1)).toNat : Nat) : Int)) (by omega) (by omega), w64 (n := ((((s.get! i).toNat : Nat) : Int) - 192) * 64 + (((s.get! (i + 1)).toNat : Nat) : Int)) (by omega) (by omega), w64 (by omega) (by omega)]
              refine ⟨_, _, rfl, .inr ⟨.inr rfl, ?_, ?_, by omega⟩⟩ <;> rw [hd]
              · rfl
              · simp only; omega
        · rw [if_pos (by omega)]
          exact ⟨_, _, rfl, .inl ⟨rfl, bad (fun hx => by omega)⟩⟩
theorem qdg (s : ByteArray) (hs : s.size ≤ 1048576) : ∀ (b pos many : Nat), s.size ≤ pos + b → (many = 0 ↔ pos = 0) → many ≤ pos → pos ≤ 2000000 → Ev (fun k => spec_NodeName.l0 k s (many : Int) (pos : Int)) (nodeGo s b pos (many : Int)) := by
  have fin : ∀ (b pos many : Nat), ¬ pos < s.size → Ev (fun k => spec_NodeName.l0 k s (many : Int) (pos : Int)) (nodeGo s b pos (many : Int)) := by
    intro b pos many h
    rw [qbg s b pos _ h]
    refine Ev.succ ?_
    simp only [spec_NodeName.l0]
    exact Ev.neg (by omega) (Ev.next (Ev.here (qaj _ _ _)) (Ev.some_ rfl))
  intro b
  induction b with
  | zero => exact fun pos many h1 _ _ _ => fin 0 pos many (by omega)
  | succ b ih =>
    intro pos many h1 h2 h3 h4
    by_cases hp : pos < s.size
    · rw [show nodeGo s (b + 1) pos (many : Int) = _ from if_pos hp]
      obtain ⟨r, n, hr, hd⟩ := qdf s pos hp hs
      refine Ev.succ ?_
      simp only [spec_NodeName.l0]
      refine Ev.pos (by omega) (Ev.next (Ev.here hr) ?_)
      rcases hd with ⟨hn, hbad⟩ | ⟨hn, hn2, hr2, hr3⟩
      · rw [hbad, if_pos rfl]
        exact Ev.pos hn (Ev.some_ rfl)
      · have nx := ih (pos + (Utf8.decode s pos).2) (many + 1) (by omega) (by omega) (by omega) (by omega)
        rw [qab (e := many) (by omega)] 
        rw [show wrap64 ((pos : Int) + n) = ((pos + (Utf8.decode s pos).2 : Nat) : Int) by rw [w64 (by omega) (by omega)]; omega]
        rw [← hr2]
        refine Ev.neg (show ¬ n = 0 by omega) (Ev.next (Ev.here (qcb r)) ?_)
        have e0 : (r == 65533) = false := by rw [beq_eq_false_iff_ne]; omega
        unfold badRune
        rw [e0, Bool.false_or]
        cases e1 : letterB r with
        | true =>
          rw [if_neg (by simp)]
          exact Ev.pos rfl nx
        | false =>
          refine Ev.neg (by decide) ?_
          by_cases c1 : many = 0
          · have hp0 : pos = 0 := h2.1 c1
            rw [if_pos (by simp [hp0])]
            exact Ev.pos (by omega) (Ev.some_ rfl)
          · have hp0 : (pos == 0) = false := by rw [beq_eq_false_iff_ne]; exact fun hx => c1 (h2.2 hx)
            refine Ev.neg (by omega) ?_
            rw [hp0]
            by_cases c2 : r = 95
            · rw [if_neg (by simp [c2])]
              exact Ev.pos c2 nx
            · refine Ev.neg c2 (Ev.next (Ev.here (qaj _ _ _)) ?_)
              have e2 : (r != 95) = true := by rw [bne_iff_ne]; exact c2
              rw [e2]
              by_cases c3 : 48 ≤ r ∧ r ≤ 57
              · rw [if_neg (by simp; omega)]
                exact Ev.pos (by simp; omega) nx
              · rw [if_pos (by simp; omega)]
                exact Ev.neg (by simp; omega) (Ev.some_ rfl)
    · exact fin (b + 1) pos many hp
def qaq (x : S126) : S94 := ⟨x.f0, x.f1, x.f2⟩
def qan (x : S130) : S97 := ⟨x.f0, x.f1⟩
theorem rd94 {xs : List S94} {i : Nat} (h : i < xs.length) : rd_T94 xs (i : Int) = xs[i] := by simp [rd_T94, List.getD_eq_getElem?_getD, h]
theorem rd97 {xs : List S97} {i : Nat} (h : i < xs.length) : rd_T97 xs (i : Int) = xs[i] := by simp [rd_T97, List.getD_eq_getElem?_getD, h]
theorem qcc {xs : List S97} {i : Nat} (h : i < xs.length) : xs.drop i = rd_T97 xs (i : Int) :: xs.drop (i + 1) := by rw [rd97 h]; exact List.drop_eq_getElem_cons h
theorem qdn {xs : List S94} {i : Nat} (h : i < xs.length) : xs.drop i = rd_T94 xs (i : Int) :: xs.drop (i + 1) := by rw [rd94 h]; exact List.drop_eq_getElem_cons h
theorem qdh {xs : List S126} {i : Nat} (h : i < xs.length) : xs.take (i + 1) = xs.take i ++ [rd_T126 xs (i : Int)] := by
  rw [show rd_T126 xs (i : Int) = xs[i] by simp [rd_T126, List.getD_eq_getElem?_getD, h]]; exact (List.take_append_getElem h).symm
theorem qdi {xs : List S130} {i : Nat} (h : i < xs.length) : xs.take (i + 1) = xs.take i ++ [rd_T130 xs (i : Int)] := by
  rw [show rd_T130 xs (i : Int) = xs[i] by simp [rd_T130, List.getD_eq_getElem?_getD, h]]; exact (List.take_append_getElem h).symm
theorem qdj {xs : List S126} {i : Nat} (h : i < xs.length) : xs.drop i = rd_T126 xs (i : Int) :: xs.drop (i + 1) := by
  rw [show rd_T126 xs (i : Int) = xs[i] by simp [rd_T126, List.getD_eq_getElem?_getD, h]]; exact List.drop_eq_getElem_cons h
theorem qbm (l : List S126) (hl : l.length ≤ 1048576) : ∀ (d i : Nat) (acc : List S94), i + d = l.length → acc.length = l.length → acc.take i = (l.take i).map qaq → Ev (fun k => laws_toNodeS.l0 k l acc (i : Int)) (l.map qaq) := by
  intro d
  induction d with
  | zero =>
    intro i acc hi ha ht
    refine Ev.succ ?_
    simp only [laws_toNodeS.l0]
    refine Ev.neg (by omega) (Ev.some_ ?_)
    rw [List.take_of_length_le (by omega), List.take_of_length_le (by omega)] at ht
    exact ht
  | succ d ih =>
    intro i acc hi ha ht
    refine Ev.succ ?_
    simp only [laws_toNodeS.l0, laws_toNode.f, Option.bind_some]
    rw [qab (e := i) (by omega), Int.toNat_natCast]
    refine Ev.pos (by omega) (Ev.pos (by omega) (Ev.pos (by omega) (ih (i + 1) _ (by omega) (by simpa using ha) ?_)))
    rw [take_set_end (by omega), qdh (by omega), List.map_append, ht]
    rfl
theorem qbn (l : List S126) (hl : l.length ≤ 1048576) : Ev (fun k => laws_toNodeS.f k l) (l.map qaq) := by
  unfold laws_toNodeS.f
  refine Ev.pos (by omega) (Ev.pos (by rw [Int.toNat_natCast]; omega) ?_)
  rw [Int.toNat_natCast]
  exact qbm l hl l.length 0 _ (by omega) (by simp) (by simp)
theorem qbo (l : List S130) (hl : l.length ≤ 1048576) : ∀ (d i : Nat) (acc : List S97), i + d = l.length → acc.length = l.length → acc.take i = (l.take i).map qan → Ev (fun k => laws_toLinkS.l0 k l acc (i : Int)) (l.map qan) := by
  intro d
  induction d with
  | zero =>
    intro i acc hi ha ht
    refine Ev.succ ?_
    simp only [laws_toLinkS.l0]
    refine Ev.neg (by omega) (Ev.some_ ?_)
    rw [List.take_of_length_le (by omega), List.take_of_length_le (by omega)] at ht
    exact ht
  | succ d ih =>
    intro i acc hi ha ht
    refine Ev.succ ?_
    simp only [laws_toLinkS.l0, laws_toLink.f, Option.bind_some]
    rw [qab (e := i) (by omega), Int.toNat_natCast]
    refine Ev.pos (by omega) (Ev.pos (by omega) (Ev.pos (by omega) (ih (i + 1) _ (by omega) (by simpa using ha) ?_)))
    rw [take_set_end (by omega), qdi (by omega), List.map_append, ht]
    rfl
theorem qbp (l : List S130) (hl : l.length ≤ 1048576) : Ev (fun k => laws_toLinkS.f k l) (l.map qan) := by
  unfold laws_toLinkS.f
  refine Ev.pos (by omega) (Ev.pos (by rw [Int.toNat_natCast]; omega) ?_)
  rw [Int.toNat_natCast]
  exact qbo l hl l.length 0 _ (by omega) (by simp) (by simp)
theorem qcd (a : List S126) (b : List S130) (ha : a.length ≤ 1048576) (hb : b.length ≤ 1048576) : Ev (fun k => laws_toPlan.f k a b) (a.map qaq, b.map qan) := by
  unfold laws_toPlan.f
  exact Ev.next (qbn a ha) (Ev.next (qbp b hb) (Ev.some_ rfl))
/-- How many bytes all names have. -/
def totN : List S126 → Int
  | [] => 0
  | x :: l => x.f0.size + totN l
theorem qak : ∀ l, 0 ≤ totN l
  | [] => by simp [totN]
  | x :: l => by have := qak l; simp only [totN]; omega
theorem qck {l : List S126} {x : S126} (h : x ∈ l) : (x.f0.size : Int) ≤ totN l := by
  induction l with
  | nil => cases h
  | cons y l ih =>
    have := qak l
    simp only [totN]
    rcases List.mem_cons.1 h with rfl | h
    · omega
    · have := ih h; omega
theorem qbq (l : List S126) (hl : l.length ≤ 1048576) (hs : ∀ x ∈ l, x.f0.size ≤ maxLen) : ∀ (d i : Nat) (a : Int), i + d = l.length → 0 ≤ a → a ≤ 1048576 → Ev (fun k => laws_szNodeS.l0 k l a (i : Int)) (if a < totN (l.drop i) then -1 else a - totN (l.drop i)) := by
  intro d
  induction d with
  | zero =>
    intro i a hi h0 h1
    refine Ev.succ ?_
    simp only [laws_szNodeS.l0]
    have e : totN (l.drop i) = 0 := by rw [List.drop_of_length_le (by omega)]; rfl
    refine Ev.neg (by omega) (Ev.some_ ?_)
    rw [e, if_neg (by omega)]; omega
  | succ d ih =>
    intro i a hi h0 h1
    have hi1 : i < l.length := by omega
    refine Ev.succ ?_
    have hm : (rd_T126 l (i : Int)) ∈ l := by
      rw [show rd_T126 l (i : Int) = l[i] by simp [rd_T126, List.getD_eq_getElem?_getD, hi1]]; exact List.getElem_mem hi1
    have hz := hs _ hm
    simp only [laws_szNodeS.l0, laws_szNode.f]
    have hp := qak (l.drop (i + 1))
    have hmx : maxLen = 9223372036854775807 := rfl
    obtain ⟨n, hn⟩ : ∃ n, (rd_T126 l (i : Int)).f0.size = n := ⟨_, rfl⟩
    have et : totN (l.drop i) = (n : Int) + totN (l.drop (i + 1)) := by rw [qdj hi1, ← hn]; rfl
    rw [hn] at hz
    rw [et, hn]
    have hw : wrap64 (a - (n : Int)) = a - n := w64 (by omega) (by omega)
    rw [hw, qab (e := i) (by omega)]
    refine Ev.pos (by omega) (Ev.pos (by omega) ?_)
    by_cases c : a - (n : Int) < 0
    · rw [if_pos c, if_pos (by omega)]
      simp only [Option.bind_some]
      exact Ev.pos (by decide) (Ev.some_ rfl)
    · rw [if_neg c]
      simp only [Option.bind_some]
      refine Ev.neg c ((ih (i + 1) (a - n) (by omega) (by omega) (by omega)).to ?_)
      by_cases c2 : a - (n : Int) < totN (l.drop (i + 1))
      · rw [if_pos c2, if_pos (by omega)]
      · rw [if_neg c2, if_neg (by omega)]; omega
theorem qce (a : List S126) (b : List S130) (ha : a.length ≤ maxLen) (hb : b.length ≤ maxLen) (hs : ∀ x ∈ a, x.f0.size ≤ maxLen) : ∃ r : Int, Ev (fun k => laws_szPlan.f k a b 1048576) r ∧ (r < 0 ∨ (a.length ≤ 1048576 ∧ b.length ≤ 1048576 ∧ ∀ x ∈ a, x.f0.size ≤ 1048576)) := by
  have hmx : maxLen = 9223372036854775807 := rfl
  unfold laws_szPlan.f laws_szNodeS.f laws_szLinkS.f
  rw [w64 (n := 1048576 - (a.length : Int)) (by omega) (by omega)]
  by_cases c : (1048576 : Int) - (a.length : Int) < 0
  · exact ⟨-1, Ev.next (Ev.pos c (Ev.some_ rfl)) (Ev.pos (by decide) (Ev.some_ rfl)), .inl (by decide)⟩
  · have h1 := qbq a (by omega) hs a.length 0 (1048576 - a.length) (by omega) (by omega) (by omega)
    rw [List.drop_zero] at h1
    have hp := qak a
    by_cases c2 : (1048576 : Int) - (a.length : Int) < totN a
    · rw [if_pos c2] at h1
      exact ⟨-1, Ev.next (Ev.neg c h1) (Ev.pos (by decide) (Ev.some_ rfl)), .inl (by decide)⟩
    · rw [if_neg c2] at h1
      have hw : wrap64 ((1048576 : Int) - (a.length : Int) - totN a - (b.length : Int)) = (1048576 : Int) - (a.length : Int) - totN a - (b.length : Int) := w64 (by omega) (by omega)
      by_cases c3 : (1048576 : Int) - (a.length : Int) - totN a - (b.length : Int) < 0
      · exact ⟨-1, Ev.next (Ev.neg c h1) (Ev.neg (by omega) (Ev.next (a := -1) (Ev.here (by rw [hw, if_pos c3])) (Ev.pos (by decide) (Ev.some_ rfl)))), .inl (by decide)⟩
      · refine ⟨(1048576 : Int) - (a.length : Int) - totN a - (b.length : Int), Ev.next (Ev.neg c h1) (Ev.neg (by omega) (Ev.next (a := (1048576 : Int) - (a.length : Int) - totN a - (b.length : Int)) (Ev.here (by rw [hw, if_neg c3])) (Ev.neg c3 (Ev.some_ rfl)))), .inr ⟨by omega, by omega, fun x hx => ?_⟩⟩
        have := qck hx
        omega
theorem qbr (l : List S94) (hl : l.length ≤ 1048576) : ∀ (d i : Nat), i + d = l.length → Ev (fun k => laws_eqNodeS.l0 k l l (i : Int)) true := by
  intro d
  induction d with
  | zero =>
    intro i hi
    refine Ev.succ ?_
    simp only [laws_eqNodeS.l0]
    exact Ev.neg (by omega) (Ev.some_ rfl)
  | succ d ih =>
    intro i hi
    refine Ev.succ ?_
    simp only [laws_eqNodeS.l0]
    rw [qab (e := i) (by omega)]
    refine Ev.pos (by omega) (Ev.pos (by omega) (Ev.pos (by omega) (Ev.next (Ev.here (r := true) ?_) (Ev.pos rfl (ih (i + 1) (by omega))))))
    unfold laws_eqNode.f
    simp
theorem qbs (l : List S97) (hl : l.length ≤ 1048576) : ∀ (d i : Nat), i + d = l.length → Ev (fun k => laws_eqLinkS.l0 k l l (i : Int)) true := by
  intro d
  induction d with
  | zero =>
    intro i hi
    refine Ev.succ ?_
    simp only [laws_eqLinkS.l0]
    exact Ev.neg (by omega) (Ev.some_ rfl)
  | succ d ih =>
    intro i hi
    refine Ev.succ ?_
    simp only [laws_eqLinkS.l0]
    rw [qab (e := i) (by omega)]
    refine Ev.pos (by omega) (Ev.pos (by omega) (Ev.pos (by omega) (Ev.next (Ev.here (r := true) ?_) (Ev.pos rfl (ih (i + 1) (by omega))))))
    unfold laws_eqLink.f
    simp
theorem qcf (a : List S94) (b : List S97) (ha : a.length ≤ 1048576) (hb : b.length ≤ 1048576) : Ev (fun k => laws_eqPlan.f k a b a b) true := by
  unfold laws_eqPlan.f laws_eqNodeS.f laws_eqLinkS.f
  exact Ev.next (Ev.pos rfl (qbr a ha a.length 0 (Nat.zero_add _))) (Ev.pos rfl (Ev.next (Ev.pos rfl (qbs b hb b.length 0 (Nat.zero_add _))) (Ev.pos rfl (Ev.some_ rfl))))
theorem qdk (s : ByteArray) : ∀ (d i : Nat) (r : List UInt8), i + d = s.size → ByteArray.toList.loop s i r = r.reverse ++ s.data.toList.drop i := by
  intro d
  induction d with
  | zero =>
    intro i r h
    have hl : s.data.toList.length = s.size := by rw [Array.length_toList]; rfl
    unfold ByteArray.toList.loop
    rw [if_neg (by omega), List.drop_of_length_le (by omega), List.append_nil]
  | succ d ih =>
    intro i r h
    have hl : s.data.toList.length = s.size := by rw [Array.length_toList]; rfl
    unfold ByteArray.toList.loop
    rw [if_pos (by omega), ih (i + 1) _ (by omega), List.drop_eq_getElem_cons (i := i) (by omega)]
    have e : s.data[i]! = s.data[i]'(by rw [← Array.length_toList]; omega) := getElem!_pos _ _ _
    simp [ByteArray.get!, e]
theorem qay (s : ByteArray) : s.toList = s.data.toList := by
  have := qdk s s.size 0 [] (by omega)
  unfold ByteArray.toList
  rw [this]; rfl
theorem qdo {a b : ByteArray} : a.toList = b.toList ↔ a = b := by
  rw [qay, qay]
  constructor
  · intro h
    cases a; cases b
    simp only [ByteArray.mk.injEq]
    exact Array.toList_inj.1 h
  · intro h; rw [h]
def qax (a b : Int) : Bool := if a = 1 ∨ a = 2 ∨ a = 4 then b == 0 else if a = 3 then decide (-1000 ≤ b) && decide (b ≤ 1000) else decide (1 ≤ b) && decide (b ≤ 64)
def qao (x : S94) : Bool := nodeGo x.f0 x.f0.size 0 0 && ((decide (1 ≤ x.f1) && decide (x.f1 ≤ 8)) && qax x.f1 x.f2)
def qah (l : List S94) : Nat → Nat → Bool
  | 0, _ => true
  | d + 1, i => qao (rd_T94 l (i : Int)) && (!po_seen l (i : Int) && qah l d (i + 1))
def qad (ns : List S94) (x : S97) : Bool := (decide (0 ≤ x.f0) && decide (x.f0 ≤ (ns.length : Int) - 1)) && ((decide (0 ≤ x.f1) && decide (x.f1 ≤ (ns.length : Int) - 1)) && decide ((rd_T94 ns x.f0).f1 ≠ 2))
def qac (ns : List S94) : List S97 → List Int → Option (List Int)
  | [], c => some c
  | x :: xs, c => if qad ns x = true then qac ns xs (c.set x.f1.toNat (wrap64 (rd c x.f1 + 1))) else none
def qam (k : Int) : Int := if k = 1 then 0 else if k = 4 then 2 else 1
def qai (l : List S94) (c : List Int) : Nat → Nat → Bool
  | 0, _ => true
  | d + 1, i => decide (rd c (i : Int) = qam (rd_T94 l (i : Int)).f1) && qai l c d (i + 1)
def endB (ns : List S94) : Option (List Int) → Bool
  | none => false
  | some c => qai ns c ns.length 0
def qal (ns : List S94) (ls : List S97) : Bool := decide (1 ≤ (ns.length : Int) ∧ (ns.length : Int) ≤ 20) && (decide ((ls.length : Int) ≤ 40) && (qah ns ns.length 0 && endB ns (qac ns ls (List.replicate ns.length 0))))
theorem qdd (a b c : Int) : impl_to.f a b c = some (decide (b ≤ a) && decide (a ≤ c)) := by
  unfold impl_to.f
  by_cases h : a ≥ b
  · rw [if_pos h]; simp [show b ≤ a from h]
  · rw [if_neg h]; simp [show ¬ b ≤ a from h]
theorem qba (a : Int) : spec_l20Bare.f a = some (decide (a = 1 ∨ a = 2 ∨ a = 4)) := by
  unfold spec_l20Bare.f
  by_cases h1 : a = 1
  · rw [if_pos h1]; simp [h1]
  · rw [if_neg h1]
    by_cases h2 : a = 2
    · rw [if_pos h2]; simp [h2]
    · rw [if_neg h2]
      by_cases h4 : a = 4
      · simp [h4]
      · simp [h1, h2, h4]
theorem qcg (a : Int) : impl_plainKind.f a = some (decide (a = 1 ∨ a = 2 ∨ a = 4)) := qba a
theorem qbb (a b : Int) : (if decide (a = 1 ∨ a = 2 ∨ a = 4) = true then some (b == 0) else if a = 3 then some (decide (-1000 ≤ b) && decide (b ≤ 1000)) else some (decide (1 ≤ b) && decide (b ≤ 64))) = some (qax a b) := by
  unfold qax
  by_cases h : a = 1 ∨ a = 2 ∨ a = 4
  · rw [if_pos (decide_eq_true h), if_pos h]
  · rw [if_neg (by simpa using h), if_neg h]
    by_cases h3 : a = 3
    · rw [if_pos h3, if_pos h3]
    · rw [if_neg h3, if_neg h3]
theorem qbc (b : Bool) (x : S94) : Ev (fun k => spec_l20Node.j0 k b x.f0 x.f1 x.f2) (!b && qax x.f1 x.f2) := by
  refine Ev.succ ?_
  simp only [spec_l20Node.j0, qba, qaj, Option.bind_some, qbb]
  cases b with
  | true => exact Ev.pos rfl (Ev.some_ rfl)
  | false => exact Ev.neg (by decide) (Ev.some_ rfl)
theorem qaw (b : Bool) (x : S94) : Ev (fun k => impl_nodeOk.j0 k b x.f0 x.f1 x.f2) (!b && qax x.f1 x.f2) := by
  refine Ev.succ ?_
  simp only [impl_nodeOk.j0, qcg, qdd, Option.bind_some, qbb]
  cases b with
  | true => exact Ev.pos rfl (Ev.some_ rfl)
  | false => exact Ev.neg (by decide) (Ev.some_ rfl)
theorem qcl (x : S94) (hs : x.f0.size ≤ 1048576) : Ev (fun k => spec_l20Node.f k x.f0 x.f1 x.f2) (qao x) := by
  unfold spec_l20Node.f qao spec_NodeName.f
  refine Ev.next (qdg x.f0 hs x.f0.size 0 0 (by omega) (by omega) (by omega) (by omega)) ?_
  rw [show ((0 : Nat) : Int) = 0 from rfl]
  cases nodeGo x.f0 x.f0.size 0 0 with
  | false => exact Ev.neg (by decide) ((qbc true x).to rfl)
  | true =>
    simp only [qaj, Option.bind_some]
    exact Ev.pos (by trivial) ((qbc _ x).to (by simp))
theorem qcm (x : S94) : Ev (fun k => impl_nodeOk.f k x.f0 x.f1 x.f2) (qao x) := by
  unfold impl_nodeOk.f qao impl_NodeName.f
  simp only [Option.bind_some]
  cases nodeGo x.f0 x.f0.size 0 0 with
  | false => exact Ev.neg (by decide) ((qaw true x).to rfl)
  | true =>
    refine Ev.pos rfl ?_
    by_cases h : x.f1 < 1
    · exact Ev.pos h ((qaw true x).to (by simp [show ¬ 1 ≤ x.f1 by omega]))
    · refine Ev.neg h ((qaw _ x).to ?_)
      by_cases h8 : x.f1 > 8
      · simp [h8, show ¬ x.f1 ≤ 8 by omega]
      · simp [h8, show x.f1 ≤ 8 by omega, show 1 ≤ x.f1 by omega]
theorem qdl (ns : List S94) (ls : List S97) (i : Nat) (hi : i < ns.length) (hl : ns.length ≤ 1048576) : ∀ (d j : Nat), j + d = i → ∃ r : Int, Ev (fun k => spec_l20Find.l0 k (rd_T94 ns (i : Int)).f0 (j : Int) ns ls) r ∧ (r = (i : Int) ↔ ((ns.drop j).take d).any (fun x => decide (x.f0 = (rd_T94 ns (i : Int)).f0)) = false) := by
  intro d
  induction d with
  | zero =>
    intro j hj
    have e : j = i := by omega
    subst e
    refine ⟨(j : Int), Ev.succ ?_, by simp⟩
    simp only [spec_l20Find.l0]
    exact Ev.pos (by omega) (Ev.pos (by omega) (Ev.pos (by trivial) (Ev.some_ rfl)))
  | succ d ih =>
    intro j hj
    have hj1 : j < ns.length := by omega
    rw [qdn hj1, List.take_succ_cons, List.any_cons]
    by_cases he : (rd_T94 ns (j : Int)).f0 = (rd_T94 ns (i : Int)).f0
    · refine ⟨(j : Int), Ev.succ ?_, ?_⟩
      · simp only [spec_l20Find.l0]
        exact Ev.pos (by omega) (Ev.pos (by omega) (Ev.pos (by rw [he]) (Ev.some_ rfl)))
      · rw [decide_eq_true he, Bool.true_or]
        constructor
        · intro h; omega
        · intro h; cases h
    · obtain ⟨r, h1, h2⟩ := ih (j + 1) (by omega)
      refine ⟨r, Ev.succ ?_, ?_⟩
      · simp only [spec_l20Find.l0]
        rw [qab (e := j) (by omega)]
        exact Ev.pos (by omega) (Ev.pos (by omega) (Ev.neg (fun h => he (qdo.1 h)) h1))
      · rw [decide_eq_false he, Bool.false_or]
        exact h2
theorem qdm (ns : List S94) (ls : List S97) (i : Nat) (hi : i < ns.length) (hl : ns.length ≤ 1048576) : ∃ r : Int, Ev (fun k => spec_l20Find.f k ns ls (rd_T94 ns (i : Int)).f0) r ∧ (r = (i : Int) ↔ po_seen ns (i : Int) = false) := by
  obtain ⟨r, h1, h2⟩ := qdl ns ls i hi hl i 0 (by omega)
  exact ⟨r, h1, h2⟩
theorem qbd (k : Int) : spec_l20Doors.f k = some (qam k) := by
  unfold spec_l20Doors.f qam
  by_cases h1 : k = 1
  · rw [if_pos h1, if_pos h1]
  · rw [if_neg h1, if_neg h1]
    by_cases h4 : k = 4
    · rw [if_pos h4, if_pos h4]
    · rw [if_neg h4, if_neg h4]
theorem qch (k : Int) : impl_doors.f k = some (qam k) := qbd k
theorem qcn (ns : List S94) (ls : List S97) (c : List Int) (hn : ns.length ≤ 20) (hc : c.length = ns.length) : ∀ (d i : Nat), i + d = ns.length → Ev (fun k => spec_PlanOk.l2 k c (i : Int) ns ls) (qai ns c d i) := by
  intro d
  induction d with
  | zero =>
    intro i hi
    refine Ev.succ ?_
    simp only [spec_PlanOk.l2]
    exact Ev.neg (by omega) (Ev.some_ rfl)
  | succ d ih =>
    intro i hi
    refine Ev.succ ?_
    simp only [spec_PlanOk.l2, qbd, Option.bind_some]
    rw [qab (e := i) (by omega)]
    refine Ev.pos (by omega) (Ev.pos (by omega) (Ev.pos (by omega) ?_))
    show Ev _ (decide (rd c (i : Int) = qam (rd_T94 ns (i : Int)).f1) && qai ns c d (i + 1))
    by_cases h : rd c (i : Int) = qam (rd_T94 ns (i : Int)).f1
    · rw [decide_eq_true h, Bool.true_and]
      exact Ev.pos h (ih (i + 1) (by omega))
    · rw [decide_eq_false h, Bool.false_and]
      exact Ev.neg h (Ev.some_ rfl)
theorem qco (ns : List S94) (c : List Int) (hn : ns.length ≤ 20) (hc : c.length = ns.length) : ∀ (d i : Nat), i + d = ns.length → Ev (fun k => impl_PlanOk.l2 k c ns (ns.length : Int) (i : Int)) (qai ns c d i) := by
  intro d
  induction d with
  | zero =>
    intro i hi
    refine Ev.succ ?_
    simp only [impl_PlanOk.l2]
    exact Ev.neg (by omega) (Ev.some_ rfl)
  | succ d ih =>
    intro i hi
    refine Ev.succ ?_
    simp only [impl_PlanOk.l2, qch, Option.bind_some]
    rw [qab (e := i) (by omega)]
    refine Ev.pos (by omega) (Ev.pos (by omega) (Ev.pos (by omega) (Ev.pos (by omega) ?_)))
    show Ev _ (decide (rd c (i : Int) = qam (rd_T94 ns (i : Int)).f1) && qai ns c d (i + 1))
    by_cases h : rd c (i : Int) = qam (rd_T94 ns (i : Int)).f1
    · rw [decide_eq_true h, Bool.true_and]
      exact Ev.pos h (ih (i + 1) (by omega))
    · rw [decide_eq_false h, Bool.false_and]
      exact Ev.neg h (Ev.some_ rfl)
theorem qaf (ns : List S94) (x : S97) : qad ns x = true ↔ (0 ≤ x.f0 ∧ x.f0 ≤ (ns.length : Int) - 1) ∧ (0 ≤ x.f1 ∧ x.f1 ≤ (ns.length : Int) - 1) ∧ (rd_T94 ns x.f0).f1 ≠ 2 := by
  unfold qad
  simp
theorem qcp (ns : List S94) (ls : List S97) (hn : ns.length ≤ 20) (hls : ls.length ≤ 40) : ∀ (d i : Nat) (c : List Int), i + d = ls.length → c.length = ns.length → Ev (fun k => spec_PlanOk.l1 k c (i : Int) ns ls) (endB ns (qac ns (ls.drop i) c)) := by
  intro d
  induction d with
  | zero =>
    intro i c hi hc
    refine Ev.succ ?_
    simp only [spec_PlanOk.l1]
    rw [List.drop_of_length_le (by omega)]
    exact Ev.neg (by omega) (qcn ns ls c hn hc ns.length 0 (by omega))
  | succ d ih =>
    intro i c hi hc
    refine Ev.succ ?_
    simp only [spec_PlanOk.l1, qaj, Option.bind_some]
    rw [qab (e := i) (by omega), w64 (n := (ns.length : Int) - 1) (by omega) (by omega), qcc (by omega)]
    refine Ev.pos (by omega) (Ev.pos (by omega) ?_)
    generalize rd_T97 ls (i : Int) = x
    show Ev _ (endB ns (if qad ns x = true then qac ns (ls.drop (i + 1)) (c.set x.f1.toNat (wrap64 (rd c x.f1 + 1))) else none))
    by_cases h : qad ns x = true
    · rw [if_pos h]
      obtain ⟨⟨h1, h2⟩, ⟨h3, h4⟩, h5⟩ := (qaf ns x).1 h
      exact Ev.pos (by simp [h1, h2]) (Ev.pos (by simp [h3, h4]) (Ev.pos h1 (Ev.pos (by omega) (Ev.neg h5 (Ev.pos h3 (Ev.pos (by omega) (ih (i + 1) _ (by omega) (by simpa using hc))))))))
    · rw [if_neg h]
      refine Ev.both (fun h1 => Ev.both (fun h2 => ?_) (fun _ => Ev.some_ rfl)) (fun _ => Ev.some_ rfl)
      simp only [Bool.and_eq_true, decide_eq_true_eq] at h1 h2
      refine Ev.pos h1.1 (Ev.pos (by omega) (Ev.pos ?_ (Ev.some_ rfl)))
      exact Decidable.byContradiction fun h5 => h ((qaf ns x).2 ⟨h1, h2, h5⟩)
theorem qcq (ns : List S94) (ls : List S97) (hn : ns.length ≤ 20) (hls : ls.length ≤ 40) : ∀ (d i : Nat) (c : List Int), i + d = ls.length → c.length = ns.length → Ev (fun k => impl_PlanOk.l1 k c ls (ls.length : Int) (i : Int) ns ls) (endB ns (qac ns (ls.drop i) c)) := by
  intro d
  induction d with
  | zero =>
    intro i c hi hc
    refine Ev.succ ?_
    simp only [impl_PlanOk.l1]
    rw [List.drop_of_length_le (by omega)]
    exact Ev.neg (by omega) (qco ns c hn hc ns.length 0 (by omega))
  | succ d ih =>
    intro i c hi hc
    refine Ev.succ ?_
    simp only [impl_PlanOk.l1, qdd, Option.bind_some]
    rw [qab (e := i) (by omega), w64 (n := (ns.length : Int) - 1) (by omega) (by omega), qcc (by omega)]
    refine Ev.pos (by omega) (Ev.pos (by omega) (Ev.pos (by omega) ?_))
    generalize rd_T97 ls (i : Int) = x
    show Ev _ (endB ns (if qad ns x = true then qac ns (ls.drop (i + 1)) (c.set x.f1.toNat (wrap64 (rd c x.f1 + 1))) else none))
    by_cases h : qad ns x = true
    · rw [if_pos h]
      obtain ⟨⟨h1, h2⟩, ⟨h3, h4⟩, h5⟩ := (qaf ns x).1 h
      exact Ev.pos (by simp [h1, h2]) (Ev.pos (by simp [h3, h4]) (Ev.pos h1 (Ev.pos (by omega) (Ev.neg h5 (Ev.pos h3 (Ev.pos (by omega) (ih (i + 1) _ (by omega) (by simpa using hc))))))))
    · rw [if_neg h]
      refine Ev.both (fun h1 => Ev.both (fun h2 => ?_) (fun _ => Ev.some_ rfl)) (fun _ => Ev.some_ rfl)
      simp only [Bool.and_eq_true, decide_eq_true_eq] at h1 h2
      refine Ev.pos h1.1 (Ev.pos (by omega) (Ev.pos ?_ (Ev.some_ rfl)))
      exact Decidable.byContradiction fun h5 => h ((qaf ns x).2 ⟨h1, h2, h5⟩)
theorem qci {ns : List S94} {i : Nat} (hs : ∀ x ∈ ns, x.f0.size ≤ 1048576) (hi : i < ns.length) : (rd_T94 ns (i : Int)).f0.size ≤ 1048576 := by rw [rd94 hi]; exact hs _ (List.getElem_mem hi)
theorem qcr (ns : List S94) (ls : List S97) (hn : ns.length ≤ 20) (hls : ls.length ≤ 40) (hs : ∀ x ∈ ns, x.f0.size ≤ 1048576) : ∀ (d i : Nat), i + d = ns.length → Ev (fun k => spec_PlanOk.l0 k (List.replicate ns.length 0) (i : Int) ns ls) (qah ns d i && endB ns (qac ns ls (List.replicate ns.length 0))) := by
  intro d
  induction d with
  | zero =>
    intro i hi
    refine Ev.succ ?_
    simp only [spec_PlanOk.l0]
    exact Ev.neg (by omega) (qcp ns ls hn hls ls.length 0 _ (by omega) (by simp))
  | succ d ih =>
    intro i hi
    obtain ⟨r, hr, hri⟩ := qdm ns ls i (by omega) (by omega)
    refine Ev.succ ?_
    simp only [spec_PlanOk.l0]
    rw [qab (e := i) (by omega)]
    refine Ev.pos (by omega) (Ev.pos (by omega) (Ev.next (qcl _ (qci hs (by omega))) ?_))
    show Ev _ ((qao (rd_T94 ns (i : Int)) && (!po_seen ns (i : Int) && qah ns d (i + 1))) && endB ns (qac ns ls (List.replicate ns.length 0)))
    cases qao (rd_T94 ns (i : Int)) with
    | false => exact Ev.neg (by decide) (Ev.some_ rfl)
    | true =>
      refine Ev.pos rfl (Ev.next hr ?_)
      cases hse : po_seen ns (i : Int) with
      | true => exact Ev.neg (fun h => by rw [hri.1 h] at hse; cases hse) (Ev.some_ rfl)
      | false => exact Ev.pos (hri.2 hse) ((ih (i + 1) (by omega)).to (by simp))
theorem qcs (ns : List S94) (ls : List S97) (hn : ns.length ≤ 20) (hls : ls.length ≤ 40) (hs : ∀ x ∈ ns, x.f0.size ≤ 1048576) : ∀ (d i : Nat), i + d = ns.length → Ev (fun k => impl_PlanOk.l0 k ns (ns.length : Int) (i : Int) ns ls) (qah ns d i && endB ns (qac ns ls (List.replicate ns.length 0))) := by
  intro d
  induction d with
  | zero =>
    intro i hi
    refine Ev.succ ?_
    simp only [impl_PlanOk.l0]
    refine Ev.neg (by omega) (Ev.pos (by omega) (Ev.pos (by omega) ?_))
    rw [Int.toNat_natCast]
    exact qcq ns ls hn hls ls.length 0 _ (by omega) (by simp)
  | succ d ih =>
    intro i hi
    refine Ev.succ ?_
    simp only [impl_PlanOk.l0]
    rw [qab (e := i) (by omega)]
    refine Ev.pos (by omega) (Ev.pos (by omega) (Ev.pos (by omega) (Ev.pos (qci hs (by omega)) (Ev.next (qcm _) ?_))))
    show Ev _ ((qao (rd_T94 ns (i : Int)) && (!po_seen ns (i : Int) && qah ns d (i + 1))) && endB ns (qac ns ls (List.replicate ns.length 0)))
    cases qao (rd_T94 ns (i : Int)) with
    | false => exact Ev.neg (by decide) (Ev.some_ rfl)
    | true =>
      refine Ev.pos rfl ?_
      cases hse : po_seen ns (i : Int) with
      | true => exact Ev.pos rfl (Ev.some_ rfl)
      | false => exact Ev.neg (by decide) ((ih (i + 1) (by omega)).to (by simp))
theorem qct (ns : List S94) (ls : List S97) (hs : ∀ x ∈ ns, x.f0.size ≤ 1048576) : Ev (fun k => spec_PlanOk.f k ns ls) (qal ns ls) := by
  have ft : ∀ b : Bool, b = true → Ev (fun k => spec_PlanOk.j0 k b ns ls) false := by
    intro b hb
    refine Ev.succ ?_
    simp only [spec_PlanOk.j0]
    exact Ev.pos hb (Ev.some_ rfl)
  unfold spec_PlanOk.f qal
  rw [qaj]
  simp only [Option.bind_some]
  by_cases h1 : 1 ≤ (ns.length : Int) ∧ (ns.length : Int) ≤ 20
  · rw [decide_eq_true h1, Bool.true_and]
    refine Ev.pos (by simp; omega) ?_
    by_cases h2 : (ls.length : Int) ≤ 40
    · rw [decide_eq_true h2, decide_eq_false (show ¬ (ls.length : Int) > 40 by omega), Bool.true_and]
      refine Ev.succ ?_
      simp only [spec_PlanOk.j0]
      refine Ev.neg (by decide) (Ev.pos (by omega) (Ev.pos (by omega) ?_))
      rw [Int.toNat_natCast]
      exact qcr ns ls (by omega) (by omega) hs ns.length 0 (by omega)
    · rw [decide_eq_false h2, Bool.false_and]
      exact ft _ (by simp; omega)
  · rw [decide_eq_false h1, Bool.false_and]
    exact Ev.neg (by simp; omega) (ft _ rfl)
theorem qcu (ns : List S94) (ls : List S97) (hs : ∀ x ∈ ns, x.f0.size ≤ 1048576) : Ev (fun k => impl_PlanOk.f k ns ls) (qal ns ls) := by
  have ft : ∀ b : Bool, b = true → Ev (fun k => impl_PlanOk.j0 k b ns ls) false := by
    intro b hb
    refine Ev.succ ?_
    simp only [impl_PlanOk.j0]
    exact Ev.pos hb (Ev.some_ rfl)
  unfold impl_PlanOk.f qal
  by_cases h1 : 1 ≤ (ns.length : Int) ∧ (ns.length : Int) ≤ 20
  · rw [decide_eq_true h1, Bool.true_and]
    refine Ev.neg (by omega) (Ev.neg (by omega) ?_)
    by_cases h2 : (ls.length : Int) ≤ 40
    · rw [decide_eq_true h2, decide_eq_false (show ¬ (ls.length : Int) > 40 by omega), Bool.true_and]
      refine Ev.succ ?_
      simp only [impl_PlanOk.j0]
      exact Ev.neg (by decide) (qcs ns ls (by omega) (by omega) hs ns.length 0 (by omega))
    · rw [decide_eq_false h2, Bool.false_and]
      exact ft _ (by simp; omega)
  · rw [decide_eq_false h1, Bool.false_and]
    exact Ev.both (fun _ => ft _ rfl) (fun _ => Ev.both (fun _ => ft _ rfl) (fun _ => ft _ (by omega)))
theorem qbe (l : List S94) (i : Nat) (v : S94) (h : i < l.length) : rd_T94 (l.set i v) (i : Int) = v := by simp [rd_T94, List.getD_eq_getElem?_getD, h]
theorem qcv (l : List S97) (i : Nat) (v : S97) (h : i < l.length) : rd_T97 (l.set i v) (i : Int) = v := by simp [rd_T97, List.getD_eq_getElem?_getD, h]
theorem qar (l : List Int) : (strOfNums l).size = l.length := by
  unfold strOfNums
  simp [ByteArray.size]
theorem qbh : ∀ (d : Nat) (x : Int) (s : ByteArray), 0 ≤ x → x ≤ 9000000000000000000 → x < 10 ^ d → d + s.size ≤ 1000 → ∃ t, Ev (fun k => laws_markText.l0 k x s) t := by
  intro d
  induction d with
  | zero =>
    intro x s h0 hb h1 hs
    have hx : x = 0 := by simp at h1; omega
    subst hx
    exact ⟨_, Ev.succ (by simp only [laws_markText.l0]; exact Ev.neg (by omega) (Ev.pos (by omega) (Ev.some_ rfl)))⟩
  | succ d ih =>
    intro x s h0 hb h1 hs
    by_cases hx : x > 0
    · have hd : Int.tdiv x 10 = x / 10 := Int.tdiv_eq_ediv_of_nonneg h0
      have hlt : x / 10 < 10 ^ d := by
        rw [Int.pow_succ] at h1
        omega
      have hw : wrap64 (Int.tdiv x 10) = x / 10 := by rw [hd]; exact w64 (by omega) (by omega)
      obtain ⟨t, ht⟩ := ih (x / 10) (strOfNums [(wrap64 (48 + (Int.tmod x 10))) % 256] ++ s) (by omega) (by omega) hlt (by rw [ByteArray.size_append, qar]; simp; omega)
      refine ⟨t, Ev.succ ?_⟩
      simp only [laws_markText.l0]
      rw [hw]
      exact Ev.pos hx (Ev.next (Ev.some_ rfl) (Ev.pos (by rw [qar]; simp; omega) ht))
    · have hx0 : x = 0 := by omega
      subst hx0
      exact ⟨_, Ev.succ (by simp only [laws_markText.l0]; exact Ev.neg (by omega) (Ev.pos (by omega) (Ev.some_ rfl)))⟩
theorem qbi (x : Int) (h0 : 0 ≤ x) (hb : x ≤ 9000000000000000000) : ∃ t, Ev (fun k => laws_markText.f k x) t := by
  unfold laws_markText.f
  by_cases h : x ≤ 0
  · exact ⟨_, Ev.pos h (Ev.some_ rfl)⟩
  · obtain ⟨t, ht⟩ := qbh 19 x ⟨#[]⟩ h0 hb (by omega) (by decide)
    exact ⟨t, Ev.neg h ht⟩
theorem qcw : ∀ (d i : Nat) (l : List S94) (a : Int), i + d = l.length → l.length ≤ 1048576 → 0 ≤ a → a ≤ 1000000000 + 3 * i → ∃ l2, Ev (fun k => laws_markNodeS.l0 k l a (i : Int)) (a + 3 * d, l2) := by
  intro d
  induction d with
  | zero =>
    intro i l a hi hl h0 h1
    refine ⟨l, Ev.succ ?_⟩
    simp only [laws_markNodeS.l0]
    exact Ev.neg (by omega) (Ev.some_ (by simp))
  | succ d ih =>
    intro i l a hi hl h0 h1
    obtain ⟨t, ht⟩ := qbi a h0 (by omega)
    have e1 : wrap64 (a + 1) = a + 1 := w64 (by omega) (by omega)
    have e2 : wrap64 (a + 2) = a + 2 := w64 (by omega) (by omega)
    have e3 : wrap64 (a + 3) = a + 3 := w64 (by omega) (by omega)
    have q := fun l2 => ih (i + 1) l2 (a + 3)
    refine Exists.elim (q (((l.set i ⟨t, (rd_T94 l (i : Int)).f1, (rd_T94 l (i : Int)).f2⟩).set i ⟨t, a + 1, (rd_T94 l (i : Int)).f2⟩).set i ⟨t, a + 1, a + 2⟩) (by simp; omega) (by simpa using hl) (by omega) (by omega)) fun l2 h2 => ⟨l2, Ev.succ ?_⟩
    simp only [laws_markNodeS.l0]
    rw [qab (e := i) (by omega), e1, show a + 1 + 1 = a + 2 by omega, e2, show a + 2 + 1 = a + 3 by omega, e3, Int.toNat_natCast]
    refine Ev.pos (by omega) (Ev.next ht (Ev.pos (by omega) (Ev.next (Ev.some_ rfl) (Ev.next (Ev.some_ rfl) ?_))))
    rw [qbe l i _ (by omega), qbe _ i _ (by simp; omega)]
    exact h2.to (by rw [Prod.mk.injEq]; exact ⟨by omega, rfl⟩)
theorem qcx : ∀ (d i : Nat) (l : List S97) (a : Int), i + d = l.length → l.length ≤ 1048576 → 0 ≤ a → a ≤ 10000000000 + 2 * i → ∃ l2, Ev (fun k => laws_markLinkS.l0 k l a (i : Int)) (a + 2 * d, l2) := by
  intro d
  induction d with
  | zero =>
    intro i l a hi hl h0 h1
    refine ⟨l, Ev.succ ?_⟩
    simp only [laws_markLinkS.l0]
    exact Ev.neg (by omega) (Ev.some_ (by simp))
  | succ d ih =>
    intro i l a hi hl h0 h1
    have e1 : wrap64 (a + 1) = a + 1 := w64 (by omega) (by omega)
    have e2 : wrap64 (a + 2) = a + 2 := w64 (by omega) (by omega)
    refine Exists.elim (ih (i + 1) ((l.set i ⟨a, (rd_T97 l (i : Int)).f1⟩).set i ⟨a, a + 1⟩) (a + 2) (by simp; omega) (by simpa using hl) (by omega) (by omega)) fun l2 h2 => ⟨l2, Ev.succ ?_⟩
    simp only [laws_markLinkS.l0]
    rw [qab (e := i) (by omega), e1, show a + 1 + 1 = a + 2 by omega, e2, Int.toNat_natCast]
    refine Ev.pos (by omega) (Ev.pos (by omega) (Ev.next (Ev.some_ rfl) ?_))
    rw [qcv l i _ (by omega)]
    exact h2.to (by rw [Prod.mk.injEq]; exact ⟨by omega, rfl⟩)
theorem qbj (a : List S94) (b : List S97) (ha : a.length ≤ 1048576) (hb : b.length ≤ 1048576) : ∃ p : Int × List S94 × List S97, Ev (fun k => laws_markPlan.f k a b 1) p ∧ 0 ≤ p.1 := by
  obtain ⟨x, hx⟩ := qcw a.length 0 a 1 (by omega) ha (by omega) (by omega)
  obtain ⟨y, hy⟩ := qcx b.length 0 b (1 + 3 * a.length) (by omega) hb (by omega) (by omega)
  refine ⟨((1 : Int) + 3 * a.length + 2 * b.length, x, y), ?_, ?_⟩
  · unfold laws_markPlan.f laws_markNodeS.f laws_markLinkS.f
    exact Ev.next hx (Ev.next hy (Ev.some_ rfl))
  · simp only; omega
theorem qdp {xs : List S80} {i : Nat} (h : i < xs.length) : xs[i]? = some (rd_T80 xs (i : Int)) := by simp [rd_T80, List.getD_eq_getElem?_getD, h]
theorem qcy (l : List S80) (i : Nat) (v : S80) (h : i < l.length) : rd_T80 (l.set i v) (i : Int) = v := by simp [rd_T80, List.getD_eq_getElem?_getD, h]
def qae (a : Int) : Nat → List S80
  | 0 => []
  | d + 1 => ⟨a, a + 1, a + 2, a + 3, a + 4⟩ :: qae (a + 5) d
theorem qap : ∀ (d : Nat) (a : Int), (qae a d).length = d
  | 0, _ => rfl
  | d + 1, a => by simp [qae, qap d]
theorem qbt (l : List S80) (hl : l.length ≤ 1048576) : ∀ (d i : Nat), i + d = l.length → Ev (fun k => laws_eqWireS.l0 k l l (i : Int)) true := by
  intro d
  induction d with
  | zero =>
    intro i hi
    refine Ev.succ ?_
    simp only [laws_eqWireS.l0]
    exact Ev.neg (by omega) (Ev.some_ rfl)
  | succ d ih =>
    intro i hi
    refine Ev.succ ?_
    simp only [laws_eqWireS.l0]
    rw [qab (e := i) (by omega)]
    refine Ev.pos (by omega) (Ev.pos (by omega) (Ev.pos (by omega) (Ev.next (Ev.here (r := true) ?_) (Ev.pos rfl (ih (i + 1) (by omega))))))
    unfold laws_eqWire.f
    simp
theorem qbu (l : List S80) (hl : l.length ≤ 1048576) : Ev (fun k => laws_eqWireS.f k l l) true := by
  unfold laws_eqWireS.f
  exact Ev.pos rfl (qbt l hl l.length 0 (Nat.zero_add _))
theorem wr5 {a : Int} (h0 : 0 ≤ a) (h1 : a ≤ 1000000000000) : wrap64 (a + 1) = a + 1 ∧ wrap64 (a + 2) = a + 2 ∧ wrap64 (a + 3) = a + 3 ∧ wrap64 (a + 4) = a + 4 ∧ wrap64 (a + 5) = a + 5 :=
  ⟨w64 (by omega) (by omega), w64 (by omega) (by omega), w64 (by omega) (by omega), w64 (by omega) (by omega), w64 (by omega) (by omega)⟩
theorem qcz : ∀ (d i : Nat) (l : List S80) (a : Int), i + d = l.length → l.length ≤ 1048576 → 0 ≤ a → a ≤ 1000000000 + 5 * i → Ev (fun k => laws_markWireS.l0 k l a (i : Int)) (a + 5 * d, l.take i ++ qae a d) := by
  intro d
  induction d with
  | zero =>
    intro i l a hi hl h0 h1
    refine Ev.succ ?_
    simp only [laws_markWireS.l0]
    refine Ev.neg (by omega) (Ev.some_ ?_)
    rw [List.take_of_length_le (by omega)]; simp [qae]
  | succ d ih =>
    intro i l a hi hl h0 h1
    obtain ⟨e1, e2, e3, e4, e5⟩ := wr5 h0 (by omega)
    refine Ev.succ ?_
    simp only [laws_markWireS.l0]
    rw [qab (e := i) (by omega), e1, show a + 1 + 1 = a + 2 by omega, e2, show a + 2 + 1 = a + 3 by omega, e3, show a + 3 + 1 = a + 4 by omega, e4, show a + 4 + 1 = a + 5 by omega, e5, Int.toNat_natCast]
    refine Ev.pos (by omega) (Ev.pos (by omega) (Ev.next (Ev.some_ rfl) (Ev.next (Ev.some_ rfl) (Ev.next (Ev.some_ rfl) (Ev.next (Ev.some_ rfl) ?_)))))
    have hs : ∀ v, rd_T80 (l.set i v) (i : Int) = v := fun v => qcy l i v (by omega)
    simp only [List.set_set, hs]
    refine (ih (i + 1) (l.set i ⟨a, a + 1, a + 2, a + 3, a + 4⟩) (a + 5) (by simp; omega) (by simpa using hl) (by omega) (by omega)).to ?_
    rw [take_set_end (by omega)]
    simp only [qae, List.append_assoc, List.cons_append, List.nil_append, Prod.mk.injEq, and_true]
    omega
theorem qda (l : List S80) (a : Int) (hl : l.length ≤ 1048576) (h0 : 0 ≤ a) (h1 : a ≤ 1000000000) : Ev (fun k => laws_markWireS.f k l a) (a + 5 * l.length, qae a l.length) := by
  unfold laws_markWireS.f
  exact (qcz l.length 0 l a (by omega) hl h0 (by omega)).to (by simp)
theorem qdb (p : List S80) : ∀ (d : Nat) (a : Int) (l : List S80), l = p ++ qae a d → l.length ≤ 1048576 → ∀ i : Nat, i = p.length → 0 ≤ a → a ≤ 1000000000 + 5 * i → Ev (fun k => laws_heldWireS.l0 k l a (i : Int)) (a + 5 * d) := by
  intro d
  induction d generalizing p with
  | zero =>
    intro a l hl hn i hi h0 h1
    refine Ev.succ ?_
    simp only [laws_heldWireS.l0]
    have : l.length = p.length := by rw [hl]; simp [qae]
    exact Ev.neg (by omega) (Ev.some_ (by omega))
  | succ d ih =>
    intro a l hl hn i hi h0 h1
    have e : l.length = p.length + (d + 1) := by rw [hl]; simp [qae, qap]
    have er : rd_T80 l (i : Int) = ⟨a, a + 1, a + 2, a + 3, a + 4⟩ := by
      have := qdp (xs := l) (i := i) (by omega)
      rw [hl, List.getElem?_append_right (by omega), hi, Nat.sub_self] at this
      rw [hl, hi]
      exact (Option.some.inj this).symm
    obtain ⟨e1, e2, e3, e4, e5⟩ := wr5 h0 (by omega)
    refine Ev.succ ?_
    simp only [laws_heldWireS.l0, er]
    rw [qab (e := i) (by omega), e1, show a + 1 + 1 = a + 2 by omega, e2, show a + 2 + 1 = a + 3 by omega, e3, show a + 3 + 1 = a + 4 by omega, e4, show a + 4 + 1 = a + 5 by omega, e5]
    refine Ev.pos (by omega) (Ev.pos (by omega) (Ev.pos trivial (Ev.pos rfl (Ev.pos rfl (Ev.pos rfl (Ev.pos rfl ?_))))))
    exact (ih (p ++ [⟨a, a + 1, a + 2, a + 3, a + 4⟩]) (a + 5) l (by rw [hl]; simp [qae]) hn (i + 1) (by simp [hi]) (by omega) (by omega)).to (by omega)
theorem qdc (n : Nat) (a : Int) (hn : n ≤ 1048576) (h0 : 0 ≤ a) (h1 : a ≤ 1000000000) : Ev (fun k => laws_heldWireS.f k (qae a n) a) (a + 5 * n) :=
  qdb [] n a (qae a n) (by simp) (by rw [qap]; exact hn) 0 rfl h0 (by omega)
def qaa (ns : List S94) (x : S97) : S80 := ⟨x.f0, x.f1, if (rd_T94 ns x.f0).f1 = 6 then (rd_T94 ns x.f0).f2 else 1, if (rd_T94 ns x.f1).f1 = 7 ∨ (rd_T94 ns x.f1).f1 = 8 then (rd_T94 ns x.f1).f2 else 1, if (rd_T94 ns x.f0).f1 = 5 then (rd_T94 ns x.f0).f2 else 0⟩
def qag (ns : List S94) (ls : List S97) : List S80 × Bool := if qal ns ls = true then (ls.map (qaa ns), true) else ([], false)
theorem qaz (ns : List S94) : ∀ (ls : List S97) (c : List Int), endB ns (qac ns ls c) = true → ∀ x ∈ ls, qad ns x = true
  | [], _, _, x, hx => by cases hx
  | y :: ls, c, h, x, hx => by
    unfold qac at h
    by_cases hy : qad ns y = true
    · rw [if_pos hy] at h
      rcases List.mem_cons.1 hx with rfl | hx
      · exact hy
      · exact qaz ns ls _ h x hx
    · rw [if_neg hy] at h
      cases h
theorem qat {ns : List S94} {ls : List S97} (h : qal ns ls = true) : ns.length ≤ 20 ∧ ls.length ≤ 40 ∧ ∀ x ∈ ls, qad ns x = true := by
  unfold qal at h
  simp only [Bool.and_eq_true, decide_eq_true_eq] at h
  exact ⟨by omega, by omega, qaz ns ls _ h.2.2.2⟩
theorem qde {ls : List S97} {i : Nat} (h : i < ls.length) : rd_T97 ls (i : Int) ∈ ls := by rw [rd97 h]; exact List.getElem_mem h
theorem qcj {xs : List S97} {i : Nat} (h : i < xs.length) : xs.take (i + 1) = xs.take i ++ [rd_T97 xs (i : Int)] := by rw [rd97 h]; exact (List.take_append_getElem h).symm
theorem qbv (ns : List S94) (ls : List S97) (hn : ns.length ≤ 20) (hls : ls.length ≤ 40) (hk : ∀ x ∈ ls, qad ns x = true) : ∀ (d i : Nat), i + d = ls.length → Ev (fun k => spec_Wiring.l0 k ((ls.take i).map (qaa ns)) (i : Int) ns ls) (ls.map (qaa ns), true) := by
  intro d
  induction d with
  | zero =>
    intro i hi
    refine Ev.succ ?_
    simp only [spec_Wiring.l0]
    rw [List.take_of_length_le (by omega)]
    exact Ev.neg (by omega) (Ev.some_ rfl)
  | succ d ih =>
    intro i hi
    obtain ⟨⟨h1, h2⟩, ⟨h3, h4⟩, h5⟩ := (qaf ns _).1 (hk _ (qde (ls := ls) (i := i) (by omega)))
    have nx := ih (i + 1) (by omega)
    rw [qcj (by omega), List.map_append] at nx
    have hlen : ((ls.take i).map (qaa ns)).length < 3518437208883 := by rw [List.length_map, List.length_take]; omega
    generalize (ls.take i).map (qaa ns) = acc at nx hlen
    refine Ev.succ ?_
    simp only [spec_Wiring.l0]
    refine Ev.pos (by omega) (Ev.pos (by omega) (Ev.pos h1 (Ev.pos (by omega) (Ev.pos h3 (Ev.pos (by omega) ?_)))))
    generalize rd_T97 ls (i : Int) = x at *
    have two : ∀ (g : Int), g = (qaa ns x).f2 → Ev (fun k => spec_Wiring.j1 k acc (i : Int) ns ls ((rd_T94 ns x.f0).f0) ((rd_T94 ns x.f0).f1) ((rd_T94 ns x.f0).f2) ((rd_T94 ns x.f1).f0) ((rd_T94 ns x.f1).f1) ((rd_T94 ns x.f1).f2) x.f0 x.f1 g 1 0) (ls.map (qaa ns), true) := by
      intro g hg
      have three : ∀ (b : Bool) (t : Int), t = (qaa ns x).f3 → (b = true → t = (rd_T94 ns x.f1).f2) → (b = false → t = 1) → Ev (fun k => spec_Wiring.j2 k acc (i : Int) b ns ls ((rd_T94 ns x.f0).f0) ((rd_T94 ns x.f0).f1) ((rd_T94 ns x.f0).f2) ((rd_T94 ns x.f1).f0) ((rd_T94 ns x.f1).f1) ((rd_T94 ns x.f1).f2) x.f0 x.f1 g 1 0) (ls.map (qaa ns), true) := by
        intro b t ht hb1 hb0
        refine Ev.succ ?_
        simp only [spec_Wiring.j2]
        rw [qab (e := i) (by omega)]
        have fin : ∀ (hv : Int), hv = (qaa ns x).f4 → Ev (fun k => spec_Wiring.l0 k (acc ++ [⟨x.f0, x.f1, g, t, hv⟩]) (((i + 1 : Nat)) : Int) ns ls) (ls.map (qaa ns), true) := by
          intro hv hh
          rw [hg, ht, hh]
          exact nx
        cases b with
        | true =>
          have e := hb1 rfl
          rw [← e]
          refine Ev.pos rfl (Ev.both (fun c => Ev.pos hlen (fin _ ?_)) (fun c => Ev.pos hlen (fin _ ?_)))
          · simp [qaa, c]
          · simp [qaa, c]
        | false =>
          have e := hb0 rfl
          rw [← e]
          refine Ev.neg (by decide) (Ev.both (fun c => Ev.pos hlen ?_) (fun c => Ev.pos hlen ?_))
          · have := fin (rd_T94 ns x.f0).f2 (by simp [qaa, c])
            exact this
          · have := fin 0 (by simp [qaa, c])
            exact this
      refine Ev.succ ?_
      simp only [spec_Wiring.j1]
      refine Ev.both (fun c => three true _ rfl (fun _ => by simp [qaa, c]) (fun h => by cases h)) (fun c => three _ _ rfl (fun h => ?_) (fun h => ?_))
      · have h8 : (rd_T94 ns x.f1).f1 = 8 := by simpa using h
        simp [qaa, h8]
      · have h8 : ¬ (rd_T94 ns x.f1).f1 = 8 := by simpa using h
        simp [qaa, h8, c]
    refine Ev.both (fun c => two _ (by simp [qaa, c])) (fun c => two _ (by simp [qaa, c]))
theorem qbw (ns : List S94) (ls : List S97) (hn : ns.length ≤ 20) (hls : ls.length ≤ 40) (hk : ∀ x ∈ ls, qad ns x = true) : ∀ (d i : Nat), i + d = ls.length → Ev (fun k => impl_Wiring.l0 k ((ls.take i).map (qaa ns)) ls (ls.length : Int) (i : Int) ns ls) (ls.map (qaa ns), true) := by
  intro d
  induction d with
  | zero =>
    intro i hi
    refine Ev.succ ?_
    simp only [impl_Wiring.l0]
    rw [List.take_of_length_le (by omega)]
    exact Ev.neg (by omega) (Ev.some_ rfl)
  | succ d ih =>
    intro i hi
    obtain ⟨⟨h1, h2⟩, ⟨h3, h4⟩, h5⟩ := (qaf ns _).1 (hk _ (qde (ls := ls) (i := i) (by omega)))
    have nx := ih (i + 1) (by omega)
    rw [qcj (by omega), List.map_append] at nx
    have hlen : ((ls.take i).map (qaa ns)).length < 3518437208883 := by rw [List.length_map, List.length_take]; omega
    generalize (ls.take i).map (qaa ns) = acc at nx hlen
    refine Ev.succ ?_
    simp only [impl_Wiring.l0]
    rw [qab (e := i) (by omega)]
    refine Ev.pos (by omega) (Ev.pos (by omega) (Ev.pos (by omega) (Ev.pos h1 (Ev.pos (by omega) ?_))))
    generalize rd_T97 ls (i : Int) = x at *
    have fin : ∀ (g t hv : Int), g = (qaa ns x).f2 → t = (qaa ns x).f3 → hv = (qaa ns x).f4 → Ev (fun k => impl_Wiring.l0 k (acc ++ [⟨x.f0, x.f1, g, t, hv⟩]) ls (ls.length : Int) (((i + 1 : Nat)) : Int) ns ls) (ls.map (qaa ns), true) := by
      intro g t hv hg ht hh
      rw [hg, ht, hh]
      exact nx
    refine Ev.both (fun c6 => Ev.pos h3 (Ev.pos (by omega) (Ev.both (fun c7 => Ev.pos hlen (fin _ _ _ ?_ ?_ ?_)) (fun c7 => Ev.both (fun c8 => Ev.pos hlen (fin _ _ _ ?_ ?_ ?_)) (fun c8 => Ev.pos hlen (fin _ _ _ ?_ ?_ ?_)))))) (fun c6 => Ev.both (fun c5 => Ev.pos h3 (Ev.pos (by omega) (Ev.both (fun c7 => Ev.pos hlen (fin _ _ _ ?_ ?_ ?_)) (fun c7 => Ev.both (fun c8 => Ev.pos hlen (fin _ _ _ ?_ ?_ ?_)) (fun c8 => Ev.pos hlen (fin _ _ _ ?_ ?_ ?_)))))) (fun c5 => Ev.pos h3 (Ev.pos (by omega) (Ev.both (fun c7 => Ev.pos hlen (fin _ _ _ ?_ ?_ ?_)) (fun c7 => Ev.both (fun c8 => Ev.pos hlen (fin _ _ _ ?_ ?_ ?_)) (fun c8 => Ev.pos hlen (fin _ _ _ ?_ ?_ ?_)))))))
    all_goals (simp [qaa, *])
theorem qbx (ns : List S94) (ls : List S97) (hs : ∀ x ∈ ns, x.f0.size ≤ 1048576) : Ev (fun k => spec_Wiring.f k ns ls) (qag ns ls) := by
  unfold spec_Wiring.f qag
  refine Ev.next (Ev.some_ rfl) (Ev.next (qct ns ls hs) ?_)
  by_cases h : qal ns ls = true
  · rw [if_pos h]
    obtain ⟨h1, h2, h3⟩ := qat h
    exact Ev.pos h ((qbv ns ls h1 h2 h3 ls.length 0 (by omega)).to rfl)
  · rw [if_neg h]
    exact Ev.neg h (Ev.some_ rfl)
theorem qby (ns : List S94) (ls : List S97) (hs : ∀ x ∈ ns, x.f0.size ≤ 1048576) : Ev (fun k => impl_Wiring.f k ns ls) (qag ns ls) := by
  unfold impl_Wiring.f qag
  refine Ev.next (qcu ns ls hs) ?_
  by_cases h : qal ns ls = true
  · rw [if_pos h]
    obtain ⟨h1, h2, h3⟩ := qat h
    exact Ev.pos h ((qbw ns ls h1 h2 h3 ls.length 0 (by omega)).to rfl)
  · rw [if_neg h]
    exact Ev.neg h (Ev.some_ rfl)
theorem qbz (ns : List S94) (ls : List S97) : (qag ns ls).1.length ≤ 40 := by
  unfold qag
  by_cases h : qal ns ls = true
  · rw [if_pos h, List.length_map]
    exact (qat h).2.1
  · rw [if_neg h]; simp
theorem FnExactWiring (l0_0 : List S126) (l0_1 : List S130) (m0_0 : l0_0.length ≤ maxLen) (w0_0 : ∀ x ∈ l0_0, (x.f0.size ≤ maxLen) ∧ ((Lit.int .i64 x.f1).wf = true) ∧ ((Lit.int .i64 x.f2).wf = true)) (m0_1 : l0_1.length ≤ maxLen) (w0_1 : ∀ x ∈ l0_1, ((Lit.int .i64 x.f0).wf = true) ∧ ((Lit.int .i64 x.f1).wf = true)) : ∃ k, laws_FnExactWiring.f k l0_0 l0_1 = some true := by
  refine Ev.rounds ?_
  unfold laws_FnExactWiring.f
  obtain ⟨r, hr, hd⟩ := qce l0_0 l0_1 m0_0 m0_1 (fun x hx => (w0_0 x hx).1)
  refine Ev.next hr ?_
  rcases hd with hd | ⟨ha, hb, hs⟩
  · exact Ev.pos hd (Ev.some_ rfl)
  · by_cases hd : r < 0
    · exact Ev.pos hd (Ev.some_ rfl)
    · have tp := qcd l0_0 l0_1 ha hb
      have hs2 : ∀ x ∈ l0_0.map qaq, x.f0.size ≤ 1048576 := by
        intro x hx
        obtain ⟨y, hy, rfl⟩ := List.mem_map.1 hx
        exact hs y hy
      have na : (l0_0.map qaq).length ≤ 1048576 := by simpa using ha
      have nb : (l0_1.map qan).length ≤ 1048576 := by simpa using hb
      have si := qbx _ (l0_1.map qan) hs2
      have ii := qby _ (l0_1.map qan) hs2
      have hg := qbz (l0_0.map qaq) (l0_1.map qan)
      obtain ⟨p, mp, hp⟩ := qbj _ _ na nb
      have ep := qcf _ _ na nb
      generalize qag (l0_0.map qaq) (l0_1.map qan) = q at si ii hg
      have ee := qbu q.1 (by omega)
      refine Ev.neg hd (Ev.next tp (Ev.next si (Ev.next tp (Ev.next ii (Ev.next ee (Ev.pos rfl ?_))))))
      refine Ev.succ ?_
      simp only [laws_FnExactWiring.j0]
      refine Ev.neg (by simp) (Ev.next tp (Ev.next ep (Ev.pos rfl (Ev.next mp (Ev.neg (by omega) (Ev.next ee (Ev.pos rfl ?_)))))))
      refine Ev.succ ?_
      simp only [laws_FnExactWiring.j1]
      have mw := qda q.1 1 (by omega) (by omega) (by omega)
      have hw := qdc q.1.length 1 (by omega) (by omega) (by omega)
      refine Ev.neg (by simp) (Ev.next mw (Ev.next hw (Ev.neg (by omega) (Ev.pos rfl (Ev.next tp (Ev.next ii (Ev.next ee (Ev.pos rfl ?_))))))))
      refine Ev.succ ?_
      simp only [laws_FnExactWiring.j2]
      exact Ev.neg (by simp) (Ev.next hw (Ev.neg (by omega) (Ev.pos rfl (Ev.some_ rfl))))
end Go.Proofs.Ytckadpomhdjkhaa.Pure
