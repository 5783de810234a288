import Derived.Test.YtanohnlddaneeaaGreatDoorPFnQtyBackx14
import Derived.Test.YtanohnlddaneeaaGreatDoorAidV
set_option linter.unusedVariables false
set_option linter.unusedSimpArgs false
namespace Go.Proofs.YtanohnlddaneeaaGreatDoor.Pure
open Go Go.RowKit Go.Proofs.YtanohnlddaneeaaGreatDoor.PFnQtyBack Go.Proofs.YtanohnlddaneeaaGreatDoorW.PrintWords Go.Proofs.YtanohnlddaneeaaGreatDoorW.PrintLast Go.Proofs.YtanohnlddaneeaaGreatDoorW.PrintMore
def bs (l : List UInt8) : ByteArray := ⟨l.toArray⟩
theorem bs_size (l : List UInt8) : (bs l).size = l.length := by simp [bs, ByteArray.size]
theorem bs_data (l : List UInt8) : (bs l).data.toList = l := rfl
theorem bs_toList (l : List UInt8) : (bs l).toList = l := by rw [ByteArray.toList_eq, bs_data]
theorem bs_of (s : ByteArray) : s = bs s.data.toList := by cases s; rfl
theorem bs_append (l m : List UInt8) : bs l ++ bs m = bs (l ++ m) := by
  apply ByteArray.ext
  rw [ByteArray.data_append]
  simp [bs]
theorem bs_extract (l : List UInt8) (i j : Nat) : (bs l).extract i j = bs ((l.take j).drop i) := by
  apply ByteArray.ext
  rw [ByteArray.data_extract]
  simp only [bs]
  apply Array.ext'
  simp
  try rw [List.drop_take]
theorem strOfNums_bs (l : List Int) : strOfNums l = bs (l.map fun x => UInt8.ofNat x.toNat) := by
  cases h : strOfNums l
  have h2 := strOfNums_data l
  rw [h] at h2
  unfold bs
  congr 1
  apply Array.ext'
  first
  | exact h2
  | simpa using h2
theorem dd_small {n : Nat} (h : n < 10) : Lib.decDigits n = [UInt8.ofNat (48 + n)] := by rw [Lib.decDigits, dif_pos h]
theorem dd_big {n : Nat} (h : ¬ n < 10) : Lib.decDigits n = Lib.decDigits (n / 10) ++ [UInt8.ofNat (48 + n % 10)] := by rw [Lib.decDigits, dif_neg h]
theorem tdiv10n (n : Nat) : Int.tdiv (n : Int) 10 = ((n / 10 : Nat) : Int) := by
  rw [Int.tdiv_eq_ediv_of_nonneg (by omega)]; rfl
theorem tmod10n (n : Nat) : Int.tmod (n : Int) 10 = ((n % 10 : Nat) : Int) := by
  rw [Int.tmod_eq_emod_of_nonneg (by omega)]; rfl
theorem digit_bs (n : Nat) : strOfNums ([(wrap64 (48 + (Int.tmod (n : Int) 10))) % 256] : List Int) = bs [UInt8.ofNat (48 + n % 10)] := by
  rw [strOfNums_bs, tmod10n, w64 (by omega) (by omega)]
  simp only [List.map_cons, List.map_nil]
  rw [show ((48 + ((n % 10 : Nat) : Int)) % 256).toNat = 48 + n % 10 by omega]
theorem l2Itoa_l0 : ∀ (d n : Nat) (x : List UInt8), n ≤ d → n ≤ 1000000000000000000 → x.length + d ≤ 4000000000000000000 →
    Ev (fun k => spec_l2Itoa.l0 k (n : Int) (bs x)) (bs ((if n < 10 then [] else Lib.decDigits (n / 10)) ++ x)) := by
  intro d
  induction d with
  | zero =>
    intro n x h h1 h2
    refine Ev.succ ?_
    simp only [spec_l2Itoa.l0]
    refine Ev.neg (by omega) (Ev.some_ ?_)
    rw [if_pos (by omega)]; rfl
  | succ d ih =>
    intro n x h h1 h2
    refine Ev.succ ?_
    simp only [spec_l2Itoa.l0]
    by_cases hn : n < 10
    · refine Ev.neg (by omega) (Ev.some_ ?_)
      rw [if_pos hn]; rfl
    · refine Ev.pos (by omega) ?_
      have e10 : wrap64 ((n / 10 : Nat) : Int) = ((n / 10 : Nat) : Int) := w64 (by omega) (by omega)
      rw [tdiv10n, e10]
      refine Ev.next (Ev.some_ rfl) ?_
      rw [digit_bs, bs_append]
      refine Ev.pos (by rw [bs_size, bs_size]; simp; omega) ((ih (n / 10) _ (by omega) (by omega) (by simp; omega)).to ?_)
      rw [if_neg hn]
      by_cases hm : n / 10 < 10
      · rw [if_pos hm, dd_small hm, Nat.mod_eq_of_lt hm]; rfl
      · rw [if_neg hm, dd_big hm, List.append_assoc]
theorem l2Itoa_nat (n : Nat) (h1 : n ≤ 1000000000000000000) : Ev (fun k => spec_l2Itoa.f k (n : Int)) (bs (Lib.decDigits n)) := by
  refine Ev.succ ?_
  simp only [spec_l2Itoa.f]
  refine Ev.neg (by omega) ?_
  rw [digit_bs]
  refine (l2Itoa_l0 n n _ (Nat.le_refl _) h1 (by simp; omega)).to ?_
  by_cases hn : n < 10
  · rw [if_pos hn, dd_small hn, Nat.mod_eq_of_lt hn]; rfl
  · rw [if_neg hn, ← dd_big hn]
theorem l2Itoa_ev (n : Int) (h0 : -1000000000000000000 ≤ n) (h1 : n ≤ 1000000000000000000) : Ev (fun k => spec_l2Itoa.f k n) (bs (Lib.itoa n)) := by
  unfold Lib.itoa
  by_cases hn : n < 0
  · rw [if_pos hn]
    refine Ev.succ ?_
    simp only [spec_l2Itoa.f]
    refine Ev.pos hn ?_
    rw [w64 (by omega) (by omega), show -n = ((n.natAbs : Nat) : Int) by omega]
    refine Ev.next (l2Itoa_nat n.natAbs (by omega)) (Ev.pos ?_ (Ev.some_ ?_))
    · rw [bs_size, Lib.decDigits_length]
      have := Lib.nDigits_le20 n.natAbs (by omega)
      omega
    · exact bs_append [45] _
  · rw [if_neg hn]
    have := l2Itoa_nat n.toNat (by omega)
    rwa [Int.toNat_of_nonneg (by omega)] at this
def qtyB (n p v s : Int) : Bool := decide ((-1000000000 ≤ n ∧ n ≤ 1000000000) ∧ (n % 10 ≠ 0 ∨ n = 0 ∧ p = 0) ∧ (-30 ≤ p ∧ p ≤ 30) ∧ (-9 ≤ v ∧ v ≤ 9) ∧ (-9 ≤ s ∧ s ≤ 9))
theorem tmod10 (n : Int) : Int.tmod n 10 = 0 ↔ n % 10 = 0 := by
  rw [← Int.dvd_iff_emod_eq_zero, ← Int.dvd_iff_tmod_eq_zero]
theorem dd_mem : ∀ (d n : Nat), n ≤ d → ∀ x ∈ Lib.decDigits n, 48 ≤ x.toNat ∧ x.toNat ≤ 57 := by
  intro d
  induction d with
  | zero =>
    intro n h x hx
    rw [dd_small (by omega)] at hx
    simp only [List.mem_cons, List.not_mem_nil, or_false] at hx
    subst hx
    simp; omega
  | succ d ih =>
    intro n h x hx
    by_cases hn : n < 10
    · rw [dd_small hn] at hx
      simp only [List.mem_cons, List.not_mem_nil, or_false] at hx
      subst hx
      simp; omega
    · rw [dd_big hn, List.mem_append] at hx
      rcases hx with hx | hx
      · exact ih (n / 10) (by omega) x hx
      · simp only [List.mem_cons, List.not_mem_nil, or_false] at hx
        subst hx
        simp; omega
theorem dd_len {n : Nat} (h : n ≤ 1000000000) : 1 ≤ (Lib.decDigits n).length ∧ (Lib.decDigits n).length ≤ 10 := by
  rw [Lib.decDigits_length]
  refine ⟨Lib.nDigits_pos n, ?_⟩
  by_cases h9 : Lib.nDigits n ≤ 10
  · exact h9
  · exfalso
    have e : ∀ k m : Nat, m < 10 ^ (k + 1) → Lib.nDigits m ≤ k + 1 := by
      intro k
      induction k with
      | zero => intro m hm; rw [Lib.nDigits_small (by simpa using hm)]; omega
      | succ k ih =>
        intro m hm
        by_cases h10 : m < 10
        · rw [Lib.nDigits_small h10]; omega
        · rw [Lib.nDigits_big h10]
          have := ih (m / 10) (by rw [Nat.pow_succ] at hm; omega)
          omega
    have := e 9 n (by have : (10 : Nat) ^ (9 + 1) = 10000000000 := by decide
                      omega)
    omega
def sqDigits (a : Nat) (p : Int) : List UInt8 := if 0 ≤ p then Lib.decDigits a ++ List.replicate p.toNat 48 else List.replicate ((-p).toNat + 1 - (Lib.decDigits a).length) 48 ++ Lib.decDigits a
def sqPoint (E : List UInt8) (p : Int) : List UInt8 := if 0 ≤ p then E else E.take (E.length - (-p).toNat) ++ 46 :: E.drop (E.length - (-p).toNat)
def sqUnit (c : UInt8) (n : Int) : List UInt8 := if n = 0 then [] else if n = 1 then [c] else c :: Lib.itoa n
def sqTail (v s : Int) : List UInt8 := if v ≠ 0 ∧ s ≠ 0 then 32 :: sqUnit 86 v ++ 42 :: sqUnit 115 s else if v ≠ 0 then 32 :: sqUnit 86 v else if s ≠ 0 then 32 :: sqUnit 115 s else []
def sqSign (n : Int) : List UInt8 := if n < 0 then [45] else []
def sqOut (n p v s : Int) : List UInt8 := if 9 < (sqDigits n.natAbs p).length then [] else sqSign n ++ sqPoint (sqDigits n.natAbs p) p ++ sqTail v s
def sqShow (n p v s : Int) : List UInt8 := if qtyB n p v s = true then sqOut n p v s else []
theorem sqUnit_len (c : UInt8) (n : Int) (h : -9 ≤ n ∧ n ≤ 9) : (sqUnit c n).length ≤ 30 := by
  unfold sqUnit
  split
  · simp
  · split
    · simp
    · have := Lib.itoa_length_le n (by omega) (by omega)
      simp; omega
theorem sqUnit_nil (c : UInt8) (n : Int) : sqUnit c n = [] ↔ n = 0 := by
  unfold sqUnit
  split
  · simp [*]
  · split
    · simp [*]
    · simp [*]
theorem sqDigits_len (a : Nat) (p : Int) (ha : a ≤ 1000000000) (hp : -30 ≤ p ∧ p ≤ 30) : 1 ≤ (sqDigits a p).length ∧ (sqDigits a p).length ≤ 41 ∧ (p < 0 → (-p).toNat < (sqDigits a p).length) := by
  have hd := dd_len ha
  unfold sqDigits
  split
  · simp only [List.length_append, List.length_replicate]; omega
  · simp only [List.length_append, List.length_replicate]; omega
theorem sqDigits_mem (a : Nat) (p : Int) : ∀ x ∈ sqDigits a p, 48 ≤ x.toNat ∧ x.toNat ≤ 57 := by
  intro x hx
  unfold sqDigits at hx
  have r : ∀ k, x ∈ List.replicate k (48 : UInt8) → 48 ≤ x.toNat ∧ x.toNat ≤ 57 := by
    intro k hk
    have := List.eq_of_mem_replicate hk
    subst this
    decide
  split at hx
  · rcases List.mem_append.1 hx with h | h
    · exact dd_mem a a (Nat.le_refl _) x h
    · exact r _ h
  · rcases List.mem_append.1 hx with h | h
    · exact r _ h
    · exact dd_mem a a (Nat.le_refl _) x h
theorem no46 {E : List UInt8} (h : ∀ x ∈ E, 48 ≤ x.toNat ∧ x.toNat ≤ 57) : (46 : UInt8) ∉ E := by
  intro hm
  have := h _ hm
  simp at this
theorem sqPoint_len (E : List UInt8) (p : Int) : (sqPoint E p).length ≤ E.length + 1 := by
  unfold sqPoint
  split
  · omega
  · simp; omega
theorem index_point : ∀ (E1 E2 : List UInt8), (46 : UInt8) ∉ E1 → Lib.index (E1 ++ 46 :: E2) [46] = E1.length := by
  intro E1
  induction E1 with
  | nil => intro E2 _; simp [Lib.index]
  | cons b l ih =>
    intro E2 h
    have hb : ¬ (46 : UInt8) = b := fun e => h (by rw [e]; exact List.mem_cons_self)
    have hl : (46 : UInt8) ∉ l := fun e => h (List.mem_cons_of_mem _ e)
    have hi := ih E2 hl
    rw [List.cons_append, Lib.index]
    rw [if_neg (by simp [hb]), hi, if_neg (by simp)]
    simp
theorem replace_point (E1 E2 : List UInt8) (h : (46 : UInt8) ∉ E1) : Lib.replace (E1 ++ 46 :: E2) [46] [] 1 = E1 ++ E2 := by
  have hc : 1 ≤ Lib.count (E1 ++ 46 :: E2) [46] := by rw [Lib.count_one]; simp; omega
  unfold Lib.replace
  rw [if_neg (by decide)]
  have hn : Lib.replaceNum (E1 ++ 46 :: E2) [46] 1 = 1 := by
    unfold Lib.replaceNum
    split
    · omega
    · rfl
  rw [hn, Lib.replaceK_hit _ _ _ _ _ (index_point E1 E2 h), Lib.replaceK]
  simp
theorem replace_none (E : List UInt8) (h : (46 : UInt8) ∉ E) : Lib.replace E [46] [] 1 = E := by
  have hc : Lib.count E [46] = 0 := by rw [Lib.count_one]; exact List.count_eq_zero.2 h
  unfold Lib.replace
  rw [if_neg (by decide)]
  have hn : Lib.replaceNum E [46] 1 = 0 := by
    unfold Lib.replaceNum
    rw [hc]
    rfl
  rw [hn, Lib.replaceK]
theorem replace_sqPoint (E : List UInt8) (p : Int) (h : ∀ x ∈ E, 48 ≤ x.toNat ∧ x.toNat ≤ 57) : Lib.replace (sqPoint E p) [46] [] 1 = E := by
  unfold sqPoint
  split
  · exact replace_none E (no46 h)
  · rw [replace_point _ _ (fun hm => no46 h (List.mem_of_mem_take hm)), List.take_append_drop]
def dgt (b : UInt8) : Bool := decide (48 ≤ b.toNat) && decide (b.toNat ≤ 57)
def dv (acc : Nat) (l : List UInt8) : Nat := l.foldl (fun a b => a * 10 + (b.toNat - 48)) acc
def pre (p s : List UInt8) : List UInt8 × Bool := if s.take p.length = p then (s.drop p.length, true) else (s, false)
theorem dgt_iff {b : UInt8} : dgt b = true ↔ 48 ≤ b.toNat ∧ b.toNat ≤ 57 := by simp [dgt]
theorem bt_bs (l : List UInt8) (i : Nat) : bt (bs l) (i : Int) = ((l.getD i 0).toNat : Int) := by
  unfold bt
  simp only [Int.toNat_natCast]
  by_cases h : i < (bs l).size
  · rw [dif_pos h]
    have h2 : i < l.length := by rwa [bs_size] at h
    rw [List.getD_eq_getElem?_getD, List.getElem?_eq_getElem h2]
    rfl
  · rw [dif_neg h]
    have h2 : ¬ i < l.length := by rwa [bs_size] at h
    rw [List.getD_eq_getElem?_getD, List.getElem?_eq_none (by omega)]
    rfl
theorem drop_get {l : List UInt8} {i : Nat} (h : i < l.length) : l.drop i = l.getD i 0 :: l.drop (i + 1) := by
  rw [List.getD_eq_getElem?_getD, List.getElem?_eq_getElem h]
  exact List.drop_eq_getElem_cons h
theorem take_get {l : List UInt8} {i : Nat} (h : i < l.length) : l.take (i + 1) = l.take i ++ [l.getD i 0] := by
  rw [List.getD_eq_getElem?_getD, List.getElem?_eq_getElem h]
  exact (List.take_append_getElem h).symm
theorem dv_snoc (acc : Nat) (l : List UInt8) (b : UInt8) : dv acc (l ++ [b]) = dv acc l * 10 + (b.toNat - 48) := by simp [dv]
theorem dv_lt : ∀ (l : List UInt8) (acc : Nat), (∀ b ∈ l, dgt b = true) → dv acc l < (acc + 1) * 10 ^ l.length := by
  intro l
  induction l with
  | nil => intro acc _; simp [dv]
  | cons b t ih =>
    intro acc h
    have hb := dgt_iff.1 (h b List.mem_cons_self)
    have := ih (acc * 10 + (b.toNat - 48)) (fun x hx => h x (List.mem_cons_of_mem _ hx))
    have e : dv acc (b :: t) = dv (acc * 10 + (b.toNat - 48)) t := rfl
    rw [e, List.length_cons, Nat.pow_succ]
    refine Nat.lt_of_lt_of_le this ?_
    rw [show (acc + 1) * (10 ^ t.length * 10) = ((acc + 1) * 10) * 10 ^ t.length by rw [Nat.mul_comm (10 ^ t.length) 10, Nat.mul_assoc]]
    exact Nat.mul_le_mul_right _ (by omega)
theorem tw_all (l : List UInt8) : ∀ b ∈ l.takeWhile dgt, dgt b = true := by
  intro b hb
  induction l with
  | nil => simp at hb
  | cons a t ih =>
    rw [List.takeWhile_cons] at hb
    split at hb
    · rename_i ha
      rcases List.mem_cons.1 hb with e | e
      · rw [e]; exact ha
      · exact ih e
    · simp at hb
theorem take_tw (l : List UInt8) : l.take (l.takeWhile dgt).length = l.takeWhile dgt := by
  conv => lhs; rhs; rw [← List.takeWhile_append_dropWhile (p := dgt) (l := l)]
  exact List.take_left
theorem drop_tw (l : List UInt8) : l.drop (l.takeWhile dgt).length = l.dropWhile dgt := by
  conv => lhs; rhs; rw [← List.takeWhile_append_dropWhile (p := dgt) (l := l)]
  exact List.drop_left
theorem tw_len (l : List UInt8) : (l.takeWhile dgt).length ≤ l.length := by
  have := congrArg List.length (List.takeWhile_append_dropWhile (p := dgt) (l := l))
  simp only [List.length_append] at this
  omega
theorem tw_get {l : List UInt8} {i : Nat} (h : i < (l.takeWhile dgt).length) : i < l.length ∧ dgt (l.getD i 0) = true := by
  have hl := tw_len l
  refine ⟨by omega, ?_⟩
  have h2 : (l.takeWhile dgt)[i] ∈ l.takeWhile dgt := List.getElem_mem h
  have h3 := tw_all l _ h2
  have e : l.getD i 0 = (l.takeWhile dgt)[i] := by
    rw [List.getD_eq_getElem?_getD, List.getElem?_eq_getElem (by omega)]
    simp only [Option.getD_some]
    have := take_tw l
    have e2 : (l.take (l.takeWhile dgt).length)[i]'(by simp; omega) = (l.takeWhile dgt)[i] := by simp only [this]
    rw [← e2, List.getElem_take]
  rw [e]; exact h3
theorem tw_end {l : List UInt8} (h : (l.takeWhile dgt).length < l.length) : dgt (l.getD (l.takeWhile dgt).length 0) = false := by
  have e := drop_tw l
  rw [drop_get h] at e
  have h2 := List.head?_dropWhile_not dgt l
  rw [← e] at h2
  simpa using h2
theorem pre_take {p s : List UInt8} (h : s.take p.length = p) : p.length ≤ s.length := by
  have := congrArg List.length h
  simp at this
  omega
theorem begins_eq (s p : List UInt8) : spec_l20Begins.f (bs s) (bs p) = some (bs (pre p s).1, (pre p s).2) := by
  unfold spec_l20Begins.f pre
  rw [bs_size, bs_size]
  by_cases h : p.length ≤ s.length
  · rw [if_pos (by omega), if_pos (by omega), if_pos (by omega)]
    simp only [Int.toNat_natCast, bs_extract, bs_toList, List.drop_zero]
    by_cases hp : s.take p.length = p
    · rw [if_pos hp, if_pos hp]; simp
    · rw [if_neg hp, if_neg hp]
  · rw [if_neg (by omega), if_neg (fun e => h (pre_take e))]
theorem hasPrefix_eq (s p : List UInt8) : strings_HasPrefix.f (bs s) (bs p) = some (pre p s).2 := by
  unfold strings_HasPrefix.f stringslite_HasPrefix.f pre
  rw [bs_size, bs_size]
  by_cases h : p.length ≤ s.length
  · rw [if_pos (by omega), if_pos (by omega), if_pos (by omega)]
    simp only [Int.toNat_natCast, bs_extract, bs_toList, List.drop_zero, Option.bind_some]
    by_cases hp : s.take p.length = p
    · rw [if_pos hp]; simp [hp]
    · rw [if_neg hp]; simp [hp]
  · rw [if_neg (by omega), if_neg (fun e => h (pre_take e))]; rfl
theorem cutPrefix_eq (s p : List UInt8) : strings_CutPrefix.f (bs s) (bs p) = some (bs (pre p s).1, (pre p s).2) := by
  have hh := hasPrefix_eq s p
  unfold strings_HasPrefix.f at hh
  have h1 : stringslite_HasPrefix.f (bs s) (bs p) = some (pre p s).2 := by
    cases hq : stringslite_HasPrefix.f (bs s) (bs p) with
    | none => rw [hq] at hh; cases hh
    | some b => rw [hq] at hh; exact hh
  unfold strings_CutPrefix.f stringslite_CutPrefix.f
  rw [h1]
  simp only [Option.bind_some]
  by_cases hp : s.take p.length = p
  · have h := pre_take hp
    have e : pre p s = (s.drop p.length, true) := if_pos hp
    rw [e, if_pos rfl, bs_size, bs_size, if_pos (by omega), if_pos (by omega)]
    simp only [Option.bind_some, bs_extract, Int.toNat_natCast]
    simp
  · have e : pre p s = (s, false) := if_neg hp
    rw [e, if_neg (by simp)]
    rfl
theorem span_l0 (s : List UInt8) (hs : s.length ≤ 1048576) : ∀ (d i : Nat), i + d = (s.takeWhile dgt).length →
    Ev (fun k => impl_span.l0 k (bs s) (i : Int)) (bs (s.takeWhile dgt), bs (s.dropWhile dgt)) := by
  have hl := tw_len s
  intro d
  induction d with
  | zero =>
    intro i hi
    have ei : i = (s.takeWhile dgt).length := by omega
    refine Ev.succ ?_
    simp only [impl_span.l0]
    rw [bs_size, bt_bs]
    have fin : ∀ (P : Prop) [Decidable P] (h : P), Ev (fun _ : Nat => if P then (some ((bs s).extract 0 (i : Int).toNat, (bs s).extract (i : Int).toNat (bs s).size)) else none) (bs (s.takeWhile dgt), bs (s.dropWhile dgt)) := by
      intro P _ h
      refine Ev.pos h (Ev.some_ ?_)
      rw [bs_extract, bs_extract, bs_size]
      simp only [Int.toNat_natCast, List.drop_zero, List.take_length]
      rw [ei, take_tw, drop_tw]
    by_cases h : i < s.length
    · have he := tw_end (l := s) (by omega)
      rw [← ei] at he
      refine Ev.pos (by omega) (Ev.pos (by omega) ?_)
      have hd : ¬ (48 ≤ (s.getD i 0).toNat ∧ (s.getD i 0).toNat ≤ 57) := fun hh => by rw [dgt_iff.2 hh] at he; cases he
      by_cases h1 : ((s.getD i 0).toNat : Int) ≥ 48
      · refine Ev.pos h1 (Ev.neg (by omega) (fin _ (by omega)))
      · exact Ev.neg h1 (fin _ (by omega))
    · refine Ev.neg (by omega) (Ev.pos (by omega) (fin _ (by omega)))
  | succ d ih =>
    intro i hi
    obtain ⟨h1, h2⟩ := tw_get (l := s) (i := i) (by omega)
    have h3 := dgt_iff.1 h2
    refine Ev.succ ?_
    simp only [impl_span.l0]
    rw [bs_size, bt_bs, w64 (by omega) (by omega)]
    exact Ev.pos (by omega) (Ev.pos (by omega) (Ev.pos (by omega) (Ev.pos (by omega) (ih (i + 1) (by omega)))))
theorem span_ev (s : List UInt8) (hs : s.length ≤ 1048576) : Ev (fun k => impl_span.f k (bs s)) (bs (s.takeWhile dgt), bs (s.dropWhile dgt)) := span_l0 s hs (s.takeWhile dgt).length 0 (by omega)
theorem parse_digits : ∀ (l : List UInt8) (acc : Nat), (∀ b ∈ l, dgt b = true) → (acc + 1) * 10 ^ l.length ≤ 1000000000000000000 → Lib.parseUint10 acc l = .ok (dv acc l) := by
  intro l
  induction l with
  | nil => intro acc _ _; rfl
  | cons b t ih =>
    intro acc h hb
    have hd := dgt_iff.1 (h b List.mem_cons_self)
    have hp : 1 ≤ 10 ^ t.length := Nat.one_le_pow _ _ (by decide)
    have hb2 : ((acc + 1) * 10) * 10 ^ t.length ≤ 1000000000000000000 := by
      rw [List.length_cons, Nat.pow_succ] at hb
      rwa [Nat.mul_assoc, Nat.mul_comm 10]
    have hb3 : (acc + 1) * 10 ≤ 1000000000000000000 := Nat.le_trans (Nat.le_mul_of_pos_right _ hp) hb2
    rw [Lib.parseUint10, if_pos hd, if_neg (by omega), if_neg (by omega), ih _ (fun x hx => h x (List.mem_cons_of_mem _ hx)) ?_]
    · rfl
    · exact Nat.le_trans (Nat.mul_le_mul_right _ (by omega)) hb2
theorem atoiNum_eq (D : List UInt8) (h : ∀ b ∈ D, dgt b = true) (h0 : D ≠ []) (h9 : D.length ≤ 9) : atoiNum.f (bs D) = some ((dv 0 D : Int), none) := by
  unfold atoiNum.f
  rw [bs_size, if_pos (by omega), bs_data]
  have hp : 10 ^ D.length ≤ 10 ^ 9 := Nat.pow_le_pow_right (by decide) h9
  have hlt := dv_lt D 0 h
  have e9 : (10 : Nat) ^ 9 = 1000000000 := by decide
  have pm : Lib.parseMag D = .ok (dv 0 D) := by
    unfold Lib.parseMag
    rw [if_neg h0]
    exact parse_digits D 0 h (by omega)
  cases D with
  | nil => exact absurd rfl h0
  | cons c t =>
    have hc := dgt_iff.1 (h c List.mem_cons_self)
    have ea : Lib.atoiAll (c :: t) = .ok (dv 0 (c :: t) : Int) := by
      unfold Lib.atoiAll
      simp only
      rw [if_neg (by omega), pm]
      simp only
      rw [if_neg (by omega), if_neg (by omega), if_neg (by omega)]
    rw [ea]
def numR (s : List UInt8) : Option (Nat × Nat × List UInt8) :=
  if s.takeWhile dgt = [] ∨ (1 < (s.takeWhile dgt).length ∧ (s.getD 0 0).toNat = 48) then none
  else match s.dropWhile dgt with
    | [] => if 9 < (s.takeWhile dgt).length then none else some (dv 0 (s.takeWhile dgt), 0, [])
    | c :: T => if c.toNat = 46 then (if T.takeWhile dgt = [] then none else if 9 < (s.takeWhile dgt).length + (T.takeWhile dgt).length then none else some (dv 0 (s.takeWhile dgt ++ T.takeWhile dgt), (T.takeWhile dgt).length, T.dropWhile dgt))
      else if 9 < (s.takeWhile dgt).length then none else some (dv 0 (s.takeWhile dgt), 0, c :: T)
def numOk (sg : Int) (s : List UInt8) (r : Int × Int × ByteArray × Bool) : Prop :=
  match numR s with
  | none => r.2.2.2 = false
  | some (n, b, rest) => r = (sg * (n : Int), -(b : Int), bs rest, true)
theorem l2Digit_eq (b : UInt8) : spec_l2Digit.f (b.toNat : Int) = some (dgt b) := by
  unfold spec_l2Digit.f dgt
  by_cases h : 48 ≤ b.toNat
  · rw [if_pos (by omega)]
    simp [h]
    omega
  · rw [if_neg (by omega)]
    simp [h]
theorem dg256 {b : UInt8} (h : dgt b = true) : ((b.toNat : Int) - 48) % 256 = ((b.toNat - 48 : Nat) : Int) := by
  have := dgt_iff.1 h
  omega
theorem pow_le10 {n : Nat} (h : n ≤ 10) : 10 ^ n ≤ 10000000000 := Nat.pow_le_pow_right (n := 10) (by decide) h
theorem all_take {l : List UInt8} {n : Nat} (h : n ≤ (l.takeWhile dgt).length) : ∀ b ∈ l.take n, dgt b = true := by
  intro b hb
  have e : l.take n = (l.takeWhile dgt).take n := by rw [← take_tw l, List.take_take, Nat.min_eq_left h]
  rw [e] at hb
  exact tw_all l b (List.mem_of_mem_take hb)
theorem dv_app (l t : List UInt8) : dv 0 (l ++ t) = dv (dv 0 l) t := by simp [dv]
theorem num_l1 (s : List UInt8) (sg : Int) (hsg : sg = 1 ∨ sg = -1) (m : Nat) (hs : s.length ≤ 1048576) (hm : m ≤ 10) (hm2 : m ≤ (s.takeWhile dgt).length) (T : List UInt8) (hT : T = s.drop (m + 1)) (hml : m < s.length) (q : Nat) (hq : q = min (10 - m) (T.takeWhile dgt).length) :
    ∀ (d b : Nat), b + d = q → Ev (fun k => spec_l20Number.l1 k (bs s) sg (dv 0 (s.take m ++ T.take b) : Nat) ((m + b : Nat) : Int) (b : Int) ((m + 1 + b : Nat) : Int))
      (if q = 0 then (0, 0, bs s, false) else (sg * (dv 0 (s.take m ++ T.take q) : Nat), -(q : Int), bs (T.drop q), decide (m + q ≤ 9))) := by
  have htl := tw_len T
  have hTl : T.length = s.length - (m + 1) := by rw [hT, List.length_drop]
  have hall : ∀ b, b ≤ q → ∀ x ∈ s.take m ++ T.take b, dgt x = true := by
    intro b hb x hx
    rcases List.mem_append.1 hx with h | h
    · exact all_take hm2 x h
    · exact all_take (by omega) x h
  have hlt : ∀ b, b ≤ q → dv 0 (s.take m ++ T.take b) < 10000000000 := by
    intro b hb
    have h1 := dv_lt _ 0 (hall b hb)
    have h2 : (s.take m ++ T.take b).length ≤ 10 := by simp; omega
    have h3 := pow_le10 h2
    omega
  have fin : ∀ b, b = q → Ev (fun _ : Nat => (if (b : Int) = 0 then (some (0, 0, bs s, false)) else (if ((m + 1 + b : Nat) : Int) ≤ ((bs s).size : Int) then (some (wrap64 (sg * (dv 0 (s.take m ++ T.take b) : Nat)), wrap64 (-(b : Int)), (bs s).extract (((m + 1 + b : Nat) : Int) : Int).toNat (bs s).size, decide (((m + b : Nat) : Int) ≤ 9))) else (none)))) (if q = 0 then (0, 0, bs s, false) else (sg * (dv 0 (s.take m ++ T.take q) : Nat), -(q : Int), bs (T.drop q), decide (m + q ≤ 9))) := by
    intro b hb
    by_cases h0 : q = 0
    · rw [if_pos h0]
      exact Ev.pos (by omega) (Ev.some_ rfl)
    · rw [if_neg h0]
      refine Ev.neg (by omega) (Ev.pos (by rw [bs_size]; omega) (Ev.some_ ?_))
      have hl := hlt b (by omega)
      rw [bs_extract, bs_size, w64 (by rcases hsg with e | e <;> rw [e] <;> omega) (by rcases hsg with e | e <;> rw [e] <;> omega), w64 (by omega) (by omega), hb]
      simp only [Int.toNat_natCast, List.take_length]
      rw [hT, List.drop_drop]
      congr 3
      rw [decide_eq_decide]
      omega
  intro d
  induction d with
  | zero =>
    intro b hb
    have eb : b = q := by omega
    have hfin := fin b eb
    refine Ev.succ ?_
    simp only [spec_l20Number.l1]
    rw [bt_bs, l2Digit_eq]
    simp only [Option.bind_some]
    by_cases hi : m + 1 + b < s.length
    · refine Ev.pos (by rw [bs_size]; omega) (Ev.pos (by omega) ?_)
      by_cases hd : dgt (s.getD (m + 1 + b) 0) = true
      · refine Ev.pos hd (Ev.neg ?_ hfin)
        intro h10
        have hc : ¬ (T.takeWhile dgt).length ≤ b := by
          intro hc
          have e1 : b = (T.takeWhile dgt).length := by omega
          have e2 := tw_end (l := T) (by omega)
          rw [← e1, hT, List.getD_eq_getElem?_getD, List.getElem?_drop, ← List.getD_eq_getElem?_getD, hd] at e2
          cases e2
        omega
      · exact Ev.neg hd hfin
    · refine Ev.neg (by rw [bs_size]; omega) ?_
      by_cases h0 : q = 0
      · rw [if_pos h0]
        exact Ev.pos (by omega) (Ev.some_ rfl)
      · have hf2 := hfin
        refine Ev.neg (by omega) (Ev.pos (by omega) ?_)
        refine Ev.pos (by rw [bs_size]; omega) ?_
        obtain ⟨K, hK⟩ := hf2
        refine ⟨K, fun k hk => ?_⟩
        have := hK k hk
        rw [if_neg (by omega), if_pos (by rw [bs_size]; omega)] at this
        exact this
  | succ d ih =>
    intro b hb
    obtain ⟨h1, h2⟩ := tw_get (l := T) (i := b) (by omega)
    have eg : s.getD (m + 1 + b) 0 = T.getD b 0 := by rw [hT, List.getD_eq_getElem?_getD, List.getD_eq_getElem?_getD, List.getElem?_drop]
    refine Ev.succ ?_
    simp only [spec_l20Number.l1]
    rw [bt_bs, l2Digit_eq, eg]
    simp only [Option.bind_some]
    refine Ev.pos (by rw [bs_size]; omega) (Ev.pos (by omega) (Ev.pos h2 (Ev.pos (by omega) ?_)))
    have hl := hlt b (by omega)
    have hl2 := hlt (b + 1) (by omega)
    have es : dv 0 (s.take m ++ T.take (b + 1)) = dv 0 (s.take m ++ T.take b) * 10 + ((T.getD b 0).toNat - 48) := by
      rw [take_get h1, ← List.append_assoc, dv_snoc]
    rw [dg256 h2, w64 (n := (dv 0 (s.take m ++ T.take b) : Int) * 10) (by omega) (by omega)]
    have e1 : ((dv 0 (s.take m ++ T.take b) : Nat) : Int) * 10 + (((T.getD b 0).toNat - 48 : Nat) : Int) = ((dv 0 (s.take m ++ T.take (b + 1)) : Nat) : Int) := by rw [es]; push_cast; rfl
    rw [e1, w64 (by omega) (by omega), w64 (n := ((m + b : Nat) : Int) + 1) (by omega) (by omega), w64 (n := (b : Int) + 1) (by omega) (by omega), w64 (n := ((m + 1 + b : Nat) : Int) + 1) (by omega) (by omega)]
    exact ih (b + 1) (by omega)
def numTail (s : List UInt8) (sg : Int) (m : Nat) : Int × Int × ByteArray × Bool :=
  if m = 0 ∨ (1 < m ∧ (s.getD 0 0).toNat = 48) then (0, 0, bs s, false)
  else if m < s.length ∧ (s.getD m 0).toNat = 46 then
    (if min (10 - m) ((s.drop (m + 1)).takeWhile dgt).length = 0 then (0, 0, bs s, false)
     else (sg * (dv 0 (s.take m ++ (s.drop (m + 1)).take (min (10 - m) ((s.drop (m + 1)).takeWhile dgt).length)) : Nat), -((min (10 - m) ((s.drop (m + 1)).takeWhile dgt).length : Nat) : Int), bs ((s.drop (m + 1)).drop (min (10 - m) ((s.drop (m + 1)).takeWhile dgt).length)), decide (m + min (10 - m) ((s.drop (m + 1)).takeWhile dgt).length ≤ 9)))
  else (sg * (dv 0 (s.take m) : Nat), 0, bs (s.drop m), decide (m ≤ 9))
theorem num_j2 (s : List UInt8) (sg : Int) (hsg : sg = 1 ∨ sg = -1) (hs : s.length ≤ 1048576) (m : Nat) (hm : m = min 10 (s.takeWhile dgt).length) :
    Ev (fun k => spec_l20Number.j2 k (bs s) sg (dv 0 (s.take m) : Nat) (m : Int) 0 (m : Int)) (numTail s sg m) := by
  have hl := tw_len s
  have hlt : dv 0 (s.take m) < 10000000000 := by
    have h1 := dv_lt _ 0 (all_take (l := s) (n := m) (by omega))
    have h3 := pow_le10 (n := (s.take m).length) (by simp; omega)
    omega
  have j4f : Ev (fun k => spec_l20Number.j4 k (bs s) sg (dv 0 (s.take m) : Nat) (m : Int) 0 (m : Int) false) (sg * (dv 0 (s.take m) : Nat), 0, bs (s.drop m), decide (m ≤ 9)) := by
    refine Ev.succ ?_
    simp only [spec_l20Number.j4]
    refine Ev.neg (by decide) (Ev.pos (by omega) (Ev.pos (by rw [bs_size]; omega) (Ev.some_ ?_)))
    rw [bs_extract, bs_size, w64 (by rcases hsg with e | e <;> rw [e] <;> omega) (by rcases hsg with e | e <;> rw [e] <;> omega), w64 (by omega) (by omega)]
    simp only [Int.toNat_natCast, List.take_length]
    congr 3
    rw [decide_eq_decide]
    omega
  have j4t : m < s.length → (s.getD m 0).toNat = 46 → Ev (fun k => spec_l20Number.j4 k (bs s) sg (dv 0 (s.take m) : Nat) (m : Int) 0 (m : Int) true)
      (if min (10 - m) ((s.drop (m + 1)).takeWhile dgt).length = 0 then (0, 0, bs s, false) else (sg * (dv 0 (s.take m ++ (s.drop (m + 1)).take (min (10 - m) ((s.drop (m + 1)).takeWhile dgt).length)) : Nat), -((min (10 - m) ((s.drop (m + 1)).takeWhile dgt).length : Nat) : Int), bs ((s.drop (m + 1)).drop (min (10 - m) ((s.drop (m + 1)).takeWhile dgt).length)), decide (m + min (10 - m) ((s.drop (m + 1)).takeWhile dgt).length ≤ 9))) := by
    intro hml _
    refine Ev.succ ?_
    simp only [spec_l20Number.j4]
    refine Ev.pos trivial ?_
    have := num_l1 s sg hsg m hs (by omega) (by omega) (s.drop (m + 1)) rfl hml (min (10 - m) ((s.drop (m + 1)).takeWhile dgt).length) rfl (min (10 - m) ((s.drop (m + 1)).takeWhile dgt).length) 0 (by omega)
    rw [w64 (by omega) (by omega)]
    simpa using this
  have j3f : ∀ b : Bool, b = false → ¬ (m = 0 ∨ (1 < m ∧ (s.getD 0 0).toNat = 48)) → Ev (fun k => spec_l20Number.j3 k (bs s) sg (dv 0 (s.take m) : Nat) (m : Int) 0 (m : Int) b) (numTail s sg m) := by
    intro b hb hn
    subst hb
    unfold numTail
    rw [if_neg hn]
    refine Ev.succ ?_
    simp only [spec_l20Number.j3]
    refine Ev.neg (by decide) ?_
    by_cases hi : m < s.length
    · refine Ev.pos (by rw [bs_size]; omega) (Ev.pos (by omega) ?_)
      rw [bt_bs]
      by_cases h46 : (s.getD m 0).toNat = 46
      · rw [if_pos ⟨hi, h46⟩, h46]
        exact j4t hi h46
      · rw [if_neg (fun h => h46 h.2)]
        have e : (((s.getD m 0).toNat : Int) == 46) = false := by
          rw [beq_eq_false_iff_ne]
          omega
        rw [e]
        exact j4f
    · rw [if_neg (fun h => hi h.1)]
      exact Ev.neg (by rw [bs_size]; omega) j4f
  have j3t : (m = 0 ∨ (1 < m ∧ (s.getD 0 0).toNat = 48)) → Ev (fun k => spec_l20Number.j3 k (bs s) sg (dv 0 (s.take m) : Nat) (m : Int) 0 (m : Int) true) (numTail s sg m) := by
    intro hn
    unfold numTail
    rw [if_pos hn]
    refine Ev.succ ?_
    simp only [spec_l20Number.j3]
    exact Ev.pos trivial (Ev.some_ rfl)
  refine Ev.succ ?_
  simp only [spec_l20Number.j2]
  by_cases h0 : m = 0
  · exact Ev.pos (by omega) (j3t (Or.inl h0))
  · refine Ev.neg (by omega) ?_
    by_cases h1 : 1 < m
    · refine Ev.pos (by omega) (Ev.pos (by rw [bs_size]; omega) ?_)
      rw [show (0 : Int) = ((0 : Nat) : Int) from rfl, bt_bs]
      by_cases h48 : (s.getD 0 0).toNat = 48
      · rw [h48]
        exact j3t (Or.inr ⟨h1, h48⟩)
      · have e : (((s.getD 0 0).toNat : Int) == 48) = false := by
          rw [beq_eq_false_iff_ne]
          omega
        rw [e]
        exact j3f false rfl (by omega)
    · exact Ev.neg (by omega) (j3f false rfl (by omega))
theorem num_l0 (s : List UInt8) (sg : Int) (hsg : sg = 1 ∨ sg = -1) (hs : s.length ≤ 1048576) (m : Nat) (hm : m = min 10 (s.takeWhile dgt).length) :
    ∀ (d i : Nat), i + d = m → Ev (fun k => spec_l20Number.l0 k (bs s) sg (dv 0 (s.take i) : Nat) (i : Int) 0 (i : Int)) (numTail s sg m) := by
  have hl := tw_len s
  have J := num_j2 s sg hsg hs m hm
  intro d
  induction d with
  | zero =>
    intro i hi
    have ei : i = m := by omega
    subst ei
    refine Ev.succ ?_
    simp only [spec_l20Number.l0]
    rw [bt_bs, l2Digit_eq]
    simp only [Option.bind_some]
    by_cases h : i < s.length
    · refine Ev.pos (by rw [bs_size]; omega) (Ev.pos (by omega) ?_)
      by_cases hd : dgt (s.getD i 0) = true
      · refine Ev.pos hd (Ev.neg ?_ J)
        intro h10
        have e1 : i = (s.takeWhile dgt).length := by omega
        have e2 := tw_end (l := s) (by omega)
        rw [← e1, hd] at e2
        cases e2
      · exact Ev.neg hd J
    · exact Ev.neg (by rw [bs_size]; omega) J
  | succ d ih =>
    intro i hi
    obtain ⟨h1, h2⟩ := tw_get (l := s) (i := i) (by omega)
    have hlt : ∀ j, j ≤ m → dv 0 (s.take j) < 10000000000 := by
      intro j hj
      have h1 := dv_lt _ 0 (all_take (l := s) (n := j) (by omega))
      have h3 := pow_le10 (n := (s.take j).length) (by simp; omega)
      omega
    have hl1 := hlt i (by omega)
    have hl2 := hlt (i + 1) (by omega)
    have es : dv 0 (s.take (i + 1)) = dv 0 (s.take i) * 10 + ((s.getD i 0).toNat - 48) := by rw [take_get h1, dv_snoc]
    refine Ev.succ ?_
    simp only [spec_l20Number.l0]
    rw [bt_bs, l2Digit_eq]
    simp only [Option.bind_some]
    refine Ev.pos (by rw [bs_size]; omega) (Ev.pos (by omega) (Ev.pos h2 (Ev.pos (by omega) ?_)))
    rw [dg256 h2, w64 (n := (dv 0 (s.take i) : Int) * 10) (by omega) (by omega)]
    have e1 : ((dv 0 (s.take i) : Nat) : Int) * 10 + (((s.getD i 0).toNat - 48 : Nat) : Int) = ((dv 0 (s.take (i + 1)) : Nat) : Int) := by rw [es]; push_cast; rfl
    rw [e1, w64 (by omega) (by omega), w64 (n := (i : Int) + 1) (by omega) (by omega)]
    exact ih (i + 1) (by omega)
theorem numTail_ok (s : List UInt8) (sg : Int) (m : Nat) (hm : m = min 10 (s.takeWhile dgt).length) : numOk sg s (numTail s sg m) := by
  have hl := tw_len s
  have hdr := drop_tw s
  have htk := take_tw s
  unfold numOk numR
  by_cases h0 : s.takeWhile dgt = [] ∨ (1 < (s.takeWhile dgt).length ∧ (s.getD 0 0).toNat = 48)
  · rw [if_pos h0]
    have hn : m = 0 ∨ (1 < m ∧ (s.getD 0 0).toNat = 48) := by
      rcases h0 with e | ⟨e1, e2⟩
      · left; rw [hm, e]; rfl
      · right; exact ⟨by omega, e2⟩
    unfold numTail
    rw [if_pos hn]
  · rw [if_neg h0]
    have hD0 : (s.takeWhile dgt).length ≠ 0 := fun e => h0 (Or.inl (List.eq_nil_of_length_eq_zero e))
    have hn : ¬ (m = 0 ∨ (1 < m ∧ (s.getD 0 0).toNat = 48)) := by
      intro h
      rcases h with e | ⟨e1, e2⟩
      · omega
      · exact h0 (Or.inr ⟨by omega, e2⟩)
    unfold numTail
    rw [if_neg hn]
    by_cases h9 : 9 < (s.takeWhile dgt).length
    · -- ten digits or more: nothing is right
      have hm10 : m = 10 := by omega
      have big : (match (match s.dropWhile dgt with
          | [] => if 9 < (s.takeWhile dgt).length then none else some (dv 0 (s.takeWhile dgt), 0, [])
          | c :: T => if c.toNat = 46 then (if T.takeWhile dgt = [] then none else if 9 < (s.takeWhile dgt).length + (T.takeWhile dgt).length then none else some (dv 0 (s.takeWhile dgt ++ T.takeWhile dgt), (T.takeWhile dgt).length, T.dropWhile dgt))
            else if 9 < (s.takeWhile dgt).length then none else some (dv 0 (s.takeWhile dgt), 0, c :: T) : Option (Nat × Nat × List UInt8)) with
          | none => True
          | some _ => False) := by
        cases s.dropWhile dgt with
        | nil => simp only [if_pos h9]
        | cons c T =>
          simp only
          split
          · trivial
          · rename_i x e2
            split at e2
            · split at e2
              · cases e2
              · rw [if_pos (by omega)] at e2; cases e2
            · first | cases e2 | (rw [if_pos h9] at e2; cases e2)
      split
      · split
        · rw [hm10, if_pos (by simp)]
        · simp only [hm10]; rfl
      · rename_i n b rest e
        rw [e] at big
        exact big.elim
    · have hmD : m = (s.takeWhile dgt).length := by omega
      rw [← hmD] at hdr htk
      cases hR : s.dropWhile dgt with
      | nil =>
        have hms : ¬ m < s.length := by
          intro h
          have := congrArg List.length hdr
          rw [hR, List.length_drop] at this
          simp at this
          omega
        simp only
        rw [if_neg h9, if_neg (fun h => hms h.1), htk, hdr, hR]
        simp only [decide_eq_true_eq, show m ≤ 9 by omega, decide_true]
        rfl
      | cons c T =>
        have hms : m < s.length := by
          have := congrArg List.length hdr
          rw [hR, List.length_drop] at this
          simp at this
          omega
        have hcT := drop_get hms
        rw [hdr, hR] at hcT
        injection hcT with hc hT
        simp only
        by_cases h46 : c.toNat = 46
        · have h246 : m < s.length ∧ (s.getD m 0).toNat = 46 := ⟨hms, by rw [← hc]; exact h46⟩
          rw [if_pos h46, if_pos h246, ← hT]
          by_cases hP : T.takeWhile dgt = []
          · rw [if_pos hP, hP, if_pos (by simp)]
          · have hP0 : (T.takeWhile dgt).length ≠ 0 := fun e => hP (List.eq_nil_of_length_eq_zero e)
            have hmin : ¬ min (10 - m) (T.takeWhile dgt).length = 0 := by omega
            rw [if_neg hP, if_neg hmin]
            by_cases hs9 : 9 < (s.takeWhile dgt).length + (T.takeWhile dgt).length
            · rw [if_pos hs9]
              simp only
              rw [decide_eq_false_iff_not]
              omega
            · rw [if_neg hs9, show min (10 - m) (T.takeWhile dgt).length = (T.takeWhile dgt).length by omega, take_tw T, drop_tw T, htk]
              simp only [show m + (T.takeWhile dgt).length ≤ 9 by omega, decide_true]
        · have h246 : ¬ (m < s.length ∧ (s.getD m 0).toNat = 46) := fun h => h46 (by rw [hc]; exact h.2)
          rw [if_neg h46, if_neg h246, if_neg h9, htk, hdr, hR]
          simp only [show m ≤ 9 by omega, decide_true]
          rfl
def sgnOf (a : List UInt8) : Int := if (pre [45] a).2 = true then -1 else 1
theorem number_ev (a : List UInt8) (hs : a.length ≤ 1048576) : EvP (fun k => spec_l20Number.f k (bs a)) (numOk (sgnOf a) (pre [45] a).1) := by
  have go : ∀ (s : List UInt8) (sg : Int), s.length ≤ 1048576 → (sg = 1 ∨ sg = -1) → EvP (fun k => spec_l20Number.j0 k (bs s) sg) (numOk sg s) := by
    intro s sg hs hsg
    refine EvP.succ ?_
    simp only [spec_l20Number.j0]
    exact EvP.of (num_l0 s sg hsg hs _ rfl (min 10 (s.takeWhile dgt).length) 0 (by omega)) (numTail_ok s sg _ rfl)
  unfold spec_l20Number.f
  rw [show (⟨#[45]⟩ : ByteArray) = bs [45] from rfl, begins_eq]
  simp only [Option.bind_some]
  by_cases h : a.take [(45 : UInt8)].length = [45]
  · have e : pre [45] a = (a.drop [(45 : UInt8)].length, true) := if_pos h
    unfold sgnOf
    rw [e]
    exact EvP.pos rfl (by rw [if_pos rfl]; exact go _ (-1) (by simp; omega) (Or.inr rfl))
  · have e : pre [45] a = (a, false) := if_neg h
    unfold sgnOf
    rw [e]
    exact EvP.neg (by simp) (by rw [if_neg (by simp)]; exact go a 1 hs (Or.inl rfl))
theorem to_eq (a b c : Int) : impl_to.f a b c = some (decide (b ≤ a) && decide (a ≤ c)) := by
  unfold impl_to.f
  by_cases h : a ≥ b
  · rw [if_pos h]; simp [show b ≤ a from h]
  · rw [if_neg h]; simp [show ¬ b ≤ a from h]
def upow : List UInt8 → Option Int
  | [] => some 1
  | [d] => if 50 ≤ d.toNat ∧ d.toNat ≤ 57 then some ((d.toNat : Int) - 48) else none
  | [m, d] => if m.toNat = 45 ∧ 49 ≤ d.toNat ∧ d.toNat ≤ 57 then some (-((d.toNat : Int) - 48)) else none
  | _ => none
theorem u8_ext {a b : UInt8} (h : a.toNat = b.toNat) : a = b := UInt8.toNat_inj.1 h
theorem itoa_pos {n : Nat} (h : n < 10) : Lib.itoa (n : Int) = [UInt8.ofNat (48 + n)] := by
  unfold Lib.itoa
  rw [if_neg (by omega), Int.toNat_natCast, Lib.decDigits, dif_pos h]
theorem itoa_neg1 {n : Nat} (h : n < 10) (h1 : 1 ≤ n) : Lib.itoa (-(n : Int)) = [45, UInt8.ofNat (48 + n)] := by
  unfold Lib.itoa
  rw [if_pos (by omega), show (-(n : Int)).natAbs = n by omega, Lib.decDigits, dif_pos h]
theorem upow_itoa (v : Int) (h : -9 ≤ v ∧ v ≤ 9) (h0 : v ≠ 0) (h1 : v ≠ 1) : upow (Lib.itoa v) = some v := by
  by_cases hn : v < 0
  · obtain ⟨n, hv⟩ : ∃ n : Nat, v = -(n : Int) := ⟨v.natAbs, by omega⟩
    subst hv
    rw [itoa_neg1 (by omega) (by omega)]
    have e : (UInt8.ofNat (48 + n)).toNat = 48 + n := by simp; omega
    unfold upow
    simp only [e]
    rw [if_pos ⟨by decide, by omega, by omega⟩]
    congr 1
    omega
  · obtain ⟨n, hv⟩ : ∃ n : Nat, v = (n : Int) := ⟨v.toNat, by omega⟩
    subst hv
    rw [itoa_pos (by omega)]
    have e : (UInt8.ofNat (48 + n)).toNat = 48 + n := by simp; omega
    unfold upow
    simp only [e]
    rw [if_pos ⟨by omega, by omega⟩]
    congr 1
    omega
theorem atoi_one {d : UInt8} (h : dgt d = true) : Lib.atoiAll [d] = .ok ((d.toNat : Int) - 48) := by
  have hd := dgt_iff.1 h
  have pm : Lib.parseMag [d] = .ok (d.toNat - 48) := by
    unfold Lib.parseMag
    rw [if_neg (by simp)]
    simp only [Lib.parseUint10]
    rw [if_pos hd, if_neg (by omega), if_neg (by omega)]
    simp
  unfold Lib.atoiAll
  simp only
  rw [if_neg (by omega), pm]
  simp only
  rw [if_neg (by omega), if_neg (by omega), if_neg (by omega)]
  congr 1
  omega
theorem atoi_neg {m d : UInt8} (hm : m.toNat = 45) (h : dgt d = true) : Lib.atoiAll [m, d] = .ok (-((d.toNat : Int) - 48)) := by
  have hd := dgt_iff.1 h
  have pm : Lib.parseMag [d] = .ok (d.toNat - 48) := by
    unfold Lib.parseMag
    rw [if_neg (by simp)]
    simp only [Lib.parseUint10]
    rw [if_pos hd, if_neg (by omega), if_neg (by omega)]
    simp
  unfold Lib.atoiAll
  simp only
  rw [if_pos (Or.inr hm), pm]
  simp only
  rw [if_neg (by omega), if_neg (by omega), if_pos hm]
  congr 1
  omega
theorem upow_some {l : List UInt8} {v : Int} (h : upow l = some v) : (l = [] ∧ v = 1) ∨ (l ≠ [] ∧ Lib.atoiAll l = .ok v ∧ Lib.itoa v = l ∧ v ≠ 0 ∧ v ≠ 1 ∧ -9 ≤ v ∧ v ≤ 9) := by
  unfold upow at h
  split at h
  · left; exact ⟨rfl, (Option.some.inj h).symm⟩
  · rename_i d
    right
    split at h
    · rename_i hd
      have hv := Option.some.inj h
      have hg : dgt d = true := dgt_iff.2 ⟨by omega, hd.2⟩
      refine ⟨by simp, by rw [atoi_one hg, hv], ?_, by omega, by omega, by omega, by omega⟩
      have e := itoa_pos (n := d.toNat - 48) (by omega)
      rw [← hv, show (d.toNat : Int) - 48 = ((d.toNat - 48 : Nat) : Int) by omega, e]
      congr 1
      apply u8_ext
      simp; omega
    · cases h
  · rename_i m d
    right
    split at h
    · rename_i hd
      obtain ⟨hm, h1, h2⟩ := hd
      have hv := Option.some.inj h
      have hg : dgt d = true := dgt_iff.2 ⟨by omega, h2⟩
      refine ⟨by simp, by rw [atoi_neg hm hg, hv], ?_, by omega, by omega, by omega, by omega⟩
      have e := itoa_neg1 (n := d.toNat - 48) (by omega) (by omega)
      rw [← hv, show -((d.toNat : Int) - 48) = -((d.toNat - 48 : Nat) : Int) by omega, e]
      have e1 : m = 45 := u8_ext (by rw [hm]; rfl)
      have e2 : UInt8.ofNat (48 + (d.toNat - 48)) = d := by
        apply u8_ext
        simp; omega
      rw [e1, e2]
    · cases h
  · cases h
theorem unitPower_ev (l : List UInt8) (hl : l.length ≤ 1048576) : ∃ v, impl_unitPower.f (bs l) = some (v, (upow l).isSome) ∧ ∀ p, upow l = some p → v = p := by
  unfold impl_unitPower.f
  rw [bs_toList]
  by_cases h0 : l = []
  · subst h0
    rw [if_pos rfl]
    exact ⟨1, rfl, fun p hp => by simpa [upow] using hp⟩
  · rw [if_neg h0]
    unfold strconv_Atoi_25.f
    rw [bs_size, if_pos (by omega), bs_data]
    have bad : ∀ v : Int, (Lib.atoiAll l ≠ .ok v ∨ Lib.itoa v ≠ l ∨ v = 0 ∨ v = 1 ∨ ¬ (-9 ≤ v ∧ v ≤ 9)) → (∀ w, Lib.atoiAll l = .ok w → w = v) → upow l = none := by
      intro v hv hu
      cases hp : upow l with
      | none => rfl
      | some p =>
        rcases upow_some hp with h | ⟨_, h1, h2, h3, h4, h5, h6⟩
        · exact absurd h.1 h0
        · have := hu p h1
          subst this
          rcases hv with h | h | h | h | h
          · exact absurd h1 h
          · exact absurd h2 h
          · exact absurd h h3
          · exact absurd h h4
          · exact absurd ⟨h5, h6⟩ h
    cases ha : Lib.atoiAll l
    · rename_i v
      simp only [Option.bind_some, Option.isNone_none, if_true]
      have hb := Lib.atoiAll_bounds ha
      unfold strconv_Itoa_14.f
      rw [if_pos hb.1, if_pos hb.2]
      simp only [Option.bind_some]
      rw [show (⟨(Lib.itoa v).toArray⟩ : ByteArray) = bs (Lib.itoa v) from rfl, bs_toList]
      have uq : ∀ w, Lib.atoiAll l = .ok w → w = v := by
        intro w hw
        rw [ha] at hw
        injection hw with hw
        exact hw.symm
      by_cases h1 : Lib.itoa v = l
      · rw [if_pos h1]
        by_cases h2 : v = 0
        · rw [if_pos h2, bad v (Or.inr (Or.inr (Or.inl h2))) uq]
          exact ⟨v, rfl, fun p hp => by cases hp⟩
        · rw [if_neg h2]
          by_cases h3 : v = 1
          · rw [if_pos h3, bad v (Or.inr (Or.inr (Or.inr (Or.inl h3)))) uq]
            exact ⟨v, rfl, fun p hp => by cases hp⟩
          · rw [if_neg h3, to_eq]
            simp only [Option.bind_some]
            by_cases h9 : -9 ≤ v ∧ v ≤ 9
            · have := upow_itoa v h9 h2 h3
              rw [h1] at this
              rw [this]
              refine ⟨v, by simp [h9], fun p hp => by simpa using hp⟩
            · rw [bad v (Or.inr (Or.inr (Or.inr (Or.inr h9)))) uq]
              refine ⟨v, ?_, fun p hp => by cases hp⟩
              have : (decide (-9 ≤ v) && decide (v ≤ 9)) = false := by
                simp; omega
              rw [this]; rfl
      · rw [if_neg h1, bad v (Or.inr (Or.inl h1)) uq]
        exact ⟨v, rfl, fun p hp => by cases hp⟩
    · simp only [Option.bind_some, Option.isNone_some, Bool.false_eq_true, if_false]
      rw [bad 0 (Or.inl (by rw [ha]; intro e; cases e)) (fun w hw => by rw [ha] at hw; cases hw)]
      exact ⟨0, rfl, fun p hp => by cases hp⟩
    · simp only [Option.bind_some, Option.isNone_some, Bool.false_eq_true, if_false]
      rw [bad 0 (Or.inl (by rw [ha]; intro e; cases e)) (fun w hw => by rw [ha] at hw; cases hw)]
      exact ⟨_, rfl, fun p hp => by cases hp⟩
theorem pre1_nil (c : UInt8) : pre [c] [] = ([], false) := by simp [pre]
theorem pre1_cons (c x : UInt8) (t : List UInt8) : pre [c] (x :: t) = if x = c then (t, true) else (x :: t, false) := by
  unfold pre
  simp
def tailOk (x : List UInt8) : Bool := match x with | [] => true | y :: _ => !dgt y
def pwGo (s r : List UInt8) (mi : Bool) : Int × List UInt8 × Bool :=
  match r with
  | [] => (1, s, !mi)
  | d :: x => if dgt d = true then ((if mi = true then -1 else 1) * ((d.toNat : Int) - 48), x, (decide ((if mi = true then (-1 : Int) else 1) * ((d.toNat : Int) - 48) ≠ 0) && decide ((if mi = true then (-1 : Int) else 1) * ((d.toNat : Int) - 48) ≠ 1)) && tailOk x) else (1, s, !mi)
def pw (s : List UInt8) : Int × List UInt8 × Bool := pwGo s (pre [45] s).1 (pre [45] s).2
theorem power_j0 (s r : List UInt8) (sg : Int) (mi : Bool) (hsg : sg = if mi = true then -1 else 1) : Ev (fun k => spec_l20Power.j0 k (bs s) sg (bs r) mi)
    ((pwGo s r mi).1, bs (pwGo s r mi).2.1, (pwGo s r mi).2.2) := by
  refine Ev.succ ?_
  simp only [spec_l20Power.j0]
  cases r with
  | nil => exact Ev.neg (by rw [bs_size]; simp) (Ev.some_ rfl)
  | cons d x =>
    have e0 : bt (bs (d :: x)) 0 = (d.toNat : Int) := by
      rw [show (0 : Int) = ((0 : Nat) : Int) from rfl, bt_bs]; rfl
    have hsz : (bs (d :: x)).size = x.length + 1 := by rw [bs_size]; rfl
    refine Ev.pos (by omega) (Ev.pos (by omega) ?_)
    rw [e0, l2Digit_eq]
    simp only [Option.bind_some]
    by_cases hd : dgt d = true
    · have eg : pwGo s (d :: x) mi = (sg * ((d.toNat : Int) - 48), x, (decide (sg * ((d.toNat : Int) - 48) ≠ 0) && decide (sg * ((d.toNat : Int) - 48) ≠ 1)) && tailOk x) := by
        unfold pwGo
        simp only
        rw [if_pos hd, ← hsg]
      rw [eg]
      refine Ev.pos hd (Ev.pos (by omega) ?_)
      have hdd := dgt_iff.1 hd
      have ex : (bs (d :: x)).extract 1 (bs (d :: x)).size = bs x := by
        rw [bs_extract, bs_size, List.take_length]; rfl
      have ev : wrap64 (sg * ((((d.toNat : Int)) - 48) % 256)) = sg * ((d.toNat : Int) - 48) := by
        rw [dg256 hd, show (((d.toNat - 48 : Nat)) : Int) = (d.toNat : Int) - 48 by omega]
        have : sg = 1 ∨ sg = -1 := by rw [hsg]; split <;> simp
        rcases this with e | e <;> rw [e] <;> exact w64 (by omega) (by omega)
      rw [ex, ev]
      generalize sg * ((d.toNat : Int) - 48) = v
      by_cases h0 : v = 0
      · exact Ev.pos h0 (Ev.some_ (by simp [h0]))
      · refine Ev.neg h0 ?_
        by_cases h1 : v = 1
        · exact Ev.pos h1 (Ev.some_ (by simp [h1]))
        · refine Ev.neg h1 ?_
          cases x with
          | nil => exact Ev.pos (by rw [bs_size]; simp) (Ev.some_ (by simp [h0, h1, tailOk]))
          | cons y z =>
            have e1 : bt (bs (d :: y :: z)) 1 = (y.toNat : Int) := by
              rw [show (1 : Int) = ((1 : Nat) : Int) from rfl, bt_bs]; rfl
            have hsz2 : (bs (d :: y :: z)).size = z.length + 2 := by rw [bs_size]; rfl
            refine Ev.neg (by omega) (Ev.pos (by omega) ?_)
            rw [e1, l2Digit_eq]
            exact Ev.some_ (by simp [h0, h1, tailOk])
    · have eg : pwGo s (d :: x) mi = (1, s, !mi) := by
        unfold pwGo
        simp only
        rw [if_neg hd]
      rw [eg]
      exact Ev.neg hd (Ev.some_ rfl)
theorem power_ev (s : List UInt8) : Ev (fun k => spec_l20Power.f k (bs s)) ((pw s).1, bs (pw s).2.1, (pw s).2.2) := by
  unfold spec_l20Power.f
  rw [show (⟨#[45]⟩ : ByteArray) = bs [45] from rfl, begins_eq]
  simp only [Option.bind_some]
  unfold pw
  by_cases h : (pre [45] s).2 = true
  · refine Ev.pos h ?_
    exact power_j0 s (pre [45] s).1 (-1) (pre [45] s).2 (by rw [if_pos h])
  · refine Ev.neg h ?_
    exact power_j0 s (pre [45] s).1 1 (pre [45] s).2 (by rw [if_neg h])
theorem pw_nil : pw [] = (1, [], true) := by simp [pw, pwGo, pre1_nil]
theorem pw_minus (t : List UInt8) : pw (45 :: t) = match t with | [] => (1, [45], false) | d :: x => if dgt d = true then (-((d.toNat : Int) - 48), x, (decide (-((d.toNat : Int) - 48) ≠ 0) && decide (-((d.toNat : Int) - 48) ≠ 1)) && (match x with | [] => true | y :: _ => !dgt y)) else (1, 45 :: t, false) := by
  unfold pw
  rw [pre1_cons, if_pos rfl]
  cases t with
  | nil => rfl
  | cons d x => simp [pwGo, tailOk]
theorem pw_plain {c : UInt8} (hc : c ≠ 45) (t : List UInt8) : pw (c :: t) = if dgt c = true then (((c.toNat : Int) - 48), t, (decide (((c.toNat : Int) - 48) ≠ 0) && decide (((c.toNat : Int) - 48) ≠ 1)) && (match t with | [] => true | y :: _ => !dgt y)) else (1, c :: t, true) := by
  unfold pw
  rw [pre1_cons, if_neg hc]
  simp [pwGo, tailOk]
theorem pw_upow (l : List UInt8) : if (pw l).2.2 = true ∧ (pw l).2.1 = [] then upow l = some (pw l).1 else upow l = none := by
  cases l with
  | nil => rw [pw_nil]; simp [upow]
  | cons c t =>
    by_cases hc : c = 45
    · subst hc
      rw [pw_minus]
      cases t with
      | nil => simp [upow]
      | cons d x =>
        simp only
        by_cases hd : dgt d = true
        · rw [if_pos hd]
          have hdd := dgt_iff.1 hd
          cases x with
          | nil =>
            by_cases h0 : d.toNat = 48
            · rw [if_neg (by simp [h0])]
              simp only [upow]
              rw [if_neg (by omega)]
            · rw [if_pos (by simp; omega)]
              simp only [upow]
              rw [if_pos ⟨rfl, by omega, by omega⟩]
          | cons y z => rw [if_neg (by simp)]; rfl
        · rw [if_neg hd, if_neg (by simp)]
          cases x with
          | nil =>
            simp only [upow]
            rw [if_neg (fun h => hd (dgt_iff.2 ⟨by omega, h.2.2⟩))]
          | cons y z => rfl
    · rw [pw_plain hc]
      by_cases hd : dgt c = true
      · rw [if_pos hd]
        have hdd := dgt_iff.1 hd
        cases t with
        | nil =>
          by_cases h0 : 50 ≤ c.toNat
          · rw [if_pos (by simp; omega)]
            simp only [upow]
            rw [if_pos ⟨h0, by omega⟩]
          · rw [if_neg (by simp; omega)]
            simp only [upow]
            rw [if_neg (by omega)]
        | cons y z =>
          rw [if_neg (by simp)]
          cases z with
          | nil =>
            simp only [upow]
            rw [if_neg (fun h => hc (u8_ext (by rw [h.1]; rfl)))]
          | cons a b => rfl
      · rw [if_neg hd, if_neg (by simp)]
        cases t with
        | nil =>
          simp only [upow]
          rw [if_neg (fun h => hd (dgt_iff.2 ⟨by omega, h.2⟩))]
        | cons y z =>
          cases z with
          | nil =>
            simp only [upow]
            rw [if_neg (fun h => hc (u8_ext (by rw [h.1]; rfl)))]
          | cons a b => rfl
theorem pw_mem (l : List UInt8) : ∀ b ∈ (pw l).2.1, b ∈ l := by
  intro b hb
  cases l with
  | nil => rw [pw_nil] at hb; exact hb
  | cons c t =>
    by_cases hc : c = 45
    · subst hc
      rw [pw_minus] at hb
      cases t with
      | nil => exact hb
      | cons d x =>
        simp only at hb
        split at hb
        · exact List.mem_cons_of_mem _ (List.mem_cons_of_mem _ hb)
        · exact hb
    · rw [pw_plain hc] at hb
      split at hb
      · exact List.mem_cons_of_mem _ hb
      · exact hb
theorem d42 : dgt 42 = false := by decide
theorem pw_star (p t : List UInt8) (hp : (42 : UInt8) ∉ p) : (∀ v, upow p = some v → pw (p ++ 42 :: t) = (v, 42 :: t, true)) ∧ (upow p = none → (pw (p ++ 42 :: t)).2.2 = false ∨ ∃ y z, (pw (p ++ 42 :: t)).2.1 = y :: z ∧ y ≠ 42) := by
  have e42 : ¬ ((42 : UInt8).toNat = 45) := by decide
  cases p with
  | nil =>
    refine ⟨fun v hv => ?_, fun h => by simp [upow] at h⟩
    have : v = 1 := by simpa [upow] using hv.symm
    rw [List.nil_append, pw_plain (by decide), if_neg (by rw [d42]; decide), this]
  | cons c r =>
    have hc42 : c ≠ 42 := fun e => hp (by rw [e]; exact List.mem_cons_self)
    by_cases hc : c = 45
    · subst hc
      rw [List.cons_append, pw_minus]
      cases r with
      | nil =>
        simp only [List.nil_append]
        rw [if_neg (by rw [d42]; decide)]
        refine ⟨fun v hv => ?_, fun _ => Or.inl rfl⟩
        simp only [upow] at hv
        rw [if_neg (by decide)] at hv
        cases hv
      | cons d x =>
        simp only [List.cons_append]
        have hd42 : d ≠ 42 := fun e => hp (by rw [e]; exact List.mem_cons_of_mem _ List.mem_cons_self)
        by_cases hd : dgt d = true
        · rw [if_pos hd]
          have hdd := dgt_iff.1 hd
          cases x with
          | nil =>
            simp only [List.nil_append, d42]
            by_cases h0 : d.toNat = 48
            · refine ⟨fun v hv => ?_, fun _ => Or.inl (by simp [h0])⟩
              simp only [upow] at hv
              rw [if_neg (by omega)] at hv
              cases hv
            · have hu : upow [45, d] = some (-((d.toNat : Int) - 48)) := by
                simp only [upow]
                rw [if_pos ⟨rfl, by omega, by omega⟩]
              refine ⟨fun v hv => ?_, fun h => by rw [hu] at h; cases h⟩
              rw [hu] at hv
              rw [← Option.some.inj hv]
              have hb : ((decide (-((d.toNat : Int) - 48) ≠ 0) && decide (-((d.toNat : Int) - 48) ≠ 1)) && !false) = true := by simp; omega
              rw [hb]
          | cons y z =>
            have hy42 : y ≠ 42 := fun e => hp (by rw [e]; simp)
            have hu : upow (45 :: d :: y :: z) = none := rfl
            refine ⟨fun v hv => (by rw [hu] at hv; cases hv), fun _ => Or.inr ⟨y, z ++ 42 :: t, rfl, hy42⟩⟩
        · rw [if_neg hd]
          have hu : upow (45 :: d :: x) = none := by
            cases x with
            | nil =>
              simp only [upow]
              rw [if_neg (fun h => hd (dgt_iff.2 ⟨by omega, h.2.2⟩))]
            | cons y z => rfl
          exact ⟨fun v hv => (by rw [hu] at hv; cases hv), fun _ => Or.inl rfl⟩
    · rw [List.cons_append, pw_plain hc]
      by_cases hd : dgt c = true
      · rw [if_pos hd]
        have hdd := dgt_iff.1 hd
        cases r with
        | nil =>
          simp only [List.nil_append, d42]
          by_cases h0 : 50 ≤ c.toNat
          · have hu : upow [c] = some ((c.toNat : Int) - 48) := by
              simp only [upow]
              rw [if_pos ⟨h0, by omega⟩]
            refine ⟨fun v hv => ?_, fun h => by rw [hu] at h; cases h⟩
            rw [hu] at hv
            rw [← Option.some.inj hv]
            have hb : ((decide (((c.toNat : Int) - 48) ≠ 0) && decide (((c.toNat : Int) - 48) ≠ 1)) && !false) = true := by simp; omega
            rw [hb]
          · refine ⟨fun v hv => ?_, fun _ => Or.inl (by simp; omega)⟩
            simp only [upow] at hv
            rw [if_neg (by omega)] at hv
            cases hv
        | cons y z =>
          have hy42 : y ≠ 42 := fun e => hp (by rw [e]; simp)
          have hu : upow (c :: y :: z) = none := by
            cases z with
            | nil =>
              simp only [upow]
              rw [if_neg (fun h => hc (u8_ext (by rw [h.1]; rfl)))]
            | cons a b => rfl
          exact ⟨fun v hv => (by rw [hu] at hv; cases hv), fun _ => Or.inr ⟨y, z ++ 42 :: t, rfl, hy42⟩⟩
      · rw [if_neg hd]
        have hu : upow (c :: r) = none := by
          cases r with
          | nil =>
            simp only [upow]
            rw [if_neg (fun h => hd (dgt_iff.2 ⟨by omega, h.2⟩))]
          | cons y z =>
            cases z with
            | nil =>
              simp only [upow]
              rw [if_neg (fun h => hc (u8_ext (by rw [h.1]; rfl)))]
            | cons a b => rfl
        exact ⟨fun v hv => (by rw [hu] at hv; cases hv), fun _ => Or.inr ⟨c, r ++ 42 :: t, rfl, hc42⟩⟩
def secU (volt : Int) (x : List UInt8) : Option (Int × Int) := if (pre [115] x).2 = true then (upow (pre [115] x).1).map (fun c => (volt, c)) else none
def longU (s : List UInt8) : Option (Int × Int) :=
  match s.dropWhile (· != 42) with
  | [] => if (pre [115] s).2 = true then secU 0 s else if (pre [86] s).2 = true then (upow (pre [86] s).1).map (fun v => (v, 0)) else none
  | _ :: t => if (pre [86] (s.takeWhile (· != 42))).2 = true then (upow (pre [86] (s.takeWhile (· != 42))).1).bind (fun v => secU v t) else none
def sSec (volt : Int) (x : List UInt8) : Option (Int × Int) := if (pre [115] x).2 = true then (if (pw (pre [115] x).1).2.2 = true ∧ (pw (pre [115] x).1).2.1 = [] then some (volt, (pw (pre [115] x).1).1) else none) else none
def sLong (s : List UInt8) : Option (Int × Int) :=
  if (pre [86] s).2 = true then
    (if (pw (pre [86] s).1).2.2 = true then
      (if (pw (pre [86] s).1).2.1 = [] then some ((pw (pre [86] s).1).1, 0)
       else if (pre [42] (pw (pre [86] s).1).2.1).2 = true then sSec (pw (pre [86] s).1).1 (pre [42] (pw (pre [86] s).1).2.1).1 else none)
     else none)
  else sSec 0 s
theorem sSec_eq (volt : Int) (x : List UInt8) : sSec volt x = secU volt x := by
  unfold sSec secU
  by_cases h : (pre [115] x).2 = true
  · rw [if_pos h, if_pos h]
    have := pw_upow (pre [115] x).1
    split at this
    · rename_i h2; rw [if_pos h2, this]; rfl
    · rename_i h2; rw [if_neg h2, this]; rfl
  · rw [if_neg h, if_neg h]
theorem upow_no42 {l : List UInt8} {v : Int} (h : upow l = some v) : (42 : UInt8) ∉ l := by
  intro hm
  unfold upow at h
  split at h
  · cases hm
  · rename_i d
    split at h
    · rename_i hd
      have : (42 : UInt8) = d := by simpa using hm
      rw [← this] at hd
      revert hd; decide
    · cases h
  · rename_i m d
    split at h
    · rename_i hd
      rcases List.mem_cons.1 hm with e | e
      · rw [← e] at hd; exact absurd hd.1 (by decide)
      · have : (42 : UInt8) = d := by simpa using e
        rw [← this] at hd; exact absurd hd.2.1 (by decide)
    · cases h
  · cases h
theorem dw42_nil {l : List UInt8} (h : l.dropWhile (· != 42) = []) : (42 : UInt8) ∉ l := by
  intro hm
  induction l with
  | nil => cases hm
  | cons a t ih =>
    rw [List.dropWhile_cons] at h
    split at h
    · rename_i ha
      rcases List.mem_cons.1 hm with e | e
      · rw [← e] at ha; revert ha; decide
      · exact ih h e
    · cases h
theorem tw42 : ∀ l : List UInt8, (42 : UInt8) ∉ l.takeWhile (· != 42) := by
  intro l hm
  induction l with
  | nil => cases hm
  | cons a t ih =>
    rw [List.takeWhile_cons] at hm
    split at hm
    · rename_i ha
      rcases List.mem_cons.1 hm with e | e
      · rw [← e] at ha; revert ha; decide
      · exact ih e
    · cases hm
theorem dw42_cons {l t : List UInt8} {y : UInt8} (h : l.dropWhile (· != 42) = y :: t) : y = 42 ∧ l = l.takeWhile (· != 42) ++ 42 :: t ∧ (42 : UInt8) ∉ l.takeWhile (· != 42) := by
  have hy : y = 42 := by
    have := List.head?_dropWhile_not (fun b : UInt8 => b != 42) l
    rw [h] at this
    simpa using this
  refine ⟨hy, ?_, ?_⟩
  · have := List.takeWhile_append_dropWhile (p := fun b : UInt8 => b != 42) (l := l)
    rw [h, hy] at this
    exact this.symm
  · exact tw42 l
theorem sLong_eq (s : List UInt8) : sLong s = longU s := by
  unfold longU
  cases s with
  | nil => simp [sLong, sSec, pre1_nil]
  | cons x r =>
    by_cases hx : x = 86
    · subst hx
      have e86 : pre [86] (86 :: r) = (r, true) := by rw [pre1_cons, if_pos rfl]
      have e115 : pre [115] (86 :: r) = (86 :: r, false) := by rw [pre1_cons, if_neg (by decide)]
      have ed : (86 :: r : List UInt8).dropWhile (· != 42) = r.dropWhile (· != 42) := by rw [List.dropWhile_cons, if_pos (by decide)]
      have et : (86 :: r : List UInt8).takeWhile (· != 42) = 86 :: r.takeWhile (· != 42) := by rw [List.takeWhile_cons, if_pos (by decide)]
      rw [ed]
      unfold sLong
      rw [e86, if_pos rfl]
      cases hr : r.dropWhile (· != 42) with
      | nil =>
        have hno := dw42_nil hr
        simp only
        simp only [e115, Bool.false_eq_true, if_false, if_true]
        have hu := pw_upow r
        by_cases hf : (pw r).2.2 = true
        · rw [if_pos hf]
          by_cases hm : (pw r).2.1 = []
          · rw [if_pos ⟨hf, hm⟩] at hu
            rw [if_pos hm, hu]; rfl
          · rw [if_neg (fun h => hm h.2)] at hu
            rw [if_neg hm, hu, if_neg ?_]
            · rfl
            · intro h42
              cases hq : (pw r).2.1 with
              | nil => exact hm hq
              | cons a b =>
                rw [hq, pre1_cons] at h42
                split at h42
                · rename_i ha
                  exact hno (by rw [← ha]; exact pw_mem r a (by rw [hq]; exact List.mem_cons_self))
                · cases h42
        · rw [if_neg (fun h => hf h.1)] at hu
          rw [if_neg hf, hu]; rfl
      | cons y t =>
        obtain ⟨hy, hl, hno⟩ := dw42_cons hr
        simp only
        rw [et, pre1_cons, if_pos rfl, if_pos rfl]
        obtain ⟨hs1, hs2⟩ := pw_star (r.takeWhile (· != 42)) t hno
        rw [← hl] at hs1 hs2
        cases hu : upow (r.takeWhile (· != 42)) with
        | some v =>
          have := hs1 v hu
          rw [this]
          simp only
          rw [if_pos trivial, if_neg (by simp), pre1_cons, if_pos rfl, if_pos rfl, sSec_eq]
          rfl
        | none =>
          rcases hs2 hu with h | ⟨a, b, h, ha⟩
          · rw [if_neg (by rw [h]; simp)]; rfl
          · by_cases hf : (pw r).2.2 = true
            · rw [if_pos hf, h, if_neg (by simp), pre1_cons, if_neg ha, if_neg (by simp)]; rfl
            · rw [if_neg hf]; rfl
    · have e86 : pre [86] (x :: r) = (x :: r, false) := by rw [pre1_cons, if_neg hx]
      unfold sLong
      rw [e86, if_neg (by simp), sSec_eq]
      cases hr : (x :: r).dropWhile (· != 42) with
      | nil =>
        simp only
        by_cases h115 : (pre [115] (x :: r)).2 = true
        · rw [if_pos h115]
        · rw [if_neg h115, if_neg (by simp)]
          unfold secU
          rw [if_neg h115]
      | cons y t =>
        obtain ⟨hy, hl, hno⟩ := dw42_cons hr
        simp only
        have e2 : (pre [86] ((x :: r).takeWhile (· != 42))).2 = false := by
          rw [List.takeWhile_cons]
          split
          · rw [pre1_cons, if_neg hx]
          · rw [pre1_nil]
        rw [e2, if_neg (by simp)]
        unfold secU
        by_cases h115 : (pre [115] (x :: r)).2 = true
        · rw [if_pos h115]
          cases hu : upow (pre [115] (x :: r)).1 with
          | none => rfl
          | some c =>
            exfalso
            apply upow_no42 hu
            rw [pre1_cons] at h115 ⊢
            split at h115
            · rename_i h1
              rw [if_pos h1]
              have hm : (42 : UInt8) ∈ x :: r := by rw [hl]; simp
              rcases List.mem_cons.1 hm with e | e
              · rw [← e] at h1; exact absurd h1 (by decide)
              · exact e
            · cases h115
        · rw [if_neg h115]
def pairOk (o : Option (Int × Int)) (r : Int × Int × Bool) : Prop := match o with | none => r.2.2 = false | some q => r = (q.1, q.2, true)
theorem sLong_ev (s : List UInt8) : EvP (fun k => spec_l20Long.f k (bs s)) (pairOk (longU s)) := by
  rw [← sLong_eq]
  have sec : ∀ (v : Int) (x : List UInt8), EvP (fun k => spec_l20Long.j0 k v (bs x)) (pairOk (sSec v x)) := by
    intro v x
    unfold sSec
    refine EvP.succ ?_
    simp only [spec_l20Long.j0]
    rw [show (⟨#[115]⟩ : ByteArray) = bs [115] from rfl, begins_eq]
    simp only [Option.bind_some]
    by_cases h : (pre [115] x).2 = true
    · rw [if_pos h]
      refine EvP.pos h (EvP.next (power_ev _).p ?_)
      intro q hq
      subst hq
      simp only
      by_cases hf : (pw (pre [115] x).1).2.2 = true
      · refine EvP.pos hf (EvP.now ?_)
        rw [bs_toList]
        by_cases hm : (pw (pre [115] x).1).2.1 = []
        · rw [if_pos ⟨hf, hm⟩, hm]; rfl
        · have hn : ¬ ((pw (pre [115] x).1).2.2 = true ∧ (pw (pre [115] x).1).2.1 = []) := fun h => hm h.2
          rw [if_neg hn]
          simp [pairOk, hm]
      · have hn : ¬ ((pw (pre [115] x).1).2.2 = true ∧ (pw (pre [115] x).1).2.1 = []) := fun h => hf h.1
        rw [if_neg hn]
        exact EvP.neg hf (EvP.now rfl)
    · rw [if_neg h]
      exact EvP.neg h (EvP.now rfl)
  unfold spec_l20Long.f sLong
  rw [show (⟨#[86]⟩ : ByteArray) = bs [86] from rfl, show (⟨#[42]⟩ : ByteArray) = bs [42] from rfl, begins_eq]
  simp only [Option.bind_some]
  by_cases h : (pre [86] s).2 = true
  · rw [if_pos h]
    refine EvP.pos h (EvP.next (power_ev _).p ?_)
    intro q hq
    subst hq
    simp only
    by_cases hf : (pw (pre [86] s).1).2.2 = true
    · rw [if_pos hf]
      refine EvP.pos hf ?_
      rw [bs_toList]
      by_cases hm : (pw (pre [86] s).1).2.1 = []
      · rw [if_pos hm]
        exact EvP.pos hm (EvP.now rfl)
      · rw [if_neg hm]
        refine EvP.neg hm ?_
        rw [begins_eq]
        simp only [Option.bind_some]
        by_cases h42 : (pre [42] (pw (pre [86] s).1).2.1).2 = true
        · rw [if_pos h42]
          exact EvP.pos h42 (sec _ _)
        · rw [if_neg h42]
          exact EvP.neg h42 (EvP.now rfl)
    · rw [if_neg hf]
      exact EvP.neg hf (EvP.now rfl)
  · rw [if_neg h]
    exact EvP.neg h (sec 0 s)
theorem index_star : ∀ (E1 E2 : List UInt8), (42 : UInt8) ∉ E1 → Lib.index (E1 ++ 42 :: E2) [42] = E1.length := by
  intro E1
  induction E1 with
  | nil => intro E2 _; simp [Lib.index]
  | cons b l ih =>
    intro E2 h
    have hb : ¬ (42 : UInt8) = b := fun e => h (by rw [e]; exact List.mem_cons_self)
    have hl : (42 : UInt8) ∉ l := fun e => h (List.mem_cons_of_mem _ e)
    have hi := ih E2 hl
    rw [List.cons_append, Lib.index]
    rw [if_neg (by simp [hb]), hi, if_neg (by simp)]
    simp
theorem index_nostar : ∀ (l : List UInt8), (42 : UInt8) ∉ l → Lib.index l [42] = -1 := by
  intro l
  induction l with
  | nil => intro _; simp [Lib.index]
  | cons b l ih =>
    intro h
    have hb : ¬ (42 : UInt8) = b := fun e => h (by rw [e]; exact List.mem_cons_self)
    have hl : (42 : UInt8) ∉ l := fun e => h (List.mem_cons_of_mem _ e)
    rw [Lib.index, if_neg (by simp [hb]), ih hl]
    rfl
theorem cut_nostar {s : List UInt8} (h : s.dropWhile (· != 42) = []) : Lib.cut s [42] = (s, [], false) := by
  unfold Lib.cut
  rw [index_nostar s (dw42_nil h), if_neg (by decide)]
theorem cut_star {s t : List UInt8} {y : UInt8} (h : s.dropWhile (· != 42) = y :: t) : Lib.cut s [42] = (s.takeWhile (· != 42), t, true) := by
  obtain ⟨hy, hl, hno⟩ := dw42_cons h
  have hi := index_star (s.takeWhile (· != 42)) t hno
  rw [← hl] at hi
  unfold Lib.cut
  rw [hi, if_pos (by omega)]
  simp only [Int.toNat_natCast]
  have e1 : s.take (s.takeWhile (· != 42)).length = s.takeWhile (· != 42) := by
    conv => lhs; rhs; rw [hl]
    exact List.take_left
  have e2 : s.drop ((s.takeWhile (· != 42)).length + [(42 : UInt8)].length) = t := by
    rw [← List.drop_drop]
    conv => lhs; arg 2; rhs; rw [hl]
    rw [List.drop_left]
    rfl
  rw [e1, e2]
theorem pre_len (p s : List UInt8) : (pre p s).1.length ≤ s.length := by
  unfold pre
  split
  · simp
  · exact Nat.le_refl _
def longOk (o : Option (Int × Int)) (n p : Int) (r : Bool × Int × Int × Int × Int) : Prop := match o with | none => r.1 = false ∧ r.2.1 = n ∧ r.2.2.1 = p | some q => r = (true, n, p, q.1, q.2)
theorem iLong_ev (s : List UInt8) (hs : s.length ≤ 1048576) (n p : Int) : EvP (fun k => impl_longUnits.f k n p 0 0 (bs s)) (longOk (longU s) n p) := by
  have e42 : (⟨#[42]⟩ : ByteArray) = bs [42] := rfl
  have e115 : (⟨#[115]⟩ : ByteArray) = bs [115] := rfl
  have e86 : (⟨#[86]⟩ : ByteArray) = bs [86] := rfl
  -- the seconds
  have sec : ∀ (v : Int) (x : List UInt8), x.length ≤ 1048576 → EvP (fun k => impl_longUnits.j1 k true (bs x) true n p v 0) (longOk (secU v x) n p) := by
    intro v x hx
    refine EvP.succ ?_
    simp only [impl_longUnits.j1]
    rw [e115, cutPrefix_eq]
    simp only [Option.bind_some]
    refine EvP.pos trivial ?_
    by_cases h : (pre [115] x).2 = true
    · have e : secU v x = (upow (pre [115] x).1).map (fun c => (v, c)) := if_pos h
      rw [e]
      refine EvP.pos h (EvP.pos trivial ?_)
      obtain ⟨c, hc, hc2⟩ := unitPower_ev (pre [115] x).1 (Nat.le_trans (pre_len _ _) hx)
      rw [hc]
      simp only [Option.bind_some]
      refine EvP.now ?_
      cases hu : upow (pre [115] x).1 with
      | none => exact ⟨rfl, rfl, rfl⟩
      | some w => rw [hc2 w hu]; rfl
    · have e : secU v x = none := if_neg h
      rw [e]
      exact EvP.neg h (EvP.now (show longOk none n p _ from ⟨rfl, rfl, rfl⟩))
  have secF : ∀ (v : Int) (x : List UInt8), EvP (fun k => impl_longUnits.j1 k false (bs x) true n p v 0) (longOk none n p) := by
    intro v x
    refine EvP.succ ?_
    simp only [impl_longUnits.j1]
    rw [e115, cutPrefix_eq]
    simp only [Option.bind_some]
    refine EvP.pos trivial (EvP.both (fun _ => EvP.neg (by decide) (EvP.now (show longOk none n p _ from ⟨rfl, rfl, rfl⟩))) (fun _ => EvP.now (show longOk none n p _ from ⟨rfl, rfl, rfl⟩)))
  unfold impl_longUnits.f strings_Cut.f
  rw [bs_size, if_pos (by omega), e42, bs_data, bs_data]
  simp only [Option.bind_some]
  unfold longU
  cases hd : s.dropWhile (· != 42) with
  | nil =>
    rw [cut_nostar hd]
    simp only
    refine EvP.neg (by decide) ?_
    rw [e115, hasPrefix_eq]
    simp only [Option.bind_some]
    refine EvP.succ ?_
    simp only [impl_longUnits.j0]
    by_cases h115 : (pre [115] s).2 = true
    · rw [if_pos h115]
      exact EvP.pos h115 (sec 0 s hs)
    · rw [if_neg h115]
      refine EvP.neg h115 ?_
      rw [show (⟨s.toArray⟩ : ByteArray) = bs s from rfl, e86, cutPrefix_eq]
      simp only [Option.bind_some]
      by_cases h86 : (pre [86] s).2 = true
      · rw [if_pos h86]
        refine EvP.pos h86 ?_
        obtain ⟨c, hc, hc2⟩ := unitPower_ev (pre [86] s).1 (Nat.le_trans (pre_len _ _) hs)
        rw [hc]
        simp only [Option.bind_some]
        refine EvP.succ ?_
        simp only [impl_longUnits.j1]
        refine EvP.neg (by decide) (EvP.now ?_)
        cases hu : upow (pre [86] s).1 with
        | none => exact ⟨rfl, rfl, rfl⟩
        | some w => rw [hc2 w hu]; rfl
      · rw [if_neg h86]
        exact EvP.neg h86 (EvP.now ⟨rfl, rfl, rfl⟩)
  | cons y t =>
    obtain ⟨hy, hl, hno⟩ := dw42_cons hd
    have hlen := congrArg List.length hl
    simp only [List.length_append, List.length_cons] at hlen
    rw [cut_star hd]
    simp only
    refine EvP.pos trivial (EvP.succ ?_)
    simp only [impl_longUnits.j0]
    refine EvP.neg (by decide) ?_
    rw [show (⟨(s.takeWhile (· != 42)).toArray⟩ : ByteArray) = bs (s.takeWhile (· != 42)) from rfl, show (⟨t.toArray⟩ : ByteArray) = bs t from rfl, e86, cutPrefix_eq]
    simp only [Option.bind_some]
    by_cases h86 : (pre [86] (s.takeWhile (· != 42))).2 = true
    · rw [if_pos h86]
      refine EvP.pos h86 ?_
      obtain ⟨c, hc, hc2⟩ := unitPower_ev (pre [86] (s.takeWhile (· != 42))).1 (Nat.le_trans (pre_len _ _) (by omega))
      rw [hc]
      simp only [Option.bind_some]
      cases hu : upow (pre [86] (s.takeWhile (· != 42))).1 with
      | none => exact secF c t
      | some w =>
        rw [hc2 w hu]
        exact sec w t (by omega)
    · rw [if_neg h86]
      exact EvP.neg h86 (EvP.now ⟨rfl, rfl, rfl⟩)
def shortEnd (up : Int) (l : List UInt8) : Option (Int × Int × Int) := if l = [86] then some (up, 1, 0) else if l = [115] then some (up, 0, 1) else if l = [72, 122] then some (up, 0, -1) else none
def shortU (s : List UInt8) : Option (Int × Int × Int) :=
  if (pre [110] s).2 = true then shortEnd (-9) (pre [110] s).1
  else if (pre [194, 181] s).2 = true then shortEnd (-6) (pre [194, 181] s).1
  else if (pre [109] s).2 = true then shortEnd (-3) (pre [109] s).1
  else if (pre [107] s).2 = true then shortEnd 3 (pre [107] s).1
  else if (pre [77] s).2 = true then shortEnd 6 (pre [77] s).1
  else if (pre [71] s).2 = true then shortEnd 9 (pre [71] s).1
  else shortEnd 0 s
def triOk (o : Option (Int × Int × Int)) (r : Int × Int × Int × Bool) : Prop := match o with | none => r.2.2.2 = false | some q => r = (q.1, q.2.1, q.2.2, true)
theorem sShort_ev (s : List UInt8) : EvP (fun k => spec_l20Short.f k (bs s)) (triOk (shortU s)) := by
  have fin : ∀ (up : Int) (l : List UInt8), EvP (fun k => spec_l20Short.j1 k (bs l) up) (triOk (shortEnd up l)) := by
    intro up l
    refine EvP.succ ?_
    simp only [spec_l20Short.j1]
    rw [bs_toList]
    by_cases h1 : l = [86]
    · have e : shortEnd up l = some (up, 1, 0) := by unfold shortEnd; rw [if_pos h1]
      rw [e]; exact EvP.pos h1 (EvP.now rfl)
    · refine EvP.neg h1 ?_
      by_cases h2 : l = [115]
      · have e : shortEnd up l = some (up, 0, 1) := by unfold shortEnd; rw [if_neg h1, if_pos h2]
        rw [e]; exact EvP.pos h2 (EvP.now rfl)
      · refine EvP.neg h2 ?_
        by_cases h3 : l = [72, 122]
        · have e : shortEnd up l = some (up, 0, -1) := by unfold shortEnd; rw [if_neg h1, if_neg h2, if_pos h3]
          rw [e]; exact EvP.pos h3 (EvP.now rfl)
        · have e : shortEnd up l = none := by unfold shortEnd; rw [if_neg h1, if_neg h2, if_neg h3]
          rw [e]; exact EvP.neg h3 (EvP.now rfl)
  have go : ∀ (i : Nat) (hd : List UInt8) (up : Int) (X : Option (Int × Int × Int)), i < 6 → rdOf ByteArray.empty [(⟨#[110]⟩ : ByteArray), ⟨#[194, 181]⟩, ⟨#[109]⟩, ⟨#[107]⟩, ⟨#[77]⟩, ⟨#[71]⟩] (i : Int) = bs hd → rd [(-9 : Int), -6, -3, 3, 6, 9] (i : Int) = up →
      EvP (fun k => spec_l20Short.l0 k (bs s) [(⟨#[110]⟩ : ByteArray), ⟨#[194, 181]⟩, ⟨#[109]⟩, ⟨#[107]⟩, ⟨#[77]⟩, ⟨#[71]⟩] [(-9), (-6), (-3), 3, 6, 9] 0 ((i + 1 : Nat) : Int)) (triOk X) →
      EvP (fun k => spec_l20Short.l0 k (bs s) [(⟨#[110]⟩ : ByteArray), ⟨#[194, 181]⟩, ⟨#[109]⟩, ⟨#[107]⟩, ⟨#[77]⟩, ⟨#[71]⟩] [(-9), (-6), (-3), 3, 6, 9] 0 (i : Int)) (triOk (if (pre hd s).2 = true then shortEnd up (pre hd s).1 else X)) := by
    intro i hd up X hi hh hu H
    refine EvP.succ ?_
    simp only [spec_l20Short.l0]
    rw [hh, hu, begins_eq]
    simp only [Option.bind_some]
    refine EvP.pos (by simp; omega) (EvP.pos (by omega) ?_)
    by_cases h : (pre hd s).2 = true
    · rw [if_pos h]
      exact EvP.pos h (EvP.pos (by simp; omega) (fin up _))
    · rw [if_neg h, w64 (by omega) (by omega)]
      exact EvP.neg h H
  unfold spec_l20Short.f shortU
  refine go 0 [110] (-9) _ (by decide) rfl rfl ?_
  refine go 1 [194, 181] (-6) _ (by decide) rfl rfl ?_
  refine go 2 [109] (-3) _ (by decide) rfl rfl ?_
  refine go 3 [107] 3 _ (by decide) rfl rfl ?_
  refine go 4 [77] 6 _ (by decide) rfl rfl ?_
  refine go 5 [71] 9 _ (by decide) rfl rfl ?_
  refine EvP.succ ?_
  simp only [spec_l20Short.l0]
  exact EvP.neg (by decide) (fin 0 s)
theorem bs_get (l : List UInt8) (i : Nat) : (bs l).get! i = l.getD i 0 := by
  unfold bs ByteArray.get!
  simp [List.getD_eq_getElem?_getD]
  rfl
def shOk (o : Option (Int × Int × Int)) (n p : Int) (r : Bool × Int × Int × Int × Int) : Prop := match o with | none => r.1 = false ∧ r.2.1 = n ∧ -100 ≤ r.2.2.1 ∧ r.2.2.1 ≤ 100 | some q => r = (true, n, p + q.1, q.2.1, q.2.2)
theorem dec_cons (c : UInt8) (t : List UInt8) : Lib.decodeGo (bs (c :: t)) = Lib.decodeN (t.length + 1) c.toNat (t.getD 0 0).toNat (t.getD 1 0).toNat (t.getD 2 0).toNat := by
  unfold Lib.decodeGo
  rw [if_neg (by rw [bs_size]; simp), Lib.decode_at, bs_size, bs_get, bs_get, bs_get, bs_get]
  rfl
theorem dec_nil : Lib.decodeGo (bs []) = (65533, 0) := rfl
theorem dec_ascii {c : UInt8} (t : List UInt8) (h : c.toNat < 128) : Lib.decodeGo (bs (c :: t)) = (c.toNat, 1) := by
  rw [dec_cons]
  unfold Lib.decodeN
  rw [if_pos h]
theorem dec_high {c : UInt8} (t : List UInt8) (h : 128 ≤ c.toNat) : (128 ≤ (Lib.decodeGo (bs (c :: t))).1) ∧ ((Lib.decodeGo (bs (c :: t))).1 = 181 → c = 194 ∧ ∃ u, t = 181 :: u ∧ Lib.decodeGo (bs (c :: t)) = (181, 2)) := by
  rw [dec_cons]
  have hc := c.toNat_lt
  have h1 := (t.getD 0 0).toNat_lt
  obtain ⟨b1, hb1⟩ : ∃ b1, (t.getD 0 0).toNat = b1 := ⟨_, rfl⟩
  obtain ⟨b2, hb2⟩ : ∃ b2, (t.getD 1 0).toNat = b2 := ⟨_, rfl⟩
  obtain ⟨b3, hb3⟩ : ∃ b3, (t.getD 2 0).toNat = b3 := ⟨_, rfl⟩
  obtain ⟨b0, hb0⟩ : ∃ b0, c.toNat = b0 := ⟨_, rfl⟩
  rw [hb1, hb2, hb3, hb0]
  rw [hb1] at h1
  rw [hb0] at hc h
  have two : b0 / 32 = 6 → 1 < t.length + 1 → b1 / 64 = 2 → b0 % 32 * 64 + b1 % 64 = 181 → c = 194 ∧ ∃ u, t = 181 :: u := by
    intro e1 e2 e3 e4
    have e5 : b0 = 194 := by omega
    have e6 : b1 = 181 := by omega
    refine ⟨u8_ext (by rw [hb0, e5]; rfl), ?_⟩
    cases t with
    | nil => simp at e2
    | cons a u =>
      have : a.toNat = 181 := by rw [← e6, ← hb1]; rfl
      have ea : a = 181 := u8_ext (by rw [this]; rfl)
      exact ⟨u, by rw [ea]⟩
  unfold Lib.decodeN
  rw [if_neg (by omega)]
  split
  · rename_i e
    split
    · rename_i e4
      refine ⟨by simp only; omega, fun hr => ?_⟩
      simp only at hr
      obtain ⟨x1, u, x2⟩ := two e.1 e.2.1 e.2.2 hr
      exact ⟨x1, u, x2, by rw [hr]⟩
    · exact ⟨by decide, fun hr => absurd hr (by decide)⟩
  · split
    · split
      · rename_i e
        refine ⟨by simp only; omega, fun hr => ?_⟩
        simp only at hr
        omega
      · exact ⟨by decide, fun hr => absurd hr (by decide)⟩
    · split
      · split
        · rename_i e
          refine ⟨by simp only; omega, fun hr => ?_⟩
          simp only at hr
          omega
        · exact ⟨by decide, fun hr => absurd hr (by decide)⟩
      · exact ⟨by decide, fun hr => absurd hr (by decide)⟩
theorem iShort_j1 (l : List UInt8) (n p up : Int) (h : -100 ≤ p + up ∧ p + up ≤ 100) : EvP (fun k => impl_shortUnit.j1 k (bs l) n (p + up) 0 0) (shOk (shortEnd up l) n p) := by
  refine EvP.succ ?_
  simp only [impl_shortUnit.j1]
  rw [bs_toList]
  by_cases h1 : l = [86]
  · have e : shortEnd up l = some (up, 1, 0) := by unfold shortEnd; rw [if_pos h1]
    rw [e]; exact EvP.pos h1 (EvP.now rfl)
  · refine EvP.neg h1 ?_
    by_cases h2 : l = [115]
    · have e : shortEnd up l = some (up, 0, 1) := by unfold shortEnd; rw [if_neg h1, if_pos h2]
      rw [e]; exact EvP.pos h2 (EvP.now rfl)
    · refine EvP.neg h2 ?_
      by_cases h3 : l = [72, 122]
      · have e : shortEnd up l = some (up, 0, -1) := by unfold shortEnd; rw [if_neg h1, if_neg h2, if_pos h3]
        rw [e]; exact EvP.pos h3 (EvP.now rfl)
      · have e : shortEnd up l = none := by unfold shortEnd; rw [if_neg h1, if_neg h2, if_neg h3]
        rw [e]; exact EvP.neg h3 (EvP.now ⟨rfl, rfl, h.1, h.2⟩)
theorem pre2_cons (u : List UInt8) : pre [194, 181] (194 :: 181 :: u) = (u, true) := by simp [pre]
theorem pre2_no {s : List UInt8} (h : ∀ u, s ≠ 194 :: 181 :: u) : (pre [194, 181] s).2 = false := by
  unfold pre
  cases s with
  | nil => rfl
  | cons a t =>
    cases t with
    | nil => simp
    | cons b u =>
      have : ¬ (a = 194 ∧ b = 181) := fun e => h u (by rw [e.1, e.2])
      simp only [List.length_cons, List.length_nil, Nat.zero_add, Nat.reduceAdd, List.take_succ_cons, List.take_zero, List.cons.injEq, and_true]
      rw [if_neg this]
theorem short_head (s l : List UInt8) (up : Int) (j : Nat) (r : Int) (hs : s.length ≤ 1048576) (hd : Lib.decodeGo (bs s) = (r.toNat, j)) (hr : 0 ≤ r) (hr2 : r ≠ 65533) (hp : prefixAt r = (up, true)) (hj : 1 ≤ j ∧ j ≤ s.length) (hl : s.drop j = l) (n p : Int) (hb : -50 ≤ p ∧ p ≤ 50) (hu : -9 ≤ up ∧ up ≤ 9) :
    EvP (fun k => impl_shortUnit.f k n p 0 0 (bs s)) (shOk (shortEnd up l) n p) := by
  unfold impl_shortUnit.f utf8_DecodeRuneInString.f strconv_log10Pow2.f
  rw [hd]
  simp only [Option.bind_some]
  rw [show ((r.toNat : Nat) : Int) = r by omega, hp]
  simp only
  refine EvP.pos trivial (EvP.pos (by omega) (EvP.succ ?_))
  simp only [impl_shortUnit.j0]
  refine EvP.pos (by simpa using hr2) (EvP.pos (by omega) (EvP.pos (by rw [bs_size]; omega) ?_))
  rw [bs_extract, bs_size, w64 (by omega) (by omega)]
  simp only [Int.toNat_natCast, List.take_length]
  rw [hl]
  exact iShort_j1 l n p up (by omega)
theorem short_none (s : List UInt8) (r : Int) (j : Nat) (hd : Lib.decodeGo (bs s) = (r.toNat, j)) (hr : 0 ≤ r) (hp : prefixAt r = (0, false)) (n p : Int) (hb : -50 ≤ p ∧ p ≤ 50) :
    EvP (fun k => impl_shortUnit.f k n p 0 0 (bs s)) (shOk (shortEnd 0 s) n p) := by
  unfold impl_shortUnit.f utf8_DecodeRuneInString.f strconv_log10Pow2.f
  rw [hd]
  simp only [Option.bind_some]
  rw [show ((r.toNat : Nat) : Int) = r by omega, hp]
  simp only
  refine EvP.neg (by decide) (EvP.succ ?_)
  simp only [impl_shortUnit.j0]
  refine EvP.neg (by decide) ?_
  have := iShort_j1 s n p 0 (by omega)
  rwa [Int.add_zero] at this
theorem iShort_ev (s : List UInt8) (hs : s.length ≤ 1048576) (n p : Int) (hb : -50 ≤ p ∧ p ≤ 50) : EvP (fun k => impl_shortUnit.f k n p 0 0 (bs s)) (shOk (shortU s) n p) := by
  cases s with
  | nil =>
    have e : shortU [] = shortEnd 0 [] := by simp [shortU, pre1_nil, pre2_no]
    rw [e]
    exact short_none [] 65533 0 dec_nil (by decide) (by decide) n p hb
  | cons c t =>
    have one : ∀ (x : UInt8) (up : Int), x.toNat < 128 → prefixAt (x.toNat : Int) = (up, true) → -9 ≤ up ∧ up ≤ 9 → c = x → EvP (fun k => impl_shortUnit.f k n p 0 0 (bs (c :: t))) (shOk (shortEnd up t) n p) := by
      intro x up hx hp hu hc
      subst hc
      exact short_head (c :: t) t up 1 (c.toNat : Int) hs (by rw [dec_ascii t hx]; simp) (by omega) (by omega) hp ⟨Nat.le_refl _, by simp⟩ rfl n p hb hu
    have no2 : c ≠ 194 → (pre [194, 181] (c :: t)).2 = false := fun h => pre2_no (fun u e => h (by injection e))
    have hsz : (c :: t).length ≤ 1048576 := hs
    by_cases c110 : c = 110
    · have e : shortU (c :: t) = shortEnd (-9) t := by unfold shortU; simp [pre1_cons, c110]
      rw [e]; exact one 110 (-9) (by decide) (by decide) (by decide) c110
    · by_cases c109 : c = 109
      · have e : shortU (c :: t) = shortEnd (-3) t := by unfold shortU; rw [no2 (by rw [c109]; decide)]; simp [pre1_cons, c109]
        rw [e]; exact one 109 (-3) (by decide) (by decide) (by decide) c109
      · by_cases c107 : c = 107
        · have e : shortU (c :: t) = shortEnd 3 t := by unfold shortU; rw [no2 (by rw [c107]; decide)]; simp [pre1_cons, c107]
          rw [e]; exact one 107 3 (by decide) (by decide) (by decide) c107
        · by_cases c77 : c = 77
          · have e : shortU (c :: t) = shortEnd 6 t := by unfold shortU; rw [no2 (by rw [c77]; decide)]; simp [pre1_cons, c77]
            rw [e]; exact one 77 6 (by decide) (by decide) (by decide) c77
          · by_cases c71 : c = 71
            · have e : shortU (c :: t) = shortEnd 9 t := by unfold shortU; rw [no2 (by rw [c71]; decide)]; simp [pre1_cons, c71]
              rw [e]; exact one 71 9 (by decide) (by decide) (by decide) c71
            · by_cases hmu : ∃ u, (c :: t) = 194 :: 181 :: u
              · obtain ⟨u, hu⟩ := hmu
                have e : shortU (c :: t) = shortEnd (-6) u := by
                  rw [hu]
                  unfold shortU
                  rw [pre2_cons]
                  simp [pre1_cons]
                rw [e, hu]
                rw [hu] at hsz
                have hd := dec_high (c := 194) (181 :: u) (by decide)
                have hd2 : Lib.decodeGo (bs (194 :: 181 :: u)) = (181, 2) := by
                  rw [dec_cons]
                  unfold Lib.decodeN
                  simp
                exact short_head (194 :: 181 :: u) u (-6) 2 181 hsz hd2 (by decide) (by decide) (by decide) ⟨by decide, by simp⟩ rfl n p hb (by decide)
              · have nomu : ∀ u, (c :: t) ≠ 194 :: 181 :: u := fun u e => hmu ⟨u, e⟩
                have e : shortU (c :: t) = shortEnd 0 (c :: t) := by
                  unfold shortU
                  rw [pre2_no nomu]
                  simp [pre1_cons, c110, c109, c107, c77, c71]
                rw [e]
                obtain ⟨R, hR⟩ : ∃ R, (Lib.decodeGo (bs (c :: t))).1 = R := ⟨_, rfl⟩
                have hne : R ≠ 71 ∧ R ≠ 77 ∧ R ≠ 107 ∧ R ≠ 109 ∧ R ≠ 110 ∧ R ≠ 181 := by
                  have tn : ∀ (x : UInt8), c ≠ x → c.toNat ≠ x.toNat := fun x h e => h (u8_ext e)
                  by_cases ha : c.toNat < 128
                  · rw [dec_ascii t ha] at hR
                    simp only at hR
                    have a1 := tn 71 c71; have a2 := tn 77 c77; have a3 := tn 107 c107; have a4 := tn 109 c109; have a5 := tn 110 c110
                    have b1 : (71 : UInt8).toNat = 71 := rfl; have b2 : (77 : UInt8).toNat = 77 := rfl; have b3 : (107 : UInt8).toNat = 107 := rfl; have b4 : (109 : UInt8).toNat = 109 := rfl; have b5 : (110 : UInt8).toNat = 110 := rfl
                    omega
                  · obtain ⟨h1, h2⟩ := dec_high (c := c) t (by omega)
                    rw [hR] at h1 h2
                    refine ⟨by omega, by omega, by omega, by omega, by omega, fun h => ?_⟩
                    obtain ⟨x1, u, x2, _⟩ := h2 h
                    exact nomu u (by rw [x1, x2])
                refine short_none (c :: t) (R : Int) (Lib.decodeGo (bs (c :: t))).2 (by rw [Int.toNat_natCast, ← hR]) (by omega) ?_ n p hb
                unfold prefixAt
                obtain ⟨n1, n2, n3, n4, n5, n6⟩ := hne
                rw [if_neg (by omega), if_neg (by omega), if_neg (by omega), if_neg (by omega), if_neg (by omega), if_neg (by omega)]
def bareGo : Nat → Int → Int → Int × Int
  | 0, n, p => (n, p)
  | d + 1, n, p => if n % 10 = 0 then bareGo d (n / 10) (p + 1) else (n, p)
def rightOf (n p v s : Int) : Int × Int × Int × Int × Bool :=
  if n = 0 then (if qtyB 0 0 v s = true then (0, 0, v, s, true) else (0, 0, 0, 0, false))
  else if qtyB (bareGo 20 n p).1 (bareGo 20 n p).2 v s = true then ((bareGo 20 n p).1, (bareGo 20 n p).2, v, s, true) else (0, 0, 0, 0, false)
theorem tdiv10 {n : Int} (h : n % 10 = 0) : Int.tdiv n 10 = n / 10 := Int.tdiv_eq_ediv_of_dvd (Int.dvd_of_emod_eq_zero h)
theorem abs10 {n : Int} {d : Nat} (h : n % 10 = 0) (h0 : n ≠ 0) (hd : -(10 : Int) ^ (d + 1) < n ∧ n < 10 ^ (d + 1)) : n / 10 ≠ 0 ∧ -(10 : Int) ^ d < n / 10 ∧ n / 10 < 10 ^ d := by
  have e : (10 : Int) ^ (d + 1) = 10 * 10 ^ d := by rw [Int.pow_succ]; omega
  rw [e] at hd
  obtain ⟨q, hq⟩ : ∃ q : Int, (10 : Int) ^ d = q := ⟨_, rfl⟩
  rw [hq] at hd ⊢
  omega
theorem qtyB_iff {n p v s : Int} : qtyB n p v s = true ↔ (-1000000000 ≤ n ∧ n ≤ 1000000000) ∧ (n % 10 ≠ 0 ∨ n = 0 ∧ p = 0) ∧ (-30 ≤ p ∧ p ≤ 30) ∧ (-9 ≤ v ∧ v ≤ 9) ∧ (-9 ≤ s ∧ s ≤ 9) := by unfold qtyB; simp
theorem l1In_eq (a b c : Int) : spec_l1In.f a b c = some (decide (b ≤ a) && decide (a ≤ c)) := by
  unfold spec_l1In.f
  by_cases h : a ≥ b
  · rw [if_pos h]; simp [show b ≤ a from h]
  · rw [if_neg h]; simp [show ¬ b ≤ a from h]
theorem l5Sample_eq (a : Int) : spec_l5Sample.f a = some (decide (-1000000000 ≤ a ∧ a ≤ 1000000000)) := by unfold spec_l5Sample.f; rw [l1In_eq]; simp
theorem sQtyOk_ev (n p v s : Int) : Ev (fun k => spec_QtyOk.f k n p v s) (qtyB n p v s) := by
  have bad : Ev (fun k => spec_QtyOk.j0 k true n p v s) false := by
    refine Ev.succ ?_
    simp only [spec_QtyOk.j0]
    exact Ev.pos trivial (Ev.some_ rfl)
  unfold spec_QtyOk.f
  simp only [l5Sample_eq, l1In_eq, Option.bind_some]
  by_cases h1 : -1000000000 ≤ n ∧ n ≤ 1000000000
  · refine Ev.pos (by simp [h1]) ?_
    by_cases h2 : -9 ≤ v ∧ v ≤ 9
    · refine Ev.pos (by simp [h2]) ?_
      by_cases h3 : -9 ≤ s ∧ s ≤ 9
      · refine Ev.pos (by simp [h3]) ?_
        by_cases h4 : -30 ≤ p ∧ p ≤ 30
        · rw [show (!(decide (-30 ≤ p) && decide (p ≤ 30))) = false by simp [h4]]
          refine Ev.succ ?_
          simp only [spec_QtyOk.j0]
          refine Ev.neg (by simp) ?_
          by_cases h5 : n = 0
          · exact Ev.pos h5 (Ev.some_ (by unfold qtyB; rw [Bool.eq_iff_iff]; simp; omega))
          · refine Ev.neg h5 (Ev.some_ ?_)
            have := tmod10 n
            unfold qtyB; rw [Bool.eq_iff_iff]; simp; omega
        · rw [show (!(decide (-30 ≤ p) && decide (p ≤ 30))) = true by simp; omega]
          exact bad.to (by unfold qtyB; symm; simp; omega)
      · exact Ev.neg (by simp; omega) (bad.to (by unfold qtyB; symm; simp; omega))
    · exact Ev.neg (by simp; omega) (bad.to (by unfold qtyB; symm; simp; omega))
  · exact Ev.neg (by simp; omega) (bad.to (by unfold qtyB; symm; simp; omega))
theorem l20Qty_l0 (v s : Int) : ∀ (d : Nat) (n p : Int), n ≠ 0 → -(10 : Int) ^ d < n ∧ n < 10 ^ d → -9000000000000000000 ≤ n ∧ n ≤ 9000000000000000000 → -1000 ≤ p → p + d ≤ 1000 → Ev (fun k => spec_l20Qty.l0 k n p v s) (if qtyB (bareGo d n p).1 (bareGo d n p).2 v s = true then ((bareGo d n p).1, (bareGo d n p).2, v, s, true) else (0, 0, 0, 0, false)) := by
  intro d
  induction d with
  | zero => intro n p h0 hd; simp at hd; omega
  | succ d ih =>
    intro n p h0 hd hb hp hp2
    have t := tmod10 n
    by_cases h : n % 10 = 0
    · have a := abs10 h h0 hd
      have e : bareGo (d + 1) n p = bareGo d (n / 10) (p + 1) := by simp only [bareGo]; rw [if_pos h]
      rw [e]
      refine Ev.succ ?_
      simp only [spec_l20Qty.l0]
      rw [tdiv10 h, w64 (n := n / 10) (by omega) (by omega), w64 (n := p + 1) (by omega) (by omega)]
      exact Ev.neg h0 (Ev.pos (t.2 h) (ih (n / 10) (p + 1) a.1 a.2 (by omega) (by omega) (by omega)))
    · have e : bareGo (d + 1) n p = (n, p) := by simp only [bareGo]; rw [if_neg h]
      rw [e]
      refine Ev.succ ?_
      simp only [spec_l20Qty.l0]
      exact Ev.neg h0 (Ev.neg (fun hh => h (t.1 hh)) (Ev.next (sQtyOk_ev n p v s) (Ev.cond (fun _ => Ev.some_ rfl) (fun _ => Ev.some_ rfl))))
theorem l20Qty_ev (n p v s : Int) (hn : -9000000000000000000 ≤ n ∧ n ≤ 9000000000000000000) (hp : -900 ≤ p ∧ p ≤ 900) : Ev (fun k => spec_l20Qty.f k n p v s) (rightOf n p v s) := by
  unfold spec_l20Qty.f rightOf
  by_cases h : n = 0
  · subst h
    rw [if_pos rfl]
    refine Ev.pos rfl (Ev.succ ?_)
    simp only [spec_l20Qty.j0]
    refine Ev.succ ?_
    simp only [spec_l20Qty.l0]
    exact Ev.pos trivial (Ev.next (sQtyOk_ev 0 0 v s) (Ev.cond (fun _ => Ev.some_ rfl) (fun _ => Ev.some_ rfl)))
  · rw [if_neg h]
    refine Ev.neg h (Ev.succ ?_)
    simp only [spec_l20Qty.j0]
    exact l20Qty_l0 v s 20 n p h (by omega) hn (by omega) (by omega)
theorem sample_eq (a : Int) : impl_sample.f a = some (decide (-1000000000 ≤ a ∧ a ≤ 1000000000)) := by
  unfold impl_sample.f
  by_cases h : a ≥ -1000000000 <;> simp [h]
theorem iQtyOk_eq (n p v s : Int) : impl_QtyOk.f n p v s = some (qtyB n p v s) := by
  unfold impl_QtyOk.f
  simp only [sample_eq, to_eq, Option.bind_some]
  have h10 := tmod10 n
  have fin : (if (decide (-30 ≤ p) && decide (p ≤ 30)) = true then (if (decide (-9 ≤ v) && decide (v ≤ 9)) = true then some (decide (-9 ≤ s) && decide (s ≤ 9)) else some false) else some false) = some (decide ((-30 ≤ p ∧ p ≤ 30) ∧ (-9 ≤ v ∧ v ≤ 9) ∧ (-9 ≤ s ∧ s ≤ 9))) := by
    by_cases h1 : -30 ≤ p ∧ p ≤ 30
    · rw [if_pos (by simp [h1])]
      by_cases h2 : -9 ≤ v ∧ v ≤ 9
      · rw [if_pos (by simp [h2])]; simp [h1, h2]
      · rw [if_neg (by simp; omega)]; symm; simp; omega
    · rw [if_neg (by simp; omega)]; symm; simp; omega
  rw [fin]
  unfold qtyB
  by_cases h1 : -1000000000 ≤ n ∧ n ≤ 1000000000
  · rw [if_pos (by simp [h1])]
    by_cases h2 : Int.tmod n 10 = 0
    · rw [if_pos h2]
      by_cases h3 : n = 0
      · rw [if_pos h3]
        by_cases h4 : p = 0
        · rw [if_pos h4, Option.some.injEq, decide_eq_decide]; omega
        · rw [if_neg h4, Option.some.injEq]; symm; simp only [decide_eq_false_iff_not]; omega
      · rw [if_neg h3, Option.some.injEq]; symm; simp only [decide_eq_false_iff_not]; omega
    · rw [if_neg h2, Option.some.injEq, decide_eq_decide]; omega
  · rw [if_neg (by simp; omega), Option.some.injEq]; symm; simp only [decide_eq_false_iff_not]; omega
theorem ibare_l0 (v s : Int) : ∀ (d : Nat) (n p : Int), n ≠ 0 → -(10 : Int) ^ d < n ∧ n < 10 ^ d → -9000000000000000000 ≤ n ∧ n ≤ 9000000000000000000 → -1000 ≤ p → p + d ≤ 1000 → Ev (fun k => impl_bare.l0 k n p v s) ((bareGo d n p).1, (bareGo d n p).2, v, s) := by
  intro d
  induction d with
  | zero => intro n p h0 hd; simp at hd; omega
  | succ d ih =>
    intro n p h0 hd hb hp hp2
    have t := tmod10 n
    refine Ev.succ ?_
    simp only [impl_bare.l0, bareGo]
    by_cases h : n % 10 = 0
    · have a := abs10 h h0 hd
      rw [if_pos h, tdiv10 h, w64 (n := n / 10) (by omega) (by omega), w64 (n := p + 1) (by omega) (by omega)]
      exact Ev.pos (t.2 h) (ih (n / 10) (p + 1) a.1 a.2 (by omega) (by omega) (by omega))
    · rw [if_neg h]; exact Ev.neg (fun hh => h (t.1 hh)) (Ev.some_ rfl)
def unitU (rest : List UInt8) : Option (Int × Int × Int) := if rest = [] then some (0, 0, 0) else if (pre [32] rest).2 = true then (longU (pre [32] rest).1).map (fun q => (0, q.1, q.2)) else shortU rest
def qRead (a : List UInt8) : Int × Int × Int × Int × Bool :=
  match numR (pre [45] a).1 with
  | none => (0, 0, 0, 0, false)
  | some (n, b, rest) => match unitU rest with
    | none => (0, 0, 0, 0, false)
    | some (up, v, c) => rightOf (sgnOf a * (n : Int)) (-(b : Int) + up) v c
theorem sgnOf_cases (a : List UInt8) : sgnOf a = 1 ∨ sgnOf a = -1 := by
  unfold sgnOf
  split
  · right; rfl
  · left; rfl
theorem numR_bd {s : List UInt8} {n b : Nat} {rest : List UInt8} (h : numR s = some (n, b, rest)) : n < 1000000000 ∧ b ≤ 9 ∧ rest.length ≤ s.length := by
  have hl := tw_len s
  have hd := congrArg List.length (List.takeWhile_append_dropWhile (p := dgt) (l := s))
  simp only [List.length_append] at hd
  have lt9 : ∀ l : List UInt8, (∀ b ∈ l, dgt b = true) → l.length ≤ 9 → dv 0 l < 1000000000 := by
    intro l h1 h2
    have h3 := dv_lt l 0 h1
    have h4 : 10 ^ l.length ≤ 10 ^ 9 := Nat.pow_le_pow_right (by decide) h2
    have e9 : (10 : Nat) ^ 9 = 1000000000 := by decide
    omega
  unfold numR at h
  split at h
  · cases h
  · split at h
    · split at h
      · cases h
      · simp only [Option.some.injEq, Prod.mk.injEq] at h
        obtain ⟨h1, h2, h3⟩ := h
        exact ⟨by rw [← h1]; exact lt9 _ (tw_all s) (by omega), by omega, by rw [← h3]; simp⟩
    · rename_i c T hR
      rw [hR] at hd
      simp only [List.length_cons] at hd
      have hT := tw_len T
      have hdT := congrArg List.length (List.takeWhile_append_dropWhile (p := dgt) (l := T))
      simp only [List.length_append] at hdT
      split at h
      · split at h
        · cases h
        · split at h
          · cases h
          · simp only [Option.some.injEq, Prod.mk.injEq] at h
            obtain ⟨h1, h2, h3⟩ := h
            refine ⟨?_, by omega, by rw [← h3]; omega⟩
            rw [← h1]
            refine lt9 _ ?_ (by simp; omega)
            intro x hx
            rcases List.mem_append.1 hx with h | h
            · exact tw_all s x h
            · exact tw_all T x h
      · split at h
        · cases h
        · simp only [Option.some.injEq, Prod.mk.injEq] at h
          obtain ⟨h1, h2, h3⟩ := h
          exact ⟨by rw [← h1]; exact lt9 _ (tw_all s) (by omega), by omega, by rw [← h3]; simp; omega⟩
theorem shortU_up {s : List UInt8} {q : Int × Int × Int} (h : shortU s = some q) : -9 ≤ q.1 ∧ q.1 ≤ 9 := by
  have e : ∀ (up : Int) (l : List UInt8), -9 ≤ up ∧ up ≤ 9 → shortEnd up l = some q → -9 ≤ q.1 ∧ q.1 ≤ 9 := by
    intro up l hu h
    unfold shortEnd at h
    repeat' split at h
    all_goals first
      | (rw [← Option.some.inj h]; exact hu)
      | cases h
  unfold shortU at h
  repeat' split at h
  all_goals exact e _ _ (by decide) h
theorem sRead_ev (a : List UInt8) (hs : a.length ≤ 1048576) : Ev (fun k => spec_ReadQty.f k (bs a)) (qRead a) := by
  refine EvP.ev ?_
  unfold spec_ReadQty.f
  refine EvP.next (number_ev a hs) ?_
  intro r hr
  unfold numOk at hr
  unfold qRead
  cases hn : numR (pre [45] a).1 with
  | none =>
    rw [hn] at hr
    simp only at hr
    exact EvP.neg (by rw [hr]; decide) (EvP.now rfl)
  | some x =>
    obtain ⟨n, b, rest⟩ := x
    rw [hn] at hr
    simp only at hr
    subst hr
    obtain ⟨hb1, hb2, hb3⟩ := numR_bd hn
    have hsg := sgnOf_cases a
    have hN : -1000000000 ≤ sgnOf a * (n : Int) ∧ sgnOf a * (n : Int) ≤ 1000000000 := by rcases hsg with e | e <;> rw [e] <;> omega
    simp only
    refine EvP.pos trivial ?_
    rw [bs_toList]
    unfold unitU
    by_cases h0 : rest = []
    · have e : (if rest = [] then some ((0 : Int), (0 : Int), (0 : Int)) else if (pre [32] rest).2 = true then (longU (pre [32] rest).1).map (fun q => (0, q.1, q.2)) else shortU rest) = some (0, 0, 0) := if_pos h0
      rw [e]
      simp only
      refine EvP.pos h0 (EvP.next (l20Qty_ev _ _ _ _ (by omega) (by omega)).p ?_)
      intro q hq
      subst hq
      rw [Int.add_zero]
      exact EvP.now rfl
    · rw [if_neg h0]
      refine EvP.neg h0 ?_
      rw [show (⟨#[32]⟩ : ByteArray) = bs [32] from rfl, begins_eq]
      simp only [Option.bind_some]
      by_cases h32 : (pre [32] rest).2 = true
      · have e : (if (pre [32] rest).2 = true then (longU (pre [32] rest).1).map (fun q => ((0 : Int), q.1, q.2)) else shortU rest) = (longU (pre [32] rest).1).map (fun q => (0, q.1, q.2)) := if_pos h32
        rw [e]
        refine EvP.pos h32 (EvP.next (sLong_ev _) ?_)
        intro q hq
        unfold pairOk at hq
        cases hl : longU (pre [32] rest).1 with
        | none =>
          rw [hl] at hq
          simp only at hq
          exact EvP.neg (by rw [hq]; decide) (EvP.now rfl)
        | some y =>
          rw [hl] at hq
          simp only at hq
          subst hq
          simp only [Option.map_some]
          refine EvP.pos trivial (EvP.next (l20Qty_ev _ _ _ _ (by omega) (by omega)).p ?_)
          intro q hq
          subst hq
          rw [Int.add_zero]
          exact EvP.now rfl
      · have e : (if (pre [32] rest).2 = true then (longU (pre [32] rest).1).map (fun q => ((0 : Int), q.1, q.2)) else shortU rest) = shortU rest := if_neg h32
        rw [e]
        refine EvP.neg h32 (EvP.next (sShort_ev _) ?_)
        intro q hq
        unfold triOk at hq
        cases hl : shortU rest with
        | none =>
          rw [hl] at hq
          simp only at hq
          exact EvP.neg (by rw [hq]; decide) (EvP.now rfl)
        | some y =>
          rw [hl] at hq
          simp only at hq
          subst hq
          obtain ⟨up, v, c⟩ := y
          have hup := shortU_up hl
          simp only at hup ⊢
          rw [w64 (by omega) (by omega)]
          refine EvP.pos trivial (EvP.next (l20Qty_ev _ _ _ _ (by omega) (by omega)).p ?_)
          intro q hq
          subst hq
          exact EvP.now rfl
theorem iRead_j2 (n p v c : Int) (hn : -1000000000 ≤ n ∧ n ≤ 1000000000) (hp : -900 ≤ p ∧ p ≤ 900) : Ev (fun k => impl_ReadQty.j2 k true n p v c) (rightOf n p v c) := by
  refine Ev.succ ?_
  simp only [impl_ReadQty.j2]
  unfold impl_bare.f rightOf
  by_cases h : n = 0
  · subst h
    rw [if_pos rfl]
    refine Ev.next (a := (0, 0, v, c)) (Ev.pos rfl (Ev.some_ rfl)) (Ev.pos trivial ?_)
    simp only [iQtyOk_eq, Option.bind_some]
    exact Ev.cond (fun _ => Ev.some_ rfl) (fun _ => Ev.some_ rfl)
  · rw [if_neg h]
    refine Ev.next (Ev.neg h (ibare_l0 v c 20 n p h (by omega) (by omega) (by omega) (by omega))) (Ev.pos trivial ?_)
    simp only [iQtyOk_eq, Option.bind_some]
    exact Ev.cond (fun _ => Ev.some_ rfl) (fun _ => Ev.some_ rfl)
theorem iRead_j2f (n p v c : Int) (hn : -1000000000 ≤ n ∧ n ≤ 1000000000) (hp : -900 ≤ p ∧ p ≤ 900) : Ev (fun k => impl_ReadQty.j2 k false n p v c) (0, 0, 0, 0, false) := by
  refine Ev.succ ?_
  simp only [impl_ReadQty.j2]
  unfold impl_bare.f
  by_cases h : n = 0
  · subst h
    exact Ev.next (a := (0, 0, v, c)) (Ev.pos rfl (Ev.some_ rfl)) (Ev.neg (by decide) (Ev.some_ rfl))
  · exact Ev.next (Ev.neg h (ibare_l0 v c 20 n p h (by omega) (by omega) (by omega) (by omega))) (Ev.neg (by decide) (Ev.some_ rfl))
theorem iRead_j1 (rest : List UInt8) (hr : rest.length ≤ 1048576) (n p : Int) (hn : -1000000000 ≤ n ∧ n ≤ 1000000000) (hp : -9 ≤ p ∧ p ≤ 0) :
    EvP (fun k => impl_ReadQty.j1 k (bs rest) n p 0 0) (· = match unitU rest with | none => (0, 0, 0, 0, false) | some (up, v, c) => rightOf n (p + up) v c) := by
  refine EvP.succ ?_
  simp only [impl_ReadQty.j1]
  rw [show (⟨#[32]⟩ : ByteArray) = bs [32] from rfl, cutPrefix_eq]
  simp only [Option.bind_some]
  by_cases h32 : (pre [32] rest).2 = true
  · have h0 : rest ≠ [] := by intro e; rw [e, pre1_nil] at h32; cases h32
    have e : unitU rest = (longU (pre [32] rest).1).map (fun q => (0, q.1, q.2)) := by unfold unitU; rw [if_neg h0, if_pos h32]
    rw [e]
    refine EvP.pos h32 (EvP.next (iLong_ev _ (Nat.le_trans (pre_len _ _) hr) n p) ?_)
    intro q hq
    unfold longOk at hq
    cases hl : longU (pre [32] rest).1 with
    | none =>
      rw [hl] at hq
      simp only at hq
      obtain ⟨q1, q2, q3⟩ := hq
      rw [q1, q2, q3]
      exact (iRead_j2f n p _ _ hn (by omega)).p
    | some y =>
      rw [hl] at hq
      simp only at hq
      subst hq
      simp only [Option.map_some]
      rw [Int.add_zero]
      exact (iRead_j2 n p _ _ hn (by omega)).p
  · refine EvP.neg h32 ?_
    rw [bs_toList]
    by_cases h0 : rest = []
    · have e : unitU rest = some (0, 0, 0) := by unfold unitU; rw [if_pos h0]
      rw [e]
      simp only
      rw [Int.add_zero]
      exact EvP.pos h0 (iRead_j2 n p 0 0 hn (by omega)).p
    · have e : unitU rest = shortU rest := by unfold unitU; rw [if_neg h0, if_neg h32]
      rw [e]
      refine EvP.neg h0 (EvP.next (iShort_ev rest hr n p (by omega)) ?_)
      intro q hq
      unfold shOk at hq
      cases hl : shortU rest with
      | none =>
        rw [hl] at hq
        simp only at hq
        obtain ⟨q1, q2, q3, q4⟩ := hq
        rw [q1, q2]
        exact (iRead_j2f n _ _ _ hn (by omega)).p
      | some y =>
        rw [hl] at hq
        simp only at hq
        subst hq
        obtain ⟨up, v, c⟩ := y
        have hup := shortU_up hl
        simp only at hup ⊢
        exact (iRead_j2 n (p + up) v c hn (by omega)).p
theorem iRead_j0 (rest D : List UInt8) (ng : Bool) (b : Nat) (hr : rest.length ≤ 1048576) (hb : b ≤ 9) (hD : ∀ x ∈ D, dgt x = true) (hD0 : D ≠ []) (hD9 : D.length ≤ 9) :
    EvP (fun k => impl_ReadQty.j0 k (bs rest) ng (bs D) 0 (-(b : Int)) 0 0) (· = match unitU rest with | none => (0, 0, 0, 0, false) | some (up, v, c) => rightOf ((if ng = true then -1 else 1) * (dv 0 D : Int)) (-(b : Int) + up) v c) := by
  refine EvP.succ ?_
  simp only [impl_ReadQty.j0]
  have hlt : dv 0 D < 1000000000 := by
    have h3 := dv_lt D 0 hD
    have h4 : 10 ^ D.length ≤ 10 ^ 9 := Nat.pow_le_pow_right (by decide) hD9
    have e9 : (10 : Nat) ^ 9 = 1000000000 := by decide
    omega
  refine EvP.neg (by rw [bs_size]; omega) ?_
  rw [atoiNum_eq D hD hD0 hD9]
  simp only [Option.bind_some]
  cases ng with
  | true =>
    refine EvP.pos rfl ?_
    rw [w64 (by omega) (by omega), if_pos rfl, show (-1 : Int) * (dv 0 D : Int) = -(dv 0 D : Int) by omega]
    exact iRead_j1 rest hr _ _ (by omega) (by omega)
  | false =>
    refine EvP.neg (by decide) ?_
    rw [if_neg (by decide), Int.one_mul]
    exact iRead_j1 rest hr _ _ (by omega) (by omega)
theorem needless_eq (D : List UInt8) : impl_needless.f (bs D) = some (decide (D = [] ∨ (1 < D.length ∧ (D.getD 0 0).toNat = 48))) := by
  unfold impl_needless.f
  rw [bs_toList]
  by_cases h0 : D = []
  · rw [if_pos h0]; simp [h0]
  · rw [if_neg h0]
    have hb : bt (bs D) 0 = ((D.getD 0 0).toNat : Int) := by
      rw [show (0 : Int) = ((0 : Nat) : Int) from rfl, bt_bs]
    by_cases h1 : 1 < D.length
    · rw [if_pos (by rw [bs_size]; omega), if_pos (by rw [bs_size]; omega), hb, Option.some.injEq, Bool.eq_iff_iff]
      simp only [beq_iff_eq, decide_eq_true_eq]
      constructor
      · intro h; right; exact ⟨h1, by omega⟩
      · intro h
        rcases h with h | h
        · exact absurd h h0
        · omega
    · rw [if_neg (by rw [bs_size]; omega), Option.some.injEq]
      symm
      rw [decide_eq_false_iff_not]
      intro h
      rcases h with h | h
      · exact h0 h
      · exact h1 h.1
theorem tw_head (s : List UInt8) (h : s.takeWhile dgt ≠ []) : (s.takeWhile dgt).getD 0 0 = s.getD 0 0 := by
  cases s with
  | nil => exact absurd rfl h
  | cons a t =>
    rw [List.takeWhile_cons] at h ⊢
    split at h
    · rename_i ha
      rw [if_pos ha]; rfl
    · exact absurd rfl h
theorem iRead_ev (a : List UInt8) (hs : a.length ≤ 1048576) : Ev (fun k => impl_ReadQty.f k (bs a)) (qRead a) := by
  refine EvP.ev ?_
  unfold impl_ReadQty.f
  rw [show (⟨#[45]⟩ : ByteArray) = bs [45] from rfl, cutPrefix_eq]
  simp only [Option.bind_some]
  obtain ⟨s, hsd⟩ : ∃ s, (pre [45] a).1 = s := ⟨_, rfl⟩
  obtain ⟨ng, hng⟩ : ∃ ng, (pre [45] a).2 = ng := ⟨_, rfl⟩
  have hsl : s.length ≤ 1048576 := by rw [← hsd]; exact Nat.le_trans (pre_len _ _) hs
  have hsgn : sgnOf a = if ng = true then -1 else 1 := by unfold sgnOf; rw [hng]
  unfold qRead
  rw [hsd, hng, hsgn]
  refine EvP.next (span_ev s hsl).p ?_
  intro q hq
  subst hq
  simp only
  rw [needless_eq]
  simp only [Option.bind_some]
  have hl := tw_len s
  have hlen := congrArg List.length (List.takeWhile_append_dropWhile (p := dgt) (l := s))
  simp only [List.length_append] at hlen
  unfold numR
  by_cases h0 : s.takeWhile dgt = [] ∨ (1 < (s.takeWhile dgt).length ∧ (s.getD 0 0).toNat = 48)
  · rw [if_pos h0]
    have h0' : s.takeWhile dgt = [] ∨ (1 < (s.takeWhile dgt).length ∧ ((s.takeWhile dgt).getD 0 0).toNat = 48) := by
      by_cases he : s.takeWhile dgt = []
      · exact Or.inl he
      · rw [tw_head s he]; exact h0
    exact EvP.pos (decide_eq_true h0') (EvP.now rfl)
  · rw [if_neg h0]
    have hD0 : s.takeWhile dgt ≠ [] := fun e => h0 (Or.inl e)
    have h0' : ¬ (s.takeWhile dgt = [] ∨ (1 < (s.takeWhile dgt).length ∧ ((s.takeWhile dgt).getD 0 0).toNat = 48)) := by
      rw [tw_head s hD0]; exact h0
    refine EvP.neg (by rw [decide_eq_false h0']; decide) ?_
    unfold strconv_Itoa_40.f
    rw [show (⟨#[46]⟩ : ByteArray) = bs [46] from rfl, cutPrefix_eq]
    simp only [Option.bind_some]
    have big : ∀ (rest D : List UInt8) (p : Int), 9 < D.length → EvP (fun k => impl_ReadQty.j0 k (bs rest) ng (bs D) 0 p 0 0) (· = (0, 0, 0, 0, false)) := by
      intro rest D p h
      refine EvP.succ ?_
      simp only [impl_ReadQty.j0]
      exact EvP.pos (by rw [bs_size]; omega) (EvP.now rfl)
    have plain : ∀ R : List UInt8, R.length ≤ s.length → EvP (fun k => impl_ReadQty.j0 k (bs R) ng (bs (s.takeWhile dgt)) 0 0 0 0) (· = match (if 9 < (s.takeWhile dgt).length then none else some (dv 0 (s.takeWhile dgt), 0, R) : Option (Nat × Nat × List UInt8)) with
        | none => (0, 0, 0, 0, false)
        | some (n, b, rest) => match unitU rest with
          | none => (0, 0, 0, 0, false)
          | some (up, v, c) => rightOf ((if ng = true then -1 else 1) * (n : Int)) (-(b : Int) + up) v c) := by
      intro R hR
      by_cases h9 : 9 < (s.takeWhile dgt).length
      · rw [if_pos h9]
        exact big R _ 0 h9
      · rw [if_neg h9]
        exact iRead_j0 R (s.takeWhile dgt) ng 0 (by omega) (by omega) (tw_all s) hD0 (by omega)
    cases hR : s.dropWhile dgt with
    | nil =>
      rw [pre1_nil]
      simp only
      exact EvP.neg (by decide) (plain [] (by simp))
    | cons c T =>
      rw [hR] at hlen
      simp only [List.length_cons] at hlen
      rw [pre1_cons]
      by_cases h46 : c = 46
      · have hc : c.toNat = 46 := by rw [h46]; rfl
        rw [if_pos h46]
        simp only
        rw [if_pos hc]
        refine EvP.pos trivial (EvP.next (span_ev T (by omega)).p ?_)
        intro q hq
        subst hq
        simp only
        rw [bs_toList]
        have hT := tw_len T
        have hTl := congrArg List.length (List.takeWhile_append_dropWhile (p := dgt) (l := T))
        simp only [List.length_append] at hTl
        by_cases hP : T.takeWhile dgt = []
        · have e : (if T.takeWhile dgt = [] then none else if 9 < (s.takeWhile dgt).length + (T.takeWhile dgt).length then none else some (dv 0 (s.takeWhile dgt ++ T.takeWhile dgt), (T.takeWhile dgt).length, T.dropWhile dgt) : Option (Nat × Nat × List UInt8)) = none := if_pos hP
          rw [e]
          exact EvP.pos hP (EvP.now rfl)
        · rw [bs_append]
          refine EvP.neg hP (EvP.pos (by rw [bs_size, bs_size]; omega) ?_)
          have hw : wrap64 (-(((bs (T.takeWhile dgt)).size : Nat) : Int)) = -(((T.takeWhile dgt).length : Nat) : Int) := by rw [bs_size]; exact w64 (by omega) (by omega)
          rw [hw]
          by_cases h9 : 9 < (s.takeWhile dgt).length + (T.takeWhile dgt).length
          · have e : (if T.takeWhile dgt = [] then none else if 9 < (s.takeWhile dgt).length + (T.takeWhile dgt).length then none else some (dv 0 (s.takeWhile dgt ++ T.takeWhile dgt), (T.takeWhile dgt).length, T.dropWhile dgt) : Option (Nat × Nat × List UInt8)) = none := by rw [if_neg hP, if_pos h9]
            rw [e]
            exact big _ _ _ (by simp; omega)
          · have e : (if T.takeWhile dgt = [] then none else if 9 < (s.takeWhile dgt).length + (T.takeWhile dgt).length then none else some (dv 0 (s.takeWhile dgt ++ T.takeWhile dgt), (T.takeWhile dgt).length, T.dropWhile dgt) : Option (Nat × Nat × List UInt8)) = some (dv 0 (s.takeWhile dgt ++ T.takeWhile dgt), (T.takeWhile dgt).length, T.dropWhile dgt) := by rw [if_neg hP, if_neg h9]
            rw [e]
            refine iRead_j0 (T.dropWhile dgt) (s.takeWhile dgt ++ T.takeWhile dgt) ng (T.takeWhile dgt).length (by omega) (by omega) ?_ (fun h => hD0 (List.append_eq_nil_iff.1 h).1) (by simp; omega)
            intro x hx
            rcases List.mem_append.1 hx with h | h
            · exact tw_all s x h
            · exact tw_all T x h
      · have hc : ¬ c.toNat = 46 := fun e => h46 (u8_ext (by rw [e]; rfl))
        rw [if_neg h46]
        simp only
        rw [if_neg hc]
        exact EvP.neg (by decide) (plain (c :: T) (by simp; omega))
theorem tw_app : ∀ (X rest : List UInt8), (∀ x ∈ X, dgt x = true) → (∀ c t, rest = c :: t → dgt c = false) → (X ++ rest).takeWhile dgt = X ∧ (X ++ rest).dropWhile dgt = rest := by
  intro X
  induction X with
  | nil =>
    intro rest _ h
    cases rest with
    | nil => exact ⟨rfl, rfl⟩
    | cons c t =>
      have := h c t rfl
      simp [List.takeWhile_cons, List.dropWhile_cons, this]
  | cons b l ih =>
    intro rest h h2
    have hb := h b List.mem_cons_self
    obtain ⟨e1, e2⟩ := ih rest (fun x hx => h x (List.mem_cons_of_mem _ hx)) h2
    simp only [List.cons_append]
    rw [List.takeWhile_cons, List.dropWhile_cons, if_pos hb, if_pos hb, e1, e2]
    exact ⟨rfl, rfl⟩
theorem dig_of {x : UInt8} (h : 48 ≤ x.toNat ∧ x.toNat ≤ 57) : dgt x = true := dgt_iff.2 h
theorem dd_head : ∀ (d a : Nat), a ≤ d → a ≠ 0 → ∃ c r, Lib.decDigits a = c :: r ∧ c.toNat ≠ 48 := by
  intro d
  induction d with
  | zero => intro a h h0; omega
  | succ d ih =>
    intro a h h0
    by_cases ha : a < 10
    · rw [dd_small ha]
      exact ⟨_, [], rfl, by simp; omega⟩
    · rw [dd_big ha]
      obtain ⟨c, r, e, hc⟩ := ih (a / 10) (by omega) (by omega)
      rw [e]
      exact ⟨c, r ++ [UInt8.ofNat (48 + a % 10)], rfl, hc⟩
theorem dv_dd : ∀ (d a : Nat), a ≤ d → dv 0 (Lib.decDigits a) = a := by
  intro d
  induction d with
  | zero =>
    intro a h
    rw [dd_small (by omega), show a = 0 by omega]
    rfl
  | succ d ih =>
    intro a h
    by_cases ha : a < 10
    · rw [dd_small ha]
      simp [dv]; omega
    · rw [dd_big ha, dv_snoc, ih (a / 10) (by omega)]
      have : (UInt8.ofNat (48 + a % 10)).toNat = 48 + a % 10 := by simp; omega
      rw [this]
      omega
theorem dv_zeros (acc : Nat) : ∀ k, dv acc (List.replicate k 48) = acc * 10 ^ k := by
  intro k
  induction k with
  | zero => simp [dv]
  | succ k ih =>
    rw [List.replicate_succ', dv_snoc, ih, Nat.pow_succ, Nat.mul_assoc]
    simp
theorem bareGo_pow : ∀ (k d : Nat) (n q : Int), n % 10 ≠ 0 → bareGo (k + (d + 1)) (n * 10 ^ k) q = (n, q + k) := by
  intro k
  induction k with
  | zero =>
    intro d n q h
    simp only [Nat.zero_add, Int.pow_zero, Int.mul_one, bareGo]
    rw [if_neg h]
    simp
  | succ k ih =>
    intro d n q h
    rw [show k + 1 + (d + 1) = (k + (d + 1)) + 1 by omega]
    have e : n * 10 ^ (k + 1) = n * 10 ^ k * 10 := by rw [Int.pow_succ, Int.mul_assoc]
    have eb : bareGo ((k + (d + 1)) + 1) (n * 10 ^ (k + 1)) q = if n * 10 ^ (k + 1) % 10 = 0 then bareGo (k + (d + 1)) (n * 10 ^ (k + 1) / 10) (q + 1) else (n * 10 ^ (k + 1), q) := rfl
    rw [eb, if_pos (by rw [e]; omega), e, Int.mul_ediv_cancel _ (by decide), ih d n (q + 1) h]
    simp; omega
theorem no42_unit (n : Int) (h : -9 ≤ n ∧ n ≤ 9) (h0 : n ≠ 0) : (42 : UInt8) ∉ (if n = 1 then [] else Lib.itoa n) ∧ upow (if n = 1 then [] else Lib.itoa n) = some n := by
  by_cases h1 : n = 1
  · rw [if_pos h1, h1]
    exact ⟨by simp, rfl⟩
  · rw [if_neg h1]
    have hu := upow_itoa n h h0 h1
    exact ⟨upow_no42 hu, hu⟩
theorem unit_eq (c : UInt8) (n : Int) (h0 : n ≠ 0) : sqUnit c n = c :: (if n = 1 then [] else Lib.itoa n) := by
  unfold sqUnit
  rw [if_neg h0]
  split <;> rfl
theorem dw_no : ∀ (l : List UInt8), (42 : UInt8) ∉ l → l.dropWhile (· != 42) = [] := by
  intro l
  induction l with
  | nil => intro _; rfl
  | cons a t ih =>
    intro h
    have ha : (a != 42) = true := by
      rw [bne_iff_ne]
      intro e
      exact h (by rw [e]; exact List.mem_cons_self)
    rw [List.dropWhile_cons, if_pos ha]
    exact ih (fun e => h (List.mem_cons_of_mem _ e))
theorem dw_star : ∀ (l t : List UInt8), (42 : UInt8) ∉ l → (l ++ 42 :: t).dropWhile (· != 42) = 42 :: t ∧ (l ++ 42 :: t).takeWhile (· != 42) = l := by
  intro l
  induction l with
  | nil => intro t _; simp [List.dropWhile_cons, List.takeWhile_cons]
  | cons a r ih =>
    intro t h
    have ha : (a != 42) = true := by
      rw [bne_iff_ne]
      intro e
      exact h (by rw [e]; exact List.mem_cons_self)
    obtain ⟨e1, e2⟩ := ih t (fun e => h (List.mem_cons_of_mem _ e))
    simp only [List.cons_append]
    rw [List.dropWhile_cons, List.takeWhile_cons, if_pos ha, if_pos ha, e1, e2]
    exact ⟨rfl, rfl⟩
theorem unitU_tail (v s : Int) (hv : -9 ≤ v ∧ v ≤ 9) (hs : -9 ≤ s ∧ s ≤ 9) : unitU (sqTail v s) = some (0, v, s) := by
  unfold sqTail
  by_cases v0 : v = 0
  · by_cases s0 : s = 0
    · rw [if_neg (by simp [v0]), if_neg (by simp [v0]), if_neg (by simp [s0]), v0, s0]
      unfold unitU
      rw [if_pos rfl]
    · rw [if_neg (by simp [v0]), if_neg (by simp [v0]), if_pos s0, unit_eq 115 s s0]
      obtain ⟨hn, hu⟩ := no42_unit s hs s0
      unfold unitU
      rw [if_neg (by simp), pre1_cons, if_pos rfl, if_pos rfl]
      unfold longU secU
      rw [dw_no _ (by simp [hn])]
      simp only
      rw [pre1_cons, if_pos rfl, if_pos rfl, if_pos rfl, hu, v0]
      rfl
  · obtain ⟨hnv, huv⟩ := no42_unit v hv v0
    by_cases s0 : s = 0
    · rw [if_neg (by simp [s0]), if_pos v0, unit_eq 86 v v0]
      unfold unitU
      rw [if_neg (by simp), pre1_cons, if_pos rfl, if_pos rfl]
      unfold longU
      rw [dw_no _ (by simp [hnv])]
      simp only
      have e1 : pre [115] (86 :: (if v = 1 then [] else Lib.itoa v)) = (86 :: (if v = 1 then [] else Lib.itoa v), false) := by
        rw [pre1_cons]
        exact if_neg (by decide)
      have e2 : pre [86] (86 :: (if v = 1 then [] else Lib.itoa v)) = ((if v = 1 then [] else Lib.itoa v), true) := by
        rw [pre1_cons]
        exact if_pos rfl
      rw [e1, e2]
      simp only [Bool.false_eq_true, if_false, if_true]
      rw [huv, s0]
      rfl
    · obtain ⟨hns, hus⟩ := no42_unit s hs s0
      rw [if_pos ⟨v0, s0⟩, unit_eq 86 v v0, unit_eq 115 s s0]
      unfold unitU
      rw [if_neg (by simp), List.cons_append, pre1_cons, if_pos rfl, if_pos rfl]
      unfold longU
      have h86 : (42 : UInt8) ∉ 86 :: (if v = 1 then [] else Lib.itoa v) := by simp [hnv]
      obtain ⟨e1, e2⟩ := dw_star _ (115 :: (if s = 1 then [] else Lib.itoa s)) h86
      rw [e1, e2]
      simp only
      rw [pre1_cons, if_pos rfl, if_pos rfl, huv]
      simp only [Option.bind_some]
      unfold secU
      rw [pre1_cons, if_pos rfl, if_pos rfl, hus]
      rfl
theorem tail_head (v s : Int) : ∀ c t, sqTail v s = c :: t → c = 32 := by
  intro c t h
  unfold sqTail at h
  split at h
  · injection h with h1 _; exact h1.symm
  · split at h
    · injection h with h1 _; exact h1.symm
    · split at h
      · injection h with h1 _; exact h1.symm
      · cases h
theorem numR_show (a : Nat) (p : Int) (t : List UInt8) (ha : a ≤ 1000000000) (hp : -30 ≤ p ∧ p ≤ 30) (h0 : a = 0 → p = 0) (ht : ∀ c r, t = c :: r → c = 32) (h9 : ¬ 9 < (sqDigits a p).length) :
    numR (sqPoint (sqDigits a p) p ++ t) = some (a * 10 ^ p.toNat, (-p).toNat, t) := by
  have hd := dd_len ha
  have hL := sqDigits_len a p ha hp
  have hM : ∀ x ∈ sqDigits a p, dgt x = true := fun x hx => dig_of (sqDigits_mem a p x hx)
  have ht2 : ∀ c r, t = c :: r → dgt c = false := fun c r h => by rw [ht c r h]; decide
  unfold sqPoint
  by_cases h : 0 ≤ p
  · rw [if_pos h]
    obtain ⟨e1, e2⟩ := tw_app (sqDigits a p) t hM ht2
    have hE : sqDigits a p = Lib.decDigits a ++ List.replicate p.toNat 48 := by unfold sqDigits; rw [if_pos h]
    have hv : dv 0 (sqDigits a p) = a * 10 ^ p.toNat := by rw [hE, dv_app, dv_dd a a (Nat.le_refl _), dv_zeros]
    unfold numR
    rw [e1, e2]
    have hz : ¬ (sqDigits a p = [] ∨ (1 < (sqDigits a p).length ∧ ((sqDigits a p ++ t).getD 0 0).toNat = 48)) := by
      intro hh
      rcases hh with hh | ⟨hh1, hh2⟩
      · rw [hh] at hL; simp at hL
      · by_cases a0 : a = 0
        · have p0 := h0 a0
          rw [hE, a0, p0, dd_small (by decide)] at hh1
          simp at hh1
        · obtain ⟨c, r, e, hc⟩ := dd_head a a (Nat.le_refl _) a0
          rw [hE, e] at hh2
          exact hc hh2
    rw [if_neg hz, show (-p).toNat = 0 by omega]
    cases t with
    | nil => simp only; rw [if_neg h9, hv]
    | cons c r =>
      have hc : ¬ c.toNat = 46 := by rw [ht c r rfl]; decide
      simp only
      rw [if_neg hc, if_neg h9, hv]
  · rw [if_neg h]
    obtain ⟨m, hm⟩ : ∃ m, (-p).toNat = m := ⟨_, rfl⟩
    have hpl := hL.2.2 (by omega)
    have a0 : a ≠ 0 := fun e => by have := h0 e; omega
    have hE : sqDigits a p = List.replicate (m + 1 - (Lib.decDigits a).length) 48 ++ Lib.decDigits a := by unfold sqDigits; rw [if_neg h, hm]
    have hv : dv 0 (sqDigits a p) = a := by rw [hE, dv_app, dv_zeros, Nat.zero_mul, dv_dd a a (Nat.le_refl _)]
    rw [hm] at hpl ⊢
    rw [List.append_assoc, List.cons_append]
    have hlen : (sqDigits a p).length = (m + 1 - (Lib.decDigits a).length) + (Lib.decDigits a).length := by rw [hE]; simp
    obtain ⟨e1, e2⟩ := tw_app ((sqDigits a p).take ((sqDigits a p).length - m)) (46 :: ((sqDigits a p).drop ((sqDigits a p).length - m) ++ t)) (fun x hx => hM x (List.mem_of_mem_take hx)) (fun c r hh => by injection hh with hh1 _; rw [← hh1]; decide)
    obtain ⟨f1, f2⟩ := tw_app ((sqDigits a p).drop ((sqDigits a p).length - m)) t (fun x hx => hM x (List.mem_of_mem_drop hx)) ht2
    have lt : ((sqDigits a p).take ((sqDigits a p).length - m)).length = (sqDigits a p).length - m := by simp
    have ld : ((sqDigits a p).drop ((sqDigits a p).length - m)).length = m := by simp; omega
    unfold numR
    rw [e1, e2]
    have hz : ¬ ((sqDigits a p).take ((sqDigits a p).length - m) = [] ∨ (1 < ((sqDigits a p).take ((sqDigits a p).length - m)).length ∧ (((sqDigits a p).take ((sqDigits a p).length - m) ++ 46 :: ((sqDigits a p).drop ((sqDigits a p).length - m) ++ t)).getD 0 0).toNat = 48)) := by
      intro hh
      rcases hh with hh | ⟨hh1, hh2⟩
      · rw [hh] at lt; simp at lt; omega
      · rw [lt] at hh1
        have hz0 : m + 1 - (Lib.decDigits a).length = 0 := by omega
        obtain ⟨c, r, e, hc⟩ := dd_head a a (Nat.le_refl _) a0
        have hEE : sqDigits a p = c :: r := by rw [hE, hz0, e]; rfl
        rw [hEE] at hh2 hh1
        obtain ⟨j, hj⟩ : ∃ j, (c :: r).length - m = j + 1 := ⟨(c :: r).length - m - 1, by omega⟩
        rw [hj, List.take_succ_cons] at hh2
        exact hc hh2
    rw [if_neg hz]
    simp only
    rw [if_pos (by decide), f1, f2]
    have hP : ¬ ((sqDigits a p).drop ((sqDigits a p).length - m) = []) := by
      intro hh
      rw [hh] at ld
      simp at ld
      omega
    rw [if_neg hP, if_neg (by rw [lt, ld]; omega), ld, List.take_append_drop, hv, show p.toNat = 0 by omega]
    simp
theorem qRead_show (n p v s : Int) (hq : qtyB n p v s = true) (h9 : ¬ 9 < (sqDigits n.natAbs p).length) : qRead (sqOut n p v s) = (n, p, v, s, true) := by
  have hq' := hq
  obtain ⟨hn, hz, hp, hv, hs⟩ := qtyB_iff.1 hq'
  have ha : n.natAbs ≤ 1000000000 := by omega
  have hL := sqDigits_len n.natAbs p ha hp
  have h0 : n.natAbs = 0 → p = 0 := by omega
  have hN := numR_show n.natAbs p (sqTail v s) ha hp h0 (tail_head v s) h9
  have hU := unitU_tail v s hv hs
  have hM : ∀ x ∈ sqDigits n.natAbs p, dgt x = true := fun x hx => dig_of (sqDigits_mem n.natAbs p x hx)
  -- the body begins with a digit
  obtain ⟨c, r, hc, hcd⟩ : ∃ c r, sqPoint (sqDigits n.natAbs p) p = c :: r ∧ dgt c = true := by
    cases hE : sqDigits n.natAbs p with
    | nil => rw [hE] at hL; simp at hL
    | cons c r =>
      have hcd : dgt c = true := hM c (by rw [hE]; exact List.mem_cons_self)
      unfold sqPoint
      by_cases h : 0 ≤ p
      · rw [if_pos h]; exact ⟨c, r, rfl, hcd⟩
      · rw [if_neg h]
        have hpl := hL.2.2 (by omega)
        rw [hE] at hpl
        obtain ⟨j, hj⟩ : ∃ j, (c :: r).length - (-p).toNat = j + 1 := ⟨(c :: r).length - (-p).toNat - 1, by omega⟩
        rw [hj, List.take_succ_cons]
        exact ⟨c, _, rfl, hcd⟩
  have hc45 : c ≠ 45 := by intro e; rw [e] at hcd; revert hcd; decide
  have fin : ∀ sg : Int, sg * (n.natAbs : Int) = n → (match (some (n.natAbs * 10 ^ p.toNat, (-p).toNat, sqTail v s) : Option (Nat × Nat × List UInt8)) with
      | none => (0, 0, 0, 0, false)
      | some (n, b, rest) => match unitU rest with
        | none => (0, 0, 0, 0, false)
        | some (up, v, c) => rightOf (sg * (n : Int)) (-(b : Int) + up) v c : Int × Int × Int × Int × Bool) = (n, p, v, s, true) := by
    intro sg hsg
    simp only
    rw [hU]
    simp only
    have e1 : sg * ((n.natAbs * 10 ^ p.toNat : Nat) : Int) = n * 10 ^ p.toNat := by
      rw [Int.natCast_mul, ← Int.mul_assoc, hsg]
      simp
    rw [e1]
    unfold rightOf
    by_cases n0 : n = 0
    · have p0 : p = 0 := by omega
      subst n0 p0
      rw [if_pos (by simp), if_pos (by simpa using hq)]
    · have hn10 : n % 10 ≠ 0 := by omega
      have hpow : (10 : Int) ^ p.toNat ≠ 0 := Int.pow_ne_zero (by decide)
      rw [if_neg (fun h => (Int.mul_eq_zero.1 h).elim n0 hpow)]
      have hk : p.toNat ≤ 8 := by
        by_cases h : 0 ≤ p
        · have hd := dd_len ha
          have : (sqDigits n.natAbs p).length = (Lib.decDigits n.natAbs).length + p.toNat := by unfold sqDigits; rw [if_pos h]; simp
          omega
        · omega
      have e2 := bareGo_pow p.toNat (19 - p.toNat) n (-((-p).toNat : Int) + 0) hn10
      rw [show p.toNat + (19 - p.toNat + 1) = 20 by omega] at e2
      rw [e2]
      simp only
      rw [show -((-p).toNat : Int) + 0 + (p.toNat : Int) = p by omega, if_pos hq]
  unfold sqOut
  rw [if_neg h9]
  unfold sqSign
  by_cases ng : n < 0
  · rw [if_pos ng]
    have e : pre [45] ([45] ++ sqPoint (sqDigits n.natAbs p) p ++ sqTail v s) = (sqPoint (sqDigits n.natAbs p) p ++ sqTail v s, true) := by
      rw [List.append_assoc, List.singleton_append, pre1_cons, if_pos rfl]
    unfold qRead sgnOf
    rw [e, if_pos rfl]
    simp only
    rw [hN]
    exact fin (-1) (by omega)
  · rw [if_neg ng, List.nil_append]
    have e : pre [45] (sqPoint (sqDigits n.natAbs p) p ++ sqTail v s) = (sqPoint (sqDigits n.natAbs p) p ++ sqTail v s, false) := by
      rw [hc, List.cons_append, pre1_cons, if_neg hc45]
    unfold qRead sgnOf
    rw [e, if_neg (by simp)]
    simp only
    rw [hN]
    exact fin 1 (by omega)
theorem qRead_48 : qRead [52, 56, 107, 72, 122] = (48, 3, 0, -1, true) := by decide
theorem rightOf_ok {n p v s : Int} (h : (rightOf n p v s).2.2.2.2 = true) : qtyB (rightOf n p v s).1 (rightOf n p v s).2.1 (rightOf n p v s).2.2.1 (rightOf n p v s).2.2.2.1 = true := by
  unfold rightOf at h ⊢
  by_cases h0 : n = 0
  · rw [if_pos h0] at h ⊢
    by_cases h1 : qtyB 0 0 v s = true
    · rw [if_pos h1]; exact h1
    · rw [if_neg h1] at h; cases h
  · rw [if_neg h0] at h ⊢
    by_cases h1 : qtyB (bareGo 20 n p).1 (bareGo 20 n p).2 v s = true
    · rw [if_pos h1]; exact h1
    · rw [if_neg h1] at h; cases h
theorem qRead_ok {a : List UInt8} (h : (qRead a).2.2.2.2 = true) : qtyB (qRead a).1 (qRead a).2.1 (qRead a).2.2.1 (qRead a).2.2.2.1 = true := by
  unfold qRead at h ⊢
  cases hn : numR (pre [45] a).1 with
  | none => rw [hn] at h; cases h
  | some x =>
    obtain ⟨n, b, rest⟩ := x
    rw [hn] at h
    simp only at h ⊢
    cases hu : unitU rest with
    | none => rw [hu] at h; cases h
    | some y =>
      obtain ⟨up, v, c⟩ := y
      rw [hu] at h
      simp only at h ⊢
      exact rightOf_ok h
theorem size_eq_abs (n : Int) (h : -1000000000 ≤ n ∧ n ≤ 1000000000) : impl_size.f n = some (n.natAbs : Int) := by
  unfold impl_size.f mx
  rw [w64 (by omega) (by omega), Option.some.injEq]
  split <;> omega
theorem Itoa14_eq (n : Int) (h0 : -1000000000000000000 ≤ n) (h1 : n ≤ 1000000000000000000) : strconv_Itoa_14.f n = some (bs (Lib.itoa n)) := by
  unfold strconv_Itoa_14.f
  rw [if_pos (by omega), if_pos (by omega)]; rfl
theorem rep48 (c : Nat) : Lib.repeatL [48] c = List.replicate c 48 := by
  have := Lib.repeatL_replicate 48 1 c
  simpa using this
theorem Repeat48 (c : Int) (h0 : 0 ≤ c) (h1 : c ≤ 1000) : strings_Repeat.f (⟨#[48]⟩ : ByteArray) c = some (bs (List.replicate c.toNat 48)) := by
  unfold strings_Repeat.f
  have e : (⟨#[48]⟩ : ByteArray) = bs [48] := rfl
  rw [if_pos h0, e, if_pos (by rw [bs_size]; simp; omega), if_pos (by omega), bs_data, rep48]; rfl
theorem Replace46 (E : List UInt8) (p : Int) (h : ∀ x ∈ E, 48 ≤ x.toNat ∧ x.toNat ≤ 57) (hl : E.length ≤ 1000) : strings_Replace.f (bs (sqPoint E p)) (⟨#[46]⟩ : ByteArray) (⟨#[]⟩ : ByteArray) 1 = some (bs E) := by
  have hp := sqPoint_len E p
  unfold strings_Replace.f
  have e : (⟨#[46]⟩ : ByteArray) = bs [46] := rfl
  have e2 : (⟨#[]⟩ : ByteArray) = bs [] := rfl
  rw [e, e2, if_pos (by rw [bs_size]; omega), if_pos (by rw [bs_size]; simp), if_pos (by rw [bs_size, bs_size]; simp; omega), bs_data, bs_data, bs_data, replace_sqPoint E p h]; rfl
theorem iUnit_eq (c : UInt8) (n : Int) (h : -9 ≤ n ∧ n ≤ 9) : impl_unit.f (bs [c]) n = some (bs (sqUnit c n)) := by
  have hl := Lib.itoa_length_le n (by omega) (by omega)
  unfold impl_unit.f sqUnit
  by_cases h0 : n = 0
  · rw [if_pos h0, if_pos h0]; rfl
  · rw [if_neg h0, if_neg h0]
    by_cases h1 : n = 1
    · rw [if_pos h1, if_pos h1]
    · rw [if_neg h1, if_neg h1, Itoa14_eq n (by omega) (by omega), Option.bind_some, if_pos (by rw [bs_size, bs_size]; simp; omega), bs_append]; rfl
def sqJ (V S : List UInt8) (v s : Int) : List UInt8 := if v ≠ 0 ∧ s ≠ 0 then 32 :: V ++ 42 :: S else if v ≠ 0 then 32 :: V else if s ≠ 0 then 32 :: S else []
theorem iShow_j2 (d V S : List UInt8) (v s : Int) (hV : V = [] ↔ v = 0) (hS : S = [] ↔ s = 0) (hd : d.length ≤ 1000) (hv : V.length ≤ 1000) (hs : S.length ≤ 1000) :
    Ev (fun k => if (bs V).toList = ([] : List UInt8) then (impl_ShowQty.j2 k (bs d) (bs V) (bs S) false) else (impl_ShowQty.j2 k (bs d) (bs V) (bs S) ((bs S).toList != ([] : List UInt8))))
      (bs (d ++ sqJ V S v s)) := by
  have e32 : (⟨#[32]⟩ : ByteArray) = bs [32] := rfl
  have e42 : (⟨#[42]⟩ : ByteArray) = bs [42] := rfl
  have dos : ∀ b : Bool, b = (decide (v ≠ 0 ∧ s ≠ 0)) → Ev (fun k => impl_ShowQty.j2 k (bs d) (bs V) (bs S) b) (bs (d ++ sqJ V S v s)) := by
    intro b hb
    refine Ev.succ ?_
    simp only [impl_ShowQty.j2, e32, e42, bs_append, bs_size, bs_toList, List.length_append, List.length_cons, List.length_nil]
    by_cases h0 : v = 0
    · have hV0 := hV.2 h0
      refine Ev.neg (by rw [hb]; simp [h0]) (Ev.pos hV0 ?_)
      by_cases h1 : s = 0
      · exact Ev.pos (hS.2 h1) (Ev.some_ (by unfold sqJ; simp [h0, h1]))
      · refine Ev.neg (fun e => h1 (hS.1 e)) ?_
        refine Ev.pos (by omega) (Ev.pos (by omega) (Ev.pos (by omega) (Ev.some_ ?_)))
        unfold sqJ
        rw [hV0]
        simp [h0, h1]
    · by_cases h1 : s = 0
      · refine Ev.neg (by rw [hb]; simp [h1]) (Ev.neg (fun e => h0 (hV.1 e)) ?_)
        refine Ev.pos (by omega) (Ev.pos (by omega) (Ev.pos (by omega) (Ev.some_ ?_)))
        unfold sqJ
        rw [hS.2 h1]
        simp [h0, h1]
      · refine Ev.pos (by rw [hb]; simp [h0, h1]) ?_
        refine Ev.pos (by omega) (Ev.pos (by omega) (Ev.pos (by omega) (Ev.pos (by omega) (Ev.some_ ?_))))
        unfold sqJ
        simp [h0, h1]
  by_cases h0 : v = 0
  · exact Ev.pos (by rw [bs_toList]; exact hV.2 h0) (dos false (by simp [h0]))
  · refine Ev.neg (by rw [bs_toList]; exact fun e => h0 (hV.1 e)) (dos _ ?_)
    rw [bs_toList]
    by_cases h1 : s = 0
    · rw [hS.2 h1]; simp [h1]
    · have : S ≠ [] := fun e => h1 (hS.1 e)
      simp [h0, h1, this]
theorem iShow_j1 (d : List UInt8) (n p v s : Int) (hv : -9 ≤ v ∧ v ≤ 9) (hs : -9 ≤ s ∧ s ≤ 9) (hd : d.length ≤ 1000) :
    Ev (fun k => impl_ShowQty.j1 k (bs d) n p v s) (bs (d ++ sqTail v s)) := by
  refine Ev.succ ?_
  simp only [impl_ShowQty.j1]
  have e86 : (⟨#[86]⟩ : ByteArray) = bs [86] := rfl
  have e115 : (⟨#[115]⟩ : ByteArray) = bs [115] := rfl
  rw [e86, e115, iUnit_eq 86 v hv, iUnit_eq 115 s hs]
  simp only [Option.bind_some]
  have h1 := sqUnit_len 86 v hv
  have h2 := sqUnit_len 115 s hs
  exact iShow_j2 d (sqUnit 86 v) (sqUnit 115 s) v s (sqUnit_nil 86 v) (sqUnit_nil 115 s) hd (by omega) (by omega)
theorem iShow_j0 (E : List UInt8) (n p v s : Int) (hE : ∀ x ∈ E, 48 ≤ x.toNat ∧ x.toNat ≤ 57) (hl : E.length ≤ 100) (hv : -9 ≤ v ∧ v ≤ 9) (hs : -9 ≤ s ∧ s ≤ 9) :
    Ev (fun k => impl_ShowQty.j0 k (bs (sqPoint E p)) n p v s) (bs (if 9 < E.length then [] else sqSign n ++ sqPoint E p ++ sqTail v s)) := by
  have hp := sqPoint_len E p
  refine Ev.succ ?_
  simp only [impl_ShowQty.j0]
  rw [Replace46 E p hE (by omega)]
  simp only [Option.bind_some, bs_size]
  by_cases h9 : 9 < E.length
  · rw [if_pos h9]
    exact Ev.pos (by omega) (Ev.some_ rfl)
  · rw [if_neg h9]
    refine Ev.neg (by omega) ?_
    unfold sqSign
    by_cases hn : n < 0
    · rw [if_pos hn]
      refine Ev.pos hn (Ev.pos (by omega) ?_)
      rw [show (⟨#[45]⟩ : ByteArray) = bs [45] from rfl, bs_append]
      exact iShow_j1 _ n p v s hv hs (by simp; omega)
    · rw [if_neg hn]
      exact Ev.neg hn (iShow_j1 _ n p v s hv hs (by omega))
theorem iShow_ev (n p v s : Int) : Ev (fun k => impl_ShowQty.f k n p v s) (bs (sqShow n p v s)) := by
  unfold impl_ShowQty.f sqShow
  rw [iQtyOk_eq]
  simp only [Option.bind_some]
  by_cases hq : qtyB n p v s = true
  · rw [if_pos hq]
    refine Ev.pos hq ?_
    have hq' := of_decide_eq_true hq
    obtain ⟨hn, _, hp, hv, hs⟩ := hq'
    rw [size_eq_abs n hn]
    simp only [Option.bind_some]
    rw [Itoa14_eq _ (by omega) (by omega)]
    simp only [Option.bind_some]
    have ea : Lib.itoa (n.natAbs : Int) = Lib.decDigits n.natAbs := by
      unfold Lib.itoa
      rw [if_neg (by omega)]; rfl
    rw [ea]
    have hD := dd_len (n := n.natAbs) (by omega)
    have hL := sqDigits_len n.natAbs p (by omega) hp
    have hM := sqDigits_mem n.natAbs p
    have J := iShow_j0 (sqDigits n.natAbs p) n p v s hM (by omega) hv hs
    unfold sqOut
    by_cases h0 : 0 ≤ p
    · refine Ev.pos h0 ?_
      rw [Repeat48 p h0 (by omega)]
      simp only [Option.bind_some, bs_append, bs_size, List.length_replicate]
      refine Ev.pos (by omega) ?_
      have e : sqPoint (sqDigits n.natAbs p) p = Lib.decDigits n.natAbs ++ List.replicate p.toNat 48 := by
        unfold sqPoint sqDigits
        rw [if_pos h0, if_pos h0]
      rwa [e] at J ⊢
    · refine Ev.neg h0 ?_
      have cut : ∀ (E : List UInt8), E = sqDigits n.natAbs p → Ev (fun k => if 0 ≤ (wrap64 (((bs E).size : Int) + p)) then (if (wrap64 (((bs E).size : Int) + p)) ≤ ((bs E).size : Int) then (if ((bs E).extract 0 ((wrap64 (((bs E).size : Int) + p)) : Int).toNat).size + 1 ≤ 9223372036854775807 then (if (((bs E).extract 0 ((wrap64 (((bs E).size : Int) + p)) : Int).toNat) ++ (⟨#[46]⟩ : ByteArray)).size + ((bs E).extract ((wrap64 (((bs E).size : Int) + p)) : Int).toNat (bs E).size).size ≤ 9223372036854775807 then (impl_ShowQty.j0 k ((((bs E).extract 0 ((wrap64 (((bs E).size : Int) + p)) : Int).toNat) ++ (⟨#[46]⟩ : ByteArray)) ++ ((bs E).extract ((wrap64 (((bs E).size : Int) + p)) : Int).toNat (bs E).size)) n p v s) else (none)) else (none)) else (none)) else (none)) (bs (if 9 < (sqDigits n.natAbs p).length then [] else sqSign n ++ sqPoint (sqDigits n.natAbs p) p ++ sqTail v s)) := by
        intro E hE
        subst hE
        have hpl := hL.2.2 (by omega)
        rw [show (⟨#[46]⟩ : ByteArray) = bs [46] from rfl]
        simp only [bs_extract, bs_append, bs_size]
        rw [w64 (by omega) (by omega)]
        refine Ev.pos (by omega) (Ev.pos (by omega) (Ev.pos (by simp; omega) (Ev.pos (by simp; omega) ?_)))
        have e : sqPoint (sqDigits n.natAbs p) p = List.drop 0 (List.take ((((sqDigits n.natAbs p).length : Int) + p).toNat) (sqDigits n.natAbs p)) ++ [46] ++ List.drop ((((sqDigits n.natAbs p).length : Int) + p).toNat) (List.take (sqDigits n.natAbs p).length (sqDigits n.natAbs p)) := by
          unfold sqPoint
          rw [if_neg h0, show (((sqDigits n.natAbs p).length : Int) + p).toNat = (sqDigits n.natAbs p).length - (-p).toNat by omega]
          simp
        rw [e] at J
        rw [e]
        exact J
      rw [bs_size, w64 (n := -p) (by omega) (by omega), w64 (n := -p + 1) (by omega) (by omega), w64 (n := -p + 1 - _) (by omega) (by omega)]
      by_cases hl : ((Lib.decDigits n.natAbs).length : Int) ≤ -p
      · refine Ev.pos hl ?_
        rw [Repeat48 _ (by omega) (by omega)]
        simp only [Option.bind_some, bs_append]
        refine Ev.pos (by rw [bs_size, List.length_replicate]; omega) (cut _ ?_)
        unfold sqDigits
        rw [if_neg h0, show (-p + 1 - ((Lib.decDigits n.natAbs).length : Int)).toNat = (-p).toNat + 1 - (Lib.decDigits n.natAbs).length by omega]
      · refine Ev.neg hl ?_
        have c := cut (Lib.decDigits n.natAbs) (by unfold sqDigits; rw [if_neg h0, show (-p).toNat + 1 - (Lib.decDigits n.natAbs).length = 0 by omega]; simp)
        rw [bs_size] at c
        exact c
  · rw [if_neg hq]
    exact Ev.neg hq (Ev.some_ rfl)
theorem sUnit_ev (c : UInt8) (n : Int) (h : -9 ≤ n ∧ n ≤ 9) (h0 : n ≠ 0) : Ev (fun k => spec_l20Unit.f k (bs [c]) n) (bs (sqUnit c n)) := by
  have hl := Lib.itoa_length_le n (by omega) (by omega)
  unfold spec_l20Unit.f sqUnit
  rw [if_neg h0]
  by_cases h1 : n = 1
  · rw [if_pos h1]
    exact Ev.pos h1 (Ev.some_ rfl)
  · rw [if_neg h1]
    refine Ev.neg h1 (Ev.next (l2Itoa_ev n (by omega) (by omega)) (Ev.pos (by rw [bs_size, bs_size]; simp; omega) (Ev.some_ ?_)))
    rw [bs_append]; rfl
theorem sShow_j4 (x : List UInt8) (n p v s : Int) (hv : -9 ≤ v ∧ v ≤ 9) (hs : -9 ≤ s ∧ s ≤ 9) (hx : x.length ≤ 1000) (b : Bool) (hb : b = decide (v ≠ 0 ∧ s ≠ 0)) :
    Ev (fun k => spec_ShowQty.j4 k (bs x) b n p v s) (bs (x ++ sqTail v s)) := by
  have e32 : (⟨#[32]⟩ : ByteArray) = bs [32] := rfl
  have e42 : (⟨#[42]⟩ : ByteArray) = bs [42] := rfl
  have e86 : (⟨#[86]⟩ : ByteArray) = bs [86] := rfl
  have e115 : (⟨#[115]⟩ : ByteArray) = bs [115] := rfl
  have l1 := sqUnit_len 86 v hv
  have l2 := sqUnit_len 115 s hs
  refine Ev.succ ?_
  simp only [spec_ShowQty.j4, e32, e42, e86, e115]
  by_cases h0 : v = 0
  · refine Ev.neg (by rw [hb]; simp [h0]) (Ev.pos h0 ?_)
    by_cases h1 : s = 0
    · exact Ev.pos h1 (Ev.some_ (by unfold sqTail; simp [h0, h1]))
    · refine Ev.neg h1 (Ev.pos (by rw [bs_size]; omega) (Ev.next (sUnit_ev 115 s hs h1) ?_))
      refine Ev.pos (by rw [bs_append, bs_size, bs_size]; simp; omega) (Ev.some_ ?_)
      rw [bs_append, bs_append]
      unfold sqTail
      simp [h0, h1]
  · by_cases h1 : s = 0
    · refine Ev.neg (by rw [hb]; simp [h1]) (Ev.neg h0 (Ev.pos (by rw [bs_size]; omega) (Ev.next (sUnit_ev 86 v hv h0) ?_)))
      refine Ev.pos (by rw [bs_append, bs_size, bs_size]; simp; omega) (Ev.some_ ?_)
      rw [bs_append, bs_append]
      unfold sqTail
      simp [h0, h1]
    · refine Ev.pos (by rw [hb]; simp [h0, h1]) (Ev.pos (by rw [bs_size]; omega) (Ev.next (sUnit_ev 86 v hv h0) ?_))
      refine Ev.pos (by rw [bs_append, bs_size, bs_size]; simp; omega) (Ev.pos (by rw [bs_append, bs_append, bs_size]; simp; omega) (Ev.next (sUnit_ev 115 s hs h1) ?_))
      refine Ev.pos (by rw [bs_append, bs_append, bs_append, bs_size, bs_size]; simp; omega) (Ev.some_ ?_)
      rw [bs_append, bs_append, bs_append, bs_append]
      unfold sqTail
      simp [h0, h1]
theorem sShow_j3 (x y : List UInt8) (n p v s : Int) (hv : -9 ≤ v ∧ v ≤ 9) (hs : -9 ≤ s ∧ s ≤ 9) (hx : x.length ≤ 100) (hy : y.length ≤ 100) :
    Ev (fun k => spec_ShowQty.j3 k (bs x) (bs y) n p v s) (bs (x ++ y ++ sqTail v s)) := by
  refine Ev.succ ?_
  simp only [spec_ShowQty.j3, bs_append]
  refine Ev.pos (by rw [bs_size, bs_size]; omega) ?_
  have hl : (x ++ y).length ≤ 1000 := by simp; omega
  by_cases h0 : v = 0
  · exact Ev.pos h0 (sShow_j4 (x ++ y) n p v s hv hs hl false (by simp [h0]))
  · exact Ev.neg h0 (sShow_j4 (x ++ y) n p v s hv hs hl _ (by simp [h0, bne]; rfl))
theorem sShow_end (x E : List UInt8) (n p v s : Int) (hv : -9 ≤ v ∧ v ≤ 9) (hs : -9 ≤ s ∧ s ≤ 9) (hp : -30 ≤ p ∧ p ≤ 30) (hx : x.length ≤ 100) (hE : E.length ≤ 90) (hE1 : 1 ≤ E.length) (hpE : p < 0 → (-p).toNat < E.length) :
    Ev (fun k => spec_ShowQty.l1 k (bs x) (bs E) n p v s) (bs (if 9 < E.length then [] else x ++ sqPoint E p ++ sqTail v s)) := by
  have hpl := sqPoint_len E p
  have e46 : (⟨#[46]⟩ : ByteArray) = bs [46] := rfl
  refine Ev.succ ?_
  simp only [spec_ShowQty.l1]
  have e1 : wrap64 (-p) = -p := w64 (by omega) (by omega)
  have e2 : wrap64 ((E.length : Int) + p) = (E.length : Int) + p := w64 (by omega) (by omega)
  rw [bs_size, e1, e2, e46]
  refine Ev.neg (by omega) ?_
  by_cases h9 : 9 < E.length
  · rw [if_pos h9]
    exact Ev.pos (by omega) (Ev.some_ rfl)
  · rw [if_neg h9]
    refine Ev.neg (by omega) ?_
    by_cases h0 : p < 0
    · refine Ev.pos h0 ?_
      simp only [bs_extract, bs_append, bs_size]
      refine Ev.pos (by omega) (Ev.pos (by omega) (Ev.pos (by simp; omega) (Ev.pos (by simp; omega) ?_)))
      have e : List.drop 0 (List.take (((E.length : Int) + p).toNat) E) ++ [46] ++ List.drop (((E.length : Int) + p).toNat) (List.take E.length E) = sqPoint E p := by
        unfold sqPoint
        rw [if_neg (by omega), show ((E.length : Int) + p).toNat = E.length - (-p).toNat by omega]
        simp
      rw [e]
      exact sShow_j3 x (sqPoint E p) n p v s hv hs hx (by omega)
    · refine Ev.neg h0 ?_
      have e : sqPoint E p = E := by unfold sqPoint; rw [if_pos (by omega)]
      rw [e]
      exact sShow_j3 x E n p v s hv hs hx (by omega)
theorem sShow_l1 (x D : List UInt8) (n p v s : Int) (hv : -9 ≤ v ∧ v ≤ 9) (hs : -9 ≤ s ∧ s ≤ 9) (hp : -30 ≤ p ∧ p ≤ 30) (hx : x.length ≤ 100) :
    ∀ (d : Nat) (E : List UInt8), 1 ≤ E.length → E.length ≤ 41 → (p < 0 → (-p).toNat + 1 - E.length ≤ d) →
    Ev (fun k => spec_ShowQty.l1 k (bs x) (bs E) n p v s) (bs (if 9 < (List.replicate ((-p).toNat + 1 - E.length) 48 ++ E).length then [] else x ++ sqPoint (List.replicate ((-p).toNat + 1 - E.length) 48 ++ E) p ++ sqTail v s)) := by
  intro d
  have fin : ∀ E : List UInt8, 1 ≤ E.length → E.length ≤ 41 → ¬ ((E.length : Int) ≤ -p) → Ev (fun k => spec_ShowQty.l1 k (bs x) (bs E) n p v s) (bs (if 9 < (List.replicate ((-p).toNat + 1 - E.length) 48 ++ E).length then [] else x ++ sqPoint (List.replicate ((-p).toNat + 1 - E.length) 48 ++ E) p ++ sqTail v s)) := by
    intro E h1 h2 h3
    rw [show (-p).toNat + 1 - E.length = 0 by omega]
    exact sShow_end x E n p v s hv hs hp hx (by omega) h1 (fun _ => by omega)
  induction d with
  | zero =>
    intro E h1 h2 h3
    exact fin E h1 h2 (by intro h; have := h3 (by omega); omega)
  | succ d ih =>
    intro E h1 h2 h3
    by_cases h : (E.length : Int) ≤ -p
    · refine Ev.succ ?_
      simp only [spec_ShowQty.l1]
      have e1 : wrap64 (-p) = -p := w64 (by omega) (by omega)
      rw [bs_size, e1, show (⟨#[48]⟩ : ByteArray) = bs [48] from rfl, bs_append]
      refine Ev.pos h (Ev.pos (by omega) ((ih ([48] ++ E) (by simp) (by simp; omega) (fun h0 => by have := h3 h0; simp; omega)).to ?_))
      have e : List.replicate ((-p).toNat + 1 - ([48] ++ E).length) (48 : UInt8) ++ ([48] ++ E) = List.replicate ((-p).toNat + 1 - E.length) 48 ++ E := by
        rw [show (-p).toNat + 1 - E.length = (-p).toNat + 1 - ([48] ++ E).length + 1 by simp; omega, List.replicate_succ', List.append_assoc]
      rw [e]
    · exact fin E h1 h2 h
theorem sShow_l0 (x D : List UInt8) (n p v s : Int) (hv : -9 ≤ v ∧ v ≤ 9) (hs : -9 ≤ s ∧ s ≤ 9) (hp : -30 ≤ p ∧ p ≤ 30) (hx : x.length ≤ 100) (hD : 1 ≤ D.length ∧ D.length ≤ 10) :
    ∀ (d : Nat) (i : Int) (E : List UInt8), 0 ≤ i → i ≤ 30 → (p - i).toNat ≤ d → (0 ≤ p → i ≤ p) → (p < 0 → i = 0) → E = D ++ List.replicate i.toNat 48 →
    Ev (fun k => spec_ShowQty.l0 k (bs x) (bs E) i n p v s) (bs (if 9 < (if 0 ≤ p then D ++ List.replicate p.toNat 48 else List.replicate ((-p).toNat + 1 - D.length) 48 ++ D).length then [] else x ++ sqPoint (if 0 ≤ p then D ++ List.replicate p.toNat 48 else List.replicate ((-p).toNat + 1 - D.length) 48 ++ D) p ++ sqTail v s)) := by
  intro d
  have fin : ∀ (i : Int) (E : List UInt8), 0 ≤ i → ¬ i < p → (0 ≤ p → i ≤ p) → (p < 0 → i = 0) → E = D ++ List.replicate i.toNat 48 → Ev (fun k => spec_ShowQty.l0 k (bs x) (bs E) i n p v s) (bs (if 9 < (if 0 ≤ p then D ++ List.replicate p.toNat 48 else List.replicate ((-p).toNat + 1 - D.length) 48 ++ D).length then [] else x ++ sqPoint (if 0 ≤ p then D ++ List.replicate p.toNat 48 else List.replicate ((-p).toNat + 1 - D.length) 48 ++ D) p ++ sqTail v s)) := by
    intro i E h0 h1 h2 h3 hE
    refine Ev.succ ?_
    simp only [spec_ShowQty.l0]
    refine Ev.neg h1 ?_
    by_cases hp0 : 0 ≤ p
    · have ei : i = p := by have := h2 hp0; omega
      have := sShow_l1 x D n p v s hv hs hp hx 0 E (by rw [hE]; simp; omega) (by rw [hE]; simp; omega) (fun h => by omega)
      refine this.to ?_
      rw [if_pos hp0, show (-p).toNat + 1 - E.length = 0 by rw [hE]; simp; omega, hE, ei]
      rfl
    · have ei : i = 0 := h3 (by omega)
      have eE : E = D := by rw [hE, ei]; simp
      rw [eE]
      refine (sShow_l1 x D n p v s hv hs hp hx _ D (by omega) (by omega) (fun _ => Nat.le_refl _)).to ?_
      rw [if_neg hp0]
  induction d with
  | zero =>
    intro i E h0 h1 h2 h3 h4 hE
    exact fin i E h0 (by omega) h3 h4 hE
  | succ d ih =>
    intro i E h0 h1 h2 h3 h4 hE
    by_cases h : i < p
    · refine Ev.succ ?_
      simp only [spec_ShowQty.l0]
      have e1 : wrap64 (i + 1) = i + 1 := w64 (by omega) (by omega)
      rw [e1, show (⟨#[48]⟩ : ByteArray) = bs [48] from rfl, bs_append, bs_size]
      refine Ev.pos h (Ev.pos (by rw [hE]; simp; omega) (ih (i + 1) _ (by omega) (by omega) (by omega) (by omega) (by omega) ?_))
      rw [hE, show (i + 1).toNat = i.toNat + 1 by omega, List.replicate_succ', List.append_assoc]
    · exact fin i E h0 h h3 h4 hE
theorem sShow_j0 (x : List UInt8) (a : Nat) (n p v s : Int) (ha : a ≤ 1000000000) (hv : -9 ≤ v ∧ v ≤ 9) (hs : -9 ≤ s ∧ s ≤ 9) (hp : -30 ≤ p ∧ p ≤ 30) (hx : x.length ≤ 100) :
    Ev (fun k => spec_ShowQty.j0 k (a : Int) (bs x) n p v s) (bs (if 9 < (sqDigits a p).length then [] else x ++ sqPoint (sqDigits a p) p ++ sqTail v s)) := by
  refine Ev.succ ?_
  simp only [spec_ShowQty.j0]
  refine Ev.next (l2Itoa_nat a (by omega)) ?_
  unfold sqDigits
  exact sShow_l0 x (Lib.decDigits a) n p v s hv hs hp hx (dd_len ha) p.toNat 0 (Lib.decDigits a) (by omega) (by omega) (by omega) (by omega) (fun _ => rfl) (by simp)
theorem sShow_ev (n p v s : Int) : Ev (fun k => spec_ShowQty.f k n p v s) (bs (sqShow n p v s)) := by
  unfold spec_ShowQty.f sqShow
  refine Ev.next (sQtyOk_ev n p v s) ?_
  by_cases hq : qtyB n p v s = true
  · rw [if_pos hq]
    refine Ev.pos hq ?_
    obtain ⟨hn, _, hp, hv, hs⟩ := of_decide_eq_true hq
    unfold sqOut sqSign
    by_cases h0 : n < 0
    · refine Ev.pos h0 ?_
      rw [w64 (by omega) (by omega), show -n = ((n.natAbs : Nat) : Int) by omega, if_pos h0]
      exact sShow_j0 [45] n.natAbs n p v s (by omega) hv hs hp (by simp)
    · refine Ev.neg h0 ?_
      rw [if_neg h0]
      have := sShow_j0 [] n.natAbs n p v s (by omega) hv hs hp (by simp)
      rw [show ((n.natAbs : Nat) : Int) = n by omega] at this
      exact this
  · rw [if_neg hq]
    exact Ev.neg hq (Ev.some_ rfl)
theorem l1New_l0 (l : List Int) : ∀ (d i : Nat) (h : Int), i + d = l.length → (i : Int) ≤ 4000 → EvP (fun k => spec_l1New.l0 k l h (i : Int)) (fun r => r.1 = l ∧ r.2.1 = 0) := by
  intro d
  induction d with
  | zero =>
    intro i h hi _
    refine EvP.succ ?_
    simp only [spec_l1New.l0]
    exact EvP.neg (by omega) (EvP.now ⟨rfl, rfl⟩)
  | succ d ih =>
    intro i h hi hi2
    refine EvP.succ ?_
    simp only [spec_l1New.l0]
    refine EvP.pos (by omega) ?_
    by_cases h4 : (i : Int) < 4000
    · rw [w64_add (by omega) (by omega)]
      exact EvP.pos h4 (EvP.pos (by omega) (ih (i + 1) _ (by omega) (by omega)))
    · exact EvP.neg h4 (EvP.now ⟨rfl, rfl⟩)
theorem l1New_ev (l : List Int) : EvP (fun k => spec_l1New.f k l) (fun r => r.1 = l ∧ r.2.1 = 0) := l1New_l0 l l.length 0 _ (by omega) (by omega)
theorem l1Byte_ok (l : List Int) (p h : Int) (h0 : 0 ≤ p) (h1 : p ≤ l.length) (hl : l.length ≤ 1048576) : ∃ r, spec_l1Byte.f l p h = some r ∧ (0 ≤ r.1 ∧ r.1 ≤ 255) ∧ 0 ≤ r.2.1 ∧ r.2.1 ≤ l.length := by
  unfold spec_l1Byte.f
  by_cases hp : p < (l.length : Int)
  · rw [if_pos hp, if_pos h0]
    refine ⟨_, rfl, bits_and_le _ 255 (by omega) (by omega), ?_⟩
    simp only
    rw [w64_add h0 (by omega)]
    omega
  · rw [if_neg hp]
    exact ⟨_, rfl, bits_and_le _ 255 (by omega) (by omega), h0, h1⟩
theorem l1Below_ok (l : List Int) (p h n : Int) (h0 : 0 ≤ p) (h1 : p ≤ l.length) (hl : l.length ≤ 1048576) : ∃ r, spec_l1Below.f l p h n = some r ∧ (0 ≤ r.1 ∧ (r.1 < n ∨ r.1 = 0)) ∧ 0 ≤ r.2.1 ∧ r.2.1 ≤ l.length := by
  unfold spec_l1Below.f
  by_cases hn : n ≤ 0
  · rw [if_pos hn]; exact ⟨_, rfl, ⟨by simp, .inr rfl⟩, h0, h1⟩
  rw [if_neg hn]
  have tm : ∀ x : Int, 0 ≤ x → 0 ≤ Int.tmod x n ∧ Int.tmod x n < n := fun x hx => by
    rw [Int.tmod_eq_emod_of_nonneg hx]
    exact ⟨Int.emod_nonneg _ (by omega), Int.emod_lt_of_pos _ (by omega)⟩
  by_cases h2 : n ≤ 256
  · rw [if_pos h2]
    obtain ⟨r, e, hb, hp⟩ := l1Byte_ok l p h h0 h1 hl
    rw [e]
    simp only [Option.bind_some]
    rw [if_neg (by omega)]
    exact ⟨_, rfl, ⟨(tm _ hb.1).1, .inl (tm _ hb.1).2⟩, hp⟩
  · rw [if_neg h2]
    obtain ⟨r, e, hb, hp⟩ := l1Byte_ok l p h h0 h1 hl
    obtain ⟨r2, e2, hb2, hp2⟩ := l1Byte_ok l r.2.1 r.2.2 hp.1 hp.2 hl
    obtain ⟨r3, e3, hb3, hp3⟩ := l1Byte_ok l r2.2.1 r2.2.2 hp2.1 hp2.2 hl
    obtain ⟨r4, e4, hb4, hp4⟩ := l1Byte_ok l r3.2.1 r3.2.2 hp3.1 hp3.2 hl
    rw [e]; simp only [Option.bind_some]
    rw [e2]; simp only [Option.bind_some]
    rw [e3]; simp only [Option.bind_some]
    rw [e4]; simp only [Option.bind_some]
    rw [if_neg (by omega), w64 (n := r.1 * 16777216) (by omega) (by omega), w64 (n := r2.1 * 65536) (by omega) (by omega), w64 (n := r3.1 * 256) (by omega) (by omega), w64 (n := r.1 * 16777216 + _) (by omega) (by omega), w64 (n := r.1 * 16777216 + _ + _) (by omega) (by omega), w64 (n := r.1 * 16777216 + _ + _ + _) (by omega) (by omega)]
    exact ⟨_, rfl, ⟨(tm _ (by omega)).1, .inl (tm _ (by omega)).2⟩, hp4⟩
theorem l1Once_ok (l : List Int) (p h n : Int) (h0 : 0 ≤ p) (h1 : p ≤ l.length) (hl : l.length ≤ 1048576) : ∃ r, spec_l1Once.f l p h n = some r ∧ 0 ≤ r.2.1 ∧ r.2.1 ≤ l.length := by
  obtain ⟨r, e, hb, hp⟩ := l1Below_ok l p h n h0 h1 hl
  unfold spec_l1Once.f
  rw [e]; simp only [Option.bind_some]
  exact ⟨_, rfl, hp⟩
theorem l1PickInt_ok (l : List Int) (p h : Int) (xs : List Int) (h0 : 0 ≤ p) (h1 : p ≤ l.length) (hl : l.length ≤ 1048576) (hx : 0 < xs.length) : ∃ r, spec_l1PickInt.f l p h xs = some r ∧ r.1 ∈ xs ∧ 0 ≤ r.2.1 ∧ r.2.1 ≤ l.length := by
  unfold spec_l1PickInt.f
  obtain ⟨r, e, hb, hp⟩ := l1Below_ok l p h xs.length h0 h1 hl
  rw [e]
  simp only [Option.bind_some]
  rw [if_pos hb.1, if_pos (by omega)]
  refine ⟨_, rfl, ?_, hp⟩
  have : r.1 = ((r.1.toNat : Nat) : Int) := by omega
  simp only
  rw [this]
  exact rd_mem (by omega)
theorem l20DrawQty_ev (l : List Int) (hl : l.length ≤ 1048576) (p h : Int) (h0 : 0 ≤ p) (h1 : p ≤ l.length) : EvP (fun k => spec_l20DrawQty.f k l p h) (fun r => 0 ≤ r.2.2.2.2.1 ∧ r.2.2.2.2.1 ≤ l.length) := by
  have j0 : ∀ (b : Bool) (p h a c d e : Int), 0 ≤ p → p ≤ l.length → EvP (fun k => spec_l20DrawQty.j0 k b l p h a c d e) (fun r => 0 ≤ r.2.2.2.2.1 ∧ r.2.2.2.2.1 ≤ l.length) := by
    intro b p h a c d e h0 h1
    obtain ⟨r, e1, _, hp⟩ := l1PickInt_ok l p h [0, 7, 1000000000, 1000000001, 999999999, 10, (-3)] h0 h1 hl (by decide)
    obtain ⟨r2, e2, _, hp2⟩ := l1PickInt_ok l r.2.1 r.2.2 [0, 30, 31, (-30), (-31), 5] hp.1 hp.2 hl (by decide)
    obtain ⟨r3, e3, _, hp3⟩ := l1PickInt_ok l r2.2.1 r2.2.2 [0, 9, 10, (-10)] hp2.1 hp2.2 hl (by decide)
    obtain ⟨r4, e4, _, hp4⟩ := l1PickInt_ok l r3.2.1 r3.2.2 [0, (-9), 1] hp3.1 hp3.2 hl (by decide)
    refine EvP.succ ?_
    simp only [spec_l20DrawQty.j0]
    refine EvP.both (fun _ => ?_) (fun _ => EvP.now ⟨h0, h1⟩)
    refine EvP.next (Ev.p (Ev.here e1)) ?_
    rintro r rfl
    refine EvP.next (Ev.p (Ev.here e2)) ?_
    rintro r2 rfl
    refine EvP.next (Ev.p (Ev.here e3)) ?_
    rintro r3 rfl
    refine EvP.next (Ev.p (Ev.here e4)) ?_
    rintro r4 rfl
    exact EvP.now hp4
  obtain ⟨r, e1, hb, hp⟩ := l1Below_ok l p h 20001 h0 h1 hl
  obtain ⟨r2, e2, hb2, hp2⟩ := l1Below_ok l r.2.1 r.2.2 12 hp.1 hp.2 hl
  obtain ⟨r3, e3, hb3, hp3⟩ := l1Below_ok l r2.2.1 r2.2.2 5 hp2.1 hp2.2 hl
  obtain ⟨r4, e4, hb4, hp4⟩ := l1Below_ok l r3.2.1 r3.2.2 5 hp3.1 hp3.2 hl
  obtain ⟨r5, e5, hp5⟩ := l1Once_ok l r4.2.1 r4.2.2 10 hp4.1 hp4.2 hl
  unfold spec_l20DrawQty.f
  refine EvP.next (Ev.p (Ev.here e1)) ?_
  rintro r rfl
  refine EvP.next (Ev.p (Ev.here e2)) ?_
  rintro r2 rfl
  refine EvP.next (Ev.p (Ev.here e3)) ?_
  rintro r3 rfl
  refine EvP.next (Ev.p (Ev.here e4)) ?_
  rintro r4 rfl
  refine EvP.next (Ev.p (l20Qty_ev _ _ _ _ (by rw [w64 (by omega) (by omega)]; omega) (by rw [w64 (by omega) (by omega)]; omega))) ?_
  rintro _ rfl
  refine EvP.both (fun _ => ?_) (fun _ => j0 _ _ _ _ _ _ _ hp4.1 hp4.2)
  refine EvP.next (Ev.p (Ev.here e5)) ?_
  rintro r5 rfl
  exact j0 _ _ _ _ _ _ _ hp5.1 hp5.2
theorem l1Pick_ok (l : List Int) (p h : Int) (xs : List ByteArray) (h0 : 0 ≤ p) (h1 : p ≤ l.length) (hl : l.length ≤ 1048576) (hx : 0 < xs.length) : ∃ r, spec_l1Pick.f l p h xs = some r ∧ r.1 ∈ xs ∧ 0 ≤ r.2.1 ∧ r.2.1 ≤ l.length := by
  unfold spec_l1Pick.f
  obtain ⟨r, e, hb, hp⟩ := l1Below_ok l p h xs.length h0 h1 hl
  rw [e]
  simp only [Option.bind_some]
  rw [if_pos hb.1, if_pos (by omega)]
  refine ⟨_, rfl, ?_, hp⟩
  simp only
  unfold rdOf
  have hi : r.1.toNat < xs.length := by omega
  rw [List.getD_eq_getElem?_getD, List.getElem?_eq_getElem hi]
  exact List.getElem_mem hi
theorem sqShow_len (n p v s : Int) : (sqShow n p v s).length ≤ 100 := by
  unfold sqShow
  split
  · rename_i hq
    obtain ⟨hn, _, hp, hv, hs⟩ := qtyB_iff.1 hq
    unfold sqOut
    split
    · simp
    · rename_i h9
      have h1 := sqUnit_len 86 v hv
      have h2 := sqUnit_len 115 s hs
      have h3 := sqPoint_len (sqDigits n.natAbs p) p
      have h4 : (sqTail v s).length ≤ 62 := by
        unfold sqTail
        split
        · simp; omega
        · split
          · simp; omega
          · split
            · simp; omega
            · simp
      have h5 : (sqSign n).length ≤ 1 := by
        unfold sqSign
        split <;> simp
      simp only [List.length_append]
      omega
  · simp
theorem DrawReadQty_ev (l : List Int) (hl : l.length ≤ 1048576) : EvP (fun k => spec_DrawReadQty.f k l) (fun t => t.size ≤ 1000) := by
  unfold spec_DrawReadQty.f
  refine EvP.next (l1New_ev l) ?_
  rintro ⟨l', p', h'⟩ ⟨rfl, hp⟩
  simp only at hp
  subst hp
  refine EvP.next (l20DrawQty_ev l' hl 0 h' (by omega) (by omega)) ?_
  rintro q hq
  refine EvP.next (sShow_ev q.1 q.2.1 q.2.2.1 q.2.2.2.1).p ?_
  rintro t ht
  have hsz : t.size ≤ 100 := by rw [ht, bs_size]; exact sqShow_len _ _ _ _
  obtain ⟨r, e, hb, hr⟩ := l1Below_ok l' q.2.2.2.2.1 q.2.2.2.2.2 4 hq.1 hq.2 hl
  refine EvP.next (Ev.p (Ev.here e)) ?_
  rintro r rfl
  refine EvP.both (fun _ => ?_) (fun _ => EvP.both (fun _ => EvP.both (fun hpos => ?_) (fun _ => EvP.now (by omega))) (fun _ => EvP.both (fun _ => ?_) (fun _ => EvP.now (by omega))))
  · obtain ⟨a, ea, ha, har⟩ := l1Pick_ok l' r.2.1 r.2.2 [(⟨#[52, 56]⟩ : ByteArray), ⟨#[53]⟩, ⟨#[45, 51]⟩, ⟨#[48, 46, 50, 53]⟩, ⟨#[49, 48, 48]⟩] hr.1 hr.2 hl (by decide)
    refine EvP.next (Ev.p (Ev.here ea)) ?_
    rintro a rfl
    obtain ⟨b, eb, hbm, _⟩ := l1Pick_ok l' a.2.1 a.2.2 [(⟨#[107, 72, 122]⟩ : ByteArray), ⟨#[109, 115]⟩, ⟨#[109, 86]⟩, ⟨#[194, 181, 115]⟩, ⟨#[86]⟩, ⟨#[71, 72, 122]⟩, ⟨#[110, 115]⟩, ⟨#[72, 122]⟩, ⟨#[77, 86]⟩, ⟨#[32, 86]⟩, ⟨#[32, 115, 45, 49]⟩, ⟨#[32, 86, 50, 42, 115]⟩, ⟨#[32, 86, 42, 115]⟩, ⟨#[32, 115, 42, 86]⟩, ⟨#[32, 86, 49]⟩, ⟨#[32, 86, 48]⟩, ⟨#[32, 115, 49, 48]⟩, ⟨#[32]⟩, ⟨#[88]⟩, ⟨#[107, 107]⟩] har.1 har.2 hl (by decide)
    refine EvP.next (Ev.p (Ev.here eb)) ?_
    rintro b rfl
    have s1 : a.1.size ≤ 20 := by
      have h : ∀ x ∈ [(⟨#[52, 56]⟩ : ByteArray), ⟨#[53]⟩, ⟨#[45, 51]⟩, ⟨#[48, 46, 50, 53]⟩, ⟨#[49, 48, 48]⟩], x.size ≤ 20 := by decide
      exact h _ ha
    have s2 : b.1.size ≤ 20 := by
      have h : ∀ x ∈ [(⟨#[107, 72, 122]⟩ : ByteArray), ⟨#[109, 115]⟩, ⟨#[109, 86]⟩, ⟨#[194, 181, 115]⟩, ⟨#[86]⟩, ⟨#[71, 72, 122]⟩, ⟨#[110, 115]⟩, ⟨#[72, 122]⟩, ⟨#[77, 86]⟩, ⟨#[32, 86]⟩, ⟨#[32, 115, 45, 49]⟩, ⟨#[32, 86, 50, 42, 115]⟩, ⟨#[32, 86, 42, 115]⟩, ⟨#[32, 115, 42, 86]⟩, ⟨#[32, 86, 49]⟩, ⟨#[32, 86, 48]⟩, ⟨#[32, 115, 49, 48]⟩, ⟨#[32]⟩, ⟨#[88]⟩, ⟨#[107, 107]⟩], x.size ≤ 20 := by decide
      exact h _ hbm
    exact EvP.pos (by omega) (EvP.now (by rw [ByteArray.size_append]; omega))
  · obtain ⟨i, ei, hi, hir⟩ := l1Below_ok l' r.2.1 r.2.2 (t.size : Int) hr.1 hr.2 hl
    refine EvP.next (Ev.p (Ev.here ei)) ?_
    rintro i rfl
    refine EvP.pos hi.1 (EvP.pos (by omega) ?_)
    obtain ⟨a, ea, ha, har⟩ := l1Pick_ok l' i.2.1 i.2.2 [(⟨#[]⟩ : ByteArray), ⟨#[48]⟩, ⟨#[45]⟩, ⟨#[46]⟩, ⟨#[32]⟩, ⟨#[86]⟩, ⟨#[115]⟩, ⟨#[42]⟩] hir.1 hir.2 hl (by decide)
    refine EvP.next (Ev.p (Ev.here ea)) ?_
    rintro a rfl
    have s1 : a.1.size ≤ 20 := by
      have h : ∀ x ∈ [(⟨#[]⟩ : ByteArray), ⟨#[48]⟩, ⟨#[45]⟩, ⟨#[46]⟩, ⟨#[32]⟩, ⟨#[86]⟩, ⟨#[115]⟩, ⟨#[42]⟩], x.size ≤ 20 := by decide
      exact h _ ha
    refine EvP.pos (by rw [ByteArray.size_extract]; omega) ?_
    obtain ⟨j, ej, hj, _⟩ := l1Below_ok l' a.2.1 a.2.2 2 har.1 har.2 hl
    refine EvP.next (Ev.p (Ev.here ej)) ?_
    rintro j rfl
    rw [w64 (by omega) (by omega)]
    refine EvP.pos (by omega) (EvP.pos (by omega) (EvP.pos ?_ (EvP.now ?_)))
    · rw [ByteArray.size_append, ByteArray.size_extract, ByteArray.size_extract]; omega
    · rw [ByteArray.size_append, ByteArray.size_append, ByteArray.size_extract, ByteArray.size_extract]; omega
  · obtain ⟨a, ea, ha, har⟩ := l1Pick_ok l' r.2.1 r.2.2 [(⟨#[]⟩ : ByteArray), ⟨#[45]⟩, ⟨#[48]⟩, ⟨#[45, 48]⟩, ⟨#[48, 48]⟩, ⟨#[49, 46]⟩, ⟨#[46, 53]⟩, ⟨#[49, 46, 53, 48]⟩, ⟨#[49, 50, 51, 52, 53, 54, 55, 56, 57]⟩, ⟨#[49, 50, 51, 52, 53, 54, 55, 56, 57, 48]⟩, ⟨#[48, 46, 49, 50, 51, 52, 53, 54, 55, 56]⟩, ⟨#[48, 46, 49, 50, 51, 52, 53, 54, 55, 56, 57]⟩, ⟨#[49, 48, 48, 48, 48, 48, 48, 48, 48, 48]⟩] hr.1 hr.2 hl (by decide)
    refine EvP.next (Ev.p (Ev.here ea)) ?_
    rintro a rfl
    have s1 : a.1.size ≤ 20 := by
      have h : ∀ x ∈ [(⟨#[]⟩ : ByteArray), ⟨#[45]⟩, ⟨#[48]⟩, ⟨#[45, 48]⟩, ⟨#[48, 48]⟩, ⟨#[49, 46]⟩, ⟨#[46, 53]⟩, ⟨#[49, 46, 53, 48]⟩, ⟨#[49, 50, 51, 52, 53, 54, 55, 56, 57]⟩, ⟨#[49, 50, 51, 52, 53, 54, 55, 56, 57, 48]⟩, ⟨#[48, 46, 49, 50, 51, 52, 53, 54, 55, 56]⟩, ⟨#[48, 46, 49, 50, 51, 52, 53, 54, 55, 56, 57]⟩, ⟨#[49, 48, 48, 48, 48, 48, 48, 48, 48, 48]⟩], x.size ≤ 20 := by decide
      exact h _ ha
    exact EvP.now (by omega)
theorem DrawShowQty_ev (l : List Int) (hl : l.length ≤ 1048576) : EvP (fun k => spec_DrawShowQty.f k l) (fun _ => True) := by
  unfold spec_DrawShowQty.f
  refine EvP.next (l1New_ev l) ?_
  rintro ⟨l', p', h'⟩ ⟨rfl, hp⟩
  simp only at hp
  subst hp
  refine EvP.next (l20DrawQty_ev l' hl 0 h' (by omega) (by omega)) ?_
  rintro q hq
  exact EvP.now trivial
theorem back_48 : Ev (fun k => impl_ReadQty.f k (⟨#[52, 56, 107, 72, 122]⟩ : ByteArray)) (48, 3, 0, -1, true) := by
  have := iRead_ev [52, 56, 107, 72, 122] (by decide)
  rw [qRead_48] at this
  exact this
theorem back_j1 (l : List Int) (hl : l.length ≤ 1048576) : EvP (fun k => laws_FnQtyBack.j1 k l false) (· = true) := by
  refine EvP.succ ?_
  simp only [laws_FnQtyBack.j1]
  refine EvP.neg (by decide) (EvP.next (DrawReadQty_ev l hl) ?_)
  intro t ht
  have hb := bs_of t
  have hsz : t.data.toList.length ≤ 1048576 := by
    have : t.size = t.data.toList.length := by rw [Array.length_toList]; rfl
    omega
  obtain ⟨x, hx⟩ : ∃ x, t.data.toList = x := ⟨_, rfl⟩
  rw [hx] at hb hsz
  rw [hb]
  refine EvP.next (iRead_ev x hsz).p ?_
  rintro _ rfl
  refine EvP.next (sRead_ev x hsz).p ?_
  rintro _ rfl
  refine EvP.neg (by simp) ?_
  have fin : EvP (fun k => (impl_ReadQty.f k (⟨#[52, 56, 107, 72, 122]⟩ : ByteArray)).bind fun bt466 => (if bt466.2.2.2.2 = true then (some (bt466.1 == 48 && (bt466.2.1 == 3 && (bt466.2.2.1 == 0 && (bt466.2.2.2.1 == (-1)))))) else (some false))) (· = true) := by
    refine EvP.next back_48.p ?_
    rintro _ rfl
    exact EvP.pos rfl (EvP.now rfl)
  refine EvP.both (fun h => ?_) (fun _ => fin)
  rw [iQtyOk_eq]
  simp only [Option.bind_some]
  exact EvP.pos (qRead_ok h) fin
theorem FnQtyBack (l0 : List Int) (l1 : List Int) (m0 : l0.length ≤ maxLen) (w0 : ∀ x ∈ l0, (Lit.int .u8 x).wf = true) (m1 : l1.length ≤ maxLen) (w1 : ∀ x ∈ l1, (Lit.int .u8 x).wf = true) : ∃ k, laws_FnQtyBack.f k l0 l1 = some true := by
  refine EvP.law ?_
  have big : EvP (fun k => laws_FnQtyBack.j0 k l0 l1 true) (· = true) := by
    refine EvP.succ ?_
    simp only [laws_FnQtyBack.j0]
    exact EvP.pos trivial (EvP.now rfl)
  unfold laws_FnQtyBack.f laws_big.f
  simp only [Option.bind_some]
  refine EvP.both (fun _ => big) (fun h0 => ?_)
  by_cases h1 : decide ((l1.length : Int) > 1048576) = true
  · rw [h1]; exact big
  · have e1 : decide ((l1.length : Int) > 1048576) = false := by simpa using h1
    rw [e1]
    have hl0 : l0.length ≤ 1048576 := by simp at h0; omega
    have hl1 : l1.length ≤ 1048576 := by simp at h1; omega
    refine EvP.succ ?_
    simp only [laws_FnQtyBack.j0]
    refine EvP.neg (by decide) (EvP.next (DrawShowQty_ev l0 hl0) ?_)
    rintro ⟨n, p, v, s⟩ _
    refine EvP.next (iShow_ev n p v s).p ?_
    rintro _ rfl
    refine EvP.next (sShow_ev n p v s).p ?_
    rintro _ rfl
    refine EvP.pos rfl (EvP.next (iRead_ev (sqShow n p v s) (Nat.le_trans (sqShow_len n p v s) (by decide))).p ?_)
    rintro _ rfl
    rw [bs_toList]
    refine EvP.both (fun _ => back_j1 l1 hl1) (fun hne => ?_)
    have hq : qtyB n p v s = true := by
      by_cases hq : qtyB n p v s = true
      · exact hq
      · exact absurd (by unfold sqShow; rw [if_neg hq]) hne
    have es : sqShow n p v s = sqOut n p v s := by unfold sqShow; rw [if_pos hq]
    have h9 : ¬ 9 < (sqDigits n.natAbs p).length := by
      intro h9
      exact absurd (by rw [es]; unfold sqOut; rw [if_pos h9]) hne
    rw [es, qRead_show n p v s hq h9]
    refine EvP.pos rfl ?_
    have e : (!(n == n) || (!(p == p) || (!(v == v) || (!(s == s))))) = false := by simp
    rw [e]
    exact back_j1 l1 hl1
end Go.Proofs.YtanohnlddaneeaaGreatDoor.Pure
