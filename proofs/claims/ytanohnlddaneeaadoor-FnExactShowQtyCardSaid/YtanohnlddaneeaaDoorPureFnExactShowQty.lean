import Derived.Test.YtanohnlddaneeaaDoorPFnExactShowQtyx5
import Derived.Test.YtanohnlddaneeaaDoorAid
set_option linter.unusedVariables false
set_option linter.unusedSimpArgs false
namespace Go.Proofs.YtanohnlddaneeaaDoor.Pure
open Go Go.RowKit Go.Proofs.YtanohnlddaneeaaDoor.PFnExactShowQty Go.Proofs.YtanohnlddaneeaaDoorW.PrintWords Go.Proofs.YtanohnlddaneeaaDoorW.PrintLast Go.Proofs.YtanohnlddaneeaaDoorW.PrintMore
/-! Strings as lists of bytes. -/
def bs (l : List UInt8) : ByteArray := ⟨l.toArray⟩
theorem bs_size (l : List UInt8) : (bs l).size = l.length := by simp [bs, ByteArray.size]
theorem bs_data (l : List UInt8) : (bs l).data.toList = l := rfl
theorem bs_toList (l : List UInt8) : (bs l).toList = l := by rw [ByteArray.toList_eq, bs_data]
theorem bs_of (s : ByteArray) : s = bs s.data.toList := by cases s; rfl
theorem bs_append (l m : List UInt8) : bs l ++ bs m = bs (l ++ m) := by
  apply ByteArray.ext
  rw [ByteArray.data_append]
  simp [bs]
theorem bs_extract (l : List UInt8) (i j : Nat) : (bs l).extract i j = bs ((l.take j).drop i) := by
  apply ByteArray.ext
  rw [ByteArray.data_extract]
  simp only [bs]
  apply Array.ext'
  simp
  try rw [List.drop_take]
theorem bs_inj {l m : List UInt8} (h : bs l = bs m) : l = m := by
  have := congrArg (fun s => s.data.toList) h
  simpa [bs_data] using this
theorem bs_eq_nil (l : List UInt8) : (bs l).toList = ([] : List UInt8) ↔ l = [] := by rw [bs_toList]
theorem strOfNums_bs (l : List Int) : strOfNums l = bs (l.map fun x => UInt8.ofNat x.toNat) := by
  cases h : strOfNums l
  have h2 := strOfNums_data l
  rw [h] at h2
  unfold bs
  congr 1
  apply Array.ext'
  first
  | exact h2
  | simpa using h2
theorem dd_small {n : Nat} (h : n < 10) : Lib.decDigits n = [UInt8.ofNat (48 + n)] := by rw [Lib.decDigits, dif_pos h]
theorem dd_big {n : Nat} (h : ¬ n < 10) : Lib.decDigits n = Lib.decDigits (n / 10) ++ [UInt8.ofNat (48 + n % 10)] := by rw [Lib.decDigits, dif_neg h]
theorem tdiv10 (n : Nat) : Int.tdiv (n : Int) 10 = ((n / 10 : Nat) : Int) := by
  rw [Int.tdiv_eq_ediv_of_nonneg (by omega)]; rfl
theorem tmod10n (n : Nat) : Int.tmod (n : Int) 10 = ((n % 10 : Nat) : Int) := by
  rw [Int.tmod_eq_emod_of_nonneg (by omega)]; rfl
theorem digit_bs (n : Nat) : strOfNums ([(wrap64 (48 + (Int.tmod (n : Int) 10))) % 256] : List Int) = bs [UInt8.ofNat (48 + n % 10)] := by
  rw [strOfNums_bs, tmod10n, w64 (by omega) (by omega)]
  simp only [List.map_cons, List.map_nil]
  rw [show ((48 + ((n % 10 : Nat) : Int)) % 256).toNat = 48 + n % 10 by omega]
theorem l2Itoa_l0 : ∀ (d n : Nat) (x : List UInt8), n ≤ d → n ≤ 1000000000000000000 → x.length + d ≤ 4000000000000000000 →
    Ev (fun k => spec_l2Itoa.l0 k (n : Int) (bs x)) (bs ((if n < 10 then [] else Lib.decDigits (n / 10)) ++ x)) := by
  intro d
  induction d with
  | zero =>
    intro n x h h1 h2
    refine Ev.succ ?_
    simp only [spec_l2Itoa.l0]
    refine Ev.neg (by omega) (Ev.some_ ?_)
    rw [if_pos (by omega)]; rfl
  | succ d ih =>
    intro n x h h1 h2
    refine Ev.succ ?_
    simp only [spec_l2Itoa.l0]
    by_cases hn : n < 10
    · refine Ev.neg (by omega) (Ev.some_ ?_)
      rw [if_pos hn]; rfl
    · refine Ev.pos (by omega) ?_
      have e10 : wrap64 ((n / 10 : Nat) : Int) = ((n / 10 : Nat) : Int) := w64 (by omega) (by omega)
      rw [tdiv10, e10]
      refine Ev.next (Ev.some_ rfl) ?_
      rw [digit_bs, bs_append]
      refine Ev.pos (by rw [bs_size, bs_size]; simp; omega) ((ih (n / 10) _ (by omega) (by omega) (by simp; omega)).to ?_)
      rw [if_neg hn]
      by_cases hm : n / 10 < 10
      · rw [if_pos hm, dd_small hm, Nat.mod_eq_of_lt hm]; rfl
      · rw [if_neg hm, dd_big hm, List.append_assoc]
theorem l2Itoa_nat (n : Nat) (h1 : n ≤ 1000000000000000000) : Ev (fun k => spec_l2Itoa.f k (n : Int)) (bs (Lib.decDigits n)) := by
  refine Ev.succ ?_
  simp only [spec_l2Itoa.f]
  refine Ev.neg (by omega) ?_
  rw [digit_bs]
  refine (l2Itoa_l0 n n _ (Nat.le_refl _) h1 (by simp; omega)).to ?_
  by_cases hn : n < 10
  · rw [if_pos hn, dd_small hn, Nat.mod_eq_of_lt hn]; rfl
  · rw [if_neg hn, ← dd_big hn]
theorem l2Itoa_ev (n : Int) (h0 : -1000000000000000000 ≤ n) (h1 : n ≤ 1000000000000000000) : Ev (fun k => spec_l2Itoa.f k n) (bs (Lib.itoa n)) := by
  unfold Lib.itoa
  by_cases hn : n < 0
  · rw [if_pos hn]
    refine Ev.succ ?_
    simp only [spec_l2Itoa.f]
    refine Ev.pos hn ?_
    rw [w64 (by omega) (by omega), show -n = ((n.natAbs : Nat) : Int) by omega]
    refine Ev.next (l2Itoa_nat n.natAbs (by omega)) (Ev.pos ?_ (Ev.some_ ?_))
    · rw [bs_size, Lib.decDigits_length]
      have := Lib.nDigits_le20 n.natAbs (by omega)
      omega
    · exact bs_append [45] _
  · rw [if_neg hn]
    have := l2Itoa_nat n.toNat (by omega)
    rwa [Int.toNat_of_nonneg (by omega)] at this
def qtyB (n p v s : Int) : Bool := decide ((-1000000000 ≤ n ∧ n ≤ 1000000000) ∧ (n % 10 ≠ 0 ∨ n = 0 ∧ p = 0) ∧ (-30 ≤ p ∧ p ≤ 30) ∧ (-9 ≤ v ∧ v ≤ 9) ∧ (-9 ≤ s ∧ s ≤ 9))
theorem tmod10 (n : Int) : Int.tmod n 10 = 0 ↔ n % 10 = 0 := by
  rw [← Int.dvd_iff_emod_eq_zero, ← Int.dvd_iff_tmod_eq_zero]
/-! What ShowQty tells, as a list of bytes. -/
theorem dd_mem : ∀ (d n : Nat), n ≤ d → ∀ x ∈ Lib.decDigits n, 48 ≤ x.toNat ∧ x.toNat ≤ 57 := by
  intro d
  induction d with
  | zero =>
    intro n h x hx
    rw [dd_small (by omega)] at hx
    simp only [List.mem_cons, List.not_mem_nil, or_false] at hx
    subst hx
    simp; omega
  | succ d ih =>
    intro n h x hx
    by_cases hn : n < 10
    · rw [dd_small hn] at hx
      simp only [List.mem_cons, List.not_mem_nil, or_false] at hx
      subst hx
      simp; omega
    · rw [dd_big hn, List.mem_append] at hx
      rcases hx with hx | hx
      · exact ih (n / 10) (by omega) x hx
      · simp only [List.mem_cons, List.not_mem_nil, or_false] at hx
        subst hx
        simp; omega
theorem dd_len {n : Nat} (h : n ≤ 1000000000) : 1 ≤ (Lib.decDigits n).length ∧ (Lib.decDigits n).length ≤ 10 := by
  rw [Lib.decDigits_length]
  refine ⟨Lib.nDigits_pos n, ?_⟩
  by_cases h9 : Lib.nDigits n ≤ 10
  · exact h9
  · exfalso
    have e : ∀ k m : Nat, m < 10 ^ (k + 1) → Lib.nDigits m ≤ k + 1 := by
      intro k
      induction k with
      | zero => intro m hm; rw [Lib.nDigits_small (by simpa using hm)]; omega
      | succ k ih =>
        intro m hm
        by_cases h10 : m < 10
        · rw [Lib.nDigits_small h10]; omega
        · rw [Lib.nDigits_big h10]
          have := ih (m / 10) (by rw [Nat.pow_succ] at hm; omega)
          omega
    have := e 9 n (by have : (10 : Nat) ^ (9 + 1) = 10000000000 := by decide
                      omega)
    omega
def sqDigits (a : Nat) (p : Int) : List UInt8 := if 0 ≤ p then Lib.decDigits a ++ List.replicate p.toNat 48 else List.replicate ((-p).toNat + 1 - (Lib.decDigits a).length) 48 ++ Lib.decDigits a
def sqPoint (E : List UInt8) (p : Int) : List UInt8 := if 0 ≤ p then E else E.take (E.length - (-p).toNat) ++ 46 :: E.drop (E.length - (-p).toNat)
def sqUnit (c : UInt8) (n : Int) : List UInt8 := if n = 0 then [] else if n = 1 then [c] else c :: Lib.itoa n
def sqTail (v s : Int) : List UInt8 := if v ≠ 0 ∧ s ≠ 0 then 32 :: sqUnit 86 v ++ 42 :: sqUnit 115 s else if v ≠ 0 then 32 :: sqUnit 86 v else if s ≠ 0 then 32 :: sqUnit 115 s else []
def sqSign (n : Int) : List UInt8 := if n < 0 then [45] else []
def sqOut (n p v s : Int) : List UInt8 := if 9 < (sqDigits n.natAbs p).length then [] else sqSign n ++ sqPoint (sqDigits n.natAbs p) p ++ sqTail v s
def sqShow (n p v s : Int) : List UInt8 := if qtyB n p v s = true then sqOut n p v s else []
theorem sqUnit_len (c : UInt8) (n : Int) (h : -9 ≤ n ∧ n ≤ 9) : (sqUnit c n).length ≤ 30 := by
  unfold sqUnit
  split
  · simp
  · split
    · simp
    · have := Lib.itoa_length_le n (by omega) (by omega)
      simp; omega
theorem sqUnit_nil (c : UInt8) (n : Int) : sqUnit c n = [] ↔ n = 0 := by
  unfold sqUnit
  split
  · simp [*]
  · split
    · simp [*]
    · simp [*]
theorem sqDigits_len (a : Nat) (p : Int) (ha : a ≤ 1000000000) (hp : -30 ≤ p ∧ p ≤ 30) : 1 ≤ (sqDigits a p).length ∧ (sqDigits a p).length ≤ 41 ∧ (p < 0 → (-p).toNat < (sqDigits a p).length) := by
  have hd := dd_len ha
  unfold sqDigits
  split
  · simp only [List.length_append, List.length_replicate]; omega
  · simp only [List.length_append, List.length_replicate]; omega
theorem sqDigits_mem (a : Nat) (p : Int) : ∀ x ∈ sqDigits a p, 48 ≤ x.toNat ∧ x.toNat ≤ 57 := by
  intro x hx
  unfold sqDigits at hx
  have r : ∀ k, x ∈ List.replicate k (48 : UInt8) → 48 ≤ x.toNat ∧ x.toNat ≤ 57 := by
    intro k hk
    have := List.eq_of_mem_replicate hk
    subst this
    decide
  split at hx
  · rcases List.mem_append.1 hx with h | h
    · exact dd_mem a a (Nat.le_refl _) x h
    · exact r _ h
  · rcases List.mem_append.1 hx with h | h
    · exact r _ h
    · exact dd_mem a a (Nat.le_refl _) x h
theorem no46 {E : List UInt8} (h : ∀ x ∈ E, 48 ≤ x.toNat ∧ x.toNat ≤ 57) : (46 : UInt8) ∉ E := by
  intro hm
  have := h _ hm
  simp at this
theorem sqPoint_len (E : List UInt8) (p : Int) : (sqPoint E p).length ≤ E.length + 1 := by
  unfold sqPoint
  split
  · omega
  · simp; omega
/-! strings.Replace(d, ".", "", 1) -/
theorem index_point : ∀ (E1 E2 : List UInt8), (46 : UInt8) ∉ E1 → Lib.index (E1 ++ 46 :: E2) [46] = E1.length := by
  intro E1
  induction E1 with
  | nil => intro E2 _; simp [Lib.index]
  | cons b l ih =>
    intro E2 h
    have hb : ¬ (46 : UInt8) = b := fun e => h (by rw [e]; exact List.mem_cons_self)
    have hl : (46 : UInt8) ∉ l := fun e => h (List.mem_cons_of_mem _ e)
    have hi := ih E2 hl
    rw [List.cons_append, Lib.index]
    rw [if_neg (by simp [hb]), hi, if_neg (by simp)]
    simp
theorem replace_point (E1 E2 : List UInt8) (h : (46 : UInt8) ∉ E1) : Lib.replace (E1 ++ 46 :: E2) [46] [] 1 = E1 ++ E2 := by
  have hc : 1 ≤ Lib.count (E1 ++ 46 :: E2) [46] := by rw [Lib.count_one]; simp; omega
  unfold Lib.replace
  rw [if_neg (by decide)]
  have hn : Lib.replaceNum (E1 ++ 46 :: E2) [46] 1 = 1 := by
    unfold Lib.replaceNum
    split
    · omega
    · rfl
  rw [hn, Lib.replaceK_hit _ _ _ _ _ (index_point E1 E2 h), Lib.replaceK]
  simp
theorem replace_none (E : List UInt8) (h : (46 : UInt8) ∉ E) : Lib.replace E [46] [] 1 = E := by
  have hc : Lib.count E [46] = 0 := by rw [Lib.count_one]; exact List.count_eq_zero.2 h
  unfold Lib.replace
  rw [if_neg (by decide)]
  have hn : Lib.replaceNum E [46] 1 = 0 := by
    unfold Lib.replaceNum
    rw [hc]
    rfl
  rw [hn, Lib.replaceK]
theorem replace_sqPoint (E : List UInt8) (p : Int) (h : ∀ x ∈ E, 48 ≤ x.toNat ∧ x.toNat ≤ 57) : Lib.replace (sqPoint E p) [46] [] 1 = E := by
  unfold sqPoint
  split
  · exact replace_none E (no46 h)
  · rw [replace_point _ _ (fun hm => no46 h (List.mem_of_mem_take hm)), List.take_append_drop]
theorem to_eq (a b c : Int) : impl_to.f a b c = some (decide (b ≤ a) && decide (a ≤ c)) := by
  unfold impl_to.f
  by_cases h : a ≥ b
  · rw [if_pos h]; simp [show b ≤ a from h]
  · rw [if_neg h]; simp [show ¬ b ≤ a from h]
theorem sample_eq (a : Int) : impl_sample.f a = some (decide (-1000000000 ≤ a ∧ a ≤ 1000000000)) := by
  unfold impl_sample.f
  by_cases h : a ≥ -1000000000 <;> simp [h]
theorem iQtyOk_eq (n p v s : Int) : impl_QtyOk.f n p v s = some (qtyB n p v s) := by
  unfold impl_QtyOk.f
  simp only [sample_eq, to_eq, Option.bind_some]
  have h10 := tmod10 n
  have fin : (if (decide (-30 ≤ p) && decide (p ≤ 30)) = true then (if (decide (-9 ≤ v) && decide (v ≤ 9)) = true then some (decide (-9 ≤ s) && decide (s ≤ 9)) else some false) else some false) = some (decide ((-30 ≤ p ∧ p ≤ 30) ∧ (-9 ≤ v ∧ v ≤ 9) ∧ (-9 ≤ s ∧ s ≤ 9))) := by
    by_cases h1 : -30 ≤ p ∧ p ≤ 30
    · rw [if_pos (by simp [h1])]
      by_cases h2 : -9 ≤ v ∧ v ≤ 9
      · rw [if_pos (by simp [h2])]; simp [h1, h2]
      · rw [if_neg (by simp; omega)]; symm; simp; omega
    · rw [if_neg (by simp; omega)]; symm; simp; omega
  rw [fin]
  unfold qtyB
  by_cases h1 : -1000000000 ≤ n ∧ n ≤ 1000000000
  · rw [if_pos (by simp [h1])]
    by_cases h2 : Int.tmod n 10 = 0
    · rw [if_pos h2]
      by_cases h3 : n = 0
      · rw [if_pos h3]
        by_cases h4 : p = 0
        · rw [if_pos h4, Option.some.injEq, decide_eq_decide]; omega
        · rw [if_neg h4, Option.some.injEq]; symm; simp only [decide_eq_false_iff_not]; omega
      · rw [if_neg h3, Option.some.injEq]; symm; simp only [decide_eq_false_iff_not]; omega
    · rw [if_neg h2, Option.some.injEq, decide_eq_decide]; omega
  · rw [if_neg (by simp; omega), Option.some.injEq]; symm; simp only [decide_eq_false_iff_not]; omega
theorem size_eq_abs (n : Int) (h : -1000000000 ≤ n ∧ n ≤ 1000000000) : impl_size.f n = some (n.natAbs : Int) := by
  unfold impl_size.f mx
  rw [w64 (by omega) (by omega), Option.some.injEq]
  split <;> omega
theorem Itoa15_eq (n : Int) (h0 : -1000000000000000000 ≤ n) (h1 : n ≤ 1000000000000000000) : strconv_Itoa_15.f n = some (bs (Lib.itoa n)) := by
  unfold strconv_Itoa_15.f
  rw [if_pos (by omega), if_pos (by omega)]; rfl
theorem rep48 (c : Nat) : Lib.repeatL [48] c = List.replicate c 48 := by
  have := Lib.repeatL_replicate 48 1 c
  simpa using this
theorem Repeat48 (c : Int) (h0 : 0 ≤ c) (h1 : c ≤ 1000) : strings_Repeat.f (⟨#[48]⟩ : ByteArray) c = some (bs (List.replicate c.toNat 48)) := by
  unfold strings_Repeat.f
  have e : (⟨#[48]⟩ : ByteArray) = bs [48] := rfl
  rw [if_pos h0, e, if_pos (by rw [bs_size]; simp; omega), if_pos (by omega), bs_data, rep48]; rfl
theorem Replace46 (E : List UInt8) (p : Int) (h : ∀ x ∈ E, 48 ≤ x.toNat ∧ x.toNat ≤ 57) (hl : E.length ≤ 1000) : strings_Replace.f (bs (sqPoint E p)) (⟨#[46]⟩ : ByteArray) (⟨#[]⟩ : ByteArray) 1 = some (bs E) := by
  have hp := sqPoint_len E p
  unfold strings_Replace.f
  have e : (⟨#[46]⟩ : ByteArray) = bs [46] := rfl
  have e2 : (⟨#[]⟩ : ByteArray) = bs [] := rfl
  rw [e, e2, if_pos (by rw [bs_size]; omega), if_pos (by rw [bs_size]; simp), if_pos (by rw [bs_size, bs_size]; simp; omega), bs_data, bs_data, bs_data, replace_sqPoint E p h]; rfl
theorem iUnit_eq (c : UInt8) (n : Int) (h : -9 ≤ n ∧ n ≤ 9) : impl_unit.f (bs [c]) n = some (bs (sqUnit c n)) := by
  have hl := Lib.itoa_length_le n (by omega) (by omega)
  unfold impl_unit.f sqUnit
  by_cases h0 : n = 0
  · rw [if_pos h0, if_pos h0]; rfl
  · rw [if_neg h0, if_neg h0]
    by_cases h1 : n = 1
    · rw [if_pos h1, if_pos h1]
    · rw [if_neg h1, if_neg h1, Itoa15_eq n (by omega) (by omega), Option.bind_some, if_pos (by rw [bs_size, bs_size]; simp; omega), bs_append]; rfl
def sqJ (V S : List UInt8) (v s : Int) : List UInt8 := if v ≠ 0 ∧ s ≠ 0 then 32 :: V ++ 42 :: S else if v ≠ 0 then 32 :: V else if s ≠ 0 then 32 :: S else []
theorem iShow_j2 (d V S : List UInt8) (v s : Int) (hV : V = [] ↔ v = 0) (hS : S = [] ↔ s = 0) (hd : d.length ≤ 1000) (hv : V.length ≤ 1000) (hs : S.length ≤ 1000) :
    Ev (fun k => if (bs V).toList = ([] : List UInt8) then (impl_ShowQty.j2 k (bs d) (bs V) (bs S) false) else (impl_ShowQty.j2 k (bs d) (bs V) (bs S) ((bs S).toList != ([] : List UInt8))))
      (bs (d ++ sqJ V S v s)) := by
  have e32 : (⟨#[32]⟩ : ByteArray) = bs [32] := rfl
  have e42 : (⟨#[42]⟩ : ByteArray) = bs [42] := rfl
  have dos : ∀ b : Bool, b = (decide (v ≠ 0 ∧ s ≠ 0)) → Ev (fun k => impl_ShowQty.j2 k (bs d) (bs V) (bs S) b) (bs (d ++ sqJ V S v s)) := by
    intro b hb
    refine Ev.succ ?_
    simp only [impl_ShowQty.j2, e32, e42, bs_append, bs_size, bs_toList, List.length_append, List.length_cons, List.length_nil]
    by_cases h0 : v = 0
    · have hV0 := hV.2 h0
      refine Ev.neg (by rw [hb]; simp [h0]) (Ev.pos hV0 ?_)
      by_cases h1 : s = 0
      · exact Ev.pos (hS.2 h1) (Ev.some_ (by unfold sqJ; simp [h0, h1]))
      · refine Ev.neg (fun e => h1 (hS.1 e)) ?_
        refine Ev.pos (by omega) (Ev.pos (by omega) (Ev.pos (by omega) (Ev.some_ ?_)))
        unfold sqJ
        rw [hV0]
        simp [h0, h1]
    · by_cases h1 : s = 0
      · refine Ev.neg (by rw [hb]; simp [h1]) (Ev.neg (fun e => h0 (hV.1 e)) ?_)
        refine Ev.pos (by omega) (Ev.pos (by omega) (Ev.pos (by omega) (Ev.some_ ?_)))
        unfold sqJ
        rw [hS.2 h1]
        simp [h0, h1]
      · refine Ev.pos (by rw [hb]; simp [h0, h1]) ?_
        refine Ev.pos (by omega) (Ev.pos (by omega) (Ev.pos (by omega) (Ev.pos (by omega) (Ev.some_ ?_))))
        unfold sqJ
        simp [h0, h1]
  by_cases h0 : v = 0
  · exact Ev.pos (by rw [bs_toList]; exact hV.2 h0) (dos false (by simp [h0]))
  · refine Ev.neg (by rw [bs_toList]; exact fun e => h0 (hV.1 e)) (dos _ ?_)
    rw [bs_toList]
    by_cases h1 : s = 0
    · rw [hS.2 h1]; simp [h1]
    · have : S ≠ [] := fun e => h1 (hS.1 e)
      simp [h0, h1, this]
theorem iShow_j1 (d : List UInt8) (n p v s : Int) (hv : -9 ≤ v ∧ v ≤ 9) (hs : -9 ≤ s ∧ s ≤ 9) (hd : d.length ≤ 1000) :
    Ev (fun k => impl_ShowQty.j1 k (bs d) n p v s) (bs (d ++ sqTail v s)) := by
  refine Ev.succ ?_
  simp only [impl_ShowQty.j1]
  have e86 : (⟨#[86]⟩ : ByteArray) = bs [86] := rfl
  have e115 : (⟨#[115]⟩ : ByteArray) = bs [115] := rfl
  rw [e86, e115, iUnit_eq 86 v hv, iUnit_eq 115 s hs]
  simp only [Option.bind_some]
  have h1 := sqUnit_len 86 v hv
  have h2 := sqUnit_len 115 s hs
  exact iShow_j2 d (sqUnit 86 v) (sqUnit 115 s) v s (sqUnit_nil 86 v) (sqUnit_nil 115 s) hd (by omega) (by omega)
theorem iShow_j0 (E : List UInt8) (n p v s : Int) (hE : ∀ x ∈ E, 48 ≤ x.toNat ∧ x.toNat ≤ 57) (hl : E.length ≤ 100) (hv : -9 ≤ v ∧ v ≤ 9) (hs : -9 ≤ s ∧ s ≤ 9) :
    Ev (fun k => impl_ShowQty.j0 k (bs (sqPoint E p)) n p v s) (bs (if 9 < E.length then [] else sqSign n ++ sqPoint E p ++ sqTail v s)) := by
  have hp := sqPoint_len E p
  refine Ev.succ ?_
  simp only [impl_ShowQty.j0]
  rw [Replace46 E p hE (by omega)]
  simp only [Option.bind_some, bs_size]
  by_cases h9 : 9 < E.length
  · rw [if_pos h9]
    exact Ev.pos (by omega) (Ev.some_ rfl)
  · rw [if_neg h9]
    refine Ev.neg (by omega) ?_
    unfold sqSign
    by_cases hn : n < 0
    · rw [if_pos hn]
      refine Ev.pos hn (Ev.pos (by omega) ?_)
      rw [show (⟨#[45]⟩ : ByteArray) = bs [45] from rfl, bs_append]
      exact iShow_j1 _ n p v s hv hs (by simp; omega)
    · rw [if_neg hn]
      exact Ev.neg hn (iShow_j1 _ n p v s hv hs (by omega))
theorem iShow_ev (n p v s : Int) : Ev (fun k => impl_ShowQty.f k n p v s) (bs (sqShow n p v s)) := by
  unfold impl_ShowQty.f sqShow
  rw [iQtyOk_eq]
  simp only [Option.bind_some]
  by_cases hq : qtyB n p v s = true
  · rw [if_pos hq]
    refine Ev.pos hq ?_
    have hq' := of_decide_eq_true hq
    obtain ⟨hn, _, hp, hv, hs⟩ := hq'
    rw [size_eq_abs n hn]
    simp only [Option.bind_some]
    rw [Itoa15_eq _ (by omega) (by omega)]
    simp only [Option.bind_some]
    have ea : Lib.itoa (n.natAbs : Int) = Lib.decDigits n.natAbs := by
      unfold Lib.itoa
      rw [if_neg (by omega)]; rfl
    rw [ea]
    have hD := dd_len (n := n.natAbs) (by omega)
    have hL := sqDigits_len n.natAbs p (by omega) hp
    have hM := sqDigits_mem n.natAbs p
    have J := iShow_j0 (sqDigits n.natAbs p) n p v s hM (by omega) hv hs
    unfold sqOut
    by_cases h0 : 0 ≤ p
    · refine Ev.pos h0 ?_
      rw [Repeat48 p h0 (by omega)]
      simp only [Option.bind_some, bs_append, bs_size, List.length_replicate]
      refine Ev.pos (by omega) ?_
      have e : sqPoint (sqDigits n.natAbs p) p = Lib.decDigits n.natAbs ++ List.replicate p.toNat 48 := by
        unfold sqPoint sqDigits
        rw [if_pos h0, if_pos h0]
      rwa [e] at J ⊢
    · refine Ev.neg h0 ?_
      have cut : ∀ (E : List UInt8), E = sqDigits n.natAbs p → Ev (fun k => if 0 ≤ (wrap64 (((bs E).size : Int) + p)) then (if (wrap64 (((bs E).size : Int) + p)) ≤ ((bs E).size : Int) then (if ((bs E).extract 0 ((wrap64 (((bs E).size : Int) + p)) : Int).toNat).size + 1 ≤ 9223372036854775807 then (if (((bs E).extract 0 ((wrap64 (((bs E).size : Int) + p)) : Int).toNat) ++ (⟨#[46]⟩ : ByteArray)).size + ((bs E).extract ((wrap64 (((bs E).size : Int) + p)) : Int).toNat (bs E).size).size ≤ 9223372036854775807 then (impl_ShowQty.j0 k ((((bs E).extract 0 ((wrap64 (((bs E).size : Int) + p)) : Int).toNat) ++ (⟨#[46]⟩ : ByteArray)) ++ ((bs E).extract ((wrap64 (((bs E).size : Int) + p)) : Int).toNat (bs E).size)) n p v s) else (none)) else (none)) else (none)) else (none)) (bs (if 9 < (sqDigits n.natAbs p).length then [] else sqSign n ++ sqPoint (sqDigits n.natAbs p) p ++ sqTail v s)) := by
        intro E hE
        subst hE
        have hpl := hL.2.2 (by omega)
        rw [show (⟨#[46]⟩ : ByteArray) = bs [46] from rfl]
        simp only [bs_extract, bs_append, bs_size]
        rw [w64 (by omega) (by omega)]
        refine Ev.pos (by omega) (Ev.pos (by omega) (Ev.pos (by simp; omega) (Ev.pos (by simp; omega) ?_)))
        have e : sqPoint (sqDigits n.natAbs p) p = List.drop 0 (List.take ((((sqDigits n.natAbs p).length : Int) + p).toNat) (sqDigits n.natAbs p)) ++ [46] ++ List.drop ((((sqDigits n.natAbs p).length : Int) + p).toNat) (List.take (sqDigits n.natAbs p).length (sqDigits n.natAbs p)) := by
          unfold sqPoint
          rw [if_neg h0, show (((sqDigits n.natAbs p).length : Int) + p).toNat = (sqDigits n.natAbs p).length - (-p).toNat by omega]
          simp
        rw [e] at J
        rw [e]
        exact J
      rw [bs_size, w64 (n := -p) (by omega) (by omega), w64 (n := -p + 1) (by omega) (by omega), w64 (n := -p + 1 - _) (by omega) (by omega)]
      by_cases hl : ((Lib.decDigits n.natAbs).length : Int) ≤ -p
      · refine Ev.pos hl ?_
        rw [Repeat48 _ (by omega) (by omega)]
        simp only [Option.bind_some, bs_append]
        refine Ev.pos (by rw [bs_size, List.length_replicate]; omega) (cut _ ?_)
        unfold sqDigits
        rw [if_neg h0, show (-p + 1 - ((Lib.decDigits n.natAbs).length : Int)).toNat = (-p).toNat + 1 - (Lib.decDigits n.natAbs).length by omega]
      · refine Ev.neg hl ?_
        have c := cut (Lib.decDigits n.natAbs) (by unfold sqDigits; rw [if_neg h0, show (-p).toNat + 1 - (Lib.decDigits n.natAbs).length = 0 by omega]; simp)
        rw [bs_size] at c
        exact c
  · rw [if_neg hq]
    exact Ev.neg hq (Ev.some_ rfl)
theorem l1In_eq (a b c : Int) : spec_l1In.f a b c = some (decide (b ≤ a) && decide (a ≤ c)) := by
  unfold spec_l1In.f
  by_cases h : a ≥ b
  · rw [if_pos h]; simp [show b ≤ a from h]
  · rw [if_neg h]; simp [show ¬ b ≤ a from h]
theorem l5Sample_eq (a : Int) : spec_l5Sample.f a = some (decide (-1000000000 ≤ a ∧ a ≤ 1000000000)) := by unfold spec_l5Sample.f; rw [l1In_eq]; simp
theorem sQtyOk_ev (n p v s : Int) : Ev (fun k => spec_QtyOk.f k n p v s) (qtyB n p v s) := by
  have bad : Ev (fun k => spec_QtyOk.j0 k true n p v s) false := by
    refine Ev.succ ?_
    simp only [spec_QtyOk.j0]
    exact Ev.pos trivial (Ev.some_ rfl)
  unfold spec_QtyOk.f
  simp only [l5Sample_eq, l1In_eq, Option.bind_some]
  by_cases h1 : -1000000000 ≤ n ∧ n ≤ 1000000000
  · refine Ev.pos (by simp [h1]) ?_
    by_cases h2 : -9 ≤ v ∧ v ≤ 9
    · refine Ev.pos (by simp [h2]) ?_
      by_cases h3 : -9 ≤ s ∧ s ≤ 9
      · refine Ev.pos (by simp [h3]) ?_
        by_cases h4 : -30 ≤ p ∧ p ≤ 30
        · rw [show (!(decide (-30 ≤ p) && decide (p ≤ 30))) = false by simp [h4]]
          refine Ev.succ ?_
          simp only [spec_QtyOk.j0]
          refine Ev.neg (by simp) ?_
          by_cases h5 : n = 0
          · exact Ev.pos h5 (Ev.some_ (by unfold qtyB; rw [Bool.eq_iff_iff]; simp; omega))
          · refine Ev.neg h5 (Ev.some_ ?_)
            have := tmod10 n
            unfold qtyB; rw [Bool.eq_iff_iff]; simp; omega
        · rw [show (!(decide (-30 ≤ p) && decide (p ≤ 30))) = true by simp; omega]
          exact bad.to (by unfold qtyB; symm; simp; omega)
      · exact Ev.neg (by simp; omega) (bad.to (by unfold qtyB; symm; simp; omega))
    · exact Ev.neg (by simp; omega) (bad.to (by unfold qtyB; symm; simp; omega))
  · exact Ev.neg (by simp; omega) (bad.to (by unfold qtyB; symm; simp; omega))
theorem sUnit_ev (c : UInt8) (n : Int) (h : -9 ≤ n ∧ n ≤ 9) (h0 : n ≠ 0) : Ev (fun k => spec_l20Unit.f k (bs [c]) n) (bs (sqUnit c n)) := by
  have hl := Lib.itoa_length_le n (by omega) (by omega)
  unfold spec_l20Unit.f sqUnit
  rw [if_neg h0]
  by_cases h1 : n = 1
  · rw [if_pos h1]
    exact Ev.pos h1 (Ev.some_ rfl)
  · rw [if_neg h1]
    refine Ev.neg h1 (Ev.next (l2Itoa_ev n (by omega) (by omega)) (Ev.pos (by rw [bs_size, bs_size]; simp; omega) (Ev.some_ ?_)))
    rw [bs_append]; rfl
theorem sShow_j4 (x : List UInt8) (n p v s : Int) (hv : -9 ≤ v ∧ v ≤ 9) (hs : -9 ≤ s ∧ s ≤ 9) (hx : x.length ≤ 1000) (b : Bool) (hb : b = decide (v ≠ 0 ∧ s ≠ 0)) :
    Ev (fun k => spec_ShowQty.j4 k (bs x) b n p v s) (bs (x ++ sqTail v s)) := by
  have e32 : (⟨#[32]⟩ : ByteArray) = bs [32] := rfl
  have e42 : (⟨#[42]⟩ : ByteArray) = bs [42] := rfl
  have e86 : (⟨#[86]⟩ : ByteArray) = bs [86] := rfl
  have e115 : (⟨#[115]⟩ : ByteArray) = bs [115] := rfl
  have l1 := sqUnit_len 86 v hv
  have l2 := sqUnit_len 115 s hs
  refine Ev.succ ?_
  simp only [spec_ShowQty.j4, e32, e42, e86, e115]
  by_cases h0 : v = 0
  · refine Ev.neg (by rw [hb]; simp [h0]) (Ev.pos h0 ?_)
    by_cases h1 : s = 0
    · exact Ev.pos h1 (Ev.some_ (by unfold sqTail; simp [h0, h1]))
    · refine Ev.neg h1 (Ev.pos (by rw [bs_size]; omega) (Ev.next (sUnit_ev 115 s hs h1) ?_))
      refine Ev.pos (by rw [bs_append, bs_size, bs_size]; simp; omega) (Ev.some_ ?_)
      rw [bs_append, bs_append]
      unfold sqTail
      simp [h0, h1]
  · by_cases h1 : s = 0
    · refine Ev.neg (by rw [hb]; simp [h1]) (Ev.neg h0 (Ev.pos (by rw [bs_size]; omega) (Ev.next (sUnit_ev 86 v hv h0) ?_)))
      refine Ev.pos (by rw [bs_append, bs_size, bs_size]; simp; omega) (Ev.some_ ?_)
      rw [bs_append, bs_append]
      unfold sqTail
      simp [h0, h1]
    · refine Ev.pos (by rw [hb]; simp [h0, h1]) (Ev.pos (by rw [bs_size]; omega) (Ev.next (sUnit_ev 86 v hv h0) ?_))
      refine Ev.pos (by rw [bs_append, bs_size, bs_size]; simp; omega) (Ev.pos (by rw [bs_append, bs_append, bs_size]; simp; omega) (Ev.next (sUnit_ev 115 s hs h1) ?_))
      refine Ev.pos (by rw [bs_append, bs_append, bs_append, bs_size, bs_size]; simp; omega) (Ev.some_ ?_)
      rw [bs_append, bs_append, bs_append, bs_append]
      unfold sqTail
      simp [h0, h1]
theorem sShow_j3 (x y : List UInt8) (n p v s : Int) (hv : -9 ≤ v ∧ v ≤ 9) (hs : -9 ≤ s ∧ s ≤ 9) (hx : x.length ≤ 100) (hy : y.length ≤ 100) :
    Ev (fun k => spec_ShowQty.j3 k (bs x) (bs y) n p v s) (bs (x ++ y ++ sqTail v s)) := by
  refine Ev.succ ?_
  simp only [spec_ShowQty.j3, bs_append]
  refine Ev.pos (by rw [bs_size, bs_size]; omega) ?_
  have hl : (x ++ y).length ≤ 1000 := by simp; omega
  by_cases h0 : v = 0
  · exact Ev.pos h0 (sShow_j4 (x ++ y) n p v s hv hs hl false (by simp [h0]))
  · exact Ev.neg h0 (sShow_j4 (x ++ y) n p v s hv hs hl _ (by simp [h0, bne]; rfl))
theorem sShow_end (x E : List UInt8) (n p v s : Int) (hv : -9 ≤ v ∧ v ≤ 9) (hs : -9 ≤ s ∧ s ≤ 9) (hp : -30 ≤ p ∧ p ≤ 30) (hx : x.length ≤ 100) (hE : E.length ≤ 90) (hE1 : 1 ≤ E.length) (hpE : p < 0 → (-p).toNat < E.length) :
    Ev (fun k => spec_ShowQty.l1 k (bs x) (bs E) n p v s) (bs (if 9 < E.length then [] else x ++ sqPoint E p ++ sqTail v s)) := by
  have hpl := sqPoint_len E p
  have e46 : (⟨#[46]⟩ : ByteArray) = bs [46] := rfl
  refine Ev.succ ?_
  simp only [spec_ShowQty.l1]
  have e1 : wrap64 (-p) = -p := w64 (by omega) (by omega)
  have e2 : wrap64 ((E.length : Int) + p) = (E.length : Int) + p := w64 (by omega) (by omega)
  rw [bs_size, e1, e2, e46]
  refine Ev.neg (by omega) ?_
  by_cases h9 : 9 < E.length
  · rw [if_pos h9]
    exact Ev.pos (by omega) (Ev.some_ rfl)
  · rw [if_neg h9]
    refine Ev.neg (by omega) ?_
    by_cases h0 : p < 0
    · refine Ev.pos h0 ?_
      simp only [bs_extract, bs_append, bs_size]
      refine Ev.pos (by omega) (Ev.pos (by omega) (Ev.pos (by simp; omega) (Ev.pos (by simp; omega) ?_)))
      have e : List.drop 0 (List.take (((E.length : Int) + p).toNat) E) ++ [46] ++ List.drop (((E.length : Int) + p).toNat) (List.take E.length E) = sqPoint E p := by
        unfold sqPoint
        rw [if_neg (by omega), show ((E.length : Int) + p).toNat = E.length - (-p).toNat by omega]
        simp
      rw [e]
      exact sShow_j3 x (sqPoint E p) n p v s hv hs hx (by omega)
    · refine Ev.neg h0 ?_
      have e : sqPoint E p = E := by unfold sqPoint; rw [if_pos (by omega)]
      rw [e]
      exact sShow_j3 x E n p v s hv hs hx (by omega)
theorem sShow_l1 (x D : List UInt8) (n p v s : Int) (hv : -9 ≤ v ∧ v ≤ 9) (hs : -9 ≤ s ∧ s ≤ 9) (hp : -30 ≤ p ∧ p ≤ 30) (hx : x.length ≤ 100) :
    ∀ (d : Nat) (E : List UInt8), 1 ≤ E.length → E.length ≤ 41 → (p < 0 → (-p).toNat + 1 - E.length ≤ d) →
    Ev (fun k => spec_ShowQty.l1 k (bs x) (bs E) n p v s) (bs (if 9 < (List.replicate ((-p).toNat + 1 - E.length) 48 ++ E).length then [] else x ++ sqPoint (List.replicate ((-p).toNat + 1 - E.length) 48 ++ E) p ++ sqTail v s)) := by
  intro d
  have fin : ∀ E : List UInt8, 1 ≤ E.length → E.length ≤ 41 → ¬ ((E.length : Int) ≤ -p) → Ev (fun k => spec_ShowQty.l1 k (bs x) (bs E) n p v s) (bs (if 9 < (List.replicate ((-p).toNat + 1 - E.length) 48 ++ E).length then [] else x ++ sqPoint (List.replicate ((-p).toNat + 1 - E.length) 48 ++ E) p ++ sqTail v s)) := by
    intro E h1 h2 h3
    rw [show (-p).toNat + 1 - E.length = 0 by omega]
    exact sShow_end x E n p v s hv hs hp hx (by omega) h1 (fun _ => by omega)
  induction d with
  | zero =>
    intro E h1 h2 h3
    exact fin E h1 h2 (by intro h; have := h3 (by omega); omega)
  | succ d ih =>
    intro E h1 h2 h3
    by_cases h : (E.length : Int) ≤ -p
    · refine Ev.succ ?_
      simp only [spec_ShowQty.l1]
      have e1 : wrap64 (-p) = -p := w64 (by omega) (by omega)
      rw [bs_size, e1, show (⟨#[48]⟩ : ByteArray) = bs [48] from rfl, bs_append]
      refine Ev.pos h (Ev.pos (by omega) ((ih ([48] ++ E) (by simp) (by simp; omega) (fun h0 => by have := h3 h0; simp; omega)).to ?_))
      have e : List.replicate ((-p).toNat + 1 - ([48] ++ E).length) (48 : UInt8) ++ ([48] ++ E) = List.replicate ((-p).toNat + 1 - E.length) 48 ++ E := by
        rw [show (-p).toNat + 1 - E.length = (-p).toNat + 1 - ([48] ++ E).length + 1 by simp; omega, List.replicate_succ', List.append_assoc]
      rw [e]
    · exact fin E h1 h2 h
theorem sShow_l0 (x D : List UInt8) (n p v s : Int) (hv : -9 ≤ v ∧ v ≤ 9) (hs : -9 ≤ s ∧ s ≤ 9) (hp : -30 ≤ p ∧ p ≤ 30) (hx : x.length ≤ 100) (hD : 1 ≤ D.length ∧ D.length ≤ 10) :
    ∀ (d : Nat) (i : Int) (E : List UInt8), 0 ≤ i → i ≤ 30 → (p - i).toNat ≤ d → (0 ≤ p → i ≤ p) → (p < 0 → i = 0) → E = D ++ List.replicate i.toNat 48 →
    Ev (fun k => spec_ShowQty.l0 k (bs x) (bs E) i n p v s) (bs (if 9 < (if 0 ≤ p then D ++ List.replicate p.toNat 48 else List.replicate ((-p).toNat + 1 - D.length) 48 ++ D).length then [] else x ++ sqPoint (if 0 ≤ p then D ++ List.replicate p.toNat 48 else List.replicate ((-p).toNat + 1 - D.length) 48 ++ D) p ++ sqTail v s)) := by
  intro d
  have fin : ∀ (i : Int) (E : List UInt8), 0 ≤ i → ¬ i < p → (0 ≤ p → i ≤ p) → (p < 0 → i = 0) → E = D ++ List.replicate i.toNat 48 → Ev (fun k => spec_ShowQty.l0 k (bs x) (bs E) i n p v s) (bs (if 9 < (if 0 ≤ p then D ++ List.replicate p.toNat 48 else List.replicate ((-p).toNat + 1 - D.length) 48 ++ D).length then [] else x ++ sqPoint (if 0 ≤ p then D ++ List.replicate p.toNat 48 else List.replicate ((-p).toNat + 1 - D.length) 48 ++ D) p ++ sqTail v s)) := by
    intro i E h0 h1 h2 h3 hE
    refine Ev.succ ?_
    simp only [spec_ShowQty.l0]
    refine Ev.neg h1 ?_
    by_cases hp0 : 0 ≤ p
    · have ei : i = p := by have := h2 hp0; omega
      have := sShow_l1 x D n p v s hv hs hp hx 0 E (by rw [hE]; simp; omega) (by rw [hE]; simp; omega) (fun h => by omega)
      refine this.to ?_
      rw [if_pos hp0, show (-p).toNat + 1 - E.length = 0 by rw [hE]; simp; omega, hE, ei]
      rfl
    · have ei : i = 0 := h3 (by omega)
      have eE : E = D := by rw [hE, ei]; simp
      rw [eE]
      refine (sShow_l1 x D n p v s hv hs hp hx _ D (by omega) (by omega) (fun _ => Nat.le_refl _)).to ?_
      rw [if_neg hp0]
  induction d with
  | zero =>
    intro i E h0 h1 h2 h3 h4 hE
    exact fin i E h0 (by omega) h3 h4 hE
  | succ d ih =>
    intro i E h0 h1 h2 h3 h4 hE
    by_cases h : i < p
    · refine Ev.succ ?_
      simp only [spec_ShowQty.l0]
      have e1 : wrap64 (i + 1) = i + 1 := w64 (by omega) (by omega)
      rw [e1, show (⟨#[48]⟩ : ByteArray) = bs [48] from rfl, bs_append, bs_size]
      refine Ev.pos h (Ev.pos (by rw [hE]; simp; omega) (ih (i + 1) _ (by omega) (by omega) (by omega) (by omega) (by omega) ?_))
      rw [hE, show (i + 1).toNat = i.toNat + 1 by omega, List.replicate_succ', List.append_assoc]
    · exact fin i E h0 h h3 h4 hE
theorem sShow_j0 (x : List UInt8) (a : Nat) (n p v s : Int) (ha : a ≤ 1000000000) (hv : -9 ≤ v ∧ v ≤ 9) (hs : -9 ≤ s ∧ s ≤ 9) (hp : -30 ≤ p ∧ p ≤ 30) (hx : x.length ≤ 100) :
    Ev (fun k => spec_ShowQty.j0 k (a : Int) (bs x) n p v s) (bs (if 9 < (sqDigits a p).length then [] else x ++ sqPoint (sqDigits a p) p ++ sqTail v s)) := by
  refine Ev.succ ?_
  simp only [spec_ShowQty.j0]
  refine Ev.next (l2Itoa_nat a (by omega)) ?_
  unfold sqDigits
  exact sShow_l0 x (Lib.decDigits a) n p v s hv hs hp hx (dd_len ha) p.toNat 0 (Lib.decDigits a) (by omega) (by omega) (by omega) (by omega) (fun _ => rfl) (by simp)
theorem sShow_ev (n p v s : Int) : Ev (fun k => spec_ShowQty.f k n p v s) (bs (sqShow n p v s)) := by
  unfold spec_ShowQty.f sqShow
  refine Ev.next (sQtyOk_ev n p v s) ?_
  by_cases hq : qtyB n p v s = true
  · rw [if_pos hq]
    refine Ev.pos hq ?_
    obtain ⟨hn, _, hp, hv, hs⟩ := of_decide_eq_true hq
    unfold sqOut sqSign
    by_cases h0 : n < 0
    · refine Ev.pos h0 ?_
      rw [w64 (by omega) (by omega), show -n = ((n.natAbs : Nat) : Int) by omega, if_pos h0]
      exact sShow_j0 [45] n.natAbs n p v s (by omega) hv hs hp (by simp)
    · refine Ev.neg h0 ?_
      rw [if_neg h0]
      have := sShow_j0 [] n.natAbs n p v s (by omega) hv hs hp (by simp)
      rw [show ((n.natAbs : Nat) : Int) = n by omega] at this
      exact this
  · rw [if_neg hq]
    exact Ev.neg hq (Ev.some_ rfl)
theorem FnExactShowQty (a0_0 : Int) (a0_1 : Int) (a0_2 : Int) (a0_3 : Int) (w0_0 : (Lit.int .i64 a0_0).wf = true) (w0_1 : (Lit.int .i64 a0_1).wf = true) (w0_2 : (Lit.int .i64 a0_2).wf = true) (w0_3 : (Lit.int .i64 a0_3).wf = true) : ∃ k, laws_FnExactShowQty.f k a0_0 a0_1 a0_2 a0_3 = some true := by
  refine Ev.rounds ?_
  unfold laws_FnExactShowQty.f laws_toQty.f
  simp only [Option.bind_some]
  exact Ev.next (sShow_ev _ _ _ _) (Ev.next (iShow_ev _ _ _ _) (Ev.pos rfl (Ev.some_ rfl)))
end Go.Proofs.YtanohnlddaneeaaDoor.Pure
