import Derived.Test.YtnmglbdhnegebaaPFnExactAddQtyx6
import Derived.Test.YtnmglbdhnegebaaAid
set_option linter.unusedVariables false
set_option linter.unusedSimpArgs false
namespace Go.Proofs.Ytnmglbdhnegebaa.Pure
open Go Go.RowKit Go.Proofs.Ytnmglbdhnegebaa.PFnExactAddQty Go.Proofs.YtnmglbdhnegebaaW.PrintWords Go.Proofs.YtnmglbdhnegebaaW.PrintLast Go.Proofs.YtnmglbdhnegebaaW.PrintMore
def qtyB (n p v s : Int) : Bool := decide ((-1000000000 ≤ n ∧ n ≤ 1000000000) ∧ (n % 10 ≠ 0 ∨ n = 0 ∧ p = 0) ∧ (-30 ≤ p ∧ p ≤ 30) ∧ (-9 ≤ v ∧ v ≤ 9) ∧ (-9 ≤ s ∧ s ≤ 9))
theorem tmod10 (n : Int) : Int.tmod n 10 = 0 ↔ n % 10 = 0 := by
  rw [← Int.dvd_iff_emod_eq_zero, ← Int.dvd_iff_tmod_eq_zero]
def bareGo : Nat → Int → Int → Int × Int
  | 0, n, p => (n, p)
  | d + 1, n, p => if n % 10 = 0 then bareGo d (n / 10) (p + 1) else (n, p)
def rightOf (n p v s : Int) : Int × Int × Int × Int × Bool :=
  if n = 0 then (if qtyB 0 0 v s = true then (0, 0, v, s, true) else (0, 0, 0, 0, false))
  else if qtyB (bareGo 20 n p).1 (bareGo 20 n p).2 v s = true then ((bareGo 20 n p).1, (bareGo 20 n p).2, v, s, true) else (0, 0, 0, 0, false)
theorem tdiv10 {n : Int} (h : n % 10 = 0) : Int.tdiv n 10 = n / 10 := Int.tdiv_eq_ediv_of_dvd (Int.dvd_of_emod_eq_zero h)
theorem abs10 {n : Int} {d : Nat} (h : n % 10 = 0) (h0 : n ≠ 0) (hd : -(10 : Int) ^ (d + 1) < n ∧ n < 10 ^ (d + 1)) : n / 10 ≠ 0 ∧ -(10 : Int) ^ d < n / 10 ∧ n / 10 < 10 ^ d := by
  have e : (10 : Int) ^ (d + 1) = 10 * 10 ^ d := by rw [Int.pow_succ]; omega
  rw [e] at hd
  obtain ⟨q, hq⟩ : ∃ q : Int, (10 : Int) ^ d = q := ⟨_, rfl⟩
  rw [hq] at hd ⊢
  omega
theorem qtyB_iff {n p v s : Int} : qtyB n p v s = true ↔ (-1000000000 ≤ n ∧ n ≤ 1000000000) ∧ (n % 10 ≠ 0 ∨ n = 0 ∧ p = 0) ∧ (-30 ≤ p ∧ p ≤ 30) ∧ (-9 ≤ v ∧ v ≤ 9) ∧ (-9 ≤ s ∧ s ≤ 9) := by unfold qtyB; simp
def mulOf (n p v s n2 p2 v2 s2 : Int) : Int × Int × Int × Int × Bool :=
  if qtyB n p v s = true ∧ qtyB n2 p2 v2 s2 = true then rightOf (n * n2) (p + p2) (v + v2) (s + s2) else (0, 0, 0, 0, false)
theorem mul_bd {a b : Int} (ha : -1000000000 ≤ a ∧ a ≤ 1000000000) (hb : -1000000000 ≤ b ∧ b ≤ 1000000000) : -1000000000000000000 ≤ a * b ∧ a * b ≤ 1000000000000000000 := by
  have h1 : a.natAbs ≤ 1000000000 := by omega
  have h2 : b.natAbs ≤ 1000000000 := by omega
  have h3 : (a * b).natAbs ≤ 1000000000 * 1000000000 := by rw [Int.natAbs_mul]; exact Nat.mul_le_mul h1 h2
  omega
def addOf (n p v s n2 p2 v2 s2 : Int) : Int × Int × Int × Int × Bool :=
  if qtyB n p v s = true ∧ qtyB n2 p2 v2 s2 = true ∧ v = v2 ∧ s = s2 then
    (if n = 0 then (n2, p2, v2, s2, true)
     else if n2 = 0 then (n, p, v, s, true)
     else if p < p2 then (if p2 - p > 9 then (0, 0, 0, 0, false) else rightOf (n2 * 10 ^ (p2 - p).toNat + n) p v s)
     else (if p - p2 > 9 then (0, 0, 0, 0, false) else rightOf (n * 10 ^ (p - p2).toNat + n2) p2 v s))
  else (0, 0, 0, 0, false)
theorem add_step {x : Int} {d : Nat} (h : x.natAbs * 10 ^ (d + 1) ≤ 1000000000000000000) : (-1000000000000000000 ≤ x * 10 ∧ x * 10 ≤ 1000000000000000000) ∧ (x * 10).natAbs * 10 ^ d ≤ 1000000000000000000 ∧ x * 10 ^ (d + 1) = x * 10 * 10 ^ d := by
  have e : (x * 10).natAbs * 10 ^ d = x.natAbs * 10 ^ (d + 1) := by rw [Int.natAbs_mul, Nat.pow_succ, Nat.mul_assoc, Nat.mul_comm (10 ^ d) 10]; rfl
  have l : (x * 10).natAbs ≤ (x * 10).natAbs * 10 ^ d := Nat.le_mul_of_pos_right _ (Nat.pow_pos (by omega))
  refine ⟨by omega, by omega, ?_⟩
  rw [Int.pow_succ, Int.mul_assoc, Int.mul_comm (10 ^ d) 10]
theorem add_bd {x : Int} {d : Nat} (hx : -1000000000 ≤ x ∧ x ≤ 1000000000) (hd : d ≤ 9) : x.natAbs * 10 ^ d ≤ 1000000000000000000 := by
  have h1 : x.natAbs ≤ 1000000000 := by omega
  have h2 : (10 : Nat) ^ d ≤ 10 ^ 9 := Nat.pow_le_pow_right (by omega) hd
  exact Nat.mul_le_mul h1 h2
theorem add_bd2 {x : Int} {d : Nat} (h : x.natAbs * 10 ^ d ≤ 1000000000000000000) : -1000000000000000000 ≤ x * 10 ^ d ∧ x * 10 ^ d ≤ 1000000000000000000 := by
  have e : (x * 10 ^ d).natAbs = x.natAbs * 10 ^ d := by rw [Int.natAbs_mul, Int.natAbs_pow]; rfl
  omega
theorem to_eq (a b c : Int) : impl_to.f a b c = some (decide (b ≤ a) && decide (a ≤ c)) := by
  unfold impl_to.f
  by_cases h : a ≥ b
  · rw [if_pos h]; simp [show b ≤ a from h]
  · rw [if_neg h]; simp [show ¬ b ≤ a from h]
theorem sample_eq (a : Int) : impl_sample.f a = some (decide (-1000000000 ≤ a ∧ a ≤ 1000000000)) := by
  unfold impl_sample.f
  by_cases h : a ≥ -1000000000 <;> simp [h]
theorem iQtyOk_eq (n p v s : Int) : impl_QtyOk.f n p v s = some (qtyB n p v s) := by
  unfold impl_QtyOk.f
  simp only [sample_eq, to_eq, Option.bind_some]
  have h10 := tmod10 n
  have fin : (if (decide (-30 ≤ p) && decide (p ≤ 30)) = true then (if (decide (-9 ≤ v) && decide (v ≤ 9)) = true then some (decide (-9 ≤ s) && decide (s ≤ 9)) else some false) else some false) = some (decide ((-30 ≤ p ∧ p ≤ 30) ∧ (-9 ≤ v ∧ v ≤ 9) ∧ (-9 ≤ s ∧ s ≤ 9))) := by
    by_cases h1 : -30 ≤ p ∧ p ≤ 30
    · rw [if_pos (by simp [h1])]
      by_cases h2 : -9 ≤ v ∧ v ≤ 9
      · rw [if_pos (by simp [h2])]; simp [h1, h2]
      · rw [if_neg (by simp; omega)]; symm; simp; omega
    · rw [if_neg (by simp; omega)]; symm; simp; omega
  rw [fin]
  unfold qtyB
  by_cases h1 : -1000000000 ≤ n ∧ n ≤ 1000000000
  · rw [if_pos (by simp [h1])]
    by_cases h2 : Int.tmod n 10 = 0
    · rw [if_pos h2]
      by_cases h3 : n = 0
      · rw [if_pos h3]
        by_cases h4 : p = 0
        · rw [if_pos h4, Option.some.injEq, decide_eq_decide]; omega
        · rw [if_neg h4, Option.some.injEq]; symm; simp only [decide_eq_false_iff_not]; omega
      · rw [if_neg h3, Option.some.injEq]; symm; simp only [decide_eq_false_iff_not]; omega
    · rw [if_neg h2, Option.some.injEq, decide_eq_decide]; omega
  · rw [if_neg (by simp; omega), Option.some.injEq]; symm; simp only [decide_eq_false_iff_not]; omega
theorem ibare_l0 (v s : Int) : ∀ (d : Nat) (n p : Int), n ≠ 0 → -(10 : Int) ^ d < n ∧ n < 10 ^ d → -9000000000000000000 ≤ n ∧ n ≤ 9000000000000000000 → -1000 ≤ p → p + d ≤ 1000 → Ev (fun k => impl_bare.l0 k n p v s) ((bareGo d n p).1, (bareGo d n p).2, v, s) := by
  intro d
  induction d with
  | zero => intro n p h0 hd; simp at hd; omega
  | succ d ih =>
    intro n p h0 hd hb hp hp2
    have t := tmod10 n
    refine Ev.succ ?_
    simp only [impl_bare.l0, bareGo]
    by_cases h : n % 10 = 0
    · have a := abs10 h h0 hd
      rw [if_pos h, tdiv10 h, w64 (n := n / 10) (by omega) (by omega), w64 (n := p + 1) (by omega) (by omega)]
      exact Ev.pos (t.2 h) (ih (n / 10) (p + 1) a.1 a.2 (by omega) (by omega) (by omega))
    · rw [if_neg h]; exact Ev.neg (fun hh => h (t.1 hh)) (Ev.some_ rfl)
theorem iright_ev (n p v s : Int) (hn : -9000000000000000000 ≤ n ∧ n ≤ 9000000000000000000) (hp : -900 ≤ p ∧ p ≤ 900) : Ev (fun k => impl_right.f k n p v s) (rightOf n p v s) := by
  unfold impl_right.f impl_bare.f rightOf
  by_cases h : n = 0
  · subst h
    rw [if_pos rfl]
    refine Ev.next (a := (0, 0, v, s)) (Ev.pos rfl (Ev.some_ rfl)) ?_
    simp only [iQtyOk_eq, Option.bind_some]
    exact Ev.cond (fun _ => Ev.some_ rfl) (fun _ => Ev.some_ rfl)
  · rw [if_neg h]
    refine Ev.next (Ev.neg h (ibare_l0 v s 20 n p h (by omega) hn (by omega) (by omega))) ?_
    simp only [iQtyOk_eq, Option.bind_some]
    exact Ev.cond (fun _ => Ev.some_ rfl) (fun _ => Ev.some_ rfl)
theorem iAdd_l0 (na pa va sa vb sb : Int) (ha : -1000000000 ≤ na ∧ na ≤ 1000000000) (hpa : -30 ≤ pa ∧ pa ≤ 30) : ∀ (d : Nat) (nb pb : Int), pb = pa + d → d ≤ 9 → nb.natAbs * 10 ^ d ≤ 1000000000000000000 → Ev (fun k => impl_AddQty.l0 k na pa va sa nb pb vb sb) (rightOf (nb * 10 ^ d + na) pa va sa) := by
  intro d
  induction d with
  | zero =>
    intro nb pb hp _ h
    have b := add_bd2 h
    rw [Int.pow_zero, Int.mul_one] at b ⊢
    refine Ev.succ ?_
    simp only [impl_AddQty.l0]
    rw [w64 (n := na + nb) (by omega) (by omega), Int.add_comm nb na]
    exact Ev.neg (by omega) (Ev.next (iright_ev _ _ _ _ (by omega) (by omega)) (Ev.some_ rfl))
  | succ d ih =>
    intro nb pb hp hd h
    obtain ⟨b, b2, e⟩ := add_step h
    rw [e]
    refine Ev.succ ?_
    simp only [impl_AddQty.l0]
    rw [w64 (n := nb * 10) (by omega) (by omega), w64 (n := pb - 1) (by omega) (by omega)]
    exact Ev.pos (by omega) (ih (nb * 10) (pb - 1) (by omega) (by omega) b2)
theorem iAdd_j1 (na pa va sa nb pb vb sb : Int) (ha : -1000000000 ≤ na ∧ na ≤ 1000000000) (hpa : -30 ≤ pa ∧ pa ≤ 30) (hb : -1000000000 ≤ nb ∧ nb ≤ 1000000000) (hpb : -30 ≤ pb ∧ pb ≤ 30) (hp : pa ≤ pb) : Ev (fun k => impl_AddQty.j1 k na pa va sa nb pb vb sb) (if pb - pa > 9 then (0, 0, 0, 0, false) else rightOf (nb * 10 ^ (pb - pa).toNat + na) pa va sa) := by
  refine Ev.succ ?_
  simp only [impl_AddQty.j1]
  rw [w64 (n := pb - pa) (by omega) (by omega)]
  by_cases h : pb - pa > 9
  · rw [if_pos h]; exact Ev.pos h (Ev.some_ rfl)
  · rw [if_neg h]; exact Ev.neg h (iAdd_l0 na pa va sa vb sb ha hpa _ nb pb (by omega) (by omega) (add_bd hb (by omega)))
theorem iAdd_j0 (n p v s n2 p2 : Int) (x : Bool) (ha : -1000000000 ≤ n ∧ n ≤ 1000000000) (hpa : -30 ≤ p ∧ p ≤ 30) (hb : -1000000000 ≤ n2 ∧ n2 ≤ 1000000000) (hpb : -30 ≤ p2 ∧ p2 ≤ 30) (hx : x = false) : Ev (fun k => impl_AddQty.j0 k x n p v s n2 p2 v s) (if n = 0 then (n2, p2, v, s, true) else if n2 = 0 then (n, p, v, s, true) else if p < p2 then (if p2 - p > 9 then (0, 0, 0, 0, false) else rightOf (n2 * 10 ^ (p2 - p).toNat + n) p v s) else (if p - p2 > 9 then (0, 0, 0, 0, false) else rightOf (n * 10 ^ (p - p2).toNat + n2) p2 v s)) := by
  refine Ev.succ ?_
  simp only [impl_AddQty.j0]
  refine Ev.neg (by rw [hx]; decide) ?_
  by_cases h : n = 0
  · rw [if_pos h]; exact Ev.pos h (Ev.some_ rfl)
  · rw [if_neg h]; refine Ev.neg h ?_
    by_cases h2 : n2 = 0
    · rw [if_pos h2]; exact Ev.pos h2 (Ev.some_ rfl)
    · rw [if_neg h2]; refine Ev.neg h2 ?_
      by_cases h3 : p > p2
      · rw [if_neg (show ¬ p < p2 by omega)]; exact Ev.pos h3 (iAdd_j1 n2 p2 v s n p v s hb hpb ha hpa (by omega))
      · by_cases h4 : p < p2
        · rw [if_pos h4]; exact Ev.neg h3 (iAdd_j1 n p v s n2 p2 v s ha hpa hb hpb (by omega))
        · have e : p2 = p := by omega
          subst e
          have j := iAdd_j1 n p2 v s n2 p2 v s ha hpa hb hpb (by omega)
          rw [Int.sub_self] at j ⊢
          rw [if_neg (show ¬ p2 < p2 by omega)]
          simp only [Int.toNat_zero, Int.pow_zero, Int.mul_one] at j ⊢
          rw [Int.add_comm n n2]
          exact Ev.neg h3 j
theorem iAddQty_ev (n p v s n2 p2 v2 s2 : Int) : Ev (fun k => impl_AddQty.f k n p v s n2 p2 v2 s2) (addOf n p v s n2 p2 v2 s2) := by
  unfold impl_AddQty.f addOf
  simp only [iQtyOk_eq, Option.bind_some]
  have ft : ∀ (n p v s n2 p2 v2 s2 : Int) (x : Bool), x = true → Ev (fun k => impl_AddQty.j0 k x n p v s n2 p2 v2 s2) (0, 0, 0, 0, false) := by
    intro n p v s n2 p2 v2 s2 x hx
    refine Ev.succ ?_
    simp only [impl_AddQty.j0]
    exact Ev.pos hx (Ev.some_ rfl)
  by_cases h1 : qtyB n p v s = true
  · refine Ev.pos h1 ?_
    by_cases h2 : qtyB n2 p2 v2 s2 = true
    · refine Ev.pos h2 ?_
      by_cases h3 : v = v2
      · refine Ev.pos h3 ?_
        by_cases h4 : s = s2
        · rw [if_pos ⟨h1, h2, h3, h4⟩]
          subst h3; subst h4
          obtain ⟨a1, _, a3, a4, a5⟩ := qtyB_iff.1 h1
          obtain ⟨b1, _, b3, b4, b5⟩ := qtyB_iff.1 h2
          exact iAdd_j0 n p v s n2 p2 _ a1 a3 b1 b3 (by simp)
        · rw [if_neg (fun h => h4 h.2.2.2)]; exact ft _ _ _ _ _ _ _ _ _ (by simpa using h4)
      · rw [if_neg (fun h => h3 h.2.2.1)]; exact Ev.neg h3 (ft _ _ _ _ _ _ _ _ _ rfl)
    · rw [if_neg (fun h => h2 h.2.1)]; exact Ev.neg h2 (ft _ _ _ _ _ _ _ _ _ rfl)
  · rw [if_neg (fun h => h1 h.1)]; exact Ev.neg h1 (ft _ _ _ _ _ _ _ _ _ rfl)
theorem l1In_eq (a b c : Int) : spec_l1In.f a b c = some (decide (b ≤ a) && decide (a ≤ c)) := by
  unfold spec_l1In.f
  by_cases h : a ≥ b
  · rw [if_pos h]; simp [show b ≤ a from h]
  · rw [if_neg h]; simp [show ¬ b ≤ a from h]
theorem l5Sample_eq (a : Int) : spec_l5Sample.f a = some (decide (-1000000000 ≤ a ∧ a ≤ 1000000000)) := by unfold spec_l5Sample.f; rw [l1In_eq]; simp
theorem sQtyOk_ev (n p v s : Int) : Ev (fun k => spec_QtyOk.f k n p v s) (qtyB n p v s) := by
  have bad : Ev (fun k => spec_QtyOk.j0 k true n p v s) false := by
    refine Ev.succ ?_
    simp only [spec_QtyOk.j0]
    exact Ev.pos trivial (Ev.some_ rfl)
  unfold spec_QtyOk.f
  simp only [l5Sample_eq, l1In_eq, Option.bind_some]
  by_cases h1 : -1000000000 ≤ n ∧ n ≤ 1000000000
  · refine Ev.pos (by simp [h1]) ?_
    by_cases h2 : -9 ≤ v ∧ v ≤ 9
    · refine Ev.pos (by simp [h2]) ?_
      by_cases h3 : -9 ≤ s ∧ s ≤ 9
      · refine Ev.pos (by simp [h3]) ?_
        by_cases h4 : -30 ≤ p ∧ p ≤ 30
        · rw [show (!(decide (-30 ≤ p) && decide (p ≤ 30))) = false by simp [h4]]
          refine Ev.succ ?_
          simp only [spec_QtyOk.j0]
          refine Ev.neg (by simp) ?_
          by_cases h5 : n = 0
          · exact Ev.pos h5 (Ev.some_ (by unfold qtyB; rw [Bool.eq_iff_iff]; simp; omega))
          · refine Ev.neg h5 (Ev.some_ ?_)
            have := tmod10 n
            unfold qtyB; rw [Bool.eq_iff_iff]; simp; omega
        · rw [show (!(decide (-30 ≤ p) && decide (p ≤ 30))) = true by simp; omega]
          exact bad.to (by unfold qtyB; symm; simp; omega)
      · exact Ev.neg (by simp; omega) (bad.to (by unfold qtyB; symm; simp; omega))
    · exact Ev.neg (by simp; omega) (bad.to (by unfold qtyB; symm; simp; omega))
  · exact Ev.neg (by simp; omega) (bad.to (by unfold qtyB; symm; simp; omega))
theorem l20Qty_l0 (v s : Int) : ∀ (d : Nat) (n p : Int), n ≠ 0 → -(10 : Int) ^ d < n ∧ n < 10 ^ d → -9000000000000000000 ≤ n ∧ n ≤ 9000000000000000000 → -1000 ≤ p → p + d ≤ 1000 → Ev (fun k => spec_l20Qty.l0 k n p v s) (if qtyB (bareGo d n p).1 (bareGo d n p).2 v s = true then ((bareGo d n p).1, (bareGo d n p).2, v, s, true) else (0, 0, 0, 0, false)) := by
  intro d
  induction d with
  | zero => intro n p h0 hd; simp at hd; omega
  | succ d ih =>
    intro n p h0 hd hb hp hp2
    have t := tmod10 n
    by_cases h : n % 10 = 0
    · have a := abs10 h h0 hd
      have e : bareGo (d + 1) n p = bareGo d (n / 10) (p + 1) := by simp only [bareGo]; rw [if_pos h]
      rw [e]
      refine Ev.succ ?_
      simp only [spec_l20Qty.l0]
      rw [tdiv10 h, w64 (n := n / 10) (by omega) (by omega), w64 (n := p + 1) (by omega) (by omega)]
      exact Ev.neg h0 (Ev.pos (t.2 h) (ih (n / 10) (p + 1) a.1 a.2 (by omega) (by omega) (by omega)))
    · have e : bareGo (d + 1) n p = (n, p) := by simp only [bareGo]; rw [if_neg h]
      rw [e]
      refine Ev.succ ?_
      simp only [spec_l20Qty.l0]
      exact Ev.neg h0 (Ev.neg (fun hh => h (t.1 hh)) (Ev.next (sQtyOk_ev n p v s) (Ev.cond (fun _ => Ev.some_ rfl) (fun _ => Ev.some_ rfl))))
theorem l20Qty_ev (n p v s : Int) (hn : -9000000000000000000 ≤ n ∧ n ≤ 9000000000000000000) (hp : -900 ≤ p ∧ p ≤ 900) : Ev (fun k => spec_l20Qty.f k n p v s) (rightOf n p v s) := by
  unfold spec_l20Qty.f rightOf
  by_cases h : n = 0
  · subst h
    rw [if_pos rfl]
    refine Ev.pos rfl (Ev.succ ?_)
    simp only [spec_l20Qty.j0]
    refine Ev.succ ?_
    simp only [spec_l20Qty.l0]
    exact Ev.pos trivial (Ev.next (sQtyOk_ev 0 0 v s) (Ev.cond (fun _ => Ev.some_ rfl) (fun _ => Ev.some_ rfl)))
  · rw [if_neg h]
    refine Ev.neg h (Ev.succ ?_)
    simp only [spec_l20Qty.j0]
    exact l20Qty_l0 v s 20 n p h (by omega) hn (by omega) (by omega)
theorem sAdd_l0 (na pa va sa nb pb vb sb : Int) (hb : -1000000000 ≤ nb ∧ nb ≤ 1000000000) (hpb : -30 ≤ pb ∧ pb ≤ 30) : ∀ (d : Nat) (x y : Int), pa = y + d → -100 ≤ y → y + d ≤ 100 → d ≤ 9 → x.natAbs * 10 ^ d ≤ 1000000000000000000 → Ev (fun k => spec_AddQty.l0 k x y na pa va sa nb pb vb sb) (rightOf (x * 10 ^ d + nb) pb va sa) := by
  intro d
  induction d with
  | zero =>
    intro x y hp _ _ _ h
    have b := add_bd2 h
    rw [Int.pow_zero, Int.mul_one] at b ⊢
    refine Ev.succ ?_
    simp only [spec_AddQty.l0]
    rw [w64 (n := x + nb) (by omega) (by omega)]
    exact Ev.neg (by omega) (Ev.next (l20Qty_ev _ _ _ _ (by omega) (by omega)) (Ev.some_ rfl))
  | succ d ih =>
    intro x y hp hy hy2 hd h
    obtain ⟨b, b2, e⟩ := add_step h
    rw [e]
    refine Ev.succ ?_
    simp only [spec_AddQty.l0]
    rw [w64 (n := x * 10) (by omega) (by omega), w64 (n := y + 1) (by omega) (by omega)]
    exact Ev.pos (by omega) (ih (x * 10) (y + 1) (by omega) (by omega) (by omega) (by omega) b2)
theorem sAdd_j0 (n p v s n2 p2 : Int) (x : Bool) (ha : -1000000000 ≤ n ∧ n ≤ 1000000000) (hpa : -30 ≤ p ∧ p ≤ 30) (hb : -1000000000 ≤ n2 ∧ n2 ≤ 1000000000) (hpb : -30 ≤ p2 ∧ p2 ≤ 30) (hx : x = false) (hn : n ≠ 0) (hn2 : n2 ≠ 0) (hp : ¬ p < p2) : Ev (fun k => spec_AddQty.j0 k x n p v s n2 p2 v s) (if p - p2 > 9 then (0, 0, 0, 0, false) else rightOf (n * 10 ^ (p - p2).toNat + n2) p2 v s) := by
  refine Ev.succ ?_
  simp only [spec_AddQty.j0]
  refine Ev.neg (by rw [hx]; decide) (Ev.neg hn (Ev.neg hn2 (Ev.neg hp ?_)))
  rw [w64 (n := p - p2) (by omega) (by omega)]
  by_cases h : p - p2 > 9
  · rw [if_pos h]; exact Ev.pos h (Ev.some_ rfl)
  · rw [if_neg h]; exact Ev.neg h (sAdd_l0 n p v s n2 p2 v s hb hpb _ n p2 (by omega) (by omega) (by omega) (by omega) (add_bd ha (by omega)))
theorem sAddQty_ev (n p v s n2 p2 v2 s2 : Int) : Ev (fun k => spec_AddQty.f k n p v s n2 p2 v2 s2) (addOf n p v s n2 p2 v2 s2) := by
  unfold addOf
  have ft : ∀ (n p v s n2 p2 v2 s2 : Int) (x : Bool), x = true → Ev (fun k => spec_AddQty.j0 k x n p v s n2 p2 v2 s2) (0, 0, 0, 0, false) := by
    intro n p v s n2 p2 v2 s2 x hx
    refine Ev.succ ?_
    simp only [spec_AddQty.j0]
    exact Ev.pos hx (Ev.some_ rfl)
  refine Ev.succ ?_
  simp only [spec_AddQty.f]
  refine Ev.next (sQtyOk_ev n p v s) ?_
  by_cases h1 : qtyB n p v s = true
  · refine Ev.pos h1 (Ev.next (sQtyOk_ev n2 p2 v2 s2) ?_)
    by_cases h2 : qtyB n2 p2 v2 s2 = true
    · refine Ev.pos h2 ?_
      by_cases h3 : v = v2
      · refine Ev.pos h3 ?_
        by_cases h4 : s = s2
        · rw [if_pos ⟨h1, h2, h3, h4⟩]
          subst h3; subst h4
          obtain ⟨a1, _, a3, a4, a5⟩ := qtyB_iff.1 h1
          obtain ⟨b1, _, b3, b4, b5⟩ := qtyB_iff.1 h2
          have hx : (s != s) = false := by simp
          by_cases c1 : n = 0
          · rw [if_pos c1]; refine Ev.succ ?_; simp only [spec_AddQty.j0]; exact Ev.neg (by rw [hx]; decide) (Ev.pos c1 (Ev.some_ rfl))
          · rw [if_neg c1]
            by_cases c2 : n2 = 0
            · rw [if_pos c2]; refine Ev.succ ?_; simp only [spec_AddQty.j0]; exact Ev.neg (by rw [hx]; decide) (Ev.neg c1 (Ev.pos c2 (Ev.some_ rfl)))
            · rw [if_neg c2]
              by_cases c3 : p < p2
              · rw [if_pos c3]
                refine Ev.succ ?_; simp only [spec_AddQty.j0]
                refine Ev.neg (by rw [hx]; decide) (Ev.neg c1 (Ev.neg c2 (Ev.pos c3 (Ev.next (a := if p2 - p > 9 then (0, 0, 0, 0, false) else rightOf (n2 * 10 ^ (p2 - p).toNat + n) p v s) ?_ (Ev.some_ rfl)))))
                refine Ev.succ ?_
                simp only [spec_AddQty.f]
                exact Ev.next (sQtyOk_ev n2 p2 v s) (Ev.pos h2 (Ev.next (sQtyOk_ev n p v s) (Ev.pos h1 (Ev.pos trivial (sAdd_j0 n2 p2 v s n p _ b1 b3 a1 a3 hx c2 c1 (by omega))))))
              · rw [if_neg c3]; exact sAdd_j0 n p v s n2 p2 _ a1 a3 b1 b3 hx c1 c2 c3
        · rw [if_neg (fun h => h4 h.2.2.2)]; exact ft _ _ _ _ _ _ _ _ _ (by simpa using h4)
      · rw [if_neg (fun h => h3 h.2.2.1)]; exact Ev.neg h3 (ft _ _ _ _ _ _ _ _ _ rfl)
    · rw [if_neg (fun h => h2 h.2.1)]; exact Ev.neg h2 (ft _ _ _ _ _ _ _ _ _ rfl)
  · rw [if_neg (fun h => h1 h.1)]; exact Ev.neg h1 (ft _ _ _ _ _ _ _ _ _ rfl)
theorem FnExactAddQty (a0_0 : Int) (a0_1 : Int) (a0_2 : Int) (a0_3 : Int) (a1_0 : Int) (a1_1 : Int) (a1_2 : Int) (a1_3 : Int) (w0_0 : (Lit.int .i64 a0_0).wf = true) (w0_1 : (Lit.int .i64 a0_1).wf = true) (w0_2 : (Lit.int .i64 a0_2).wf = true) (w0_3 : (Lit.int .i64 a0_3).wf = true) (w1_0 : (Lit.int .i64 a1_0).wf = true) (w1_1 : (Lit.int .i64 a1_1).wf = true) (w1_2 : (Lit.int .i64 a1_2).wf = true) (w1_3 : (Lit.int .i64 a1_3).wf = true) : ∃ k, laws_FnExactAddQty.f k a0_0 a0_1 a0_2 a0_3 a1_0 a1_1 a1_2 a1_3 = some true := by
  refine Ev.rounds ?_
  unfold laws_FnExactAddQty.f laws_toQty.f
  simp only [Option.bind_some]
  refine Ev.next (sAddQty_ev _ _ _ _ _ _ _ _) (Ev.next (iAddQty_ev _ _ _ _ _ _ _ _) ?_)
  have e : ∀ a b c d : Int, laws_eqQty.f a b c d a b c d = some true := fun a b c d => by unfold laws_eqQty.f; simp
  rw [e]
  simp only [Option.bind_some]
  exact Ev.pos trivial (Ev.neg (by simp) (Ev.some_ rfl))
end Go.Proofs.Ytnmglbdhnegebaa.Pure
