import Derived.Test.YtbhjgkbikmjaaaaPFnQtySumsx9
import Derived.Test.YtbhjgkbikmjaaaaAidV
set_option linter.unusedVariables false
set_option linter.unusedSimpArgs false
namespace Go.Proofs.Ytbhjgkbikmjaaaa.Pure
open Go Go.RowKit Go.Proofs.Ytbhjgkbikmjaaaa.PFnQtySums Go.Proofs.YtbhjgkbikmjaaaaW.PrintWords Go.Proofs.YtbhjgkbikmjaaaaW.PrintLast Go.Proofs.YtbhjgkbikmjaaaaW.PrintMore
theorem l1New_l0 (l : List Int) : ∀ (d i : Nat) (h : Int), i + d = l.length → (i : Int) ≤ 4000 → EvP (fun k => spec_l1New.l0 k l h (i : Int)) (fun r => r.1 = l ∧ r.2.1 = 0) := by
 intro d
 induction d with
 | zero =>
  intro i h hi _
  refine EvP.succ ?_
  simp only [spec_l1New.l0]
  exact EvP.neg (by omega) (EvP.now ⟨rfl, rfl⟩)
 | succ d ih =>
  intro i h hi hi2
  refine EvP.succ ?_
  simp only [spec_l1New.l0]
  refine EvP.pos (by omega) ?_
  by_cases h4 : (i : Int) < 4000
  case neg => exact EvP.neg h4 (EvP.now ⟨rfl, rfl⟩)
  rw [w64_add (by omega) (by omega)]
  exact EvP.pos h4 (EvP.pos (by omega) (ih (i + 1) _ (by omega) (by omega)))
theorem l1New_ev (l : List Int) : EvP (fun k => spec_l1New.f k l) (fun r => r.1 = l ∧ r.2.1 = 0) := l1New_l0 l l.length 0 _ (by omega) (by omega)
theorem l1Byte_ok (l : List Int) (p h : Int) (h0 : 0 ≤ p) (h1 : p ≤ l.length) (hl : l.length ≤ 1048576) : ∃ r, spec_l1Byte.f l p h = some r ∧ (0 ≤ r.1 ∧ r.1 ≤ 255) ∧ 0 ≤ r.2.1 ∧ r.2.1 ≤ l.length := by
 unfold spec_l1Byte.f
 by_cases hp : p < (l.length : Int)
 case neg =>
  rw [if_neg hp]
  exact ⟨_, rfl, bits_and_le _ 255 (by omega) (by omega), h0, h1⟩
 rw [if_pos hp, if_pos h0]
 refine ⟨_, rfl, bits_and_le _ 255 (by omega) (by omega), ?_⟩
 simp only
 rw [w64_add h0 (by omega)]
 omega
theorem l1Below_ok (l : List Int) (p h n : Int) (h0 : 0 ≤ p) (h1 : p ≤ l.length) (hl : l.length ≤ 1048576) : ∃ r, spec_l1Below.f l p h n = some r ∧ (0 ≤ r.1 ∧ (r.1 < n ∨ r.1 = 0)) ∧ 0 ≤ r.2.1 ∧ r.2.1 ≤ l.length := by
 unfold spec_l1Below.f
 by_cases hn : n ≤ 0
 ·rw [if_pos hn]; exact ⟨_, rfl, ⟨by simp, .inr rfl⟩, h0, h1⟩
 rw [if_neg hn]
 have tm : ∀ x : Int, 0 ≤ x → 0 ≤ Int.tmod x n ∧ Int.tmod x n < n := fun x hx => by
  rw [Int.tmod_eq_emod_of_nonneg hx]
  exact ⟨Int.emod_nonneg _ (by omega), Int.emod_lt_of_pos _ (by omega)⟩
 by_cases h2 : n ≤ 256
 case pos =>
  rw [if_pos h2]
  obtain ⟨r, e, hb, hp⟩ := l1Byte_ok l p h h0 h1 hl
  rw [e]
  simp only [Option.bind_some]
  rw [if_neg (by omega)]
  exact ⟨_, rfl, ⟨(tm _ hb.1).1, .inl (tm _ hb.1).2⟩, hp⟩
 rw [if_neg h2]
 obtain ⟨r, e, hb, hp⟩ := l1Byte_ok l p h h0 h1 hl
 obtain ⟨r2, e2, hb2, hp2⟩ := l1Byte_ok l r.2.1 r.2.2 hp.1 hp.2 hl
 obtain ⟨r3, e3, hb3, hp3⟩ := l1Byte_ok l r2.2.1 r2.2.2 hp2.1 hp2.2 hl
 obtain ⟨r4, e4, hb4, hp4⟩ := l1Byte_ok l r3.2.1 r3.2.2 hp3.1 hp3.2 hl
 rw [e]; simp only [Option.bind_some]
 rw [e2]; simp only [Option.bind_some]
 rw [e3]; simp only [Option.bind_some]
 rw [e4]; simp only [Option.bind_some]
 rw [if_neg (by omega), w64 (n := r.1 * 16777216) (by omega) (by omega), w64 (n := r2.1 * 65536) (by omega) (by omega), w64 (n := r3.1 * 256) (by omega) (by omega), w64 (n := r.1 * 16777216 + _) (by omega) (by omega), w64 (n := r.1 * 16777216 + _ + _) (by omega) (by omega), w64 (n := r.1 * 16777216 + _ + _ + _) (by omega) (by omega)]
 exact ⟨_, rfl, ⟨(tm _ (by omega)).1, .inl (tm _ (by omega)).2⟩, hp4⟩
theorem l1Once_ok (l : List Int) (p h n : Int) (h0 : 0 ≤ p) (h1 : p ≤ l.length) (hl : l.length ≤ 1048576) : ∃ r, spec_l1Once.f l p h n = some r ∧ 0 ≤ r.2.1 ∧ r.2.1 ≤ l.length := by
 obtain ⟨r, e, hb, hp⟩ := l1Below_ok l p h n h0 h1 hl
 unfold spec_l1Once.f
 rw [e]; simp only [Option.bind_some]
 exact ⟨_, rfl, hp⟩
theorem l1PickInt_ok (l : List Int) (p h : Int) (xs : List Int) (h0 : 0 ≤ p) (h1 : p ≤ l.length) (hl : l.length ≤ 1048576) (hx : 0 < xs.length) : ∃ r, spec_l1PickInt.f l p h xs = some r ∧ r.1 ∈ xs ∧ 0 ≤ r.2.1 ∧ r.2.1 ≤ l.length := by
 unfold spec_l1PickInt.f
 obtain ⟨r, e, hb, hp⟩ := l1Below_ok l p h xs.length h0 h1 hl
 rw [e]
 simp only [Option.bind_some]
 rw [if_pos hb.1, if_pos (by omega)]
 refine ⟨_, rfl, ?_, hp⟩
 have : r.1 = ((r.1.toNat : Nat) : Int) := by omega
 simp only
 rw [this]
 exact rd_mem (by omega)
def qtyB (n p v s : Int) : Bool := decide ((-1000000000 ≤ n ∧ n ≤ 1000000000) ∧ (n % 10 ≠ 0 ∨ n = 0 ∧ p = 0) ∧ (-30 ≤ p ∧ p ≤ 30) ∧ (-9 ≤ v ∧ v ≤ 9) ∧ (-9 ≤ s ∧ s ≤ 9))
theorem tmod10 (n : Int) : Int.tmod n 10 = 0 ↔ n % 10 = 0 := by
 rw [← Int.dvd_iff_emod_eq_zero, ← Int.dvd_iff_tmod_eq_zero]
def bareGo : Nat → Int → Int → Int × Int
 | 0, n, p => (n, p)
 | d + 1, n, p => if n % 10 = 0 then bareGo d (n / 10) (p + 1) else (n, p)
def rightOf (n p v s : Int) : Int × Int × Int × Int × Bool :=
 if n = 0 then (if qtyB 0 0 v s = true then (0, 0, v, s, true) else (0, 0, 0, 0, false))
 else if qtyB (bareGo 20 n p).1 (bareGo 20 n p).2 v s = true then ((bareGo 20 n p).1, (bareGo 20 n p).2, v, s, true) else (0, 0, 0, 0, false)
theorem tdiv10 {n : Int} (h : n % 10 = 0) : Int.tdiv n 10 = n / 10 := Int.tdiv_eq_ediv_of_dvd (Int.dvd_of_emod_eq_zero h)
theorem abs10 {n : Int} {d : Nat} (h : n % 10 = 0) (h0 : n ≠ 0) (hd : -(10 : Int) ^ (d + 1) < n ∧ n < 10 ^ (d + 1)) : n / 10 ≠ 0 ∧ -(10 : Int) ^ d < n / 10 ∧ n / 10 < 10 ^ d := by
 have e : (10 : Int) ^ (d + 1) = 10 * 10 ^ d := by rw [Int.pow_succ]; omega
 rw [e] at hd
 obtain ⟨q, hq⟩ : ∃ q : Int, (10 : Int) ^ d = q := ⟨_, rfl⟩
 rw [hq] at hd ⊢
 omega
theorem qtyB_iff {n p v s : Int} : qtyB n p v s = true ↔ (-1000000000 ≤ n ∧ n ≤ 1000000000) ∧ (n % 10 ≠ 0 ∨ n = 0 ∧ p = 0) ∧ (-30 ≤ p ∧ p ≤ 30) ∧ (-9 ≤ v ∧ v ≤ 9) ∧ (-9 ≤ s ∧ s ≤ 9) := by unfold qtyB; simp
def mulOf (n p v s n2 p2 v2 s2 : Int) : Int × Int × Int × Int × Bool :=
 if qtyB n p v s = true ∧ qtyB n2 p2 v2 s2 = true then rightOf (n * n2) (p + p2) (v + v2) (s + s2) else (0, 0, 0, 0, false)
theorem mul_bd {a b : Int} (ha : -1000000000 ≤ a ∧ a ≤ 1000000000) (hb : -1000000000 ≤ b ∧ b ≤ 1000000000) : -1000000000000000000 ≤ a * b ∧ a * b ≤ 1000000000000000000 := by
 have h1 : a.natAbs ≤ 1000000000 := by omega
 have h2 : b.natAbs ≤ 1000000000 := by omega
 have h3 : (a * b).natAbs ≤ 1000000000 * 1000000000 := by rw [Int.natAbs_mul]; exact Nat.mul_le_mul h1 h2
 omega
theorem l1In_eq (a b c : Int) : spec_l1In.f a b c = some (decide (b ≤ a) && decide (a ≤ c)) := by
 unfold spec_l1In.f
 by_cases h : a ≥ b
 case pos => rw [if_pos h]; simp [show b ≤ a from h]
 rw [if_neg h]; simp [show ¬ b ≤ a from h]
theorem l5Sample_eq (a : Int) : spec_l5Sample.f a = some (decide (-1000000000 ≤ a ∧ a ≤ 1000000000)) := by unfold spec_l5Sample.f; rw [l1In_eq]; simp
theorem sQtyOk_ev (n p v s : Int) : Ev (fun k => spec_QtyOk.f k n p v s) (qtyB n p v s) := by
 have bad : Ev (fun k => spec_QtyOk.j0 k true n p v s) false := by
  refine Ev.succ ?_
  simp only [spec_QtyOk.j0]
  exact Ev.pos trivial (Ev.some_ rfl)
 unfold spec_QtyOk.f
 simp only [l5Sample_eq, l1In_eq, Option.bind_some]
 by_cases h1 : -1000000000 ≤ n ∧ n ≤ 1000000000
 case neg => exact Ev.neg (by simp; omega) (bad.to (by unfold qtyB; symm; simp; omega))
 refine Ev.pos (by simp [h1]) ?_
 by_cases h2 : -9 ≤ v ∧ v ≤ 9
 case neg => exact Ev.neg (by simp; omega) (bad.to (by unfold qtyB; symm; simp; omega))
 refine Ev.pos (by simp [h2]) ?_
 by_cases h3 : -9 ≤ s ∧ s ≤ 9
 case neg => exact Ev.neg (by simp; omega) (bad.to (by unfold qtyB; symm; simp; omega))
 refine Ev.pos (by simp [h3]) ?_
 by_cases h4 : -30 ≤ p ∧ p ≤ 30
 case neg =>
  rw [show (!(decide (-30 ≤ p) && decide (p ≤ 30))) = true by simp; omega]
  exact bad.to (by unfold qtyB; symm; simp; omega)
 rw [show (!(decide (-30 ≤ p) && decide (p ≤ 30))) = false by simp [h4]]
 refine Ev.succ ?_
 simp only [spec_QtyOk.j0]
 refine Ev.neg (by simp) ?_
 by_cases h5 : n = 0
 case pos => exact Ev.pos h5 (Ev.some_ (by unfold qtyB; rw [Bool.eq_iff_iff]; simp; omega))
 refine Ev.neg h5 (Ev.some_ ?_)
 have := tmod10 n
 unfold qtyB; rw [Bool.eq_iff_iff]; simp; omega
theorem l20Qty_l0 (v s : Int) : ∀ (d : Nat) (n p : Int), n ≠ 0 → -(10 : Int) ^ d < n ∧ n < 10 ^ d → -9000000000000000000 ≤ n ∧ n ≤ 9000000000000000000 → -1000 ≤ p → p + d ≤ 1000 → Ev (fun k => spec_l20Qty.l0 k n p v s) (if qtyB (bareGo d n p).1 (bareGo d n p).2 v s = true then ((bareGo d n p).1, (bareGo d n p).2, v, s, true) else (0, 0, 0, 0, false)) := by
 intro d
 induction d with
 | zero => intro n p h0 hd; simp at hd; omega
 | succ d ih =>
  intro n p h0 hd hb hp hp2
  have t := tmod10 n
  by_cases h : n % 10 = 0
  case neg =>
   have e : bareGo (d + 1) n p = (n, p) := by simp only [bareGo]; rw [if_neg h]
   rw [e]
   refine Ev.succ ?_
   simp only [spec_l20Qty.l0]
   exact Ev.neg h0 (Ev.neg (fun hh => h (t.1 hh)) (Ev.next (sQtyOk_ev n p v s) (Ev.cond (fun _ => Ev.some_ rfl) (fun _ => Ev.some_ rfl))))
  have a := abs10 h h0 hd
  have e : bareGo (d + 1) n p = bareGo d (n / 10) (p + 1) := by simp only [bareGo]; rw [if_pos h]
  rw [e]
  refine Ev.succ ?_
  simp only [spec_l20Qty.l0]
  rw [tdiv10 h, w64 (n := n / 10) (by omega) (by omega), w64 (n := p + 1) (by omega) (by omega)]
  exact Ev.neg h0 (Ev.pos (t.2 h) (ih (n / 10) (p + 1) a.1 a.2 (by omega) (by omega) (by omega)))
theorem l20Qty_ev (n p v s : Int) (hn : -9000000000000000000 ≤ n ∧ n ≤ 9000000000000000000) (hp : -900 ≤ p ∧ p ≤ 900) : Ev (fun k => spec_l20Qty.f k n p v s) (rightOf n p v s) := by
 unfold spec_l20Qty.f rightOf
 by_cases h : n = 0
 case neg =>
  rw [if_neg h]
  refine Ev.neg h (Ev.succ ?_)
  simp only [spec_l20Qty.j0]
  exact l20Qty_l0 v s 20 n p h (by omega) hn (by omega) (by omega)
 subst h
 rw [if_pos rfl]
 refine Ev.pos rfl (Ev.succ ?_)
 simp only [spec_l20Qty.j0]
 refine Ev.succ ?_
 simp only [spec_l20Qty.l0]
 exact Ev.pos trivial (Ev.next (sQtyOk_ev 0 0 v s) (Ev.cond (fun _ => Ev.some_ rfl) (fun _ => Ev.some_ rfl)))
theorem l20DrawQty_ev (l : List Int) (hl : l.length ≤ 1048576) (p h : Int) (h0 : 0 ≤ p) (h1 : p ≤ l.length) : EvP (fun k => spec_l20DrawQty.f k l p h) (fun r => 0 ≤ r.2.2.2.2.1 ∧ r.2.2.2.2.1 ≤ l.length) := by
 have j0 : ∀ (b : Bool) (p h a c d e : Int), 0 ≤ p → p ≤ l.length → EvP (fun k => spec_l20DrawQty.j0 k b l p h a c d e) (fun r => 0 ≤ r.2.2.2.2.1 ∧ r.2.2.2.2.1 ≤ l.length) := by
  intro b p h a c d e h0 h1
  obtain ⟨r, e1, _, hp⟩ := l1PickInt_ok l p h [0, 7, 1000000000, 1000000001, 999999999, 10, (-3)] h0 h1 hl (by decide)
  obtain ⟨r2, e2, _, hp2⟩ := l1PickInt_ok l r.2.1 r.2.2 [0, 30, 31, (-30), (-31), 5] hp.1 hp.2 hl (by decide)
  obtain ⟨r3, e3, _, hp3⟩ := l1PickInt_ok l r2.2.1 r2.2.2 [0, 9, 10, (-10)] hp2.1 hp2.2 hl (by decide)
  obtain ⟨r4, e4, _, hp4⟩ := l1PickInt_ok l r3.2.1 r3.2.2 [0, (-9), 1] hp3.1 hp3.2 hl (by decide)
  refine EvP.succ ?_
  simp only [spec_l20DrawQty.j0]
  refine EvP.both (fun _ => ?_) (fun _ => EvP.now ⟨h0, h1⟩)
  refine EvP.next (Ev.p (Ev.here e1)) ?_
  rintro r rfl
  refine EvP.next (Ev.p (Ev.here e2)) ?_
  rintro r2 rfl
  refine EvP.next (Ev.p (Ev.here e3)) ?_
  rintro r3 rfl
  refine EvP.next (Ev.p (Ev.here e4)) ?_
  rintro r4 rfl
  exact EvP.now hp4
 obtain ⟨r, e1, hb, hp⟩ := l1Below_ok l p h 20001 h0 h1 hl
 obtain ⟨r2, e2, hb2, hp2⟩ := l1Below_ok l r.2.1 r.2.2 12 hp.1 hp.2 hl
 obtain ⟨r3, e3, hb3, hp3⟩ := l1Below_ok l r2.2.1 r2.2.2 5 hp2.1 hp2.2 hl
 obtain ⟨r4, e4, hb4, hp4⟩ := l1Below_ok l r3.2.1 r3.2.2 5 hp3.1 hp3.2 hl
 obtain ⟨r5, e5, hp5⟩ := l1Once_ok l r4.2.1 r4.2.2 10 hp4.1 hp4.2 hl
 unfold spec_l20DrawQty.f
 refine EvP.next (Ev.p (Ev.here e1)) ?_
 rintro r rfl
 refine EvP.next (Ev.p (Ev.here e2)) ?_
 rintro r2 rfl
 refine EvP.next (Ev.p (Ev.here e3)) ?_
 rintro r3 rfl
 refine EvP.next (Ev.p (Ev.here e4)) ?_
 rintro r4 rfl
 refine EvP.next (Ev.p (l20Qty_ev _ _ _ _ (by rw [w64 (by omega) (by omega)]; omega) (by rw [w64 (by omega) (by omega)]; omega))) ?_
 rintro _ rfl
 refine EvP.both (fun _ => ?_) (fun _ => j0 _ _ _ _ _ _ _ hp4.1 hp4.2)
 refine EvP.next (Ev.p (Ev.here e5)) ?_
 rintro r5 rfl
 exact j0 _ _ _ _ _ _ _ hp5.1 hp5.2
def addOf (n p v s n2 p2 v2 s2 : Int) : Int × Int × Int × Int × Bool :=
 if qtyB n p v s = true ∧ qtyB n2 p2 v2 s2 = true ∧ v = v2 ∧ s = s2 then
  (if n = 0 then (n2, p2, v2, s2, true)
   else if n2 = 0 then (n, p, v, s, true)
   else if p < p2 then (if p2 - p > 9 then (0, 0, 0, 0, false) else rightOf (n2 * 10 ^ (p2 - p).toNat + n) p v s)
   else (if p - p2 > 9 then (0, 0, 0, 0, false) else rightOf (n * 10 ^ (p - p2).toNat + n2) p2 v s))
 else (0, 0, 0, 0, false)
theorem add_step {x : Int} {d : Nat} (h : x.natAbs * 10 ^ (d + 1) ≤ 1000000000000000000) : (-1000000000000000000 ≤ x * 10 ∧ x * 10 ≤ 1000000000000000000) ∧ (x * 10).natAbs * 10 ^ d ≤ 1000000000000000000 ∧ x * 10 ^ (d + 1) = x * 10 * 10 ^ d := by
 have e : (x * 10).natAbs * 10 ^ d = x.natAbs * 10 ^ (d + 1) := by rw [Int.natAbs_mul, Nat.pow_succ, Nat.mul_assoc, Nat.mul_comm (10 ^ d) 10]; rfl
 have l : (x * 10).natAbs ≤ (x * 10).natAbs * 10 ^ d := Nat.le_mul_of_pos_right _ (Nat.pow_pos (by omega))
 refine ⟨by omega, by omega, ?_⟩
 rw [Int.pow_succ, Int.mul_assoc, Int.mul_comm (10 ^ d) 10]
theorem add_bd {x : Int} {d : Nat} (hx : -1000000000 ≤ x ∧ x ≤ 1000000000) (hd : d ≤ 9) : x.natAbs * 10 ^ d ≤ 1000000000000000000 := by
 have h1 : x.natAbs ≤ 1000000000 := by omega
 have h2 : (10 : Nat) ^ d ≤ 10 ^ 9 := Nat.pow_le_pow_right (by omega) hd
 exact Nat.mul_le_mul h1 h2
theorem add_bd2 {x : Int} {d : Nat} (h : x.natAbs * 10 ^ d ≤ 1000000000000000000) : -1000000000000000000 ≤ x * 10 ^ d ∧ x * 10 ^ d ≤ 1000000000000000000 := by
 have e : (x * 10 ^ d).natAbs = x.natAbs * 10 ^ d := by rw [Int.natAbs_mul, Int.natAbs_pow]; rfl
 omega
theorem to_eq (a b c : Int) : impl_to.f a b c = some (decide (b ≤ a) && decide (a ≤ c)) := by
 unfold impl_to.f
 by_cases h : a ≥ b
 case pos => rw [if_pos h]; simp [show b ≤ a from h]
 rw [if_neg h]; simp [show ¬ b ≤ a from h]
theorem sample_eq (a : Int) : impl_sample.f a = some (decide (-1000000000 ≤ a ∧ a ≤ 1000000000)) := by
 unfold impl_sample.f
 by_cases h : a ≥ -1000000000 <;> simp [h]
theorem iQtyOk_eq (n p v s : Int) : impl_QtyOk.f n p v s = some (qtyB n p v s) := by
 unfold impl_QtyOk.f
 simp only [sample_eq, to_eq, Option.bind_some]
 have h10 := tmod10 n
 have fin : (if (decide (-30 ≤ p) && decide (p ≤ 30)) = true then (if (decide (-9 ≤ v) && decide (v ≤ 9)) = true then some (decide (-9 ≤ s) && decide (s ≤ 9)) else some false) else some false) = some (decide ((-30 ≤ p ∧ p ≤ 30) ∧ (-9 ≤ v ∧ v ≤ 9) ∧ (-9 ≤ s ∧ s ≤ 9))) := by
  by_cases h1 : -30 ≤ p ∧ p ≤ 30
  case neg => rw [if_neg (by simp; omega)]; symm; simp; omega
  rw [if_pos (by simp [h1])]
  by_cases h2 : -9 ≤ v ∧ v ≤ 9
  case pos => rw [if_pos (by simp [h2])]; simp [h1, h2]
  rw [if_neg (by simp; omega)]; symm; simp; omega
 rw [fin]
 unfold qtyB
 by_cases h1 : -1000000000 ≤ n ∧ n ≤ 1000000000
 case neg => rw [if_neg (by simp; omega), Option.some.injEq]; symm; simp only [decide_eq_false_iff_not]; omega
 rw [if_pos (by simp [h1])]
 by_cases h2 : Int.tmod n 10 = 0
 case neg => rw [if_neg h2, Option.some.injEq, decide_eq_decide]; omega
 rw [if_pos h2]
 by_cases h3 : n = 0
 case neg => rw [if_neg h3, Option.some.injEq]; symm; simp only [decide_eq_false_iff_not]; omega
 rw [if_pos h3]
 by_cases h4 : p = 0
 case pos => rw [if_pos h4, Option.some.injEq, decide_eq_decide]; omega
 rw [if_neg h4, Option.some.injEq]; symm; simp only [decide_eq_false_iff_not]; omega
theorem ibare_l0 (v s : Int) : ∀ (d : Nat) (n p : Int), n ≠ 0 → -(10 : Int) ^ d < n ∧ n < 10 ^ d → -9000000000000000000 ≤ n ∧ n ≤ 9000000000000000000 → -1000 ≤ p → p + d ≤ 1000 → Ev (fun k => impl_bare.l0 k n p v s) ((bareGo d n p).1, (bareGo d n p).2, v, s) := by
 intro d
 induction d with
 | zero => intro n p h0 hd; simp at hd; omega
 | succ d ih =>
  intro n p h0 hd hb hp hp2
  have t := tmod10 n
  refine Ev.succ ?_
  simp only [impl_bare.l0, bareGo]
  by_cases h : n % 10 = 0
  case neg => rw [if_neg h]; exact Ev.neg (fun hh => h (t.1 hh)) (Ev.some_ rfl)
  have a := abs10 h h0 hd
  rw [if_pos h, tdiv10 h, w64 (n := n / 10) (by omega) (by omega), w64 (n := p + 1) (by omega) (by omega)]
  exact Ev.pos (t.2 h) (ih (n / 10) (p + 1) a.1 a.2 (by omega) (by omega) (by omega))
theorem iright_ev (n p v s : Int) (hn : -9000000000000000000 ≤ n ∧ n ≤ 9000000000000000000) (hp : -900 ≤ p ∧ p ≤ 900) : Ev (fun k => impl_right.f k n p v s) (rightOf n p v s) := by
 unfold impl_right.f impl_bare.f rightOf
 by_cases h : n = 0
 case pos =>
  subst h
  rw [if_pos rfl]
  refine Ev.next (a := (0, 0, v, s)) (Ev.pos rfl (Ev.some_ rfl)) ?_
  simp only [iQtyOk_eq, Option.bind_some]
  exact Ev.cond (fun _ => Ev.some_ rfl) (fun _ => Ev.some_ rfl)
 rw [if_neg h]
 refine Ev.next (Ev.neg h (ibare_l0 v s 20 n p h (by omega) hn (by omega) (by omega))) ?_
 simp only [iQtyOk_eq, Option.bind_some]
 exact Ev.cond (fun _ => Ev.some_ rfl) (fun _ => Ev.some_ rfl)
theorem iAdd_l0 (na pa va sa vb sb : Int) (ha : -1000000000 ≤ na ∧ na ≤ 1000000000) (hpa : -30 ≤ pa ∧ pa ≤ 30) : ∀ (d : Nat) (nb pb : Int), pb = pa + d → d ≤ 9 → nb.natAbs * 10 ^ d ≤ 1000000000000000000 → Ev (fun k => impl_AddQty.l0 k na pa va sa nb pb vb sb) (rightOf (nb * 10 ^ d + na) pa va sa) := by
 intro d
 induction d with
 | zero =>
  intro nb pb hp _ h
  have b := add_bd2 h
  rw [Int.pow_zero, Int.mul_one] at b ⊢
  refine Ev.succ ?_
  simp only [impl_AddQty.l0]
  rw [w64 (n := na + nb) (by omega) (by omega), Int.add_comm nb na]
  exact Ev.neg (by omega) (Ev.next (iright_ev _ _ _ _ (by omega) (by omega)) (Ev.some_ rfl))
 | succ d ih =>
  intro nb pb hp hd h
  obtain ⟨b, b2, e⟩ := add_step h
  rw [e]
  refine Ev.succ ?_
  simp only [impl_AddQty.l0]
  rw [w64 (n := nb * 10) (by omega) (by omega), w64 (n := pb - 1) (by omega) (by omega)]
  exact Ev.pos (by omega) (ih (nb * 10) (pb - 1) (by omega) (by omega) b2)
theorem iAdd_j1 (na pa va sa nb pb vb sb : Int) (ha : -1000000000 ≤ na ∧ na ≤ 1000000000) (hpa : -30 ≤ pa ∧ pa ≤ 30) (hb : -1000000000 ≤ nb ∧ nb ≤ 1000000000) (hpb : -30 ≤ pb ∧ pb ≤ 30) (hp : pa ≤ pb) : Ev (fun k => impl_AddQty.j1 k na pa va sa nb pb vb sb) (if pb - pa > 9 then (0, 0, 0, 0, false) else rightOf (nb * 10 ^ (pb - pa).toNat + na) pa va sa) := by
 refine Ev.succ ?_
 simp only [impl_AddQty.j1]
 rw [w64 (n := pb - pa) (by omega) (by omega)]
 by_cases h : pb - pa > 9
 case pos => rw [if_pos h]; exact Ev.pos h (Ev.some_ rfl)
 rw [if_neg h]; exact Ev.neg h (iAdd_l0 na pa va sa vb sb ha hpa _ nb pb (by omega) (by omega) (add_bd hb (by omega)))
theorem iAdd_j0 (n p v s n2 p2 : Int) (x : Bool) (ha : -1000000000 ≤ n ∧ n ≤ 1000000000) (hpa : -30 ≤ p ∧ p ≤ 30) (hb : -1000000000 ≤ n2 ∧ n2 ≤ 1000000000) (hpb : -30 ≤ p2 ∧ p2 ≤ 30) (hx : x = false) : Ev (fun k => impl_AddQty.j0 k x n p v s n2 p2 v s) (if n = 0 then (n2, p2, v, s, true) else if n2 = 0 then (n, p, v, s, true) else if p < p2 then (if p2 - p > 9 then (0, 0, 0, 0, false) else rightOf (n2 * 10 ^ (p2 - p).toNat + n) p v s) else (if p - p2 > 9 then (0, 0, 0, 0, false) else rightOf (n * 10 ^ (p - p2).toNat + n2) p2 v s)) := by
 refine Ev.succ ?_
 simp only [impl_AddQty.j0]
 refine Ev.neg (by rw [hx]; decide) ?_
 by_cases h : n = 0
 case pos => rw [if_pos h]; exact Ev.pos h (Ev.some_ rfl)
 rw [if_neg h]; refine Ev.neg h ?_
 by_cases h2 : n2 = 0
 case pos => rw [if_pos h2]; exact Ev.pos h2 (Ev.some_ rfl)
 rw [if_neg h2]; refine Ev.neg h2 ?_
 by_cases h3 : p > p2
 case pos => rw [if_neg (show ¬ p < p2 by omega)]; exact Ev.pos h3 (iAdd_j1 n2 p2 v s n p v s hb hpb ha hpa (by omega))
 by_cases h4 : p < p2
 case pos => rw [if_pos h4]; exact Ev.neg h3 (iAdd_j1 n p v s n2 p2 v s ha hpa hb hpb (by omega))
 have e : p2 = p := by omega
 subst e
 have j := iAdd_j1 n p2 v s n2 p2 v s ha hpa hb hpb (by omega)
 rw [Int.sub_self] at j ⊢
 rw [if_neg (show ¬ p2 < p2 by omega)]
 simp only [Int.toNat_zero, Int.pow_zero, Int.mul_one] at j ⊢
 rw [Int.add_comm n n2]
 exact Ev.neg h3 j
theorem iAddQty_ev (n p v s n2 p2 v2 s2 : Int) : Ev (fun k => impl_AddQty.f k n p v s n2 p2 v2 s2) (addOf n p v s n2 p2 v2 s2) := by
 unfold impl_AddQty.f addOf
 simp only [iQtyOk_eq, Option.bind_some]
 have ft : ∀ (n p v s n2 p2 v2 s2 : Int) (x : Bool), x = true → Ev (fun k => impl_AddQty.j0 k x n p v s n2 p2 v2 s2) (0, 0, 0, 0, false) := by
  intro n p v s n2 p2 v2 s2 x hx
  refine Ev.succ ?_
  simp only [impl_AddQty.j0]
  exact Ev.pos hx (Ev.some_ rfl)
 by_cases h1 : qtyB n p v s = true
 case neg => rw [if_neg (fun h => h1 h.1)]; exact Ev.neg h1 (ft _ _ _ _ _ _ _ _ _ rfl)
 refine Ev.pos h1 ?_
 by_cases h2 : qtyB n2 p2 v2 s2 = true
 case neg => rw [if_neg (fun h => h2 h.2.1)]; exact Ev.neg h2 (ft _ _ _ _ _ _ _ _ _ rfl)
 refine Ev.pos h2 ?_
 by_cases h3 : v = v2
 case neg => rw [if_neg (fun h => h3 h.2.2.1)]; exact Ev.neg h3 (ft _ _ _ _ _ _ _ _ _ rfl)
 refine Ev.pos h3 ?_
 by_cases h4 : s = s2
 case neg => rw [if_neg (fun h => h4 h.2.2.2)]; exact ft _ _ _ _ _ _ _ _ _ (by simpa using h4)
 rw [if_pos ⟨h1, h2, h3, h4⟩]
 subst h3; subst h4
 obtain ⟨a1, _, a3, a4, a5⟩ := qtyB_iff.1 h1
 obtain ⟨b1, _, b3, b4, b5⟩ := qtyB_iff.1 h2
 exact iAdd_j0 n p v s n2 p2 _ a1 a3 b1 b3 (by simp)
theorem sAdd_l0 (na pa va sa nb pb vb sb : Int) (hb : -1000000000 ≤ nb ∧ nb ≤ 1000000000) (hpb : -30 ≤ pb ∧ pb ≤ 30) : ∀ (d : Nat) (x y : Int), pa = y + d → -100 ≤ y → y + d ≤ 100 → d ≤ 9 → x.natAbs * 10 ^ d ≤ 1000000000000000000 → Ev (fun k => spec_AddQty.l0 k x y na pa va sa nb pb vb sb) (rightOf (x * 10 ^ d + nb) pb va sa) := by
 intro d
 induction d with
 | zero =>
  intro x y hp _ _ _ h
  have b := add_bd2 h
  rw [Int.pow_zero, Int.mul_one] at b ⊢
  refine Ev.succ ?_
  simp only [spec_AddQty.l0]
  rw [w64 (n := x + nb) (by omega) (by omega)]
  exact Ev.neg (by omega) (Ev.next (l20Qty_ev _ _ _ _ (by omega) (by omega)) (Ev.some_ rfl))
 | succ d ih =>
  intro x y hp hy hy2 hd h
  obtain ⟨b, b2, e⟩ := add_step h
  rw [e]
  refine Ev.succ ?_
  simp only [spec_AddQty.l0]
  rw [w64 (n := x * 10) (by omega) (by omega), w64 (n := y + 1) (by omega) (by omega)]
  exact Ev.pos (by omega) (ih (x * 10) (y + 1) (by omega) (by omega) (by omega) (by omega) b2)
theorem sAdd_j0 (n p v s n2 p2 : Int) (x : Bool) (ha : -1000000000 ≤ n ∧ n ≤ 1000000000) (hpa : -30 ≤ p ∧ p ≤ 30) (hb : -1000000000 ≤ n2 ∧ n2 ≤ 1000000000) (hpb : -30 ≤ p2 ∧ p2 ≤ 30) (hx : x = false) (hn : n ≠ 0) (hn2 : n2 ≠ 0) (hp : ¬ p < p2) : Ev (fun k => spec_AddQty.j0 k x n p v s n2 p2 v s) (if p - p2 > 9 then (0, 0, 0, 0, false) else rightOf (n * 10 ^ (p - p2).toNat + n2) p2 v s) := by
 refine Ev.succ ?_
 simp only [spec_AddQty.j0]
 refine Ev.neg (by rw [hx]; decide) (Ev.neg hn (Ev.neg hn2 (Ev.neg hp ?_)))
 rw [w64 (n := p - p2) (by omega) (by omega)]
 by_cases h : p - p2 > 9
 case pos => rw [if_pos h]; exact Ev.pos h (Ev.some_ rfl)
 rw [if_neg h]; exact Ev.neg h (sAdd_l0 n p v s n2 p2 v s hb hpb _ n p2 (by omega) (by omega) (by omega) (by omega) (add_bd ha (by omega)))
theorem sAddQty_ev (n p v s n2 p2 v2 s2 : Int) : Ev (fun k => spec_AddQty.f k n p v s n2 p2 v2 s2) (addOf n p v s n2 p2 v2 s2) := by
 unfold addOf
 have ft : ∀ (n p v s n2 p2 v2 s2 : Int) (x : Bool), x = true → Ev (fun k => spec_AddQty.j0 k x n p v s n2 p2 v2 s2) (0, 0, 0, 0, false) := by
  intro n p v s n2 p2 v2 s2 x hx
  refine Ev.succ ?_
  simp only [spec_AddQty.j0]
  exact Ev.pos hx (Ev.some_ rfl)
 refine Ev.succ ?_
 simp only [spec_AddQty.f]
 refine Ev.next (sQtyOk_ev n p v s) ?_
 by_cases h1 : qtyB n p v s = true
 case neg => rw [if_neg (fun h => h1 h.1)]; exact Ev.neg h1 (ft _ _ _ _ _ _ _ _ _ rfl)
 refine Ev.pos h1 (Ev.next (sQtyOk_ev n2 p2 v2 s2) ?_)
 by_cases h2 : qtyB n2 p2 v2 s2 = true
 case neg => rw [if_neg (fun h => h2 h.2.1)]; exact Ev.neg h2 (ft _ _ _ _ _ _ _ _ _ rfl)
 refine Ev.pos h2 ?_
 by_cases h3 : v = v2
 case neg => rw [if_neg (fun h => h3 h.2.2.1)]; exact Ev.neg h3 (ft _ _ _ _ _ _ _ _ _ rfl)
 refine Ev.pos h3 ?_
 by_cases h4 : s = s2
 case neg => rw [if_neg (fun h => h4 h.2.2.2)]; exact ft _ _ _ _ _ _ _ _ _ (by simpa using h4)
 rw [if_pos ⟨h1, h2, h3, h4⟩]
 subst h3; subst h4
 obtain ⟨a1, _, a3, a4, a5⟩ := qtyB_iff.1 h1
 obtain ⟨b1, _, b3, b4, b5⟩ := qtyB_iff.1 h2
 have hx : (s != s) = false := by simp
 by_cases c1 : n = 0
 case pos => rw [if_pos c1]; refine Ev.succ ?_; simp only [spec_AddQty.j0]; exact Ev.neg (by rw [hx]; decide) (Ev.pos c1 (Ev.some_ rfl))
 rw [if_neg c1]
 by_cases c2 : n2 = 0
 case pos => rw [if_pos c2]; refine Ev.succ ?_; simp only [spec_AddQty.j0]; exact Ev.neg (by rw [hx]; decide) (Ev.neg c1 (Ev.pos c2 (Ev.some_ rfl)))
 rw [if_neg c2]
 by_cases c3 : p < p2
 case neg => rw [if_neg c3]; exact sAdd_j0 n p v s n2 p2 _ a1 a3 b1 b3 hx c1 c2 c3
 rw [if_pos c3]
 refine Ev.succ ?_; simp only [spec_AddQty.j0]
 refine Ev.neg (by rw [hx]; decide) (Ev.neg c1 (Ev.neg c2 (Ev.pos c3 (Ev.next (a := if p2 - p > 9 then (0, 0, 0, 0, false) else rightOf (n2 * 10 ^ (p2 - p).toNat + n) p v s) ?_ (Ev.some_ rfl)))))
 refine Ev.succ ?_
 simp only [spec_AddQty.f]
 exact Ev.next (sQtyOk_ev n2 p2 v s) (Ev.pos h2 (Ev.next (sQtyOk_ev n p v s) (Ev.pos h1 (Ev.pos trivial (sAdd_j0 n2 p2 v s n p _ b1 b3 a1 a3 hx c2 c1 (by omega))))))
theorem iMulQty_ev (n p v s n2 p2 v2 s2 : Int) : Ev (fun k => impl_MulQty.f k n p v s n2 p2 v2 s2) (mulOf n p v s n2 p2 v2 s2) := by
 unfold impl_MulQty.f mulOf
 simp only [iQtyOk_eq, Option.bind_some]
 by_cases h1 : qtyB n p v s = true
 case neg => rw [if_neg (fun h => h1 h.1)]; exact Ev.neg h1 (Ev.some_ rfl)
 refine Ev.pos h1 ?_
 by_cases h2 : qtyB n2 p2 v2 s2 = true
 case neg => rw [if_neg (fun h => h2 h.2)]; exact Ev.neg h2 (Ev.some_ rfl)
 rw [if_pos ⟨h1, h2⟩]
 obtain ⟨a1, _, a3, a4, a5⟩ := qtyB_iff.1 h1
 obtain ⟨b1, _, b3, b4, b5⟩ := qtyB_iff.1 h2
 have hm := mul_bd a1 b1
 rw [w64 (n := n * n2) (by omega) (by omega), w64 (n := p + p2) (by omega) (by omega), w64 (n := v + v2) (by omega) (by omega), w64 (n := s + s2) (by omega) (by omega)]
 exact Ev.pos h2 (Ev.next (iright_ev _ _ _ _ (by omega) (by omega)) (Ev.some_ rfl))
theorem sMulQty_ev (n p v s n2 p2 v2 s2 : Int) : Ev (fun k => spec_MulQty.f k n p v s n2 p2 v2 s2) (mulOf n p v s n2 p2 v2 s2) := by
 unfold spec_MulQty.f mulOf
 refine Ev.next (sQtyOk_ev n p v s) ?_
 by_cases h1 : qtyB n p v s = true
 case neg => rw [if_neg (fun h => h1 h.1)]; exact Ev.neg h1 (Ev.some_ rfl)
 refine Ev.pos h1 (Ev.next (sQtyOk_ev n2 p2 v2 s2) ?_)
 by_cases h2 : qtyB n2 p2 v2 s2 = true
 case neg => rw [if_neg (fun h => h2 h.2)]; exact Ev.neg h2 (Ev.some_ rfl)
 rw [if_pos ⟨h1, h2⟩]
 obtain ⟨a1, _, a3, a4, a5⟩ := qtyB_iff.1 h1
 obtain ⟨b1, _, b3, b4, b5⟩ := qtyB_iff.1 h2
 have hm := mul_bd a1 b1
 rw [w64 (n := n * n2) (by omega) (by omega), w64 (n := p + p2) (by omega) (by omega), w64 (n := v + v2) (by omega) (by omega), w64 (n := s + s2) (by omega) (by omega)]
 exact Ev.pos h2 (Ev.next (l20Qty_ev _ _ _ _ (by omega) (by omega)) (Ev.some_ rfl))
theorem DrawAddQty_ev (l : List Int) (hl : l.length ≤ 1048576) : EvP (fun k => spec_DrawAddQty.f k l) (fun _ => True) := by
 unfold spec_DrawAddQty.f
 refine EvP.next (l1New_ev l) ?_
 rintro ⟨l', p', h'⟩ ⟨rfl, hp⟩
 simp only at hp
 subst hp
 refine EvP.next (l20DrawQty_ev l' hl 0 h' (by omega) (by omega)) ?_
 rintro r hr
 refine EvP.next (l20DrawQty_ev l' hl _ _ hr.1 hr.2) ?_
 rintro r2 hr2
 obtain ⟨r3, e3, _⟩ := l1Once_ok l' r2.2.2.2.2.1 r2.2.2.2.2.2 4 hr2.1 hr2.2 hl
 refine EvP.next (Ev.p (Ev.here e3)) ?_
 rintro r3 rfl
 exact EvP.both (fun _ => EvP.now trivial) (fun _ => EvP.now trivial)
theorem addOf_comm (n p v s n2 p2 v2 s2 : Int) : addOf n p v s n2 p2 v2 s2 = addOf n2 p2 v2 s2 n p v s := by
 by_cases h : qtyB n p v s = true ∧ qtyB n2 p2 v2 s2 = true ∧ v = v2 ∧ s = s2
 case neg => rw [show addOf n p v s n2 p2 v2 s2 = _ from if_neg h, show addOf n2 p2 v2 s2 n p v s = _ from if_neg (fun h2 => h ⟨h2.2.1, h2.1, h2.2.2.1.symm, h2.2.2.2.symm⟩)]
 obtain ⟨h1, h2, rfl, rfl⟩ := h
 rw [show addOf n p v s n2 p2 v s = _ from if_pos ⟨h1, h2, rfl, rfl⟩, show addOf n2 p2 v s n p v s = _ from if_pos ⟨h2, h1, rfl, rfl⟩]
 have q1 := qtyB_iff.1 h1
 have q2 := qtyB_iff.1 h2
 by_cases c1 : n = 0
 case pos =>
  rw [if_pos c1]
  by_cases c2 : n2 = 0
  case neg => rw [if_neg c2, if_pos c1]
  rw [if_pos c2]
  have : p = 0 := by omega
  have : p2 = 0 := by omega
  subst_vars
  rfl
 rw [if_neg c1]
 by_cases c2 : n2 = 0
 case pos => rw [if_pos c2, if_pos c2]
 rw [if_neg c2, if_neg c2, if_neg c1]
 rcases Int.lt_trichotomy p p2 with c3 | c3 | c3
 ·rw [if_pos c3, if_neg (show ¬ p2 < p by omega)]
 ·subst c3
  rw [if_neg (show ¬ p < p by omega), if_neg (show ¬ p - p > 9 by omega)]
  simp only [Int.sub_self, Int.toNat_zero, Int.pow_zero, Int.mul_one, Int.add_comm]
  rw [if_neg (show ¬ p < p by omega), if_neg (show ¬ (0 : Int) > 9 by omega)]
 ·rw [if_neg (show ¬ p < p2 by omega), if_pos c3]
theorem mulOf_comm (n p v s n2 p2 v2 s2 : Int) : mulOf n p v s n2 p2 v2 s2 = mulOf n2 p2 v2 s2 n p v s := by
 by_cases h : qtyB n p v s = true ∧ qtyB n2 p2 v2 s2 = true
 case neg => rw [show mulOf n p v s n2 p2 v2 s2 = _ from if_neg h, show mulOf n2 p2 v2 s2 n p v s = _ from if_neg (fun h2 => h ⟨h2.2, h2.1⟩)]
 rw [show mulOf n p v s n2 p2 v2 s2 = _ from if_pos h, show mulOf n2 p2 v2 s2 n p v s = _ from if_pos ⟨h.2, h.1⟩, Int.mul_comm n, Int.add_comm p, Int.add_comm v, Int.add_comm s]
theorem rightOf_unit {n p v s : Int} (h : (rightOf n p v s).2.2.2.2 = true) : (rightOf n p v s).2.2.1 = v ∧ (rightOf n p v s).2.2.2.1 = s := by
 unfold rightOf at h ⊢
 split at h
 ·rename_i h1
  rw [if_pos h1]
  split at h
  ·rename_i h2; rw [if_pos h2]; exact ⟨rfl, rfl⟩
  ·cases h
 ·rename_i h1
  rw [if_neg h1]
  split at h
  ·rename_i h2; rw [if_pos h2]; exact ⟨rfl, rfl⟩
  ·cases h
theorem addOf_unit {n p v s n2 p2 v2 s2 : Int} (h : (addOf n p v s n2 p2 v2 s2).2.2.2.2 = true) : (addOf n p v s n2 p2 v2 s2).2.2.1 = v ∧ (addOf n p v s n2 p2 v2 s2).2.2.2.1 = s := by
 unfold addOf at h ⊢
 split at h
 ·rename_i h1
  rw [if_pos h1]
  split at h
  ·rename_i h2; rw [if_pos h2]; exact ⟨h1.2.2.1.symm, h1.2.2.2.symm⟩
  ·rename_i h2
   rw [if_neg h2]
   split at h
   ·rename_i h3; rw [if_pos h3]; exact ⟨rfl, rfl⟩
   ·rename_i h3
    rw [if_neg h3]
    split at h
    ·rename_i h4
     rw [if_pos h4]
     split at h
     ·cases h
     ·rename_i h5; rw [if_neg h5]; exact rightOf_unit h
    ·rename_i h4
     rw [if_neg h4]
     split at h
     ·cases h
     ·rename_i h5; rw [if_neg h5]; exact rightOf_unit h
 ·cases h
theorem mulOf_unit {n p v s n2 p2 v2 s2 : Int} (h : (mulOf n p v s n2 p2 v2 s2).2.2.2.2 = true) : (mulOf n p v s n2 p2 v2 s2).2.2.1 = wrap64 (v + v2) ∧ (mulOf n p v s n2 p2 v2 s2).2.2.2.1 = wrap64 (s + s2) := by
 unfold mulOf at h ⊢
 split at h
 ·rename_i h1
  rw [if_pos h1]
  have q1 := qtyB_iff.1 h1.1
  have q2 := qtyB_iff.1 h1.2
  rw [w64 (n := v + v2) (by omega) (by omega), w64 (n := s + s2) (by omega) (by omega)]
  exact rightOf_unit h
 ·cases h
theorem law_j1 (a b c d a2 b2 c2 d2 : Int) : Ev (fun k => laws_FnQtySums.j1 k (addOf a b c d a2 b2 c2 d2).2.2.2.2 (mulOf a b c d a2 b2 c2 d2).2.2.2.2 false a b c d a2 b2 c2 d2 (addOf a b c d a2 b2 c2 d2).1 (addOf a b c d a2 b2 c2 d2).2.1 (addOf a b c d a2 b2 c2 d2).2.2.1 (addOf a b c d a2 b2 c2 d2).2.2.2.1 (mulOf a b c d a2 b2 c2 d2).1 (mulOf a b c d a2 b2 c2 d2).2.1 (mulOf a b c d a2 b2 c2 d2).2.2.1 (mulOf a b c d a2 b2 c2 d2).2.2.2.1) true := by
 have hm : (mulOf a b c d a2 b2 c2 d2).2.2.2.2 = true → _ := mulOf_unit
 have ha : (addOf a b c d a2 b2 c2 d2).2.2.2.2 = true → _ := addOf_unit
 refine Ev.succ ?_
 simp only [laws_FnQtySums.j1]
 refine Ev.neg (by decide) (Ev.next (iAddQty_ev 5 1 0 0 50 0 0 0) (Ev.neg (by decide +kernel) (Ev.neg (by decide +kernel) (Ev.next (iAddQty_ev 5 1 0 0 3 0 0 0) (Ev.pos (by decide +kernel) (Ev.pos (by decide +kernel) ?_))))))
 have tail : Ev (fun k => if (mulOf a b c d a2 b2 c2 d2).2.2.2.2 = true then (if (mulOf a b c d a2 b2 c2 d2).2.2.1 = wrap64 (c + c2) then some ((mulOf a b c d a2 b2 c2 d2).2.2.2.1 == wrap64 (d + d2)) else some false) else some true) true :=
  Ev.both (fun h => Ev.pos (hm h).1 (Ev.some_ (beq_iff_eq.2 (hm h).2))) (fun _ => Ev.some_ rfl)
 exact Ev.both (fun h => Ev.pos (ha h).1 (Ev.pos (ha h).2 tail)) (fun _ => tail)
theorem FnQtySums (l : List Int) (m0 : l.length ≤ maxLen) (w0 : ∀ x ∈ l, (Lit.int .u8 x).wf = true) : ∃ k, laws_FnQtySums.f k l = some true := by
 refine EvP.law ?_
 unfold laws_FnQtySums.f laws_big.f
 refine EvP.next (Ev.p (Ev.some_ rfl)) ?_
 rintro _ rfl
 refine EvP.both (fun _ => EvP.now rfl) (fun hl => ?_)
 have hl2 : l.length ≤ 1048576 := by simp at hl; omega
 refine EvP.next (DrawAddQty_ev l hl2) ?_
 rintro ⟨a, b, c, d, a2, b2, c2, d2⟩ _
 refine EvP.next (Ev.p (iAddQty_ev a b c d a2 b2 c2 d2)) ?_
 rintro _ rfl
 refine EvP.next (Ev.p (iAddQty_ev a2 b2 c2 d2 a b c d)) ?_
 rintro _ rfl
 refine EvP.next (Ev.p (iMulQty_ev a b c d a2 b2 c2 d2)) ?_
 rintro _ rfl
 refine EvP.next (Ev.p (iMulQty_ev a2 b2 c2 d2 a b c d)) ?_
 rintro _ rfl
 refine EvP.next (Ev.p (sAddQty_ev a b c d a2 b2 c2 d2)) ?_
 rintro _ rfl
 rw [addOf_comm a2 b2 c2 d2, mulOf_comm a2 b2 c2 d2]
 refine EvP.neg (by simp) (EvP.neg (by simp) ?_)
 simp only [beq_self_eq_true, Bool.not_true, Bool.or_self]
 refine EvP.succ ?_
 simp only [laws_FnQtySums.j0]
 refine EvP.neg (by decide) (EvP.next (Ev.p (sMulQty_ev a b c d a2 b2 c2 d2)) ?_)
 rintro _ rfl
 refine EvP.neg (by simp) (EvP.neg (by simp) ?_)
 simp only [beq_self_eq_true, Bool.not_true, Bool.or_self]
 exact Ev.p (law_j1 a b c d a2 b2 c2 d2)
end Go.Proofs.Ytbhjgkbikmjaaaa.Pure
