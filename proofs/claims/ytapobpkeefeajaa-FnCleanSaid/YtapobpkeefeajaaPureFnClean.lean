import Derived.Test.YtapobpkeefeajaaPFnCleanx24
import Derived.Test.YtapobpkeefeajaaAidV
set_option linter.unusedVariables false
set_option linter.unusedSimpArgs false
namespace Go.Proofs.Ytapobpkeefeajaa.Pure
open Go Go.RowKit Go.Proofs.Ytapobpkeefeajaa.PFnClean Go.Proofs.YtapobpkeefeajaaW.PrintWords Go.Proofs.YtapobpkeefeajaaW.PrintLast Go.Proofs.YtapobpkeefeajaaW.PrintMore
theorem wadd1 {e : Nat} (h : e ≤ 9000000000000000000) : wrap64 ((e : Int) + 1) = ((e + 1 : Nat) : Int) := by rw [w64 (by omega) (by omega)]; omega
theorem wadd2 {e : Nat} (h : e ≤ 9000000000000000000) : wrap64 ((e : Int) + 2) = ((e + 2 : Nat) : Int) := by rw [w64 (by omega) (by omega)]; omega
theorem wadd3 {e : Nat} (h : e ≤ 9000000000000000000) : wrap64 ((e : Int) + 3) = ((e + 3 : Nat) : Int) := by rw [w64 (by omega) (by omega)]; omega
theorem wround8 {e u : Nat} (h : e ≤ 1000000000000000000) (h2 : u ≤ 1000000000000000000) : wrap64 ((e : Int) + wrap64 (Int.tdiv (wrap64 ((u : Int) + 7)) 8)) = ((e + (u + 7) / 8 : Nat) : Int) := by
  rw [w64 (n := (u : Int) + 7) (by omega) (by omega), Int.tdiv_eq_ediv_of_nonneg (by omega), w64 (n := ((u : Int) + 7) / 8) (by omega) (by omega), w64 (by omega) (by omega)]; omega
/-! Multiplication of bytes, as of polynomials by 285: shifts by one place (gfX), summed over the bits. -/
def gfX (a : Nat) : Nat := if 2 * a > 255 then (2 * a) ^^^ 285 else 2 * a
def gfI : Nat → Nat → Nat → Nat → Nat
  | 0, _, _, r => r
  | n + 1, a, b, r => gfI n (gfX a) (b / 2) (if b % 2 = 1 then r ^^^ a else r)
def gfM (a b : Nat) : Nat := gfI 8 a b 0
theorem two_xor (a b : Nat) : 2 * (a ^^^ b) = (2 * a) ^^^ (2 * b) := by
  apply Nat.eq_of_testBit_eq
  intro i
  cases i with
  | zero => simp
  | succ i =>
    rw [Nat.testBit_xor, Nat.testBit_succ, Nat.testBit_succ, Nat.testBit_succ, Nat.mul_div_cancel_left _ (by omega), Nat.mul_div_cancel_left _ (by omega), Nat.mul_div_cancel_left _ (by omega), Nat.testBit_xor]
theorem gfX_top : ∀ a : Fin 256, gfX a.1 = (2 * a.1) ^^^ (if a.1.testBit 7 then 285 else 0) ∧ gfX a.1 < 256 := by decide +kernel
theorem gfX_eq {a : Nat} (h : a < 256) : gfX a = (2 * a) ^^^ (if a.testBit 7 then 285 else 0) := (gfX_top ⟨a, h⟩).1
theorem gfX_lt {a : Nat} (h : a < 256) : gfX a < 256 := (gfX_top ⟨a, h⟩).2
theorem xor_lt256 {a b : Nat} (ha : a < 256) (hb : b < 256) : a ^^^ b < 256 := Nat.xor_lt_two_pow (n := 8) ha hb
theorem gfX_lin {a b : Nat} (ha : a < 256) (hb : b < 256) : gfX (a ^^^ b) = gfX a ^^^ gfX b := by
  rw [gfX_eq ha, gfX_eq hb, gfX_eq (xor_lt256 ha hb), two_xor, Nat.testBit_xor]
  cases a.testBit 7 <;> cases b.testBit 7 <;> simp
  · rw [Nat.xor_assoc]
  · rw [Nat.xor_assoc, Nat.xor_assoc, Nat.xor_comm 285]
  · rw [show (2 * a ^^^ 285) ^^^ (2 * b ^^^ 285) = (2 * a ^^^ 2 * b) ^^^ (285 ^^^ 285) by rw [Nat.xor_assoc, Nat.xor_assoc, ← Nat.xor_assoc 285, Nat.xor_comm 285 (2 * b), Nat.xor_assoc (2 * b)], Nat.xor_self, Nat.xor_zero]
theorem gfX_zero : gfX 0 = 0 := rfl
theorem gfI_r : ∀ (n a b r : Nat), gfI n a b r = r ^^^ gfI n a b 0
  | 0, _, _, r => by simp [gfI]
  | n + 1, a, b, r => by
    simp only [gfI]
    rw [gfI_r n (gfX a) (b / 2) (if b % 2 = 1 then r ^^^ a else r), gfI_r n (gfX a) (b / 2) (if b % 2 = 1 then 0 ^^^ a else 0)]
    split
    · rw [Nat.zero_xor, Nat.xor_assoc]
    · rw [Nat.zero_xor]
theorem gfI_lt : ∀ (n a b : Nat), a < 256 → gfI n a b 0 < 256
  | 0, _, _, _ => by simp [gfI]
  | n + 1, a, b, h => by
    simp only [gfI]
    rw [gfI_r]
    refine xor_lt256 ?_ (gfI_lt n _ _ (gfX_lt h))
    split
    · rw [Nat.zero_xor]; exact h
    · omega
theorem gfI_step (n a b : Nat) : gfI (n + 1) a b 0 = (if b % 2 = 1 then a else 0) ^^^ gfI n (gfX a) (b / 2) 0 := by
  simp only [gfI]
  rw [gfI_r, Nat.zero_xor]
theorem gfI_lin : ∀ (n a c b : Nat), a < 256 → c < 256 → gfI n (a ^^^ c) b 0 = gfI n a b 0 ^^^ gfI n c b 0
  | 0, _, _, _, _, _ => by simp [gfI]
  | n + 1, a, c, b, ha, hc => by
    rw [gfI_step, gfI_step, gfI_step, gfX_lin ha hc, gfI_lin n _ _ _ (gfX_lt ha) (gfX_lt hc)]
    split
    · rw [Nat.xor_assoc, Nat.xor_assoc, ← Nat.xor_assoc c, Nat.xor_comm c, Nat.xor_assoc]
    · simp
theorem gfI_zero : ∀ n b, gfI n 0 b 0 = 0
  | 0, _ => rfl
  | n + 1, b => by rw [gfI_step, gfX_zero, gfI_zero n]; simp
theorem gfI_X : ∀ (n a b : Nat), a < 256 → gfI n (gfX a) b 0 = gfX (gfI n a b 0)
  | 0, _, _, _ => rfl
  | n + 1, a, b, h => by
    rw [gfI_step, gfI_step, gfX_lin (by split <;> omega) (gfI_lt n _ _ (gfX_lt h)), gfI_X n _ _ (gfX_lt h)]
    split <;> rfl
/-- Two multiplications, in either order. -/
theorem gfI_comm (c : Nat) : ∀ (n a b : Nat), a < 256 → gfI n (gfM a c) b 0 = gfM (gfI n a b 0) c
  | 0, _, _, _ => (gfI_zero 8 c).symm
  | n + 1, a, b, h => by
    have h2 : gfX (gfM a c) = gfM (gfX a) c := (gfI_X 8 a c h).symm
    rw [gfI_step, gfI_step, h2, gfI_comm c n _ _ (gfX_lt h)]
    unfold gfM
    rw [gfI_lin 8 _ _ c (by split <;> omega) (gfI_lt n _ _ (gfX_lt h))]
    split
    · rfl
    · rw [gfI_zero]
theorem gfM_lt {a : Nat} (h : a < 256) (b : Nat) : gfM a b < 256 := gfI_lt 8 a b h
theorem gfM_comm2 {a : Nat} (h : a < 256) (b c : Nat) : gfM (gfM a b) c = gfM (gfM a c) b := (gfI_comm c 8 a b h).symm
theorem gfM_lin {a c : Nat} (ha : a < 256) (hc : c < 256) (b : Nat) : gfM (a ^^^ c) b = gfM a b ^^^ gfM c b := gfI_lin 8 a c b ha hc
theorem gfM_one : ∀ b : Fin 256, gfM 1 b.1 = b.1 := by decide +kernel
theorem gfM_comm {a b : Nat} (ha : a < 256) (hb : b < 256) : gfM a b = gfM b a := by
  have h1 := gfM_comm2 (a := 1) (by omega) a b
  rw [gfM_one ⟨a, ha⟩, gfM_one ⟨b, hb⟩] at h1
  exact h1
theorem gfM_one' {a : Nat} (h : a < 256) : gfM a 1 = a := by rw [gfM_comm h (by omega)]; exact gfM_one ⟨a, h⟩
theorem gfM_zero (b : Nat) : gfM 0 b = 0 := gfI_zero 8 b
theorem gfM_assoc {a b c : Nat} (ha : a < 256) (hb : b < 256) (hc : c < 256) : gfM (gfM a b) c = gfM a (gfM b c) := by
  rw [gfM_comm ha hb, gfM_comm2 hb, gfM_comm (gfM_lt hb c) ha]
/-- From the highest bit on. -/
def gfS : Nat → Nat → Nat → Nat → Nat
  | 0, p, _, _ => p
  | n + 1, p, a, b => gfS n (if b / 2 ^ n % 2 = 1 then gfX p ^^^ a else gfX p) a b
def xIter : Nat → Nat → Nat
  | 0, a => a
  | n + 1, a => xIter n (gfX a)
theorem xIter_lt : ∀ n {a : Nat}, a < 256 → xIter n a < 256
  | 0, _, h => h
  | n + 1, _, h => xIter_lt n (gfX_lt h)
theorem xIter_lin : ∀ n {a b : Nat}, a < 256 → b < 256 → xIter n (a ^^^ b) = xIter n a ^^^ xIter n b
  | 0, _, _, _, _ => rfl
  | n + 1, _, _, ha, hb => by simp only [xIter]; rw [gfX_lin ha hb, xIter_lin n (gfX_lt ha) (gfX_lt hb)]
theorem gfI_last : ∀ (n a b : Nat), a < 256 → gfI (n + 1) a b 0 = gfI n a b 0 ^^^ (if b / 2 ^ n % 2 = 1 then xIter n a else 0)
  | 0, a, b, _ => by rw [gfI_step]; simp [gfI, xIter]
  | n + 1, a, b, h => by
    rw [gfI_step, gfI_last n _ _ (gfX_lt h), gfI_step n a b, Nat.div_div_eq_div_mul, Nat.xor_assoc, show 2 * 2 ^ n = 2 ^ (n + 1) by rw [Nat.pow_succ, Nat.mul_comm]]
    rfl
theorem gfS_gfI : ∀ (n p a b : Nat), p < 256 → a < 256 → gfS n p a b = xIter n p ^^^ gfI n a b 0
  | 0, p, a, b, _, _ => by simp [gfS, xIter, gfI]
  | n + 1, p, a, b, hp, ha => by
    simp only [gfS]
    rw [gfS_gfI n _ a b (by split; exact xor_lt256 (gfX_lt hp) ha; exact gfX_lt hp) ha, gfI_last n a b ha]
    split
    · rw [xIter_lin n (gfX_lt hp) ha]
      simp only [xIter]
      rw [Nat.xor_assoc, Nat.xor_comm (xIter n a)]
    · simp only [xIter, Nat.xor_zero]
theorem gfS_eq {a : Nat} (b : Nat) (ha : a < 256) : gfS 8 0 a b = gfM a b := by
  rw [gfS_gfI 8 0 a b (by omega) ha]
  have : ∀ n, xIter n 0 = 0 := fun n => by
    induction n with
    | zero => rfl
    | succ n ih => simp only [xIter]; rw [gfX_zero, ih]
  rw [this, Nat.zero_xor]
  rfl
def xorI (a b : Int) : Int := ((a.toNat ^^^ b.toNat : Nat) : Int)
theorem bits_xor {a b : Int} (ha : 0 ≤ a ∧ a < 9223372036854775808) (hb : 0 ≤ b ∧ b < 9223372036854775808) : bits .xor .i64 a b = xorI a b := by
  obtain ⟨x, rfl⟩ := Int.eq_ofNat_of_zero_le ha.1
  obtain ⟨y, rfl⟩ := Int.eq_ofNat_of_zero_le hb.1
  have hx : x % 2 ^ IntKind.i64.bits = x := Nat.mod_eq_of_lt (by show x < 2 ^ 64; omega)
  have hy : y % 2 ^ IntKind.i64.bits = y := Nat.mod_eq_of_lt (by show y < 2 ^ 64; omega)
  have hl : x ^^^ y < 2 ^ 63 := Nat.xor_lt_two_pow (by omega) (by omega)
  unfold xorI
  simp only [bits, BitVec.toNat_xor, BitVec.ofInt_natCast, BitVec.toNat_ofNat, hx, hy, Int.toNat_natCast]
  rw [IntKind.wrap_i64]
  omega
theorem xorI_bd {a b : Int} {n : Nat} (ha : a < 2 ^ n) (hb : b < 2 ^ n) : 0 ≤ xorI a b ∧ xorI a b < 2 ^ n := by
  have e : ((2 ^ n : Nat) : Int) = (2 : Int) ^ n := by norm_cast
  have p : (0 : Nat) < 2 ^ n := Nat.two_pow_pos n
  have h : a.toNat ^^^ b.toNat < 2 ^ n := Nat.xor_lt_two_pow (by omega) (by omega)
  unfold xorI
  omega
/-- One round of the check: the top bit out, the rest up by one. -/
def crcStep (x : Int) : Int := if x ≥ 32768 then xorI (2 * x) 4129 % 65536 else 2 * x % 65536
def crcTurns : Nat → Int → Int
  | 0, x => x
  | d + 1, x => crcTurns d (crcStep x)
def crcGo : List Int → Int → Int
  | [], x => x
  | b :: l, x => crcGo l (crcTurns 8 (xorI x (256 * b)))
def crcOf (l : List Int) : Int := if l.length > 65536 then 0 else crcGo l 65535
theorem crcStep_bd (x : Int) : 0 ≤ crcStep x ∧ crcStep x < 65536 := by unfold crcStep; split <;> omega
theorem crcTurns_bd : ∀ (d : Nat) (x : Int), 0 ≤ x ∧ x < 65536 → 0 ≤ crcTurns d x ∧ crcTurns d x < 65536
  | 0, _, h => h
  | d + 1, x, _ => crcTurns_bd d _ (crcStep_bd x)
theorem crcGo_bd : ∀ (l : List Int) (x : Int), 0 ≤ x ∧ x < 65536 → (∀ b ∈ l, 0 ≤ b ∧ b < 256) → 0 ≤ crcGo l x ∧ crcGo l x < 65536
  | [], _, h, _ => h
  | b :: l, x, h, hb => by
    have := hb b (by simp)
    exact crcGo_bd l _ (crcTurns_bd 8 _ (xorI_bd (n := 16) (by omega) (by omega))) (fun y hy => hb y (by simp [hy]))
theorem crcOf_bd {l : List Int} (hb : ∀ b ∈ l, 0 ≤ b ∧ b < 256) : 0 ≤ crcOf l ∧ crcOf l < 65536 := by
  unfold crcOf
  split
  · omega
  · exact crcGo_bd l _ (by omega) hb
/-- The word with its seventeenth bit, turned over with the seventeen bits of the maker, is the low sixteen turned over. -/
theorem xor17 {x : Int} (h0 : 65536 ≤ x) (h1 : x < 131072) : xorI x 69665 = xorI x 4129 % 65536 := by
  obtain ⟨n, rfl⟩ := Int.eq_ofNat_of_zero_le (show 0 ≤ x by omega)
  have e1 : (n ^^^ 69665) / 2 ^ 16 = 0 := by
    rw [Nat.xor_div_two_pow, show n / 2 ^ 16 = 1 by omega]; rfl
  have e2 : (n ^^^ 69665) % 2 ^ 16 = (n ^^^ 4129) % 2 ^ 16 := by
    rw [Nat.xor_mod_two_pow, Nat.xor_mod_two_pow]
  unfold xorI
  simp only [Int.toNat_natCast]
  rw [show (69665 : Int).toNat = 69665 by rfl, show (4129 : Int).toNat = 4129 by rfl]
  omega
theorem l1In_eq (a b c : Int) : spec_l1In.f a b c = some (decide (b ≤ a) && decide (a ≤ c)) := by
  unfold spec_l1In.f
  by_cases h : a ≥ b
  · rw [if_pos h]; simp [show b ≤ a from h]
  · rw [if_neg h]; simp [show ¬ b ≤ a from h]
theorem isByte_eq (a : Int) : impl_isByte.f a = some (decide (0 ≤ a ∧ a ≤ 255)) := by
  unfold impl_isByte.f
  by_cases h : a ≥ 0
  · rw [if_pos h]; simp [h]
  · rw [if_neg h]; simp; omega
theorem xorN (a b : Nat) (ha : a < 9223372036854775808) (hb : b < 9223372036854775808) : bits .xor .i64 (a : Int) (b : Int) = ((a ^^^ b : Nat) : Int) := by
  rw [bits_xor ⟨by omega, by omega⟩ ⟨by omega, by omega⟩]
  unfold xorI
  simp
theorem gfX_int {a : Nat} (h : a < 256) : (if wrap64 ((a : Int) * 2) > 255 then bits .xor .i64 (wrap64 ((a : Int) * 2)) 285 else wrap64 ((a : Int) * 2)) = ((gfX a : Nat) : Int) := by
  rw [w64 (by omega) (by omega)]
  unfold gfX
  by_cases h2 : 2 * a > 255
  · rw [if_pos (by omega), if_pos h2, show ((a : Int) * 2) = ((2 * a : Nat) : Int) by omega, show (285 : Int) = ((285 : Nat) : Int) from rfl, xorN _ _ (by omega) (by omega)]
  · rw [if_neg (by omega), if_neg h2]; omega
theorem gfI_zb : ∀ n a r, gfI n a 0 r = r
  | 0, _, _ => rfl
  | n + 1, a, r => by simp only [gfI]; rw [if_neg (by decide)]; exact gfI_zb n _ _
theorem iGfMul_l0 : ∀ (n a b r : Nat), a < 256 → b < 2 ^ n → b < 256 → r < 256 → Ev (fun k => impl_GfMul.l0 k (a : Int) (b : Int) (r : Int)) ((gfI n a b r : Nat) : Int) := by
  intro n
  induction n with
  | zero =>
    intro a b r ha hb _ hr
    refine Ev.succ ?_
    simp only [impl_GfMul.l0]
    exact Ev.neg (by simp at hb; omega) (Ev.some_ rfl)
  | succ n ih =>
    intro a b r ha hb hb2 hr
    refine Ev.succ ?_
    simp only [impl_GfMul.l0]
    by_cases h0 : b = 0
    · subst h0
      exact Ev.neg (by omega) (Ev.some_ (by rw [gfI_zb]))
    · have hx := gfX_int ha
      have hxl := gfX_lt ha
      have hb3 : b / 2 < 2 ^ n := by rw [Nat.pow_succ] at hb; omega
      have e2 : (b : Int) / 2 = ((b / 2 : Nat) : Int) := by omega
      have e1 : bits .and .i64 (b : Int) 1 = ((b % 2 : Nat) : Int) := by
        have := bits_and_mask (b : Int) 1 (by omega)
        rw [show ((2 : Int) ^ 1 - 1) = 1 by decide] at this
        rw [this]; omega
      have er : bits .xor .i64 (r : Int) (a : Int) = ((r ^^^ a : Nat) : Int) := xorN r a (by omega) (by omega)
      have hrl : r ^^^ a < 256 := xor_lt256 hr ha
      have i1 := ih (gfX a) (b / 2) (r ^^^ a) hxl hb3 (by omega) hrl
      have i0 := ih (gfX a) (b / 2) r hxl hb3 (by omega) hr
      simp only [gfI]
      rw [e1, e2, er]
      clear ih e1 e2 er hb hb3
      refine Ev.pos (by omega) ?_
      by_cases h1 : b % 2 = 1
      · rw [if_pos h1]
        refine Ev.pos (by omega) ?_
        by_cases h2 : wrap64 ((a : Int) * 2) > 255
        · rw [if_pos h2] at hx
          rw [hx]
          exact Ev.pos h2 i1
        · rw [if_neg h2] at hx
          rw [hx] at h2 ⊢
          exact Ev.neg h2 i1
      · rw [if_neg h1]
        refine Ev.neg (by omega) ?_
        by_cases h2 : wrap64 ((a : Int) * 2) > 255
        · rw [if_pos h2] at hx
          rw [hx]
          exact Ev.pos h2 i0
        · rw [if_neg h2] at hx
          rw [hx] at h2 ⊢
          exact Ev.neg h2 i0
theorem iGfMul_ev (a b : Nat) (ha : a < 256) (hb : b < 256) : Ev (fun k => impl_GfMul.f k (a : Int) (b : Int)) ((gfM a b : Nat) : Int) := by
  unfold impl_GfMul.f
  rw [isByte_eq, isByte_eq]
  simp only [Option.bind_some]
  refine Ev.pos (by simp; omega) ?_
  rw [show (!decide (0 ≤ (b : Int) ∧ (b : Int) ≤ 255)) = false by simp; omega]
  refine Ev.succ ?_
  simp only [impl_GfMul.j0]
  exact Ev.neg (by decide) (iGfMul_l0 8 a b 0 ha hb hb (by omega))
theorem byte_eq (a : Int) : spec_l14Byte.f a = some (decide (0 ≤ a) && decide (a ≤ 255)) := by
  unfold spec_l14Byte.f; rw [l1In_eq]; rfl
theorem sGfMul_l0 (a b : Nat) (ha : a < 256) (hb : b < 256) : ∀ (n p : Nat), n ≤ 8 → p < 256 → Ev (fun k => spec_GfMul.l0 k (a : Int) (b : Int) (p : Int) ((n : Int) - 1)) ((gfS n p a b : Nat) : Int) := by
  intro n
  induction n with
  | zero =>
    intro p _ _
    refine Ev.succ ?_
    simp only [spec_GfMul.l0]
    exact Ev.neg (by omega) (Ev.some_ rfl)
  | succ n ih =>
    intro p hn hp
    have e1 : ((n + 1 : Nat) : Int) - 1 = (n : Int) := by omega
    have hx := gfX_int hp
    rw [show (p : Int) * 2 = 2 * (p : Int) by omega] at hx
    have hxl := gfX_lt hp
    have hw : wrap64 (2 * (p : Int)) ≥ 256 ↔ wrap64 (2 * (p : Int)) > 255 := by omega
    have e2 : shr .i64 (b : Int) (IntKind.u64.wrap (n : Int)) = ((b / 2 ^ n : Nat) : Int) := by
      rw [wu64 (by omega) (by omega)]
      unfold shr
      rw [show min ((n : Int).toNat) IntKind.i64.bits = n by simp [IntKind.bits]; omega]
      have : 2 ^ n ≤ 256 := by have := Nat.pow_le_pow_right (n := 2) (by omega) hn; simp at this; exact Nat.le_trans (Nat.pow_le_pow_right (by omega) (by omega : n ≤ 8)) (by decide)
      first
        | (rw [IntKind.wrap_i64]; have hd : b / 2 ^ n ≤ b := Nat.div_le_self _ _; omega)
        | (simp; omega)
        | simp
    have e3 : Int.tmod (((b / 2 ^ n : Nat) : Int)) 2 = ((b / 2 ^ n % 2 : Nat) : Int) := by
      generalize b / 2 ^ n = q
      rw [Int.tmod_eq_emod_of_nonneg (by omega)]; omega
    have e4 : wrap64 ((n : Int) - 1) = (n : Int) - 1 := w64 (by omega) (by omega)
    have er : bits .xor .i64 ((gfX p : Nat) : Int) (a : Int) = ((gfX p ^^^ a : Nat) : Int) := xorN _ _ (by omega) (by omega)
    have i1 := ih (gfX p ^^^ a) (by omega) (xor_lt256 hxl ha)
    have i0 := ih (gfX p) (by omega) hxl
    have hu : 0 ≤ IntKind.u64.wrap (n : Int) := by rw [wu64 (by omega) (by omega)]; omega
    refine Ev.succ ?_
    simp only [spec_GfMul.l0, gfS]
    simp only [e1, e2, e3, e4]
    refine Ev.pos (by omega) ?_
    have bit : ∀ q : Int, q = ((gfX p : Nat) : Int) → Ev (fun k => if 0 ≤ IntKind.u64.wrap (n : Int) then (if ((b / 2 ^ n % 2 : Nat) : Int) = 1 then spec_GfMul.l0 k (a : Int) (b : Int) (bits .xor .i64 q (a : Int)) ((n : Int) - 1) else spec_GfMul.l0 k (a : Int) (b : Int) q ((n : Int) - 1)) else none) ((gfS n (if b / 2 ^ n % 2 = 1 then gfX p ^^^ a else gfX p) a b : Nat) : Int) := by
      intro q hq
      subst hq
      rw [er]
      refine Ev.pos hu ?_
      by_cases hb1 : b / 2 ^ n % 2 = 1
      · rw [if_pos hb1]; exact Ev.pos (by omega) i1
      · rw [if_neg hb1]; exact Ev.neg (by omega) i0
    by_cases h2 : wrap64 (2 * (p : Int)) > 255
    · rw [if_pos h2] at hx
      exact Ev.pos (hw.2 h2) (bit _ hx)
    · rw [if_neg h2] at hx
      exact Ev.neg (fun h => h2 (hw.1 h)) (bit _ hx)
theorem sGfMul_ev (a b : Nat) (ha : a < 256) (hb : b < 256) : Ev (fun k => spec_GfMul.f k (a : Int) (b : Int)) ((gfM a b : Nat) : Int) := by
  unfold spec_GfMul.f
  rw [byte_eq, byte_eq]
  simp only [Option.bind_some]
  refine Ev.pos (by simp; omega) ?_
  rw [show (!(decide (0 ≤ (b : Int)) && decide ((b : Int) ≤ 255))) = false by simp; omega]
  refine Ev.succ ?_
  simp only [spec_GfMul.j0]
  refine Ev.neg (by decide) ?_
  rw [← gfS_eq b ha]
  exact sGfMul_l0 a b ha hb 8 0 (by omega) (by omega)
def gfP : Nat → Nat
  | 0 => 1
  | n + 1 => gfM (gfP n) 2
theorem gfP_lt : ∀ n, gfP n < 256
  | 0 => by decide
  | n + 1 => gfM_lt (gfP_lt n) 2
theorem iPow_l0 (N : Nat) (hN : N ≤ 100) : ∀ d i : Nat, i + d = N → Ev (fun k => impl_gfPow.l0 k ((gfP i : Nat) : Int) (N : Int) (i : Int)) ((gfP N : Nat) : Int) := by
  intro d
  induction d with
  | zero =>
    intro i hi
    refine Ev.succ ?_
    simp only [impl_gfPow.l0]
    rw [show i = N by omega]
    exact Ev.neg (by omega) (Ev.some_ rfl)
  | succ d ih =>
    intro i hi
    refine Ev.succ ?_
    simp only [impl_gfPow.l0]
    rw [w64_add (by omega) (by omega)]
    exact Ev.pos (by omega) (Ev.next (iGfMul_ev (gfP i) 2 (gfP_lt i) (by omega)) (ih (i + 1) (by omega)))
theorem iPow_ev (n : Nat) (hn : n ≤ 100) : Ev (fun k => impl_gfPow.f k (n : Int)) ((gfP n : Nat) : Int) := by
  unfold impl_gfPow.f
  rw [show Int.tmod (n : Int) 255 = (n : Int) by rw [Int.tmod_eq_emod_of_nonneg (by omega)]; omega]
  exact iPow_l0 n hn n 0 (by omega)
theorem sPow_l0 (N : Nat) (hN : N ≤ 100) : ∀ d i : Nat, i + d = N → Ev (fun k => spec_l14Pow.l0 k (N : Int) ((gfP i : Nat) : Int) (i : Int)) ((gfP N : Nat) : Int) := by
  have e : Int.tmod (N : Int) 255 = (N : Int) := by rw [Int.tmod_eq_emod_of_nonneg (by omega)]; omega
  intro d
  induction d with
  | zero =>
    intro i hi
    refine Ev.succ ?_
    simp only [spec_l14Pow.l0]
    rw [show i = N by omega, e]
    exact Ev.neg (by omega) (Ev.some_ rfl)
  | succ d ih =>
    intro i hi
    refine Ev.succ ?_
    simp only [spec_l14Pow.l0]
    rw [w64_add (by omega) (by omega), e]
    exact Ev.pos (by omega) (Ev.next (sGfMul_ev (gfP i) 2 (gfP_lt i) (by omega)) (ih (i + 1) (by omega)))
theorem sPow_ev (n : Nat) (hn : n ≤ 100) : Ev (fun k => spec_l14Pow.f k (n : Int)) ((gfP n : Nat) : Int) := sPow_l0 n hn n 0 (by omega)
/-! Reed and Solomon's words: the generator, the rest, as lists of bytes told by whole numbers. -/
def isB (l : List Int) : Prop := ∀ x ∈ l, 0 ≤ x ∧ x < 256
def gM (a b : Int) : Int := ((gfM a.toNat b.toNat : Nat) : Int)
theorem gM_bd {a : Int} (h : 0 ≤ a ∧ a < 256) (b : Int) : 0 ≤ gM a b ∧ gM a b < 256 := by
  have := gfM_lt (a := a.toNat) (by omega) b.toNat
  unfold gM; omega
theorem gM_comm {a b : Int} (ha : 0 ≤ a ∧ a < 256) (hb : 0 ≤ b ∧ b < 256) : gM a b = gM b a := by
  unfold gM; rw [gfM_comm (by omega) (by omega)]
theorem iGM {a b : Int} (ha : 0 ≤ a ∧ a < 256) (hb : 0 ≤ b ∧ b < 256) : Ev (fun k => impl_GfMul.f k a b) (gM a b) := by
  have := iGfMul_ev a.toNat b.toNat (by omega) (by omega)
  rwa [Int.toNat_of_nonneg ha.1, Int.toNat_of_nonneg hb.1] at this
theorem sGM {a b : Int} (ha : 0 ≤ a ∧ a < 256) (hb : 0 ≤ b ∧ b < 256) : Ev (fun k => spec_GfMul.f k a b) (gM a b) := by
  have := sGfMul_ev a.toNat b.toNat (by omega) (by omega)
  rwa [Int.toNat_of_nonneg ha.1, Int.toNat_of_nonneg hb.1] at this
def xB (a b : Int) : Int := bits .xor .i64 a b
theorem xB_bd {a b : Int} (ha : 0 ≤ a ∧ a < 256) (hb : 0 ≤ b ∧ b < 256) : 0 ≤ xB a b ∧ xB a b < 256 := by
  have := xor_lt256 (a := a.toNat) (b := b.toNat) (by omega) (by omega)
  unfold xB
  rw [← Int.toNat_of_nonneg ha.1, ← Int.toNat_of_nonneg hb.1, xorN _ _ (by omega) (by omega)]
  omega
theorem rd_B {l : List Int} (h : isB l) (i : Int) : 0 ≤ rd l i ∧ rd l i < 256 := by
  unfold rd
  rcases Nat.lt_or_ge i.toNat l.length with h1 | h1
  · rw [List.getD_eq_getElem?_getD, List.getElem?_eq_getElem h1]; exact h _ (List.getElem_mem h1)
  · rw [List.getD_eq_getElem?_getD, List.getElem?_eq_none h1]; simp
theorem isB_set {l : List Int} (h : isB l) {x : Int} (hx : 0 ≤ x ∧ x < 256) (i : Nat) : isB (l.set i x) := fun y hy => by
  rcases List.mem_or_eq_of_mem_set hy with h2 | h2
  · exact h y h2
  · rw [h2]; exact hx
/-- The next generator. -/
def mulRoot : Nat → Nat → List Int → Int → List Int → List Int
  | 0, _, _, _, acc => acc
  | d + 1, j, g, w, acc => mulRoot d (j + 1) g w (acc.set (j + 1) (xB (rd acc ((j + 1 : Nat) : Int)) (gM (rd g (j : Int)) w)))
theorem mulRoot_len : ∀ (d j : Nat) (g : List Int) (w : Int) (acc : List Int), (mulRoot d j g w acc).length = acc.length
  | 0, _, _, _, _ => rfl
  | d + 1, j, g, w, acc => by simp only [mulRoot]; rw [mulRoot_len d]; simp
theorem mulRoot_B : ∀ (d j : Nat) (g : List Int) (w : Int) (acc : List Int), isB g → isB acc → isB (mulRoot d j g w acc)
  | 0, _, _, _, _, _, h => h
  | d + 1, j, g, w, acc, hg, h => by
    simp only [mulRoot]
    exact mulRoot_B d _ g w _ hg (isB_set h (xB_bd (rd_B h _) (gM_bd (rd_B hg _) w)) _)
def genL : Nat → List Int
  | 0 => [1]
  | i + 1 => mulRoot (genL i).length 0 (genL i) ((gfP i : Nat) : Int) (genL i ++ [0])
theorem genL_len : ∀ i, (genL i).length = i + 1
  | 0 => rfl
  | i + 1 => by simp only [genL]; rw [mulRoot_len]; simp [genL_len i]
theorem isB_append {a b : List Int} (ha : isB a) (hb : isB b) : isB (a ++ b) := fun x hx => by
  rcases List.mem_append.1 hx with h | h
  · exact ha x h
  · exact hb x h
theorem isB_zero : isB [0] := fun x hx => by simp at hx; omega
theorem genL_B : ∀ i, isB (genL i)
  | 0 => fun x hx => by simp [genL] at hx; omega
  | i + 1 => by simp only [genL]; exact mulRoot_B _ _ _ _ _ (genL_B i) (isB_append (genL_B i) isB_zero)
/-- The register after one byte: shifted, and the generator f times laid over it. -/
def rsMul : Nat → Nat → List Int → Int → List Int → List Int
  | 0, _, _, _, acc => acc
  | d + 1, j, g, f, acc => rsMul d (j + 1) g f (acc.set j (xB (rd acc (j : Int)) (gM f (rd g ((j + 1 : Nat) : Int)))))
theorem rsMul_len : ∀ (d j : Nat) (g : List Int) (f : Int) (acc : List Int), (rsMul d j g f acc).length = acc.length
  | 0, _, _, _, _ => rfl
  | d + 1, j, g, f, acc => by simp only [rsMul]; rw [rsMul_len d]; simp
theorem rsMul_B : ∀ (d j : Nat) (g : List Int) (f : Int) (acc : List Int), isB g → (0 ≤ f ∧ f < 256) → isB acc → isB (rsMul d j g f acc)
  | 0, _, _, _, _, _, _, h => h
  | d + 1, j, g, f, acc, hg, hf, h => by
    simp only [rsMul]
    exact rsMul_B d _ g f _ hg hf (isB_set h (xB_bd (rd_B h _) (gM_bd hf _)) _)
theorem rsMul_get : ∀ (d j : Nat) (g : List Int) (f : Int) (acc : List Int) (t : Nat), j + d ≤ acc.length → rd (rsMul d j g f acc) (t : Int) = if j ≤ t ∧ t < j + d then xB (rd acc (t : Int)) (gM f (rd g ((t + 1 : Nat) : Int))) else rd acc (t : Int)
  | 0, j, _, _, _, t, _ => by simp only [rsMul]; rw [if_neg (by omega)]
  | d + 1, j, g, f, acc, t, h => by
    simp only [rsMul]
    rw [rsMul_get d (j + 1) g f _ t (by simp; omega)]
    by_cases e : j = t
    · subst e
      rw [if_neg (by omega), if_pos (by omega), rd_nat, List.getD_eq_getElem?_getD, List.getElem?_set_self (by omega)]
      rfl
    · have e2 : rd (acc.set j (xB (rd acc (j : Int)) (gM f (rd g ((j + 1 : Nat) : Int))))) (t : Int) = rd acc (t : Int) := by
        simp [rd_nat, List.getD_eq_getElem?_getD, List.getElem?_set_ne e]
      rw [e2]
      by_cases h2 : j + 1 ≤ t ∧ t < j + 1 + d
      · rw [if_pos h2, if_pos (by omega)]
      · rw [if_neg h2, if_neg (by omega)]
def rsStep (g r : List Int) (x : Int) : List Int := rsMul r.length 0 g (xB (rd r 0) x) (r.drop 1 ++ [0])
def rsRest (g : List Int) : List Int → List Int → List Int
  | r, [] => r
  | r, x :: xs => rsRest g (rsStep g r x) xs
theorem rsStep_len {g r : List Int} (x : Int) (h : 0 < r.length) : (rsStep g r x).length = r.length := by
  unfold rsStep; rw [rsMul_len]; simp; omega
theorem rsStep_B {g r : List Int} {x : Int} (hg : isB g) (hr : isB r) (hx : 0 ≤ x ∧ x < 256) : isB (rsStep g r x) :=
  rsMul_B _ _ _ _ _ hg (xB_bd (rd_B hr 0) hx) (isB_append (fun y hy => hr y (List.mem_of_mem_drop hy)) isB_zero)
theorem rsRest_len (g : List Int) : ∀ (xs r : List Int), 0 < r.length → (rsRest g r xs).length = r.length
  | [], _, _ => rfl
  | x :: xs, r, h => by simp only [rsRest]; rw [rsRest_len g xs _ (by rw [rsStep_len x h]; exact h), rsStep_len x h]
theorem rsRest_B (g : List Int) (hg : isB g) : ∀ (xs r : List Int), isB r → isB xs → isB (rsRest g r xs)
  | [], _, h, _ => h
  | x :: xs, r, h, hx => by
    simp only [rsRest]
    exact rsRest_B g hg xs _ (rsStep_B hg h (hx x (by simp))) (fun y hy => hx y (by simp [hy]))
def rsB (m : Int) (n : Nat) : Bool := decide ((1 ≤ m ∧ m ≤ 8) ∧ 1 ≤ n ∧ (n : Int) ≤ 255 - 2 * m)
def rsOf (data : List Int) (m : Int) : List Int × Bool :=
  if rsB m data.length = true then (data ++ rsRest (genL (2 * m).toNat) (List.replicate (2 * m).toNat 0) data, true) else ([], false)
def widthB (a : Int) : Bool := decide (a = 2 ∨ a = 4 ∨ a = 6 ∨ a = 8)
def inB (a b c : Int) : Bool := decide (b ≤ a) && decide (a ≤ c)
theorem inB_iff {a b c : Int} : inB a b c = true ↔ b ≤ a ∧ a ≤ c := by unfold inB; simp
def modemB (w m r s ra si : Int) : Bool := widthB w && inB m 1 8 && inB r 1 64 && inB s 1 65535 && inB ra 1 8 && inB si 1 10000
theorem modemB_iff {w m r s ra si : Int} : modemB w m r s ra si = true ↔ (w = 2 ∨ w = 4 ∨ w = 6 ∨ w = 8) ∧ (1 ≤ m ∧ m ≤ 8) ∧ (1 ≤ r ∧ r ≤ 64) ∧ (1 ≤ s ∧ s ≤ 65535) ∧ (1 ≤ ra ∧ ra ≤ 8) ∧ (1 ≤ si ∧ si ≤ 10000) := by
  unfold modemB; simp only [Bool.and_eq_true, inB_iff, widthB, decide_eq_true_eq, and_assoc]
theorem xB_nat (a b : Nat) (ha : a < 256) (hb : b < 256) : xB (a : Int) (b : Int) = ((a ^^^ b : Nat) : Int) := xorN a b (by omega) (by omega)
theorem toB {a : Int} (h : 0 ≤ a ∧ a < 256) : ∃ n : Nat, a = (n : Int) ∧ n < 256 := ⟨a.toNat, by omega, by omega⟩
theorem xB_comm {a b : Int} (ha : 0 ≤ a ∧ a < 256) (hb : 0 ≤ b ∧ b < 256) : xB a b = xB b a := by
  obtain ⟨x, rfl, hx⟩ := toB ha
  obtain ⟨y, rfl, hy⟩ := toB hb
  rw [xB_nat _ _ hx hy, xB_nat _ _ hy hx, Nat.xor_comm]
theorem xB_right {a b c : Int} (ha : 0 ≤ a ∧ a < 256) (hb : 0 ≤ b ∧ b < 256) (hc : 0 ≤ c ∧ c < 256) : xB (xB a b) c = xB (xB a c) b := by
  obtain ⟨x, rfl, hx⟩ := toB ha
  obtain ⟨y, rfl, hy⟩ := toB hb
  obtain ⟨z, rfl, hz⟩ := toB hc
  rw [xB_nat _ _ hx hy, xB_nat _ _ hx hz, xB_nat _ _ (xor_lt256 hx hy) hz, xB_nat _ _ (xor_lt256 hx hz) hy, Nat.xor_assoc, Nat.xor_assoc, Nat.xor_comm y]
theorem xB_zero {a : Int} (ha : 0 ≤ a ∧ a < 256) : xB a 0 = a ∧ xB 0 a = a := by
  obtain ⟨x, rfl, hx⟩ := toB ha
  have h1 := xB_nat x 0 hx (by omega)
  have h2 := xB_nat 0 x (by omega) hx
  rw [Nat.xor_zero] at h1
  rw [Nat.zero_xor] at h2
  exact ⟨h1, h2⟩
/-- The generator x times laid over a row from place i on. -/
def layG : Nat → Nat → Nat → List Int → Int → List Int → List Int
  | 0, _, _, _, _, R => R
  | d + 1, k, i, g, x, R => layG d (k + 1) i g x (R.set (i + k) (xB (rd R ((i + k : Nat) : Int)) (gM (rd g (k : Int)) x)))
theorem layG_len : ∀ (d k i : Nat) (g : List Int) (x : Int) (R : List Int), (layG d k i g x R).length = R.length
  | 0, _, _, _, _, _ => rfl
  | d + 1, k, i, g, x, R => by simp only [layG]; rw [layG_len d]; simp
theorem layG_B : ∀ (d k i : Nat) (g : List Int) (x : Int) (R : List Int), isB g → isB R → isB (layG d k i g x R)
  | 0, _, _, _, _, _, _, h => h
  | d + 1, k, i, g, x, R, hg, h => by
    simp only [layG]
    exact layG_B d _ _ g x _ hg (isB_set h (xB_bd (rd_B h _) (gM_bd (rd_B hg _) _)) _)
theorem layG_get : ∀ (d k i : Nat) (g : List Int) (x : Int) (R : List Int) (t : Nat), i + k + d ≤ R.length → rd (layG d k i g x R) (t : Int) = if i + k ≤ t ∧ t < i + k + d then xB (rd R (t : Int)) (gM (rd g ((t - i : Nat) : Int)) x) else rd R (t : Int)
  | 0, k, i, _, _, _, t, _ => by simp only [layG]; rw [if_neg (by omega)]
  | d + 1, k, i, g, x, R, t, h => by
    simp only [layG]
    rw [layG_get d (k + 1) i g x _ t (by simp; omega)]
    by_cases e : i + k = t
    · subst e
      rw [if_neg (by omega), if_pos (by omega), rd_nat, List.getD_eq_getElem?_getD, List.getElem?_set_self (by omega), show i + k - i = k by omega]
      rfl
    · have e2 : rd (R.set (i + k) (xB (rd R ((i + k : Nat) : Int)) (gM (rd g (k : Int)) x))) (t : Int) = rd R (t : Int) := by
        simp [rd_nat, List.getD_eq_getElem?_getD, List.getElem?_set_ne e]
      rw [e2]
      by_cases h2 : i + (k + 1) ≤ t ∧ t < i + (k + 1) + d
      · rw [if_pos h2, if_pos (by omega)]
      · rw [if_neg h2, if_neg (by omega)]
/-- The long row against the register: from place i on. -/
def winOk (data R r : List Int) (i D : Nat) : Prop := (∀ j, j < D → rd R ((i + j : Nat) : Int) = xB (rd r (j : Int)) (rd data ((i + j : Nat) : Int))) ∧ ∀ p, i + D ≤ p → rd R (p : Int) = rd data (p : Int)
theorem rd_past {l : List Int} {p : Nat} (h : l.length ≤ p) : rd l (p : Int) = 0 := by rw [rd_nat, List.getD_eq_getElem?_getD, List.getElem?_eq_none h]; rfl
theorem win_step {data R r g : List Int} {i D : Nat} (hD : 0 < D) (hr : r.length = D) (hg : g.length = D + 1) (hgB : isB g) (hrB : isB r) (hdB : isB data) (hRl : i + D + 1 ≤ R.length) (h : winOk data R r i D) :
    winOk data (layG (D + 1) 0 i g (rd R (i : Int)) R) (rsStep g r (rd data (i : Int))) (i + 1) D := by
  have hx : rd R (i : Int) = xB (rd r 0) (rd data (i : Int)) := by have := h.1 0 hD; simpa using this
  rw [hx]
  have hfB := xB_bd (rd_B hrB 0) (rd_B hdB (i : Int))
  refine ⟨fun j hj => ?_, fun p hp => ?_⟩
  · rw [layG_get _ _ _ _ _ _ _ (by omega), if_pos (by omega), show i + 1 + j - i = j + 1 by omega]
    unfold rsStep
    rw [rsMul_get _ _ _ _ _ _ (by simp; omega), if_pos (by omega), gM_comm (rd_B hgB _) hfB]
    have hgb := gM_bd hfB (rd g ((j + 1 : Nat) : Int))
    have hdb := rd_B hdB ((i + 1 + j : Nat) : Int)
    by_cases hj2 : j + 1 < D
    · have e := h.1 (j + 1) hj2
      rw [show i + (j + 1) = i + 1 + j by omega] at e
      have e2 : rd (r.drop 1 ++ [0]) (j : Int) = rd r ((j + 1 : Nat) : Int) := by
        rw [rd_nat, rd_nat, List.getD_eq_getElem?_getD, List.getD_eq_getElem?_getD, List.getElem?_append_left (by simp; omega), List.getElem?_drop, Nat.add_comm 1 j]
      rw [e, e2]
      exact xB_right (rd_B hrB _) hdb hgb
    · have e := h.2 (i + 1 + j) (by omega)
      have e2 : rd (r.drop 1 ++ [0]) (j : Int) = 0 := by
        rw [rd_nat, List.getD_eq_getElem?_getD, List.getElem?_append_right (by simp; omega)]
        simp
        cases h3 : j - (r.length - 1) with
        | zero => rfl
        | succ q => rfl
      rw [e, e2, (xB_zero hgb).2]
      exact xB_comm hdb hgb
  · rw [layG_get _ _ _ _ _ _ _ (by omega), if_neg (by omega)]
    exact h.2 p (by omega)
theorem iRs_l5 (data r : List Int) (hr : isB r) (hl : data.length + r.length ≤ 1000) : ∀ (d i : Nat), i + d = r.length → Ev (fun k => impl_RsCode.l5 k (data ++ r.take i) r (r.length : Int) (i : Int)) (data ++ r, true) := by
  intro d
  induction d with
  | zero =>
    intro i hi
    refine Ev.succ ?_
    simp only [impl_RsCode.l5]
    rw [List.take_of_length_le (show r.length ≤ i by omega)]
    exact Ev.neg (by omega) (Ev.some_ rfl)
  | succ d ih =>
    intro i hi
    have hb := rd_B hr (i : Int)
    have h2 := ih (i + 1) (by omega)
    rw [take_rd (xs := r) (i := i) (by omega), ← List.append_assoc] at h2
    refine Ev.succ ?_
    simp only [impl_RsCode.l5]
    rw [w64_add (by omega) (by omega), Int.emod_eq_of_lt hb.1 hb.2]
    exact Ev.pos (by omega) (Ev.pos (by omega) (Ev.pos (by omega) (Ev.pos (by simp; omega) h2)))
theorem iRs_l4 (data g : List Int) (hg : isB g) (hgl : g.length ≤ 100) (i : Nat) (hi : i ≤ 300) (x x90 x91 : Int) (hx : 0 ≤ x ∧ x < 256) {res : List Int × Bool} : ∀ (d k : Nat) (R : List Int), k + d = g.length → isB R → i + g.length ≤ R.length → Ev (fun q => impl_RsCode.l3 q data g (layG d k i g x R) x90 (wrap64 (x91 + 1))) res → Ev (fun q => impl_RsCode.l4 q data g R (i : Int) x x90 x91 (g.length : Int) (k : Int)) res := by
  intro d
  induction d with
  | zero =>
    intro k R hk hR hRl H
    refine Ev.succ ?_
    simp only [impl_RsCode.l4]
    exact Ev.neg (by omega) H
  | succ d ih =>
    intro k R hk hR hRl H
    have w := w64_add (i := (k : Int)) (by omega) (by omega)
    have w2 : wrap64 ((i : Int) + (k : Int)) = ((i + k : Nat) : Int) := by rw [w64 (by omega) (by omega)]; omega
    have hb := rd_B hg (k : Int)
    refine Ev.succ ?_
    simp only [impl_RsCode.l4]
    rw [w, w2]
    refine Ev.pos (by omega) (Ev.pos (by omega) (Ev.pos (by omega) (Ev.pos (by omega) (Ev.pos (by omega) (Ev.next (iGM hb hx) ?_)))))
    rw [Int.toNat_natCast]
    exact ih (k + 1) _ (by omega) (isB_set hR (xB_bd (rd_B hR _) (gM_bd hb _)) _) (by simpa using hRl) H
theorem clone_eq {l : List Int} (h : l.length ≤ 1000) : slices_Clone_int_int.f l = some l ∧ slices_Clone_byte_byte.f l = some l := by
  unfold slices_Clone_int_int.f slices_Clone_byte_byte.f
  rw [if_pos (by omega)]
  exact ⟨rfl, rfl⟩
theorem iRs_l3 (data g : List Int) (hdB : isB data) (hdl : data.length ≤ 300) (hg : isB g) (D : Nat) (hD : 0 < D) (hD2 : D ≤ 50) (hgl : g.length = D + 1) : ∀ (d i : Nat) (R r : List Int), i + d = data.length → R.length = data.length + D → isB R → isB r → r.length = D → winOk data R r i D → Ev (fun k => impl_RsCode.l3 k data g R (data.length : Int) (i : Int)) (data ++ rsRest g r (data.drop i), true) := by
  intro d
  induction d with
  | zero =>
    intro i R r hi hRl hR hr hrl h
    have e : R.drop data.length = r := by
      apply List.ext_getElem
      · simp; omega
      · intro j h1 h2
        have hw := h.1 j (by omega)
        rw [show i = data.length by omega, rd_past (l := data) (by omega), (xB_zero (rd_B hr _)).1, rd_get R _ (by omega), rd_get r _ h2] at hw
        rw [List.getElem_drop]
        exact hw
    refine Ev.succ ?_
    simp only [impl_RsCode.l3, (clone_eq (l := data) (by omega)).2, Option.bind_some]
    rw [List.drop_of_length_le (show data.length ≤ i by omega), Int.toNat_natCast, e]
    refine Ev.neg (by omega) (Ev.pos (by omega) (Ev.pos (by omega) ?_))
    have h4 := iRs_l5 data r hr (by omega) r.length 0 (by omega)
    simp only [List.take_zero, List.append_nil] at h4
    exact h4
  | succ d ih =>
    intro i R r hi hRl hR hr hrl h
    have w := w64_add (i := (i : Int)) (by omega) (by omega)
    refine Ev.succ ?_
    simp only [impl_RsCode.l3]
    refine Ev.pos (by omega) (Ev.pos (by omega) (Ev.pos (by omega) ?_))
    refine iRs_l4 data g hg (by omega) i (by omega) _ _ _ (rd_B hR _) g.length 0 R (by omega) hR (by omega) ?_
    rw [w, drop_rd (xs := data) (i := i) (by omega), hgl]
    exact ih (i + 1) _ (rsStep g r (rd data (i : Int))) (by omega) (by rw [layG_len]; exact hRl) (layG_B _ _ _ _ _ _ hg hR) (rsStep_B hg hr (rd_B hdB _)) (by rw [rsStep_len _ (by omega)]; exact hrl) (win_step hD hrl hgl hg hr hdB (by omega) h)
theorem iRs_l2 (data g : List Int) (hdB : isB data) (hdl : data.length ≤ 300) (D : Nat) {res : List Int × Bool} (H : Ev (fun k => impl_RsCode.l3 k data g (data ++ List.replicate D 0) (data.length : Int) 0) res) : ∀ d i : Nat, i + d = data.length → Ev (fun k => impl_RsCode.l2 k data g (data.take i ++ List.replicate (d + D) 0) data (data.length : Int) (i : Int)) res := by
  intro d
  induction d with
  | zero =>
    intro i hi
    refine Ev.succ ?_
    simp only [impl_RsCode.l2]
    rw [List.take_of_length_le (show data.length ≤ i by omega), Nat.zero_add]
    exact Ev.neg (by omega) H
  | succ d ih =>
    intro i hi
    have hx := rd_B hdB (i : Int)
    have h2 := ih (i + 1) (by omega)
    have e : (data.take i ++ List.replicate (d + 1 + D) 0).set i (rd data (i : Int)) = data.take (i + 1) ++ List.replicate (d + D) 0 := by
      rw [List.set_append, if_neg (by simp; omega), take_rd (xs := data) (i := i) (by omega), show d + 1 + D = (d + D) + 1 by omega, List.replicate_succ]
      simp [Nat.min_eq_left (show i ≤ data.length by omega)]
    refine Ev.succ ?_
    simp only [impl_RsCode.l2]
    rw [w64_add (by omega) (by omega), w64 (n := rd data (i : Int)) (by omega) (by omega), Int.toNat_natCast, e]
    exact Ev.pos (by omega) (Ev.pos (by omega) (Ev.pos (by omega) (Ev.pos (by simp; omega) h2)))
theorem iRs_l1 (data : List Int) (x1 : Int) (g : List Int) (hg : isB g) (hgl : g.length ≤ 100) (i : Nat) (hi : i ≤ 50) (x40 : Int) {res : List Int × Bool} : ∀ (d j : Nat) (acc : List Int), j + d = g.length → isB acc → acc.length = g.length + 1 → Ev (fun k => impl_RsCode.l0 k data x1 (mulRoot d j g ((gfP i : Nat) : Int) acc) x40 (wrap64 ((i : Int) + 1))) res → Ev (fun k => impl_RsCode.l1 k data x1 g ((gfP i : Nat) : Int) acc x40 (i : Int) (g.length : Int) (j : Int)) res := by
  have hp := gfP_lt i
  intro d
  induction d with
  | zero =>
    intro j acc hj ha hal H
    refine Ev.succ ?_
    simp only [impl_RsCode.l1]
    exact Ev.neg (by omega) H
  | succ d ih =>
    intro j acc hj ha hal H
    have w := w64_add (i := (j : Int)) (by omega) (by omega)
    have hb := rd_B hg (j : Int)
    refine Ev.succ ?_
    simp only [impl_RsCode.l1]
    rw [w]
    refine Ev.pos (by omega) (Ev.pos (by omega) (Ev.pos (by omega) (Ev.pos (by omega) (Ev.pos (by omega) (Ev.next (iGM hb ⟨by omega, by omega⟩) ?_)))))
    rw [show ((j : Int) + 1) = ((j + 1 : Nat) : Int) by omega, Int.toNat_natCast]
    exact ih (j + 1) _ (by omega) (isB_set ha (xB_bd (rd_B ha _) (gM_bd hb _)) _) (by simpa using hal) H
theorem iRs_l0 (data : List Int) (hdB : isB data) (hdl : data.length ≤ 300) (M : Nat) (hM : 1 ≤ M ∧ M ≤ 8) : ∀ d i : Nat, i + d = 2 * M → Ev (fun k => impl_RsCode.l0 k data (M : Int) (genL i) ((2 * M : Nat) : Int) (i : Int)) (data ++ rsRest (genL (2 * M)) (List.replicate (2 * M) 0) data, true) := by
  have w2 : wrap64 (2 * (M : Int)) = ((2 * M : Nat) : Int) := by rw [w64 (by omega) (by omega)]; omega
  have w4 : wrap64 ((data.length : Int) + ((2 * M : Nat) : Int)) = ((data.length + 2 * M : Nat) : Int) := by rw [w64 (by omega) (by omega)]; omega
  intro d
  induction d with
  | zero =>
    intro i hi
    refine Ev.succ ?_
    simp only [impl_RsCode.l0]
    rw [w2, w4, Int.toNat_natCast]
    refine Ev.neg (by omega) (Ev.pos (by omega) (Ev.pos (by omega) ?_))
    rw [show genL i = genL (2 * M) by rw [show i = 2 * M by omega]]
    have hz : isB (List.replicate (2 * M) (0 : Int)) := fun x hx => by rw [List.eq_of_mem_replicate hx]; omega
    have h3 := iRs_l3 data (genL (2 * M)) hdB hdl (genL_B _) (2 * M) (by omega) (by omega) (genL_len _) data.length 0 (data ++ List.replicate (2 * M) 0) (List.replicate (2 * M) 0) (by omega) (by simp) (isB_append hdB hz) hz (by simp) ?_
    · rw [List.drop_zero] at h3
      have h2 := iRs_l2 data (genL (2 * M)) hdB hdl (2 * M) h3 data.length 0 (by omega)
      rw [List.take_zero, List.nil_append] at h2
      exact h2
    · have hrz : ∀ j : Nat, rd (List.replicate (2 * M) (0 : Int)) (j : Int) = 0 := fun j => by
        rw [rd_nat, List.getD_eq_getElem?_getD, List.getElem?_replicate]
        split <;> rfl
      have hall : ∀ p : Nat, rd (data ++ List.replicate (2 * M) 0) (p : Int) = rd data (p : Int) := fun p => by
        rcases Nat.lt_or_ge p data.length with h | h
        · rw [rd_nat, rd_nat, List.getD_eq_getElem?_getD, List.getD_eq_getElem?_getD, List.getElem?_append_left h]
        · rw [rd_past h, rd_nat, List.getD_eq_getElem?_getD, List.getElem?_append_right h, List.getElem?_replicate]
          split <;> rfl
      refine ⟨fun j hj => ?_, fun p _ => hall p⟩
      rw [hall, hrz, (xB_zero (rd_B hdB _)).2]
  | succ d ih =>
    intro i hi
    have hl := genL_len i
    have h2 := ih (i + 1) (by omega)
    have w3 : wrap64 ((i : Int) + 1) = ((i + 1 : Nat) : Int) := by rw [w64 (by omega) (by omega)]; omega
    refine Ev.succ ?_
    simp only [impl_RsCode.l0, (clone_eq (l := genL i) (by omega)).1, Option.bind_some]
    refine Ev.pos (by omega) (Ev.next (iPow_ev i (by omega)) (Ev.pos (by omega) ?_))
    refine iRs_l1 data (M : Int) (genL i) (genL_B i) (by omega) i (by omega) _ (genL i).length 0 _ (by omega) (isB_append (genL_B i) isB_zero) (by simp) ?_
    rw [w3]
    exact h2
theorem iRs_ev (data : List Int) (m : Int) (hdb : isB data) (hdl : data.length ≤ 1048576) : Ev (fun k => impl_RsCode.f k data m) (rsOf data m) := by
  have bad : Ev (fun k => impl_RsCode.j0 k data m true) ([], false) := by
    refine Ev.succ ?_
    simp only [impl_RsCode.j0]
    exact Ev.pos trivial (Ev.some_ rfl)
  have hmend : impl_isMend.f m = some (inB m 1 8) := by
    unfold impl_isMend.f inB
    by_cases h : m ≥ 1 <;> simp [h]
  unfold impl_RsCode.f rsOf rsB
  refine Ev.next (Ev.here hmend) ?_
  by_cases h1 : 1 ≤ m ∧ m ≤ 8
  · refine Ev.pos (inB_iff.2 h1) ?_
    rw [w64 (n := 2 * m) (by omega) (by omega), w64 (by omega) (by omega)]
    by_cases h0 : data.length = 0
    · rw [if_neg (by simp; omega)]
      exact Ev.pos (by omega) bad
    · refine Ev.neg (by omega) ?_
      by_cases h2 : (data.length : Int) ≤ 255 - 2 * m
      · rw [if_pos (by simp; omega), show decide ((data.length : Int) > 255 - 2 * m) = false by simp; omega]
        obtain ⟨M, rfl⟩ := Int.eq_ofNat_of_zero_le (show 0 ≤ m by omega)
        refine Ev.succ ?_
        simp only [impl_RsCode.j0]
        rw [show (2 * (M : Int)).toNat = 2 * M by omega, show wrap64 (2 * (M : Int)) = ((2 * M : Nat) : Int) by rw [w64 (by omega) (by omega)]; omega]
        exact Ev.neg (by decide) (iRs_l0 data hdb (by omega) M (by omega) (2 * M) 0 (by omega))
      · rw [if_neg (by simp; omega), show decide ((data.length : Int) > 255 - 2 * m) = true by simp; omega]
        exact bad
  · rw [if_neg (by simp; omega)]
    exact Ev.neg (fun h => h1 (inB_iff.1 h)) bad
theorem sRs_l4 (data r : List Int) (hr : isB r) (hl : data.length + r.length ≤ 1000) : ∀ (d i : Nat), i + d = r.length → Ev (fun k => spec_RsCode.l4 k r (data ++ r.take i) (i : Int)) (data ++ r, true) := by
  intro d
  induction d with
  | zero =>
    intro i hi
    refine Ev.succ ?_
    simp only [spec_RsCode.l4]
    rw [List.take_of_length_le (by omega)]
    exact Ev.neg (by omega) (Ev.some_ rfl)
  | succ d ih =>
    intro i hi
    have hb := rd_B hr (i : Int)
    have h2 := ih (i + 1) (by omega)
    rw [take_rd (xs := r) (i := i) (by omega), ← List.append_assoc] at h2
    refine Ev.succ ?_
    simp only [spec_RsCode.l4]
    rw [w64_add (by omega) (by omega), Int.emod_eq_of_lt hb.1 hb.2]
    exact Ev.pos (by omega) (Ev.pos (by omega) (Ev.pos (by simp; omega) h2))
theorem sRs_l3 (data g : List Int) (hg : isB g) (hgl : g.length ≤ 100) (x11 f : Int) (hf : 0 ≤ f ∧ f < 256) {res : List Int × Bool} : ∀ (d j : Nat) (acc : List Int), j + d = acc.length → isB acc → acc.length + 1 = g.length → Ev (fun k => spec_RsCode.l2 k data g (rsMul d j g f acc) (wrap64 (x11 + 1))) res → Ev (fun k => spec_RsCode.l3 k data g acc x11 f (j : Int)) res := by
  intro d
  induction d with
  | zero =>
    intro j acc hj ha hal H
    refine Ev.succ ?_
    simp only [spec_RsCode.l3]
    exact Ev.neg (by omega) H
  | succ d ih =>
    intro j acc hj ha hal H
    have hb := rd_B hg ((j + 1 : Nat) : Int)
    have w := w64_add (i := (j : Int)) (by omega) (by omega)
    refine Ev.succ ?_
    simp only [spec_RsCode.l3]
    rw [w]
    refine Ev.pos (by omega) (Ev.pos (by omega) (Ev.pos (by omega) (Ev.pos (by omega) (Ev.next (sGM hf hb) ?_))))
    rw [Int.toNat_natCast]
    exact ih (j + 1) _ (by simp; omega) (isB_set ha (xB_bd (rd_B ha _) (gM_bd hf _)) _) (by simpa using hal) H
theorem sRs_l2 (data g : List Int) (hg : isB g) (hgl : g.length ≤ 100) (hdb : isB data) (hdl : data.length ≤ 300) : ∀ (d i : Nat) (r : List Int), i + d = data.length → isB r → r.length + 1 = g.length → 0 < r.length → Ev (fun k => spec_RsCode.l2 k data g r (i : Int)) (data ++ rsRest g r (data.drop i), true) := by
  intro d
  induction d with
  | zero =>
    intro i r hi hr hrl h0
    refine Ev.succ ?_
    simp only [spec_RsCode.l2, Option.bind_some, List.nil_append]
    rw [List.drop_of_length_le (show data.length ≤ i by omega)]
    refine Ev.neg (by omega) (Ev.pos (by simp; omega) ?_)
    have h4 := sRs_l4 data r hr (by omega) r.length 0 (by omega)
    simp only [List.take_zero, List.append_nil] at h4
    exact h4
  | succ d ih =>
    intro i r hi hr hrl h0
    have hx := rd_B hdb (i : Int)
    have hf := xB_bd (rd_B hr 0) hx
    have e : data.drop i = rd data (i : Int) :: data.drop (i + 1) := drop_rd (by omega)
    have w := w64_add (i := (i : Int)) (by omega) (by omega)
    refine Ev.succ ?_
    simp only [spec_RsCode.l2, Option.bind_some, List.nil_append]
    rw [w64 (n := rd data (i : Int)) (by omega) (by omega)]
    refine Ev.pos (by omega) (Ev.pos (by omega) (Ev.pos (by omega) (Ev.pos (by omega) (Ev.pos (by simp; omega) (Ev.pos (by simp; omega) ?_)))))
    refine sRs_l3 data g hg hgl (i : Int) _ hf r.length 0 _ (by simp; omega) (isB_append (fun y hy => hr y (List.mem_of_mem_drop hy)) isB_zero) (by simp; omega) ?_
    rw [w, e]
    exact ih (i + 1) _ (by omega) (rsStep_B hg hr hx) ((congrArg (· + 1) (rsStep_len (g := g) (rd data (i : Int)) h0)).trans hrl) (Nat.lt_of_lt_of_eq h0 (rsStep_len (g := g) (rd data (i : Int)) h0).symm)
theorem sRs_l1 (data : List Int) (m : Int) (g : List Int) (hg : isB g) (hgl : g.length ≤ 100) (i : Nat) (hi : i ≤ 50) {res : List Int × Bool} : ∀ (d j : Nat) (acc : List Int), j + d = g.length → isB acc → acc.length = g.length + 1 → Ev (fun k => spec_RsCode.l0 k data m (mulRoot d j g ((gfP i : Nat) : Int) acc) (wrap64 ((i : Int) + 1))) res → Ev (fun k => spec_RsCode.l1 k data m g (i : Int) acc (j : Int)) res := by
  have hp := gfP_lt i
  intro d
  induction d with
  | zero =>
    intro j acc hj ha hal H
    refine Ev.succ ?_
    simp only [spec_RsCode.l1]
    exact Ev.neg (by omega) H
  | succ d ih =>
    intro j acc hj ha hal H
    have w := w64_add (i := (j : Int)) (by omega) (by omega)
    have hb := rd_B hg (j : Int)
    refine Ev.succ ?_
    simp only [spec_RsCode.l1]
    rw [w]
    refine Ev.pos (by omega) (Ev.pos (by omega) (Ev.pos (by omega) (Ev.pos (by omega) (Ev.next (sPow_ev i (by omega)) (Ev.next (sGM hb ⟨by omega, by omega⟩) ?_)))))
    rw [show ((j : Int) + 1) = ((j + 1 : Nat) : Int) by omega, Int.toNat_natCast]
    exact ih (j + 1) _ (by omega) (isB_set ha (xB_bd (rd_B ha _) (gM_bd hb _)) _) (by simpa using hal) H
theorem sRs_l0 (data : List Int) (hdb : isB data) (hdl : data.length ≤ 300) (M : Nat) (hM : 1 ≤ M ∧ M ≤ 8) : ∀ d i : Nat, i + d = 2 * M → Ev (fun k => spec_RsCode.l0 k data (M : Int) (genL i) (i : Int)) (data ++ rsRest (genL (2 * M)) (List.replicate (2 * M) 0) data, true) := by
  have w2 : wrap64 (2 * (M : Int)) = ((2 * M : Nat) : Int) := by rw [w64 (by omega) (by omega)]; omega
  intro d
  induction d with
  | zero =>
    intro i hi
    have hl := genL_len i
    refine Ev.succ ?_
    simp only [spec_RsCode.l0]
    rw [w2, Int.toNat_natCast]
    refine Ev.neg (by omega) (Ev.pos (by omega) (Ev.pos (by omega) ?_))
    have := sRs_l2 data (genL i) (genL_B i) (by omega) hdb hdl data.length 0 (List.replicate (2 * M) 0) (by omega) (fun x hx => by rw [List.eq_of_mem_replicate hx]; omega) (by simp; omega) (by simp; omega)
    rw [List.drop_zero, show genL i = genL (2 * M) by rw [show i = 2 * M by omega]] at this
    rw [show genL i = genL (2 * M) by rw [show i = 2 * M by omega]]
    exact this
  | succ d ih =>
    intro i hi
    have hl := genL_len i
    have h2 := ih (i + 1) (by omega)
    have w3 : wrap64 ((i : Int) + 1) = ((i + 1 : Nat) : Int) := by rw [w64 (by omega) (by omega)]; omega
    refine Ev.succ ?_
    simp only [spec_RsCode.l0, Option.bind_some, List.nil_append]
    rw [w2]
    refine Ev.pos (by omega) (Ev.pos (by simp; omega) (Ev.pos (by omega) ?_))
    refine sRs_l1 data (M : Int) (genL i) (genL_B i) (by omega) i (by omega) (genL i).length 0 _ (by omega) (isB_append (genL_B i) isB_zero) (by simp) ?_
    rw [w3]
    exact h2
theorem mend_eq (a : Int) : spec_l14Mend.f a = some (decide (1 ≤ a) && decide (a ≤ 8)) := by
  unfold spec_l14Mend.f; rw [l1In_eq]; rfl
theorem sRs_ev (data : List Int) (m : Int) (hdb : isB data) (hdl : data.length ≤ 1048576) : Ev (fun k => spec_RsCode.f k data m) (rsOf data m) := by
  have bad : Ev (fun k => spec_RsCode.j0 k data m true) ([], false) := by
    refine Ev.succ ?_
    simp only [spec_RsCode.j0]
    exact Ev.pos trivial (Ev.some_ rfl)
  unfold spec_RsCode.f rsOf rsB
  refine Ev.next (Ev.here (mend_eq m)) ?_
  by_cases h1 : 1 ≤ m ∧ m ≤ 8
  · refine Ev.pos (by simp [h1]) ?_
    rw [w64 (n := 2 * m) (by omega) (by omega), w64 (by omega) (by omega)]
    refine Ev.next (Ev.here (l1In_eq _ _ _)) ?_
    by_cases h2 : 1 ≤ data.length ∧ (data.length : Int) ≤ 255 - 2 * m
    · rw [if_pos (by simp; omega), show (!(decide (1 ≤ (data.length : Int)) && decide ((data.length : Int) ≤ 255 - 2 * m))) = false by simp; omega]
      obtain ⟨M, rfl⟩ := Int.eq_ofNat_of_zero_le (show 0 ≤ m by omega)
      refine Ev.succ ?_
      simp only [spec_RsCode.j0]
      rw [show (2 * (M : Int)).toNat = 2 * M by omega]
      exact Ev.neg (by decide) (sRs_l0 data hdb (by omega) M (by omega) (2 * M) 0 (by omega))
    · rw [if_neg (by simp; omega), show (!(decide (1 ≤ (data.length : Int)) && decide ((data.length : Int) ≤ 255 - 2 * m))) = true by simp; omega]
      exact bad
  · rw [if_neg (by simp; omega)]
    exact Ev.neg (by simp; omega) bad
/-- The bits of bytes from bit i on, the highest of each byte first. -/
def unpackGo (b : List Int) : Nat → Nat → List Int
  | 0, _ => []
  | d + 1, i => rd b ((i / 8 : Nat) : Int) / 2 ^ (7 - i % 8) % 2 :: unpackGo b d (i + 1)
def unpackOf (b : List Int) : List Int := unpackGo b (8 * b.length) 0
theorem unpackGo_len (b : List Int) : ∀ d i, (unpackGo b d i).length = d
  | 0, _ => rfl
  | d + 1, i => by simp [unpackGo, unpackGo_len b d]
theorem unpackOf_len (b : List Int) : (unpackOf b).length = 8 * b.length := unpackGo_len b _ _
theorem unpackGo_bit (b : List Int) : ∀ d i, ∀ x ∈ unpackGo b d i, x = 0 ∨ x = 1
  | 0, _, x, h => by cases h
  | d + 1, i, x, h => by
    simp only [unpackGo, List.mem_cons] at h
    rcases h with rfl | h
    · generalize rd b ((i / 8 : Nat) : Int) / 2 ^ (7 - i % 8) = y
      omega
    · exact unpackGo_bit b d (i + 1) x h
theorem unpackOf_bit (b : List Int) : ∀ x ∈ unpackOf b, x = 0 ∨ x = 1 := unpackGo_bit b _ _
theorem rd_drop (b : List Int) (a j : Nat) : rd (b.drop a) (j : Int) = rd b ((a + j : Nat) : Int) := by
  rw [rd_nat, rd_nat, List.getD_eq_getElem?_getD, List.getD_eq_getElem?_getD, List.getElem?_drop]
theorem unpackGo_shift (b : List Int) (a : Nat) : ∀ d i, unpackGo b d (8 * a + i) = unpackGo (b.drop a) d i
  | 0, _ => rfl
  | d + 1, i => by
    simp only [unpackGo]
    rw [rd_drop, show (8 * a + i) / 8 = a + i / 8 by omega, show (8 * a + i) % 8 = i % 8 by omega, show 8 * a + i + 1 = 8 * a + (i + 1) by omega, unpackGo_shift b a d (i + 1)]
theorem unpackOf_drop (b : List Int) (a : Nat) : unpackOf (b.drop a) = unpackGo b (8 * (b.length - a)) (8 * a) := by
  unfold unpackOf
  rw [List.length_drop, show 8 * a = 8 * a + 0 from rfl, unpackGo_shift]
theorem shr_u8 (x : Int) (s : Nat) (hs : s ≤ 7) : shr .u8 x (s : Int) = x / 2 ^ s := by
  unfold shr
  rw [show min ((s : Int).toNat) IntKind.u8.bits = s by simp [IntKind.bits]; omega]
theorem div_u8 {x : Int} (h0 : 0 ≤ x) (h1 : x < 256) (s : Nat) : 0 ≤ x / 2 ^ s ∧ x / 2 ^ s < 256 := by
  have hp : (0 : Int) < 2 ^ s := Int.pow_pos (by omega)
  have a := Int.ediv_nonneg h0 (Int.le_of_lt hp)
  have b := Int.ediv_le_self (2 ^ s) h0
  omega
theorem bits_and1 {v : Int} (h0 : 0 ≤ v) (h1 : v < 256) : bits .and .u8 v 1 = v % 2 := by
  have h : ∀ n : Fin 256, bits .and .u8 ((n.val : Nat) : Int) 1 = ((n.val : Nat) : Int) % 2 := by decide +kernel
  obtain ⟨n, rfl⟩ := Int.eq_ofNat_of_zero_le h0
  exact h ⟨n, by omega⟩
/-- A high byte over a low one. -/
theorem bits_or256 {a b : Int} (ha : 0 ≤ a ∧ a < 256) (hb : 0 ≤ b ∧ b < 256) : bits .or .i64 (a * 256) b = 256 * a + b := by
  obtain ⟨x, rfl⟩ := Int.eq_ofNat_of_zero_le ha.1
  obtain ⟨y, rfl⟩ := Int.eq_ofNat_of_zero_le hb.1
  have e : (x : Int) * 256 = ((x * 256 : Nat) : Int) := by omega
  have hx : (x * 256) % 2 ^ IntKind.i64.bits = x * 256 := Nat.mod_eq_of_lt (by show x * 256 < 2 ^ 64; omega)
  have hy : y % 2 ^ IntKind.i64.bits = y := Nat.mod_eq_of_lt (by show y < 2 ^ 64; omega)
  rw [e]
  simp only [bits, BitVec.toNat_or, BitVec.ofInt_natCast, BitVec.toNat_ofNat, hx, hy]
  have h : x * 256 ||| y = 2 ^ 8 * x + y := by rw [Nat.two_pow_add_eq_or_of_lt (show y < 2 ^ 8 by omega), Nat.mul_comm]
  rw [h, IntKind.wrap_i64]
  omega
theorem strOfNums_inj : ∀ {xs ys : List Int}, (∀ x ∈ xs, 0 ≤ x ∧ x < 256) → (∀ x ∈ ys, 0 ≤ x ∧ x < 256) → (strOfNums xs).toList = (strOfNums ys).toList → xs = ys := by
  intro xs ys hx hy h
  rw [ByteArray.toList_eq, ByteArray.toList_eq, strOfNums_data, strOfNums_data] at h
  induction xs generalizing ys with
  | nil => cases ys with
    | nil => rfl
    | cons y ys => cases h
  | cons x xs ih => cases ys with
    | nil => cases h
    | cons y ys =>
      simp only [List.map_cons, List.cons.injEq] at h
      have h1 := congrArg UInt8.toNat h.1
      have bx := hx x (by simp)
      have by_ := hy y (by simp)
      rw [UInt8.toNat_ofNat', UInt8.toNat_ofNat'] at h1
      rw [show x = y by omega, ih (fun z hz => hx z (by simp [hz])) (fun z hz => hy z (by simp [hz])) h.2]
theorem unpack8_l0 (b : List Int) (hl : b.length ≤ 1048576) (hb : ∀ x ∈ b, 0 ≤ x ∧ x < 256) : ∀ (d j : Nat) (out : List Int), j + d = b.length → out.length = 8 * j → Ev (fun k => impl_unpack8.l0 k out b (b.length : Int) (j : Int)) (out ++ unpackGo b (8 * d) (8 * j)) := by
  intro d
  induction d with
  | zero =>
    intro j out hj ho
    refine Ev.succ ?_
    simp only [impl_unpack8.l0]
    exact Ev.neg (by omega) (Ev.some_ (by simp [unpackGo]))
  | succ d ih =>
    intro j out hj ho
    have hbit := hb _ (rd_mem (xs := b) (i := j) (by omega))
    have l1 : ∀ (m i : Nat) (acc : List Int), i + m = 8 * j + 8 → m ≤ 8 → acc.length = i → Ev (fun k => impl_unpack8.l1 k acc (rd b (j : Int)) ((m : Int) - 1) b (b.length : Int) (j : Int)) (acc ++ unpackGo b (m + 8 * d) i) := by
      intro m
      induction m with
      | zero =>
        intro i acc hi hm ha
        refine Ev.succ ?_
        simp only [impl_unpack8.l1]
        rw [w64_add (i := (j : Int)) (by omega) (by omega)]
        refine Ev.neg (by omega) ((ih (j + 1) acc (by omega) (by omega)).to ?_)
        rw [Nat.zero_add, show 8 * (j + 1) = i by omega]
      | succ m ihm =>
        intro i acc hi hm ha
        have hd := div_u8 hbit.1 hbit.2 m
        refine Ev.succ ?_
        simp only [impl_unpack8.l1]
        rw [show (((m + 1 : Nat) : Int) - 1) = (m : Int) by omega, w64 (n := (m : Int) - 1) (by omega) (by omega), shr_u8 _ m (by omega), bits_and1 hd.1 hd.2, w64 (n := rd b (j : Int) / 2 ^ m % 2) (by omega) (by omega)]
        refine Ev.pos (by omega) (Ev.pos (by omega) (Ev.pos (by omega) ((ihm (i + 1) _ (by omega) (by omega) (by simp; omega)).to ?_)))
        rw [show m + 1 + 8 * d = (m + 8 * d) + 1 by omega]
        simp only [unpackGo]
        rw [show i / 8 = j by omega, show 7 - i % 8 = m by omega, List.append_assoc]
        rfl
    refine Ev.succ ?_
    simp only [impl_unpack8.l0]
    refine Ev.pos (by omega) (Ev.pos (by omega) (Ev.pos (by omega) ((l1 8 (8 * j) out (by omega) (by omega) ho).to ?_)))
    rw [show 8 * (d + 1) = 8 + 8 * d by omega]
theorem unpack8_ev (b : List Int) (hl : b.length ≤ 1048576) (hb : ∀ x ∈ b, 0 ≤ x ∧ x < 256) : Ev (fun k => impl_unpack8.f k b) (unpackOf b) :=
  unpack8_l0 b hl hb b.length 0 [] (by omega) rfl
theorem shr_bit (x : Int) (h : 0 ≤ x ∧ x < 256) (i : Nat) : Int.tmod (wrap64 (shr .u8 x (IntKind.u64.wrap (wrap64 (7 - Int.tmod (i : Int) 8))))) 2 = x / 2 ^ (7 - i % 8) % 2 := by
  have e : IntKind.u64.wrap (wrap64 (7 - Int.tmod (i : Int) 8)) = ((7 - i % 8 : Nat) : Int) := by
    rw [Int.tmod_eq_emod_of_nonneg (by omega), w64 (by omega) (by omega), wu64 (by omega) (by omega)]; omega
  have hd := div_u8 h.1 h.2 (7 - i % 8)
  rw [e, shr_u8 _ _ (by omega), w64 (by omega) (by omega), Int.tmod_eq_emod_of_nonneg (by omega)]
theorem sUnpack8_l0 (b : List Int) (hl : b.length ≤ 128) (hb : isB b) : ∀ (d i : Nat) (acc : List Int), i + d = 8 * b.length → acc.length = i → Ev (fun k => spec_Unpack8.l0 k b ((8 * b.length : Nat) : Int) acc (i : Int)) (acc ++ unpackGo b d i, true) := by
  have w8 : wrap64 (8 * (b.length : Int)) = ((8 * b.length : Nat) : Int) := by rw [w64 (by omega) (by omega)]; omega
  intro d
  induction d with
  | zero =>
    intro i acc hi ha
    refine Ev.succ ?_
    simp only [spec_Unpack8.l0, w8]
    exact Ev.neg (by omega) (Ev.some_ (by simp [unpackGo]))
  | succ d ih =>
    intro i acc hi ha
    have e1 : wrap64 (Int.tdiv (i : Int) 8) = ((i / 8 : Nat) : Int) := by rw [Int.tdiv_eq_ediv_of_nonneg (by omega), w64 (by omega) (by omega)]; omega
    have e2 := shr_bit _ (rd_B hb ((i / 8 : Nat) : Int)) i
    have hu : 0 ≤ IntKind.u64.wrap (wrap64 (7 - Int.tmod (i : Int) 8)) := by
      rw [Int.tmod_eq_emod_of_nonneg (by omega), w64 (by omega) (by omega), wu64 (by omega) (by omega)]; omega
    refine Ev.succ ?_
    simp only [spec_Unpack8.l0, w8]
    rw [e1, e2]
    refine Ev.pos (by omega) (Ev.pos (by omega) (Ev.pos (by omega) (Ev.pos hu (Ev.neg (by omega) ?_))))
    refine Ev.succ ?_
    simp only [spec_Unpack8.j2]
    refine Ev.neg (by decide) (Ev.pos (by omega) (Ev.pos (by omega) ?_))
    rw [wadd1 (e := i) (by omega)]
    refine (ih (i + 1) _ (by omega) (by simp; omega)).to ?_
    simp only [unpackGo, List.append_assoc, List.cons_append, List.nil_append]
theorem sUnpack8_ev (b : List Int) (hl : b.length ≤ 128) (hb : isB b) : Ev (fun k => spec_Unpack8.f k b (wrap64 (8 * (b.length : Int)))) (unpackOf b, true) := by
  have w8 : wrap64 (8 * (b.length : Int)) = ((8 * b.length : Nat) : Int) := by rw [w64 (by omega) (by omega)]; omega
  have e : wrap64 (Int.tdiv (wrap64 (((8 * b.length : Nat) : Int) + 7)) 8) = (b.length : Int) := by
    rw [w64 (n := ((8 * b.length : Nat) : Int) + 7) (by omega) (by omega), Int.tdiv_eq_ediv_of_nonneg (by omega), w64 (by omega) (by omega)]; omega
  rw [w8]
  unfold spec_Unpack8.f
  refine Ev.next (Ev.some_ rfl) (Ev.next (Ev.here (l1In_eq _ _ _)) (Ev.pos (by simp; omega) ?_))
  rw [e]
  refine Ev.succ ?_
  simp only [spec_Unpack8.j0]
  exact Ev.neg (by simp) (sUnpack8_l0 b hl hb (8 * b.length) 0 [] (by omega) rfl)
/-- One column of the weaving's order. -/
def ordRow (n w c : Nat) : Nat → Nat → List Int
  | 0, _ => []
  | d + 1, j => if j * w + c < n then ((j * w + c : Nat) : Int) :: ordRow n w c d (j + 1) else ordRow n w c d (j + 1)
def ordAll (n w r : Nat) : Nat → Nat → List Int
  | 0, _ => []
  | d + 1, c => ordRow n w c r 0 ++ ordAll n w r d (c + 1)
theorem ordRow_bd (n w c : Nat) : ∀ d j, ∀ x ∈ ordRow n w c d j, 0 ≤ x ∧ x < (n : Int)
  | 0, _, x, h => by cases h
  | d + 1, j, x, h => by
    unfold ordRow at h
    split at h
    · rcases List.mem_cons.1 h with h | h
      · omega
      · exact ordRow_bd n w c d (j + 1) x h
    · exact ordRow_bd n w c d (j + 1) x h
theorem ordRow_len (n w c : Nat) : ∀ d j, (ordRow n w c d j).length ≤ d
  | 0, _ => Nat.le_refl _
  | d + 1, j => by
    have := ordRow_len n w c d (j + 1)
    unfold ordRow
    split
    · simp; omega
    · omega
theorem ordAll_bd (n w r : Nat) : ∀ d c, ∀ x ∈ ordAll n w r d c, 0 ≤ x ∧ x < (n : Int)
  | 0, _, x, h => by cases h
  | d + 1, c, x, h => by
    unfold ordAll at h
    rcases List.mem_append.1 h with h | h
    · exact ordRow_bd n w c r 0 x h
    · exact ordAll_bd n w r d (c + 1) x h
theorem ordAll_len (n w r : Nat) (hr : r ≤ 64) : ∀ d c, (ordAll n w r d c).length ≤ 64 * d
  | 0, _ => Nat.le_refl _
  | d + 1, c => by
    have h1 := ordAll_len n w r hr d (c + 1)
    have h2 := ordRow_len n w c r 0
    unfold ordAll
    simp; omega
theorem mulW {j w r : Nat} (hj : j ≤ r) (hr : r ≤ 64) (hw : w ≤ 2000) : j * w ≤ 128000 :=
  Nat.le_trans (Nat.mul_le_mul (Nat.le_trans hj hr) hw) (by decide)
theorem ordIx {j w c : Nat} (h : j * w ≤ 128000) (hc : c ≤ 2000) : wrap64 (wrap64 ((j : Int) * (w : Int)) + (c : Int)) = ((j * w + c : Nat) : Int) := by
  have e : (j : Int) * (w : Int) = ((j * w : Nat) : Int) := by simp
  rw [e]
  generalize j * w = q at *
  rw [w64 (n := (q : Int)) (by omega) (by omega), w64 (by omega) (by omega)]; omega
theorem sOrd_l1 (n w r c : Nat) (hn : n ≤ 1024) (hr : r ≤ 64) (hw : w ≤ 2000) (hc : c ≤ 2000) {res : List Int} : ∀ (d j : Nat) (acc : List Int), j + d = r → acc.length ≤ 64 * c + j → Ev (fun k => spec_l13Order.l0 k (n : Int) (r : Int) (w : Int) (acc ++ ordRow n w c d j) ((c + 1 : Nat) : Int)) res → Ev (fun k => spec_l13Order.l1 k (n : Int) (r : Int) (w : Int) acc (c : Int) (j : Int)) res := by
  intro d
  induction d with
  | zero =>
    intro j acc hj ha H
    refine Ev.succ ?_
    simp only [spec_l13Order.l1]
    rw [wadd1 (e := c) (by omega)]
    simp only [ordRow, List.append_nil] at H
    exact Ev.neg (by omega) H
  | succ d ih =>
    intro j acc hj ha H
    have hq := mulW (j := j) (w := w) (r := r) (by omega) hr hw
    have e := ordIx hq hc
    refine Ev.succ ?_
    simp only [spec_l13Order.l1]
    rw [e, wadd1 (e := j) (by omega)]
    refine Ev.pos (by omega) ?_
    by_cases h : j * w + c < n
    · simp only [ordRow, if_pos h] at H
      refine Ev.pos (by omega) (Ev.pos (by omega) (ih (j + 1) _ (by omega) (by simp; omega) ?_))
      rw [List.append_assoc]
      exact H
    · simp only [ordRow, if_neg h] at H
      exact Ev.neg (by omega) (ih (j + 1) _ (by omega) (by omega) H)
theorem sOrd_l0 (n w r : Nat) (hn : n ≤ 1024) (hr : r ≤ 64) (hw : w ≤ 2000) : ∀ (d c : Nat) (acc : List Int), c + d = w → acc.length ≤ 64 * c → Ev (fun k => spec_l13Order.l0 k (n : Int) (r : Int) (w : Int) acc (c : Int)) (acc ++ ordAll n w r d c) := by
  intro d
  induction d with
  | zero =>
    intro c acc hc ha
    refine Ev.succ ?_
    simp only [spec_l13Order.l0]
    exact Ev.neg (by omega) (Ev.some_ (by simp [ordAll]))
  | succ d ih =>
    intro c acc hc ha
    have hl := ordRow_len n w c r 0
    refine Ev.succ ?_
    simp only [spec_l13Order.l0]
    refine Ev.pos (by omega) (sOrd_l1 n w r c hn hr hw (by omega) r 0 acc (by omega) (by omega) ?_)
    refine (ih (c + 1) _ (by omega) (by simp; omega)).to ?_
    simp [ordAll]
theorem iOrd_l1 (n w r c : Nat) (hn : n ≤ 1024) (hr : r ≤ 64) (hw : w ≤ 2000) (hc : c ≤ 2000) {res : List Int} : ∀ (d j : Nat) (acc : List Int), j + d = r → acc.length ≤ 64 * c + j → Ev (fun k => impl_woven.l0 k (n : Int) (r : Int) (w : Int) (acc ++ ordRow n w c d j) (w : Int) ((c + 1 : Nat) : Int)) res → Ev (fun k => impl_woven.l1 k (n : Int) (r : Int) (w : Int) acc (c : Int) (w : Int) (c : Int) (r : Int) (j : Int)) res := by
  intro d
  induction d with
  | zero =>
    intro j acc hj ha H
    refine Ev.succ ?_
    simp only [impl_woven.l1]
    rw [wadd1 (e := c) (by omega)]
    simp only [ordRow, List.append_nil] at H
    exact Ev.neg (by omega) H
  | succ d ih =>
    intro j acc hj ha H
    have hq := mulW (j := j) (w := w) (r := r) (by omega) hr hw
    have e := ordIx hq hc
    refine Ev.succ ?_
    simp only [impl_woven.l1]
    rw [e, wadd1 (e := j) (by omega)]
    refine Ev.pos (by omega) ?_
    by_cases h : j * w + c < n
    · simp only [ordRow, if_pos h] at H
      refine Ev.pos (by omega) (Ev.pos (by omega) (ih (j + 1) _ (by omega) (by simp; omega) ?_))
      rw [List.append_assoc]
      exact H
    · simp only [ordRow, if_neg h] at H
      exact Ev.neg (by omega) (ih (j + 1) _ (by omega) (by omega) H)
theorem iOrd_l0 (n w r : Nat) (hn : n ≤ 1024) (hr : r ≤ 64) (hw : w ≤ 2000) : ∀ (d c : Nat) (acc : List Int), c + d = w → acc.length ≤ 64 * c → Ev (fun k => impl_woven.l0 k (n : Int) (r : Int) (w : Int) acc (w : Int) (c : Int)) (acc ++ ordAll n w r d c) := by
  intro d
  induction d with
  | zero =>
    intro c acc hc ha
    refine Ev.succ ?_
    simp only [impl_woven.l0]
    exact Ev.neg (by omega) (Ev.some_ (by simp [ordAll]))
  | succ d ih =>
    intro c acc hc ha
    have hl := ordRow_len n w c r 0
    refine Ev.succ ?_
    simp only [impl_woven.l0]
    refine Ev.pos (by omega) (iOrd_l1 n w r c hn hr hw (by omega) r 0 acc (by omega) (by omega) ?_)
    refine (ih (c + 1) _ (by omega) (by simp; omega)).to ?_
    simp [ordAll]
def cols (n r : Nat) : Nat := (n + r - 1) / r
theorem cols_le (n r : Nat) (hn : n ≤ 1024) (hr : 1 ≤ r ∧ r ≤ 64) : cols n r ≤ 2000 :=
  Nat.le_trans (Nat.div_le_self _ _) (by omega)
theorem cols_int (n r : Nat) (hn : n ≤ 1024) (hr : 1 ≤ r ∧ r ≤ 64) : wrap64 (Int.tdiv (wrap64 (wrap64 ((n : Int) + (r : Int)) - 1)) (r : Int)) = ((cols n r : Nat) : Int) := by
  have h := cols_le n r hn hr
  rw [w64 (n := (n : Int) + (r : Int)) (by omega) (by omega), w64 (n := (n : Int) + (r : Int) - 1) (by omega) (by omega), show (n : Int) + (r : Int) - 1 = ((n + r - 1 : Nat) : Int) by omega, Int.tdiv_eq_ediv_of_nonneg (by omega)]
  have e : ((n + r - 1 : Nat) : Int) / (r : Int) = ((cols n r : Nat) : Int) := by unfold cols; simp
  rw [e, w64 (by omega) (by omega)]
def ordOf (n r : Nat) : List Int := ordAll n (cols n r) r (cols n r) 0
theorem ordOf_len (n r : Nat) (hn : n ≤ 1024) (hr : 1 ≤ r ∧ r ≤ 64) : (ordOf n r).length ≤ 128000 := by
  have := ordAll_len n (cols n r) r hr.2 (cols n r) 0
  have h2 := cols_le n r hn hr
  unfold ordOf; omega
theorem sOrd_ev (n r : Nat) (hn : n ≤ 1024) (hr : 1 ≤ r ∧ r ≤ 64) : Ev (fun k => spec_l13Order.f k (n : Int) (r : Int)) (ordOf n r) := by
  unfold spec_l13Order.f ordOf
  rw [cols_int n r hn hr]
  exact Ev.neg (by omega) ((sOrd_l0 n (cols n r) r hn hr.2 (cols_le n r hn hr) (cols n r) 0 [] (by omega) (by simp)).to (by simp))
theorem iOrd_ev (n r : Nat) (hn : n ≤ 1024) (hr : 1 ≤ r ∧ r ≤ 64) : Ev (fun k => impl_woven.f k (n : Int) (r : Int)) (ordOf n r) := by
  unfold impl_woven.f ordOf
  rw [cols_int n r hn hr]
  exact Ev.neg (by omega) ((iOrd_l0 n (cols n r) r hn hr.2 (cols_le n r hn hr) (cols n r) 0 [] (by omega) (by simp)).to (by simp))
def weaveOf (l : List Int) (r : Nat) : List Int := (ordOf l.length r).map (fun x => rd l x)
theorem sWeave_l0 (l o : List Int) (hl : l.length ≤ 1024) (hol : o.length ≤ 128000) (ho : ∀ x ∈ o, 0 ≤ x ∧ x < (l.length : Int)) : ∀ (d i : Nat), i + d = o.length → Ev (fun k => spec_Weave.l0 k l ((o.take i).map (fun x => rd l x)) o (i : Int)) (o.map (fun x => rd l x), true) := by
  intro d
  induction d with
  | zero =>
    intro i hi
    refine Ev.succ ?_
    simp only [spec_Weave.l0]
    refine Ev.neg (by omega) (Ev.some_ ?_)
    rw [List.take_of_length_le (by omega)]
  | succ d ih =>
    intro i hi
    have hx := ho _ (rd_mem (xs := o) (i := i) (by omega))
    refine Ev.succ ?_
    simp only [spec_Weave.l0]
    rw [wadd1 (e := i) (by omega)]
    refine Ev.pos (by omega) (Ev.pos (by omega) (Ev.pos hx.1 (Ev.pos hx.2 (Ev.pos (by simp; omega) ?_))))
    have := ih (i + 1) (by omega)
    rw [take_rd (xs := o) (i := i) (by omega), List.map_append] at this
    exact this
theorem iWeave_l0 (l o : List Int) (hl : l.length ≤ 1024) (hol : o.length ≤ 128000) (ho : ∀ x ∈ o, 0 ≤ x ∧ x < (l.length : Int)) : ∀ (d i : Nat), i + d = o.length → Ev (fun k => impl_Weave.l0 k l ((o.take i).map (fun x => rd l x)) o (o.length : Int) (i : Int)) (o.map (fun x => rd l x), true) := by
  intro d
  induction d with
  | zero =>
    intro i hi
    refine Ev.succ ?_
    simp only [impl_Weave.l0]
    refine Ev.neg (by omega) (Ev.some_ ?_)
    rw [List.take_of_length_le (by omega)]
  | succ d ih =>
    intro i hi
    have hx := ho _ (rd_mem (xs := o) (i := i) (by omega))
    refine Ev.succ ?_
    simp only [impl_Weave.l0]
    rw [wadd1 (e := i) (by omega)]
    refine Ev.pos (by omega) (Ev.pos (by omega) (Ev.pos (by omega) (Ev.pos hx.1 (Ev.pos hx.2 (Ev.pos (by simp; omega) ?_)))))
    have := ih (i + 1) (by omega)
    rw [take_rd (xs := o) (i := i) (by omega), List.map_append] at this
    exact this
theorem sWeave_ev (l : List Int) (r : Nat) (hl : l.length ≤ 1024) (hr : 1 ≤ r ∧ r ≤ 64) : Ev (fun k => spec_Weave.f k l (r : Int)) (weaveOf l r, true) := by
  unfold spec_Weave.f
  refine Ev.next (Ev.some_ rfl) (Ev.neg (by omega) (Ev.next (Ev.here (l1In_eq _ _ _)) ?_))
  rw [show (!(decide ((1 : Int) ≤ (r : Int)) && decide ((r : Int) ≤ 64))) = false by simp; omega]
  refine Ev.succ ?_
  simp only [spec_Weave.j0]
  refine Ev.neg (by decide) (Ev.next (sOrd_ev l.length r hl hr) ?_)
  exact sWeave_l0 l (ordOf l.length r) hl (ordOf_len _ _ hl hr) (ordAll_bd _ _ _ _ _) (ordOf l.length r).length 0 (by omega)
theorem iWeave_ev (l : List Int) (r : Nat) (hl : l.length ≤ 1024) (hr : 1 ≤ r ∧ r ≤ 64) : Ev (fun k => impl_Weave.f k l (r : Int)) (weaveOf l r, true) := by
  unfold impl_Weave.f
  have e : impl_weaves.f l (r : Int) = some true := by
    unfold impl_weaves.f
    rw [if_pos (by omega), if_pos (by omega)]; simp; omega
  refine Ev.next (Ev.here e) (Ev.pos rfl (Ev.next (iOrd_ev l.length r hl hr) ?_))
  exact iWeave_l0 l (ordOf l.length r) hl (ordOf_len _ _ hl hr) (ordAll_bd _ _ _ _ _) (ordOf l.length r).length 0 (by omega)
theorem weaveOf_bd (l : List Int) (r : Nat) (hl : l.length ≤ 1024) (hr : 1 ≤ r ∧ r ≤ 64) : (weaveOf l r).length ≤ 128000 := by
  unfold weaveOf; rw [List.length_map]; exact ordOf_len _ _ hl hr
def bitOk (x : Int) : Bool := decide (x = 0 ∨ x = 1)
theorem allBits_iff {l : List Int} : l.all bitOk = true ↔ ∀ x ∈ l, x = 0 ∨ x = 1 := by simp [List.all_eq_true, bitOk]
def bitsB (l : List Int) : Bool := l.all bitOk && decide (l.length ≤ 1024)
theorem bitsB_iff {l : List Int} : bitsB l = true ↔ (∀ x ∈ l, x = 0 ∨ x = 1) ∧ l.length ≤ 1024 := by
  unfold bitsB; rw [Bool.and_eq_true, allBits_iff]; simp
theorem sBitsOk_l0 (l : List Int) (hl : l.length ≤ 1048576) : ∀ (d i : Nat), i + d = l.length → Ev (fun k => spec_BitsOk.l0 k l (i : Int)) ((l.drop i).all bitOk && decide (l.length ≤ 1024)) := by
  intro d
  induction d with
  | zero =>
    intro i hi
    refine Ev.succ ?_
    simp only [spec_BitsOk.l0]
    rw [List.drop_of_length_le (by omega)]
    exact Ev.neg (by omega) (Ev.some_ (by simp; omega))
  | succ d ih =>
    intro i hi
    refine Ev.succ ?_
    simp only [spec_BitsOk.l0, l1In_eq, Option.bind_some]
    refine Ev.pos (by omega) (Ev.pos (by omega) ?_)
    rw [drop_rd (xs := l) (i := i) (by omega), w64_add (by omega) (by omega)]
    by_cases h1 : rd l i = 0 ∨ rd l i = 1
    · exact Ev.pos (by simp; omega) ((ih (i + 1) (by omega)).to (by simp [bitOk, h1]))
    · exact Ev.neg (by simp; omega) (Ev.some_ (by simp [bitOk, h1]))
theorem sBitsOk_ev (l : List Int) (hl : l.length ≤ 1048576) : Ev (fun k => spec_BitsOk.f k l) (bitsB l) :=
  (sBitsOk_l0 l hl l.length 0 (by omega)).to (by simp [bitsB])
theorem isBit_eq (a : Int) : impl_isBit.f a = some (decide (a = 0 ∨ a = 1)) := by
  unfold impl_isBit.f
  by_cases h : a = 0
  · simp [h]
  · rw [if_neg h]; simp [h]; by_cases h1 : a = 1 <;> simp [h1]
theorem iBitsOk_l0 (l : List Int) (hl : l.length ≤ 1048576) : ∀ (d i : Nat), i + d = l.length → Ev (fun k => impl_BitsOk.l0 k l l (l.length : Int) (i : Int)) ((l.drop i).all bitOk && decide (l.length ≤ 1024)) := by
  intro d
  induction d with
  | zero =>
    intro i hi
    refine Ev.succ ?_
    simp only [impl_BitsOk.l0]
    rw [List.drop_of_length_le (by omega)]
    exact Ev.neg (by omega) (Ev.some_ (by simp; omega))
  | succ d ih =>
    intro i hi
    refine Ev.succ ?_
    simp only [impl_BitsOk.l0, isBit_eq, Option.bind_some]
    refine Ev.pos (by omega) (Ev.pos (by omega) (Ev.pos (by omega) ?_))
    rw [drop_rd (xs := l) (i := i) (by omega), w64_add (by omega) (by omega)]
    by_cases h1 : rd l i = 0 ∨ rd l i = 1
    · exact Ev.pos (by simp [h1]) ((ih (i + 1) (by omega)).to (by simp [bitOk, h1]))
    · exact Ev.neg (by simp [h1]) (Ev.some_ (by simp [bitOk, h1]))
theorem iBitsOk_ev (l : List Int) (hl : l.length ≤ 1048576) : Ev (fun k => impl_BitsOk.f k l) (bitsB l) :=
  (iBitsOk_l0 l hl l.length 0 (by omega)).to (by simp [bitsB])
theorem isWidth_eq (a : Int) : impl_isWidth.f a = some (widthB a) := by
  unfold impl_isWidth.f widthB
  by_cases h2 : a = 2
  · simp [h2]
  · by_cases h4 : a = 4
    · simp [h4]
    · by_cases h6 : a = 6
      · simp [h6]
      · simp only [if_neg h2, if_neg h4, if_neg h6, Option.some.injEq]
        by_cases h8 : a = 8 <;> simp [h2, h4, h6, h8]
theorem isMend_eq (a : Int) : impl_isMend.f a = some (inB a 1 8) := by
  unfold impl_isMend.f inB
  by_cases h : a ≥ 1 <;> simp [h]
theorem is16_eq (a b : Int) : impl_is16.f a b = some (inB a b 65535) := by
  unfold impl_is16.f inB
  by_cases h : a ≥ b <;> simp [h]
theorem two_if {a b c : Int} {o : Option Bool} : (if a ≥ b then (if a ≤ c then o else some false) else some false) = (if inB a b c = true then o else some false) := by
  unfold inB
  by_cases h : a ≥ b <;> by_cases h2 : a ≤ c <;> simp [h, h2]
theorem iModemOk_eq (w m r s ra si : Int) : impl_ModemOk.f w m r s ra si = some (modemB w m r s ra si) := by
  unfold impl_ModemOk.f modemB
  simp only [isWidth_eq, isMend_eq, is16_eq, Option.bind_some, two_if]
  have e : (if si ≥ 1 then some (decide (si ≤ 10000)) else some false) = some (inB si 1 10000) := by
    unfold inB
    by_cases h : si ≥ 1 <;> simp [h]
  rw [e]
  cases widthB w <;> cases inB m 1 8 <;> cases inB r 1 64 <;> cases inB s 1 65535 <;> cases inB ra 1 8 <;> rfl
theorem andOne {s : Int} (h : 0 ≤ s ∧ s < 65536) : bits .and .i64 s 1 = s % 2 := by
  have := bits_and_mask s 1 (by omega)
  rw [show ((2 : Int) ^ 1 - 1) = 1 by decide] at this
  rw [this]; omega
theorem xor16 {a b : Int} (ha : 0 ≤ a ∧ a < 65536) (hb : 0 ≤ b ∧ b < 65536) : 0 ≤ bits .xor .i64 a b ∧ bits .xor .i64 a b < 65536 := by
  have h : a.toNat ^^^ b.toNat < 65536 := Nat.xor_lt_two_pow (n := 16) (by omega) (by omega)
  rw [← Int.toNat_of_nonneg ha.1, ← Int.toNat_of_nonneg hb.1, xorN _ _ (by omega) (by omega)]
  omega
def stirS (s : Int) : Int := if s % 2 = 1 then bits .xor .i64 (s / 2) 46080 else s / 2
theorem stirS_bd {s : Int} (h : 0 ≤ s ∧ s < 65536) : 0 ≤ stirS s ∧ stirS s < 65536 := by
  unfold stirS
  split
  · exact xor16 (by omega) (by omega)
  · omega
def stirGo : Int → List Int → List Int
  | _, [] => []
  | s, x :: xs => bits .xor .i64 x (s % 2) :: stirGo (stirS s) xs
theorem stirGo_len : ∀ (s : Int) (l : List Int), (stirGo s l).length = l.length
  | _, [] => rfl
  | s, x :: xs => by simp [stirGo, stirGo_len _ xs]
def stirOf (l : List Int) (s : Int) : List Int × Bool := if bitsB l = true then (stirGo s l, true) else ([], false)
theorem sStir_l0 (l : List Int) (hl : l.length ≤ 1024) : ∀ (d i : Nat) (s : Int) (acc : List Int), i + d = l.length → acc.length = i → 0 ≤ s ∧ s < 65536 → Ev (fun k => spec_Stir.l0 k l 46080 acc s (i : Int)) (acc ++ stirGo s (l.drop i), true) := by
  intro d
  induction d with
  | zero =>
    intro i s acc hi ha hs
    refine Ev.succ ?_
    simp only [spec_Stir.l0]
    rw [List.drop_of_length_le (by omega)]
    exact Ev.neg (by omega) (Ev.some_ (by simp [stirGo]))
  | succ d ih =>
    intro i s acc hi ha hs
    have e1 : Int.tmod s 2 = s % 2 := Int.tmod_eq_emod_of_nonneg hs.1
    have e2 : wrap64 (Int.tdiv s 2) = s / 2 := by rw [Int.tdiv_eq_ediv_of_nonneg hs.1, w64 (by omega) (by omega)]
    have hn := stirS_bd hs
    have i1 := ih (i + 1) (stirS s) (acc ++ [bits .xor .i64 (rd l (i : Int)) (s % 2)]) (by omega) (by simp; omega) hn
    have e3 : acc ++ [bits .xor .i64 (rd l (i : Int)) (s % 2)] ++ stirGo (stirS s) (l.drop (i + 1)) = acc ++ stirGo s (l.drop i) := by
      rw [drop_rd (xs := l) (i := i) (by omega)]
      simp [stirGo]
    rw [e3] at i1
    refine Ev.succ ?_
    simp only [spec_Stir.l0]
    rw [e1, e2, wadd1 (e := i) (by omega)]
    refine Ev.pos (by omega) (Ev.pos (by omega) (Ev.pos (by omega) (Ev.next (Ev.some_ rfl) ?_)))
    unfold stirS at i1
    by_cases h : s % 2 = 1
    · rw [if_pos h] at i1; exact Ev.pos h i1
    · rw [if_neg h] at i1; exact Ev.neg h i1
theorem iStir_l0 (l : List Int) (hl : l.length ≤ 1024) : ∀ (d i : Nat) (s : Int) (acc : List Int), i + d = l.length → acc.length = i → 0 ≤ s ∧ s < 65536 → Ev (fun k => impl_Stir.l0 k 46080 s acc l (l.length : Int) (i : Int)) (acc ++ stirGo s (l.drop i), true) := by
  intro d
  induction d with
  | zero =>
    intro i s acc hi ha hs
    refine Ev.succ ?_
    simp only [impl_Stir.l0]
    rw [List.drop_of_length_le (by omega)]
    exact Ev.neg (by omega) (Ev.some_ (by simp [stirGo]))
  | succ d ih =>
    intro i s acc hi ha hs
    have e1 := andOne hs
    have hn := stirS_bd hs
    have i1 := ih (i + 1) (stirS s) (acc ++ [bits .xor .i64 (rd l (i : Int)) (s % 2)]) (by omega) (by simp; omega) hn
    have e3 : acc ++ [bits .xor .i64 (rd l (i : Int)) (s % 2)] ++ stirGo (stirS s) (l.drop (i + 1)) = acc ++ stirGo s (l.drop i) := by
      rw [drop_rd (xs := l) (i := i) (by omega)]
      simp [stirGo]
    rw [e3] at i1
    refine Ev.succ ?_
    simp only [impl_Stir.l0]
    rw [e1, wadd1 (e := i) (by omega)]
    refine Ev.pos (by omega) (Ev.pos (by omega) (Ev.pos (by omega) (Ev.pos (by omega) (Ev.next (Ev.some_ rfl) ?_))))
    unfold stirS at i1
    by_cases h : s % 2 = 1
    · rw [if_pos h] at i1; exact Ev.pos h i1
    · rw [if_neg h] at i1; exact Ev.neg h i1
theorem bitsB_len {l : List Int} (h : bitsB l = true) : l.length ≤ 1024 := (bitsB_iff.1 h).2
theorem sStir_ev (l : List Int) (s : Int) (hl : l.length ≤ 1048576) (hs : 1 ≤ s ∧ s ≤ 65535) : Ev (fun k => spec_Stir.f k l 46080 s) (stirOf l s) := by
  unfold spec_Stir.f stirOf
  refine Ev.next (Ev.some_ rfl) (Ev.next (sBitsOk_ev l hl) ?_)
  by_cases h : bitsB l = true
  · rw [if_pos h]
    refine Ev.pos h (Ev.next (Ev.here (l1In_eq _ _ _)) (Ev.pos (by decide) (Ev.next (Ev.here (l1In_eq _ _ _)) ?_)))
    rw [show (!(decide ((1 : Int) ≤ s) && decide (s ≤ 65535))) = false by simp; omega]
    refine Ev.succ ?_
    simp only [spec_Stir.j0]
    exact Ev.neg (by decide) (sStir_l0 l (bitsB_len h) l.length 0 s [] (by omega) rfl (by omega))
  · rw [if_neg h]
    refine Ev.neg h (Ev.succ ?_)
    simp only [spec_Stir.j0]
    exact Ev.pos trivial (Ev.some_ rfl)
theorem iStir_ev (l : List Int) (s : Int) (hl : l.length ≤ 1048576) (hs : 1 ≤ s ∧ s ≤ 65535) : Ev (fun k => impl_Stir.f k l 46080 s) (stirOf l s) := by
  unfold impl_Stir.f stirOf
  refine Ev.next (iBitsOk_ev l hl) ?_
  by_cases h : bitsB l = true
  · rw [if_pos h]
    refine Ev.pos h (Ev.next (Ev.here (is16_eq _ _)) (Ev.pos (by decide) (Ev.next (Ev.here (is16_eq _ _)) ?_)))
    rw [show (!(inB s 1 65535)) = false by rw [inB_iff.2 hs]; rfl]
    refine Ev.succ ?_
    simp only [impl_Stir.j0]
    exact Ev.neg (by decide) (iStir_l0 l (bitsB_len h) l.length 0 s [] (by omega) rfl (by omega))
  · rw [if_neg h]
    refine Ev.neg h (Ev.succ ?_)
    simp only [impl_Stir.j0]
    exact Ev.pos trivial (Ev.some_ rfl)
theorem stirOf_len (l : List Int) (s : Int) : (stirOf l s).1.length ≤ 1024 := by
  unfold stirOf
  split
  · rename_i h; rw [stirGo_len]; exact bitsB_len h
  · simp
theorem l13Width_eq (a : Int) : spec_l13Width.f a = some (widthB a) := by
  unfold spec_l13Width.f widthB
  by_cases h2 : a = 2
  · simp [h2]
  · by_cases h4 : a = 4
    · simp [h4]
    · by_cases h6 : a = 6
      · simp [h6]
      · simp only [if_neg h2, if_neg h4, if_neg h6, Option.some.injEq]
        by_cases h8 : a = 8 <;> simp [h2, h4, h6, h8]
theorem l14Mend_eq (a : Int) : spec_l14Mend.f a = some (inB a 1 8) := by unfold spec_l14Mend.f inB; rw [l1In_eq]; rfl
theorem sModemOk_eq (w m r s ra si : Int) : spec_ModemOk.f w m r s ra si = some (modemB w m r s ra si) := by
  unfold spec_ModemOk.f modemB
  have e : ∀ a b c : Int, spec_l1In.f a b c = some (inB a b c) := l1In_eq
  simp only [l13Width_eq, l14Mend_eq, e, Option.bind_some]
  cases widthB w <;> cases inB m 1 8 <;> cases inB r 1 64 <;> cases inB s 1 65535 <;> cases inB ra 1 8 <;> rfl
theorem Ev.mono {α : Type} {g : Nat → Option α} (m : ∀ k, LeO (g k) (g (k + 1))) {K : Nat} {r : α} (h : g K = some r) : Ev g r :=
  ⟨K, fun k hk => by
    induction hk with
    | refl => exact h
    | step _ ih => exact m _ _ ih⟩
def ug (g : Nat) : Nat := g ^^^ (g / 2) ^^^ (g / 4) ^^^ (g / 8)
theorem iUg : ∀ g : Fin 16, impl_unGray.f 8 ((g.1 : Nat) : Int) = some ((ug g.1 : Nat) : Int) := by decide +kernel
theorem sUg : ∀ g : Fin 16, spec_UnGray.f 8 ((g.1 : Nat) : Int) = some ((ug g.1 : Nat) : Int) := by decide +kernel
theorem iUg_ev {v : Int} (h : 0 ≤ v ∧ v ≤ 15) : Ev (fun k => impl_unGray.f k v) ((ug v.toNat : Nat) : Int) := by
  have := iUg ⟨v.toNat, by omega⟩
  simp only [Int.toNat_of_nonneg h.1] at this
  exact Ev.mono (impl_unGray.mono v) this
theorem sUg_ev {v : Int} (h : 0 ≤ v ∧ v ≤ 15) : Ev (fun k => spec_UnGray.f k v) ((ug v.toNat : Nat) : Int) := by
  have := sUg ⟨v.toNat, by omega⟩
  simp only [Int.toNat_of_nonneg h.1] at this
  exact Ev.mono (spec_UnGray.mono v) this
def lvN (l : List Int) : Nat → Nat → Int → Int
  | 0, _, acc => acc
  | d + 1, i, acc => lvN l d (i + 1) (2 * acc + rd l (i : Int))
def lim : Nat → Int
  | 0 => 15
  | 1 => 7
  | 2 => 3
  | 3 => 1
  | _ => 0
theorem lim_step : ∀ d, d + 1 ≤ 4 → 2 * lim (d + 1) + 1 ≤ lim d ∧ lim (d + 1) ≤ 15
  | 0, _ => by decide
  | 1, _ => by decide
  | 2, _ => by decide
  | 3, _ => by decide
  | _ + 4, h => by omega
def isBits (l : List Int) : Prop := ∀ i : Nat, rd l (i : Int) = 0 ∨ rd l (i : Int) = 1
theorem isBits_of {l : List Int} (h : ∀ x ∈ l, x = 0 ∨ x = 1) : isBits l := fun i => by
  rcases Nat.lt_or_ge i l.length with h1 | h1
  · exact h _ (rd_mem h1)
  · left; rw [rd_nat, List.getD_eq_getElem?_getD, List.getElem?_eq_none h1]; rfl
theorem lvN_bd {l : List Int} (hb : isBits l) : ∀ (d i : Nat) (acc : Int), d ≤ 4 → 0 ≤ acc → acc ≤ lim d → 0 ≤ lvN l d i acc ∧ lvN l d i acc ≤ 15
  | 0, _, _, _, h0, h1 => ⟨h0, h1⟩
  | d + 1, i, acc, hd, h0, h1 => by
    have := lim_step d hd
    have h := hb i
    exact lvN_bd hb d (i + 1) _ (by omega) (by omega) (by omega)
theorem lvN_shift {s l : List Int} {i : Nat} : ∀ (d j : Nat) (acc : Int), (∀ t : Nat, j ≤ t → t < j + d → rd s (t : Int) = rd l ((i + t : Nat) : Int)) → lvN s d j acc = lvN l d (i + j) acc
  | 0, _, _, _ => rfl
  | d + 1, j, acc, h => by
    unfold lvN
    rw [h j (by omega) (by omega), lvN_shift d (j + 1) _ (fun t h1 h2 => h t (by omega) (by omega))]
    rfl
def lvEnd (H : Nat) (t : Int) : Int := wrap64 (wrap64 (2 * t) - wrap64 (shl .i64 1 (H : Int) - 1))
def lvOf (l : List Int) (H i : Nat) : Int := lvEnd H ((ug (lvN l H i 0).toNat : Nat) : Int)
theorem iLevel_l0 (l : List Int) (hb : isBits l) (a H : Nat) (hH : H ≤ 4) (ha : a + H ≤ 100000) : ∀ (d i : Nat) (acc : Int), i + d = a + H → d ≤ 4 → 0 ≤ acc → acc ≤ lim d → Ev (fun k => impl_level.l0 k (a : Int) (H : Int) l acc (i : Int)) (lvEnd H ((ug (lvN l d i acc).toNat : Nat) : Int)) := by
  have e : wrap64 ((a : Int) + (H : Int)) = ((a + H : Nat) : Int) := by rw [w64 (by omega) (by omega)]; omega
  intro d
  induction d with
  | zero =>
    intro i acc hi hd h0 h1
    refine Ev.succ ?_
    simp only [impl_level.l0]
    rw [e]
    refine Ev.neg (by omega) (Ev.next (iUg_ev ⟨h0, h1⟩) (Ev.pos (by omega) (Ev.some_ rfl)))
  | succ d ih =>
    intro i acc hi hd h0 h1
    have hl := lim_step d hd
    have h := hb i
    have i1 := ih (i + 1) (2 * acc + rd l (i : Int)) (by omega) (by omega) (by omega) (by omega)
    refine Ev.succ ?_
    simp only [impl_level.l0, lvN]
    rw [e, w64 (n := acc * 2) (by omega) (by omega), w64 (n := acc * 2 + rd l (i : Int)) (by omega) (by omega), wadd1 (e := i) (by omega), show acc * 2 = 2 * acc by omega]
    refine Ev.pos (by omega) ?_
    by_cases hx : (i : Int) < (l.length : Int)
    · exact Ev.pos hx (Ev.pos (by omega) i1)
    · have hz : rd l (i : Int) = 0 := by rw [rd_nat, List.getD_eq_getElem?_getD, List.getElem?_eq_none (by omega)]; rfl
      rw [hz, Int.add_zero] at i1
      rw [hz, Int.add_zero]
      exact Ev.neg hx i1
theorem iLevel_ev (l : List Int) (hb : isBits l) (a H : Nat) (hH : 1 ≤ H ∧ H ≤ 4) (ha : a + H ≤ 100000) : Ev (fun k => impl_level.f k (a : Int) (H : Int) l) (lvOf l H a) := by
  have hl : 0 ≤ lim H := by
    obtain ⟨h1, h2⟩ := hH
    match H, h1, h2 with
    | 1, _, _ => decide
    | 2, _, _ => decide
    | 3, _, _ => decide
    | 4, _, _ => decide
  exact iLevel_l0 l hb a H hH.2 ha H a 0 rfl hH.2 (by omega) hl
theorem sLevel_l0 (s : List Int) (hb : isBits s) (hH : s.length ≤ 4) : ∀ (d i : Nat) (acc : Int), i + d = s.length → d ≤ 4 → 0 ≤ acc → acc ≤ lim d → Ev (fun k => spec_l13Level.l0 k s acc (i : Int)) (lvEnd s.length ((ug (lvN s d i acc).toNat : Nat) : Int)) := by
  have e : IntKind.u64.wrap (s.length : Int) = (s.length : Int) := wu64 (by omega) (by omega)
  intro d
  induction d with
  | zero =>
    intro i acc hi hd h0 h1
    refine Ev.succ ?_
    simp only [spec_l13Level.l0]
    rw [e]
    refine Ev.neg (by omega) (Ev.next (sUg_ev ⟨h0, h1⟩) (Ev.pos (by omega) (Ev.some_ rfl)))
  | succ d ih =>
    intro i acc hi hd h0 h1
    have hl := lim_step d hd
    have h := hb i
    have i1 := ih (i + 1) (2 * acc + rd s (i : Int)) (by omega) (by omega) (by omega) (by omega)
    refine Ev.succ ?_
    simp only [spec_l13Level.l0, lvN]
    rw [w64 (n := 2 * acc) (by omega) (by omega), w64 (n := 2 * acc + rd s (i : Int)) (by omega) (by omega), wadd1 (e := i) (by omega)]
    exact Ev.pos (by omega) (Ev.pos (by omega) i1)
theorem rd_slice (P : List Int) (a b t : Nat) (h : a + t < b) : rd ((P.take b).drop a) (t : Int) = rd P ((a + t : Nat) : Int) := by
  rw [rd_nat, rd_nat, List.getD_eq_getElem?_getD, List.getD_eq_getElem?_getD, List.getElem?_drop, List.getElem?_take, if_pos h]
theorem rd_pad (l : List Int) (p t : Nat) : rd (l ++ List.replicate p 0) (t : Int) = rd l (t : Int) := by
  rw [rd_nat, rd_nat, List.getD_eq_getElem?_getD, List.getD_eq_getElem?_getD]
  rcases Nat.lt_or_ge t l.length with h | h
  · rw [List.getElem?_append_left h]
  · rw [List.getElem?_append_right h, List.getElem?_eq_none h, List.getElem?_replicate]
    split <;> rfl
theorem sLevel_ev (l : List Int) (hb : isBits l) (p a H : Nat) (hH : 1 ≤ H ∧ H ≤ 4) (ha : a + H ≤ (l ++ List.replicate p 0).length) : Ev (fun k => spec_l13Level.f k (((l ++ List.replicate p 0).take (a + H)).drop a)) (lvOf l H a) := by
  have hl : 0 ≤ lim H := by
    obtain ⟨h1, h2⟩ := hH
    match H, h1, h2 with
    | 1, _, _ => decide
    | 2, _, _ => decide
    | 3, _, _ => decide
    | 4, _, _ => decide
  have hlen : (((l ++ List.replicate p 0).take (a + H)).drop a).length = H := by
    rw [List.length_drop, List.length_take, Nat.min_eq_left ha]; omega
  have hr : ∀ t : Nat, t < H → rd (((l ++ List.replicate p 0).take (a + H)).drop a) (t : Int) = rd l ((a + t : Nat) : Int) := fun t h => by
    rw [rd_slice _ _ _ _ (by omega), rd_pad]
  generalize ((l ++ List.replicate p 0).take (a + H)).drop a = s at hlen hr
  have hs : isBits s := fun t => by
    rcases Nat.lt_or_ge t H with h | h
    · rw [hr t h]; exact hb _
    · left; rw [rd_nat, List.getD_eq_getElem?_getD, List.getElem?_eq_none (by omega)]; rfl
  have := sLevel_l0 s hs (by omega) H 0 0 (by omega) hH.2 (by omega) hl
  rw [lvN_shift (l := l) (i := a) H 0 0 (fun t _ h => hr t (by omega)), hlen] at this
  exact this
def mapGo (l : List Int) (H : Nat) : Nat → Nat → List S52
  | 0, _ => []
  | d + 1, i => ⟨lvOf l H i, lvOf l H (i + H)⟩ :: mapGo l H d (i + 2 * H)
theorem mapGo_len (l : List Int) (H : Nat) : ∀ d i, (mapGo l H d i).length = d
  | 0, _ => rfl
  | d + 1, i => by simp [mapGo, mapGo_len l H d]
def padOf (n W : Nat) : Nat := (W - n % W) % W
theorem pad_facts {n H : Nat} (hH : 1 ≤ H ∧ H ≤ 4) : (n + padOf n (2 * H)) % (2 * H) = 0 ∧ padOf n (2 * H) < 2 * H ∧ ∀ j, j < padOf n (2 * H) → (n + j) % (2 * H) ≠ 0 := by
  obtain ⟨h1, h2⟩ := hH
  unfold padOf
  match H, h1, h2 with
  | 1, _, _ => refine ⟨by omega, by omega, fun j h => by omega⟩
  | 2, _, _ => refine ⟨by omega, by omega, fun j h => by omega⟩
  | 3, _, _ => refine ⟨by omega, by omega, fun j h => by omega⟩
  | 4, _, _ => refine ⟨by omega, by omega, fun j h => by omega⟩
theorem sMap_l1 (l : List Int) (hb : isBits l) (hl : l.length ≤ 1024) (p H : Nat) (hp : p ≤ 8) (hH : 1 ≤ H ∧ H ≤ 4) : ∀ (d i : Nat) (acc : List S52), i + 2 * H * d = l.length + p → acc.length ≤ i → Ev (fun k => spec_Map.l1 k ((2 * H : Nat) : Int) acc (l ++ List.replicate p 0) (H : Int) (i : Int)) (acc ++ mapGo l H d i, true) := by
  have hlen : (l ++ List.replicate p (0 : Int)).length = l.length + p := by simp
  intro d
  induction d with
  | zero =>
    intro i acc hi ha
    refine Ev.succ ?_
    simp only [spec_Map.l1]
    exact Ev.neg (by rw [hlen]; omega) (Ev.some_ (by simp [mapGo]))
  | succ d ih =>
    intro i acc hi ha
    rw [Nat.mul_succ] at hi
    have hq := ih (i + 2 * H) (acc ++ [⟨lvOf l H i, lvOf l H (i + H)⟩]) (by omega) (by simp; omega)
    generalize 2 * H * d = q at hi
    have e1 : wrap64 ((i : Int) + (H : Int)) = ((i + H : Nat) : Int) := by rw [w64 (by omega) (by omega)]; omega
    have e2 : wrap64 ((i : Int) + ((2 * H : Nat) : Int)) = ((i + 2 * H : Nat) : Int) := by rw [w64 (by omega) (by omega)]; omega
    have v1 := sLevel_ev l hb p i H hH (by rw [hlen]; omega)
    have v2 := sLevel_ev l hb p (i + H) H hH (by rw [hlen]; omega)
    rw [show i + H + H = i + 2 * H by omega] at v2
    refine Ev.succ ?_
    simp only [spec_Map.l1]
    rw [e1, e2, hlen, Int.toNat_natCast, Int.toNat_natCast, Int.toNat_natCast]
    refine Ev.pos (by omega) (Ev.pos (by omega) (Ev.pos (by omega) (Ev.pos (by omega) (Ev.next v1 (Ev.pos (by omega) (Ev.pos (by omega) (Ev.pos (by omega) (Ev.next v2 (Ev.pos (by omega) (hq.to ?_))))))))))
    simp [mapGo]
theorem sMap_l0 (l : List Int) (H : Nat) (hl : l.length ≤ 1024) (hH : 1 ≤ H ∧ H ≤ 4) {res : List S52 × Bool} (R : Ev (fun k => spec_Map.l1 k ((2 * H : Nat) : Int) [] (l ++ List.replicate (padOf l.length (2 * H)) 0) (H : Int) 0) res) : ∀ (d j : Nat), j + d = padOf l.length (2 * H) → Ev (fun k => spec_Map.l0 k ((2 * H : Nat) : Int) [] (l ++ List.replicate j 0)) res := by
  obtain ⟨f1, f2, f3⟩ := pad_facts (n := l.length) hH
  have hm : ∀ j : Nat, (((l ++ List.replicate j (0 : Int)).length : Nat) : Int) % ((2 * H : Nat) : Int) = (((l.length + j) % (2 * H) : Nat) : Int) := fun j => by
    rw [show (l ++ List.replicate j (0 : Int)).length = l.length + j by simp, Int.natCast_emod]
  have eh : wrap64 (Int.tdiv ((2 * H : Nat) : Int) 2) = (H : Int) := by
    rw [Int.tdiv_eq_ediv_of_nonneg (by omega), w64 (by omega) (by omega)]; omega
  intro d
  induction d with
  | zero =>
    intro j hj
    refine Ev.succ ?_
    simp only [spec_Map.l0]
    rw [hm, eh, show j = padOf l.length (2 * H) by omega, f1]
    exact Ev.neg (by omega) (Ev.pos (by omega) R)
  | succ d ih =>
    intro j hj
    have h3 := f3 j (by omega)
    have i1 := ih (j + 1) (by omega)
    rw [List.replicate_succ', ← List.append_assoc] at i1
    refine Ev.succ ?_
    simp only [spec_Map.l0]
    rw [hm]
    exact Ev.neg (by omega) (Ev.neg (by omega) (Ev.pos (by simp; omega) i1))
def mapOf (l : List Int) (H : Nat) : List S52 × Bool := if bitsB l = true then (mapGo l H ((l.length + padOf l.length (2 * H)) / (2 * H)) 0, true) else ([], false)
theorem widthB_two {H : Nat} (hH : 1 ≤ H ∧ H ≤ 4) : widthB ((2 * H : Nat) : Int) = true := by
  unfold widthB; simp; omega
theorem map_rounds (n H : Nat) (hH : 1 ≤ H ∧ H ≤ 4) : 0 + 2 * H * ((n + padOf n (2 * H)) / (2 * H)) = n + padOf n (2 * H) := by
  rw [Nat.zero_add]
  exact Nat.mul_div_cancel' (Nat.dvd_of_mod_eq_zero (pad_facts hH).1)
theorem sMap_ev (l : List Int) (H : Nat) (hl : l.length ≤ 1048576) (hH : 1 ≤ H ∧ H ≤ 4) : Ev (fun k => spec_Map.f k ((2 * H : Nat) : Int) l) (mapOf l H) := by
  unfold spec_Map.f mapOf
  refine Ev.next (Ev.some_ rfl) (Ev.next (sBitsOk_ev l hl) ?_)
  by_cases h : bitsB l = true
  · rw [if_pos h]
    have hb := bitsB_iff.1 h
    refine Ev.pos h (Ev.next (Ev.here (l13Width_eq _)) ?_)
    rw [widthB_two hH]
    refine Ev.succ ?_
    simp only [spec_Map.j0]
    refine Ev.neg (by decide) (Ev.next (Ev.some_ rfl) (Ev.pos (by simp; omega) ?_))
    have h0 := sMap_l0 l H hb.2 hH (sMap_l1 l (isBits_of hb.1) hb.2 (padOf l.length (2 * H)) H (by have := (pad_facts (n := l.length) hH).2.1; omega) hH _ 0 [] (map_rounds l.length H hH) (by simp)) _ 0 (Nat.zero_add _)
    simp only [List.replicate_zero, List.append_nil, List.nil_append] at h0
    rw [List.nil_append]
    exact h0
  · rw [if_neg h]
    refine Ev.neg h (Ev.succ ?_)
    simp only [spec_Map.j0]
    exact Ev.pos trivial (Ev.some_ rfl)
theorem iMap_l0 (l : List Int) (hb : isBits l) (hl : l.length ≤ 1024) (p H : Nat) (hp : p < 2 * H) (hH : 1 ≤ H ∧ H ≤ 4) : ∀ (d i : Nat) (acc : List S52), i + 2 * H * d = l.length + p → acc.length ≤ i → Ev (fun k => impl_Map.l0 k ((2 * H : Nat) : Int) l (H : Int) acc (i : Int)) (acc ++ mapGo l H d i, true) := by
  intro d
  induction d with
  | zero =>
    intro i acc hi ha
    refine Ev.succ ?_
    simp only [impl_Map.l0]
    exact Ev.neg (by omega) (Ev.some_ (by simp [mapGo]))
  | succ d ih =>
    intro i acc hi ha
    rw [Nat.mul_succ] at hi
    have hq := ih (i + 2 * H) (acc ++ [⟨lvOf l H i, lvOf l H (i + H)⟩]) (by omega) (by simp; omega)
    generalize 2 * H * d = q at hi
    have e1 : wrap64 ((i : Int) + (H : Int)) = ((i + H : Nat) : Int) := by rw [w64 (by omega) (by omega)]; omega
    have e2 : wrap64 ((i : Int) + ((2 * H : Nat) : Int)) = ((i + 2 * H : Nat) : Int) := by rw [w64 (by omega) (by omega)]; omega
    have v1 := iLevel_ev l hb i H hH (by omega)
    have v2 := iLevel_ev l hb (i + H) H hH (by omega)
    refine Ev.succ ?_
    simp only [impl_Map.l0]
    rw [e1, e2]
    refine Ev.pos (by omega) (Ev.next v1 (Ev.next v2 (Ev.pos (by omega) (hq.to ?_))))
    simp [mapGo]
theorem iMap_ev (l : List Int) (H : Nat) (hl : l.length ≤ 1048576) (hH : 1 ≤ H ∧ H ≤ 4) : Ev (fun k => impl_Map.f k ((2 * H : Nat) : Int) l) (mapOf l H) := by
  unfold impl_Map.f mapOf
  refine Ev.next (iBitsOk_ev l hl) ?_
  by_cases h : bitsB l = true
  · rw [if_pos h]
    have hb := bitsB_iff.1 h
    have eh : wrap64 (Int.tdiv ((2 * H : Nat) : Int) 2) = (H : Int) := by
      rw [Int.tdiv_eq_ediv_of_nonneg (by omega), w64 (by omega) (by omega)]; omega
    refine Ev.pos h (Ev.next (Ev.here (isWidth_eq _)) ?_)
    rw [widthB_two hH]
    refine Ev.succ ?_
    simp only [impl_Map.j0]
    rw [eh]
    refine Ev.neg (by decide) ?_
    exact iMap_l0 l (isBits_of hb.1) hb.2 (padOf l.length (2 * H)) H (pad_facts (n := l.length) hH).2.1 hH _ 0 [] (map_rounds l.length H hH) (by simp)
  · rw [if_neg h]
    refine Ev.neg h (Ev.succ ?_)
    simp only [impl_Map.j0]
    exact Ev.pos trivial (Ev.some_ rfl)
theorem mapOf_len (l : List Int) (H : Nat) (hH : 1 ≤ H ∧ H ≤ 4) : (mapOf l H).1.length ≤ 1100 := by
  unfold mapOf
  split
  · rename_i h
    have hb := (bitsB_iff.1 h).2
    have := (pad_facts (n := l.length) hH).2.1
    simp only [mapGo_len]
    exact Nat.le_trans (Nat.div_le_self _ _) (by omega)
  · simp
def sendP (ra si : Int) (p : S52) : List S52 := List.replicate ra.toNat ⟨wrap64 (p.f0 * si), wrap64 (p.f1 * si)⟩
def sendGo (ra si : Int) : List S52 → List S52
  | [] => []
  | p :: xs => sendP ra si p ++ sendGo ra si xs
theorem sendGo_len (ra si : Int) (h : ra ≤ 8) : ∀ l, (sendGo ra si l).length ≤ 8 * l.length
  | [] => Nat.le_refl _
  | p :: xs => by
    have := sendGo_len ra si h xs
    simp only [sendGo, sendP, List.length_append, List.length_replicate, List.length_cons]
    omega
theorem drop52 {xs : List S52} {i : Nat} (h : i < xs.length) : xs.drop i = rd_T52 xs (i : Int) :: xs.drop (i + 1) := by
  rw [show rd_T52 xs (i : Int) = xs[i] by simp [rd_T52, List.getD_eq_getElem?_getD, h]]; exact List.drop_eq_getElem_cons h
theorem sSend_l2 (P : List S52) (R : Nat) (hR : 1 ≤ R ∧ R ≤ 8) (x0 x1 x2 x3 si : Int) (i : Nat) (hi : i < P.length) (hP : P.length ≤ 1100) {res : List S52 × Bool} : ∀ (d j : Nat) (acc : List S52), j + d = R → acc.length ≤ 8 + 8 * i + j → Ev (fun k => spec_Send.l1 k (acc ++ List.replicate d ⟨wrap64 ((rd_T52 P (i : Int)).f0 * si), wrap64 ((rd_T52 P (i : Int)).f1 * si)⟩) P ((i + 1 : Nat) : Int) x0 x1 x2 x3 (R : Int) si) res → Ev (fun k => spec_Send.l2 k acc P (i : Int) (j : Int) x0 x1 x2 x3 (R : Int) si) res := by
  intro d
  induction d with
  | zero =>
    intro j acc hj ha H
    refine Ev.succ ?_
    simp only [spec_Send.l2]
    rw [wadd1 (e := i) (by omega)]
    simp only [List.replicate_zero, List.append_nil] at H
    exact Ev.neg (by omega) H
  | succ d ih =>
    intro j acc hj ha H
    refine Ev.succ ?_
    simp only [spec_Send.l2]
    rw [wadd1 (e := j) (by omega)]
    refine Ev.pos (by omega) (Ev.pos (by omega) (Ev.pos (by omega) (Ev.pos (by omega) (ih (j + 1) _ (by omega) (by simp; omega) ?_))))
    rw [List.append_assoc]
    exact H
theorem sSend_l1 (P : List S52) (R : Nat) (hR : 1 ≤ R ∧ R ≤ 8) (x0 x1 x2 x3 si : Int) (hP : P.length ≤ 1100) : ∀ (d i : Nat) (acc : List S52), i + d = P.length → acc.length ≤ 8 + 8 * i → Ev (fun k => spec_Send.l1 k acc P (i : Int) x0 x1 x2 x3 (R : Int) si) (acc ++ sendGo (R : Int) si (P.drop i), true) := by
  intro d
  induction d with
  | zero =>
    intro i acc hi ha
    refine Ev.succ ?_
    simp only [spec_Send.l1]
    rw [List.drop_of_length_le (by omega)]
    exact Ev.neg (by omega) (Ev.some_ (by simp [sendGo]))
  | succ d ih =>
    intro i acc hi ha
    refine Ev.succ ?_
    simp only [spec_Send.l1]
    refine Ev.pos (by omega) (sSend_l2 P R hR x0 x1 x2 x3 si i (by omega) hP R 0 acc (by omega) (by omega) ?_)
    refine (ih (i + 1) _ (by omega) (by simp; omega)).to ?_
    rw [drop52 (xs := P) (i := i) (by omega)]
    simp only [sendGo, sendP, Int.toNat_natCast, List.append_assoc]
theorem sSend_l0 (P : List S52) (R : Nat) (hR : 1 ≤ R ∧ R ≤ 8) (x0 x1 x2 x3 si : Int) (hP : P.length ≤ 1100) : ∀ (d j : Nat) (acc : List S52), j + d = R → acc.length = j → Ev (fun k => spec_Send.l0 k acc P (j : Int) x0 x1 x2 x3 (R : Int) si) (acc ++ List.replicate d ⟨wrap64 (32 * si), 0⟩ ++ sendGo (R : Int) si P, true) := by
  intro d
  induction d with
  | zero =>
    intro j acc hj ha
    refine Ev.succ ?_
    simp only [spec_Send.l0]
    have := sSend_l1 P R hR x0 x1 x2 x3 si hP P.length 0 acc (by omega) (by omega)
    rw [List.drop_zero] at this
    exact Ev.neg (by omega) (this.to (by simp))
  | succ d ih =>
    intro j acc hj ha
    refine Ev.succ ?_
    simp only [spec_Send.l0]
    rw [wadd1 (e := j) (by omega)]
    refine Ev.pos (by omega) (Ev.pos (by omega) ((ih (j + 1) _ (by omega) (by simp; omega)).to ?_))
    simp [List.replicate_succ]
theorem point_eq (p : S52) (R : Nat) (hR : 1 ≤ R ∧ R ≤ 8) : impl_Point_43.f [p] (R : Int) = some (List.replicate R p) := by
  unfold impl_Point_43.f
  rw [if_pos ⟨rfl, by omega, by omega⟩, Int.toNat_natCast]
  rfl
theorem iSend_l0 (P : List S52) (R : Nat) (hR : 1 ≤ R ∧ R ≤ 8) (x0 x1 x2 x3 si : Int) (hP : P.length ≤ 1100) : ∀ (d i : Nat) (acc : List S52), i + d = P.length → acc.length ≤ 8 + 8 * i → Ev (fun k => impl_Send.l0 k acc P (P.length : Int) (i : Int) x0 x1 x2 x3 (R : Int) si) (acc ++ sendGo (R : Int) si (P.drop i), true) := by
  intro d
  induction d with
  | zero =>
    intro i acc hi ha
    refine Ev.succ ?_
    simp only [impl_Send.l0]
    rw [List.drop_of_length_le (by omega)]
    exact Ev.neg (by omega) (Ev.some_ (by simp [sendGo]))
  | succ d ih =>
    intro i acc hi ha
    refine Ev.succ ?_
    simp only [impl_Send.l0]
    rw [wadd1 (e := i) (by omega)]
    refine Ev.pos (by omega) (Ev.pos (by omega) (Ev.pos (by omega) (Ev.next (Ev.here (point_eq _ R hR)) (Ev.pos (by simp; omega) ((ih (i + 1) _ (by omega) (by simp; omega)).to ?_)))))
    rw [drop52 (xs := P) (i := i) (by omega)]
    simp only [sendGo, sendP, Int.toNat_natCast, List.append_assoc]
def sendPts (w m r s ra si : Int) (data : List Int) : List S52 :=
  (mapOf (stirOf (weaveOf (unpackOf (rsOf data m).1) r.toNat) s).1 (w / 2).toNat).1
def sendOf (w m r s ra si : Int) (data : List Int) : List S52 × Bool :=
  if modemB w m r s ra si = true ∧ 1 ≤ data.length ∧ data.length ≤ 40 then (List.replicate ra.toNat ⟨wrap64 (32 * si), 0⟩ ++ sendGo ra si (sendPts w m r s ra si data), true) else ([], false)
theorem sendPts_len {w m r s ra si : Int} {data : List Int} (h : modemB w m r s ra si = true) : (sendPts w m r s ra si data).length ≤ 1100 := by
  have := modemB_iff.1 h
  exact mapOf_len _ _ (by omega)
theorem sendOf_len (w m r s ra si : Int) (data : List Int) : (sendOf w m r s ra si data).1.length ≤ 100000 := by
  unfold sendOf
  split
  · rename_i h
    have hm := modemB_iff.1 h.1
    have := sendPts_len (data := data) h.1
    have h2 := sendGo_len ra si hm.2.2.2.2.1.2 (sendPts w m r s ra si data)
    simp only [List.length_append, List.length_replicate]
    omega
  · simp
theorem rs_facts {data : List Int} {m : Int} (hb : isB data) (hm : 1 ≤ m ∧ m ≤ 8) (hl : 1 ≤ data.length ∧ data.length ≤ 40) : isB (rsOf data m).1 ∧ (rsOf data m).1.length ≤ 56 := by
  have hz : isB (List.replicate (2 * m).toNat (0 : Int)) := fun x hx => by rw [List.eq_of_mem_replicate hx]; omega
  unfold rsOf
  rw [if_pos (by unfold rsB; simp; omega)]
  refine ⟨isB_append hb (rsRest_B _ (genL_B _) _ _ hz hb), ?_⟩
  simp only [List.length_append]
  rw [rsRest_len _ _ _ (by simp; omega)]
  simp; omega
theorem two_of {w m r s ra si : Int} (h : modemB w m r s ra si = true) : ∃ H : Nat, (1 ≤ H ∧ H ≤ 4) ∧ w = ((2 * H : Nat) : Int) ∧ (w / 2).toNat = H := by
  have := (modemB_iff.1 h).1
  exact ⟨(w / 2).toNat, by omega, by omega, rfl⟩
theorem sSend_ev (w m r s ra si : Int) (data : List Int) (hb : isB data) (hl : data.length ≤ 1048576) : Ev (fun k => spec_Send.f k w m r s ra si data) (sendOf w m r s ra si data) := by
  have bad : ∀ b : Bool, b = true → Ev (fun k => spec_Send.j0 k data [] b w m r s ra si) ([], false) := fun b h => by
    refine Ev.succ ?_
    simp only [spec_Send.j0]
    exact Ev.pos h (Ev.some_ rfl)
  unfold spec_Send.f sendOf
  refine Ev.next (Ev.some_ rfl) (Ev.next (Ev.here (sModemOk_eq _ _ _ _ _ _)) ?_)
  by_cases h : modemB w m r s ra si = true
  · refine Ev.pos h (Ev.next (Ev.here (l1In_eq _ _ _)) ?_)
    by_cases h2 : 1 ≤ data.length ∧ data.length ≤ 40
    · rw [if_pos ⟨h, h2⟩, show (!(decide ((1 : Int) ≤ (data.length : Int)) && decide ((data.length : Int) ≤ 40))) = false by simp; omega]
      have hm := modemB_iff.1 h
      obtain ⟨H, hH, hw, hw2⟩ := two_of h
      obtain ⟨rb, rl⟩ := rs_facts hb hm.2.1 h2
      have hp := sendPts_len (data := data) h
      unfold sendPts at hp ⊢
      rw [hw2] at hp ⊢
      have ul := unpackOf_len (rsOf data m).1
      obtain ⟨r', hr'⟩ := Int.eq_ofNat_of_zero_le (show 0 ≤ r by omega)
      obtain ⟨R, hR⟩ := Int.eq_ofNat_of_zero_le (show 0 ≤ ra by omega)
      subst hr' hR
      rw [Int.toNat_natCast, Int.toNat_natCast] at *
      have wl := weaveOf_bd (unpackOf (rsOf data m).1) r' (by omega) (by omega)
      have sl := stirOf_len (weaveOf (unpackOf (rsOf data m).1) r') s
      refine Ev.succ ?_
      simp only [spec_Send.j0]
      refine Ev.neg (by decide) (Ev.next (sRs_ev data m hb hl) (Ev.next (sUnpack8_ev _ (by omega) rb) (Ev.next (sWeave_ev _ r' (by simp only; omega) (by omega)) (Ev.next (sStir_ev _ s (by simp only; omega) hm.2.2.2.1) ?_))))
      rw [hw]
      refine Ev.next (sMap_ev _ H (by simp only; omega) hH) ?_
      have := sSend_l0 (mapOf (stirOf (weaveOf (unpackOf (rsOf data m).1) r') s).1 H).1 R (by omega) ((2 * H : Nat) : Int) m (r' : Int) s si hp R 0 [] (by omega) rfl
      exact this
    · rw [if_neg (fun h3 => h2 h3.2)]
      exact bad _ (by simp; omega)
  · rw [if_neg (fun h3 => h h3.1)]
    exact Ev.neg h (bad _ rfl)
theorem iSend_ev (w m r s ra si : Int) (data : List Int) (hb : isB data) (hl : data.length ≤ 1048576) : Ev (fun k => impl_Send.f k w m r s ra si data) (sendOf w m r s ra si data) := by
  have bad : ∀ b : Bool, b = true → Ev (fun k => impl_Send.j0 k data b w m r s ra si) ([], false) := fun b h => by
    refine Ev.succ ?_
    simp only [impl_Send.j0]
    exact Ev.pos h (Ev.some_ rfl)
  have hs : impl_sentOk.f (data.length : Int) = some (decide (1 ≤ data.length ∧ data.length ≤ 40)) := by
    unfold impl_sentOk.f
    by_cases h : (data.length : Int) ≥ 1
    · rw [if_pos h]; simp only [Option.some.injEq, decide_eq_decide]; omega
    · rw [if_neg h, decide_eq_false (by omega)]
  unfold impl_Send.f sendOf
  refine Ev.next (Ev.here (iModemOk_eq _ _ _ _ _ _)) ?_
  by_cases h : modemB w m r s ra si = true
  · refine Ev.pos h (Ev.next (Ev.here hs) ?_)
    by_cases h2 : 1 ≤ data.length ∧ data.length ≤ 40
    · rw [if_pos ⟨h, h2⟩, decide_eq_true h2]
      have hm := modemB_iff.1 h
      obtain ⟨H, hH, hw, hw2⟩ := two_of h
      obtain ⟨rb, rl⟩ := rs_facts hb hm.2.1 h2
      have hp := sendPts_len (data := data) h
      unfold sendPts at hp ⊢
      rw [hw2] at hp ⊢
      have ul := unpackOf_len (rsOf data m).1
      obtain ⟨r', hr'⟩ := Int.eq_ofNat_of_zero_le (show 0 ≤ r by omega)
      obtain ⟨R, hR⟩ := Int.eq_ofNat_of_zero_le (show 0 ≤ ra by omega)
      subst hr' hR
      rw [Int.toNat_natCast, Int.toNat_natCast] at *
      have wl := weaveOf_bd (unpackOf (rsOf data m).1) r' (by omega) (by omega)
      have sl := stirOf_len (weaveOf (unpackOf (rsOf data m).1) r') s
      refine Ev.succ ?_
      simp only [impl_Send.j0]
      refine Ev.neg (by decide) (Ev.next (iRs_ev data m hb hl) (Ev.next (unpack8_ev _ (by omega) rb) (Ev.next (iWeave_ev _ r' (by omega) (by omega)) (Ev.next (iStir_ev _ s (by simp only; omega) hm.2.2.2.1) ?_))))
      rw [hw]
      refine Ev.next (iMap_ev _ H (by simp only; omega) hH) (Ev.next (Ev.here (point_eq _ R (by omega))) ?_)
      have := iSend_l0 (mapOf (stirOf (weaveOf (unpackOf (rsOf data m).1) r') s).1 H).1 R (by omega) ((2 * H : Nat) : Int) m (r' : Int) s si hp _ 0 (List.replicate R ⟨wrap64 (32 * si), 0⟩) (Nat.zero_add _) (by simp; omega)
      rw [List.drop_zero] at this
      exact this
    · rw [if_neg (fun h3 => h2 h3.2), decide_eq_false h2]
      exact bad _ rfl
  · rw [if_neg (fun h3 => h h3.1)]
    exact Ev.neg h (bad _ rfl)
def burstB (l : List S52) : Bool := decide ((l.length : Int) ≤ 4096) && l.all ptB
theorem get52 {xs : List S52} {i : Nat} (h : i < xs.length) : xs[i]? = some (rd_T52 xs (i : Int)) := by
  rw [show rd_T52 xs (i : Int) = xs[i] by simp [rd_T52, List.getD_eq_getElem?_getD, h]]; exact List.getElem?_eq_getElem h
def rotGo : Nat → Int → Int → Int × Int
  | 0, a, b => (a, b)
  | d + 1, a, b => rotGo d (wrap64 (-b)) a
theorem rotGo_zero : ∀ d, rotGo d 0 0 = (0, 0)
  | 0 => rfl
  | d + 1 => by simp only [rotGo]; rw [show wrap64 (-0) = 0 by rw [w64 (by omega) (by omega)]; rfl]; exact rotGo_zero d
theorem iTurned_l0 (q : Nat) (hq : q ≤ 100) : ∀ (d i : Nat) (a b : Int), i + d = q → Ev (fun k => impl_turned.l0 k (q : Int) (i : Int) a b) (rotGo d a b)
  | 0, i, a, b, hi => by
    refine Ev.succ ?_
    simp only [impl_turned.l0]
    exact Ev.neg (by omega) (Ev.some_ rfl)
  | d + 1, i, a, b, hi => by
    refine Ev.succ ?_
    simp only [impl_turned.l0]
    rw [wadd1 (e := i) (by omega)]
    exact Ev.pos (by omega) (iTurned_l0 q hq d (i + 1) _ _ (by omega))
def turnP (q : Nat) (x : S52) : S52 := ⟨(rotGo q x.f0 x.f1).1, (rotGo q x.f0 x.f1).2⟩
theorem turn_zero (q : Nat) : turnP q z52 = z52 := by
  unfold turnP z52; simp only [rotGo_zero]
theorem iAir_l0 (q : Nat) (hq : q ≤ 100) (n : Nat) (hn2 : n ≤ 10000) : ∀ (d i : Nat) (acc : List S52), i + d = n → acc.length = n → burstB (acc.take i ++ (acc.drop i).map (turnP q)) = true → Ev (fun k => impl_Air.l0 k (q : Int) [] acc (n : Int) (i : Int)) (acc.take i ++ (acc.drop i).map (turnP q), true) := by
  intro d
  induction d with
  | zero =>
    intro i acc hi ha hb
    rw [List.take_of_length_le (by omega), List.drop_of_length_le (by omega), List.map_nil, List.append_nil] at hb ⊢
    refine Ev.succ ?_
    simp only [impl_Air.l0]
    exact Ev.neg (by omega) (Ev.next (Ev.here (r := burstB acc) rfl) (Ev.pos hb (Ev.some_ rfl)))
  | succ d ih =>
    intro i acc hi ha hb
    have e : (acc.set i (turnP q (rd_T52 acc (i : Int)))).take (i + 1) ++ ((acc.set i (turnP q (rd_T52 acc (i : Int)))).drop (i + 1)).map (turnP q) = acc.take i ++ (acc.drop i).map (turnP q) := by
      rw [take_set_end (by omega), List.drop_set_of_lt (by omega), drop52 (xs := acc) (i := i) (by omega), List.map_cons, List.append_assoc]
      rfl
    refine Ev.succ ?_
    simp only [impl_Air.l0]
    rw [wadd1 (e := i) (by omega), Int.toNat_natCast]
    refine Ev.pos (by omega) (Ev.pos (by omega) (Ev.pos (by omega) (Ev.next (iTurned_l0 q hq q 0 _ _ (by omega)) (Ev.neg (by simp) ?_))))
    have := ih (i + 1) (acc.set i (turnP q (rd_T52 acc (i : Int)))) (by omega) (by simp; omega) (by rw [e]; exact hb)
    rw [e] at this
    exact this
theorem burst_nil : burstB [] = true := by decide
theorem iAir_ev (l : List S52) (d q : Nat) (hd : d ≤ 200) (hq : q ≤ 3) (hl : d + l.length ≤ 4096) (h1 : burstB l = true) (h2 : burstB (List.replicate d z52 ++ l.map (turnP q)) = true) : Ev (fun k => impl_Air.f k l (d : Int) (q : Int) []) (List.replicate d z52 ++ l.map (turnP q), true) := by
  unfold impl_Air.f
  refine Ev.next (Ev.here (r := burstB l) rfl) (Ev.pos h1 (Ev.next (Ev.here (r := burstB []) rfl) (Ev.pos burst_nil (Ev.neg (by omega) (Ev.neg (by omega) (Ev.neg (by omega) (Ev.neg (by omega) ?_)))))))
  rw [w64 (n := (l.length : Int) + (d : Int)) (by omega) (by omega)]
  refine Ev.neg (by omega) ?_
  rw [show decide ((([] : List S52).length : Int) > (l.length : Int) + (d : Int)) = false from decide_eq_false (by simp; omega)]
  refine Ev.succ ?_
  simp only [impl_Air.j0]
  refine Ev.neg (by decide) (Ev.pos (by omega) (Ev.pos (by rw [Int.toNat_natCast]; omega) (Ev.next (Ev.some_ rfl) (Ev.pos (by rw [Int.toNat_natCast]; simp; omega) (Ev.next (Ev.some_ rfl) ?_)))))
  rw [Int.toNat_natCast]
  have e : (List.replicate d z52 ++ l).map (turnP q) = List.replicate d z52 ++ l.map (turnP q) := by rw [List.map_append, List.map_replicate, turn_zero]
  have := iAir_l0 q (by omega) (d + l.length) (by omega) (d + l.length) 0 (List.replicate d z52 ++ l) (by omega) (by simp) (by simpa [e] using h2)
  rw [List.take_zero, List.nil_append, List.drop_zero, e] at this
  have hlen : (List.replicate d z52 ++ l).length = d + l.length := by simp
  rw [hlen]
  exact this
theorem round_ev (v q : Int) (hq : 1 ≤ q ∧ q ≤ 1000000) (hv : -100000 ≤ v ∧ v ≤ 100000) (hb : -1000000000000 ≤ v * q ∧ v * q ≤ 1000000000000) : Ev (fun k => impl_RoundDiv.f k (v * q) q) v := by
  have e1 : Int.tdiv (v * q) q = v := Int.mul_tdiv_cancel v (by omega)
  have e2 : Int.tmod (v * q) q = 0 := Int.mul_tmod_left v q
  have hd : impl_down.f (v * q) q = some (v, 0) := by
    unfold impl_down.f
    rw [e1, e2, if_neg (by omega), if_neg (by omega), w64 (by omega) (by omega)]
  have hg : impl_big18.f (v * q) = some true := by
    unfold impl_big18.f
    rw [if_pos (by omega)]
    simp; omega
  unfold impl_RoundDiv.f
  refine Ev.neg (by omega) (Ev.neg (by omega) (Ev.next (Ev.here hg) (Ev.succ ?_)))
  simp only [impl_RoundDiv.j0]
  refine Ev.neg (by simp) (Ev.next (Ev.here hd) ?_)
  simp only
  rw [w64 (n := q - 0) (by omega) (by omega)]
  exact Ev.neg (by omega) (Ev.some_ rfl)
theorem gray_ug : ∀ g : Fin 16, impl_Gray.f ((ug g.1 : Nat) : Int) = some ((g.1 : Nat) : Int) := by decide +kernel
theorem ug_lt : ∀ g : Fin 16, ug g.1 < 16 ∧ (g.1 < 2 → ug g.1 < 2) ∧ (g.1 < 4 → ug g.1 < 4) ∧ (g.1 < 8 → ug g.1 < 8) := by decide +kernel
theorem lv_arg : ∀ (H : Fin 5) (t : Fin 16), 1 ≤ H.1 → wrap64 (wrap64 (lvEnd H.1 ((t.1 : Nat) : Int) + shl .i64 1 ((H.1 : Nat) : Int)) - 1) = ((t.1 : Nat) : Int) * 2 := by decide +kernel
/-- The H bits of a number, the highest first. -/
def bitsDown (v : Nat) : Nat → List Int
  | 0 => []
  | d + 1 => ((v / 2 ^ d % 2 : Nat) : Int) :: bitsDown v d
theorem bit_down : ∀ (v : Fin 16) (d : Fin 4), bits .and .i64 (shr .i64 ((v.1 : Nat) : Int) ((d.1 : Nat) : Int)) 1 = ((v.1 / 2 ^ d.1 % 2 : Nat) : Int) := by decide +kernel
theorem put_l0 (v : Nat) (hv : v < 16) : ∀ (d : Nat) (acc : List Int), d ≤ 4 → acc.length + d ≤ 5000 → Ev (fun k => impl_put.l0 k acc (v : Int) ((d : Int) - 1)) (acc ++ bitsDown v d) := by
  intro d
  induction d with
  | zero =>
    intro acc hd ha
    refine Ev.succ ?_
    simp only [impl_put.l0]
    exact Ev.neg (by omega) (Ev.some_ (by simp [bitsDown]))
  | succ d ih =>
    intro acc hd ha
    have e := bit_down ⟨v, hv⟩ ⟨d, by omega⟩
    simp only at e
    refine Ev.succ ?_
    simp only [impl_put.l0]
    rw [show ((d + 1 : Nat) : Int) - 1 = (d : Int) by omega, w64 (n := (d : Int) - 1) (by omega) (by omega), e]
    refine Ev.pos (by omega) (Ev.pos (by omega) (Ev.pos (by omega) ((ih _ (by omega) (by simp; omega)).to ?_)))
    simp [bitsDown]
theorem near_ug : ∀ (H : Fin 5) (t : Fin 16), t.1 < 2 ^ H.1 → impl_nearer.f ((t.1 : Nat) : Int) 0 (wrap64 (shl .i64 1 ((H.1 : Nat) : Int) - 1)) = some ((t.1 : Nat) : Int) := by decide +kernel
theorem put_ev (H : Nat) (hH : 1 ≤ H ∧ H ≤ 4) (g : Nat) (hg : g < 16) (hu : ug g < 2 ^ H) (acc : List Int) (ha : acc.length ≤ 4000) : Ev (fun k => impl_put.f k (lvEnd H ((ug g : Nat) : Int)) (H : Int) acc) (acc ++ bitsDown g H) := by
  have hl := (ug_lt ⟨g, hg⟩).1
  simp only at hl
  have e1 := lv_arg ⟨H, by omega⟩ ⟨ug g, hl⟩ hH.1
  have e2 := near_ug ⟨H, by omega⟩ ⟨ug g, hl⟩ hu
  have e3 := gray_ug ⟨g, hg⟩
  simp only at e1 e2 e3
  have e4 := round_ev ((ug g : Nat) : Int) 2 (by omega) (by omega) (by omega)
  unfold impl_put.f
  rw [e1, w64 (n := (H : Int) - 1) (by omega) (by omega)]
  exact Ev.pos (by omega) (Ev.next e4 (Ev.next (Ev.here e2) (Ev.next (Ev.here e3) (put_l0 g hg H acc hH.2 (by omega)))))
theorem lvN_div {l : List Int} (hb : isBits l) : ∀ (d i a : Nat), ∃ v : Nat, lvN l d i (a : Int) = (v : Int) ∧ v / 2 ^ d = a
  | 0, i, a => ⟨a, rfl, by simp⟩
  | d + 1, i, a => by
    have h := hb i
    obtain ⟨b, hb2⟩ : ∃ b : Nat, rd l (i : Int) = (b : Int) := h.elim (fun h => ⟨0, h⟩) (fun h => ⟨1, h⟩)
    obtain ⟨v, hv, h2⟩ := lvN_div hb d (i + 1) (2 * a + b)
    refine ⟨v, ?_, ?_⟩
    · simp only [lvN]
      rw [hb2, show 2 * (a : Int) + (b : Int) = ((2 * a + b : Nat) : Int) by omega]
      exact hv
    · rw [Nat.pow_succ, ← Nat.div_div_eq_div_mul, h2]; omega
/-- The bits of a level's number are those that it was read from. -/
def rdN (l : List Int) : Nat → Nat → List Int
  | 0, _ => []
  | d + 1, i => rd l (i : Int) :: rdN l d (i + 1)
theorem bits_lvN {l : List Int} (hb : isBits l) : ∀ (d i a v : Nat), lvN l d i (a : Int) = (v : Int) → bitsDown v d = rdN l d i
  | 0, _, _, _, _ => rfl
  | d + 1, i, a, v, hv => by
    have h := hb i
    obtain ⟨b, hb2⟩ : ∃ b : Nat, rd l (i : Int) = (b : Int) := h.elim (fun h => ⟨0, h⟩) (fun h => ⟨1, h⟩)
    simp only [lvN] at hv
    rw [hb2, show 2 * (a : Int) + (b : Int) = ((2 * a + b : Nat) : Int) by omega] at hv
    obtain ⟨u, hu, h2⟩ := lvN_div hb d (i + 1) (2 * a + b)
    have e : u = v := by omega
    subst e
    simp only [bitsDown, rdN]
    rw [bits_lvN hb d (i + 1) (2 * a + b) u hv, h2, hb2, show (2 * a + b) % 2 = b by omega]
theorem rdN_len (l : List Int) : ∀ d i, (rdN l d i).length = d
  | 0, _ => rfl
  | d + 1, i => by simp [rdN, rdN_len l d]
theorem rdN_add (l : List Int) : ∀ (d e i : Nat), rdN l (d + e) i = rdN l d i ++ rdN l e (i + d)
  | 0, e, i => by simp [rdN]
  | d + 1, e, i => by
    rw [show d + 1 + e = (d + e) + 1 by omega]
    simp only [rdN, List.cons_append]
    rw [rdN_add l d e (i + 1), show i + 1 + d = i + (d + 1) by omega]
theorem rdN_take (l : List Int) : ∀ (n d i : Nat), n ≤ d → i + n = l.length → (rdN l d i).take n = l.drop i
  | 0, d, i, _, h => by rw [List.drop_of_length_le (by omega)]; rfl
  | n + 1, 0, i, h, _ => by omega
  | n + 1, d + 1, i, h, h2 => by
    simp only [rdN, List.take_succ_cons]
    rw [drop_rd (xs := l) (i := i) (by omega), rdN_take l n d (i + 1) (by omega) (by omega)]
/-- The bits, eight to a byte, the first in the highest place. -/
def packVal (bs acc : List Int) (i : Nat) : Int := bits .or .u8 (rd acc ((i / 8 : Nat) : Int)) (rd bs (i : Int) * 2 ^ (7 - i % 8))
def packGo (bs : List Int) : Nat → Nat → List Int → List Int
  | 0, _, acc => acc
  | d + 1, i, acc => packGo bs d (i + 1) (acc.set (i / 8) (packVal bs acc i))
def packOf (bs : List Int) : List Int := packGo bs bs.length 0 (List.replicate ((bs.length + 7) / 8) 0)
theorem shl_bit64 (s : Nat) (hs : s ≤ 7) (b : Int) (hb : b = 0 ∨ b = 1) : shl .i64 b (s : Int) % 256 = b * 2 ^ s := by
  have h : ∀ s : Fin 8, shl .i64 0 (s.val : Int) % 256 = 0 * 2 ^ s.val ∧ shl .i64 1 (s.val : Int) % 256 = 1 * 2 ^ s.val := by decide
  rcases hb with rfl | rfl
  · exact (h ⟨s, by omega⟩).1
  · exact (h ⟨s, by omega⟩).2
theorem shl_bit8 (s : Nat) (hs : s ≤ 7) (b : Int) (hb : b = 0 ∨ b = 1) : shl .u8 (b % 256) (s : Int) = b * 2 ^ s := by
  have h : ∀ s : Fin 8, shl .u8 (0 % 256) (s.val : Int) = 0 * 2 ^ s.val ∧ shl .u8 (1 % 256) (s.val : Int) = 1 * 2 ^ s.val := by decide
  rcases hb with rfl | rfl
  · exact (h ⟨s, by omega⟩).1
  · exact (h ⟨s, by omega⟩).2
theorem packVal_bd (bs acc : List Int) (i : Nat) : 0 ≤ packVal bs acc i ∧ packVal bs acc i < 256 := by
  unfold packVal bits
  simp only [IntKind.wrap_u8]
  omega
theorem packGo_len (bs : List Int) : ∀ (d i : Nat) (acc : List Int), (packGo bs d i acc).length = acc.length
  | 0, _, _ => rfl
  | d + 1, i, acc => by simp only [packGo]; rw [packGo_len bs d]; simp
theorem packGo_bd (bs : List Int) : ∀ (d i : Nat) (acc : List Int), (∀ x ∈ acc, 0 ≤ x ∧ x < 256) → ∀ x ∈ packGo bs d i acc, 0 ≤ x ∧ x < 256
  | 0, _, _, h => h
  | d + 1, i, acc, h => packGo_bd bs d (i + 1) _ (fun x hx => by
      rcases List.mem_or_eq_of_mem_set hx with hx | rfl
      · exact h x hx
      · exact packVal_bd bs acc i)
theorem packOf_bd (bs : List Int) : ∀ x ∈ packOf bs, 0 ≤ x ∧ x < 256 := packGo_bd bs _ _ _ (fun x hx => by rw [List.eq_of_mem_replicate hx]; omega)
theorem packOf_len (bs : List Int) : (packOf bs).length = (bs.length + 7) / 8 := by unfold packOf; rw [packGo_len]; simp
theorem bits_or_nat {a b : Int} (ha : 0 ≤ a ∧ a < 256) (hb : 0 ≤ b ∧ b < 256) : bits .or .u8 a b = ((a.toNat ||| b.toNat : Nat) : Int) := by
  obtain ⟨x, rfl⟩ := Int.eq_ofNat_of_zero_le ha.1
  obtain ⟨y, rfl⟩ := Int.eq_ofNat_of_zero_le hb.1
  have hx : x % 2 ^ IntKind.u8.bits = x := Nat.mod_eq_of_lt (by show x < 2 ^ 8; omega)
  have hy : y % 2 ^ IntKind.u8.bits = y := Nat.mod_eq_of_lt (by show y < 2 ^ 8; omega)
  have hl : x ||| y < 2 ^ 8 := Nat.or_lt_two_pow (by omega) (by omega)
  simp only [bits, BitVec.toNat_or, BitVec.ofInt_natCast, BitVec.toNat_ofNat, hx, hy, Int.toNat_natCast]
  rw [IntKind.wrap_u8]
  omega
/-- The bit at place t of a number. -/
def bitAt (x : Int) (t : Nat) : Int := x / 2 ^ t % 2
theorem bitAt_nat (x t : Nat) : bitAt (x : Int) t = if x.testBit t then 1 else 0 := by
  unfold bitAt
  have e : (x : Int) / 2 ^ t % 2 = ((x / 2 ^ t % 2 : Nat) : Int) := by norm_cast
  rw [e, Nat.testBit_eq_decide_div_mod_eq]
  by_cases h : x / 2 ^ t % 2 = 1
  · rw [h]; simp
  · simp [h]; omega
theorem bitAt_or {a : Int} (ha : 0 ≤ a ∧ a < 256) (c : Int) (hc : c = 0 ∨ c = 1) (s t : Nat) (hs : s ≤ 7) : bitAt (bits .or .u8 a (c * 2 ^ s)) t = if t = s ∧ c = 1 then 1 else bitAt a t := by
  have hp : (2 : Int) ^ s ≤ 128 := by
    have : (2 : Nat) ^ s ≤ 2 ^ 7 := Nat.pow_le_pow_right (by omega) (by omega)
    exact_mod_cast this
  have hp0 : (0 : Int) < 2 ^ s := Int.pow_pos (by omega)
  obtain ⟨x, rfl⟩ := Int.eq_ofNat_of_zero_le ha.1
  rcases hc with rfl | rfl
  · rw [bits_or_nat ha (by omega)]
    simp
  · rw [bits_or_nat ha (by omega)]
    have e : ((1 : Int) * 2 ^ s).toNat = 2 ^ s := by
      rw [Int.one_mul]
      have : ((2 ^ s : Nat) : Int) = (2 : Int) ^ s := by norm_cast
      omega
    rw [e, bitAt_nat, bitAt_nat, Int.toNat_natCast, Nat.testBit_or, Nat.testBit_two_pow]
    by_cases h : t = s
    · subst h; simp
    · have h2 : ¬ s = t := fun h3 => h h3.symm
      simp [h, h2]
theorem rd_set (l : List Int) (j i : Nat) (v : Int) (h : j < l.length) : rd (l.set j v) (i : Int) = if i = j then v else rd l (i : Int) := by
  rw [rd_nat, rd_nat, List.getD_eq_getElem?_getD, List.getD_eq_getElem?_getD, List.getElem?_set]
  by_cases hij : i = j
  · subst hij; simp [h]
  · rw [if_neg (fun h => hij h.symm), if_neg hij]
/-- Bit j of packed bits. -/
theorem packGo_bit (bs : List Int) (hb : ∀ x ∈ bs, x = 0 ∨ x = 1) : ∀ (d i : Nat) (acc : List Int), i + d = bs.length → acc.length = (bs.length + 7) / 8 → (∀ x ∈ acc, 0 ≤ x ∧ x < 256) → (∀ j, j < i → bitAt (rd acc ((j / 8 : Nat) : Int)) (7 - j % 8) = rd bs (j : Int)) → (∀ j, i ≤ j → j < bs.length → bitAt (rd acc ((j / 8 : Nat) : Int)) (7 - j % 8) = 0) → ∀ j, j < bs.length → bitAt (rd (packGo bs d i acc) ((j / 8 : Nat) : Int)) (7 - j % 8) = rd bs (j : Int) := by
  intro d
  induction d with
  | zero =>
    intro i acc hi ha hx h1 h2 j hj
    exact h1 j (by omega)
  | succ d ih =>
    intro i acc hi ha hx h1 h2
    simp only [packGo]
    have hm := hx _ (rd_mem (xs := acc) (i := i / 8) (by omega))
    have hbi := hb _ (rd_mem (xs := bs) (i := i) (by omega))
    have key : ∀ j, bitAt (rd (acc.set (i / 8) (packVal bs acc i)) ((j / 8 : Nat) : Int)) (7 - j % 8) = if j = i ∧ rd bs (i : Int) = 1 then 1 else bitAt (rd acc ((j / 8 : Nat) : Int)) (7 - j % 8) := by
      intro j
      rw [rd_set _ _ _ _ (by omega)]
      by_cases h : j / 8 = i / 8
      · rw [if_pos h]
        unfold packVal
        rw [bitAt_or hm _ hbi _ _ (by omega), h]
        by_cases h3 : j = i
        · subst h3; simp
        · rw [if_neg (fun h4 => by omega), if_neg (fun h4 => h3 h4.1)]
      · rw [if_neg h, if_neg (fun h4 => h (by rw [h4.1]))]
    refine ih (i + 1) _ (by omega) (by simpa using ha) (fun x h => ?_) (fun j hj => ?_) (fun j hj hj2 => ?_)
    · rcases List.mem_or_eq_of_mem_set h with h | rfl
      · exact hx x h
      · exact packVal_bd bs acc i
    · rw [key j]
      by_cases h : j = i
      · subst h
        rcases hbi with h0 | h0
        · rw [if_neg (fun h4 => by omega), h2 j (by omega) (by omega), h0]
        · rw [if_pos ⟨rfl, h0⟩, h0]
      · rw [if_neg (fun h4 => h h4.1)]; exact h1 j (by omega)
    · rw [key j, if_neg (fun h4 => by omega)]; exact h2 j (by omega) hj2
theorem rd_rep (n j : Nat) : rd (List.replicate n 0) (j : Int) = 0 := by
  rw [rd_nat, List.getD_eq_getElem?_getD, List.getElem?_replicate]
  split <;> rfl
theorem packOf_bit (bs : List Int) (hb : ∀ x ∈ bs, x = 0 ∨ x = 1) : ∀ j, j < bs.length → bitAt (rd (packOf bs) ((j / 8 : Nat) : Int)) (7 - j % 8) = rd bs (j : Int) := by
  unfold packOf
  exact packGo_bit bs hb bs.length 0 _ (by omega) (by simp) (fun x hx => by rw [List.eq_of_mem_replicate hx]; omega) (fun j hj => by omega) (fun j _ _ => by rw [rd_rep]; simp [bitAt])
theorem rd_append {a b : List Int} {j : Nat} (h : j < a.length) : rd (a ++ b) (j : Int) = rd a (j : Int) := by
  rw [rd_nat, rd_nat, List.getD_eq_getElem?_getD, List.getD_eq_getElem?_getD, List.getElem?_append_left h]
theorem unpackGo_add (b : List Int) : ∀ (d e i : Nat), unpackGo b (d + e) i = unpackGo b d i ++ unpackGo b e (i + d)
  | 0, e, i => by simp [unpackGo]
  | d + 1, e, i => by
    rw [show d + 1 + e = (d + e) + 1 by omega]
    simp only [unpackGo, List.cons_append]
    rw [unpackGo_add b d e (i + 1), show i + 1 + d = i + (d + 1) by omega]
theorem unpackGo_back (b bs : List Int) (h : ∀ j, j < bs.length → bitAt (rd b ((j / 8 : Nat) : Int)) (7 - j % 8) = rd bs (j : Int)) : ∀ d i, i + d = bs.length → unpackGo b d i = bs.drop i
  | 0, i, hi => by rw [List.drop_of_length_le (by omega)]; rfl
  | d + 1, i, hi => by
    simp only [unpackGo]
    rw [drop_rd (xs := bs) (i := i) (by omega), unpackGo_back b bs h d (i + 1) (by omega)]
    congr 1
    exact h i (by omega)
/-- The bits that were packed stand ahead of what is unpacked. -/
theorem unpack_back (bs rest : List Int) (hb : ∀ x ∈ bs, x = 0 ∨ x = 1) : ∃ t, unpackOf (packOf bs ++ rest) = bs ++ t := by
  have hl := packOf_len bs
  refine ⟨unpackGo (packOf bs ++ rest) (8 * (packOf bs ++ rest).length - bs.length) bs.length, ?_⟩
  unfold unpackOf
  have e : 8 * (packOf bs ++ rest).length = bs.length + (8 * (packOf bs ++ rest).length - bs.length) := by rw [List.length_append]; omega
  rw [e, unpackGo_add, unpackGo_back (packOf bs ++ rest) bs (fun j hj => ?_) bs.length 0 (by omega)]
  · rw [List.drop_zero, Nat.zero_add, ← e]
  · rw [rd_append (by omega)]; exact packOf_bit bs hb j hj
theorem ordRow_mem (n w c : Nat) : ∀ (d j t : Nat), j ≤ t → t < j + d → t * w + c < n → ((t * w + c : Nat) : Int) ∈ ordRow n w c d j
  | 0, j, t, h1, h2, _ => by omega
  | d + 1, j, t, h1, h2, h => by
    unfold ordRow
    by_cases e : t = j
    · subst e
      rw [if_pos h]
      exact List.mem_cons_self ..
    · have := ordRow_mem n w c d (j + 1) t (by omega) (by omega) h
      split
      · exact List.mem_cons_of_mem _ this
      · exact this
theorem ordAll_mem (n w r : Nat) : ∀ (d c t s : Nat), c ≤ s → s < c + d → t < r → t * w + s < n → ((t * w + s : Nat) : Int) ∈ ordAll n w r d c
  | 0, c, t, s, h1, h2, _, _ => by omega
  | d + 1, c, t, s, h1, h2, hr, h => by
    unfold ordAll
    by_cases e : s = c
    · subst e
      exact List.mem_append_left _ (ordRow_mem n w s r 0 t (by omega) (by omega) h)
    · exact List.mem_append_right _ (ordAll_mem n w r d (c + 1) t s (by omega) (by omega) hr h)
theorem cols_fit (n r : Nat) (hr : 1 ≤ r) : n ≤ r * cols n r := by
  unfold cols
  have h := Nat.div_add_mod (n + r - 1) r
  have h2 := Nat.mod_lt (n + r - 1) (show r > 0 by omega)
  generalize r * ((n + r - 1) / r) = q at *
  omega
theorem ordOf_mem (n r : Nat) (hr : 1 ≤ r) (j : Nat) (hj : j < n) : (j : Int) ∈ ordOf n r := by
  have hf := cols_fit n r hr
  have hc : 0 < cols n r := by
    rcases Nat.eq_zero_or_pos (cols n r) with h | h
    · rw [h] at hf; omega
    · exact h
  have e : j / cols n r * cols n r + j % cols n r = j := by rw [Nat.mul_comm]; exact Nat.div_add_mod _ _
  have hm := Nat.mod_lt j hc
  have hd : j / cols n r < r := (Nat.div_lt_iff_lt_mul hc).2 (by omega)
  have := ordAll_mem n (cols n r) r (cols n r) 0 (j / cols n r) (j % cols n r) (by omega) (by omega) hd (by omega)
  rw [e] at this
  exact this
/-- One place more: one entry more. -/
theorem ordRow_more (n w c : Nat) (hc : c < w) : ∀ (d j : Nat), (ordRow (n + 1) w c d j).length = (ordRow n w c d j).length + if n % w = c ∧ j ≤ n / w ∧ n / w < j + d then 1 else 0
  | 0, j => by
    rw [if_neg (by omega)]; rfl
  | d + 1, j => by
    have ih := ordRow_more n w c hc d (j + 1)
    have hn : n / w * w + n % w = n := by rw [Nat.mul_comm]; exact Nat.div_add_mod _ _
    unfold ordRow
    by_cases h : j * w + c = n
    · have e1 : n / w = j := by
        rw [← h, Nat.mul_comm, Nat.mul_add_div (by omega), Nat.div_eq_of_lt hc, Nat.add_zero]
      have e2 : n % w = c := by
        rw [← h, Nat.mul_comm, Nat.mul_add_mod, Nat.mod_eq_of_lt hc]
      rw [if_neg (by omega)] at ih
      rw [if_pos (by omega), if_neg (by omega), if_pos ⟨e2, by omega, by omega⟩, List.length_cons, ih]
    · have e3 : (n % w = c ∧ j ≤ n / w ∧ n / w < j + (d + 1)) ↔ (n % w = c ∧ j + 1 ≤ n / w ∧ n / w < j + 1 + d) := by
        constructor
        · rintro ⟨a, b, e⟩
          refine ⟨a, ?_, by omega⟩
          rcases Nat.lt_or_ge j (n / w) with h2 | h2
          · exact h2
          · exfalso
            apply h
            have : n / w = j := by omega
            rw [this, a] at hn
            exact hn
        · rintro ⟨a, b, e⟩
          exact ⟨a, by omega, by omega⟩
      simp only [e3]
      by_cases h2 : j * w + c < n
      · rw [if_pos (by omega), if_pos h2, List.length_cons, List.length_cons, ih]; omega
      · rw [if_neg (by omega), if_neg h2, ih]
theorem ordAll_more (n w r : Nat) : ∀ (d c : Nat), c + d ≤ w → (ordAll (n + 1) w r d c).length = (ordAll n w r d c).length + if c ≤ n % w ∧ n % w < c + d ∧ n / w < r then 1 else 0
  | 0, c, _ => by
    rw [if_neg (by omega)]; rfl
  | d + 1, c, h => by
    have ih := ordAll_more n w r d (c + 1) (by omega)
    have hr := ordRow_more n w c (by omega) r 0
    unfold ordAll
    rw [List.length_append, List.length_append, ih, hr]
    generalize n / w = q at *
    generalize n % w = s at *
    by_cases h1 : q < r
    · by_cases h2 : s = c
      · rw [if_pos ⟨h2, by omega, by omega⟩, if_neg (by omega), if_pos ⟨by omega, by omega, h1⟩]; omega
      · rw [if_neg (fun h3 => h2 h3.1)]
        by_cases h3 : c + 1 ≤ s ∧ s < c + 1 + d
        · rw [if_pos ⟨h3.1, h3.2, h1⟩, if_pos ⟨by omega, by omega, h1⟩]; omega
        · rw [if_neg (fun h4 => h3 ⟨h4.1, h4.2.1⟩), if_neg (fun h4 => h3 ⟨by omega, by omega⟩)]; omega
    · rw [if_neg (fun h3 => by omega), if_neg (fun h3 => h1 h3.2.2), if_neg (fun h3 => h1 h3.2.2)]; omega
theorem ordRow_none (w c : Nat) : ∀ (d j : Nat), ordRow 0 w c d j = []
  | 0, _ => rfl
  | d + 1, j => by unfold ordRow; rw [if_neg (by omega)]; exact ordRow_none w c d (j + 1)
theorem ordAll_none (w r : Nat) : ∀ (d c : Nat), ordAll 0 w r d c = []
  | 0, _ => rfl
  | d + 1, c => by unfold ordAll; rw [ordRow_none, ordAll_none w r d (c + 1)]; rfl
theorem ordAll_count (w r : Nat) (hw : 0 < w) : ∀ n, n ≤ r * w → (ordAll n w r w 0).length = n
  | 0, _ => by rw [ordAll_none]; rfl
  | n + 1, h => by
    rw [ordAll_more n w r w 0 (by omega), ordAll_count w r hw n (by omega), if_pos ⟨by omega, by have := Nat.mod_lt n hw; omega, (Nat.div_lt_iff_lt_mul hw).2 (by omega)⟩]
theorem ordOf_count (n r : Nat) (hr : 1 ≤ r) : (ordOf n r).length = n := by
  have hf := cols_fit n r hr
  rcases Nat.eq_zero_or_pos n with h | h
  · subst h
    unfold ordOf
    rw [ordAll_none]; rfl
  · have hc : 0 < cols n r := by
      rcases Nat.eq_zero_or_pos (cols n r) with h | h
      · rw [h] at hf; omega
      · exact h
    exact ordAll_count (cols n r) r hc n hf
theorem weaveOf_count (l : List Int) (r : Nat) (hr : 1 ≤ r) : (weaveOf l r).length = l.length := by
  unfold weaveOf; rw [List.length_map, ordOf_count _ _ hr]
/-- What is laid at its own places. -/
def scat (l : List Int) : List Int → List Int → List Int
  | [], acc => acc
  | x :: o, acc => scat l o (acc.set x.toNat (rd l x))
theorem scat_len (l : List Int) : ∀ (o acc : List Int), (scat l o acc).length = acc.length
  | [], _ => rfl
  | x :: o, acc => by simp only [scat]; rw [scat_len l o]; simp
theorem scat_get (l : List Int) : ∀ (o acc : List Int) (j : Nat), (∀ x ∈ o, 0 ≤ x ∧ x < (acc.length : Int)) → ((j : Int) ∈ o ∨ rd acc (j : Int) = rd l (j : Int)) → rd (scat l o acc) (j : Int) = rd l (j : Int)
  | [], acc, j, _, h => by
    rcases h with h | h
    · cases h
    · exact h
  | x :: o, acc, j, hb, h => by
    have hx := hb x (List.mem_cons_self ..)
    simp only [scat]
    refine scat_get l o _ j (fun y hy => by rw [List.length_set]; exact hb y (List.mem_cons_of_mem _ hy)) ?_
    have e := rd_set acc x.toNat j (rd l x) (by omega)
    by_cases hj : j = x.toNat
    · right
      rw [e, if_pos hj, show ((j : Nat) : Int) = x by omega]
    · rcases h with h | h
      · rcases List.mem_cons.1 h with h | h
        · omega
        · exact Or.inl h
      · right
        rw [e, if_neg hj, h]
theorem weave_back (l : List Int) (r : Nat) (hr : 1 ≤ r) : scat l (ordOf l.length r) (List.replicate l.length 0) = l := by
  have hl : (scat l (ordOf l.length r) (List.replicate l.length 0)).length = l.length := by rw [scat_len, List.length_replicate]
  apply List.ext_getElem hl
  intro j h1 h2
  rw [← rd_get _ j h1, ← rd_get l j h2]
  refine scat_get l _ _ j (fun x hx => ?_) (Or.inl (ordOf_mem _ _ hr j h2))
  rw [List.length_replicate]
  exact ordAll_bd _ _ _ _ _ x hx
theorem pack8_l0 (bs : List Int) (hl : bs.length ≤ 1000000) (hb : ∀ x ∈ bs, x = 0 ∨ x = 1) : ∀ (d i : Nat) (acc : List Int), i + d = bs.length → acc.length = (bs.length + 7) / 8 → Ev (fun k => impl_pack8.l0 k acc bs (bs.length : Int) (i : Int)) (packGo bs d i acc) := by
  intro d
  induction d with
  | zero =>
    intro i acc hi _
    refine Ev.succ ?_
    simp only [impl_pack8.l0]
    exact Ev.neg (by omega) (Ev.some_ rfl)
  | succ d ih =>
    intro i acc hi ha
    have hbit := hb _ (rd_mem (xs := bs) (i := i) (by omega))
    have e1 : wrap64 (Int.tdiv (i : Int) 8) = ((i / 8 : Nat) : Int) := by rw [Int.tdiv_eq_ediv_of_nonneg (by omega), w64 (by omega) (by omega)]; omega
    have e2 : wrap64 (7 - Int.tmod (i : Int) 8) = ((7 - i % 8 : Nat) : Int) := by rw [Int.tmod_eq_emod_of_nonneg (by omega), w64 (by omega) (by omega)]; omega
    refine Ev.succ ?_
    simp only [impl_pack8.l0, packGo, e1, e2, shl_bit8 (7 - i % 8) (by omega) _ hbit]
    refine Ev.pos (by omega) (Ev.pos (by omega) (Ev.pos (by omega) (Ev.pos (by omega) (Ev.pos (by omega) (Ev.pos (by omega) ?_)))))
    rw [w64 (n := (i : Int) + 1) (by omega) (by omega), show ((i : Int) + 1) = ((i + 1 : Nat) : Int) by omega]
    exact ih (i + 1) _ (by omega) (by simpa using ha)
theorem pack8_ev (bs : List Int) (hl : bs.length ≤ 1000000) (hb : ∀ x ∈ bs, x = 0 ∨ x = 1) : Ev (fun k => impl_pack8.f k bs) (packOf bs) := by
  have e1 : wrap64 (Int.tdiv (wrap64 ((bs.length : Int) + 7)) 8) = (((bs.length + 7) / 8 : Nat) : Int) := by
    rw [w64 (n := (bs.length : Int) + 7) (by omega) (by omega), Int.tdiv_eq_ediv_of_nonneg (by omega), w64 (by omega) (by omega)]; omega
  unfold impl_pack8.f packOf
  simp only [e1, Int.toNat_natCast]
  exact Ev.pos (by omega) (Ev.pos (by omega) (pack8_l0 bs hl hb bs.length 0 _ (by omega) (by simp)))
theorem byteExt {x y : Nat} (hx : x < 256) (hy : y < 256) (h : ∀ t, t < 8 → bitAt (x : Int) t = bitAt (y : Int) t) : x = y := by
  apply Nat.eq_of_testBit_eq
  intro i
  by_cases hi : i < 8
  · have := h i hi
    rw [bitAt_nat, bitAt_nat] at this
    cases e1 : x.testBit i <;> cases e2 : y.testBit i <;> simp [e1, e2] at this ⊢
  · have hp : 2 ^ 8 ≤ 2 ^ i := Nat.pow_le_pow_right (by omega) (by omega)
    rw [Nat.testBit_lt_two_pow (by omega), Nat.testBit_lt_two_pow (by omega)]
theorem rd_unpackGo (b : List Int) : ∀ (d i j : Nat), j < d → rd (unpackGo b d i) (j : Int) = bitAt (rd b (((i + j) / 8 : Nat) : Int)) (7 - (i + j) % 8)
  | d + 1, i, 0, _ => rfl
  | d + 1, i, j + 1, h => by
    have := rd_unpackGo b d (i + 1) j (by omega)
    rw [show i + 1 + j = i + (j + 1) by omega] at this
    exact this
/-- Bytes laid open bit by bit and packed again. -/
theorem packOf_unpack (b : List Int) (hb : ∀ x ∈ b, 0 ≤ x ∧ x < 256) : packOf (unpackOf b) = b := by
  have hl : (packOf (unpackOf b)).length = b.length := by rw [packOf_len, unpackOf_len]; omega
  apply List.ext_getElem hl
  intro j h1 h2
  have e1 : (packOf (unpackOf b))[j] = rd (packOf (unpackOf b)) (j : Int) := (rd_get _ j h1).symm
  have e2 : b[j] = rd b (j : Int) := (rd_get _ j h2).symm
  have g1 := packOf_bd (unpackOf b) _ (rd_mem (xs := packOf (unpackOf b)) (i := j) h1)
  have g2 := hb _ (rd_mem (xs := b) (i := j) h2)
  rw [e1, e2]
  have key : ∀ t, t < 8 → bitAt (rd (packOf (unpackOf b)) (j : Int)) t = bitAt (rd b (j : Int)) t := by
    intro t ht
    have hj : 8 * j + (7 - t) < (unpackOf b).length := by rw [unpackOf_len]; omega
    have k1 := packOf_bit (unpackOf b) (unpackOf_bit b) (8 * j + (7 - t)) hj
    have k2 : rd (unpackOf b) ((8 * j + (7 - t) : Nat) : Int) = bitAt (rd b (((8 * j + (7 - t)) / 8 : Nat) : Int)) (7 - (8 * j + (7 - t)) % 8) := by
      have := rd_unpackGo b (8 * b.length) 0 (8 * j + (7 - t)) (by omega)
      rw [Nat.zero_add] at this
      exact this
    rw [k2, show (8 * j + (7 - t)) / 8 = j by omega, show 7 - (8 * j + (7 - t)) % 8 = t by omega] at k1
    exact k1
  obtain ⟨x, hx⟩ := Int.eq_ofNat_of_zero_le g1.1
  obtain ⟨y, hy⟩ := Int.eq_ofNat_of_zero_le g2.1
  rw [hx, hy] at key ⊢
  rw [hx] at g1
  rw [hy] at g2
  rw [byteExt (x := x) (y := y) (by omega) (by omega) key]
theorem bitXor {x b : Int} (hx : x = 0 ∨ x = 1) (hb : b = 0 ∨ b = 1) : (bits .xor .i64 x b = 0 ∨ bits .xor .i64 x b = 1) ∧ bits .xor .i64 (bits .xor .i64 x b) b = x := by
  rcases hx with rfl | rfl <;> rcases hb with rfl | rfl <;> decide
theorem stirGo_bits : ∀ (l : List Int) (s : Int), (∀ x ∈ l, x = 0 ∨ x = 1) → ∀ x ∈ stirGo s l, x = 0 ∨ x = 1
  | [], _, _, x, h => by cases h
  | y :: l, s, hl, x, h => by
    rcases List.mem_cons.1 h with rfl | h
    · exact (bitXor (hl y (List.mem_cons_self ..)) (b := s % 2) (by omega)).1
    · exact stirGo_bits l _ (fun z hz => hl z (List.mem_cons_of_mem _ hz)) x h
theorem stirGo_back : ∀ (l : List Int) (s : Int), (∀ x ∈ l, x = 0 ∨ x = 1) → stirGo s (stirGo s l) = l
  | [], _, _ => rfl
  | y :: l, s, hl => by
    simp only [stirGo]
    rw [(bitXor (hl y (List.mem_cons_self ..)) (b := s % 2) (by omega)).2, stirGo_back l _ (fun z hz => hl z (List.mem_cons_of_mem _ hz))]
theorem stirOf_back (l : List Int) (s : Int) (hl : bitsB l = true) : stirOf (stirOf l s).1 s = (l, true) := by
  have h := bitsB_iff.1 hl
  have e : stirOf l s = (stirGo s l, true) := by unfold stirOf; rw [if_pos hl]
  rw [e]
  unfold stirOf
  rw [if_pos (bitsB_iff.2 ⟨stirGo_bits l s h.1, by rw [stirGo_len]; exact h.2⟩), stirGo_back l s h.1]
/-- The value of a word (its highest coefficient first) at z, behind a. -/
def horn (z : Nat) : Nat → List Int → Nat
  | a, [] => a
  | a, c :: l => horn z (gfM a z ^^^ c.toNat) l
def gfPw (z : Nat) : Nat → Nat
  | 0 => 1
  | n + 1 => gfM (gfPw z n) z
theorem horn_append (z : Nat) : ∀ (p q : List Int) (a : Nat), horn z a (p ++ q) = horn z (horn z a p) q
  | [], _, _ => rfl
  | c :: p, q, a => by simp only [List.cons_append, horn]; exact horn_append z p q _
theorem toNat_lt {c : Int} (h : 0 ≤ c ∧ c < 256) : c.toNat < 256 := by omega
theorem horn_lt (z : Nat) : ∀ (l : List Int) (a : Nat), isB l → a < 256 → horn z a l < 256
  | [], _, _, h => h
  | c :: l, a, hl, h => horn_lt z l _ (fun x hx => hl x (List.mem_cons_of_mem _ hx)) (xor_lt256 (gfM_lt h z) (toNat_lt (hl c (List.mem_cons_self ..))))
theorem gfPw_lt (z : Nat) : ∀ n, gfPw z n < 256
  | 0 => by show 1 < 256; decide
  | n + 1 => gfM_lt (gfPw_lt z n) z
theorem xor4 (a b c d : Nat) : (a ^^^ b) ^^^ (c ^^^ d) = (a ^^^ c) ^^^ (b ^^^ d) := by
  rw [Nat.xor_assoc, Nat.xor_assoc, ← Nat.xor_assoc b c d, Nat.xor_comm b c, Nat.xor_assoc c b d]
/-- Two words of one length, added place by place. -/
theorem horn_add (z : Nat) : ∀ (s p q : List Int) (a b : Nat), isB p → isB q → a < 256 → b < 256 → p.length = s.length → q.length = s.length → (∀ i : Nat, i < s.length → (rd s (i : Int)).toNat = (rd p (i : Int)).toNat ^^^ (rd q (i : Int)).toNat) → horn z (a ^^^ b) s = horn z a p ^^^ horn z b q
  | [], [], [], _, _, _, _, _, _, _, _, _ => rfl
  | c :: s, d :: p, e :: q, a, b, hp, hq, ha, hb, h1, h2, h => by
    have h0 := h 0 (by simp)
    have e0 : c.toNat = d.toNat ^^^ e.toNat := h0
    have hd := toNat_lt (hp d (List.mem_cons_self ..))
    have he := toNat_lt (hq e (List.mem_cons_self ..))
    simp only [horn]
    rw [gfM_lin ha hb, e0, xor4]
    refine horn_add z s p q _ _ (fun x hx => hp x (List.mem_cons_of_mem _ hx)) (fun x hx => hq x (List.mem_cons_of_mem _ hx)) (xor_lt256 (gfM_lt ha z) hd) (xor_lt256 (gfM_lt hb z) he) (by simpa using h1) (by simpa using h2) (fun i hi => ?_)
    exact h (i + 1) (by simp; omega)
  | [], _ :: _, _, _, _, _, _, _, _, h1, _, _ => by simp at h1
  | [], [], _ :: _, _, _, _, _, _, _, _, h2, _ => by simp at h2
  | _ :: _, [], _, _, _, _, _, _, _, h1, _, _ => by simp at h1
  | _ :: _, _ :: _, [], _, _, _, _, _, _, _, h2, _ => by simp at h2
/-- A word times a number. -/
theorem horn_mul (z w : Nat) (hw : w < 256) (hz : z < 256) : ∀ (l : List Int) (a : Nat), isB l → a < 256 → horn z (gfM a w) (l.map (fun c => gM c (w : Int))) = gfM (horn z a l) w
  | [], _, _, _ => rfl
  | c :: l, a, hl, ha => by
    have hc := toNat_lt (hl c (List.mem_cons_self ..))
    simp only [List.map_cons, horn]
    have e1 : (gM c (w : Int)).toNat = gfM c.toNat w := by unfold gM; simp
    rw [e1, gfM_comm2 ha w z, ← gfM_lin (gfM_lt ha z) hc]
    exact horn_mul z w hw hz l _ (fun x hx => hl x (List.mem_cons_of_mem _ hx)) (xor_lt256 (gfM_lt ha z) hc)
theorem horn_last (z : Nat) (l : List Int) (a : Nat) : horn z a (l ++ [0]) = gfM (horn z a l) z := by
  rw [horn_append]; simp [horn]
theorem horn_head (z : Nat) : ∀ (l : List Int) (a : Nat), z < 256 → isB l → a < 256 → horn z a l = gfM a (gfPw z l.length) ^^^ horn z 0 l
  | [], a, _, _, ha => by simp [horn, gfPw, gfM_one' ha]
  | c :: l, a, hz, hl, ha => by
    have hc := toNat_lt (hl c (List.mem_cons_self ..))
    have hl2 : isB l := fun x hx => hl x (List.mem_cons_of_mem _ hx)
    have hp := gfPw_lt z l.length
    simp only [horn, List.length_cons, gfPw]
    rw [horn_head z l _ hz hl2 (xor_lt256 (gfM_lt ha z) hc), horn_head z l (gfM 0 z ^^^ c.toNat) hz hl2 (xor_lt256 (gfM_lt (by decide) z) hc), gfM_zero, Nat.zero_xor, gfM_lin (gfM_lt ha z) hc, gfM_assoc ha hz hp, gfM_comm hz hp, Nat.xor_assoc]
theorem mulRoot_get : ∀ (d j : Nat) (g : List Int) (w : Int) (acc : List Int) (t : Nat), j + d + 1 ≤ acc.length → rd (mulRoot d j g w acc) (t : Int) = if j + 1 ≤ t ∧ t < j + 1 + d then xB (rd acc (t : Int)) (gM (rd g ((t - 1 : Nat) : Int)) w) else rd acc (t : Int)
  | 0, j, g, w, acc, t, _ => by simp only [mulRoot]; rw [if_neg (by omega)]
  | d + 1, j, g, w, acc, t, h => by
    simp only [mulRoot]
    rw [mulRoot_get d (j + 1) g w _ t (by simp; omega)]
    have hs : rd (acc.set (j + 1) (xB (rd acc ((j + 1 : Nat) : Int)) (gM (rd g (j : Int)) w))) (t : Int) = if t = j + 1 then xB (rd acc ((j + 1 : Nat) : Int)) (gM (rd g (j : Int)) w) else rd acc (t : Int) := by
      rw [rd_nat, rd_nat, List.getD_eq_getElem?_getD, List.getD_eq_getElem?_getD, List.getElem?_set]
      by_cases h1 : j + 1 = t
      · rw [if_pos h1, if_pos h1.symm, if_pos (by omega)]; rfl
      · rw [if_neg h1, if_neg (fun e => h1 e.symm), rd_nat, List.getD_eq_getElem?_getD]
    rw [hs]
    by_cases h1 : t = j + 1
    · subst h1
      rw [if_neg (by omega), if_pos rfl, if_pos (by omega), Nat.add_sub_cancel]
    · rw [if_neg h1]
      by_cases h2 : j + 1 + 1 ≤ t ∧ t < j + 1 + 1 + d
      · rw [if_pos h2, if_pos (by omega)]
      · rw [if_neg h2, if_neg (by omega)]
theorem xB_toNat {a b : Int} (ha : 0 ≤ a ∧ a < 256) (hb : 0 ≤ b ∧ b < 256) : (xB a b).toNat = a.toNat ^^^ b.toNat := by
  have h := xorN a.toNat b.toNat (by omega) (by omega)
  rw [Int.toNat_of_nonneg ha.1, Int.toNat_of_nonneg hb.1] at h
  unfold xB
  rw [h, Int.toNat_natCast]
theorem isB_gM {l : List Int} (h : isB l) (w : Int) : isB (l.map (fun c => gM c w)) := fun x hx => by
  obtain ⟨c, hc, rfl⟩ := List.mem_map.1 hx
  exact gM_bd (h c hc) w
theorem isB_cons0 {l : List Int} (h : isB l) : isB (0 :: l) := fun x hx => by
  rcases List.mem_cons.1 hx with rfl | h2
  · omega
  · exact h x h2
theorem rd_app (l m : List Int) (t : Nat) : rd (l ++ m) (t : Int) = if t < l.length then rd l (t : Int) else rd m ((t - l.length : Nat) : Int) := by
  rw [rd_nat, rd_nat, rd_nat, List.getD_eq_getElem?_getD, List.getD_eq_getElem?_getD, List.getD_eq_getElem?_getD, List.getElem?_append]
  split <;> rfl
theorem rd_map0 (l : List Int) (f : Int → Int) (hf : f 0 = 0) (t : Nat) : rd (l.map f) (t : Int) = f (rd l (t : Int)) := by
  rw [rd_nat, rd_nat, List.getD_eq_getElem?_getD, List.getD_eq_getElem?_getD, List.getElem?_map]
  cases l[t]? with
  | none => exact hf.symm
  | some x => rfl
theorem gM_zero (w : Int) : gM 0 w = 0 := by unfold gM; rw [show (0 : Int).toNat = 0 from rfl, gfM_zero]; rfl
theorem horn_gen (z : Nat) (hz : z < 256) (i : Nat) : horn z 0 (genL (i + 1)) = gfM (horn z 0 (genL i)) z ^^^ gfM (horn z 0 (genL i)) (gfP i) := by
  have hB := genL_B i
  have hl := genL_len i
  have hp := gfP_lt i
  have e1 := horn_last z (genL i) 0
  have e2 := horn_mul z (gfP i) hp hz (genL i) 0 hB (by decide)
  rw [gfM_zero] at e2
  rw [← e1, ← e2]
  have e3 : horn z 0 (0 :: (genL i).map (fun c => gM c ((gfP i : Nat) : Int))) = horn z 0 ((genL i).map (fun c => gM c ((gfP i : Nat) : Int))) := by
    simp [horn, gfM_zero]
  rw [← e3]
  refine horn_add z (genL (i + 1)) (genL i ++ [0]) (0 :: (genL i).map (fun c => gM c ((gfP i : Nat) : Int))) 0 0 (isB_append hB isB_zero) (isB_cons0 (isB_gM hB _)) (by decide) (by decide) (by simp [genL_len]) (by simp [genL_len]) (fun t ht => ?_)
  rw [genL_len] at ht
  simp only [genL]
  rw [mulRoot_get _ _ _ _ _ t (by simp [hl])]
  cases t with
  | zero =>
    rw [if_neg (by omega), show rd (0 :: (genL i).map (fun c => gM c ((gfP i : Nat) : Int))) ((0 : Nat) : Int) = 0 from rfl]
    simp
  | succ t =>
    rw [if_pos (by omega), xB_toNat (rd_B (isB_append hB isB_zero) _) (gM_bd (rd_B hB _) _), Nat.add_sub_cancel]
    congr 2
    rw [show rd (0 :: (genL i).map (fun c => gM c ((gfP i : Nat) : Int))) ((t + 1 : Nat) : Int) = rd ((genL i).map (fun c => gM c ((gfP i : Nat) : Int))) (t : Int) from rfl, rd_map0 _ (fun c => gM c ((gfP i : Nat) : Int)) (gM_zero _)]
theorem gen_root (i : Nat) : ∀ N, i < N → horn (gfP i) 0 (genL N) = 0
  | N + 1, h => by
    rw [horn_gen _ (gfP_lt i)]
    by_cases e : i = N
    · rw [e, Nat.xor_self]
    · rw [gen_root i N (by omega), gfM_zero, gfM_zero]; rfl
theorem genL_zero : ∀ i, rd (genL i) ((0 : Nat) : Int) = 1
  | 0 => rfl
  | i + 1 => by
    simp only [genL]
    rw [mulRoot_get _ _ _ _ _ 0 (by simp), if_neg (by omega), rd_app, if_pos (by rw [genL_len]; omega)]
    exact genL_zero i
theorem horn_step (z : Nat) (hz : z < 256) (g r : List Int) (x : Int) (hx : 0 ≤ x ∧ x < 256) (hg : isB g) (hr : isB r) (D : Nat) (hD : 0 < D) (hl : r.length = D) (hgl : g.length = D + 1) (h1 : rd g ((0 : Nat) : Int) = 1) (hroot : horn z 0 g = 0) :
    horn z 0 (rsStep g r x) = gfM (horn z 0 r) z ^^^ gfM x.toNat (gfPw z D) := by
  have hZ := gfPw_lt z D
  cases r with
  | nil => simp at hl; omega
  | cons a r1 =>
    cases g with
    | nil => simp at hgl
    | cons b g1 =>
      have ha := hr a (List.mem_cons_self ..)
      have hr1 : isB r1 := fun y hy => hr y (List.mem_cons_of_mem _ hy)
      have hg1 : isB g1 := fun y hy => hg y (List.mem_cons_of_mem _ hy)
      have hl1 : r1.length + 1 = D := by simpa using hl
      have hgl1 : g1.length = D := by simpa using hgl
      have hb : b = 1 := h1
      have hf := xB_bd ha hx
      have en := toNat_lt hf
      have hnat := toNat_lt ha
      have hxn := toNat_lt hx
      have et := xB_toNat ha hx
      -- the generator's tail has the value z ^ D
      have eg : horn z 0 g1 = gfPw z D := by
        have h2 := hroot
        simp only [horn] at h2
        rw [gfM_zero, Nat.zero_xor, hb, horn_head z g1 _ hz hg1 (by decide), hgl1, show (1 : Int).toNat = 1 from rfl] at h2
        have h3 : gfM 1 (gfPw z D) = gfPw z D := gfM_one ⟨gfPw z D, hZ⟩
        rw [h3] at h2
        have h4 := congrArg (fun v => gfPw z D ^^^ v) h2
        simp only [← Nat.xor_assoc, Nat.xor_self, Nat.zero_xor, Nat.xor_zero] at h4
        exact h4
      have e2 := horn_mul z (xB a x).toNat en hz g1 0 hg1 (by decide)
      rw [gfM_zero, eg] at e2
      have e1 := horn_last z r1 0
      have hS : horn z 0 (rsStep (b :: g1) (a :: r1) x) = gfM (horn z 0 r1) z ^^^ gfM (gfPw z D) (xB a x).toNat := by
        rw [← e1, ← e2]
        have hlen : (rsStep (b :: g1) (a :: r1) x).length = D := by rw [rsStep_len _ (by simp)]; simpa using hl
        refine horn_add z (rsStep (b :: g1) (a :: r1) x) (r1 ++ [0]) (g1.map (fun c => gM c (((xB a x).toNat : Nat) : Int))) 0 0 (isB_append hr1 isB_zero) (isB_gM hg1 _) (by decide) (by decide) (by rw [hlen]; simp; omega) (by rw [hlen]; simp; omega) (fun t ht => ?_)
        rw [hlen] at ht
        have e0 : rsStep (b :: g1) (a :: r1) x = rsMul (a :: r1).length 0 (b :: g1) (xB a x) (r1 ++ [0]) := rfl
        have e5 : rd (b :: g1) ((t + 1 : Nat) : Int) = rd g1 (t : Int) := rfl
        have e6 : gM (xB a x) (rd g1 (t : Int)) = gM (rd g1 (t : Int)) (((xB a x).toNat : Nat) : Int) := by
          rw [Int.toNat_of_nonneg hf.1]
          exact gM_comm hf (rd_B hg1 _)
        have e7 : rd (g1.map (fun c => gM c (((xB a x).toNat : Nat) : Int))) (t : Int) = gM (rd g1 (t : Int)) (((xB a x).toNat : Nat) : Int) := rd_map0 _ (fun c => gM c (((xB a x).toNat : Nat) : Int)) (gM_zero _) t
        have e8 : rd (rsMul (a :: r1).length 0 (b :: g1) (xB a x) (r1 ++ [0])) (t : Int) = xB (rd (r1 ++ [0]) (t : Int)) (gM (xB a x) (rd (b :: g1) ((t + 1 : Nat) : Int))) := by
          rw [rsMul_get _ _ _ _ _ t (by simp), if_pos (by simp; omega)]
        rw [e0, e8, e5, e6, e7]
        exact xB_toNat (rd_B (isB_append hr1 isB_zero) _) (gM_bd (rd_B hg1 _) _)
      have hv : horn z 0 (a :: r1) = gfM a.toNat (gfPw z r1.length) ^^^ horn z 0 r1 := by
        simp only [horn]
        rw [gfM_zero, Nat.zero_xor]
        exact horn_head z r1 _ hz hr1 hnat
      have hV := horn_lt z r1 0 hr1 (by decide)
      have hP := gfPw_lt z r1.length
      have hpw : gfPw z D = gfM (gfPw z r1.length) z := by rw [← hl1]; rfl
      rw [hS, hv, gfM_lin (gfM_lt hnat _) hV, gfM_assoc hnat hP hz, ← hpw, et, gfM_comm hZ (xor_lt256 hnat hxn), gfM_lin hnat hxn]
      rw [← Nat.xor_assoc, Nat.xor_comm (gfM (horn z 0 r1) z)]
theorem code_root (z : Nat) (hz : z < 256) (g : List Int) (hg : isB g) (D : Nat) (hD : 0 < D) (hgl : g.length = D + 1) (h1 : rd g ((0 : Nat) : Int) = 1) (hroot : horn z 0 g = 0) : ∀ (xs p r : List Int), isB xs → isB p → isB r → r.length = D → horn z 0 r = gfM (horn z 0 p) (gfPw z D) → horn z 0 (p ++ xs ++ rsRest g r xs) = 0
  | [], p, r, _, hp, hr, hl, h => by
    simp only [rsRest, List.append_nil]
    rw [horn_append, horn_head z r _ hz hr (horn_lt z p 0 hp (by decide)), hl, h, Nat.xor_self]
  | x :: xs, p, r, hxs, hp, hr, hl, h => by
    have hx := hxs x (List.mem_cons_self ..)
    have hP := horn_lt z p 0 hp (by decide)
    have hZ := gfPw_lt z D
    have h2 := horn_step z hz g r x hx hg hr D hD hl hgl h1 hroot
    have e : p ++ x :: xs ++ rsRest g r (x :: xs) = (p ++ [x]) ++ xs ++ rsRest g (rsStep g r x) xs := by simp [rsRest]
    rw [e]
    refine code_root z hz g hg D hD hgl h1 hroot xs (p ++ [x]) (rsStep g r x) (fun y hy => hxs y (List.mem_cons_of_mem _ hy)) (isB_append hp (fun y hy => by simp at hy; rw [hy]; exact hx)) (rsStep_B hg hr hx) (by rw [rsStep_len _ (by omega)]; exact hl) ?_
    have e3 : horn z 0 (p ++ [x]) = gfM (horn z 0 p) z ^^^ x.toNat := by rw [horn_append]; rfl
    rw [h2, h, e3, gfM_lin (gfM_lt hP z) (toNat_lt hx), gfM_assoc hP hZ hz, gfM_comm hZ hz, ← gfM_assoc hP hz hZ]
theorem horn_zeros (z : Nat) : ∀ n, horn z 0 (List.replicate n 0) = 0
  | 0 => rfl
  | n + 1 => by
    simp only [List.replicate_succ, horn]
    rw [gfM_zero]
    exact horn_zeros z n
/-- A code word has the value zero at the generator's roots. -/
theorem rs_root (data : List Int) (hb : isB data) (m : Nat) (hm : 0 < m) (i : Nat) (hi : i < m) : horn (gfP i) 0 (data ++ rsRest (genL m) (List.replicate m 0) data) = 0 := by
  have hz : isB (List.replicate m (0 : Int)) := fun x hx => by rw [List.eq_of_mem_replicate hx]; omega
  have := code_root (gfP i) (gfP_lt i) (genL m) (genL_B m) m hm (genL_len m) (genL_zero m) (gen_root i m hi) data [] (List.replicate m 0) hb (fun x hx => by cases hx) hz (by simp) (by rw [horn_zeros]; simp [horn, gfM_zero])
  simpa using this
theorem iValue_l0 (z : Nat) (hz : z < 256) (l : List Int) (hl : l.length ≤ 1000) (hb : isB l) : ∀ (d i : Nat) (a : Nat), i + d = l.length → a < 256 → Ev (fun k => impl_value.l0 k (z : Int) (a : Int) l (l.length : Int) (i : Int)) ((horn z a (l.drop i) : Nat) : Int) := by
  intro d
  induction d with
  | zero =>
    intro i a hi ha
    refine Ev.succ ?_
    simp only [impl_value.l0]
    rw [List.drop_of_length_le (by omega)]
    exact Ev.neg (by omega) (Ev.some_ rfl)
  | succ d ih =>
    intro i a hi ha
    have hx := rd_B hb (i : Int)
    have hg := gfM_lt ha z
    refine Ev.succ ?_
    simp only [impl_value.l0]
    rw [w64_add (i := (i : Int)) (by omega) (by omega), w64 (n := rd l (i : Int)) (by omega) (by omega), drop_rd (xs := l) (i := i) (by omega)]
    refine Ev.pos (by omega) (Ev.pos (by omega) (Ev.pos (by omega) (Ev.next (iGfMul_ev a z ha hz) ?_)))
    have e := xorN (gfM a z) (rd l (i : Int)).toNat (by omega) (by omega)
    rw [Int.toNat_of_nonneg hx.1] at e
    rw [e]
    exact ih (i + 1) _ (by omega) (xor_lt256 hg (by omega))
theorem iValue_ev (l : List Int) (hl : l.length ≤ 1000) (hb : isB l) (i : Nat) (hi : i ≤ 100) : Ev (fun k => impl_value.f k l (i : Int)) ((horn (gfP i) 0 l : Nat) : Int) := by
  unfold impl_value.f
  exact Ev.next (iPow_ev i hi) (iValue_l0 (gfP i) (gfP_lt i) l hl hb l.length 0 0 (by omega) (by decide))
theorem rd_rep0 (n i : Nat) : rd (List.replicate n (0 : Int)) (i : Int) = 0 := by
  rw [rd_nat, List.getD_eq_getElem?_getD, List.getElem?_replicate]
  split <;> rfl
theorem loc_l0 (n : Nat) (hn : n ≤ 100) : ∀ d i : Nat, i + d = n → Ev (fun k => impl_locator.l0 k (List.replicate n 0) [1] [1] 0 ((i + 1 : Nat) : Int) 1 (n : Int) (i : Int)) [1] := by
  intro d
  induction d with
  | zero =>
    intro i hi
    refine Ev.succ ?_
    simp only [impl_locator.l0]
    refine Ev.neg (by omega) (Ev.succ ?_)
    simp only [impl_locator.l4]
    have w1 : wrap64 ((([1] : List Int).length : Int) - 1) = 0 := by rw [w64 (by simp) (by simp)]; rfl
    rw [w1]
    exact Ev.pos (by simp) (Ev.pos (by omega) (Ev.pos (by simp) (Ev.neg (by show ¬ ((1 : Int) = 0); omega) (Ev.some_ rfl))))
  | succ d ih =>
    intro i hi
    refine Ev.succ ?_
    simp only [impl_locator.l0]
    rw [rd_rep0]
    refine Ev.pos (by omega) (Ev.pos (by omega) (Ev.pos (by simp; omega) (Ev.succ ?_)))
    simp only [impl_locator.l1]
    refine Ev.neg (by decide) (Ev.succ ?_)
    simp only [impl_locator.j2]
    rw [w64_add (i := (i : Int)) (by omega) (by omega), w64 (n := ((i + 1 : Nat) : Int) + 1) (by omega) (by omega)]
    exact Ev.pos trivial (ih (i + 1) (by omega))
theorem loc_ev (n : Nat) (hn : n ≤ 100) : Ev (fun k => impl_locator.f k (List.replicate n 0)) [1] := by
  unfold impl_locator.f
  rw [List.length_replicate]
  exact loc_l0 n hn n 0 (by omega)
theorem rsOk_l0 (l : List Int) (hl : l.length ≤ 1000) (hb : isB l) (n : Nat) (hn : n ≤ 100) (hz : ∀ i, i < n → horn (gfP i) 0 l = 0) : ∀ d i : Nat, i + d = n → Ev (fun k => impl_RsOk.l0 k l (n : Int) (i : Int)) true := by
  intro d
  induction d with
  | zero =>
    intro i hi
    refine Ev.succ ?_
    simp only [impl_RsOk.l0]
    exact Ev.neg (by omega) (Ev.some_ rfl)
  | succ d ih =>
    intro i hi
    refine Ev.succ ?_
    simp only [impl_RsOk.l0]
    rw [w64_add (i := (i : Int)) (by omega) (by omega)]
    exact Ev.pos (by omega) (Ev.next (iValue_ev l hl hb i (by omega)) (Ev.pos (by rw [hz i (by omega)]; rfl) (ih (i + 1) (by omega))))
theorem word_ok (l : List Int) (m : Nat) (hm : 1 ≤ m ∧ m ≤ 8) (h : 2 * m < l.length) (h2 : l.length ≤ 255) : impl_wordOk.f l (m : Int) = some true := by
  have e : impl_isMend.f (m : Int) = some true := by
    unfold impl_isMend.f
    rw [if_pos (by omega)]; simp; omega
  unfold impl_wordOk.f
  rw [e, w64 (by omega) (by omega)]
  simp only [Option.bind_some]
  rw [if_pos trivial, if_pos (by omega)]; simp; omega
theorem rsOk_ev (l : List Int) (hb : isB l) (m : Nat) (hm : 1 ≤ m ∧ m ≤ 8) (h : 2 * m < l.length) (h2 : l.length ≤ 255) (hz : ∀ i, i < 2 * m → horn (gfP i) 0 l = 0) : Ev (fun k => impl_RsOk.f k l (m : Int)) true := by
  unfold impl_RsOk.f
  rw [show wrap64 (2 * (m : Int)) = ((2 * m : Nat) : Int) by rw [w64 (by omega) (by omega)]; omega]
  exact Ev.next (Ev.here (word_ok l m hm h h2)) (Ev.pos rfl (rsOk_l0 l (by omega) hb (2 * m) (by omega) hz (2 * m) 0 (by omega)))
theorem iPow2_l0 (N : Nat) (hN : N ≤ 300) : ∀ d i : Nat, i + d = N → Ev (fun k => impl_gfPow.l0 k ((gfP i : Nat) : Int) (N : Int) (i : Int)) ((gfP N : Nat) : Int) := by
  intro d
  induction d with
  | zero =>
    intro i hi
    refine Ev.succ ?_
    simp only [impl_gfPow.l0]
    rw [show i = N by omega]
    exact Ev.neg (by omega) (Ev.some_ rfl)
  | succ d ih =>
    intro i hi
    refine Ev.succ ?_
    simp only [impl_gfPow.l0]
    rw [w64_add (by omega) (by omega)]
    exact Ev.pos (by omega) (Ev.next (iGfMul_ev (gfP i) 2 (gfP_lt i) (by omega)) (ih (i + 1) (by omega)))
theorem iPow2_ev (n : Nat) (hn : n ≤ 300) : Ev (fun k => impl_gfPow.f k (n : Int)) ((gfP (n % 255) : Nat) : Int) := by
  unfold impl_gfPow.f
  rw [show Int.tmod (n : Int) 255 = ((n % 255 : Nat) : Int) by rw [Int.tmod_eq_emod_of_nonneg (by omega)]; omega]
  exact iPow2_l0 (n % 255) (by omega) (n % 255) 0 (by omega)
theorem mend_l3 (l : List Int) (hl : l.length ≤ 1000) : ∀ d i : Nat, i + d = l.length → Ev (fun k => impl_RsMend.l3 k l l 0 (l.length : Int) (i : Int)) (l, 0, true) := by
  intro d
  induction d with
  | zero =>
    intro i hi
    refine Ev.succ ?_
    simp only [impl_RsMend.l3]
    exact Ev.neg (by omega) (Ev.some_ rfl)
  | succ d ih =>
    intro i hi
    refine Ev.succ ?_
    simp only [impl_RsMend.l3]
    rw [w64_add (i := (i : Int)) (by omega) (by omega)]
    exact Ev.pos (by omega) (Ev.pos (by omega) (Ev.pos (by omega) (Ev.pos (by omega) (Ev.pos trivial (ih (i + 1) (by omega))))))
theorem mend_l1 (l : List Int) (hl : l.length ≤ 255) (x1 : Int) {res : List Int × Int × Bool} (H : Ev (fun k => if (([] : List Int).length : Int) > x1 then impl_RsMend.j3 k l x1 [] true else impl_RsMend.j3 k l x1 [] ((([] : List Int).length : Int) != wrap64 ((([1] : List Int).length : Int) - 1))) res) : ∀ d i : Nat, i + d = l.length → Ev (fun k => impl_RsMend.l1 k l x1 [1] [] (l.length : Int) (i : Int)) res := by
  have w1 : wrap64 ((([1] : List Int).length : Int) - 1) = 0 := by rw [w64 (by simp) (by simp)]; rfl
  intro d
  induction d with
  | zero =>
    intro i hi
    refine Ev.succ ?_
    simp only [impl_RsMend.l1]
    exact Ev.neg (by omega) H
  | succ d ih =>
    intro i hi
    have e : wrap64 (255 - Int.tmod (wrap64 (wrap64 ((l.length : Int) - 1) - (i : Int))) 255) = ((255 - (l.length - 1 - i) % 255 : Nat) : Int) := by
      rw [w64 (n := (l.length : Int) - 1) (by omega) (by omega), w64 (n := (l.length : Int) - 1 - (i : Int)) (by omega) (by omega), Int.tmod_eq_emod_of_nonneg (by omega), w64 (by omega) (by omega)]; omega
    have hp := gfP_lt ((255 - (l.length - 1 - i) % 255) % 255)
    have hm := iGfMul_ev 0 (gfP ((255 - (l.length - 1 - i) % 255) % 255)) (by decide) hp
    rw [gfM_zero] at hm
    refine Ev.succ ?_
    simp only [impl_RsMend.l1]
    rw [e, w1]
    refine Ev.pos (by omega) (Ev.next (iPow2_ev _ (by omega)) (Ev.succ ?_))
    simp only [impl_RsMend.l2]
    refine Ev.pos (by omega) (Ev.next hm (Ev.pos (by omega) (Ev.pos (by simp) (Ev.succ ?_))))
    simp only [impl_RsMend.l2]
    rw [w64 (n := (0 : Int) - 1) (by omega) (by omega), w64_add (i := (i : Int)) (by omega) (by omega)]
    exact Ev.neg (by omega) (Ev.neg (by show ¬ (bits .xor .i64 0 1 = 0); decide) (ih (i + 1) (by omega)))
def fillRows (n i : Nat) : List (List Int) := List.replicate i [0] ++ List.replicate (n - i) []
theorem fillRows_len {n i : Nat} (h : i ≤ n) : (fillRows n i).length = n := by unfold fillRows; simp; omega
theorem fillRows_set {n i : Nat} (h : i < n) : (fillRows n i).set i [0] = fillRows n (i + 1) := by
  unfold fillRows
  rw [List.set_append, if_neg (by simp), List.length_replicate, Nat.sub_self, show n - i = (n - (i + 1)) + 1 by omega, List.replicate_succ, List.set_cons_zero, List.replicate_succ', List.append_assoc]
  rfl
theorem fillRows_rd {n t : Nat} (h : t < n) : rd_L3 (fillRows n n) (t : Int) = [0] := by
  unfold fillRows rd_L3
  rw [Nat.sub_self, List.replicate_zero, List.append_nil, Int.toNat_natCast, List.getD_eq_getElem?_getD, List.getElem?_replicate, if_pos h]
  rfl
theorem fill_l1 (l : List Int) (hl : l.length ≤ 1000) (n : Nat) (hn : n ≤ 100) : ∀ d i : Nat, i + d = n → Ev (fun k => impl_fill.l1 k l 0 (fillRows n n) (n : Int) (i : Int)) (l, true) := by
  intro d
  induction d with
  | zero =>
    intro i hi
    refine Ev.succ ?_
    simp only [impl_fill.l1]
    have e : slices_Clone_byte_byte.f l = some l := by
      unfold slices_Clone_byte_byte.f
      rw [if_pos (by omega)]
    exact Ev.neg (by omega) (Ev.next (Ev.here e) (Ev.some_ rfl))
  | succ d ih =>
    intro i hi
    refine Ev.succ ?_
    simp only [impl_fill.l1]
    rw [fillRows_rd (n := n) (t := i) (by omega), fillRows_len (Nat.le_refl n), w64_add (i := (i : Int)) (by omega) (by omega)]
    exact Ev.pos (by omega) (Ev.pos (by omega) (Ev.pos (by omega) (Ev.pos (by omega) (Ev.pos (by simp) (Ev.pos rfl (ih (i + 1) (by omega)))))))
theorem fill_l0 (l : List Int) (hl : l.length ≤ 1000) (hb : isB l) (n : Nat) (hn : n ≤ 100) (hz : ∀ i, i < n → horn (gfP i) 0 l = 0) : ∀ d i : Nat, i + d = n → Ev (fun k => impl_fill.l0 k l 0 (fillRows n i) (n : Int) (i : Int)) (l, true) := by
  intro d
  induction d with
  | zero =>
    intro i hi
    have hin : i = n := by omega
    subst hin
    refine Ev.succ ?_
    simp only [impl_fill.l0]
    refine Ev.neg (by omega) (Ev.pos (by omega) (Ev.pos (by omega) (Ev.next (Ev.some_ rfl) ?_)))
    have := fill_l1 l hl i hn i 0 (by omega)
    simp only [Int.toNat_zero, List.drop_zero]
    rw [fillRows_len (Nat.le_refl i)]
    exact this
  | succ d ih =>
    intro i hi
    refine Ev.succ ?_
    simp only [impl_fill.l0]
    rw [w64_add (i := (i : Int)) (by omega) (by omega), fillRows_len (show i ≤ n by omega), Int.toNat_natCast]
    refine Ev.pos (by omega) (Ev.pos (by omega) (Ev.pos (by omega) (Ev.next (iValue_ev l hl hb i (by omega)) (Ev.pos (by simp) ?_))))
    rw [hz i (by omega)]
    have e : (fillRows n i).set i (([] : List Int) ++ [((0 : Nat) : Int)]) = fillRows n (i + 1) := fillRows_set (by omega)
    rw [e]
    exact ih (i + 1) (by omega)
theorem fill_ev (l : List Int) (hl : l.length ≤ 1000) (hb : isB l) (m : Nat) (hm : 1 ≤ m ∧ m ≤ 8) (hz : ∀ i, i < 2 * m → horn (gfP i) 0 l = 0) : Ev (fun k => impl_fill.f k l [] (m : Int)) (l, true) := by
  have w2 : wrap64 (2 * (m : Int)) = ((2 * m : Nat) : Int) := by rw [w64 (by omega) (by omega)]; omega
  have h0 := fill_l0 l hl hb (2 * m) (by omega) hz (2 * m) 0 (by omega)
  have e : fillRows (2 * m) 0 = List.replicate (2 * m) [] := by unfold fillRows; simp
  rw [e] at h0
  unfold impl_fill.f
  refine Ev.pos rfl ?_
  unfold impl_fillg.f
  rw [w2, Int.toNat_natCast]
  refine Ev.pos (by omega) (Ev.pos (by omega) (Ev.next (Ev.some_ rfl) ?_))
  rw [List.length_replicate]
  exact h0
theorem mend_l0 (l : List Int) (hl : l.length ≤ 255) (hb : isB l) (m : Nat) (hm : 1 ≤ m ∧ m ≤ 8) (h : 2 * m < l.length) (hz : ∀ i, i < 2 * m → horn (gfP i) 0 l = 0) : ∀ d i : Nat, i + d = 2 * m → Ev (fun k => impl_RsMend.l0 k l (m : Int) (List.replicate i 0) ((2 * m : Nat) : Int) (i : Int)) (l, 0, true) := by
  intro d
  induction d with
  | zero =>
    intro i hi
    refine Ev.succ ?_
    simp only [impl_RsMend.l0]
    refine Ev.neg (by omega) (Ev.next (loc_ev i (by omega)) (mend_l1 l hl (m : Int) ?_ l.length 0 (by omega)))
    have w1 : wrap64 ((([1] : List Int).length : Int) - 1) = 0 := by rw [w64 (by simp) (by simp)]; rfl
    rw [w1]
    refine Ev.neg (by simp) (Ev.succ ?_)
    simp only [impl_RsMend.j3]
    refine Ev.neg (by simp) (Ev.next (fill_ev l (by omega) hb m hm hz) (Ev.pos rfl (Ev.next (rsOk_ev l hb m hm h hl hz) (Ev.succ ?_))))
    simp only [impl_RsMend.j4]
    exact Ev.neg (by simp) (mend_l3 l (by omega) l.length 0 (by omega))
  | succ d ih =>
    intro i hi
    refine Ev.succ ?_
    simp only [impl_RsMend.l0]
    rw [w64_add (i := (i : Int)) (by omega) (by omega)]
    refine Ev.pos (by omega) (Ev.next (iValue_ev l (by omega) hb i (by omega)) (Ev.pos (by simp; omega) ?_))
    rw [hz i (by omega)]
    have e : List.replicate i (0 : Int) ++ [((0 : Nat) : Int)] = List.replicate (i + 1) 0 := by rw [List.replicate_succ']; rfl
    rw [e]
    exact ih (i + 1) (by omega)
/-- A code word is its own mending. -/
theorem mend_ev (l : List Int) (hl : l.length ≤ 255) (hb : isB l) (m : Nat) (hm : 1 ≤ m ∧ m ≤ 8) (h : 2 * m < l.length) (hz : ∀ i, i < 2 * m → horn (gfP i) 0 l = 0) : Ev (fun k => impl_RsMend.f k l (m : Int)) (l, 0, true) := by
  have w2 : wrap64 (2 * (m : Int)) = ((2 * m : Nat) : Int) := by rw [w64 (by omega) (by omega)]; omega
  unfold impl_RsMend.f
  rw [w2]
  exact Ev.next (Ev.here (word_ok l m hm h hl)) (Ev.pos rfl (mend_l0 l hl hb m hm h hz (2 * m) 0 (by omega)))
def blkR (R : Nat) : List S52 → List S52
  | [] => []
  | p :: xs => List.replicate R p ++ blkR R xs
theorem blkR_len (R : Nat) : ∀ l, (blkR R l).length = R * l.length
  | [] => rfl
  | p :: xs => by simp only [blkR, List.length_append, List.length_replicate, List.length_cons]; rw [blkR_len R xs, Nat.mul_succ]; omega
theorem blkR_map (R : Nat) (f : S52 → S52) : ∀ l, (blkR R l).map f = blkR R (l.map f)
  | [] => rfl
  | p :: xs => by simp only [blkR, List.map_append, List.map_replicate, List.map_cons]; rw [blkR_map R f xs]
theorem blkR_cut (R : Nat) : ∀ (l : List S52) (k : Nat), k < l.length → ((blkR R l).drop (R * k)).take R = List.replicate R (rd_T52 l (k : Int))
  | p :: xs, 0, _ => by
    simp only [blkR, Nat.mul_zero, List.drop_zero]
    rw [List.take_append_of_le_length (by simp), List.take_of_length_le (by simp)]; rfl
  | p :: xs, k + 1, h => by
    simp only [blkR]
    rw [Nat.mul_succ, Nat.add_comm, ← List.drop_drop, List.drop_left' (by simp)]
    have := blkR_cut R xs k (by simpa using h)
    rw [this]; rfl
def airQ (R d : Nat) (Q : List S52) : List S52 := List.replicate d z52 ++ blkR R Q
theorem airQ_cut (R d : Nat) (Q : List S52) (k : Nat) (hk : k < Q.length) : ((airQ R d Q).take (d + R * k + R)).drop (d + R * k) = List.replicate R (rd_T52 Q (k : Int)) := by
  unfold airQ
  rw [← blkR_cut R Q k hk, List.drop_take, show d + R * k + R - (d + R * k) = R by omega, ← List.drop_drop, List.drop_left' (by simp)]
theorem airQ_len (R d : Nat) (Q : List S52) : (airQ R d Q).length = d + R * Q.length := by unfold airQ; simp [blkR_len]
theorem sum_l0 (p : S52) (hp : -1000000000 ≤ p.f0 ∧ p.f0 ≤ 1000000000) (hq : -1000000000 ≤ p.f1 ∧ p.f1 ≤ 1000000000) (R : Nat) (hR : R ≤ 8) : ∀ (d i : Nat), i + d = R → Ev (fun k => impl_sum.l0 k (List.replicate R p) (R : Int) (i : Int) ((i : Int) * p.f0) ((i : Int) * p.f1)) ((R : Int) * p.f0, (R : Int) * p.f1) := by
  intro d
  induction d with
  | zero =>
    intro i hi
    refine Ev.succ ?_
    simp only [impl_sum.l0]
    rw [show i = R by omega]
    exact Ev.neg (by omega) (Ev.some_ rfl)
  | succ d ih =>
    intro i hi
    have e : rd_T52 (List.replicate R p) (i : Int) = p := by
      simp [rd_T52, List.getD_eq_getElem?_getD, List.getElem?_replicate, show i < R by omega]
    have b1 : ∀ x : Int, -1000000000 ≤ x ∧ x ≤ 1000000000 → wrap64 ((i : Int) * x + x) = ((i + 1 : Nat) : Int) * x := by
      intro x hx
      have hi8 : i ≤ 7 := by omega
      have e1 : (i : Int) * x + x = ((i + 1 : Nat) : Int) * x := by
        rw [Int.natCast_add, Int.add_mul]; simp
      have h7 : ∀ t : Fin 8, -1000000000 * 8 ≤ ((t.1 : Nat) : Int) * x + x ∧ ((t.1 : Nat) : Int) * x + x ≤ 1000000000 * 8 := by
        intro t
        match t with
        | ⟨0, _⟩ => simp; omega
        | ⟨1, _⟩ => simp; omega
        | ⟨2, _⟩ => simp; omega
        | ⟨3, _⟩ => simp; omega
        | ⟨4, _⟩ => simp; omega
        | ⟨5, _⟩ => simp; omega
        | ⟨6, _⟩ => simp; omega
        | ⟨7, _⟩ => simp; omega
      have := h7 ⟨i, by omega⟩
      simp only at this
      rw [← e1, w64 (by omega) (by omega)]
    refine Ev.succ ?_
    simp only [impl_sum.l0]
    rw [e, b1 _ hp, b1 _ hq, wadd1 (e := i) (by omega)]
    exact Ev.pos (by omega) (Ev.pos (by omega) (Ev.pos (by simp; omega) (ih (i + 1) (by omega))))
theorem sum_ev (p : S52) (hp : -1000000000 ≤ p.f0 ∧ p.f0 ≤ 1000000000) (hq : -1000000000 ≤ p.f1 ∧ p.f1 ≤ 1000000000) (R : Nat) (hR : R ≤ 8) : Ev (fun k => impl_sum.f k (List.replicate R p)) ((R : Int) * p.f0, (R : Int) * p.f1) := by
  unfold impl_sum.f
  rw [List.length_replicate]
  have := sum_l0 p hp hq R hR R 0 (by omega)
  simpa using this
theorem backQ (q : Nat) (hq : q ≤ 3) : Int.tmod (wrap64 (4 - (q : Int))) 4 = (((4 - q) % 4 : Nat) : Int) := by
  rw [w64 (by omega) (by omega), Int.tmod_eq_emod_of_nonneg (by omega)]; omega
/-- A point turned on to the whole round. -/
theorem rotGo_round (q : Nat) (hq : q ≤ 3) (a b : Int) (ha : -9000000000000 ≤ a ∧ a ≤ 9000000000000) (hb : -9000000000000 ≤ b ∧ b ≤ 9000000000000) : rotGo ((4 - q) % 4) (rotGo q a b).1 (rotGo q a b).2 = (a, b) := by
  have n : ∀ x : Int, -9000000000000 ≤ x ∧ x ≤ 9000000000000 → wrap64 (-x) = -x := fun x h => w64 (by omega) (by omega)
  have na := n a ha
  have nb := n b hb
  have nna := n (-a) (by omega)
  have nnb := n (-b) (by omega)
  rw [Int.neg_neg] at nna nnb
  match q, hq with
  | 0, _ => rfl
  | 1, _ =>
    show rotGo 3 (wrap64 (-b)) a = (a, b)
    simp only [rotGo, na, nb, Int.neg_neg, nna, nnb]
  | 2, _ =>
    show rotGo 2 (rotGo 2 a b).1 (rotGo 2 a b).2 = (a, b)
    simp only [rotGo, na, nb, Int.neg_neg, nna, nnb]
  | 3, _ =>
    show rotGo 1 (rotGo 3 a b).1 (rotGo 3 a b).2 = (a, b)
    simp only [rotGo, na, nb, Int.neg_neg, nna, nnb]
theorem rotGo_mul (c : Int) (q : Nat) (hq : q ≤ 3) (a b : Int) (ha : -1000000000 ≤ a ∧ a ≤ 1000000000) (hb : -1000000000 ≤ b ∧ b ≤ 1000000000) (ha2 : -9000000000000 ≤ c * a ∧ c * a ≤ 9000000000000) (hb2 : -9000000000000 ≤ c * b ∧ c * b ≤ 9000000000000) : (c * (rotGo q a b).1, c * (rotGo q a b).2) = rotGo q (c * a) (c * b) := by
  have n : ∀ x : Int, -9000000000000 ≤ x ∧ x ≤ 9000000000000 → wrap64 (-x) = -x := fun x h => w64 (by omega) (by omega)
  have na := n a (by omega)
  have nb := n b (by omega)
  have wb : wrap64 b = b := w64 (by omega) (by omega)
  have wcb : wrap64 (c * b) = c * b := w64 (by omega) (by omega)
  have ma := n (c * a) (by omega)
  have mb := n (c * b) (by omega)
  have mna := n (-(c * a)) (by omega)
  have mnb := n (-(c * b)) (by omega)
  match q, hq with
  | 0, _ => rfl
  | 1, _ => simp only [rotGo, nb, mb, Int.mul_neg]
  | 2, _ => simp only [rotGo, na, nb, ma, mb, Int.mul_neg]
  | 3, _ => simp only [rotGo, na, nb, ma, mb, Int.mul_neg, Int.neg_neg, wb, wcb]
theorem rotGo_bd (N : Int) (hN : 0 ≤ N ∧ N ≤ 1000000000) : ∀ (q : Nat) (a b : Int), (-N ≤ a ∧ a ≤ N) → (-N ≤ b ∧ b ≤ N) → (-N ≤ (rotGo q a b).1 ∧ (rotGo q a b).1 ≤ N) ∧ (-N ≤ (rotGo q a b).2 ∧ (rotGo q a b).2 ≤ N)
  | 0, _, _, ha, hb => ⟨ha, hb⟩
  | q + 1, a, b, ha, hb => by
    simp only [rotGo]
    rw [w64 (n := -b) (by omega) (by omega)]
    exact rotGo_bd N hN q _ _ (by omega) ha
theorem lv_small : ∀ (H : Fin 5) (t : Fin 16), t.1 < 2 ^ H.1 → -15 ≤ lvEnd H.1 ((t.1 : Nat) : Int) ∧ lvEnd H.1 ((t.1 : Nat) : Int) ≤ 15 := by decide +kernel
theorem lvN_num {l : List Int} (hb : isBits l) (H a : Nat) (hH : 1 ≤ H ∧ H ≤ 4) : ∃ v : Nat, lvN l H a 0 = (v : Int) ∧ v < 16 ∧ ug v < 2 ^ H ∧ bitsDown v H = rdN l H a := by
  obtain ⟨v, hv, h2⟩ := lvN_div hb H a 0
  have hz : ((0 : Nat) : Int) = 0 := rfl
  rw [hz] at hv
  have hlt : v < 2 ^ H := by
    rcases Nat.lt_or_ge v (2 ^ H) with h | h
    · exact h
    · have := Nat.div_pos h (Nat.two_pow_pos H); omega
  have h16 : v < 16 := Nat.lt_of_lt_of_le hlt (by have : 2 ^ H ≤ 2 ^ 4 := Nat.pow_le_pow_right (by omega) hH.2; omega)
  refine ⟨v, hv, h16, ?_, bits_lvN hb H a 0 v hv⟩
  have u := ug_lt ⟨v, h16⟩
  simp only at u
  obtain ⟨h1, h2⟩ := hH
  match H, h1, h2 with
  | 1, _, _ => exact u.2.1 (by simpa using hlt)
  | 2, _, _ => exact u.2.2.1 (by simpa using hlt)
  | 3, _, _ => exact u.2.2.2 (by simpa using hlt)
  | 4, _, _ => exact u.1
theorem lvOf_put {l : List Int} (hb : isBits l) (H a : Nat) (hH : 1 ≤ H ∧ H ≤ 4) (acc : List Int) (ha : acc.length ≤ 4000) : Ev (fun k => impl_put.f k (lvOf l H a) (H : Int) acc) (acc ++ rdN l H a) := by
  obtain ⟨v, hv, h16, hu, hd⟩ := lvN_num hb H a hH
  unfold lvOf
  rw [hv, Int.toNat_natCast, ← hd]
  exact put_ev H hH v h16 hu acc ha
theorem lvOf_bd {l : List Int} (hb : isBits l) (H a : Nat) (hH : 1 ≤ H ∧ H ≤ 4) : -15 ≤ lvOf l H a ∧ lvOf l H a ≤ 15 := by
  obtain ⟨v, hv, h16, hu, hd⟩ := lvN_num hb H a hH
  have hl := (ug_lt ⟨v, h16⟩).1
  simp only at hl
  unfold lvOf
  rw [hv, Int.toNat_natCast]
  exact lv_small ⟨H, by omega⟩ ⟨ug v, hl⟩ hu
theorem mapGo_rd (l : List Int) (H : Nat) : ∀ (d i j : Nat), j < d → rd_T52 (mapGo l H d i) (j : Int) = ⟨lvOf l H (i + 2 * H * j), lvOf l H (i + 2 * H * j + H)⟩
  | d + 1, i, 0, _ => rfl
  | d + 1, i, j + 1, h => by
    have := mapGo_rd l H d (i + 2 * H) j (by omega)
    rw [show i + 2 * H + 2 * H * j = i + 2 * H * (j + 1) by rw [Nat.mul_succ]; omega] at this
    exact this
theorem decide_l0 (l : List Int) (hb : isBits l) (H n : Nat) (hH : 1 ≤ H ∧ H ≤ 4) (hn : 2 * H * n ≤ 1024) : ∀ (d i : Nat) (acc : List Int), i + d = n → acc.length = 2 * H * i → Ev (fun k => impl_Decide.l0 k (H : Int) acc (mapGo l H n 0) (n : Int) (i : Int)) (acc ++ rdN l (2 * H * d) (2 * H * i), true) := by
  intro d
  induction d with
  | zero =>
    intro i acc hi ha
    refine Ev.succ ?_
    simp only [impl_Decide.l0]
    exact Ev.neg (by omega) (Ev.some_ (by simp [rdN]))
  | succ d ih =>
    intro i acc hi ha
    have e := mapGo_rd l H n 0 i (by omega)
    rw [Nat.zero_add] at e
    have b0 := lvOf_bd hb H (2 * H * i) hH
    have b1 := lvOf_bd hb H (2 * H * i + H) hH
    have sm : ∀ x : Int, -15 ≤ x ∧ x ≤ 15 → impl_sample.f x = some true := fun x h => by
      unfold impl_sample.f; rw [if_pos (by omega), decide_eq_true (by omega)]
    have hm : 2 * H * i + 2 * H * (d + 1) = 2 * H * n := by rw [← Nat.mul_add, hi]
    have hm2 : 2 * H * (d + 1) = 2 * H + 2 * H * d := by rw [Nat.mul_succ]; omega
    have hm3 : 2 * H * (i + 1) = 2 * H * i + 2 * H := Nat.mul_succ _ _
    have nn : n ≤ 1024 := by
      have : 1 * n ≤ 2 * H * n := Nat.mul_le_mul_right n (by omega)
      omega
    refine Ev.succ ?_
    simp only [impl_Decide.l0]
    rw [e]
    refine Ev.pos (by omega) (Ev.pos (by omega) (Ev.pos (by rw [mapGo_len]; omega) (Ev.next (Ev.here (sm _ b0)) (Ev.pos rfl (Ev.next (Ev.here (sm _ b1)) (Ev.succ ?_))))))
    simp only [impl_Decide.j2]
    rw [wadd1 (e := i) (by omega)]
    have p1 := lvOf_put hb H (2 * H * i) hH acc (by omega)
    have p2 := lvOf_put hb H (2 * H * i + H) hH (acc ++ rdN l H (2 * H * i)) (by rw [List.length_append, rdN_len]; omega)
    refine Ev.neg (by decide) (Ev.next p1 (Ev.next p2 ?_))
    have hl : (acc ++ rdN l H (2 * H * i) ++ rdN l H (2 * H * i + H)).length = 2 * H * (i + 1) := by
      rw [List.length_append, List.length_append, rdN_len, rdN_len]; omega
    refine (ih (i + 1) _ (by omega) hl).to ?_
    rw [hm2, rdN_add, show 2 * H = H + H by omega, rdN_add, show (H + H) * i + (H + H) = (H + H) * (i + 1) from (Nat.mul_succ _ _).symm]
    simp
theorem decide_ev (l : List Int) (hb : isBits l) (H n : Nat) (hH : 1 ≤ H ∧ H ≤ 4) (hn : 2 * H * n ≤ 1024) : Ev (fun k => impl_Decide.f k ((2 * H : Nat) : Int) (mapGo l H n 0)) (rdN l (2 * H * n) 0, true) := by
  have e1 : wrap64 (((mapGo l H n 0).length : Int) * ((2 * H : Nat) : Int)) = ((2 * H * n : Nat) : Int) := by
    rw [mapGo_len, w64]
    · rw [Nat.mul_comm (2 * H) n]; simp
    · have : (0 : Int) ≤ (n : Int) * ((2 * H : Nat) : Int) := Int.mul_nonneg (by omega) (by omega)
      omega
    · have : (n : Int) * ((2 * H : Nat) : Int) = ((n * (2 * H) : Nat) : Int) := by simp
      rw [this, Nat.mul_comm]; omega
  have e2 : impl_isWidth.f ((2 * H : Nat) : Int) = some true := by rw [isWidth_eq, widthB_two hH]
  have e3 : wrap64 (Int.tdiv ((2 * H : Nat) : Int) 2) = (H : Int) := by
    rw [Int.tdiv_eq_ediv_of_nonneg (by omega), w64 (by omega) (by omega)]; omega
  unfold impl_Decide.f
  rw [e1]
  refine Ev.next (Ev.here e2) (Ev.pos rfl ?_)
  rw [decide_eq_false (by omega)]
  refine Ev.succ ?_
  simp only [impl_Decide.j0]
  rw [e3, mapGo_len]
  exact Ev.neg (by decide) (decide_l0 l hb H n hH hn n 0 [] (by omega) rfl)
theorem unweave_l0 (l : List Int) (hl : l.length ≤ 1024) (o : List Int) (ho : ∀ x ∈ o, 0 ≤ x ∧ x < (l.length : Int)) (hn : o.length ≤ 100000) : ∀ (d i : Nat) (acc : List Int), i + d = o.length → acc.length = l.length → Ev (fun k => impl_Unweave.l0 k (o.map (fun x => rd l x)) acc o (o.length : Int) (i : Int)) (scat l (o.drop i) acc, true) := by
  intro d
  induction d with
  | zero =>
    intro i acc hi ha
    refine Ev.succ ?_
    simp only [impl_Unweave.l0]
    rw [List.drop_of_length_le (by omega)]
    exact Ev.neg (by omega) (Ev.some_ rfl)
  | succ d ih =>
    intro i acc hi ha
    have hx := ho _ (rd_mem (xs := o) (i := i) (by omega))
    have e : rd (o.map (fun x => rd l x)) (i : Int) = rd l (rd o (i : Int)) := by
      rw [rd_nat, rd_get o i (by omega)]
      simp [List.getD_eq_getElem?_getD, show i < o.length by omega]
    refine Ev.succ ?_
    simp only [impl_Unweave.l0]
    rw [e, wadd1 (e := i) (by omega), drop_rd (xs := o) (i := i) (by omega)]
    exact Ev.pos (by omega) (Ev.pos (by omega) (Ev.pos (by omega) (Ev.pos (by rw [List.length_map]; omega) (Ev.pos hx.1 (Ev.pos (by omega) (ih (i + 1) _ (by omega) (by simpa using ha)))))))
theorem unweave_ev (l : List Int) (r : Nat) (hl : l.length ≤ 1024) (hr : 1 ≤ r ∧ r ≤ 64) : Ev (fun k => impl_Unweave.f k (weaveOf l r) (r : Int)) (l, true) := by
  have hc := weaveOf_count l r hr.1
  have e : impl_weaves.f (weaveOf l r) (r : Int) = some true := by
    unfold impl_weaves.f
    rw [if_pos (by omega), if_pos (by omega)]; simp; omega
  unfold impl_Unweave.f
  refine Ev.next (Ev.here e) (Ev.pos rfl ?_)
  rw [hc, Int.toNat_natCast]
  refine Ev.pos (by omega) (Ev.pos (by omega) (Ev.next (iOrd_ev l.length r hl hr) ?_))
  have := unweave_l0 l hl (ordOf l.length r) (ordAll_bd _ _ _ _ _) (by rw [ordOf_count _ _ hr.1]; omega) (ordOf l.length r).length 0 (List.replicate l.length 0) (by omega) (by simp)
  rw [List.drop_zero, weave_back l r hr.1] at this
  exact this
theorem mx_neg {x : Int} (h : -1000000000000 ≤ x ∧ x ≤ 1000000000000) : impl_size.f x = some (if x < 0 then -x else x) := by
  unfold impl_size.f mx
  rw [w64 (by omega) (by omega)]
  congr 1
  split <;> split <;> omega
theorem hrFar_iff {si : Int} (hs : 1 ≤ si ∧ si ≤ 10000) {p : S52} (hp : -1000000000 ≤ p.f0 ∧ p.f0 ≤ 1000000000) (hq : -1000000000 ≤ p.f1 ∧ p.f1 ≤ 1000000000) : hrFar si p = decide ((16 * si < p.f0 ∨ 16 * si < -p.f0) ∨ (16 * si < p.f1 ∨ 16 * si < -p.f1)) := by
  have w : wrap64 (16 * si) = 16 * si := w64 (by omega) (by omega)
  unfold hrFar impl_Hear_1.f
  rw [mx_neg (x := p.f0) (by omega), mx_neg (x := p.f1) (by omega), w]
  simp only [Option.bind_some]
  by_cases h1 : (if p.f0 < 0 then -p.f0 else p.f0) > 16 * si
  · rw [if_pos h1, decide_eq_true (by split at h1 <;> omega)]; rfl
  · rw [if_neg h1]
    by_cases h2 : (if p.f1 < 0 then -p.f1 else p.f1) > 16 * si
    · rw [decide_eq_true h2, decide_eq_true (by split at h2 <;> omega)]; rfl
    · rw [decide_eq_false h2, decide_eq_false (by split at h1 <;> split at h2 <;> omega)]; rfl
theorem hrIdx_zeros {si : Int} (hs : 1 ≤ si ∧ si ≤ 10000) (p : S52) (xs : List S52) (hf : hrFar si p = true) : ∀ (d : Nat) (i : Int), hrIdx si (List.replicate d z52 ++ p :: xs) i = i + d
  | 0, i => by simp [hrIdx, hf]
  | d + 1, i => by
    have hz : hrFar si z52 = false := by
      rw [hrFar_iff hs (p := z52) (by unfold z52; simp) (by unfold z52; simp)]
      unfold z52
      simp; omega
    simp only [List.replicate_succ, List.cons_append, hrIdx]
    rw [if_neg (by rw [hz]; decide), hrIdx_zeros hs p xs hf d (i + 1)]
    omega
def scP (si : Int) (p : S52) : S52 := ⟨wrap64 (p.f0 * si), wrap64 (p.f1 * si)⟩
theorem sendGo_blk (R : Nat) (si : Int) : ∀ P, sendGo (R : Int) si P = blkR R (P.map (scP si))
  | [] => rfl
  | p :: xs => by simp only [sendGo, List.map_cons, blkR]; rw [sendGo_blk R si xs]; rfl
theorem mul_bd {a si : Int} (ha : -32 ≤ a ∧ a ≤ 32) (hs : 1 ≤ si ∧ si ≤ 10000) : -320000 ≤ a * si ∧ a * si ≤ 320000 := by
  have h1 : a * si ≤ 32 * si := Int.mul_le_mul_of_nonneg_right ha.2 (by omega)
  have h2 : -32 * si ≤ a * si := Int.mul_le_mul_of_nonneg_right ha.1 (by omega)
  omega
theorem mul_bd8 {R a : Int} (hR : 0 ≤ R ∧ R ≤ 8) (ha : -320000 ≤ a ∧ a ≤ 320000) : -9000000 ≤ R * a ∧ R * a ≤ 9000000 := by
  have h1 : R * a ≤ R * 320000 := Int.mul_le_mul_of_nonneg_left ha.2 hR.1
  have h2 : R * -320000 ≤ R * a := Int.mul_le_mul_of_nonneg_left ha.1 hR.1
  omega
/-- The points that are heard: the sent ones, turned. -/
def heardQ (q : Nat) (si : Int) (P : List S52) : List S52 := (⟨32 * si, 0⟩ :: P.map (scP si)).map (turnP q)
theorem turn_bd {N : Int} (hN : 0 ≤ N ∧ N ≤ 1000000000) (q : Nat) {p : S52} (h0 : -N ≤ p.f0 ∧ p.f0 ≤ N) (h1 : -N ≤ p.f1 ∧ p.f1 ≤ N) : (-N ≤ (turnP q p).f0 ∧ (turnP q p).f0 ≤ N) ∧ (-N ≤ (turnP q p).f1 ∧ (turnP q p).f1 ≤ N) := rotGo_bd N hN q _ _ h0 h1
def smallP (P : List S52) : Prop := ∀ p ∈ P, (-15 ≤ p.f0 ∧ p.f0 ≤ 15) ∧ (-15 ≤ p.f1 ∧ p.f1 ≤ 15)
theorem heardQ_bd {q : Nat} {si : Int} (hs : 1 ≤ si ∧ si ≤ 10000) {P : List S52} (hP : smallP P) : ∀ p ∈ heardQ q si P, (-320000 ≤ p.f0 ∧ p.f0 ≤ 320000) ∧ (-320000 ≤ p.f1 ∧ p.f1 ≤ 320000) := by
  intro p hp
  unfold heardQ at hp
  obtain ⟨x, hx, rfl⟩ := List.mem_map.1 hp
  rcases List.mem_cons.1 hx with rfl | hx
  · exact turn_bd (by omega) q (by simp only; omega) (by simp only; omega)
  · obtain ⟨y, hy, rfl⟩ := List.mem_map.1 hx
    have h := hP y hy
    have b0 := mul_bd (a := y.f0) (by omega) hs
    have b1 := mul_bd (a := y.f1) (by omega) hs
    have e : scP si y = ⟨y.f0 * si, y.f1 * si⟩ := by unfold scP; rw [w64 (by omega) (by omega), w64 (by omega) (by omega)]
    rw [e]
    exact turn_bd (by omega) q (by simp only; omega) (by simp only; omega)
theorem heardQ_len (q : Nat) (si : Int) (P : List S52) : (heardQ q si P).length = P.length + 1 := by unfold heardQ; simp
theorem heardQ_get (q : Nat) (si : Int) (P : List S52) (i : Nat) (hi : i < P.length) : rd_T52 (heardQ q si P) ((i + 1 : Nat) : Int) = turnP q (scP si (rd_T52 P (i : Int))) := by
  unfold heardQ rd_T52
  simp [List.getD_eq_getElem?_getD, hi]
theorem mem52 {P : List S52} {i : Nat} (h : i < P.length) : rd_T52 P (i : Int) ∈ P := by
  rw [show rd_T52 P (i : Int) = P[i] by simp [rd_T52, List.getD_eq_getElem?_getD, h]]
  exact List.getElem_mem h
theorem take52 {xs : List S52} {i : Nat} (h : i < xs.length) : xs.take (i + 1) = xs.take i ++ [rd_T52 xs (i : Int)] := by
  rw [show rd_T52 xs (i : Int) = xs[i] by simp [rd_T52, List.getD_eq_getElem?_getD, h]]; exact (List.take_append_getElem h).symm
theorem from_int {R i d T : Nat} (hT : T = R * (i + 1)) (h : T ≤ 4000) (hi : i ≤ 1000) (hd : d ≤ 200) (hR : R ≤ 8) : wrap64 ((d : Int) + wrap64 ((R : Int) * wrap64 (1 + (i : Int)))) = ((d + T : Nat) : Int) ∧ wrap64 (((d + T : Nat) : Int) + (R : Int)) = ((d + T + R : Nat) : Int) := by
  have e0 : (R : Int) * (1 + (i : Int)) = (T : Int) := by rw [hT, Int.add_comm]; simp
  refine ⟨?_, ?_⟩
  · rw [w64 (n := 1 + (i : Int)) (by omega) (by omega), e0, w64 (n := (T : Int)) (by omega) (by omega), w64 (by omega) (by omega)]; omega
  · rw [w64 (by omega) (by omega)]; omega
theorem hear_l0 (R d q : Nat) (si : Int) (P : List S52) (hR : 1 ≤ R ∧ R ≤ 8) (hd : d ≤ 200) (hq : q ≤ 3) (hs : 1 ≤ si ∧ si ≤ 10000) (hP : smallP P) (hPl : P.length ≤ 500) (x2 x10 w m r s : Int) {res : List Int × Int × Bool}
    (H : Ev (fun k => (impl_Decide.f k w P).bind fun bt => if 0 ≤ x10 then (if x10 ≤ (bt.1.length : Int) then (impl_Stir.f k (bt.1.take x10.toNat) 46080 s).bind fun bt2 => (impl_Unweave.f k bt2.1 r).bind fun bt3 => (impl_pack8.f k bt3.1).bind fun t => (impl_RsMend.f k t m).bind fun bt4 => if bt4.2.2 = true then (if 0 ≤ x2 then (if x2 ≤ (bt4.1.length : Int) then some (bt4.1.take x2.toNat, bt4.2.1, true) else none) else none) else some ([], 0, false) else none) else none) res) :
    ∀ (n i : Nat), i + n = P.length → Ev (fun k => impl_Hear.l0 k (airQ R d (heardQ q si P)) x2 (d : Int) x10 (q : Int) (P.take i) (P.length : Int) (i : Int) w m r s (R : Int) si) res := by
  intro n
  induction n with
  | zero =>
    intro i hi
    refine Ev.succ ?_
    simp only [impl_Hear.l0]
    have ht : P.take i = P := List.take_of_length_le (by omega)
    rw [ht]
    exact Ev.neg (by omega) H
  | succ n ih =>
    intro i hi
    obtain ⟨T, hT⟩ : ∃ T, T = R * (i + 1) := ⟨_, rfl⟩
    have hRi : T ≤ 4000 := by rw [hT]; exact Nat.le_trans (Nat.mul_le_mul hR.2 (show i + 1 ≤ 500 by omega)) (by decide)
    have hRt : T + R ≤ R * (P.length + 1) := by rw [hT, ← Nat.mul_succ]; exact Nat.mul_le_mul_left R (by omega)
    have hl := airQ_len R d (heardQ q si P)
    rw [heardQ_len] at hl
    have hc := airQ_cut R d (heardQ q si P) (i + 1) (by rw [heardQ_len]; omega)
    rw [← hT] at hc
    have hp := hP _ (mem52 (P := P) (i := i) (by omega))
    have b0 := mul_bd (a := (rd_T52 P (i : Int)).f0) (by omega) hs
    have b1 := mul_bd (a := (rd_T52 P (i : Int)).f1) (by omega) hs
    have hQ := heardQ_bd (q := q) hs hP _ (mem52 (P := heardQ q si P) (i := i + 1) (by rw [heardQ_len]; omega))
    have hsum := sum_ev (rd_T52 (heardQ q si P) ((i + 1 : Nat) : Int)) (by omega) (by omega) R hR.2
    have eS : scP si (rd_T52 P (i : Int)) = ⟨(rd_T52 P (i : Int)).f0 * si, (rd_T52 P (i : Int)).f1 * si⟩ := by unfold scP; rw [w64 (by omega) (by omega), w64 (by omega) (by omega)]
    rw [heardQ_get q si P i (by omega), eS] at hsum hc
    have hsum' := hsum
    have c0 := mul_bd8 (R := (R : Int)) (by omega) b0
    have c1 := mul_bd8 (R := (R : Int)) (by omega) b1
    have em := rotGo_mul (R : Int) q hq ((rd_T52 P (i : Int)).f0 * si) ((rd_T52 P (i : Int)).f1 * si) (by omega) (by omega) (by omega) (by omega)
    have er := rotGo_round q hq ((R : Int) * ((rd_T52 P (i : Int)).f0 * si)) ((R : Int) * ((rd_T52 P (i : Int)).f1 * si)) (by omega) (by omega)
    have hT2' := iTurned_l0 ((4 - q) % 4) (by omega) ((4 - q) % 4) 0 (rotGo q ((R : Int) * ((rd_T52 P (i : Int)).f0 * si)) ((R : Int) * ((rd_T52 P (i : Int)).f1 * si))).1 (rotGo q ((R : Int) * ((rd_T52 P (i : Int)).f0 * si)) ((R : Int) * ((rd_T52 P (i : Int)).f1 * si))).2 (by omega)
    rw [er] at hT2'
    have hT2 : Ev (fun k => impl_turned.f k ((R : Int) * (turnP q ⟨(rd_T52 P (i : Int)).f0 * si, (rd_T52 P (i : Int)).f1 * si⟩).f0) ((R : Int) * (turnP q ⟨(rd_T52 P (i : Int)).f0 * si, (rd_T52 P (i : Int)).f1 * si⟩).f1) (Int.tmod (wrap64 (4 - (q : Int))) 4)) ((R : Int) * ((rd_T52 P (i : Int)).f0 * si), (R : Int) * ((rd_T52 P (i : Int)).f1 * si)) := by
      unfold impl_turned.f turnP
      rw [backQ q hq]
      have g0 : (R : Int) * (rotGo q ((rd_T52 P (i : Int)).f0 * si) ((rd_T52 P (i : Int)).f1 * si)).1 = (rotGo q ((R : Int) * ((rd_T52 P (i : Int)).f0 * si)) ((R : Int) * ((rd_T52 P (i : Int)).f1 * si))).1 := congrArg Prod.fst em
      have g1 : (R : Int) * (rotGo q ((rd_T52 P (i : Int)).f0 * si) ((rd_T52 P (i : Int)).f1 * si)).2 = (rotGo q ((R : Int) * ((rd_T52 P (i : Int)).f0 * si)) ((R : Int) * ((rd_T52 P (i : Int)).f1 * si))).2 := congrArg Prod.snd em
      simp only
      rw [g0, g1]
      exact hT2'
    have hRsi : 1 ≤ (R : Int) * si ∧ (R : Int) * si ≤ 80000 := by
      have h1 : (R : Int) * si ≤ 8 * si := Int.mul_le_mul_of_nonneg_right (by omega) (by omega)
      have h2 : 1 * si ≤ (R : Int) * si := Int.mul_le_mul_of_nonneg_right (by omega) (by omega)
      omega
    have rnd : ∀ a : Int, -15 ≤ a ∧ a ≤ 15 → Ev (fun k => impl_RoundDiv.f k ((R : Int) * (a * si)) (wrap64 ((R : Int) * si))) a := by
      intro a ha
      have e : (R : Int) * (a * si) = a * ((R : Int) * si) := by rw [← Int.mul_assoc, Int.mul_comm (R : Int) a, Int.mul_assoc]
      have bb := mul_bd8 (R := (R : Int)) (by omega) (mul_bd (a := a) (by omega) hs)
      rw [w64 (by omega) (by omega), e]
      exact round_ev a _ (by omega) (by omega) (by rw [← e]; omega)
    clear em er hT2' hsum b0 b1 c0 c1 hQ eS
    have hio : i ≤ 1000 := by omega
    obtain ⟨e1, e2⟩ := from_int (d := d) hT hRi hio hd hR.2
    have e3 := wadd1 (e := i) (Nat.le_trans hio (by decide))
    refine Ev.succ ?_
    simp only [impl_Hear.l0]
    rw [e1, e2, e3, Int.toNat_natCast, Int.toNat_natCast, hc]
    clear e1 e2 e3 hc hT
    refine Ev.pos (by omega) (Ev.pos (by omega) (Ev.pos (by omega) (Ev.pos (by rw [hl]; omega) (Ev.next hsum' (Ev.next hT2 (Ev.next (rnd _ hp.1) (Ev.next (rnd _ hp.2) (Ev.pos (by rw [List.length_take]; omega) ?_))))))))
    have := ih (i + 1) (by omega)
    rw [take52 (by omega)] at this
    exact this
theorem sym_int {n H : Nat} (hH : 1 ≤ H ∧ H ≤ 4) (hn : n ≤ 1000) : wrap64 (Int.tdiv (wrap64 (wrap64 ((n : Int) + ((2 * H : Nat) : Int)) - 1)) ((2 * H : Nat) : Int)) = (((n + padOf n (2 * H)) / (2 * H) : Nat) : Int) := by
  rw [w64 (n := (n : Int) + ((2 * H : Nat) : Int)) (by omega) (by omega), w64 (n := (n : Int) + ((2 * H : Nat) : Int) - 1) (by omega) (by omega), Int.tdiv_eq_ediv_of_nonneg (by omega)]
  obtain ⟨h1, h2⟩ := hH
  unfold padOf
  match H, h1, h2 with
  | 1, _, _ => rw [w64 (by omega) (by omega)]; omega
  | 2, _, _ => rw [w64 (by omega) (by omega)]; omega
  | 3, _, _ => rw [w64 (by omega) (by omega)]; omega
  | 4, _, _ => rw [w64 (by omega) (by omega)]; omega
theorem head_sum (q : Nat) (hq : q ≤ 3) (R : Nat) (hR : 1 ≤ R ∧ R ≤ 8) (si : Int) (hs : 1 ≤ si ∧ si ≤ 10000) (c : Nat → Int → Option (List Int × Int × Bool)) {res : List Int × Int × Bool} (H : Ev (fun k => c k (q : Int)) res) :
    Ev (fun k => (impl_sum.f k (List.replicate R (turnP q ⟨32 * si, 0⟩))).bind fun bt580 => (impl_size.f bt580.1).bind fun t583 => (impl_size.f bt580.2).bind fun t584 => (if t583 ≥ t584 then (if bt580.1 ≤ 0 then c k 2 else c k 0) else (if bt580.2 > 0 then c k 1 else c k 3))) res := by
  have ht := turn_bd (N := 320000) (by omega) q (p := ⟨32 * si, 0⟩) (by simp only; omega) (by simp only; omega)
  have hsum := sum_ev (turnP q ⟨32 * si, 0⟩) (by omega) (by omega) R hR.2
  have hm := mul_bd8 (R := (R : Int)) (by omega) ht.1
  have hm2 := mul_bd8 (R := (R : Int)) (by omega) ht.2
  refine Ev.next hsum (Ev.next (Ev.here (mx_neg (by simp only; omega))) (Ev.next (Ev.here (mx_neg (by simp only; omega))) ?_))
  have g : 1 ≤ (R : Int) * (32 * si) := by
    have : 1 * (32 * si) ≤ (R : Int) * (32 * si) := Int.mul_le_mul_of_nonneg_right (by omega) (by omega)
    omega
  have n1 : wrap64 (-(0 : Int)) = 0 := by rw [w64 (by omega) (by omega)]; rfl
  have n2 : wrap64 (-(32 * si)) = -(32 * si) := w64 (by omega) (by omega)
  have gn : (R : Int) * -(32 * si) = -((R : Int) * (32 * si)) := Int.mul_neg _ _
  have hna : ∀ x : Int, (if x < 0 then -x else x) = ((x.natAbs : Nat) : Int) := fun x => by split <;> omega
  clear hsum hm hm2 ht
  simp only [hna]
  match q, hq with
  | 0, _ =>
    simp only [turnP, rotGo, Int.mul_zero]
    exact Ev.pos (by omega) (Ev.neg (by omega) H)
  | 1, _ =>
    simp only [turnP, rotGo, n1, Int.mul_zero]
    exact Ev.neg (by omega) (Ev.pos (by omega) H)
  | 2, _ =>
    simp only [turnP, rotGo, n1, n2, Int.mul_zero, gn]
    exact Ev.pos (by omega) (Ev.pos (by omega) H)
  | 3, _ =>
    simp only [turnP, rotGo, n1, n2, Int.mul_zero, gn]
    exact Ev.neg (by omega) (Ev.neg (by omega) H)
theorem far_head (q : Nat) (hq : q ≤ 3) (si : Int) (hs : 1 ≤ si ∧ si ≤ 10000) : hrFar si (turnP q ⟨32 * si, 0⟩) = true := by
  have ht := turn_bd (N := 320000) (by omega) q (p := ⟨32 * si, 0⟩) (by simp only; omega) (by simp only; omega)
  rw [hrFar_iff hs (by omega) (by omega), decide_eq_true_eq]
  clear ht
  have n1 : wrap64 (-(0 : Int)) = 0 := by rw [w64 (by omega) (by omega)]; rfl
  have n2 : wrap64 (-(32 * si)) = -(32 * si) := w64 (by omega) (by omega)
  match q, hq with
  | 0, _ => simp only [turnP, rotGo]; omega
  | 1, _ => simp only [turnP, rotGo, n1]; omega
  | 2, _ => simp only [turnP, rotGo, n1, n2]; omega
  | 3, _ => simp only [turnP, rotGo, n1, n2]; omega
theorem sent_eq (w m r s si : Int) (R : Nat) (data : List Int) (hs : 1 ≤ si ∧ si ≤ 10000) (h : modemB w m r s (R : Int) si = true ∧ 1 ≤ data.length ∧ data.length ≤ 40) : sendOf w m r s (R : Int) si data = (blkR R (⟨32 * si, 0⟩ :: (sendPts w m r s (R : Int) si data).map (scP si)), true) := by
  unfold sendOf
  rw [if_pos h, sendGo_blk, w64 (n := 32 * si) (by omega) (by omega), Int.toNat_natCast]
  rfl
theorem ptB_small {p : S52} (h : (-320000 ≤ p.f0 ∧ p.f0 ≤ 320000) ∧ (-320000 ≤ p.f1 ∧ p.f1 ≤ 320000)) : ptB p = true := by
  unfold ptB; simp; omega
theorem blkR_mem (R : Nat) : ∀ (l : List S52) (p : S52), p ∈ blkR R l → p ∈ l
  | [], p, h => h
  | x :: xs, p, h => by
    rcases List.mem_append.1 h with h | h
    · rw [List.eq_of_mem_replicate h]; exact List.mem_cons_self ..
    · exact List.mem_cons_of_mem _ (blkR_mem R xs p h)
theorem mapGo_small {l : List Int} (hb : isBits l) (H : Nat) (hH : 1 ≤ H ∧ H ≤ 4) : ∀ (d i : Nat), smallP (mapGo l H d i)
  | 0, _ => fun p hp => by cases hp
  | d + 1, i => fun p hp => by
    rcases List.mem_cons.1 hp with rfl | hp
    · exact ⟨lvOf_bd hb H _ hH, lvOf_bd hb H _ hH⟩
    · exact mapGo_small hb H hH d _ p hp
theorem fit_dec {d R n : Nat} (hd : d ≤ 200) (hn : n ≤ 300) (hT : R * (n + 1) ≤ 3000) : decide (wrap64 (((d + R * (n + 1) : Nat) : Int) - (d : Int)) < wrap64 ((R : Int) * wrap64 (1 + (n : Int)))) = false := by
  rw [decide_eq_false_iff_not]
  have e : (R : Int) * (1 + (n : Int)) = ((R * (n + 1) : Nat) : Int) := by rw [Int.add_comm]; simp
  rw [w64 (n := 1 + (n : Int)) (by omega) (by omega), e]
  generalize R * (n + 1) = T at *
  rw [w64 (n := ((d + T : Nat) : Int) - (d : Int)) (by omega) (by omega), w64 (n := (T : Int)) (by omega) (by omega)]
  omega
theorem many_int {a M L : Nat} (ha : a ≤ 40) (hM : M ≤ 8) (h : L = 8 * (a + 2 * M)) : wrap64 (8 * wrap64 ((a : Int) + wrap64 (2 * (M : Int)))) = (L : Int) := by
  rw [w64 (n := 2 * (M : Int)) (by omega) (by omega), w64 (n := (a : Int) + 2 * (M : Int)) (by omega) (by omega), w64 (by omega) (by omega)]; omega
theorem cut1_int {d R : Nat} (hd : d ≤ 200) (hR : R ≤ 8) : wrap64 ((d : Int) + (R : Int)) = ((d + R : Nat) : Int) := by rw [w64 (by omega) (by omega)]; omega
/-- What is sent and comes over the air without noise is heard. -/
theorem hear_clean (w m r s ra si : Int) (data : List Int) (hb : isB data) (hl : 1 ≤ data.length ∧ data.length ≤ 40) (h : modemB w m r s ra si = true) (d q : Nat) (hd : d ≤ 200) (hq : q ≤ 3) :
    ∃ air : List S52, Ev (fun k => impl_Air.f k (sendOf w m r s ra si data).1 (d : Int) (q : Int) []) (air, true) ∧ Ev (fun k => impl_Hear.f k w m r s ra si air (data.length : Int)) (data, 0, true) := by
  have hm := modemB_iff.1 h
  obtain ⟨H, hH, hw, hw2⟩ := two_of h
  obtain ⟨r', hr'⟩ := Int.eq_ofNat_of_zero_le (show 0 ≤ r by omega)
  obtain ⟨R, hR⟩ := Int.eq_ofNat_of_zero_le (show 0 ≤ ra by omega)
  obtain ⟨M, hM⟩ := Int.eq_ofNat_of_zero_le (show 0 ≤ m by omega)
  subst hr' hR hM
  obtain ⟨hwm, hmm, hrr, hss, hRR, hsi⟩ := hm
  -- the word
  have hrs : rsOf data (M : Int) = (data ++ rsRest (genL (2 * M)) (List.replicate (2 * M) 0) data, true) := by
    unfold rsOf
    rw [if_pos (by unfold rsB; simp; omega), show (2 * (M : Int)).toNat = 2 * M by omega]
  have hz : isB (List.replicate (2 * M) (0 : Int)) := fun x hx => by rw [List.eq_of_mem_replicate hx]; omega
  obtain ⟨W, hW⟩ : ∃ W, W = data ++ rsRest (genL (2 * M)) (List.replicate (2 * M) 0) data := ⟨_, rfl⟩
  have hWl : W.length = data.length + 2 * M := by rw [hW, List.length_append, rsRest_len _ _ _ (by simp; omega), List.length_replicate]
  have hWb : isB W := by rw [hW]; exact isB_append hb (rsRest_B _ (genL_B _) _ _ hz hb)
  have hWz : ∀ i, i < 2 * M → horn (gfP i) 0 W = 0 := fun i hi => by rw [hW]; exact rs_root data hb (2 * M) (by omega) i hi
  have hWt : W.take data.length = data := by rw [hW]; simp
  -- the bits
  obtain ⟨U, hU⟩ : ∃ U, U = unpackOf W := ⟨_, rfl⟩
  have hUl : U.length = 8 * (data.length + 2 * M) := by rw [hU, unpackOf_len, hWl]
  have hUb : ∀ x ∈ U, x = 0 ∨ x = 1 := by rw [hU]; exact unpackOf_bit W
  obtain ⟨V, hV⟩ : ∃ V, V = weaveOf U r' := ⟨_, rfl⟩
  have hVl : V.length = U.length := by rw [hV, weaveOf_count U r' (by omega)]
  have hVb : ∀ x ∈ V, x = 0 ∨ x = 1 := by
    rw [hV]
    intro x hx
    unfold weaveOf at hx
    obtain ⟨y, hy, rfl⟩ := List.mem_map.1 hx
    have hyb := ordAll_bd _ _ _ _ _ y hy
    exact isBits_of hUb y.toNat |> fun t => by rw [Int.toNat_of_nonneg hyb.1] at t; exact t
  have hVB : bitsB V = true := bitsB_iff.2 ⟨hVb, by omega⟩
  obtain ⟨X, hX⟩ : ∃ X, X = stirGo s V := ⟨_, rfl⟩
  have hst : stirOf V s = (X, true) := by unfold stirOf; rw [if_pos hVB, hX]
  have hXl : X.length = V.length := by rw [hX, stirGo_len]
  have hXb : ∀ x ∈ X, x = 0 ∨ x = 1 := by rw [hX]; exact stirGo_bits V s hVb
  have hXB : bitsB X = true := bitsB_iff.2 ⟨hXb, by omega⟩
  have hback := stirOf_back V s hVB
  rw [hst] at hback
  -- the points
  obtain ⟨n, hn⟩ : ∃ n, n = (X.length + padOf X.length (2 * H)) / (2 * H) := ⟨_, rfl⟩
  have hP : sendPts ((2 * H : Nat) : Int) (M : Int) (r' : Int) s (R : Int) si data = mapGo X H n 0 := by
    unfold sendPts
    rw [hrs, ← hw, hw2, Int.toNat_natCast]
    simp only
    rw [← hW, ← hU, ← hV, hst]
    unfold mapOf
    rw [if_pos hXB, hn]
  have hrn := map_rounds X.length H hH
  rw [← hn, Nat.zero_add] at hrn
  have hpf := pad_facts (n := X.length) hH
  have hn5 : n ≤ 300 := by
    have : 2 * n ≤ 2 * H * n := Nat.mul_le_mul_right n (by omega)
    omega
  have hsm := mapGo_small (isBits_of hXb) H hH n 0
  have hQ := heardQ_bd (q := q) hsi hsm
  rw [hw] at h ⊢
  have hsend := sent_eq ((2 * H : Nat) : Int) (M : Int) (r' : Int) s si R data hsi ⟨h, hl⟩
  rw [hP] at hsend
  have hRn : R * (n + 1) ≤ 3000 := Nat.le_trans (Nat.mul_le_mul (show R ≤ 8 by omega) (show n + 1 ≤ 301 by omega)) (by decide)
  refine ⟨airQ R d (heardQ q si (mapGo X H n 0)), ?_, ?_⟩
  · rw [hsend]
    have hm : (blkR R (⟨32 * si, 0⟩ :: (mapGo X H n 0).map (scP si))).map (turnP q) = blkR R (heardQ q si (mapGo X H n 0)) := by rw [blkR_map]; rfl
    have hbl : (blkR R (⟨32 * si, 0⟩ :: (mapGo X H n 0).map (scP si))).length = R * (n + 1) := by rw [blkR_len]; simp [mapGo_len]
    have := iAir_ev (blkR R (⟨32 * si, 0⟩ :: (mapGo X H n 0).map (scP si))) d q hd hq (by omega) ?_ ?_
    · rw [hm] at this
      exact this
    · unfold burstB
      rw [Bool.and_eq_true, decide_eq_true_eq, List.all_eq_true]
      refine ⟨by omega, fun p hp => ptB_small ?_⟩
      have := heardQ_bd (q := 0) hsi hsm p
      refine this ?_
      have hp2 := blkR_mem R _ p hp
      unfold heardQ
      refine List.mem_map.2 ⟨p, hp2, rfl⟩
    · unfold burstB
      rw [hm, Bool.and_eq_true, decide_eq_true_eq, List.all_eq_true]
      have hlen : (List.replicate d z52 ++ blkR R (heardQ q si (mapGo X H n 0))).length = d + R * (n + 1) := by simp [blkR_len, heardQ_len, mapGo_len]
      refine ⟨by rw [hlen]; omega, fun p hp => ?_⟩
      rcases List.mem_append.1 hp with hp | hp
      · rw [List.eq_of_mem_replicate hp]; decide
      · exact ptB_small (hQ p (blkR_mem R _ p hp))
  · have hairl := airQ_len R d (heardQ q si (mapGo X H n 0))
    rw [heardQ_len, mapGo_len] at hairl
    have hidx : hrIdx si (airQ R d (heardQ q si (mapGo X H n 0))) 0 = (d : Int) := by
      have e : ∃ xs, airQ R d (heardQ q si (mapGo X H n 0)) = List.replicate d z52 ++ turnP q ⟨32 * si, 0⟩ :: xs := by
        obtain ⟨R1, rfl⟩ : ∃ R1, R = R1 + 1 := ⟨R - 1, by omega⟩
        refine ⟨List.replicate R1 (turnP q ⟨32 * si, 0⟩) ++ blkR (R1 + 1) (((mapGo X H n 0).map (scP si)).map (turnP q)), ?_⟩
        unfold airQ heardQ
        simp only [List.map_cons, blkR, List.replicate_succ, List.cons_append]
      obtain ⟨xs, e⟩ := e
      rw [e, hrIdx_zeros hsi _ xs (far_head q hq si hsi) d 0]
      omega
    have hcut := airQ_cut R d (heardQ q si (mapGo X H n 0)) 0 (by rw [heardQ_len]; omega)
    rw [Nat.mul_zero, Nat.add_zero] at hcut
    have hq0 : rd_T52 (heardQ q si (mapGo X H n 0)) ((0 : Nat) : Int) = turnP q ⟨32 * si, 0⟩ := rfl
    rw [hq0] at hcut
    have hR2 : R ≤ R * (n + 1) := Nat.le_mul_of_pos_right R (by omega)
    have hburst : impl_burstOk.f (airQ R d (heardQ q si (mapGo X H n 0))) = some true := by
      show some (decide (((airQ R d (heardQ q si (mapGo X H n 0))).length : Int) ≤ 4096) && (airQ R d (heardQ q si (mapGo X H n 0))).all ptB) = some true
      rw [Option.some.injEq, Bool.and_eq_true, decide_eq_true_eq, List.all_eq_true]
      refine ⟨by rw [hairl]; omega, fun p hp => ?_⟩
      rcases List.mem_append.1 hp with hp | hp
      · rw [List.eq_of_mem_replicate hp]; decide
      · exact ptB_small (hQ p (blkR_mem R _ p hp))
    have hsent : impl_sentOk.f (data.length : Int) = some true := by
      unfold impl_sentOk.f
      rw [if_pos (by omega), decide_eq_true (by omega)]
    have hpt : impl_Point_54.f (airQ R d (heardQ q si (mapGo X H n 0))) si = some (d : Int) := by
      unfold impl_Point_54.f
      rw [if_pos (by omega), hidx]
    have hend := decide_ev X (isBits_of hXb) H n hH (by omega)
    have htk : (rdN X (2 * H * n) 0).take X.length = X := by
      have := rdN_take X X.length (2 * H * n) 0 (by omega) (by omega)
      rw [List.drop_zero] at this
      exact this
    have hstir : Ev (fun k => impl_Stir.f k X 46080 s) (V, true) := (iStir_ev X s (by omega) hss).to hback
    have hunw : Ev (fun k => impl_Unweave.f k V (r' : Int)) (U, true) := by rw [hV]; exact unweave_ev U r' (by omega) (by omega)
    have hpk : Ev (fun k => impl_pack8.f k U) W := (pack8_ev U (by omega) hUb).to (by rw [hU]; exact packOf_unpack W hWb)
    have hmend := mend_ev W (by omega) hWb M (by omega) (by omega) hWz
    have hloop := hear_l0 R d q si (mapGo X H n 0) (by omega) hd hq hsi hsm (by rw [mapGo_len]; omega) (data.length : Int) (X.length : Int) ((2 * H : Nat) : Int) (M : Int) (r' : Int) s (res := (data, 0, true)) (by
      refine Ev.next hend (Ev.pos (by omega) (Ev.pos (by simp only [rdN_len]; omega) ?_))
      simp only [Int.toNat_natCast]
      rw [htk]
      refine Ev.next hstir (Ev.next hunw (Ev.next hpk (Ev.next hmend (Ev.pos rfl (Ev.pos (by omega) (Ev.pos (by simp only; omega) (Ev.some_ ?_)))))))
      rw [hWt]) n 0 (by rw [mapGo_len]; omega)
    rw [List.take_zero, mapGo_len] at hloop
    have hx8 : X.length = 8 * (data.length + 2 * M) := by omega
    have hx9 : X.length ≤ 1000 := by omega
    have hd0 : ¬ ((d : Int) < 0) := by omega
    have hH0 : ¬ (((2 * H : Nat) : Int) = 0) := by omega
    have hd1 : (0 : Int) ≤ (d : Int) := by omega
    have hd2 : (d : Int) ≤ ((d + R : Nat) : Int) := by omega
    have hd3 : ((d + R : Nat) : Int) ≤ ((airQ R d (heardQ q si (mapGo X H n 0))).length : Int) := by rw [hairl]; omega
    have hM8 : M ≤ 8 := by omega
    have hR8 : R ≤ 8 := by omega
    have hR1 : 1 ≤ R ∧ R ≤ 8 := by omega
    have hS := sym_int (n := X.length) (H := H) hH hx9
    rw [← hn] at hS
    have hN := many_int hl.2 hM8 hx8
    have hfit := fit_dec hd hn5 hRn
    rw [← hairl] at hfit
    have hcut1 := cut1_int hd hR8
    unfold impl_Hear.f
    refine Ev.next (Ev.here (iModemOk_eq _ _ _ _ _ _)) (Ev.pos h (Ev.next (Ev.here hburst) (Ev.pos rfl (Ev.next (Ev.here hsent) (Ev.succ ?_)))))
    simp only [impl_Hear.j0]
    refine Ev.neg (by decide) (Ev.next (Ev.here hpt) (Ev.neg hH0 (Ev.neg hd0 ?_)))
    rw [hN, hS, hfit]
    refine Ev.succ ?_
    simp only [impl_Hear.j1]
    rw [hcut1, Int.toNat_natCast, Int.toNat_natCast, hcut]
    refine Ev.neg (by decide) (Ev.pos hd1 (Ev.pos hd2 (Ev.pos hd3 ?_)))
    refine head_sum q hq R hR1 si hsi (fun k y => impl_Hear.j2 k (airQ R d (heardQ q si (mapGo X H n 0))) (data.length : Int) (d : Int) (X.length : Int) (n : Int) y ((2 * H : Nat) : Int) (M : Int) (r' : Int) s (R : Int) si) ?_
    refine Ev.succ ?_
    simp only [impl_Hear.j2]
    exact hloop
theorem l1New_l0 (l : List Int) : ∀ (d i : Nat) (h : Int), i + d = l.length → (i : Int) ≤ 4000 → EvP (fun k => spec_l1New.l0 k l h (i : Int)) (fun r => r.1 = l ∧ r.2.1 = 0) := by
  intro d
  induction d with
  | zero =>
    intro i h hi _
    refine EvP.succ ?_
    simp only [spec_l1New.l0]
    exact EvP.neg (by omega) (EvP.now ⟨rfl, rfl⟩)
  | succ d ih =>
    intro i h hi hi2
    refine EvP.succ ?_
    simp only [spec_l1New.l0]
    refine EvP.pos (by omega) ?_
    by_cases h4 : (i : Int) < 4000
    · rw [w64_add (by omega) (by omega)]
      exact EvP.pos h4 (EvP.pos (by omega) (ih (i + 1) _ (by omega) (by omega)))
    · exact EvP.neg h4 (EvP.now ⟨rfl, rfl⟩)
theorem l1New_ev (l : List Int) : EvP (fun k => spec_l1New.f k l) (fun r => r.1 = l ∧ r.2.1 = 0) := l1New_l0 l l.length 0 _ (by omega) (by omega)
theorem l1Byte_ok (l : List Int) (p h : Int) (h0 : 0 ≤ p) (h1 : p ≤ l.length) (hl : l.length ≤ 1048576) : ∃ r, spec_l1Byte.f l p h = some r ∧ (0 ≤ r.1 ∧ r.1 ≤ 255) ∧ 0 ≤ r.2.1 ∧ r.2.1 ≤ l.length := by
  unfold spec_l1Byte.f
  by_cases hp : p < (l.length : Int)
  · rw [if_pos hp, if_pos h0]
    refine ⟨_, rfl, bits_and_le _ 255 (by omega) (by omega), ?_⟩
    simp only
    rw [w64_add h0 (by omega)]
    omega
  · rw [if_neg hp]
    exact ⟨_, rfl, bits_and_le _ 255 (by omega) (by omega), h0, h1⟩
theorem l1Below_ok (l : List Int) (p h n : Int) (h0 : 0 ≤ p) (h1 : p ≤ l.length) (hl : l.length ≤ 1048576) : ∃ r, spec_l1Below.f l p h n = some r ∧ (0 ≤ r.1 ∧ (r.1 < n ∨ r.1 = 0)) ∧ 0 ≤ r.2.1 ∧ r.2.1 ≤ l.length := by
  unfold spec_l1Below.f
  by_cases hn : n ≤ 0
  · rw [if_pos hn]; exact ⟨_, rfl, ⟨by simp, .inr rfl⟩, h0, h1⟩
  rw [if_neg hn]
  have tm : ∀ x : Int, 0 ≤ x → 0 ≤ Int.tmod x n ∧ Int.tmod x n < n := fun x hx => by
    rw [Int.tmod_eq_emod_of_nonneg hx]
    exact ⟨Int.emod_nonneg _ (by omega), Int.emod_lt_of_pos _ (by omega)⟩
  by_cases h2 : n ≤ 256
  · rw [if_pos h2]
    obtain ⟨r, e, hb, hp⟩ := l1Byte_ok l p h h0 h1 hl
    rw [e]
    simp only [Option.bind_some]
    rw [if_neg (by omega)]
    exact ⟨_, rfl, ⟨(tm _ hb.1).1, .inl (tm _ hb.1).2⟩, hp⟩
  · rw [if_neg h2]
    obtain ⟨r, e, hb, hp⟩ := l1Byte_ok l p h h0 h1 hl
    obtain ⟨r2, e2, hb2, hp2⟩ := l1Byte_ok l r.2.1 r.2.2 hp.1 hp.2 hl
    obtain ⟨r3, e3, hb3, hp3⟩ := l1Byte_ok l r2.2.1 r2.2.2 hp2.1 hp2.2 hl
    obtain ⟨r4, e4, hb4, hp4⟩ := l1Byte_ok l r3.2.1 r3.2.2 hp3.1 hp3.2 hl
    rw [e]; simp only [Option.bind_some]
    rw [e2]; simp only [Option.bind_some]
    rw [e3]; simp only [Option.bind_some]
    rw [e4]; simp only [Option.bind_some]
    rw [if_neg (by omega), w64 (n := r.1 * 16777216) (by omega) (by omega), w64 (n := r2.1 * 65536) (by omega) (by omega), w64 (n := r3.1 * 256) (by omega) (by omega), w64 (n := r.1 * 16777216 + _) (by omega) (by omega), w64 (n := r.1 * 16777216 + _ + _) (by omega) (by omega), w64 (n := r.1 * 16777216 + _ + _ + _) (by omega) (by omega)]
    exact ⟨_, rfl, ⟨(tm _ (by omega)).1, .inl (tm _ (by omega)).2⟩, hp4⟩
theorem l1PickInt_ok (l : List Int) (p h : Int) (xs : List Int) (h0 : 0 ≤ p) (h1 : p ≤ l.length) (hl : l.length ≤ 1048576) (hx : 0 < xs.length) : ∃ r, spec_l1PickInt.f l p h xs = some r ∧ r.1 ∈ xs ∧ 0 ≤ r.2.1 ∧ r.2.1 ≤ l.length := by
  unfold spec_l1PickInt.f
  obtain ⟨r, e, hb, hp⟩ := l1Below_ok l p h xs.length h0 h1 hl
  rw [e]
  simp only [Option.bind_some]
  rw [if_pos hb.1, if_pos (by omega)]
  refine ⟨_, rfl, ?_, hp⟩
  have : r.1 = ((r.1.toNat : Nat) : Int) := by omega
  simp only
  rw [this]
  exact rd_mem (by omega)
theorem l1Once_ok (l : List Int) (p h n : Int) (h0 : 0 ≤ p) (h1 : p ≤ l.length) (hl : l.length ≤ 1048576) : ∃ r, spec_l1Once.f l p h n = some r ∧ 0 ≤ r.2.1 ∧ r.2.1 ≤ l.length := by
  obtain ⟨r, e, hb, hp⟩ := l1Below_ok l p h n h0 h1 hl
  unfold spec_l1Once.f
  rw [e]; simp only [Option.bind_some]
  exact ⟨_, rfl, hp⟩
theorem l1Size_ok (l : List Int) (m : Int) (hl : l.length ≤ 1048576) (hm : 2 ≤ m) : ∃ r, spec_l1Size.f l m = some r ∧ 2 ≤ r ∧ r ≤ m := by
  unfold spec_l1Size.f
  rw [w64 (n := (l.length : Int) / 20) (by omega) (by omega), w64 (n := 2 + _) (by omega) (by omega)]
  by_cases h : 2 + (l.length : Int) / 20 > m
  · rw [if_pos h]; exact ⟨_, rfl, hm, by omega⟩
  · rw [if_neg h]; exact ⟨_, rfl, by omega, by omega⟩
theorem lawsAt_ok (l : List Int) (hl : l.length ≤ 1048576) (hb : ∀ x ∈ l, 0 ≤ x ∧ x < 256) (i : Nat) (hi : i ≤ 1000) : ∃ v, laws_at.f l (i : Int) = some v ∧ 0 ≤ v ∧ v < 256 := by
  unfold laws_at.f
  by_cases h : (i : Int) < (l.length : Int)
  · have hm := hb _ (rd_mem (xs := l) (i := i) (by omega))
    rw [if_pos h, if_pos (by omega), w64 (n := rd l (i : Int)) (by omega) (by omega)]
    exact ⟨_, rfl, hm⟩
  · rw [if_neg h, w64 (n := (i : Int) * 7) (by omega) (by omega), w64 (n := (i : Int) * 7 + (l.length : Int)) (by omega) (by omega), Int.tmod_eq_emod_of_nonneg (by omega)]
    exact ⟨_, rfl, by omega, by omega⟩
theorem wf8 {x : Int} (h : (Lit.int .u8 x).wf = true) : 0 ≤ x ∧ x < 256 := by
  have h2 := h
  simp [Lit.wf, IntKind.min, IntKind.max, IntKind.signed, IntKind.bits] at h2
  omega
theorem l18Draw_ok (l : List Int) (p h : Int) (h0 : 0 ≤ p) (h1 : p ≤ l.length) (hl : l.length ≤ 1048576) : ∃ r, spec_l18Draw.f l p h = some r ∧ 0 ≤ r.2.2.2.2.2.2.1 ∧ r.2.2.2.2.2.2.1 ≤ l.length := by
  unfold spec_l18Draw.f
  obtain ⟨r1, e1, _, p1⟩ := l1PickInt_ok l p h [2, 4, 6, 8] h0 h1 hl (by decide)
  obtain ⟨r2, e2, _, p2⟩ := l1Below_ok l r1.2.1 r1.2.2 4 p1.1 p1.2 hl
  obtain ⟨r3, e3, _, p3⟩ := l1PickInt_ok l r2.2.1 r2.2.2 [1, 2, 5, 8, 64] p2.1 p2.2 hl (by decide)
  obtain ⟨r4, e4, _, p4⟩ := l1Below_ok l r3.2.1 r3.2.2 65535 p3.1 p3.2 hl
  obtain ⟨r5, e5, _, p5⟩ := l1Below_ok l r4.2.1 r4.2.2 4 p4.1 p4.2 hl
  obtain ⟨r6, e6, _, p6⟩ := l1PickInt_ok l r5.2.1 r5.2.2 [1, 2, 3, 10, 100, 10000] p5.1 p5.2 hl (by decide)
  obtain ⟨r7, e7, _, p7⟩ := l1Below_ok l r6.2.1 r6.2.2 25 p6.1 p6.2 hl
  rw [e1, Option.bind_some, e2, Option.bind_some, e3, Option.bind_some, e4, Option.bind_some, e5, Option.bind_some, e6, Option.bind_some, e7, Option.bind_some]
  have pk : ∀ xs : List Int, 0 < xs.length → ∃ r, spec_l1PickInt.f l r7.2.1 r7.2.2 xs = some r ∧ 0 ≤ r.2.1 ∧ r.2.1 ≤ l.length := fun xs hx => by
    obtain ⟨r, e, _, p⟩ := l1PickInt_ok l r7.2.1 r7.2.2 xs p7.1 p7.2 hl hx
    exact ⟨r, e, p⟩
  split
  · obtain ⟨r, e, p⟩ := pk [0, 3, 10] (by decide); rw [e, Option.bind_some]; exact ⟨_, rfl, p⟩
  split
  · obtain ⟨r, e, p⟩ := pk [0, 8, 9] (by decide); rw [e, Option.bind_some]; exact ⟨_, rfl, p⟩
  split
  · obtain ⟨r, e, p⟩ := pk [0, 65536] (by decide); rw [e, Option.bind_some]; exact ⟨_, rfl, p⟩
  split
  · obtain ⟨r, e, p⟩ := pk [0, 8, 9] (by decide); rw [e, Option.bind_some]; exact ⟨_, rfl, p⟩
  split
  · obtain ⟨r, e, p⟩ := pk [0, 10001] (by decide); rw [e, Option.bind_some]; exact ⟨_, rfl, p⟩
  split
  · obtain ⟨r, e, p⟩ := pk [0, 65] (by decide); rw [e, Option.bind_some]; exact ⟨_, rfl, p⟩
  · exact ⟨_, rfl, p7⟩
theorem drawBytes_l0 (l : List Int) (hl : l.length ≤ 1048576) (n : Nat) (hn : n ≤ 1000) : ∀ (d i : Nat) (acc : List Int) (p h : Int), i + d = n → acc.length = i → isB acc → 0 ≤ p → p ≤ l.length → EvP (fun k => spec_l14DrawBytes.l0 k (n : Int) acc (i : Int) l p h) (fun r => isB r.1 ∧ r.1.length = n) := by
  intro d
  induction d with
  | zero =>
    intro i acc p h hi ha hb h0 h1
    refine EvP.succ ?_
    simp only [spec_l14DrawBytes.l0]
    exact EvP.neg (by omega) (EvP.now ⟨hb, by simp only; omega⟩)
  | succ d ih =>
    intro i acc p h hi ha hb h0 h1
    obtain ⟨r, e, hr, hp⟩ := l1Byte_ok l p h h0 h1 hl
    refine EvP.succ ?_
    simp only [spec_l14DrawBytes.l0]
    rw [wadd1 (e := i) (by omega)]
    refine EvP.pos (by omega) (EvP.next (Ev.p (Ev.here e)) ?_)
    rintro r rfl
    refine EvP.pos (by omega) (ih (i + 1) _ _ _ (by omega) (by simp; omega) ?_ hp.1 hp.2)
    intro x hx
    rcases List.mem_append.1 hx with hx | hx
    · exact hb x hx
    · simp at hx; omega
theorem drawBytes_neg (l : List Int) (n p h : Int) (hn : n ≤ 0) : EvP (fun k => spec_l14DrawBytes.f k l p h n) (fun r => isB r.1 ∧ r.1.length ≤ 1000) := by
  unfold spec_l14DrawBytes.f
  refine EvP.succ ?_
  simp only [spec_l14DrawBytes.l0]
  exact EvP.neg (by omega) (EvP.now ⟨(fun x hx => by cases hx), (by simp)⟩)
theorem drawBytes_ev (l : List Int) (hl : l.length ≤ 1048576) (n p h : Int) (hn : n ≤ 1000) (h0 : 0 ≤ p) (h1 : p ≤ l.length) : EvP (fun k => spec_l14DrawBytes.f k l p h n) (fun r => isB r.1 ∧ r.1.length ≤ 1000) := by
  by_cases h2 : n ≤ 0
  · exact drawBytes_neg l n p h h2
  · obtain ⟨N, rfl⟩ := Int.eq_ofNat_of_zero_le (show 0 ≤ n by omega)
    unfold spec_l14DrawBytes.f
    exact (drawBytes_l0 l hl N (by omega) N 0 [] p h (by omega) rfl (fun x hx => by cases hx) h0 h1).mono fun r hr => ⟨hr.1, by omega⟩
theorem drawSend_ev (l : List Int) (hl : l.length ≤ 1048576) : EvP (fun k => spec_DrawSend.f k l) (fun r => isB r.2.2.2.2.2.2 ∧ r.2.2.2.2.2.2.length ≤ 1000) := by
  unfold spec_DrawSend.f
  refine EvP.next (l1New_ev l) ?_
  rintro ⟨l', p', h'⟩ ⟨rfl, hp⟩
  simp only at hp
  subst hp
  obtain ⟨r, e, hp⟩ := l18Draw_ok l' 0 h' (by omega) (by omega) hl
  refine EvP.next (Ev.p (Ev.here e)) ?_
  rintro r rfl
  obtain ⟨m, em, hm⟩ := l1Size_ok l' 10 hl (by omega)
  refine EvP.next (Ev.p (Ev.here em)) ?_
  rintro m rfl
  obtain ⟨r2, e2, hb2, hp2⟩ := l1Below_ok l' r.2.2.2.2.2.2.1 r.2.2.2.2.2.2.2 m hp.1 hp.2 hl
  refine EvP.next (Ev.p (Ev.here e2)) ?_
  rintro r2 rfl
  obtain ⟨r3, e3, hp3⟩ := l1Once_ok l' r2.2.1 r2.2.2 30 hp2.1 hp2.2 hl
  refine EvP.next (Ev.p (Ev.here e3)) ?_
  rintro r3 rfl
  refine EvP.both (fun _ => ?_) (fun _ => ?_)
  · obtain ⟨r4, e4, hb4, hp4⟩ := l1PickInt_ok l' r3.2.1 r3.2.2 [0, 40, 41] hp3.1 hp3.2 hl (by decide)
    refine EvP.next (Ev.p (Ev.here e4)) ?_
    rintro r4 rfl
    have : r4.1 ≤ 1000 := by simp at hb4; omega
    exact EvP.next (drawBytes_ev l' hl _ _ _ this hp4.1 hp4.2) fun r hr => EvP.now hr
  · have : wrap64 (1 + r2.1) ≤ 1000 := by rw [w64 (by omega) (by omega)]; omega
    exact EvP.next (drawBytes_ev l' hl _ _ _ this hp3.1 hp3.2) fun r hr => EvP.now hr
theorem clean_j1 (l0 data : List Int) (hl : l0.length ≤ 1048576) (hb0 : ∀ x ∈ l0, 0 ≤ x ∧ x < 256) (hb : isB data) (w m r s ra si : Int) (h : modemB w m r s ra si = true) (hd : 1 ≤ data.length ∧ data.length ≤ 40) : Ev (fun k => laws_FnClean.j1 k l0 data (sendOf w m r s ra si data).1 true w m r s ra si) true := by
  obtain ⟨v, ev, hv⟩ := lawsAt_ok l0 hl hb0 0 (by omega)
  obtain ⟨u, eu, hu⟩ := lawsAt_ok l0 hl hb0 1 (by omega)
  have e1 : Int.tmod v 200 = ((v.toNat % 200 : Nat) : Int) := by rw [Int.tmod_eq_emod_of_nonneg hv.1]; omega
  have e2 : Int.tmod u 4 = ((u.toNat % 4 : Nat) : Int) := by rw [Int.tmod_eq_emod_of_nonneg hu.1]; omega
  obtain ⟨air, ha, hh⟩ := hear_clean w m r s ra si data hb hd h (v.toNat % 200) (u.toNat % 4) (by omega) (by omega)
  have es : laws_sameBytes.f data data = some true := by unfold laws_sameBytes.f; simp
  refine Ev.succ ?_
  simp only [laws_FnClean.j1]
  refine Ev.next (Ev.here ev) (Ev.next (Ev.here eu) ?_)
  rw [e1, e2]
  exact Ev.next ha (Ev.next hh (Ev.pos trivial (Ev.pos rfl (Ev.pos rfl (Ev.pos rfl (Ev.next (Ev.here es) (Ev.some_ rfl)))))))
theorem FnClean (l0 : List Int) (m0 : l0.length ≤ maxLen) (w0 : ∀ x ∈ l0, (Lit.int .u8 x).wf = true) : ∃ k, laws_FnClean.f k l0 = some true := by
  refine EvP.law ?_
  have hb0 : ∀ x ∈ l0, 0 ≤ x ∧ x < 256 := fun x hx => wf8 (w0 x hx)
  unfold laws_FnClean.f
  refine EvP.next (Ev.p (Ev.here (r := decide ((l0.length : Int) > 1048576)) rfl)) ?_
  rintro b rfl
  by_cases hbig : (l0.length : Int) > 1048576
  · exact EvP.pos (decide_eq_true hbig) (EvP.now rfl)
  refine EvP.neg (by simp; omega) (EvP.next (drawSend_ev l0 (by omega)) ?_)
  rintro ⟨w, m, r, s, ra, si, data⟩ ⟨hb, hl⟩
  simp only at hb hl
  have hs := sSend_ev w m r s ra si data hb (by omega)
  have hi := iSend_ev w m r s ra si data hb (by omega)
  refine EvP.next (Ev.p hi) ?_
  rintro x rfl
  refine EvP.next (Ev.p hs) ?_
  rintro x rfl
  refine EvP.neg (by simp) (Ev.p ?_)
  rw [show (((sendOf w m r s ra si data).1.length : Int) != ((sendOf w m r s ra si data).1.length : Int)) = false by simp]
  refine Ev.succ ?_
  simp only [laws_FnClean.j0]
  refine Ev.neg (by decide) ?_
  by_cases h : modemB w m r s ra si = true ∧ 1 ≤ data.length ∧ data.length ≤ 40
  · have e : (sendOf w m r s ra si data).2 = true := by unfold sendOf; rw [if_pos h]
    rw [e]
    exact Ev.pos rfl (clean_j1 l0 data (by omega) hb0 hb w m r s ra si h.1 h.2)
  · have e : (sendOf w m r s ra si data).2 = false := by unfold sendOf; rw [if_neg h]
    rw [e]
    have hb9 : isB [9] := fun x hx => by simp at hx; omega
    have h9 : modemB 2 1 1 1 1 1 = true := by decide
    have h2 := iSend_ev 2 1 1 1 1 1 [9] hb9 (by simp)
    have e2 : (sendOf 2 1 1 1 1 1 [9]).2 = true := by unfold sendOf; rw [if_pos ⟨h9, by decide, by decide⟩]
    refine Ev.neg (by decide) (Ev.next (Ev.some_ rfl) (Ev.next h2 ?_))
    simp only [e2]
    exact clean_j1 l0 [9] (by omega) hb0 hb9 2 1 1 1 1 1 h9 (by decide)
end Go.Proofs.Ytapobpkeefeajaa.Pure
