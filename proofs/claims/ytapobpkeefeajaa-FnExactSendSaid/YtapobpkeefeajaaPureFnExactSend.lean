import Derived.Test.YtapobpkeefeajaaPFnExactSendx14
import Derived.Test.YtapobpkeefeajaaAidV
set_option linter.unusedVariables false
set_option linter.unusedSimpArgs false
namespace Go.Proofs.Ytapobpkeefeajaa.Pure
open Go Go.RowKit Go.Proofs.Ytapobpkeefeajaa.PFnExactSend Go.Proofs.YtapobpkeefeajaaW.PrintWords Go.Proofs.YtapobpkeefeajaaW.PrintLast Go.Proofs.YtapobpkeefeajaaW.PrintMore
/-! Multiplication of bytes, as of polynomials by 285: shifts by one place (gfX), summed over the bits. -/
def gfX (a : Nat) : Nat := if 2 * a > 255 then (2 * a) ^^^ 285 else 2 * a
def gfI : Nat → Nat → Nat → Nat → Nat
 | 0, _, _, r => r
 | n + 1, a, b, r => gfI n (gfX a) (b / 2) (if b % 2 = 1 then r ^^^ a else r)
def gfM (a b : Nat) : Nat := gfI 8 a b 0
theorem two_xor (a b : Nat) : 2 * (a ^^^ b) = (2 * a) ^^^ (2 * b) := by
 apply Nat.eq_of_testBit_eq
 intro i
 cases i with
 | zero => simp
 | succ i =>
  rw [Nat.testBit_xor, Nat.testBit_succ, Nat.testBit_succ, Nat.testBit_succ, Nat.mul_div_cancel_left _ (by omega), Nat.mul_div_cancel_left _ (by omega), Nat.mul_div_cancel_left _ (by omega), Nat.testBit_xor]
theorem gfX_top : ∀ a : Fin 256, gfX a.1 = (2 * a.1) ^^^ (if a.1.testBit 7 then 285 else 0) ∧ gfX a.1 < 256 := by decide +kernel
theorem gfX_eq {a : Nat} (h : a < 256) : gfX a = (2 * a) ^^^ (if a.testBit 7 then 285 else 0) := (gfX_top ⟨a, h⟩).1
theorem gfX_lt {a : Nat} (h : a < 256) : gfX a < 256 := (gfX_top ⟨a, h⟩).2
theorem xor_lt256 {a b : Nat} (ha : a < 256) (hb : b < 256) : a ^^^ b < 256 := Nat.xor_lt_two_pow (n := 8) ha hb
theorem gfX_lin {a b : Nat} (ha : a < 256) (hb : b < 256) : gfX (a ^^^ b) = gfX a ^^^ gfX b := by
 rw [gfX_eq ha, gfX_eq hb, gfX_eq (xor_lt256 ha hb), two_xor, Nat.testBit_xor]
 cases a.testBit 7 <;> cases b.testBit 7 <;> simp
 ·rw [Nat.xor_assoc]
 ·rw [Nat.xor_assoc, Nat.xor_assoc, Nat.xor_comm 285]
 ·rw [show (2 * a ^^^ 285) ^^^ (2 * b ^^^ 285) = (2 * a ^^^ 2 * b) ^^^ (285 ^^^ 285) by rw [Nat.xor_assoc, Nat.xor_assoc, ← Nat.xor_assoc 285, Nat.xor_comm 285 (2 * b), Nat.xor_assoc (2 * b)], Nat.xor_self, Nat.xor_zero]
theorem gfX_zero : gfX 0 = 0 := rfl
theorem gfI_r : ∀ (n a b r : Nat), gfI n a b r = r ^^^ gfI n a b 0
 | 0, _, _, r => by simp [gfI]
 | n + 1, a, b, r => by
  simp only [gfI]
  rw [gfI_r n (gfX a) (b / 2) (if b % 2 = 1 then r ^^^ a else r), gfI_r n (gfX a) (b / 2) (if b % 2 = 1 then 0 ^^^ a else 0)]
  split
  ·rw [Nat.zero_xor, Nat.xor_assoc]
  ·rw [Nat.zero_xor]
theorem gfI_lt : ∀ (n a b : Nat), a < 256 → gfI n a b 0 < 256
 | 0, _, _, _ => by simp [gfI]
 | n + 1, a, b, h => by
  simp only [gfI]
  rw [gfI_r]
  refine xor_lt256 ?_ (gfI_lt n _ _ (gfX_lt h))
  split
  ·rw [Nat.zero_xor]; exact h
  ·omega
theorem gfI_step (n a b : Nat) : gfI (n + 1) a b 0 = (if b % 2 = 1 then a else 0) ^^^ gfI n (gfX a) (b / 2) 0 := by
 simp only [gfI]
 rw [gfI_r, Nat.zero_xor]
theorem gfI_lin : ∀ (n a c b : Nat), a < 256 → c < 256 → gfI n (a ^^^ c) b 0 = gfI n a b 0 ^^^ gfI n c b 0
 | 0, _, _, _, _, _ => by simp [gfI]
 | n + 1, a, c, b, ha, hc => by
  rw [gfI_step, gfI_step, gfI_step, gfX_lin ha hc, gfI_lin n _ _ _ (gfX_lt ha) (gfX_lt hc)]
  split
  ·rw [Nat.xor_assoc, Nat.xor_assoc, ← Nat.xor_assoc c, Nat.xor_comm c, Nat.xor_assoc]
  ·simp
theorem gfI_zero : ∀ n b, gfI n 0 b 0 = 0
 | 0, _ => rfl
 | n + 1, b => by rw [gfI_step, gfX_zero, gfI_zero n]; simp
theorem gfI_X : ∀ (n a b : Nat), a < 256 → gfI n (gfX a) b 0 = gfX (gfI n a b 0)
 | 0, _, _, _ => rfl
 | n + 1, a, b, h => by
  rw [gfI_step, gfI_step, gfX_lin (by split <;> omega) (gfI_lt n _ _ (gfX_lt h)), gfI_X n _ _ (gfX_lt h)]
  split <;> rfl
/-- Two multiplications, in either order. -/
theorem gfI_comm (c : Nat) : ∀ (n a b : Nat), a < 256 → gfI n (gfM a c) b 0 = gfM (gfI n a b 0) c
 | 0, _, _, _ => (gfI_zero 8 c).symm
 | n + 1, a, b, h => by
  have h2 : gfX (gfM a c) = gfM (gfX a) c := (gfI_X 8 a c h).symm
  rw [gfI_step, gfI_step, h2, gfI_comm c n _ _ (gfX_lt h)]
  unfold gfM
  rw [gfI_lin 8 _ _ c (by split <;> omega) (gfI_lt n _ _ (gfX_lt h))]
  split
  ·rfl
  ·rw [gfI_zero]
theorem gfM_lt {a : Nat} (h : a < 256) (b : Nat) : gfM a b < 256 := gfI_lt 8 a b h
theorem gfM_comm2 {a : Nat} (h : a < 256) (b c : Nat) : gfM (gfM a b) c = gfM (gfM a c) b := (gfI_comm c 8 a b h).symm
theorem gfM_lin {a c : Nat} (ha : a < 256) (hc : c < 256) (b : Nat) : gfM (a ^^^ c) b = gfM a b ^^^ gfM c b := gfI_lin 8 a c b ha hc
theorem gfM_one : ∀ b : Fin 256, gfM 1 b.1 = b.1 := by decide +kernel
theorem gfM_comm {a b : Nat} (ha : a < 256) (hb : b < 256) : gfM a b = gfM b a := by
 have h1 := gfM_comm2 (a := 1) (by omega) a b
 rw [gfM_one ⟨a, ha⟩, gfM_one ⟨b, hb⟩] at h1
 exact h1
theorem gfM_one' {a : Nat} (h : a < 256) : gfM a 1 = a := by rw [gfM_comm h (by omega)]; exact gfM_one ⟨a, h⟩
theorem gfM_zero (b : Nat) : gfM 0 b = 0 := gfI_zero 8 b
theorem gfM_assoc {a b c : Nat} (ha : a < 256) (hb : b < 256) (hc : c < 256) : gfM (gfM a b) c = gfM a (gfM b c) := by
 rw [gfM_comm ha hb, gfM_comm2 hb, gfM_comm (gfM_lt hb c) ha]
/-- From the highest bit on. -/
def gfS : Nat → Nat → Nat → Nat → Nat
 | 0, p, _, _ => p
 | n + 1, p, a, b => gfS n (if b / 2 ^ n % 2 = 1 then gfX p ^^^ a else gfX p) a b
def xIter : Nat → Nat → Nat
 | 0, a => a
 | n + 1, a => xIter n (gfX a)
theorem xIter_lt : ∀ n {a : Nat}, a < 256 → xIter n a < 256
 | 0, _, h => h
 | n + 1, _, h => xIter_lt n (gfX_lt h)
theorem xIter_lin : ∀ n {a b : Nat}, a < 256 → b < 256 → xIter n (a ^^^ b) = xIter n a ^^^ xIter n b
 | 0, _, _, _, _ => rfl
 | n + 1, _, _, ha, hb => by simp only [xIter]; rw [gfX_lin ha hb, xIter_lin n (gfX_lt ha) (gfX_lt hb)]
theorem gfI_last : ∀ (n a b : Nat), a < 256 → gfI (n + 1) a b 0 = gfI n a b 0 ^^^ (if b / 2 ^ n % 2 = 1 then xIter n a else 0)
 | 0, a, b, _ => by rw [gfI_step]; simp [gfI, xIter]
 | n + 1, a, b, h => by
  rw [gfI_step, gfI_last n _ _ (gfX_lt h), gfI_step n a b, Nat.div_div_eq_div_mul, Nat.xor_assoc, show 2 * 2 ^ n = 2 ^ (n + 1) by rw [Nat.pow_succ, Nat.mul_comm]]
  rfl
theorem gfS_gfI : ∀ (n p a b : Nat), p < 256 → a < 256 → gfS n p a b = xIter n p ^^^ gfI n a b 0
 | 0, p, a, b, _, _ => by simp [gfS, xIter, gfI]
 | n + 1, p, a, b, hp, ha => by
  simp only [gfS]
  rw [gfS_gfI n _ a b (by split; exact xor_lt256 (gfX_lt hp) ha; exact gfX_lt hp) ha, gfI_last n a b ha]
  split
  ·rw [xIter_lin n (gfX_lt hp) ha]
   simp only [xIter]
   rw [Nat.xor_assoc, Nat.xor_comm (xIter n a)]
  ·simp only [xIter, Nat.xor_zero]
theorem gfS_eq {a : Nat} (b : Nat) (ha : a < 256) : gfS 8 0 a b = gfM a b := by
 rw [gfS_gfI 8 0 a b (by omega) ha]
 have : ∀ n, xIter n 0 = 0 := fun n => by
  induction n with
  | zero => rfl
  | succ n ih => simp only [xIter]; rw [gfX_zero, ih]
 rw [this, Nat.zero_xor]
 rfl
def xorI (a b : Int) : Int := ((a.toNat ^^^ b.toNat : Nat) : Int)
theorem bits_xor {a b : Int} (ha : 0 ≤ a ∧ a < 9223372036854775808) (hb : 0 ≤ b ∧ b < 9223372036854775808) : bits .xor .i64 a b = xorI a b := by
 obtain ⟨x, rfl⟩ := Int.eq_ofNat_of_zero_le ha.1
 obtain ⟨y, rfl⟩ := Int.eq_ofNat_of_zero_le hb.1
 have hx : x % 2 ^ IntKind.i64.bits = x := Nat.mod_eq_of_lt (by show x < 2 ^ 64; omega)
 have hy : y % 2 ^ IntKind.i64.bits = y := Nat.mod_eq_of_lt (by show y < 2 ^ 64; omega)
 have hl : x ^^^ y < 2 ^ 63 := Nat.xor_lt_two_pow (by omega) (by omega)
 unfold xorI
 simp only [bits, BitVec.toNat_xor, BitVec.ofInt_natCast, BitVec.toNat_ofNat, hx, hy, Int.toNat_natCast]
 rw [IntKind.wrap_i64]
 omega
theorem xorI_bd {a b : Int} {n : Nat} (ha : a < 2 ^ n) (hb : b < 2 ^ n) : 0 ≤ xorI a b ∧ xorI a b < 2 ^ n := by
 have e : ((2 ^ n : Nat) : Int) = (2 : Int) ^ n := by norm_cast
 have p : (0 : Nat) < 2 ^ n := Nat.two_pow_pos n
 have h : a.toNat ^^^ b.toNat < 2 ^ n := Nat.xor_lt_two_pow (by omega) (by omega)
 unfold xorI
 omega
/-- One round of the check: the top bit out, the rest up by one. -/
def crcStep (x : Int) : Int := if x ≥ 32768 then xorI (2 * x) 4129 % 65536 else 2 * x % 65536
def crcTurns : Nat → Int → Int
 | 0, x => x
 | d + 1, x => crcTurns d (crcStep x)
def crcGo : List Int → Int → Int
 | [], x => x
 | b :: l, x => crcGo l (crcTurns 8 (xorI x (256 * b)))
def crcOf (l : List Int) : Int := if l.length > 65536 then 0 else crcGo l 65535
theorem crcStep_bd (x : Int) : 0 ≤ crcStep x ∧ crcStep x < 65536 := by unfold crcStep; split <;> omega
theorem crcTurns_bd : ∀ (d : Nat) (x : Int), 0 ≤ x ∧ x < 65536 → 0 ≤ crcTurns d x ∧ crcTurns d x < 65536
 | 0, _, h => h
 | d + 1, x, _ => crcTurns_bd d _ (crcStep_bd x)
theorem crcGo_bd : ∀ (l : List Int) (x : Int), 0 ≤ x ∧ x < 65536 → (∀ b ∈ l, 0 ≤ b ∧ b < 256) → 0 ≤ crcGo l x ∧ crcGo l x < 65536
 | [], _, h, _ => h
 | b :: l, x, h, hb => by
  have := hb b (by simp)
  exact crcGo_bd l _ (crcTurns_bd 8 _ (xorI_bd (n := 16) (by omega) (by omega))) (fun y hy => hb y (by simp [hy]))
theorem crcOf_bd {l : List Int} (hb : ∀ b ∈ l, 0 ≤ b ∧ b < 256) : 0 ≤ crcOf l ∧ crcOf l < 65536 := by
 unfold crcOf
 split
 ·omega
 ·exact crcGo_bd l _ (by omega) hb
/-- The word with its seventeenth bit, turned over with the seventeen bits of the maker, is the low sixteen turned over. -/
theorem xor17 {x : Int} (h0 : 65536 ≤ x) (h1 : x < 131072) : xorI x 69665 = xorI x 4129 % 65536 := by
 obtain ⟨n, rfl⟩ := Int.eq_ofNat_of_zero_le (show 0 ≤ x by omega)
 have e1 : (n ^^^ 69665) / 2 ^ 16 = 0 := by
  rw [Nat.xor_div_two_pow, show n / 2 ^ 16 = 1 by omega]; rfl
 have e2 : (n ^^^ 69665) % 2 ^ 16 = (n ^^^ 4129) % 2 ^ 16 := by
  rw [Nat.xor_mod_two_pow, Nat.xor_mod_two_pow]
 unfold xorI
 simp only [Int.toNat_natCast]
 rw [show (69665 : Int).toNat = 69665 by rfl, show (4129 : Int).toNat = 4129 by rfl]
 omega
theorem l1In_eq (a b c : Int) : spec_l1In.f a b c = some (decide (b ≤ a) && decide (a ≤ c)) := by
 unfold spec_l1In.f
 by_cases h : a ≥ b
 case pos => rw [if_pos h]; simp [show b ≤ a from h]
 rw [if_neg h]; simp [show ¬ b ≤ a from h]
theorem isByte_eq (a : Int) : impl_isByte.f a = some (decide (0 ≤ a ∧ a ≤ 255)) := by
 unfold impl_isByte.f
 by_cases h : a ≥ 0
 case pos => rw [if_pos h]; simp [h]
 rw [if_neg h]; simp; omega
theorem xorN (a b : Nat) (ha : a < 9223372036854775808) (hb : b < 9223372036854775808) : bits .xor .i64 (a : Int) (b : Int) = ((a ^^^ b : Nat) : Int) := by
 rw [bits_xor ⟨by omega, by omega⟩ ⟨by omega, by omega⟩]
 unfold xorI
 simp
theorem gfX_int {a : Nat} (h : a < 256) : (if wrap64 ((a : Int) * 2) > 255 then bits .xor .i64 (wrap64 ((a : Int) * 2)) 285 else wrap64 ((a : Int) * 2)) = ((gfX a : Nat) : Int) := by
 rw [w64 (by omega) (by omega)]
 unfold gfX
 by_cases h2 : 2 * a > 255
 case neg => rw [if_neg (by omega), if_neg h2]; omega
 rw [if_pos (by omega), if_pos h2, show ((a : Int) * 2) = ((2 * a : Nat) : Int) by omega, show (285 : Int) = ((285 : Nat) : Int) from rfl, xorN _ _ (by omega) (by omega)]
theorem gfI_zb : ∀ n a r, gfI n a 0 r = r
 | 0, _, _ => rfl
 | n + 1, a, r => by simp only [gfI]; rw [if_neg (by decide)]; exact gfI_zb n _ _
theorem iGfMul_l0 : ∀ (n a b r : Nat), a < 256 → b < 2 ^ n → b < 256 → r < 256 → Ev (fun k => impl_GfMul.l0 k (a : Int) (b : Int) (r : Int)) ((gfI n a b r : Nat) : Int) := by
 intro n
 induction n with
 | zero =>
  intro a b r ha hb _ hr
  refine Ev.succ ?_
  simp only [impl_GfMul.l0]
  exact Ev.neg (by simp at hb; omega) (Ev.some_ rfl)
 | succ n ih =>
  intro a b r ha hb hb2 hr
  refine Ev.succ ?_
  simp only [impl_GfMul.l0]
  by_cases h0 : b = 0
  case pos =>
   subst h0
   exact Ev.neg (by omega) (Ev.some_ (by rw [gfI_zb]))
  have hx := gfX_int ha
  have hxl := gfX_lt ha
  have hb3 : b / 2 < 2 ^ n := by rw [Nat.pow_succ] at hb; omega
  have e2 : (b : Int) / 2 = ((b / 2 : Nat) : Int) := by omega
  have e1 : bits .and .i64 (b : Int) 1 = ((b % 2 : Nat) : Int) := by
   have := bits_and_mask (b : Int) 1 (by omega)
   rw [show ((2 : Int) ^ 1 - 1) = 1 by decide] at this
   rw [this]; omega
  have er : bits .xor .i64 (r : Int) (a : Int) = ((r ^^^ a : Nat) : Int) := xorN r a (by omega) (by omega)
  have hrl : r ^^^ a < 256 := xor_lt256 hr ha
  have i1 := ih (gfX a) (b / 2) (r ^^^ a) hxl hb3 (by omega) hrl
  have i0 := ih (gfX a) (b / 2) r hxl hb3 (by omega) hr
  simp only [gfI]
  rw [e1, e2, er]
  clear ih e1 e2 er hb hb3
  refine Ev.pos (by omega) ?_
  by_cases h1 : b % 2 = 1
  case neg =>
   rw [if_neg h1]
   refine Ev.neg (by omega) ?_
   by_cases h2 : wrap64 ((a : Int) * 2) > 255
   case pos =>
    rw [if_pos h2] at hx
    rw [hx]
    exact Ev.pos h2 i0
   rw [if_neg h2] at hx
   rw [hx] at h2 ⊢
   exact Ev.neg h2 i0
  rw [if_pos h1]
  refine Ev.pos (by omega) ?_
  by_cases h2 : wrap64 ((a : Int) * 2) > 255
  case pos =>
   rw [if_pos h2] at hx
   rw [hx]
   exact Ev.pos h2 i1
  rw [if_neg h2] at hx
  rw [hx] at h2 ⊢
  exact Ev.neg h2 i1
theorem iGfMul_ev (a b : Nat) (ha : a < 256) (hb : b < 256) : Ev (fun k => impl_GfMul.f k (a : Int) (b : Int)) ((gfM a b : Nat) : Int) := by
 unfold impl_GfMul.f
 rw [isByte_eq, isByte_eq]
 simp only [Option.bind_some]
 refine Ev.pos (by simp; omega) ?_
 rw [show (!decide (0 ≤ (b : Int) ∧ (b : Int) ≤ 255)) = false by simp; omega]
 refine Ev.succ ?_
 simp only [impl_GfMul.j0]
 exact Ev.neg (by decide) (iGfMul_l0 8 a b 0 ha hb hb (by omega))
theorem byte_eq (a : Int) : spec_l14Byte.f a = some (decide (0 ≤ a) && decide (a ≤ 255)) := by
 unfold spec_l14Byte.f; rw [l1In_eq]; rfl
theorem sGfMul_l0 (a b : Nat) (ha : a < 256) (hb : b < 256) : ∀ (n p : Nat), n ≤ 8 → p < 256 → Ev (fun k => spec_GfMul.l0 k (a : Int) (b : Int) (p : Int) ((n : Int) - 1)) ((gfS n p a b : Nat) : Int) := by
 intro n
 induction n with
 | zero =>
  intro p _ _
  refine Ev.succ ?_
  simp only [spec_GfMul.l0]
  exact Ev.neg (by omega) (Ev.some_ rfl)
 | succ n ih =>
  intro p hn hp
  have e1 : ((n + 1 : Nat) : Int) - 1 = (n : Int) := by omega
  have hx := gfX_int hp
  rw [show (p : Int) * 2 = 2 * (p : Int) by omega] at hx
  have hxl := gfX_lt hp
  have hw : wrap64 (2 * (p : Int)) ≥ 256 ↔ wrap64 (2 * (p : Int)) > 255 := by omega
  have e2 : shr .i64 (b : Int) (IntKind.u64.wrap (n : Int)) = ((b / 2 ^ n : Nat) : Int) := by
   rw [wu64 (by omega) (by omega)]
   unfold shr
   rw [show min ((n : Int).toNat) IntKind.i64.bits = n by simp [IntKind.bits]; omega]
   have : 2 ^ n ≤ 256 := by have := Nat.pow_le_pow_right (n := 2) (by omega) hn; simp at this; exact Nat.le_trans (Nat.pow_le_pow_right (by omega) (by omega : n ≤ 8)) (by decide)
   first
    | (rw [IntKind.wrap_i64]; have hd : b / 2 ^ n ≤ b := Nat.div_le_self _ _; omega)
    | (simp; omega)
    | simp
  have e3 : Int.tmod (((b / 2 ^ n : Nat) : Int)) 2 = ((b / 2 ^ n % 2 : Nat) : Int) := by
   generalize b / 2 ^ n = q
   rw [Int.tmod_eq_emod_of_nonneg (by omega)]; omega
  have e4 : wrap64 ((n : Int) - 1) = (n : Int) - 1 := w64 (by omega) (by omega)
  have er : bits .xor .i64 ((gfX p : Nat) : Int) (a : Int) = ((gfX p ^^^ a : Nat) : Int) := xorN _ _ (by omega) (by omega)
  have i1 := ih (gfX p ^^^ a) (by omega) (xor_lt256 hxl ha)
  have i0 := ih (gfX p) (by omega) hxl
  have hu : 0 ≤ IntKind.u64.wrap (n : Int) := by rw [wu64 (by omega) (by omega)]; omega
  refine Ev.succ ?_
  simp only [spec_GfMul.l0, gfS]
  simp only [e1, e2, e3, e4]
  refine Ev.pos (by omega) ?_
  have bit : ∀ q : Int, q = ((gfX p : Nat) : Int) → Ev (fun k => if 0 ≤ IntKind.u64.wrap (n : Int) then (if ((b / 2 ^ n % 2 : Nat) : Int) = 1 then spec_GfMul.l0 k (a : Int) (b : Int) (bits .xor .i64 q (a : Int)) ((n : Int) - 1) else spec_GfMul.l0 k (a : Int) (b : Int) q ((n : Int) - 1)) else none) ((gfS n (if b / 2 ^ n % 2 = 1 then gfX p ^^^ a else gfX p) a b : Nat) : Int) := by
   intro q hq
   subst hq
   rw [er]
   refine Ev.pos hu ?_
   by_cases hb1 : b / 2 ^ n % 2 = 1
   case neg => rw [if_neg hb1]; exact Ev.neg (by omega) i0
   rw [if_pos hb1]; exact Ev.pos (by omega) i1
  by_cases h2 : wrap64 (2 * (p : Int)) > 255
  case pos =>
   rw [if_pos h2] at hx
   exact Ev.pos (hw.2 h2) (bit _ hx)
  rw [if_neg h2] at hx
  exact Ev.neg (fun h => h2 (hw.1 h)) (bit _ hx)
theorem sGfMul_ev (a b : Nat) (ha : a < 256) (hb : b < 256) : Ev (fun k => spec_GfMul.f k (a : Int) (b : Int)) ((gfM a b : Nat) : Int) := by
 unfold spec_GfMul.f
 rw [byte_eq, byte_eq]
 simp only [Option.bind_some]
 refine Ev.pos (by simp; omega) ?_
 rw [show (!(decide (0 ≤ (b : Int)) && decide ((b : Int) ≤ 255))) = false by simp; omega]
 refine Ev.succ ?_
 simp only [spec_GfMul.j0]
 refine Ev.neg (by decide) ?_
 rw [← gfS_eq b ha]
 exact sGfMul_l0 a b ha hb 8 0 (by omega) (by omega)
def gfP : Nat → Nat
 | 0 => 1
 | n + 1 => gfM (gfP n) 2
theorem gfP_lt : ∀ n, gfP n < 256
 | 0 => by decide
 | n + 1 => gfM_lt (gfP_lt n) 2
theorem iPow_l0 (N : Nat) (hN : N ≤ 100) : ∀ d i : Nat, i + d = N → Ev (fun k => impl_gfPow.l0 k ((gfP i : Nat) : Int) (N : Int) (i : Int)) ((gfP N : Nat) : Int) := by
 intro d
 induction d with
 | zero =>
  intro i hi
  refine Ev.succ ?_
  simp only [impl_gfPow.l0]
  rw [show i = N by omega]
  exact Ev.neg (by omega) (Ev.some_ rfl)
 | succ d ih =>
  intro i hi
  refine Ev.succ ?_
  simp only [impl_gfPow.l0]
  rw [w64_add (by omega) (by omega)]
  exact Ev.pos (by omega) (Ev.next (iGfMul_ev (gfP i) 2 (gfP_lt i) (by omega)) (ih (i + 1) (by omega)))
theorem iPow_ev (n : Nat) (hn : n ≤ 100) : Ev (fun k => impl_gfPow.f k (n : Int)) ((gfP n : Nat) : Int) := by
 unfold impl_gfPow.f
 rw [show Int.tmod (n : Int) 255 = (n : Int) by rw [Int.tmod_eq_emod_of_nonneg (by omega)]; omega]
 exact iPow_l0 n hn n 0 (by omega)
theorem sPow_l0 (N : Nat) (hN : N ≤ 100) : ∀ d i : Nat, i + d = N → Ev (fun k => spec_l14Pow.l0 k (N : Int) ((gfP i : Nat) : Int) (i : Int)) ((gfP N : Nat) : Int) := by
 have e : Int.tmod (N : Int) 255 = (N : Int) := by rw [Int.tmod_eq_emod_of_nonneg (by omega)]; omega
 intro d
 induction d with
 | zero =>
  intro i hi
  refine Ev.succ ?_
  simp only [spec_l14Pow.l0]
  rw [show i = N by omega, e]
  exact Ev.neg (by omega) (Ev.some_ rfl)
 | succ d ih =>
  intro i hi
  refine Ev.succ ?_
  simp only [spec_l14Pow.l0]
  rw [w64_add (by omega) (by omega), e]
  exact Ev.pos (by omega) (Ev.next (sGfMul_ev (gfP i) 2 (gfP_lt i) (by omega)) (ih (i + 1) (by omega)))
theorem sPow_ev (n : Nat) (hn : n ≤ 100) : Ev (fun k => spec_l14Pow.f k (n : Int)) ((gfP n : Nat) : Int) := sPow_l0 n hn n 0 (by omega)
/-! Reed and Solomon's words: the generator, the rest, as lists of bytes told by whole numbers. -/
def isB (l : List Int) : Prop := ∀ x ∈ l, 0 ≤ x ∧ x < 256
def gM (a b : Int) : Int := ((gfM a.toNat b.toNat : Nat) : Int)
theorem gM_bd {a : Int} (h : 0 ≤ a ∧ a < 256) (b : Int) : 0 ≤ gM a b ∧ gM a b < 256 := by
 have := gfM_lt (a := a.toNat) (by omega) b.toNat
 unfold gM; omega
theorem gM_comm {a b : Int} (ha : 0 ≤ a ∧ a < 256) (hb : 0 ≤ b ∧ b < 256) : gM a b = gM b a := by
 unfold gM; rw [gfM_comm (by omega) (by omega)]
theorem iGM {a b : Int} (ha : 0 ≤ a ∧ a < 256) (hb : 0 ≤ b ∧ b < 256) : Ev (fun k => impl_GfMul.f k a b) (gM a b) := by
 have := iGfMul_ev a.toNat b.toNat (by omega) (by omega)
 rwa [Int.toNat_of_nonneg ha.1, Int.toNat_of_nonneg hb.1] at this
theorem sGM {a b : Int} (ha : 0 ≤ a ∧ a < 256) (hb : 0 ≤ b ∧ b < 256) : Ev (fun k => spec_GfMul.f k a b) (gM a b) := by
 have := sGfMul_ev a.toNat b.toNat (by omega) (by omega)
 rwa [Int.toNat_of_nonneg ha.1, Int.toNat_of_nonneg hb.1] at this
def xB (a b : Int) : Int := bits .xor .i64 a b
theorem xB_bd {a b : Int} (ha : 0 ≤ a ∧ a < 256) (hb : 0 ≤ b ∧ b < 256) : 0 ≤ xB a b ∧ xB a b < 256 := by
 have := xor_lt256 (a := a.toNat) (b := b.toNat) (by omega) (by omega)
 unfold xB
 rw [← Int.toNat_of_nonneg ha.1, ← Int.toNat_of_nonneg hb.1, xorN _ _ (by omega) (by omega)]
 omega
theorem rd_B {l : List Int} (h : isB l) (i : Int) : 0 ≤ rd l i ∧ rd l i < 256 := by
 unfold rd
 rcases Nat.lt_or_ge i.toNat l.length with h1 | h1
 ·rw [List.getD_eq_getElem?_getD, List.getElem?_eq_getElem h1]; exact h _ (List.getElem_mem h1)
 ·rw [List.getD_eq_getElem?_getD, List.getElem?_eq_none h1]; simp
theorem isB_set {l : List Int} (h : isB l) {x : Int} (hx : 0 ≤ x ∧ x < 256) (i : Nat) : isB (l.set i x) := fun y hy => by
 rcases List.mem_or_eq_of_mem_set hy with h2 | h2
 ·exact h y h2
 ·rw [h2]; exact hx
/-- The next generator. -/
def mulRoot : Nat → Nat → List Int → Int → List Int → List Int
 | 0, _, _, _, acc => acc
 | d + 1, j, g, w, acc => mulRoot d (j + 1) g w (acc.set (j + 1) (xB (rd acc ((j + 1 : Nat) : Int)) (gM (rd g (j : Int)) w)))
theorem mulRoot_len : ∀ (d j : Nat) (g : List Int) (w : Int) (acc : List Int), (mulRoot d j g w acc).length = acc.length
 | 0, _, _, _, _ => rfl
 | d + 1, j, g, w, acc => by simp only [mulRoot]; rw [mulRoot_len d]; simp
theorem mulRoot_B : ∀ (d j : Nat) (g : List Int) (w : Int) (acc : List Int), isB g → isB acc → isB (mulRoot d j g w acc)
 | 0, _, _, _, _, _, h => h
 | d + 1, j, g, w, acc, hg, h => by
  simp only [mulRoot]
  exact mulRoot_B d _ g w _ hg (isB_set h (xB_bd (rd_B h _) (gM_bd (rd_B hg _) w)) _)
def genL : Nat → List Int
 | 0 => [1]
 | i + 1 => mulRoot (genL i).length 0 (genL i) ((gfP i : Nat) : Int) (genL i ++ [0])
theorem genL_len : ∀ i, (genL i).length = i + 1
 | 0 => rfl
 | i + 1 => by simp only [genL]; rw [mulRoot_len]; simp [genL_len i]
theorem isB_append {a b : List Int} (ha : isB a) (hb : isB b) : isB (a ++ b) := fun x hx => by
 rcases List.mem_append.1 hx with h | h
 ·exact ha x h
 ·exact hb x h
theorem isB_zero : isB [0] := fun x hx => by simp at hx; omega
theorem genL_B : ∀ i, isB (genL i)
 | 0 => fun x hx => by simp [genL] at hx; omega
 | i + 1 => by simp only [genL]; exact mulRoot_B _ _ _ _ _ (genL_B i) (isB_append (genL_B i) isB_zero)
/-- The register after one byte: shifted, and the generator f times laid over it. -/
def rsMul : Nat → Nat → List Int → Int → List Int → List Int
 | 0, _, _, _, acc => acc
 | d + 1, j, g, f, acc => rsMul d (j + 1) g f (acc.set j (xB (rd acc (j : Int)) (gM f (rd g ((j + 1 : Nat) : Int)))))
theorem rsMul_len : ∀ (d j : Nat) (g : List Int) (f : Int) (acc : List Int), (rsMul d j g f acc).length = acc.length
 | 0, _, _, _, _ => rfl
 | d + 1, j, g, f, acc => by simp only [rsMul]; rw [rsMul_len d]; simp
theorem rsMul_B : ∀ (d j : Nat) (g : List Int) (f : Int) (acc : List Int), isB g → (0 ≤ f ∧ f < 256) → isB acc → isB (rsMul d j g f acc)
 | 0, _, _, _, _, _, _, h => h
 | d + 1, j, g, f, acc, hg, hf, h => by
  simp only [rsMul]
  exact rsMul_B d _ g f _ hg hf (isB_set h (xB_bd (rd_B h _) (gM_bd hf _)) _)
theorem rsMul_get : ∀ (d j : Nat) (g : List Int) (f : Int) (acc : List Int) (t : Nat), j + d ≤ acc.length → rd (rsMul d j g f acc) (t : Int) = if j ≤ t ∧ t < j + d then xB (rd acc (t : Int)) (gM f (rd g ((t + 1 : Nat) : Int))) else rd acc (t : Int)
 | 0, j, _, _, _, t, _ => by simp only [rsMul]; rw [if_neg (by omega)]
 | d + 1, j, g, f, acc, t, h => by
  simp only [rsMul]
  rw [rsMul_get d (j + 1) g f _ t (by simp; omega)]
  by_cases e : j = t
  case pos =>
   subst e
   rw [if_neg (by omega), if_pos (by omega), rd_nat, List.getD_eq_getElem?_getD, List.getElem?_set_self (by omega)]
   rfl
  have e2 : rd (acc.set j (xB (rd acc (j : Int)) (gM f (rd g ((j + 1 : Nat) : Int))))) (t : Int) = rd acc (t : Int) := by
   simp [rd_nat, List.getD_eq_getElem?_getD, List.getElem?_set_ne e]
  rw [e2]
  by_cases h2 : j + 1 ≤ t ∧ t < j + 1 + d
  case neg => rw [if_neg h2, if_neg (by omega)]
  rw [if_pos h2, if_pos (by omega)]
def rsStep (g r : List Int) (x : Int) : List Int := rsMul r.length 0 g (xB (rd r 0) x) (r.drop 1 ++ [0])
def rsRest (g : List Int) : List Int → List Int → List Int
 | r, [] => r
 | r, x :: xs => rsRest g (rsStep g r x) xs
theorem rsStep_len {g r : List Int} (x : Int) (h : 0 < r.length) : (rsStep g r x).length = r.length := by
 unfold rsStep; rw [rsMul_len]; simp; omega
theorem rsStep_B {g r : List Int} {x : Int} (hg : isB g) (hr : isB r) (hx : 0 ≤ x ∧ x < 256) : isB (rsStep g r x) :=
 rsMul_B _ _ _ _ _ hg (xB_bd (rd_B hr 0) hx) (isB_append (fun y hy => hr y (List.mem_of_mem_drop hy)) isB_zero)
theorem rsRest_len (g : List Int) : ∀ (xs r : List Int), 0 < r.length → (rsRest g r xs).length = r.length
 | [], _, _ => rfl
 | x :: xs, r, h => by simp only [rsRest]; rw [rsRest_len g xs _ (by rw [rsStep_len x h]; exact h), rsStep_len x h]
theorem rsRest_B (g : List Int) (hg : isB g) : ∀ (xs r : List Int), isB r → isB xs → isB (rsRest g r xs)
 | [], _, h, _ => h
 | x :: xs, r, h, hx => by
  simp only [rsRest]
  exact rsRest_B g hg xs _ (rsStep_B hg h (hx x (by simp))) (fun y hy => hx y (by simp [hy]))
def rsB (m : Int) (n : Nat) : Bool := decide ((1 ≤ m ∧ m ≤ 8) ∧ 1 ≤ n ∧ (n : Int) ≤ 255 - 2 * m)
def rsOf (data : List Int) (m : Int) : List Int × Bool :=
 if rsB m data.length = true then (data ++ rsRest (genL (2 * m).toNat) (List.replicate (2 * m).toNat 0) data, true) else ([], false)
def widthB (a : Int) : Bool := decide (a = 2 ∨ a = 4 ∨ a = 6 ∨ a = 8)
def inB (a b c : Int) : Bool := decide (b ≤ a) && decide (a ≤ c)
theorem inB_iff {a b c : Int} : inB a b c = true ↔ b ≤ a ∧ a ≤ c := by unfold inB; simp
def modemB (w m r s ra si : Int) : Bool := widthB w && inB m 1 8 && inB r 1 64 && inB s 1 65535 && inB ra 1 8 && inB si 1 10000
theorem modemB_iff {w m r s ra si : Int} : modemB w m r s ra si = true ↔ (w = 2 ∨ w = 4 ∨ w = 6 ∨ w = 8) ∧ (1 ≤ m ∧ m ≤ 8) ∧ (1 ≤ r ∧ r ≤ 64) ∧ (1 ≤ s ∧ s ≤ 65535) ∧ (1 ≤ ra ∧ ra ≤ 8) ∧ (1 ≤ si ∧ si ≤ 10000) := by
 unfold modemB; simp only [Bool.and_eq_true, inB_iff, widthB, decide_eq_true_eq, and_assoc]
theorem xB_nat (a b : Nat) (ha : a < 256) (hb : b < 256) : xB (a : Int) (b : Int) = ((a ^^^ b : Nat) : Int) := xorN a b (by omega) (by omega)
theorem toB {a : Int} (h : 0 ≤ a ∧ a < 256) : ∃ n : Nat, a = (n : Int) ∧ n < 256 := ⟨a.toNat, by omega, by omega⟩
theorem xB_comm {a b : Int} (ha : 0 ≤ a ∧ a < 256) (hb : 0 ≤ b ∧ b < 256) : xB a b = xB b a := by
 obtain ⟨x, rfl, hx⟩ := toB ha
 obtain ⟨y, rfl, hy⟩ := toB hb
 rw [xB_nat _ _ hx hy, xB_nat _ _ hy hx, Nat.xor_comm]
theorem xB_right {a b c : Int} (ha : 0 ≤ a ∧ a < 256) (hb : 0 ≤ b ∧ b < 256) (hc : 0 ≤ c ∧ c < 256) : xB (xB a b) c = xB (xB a c) b := by
 obtain ⟨x, rfl, hx⟩ := toB ha
 obtain ⟨y, rfl, hy⟩ := toB hb
 obtain ⟨z, rfl, hz⟩ := toB hc
 rw [xB_nat _ _ hx hy, xB_nat _ _ hx hz, xB_nat _ _ (xor_lt256 hx hy) hz, xB_nat _ _ (xor_lt256 hx hz) hy, Nat.xor_assoc, Nat.xor_assoc, Nat.xor_comm y]
theorem xB_zero {a : Int} (ha : 0 ≤ a ∧ a < 256) : xB a 0 = a ∧ xB 0 a = a := by
 obtain ⟨x, rfl, hx⟩ := toB ha
 have h1 := xB_nat x 0 hx (by omega)
 have h2 := xB_nat 0 x (by omega) hx
 rw [Nat.xor_zero] at h1
 rw [Nat.zero_xor] at h2
 exact ⟨h1, h2⟩
/-- The generator x times laid over a row from place i on. -/
def layG : Nat → Nat → Nat → List Int → Int → List Int → List Int
 | 0, _, _, _, _, R => R
 | d + 1, k, i, g, x, R => layG d (k + 1) i g x (R.set (i + k) (xB (rd R ((i + k : Nat) : Int)) (gM (rd g (k : Int)) x)))
theorem layG_len : ∀ (d k i : Nat) (g : List Int) (x : Int) (R : List Int), (layG d k i g x R).length = R.length
 | 0, _, _, _, _, _ => rfl
 | d + 1, k, i, g, x, R => by simp only [layG]; rw [layG_len d]; simp
theorem layG_B : ∀ (d k i : Nat) (g : List Int) (x : Int) (R : List Int), isB g → isB R → isB (layG d k i g x R)
 | 0, _, _, _, _, _, _, h => h
 | d + 1, k, i, g, x, R, hg, h => by
  simp only [layG]
  exact layG_B d _ _ g x _ hg (isB_set h (xB_bd (rd_B h _) (gM_bd (rd_B hg _) _)) _)
theorem layG_get : ∀ (d k i : Nat) (g : List Int) (x : Int) (R : List Int) (t : Nat), i + k + d ≤ R.length → rd (layG d k i g x R) (t : Int) = if i + k ≤ t ∧ t < i + k + d then xB (rd R (t : Int)) (gM (rd g ((t - i : Nat) : Int)) x) else rd R (t : Int)
 | 0, k, i, _, _, _, t, _ => by simp only [layG]; rw [if_neg (by omega)]
 | d + 1, k, i, g, x, R, t, h => by
  simp only [layG]
  rw [layG_get d (k + 1) i g x _ t (by simp; omega)]
  by_cases e : i + k = t
  case pos =>
   subst e
   rw [if_neg (by omega), if_pos (by omega), rd_nat, List.getD_eq_getElem?_getD, List.getElem?_set_self (by omega), show i + k - i = k by omega]
   rfl
  have e2 : rd (R.set (i + k) (xB (rd R ((i + k : Nat) : Int)) (gM (rd g (k : Int)) x))) (t : Int) = rd R (t : Int) := by
   simp [rd_nat, List.getD_eq_getElem?_getD, List.getElem?_set_ne e]
  rw [e2]
  by_cases h2 : i + (k + 1) ≤ t ∧ t < i + (k + 1) + d
  case neg => rw [if_neg h2, if_neg (by omega)]
  rw [if_pos h2, if_pos (by omega)]
/-- The long row against the register: from place i on. -/
def winOk (data R r : List Int) (i D : Nat) : Prop := (∀ j, j < D → rd R ((i + j : Nat) : Int) = xB (rd r (j : Int)) (rd data ((i + j : Nat) : Int))) ∧ ∀ p, i + D ≤ p → rd R (p : Int) = rd data (p : Int)
theorem rd_past {l : List Int} {p : Nat} (h : l.length ≤ p) : rd l (p : Int) = 0 := by rw [rd_nat, List.getD_eq_getElem?_getD, List.getElem?_eq_none h]; rfl
theorem win_step {data R r g : List Int} {i D : Nat} (hD : 0 < D) (hr : r.length = D) (hg : g.length = D + 1) (hgB : isB g) (hrB : isB r) (hdB : isB data) (hRl : i + D + 1 ≤ R.length) (h : winOk data R r i D) :
 winOk data (layG (D + 1) 0 i g (rd R (i : Int)) R) (rsStep g r (rd data (i : Int))) (i + 1) D := by
 have hx : rd R (i : Int) = xB (rd r 0) (rd data (i : Int)) := by have := h.1 0 hD; simpa using this
 rw [hx]
 have hfB := xB_bd (rd_B hrB 0) (rd_B hdB (i : Int))
 refine ⟨fun j hj => ?_, fun p hp => ?_⟩
 ·rw [layG_get _ _ _ _ _ _ _ (by omega), if_pos (by omega), show i + 1 + j - i = j + 1 by omega]
  unfold rsStep
  rw [rsMul_get _ _ _ _ _ _ (by simp; omega), if_pos (by omega), gM_comm (rd_B hgB _) hfB]
  have hgb := gM_bd hfB (rd g ((j + 1 : Nat) : Int))
  have hdb := rd_B hdB ((i + 1 + j : Nat) : Int)
  by_cases hj2 : j + 1 < D
  case neg =>
   have e := h.2 (i + 1 + j) (by omega)
   have e2 : rd (r.drop 1 ++ [0]) (j : Int) = 0 := by
    rw [rd_nat, List.getD_eq_getElem?_getD, List.getElem?_append_right (by simp; omega)]
    simp
    cases h3 : j - (r.length - 1) with
    | zero => rfl
    | succ q => rfl
   rw [e, e2, (xB_zero hgb).2]
   exact xB_comm hdb hgb
  have e := h.1 (j + 1) hj2
  rw [show i + (j + 1) = i + 1 + j by omega] at e
  have e2 : rd (r.drop 1 ++ [0]) (j : Int) = rd r ((j + 1 : Nat) : Int) := by
   rw [rd_nat, rd_nat, List.getD_eq_getElem?_getD, List.getD_eq_getElem?_getD, List.getElem?_append_left (by simp; omega), List.getElem?_drop, Nat.add_comm 1 j]
  rw [e, e2]
  exact xB_right (rd_B hrB _) hdb hgb
 ·rw [layG_get _ _ _ _ _ _ _ (by omega), if_neg (by omega)]
  exact h.2 p (by omega)
theorem iRs_l5 (data r : List Int) (hr : isB r) (hl : data.length + r.length ≤ 1000) : ∀ (d i : Nat), i + d = r.length → Ev (fun k => impl_RsCode.l5 k (data ++ r.take i) r (r.length : Int) (i : Int)) (data ++ r, true) := by
 intro d
 induction d with
 | zero =>
  intro i hi
  refine Ev.succ ?_
  simp only [impl_RsCode.l5]
  rw [List.take_of_length_le (show r.length ≤ i by omega)]
  exact Ev.neg (by omega) (Ev.some_ rfl)
 | succ d ih =>
  intro i hi
  have hb := rd_B hr (i : Int)
  have h2 := ih (i + 1) (by omega)
  rw [take_rd (xs := r) (i := i) (by omega), ← List.append_assoc] at h2
  refine Ev.succ ?_
  simp only [impl_RsCode.l5]
  rw [w64_add (by omega) (by omega), Int.emod_eq_of_lt hb.1 hb.2]
  exact Ev.pos (by omega) (Ev.pos (by omega) (Ev.pos (by omega) (Ev.pos (by simp; omega) h2)))
theorem iRs_l4 (data g : List Int) (hg : isB g) (hgl : g.length ≤ 100) (i : Nat) (hi : i ≤ 300) (x x90 x91 : Int) (hx : 0 ≤ x ∧ x < 256) {res : List Int × Bool} : ∀ (d k : Nat) (R : List Int), k + d = g.length → isB R → i + g.length ≤ R.length → Ev (fun q => impl_RsCode.l3 q data g (layG d k i g x R) x90 (wrap64 (x91 + 1))) res → Ev (fun q => impl_RsCode.l4 q data g R (i : Int) x x90 x91 (g.length : Int) (k : Int)) res := by
 intro d
 induction d with
 | zero =>
  intro k R hk hR hRl H
  refine Ev.succ ?_
  simp only [impl_RsCode.l4]
  exact Ev.neg (by omega) H
 | succ d ih =>
  intro k R hk hR hRl H
  have w := w64_add (i := (k : Int)) (by omega) (by omega)
  have w2 : wrap64 ((i : Int) + (k : Int)) = ((i + k : Nat) : Int) := by rw [w64 (by omega) (by omega)]; omega
  have hb := rd_B hg (k : Int)
  refine Ev.succ ?_
  simp only [impl_RsCode.l4]
  rw [w, w2]
  refine Ev.pos (by omega) (Ev.pos (by omega) (Ev.pos (by omega) (Ev.pos (by omega) (Ev.pos (by omega) (Ev.next (iGM hb hx) ?_)))))
  rw [Int.toNat_natCast]
  exact ih (k + 1) _ (by omega) (isB_set hR (xB_bd (rd_B hR _) (gM_bd hb _)) _) (by simpa using hRl) H
theorem clone_eq {l : List Int} (h : l.length ≤ 1000) : slices_Clone_int_int.f l = some l ∧ slices_Clone_byte_byte.f l = some l := by
 unfold slices_Clone_int_int.f slices_Clone_byte_byte.f
 rw [if_pos (by omega)]
 exact ⟨rfl, rfl⟩
theorem iRs_l3 (data g : List Int) (hdB : isB data) (hdl : data.length ≤ 300) (hg : isB g) (D : Nat) (hD : 0 < D) (hD2 : D ≤ 50) (hgl : g.length = D + 1) : ∀ (d i : Nat) (R r : List Int), i + d = data.length → R.length = data.length + D → isB R → isB r → r.length = D → winOk data R r i D → Ev (fun k => impl_RsCode.l3 k data g R (data.length : Int) (i : Int)) (data ++ rsRest g r (data.drop i), true) := by
 intro d
 induction d with
 | zero =>
  intro i R r hi hRl hR hr hrl h
  have e : R.drop data.length = r := by
   apply List.ext_getElem
   ·simp; omega
   ·intro j h1 h2
    have hw := h.1 j (by omega)
    rw [show i = data.length by omega, rd_past (l := data) (by omega), (xB_zero (rd_B hr _)).1, rd_get R _ (by omega), rd_get r _ h2] at hw
    rw [List.getElem_drop]
    exact hw
  refine Ev.succ ?_
  simp only [impl_RsCode.l3, (clone_eq (l := data) (by omega)).2, Option.bind_some]
  rw [List.drop_of_length_le (show data.length ≤ i by omega), Int.toNat_natCast, e]
  refine Ev.neg (by omega) (Ev.pos (by omega) (Ev.pos (by omega) ?_))
  have h4 := iRs_l5 data r hr (by omega) r.length 0 (by omega)
  simp only [List.take_zero, List.append_nil] at h4
  exact h4
 | succ d ih =>
  intro i R r hi hRl hR hr hrl h
  have w := w64_add (i := (i : Int)) (by omega) (by omega)
  refine Ev.succ ?_
  simp only [impl_RsCode.l3]
  refine Ev.pos (by omega) (Ev.pos (by omega) (Ev.pos (by omega) ?_))
  refine iRs_l4 data g hg (by omega) i (by omega) _ _ _ (rd_B hR _) g.length 0 R (by omega) hR (by omega) ?_
  rw [w, drop_rd (xs := data) (i := i) (by omega), hgl]
  exact ih (i + 1) _ (rsStep g r (rd data (i : Int))) (by omega) (by rw [layG_len]; exact hRl) (layG_B _ _ _ _ _ _ hg hR) (rsStep_B hg hr (rd_B hdB _)) (by rw [rsStep_len _ (by omega)]; exact hrl) (win_step hD hrl hgl hg hr hdB (by omega) h)
theorem iRs_l2 (data g : List Int) (hdB : isB data) (hdl : data.length ≤ 300) (D : Nat) {res : List Int × Bool} (H : Ev (fun k => impl_RsCode.l3 k data g (data ++ List.replicate D 0) (data.length : Int) 0) res) : ∀ d i : Nat, i + d = data.length → Ev (fun k => impl_RsCode.l2 k data g (data.take i ++ List.replicate (d + D) 0) data (data.length : Int) (i : Int)) res := by
 intro d
 induction d with
 | zero =>
  intro i hi
  refine Ev.succ ?_
  simp only [impl_RsCode.l2]
  rw [List.take_of_length_le (show data.length ≤ i by omega), Nat.zero_add]
  exact Ev.neg (by omega) H
 | succ d ih =>
  intro i hi
  have hx := rd_B hdB (i : Int)
  have h2 := ih (i + 1) (by omega)
  have e : (data.take i ++ List.replicate (d + 1 + D) 0).set i (rd data (i : Int)) = data.take (i + 1) ++ List.replicate (d + D) 0 := by
   rw [List.set_append, if_neg (by simp; omega), take_rd (xs := data) (i := i) (by omega), show d + 1 + D = (d + D) + 1 by omega, List.replicate_succ]
   simp [Nat.min_eq_left (show i ≤ data.length by omega)]
  refine Ev.succ ?_
  simp only [impl_RsCode.l2]
  rw [w64_add (by omega) (by omega), w64 (n := rd data (i : Int)) (by omega) (by omega), Int.toNat_natCast, e]
  exact Ev.pos (by omega) (Ev.pos (by omega) (Ev.pos (by omega) (Ev.pos (by simp; omega) h2)))
theorem iRs_l1 (data : List Int) (x1 : Int) (g : List Int) (hg : isB g) (hgl : g.length ≤ 100) (i : Nat) (hi : i ≤ 50) (x40 : Int) {res : List Int × Bool} : ∀ (d j : Nat) (acc : List Int), j + d = g.length → isB acc → acc.length = g.length + 1 → Ev (fun k => impl_RsCode.l0 k data x1 (mulRoot d j g ((gfP i : Nat) : Int) acc) x40 (wrap64 ((i : Int) + 1))) res → Ev (fun k => impl_RsCode.l1 k data x1 g ((gfP i : Nat) : Int) acc x40 (i : Int) (g.length : Int) (j : Int)) res := by
 have hp := gfP_lt i
 intro d
 induction d with
 | zero =>
  intro j acc hj ha hal H
  refine Ev.succ ?_
  simp only [impl_RsCode.l1]
  exact Ev.neg (by omega) H
 | succ d ih =>
  intro j acc hj ha hal H
  have w := w64_add (i := (j : Int)) (by omega) (by omega)
  have hb := rd_B hg (j : Int)
  refine Ev.succ ?_
  simp only [impl_RsCode.l1]
  rw [w]
  refine Ev.pos (by omega) (Ev.pos (by omega) (Ev.pos (by omega) (Ev.pos (by omega) (Ev.pos (by omega) (Ev.next (iGM hb ⟨by omega, by omega⟩) ?_)))))
  rw [show ((j : Int) + 1) = ((j + 1 : Nat) : Int) by omega, Int.toNat_natCast]
  exact ih (j + 1) _ (by omega) (isB_set ha (xB_bd (rd_B ha _) (gM_bd hb _)) _) (by simpa using hal) H
theorem iRs_l0 (data : List Int) (hdB : isB data) (hdl : data.length ≤ 300) (M : Nat) (hM : 1 ≤ M ∧ M ≤ 8) : ∀ d i : Nat, i + d = 2 * M → Ev (fun k => impl_RsCode.l0 k data (M : Int) (genL i) ((2 * M : Nat) : Int) (i : Int)) (data ++ rsRest (genL (2 * M)) (List.replicate (2 * M) 0) data, true) := by
 have w2 : wrap64 (2 * (M : Int)) = ((2 * M : Nat) : Int) := by rw [w64 (by omega) (by omega)]; omega
 have w4 : wrap64 ((data.length : Int) + ((2 * M : Nat) : Int)) = ((data.length + 2 * M : Nat) : Int) := by rw [w64 (by omega) (by omega)]; omega
 intro d
 induction d with
 | zero =>
  intro i hi
  refine Ev.succ ?_
  simp only [impl_RsCode.l0]
  rw [w2, w4, Int.toNat_natCast]
  refine Ev.neg (by omega) (Ev.pos (by omega) (Ev.pos (by omega) ?_))
  rw [show genL i = genL (2 * M) by rw [show i = 2 * M by omega]]
  have hz : isB (List.replicate (2 * M) (0 : Int)) := fun x hx => by rw [List.eq_of_mem_replicate hx]; omega
  have h3 := iRs_l3 data (genL (2 * M)) hdB hdl (genL_B _) (2 * M) (by omega) (by omega) (genL_len _) data.length 0 (data ++ List.replicate (2 * M) 0) (List.replicate (2 * M) 0) (by omega) (by simp) (isB_append hdB hz) hz (by simp) ?_
  ·rw [List.drop_zero] at h3
   have h2 := iRs_l2 data (genL (2 * M)) hdB hdl (2 * M) h3 data.length 0 (by omega)
   rw [List.take_zero, List.nil_append] at h2
   exact h2
  ·have hrz : ∀ j : Nat, rd (List.replicate (2 * M) (0 : Int)) (j : Int) = 0 := fun j => by
    rw [rd_nat, List.getD_eq_getElem?_getD, List.getElem?_replicate]
    split <;> rfl
   have hall : ∀ p : Nat, rd (data ++ List.replicate (2 * M) 0) (p : Int) = rd data (p : Int) := fun p => by
    rcases Nat.lt_or_ge p data.length with h | h
    ·rw [rd_nat, rd_nat, List.getD_eq_getElem?_getD, List.getD_eq_getElem?_getD, List.getElem?_append_left h]
    ·rw [rd_past h, rd_nat, List.getD_eq_getElem?_getD, List.getElem?_append_right h, List.getElem?_replicate]
     split <;> rfl
   refine ⟨fun j hj => ?_, fun p _ => hall p⟩
   rw [hall, hrz, (xB_zero (rd_B hdB _)).2]
 | succ d ih =>
  intro i hi
  have hl := genL_len i
  have h2 := ih (i + 1) (by omega)
  have w3 : wrap64 ((i : Int) + 1) = ((i + 1 : Nat) : Int) := by rw [w64 (by omega) (by omega)]; omega
  refine Ev.succ ?_
  simp only [impl_RsCode.l0, (clone_eq (l := genL i) (by omega)).1, Option.bind_some]
  refine Ev.pos (by omega) (Ev.next (iPow_ev i (by omega)) (Ev.pos (by omega) ?_))
  refine iRs_l1 data (M : Int) (genL i) (genL_B i) (by omega) i (by omega) _ (genL i).length 0 _ (by omega) (isB_append (genL_B i) isB_zero) (by simp) ?_
  rw [w3]
  exact h2
theorem iRs_ev (data : List Int) (m : Int) (hdb : isB data) (hdl : data.length ≤ 1048576) : Ev (fun k => impl_RsCode.f k data m) (rsOf data m) := by
 have bad : Ev (fun k => impl_RsCode.j0 k data m true) ([], false) := by
  refine Ev.succ ?_
  simp only [impl_RsCode.j0]
  exact Ev.pos trivial (Ev.some_ rfl)
 have hmend : impl_isMend.f m = some (inB m 1 8) := by
  unfold impl_isMend.f inB
  by_cases h : m ≥ 1 <;> simp [h]
 unfold impl_RsCode.f rsOf rsB
 refine Ev.next (Ev.here hmend) ?_
 by_cases h1 : 1 ≤ m ∧ m ≤ 8
 case neg =>
  rw [if_neg (by simp; omega)]
  exact Ev.neg (fun h => h1 (inB_iff.1 h)) bad
 refine Ev.pos (inB_iff.2 h1) ?_
 rw [w64 (n := 2 * m) (by omega) (by omega), w64 (by omega) (by omega)]
 by_cases h0 : data.length = 0
 case pos =>
  rw [if_neg (by simp; omega)]
  exact Ev.pos (by omega) bad
 refine Ev.neg (by omega) ?_
 by_cases h2 : (data.length : Int) ≤ 255 - 2 * m
 case neg =>
  rw [if_neg (by simp; omega), show decide ((data.length : Int) > 255 - 2 * m) = true by simp; omega]
  exact bad
 rw [if_pos (by simp; omega), show decide ((data.length : Int) > 255 - 2 * m) = false by simp; omega]
 obtain ⟨M, rfl⟩ := Int.eq_ofNat_of_zero_le (show 0 ≤ m by omega)
 refine Ev.succ ?_
 simp only [impl_RsCode.j0]
 rw [show (2 * (M : Int)).toNat = 2 * M by omega, show wrap64 (2 * (M : Int)) = ((2 * M : Nat) : Int) by rw [w64 (by omega) (by omega)]; omega]
 exact Ev.neg (by decide) (iRs_l0 data hdb (by omega) M (by omega) (2 * M) 0 (by omega))
theorem sRs_l4 (data r : List Int) (hr : isB r) (hl : data.length + r.length ≤ 1000) : ∀ (d i : Nat), i + d = r.length → Ev (fun k => spec_RsCode.l4 k r (data ++ r.take i) (i : Int)) (data ++ r, true) := by
 intro d
 induction d with
 | zero =>
  intro i hi
  refine Ev.succ ?_
  simp only [spec_RsCode.l4]
  rw [List.take_of_length_le (by omega)]
  exact Ev.neg (by omega) (Ev.some_ rfl)
 | succ d ih =>
  intro i hi
  have hb := rd_B hr (i : Int)
  have h2 := ih (i + 1) (by omega)
  rw [take_rd (xs := r) (i := i) (by omega), ← List.append_assoc] at h2
  refine Ev.succ ?_
  simp only [spec_RsCode.l4]
  rw [w64_add (by omega) (by omega), Int.emod_eq_of_lt hb.1 hb.2]
  exact Ev.pos (by omega) (Ev.pos (by omega) (Ev.pos (by simp; omega) h2))
theorem sRs_l3 (data g : List Int) (hg : isB g) (hgl : g.length ≤ 100) (x11 f : Int) (hf : 0 ≤ f ∧ f < 256) {res : List Int × Bool} : ∀ (d j : Nat) (acc : List Int), j + d = acc.length → isB acc → acc.length + 1 = g.length → Ev (fun k => spec_RsCode.l2 k data g (rsMul d j g f acc) (wrap64 (x11 + 1))) res → Ev (fun k => spec_RsCode.l3 k data g acc x11 f (j : Int)) res := by
 intro d
 induction d with
 | zero =>
  intro j acc hj ha hal H
  refine Ev.succ ?_
  simp only [spec_RsCode.l3]
  exact Ev.neg (by omega) H
 | succ d ih =>
  intro j acc hj ha hal H
  have hb := rd_B hg ((j + 1 : Nat) : Int)
  have w := w64_add (i := (j : Int)) (by omega) (by omega)
  refine Ev.succ ?_
  simp only [spec_RsCode.l3]
  rw [w]
  refine Ev.pos (by omega) (Ev.pos (by omega) (Ev.pos (by omega) (Ev.pos (by omega) (Ev.next (sGM hf hb) ?_))))
  rw [Int.toNat_natCast]
  exact ih (j + 1) _ (by simp; omega) (isB_set ha (xB_bd (rd_B ha _) (gM_bd hf _)) _) (by simpa using hal) H
theorem sRs_l2 (data g : List Int) (hg : isB g) (hgl : g.length ≤ 100) (hdb : isB data) (hdl : data.length ≤ 300) : ∀ (d i : Nat) (r : List Int), i + d = data.length → isB r → r.length + 1 = g.length → 0 < r.length → Ev (fun k => spec_RsCode.l2 k data g r (i : Int)) (data ++ rsRest g r (data.drop i), true) := by
 intro d
 induction d with
 | zero =>
  intro i r hi hr hrl h0
  refine Ev.succ ?_
  simp only [spec_RsCode.l2, Option.bind_some, List.nil_append]
  rw [List.drop_of_length_le (show data.length ≤ i by omega)]
  refine Ev.neg (by omega) (Ev.pos (by simp; omega) ?_)
  have h4 := sRs_l4 data r hr (by omega) r.length 0 (by omega)
  simp only [List.take_zero, List.append_nil] at h4
  exact h4
 | succ d ih =>
  intro i r hi hr hrl h0
  have hx := rd_B hdb (i : Int)
  have hf := xB_bd (rd_B hr 0) hx
  have e : data.drop i = rd data (i : Int) :: data.drop (i + 1) := drop_rd (by omega)
  have w := w64_add (i := (i : Int)) (by omega) (by omega)
  refine Ev.succ ?_
  simp only [spec_RsCode.l2, Option.bind_some, List.nil_append]
  rw [w64 (n := rd data (i : Int)) (by omega) (by omega)]
  refine Ev.pos (by omega) (Ev.pos (by omega) (Ev.pos (by omega) (Ev.pos (by omega) (Ev.pos (by simp; omega) (Ev.pos (by simp; omega) ?_)))))
  refine sRs_l3 data g hg hgl (i : Int) _ hf r.length 0 _ (by simp; omega) (isB_append (fun y hy => hr y (List.mem_of_mem_drop hy)) isB_zero) (by simp; omega) ?_
  rw [w, e]
  exact ih (i + 1) _ (by omega) (rsStep_B hg hr hx) ((congrArg (· + 1) (rsStep_len (g := g) (rd data (i : Int)) h0)).trans hrl) (Nat.lt_of_lt_of_eq h0 (rsStep_len (g := g) (rd data (i : Int)) h0).symm)
theorem sRs_l1 (data : List Int) (m : Int) (g : List Int) (hg : isB g) (hgl : g.length ≤ 100) (i : Nat) (hi : i ≤ 50) {res : List Int × Bool} : ∀ (d j : Nat) (acc : List Int), j + d = g.length → isB acc → acc.length = g.length + 1 → Ev (fun k => spec_RsCode.l0 k data m (mulRoot d j g ((gfP i : Nat) : Int) acc) (wrap64 ((i : Int) + 1))) res → Ev (fun k => spec_RsCode.l1 k data m g (i : Int) acc (j : Int)) res := by
 have hp := gfP_lt i
 intro d
 induction d with
 | zero =>
  intro j acc hj ha hal H
  refine Ev.succ ?_
  simp only [spec_RsCode.l1]
  exact Ev.neg (by omega) H
 | succ d ih =>
  intro j acc hj ha hal H
  have w := w64_add (i := (j : Int)) (by omega) (by omega)
  have hb := rd_B hg (j : Int)
  refine Ev.succ ?_
  simp only [spec_RsCode.l1]
  rw [w]
  refine Ev.pos (by omega) (Ev.pos (by omega) (Ev.pos (by omega) (Ev.pos (by omega) (Ev.next (sPow_ev i (by omega)) (Ev.next (sGM hb ⟨by omega, by omega⟩) ?_)))))
  rw [show ((j : Int) + 1) = ((j + 1 : Nat) : Int) by omega, Int.toNat_natCast]
  exact ih (j + 1) _ (by omega) (isB_set ha (xB_bd (rd_B ha _) (gM_bd hb _)) _) (by simpa using hal) H
theorem sRs_l0 (data : List Int) (hdb : isB data) (hdl : data.length ≤ 300) (M : Nat) (hM : 1 ≤ M ∧ M ≤ 8) : ∀ d i : Nat, i + d = 2 * M → Ev (fun k => spec_RsCode.l0 k data (M : Int) (genL i) (i : Int)) (data ++ rsRest (genL (2 * M)) (List.replicate (2 * M) 0) data, true) := by
 have w2 : wrap64 (2 * (M : Int)) = ((2 * M : Nat) : Int) := by rw [w64 (by omega) (by omega)]; omega
 intro d
 induction d with
 | zero =>
  intro i hi
  have hl := genL_len i
  refine Ev.succ ?_
  simp only [spec_RsCode.l0]
  rw [w2, Int.toNat_natCast]
  refine Ev.neg (by omega) (Ev.pos (by omega) (Ev.pos (by omega) ?_))
  have := sRs_l2 data (genL i) (genL_B i) (by omega) hdb hdl data.length 0 (List.replicate (2 * M) 0) (by omega) (fun x hx => by rw [List.eq_of_mem_replicate hx]; omega) (by simp; omega) (by simp; omega)
  rw [List.drop_zero, show genL i = genL (2 * M) by rw [show i = 2 * M by omega]] at this
  rw [show genL i = genL (2 * M) by rw [show i = 2 * M by omega]]
  exact this
 | succ d ih =>
  intro i hi
  have hl := genL_len i
  have h2 := ih (i + 1) (by omega)
  have w3 : wrap64 ((i : Int) + 1) = ((i + 1 : Nat) : Int) := by rw [w64 (by omega) (by omega)]; omega
  refine Ev.succ ?_
  simp only [spec_RsCode.l0, Option.bind_some, List.nil_append]
  rw [w2]
  refine Ev.pos (by omega) (Ev.pos (by simp; omega) (Ev.pos (by omega) ?_))
  refine sRs_l1 data (M : Int) (genL i) (genL_B i) (by omega) i (by omega) (genL i).length 0 _ (by omega) (isB_append (genL_B i) isB_zero) (by simp) ?_
  rw [w3]
  exact h2
theorem mend_eq (a : Int) : spec_l14Mend.f a = some (decide (1 ≤ a) && decide (a ≤ 8)) := by
 unfold spec_l14Mend.f; rw [l1In_eq]; rfl
theorem sRs_ev (data : List Int) (m : Int) (hdb : isB data) (hdl : data.length ≤ 1048576) : Ev (fun k => spec_RsCode.f k data m) (rsOf data m) := by
 have bad : Ev (fun k => spec_RsCode.j0 k data m true) ([], false) := by
  refine Ev.succ ?_
  simp only [spec_RsCode.j0]
  exact Ev.pos trivial (Ev.some_ rfl)
 unfold spec_RsCode.f rsOf rsB
 refine Ev.next (Ev.here (mend_eq m)) ?_
 by_cases h1 : 1 ≤ m ∧ m ≤ 8
 case neg =>
  rw [if_neg (by simp; omega)]
  exact Ev.neg (by simp; omega) bad
 refine Ev.pos (by simp [h1]) ?_
 rw [w64 (n := 2 * m) (by omega) (by omega), w64 (by omega) (by omega)]
 refine Ev.next (Ev.here (l1In_eq _ _ _)) ?_
 by_cases h2 : 1 ≤ data.length ∧ (data.length : Int) ≤ 255 - 2 * m
 case neg =>
  rw [if_neg (by simp; omega), show (!(decide (1 ≤ (data.length : Int)) && decide ((data.length : Int) ≤ 255 - 2 * m))) = true by simp; omega]
  exact bad
 rw [if_pos (by simp; omega), show (!(decide (1 ≤ (data.length : Int)) && decide ((data.length : Int) ≤ 255 - 2 * m))) = false by simp; omega]
 obtain ⟨M, rfl⟩ := Int.eq_ofNat_of_zero_le (show 0 ≤ m by omega)
 refine Ev.succ ?_
 simp only [spec_RsCode.j0]
 rw [show (2 * (M : Int)).toNat = 2 * M by omega]
 exact Ev.neg (by decide) (sRs_l0 data hdb (by omega) M (by omega) (2 * M) 0 (by omega))
/-- The bits of bytes from bit i on, the highest of each byte first. -/
def unpackGo (b : List Int) : Nat → Nat → List Int
 | 0, _ => []
 | d + 1, i => rd b ((i / 8 : Nat) : Int) / 2 ^ (7 - i % 8) % 2 :: unpackGo b d (i + 1)
def unpackOf (b : List Int) : List Int := unpackGo b (8 * b.length) 0
theorem unpackGo_len (b : List Int) : ∀ d i, (unpackGo b d i).length = d
 | 0, _ => rfl
 | d + 1, i => by simp [unpackGo, unpackGo_len b d]
theorem unpackOf_len (b : List Int) : (unpackOf b).length = 8 * b.length := unpackGo_len b _ _
theorem unpackGo_bit (b : List Int) : ∀ d i, ∀ x ∈ unpackGo b d i, x = 0 ∨ x = 1
 | 0, _, x, h => by cases h
 | d + 1, i, x, h => by
  simp only [unpackGo, List.mem_cons] at h
  rcases h with rfl | h
  ·generalize rd b ((i / 8 : Nat) : Int) / 2 ^ (7 - i % 8) = y
   omega
  ·exact unpackGo_bit b d (i + 1) x h
theorem unpackOf_bit (b : List Int) : ∀ x ∈ unpackOf b, x = 0 ∨ x = 1 := unpackGo_bit b _ _
theorem rd_drop (b : List Int) (a j : Nat) : rd (b.drop a) (j : Int) = rd b ((a + j : Nat) : Int) := by
 rw [rd_nat, rd_nat, List.getD_eq_getElem?_getD, List.getD_eq_getElem?_getD, List.getElem?_drop]
theorem unpackGo_shift (b : List Int) (a : Nat) : ∀ d i, unpackGo b d (8 * a + i) = unpackGo (b.drop a) d i
 | 0, _ => rfl
 | d + 1, i => by
  simp only [unpackGo]
  rw [rd_drop, show (8 * a + i) / 8 = a + i / 8 by omega, show (8 * a + i) % 8 = i % 8 by omega, show 8 * a + i + 1 = 8 * a + (i + 1) by omega, unpackGo_shift b a d (i + 1)]
theorem unpackOf_drop (b : List Int) (a : Nat) : unpackOf (b.drop a) = unpackGo b (8 * (b.length - a)) (8 * a) := by
 unfold unpackOf
 rw [List.length_drop, show 8 * a = 8 * a + 0 from rfl, unpackGo_shift]
theorem shr_u8 (x : Int) (s : Nat) (hs : s ≤ 7) : shr .u8 x (s : Int) = x / 2 ^ s := by
 unfold shr
 rw [show min ((s : Int).toNat) IntKind.u8.bits = s by simp [IntKind.bits]; omega]
theorem div_u8 {x : Int} (h0 : 0 ≤ x) (h1 : x < 256) (s : Nat) : 0 ≤ x / 2 ^ s ∧ x / 2 ^ s < 256 := by
 have hp : (0 : Int) < 2 ^ s := Int.pow_pos (by omega)
 have a := Int.ediv_nonneg h0 (Int.le_of_lt hp)
 have b := Int.ediv_le_self (2 ^ s) h0
 omega
theorem bits_and1 {v : Int} (h0 : 0 ≤ v) (h1 : v < 256) : bits .and .u8 v 1 = v % 2 := by
 have h : ∀ n : Fin 256, bits .and .u8 ((n.val : Nat) : Int) 1 = ((n.val : Nat) : Int) % 2 := by decide +kernel
 obtain ⟨n, rfl⟩ := Int.eq_ofNat_of_zero_le h0
 exact h ⟨n, by omega⟩
/-- A high byte over a low one. -/
theorem bits_or256 {a b : Int} (ha : 0 ≤ a ∧ a < 256) (hb : 0 ≤ b ∧ b < 256) : bits .or .i64 (a * 256) b = 256 * a + b := by
 obtain ⟨x, rfl⟩ := Int.eq_ofNat_of_zero_le ha.1
 obtain ⟨y, rfl⟩ := Int.eq_ofNat_of_zero_le hb.1
 have e : (x : Int) * 256 = ((x * 256 : Nat) : Int) := by omega
 have hx : (x * 256) % 2 ^ IntKind.i64.bits = x * 256 := Nat.mod_eq_of_lt (by show x * 256 < 2 ^ 64; omega)
 have hy : y % 2 ^ IntKind.i64.bits = y := Nat.mod_eq_of_lt (by show y < 2 ^ 64; omega)
 rw [e]
 simp only [bits, BitVec.toNat_or, BitVec.ofInt_natCast, BitVec.toNat_ofNat, hx, hy]
 have h : x * 256 ||| y = 2 ^ 8 * x + y := by rw [Nat.two_pow_add_eq_or_of_lt (show y < 2 ^ 8 by omega), Nat.mul_comm]
 rw [h, IntKind.wrap_i64]
 omega
theorem strOfNums_inj : ∀ {xs ys : List Int}, (∀ x ∈ xs, 0 ≤ x ∧ x < 256) → (∀ x ∈ ys, 0 ≤ x ∧ x < 256) → (strOfNums xs).toList = (strOfNums ys).toList → xs = ys := by
 intro xs ys hx hy h
 rw [ByteArray.toList_eq, ByteArray.toList_eq, strOfNums_data, strOfNums_data] at h
 induction xs generalizing ys with
 | nil => cases ys with
  | nil => rfl
  | cons y ys => cases h
 | cons x xs ih => cases ys with
  | nil => cases h
  | cons y ys =>
   simp only [List.map_cons, List.cons.injEq] at h
   have h1 := congrArg UInt8.toNat h.1
   have bx := hx x (by simp)
   have by_ := hy y (by simp)
   rw [UInt8.toNat_ofNat', UInt8.toNat_ofNat'] at h1
   rw [show x = y by omega, ih (fun z hz => hx z (by simp [hz])) (fun z hz => hy z (by simp [hz])) h.2]
theorem unpack8_l0 (b : List Int) (hl : b.length ≤ 1048576) (hb : ∀ x ∈ b, 0 ≤ x ∧ x < 256) : ∀ (d j : Nat) (out : List Int), j + d = b.length → out.length = 8 * j → Ev (fun k => impl_unpack8.l0 k out b (b.length : Int) (j : Int)) (out ++ unpackGo b (8 * d) (8 * j)) := by
 intro d
 induction d with
 | zero =>
  intro j out hj ho
  refine Ev.succ ?_
  simp only [impl_unpack8.l0]
  exact Ev.neg (by omega) (Ev.some_ (by simp [unpackGo]))
 | succ d ih =>
  intro j out hj ho
  have hbit := hb _ (rd_mem (xs := b) (i := j) (by omega))
  have l1 : ∀ (m i : Nat) (acc : List Int), i + m = 8 * j + 8 → m ≤ 8 → acc.length = i → Ev (fun k => impl_unpack8.l1 k acc (rd b (j : Int)) ((m : Int) - 1) b (b.length : Int) (j : Int)) (acc ++ unpackGo b (m + 8 * d) i) := by
   intro m
   induction m with
   | zero =>
    intro i acc hi hm ha
    refine Ev.succ ?_
    simp only [impl_unpack8.l1]
    rw [w64_add (i := (j : Int)) (by omega) (by omega)]
    refine Ev.neg (by omega) ((ih (j + 1) acc (by omega) (by omega)).to ?_)
    rw [Nat.zero_add, show 8 * (j + 1) = i by omega]
   | succ m ihm =>
    intro i acc hi hm ha
    have hd := div_u8 hbit.1 hbit.2 m
    refine Ev.succ ?_
    simp only [impl_unpack8.l1]
    rw [show (((m + 1 : Nat) : Int) - 1) = (m : Int) by omega, w64 (n := (m : Int) - 1) (by omega) (by omega), shr_u8 _ m (by omega), bits_and1 hd.1 hd.2, w64 (n := rd b (j : Int) / 2 ^ m % 2) (by omega) (by omega)]
    refine Ev.pos (by omega) (Ev.pos (by omega) (Ev.pos (by omega) ((ihm (i + 1) _ (by omega) (by omega) (by simp; omega)).to ?_)))
    rw [show m + 1 + 8 * d = (m + 8 * d) + 1 by omega]
    simp only [unpackGo]
    rw [show i / 8 = j by omega, show 7 - i % 8 = m by omega, List.append_assoc]
    rfl
  refine Ev.succ ?_
  simp only [impl_unpack8.l0]
  refine Ev.pos (by omega) (Ev.pos (by omega) (Ev.pos (by omega) ((l1 8 (8 * j) out (by omega) (by omega) ho).to ?_)))
  rw [show 8 * (d + 1) = 8 + 8 * d by omega]
theorem unpack8_ev (b : List Int) (hl : b.length ≤ 1048576) (hb : ∀ x ∈ b, 0 ≤ x ∧ x < 256) : Ev (fun k => impl_unpack8.f k b) (unpackOf b) :=
 unpack8_l0 b hl hb b.length 0 [] (by omega) rfl
theorem wadd1 {e : Nat} (h : e ≤ 9000000000000000000) : wrap64 ((e : Int) + 1) = ((e + 1 : Nat) : Int) := by rw [w64 (by omega) (by omega)]; omega
theorem wadd2 {e : Nat} (h : e ≤ 9000000000000000000) : wrap64 ((e : Int) + 2) = ((e + 2 : Nat) : Int) := by rw [w64 (by omega) (by omega)]; omega
theorem wadd3 {e : Nat} (h : e ≤ 9000000000000000000) : wrap64 ((e : Int) + 3) = ((e + 3 : Nat) : Int) := by rw [w64 (by omega) (by omega)]; omega
theorem wround8 {e u : Nat} (h : e ≤ 1000000000000000000) (h2 : u ≤ 1000000000000000000) : wrap64 ((e : Int) + wrap64 (Int.tdiv (wrap64 ((u : Int) + 7)) 8)) = ((e + (u + 7) / 8 : Nat) : Int) := by
 rw [w64 (n := (u : Int) + 7) (by omega) (by omega), Int.tdiv_eq_ediv_of_nonneg (by omega), w64 (n := ((u : Int) + 7) / 8) (by omega) (by omega), w64 (by omega) (by omega)]; omega
theorem shr_bit (x : Int) (h : 0 ≤ x ∧ x < 256) (i : Nat) : Int.tmod (wrap64 (shr .u8 x (IntKind.u64.wrap (wrap64 (7 - Int.tmod (i : Int) 8))))) 2 = x / 2 ^ (7 - i % 8) % 2 := by
 have e : IntKind.u64.wrap (wrap64 (7 - Int.tmod (i : Int) 8)) = ((7 - i % 8 : Nat) : Int) := by
  rw [Int.tmod_eq_emod_of_nonneg (by omega), w64 (by omega) (by omega), wu64 (by omega) (by omega)]; omega
 have hd := div_u8 h.1 h.2 (7 - i % 8)
 rw [e, shr_u8 _ _ (by omega), w64 (by omega) (by omega), Int.tmod_eq_emod_of_nonneg (by omega)]
theorem sUnpack8_l0 (b : List Int) (hl : b.length ≤ 128) (hb : isB b) : ∀ (d i : Nat) (acc : List Int), i + d = 8 * b.length → acc.length = i → Ev (fun k => spec_Unpack8.l0 k b ((8 * b.length : Nat) : Int) acc (i : Int)) (acc ++ unpackGo b d i, true) := by
 have w8 : wrap64 (8 * (b.length : Int)) = ((8 * b.length : Nat) : Int) := by rw [w64 (by omega) (by omega)]; omega
 intro d
 induction d with
 | zero =>
  intro i acc hi ha
  refine Ev.succ ?_
  simp only [spec_Unpack8.l0, w8]
  exact Ev.neg (by omega) (Ev.some_ (by simp [unpackGo]))
 | succ d ih =>
  intro i acc hi ha
  have e1 : wrap64 (Int.tdiv (i : Int) 8) = ((i / 8 : Nat) : Int) := by rw [Int.tdiv_eq_ediv_of_nonneg (by omega), w64 (by omega) (by omega)]; omega
  have e2 := shr_bit _ (rd_B hb ((i / 8 : Nat) : Int)) i
  have hu : 0 ≤ IntKind.u64.wrap (wrap64 (7 - Int.tmod (i : Int) 8)) := by
   rw [Int.tmod_eq_emod_of_nonneg (by omega), w64 (by omega) (by omega), wu64 (by omega) (by omega)]; omega
  refine Ev.succ ?_
  simp only [spec_Unpack8.l0, w8]
  rw [e1, e2]
  refine Ev.pos (by omega) (Ev.pos (by omega) (Ev.pos (by omega) (Ev.pos hu (Ev.neg (by omega) ?_))))
  refine Ev.succ ?_
  simp only [spec_Unpack8.j2]
  refine Ev.neg (by decide) (Ev.pos (by omega) (Ev.pos (by omega) ?_))
  rw [wadd1 (e := i) (by omega)]
  refine (ih (i + 1) _ (by omega) (by simp; omega)).to ?_
  simp only [unpackGo, List.append_assoc, List.cons_append, List.nil_append]
theorem sUnpack8_ev (b : List Int) (hl : b.length ≤ 128) (hb : isB b) : Ev (fun k => spec_Unpack8.f k b (wrap64 (8 * (b.length : Int)))) (unpackOf b, true) := by
 have w8 : wrap64 (8 * (b.length : Int)) = ((8 * b.length : Nat) : Int) := by rw [w64 (by omega) (by omega)]; omega
 have e : wrap64 (Int.tdiv (wrap64 (((8 * b.length : Nat) : Int) + 7)) 8) = (b.length : Int) := by
  rw [w64 (n := ((8 * b.length : Nat) : Int) + 7) (by omega) (by omega), Int.tdiv_eq_ediv_of_nonneg (by omega), w64 (by omega) (by omega)]; omega
 rw [w8]
 unfold spec_Unpack8.f
 refine Ev.next (Ev.some_ rfl) (Ev.next (Ev.here (l1In_eq _ _ _)) (Ev.pos (by simp; omega) ?_))
 rw [e]
 refine Ev.succ ?_
 simp only [spec_Unpack8.j0]
 exact Ev.neg (by simp) (sUnpack8_l0 b hl hb (8 * b.length) 0 [] (by omega) rfl)
/-- One column of the weaving's order. -/
def ordRow (n w c : Nat) : Nat → Nat → List Int
 | 0, _ => []
 | d + 1, j => if j * w + c < n then ((j * w + c : Nat) : Int) :: ordRow n w c d (j + 1) else ordRow n w c d (j + 1)
def ordAll (n w r : Nat) : Nat → Nat → List Int
 | 0, _ => []
 | d + 1, c => ordRow n w c r 0 ++ ordAll n w r d (c + 1)
theorem ordRow_bd (n w c : Nat) : ∀ d j, ∀ x ∈ ordRow n w c d j, 0 ≤ x ∧ x < (n : Int)
 | 0, _, x, h => by cases h
 | d + 1, j, x, h => by
  unfold ordRow at h
  split at h
  ·rcases List.mem_cons.1 h with h | h
   ·omega
   ·exact ordRow_bd n w c d (j + 1) x h
  ·exact ordRow_bd n w c d (j + 1) x h
theorem ordRow_len (n w c : Nat) : ∀ d j, (ordRow n w c d j).length ≤ d
 | 0, _ => Nat.le_refl _
 | d + 1, j => by
  have := ordRow_len n w c d (j + 1)
  unfold ordRow
  split
  ·simp; omega
  ·omega
theorem ordAll_bd (n w r : Nat) : ∀ d c, ∀ x ∈ ordAll n w r d c, 0 ≤ x ∧ x < (n : Int)
 | 0, _, x, h => by cases h
 | d + 1, c, x, h => by
  unfold ordAll at h
  rcases List.mem_append.1 h with h | h
  ·exact ordRow_bd n w c r 0 x h
  ·exact ordAll_bd n w r d (c + 1) x h
theorem ordAll_len (n w r : Nat) (hr : r ≤ 64) : ∀ d c, (ordAll n w r d c).length ≤ 64 * d
 | 0, _ => Nat.le_refl _
 | d + 1, c => by
  have h1 := ordAll_len n w r hr d (c + 1)
  have h2 := ordRow_len n w c r 0
  unfold ordAll
  simp; omega
theorem mulW {j w r : Nat} (hj : j ≤ r) (hr : r ≤ 64) (hw : w ≤ 2000) : j * w ≤ 128000 :=
 Nat.le_trans (Nat.mul_le_mul (Nat.le_trans hj hr) hw) (by decide)
theorem ordIx {j w c : Nat} (h : j * w ≤ 128000) (hc : c ≤ 2000) : wrap64 (wrap64 ((j : Int) * (w : Int)) + (c : Int)) = ((j * w + c : Nat) : Int) := by
 have e : (j : Int) * (w : Int) = ((j * w : Nat) : Int) := by simp
 rw [e]
 generalize j * w = q at *
 rw [w64 (n := (q : Int)) (by omega) (by omega), w64 (by omega) (by omega)]; omega
theorem sOrd_l1 (n w r c : Nat) (hn : n ≤ 1024) (hr : r ≤ 64) (hw : w ≤ 2000) (hc : c ≤ 2000) {res : List Int} : ∀ (d j : Nat) (acc : List Int), j + d = r → acc.length ≤ 64 * c + j → Ev (fun k => spec_l13Order.l0 k (n : Int) (r : Int) (w : Int) (acc ++ ordRow n w c d j) ((c + 1 : Nat) : Int)) res → Ev (fun k => spec_l13Order.l1 k (n : Int) (r : Int) (w : Int) acc (c : Int) (j : Int)) res := by
 intro d
 induction d with
 | zero =>
  intro j acc hj ha H
  refine Ev.succ ?_
  simp only [spec_l13Order.l1]
  rw [wadd1 (e := c) (by omega)]
  simp only [ordRow, List.append_nil] at H
  exact Ev.neg (by omega) H
 | succ d ih =>
  intro j acc hj ha H
  have hq := mulW (j := j) (w := w) (r := r) (by omega) hr hw
  have e := ordIx hq hc
  refine Ev.succ ?_
  simp only [spec_l13Order.l1]
  rw [e, wadd1 (e := j) (by omega)]
  refine Ev.pos (by omega) ?_
  by_cases h : j * w + c < n
  case neg =>
   simp only [ordRow, if_neg h] at H
   exact Ev.neg (by omega) (ih (j + 1) _ (by omega) (by omega) H)
  simp only [ordRow, if_pos h] at H
  refine Ev.pos (by omega) (Ev.pos (by omega) (ih (j + 1) _ (by omega) (by simp; omega) ?_))
  rw [List.append_assoc]
  exact H
theorem sOrd_l0 (n w r : Nat) (hn : n ≤ 1024) (hr : r ≤ 64) (hw : w ≤ 2000) : ∀ (d c : Nat) (acc : List Int), c + d = w → acc.length ≤ 64 * c → Ev (fun k => spec_l13Order.l0 k (n : Int) (r : Int) (w : Int) acc (c : Int)) (acc ++ ordAll n w r d c) := by
 intro d
 induction d with
 | zero =>
  intro c acc hc ha
  refine Ev.succ ?_
  simp only [spec_l13Order.l0]
  exact Ev.neg (by omega) (Ev.some_ (by simp [ordAll]))
 | succ d ih =>
  intro c acc hc ha
  have hl := ordRow_len n w c r 0
  refine Ev.succ ?_
  simp only [spec_l13Order.l0]
  refine Ev.pos (by omega) (sOrd_l1 n w r c hn hr hw (by omega) r 0 acc (by omega) (by omega) ?_)
  refine (ih (c + 1) _ (by omega) (by simp; omega)).to ?_
  simp [ordAll]
theorem iOrd_l1 (n w r c : Nat) (hn : n ≤ 1024) (hr : r ≤ 64) (hw : w ≤ 2000) (hc : c ≤ 2000) {res : List Int} : ∀ (d j : Nat) (acc : List Int), j + d = r → acc.length ≤ 64 * c + j → Ev (fun k => impl_woven.l0 k (n : Int) (r : Int) (w : Int) (acc ++ ordRow n w c d j) (w : Int) ((c + 1 : Nat) : Int)) res → Ev (fun k => impl_woven.l1 k (n : Int) (r : Int) (w : Int) acc (c : Int) (w : Int) (c : Int) (r : Int) (j : Int)) res := by
 intro d
 induction d with
 | zero =>
  intro j acc hj ha H
  refine Ev.succ ?_
  simp only [impl_woven.l1]
  rw [wadd1 (e := c) (by omega)]
  simp only [ordRow, List.append_nil] at H
  exact Ev.neg (by omega) H
 | succ d ih =>
  intro j acc hj ha H
  have hq := mulW (j := j) (w := w) (r := r) (by omega) hr hw
  have e := ordIx hq hc
  refine Ev.succ ?_
  simp only [impl_woven.l1]
  rw [e, wadd1 (e := j) (by omega)]
  refine Ev.pos (by omega) ?_
  by_cases h : j * w + c < n
  case neg =>
   simp only [ordRow, if_neg h] at H
   exact Ev.neg (by omega) (ih (j + 1) _ (by omega) (by omega) H)
  simp only [ordRow, if_pos h] at H
  refine Ev.pos (by omega) (Ev.pos (by omega) (ih (j + 1) _ (by omega) (by simp; omega) ?_))
  rw [List.append_assoc]
  exact H
theorem iOrd_l0 (n w r : Nat) (hn : n ≤ 1024) (hr : r ≤ 64) (hw : w ≤ 2000) : ∀ (d c : Nat) (acc : List Int), c + d = w → acc.length ≤ 64 * c → Ev (fun k => impl_woven.l0 k (n : Int) (r : Int) (w : Int) acc (w : Int) (c : Int)) (acc ++ ordAll n w r d c) := by
 intro d
 induction d with
 | zero =>
  intro c acc hc ha
  refine Ev.succ ?_
  simp only [impl_woven.l0]
  exact Ev.neg (by omega) (Ev.some_ (by simp [ordAll]))
 | succ d ih =>
  intro c acc hc ha
  have hl := ordRow_len n w c r 0
  refine Ev.succ ?_
  simp only [impl_woven.l0]
  refine Ev.pos (by omega) (iOrd_l1 n w r c hn hr hw (by omega) r 0 acc (by omega) (by omega) ?_)
  refine (ih (c + 1) _ (by omega) (by simp; omega)).to ?_
  simp [ordAll]
def cols (n r : Nat) : Nat := (n + r - 1) / r
theorem cols_le (n r : Nat) (hn : n ≤ 1024) (hr : 1 ≤ r ∧ r ≤ 64) : cols n r ≤ 2000 :=
 Nat.le_trans (Nat.div_le_self _ _) (by omega)
theorem cols_int (n r : Nat) (hn : n ≤ 1024) (hr : 1 ≤ r ∧ r ≤ 64) : wrap64 (Int.tdiv (wrap64 (wrap64 ((n : Int) + (r : Int)) - 1)) (r : Int)) = ((cols n r : Nat) : Int) := by
 have h := cols_le n r hn hr
 rw [w64 (n := (n : Int) + (r : Int)) (by omega) (by omega), w64 (n := (n : Int) + (r : Int) - 1) (by omega) (by omega), show (n : Int) + (r : Int) - 1 = ((n + r - 1 : Nat) : Int) by omega, Int.tdiv_eq_ediv_of_nonneg (by omega)]
 have e : ((n + r - 1 : Nat) : Int) / (r : Int) = ((cols n r : Nat) : Int) := by unfold cols; simp
 rw [e, w64 (by omega) (by omega)]
def ordOf (n r : Nat) : List Int := ordAll n (cols n r) r (cols n r) 0
theorem ordOf_len (n r : Nat) (hn : n ≤ 1024) (hr : 1 ≤ r ∧ r ≤ 64) : (ordOf n r).length ≤ 128000 := by
 have := ordAll_len n (cols n r) r hr.2 (cols n r) 0
 have h2 := cols_le n r hn hr
 unfold ordOf; omega
theorem sOrd_ev (n r : Nat) (hn : n ≤ 1024) (hr : 1 ≤ r ∧ r ≤ 64) : Ev (fun k => spec_l13Order.f k (n : Int) (r : Int)) (ordOf n r) := by
 unfold spec_l13Order.f ordOf
 rw [cols_int n r hn hr]
 exact Ev.neg (by omega) ((sOrd_l0 n (cols n r) r hn hr.2 (cols_le n r hn hr) (cols n r) 0 [] (by omega) (by simp)).to (by simp))
theorem iOrd_ev (n r : Nat) (hn : n ≤ 1024) (hr : 1 ≤ r ∧ r ≤ 64) : Ev (fun k => impl_woven.f k (n : Int) (r : Int)) (ordOf n r) := by
 unfold impl_woven.f ordOf
 rw [cols_int n r hn hr]
 exact Ev.neg (by omega) ((iOrd_l0 n (cols n r) r hn hr.2 (cols_le n r hn hr) (cols n r) 0 [] (by omega) (by simp)).to (by simp))
def weaveOf (l : List Int) (r : Nat) : List Int := (ordOf l.length r).map (fun x => rd l x)
theorem sWeave_l0 (l o : List Int) (hl : l.length ≤ 1024) (hol : o.length ≤ 128000) (ho : ∀ x ∈ o, 0 ≤ x ∧ x < (l.length : Int)) : ∀ (d i : Nat), i + d = o.length → Ev (fun k => spec_Weave.l0 k l ((o.take i).map (fun x => rd l x)) o (i : Int)) (o.map (fun x => rd l x), true) := by
 intro d
 induction d with
 | zero =>
  intro i hi
  refine Ev.succ ?_
  simp only [spec_Weave.l0]
  refine Ev.neg (by omega) (Ev.some_ ?_)
  rw [List.take_of_length_le (by omega)]
 | succ d ih =>
  intro i hi
  have hx := ho _ (rd_mem (xs := o) (i := i) (by omega))
  refine Ev.succ ?_
  simp only [spec_Weave.l0]
  rw [wadd1 (e := i) (by omega)]
  refine Ev.pos (by omega) (Ev.pos (by omega) (Ev.pos hx.1 (Ev.pos hx.2 (Ev.pos (by simp; omega) ?_))))
  have := ih (i + 1) (by omega)
  rw [take_rd (xs := o) (i := i) (by omega), List.map_append] at this
  exact this
theorem iWeave_l0 (l o : List Int) (hl : l.length ≤ 1024) (hol : o.length ≤ 128000) (ho : ∀ x ∈ o, 0 ≤ x ∧ x < (l.length : Int)) : ∀ (d i : Nat), i + d = o.length → Ev (fun k => impl_Weave.l0 k l ((o.take i).map (fun x => rd l x)) o (o.length : Int) (i : Int)) (o.map (fun x => rd l x), true) := by
 intro d
 induction d with
 | zero =>
  intro i hi
  refine Ev.succ ?_
  simp only [impl_Weave.l0]
  refine Ev.neg (by omega) (Ev.some_ ?_)
  rw [List.take_of_length_le (by omega)]
 | succ d ih =>
  intro i hi
  have hx := ho _ (rd_mem (xs := o) (i := i) (by omega))
  refine Ev.succ ?_
  simp only [impl_Weave.l0]
  rw [wadd1 (e := i) (by omega)]
  refine Ev.pos (by omega) (Ev.pos (by omega) (Ev.pos (by omega) (Ev.pos hx.1 (Ev.pos hx.2 (Ev.pos (by simp; omega) ?_)))))
  have := ih (i + 1) (by omega)
  rw [take_rd (xs := o) (i := i) (by omega), List.map_append] at this
  exact this
theorem sWeave_ev (l : List Int) (r : Nat) (hl : l.length ≤ 1024) (hr : 1 ≤ r ∧ r ≤ 64) : Ev (fun k => spec_Weave.f k l (r : Int)) (weaveOf l r, true) := by
 unfold spec_Weave.f
 refine Ev.next (Ev.some_ rfl) (Ev.neg (by omega) (Ev.next (Ev.here (l1In_eq _ _ _)) ?_))
 rw [show (!(decide ((1 : Int) ≤ (r : Int)) && decide ((r : Int) ≤ 64))) = false by simp; omega]
 refine Ev.succ ?_
 simp only [spec_Weave.j0]
 refine Ev.neg (by decide) (Ev.next (sOrd_ev l.length r hl hr) ?_)
 exact sWeave_l0 l (ordOf l.length r) hl (ordOf_len _ _ hl hr) (ordAll_bd _ _ _ _ _) (ordOf l.length r).length 0 (by omega)
theorem iWeave_ev (l : List Int) (r : Nat) (hl : l.length ≤ 1024) (hr : 1 ≤ r ∧ r ≤ 64) : Ev (fun k => impl_Weave.f k l (r : Int)) (weaveOf l r, true) := by
 unfold impl_Weave.f
 have e : impl_weaves.f l (r : Int) = some true := by
  unfold impl_weaves.f
  rw [if_pos (by omega), if_pos (by omega)]; simp; omega
 refine Ev.next (Ev.here e) (Ev.pos rfl (Ev.next (iOrd_ev l.length r hl hr) ?_))
 exact iWeave_l0 l (ordOf l.length r) hl (ordOf_len _ _ hl hr) (ordAll_bd _ _ _ _ _) (ordOf l.length r).length 0 (by omega)
theorem weaveOf_bd (l : List Int) (r : Nat) (hl : l.length ≤ 1024) (hr : 1 ≤ r ∧ r ≤ 64) : (weaveOf l r).length ≤ 128000 := by
 unfold weaveOf; rw [List.length_map]; exact ordOf_len _ _ hl hr
def bitOk (x : Int) : Bool := decide (x = 0 ∨ x = 1)
theorem allBits_iff {l : List Int} : l.all bitOk = true ↔ ∀ x ∈ l, x = 0 ∨ x = 1 := by simp [List.all_eq_true, bitOk]
def bitsB (l : List Int) : Bool := l.all bitOk && decide (l.length ≤ 1024)
theorem bitsB_iff {l : List Int} : bitsB l = true ↔ (∀ x ∈ l, x = 0 ∨ x = 1) ∧ l.length ≤ 1024 := by
 unfold bitsB; rw [Bool.and_eq_true, allBits_iff]; simp
theorem sBitsOk_l0 (l : List Int) (hl : l.length ≤ 1048576) : ∀ (d i : Nat), i + d = l.length → Ev (fun k => spec_BitsOk.l0 k l (i : Int)) ((l.drop i).all bitOk && decide (l.length ≤ 1024)) := by
 intro d
 induction d with
 | zero =>
  intro i hi
  refine Ev.succ ?_
  simp only [spec_BitsOk.l0]
  rw [List.drop_of_length_le (by omega)]
  exact Ev.neg (by omega) (Ev.some_ (by simp; omega))
 | succ d ih =>
  intro i hi
  refine Ev.succ ?_
  simp only [spec_BitsOk.l0, l1In_eq, Option.bind_some]
  refine Ev.pos (by omega) (Ev.pos (by omega) ?_)
  rw [drop_rd (xs := l) (i := i) (by omega), w64_add (by omega) (by omega)]
  by_cases h1 : rd l i = 0 ∨ rd l i = 1
  case neg => exact Ev.neg (by simp; omega) (Ev.some_ (by simp [bitOk, h1]))
  exact Ev.pos (by simp; omega) ((ih (i + 1) (by omega)).to (by simp [bitOk, h1]))
theorem sBitsOk_ev (l : List Int) (hl : l.length ≤ 1048576) : Ev (fun k => spec_BitsOk.f k l) (bitsB l) :=
 (sBitsOk_l0 l hl l.length 0 (by omega)).to (by simp [bitsB])
theorem isBit_eq (a : Int) : impl_isBit.f a = some (decide (a = 0 ∨ a = 1)) := by
 unfold impl_isBit.f
 by_cases h : a = 0
 case pos => simp [h]
 rw [if_neg h]; simp [h]; by_cases h1 : a = 1 <;> simp [h1]
theorem iBitsOk_l0 (l : List Int) (hl : l.length ≤ 1048576) : ∀ (d i : Nat), i + d = l.length → Ev (fun k => impl_BitsOk.l0 k l l (l.length : Int) (i : Int)) ((l.drop i).all bitOk && decide (l.length ≤ 1024)) := by
 intro d
 induction d with
 | zero =>
  intro i hi
  refine Ev.succ ?_
  simp only [impl_BitsOk.l0]
  rw [List.drop_of_length_le (by omega)]
  exact Ev.neg (by omega) (Ev.some_ (by simp; omega))
 | succ d ih =>
  intro i hi
  refine Ev.succ ?_
  simp only [impl_BitsOk.l0, isBit_eq, Option.bind_some]
  refine Ev.pos (by omega) (Ev.pos (by omega) (Ev.pos (by omega) ?_))
  rw [drop_rd (xs := l) (i := i) (by omega), w64_add (by omega) (by omega)]
  by_cases h1 : rd l i = 0 ∨ rd l i = 1
  case neg => exact Ev.neg (by simp [h1]) (Ev.some_ (by simp [bitOk, h1]))
  exact Ev.pos (by simp [h1]) ((ih (i + 1) (by omega)).to (by simp [bitOk, h1]))
theorem iBitsOk_ev (l : List Int) (hl : l.length ≤ 1048576) : Ev (fun k => impl_BitsOk.f k l) (bitsB l) :=
 (iBitsOk_l0 l hl l.length 0 (by omega)).to (by simp [bitsB])
theorem isWidth_eq (a : Int) : impl_isWidth.f a = some (widthB a) := by
 unfold impl_isWidth.f widthB
 by_cases h2 : a = 2
 case pos => simp [h2]
 by_cases h4 : a = 4
 case pos => simp [h4]
 by_cases h6 : a = 6
 case pos => simp [h6]
 simp only [if_neg h2, if_neg h4, if_neg h6, Option.some.injEq]
 by_cases h8 : a = 8 <;> simp [h2, h4, h6, h8]
theorem isMend_eq (a : Int) : impl_isMend.f a = some (inB a 1 8) := by
 unfold impl_isMend.f inB
 by_cases h : a ≥ 1 <;> simp [h]
theorem is16_eq (a b : Int) : impl_is16.f a b = some (inB a b 65535) := by
 unfold impl_is16.f inB
 by_cases h : a ≥ b <;> simp [h]
theorem two_if {a b c : Int} {o : Option Bool} : (if a ≥ b then (if a ≤ c then o else some false) else some false) = (if inB a b c = true then o else some false) := by
 unfold inB
 by_cases h : a ≥ b <;> by_cases h2 : a ≤ c <;> simp [h, h2]
theorem iModemOk_eq (w m r s ra si : Int) : impl_ModemOk.f w m r s ra si = some (modemB w m r s ra si) := by
 unfold impl_ModemOk.f modemB
 simp only [isWidth_eq, isMend_eq, is16_eq, Option.bind_some, two_if]
 have e : (if si ≥ 1 then some (decide (si ≤ 10000)) else some false) = some (inB si 1 10000) := by
  unfold inB
  by_cases h : si ≥ 1 <;> simp [h]
 rw [e]
 cases widthB w <;> cases inB m 1 8 <;> cases inB r 1 64 <;> cases inB s 1 65535 <;> cases inB ra 1 8 <;> rfl
theorem andOne {s : Int} (h : 0 ≤ s ∧ s < 65536) : bits .and .i64 s 1 = s % 2 := by
 have := bits_and_mask s 1 (by omega)
 rw [show ((2 : Int) ^ 1 - 1) = 1 by decide] at this
 rw [this]; omega
theorem xor16 {a b : Int} (ha : 0 ≤ a ∧ a < 65536) (hb : 0 ≤ b ∧ b < 65536) : 0 ≤ bits .xor .i64 a b ∧ bits .xor .i64 a b < 65536 := by
 have h : a.toNat ^^^ b.toNat < 65536 := Nat.xor_lt_two_pow (n := 16) (by omega) (by omega)
 rw [← Int.toNat_of_nonneg ha.1, ← Int.toNat_of_nonneg hb.1, xorN _ _ (by omega) (by omega)]
 omega
def stirS (s : Int) : Int := if s % 2 = 1 then bits .xor .i64 (s / 2) 46080 else s / 2
theorem stirS_bd {s : Int} (h : 0 ≤ s ∧ s < 65536) : 0 ≤ stirS s ∧ stirS s < 65536 := by
 unfold stirS
 split
 ·exact xor16 (by omega) (by omega)
 ·omega
def stirGo : Int → List Int → List Int
 | _, [] => []
 | s, x :: xs => bits .xor .i64 x (s % 2) :: stirGo (stirS s) xs
theorem stirGo_len : ∀ (s : Int) (l : List Int), (stirGo s l).length = l.length
 | _, [] => rfl
 | s, x :: xs => by simp [stirGo, stirGo_len _ xs]
def stirOf (l : List Int) (s : Int) : List Int × Bool := if bitsB l = true then (stirGo s l, true) else ([], false)
theorem sStir_l0 (l : List Int) (hl : l.length ≤ 1024) : ∀ (d i : Nat) (s : Int) (acc : List Int), i + d = l.length → acc.length = i → 0 ≤ s ∧ s < 65536 → Ev (fun k => spec_Stir.l0 k l 46080 acc s (i : Int)) (acc ++ stirGo s (l.drop i), true) := by
 intro d
 induction d with
 | zero =>
  intro i s acc hi ha hs
  refine Ev.succ ?_
  simp only [spec_Stir.l0]
  rw [List.drop_of_length_le (by omega)]
  exact Ev.neg (by omega) (Ev.some_ (by simp [stirGo]))
 | succ d ih =>
  intro i s acc hi ha hs
  have e1 : Int.tmod s 2 = s % 2 := Int.tmod_eq_emod_of_nonneg hs.1
  have e2 : wrap64 (Int.tdiv s 2) = s / 2 := by rw [Int.tdiv_eq_ediv_of_nonneg hs.1, w64 (by omega) (by omega)]
  have hn := stirS_bd hs
  have i1 := ih (i + 1) (stirS s) (acc ++ [bits .xor .i64 (rd l (i : Int)) (s % 2)]) (by omega) (by simp; omega) hn
  have e3 : acc ++ [bits .xor .i64 (rd l (i : Int)) (s % 2)] ++ stirGo (stirS s) (l.drop (i + 1)) = acc ++ stirGo s (l.drop i) := by
   rw [drop_rd (xs := l) (i := i) (by omega)]
   simp [stirGo]
  rw [e3] at i1
  refine Ev.succ ?_
  simp only [spec_Stir.l0]
  rw [e1, e2, wadd1 (e := i) (by omega)]
  refine Ev.pos (by omega) (Ev.pos (by omega) (Ev.pos (by omega) (Ev.next (Ev.some_ rfl) ?_)))
  unfold stirS at i1
  by_cases h : s % 2 = 1
  case neg => rw [if_neg h] at i1; exact Ev.neg h i1
  rw [if_pos h] at i1; exact Ev.pos h i1
theorem iStir_l0 (l : List Int) (hl : l.length ≤ 1024) : ∀ (d i : Nat) (s : Int) (acc : List Int), i + d = l.length → acc.length = i → 0 ≤ s ∧ s < 65536 → Ev (fun k => impl_Stir.l0 k 46080 s acc l (l.length : Int) (i : Int)) (acc ++ stirGo s (l.drop i), true) := by
 intro d
 induction d with
 | zero =>
  intro i s acc hi ha hs
  refine Ev.succ ?_
  simp only [impl_Stir.l0]
  rw [List.drop_of_length_le (by omega)]
  exact Ev.neg (by omega) (Ev.some_ (by simp [stirGo]))
 | succ d ih =>
  intro i s acc hi ha hs
  have e1 := andOne hs
  have hn := stirS_bd hs
  have i1 := ih (i + 1) (stirS s) (acc ++ [bits .xor .i64 (rd l (i : Int)) (s % 2)]) (by omega) (by simp; omega) hn
  have e3 : acc ++ [bits .xor .i64 (rd l (i : Int)) (s % 2)] ++ stirGo (stirS s) (l.drop (i + 1)) = acc ++ stirGo s (l.drop i) := by
   rw [drop_rd (xs := l) (i := i) (by omega)]
   simp [stirGo]
  rw [e3] at i1
  refine Ev.succ ?_
  simp only [impl_Stir.l0]
  rw [e1, wadd1 (e := i) (by omega)]
  refine Ev.pos (by omega) (Ev.pos (by omega) (Ev.pos (by omega) (Ev.pos (by omega) (Ev.next (Ev.some_ rfl) ?_))))
  unfold stirS at i1
  by_cases h : s % 2 = 1
  case neg => rw [if_neg h] at i1; exact Ev.neg h i1
  rw [if_pos h] at i1; exact Ev.pos h i1
theorem bitsB_len {l : List Int} (h : bitsB l = true) : l.length ≤ 1024 := (bitsB_iff.1 h).2
theorem sStir_ev (l : List Int) (s : Int) (hl : l.length ≤ 1048576) (hs : 1 ≤ s ∧ s ≤ 65535) : Ev (fun k => spec_Stir.f k l 46080 s) (stirOf l s) := by
 unfold spec_Stir.f stirOf
 refine Ev.next (Ev.some_ rfl) (Ev.next (sBitsOk_ev l hl) ?_)
 by_cases h : bitsB l = true
 case neg =>
  rw [if_neg h]
  refine Ev.neg h (Ev.succ ?_)
  simp only [spec_Stir.j0]
  exact Ev.pos trivial (Ev.some_ rfl)
 rw [if_pos h]
 refine Ev.pos h (Ev.next (Ev.here (l1In_eq _ _ _)) (Ev.pos (by decide) (Ev.next (Ev.here (l1In_eq _ _ _)) ?_)))
 rw [show (!(decide ((1 : Int) ≤ s) && decide (s ≤ 65535))) = false by simp; omega]
 refine Ev.succ ?_
 simp only [spec_Stir.j0]
 exact Ev.neg (by decide) (sStir_l0 l (bitsB_len h) l.length 0 s [] (by omega) rfl (by omega))
theorem iStir_ev (l : List Int) (s : Int) (hl : l.length ≤ 1048576) (hs : 1 ≤ s ∧ s ≤ 65535) : Ev (fun k => impl_Stir.f k l 46080 s) (stirOf l s) := by
 unfold impl_Stir.f stirOf
 refine Ev.next (iBitsOk_ev l hl) ?_
 by_cases h : bitsB l = true
 case neg =>
  rw [if_neg h]
  refine Ev.neg h (Ev.succ ?_)
  simp only [impl_Stir.j0]
  exact Ev.pos trivial (Ev.some_ rfl)
 rw [if_pos h]
 refine Ev.pos h (Ev.next (Ev.here (is16_eq _ _)) (Ev.pos (by decide) (Ev.next (Ev.here (is16_eq _ _)) ?_)))
 rw [show (!(inB s 1 65535)) = false by rw [inB_iff.2 hs]; rfl]
 refine Ev.succ ?_
 simp only [impl_Stir.j0]
 exact Ev.neg (by decide) (iStir_l0 l (bitsB_len h) l.length 0 s [] (by omega) rfl (by omega))
theorem stirOf_len (l : List Int) (s : Int) : (stirOf l s).1.length ≤ 1024 := by
 unfold stirOf
 split
 ·rename_i h; rw [stirGo_len]; exact bitsB_len h
 ·simp
theorem l13Width_eq (a : Int) : spec_l13Width.f a = some (widthB a) := by
 unfold spec_l13Width.f widthB
 by_cases h2 : a = 2
 case pos => simp [h2]
 by_cases h4 : a = 4
 case pos => simp [h4]
 by_cases h6 : a = 6
 case pos => simp [h6]
 simp only [if_neg h2, if_neg h4, if_neg h6, Option.some.injEq]
 by_cases h8 : a = 8 <;> simp [h2, h4, h6, h8]
theorem l14Mend_eq (a : Int) : spec_l14Mend.f a = some (inB a 1 8) := by unfold spec_l14Mend.f inB; rw [l1In_eq]; rfl
theorem sModemOk_eq (w m r s ra si : Int) : spec_ModemOk.f w m r s ra si = some (modemB w m r s ra si) := by
 unfold spec_ModemOk.f modemB
 have e : ∀ a b c : Int, spec_l1In.f a b c = some (inB a b c) := l1In_eq
 simp only [l13Width_eq, l14Mend_eq, e, Option.bind_some]
 cases widthB w <;> cases inB m 1 8 <;> cases inB r 1 64 <;> cases inB s 1 65535 <;> cases inB ra 1 8 <;> rfl
theorem Ev.mono {α : Type} {g : Nat → Option α} (m : ∀ k, LeO (g k) (g (k + 1))) {K : Nat} {r : α} (h : g K = some r) : Ev g r :=
 ⟨K, fun k hk => by
  induction hk with
  | refl => exact h
  | step _ ih => exact m _ _ ih⟩
def ug (g : Nat) : Nat := g ^^^ (g / 2) ^^^ (g / 4) ^^^ (g / 8)
theorem iUg : ∀ g : Fin 16, impl_unGray.f 8 ((g.1 : Nat) : Int) = some ((ug g.1 : Nat) : Int) := by decide +kernel
theorem sUg : ∀ g : Fin 16, spec_UnGray.f 8 ((g.1 : Nat) : Int) = some ((ug g.1 : Nat) : Int) := by decide +kernel
theorem iUg_ev {v : Int} (h : 0 ≤ v ∧ v ≤ 15) : Ev (fun k => impl_unGray.f k v) ((ug v.toNat : Nat) : Int) := by
 have := iUg ⟨v.toNat, by omega⟩
 simp only [Int.toNat_of_nonneg h.1] at this
 exact Ev.mono (impl_unGray.mono v) this
theorem sUg_ev {v : Int} (h : 0 ≤ v ∧ v ≤ 15) : Ev (fun k => spec_UnGray.f k v) ((ug v.toNat : Nat) : Int) := by
 have := sUg ⟨v.toNat, by omega⟩
 simp only [Int.toNat_of_nonneg h.1] at this
 exact Ev.mono (spec_UnGray.mono v) this
def lvN (l : List Int) : Nat → Nat → Int → Int
 | 0, _, acc => acc
 | d + 1, i, acc => lvN l d (i + 1) (2 * acc + rd l (i : Int))
def lim : Nat → Int
 | 0 => 15
 | 1 => 7
 | 2 => 3
 | 3 => 1
 | _ => 0
theorem lim_step : ∀ d, d + 1 ≤ 4 → 2 * lim (d + 1) + 1 ≤ lim d ∧ lim (d + 1) ≤ 15
 | 0, _ => by decide
 | 1, _ => by decide
 | 2, _ => by decide
 | 3, _ => by decide
 | _ + 4, h => by omega
def isBits (l : List Int) : Prop := ∀ i : Nat, rd l (i : Int) = 0 ∨ rd l (i : Int) = 1
theorem isBits_of {l : List Int} (h : ∀ x ∈ l, x = 0 ∨ x = 1) : isBits l := fun i => by
 rcases Nat.lt_or_ge i l.length with h1 | h1
 ·exact h _ (rd_mem h1)
 ·left; rw [rd_nat, List.getD_eq_getElem?_getD, List.getElem?_eq_none h1]; rfl
theorem lvN_bd {l : List Int} (hb : isBits l) : ∀ (d i : Nat) (acc : Int), d ≤ 4 → 0 ≤ acc → acc ≤ lim d → 0 ≤ lvN l d i acc ∧ lvN l d i acc ≤ 15
 | 0, _, _, _, h0, h1 => ⟨h0, h1⟩
 | d + 1, i, acc, hd, h0, h1 => by
  have := lim_step d hd
  have h := hb i
  exact lvN_bd hb d (i + 1) _ (by omega) (by omega) (by omega)
theorem lvN_shift {s l : List Int} {i : Nat} : ∀ (d j : Nat) (acc : Int), (∀ t : Nat, j ≤ t → t < j + d → rd s (t : Int) = rd l ((i + t : Nat) : Int)) → lvN s d j acc = lvN l d (i + j) acc
 | 0, _, _, _ => rfl
 | d + 1, j, acc, h => by
  unfold lvN
  rw [h j (by omega) (by omega), lvN_shift d (j + 1) _ (fun t h1 h2 => h t (by omega) (by omega))]
  rfl
def lvEnd (H : Nat) (t : Int) : Int := wrap64 (wrap64 (2 * t) - wrap64 (shl .i64 1 (H : Int) - 1))
def lvOf (l : List Int) (H i : Nat) : Int := lvEnd H ((ug (lvN l H i 0).toNat : Nat) : Int)
theorem iLevel_l0 (l : List Int) (hb : isBits l) (a H : Nat) (hH : H ≤ 4) (ha : a + H ≤ 100000) : ∀ (d i : Nat) (acc : Int), i + d = a + H → d ≤ 4 → 0 ≤ acc → acc ≤ lim d → Ev (fun k => impl_level.l0 k (a : Int) (H : Int) l acc (i : Int)) (lvEnd H ((ug (lvN l d i acc).toNat : Nat) : Int)) := by
 have e : wrap64 ((a : Int) + (H : Int)) = ((a + H : Nat) : Int) := by rw [w64 (by omega) (by omega)]; omega
 intro d
 induction d with
 | zero =>
  intro i acc hi hd h0 h1
  refine Ev.succ ?_
  simp only [impl_level.l0]
  rw [e]
  refine Ev.neg (by omega) (Ev.next (iUg_ev ⟨h0, h1⟩) (Ev.pos (by omega) (Ev.some_ rfl)))
 | succ d ih =>
  intro i acc hi hd h0 h1
  have hl := lim_step d hd
  have h := hb i
  have i1 := ih (i + 1) (2 * acc + rd l (i : Int)) (by omega) (by omega) (by omega) (by omega)
  refine Ev.succ ?_
  simp only [impl_level.l0, lvN]
  rw [e, w64 (n := acc * 2) (by omega) (by omega), w64 (n := acc * 2 + rd l (i : Int)) (by omega) (by omega), wadd1 (e := i) (by omega), show acc * 2 = 2 * acc by omega]
  refine Ev.pos (by omega) ?_
  by_cases hx : (i : Int) < (l.length : Int)
  case pos => exact Ev.pos hx (Ev.pos (by omega) i1)
  have hz : rd l (i : Int) = 0 := by rw [rd_nat, List.getD_eq_getElem?_getD, List.getElem?_eq_none (by omega)]; rfl
  rw [hz, Int.add_zero] at i1
  rw [hz, Int.add_zero]
  exact Ev.neg hx i1
theorem iLevel_ev (l : List Int) (hb : isBits l) (a H : Nat) (hH : 1 ≤ H ∧ H ≤ 4) (ha : a + H ≤ 100000) : Ev (fun k => impl_level.f k (a : Int) (H : Int) l) (lvOf l H a) := by
 have hl : 0 ≤ lim H := by
  obtain ⟨h1, h2⟩ := hH
  match H, h1, h2 with
  | 1, _, _ => decide
  | 2, _, _ => decide
  | 3, _, _ => decide
  | 4, _, _ => decide
 exact iLevel_l0 l hb a H hH.2 ha H a 0 rfl hH.2 (by omega) hl
theorem sLevel_l0 (s : List Int) (hb : isBits s) (hH : s.length ≤ 4) : ∀ (d i : Nat) (acc : Int), i + d = s.length → d ≤ 4 → 0 ≤ acc → acc ≤ lim d → Ev (fun k => spec_l13Level.l0 k s acc (i : Int)) (lvEnd s.length ((ug (lvN s d i acc).toNat : Nat) : Int)) := by
 have e : IntKind.u64.wrap (s.length : Int) = (s.length : Int) := wu64 (by omega) (by omega)
 intro d
 induction d with
 | zero =>
  intro i acc hi hd h0 h1
  refine Ev.succ ?_
  simp only [spec_l13Level.l0]
  rw [e]
  refine Ev.neg (by omega) (Ev.next (sUg_ev ⟨h0, h1⟩) (Ev.pos (by omega) (Ev.some_ rfl)))
 | succ d ih =>
  intro i acc hi hd h0 h1
  have hl := lim_step d hd
  have h := hb i
  have i1 := ih (i + 1) (2 * acc + rd s (i : Int)) (by omega) (by omega) (by omega) (by omega)
  refine Ev.succ ?_
  simp only [spec_l13Level.l0, lvN]
  rw [w64 (n := 2 * acc) (by omega) (by omega), w64 (n := 2 * acc + rd s (i : Int)) (by omega) (by omega), wadd1 (e := i) (by omega)]
  exact Ev.pos (by omega) (Ev.pos (by omega) i1)
theorem rd_slice (P : List Int) (a b t : Nat) (h : a + t < b) : rd ((P.take b).drop a) (t : Int) = rd P ((a + t : Nat) : Int) := by
 rw [rd_nat, rd_nat, List.getD_eq_getElem?_getD, List.getD_eq_getElem?_getD, List.getElem?_drop, List.getElem?_take, if_pos h]
theorem rd_pad (l : List Int) (p t : Nat) : rd (l ++ List.replicate p 0) (t : Int) = rd l (t : Int) := by
 rw [rd_nat, rd_nat, List.getD_eq_getElem?_getD, List.getD_eq_getElem?_getD]
 rcases Nat.lt_or_ge t l.length with h | h
 ·rw [List.getElem?_append_left h]
 ·rw [List.getElem?_append_right h, List.getElem?_eq_none h, List.getElem?_replicate]
  split <;> rfl
theorem sLevel_ev (l : List Int) (hb : isBits l) (p a H : Nat) (hH : 1 ≤ H ∧ H ≤ 4) (ha : a + H ≤ (l ++ List.replicate p 0).length) : Ev (fun k => spec_l13Level.f k (((l ++ List.replicate p 0).take (a + H)).drop a)) (lvOf l H a) := by
 have hl : 0 ≤ lim H := by
  obtain ⟨h1, h2⟩ := hH
  match H, h1, h2 with
  | 1, _, _ => decide
  | 2, _, _ => decide
  | 3, _, _ => decide
  | 4, _, _ => decide
 have hlen : (((l ++ List.replicate p 0).take (a + H)).drop a).length = H := by
  rw [List.length_drop, List.length_take, Nat.min_eq_left ha]; omega
 have hr : ∀ t : Nat, t < H → rd (((l ++ List.replicate p 0).take (a + H)).drop a) (t : Int) = rd l ((a + t : Nat) : Int) := fun t h => by
  rw [rd_slice _ _ _ _ (by omega), rd_pad]
 generalize ((l ++ List.replicate p 0).take (a + H)).drop a = s at hlen hr
 have hs : isBits s := fun t => by
  rcases Nat.lt_or_ge t H with h | h
  ·rw [hr t h]; exact hb _
  ·left; rw [rd_nat, List.getD_eq_getElem?_getD, List.getElem?_eq_none (by omega)]; rfl
 have := sLevel_l0 s hs (by omega) H 0 0 (by omega) hH.2 (by omega) hl
 rw [lvN_shift (l := l) (i := a) H 0 0 (fun t _ h => hr t (by omega)), hlen] at this
 exact this
def mapGo (l : List Int) (H : Nat) : Nat → Nat → List S52
 | 0, _ => []
 | d + 1, i => ⟨lvOf l H i, lvOf l H (i + H)⟩ :: mapGo l H d (i + 2 * H)
theorem mapGo_len (l : List Int) (H : Nat) : ∀ d i, (mapGo l H d i).length = d
 | 0, _ => rfl
 | d + 1, i => by simp [mapGo, mapGo_len l H d]
def padOf (n W : Nat) : Nat := (W - n % W) % W
theorem pad_facts {n H : Nat} (hH : 1 ≤ H ∧ H ≤ 4) : (n + padOf n (2 * H)) % (2 * H) = 0 ∧ padOf n (2 * H) < 2 * H ∧ ∀ j, j < padOf n (2 * H) → (n + j) % (2 * H) ≠ 0 := by
 obtain ⟨h1, h2⟩ := hH
 unfold padOf
 match H, h1, h2 with
 | 1, _, _ => refine ⟨by omega, by omega, fun j h => by omega⟩
 | 2, _, _ => refine ⟨by omega, by omega, fun j h => by omega⟩
 | 3, _, _ => refine ⟨by omega, by omega, fun j h => by omega⟩
 | 4, _, _ => refine ⟨by omega, by omega, fun j h => by omega⟩
theorem sMap_l1 (l : List Int) (hb : isBits l) (hl : l.length ≤ 1024) (p H : Nat) (hp : p ≤ 8) (hH : 1 ≤ H ∧ H ≤ 4) : ∀ (d i : Nat) (acc : List S52), i + 2 * H * d = l.length + p → acc.length ≤ i → Ev (fun k => spec_Map.l1 k ((2 * H : Nat) : Int) acc (l ++ List.replicate p 0) (H : Int) (i : Int)) (acc ++ mapGo l H d i, true) := by
 have hlen : (l ++ List.replicate p (0 : Int)).length = l.length + p := by simp
 intro d
 induction d with
 | zero =>
  intro i acc hi ha
  refine Ev.succ ?_
  simp only [spec_Map.l1]
  exact Ev.neg (by rw [hlen]; omega) (Ev.some_ (by simp [mapGo]))
 | succ d ih =>
  intro i acc hi ha
  rw [Nat.mul_succ] at hi
  have hq := ih (i + 2 * H) (acc ++ [⟨lvOf l H i, lvOf l H (i + H)⟩]) (by omega) (by simp; omega)
  generalize 2 * H * d = q at hi
  have e1 : wrap64 ((i : Int) + (H : Int)) = ((i + H : Nat) : Int) := by rw [w64 (by omega) (by omega)]; omega
  have e2 : wrap64 ((i : Int) + ((2 * H : Nat) : Int)) = ((i + 2 * H : Nat) : Int) := by rw [w64 (by omega) (by omega)]; omega
  have v1 := sLevel_ev l hb p i H hH (by rw [hlen]; omega)
  have v2 := sLevel_ev l hb p (i + H) H hH (by rw [hlen]; omega)
  rw [show i + H + H = i + 2 * H by omega] at v2
  refine Ev.succ ?_
  simp only [spec_Map.l1]
  rw [e1, e2, hlen, Int.toNat_natCast, Int.toNat_natCast, Int.toNat_natCast]
  refine Ev.pos (by omega) (Ev.pos (by omega) (Ev.pos (by omega) (Ev.pos (by omega) (Ev.next v1 (Ev.pos (by omega) (Ev.pos (by omega) (Ev.pos (by omega) (Ev.next v2 (Ev.pos (by omega) (hq.to ?_))))))))))
  simp [mapGo]
theorem sMap_l0 (l : List Int) (H : Nat) (hl : l.length ≤ 1024) (hH : 1 ≤ H ∧ H ≤ 4) {res : List S52 × Bool} (R : Ev (fun k => spec_Map.l1 k ((2 * H : Nat) : Int) [] (l ++ List.replicate (padOf l.length (2 * H)) 0) (H : Int) 0) res) : ∀ (d j : Nat), j + d = padOf l.length (2 * H) → Ev (fun k => spec_Map.l0 k ((2 * H : Nat) : Int) [] (l ++ List.replicate j 0)) res := by
 obtain ⟨f1, f2, f3⟩ := pad_facts (n := l.length) hH
 have hm : ∀ j : Nat, (((l ++ List.replicate j (0 : Int)).length : Nat) : Int) % ((2 * H : Nat) : Int) = (((l.length + j) % (2 * H) : Nat) : Int) := fun j => by
  rw [show (l ++ List.replicate j (0 : Int)).length = l.length + j by simp, Int.natCast_emod]
 have eh : wrap64 (Int.tdiv ((2 * H : Nat) : Int) 2) = (H : Int) := by
  rw [Int.tdiv_eq_ediv_of_nonneg (by omega), w64 (by omega) (by omega)]; omega
 intro d
 induction d with
 | zero =>
  intro j hj
  refine Ev.succ ?_
  simp only [spec_Map.l0]
  rw [hm, eh, show j = padOf l.length (2 * H) by omega, f1]
  exact Ev.neg (by omega) (Ev.pos (by omega) R)
 | succ d ih =>
  intro j hj
  have h3 := f3 j (by omega)
  have i1 := ih (j + 1) (by omega)
  rw [List.replicate_succ', ← List.append_assoc] at i1
  refine Ev.succ ?_
  simp only [spec_Map.l0]
  rw [hm]
  exact Ev.neg (by omega) (Ev.neg (by omega) (Ev.pos (by simp; omega) i1))
def mapOf (l : List Int) (H : Nat) : List S52 × Bool := if bitsB l = true then (mapGo l H ((l.length + padOf l.length (2 * H)) / (2 * H)) 0, true) else ([], false)
theorem widthB_two {H : Nat} (hH : 1 ≤ H ∧ H ≤ 4) : widthB ((2 * H : Nat) : Int) = true := by
 unfold widthB; simp; omega
theorem map_rounds (n H : Nat) (hH : 1 ≤ H ∧ H ≤ 4) : 0 + 2 * H * ((n + padOf n (2 * H)) / (2 * H)) = n + padOf n (2 * H) := by
 rw [Nat.zero_add]
 exact Nat.mul_div_cancel' (Nat.dvd_of_mod_eq_zero (pad_facts hH).1)
theorem sMap_ev (l : List Int) (H : Nat) (hl : l.length ≤ 1048576) (hH : 1 ≤ H ∧ H ≤ 4) : Ev (fun k => spec_Map.f k ((2 * H : Nat) : Int) l) (mapOf l H) := by
 unfold spec_Map.f mapOf
 refine Ev.next (Ev.some_ rfl) (Ev.next (sBitsOk_ev l hl) ?_)
 by_cases h : bitsB l = true
 case neg =>
  rw [if_neg h]
  refine Ev.neg h (Ev.succ ?_)
  simp only [spec_Map.j0]
  exact Ev.pos trivial (Ev.some_ rfl)
 rw [if_pos h]
 have hb := bitsB_iff.1 h
 refine Ev.pos h (Ev.next (Ev.here (l13Width_eq _)) ?_)
 rw [widthB_two hH]
 refine Ev.succ ?_
 simp only [spec_Map.j0]
 refine Ev.neg (by decide) (Ev.next (Ev.some_ rfl) (Ev.pos (by simp; omega) ?_))
 have h0 := sMap_l0 l H hb.2 hH (sMap_l1 l (isBits_of hb.1) hb.2 (padOf l.length (2 * H)) H (by have := (pad_facts (n := l.length) hH).2.1; omega) hH _ 0 [] (map_rounds l.length H hH) (by simp)) _ 0 (Nat.zero_add _)
 simp only [List.replicate_zero, List.append_nil, List.nil_append] at h0
 rw [List.nil_append]
 exact h0
theorem iMap_l0 (l : List Int) (hb : isBits l) (hl : l.length ≤ 1024) (p H : Nat) (hp : p < 2 * H) (hH : 1 ≤ H ∧ H ≤ 4) : ∀ (d i : Nat) (acc : List S52), i + 2 * H * d = l.length + p → acc.length ≤ i → Ev (fun k => impl_Map.l0 k ((2 * H : Nat) : Int) l (H : Int) acc (i : Int)) (acc ++ mapGo l H d i, true) := by
 intro d
 induction d with
 | zero =>
  intro i acc hi ha
  refine Ev.succ ?_
  simp only [impl_Map.l0]
  exact Ev.neg (by omega) (Ev.some_ (by simp [mapGo]))
 | succ d ih =>
  intro i acc hi ha
  rw [Nat.mul_succ] at hi
  have hq := ih (i + 2 * H) (acc ++ [⟨lvOf l H i, lvOf l H (i + H)⟩]) (by omega) (by simp; omega)
  generalize 2 * H * d = q at hi
  have e1 : wrap64 ((i : Int) + (H : Int)) = ((i + H : Nat) : Int) := by rw [w64 (by omega) (by omega)]; omega
  have e2 : wrap64 ((i : Int) + ((2 * H : Nat) : Int)) = ((i + 2 * H : Nat) : Int) := by rw [w64 (by omega) (by omega)]; omega
  have v1 := iLevel_ev l hb i H hH (by omega)
  have v2 := iLevel_ev l hb (i + H) H hH (by omega)
  refine Ev.succ ?_
  simp only [impl_Map.l0]
  rw [e1, e2]
  refine Ev.pos (by omega) (Ev.next v1 (Ev.next v2 (Ev.pos (by omega) (hq.to ?_))))
  simp [mapGo]
theorem iMap_ev (l : List Int) (H : Nat) (hl : l.length ≤ 1048576) (hH : 1 ≤ H ∧ H ≤ 4) : Ev (fun k => impl_Map.f k ((2 * H : Nat) : Int) l) (mapOf l H) := by
 unfold impl_Map.f mapOf
 refine Ev.next (iBitsOk_ev l hl) ?_
 by_cases h : bitsB l = true
 case neg =>
  rw [if_neg h]
  refine Ev.neg h (Ev.succ ?_)
  simp only [impl_Map.j0]
  exact Ev.pos trivial (Ev.some_ rfl)
 rw [if_pos h]
 have hb := bitsB_iff.1 h
 have eh : wrap64 (Int.tdiv ((2 * H : Nat) : Int) 2) = (H : Int) := by
  rw [Int.tdiv_eq_ediv_of_nonneg (by omega), w64 (by omega) (by omega)]; omega
 refine Ev.pos h (Ev.next (Ev.here (isWidth_eq _)) ?_)
 rw [widthB_two hH]
 refine Ev.succ ?_
 simp only [impl_Map.j0]
 rw [eh]
 refine Ev.neg (by decide) ?_
 exact iMap_l0 l (isBits_of hb.1) hb.2 (padOf l.length (2 * H)) H (pad_facts (n := l.length) hH).2.1 hH _ 0 [] (map_rounds l.length H hH) (by simp)
theorem mapOf_len (l : List Int) (H : Nat) (hH : 1 ≤ H ∧ H ≤ 4) : (mapOf l H).1.length ≤ 1100 := by
 unfold mapOf
 split
 ·rename_i h
  have hb := (bitsB_iff.1 h).2
  have := (pad_facts (n := l.length) hH).2.1
  simp only [mapGo_len]
  exact Nat.le_trans (Nat.div_le_self _ _) (by omega)
 ·simp
def sendP (ra si : Int) (p : S52) : List S52 := List.replicate ra.toNat ⟨wrap64 (p.f0 * si), wrap64 (p.f1 * si)⟩
def sendGo (ra si : Int) : List S52 → List S52
 | [] => []
 | p :: xs => sendP ra si p ++ sendGo ra si xs
theorem sendGo_len (ra si : Int) (h : ra ≤ 8) : ∀ l, (sendGo ra si l).length ≤ 8 * l.length
 | [] => Nat.le_refl _
 | p :: xs => by
  have := sendGo_len ra si h xs
  simp only [sendGo, sendP, List.length_append, List.length_replicate, List.length_cons]
  omega
theorem drop52 {xs : List S52} {i : Nat} (h : i < xs.length) : xs.drop i = rd_T52 xs (i : Int) :: xs.drop (i + 1) := by
 rw [show rd_T52 xs (i : Int) = xs[i] by simp [rd_T52, List.getD_eq_getElem?_getD, h]]; exact List.drop_eq_getElem_cons h
theorem sSend_l2 (P : List S52) (R : Nat) (hR : 1 ≤ R ∧ R ≤ 8) (x0 x1 x2 x3 si : Int) (i : Nat) (hi : i < P.length) (hP : P.length ≤ 1100) {res : List S52 × Bool} : ∀ (d j : Nat) (acc : List S52), j + d = R → acc.length ≤ 8 + 8 * i + j → Ev (fun k => spec_Send.l1 k (acc ++ List.replicate d ⟨wrap64 ((rd_T52 P (i : Int)).f0 * si), wrap64 ((rd_T52 P (i : Int)).f1 * si)⟩) P ((i + 1 : Nat) : Int) x0 x1 x2 x3 (R : Int) si) res → Ev (fun k => spec_Send.l2 k acc P (i : Int) (j : Int) x0 x1 x2 x3 (R : Int) si) res := by
 intro d
 induction d with
 | zero =>
  intro j acc hj ha H
  refine Ev.succ ?_
  simp only [spec_Send.l2]
  rw [wadd1 (e := i) (by omega)]
  simp only [List.replicate_zero, List.append_nil] at H
  exact Ev.neg (by omega) H
 | succ d ih =>
  intro j acc hj ha H
  refine Ev.succ ?_
  simp only [spec_Send.l2]
  rw [wadd1 (e := j) (by omega)]
  refine Ev.pos (by omega) (Ev.pos (by omega) (Ev.pos (by omega) (Ev.pos (by omega) (ih (j + 1) _ (by omega) (by simp; omega) ?_))))
  rw [List.append_assoc]
  exact H
theorem sSend_l1 (P : List S52) (R : Nat) (hR : 1 ≤ R ∧ R ≤ 8) (x0 x1 x2 x3 si : Int) (hP : P.length ≤ 1100) : ∀ (d i : Nat) (acc : List S52), i + d = P.length → acc.length ≤ 8 + 8 * i → Ev (fun k => spec_Send.l1 k acc P (i : Int) x0 x1 x2 x3 (R : Int) si) (acc ++ sendGo (R : Int) si (P.drop i), true) := by
 intro d
 induction d with
 | zero =>
  intro i acc hi ha
  refine Ev.succ ?_
  simp only [spec_Send.l1]
  rw [List.drop_of_length_le (by omega)]
  exact Ev.neg (by omega) (Ev.some_ (by simp [sendGo]))
 | succ d ih =>
  intro i acc hi ha
  refine Ev.succ ?_
  simp only [spec_Send.l1]
  refine Ev.pos (by omega) (sSend_l2 P R hR x0 x1 x2 x3 si i (by omega) hP R 0 acc (by omega) (by omega) ?_)
  refine (ih (i + 1) _ (by omega) (by simp; omega)).to ?_
  rw [drop52 (xs := P) (i := i) (by omega)]
  simp only [sendGo, sendP, Int.toNat_natCast, List.append_assoc]
theorem sSend_l0 (P : List S52) (R : Nat) (hR : 1 ≤ R ∧ R ≤ 8) (x0 x1 x2 x3 si : Int) (hP : P.length ≤ 1100) : ∀ (d j : Nat) (acc : List S52), j + d = R → acc.length = j → Ev (fun k => spec_Send.l0 k acc P (j : Int) x0 x1 x2 x3 (R : Int) si) (acc ++ List.replicate d ⟨wrap64 (32 * si), 0⟩ ++ sendGo (R : Int) si P, true) := by
 intro d
 induction d with
 | zero =>
  intro j acc hj ha
  refine Ev.succ ?_
  simp only [spec_Send.l0]
  have := sSend_l1 P R hR x0 x1 x2 x3 si hP P.length 0 acc (by omega) (by omega)
  rw [List.drop_zero] at this
  exact Ev.neg (by omega) (this.to (by simp))
 | succ d ih =>
  intro j acc hj ha
  refine Ev.succ ?_
  simp only [spec_Send.l0]
  rw [wadd1 (e := j) (by omega)]
  refine Ev.pos (by omega) (Ev.pos (by omega) ((ih (j + 1) _ (by omega) (by simp; omega)).to ?_))
  simp [List.replicate_succ]
theorem point_eq (p : S52) (R : Nat) (hR : 1 ≤ R ∧ R ≤ 8) : impl_Point.f [p] (R : Int) = some (List.replicate R p) := by
 unfold impl_Point.f
 rw [if_pos ⟨rfl, by omega, by omega⟩, Int.toNat_natCast]
 rfl
theorem iSend_l0 (P : List S52) (R : Nat) (hR : 1 ≤ R ∧ R ≤ 8) (x0 x1 x2 x3 si : Int) (hP : P.length ≤ 1100) : ∀ (d i : Nat) (acc : List S52), i + d = P.length → acc.length ≤ 8 + 8 * i → Ev (fun k => impl_Send.l0 k acc P (P.length : Int) (i : Int) x0 x1 x2 x3 (R : Int) si) (acc ++ sendGo (R : Int) si (P.drop i), true) := by
 intro d
 induction d with
 | zero =>
  intro i acc hi ha
  refine Ev.succ ?_
  simp only [impl_Send.l0]
  rw [List.drop_of_length_le (by omega)]
  exact Ev.neg (by omega) (Ev.some_ (by simp [sendGo]))
 | succ d ih =>
  intro i acc hi ha
  refine Ev.succ ?_
  simp only [impl_Send.l0]
  rw [wadd1 (e := i) (by omega)]
  refine Ev.pos (by omega) (Ev.pos (by omega) (Ev.pos (by omega) (Ev.next (Ev.here (point_eq _ R hR)) (Ev.pos (by simp; omega) ((ih (i + 1) _ (by omega) (by simp; omega)).to ?_)))))
  rw [drop52 (xs := P) (i := i) (by omega)]
  simp only [sendGo, sendP, Int.toNat_natCast, List.append_assoc]
def sendPts (w m r s ra si : Int) (data : List Int) : List S52 :=
 (mapOf (stirOf (weaveOf (unpackOf (rsOf data m).1) r.toNat) s).1 (w / 2).toNat).1
def sendOf (w m r s ra si : Int) (data : List Int) : List S52 × Bool :=
 if modemB w m r s ra si = true ∧ 1 ≤ data.length ∧ data.length ≤ 40 then (List.replicate ra.toNat ⟨wrap64 (32 * si), 0⟩ ++ sendGo ra si (sendPts w m r s ra si data), true) else ([], false)
theorem sendPts_len {w m r s ra si : Int} {data : List Int} (h : modemB w m r s ra si = true) : (sendPts w m r s ra si data).length ≤ 1100 := by
 have := modemB_iff.1 h
 exact mapOf_len _ _ (by omega)
theorem sendOf_len (w m r s ra si : Int) (data : List Int) : (sendOf w m r s ra si data).1.length ≤ 100000 := by
 unfold sendOf
 split
 ·rename_i h
  have hm := modemB_iff.1 h.1
  have := sendPts_len (data := data) h.1
  have h2 := sendGo_len ra si hm.2.2.2.2.1.2 (sendPts w m r s ra si data)
  simp only [List.length_append, List.length_replicate]
  omega
 ·simp
theorem rs_facts {data : List Int} {m : Int} (hb : isB data) (hm : 1 ≤ m ∧ m ≤ 8) (hl : 1 ≤ data.length ∧ data.length ≤ 40) : isB (rsOf data m).1 ∧ (rsOf data m).1.length ≤ 56 := by
 have hz : isB (List.replicate (2 * m).toNat (0 : Int)) := fun x hx => by rw [List.eq_of_mem_replicate hx]; omega
 unfold rsOf
 rw [if_pos (by unfold rsB; simp; omega)]
 refine ⟨isB_append hb (rsRest_B _ (genL_B _) _ _ hz hb), ?_⟩
 simp only [List.length_append]
 rw [rsRest_len _ _ _ (by simp; omega)]
 simp; omega
theorem two_of {w m r s ra si : Int} (h : modemB w m r s ra si = true) : ∃ H : Nat, (1 ≤ H ∧ H ≤ 4) ∧ w = ((2 * H : Nat) : Int) ∧ (w / 2).toNat = H := by
 have := (modemB_iff.1 h).1
 exact ⟨(w / 2).toNat, by omega, by omega, rfl⟩
theorem sSend_ev (w m r s ra si : Int) (data : List Int) (hb : isB data) (hl : data.length ≤ 1048576) : Ev (fun k => spec_Send.f k w m r s ra si data) (sendOf w m r s ra si data) := by
 have bad : ∀ b : Bool, b = true → Ev (fun k => spec_Send.j0 k data [] b w m r s ra si) ([], false) := fun b h => by
  refine Ev.succ ?_
  simp only [spec_Send.j0]
  exact Ev.pos h (Ev.some_ rfl)
 unfold spec_Send.f sendOf
 refine Ev.next (Ev.some_ rfl) (Ev.next (Ev.here (sModemOk_eq _ _ _ _ _ _)) ?_)
 by_cases h : modemB w m r s ra si = true
 case neg =>
  rw [if_neg (fun h3 => h h3.1)]
  exact Ev.neg h (bad _ rfl)
 refine Ev.pos h (Ev.next (Ev.here (l1In_eq _ _ _)) ?_)
 by_cases h2 : 1 ≤ data.length ∧ data.length ≤ 40
 case neg =>
  rw [if_neg (fun h3 => h2 h3.2)]
  exact bad _ (by simp; omega)
 rw [if_pos ⟨h, h2⟩, show (!(decide ((1 : Int) ≤ (data.length : Int)) && decide ((data.length : Int) ≤ 40))) = false by simp; omega]
 have hm := modemB_iff.1 h
 obtain ⟨H, hH, hw, hw2⟩ := two_of h
 obtain ⟨rb, rl⟩ := rs_facts hb hm.2.1 h2
 have hp := sendPts_len (data := data) h
 unfold sendPts at hp ⊢
 rw [hw2] at hp ⊢
 have ul := unpackOf_len (rsOf data m).1
 obtain ⟨r', hr'⟩ := Int.eq_ofNat_of_zero_le (show 0 ≤ r by omega)
 obtain ⟨R, hR⟩ := Int.eq_ofNat_of_zero_le (show 0 ≤ ra by omega)
 subst hr' hR
 rw [Int.toNat_natCast, Int.toNat_natCast] at *
 have wl := weaveOf_bd (unpackOf (rsOf data m).1) r' (by omega) (by omega)
 have sl := stirOf_len (weaveOf (unpackOf (rsOf data m).1) r') s
 refine Ev.succ ?_
 simp only [spec_Send.j0]
 refine Ev.neg (by decide) (Ev.next (sRs_ev data m hb hl) (Ev.next (sUnpack8_ev _ (by omega) rb) (Ev.next (sWeave_ev _ r' (by simp only; omega) (by omega)) (Ev.next (sStir_ev _ s (by simp only; omega) hm.2.2.2.1) ?_))))
 rw [hw]
 refine Ev.next (sMap_ev _ H (by simp only; omega) hH) ?_
 have := sSend_l0 (mapOf (stirOf (weaveOf (unpackOf (rsOf data m).1) r') s).1 H).1 R (by omega) ((2 * H : Nat) : Int) m (r' : Int) s si hp R 0 [] (by omega) rfl
 exact this
theorem iSend_ev (w m r s ra si : Int) (data : List Int) (hb : isB data) (hl : data.length ≤ 1048576) : Ev (fun k => impl_Send.f k w m r s ra si data) (sendOf w m r s ra si data) := by
 have bad : ∀ b : Bool, b = true → Ev (fun k => impl_Send.j0 k data b w m r s ra si) ([], false) := fun b h => by
  refine Ev.succ ?_
  simp only [impl_Send.j0]
  exact Ev.pos h (Ev.some_ rfl)
 have hs : impl_sentOk.f (data.length : Int) = some (decide (1 ≤ data.length ∧ data.length ≤ 40)) := by
  unfold impl_sentOk.f
  by_cases h : (data.length : Int) ≥ 1
  case neg => rw [if_neg h, decide_eq_false (by omega)]
  rw [if_pos h]; simp only [Option.some.injEq, decide_eq_decide]; omega
 unfold impl_Send.f sendOf
 refine Ev.next (Ev.here (iModemOk_eq _ _ _ _ _ _)) ?_
 by_cases h : modemB w m r s ra si = true
 case neg =>
  rw [if_neg (fun h3 => h h3.1)]
  exact Ev.neg h (bad _ rfl)
 refine Ev.pos h (Ev.next (Ev.here hs) ?_)
 by_cases h2 : 1 ≤ data.length ∧ data.length ≤ 40
 case neg =>
  rw [if_neg (fun h3 => h2 h3.2), decide_eq_false h2]
  exact bad _ rfl
 rw [if_pos ⟨h, h2⟩, decide_eq_true h2]
 have hm := modemB_iff.1 h
 obtain ⟨H, hH, hw, hw2⟩ := two_of h
 obtain ⟨rb, rl⟩ := rs_facts hb hm.2.1 h2
 have hp := sendPts_len (data := data) h
 unfold sendPts at hp ⊢
 rw [hw2] at hp ⊢
 have ul := unpackOf_len (rsOf data m).1
 obtain ⟨r', hr'⟩ := Int.eq_ofNat_of_zero_le (show 0 ≤ r by omega)
 obtain ⟨R, hR⟩ := Int.eq_ofNat_of_zero_le (show 0 ≤ ra by omega)
 subst hr' hR
 rw [Int.toNat_natCast, Int.toNat_natCast] at *
 have wl := weaveOf_bd (unpackOf (rsOf data m).1) r' (by omega) (by omega)
 have sl := stirOf_len (weaveOf (unpackOf (rsOf data m).1) r') s
 refine Ev.succ ?_
 simp only [impl_Send.j0]
 refine Ev.neg (by decide) (Ev.next (iRs_ev data m hb hl) (Ev.next (unpack8_ev _ (by omega) rb) (Ev.next (iWeave_ev _ r' (by omega) (by omega)) (Ev.next (iStir_ev _ s (by simp only; omega) hm.2.2.2.1) ?_))))
 rw [hw]
 refine Ev.next (iMap_ev _ H (by simp only; omega) hH) (Ev.next (Ev.here (point_eq _ R (by omega))) ?_)
 have := iSend_l0 (mapOf (stirOf (weaveOf (unpackOf (rsOf data m).1) r') s).1 H).1 R (by omega) ((2 * H : Nat) : Int) m (r' : Int) s si hp _ 0 (List.replicate R ⟨wrap64 (32 * si), 0⟩) (Nat.zero_add _) (by simp; omega)
 rw [List.drop_zero] at this
 exact this
theorem get52 {xs : List S52} {i : Nat} (h : i < xs.length) : xs[i]? = some (rd_T52 xs (i : Int)) := by
 rw [show rd_T52 xs (i : Int) = xs[i] by simp [rd_T52, List.getD_eq_getElem?_getD, h]]; exact List.getElem?_eq_getElem h
theorem eqPointS_l0 (a b : List S52) (h : a = b) (hl : a.length ≤ 1048552) : ∀ (d i : Nat), i + d = a.length → Ev (fun k => laws_eqPointS.l0 k a b (i : Int)) true := by
 subst h
 intro d
 induction d with
 | zero =>
  intro i hi
  refine Ev.succ ?_
  simp only [laws_eqPointS.l0]
  exact Ev.neg (by omega) (Ev.some_ rfl)
 | succ d ih =>
  intro i hi
  refine Ev.succ ?_
  simp only [laws_eqPointS.l0]
  rw [wadd1 (e := i) (by omega)]
  refine Ev.pos (by omega) (Ev.pos (by omega) (Ev.pos (by omega) (Ev.next (Ev.here (r := true) ?_) (Ev.pos rfl (ih (i + 1) (by omega))))))
  unfold laws_eqPoint.f
  simp
theorem eqPointS_ev (a : List S52) (hl : a.length ≤ 1048552) : Ev (fun k => laws_eqPointS.f k a a) true := by
 unfold laws_eqPointS.f
 exact Ev.pos rfl (eqPointS_l0 a a rfl hl a.length 0 (by omega))
def iotaP (a : Int) : Nat → List S52
 | 0 => []
 | n + 1 => ⟨a, a + 1⟩ :: iotaP (a + 2) n
theorem iotaP_length : ∀ (n : Nat) (a : Int), (iotaP a n).length = n
 | 0, _ => rfl
 | n + 1, a => by simp [iotaP, iotaP_length n]
theorem rd_set52 (l : List S52) (i : Nat) (v : S52) (h : i < l.length) : rd_T52 (l.set i v) (i : Int) = v := by
 simp [rd_T52, List.getD_eq_getElem?_getD, h]
theorem markP_l0 : ∀ (d i : Nat) (l : List S52) (a : Int), i + d = l.length → l.length ≤ 1048552 → 0 ≤ a → a ≤ 1000000000 + 2 * i → Ev (fun k => laws_markPointS.l0 k l a (i : Int)) (a + 2 * d, l.take i ++ iotaP a d) := by
 intro d
 induction d with
 | zero =>
  intro i l a hi hl h0 h1
  refine Ev.succ ?_
  simp only [laws_markPointS.l0]
  refine Ev.neg (by omega) (Ev.some_ ?_)
  rw [List.take_of_length_le (by omega)]; simp [iotaP]
 | succ d ih =>
  intro i l a hi hl h0 h1
  refine Ev.succ ?_
  simp only [laws_markPointS.l0]
  rw [wadd1 (e := i) (by omega), w64_add (by omega) (by omega), w64 (n := a + 1 + 1) (by omega) (by omega), Int.toNat_natCast]
  refine Ev.pos (by omega) (Ev.pos (by omega) (Ev.next (Ev.some_ rfl) ?_))
  rw [rd_set52 l i _ (by omega), List.set_set, show a + 1 + 1 = a + 2 by omega]
  refine (ih (i + 1) (l.set i ⟨a, a + 1⟩) (a + 2) (by simp; omega) (by simpa using hl) (by omega) (by omega)).to ?_
  rw [take_set_end (by omega)]
  simp only [iotaP, List.append_assoc, List.cons_append, List.nil_append, Prod.mk.injEq, and_true]
  omega
theorem markP_ev (l : List S52) (a : Int) (hl : l.length ≤ 1048552) (h0 : 0 ≤ a) (h1 : a ≤ 1000000000) : Ev (fun k => laws_markPointS.f k l a) (a + 2 * l.length, iotaP a l.length) := by
 unfold laws_markPointS.f
 exact (markP_l0 l.length 0 l a (by omega) hl h0 (by omega)).to (by simp)
theorem heldP_l0 (p : List S52) : ∀ (d : Nat) (a : Int) (l : List S52), l = p ++ iotaP a d → l.length ≤ 1048552 → ∀ i : Nat, i = p.length → 0 ≤ a → a ≤ 1000000000 + 2 * i → Ev (fun k => laws_heldPointS.l0 k l a (i : Int)) (a + 2 * d) := by
 intro d
 induction d generalizing p with
 | zero =>
  intro a l hl hn i hi h0 h1
  refine Ev.succ ?_
  simp only [laws_heldPointS.l0]
  have : l.length = p.length := by rw [hl]; simp [iotaP]
  exact Ev.neg (by omega) (Ev.some_ (by omega))
 | succ d ih =>
  intro a l hl hn i hi h0 h1
  have e : l.length = p.length + (d + 1) := by rw [hl]; simp [iotaP, iotaP_length]
  have er : rd_T52 l (i : Int) = ⟨a, a + 1⟩ := by
   have := get52 (xs := l) (i := i) (by omega)
   rw [hl, List.getElem?_append_right (by omega), hi, Nat.sub_self] at this
   rw [hl, hi]
   exact (Option.some.inj this).symm
  refine Ev.succ ?_
  simp only [laws_heldPointS.l0, er]
  rw [wadd1 (e := i) (by omega), w64_add (by omega) (by omega), w64 (n := a + 1 + 1) (by omega) (by omega)]
  refine Ev.pos (by omega) (Ev.pos (by omega) (Ev.pos trivial (Ev.pos rfl ?_)))
  rw [show a + 1 + 1 = a + 2 by omega]
  exact (ih (p ++ [⟨a, a + 1⟩]) (a + 2) l (by rw [hl]; simp [iotaP]) hn (i + 1) (by simp [hi]) (by omega) (by omega)).to (by omega)
theorem heldP_ev (n : Nat) (a : Int) (hn : n ≤ 1048552) (h0 : 0 ≤ a) (h1 : a ≤ 1000000000) : Ev (fun k => laws_heldPointS.f k (iotaP a n) a) (a + 2 * n) :=
 heldP_l0 [] n a (iotaP a n) (by simp) (by rw [iotaP_length]; exact hn) 0 rfl h0 (by omega)
theorem toByteS_l0 (xs : List Int) (hl : xs.length ≤ 1048576) : ∀ (d i : Nat) (acc : List Int), i + d = xs.length → acc.length = xs.length → acc.take i = xs.take i → Ev (fun k => laws_toByteS.l0 k xs acc (i : Int)) xs := by
 intro d
 induction d with
 | zero =>
  intro i acc hi ha ht
  refine Ev.succ ?_
  simp only [laws_toByteS.l0]
  refine Ev.neg (by omega) (Ev.some_ ?_)
  rw [List.take_of_length_le (by omega), List.take_of_length_le (by omega)] at ht
  exact ht
 | succ d ih =>
  intro i acc hi ha ht
  refine Ev.succ ?_
  simp only [laws_toByteS.l0]
  rw [w64_add (by omega) (by omega), Int.toNat_natCast]
  refine Ev.pos (by omega) (Ev.pos (by omega) (Ev.pos (by omega) (ih (i + 1) _ (by omega) (by simpa using ha) ?_)))
  rw [take_set_end (by omega), take_rd (by omega), ht]
theorem toByteS_ev (xs : List Int) (hl : xs.length ≤ 1048576) : Ev (fun k => laws_toByteS.f k xs) xs := by
 unfold laws_toByteS.f
 refine Ev.pos (by omega) (Ev.pos (by rw [Int.toNat_natCast]; omega) ?_)
 rw [Int.toNat_natCast]
 exact toByteS_l0 xs hl xs.length 0 _ (by omega) (by simp) (by simp)
theorem eqByteS_l0 (a b : List Int) (h : a.length = b.length) (hl : a.length ≤ 35184372088832) : ∀ (d i : Nat), i + d = a.length → Ev (fun k => laws_eqByteS.l0 k a b (i : Int)) (decide (a.drop i = b.drop i)) := by
 intro d
 induction d with
 | zero =>
  intro i hi
  refine Ev.round (f := fun _ => some true) (Ev.some_ ?_) (fun k => by simp only [laws_eqByteS.l0]; rw [if_neg (by omega)])
  rw [List.drop_of_length_le (by omega), List.drop_of_length_le (by omega)]; simp
 | succ d ih =>
  intro i hi
  by_cases he : rd a i = rd b i
  case neg =>
   refine (Ev.round (f := fun _ => some false) (Ev.some_ rfl) (fun k => ?_)).to ?_
   ·simp only [laws_eqByteS.l0]
    rw [if_pos (by omega), if_pos (by omega), if_pos (by omega), if_neg he]
   ·rw [drop_rd (xs := a) (i := i) (by omega), drop_rd (xs := b) (i := i) (by omega)]; simp [he]
  refine (Ev.round (ih (i + 1) (by omega)) (fun k => ?_)).to ?_
  ·simp only [laws_eqByteS.l0]
   rw [if_pos (by omega), if_pos (by omega), if_pos (by omega), if_pos he, w64_add (by omega) (by omega)]; simp
  ·rw [drop_rd (xs := a) (i := i) (by omega), drop_rd (xs := b) (i := i) (by omega), he]; simp
theorem eqByteS_ev (a b : List Int) (hl : a.length ≤ 35184372088832) : Ev (fun k => laws_eqByteS.f k a b) (decide (a = b)) := by
 unfold laws_eqByteS.f
 by_cases h : a.length = b.length
 case pos => exact Ev.pos (by omega) (eqByteS_l0 a b h hl a.length 0 (by omega))
 exact (Ev.neg (by omega) (Ev.some_ rfl)).to (by simp; intro e; exact h (by rw [e]))
def iota8 (a : Int) : Nat → List Int
 | 0 => []
 | n + 1 => a % 256 :: iota8 (a + 1) n
theorem iota8_length : ∀ (n : Nat) (a : Int), (iota8 a n).length = n
 | 0, _ => rfl
 | n + 1, a => by simp [iota8, iota8_length n]
theorem markByteS_l0 (m : Nat) (hm : m ≤ 1048576) : ∀ (d i : Nat) (l : List Int) (a : Int), i + d = l.length → l.length ≤ 1048576 → 0 ≤ a → a ≤ 1000000000 + i → Ev (fun k => laws_markByteS.l0 k l a (i : Int)) (a + d, l.take i ++ iota8 a d) := by
 intro d
 induction d with
 | zero =>
  intro i l a hi hl h0 h1
  refine Ev.succ ?_
  simp only [laws_markByteS.l0]
  refine Ev.neg (by omega) (Ev.some_ ?_)
  rw [List.take_of_length_le (by omega)]; simp [iota8]
 | succ d ih =>
  intro i l a hi hl h0 h1
  refine Ev.succ ?_
  simp only [laws_markByteS.l0]
  refine Ev.pos (by omega) (Ev.pos (by omega) ?_)
  rw [w64_add (by omega) (by omega), w64_add (by omega) (by omega)]
  refine (ih (i + 1) (l.set i (a % 256)) (a + 1) (by simp; omega) (by simpa using hl) (by omega) (by omega)).to ?_
  rw [take_set_end (by omega)]
  simp only [iota8, List.append_assoc, List.cons_append, List.nil_append, Prod.mk.injEq, and_true]
  omega
theorem markByteS_ev (l : List Int) (a : Int) (hl : l.length ≤ 1048576) (h0 : 0 ≤ a) (h1 : a ≤ 1000000000) : Ev (fun k => laws_markByteS.f k l a) (a + l.length, iota8 a l.length) := by
 unfold laws_markByteS.f
 exact (markByteS_l0 l.length hl l.length 0 l a (by omega) hl h0 (by omega)).to (by simp)
theorem wf8 {x : Int} (h : (Lit.int .u8 x).wf = true) : 0 ≤ x ∧ x < 256 := by
 have h2 := h
 simp [Lit.wf, IntKind.min, IntKind.max, IntKind.signed, IntKind.bits] at h2
 omega
theorem FnExactSend (a0_0 : Int) (a0_1 : Int) (a0_2 : Int) (a0_3 : Int) (a0_4 : Int) (a0_5 : Int) (l1 : List Int) (w0_0 : (Lit.int .i64 a0_0).wf = true) (w0_1 : (Lit.int .i64 a0_1).wf = true) (w0_2 : (Lit.int .i64 a0_2).wf = true) (w0_3 : (Lit.int .i64 a0_3).wf = true) (w0_4 : (Lit.int .i64 a0_4).wf = true) (w0_5 : (Lit.int .i64 a0_5).wf = true) (m1 : l1.length ≤ maxLen) (w1 : ∀ x ∈ l1, (Lit.int .u8 x).wf = true) : ∃ k, laws_FnExactSend.f k a0_0 a0_1 a0_2 a0_3 a0_4 a0_5 l1 = some true := by
 refine Ev.rounds ?_
 unfold laws_FnExactSend.f
 by_cases hl : (l1.length : Int) > 1048576
 ·exact Ev.pos hl (Ev.some_ rfl)
 have hb : isB l1 := fun x hx => wf8 (w1 x hx)
 have ti := toByteS_ev l1 (by omega)
 have si := sSend_ev a0_0 a0_1 a0_2 a0_3 a0_4 a0_5 l1 hb (by omega)
 have ii := iSend_ev a0_0 a0_1 a0_2 a0_3 a0_4 a0_5 l1 hb (by omega)
 have hg := sendOf_len a0_0 a0_1 a0_2 a0_3 a0_4 a0_5 l1
 generalize sendOf a0_0 a0_1 a0_2 a0_3 a0_4 a0_5 l1 = r at si ii hg
 have ee := eqPointS_ev r.1 (by omega)
 have tm : ∀ k : Nat, laws_toModem.f a0_0 a0_1 a0_2 a0_3 a0_4 a0_5 = some (a0_0, a0_1, a0_2, a0_3, a0_4, a0_5) := fun _ => rfl
 refine Ev.neg hl (Ev.next (Ev.here (tm 0)) (Ev.next ti (Ev.next si (Ev.next ti (Ev.next (Ev.here (tm 0)) (Ev.next ii (Ev.next ee (Ev.pos rfl ?_))))))))
 refine Ev.succ ?_
 simp only [laws_FnExactSend.j0]
 refine Ev.neg (by simp) (Ev.next ti (Ev.next (eqByteS_ev l1 l1 (by omega)) (Ev.pos (by simp) (Ev.next (markByteS_ev l1 1 (by omega) (by omega) (by omega)) (Ev.neg (by simp only; omega) (Ev.next ee (Ev.pos rfl ?_)))))))
 refine Ev.succ ?_
 simp only [laws_FnExactSend.j1]
 have hh := heldP_ev r.1.length 1 (by omega) (by omega) (by omega)
 refine Ev.neg (by simp) (Ev.next (markP_ev r.1 1 (by omega) (by omega) (by omega)) (Ev.next hh (Ev.neg (by omega) (Ev.pos rfl (Ev.next (Ev.here (tm 0)) (Ev.next ti (Ev.next ii (Ev.next ee (Ev.pos rfl ?_)))))))))
 refine Ev.succ ?_
 simp only [laws_FnExactSend.j2]
 exact Ev.neg (by simp) (Ev.next hh (Ev.neg (by omega) (Ev.pos rfl (Ev.some_ rfl))))
end Go.Proofs.Ytapobpkeefeajaa.Pure
