import Derived.Test.YtieadaglkibjbaaPFnFiledx12
import Derived.Test.YtieadaglkibjbaaAidV
set_option linter.unusedVariables false
set_option linter.unusedSimpArgs false
namespace Go.Proofs.Ytieadaglkibjbaa.Pure
open Go Go.RowKit Go.Proofs.Ytieadaglkibjbaa.PFnFiled Go.Proofs.YtieadaglkibjbaaW.PrintWords Go.Proofs.YtieadaglkibjbaaW.PrintLast Go.Proofs.YtieadaglkibjbaaW.PrintMore
theorem wf8 {x : Int} (h : (Lit.int .u8 x).wf = true) : 0 ≤ x ∧ x < 256 := by
  have h2 := h
  simp [Lit.wf, IntKind.min, IntKind.max, IntKind.signed, IntKind.bits] at h2
  omega
theorem wadd1 {e : Nat} (h : e ≤ 9000000000000000000) : wrap64 ((e : Int) + 1) = ((e + 1 : Nat) : Int) := by rw [w64 (by omega) (by omega)]; omega
theorem wadd2 {e : Nat} (h : e ≤ 9000000000000000000) : wrap64 ((e : Int) + 2) = ((e + 2 : Nat) : Int) := by rw [w64 (by omega) (by omega)]; omega
theorem wadd3 {e : Nat} (h : e ≤ 9000000000000000000) : wrap64 ((e : Int) + 3) = ((e + 3 : Nat) : Int) := by rw [w64 (by omega) (by omega)]; omega
theorem wround8 {e u : Nat} (h : e ≤ 1000000000000000000) (h2 : u ≤ 1000000000000000000) : wrap64 ((e : Int) + wrap64 (Int.tdiv (wrap64 ((u : Int) + 7)) 8)) = ((e + (u + 7) / 8 : Nat) : Int) := by
  rw [w64 (n := (u : Int) + 7) (by omega) (by omega), Int.tdiv_eq_ediv_of_nonneg (by omega), w64 (n := ((u : Int) + 7) / 8) (by omega) (by omega), w64 (by omega) (by omega)]; omega
theorem l1Size_ok (l : List Int) (m : Int) (hl : l.length ≤ 1048576) (hm : 2 ≤ m) : ∃ r, spec_l1Size.f l m = some r ∧ 2 ≤ r ∧ r ≤ m := by
  unfold spec_l1Size.f
  rw [w64 (n := (l.length : Int) / 20) (by omega) (by omega), w64 (n := 2 + _) (by omega) (by omega)]
  by_cases h : 2 + (l.length : Int) / 20 > m
  · rw [if_pos h]; exact ⟨_, rfl, hm, by omega⟩
  · rw [if_neg h]; exact ⟨_, rfl, by omega, by omega⟩
theorem l1New_l0 (l : List Int) : ∀ (d i : Nat) (h : Int), i + d = l.length → (i : Int) ≤ 4000 → EvP (fun k => spec_l1New.l0 k l h (i : Int)) (fun r => r.1 = l ∧ r.2.1 = 0) := by
  intro d
  induction d with
  | zero =>
    intro i h hi _
    refine EvP.succ ?_
    simp only [spec_l1New.l0]
    exact EvP.neg (by omega) (EvP.now ⟨rfl, rfl⟩)
  | succ d ih =>
    intro i h hi hi2
    refine EvP.succ ?_
    simp only [spec_l1New.l0]
    refine EvP.pos (by omega) ?_
    by_cases h4 : (i : Int) < 4000
    · rw [w64_add (by omega) (by omega)]
      exact EvP.pos h4 (EvP.pos (by omega) (ih (i + 1) _ (by omega) (by omega)))
    · exact EvP.neg h4 (EvP.now ⟨rfl, rfl⟩)
theorem l1New_ev (l : List Int) : EvP (fun k => spec_l1New.f k l) (fun r => r.1 = l ∧ r.2.1 = 0) := l1New_l0 l l.length 0 _ (by omega) (by omega)
theorem l1Byte_ok (l : List Int) (p h : Int) (h0 : 0 ≤ p) (h1 : p ≤ l.length) (hl : l.length ≤ 1048576) : ∃ r, spec_l1Byte.f l p h = some r ∧ (0 ≤ r.1 ∧ r.1 ≤ 255) ∧ 0 ≤ r.2.1 ∧ r.2.1 ≤ l.length := by
  unfold spec_l1Byte.f
  by_cases hp : p < (l.length : Int)
  · rw [if_pos hp, if_pos h0]
    refine ⟨_, rfl, bits_and_le _ 255 (by omega) (by omega), ?_⟩
    simp only
    rw [w64_add h0 (by omega)]
    omega
  · rw [if_neg hp]
    exact ⟨_, rfl, bits_and_le _ 255 (by omega) (by omega), h0, h1⟩
theorem l1Below_ok (l : List Int) (p h n : Int) (h0 : 0 ≤ p) (h1 : p ≤ l.length) (hl : l.length ≤ 1048576) : ∃ r, spec_l1Below.f l p h n = some r ∧ (0 ≤ r.1 ∧ (r.1 < n ∨ r.1 = 0)) ∧ 0 ≤ r.2.1 ∧ r.2.1 ≤ l.length := by
  unfold spec_l1Below.f
  by_cases hn : n ≤ 0
  · rw [if_pos hn]; exact ⟨_, rfl, ⟨by simp, .inr rfl⟩, h0, h1⟩
  rw [if_neg hn]
  have tm : ∀ x : Int, 0 ≤ x → 0 ≤ Int.tmod x n ∧ Int.tmod x n < n := fun x hx => by
    rw [Int.tmod_eq_emod_of_nonneg hx]
    exact ⟨Int.emod_nonneg _ (by omega), Int.emod_lt_of_pos _ (by omega)⟩
  by_cases h2 : n ≤ 256
  · rw [if_pos h2]
    obtain ⟨r, e, hb, hp⟩ := l1Byte_ok l p h h0 h1 hl
    rw [e]
    simp only [Option.bind_some]
    rw [if_neg (by omega)]
    exact ⟨_, rfl, ⟨(tm _ hb.1).1, .inl (tm _ hb.1).2⟩, hp⟩
  · rw [if_neg h2]
    obtain ⟨r, e, hb, hp⟩ := l1Byte_ok l p h h0 h1 hl
    obtain ⟨r2, e2, hb2, hp2⟩ := l1Byte_ok l r.2.1 r.2.2 hp.1 hp.2 hl
    obtain ⟨r3, e3, hb3, hp3⟩ := l1Byte_ok l r2.2.1 r2.2.2 hp2.1 hp2.2 hl
    obtain ⟨r4, e4, hb4, hp4⟩ := l1Byte_ok l r3.2.1 r3.2.2 hp3.1 hp3.2 hl
    rw [e]; simp only [Option.bind_some]
    rw [e2]; simp only [Option.bind_some]
    rw [e3]; simp only [Option.bind_some]
    rw [e4]; simp only [Option.bind_some]
    rw [if_neg (by omega), w64 (n := r.1 * 16777216) (by omega) (by omega), w64 (n := r2.1 * 65536) (by omega) (by omega), w64 (n := r3.1 * 256) (by omega) (by omega), w64 (n := r.1 * 16777216 + _) (by omega) (by omega), w64 (n := r.1 * 16777216 + _ + _) (by omega) (by omega), w64 (n := r.1 * 16777216 + _ + _ + _) (by omega) (by omega)]
    exact ⟨_, rfl, ⟨(tm _ (by omega)).1, .inl (tm _ (by omega)).2⟩, hp4⟩
theorem l1PickInt_ok (l : List Int) (p h : Int) (xs : List Int) (h0 : 0 ≤ p) (h1 : p ≤ l.length) (hl : l.length ≤ 1048576) (hx : 0 < xs.length) : ∃ r, spec_l1PickInt.f l p h xs = some r ∧ r.1 ∈ xs ∧ 0 ≤ r.2.1 ∧ r.2.1 ≤ l.length := by
  unfold spec_l1PickInt.f
  obtain ⟨r, e, hb, hp⟩ := l1Below_ok l p h xs.length h0 h1 hl
  rw [e]
  simp only [Option.bind_some]
  rw [if_pos hb.1, if_pos (by omega)]
  refine ⟨_, rfl, ?_, hp⟩
  have : r.1 = ((r.1.toNat : Nat) : Int) := by omega
  simp only
  rw [this]
  exact rd_mem (by omega)
theorem l1In_eq (a b c : Int) : spec_l1In.f a b c = some (decide (b ≤ a) && decide (a ≤ c)) := by
  unfold spec_l1In.f
  by_cases h : a ≥ b
  · rw [if_pos h]; simp [show b ≤ a from h]
  · rw [if_neg h]; simp [show ¬ b ≤ a from h]
theorem l5Sample_eq (a : Int) : spec_l5Sample.f a = some (decide (-1000000000 ≤ a ∧ a ≤ 1000000000)) := by unfold spec_l5Sample.f; rw [l1In_eq]; simp
theorem l17Draw_l0 (l : List Int) (hl : l.length ≤ 1048576) : ∀ (d : Nat) (xs : List Int) (x v p h : Int), xs.length + d ≤ 100000 → 0 ≤ p → p ≤ l.length → EvP (fun k => spec_l17Draw.l0 k xs x v (d : Int) l p h) (fun r => r.1.length ≤ xs.length + d ∧ 0 ≤ r.2.1 ∧ r.2.1 ≤ l.length) := by
  intro d
  induction d with
  | zero =>
    intro xs x v p h hx h0 h1
    refine EvP.succ ?_
    simp only [spec_l17Draw.l0]
    exact EvP.neg (by omega) (EvP.now ⟨by simp, h0, h1⟩)
  | succ d ih =>
    intro xs x v p h hx h0 h1
    have j1 : ∀ (x v p h : Int), 0 ≤ p → p ≤ l.length → EvP (fun k => spec_l17Draw.j1 k xs x v ((d + 1 : Nat) : Int) l p h) (fun r => r.1.length ≤ xs.length + (d + 1) ∧ 0 ≤ r.2.1 ∧ r.2.1 ≤ l.length) := by
      intro x v p h h0 h1
      obtain ⟨r, e, hb, hp⟩ := l1Below_ok l p h 7 h0 h1 hl
      refine EvP.succ ?_
      simp only [spec_l17Draw.j1]
      refine EvP.pos (by omega) (EvP.next (Ev.p (Ev.some_ rfl)) ?_)
      rintro _ rfl
      refine EvP.next (Ev.p (Ev.here e)) ?_
      rintro r rfl
      rw [show wrap64 (((d + 1 : Nat) : Int) - 1) = (d : Int) by rw [w64 (by omega) (by omega)]; omega]
      generalize wrap64 (wrap64 (v + r.1) - 3) = v2
      refine EvP.next (Ev.p (Ev.here (l5Sample_eq _))) ?_
      rintro _ rfl
      refine EvP.both (fun _ => ?_) (fun _ => ?_)
      · exact (ih _ _ _ _ _ (by simp; omega) hp.1 hp.2).mono (fun r h => by simp at h; omega)
      · exact (ih _ _ _ _ _ (by simp; omega) hp.1 hp.2).mono (fun r h => by simp at h; omega)
    obtain ⟨r, e, hb, hp⟩ := l1Below_ok l p h 30 h0 h1 hl
    obtain ⟨r2, e2, hb2, hp2⟩ := l1Below_ok l r.2.1 r.2.2 200001 hp.1 hp.2 hl
    obtain ⟨r3, e3, hb3, hp3⟩ := l1PickInt_ok l r.2.1 r.2.2 [1000000000, (-1000000000), 0, 0, 0, 0, 0, 0] hp.1 hp.2 hl (by decide)
    refine EvP.succ ?_
    simp only [spec_l17Draw.l0]
    refine EvP.pos (by omega) (EvP.next (Ev.p (Ev.here e)) ?_)
    rintro r rfl
    refine EvP.both (fun _ => ?_) (fun _ => EvP.both (fun _ => ?_) (fun _ => j1 _ _ _ _ hp.1 hp.2))
    · refine EvP.next (Ev.p (Ev.here e2)) ?_
      rintro r2 rfl
      exact j1 _ _ _ _ hp2.1 hp2.2
    · refine EvP.next (Ev.p (Ev.here e3)) ?_
      rintro r3 rfl
      exact j1 _ _ _ _ hp3.1 hp3.2
theorem l17Draw_ev (l : List Int) (hl : l.length ≤ 1048576) (p h n : Int) (h0 : 0 ≤ p) (h1 : p ≤ l.length) (hn : 0 ≤ n ∧ n ≤ 1000) : EvP (fun k => spec_l17Draw.f k l p h n) (fun r => (r.1.length : Int) ≤ n ∧ 0 ≤ r.2.1 ∧ r.2.1 ≤ l.length) := by
  obtain ⟨r, e, hb, hp⟩ := l1Below_ok l p h 2001 h0 h1 hl
  obtain ⟨r2, e2, hb2, hp2⟩ := l1Below_ok l r.2.1 r.2.2 (wrap64 (n + 1)) hp.1 hp.2 hl
  unfold spec_l17Draw.f
  refine EvP.next (Ev.p (Ev.here e)) ?_
  rintro r rfl
  refine EvP.next (Ev.p (Ev.here e2)) ?_
  rintro r2 rfl
  rw [w64 (n := n + 1) (by omega) (by omega)] at hb2
  have hr : r2.1 = ((r2.1.toNat : Nat) : Int) := by omega
  rw [hr]
  exact (l17Draw_l0 l hl _ _ _ _ _ _ (by simp; omega) hp2.1 hp2.2).mono (fun r h => by simp at h; omega)
theorem DrawPackAll_ev (l : List Int) (hl : l.length ≤ 1048576) : EvP (fun k => spec_DrawPackAll.f k l) (fun r => r.1.length ≤ 40) := by
  unfold spec_DrawPackAll.f
  refine EvP.next (l1New_ev l) ?_
  rintro ⟨l', p', h'⟩ ⟨rfl, hp⟩
  simp only at hp
  subst hp
  obtain ⟨m, em, hm⟩ := l1Size_ok l' 40 hl (by omega)
  refine EvP.next (Ev.p (Ev.here em)) ?_
  rintro m rfl
  refine EvP.next (l17Draw_ev l' hl 0 h' m (by omega) (by omega) (by omega)) ?_
  rintro r ⟨hr, hp⟩
  obtain ⟨r2, e2, hb2, hp2⟩ := l1PickInt_ok l' r.2.1 r.2.2 [1, 2, 5, 16, 128, 129, 0, 7] hp.1 hp.2 hl (by decide)
  refine EvP.next (Ev.p (Ev.here e2)) ?_
  rintro r2 rfl
  exact EvP.now (by show r.1.length ≤ 40; omega)
/-- The bits, eight to a byte, the first in the highest place. -/
def packVal (bs acc : List Int) (i : Nat) : Int := bits .or .u8 (rd acc ((i / 8 : Nat) : Int)) (rd bs (i : Int) * 2 ^ (7 - i % 8))
def packGo (bs : List Int) : Nat → Nat → List Int → List Int
  | 0, _, acc => acc
  | d + 1, i, acc => packGo bs d (i + 1) (acc.set (i / 8) (packVal bs acc i))
def packOf (bs : List Int) : List Int := packGo bs bs.length 0 (List.replicate ((bs.length + 7) / 8) 0)
theorem shl_bit64 (s : Nat) (hs : s ≤ 7) (b : Int) (hb : b = 0 ∨ b = 1) : shl .i64 b (s : Int) % 256 = b * 2 ^ s := by
  have h : ∀ s : Fin 8, shl .i64 0 (s.val : Int) % 256 = 0 * 2 ^ s.val ∧ shl .i64 1 (s.val : Int) % 256 = 1 * 2 ^ s.val := by decide
  rcases hb with rfl | rfl
  · exact (h ⟨s, by omega⟩).1
  · exact (h ⟨s, by omega⟩).2
theorem shl_bit8 (s : Nat) (hs : s ≤ 7) (b : Int) (hb : b = 0 ∨ b = 1) : shl .u8 (b % 256) (s : Int) = b * 2 ^ s := by
  have h : ∀ s : Fin 8, shl .u8 (0 % 256) (s.val : Int) = 0 * 2 ^ s.val ∧ shl .u8 (1 % 256) (s.val : Int) = 1 * 2 ^ s.val := by decide
  rcases hb with rfl | rfl
  · exact (h ⟨s, by omega⟩).1
  · exact (h ⟨s, by omega⟩).2
theorem packVal_bd (bs acc : List Int) (i : Nat) : 0 ≤ packVal bs acc i ∧ packVal bs acc i < 256 := by
  unfold packVal bits
  simp only [IntKind.wrap_u8]
  omega
theorem packGo_len (bs : List Int) : ∀ (d i : Nat) (acc : List Int), (packGo bs d i acc).length = acc.length
  | 0, _, _ => rfl
  | d + 1, i, acc => by simp only [packGo]; rw [packGo_len bs d]; simp
theorem packGo_bd (bs : List Int) : ∀ (d i : Nat) (acc : List Int), (∀ x ∈ acc, 0 ≤ x ∧ x < 256) → ∀ x ∈ packGo bs d i acc, 0 ≤ x ∧ x < 256
  | 0, _, _, h => h
  | d + 1, i, acc, h => packGo_bd bs d (i + 1) _ (fun x hx => by
      rcases List.mem_or_eq_of_mem_set hx with hx | rfl
      · exact h x hx
      · exact packVal_bd bs acc i)
theorem packOf_bd (bs : List Int) : ∀ x ∈ packOf bs, 0 ≤ x ∧ x < 256 := packGo_bd bs _ _ _ (fun x hx => by rw [List.eq_of_mem_replicate hx]; omega)
theorem packOf_len (bs : List Int) : (packOf bs).length = (bs.length + 7) / 8 := by unfold packOf; rw [packGo_len]; simp
def xorI (a b : Int) : Int := ((a.toNat ^^^ b.toNat : Nat) : Int)
theorem bits_xor {a b : Int} (ha : 0 ≤ a ∧ a < 9223372036854775808) (hb : 0 ≤ b ∧ b < 9223372036854775808) : bits .xor .i64 a b = xorI a b := by
  obtain ⟨x, rfl⟩ := Int.eq_ofNat_of_zero_le ha.1
  obtain ⟨y, rfl⟩ := Int.eq_ofNat_of_zero_le hb.1
  have hx : x % 2 ^ IntKind.i64.bits = x := Nat.mod_eq_of_lt (by show x < 2 ^ 64; omega)
  have hy : y % 2 ^ IntKind.i64.bits = y := Nat.mod_eq_of_lt (by show y < 2 ^ 64; omega)
  have hl : x ^^^ y < 2 ^ 63 := Nat.xor_lt_two_pow (by omega) (by omega)
  unfold xorI
  simp only [bits, BitVec.toNat_xor, BitVec.ofInt_natCast, BitVec.toNat_ofNat, hx, hy, Int.toNat_natCast]
  rw [IntKind.wrap_i64]
  omega
theorem xorI_bd {a b : Int} {n : Nat} (ha : a < 2 ^ n) (hb : b < 2 ^ n) : 0 ≤ xorI a b ∧ xorI a b < 2 ^ n := by
  have e : ((2 ^ n : Nat) : Int) = (2 : Int) ^ n := by norm_cast
  have p : (0 : Nat) < 2 ^ n := Nat.two_pow_pos n
  have h : a.toNat ^^^ b.toNat < 2 ^ n := Nat.xor_lt_two_pow (by omega) (by omega)
  unfold xorI
  omega
/-- One round of the check: the top bit out, the rest up by one. -/
def crcStep (x : Int) : Int := if x ≥ 32768 then xorI (2 * x) 4129 % 65536 else 2 * x % 65536
def crcTurns : Nat → Int → Int
  | 0, x => x
  | d + 1, x => crcTurns d (crcStep x)
def crcGo : List Int → Int → Int
  | [], x => x
  | b :: l, x => crcGo l (crcTurns 8 (xorI x (256 * b)))
def crcOf (l : List Int) : Int := if l.length > 65536 then 0 else crcGo l 65535
theorem crcStep_bd (x : Int) : 0 ≤ crcStep x ∧ crcStep x < 65536 := by unfold crcStep; split <;> omega
theorem crcTurns_bd : ∀ (d : Nat) (x : Int), 0 ≤ x ∧ x < 65536 → 0 ≤ crcTurns d x ∧ crcTurns d x < 65536
  | 0, _, h => h
  | d + 1, x, _ => crcTurns_bd d _ (crcStep_bd x)
theorem crcGo_bd : ∀ (l : List Int) (x : Int), 0 ≤ x ∧ x < 65536 → (∀ b ∈ l, 0 ≤ b ∧ b < 256) → 0 ≤ crcGo l x ∧ crcGo l x < 65536
  | [], _, h, _ => h
  | b :: l, x, h, hb => by
    have := hb b (by simp)
    exact crcGo_bd l _ (crcTurns_bd 8 _ (xorI_bd (n := 16) (by omega) (by omega))) (fun y hy => hb y (by simp [hy]))
theorem crcOf_bd {l : List Int} (hb : ∀ b ∈ l, 0 ≤ b ∧ b < 256) : 0 ≤ crcOf l ∧ crcOf l < 65536 := by
  unfold crcOf
  split
  · omega
  · exact crcGo_bd l _ (by omega) hb
/-- The word with its seventeenth bit, turned over with the seventeen bits of the maker, is the low sixteen turned over. -/
theorem xor17 {x : Int} (h0 : 65536 ≤ x) (h1 : x < 131072) : xorI x 69665 = xorI x 4129 % 65536 := by
  obtain ⟨n, rfl⟩ := Int.eq_ofNat_of_zero_le (show 0 ≤ x by omega)
  have e1 : (n ^^^ 69665) / 2 ^ 16 = 0 := by
    rw [Nat.xor_div_two_pow, show n / 2 ^ 16 = 1 by omega]; rfl
  have e2 : (n ^^^ 69665) % 2 ^ 16 = (n ^^^ 4129) % 2 ^ 16 := by
    rw [Nat.xor_mod_two_pow, Nat.xor_mod_two_pow]
  unfold xorI
  simp only [Int.toNat_natCast]
  rw [show (69665 : Int).toNat = 69665 by rfl, show (4129 : Int).toNat = 4129 by rfl]
  omega
def allIn (a : Int) (l : List Int) : Bool := l.all fun x => decide (-a ≤ x) && decide (x ≤ a)
theorem allIn_iff {a : Int} {l : List Int} : allIn a l = true ↔ ∀ x ∈ l, -a ≤ x ∧ x ≤ a := by
  unfold allIn; simp [List.all_eq_true]
/-- What sample i is foretold by, by those ahead of it. -/
def foreN (o : Int) (l : List Int) (i : Nat) : Int :=
  if mn o i = 1 then rd l ((i : Int) - 1)
  else if mn o i = 2 then 2 * rd l ((i : Int) - 1) - rd l ((i : Int) - 2)
  else if mn o i = 3 then 3 * (rd l ((i : Int) - 1) - rd l ((i : Int) - 2)) + rd l ((i : Int) - 3)
  else 0
theorem rd_bd {l : List Int} {i : Int} (h : ∀ x ∈ l, -1000000000 ≤ x ∧ x ≤ 1000000000) : -1000000000 ≤ rd l i ∧ rd l i ≤ 1000000000 := by
  unfold rd
  rw [List.getD_eq_getElem?_getD]
  cases hg : l[i.toNat]? with
  | none => simp
  | some x => exact h x (List.mem_of_getElem? hg)
theorem foreN_bd {o : Int} {l : List Int} {i : Nat} (h : ∀ x ∈ l, -1000000000 ≤ x ∧ x ≤ 1000000000) : -7000000000 ≤ foreN o l i ∧ foreN o l i ≤ 7000000000 := by
  have h1 := rd_bd (l := l) (i := (i : Int) - 1) h
  have h2 := rd_bd (l := l) (i := (i : Int) - 2) h
  have h3 := rd_bd (l := l) (i := (i : Int) - 3) h
  unfold foreN
  split
  · omega
  · split
    · omega
    · split <;> omega
theorem rd_take {l : List Int} {i : Nat} {j : Int} (h0 : 0 ≤ j) (h1 : j < i) : rd (l.take i) j = rd l j := by
  unfold rd
  rw [List.getD_eq_getElem?_getD, List.getD_eq_getElem?_getD, List.getElem?_take_of_lt (by omega)]
def guessGo (o : Int) (l : List Int) : Nat → Nat → List Int
  | 0, _ => []
  | d + 1, i => (rd l i - foreN o l i) :: guessGo o l d (i + 1)
theorem guessGo_len (o : Int) (l : List Int) : ∀ d i, (guessGo o l d i).length = d
  | 0, _ => rfl
  | d + 1, i => by simp [guessGo, guessGo_len o l d (i + 1)]
def sigB (l : List Int) : Bool := decide (l.length ≤ 512) && allIn 1000000000 l
theorem sigB_iff {l : List Int} : sigB l = true ↔ l.length ≤ 512 ∧ ∀ x ∈ l, -1000000000 ≤ x ∧ x ≤ 1000000000 := by
  unfold sigB; rw [Bool.and_eq_true, allIn_iff]; simp
def guessOf (o : Int) (l : List Int) : List Int × Bool := if (0 ≤ o ∧ o ≤ 3) ∧ sigB l = true then (guessGo o l l.length 0, true) else ([], false)
def unGo (o : Int) (left : List Int) : Nat → Nat → List Int → List Int × Bool
  | 0, _, out => (out, true)
  | d + 1, i, out => if -1000000000 ≤ rd left i + foreN o out out.length ∧ rd left i + foreN o out out.length ≤ 1000000000 then unGo o left d (i + 1) (out ++ [rd left i + foreN o out out.length]) else ([], false)
theorem unGo_len (o : Int) (left : List Int) : ∀ (d i : Nat) (out : List Int), (unGo o left d i out).1.length ≤ out.length + d
  | 0, _, out => by simp [unGo]
  | d + 1, i, out => by
    simp only [unGo]
    split
    · have := unGo_len o left d (i + 1) (out ++ [rd left i + foreN o out out.length])
      simp only [List.length_append, List.length_cons, List.length_nil] at this
      omega
    · simp
def unGuessOf (o : Int) (left : List Int) : List Int × Bool := if (0 ≤ o ∧ o ≤ 3) ∧ left.length ≤ 512 ∧ allIn 10000000000 left = true then unGo o left left.length 0 [] else ([], false)
def zig (x : Int) : Int := if x < 0 then -2 * x - 1 else 2 * x
theorem zig_bd {x : Int} (h0 : -1000000000 ≤ x) (h1 : x ≤ 1000000000) : 0 ≤ zig x ∧ zig x ≤ 2000000000 := by unfold zig; split <;> omega
def riceSz (k : Nat) : List Int → Int
  | [] => 0
  | x :: l => riceSz k l + (zig x / 2 ^ k + 1 + k)
theorem riceSz_bd (k : Nat) (hk : k ≤ 30) : ∀ (l : List Int), (∀ x ∈ l, -1000000000 ≤ x ∧ x ≤ 1000000000) → 0 ≤ riceSz k l ∧ riceSz k l ≤ l.length * 2000000031
  | [], _ => by simp [riceSz]
  | x :: l, h => by
    have ih := riceSz_bd k hk l (fun y hy => h y (by simp [hy]))
    have hx := h x (by simp)
    have hz := zig_bd hx.1 hx.2
    have hp : (0 : Int) < 2 ^ k := Int.pow_pos (by omega)
    have h1 : 0 ≤ zig x / 2 ^ k := Int.ediv_nonneg hz.1 (by omega)
    have h2 : zig x / 2 ^ k ≤ zig x := Int.ediv_le_self _ hz.1
    simp only [riceSz, List.length_cons]
    omega
theorem shr_small {x : Int} {k : Nat} (hk : k ≤ 62) : shr .i64 x (k : Int) = x / 2 ^ k := by
  unfold shr
  rw [show min ((k : Int).toNat) IntKind.i64.bits = k by simp [IntKind.bits]; omega]
def bestGo (f : Nat → Int) : Nat → Nat → Int → Int → Int × Int
  | 0, _, b, m => (b, m)
  | d + 1, i, b, m => if f i ≤ 100000 ∧ (b < 0 ∨ f i < m) then bestGo f d (i + 1) i (f i) else bestGo f d (i + 1) b m
def bestOf (l : List Int) : Int × Int := if l.length ≤ 128 ∧ allIn 1000000000 l = true then bestGo (fun k => riceSz k l) 31 0 (-1) 0 else (-1, 0)
/-- The k lowest bits of u, the highest first. -/
def lowBits (u : Int) : Nat → List Int
  | 0 => []
  | k + 1 => (u / 2 ^ k % 2) :: lowBits u k
theorem lowBits_length (u : Int) : ∀ k, (lowBits u k).length = k
  | 0 => rfl
  | k + 1 => by simp [lowBits, lowBits_length u k]
def riceOne (k : Nat) (x : Int) : List Int := List.replicate (zig x / 2 ^ k).toNat 1 ++ 0 :: lowBits (zig x) k
def riceAll (k : Nat) : List Int → List Int
  | [] => []
  | x :: l => riceOne k x ++ riceAll k l
theorem riceOne_length (k : Nat) (x : Int) (hx : -1000000000 ≤ x ∧ x ≤ 1000000000) : ((riceOne k x).length : Int) = zig x / 2 ^ k + 1 + k := by
  have hz := zig_bd hx.1 hx.2
  have hp : (0 : Int) < 2 ^ k := Int.pow_pos (by omega)
  have h1 : 0 ≤ zig x / 2 ^ k := Int.ediv_nonneg hz.1 (by omega)
  simp only [riceOne, List.length_append, List.length_replicate, List.length_cons, lowBits_length]
  omega
theorem riceAll_length (k : Nat) : ∀ (l : List Int), (∀ x ∈ l, -1000000000 ≤ x ∧ x ≤ 1000000000) → ((riceAll k l).length : Int) = riceSz k l
  | [], _ => by simp [riceAll, riceSz]
  | x :: l, h => by
    have ih := riceAll_length k l (fun y hy => h y (by simp [hy]))
    have hx := riceOne_length k x (h x (by simp))
    simp only [riceAll, riceSz, List.length_append]
    omega
def riceOf (k : Int) (l : List Int) : List Int × Bool :=
  if (0 ≤ k ∧ k ≤ 30) ∧ (l.length ≤ 128 ∧ allIn 1000000000 l = true) ∧ riceSz k.toNat l ≤ 100000 then (riceAll k.toNat l, true) else ([], false)
theorem snoc_ones (acc : List Int) (n : Nat) : (acc ++ [1]) ++ List.replicate n 1 = acc ++ List.replicate (n + 1) 1 := by
  rw [List.append_assoc]; rfl
theorem lowBits_bit (u : Int) : ∀ k, ∀ x ∈ lowBits u k, x = 0 ∨ x = 1
  | 0, x, h => by cases h
  | k + 1, x, h => by
    simp only [lowBits, List.mem_cons] at h
    rcases h with rfl | h
    · omega
    · exact lowBits_bit u k x h
theorem riceAll_bit (kk : Nat) : ∀ l, ∀ x ∈ riceAll kk l, x = 0 ∨ x = 1
  | [], x, h => by cases h
  | y :: l, x, h => by
    simp only [riceAll, riceOne, List.mem_append, List.mem_cons, List.mem_replicate] at h
    rcases h with (⟨_, rfl⟩ | rfl | h) | h
    · exact .inr rfl
    · exact .inl rfl
    · exact lowBits_bit _ _ _ h
    · exact riceAll_bit kk l x h
def orderGo (l : List Int) : Nat → Nat → Int → Int → Int → Int × Int × Int
  | 0, _, o, q, m => (o, q, m)
  | d + 1, i, o, q, m => if (bestOf (guessGo i l l.length 0)).1 ≥ 0 ∧ (o < 0 ∨ (bestOf (guessGo i l l.length 0)).2 < m) then orderGo l d (i + 1) i (bestOf (guessGo i l l.length 0)).1 (bestOf (guessGo i l l.length 0)).2 else orderGo l d (i + 1) o q m
def orderOf (l : List Int) : Int × Int × Int := orderGo l (min 4 l.length) 0 (-1) 0 0
theorem orderGo_bd (l : List Int) : ∀ (d i : Nat) (o q m : Int), i + d ≤ 4 → -1 ≤ o ∧ o ≤ 3 → -1 ≤ (orderGo l d i o q m).1 ∧ (orderGo l d i o q m).1 ≤ 3
  | 0, _, _, _, _, _, h => h
  | d + 1, i, o, q, m, hi, h => by
    simp only [orderGo]
    split
    · exact orderGo_bd l d (i + 1) _ _ _ (by omega) (by omega)
    · exact orderGo_bd l d (i + 1) _ _ _ (by omega) h
def frameBody (l : List Int) (o q : Int) (bs : List Int) : List Int := [70, wrap64 ((l.length : Int) - 1) % 256, wrap64 (wrap64 (32 * o) + q) % 256] ++ packOf bs
def frameOf (l : List Int) : List Int × Bool :=
  if (1 ≤ l.length ∧ l.length ≤ 128) ∧ sigB l = true then
    (if (orderOf l).1 < 0 then ([], false)
     else (frameBody l (orderOf l).1 (orderOf l).2.1 (riceOf (orderOf l).2.1 (guessGo (orderOf l).1 l l.length 0)).1 ++ [crcOf (frameBody l (orderOf l).1 (orderOf l).2.1 (riceOf (orderOf l).2.1 (guessGo (orderOf l).1 l l.length 0)).1) / 256 % 256, crcOf (frameBody l (orderOf l).1 (orderOf l).2.1 (riceOf (orderOf l).2.1 (guessGo (orderOf l).1 l l.length 0)).1) % 256], true))
  else ([], false)
theorem frameBody_bd (l : List Int) (o q : Int) (bs : List Int) : ∀ x ∈ frameBody l o q bs, 0 ≤ x ∧ x < 256 := by
  intro x hx
  unfold frameBody at hx
  rcases List.mem_append.1 hx with h | h
  · simp only [List.mem_cons, List.not_mem_nil, or_false] at h
    rcases h with h | h | h <;> omega
  · exact packOf_bd bs x h
theorem frameBody_len (l : List Int) (o q : Int) (bs : List Int) : (frameBody l o q bs).length = 3 + (bs.length + 7) / 8 := by
  unfold frameBody; rw [List.length_append, packOf_len]; rfl
theorem riceOf_bit (q : Int) (l : List Int) : ∀ x ∈ (riceOf q l).1, x = 0 ∨ x = 1 := by
  unfold riceOf
  split
  · exact riceAll_bit _ l
  · intro x hx; cases hx
theorem riceOf_len (q : Int) (l : List Int) : (riceOf q l).1.length ≤ 100000 := by
  unfold riceOf
  split
  · rename_i h
    have := riceAll_length q.toNat l (allIn_iff.1 h.2.1.2)
    have := h.2.2
    show (riceAll q.toNat l).length ≤ 100000
    omega
  · exact Nat.zero_le _
theorem frameOf_len (l : List Int) : (frameOf l).1.length ≤ 20000 := by
  have h := riceOf_len (orderOf l).2.1 (guessGo (orderOf l).1 l l.length 0)
  have b := frameBody_len l (orderOf l).1 (orderOf l).2.1 (riceOf (orderOf l).2.1 (guessGo (orderOf l).1 l l.length 0)).1
  unfold frameOf
  split
  · split
    · exact Nat.zero_le _
    · simp only [List.length_append, List.length_cons, List.length_nil]; omega
  · exact Nat.zero_le _
theorem frameOf_no {l : List Int} (h : (frameOf l).2 = false) : (frameOf l).1 = [] := by
  unfold frameOf at h ⊢
  split
  · rename_i h1
    rw [if_pos h1] at h
    split
    · rfl
    · rename_i h2
      rw [if_neg h2] at h
      cases h
  · rfl
theorem frameOf_bd (l : List Int) : ∀ x ∈ (frameOf l).1, 0 ≤ x ∧ x < 256 := by
  have hb := frameBody_bd l (orderOf l).1 (orderOf l).2.1 (riceOf (orderOf l).2.1 (guessGo (orderOf l).1 l l.length 0)).1
  unfold frameOf
  split
  · split
    · intro x hx; cases hx
    · intro x hx
      rcases List.mem_append.1 hx with h | h
      · exact hb x h
      · simp only [List.mem_cons, List.not_mem_nil, or_false] at h
        rcases h with h | h <;> omega
  · intro x hx; cases hx
def packEnd (out : List Int) : List Int × Bool := if (out.length : Int) > 20000 then ([], false) else (out, true)
def packAllGo (s : Nat) : Nat → List Int → List Int → List Int × Bool
  | 0, _, out => packEnd out
  | d + 1, l, out => if l.length = 0 then packEnd out else if (frameOf (l.take s)).2 = true then packAllGo s d (l.drop s) (out ++ (frameOf (l.take s)).1) else ([], false)
def packAllOf (l : List Int) (a : Int) : List Int × Bool := if sigB l = true ∧ 1 ≤ a ∧ a ≤ 128 then packAllGo a.toNat l.length l [] else ([], false)
theorem packAllGo_len (s : Nat) : ∀ (d : Nat) (l out : List Int), (packAllGo s d l out).1.length ≤ 20000
  | 0, l, out => by
    simp only [packAllGo, packEnd]
    split
    · exact Nat.zero_le _
    · simp only; omega
  | d + 1, l, out => by
    simp only [packAllGo]
    split
    · simp only [packEnd]
      split
      · exact Nat.zero_le _
      · simp only; omega
    · split
      · exact packAllGo_len s d _ _
      · exact Nat.zero_le _
theorem packAllOf_len (l : List Int) (a : Int) : (packAllOf l a).1.length ≤ 20000 := by
  unfold packAllOf
  split
  · exact packAllGo_len _ _ _ _
  · exact Nat.zero_le _
theorem packAllGo_nil (s d : Nat) (out : List Int) : packAllGo s d [] out = packEnd out := by
  cases d with
  | zero => rfl
  | succ d => exact if_pos rfl
def bitOk (x : Int) : Bool := decide (x = 0 ∨ x = 1)
/-- How many 1 stand at the begin. -/
def onesRun : List Int → Nat
  | [] => 0
  | x :: l => if x = 1 then onesRun l + 1 else 0
theorem onesRun_le : ∀ l, onesRun l ≤ l.length
  | [] => by simp [onesRun]
  | x :: l => by have := onesRun_le l; simp only [onesRun, List.length_cons]; split <;> omega
def lowVal (u : Int) : Nat → List Int → Int
  | 0, _ => u
  | _ + 1, [] => u
  | b + 1, x :: l => lowVal (2 * u + x) b l
theorem lowVal_bd : ∀ (b : Nat) (u : Int) (l : List Int), (∀ x ∈ l, x = 0 ∨ x = 1) → 0 ≤ u → b ≤ l.length → u * 2 ^ b ≤ lowVal u b l ∧ lowVal u b l < (u + 1) * 2 ^ b
  | 0, u, l, _, _, _ => by simp [lowVal]; omega
  | b + 1, u, [], _, _, hl => by simp at hl
  | b + 1, u, x :: l, hb, hu, hl => by
    have hx := hb x (by simp)
    have ih := lowVal_bd b (2 * u + x) l (fun y hy => hb y (by simp [hy])) (by omega) (by simpa using hl)
    have e : (2 : Int) ^ (b + 1) = 2 * 2 ^ b := by rw [Int.pow_succ]; omega
    have hp : (0 : Int) < 2 ^ b := Int.pow_pos (by omega)
    simp only [lowVal]
    rw [e]
    have e1 : u * (2 * 2 ^ b) = 2 * u * 2 ^ b := by rw [← Int.mul_assoc, Int.mul_comm u 2]
    have e2 : (u + 1) * (2 * 2 ^ b) = (2 * u + 2) * 2 ^ b := by rw [← Int.mul_assoc, Int.mul_comm (u + 1) 2]; congr 1; omega
    rw [e1, e2]
    have h1 : 2 * u * 2 ^ b ≤ (2 * u + x) * 2 ^ b := Int.mul_le_mul_of_nonneg_right (by omega) (by omega)
    have h2 : (2 * u + x + 1) * 2 ^ b ≤ (2 * u + 2) * 2 ^ b := Int.mul_le_mul_of_nonneg_right (by omega) (by omega)
    omega
def unzig (u : Int) : Int := if u % 2 = 1 then -(u / 2) - 1 else u / 2
/-- What stands in the bits from a place on: so many numbers. -/
def unR (kk : Nat) (l : List Int) : Nat → Nat → List Int → List Int × Int × Bool
  | 0, at_, out => (out, (at_ : Int), true)
  | n + 1, at_, out =>
    if l.length < at_ + onesRun (l.drop at_) + 1 + kk then ([], 0, false)
    else if lowVal (onesRun (l.drop at_)) kk (l.drop (at_ + onesRun (l.drop at_) + 1)) ≤ 2000000000 then
      unR kk l n (at_ + onesRun (l.drop at_) + 1 + kk) (out ++ [unzig (lowVal (onesRun (l.drop at_)) kk (l.drop (at_ + onesRun (l.drop at_) + 1)))])
    else ([], 0, false)
def unRiceOf (kk : Int) (l : List Int) (n : Int) : List Int × Int × Bool :=
  if (0 ≤ kk ∧ kk ≤ 30) ∧ (0 ≤ n ∧ n ≤ 128) ∧ l.all bitOk = true then unR kk.toNat l n.toNat 0 [] else ([], 0, false)
theorem onesRun_drop {l : List Int} {i : Nat} (h : i < l.length) (h1 : rd l i = 1) : onesRun (l.drop i) = onesRun (l.drop (i + 1)) + 1 := by
  rw [drop_rd h]; simp [onesRun, h1]
theorem onesRun_stop {l : List Int} {i : Nat} (h : i < l.length → rd l i ≠ 1) : onesRun (l.drop i) = 0 := by
  by_cases hi : i < l.length
  · rw [drop_rd hi]; simp [onesRun, h hi]
  · rw [List.drop_of_length_le (by omega)]; rfl
theorem allBits_iff {l : List Int} : l.all bitOk = true ↔ ∀ x ∈ l, x = 0 ∨ x = 1 := by simp [List.all_eq_true, bitOk]
theorem unR_len (kk : Nat) (l : List Int) : ∀ (n at_ : Nat) (out : List Int), (unR kk l n at_ out).1.length ≤ out.length + n
  | 0, at_, out => by simp [unR]
  | n + 1, at_, out => by
    simp only [unR]
    split
    · simp
    · split
      · have := unR_len kk l n (at_ + onesRun (l.drop at_) + 1 + kk) (out ++ [unzig (lowVal (onesRun (l.drop at_)) kk (l.drop (at_ + onesRun (l.drop at_) + 1)))])
        simp only [List.length_append, List.length_cons, List.length_nil] at this
        omega
      · simp
theorem unRiceOf_len (kk : Int) (l : List Int) (n : Int) : (unRiceOf kk l n).1.length ≤ 128 := by
  unfold unRiceOf
  split
  · rename_i h
    have := unR_len kk.toNat l n.toNat 0 []
    simp only [List.length_nil] at this
    omega
  · simp
/-- The bits of bytes from bit i on, the highest of each byte first. -/
def unpackGo (b : List Int) : Nat → Nat → List Int
  | 0, _ => []
  | d + 1, i => rd b ((i / 8 : Nat) : Int) / 2 ^ (7 - i % 8) % 2 :: unpackGo b d (i + 1)
def unpackOf (b : List Int) : List Int := unpackGo b (8 * b.length) 0
theorem unpackGo_len (b : List Int) : ∀ d i, (unpackGo b d i).length = d
  | 0, _ => rfl
  | d + 1, i => by simp [unpackGo, unpackGo_len b d]
theorem unpackOf_len (b : List Int) : (unpackOf b).length = 8 * b.length := unpackGo_len b _ _
theorem unpackGo_bit (b : List Int) : ∀ d i, ∀ x ∈ unpackGo b d i, x = 0 ∨ x = 1
  | 0, _, x, h => by cases h
  | d + 1, i, x, h => by
    simp only [unpackGo, List.mem_cons] at h
    rcases h with rfl | h
    · generalize rd b ((i / 8 : Nat) : Int) / 2 ^ (7 - i % 8) = y
      omega
    · exact unpackGo_bit b d (i + 1) x h
theorem unpackOf_bit (b : List Int) : ∀ x ∈ unpackOf b, x = 0 ∨ x = 1 := unpackGo_bit b _ _
theorem rd_drop (b : List Int) (a j : Nat) : rd (b.drop a) (j : Int) = rd b ((a + j : Nat) : Int) := by
  rw [rd_nat, rd_nat, List.getD_eq_getElem?_getD, List.getD_eq_getElem?_getD, List.getElem?_drop]
theorem unpackGo_shift (b : List Int) (a : Nat) : ∀ d i, unpackGo b d (8 * a + i) = unpackGo (b.drop a) d i
  | 0, _ => rfl
  | d + 1, i => by
    simp only [unpackGo]
    rw [rd_drop, show (8 * a + i) / 8 = a + i / 8 by omega, show (8 * a + i) % 8 = i % 8 by omega, show 8 * a + i + 1 = 8 * a + (i + 1) by omega, unpackGo_shift b a d (i + 1)]
theorem unpackOf_drop (b : List Int) (a : Nat) : unpackOf (b.drop a) = unpackGo b (8 * (b.length - a)) (8 * a) := by
  unfold unpackOf
  rw [List.length_drop, show 8 * a = 8 * a + 0 from rfl, unpackGo_shift]
theorem shr_u8 (x : Int) (s : Nat) (hs : s ≤ 7) : shr .u8 x (s : Int) = x / 2 ^ s := by
  unfold shr
  rw [show min ((s : Int).toNat) IntKind.u8.bits = s by simp [IntKind.bits]; omega]
theorem div_u8 {x : Int} (h0 : 0 ≤ x) (h1 : x < 256) (s : Nat) : 0 ≤ x / 2 ^ s ∧ x / 2 ^ s < 256 := by
  have hp : (0 : Int) < 2 ^ s := Int.pow_pos (by omega)
  have a := Int.ediv_nonneg h0 (Int.le_of_lt hp)
  have b := Int.ediv_le_self (2 ^ s) h0
  omega
theorem bits_and1 {v : Int} (h0 : 0 ≤ v) (h1 : v < 256) : bits .and .u8 v 1 = v % 2 := by
  have h : ∀ n : Fin 256, bits .and .u8 ((n.val : Nat) : Int) 1 = ((n.val : Nat) : Int) % 2 := by decide +kernel
  obtain ⟨n, rfl⟩ := Int.eq_ofNat_of_zero_le h0
  exact h ⟨n, by omega⟩
/-- A high byte over a low one. -/
theorem bits_or256 {a b : Int} (ha : 0 ≤ a ∧ a < 256) (hb : 0 ≤ b ∧ b < 256) : bits .or .i64 (a * 256) b = 256 * a + b := by
  obtain ⟨x, rfl⟩ := Int.eq_ofNat_of_zero_le ha.1
  obtain ⟨y, rfl⟩ := Int.eq_ofNat_of_zero_le hb.1
  have e : (x : Int) * 256 = ((x * 256 : Nat) : Int) := by omega
  have hx : (x * 256) % 2 ^ IntKind.i64.bits = x * 256 := Nat.mod_eq_of_lt (by show x * 256 < 2 ^ 64; omega)
  have hy : y % 2 ^ IntKind.i64.bits = y := Nat.mod_eq_of_lt (by show y < 2 ^ 64; omega)
  rw [e]
  simp only [bits, BitVec.toNat_or, BitVec.ofInt_natCast, BitVec.toNat_ofNat, hx, hy]
  have h : x * 256 ||| y = 2 ^ 8 * x + y := by rw [Nat.two_pow_add_eq_or_of_lt (show y < 2 ^ 8 by omega), Nat.mul_comm]
  rw [h, IntKind.wrap_i64]
  omega
theorem strOfNums_inj : ∀ {xs ys : List Int}, (∀ x ∈ xs, 0 ≤ x ∧ x < 256) → (∀ x ∈ ys, 0 ≤ x ∧ x < 256) → (strOfNums xs).toList = (strOfNums ys).toList → xs = ys := by
  intro xs ys hx hy h
  rw [ByteArray.toList_eq, ByteArray.toList_eq, strOfNums_data, strOfNums_data] at h
  induction xs generalizing ys with
  | nil => cases ys with
    | nil => rfl
    | cons y ys => cases h
  | cons x xs ih => cases ys with
    | nil => cases h
    | cons y ys =>
      simp only [List.map_cons, List.cons.injEq] at h
      have h1 := congrArg UInt8.toNat h.1
      have bx := hx x (by simp)
      have by_ := hy y (by simp)
      rw [UInt8.toNat_ofNat', UInt8.toNat_ofNat'] at h1
      rw [show x = y by omega, ih (fun z hz => hx z (by simp [hz])) (fun z hz => hy z (by simp [hz])) h.2]
/-- The frame that stands at a place, once its numbers are told: it must be just what packing them tells. -/
def openForm (b : List Int) (a e : Nat) (r : List Int × Bool) : List Int × Int × Int :=
  if r.2 = true ∧ (frameOf r.1).2 = true ∧ (frameOf r.1).1 = (b.take (e + 2)).drop a then (r.1, ((e + 2 : Nat) : Int), 0) else ([], (a : Int), 5)
def openBits (b : List Int) (a : Nat) (o : Int) (r : List Int × Int × Bool) : List Int × Int × Int :=
  if r.2.2 = true then
    if b.length < a + 3 + (r.2.1.toNat + 7) / 8 + 2 then ([], (a : Int), 1)
    else if crcOf ((b.take (a + 3 + (r.2.1.toNat + 7) / 8)).drop a) = 256 * rd b ((a + 3 + (r.2.1.toNat + 7) / 8 : Nat) : Int) + rd b ((a + 3 + (r.2.1.toNat + 7) / 8 + 1 : Nat) : Int) then openForm b a (a + 3 + (r.2.1.toNat + 7) / 8) (unGuessOf o r.1)
    else ([], (a : Int), 4)
  else ([], (a : Int), 3)
def openAt (b : List Int) (a : Nat) : List Int × Int × Int :=
  if rd b (a : Int) = 70 ∧ rd b ((a + 1 : Nat) : Int) + 1 ≤ 128 ∧ rd b ((a + 2 : Nat) : Int) / 32 ≤ 3 ∧ rd b ((a + 2 : Nat) : Int) % 32 ≤ 30 then
    openBits b a (rd b ((a + 2 : Nat) : Int) / 32) (unR (rd b ((a + 2 : Nat) : Int) % 32).toNat (unpackOf (b.drop (a + 3))) (rd b ((a + 1 : Nat) : Int) + 1).toNat 0 [])
  else ([], (a : Int), 2)
def openOf (b : List Int) (x : Int) : List Int × Int × Int := if 0 ≤ x ∧ x + 3 ≤ (b.length : Int) then openAt b x.toNat else ([], x, 1)
theorem unR_used (kk : Nat) (l : List Int) : ∀ (n p : Nat) (out : List Int), p ≤ l.length → (unR kk l n p out).2.2 = true → ∃ u : Nat, (unR kk l n p out).2.1 = (u : Int) ∧ u ≤ l.length
  | 0, p, out, hp, _ => ⟨p, rfl, hp⟩
  | n + 1, p, out, hp, h => by
    simp only [unR] at h ⊢
    split at h
    · cases h
    · rename_i h1
      rw [if_neg h1]
      split at h
      · rename_i h2
        rw [if_pos h2]
        exact unR_used kk l n _ _ (by omega) h
      · cases h
theorem unGuessOf_len (o : Int) (left : List Int) : (unGuessOf o left).1.length ≤ 512 := by
  unfold unGuessOf
  split
  · have := unGo_len o left left.length 0 []
    simp only [List.length_nil] at this
    omega
  · simp
theorem openForm_len (b : List Int) (a e : Nat) (r : List Int × Bool) (h : r.1.length ≤ 512) : (openForm b a e r).1.length ≤ 512 := by
  unfold openForm
  split
  · exact h
  · simp
theorem openOf_len (b : List Int) (x : Int) : (openOf b x).1.length ≤ 512 := by
  unfold openOf openAt openBits
  split
  · split
    · split
      · split
        · simp
        · split
          · exact openForm_len _ _ _ _ (unGuessOf_len _ _)
          · simp
      · simp
    · simp
  · simp
theorem bits_or_nat {a b : Int} (ha : 0 ≤ a ∧ a < 256) (hb : 0 ≤ b ∧ b < 256) : bits .or .u8 a b = ((a.toNat ||| b.toNat : Nat) : Int) := by
  obtain ⟨x, rfl⟩ := Int.eq_ofNat_of_zero_le ha.1
  obtain ⟨y, rfl⟩ := Int.eq_ofNat_of_zero_le hb.1
  have hx : x % 2 ^ IntKind.u8.bits = x := Nat.mod_eq_of_lt (by show x < 2 ^ 8; omega)
  have hy : y % 2 ^ IntKind.u8.bits = y := Nat.mod_eq_of_lt (by show y < 2 ^ 8; omega)
  have hl : x ||| y < 2 ^ 8 := Nat.or_lt_two_pow (by omega) (by omega)
  simp only [bits, BitVec.toNat_or, BitVec.ofInt_natCast, BitVec.toNat_ofNat, hx, hy, Int.toNat_natCast]
  rw [IntKind.wrap_u8]
  omega
/-- The bit at place t of a number. -/
def bitAt (x : Int) (t : Nat) : Int := x / 2 ^ t % 2
theorem bitAt_nat (x t : Nat) : bitAt (x : Int) t = if x.testBit t then 1 else 0 := by
  unfold bitAt
  have e : (x : Int) / 2 ^ t % 2 = ((x / 2 ^ t % 2 : Nat) : Int) := by norm_cast
  rw [e, Nat.testBit_eq_decide_div_mod_eq]
  by_cases h : x / 2 ^ t % 2 = 1
  · rw [h]; simp
  · simp [h]; omega
theorem bitAt_or {a : Int} (ha : 0 ≤ a ∧ a < 256) (c : Int) (hc : c = 0 ∨ c = 1) (s t : Nat) (hs : s ≤ 7) : bitAt (bits .or .u8 a (c * 2 ^ s)) t = if t = s ∧ c = 1 then 1 else bitAt a t := by
  have hp : (2 : Int) ^ s ≤ 128 := by
    have : (2 : Nat) ^ s ≤ 2 ^ 7 := Nat.pow_le_pow_right (by omega) (by omega)
    exact_mod_cast this
  have hp0 : (0 : Int) < 2 ^ s := Int.pow_pos (by omega)
  obtain ⟨x, rfl⟩ := Int.eq_ofNat_of_zero_le ha.1
  rcases hc with rfl | rfl
  · rw [bits_or_nat ha (by omega)]
    simp
  · rw [bits_or_nat ha (by omega)]
    have e : ((1 : Int) * 2 ^ s).toNat = 2 ^ s := by
      rw [Int.one_mul]
      have : ((2 ^ s : Nat) : Int) = (2 : Int) ^ s := by norm_cast
      omega
    rw [e, bitAt_nat, bitAt_nat, Int.toNat_natCast, Nat.testBit_or, Nat.testBit_two_pow]
    by_cases h : t = s
    · subst h; simp
    · have h2 : ¬ s = t := fun h3 => h h3.symm
      simp [h, h2]
theorem rd_set (l : List Int) (j i : Nat) (v : Int) (h : j < l.length) : rd (l.set j v) (i : Int) = if i = j then v else rd l (i : Int) := by
  rw [rd_nat, rd_nat, List.getD_eq_getElem?_getD, List.getD_eq_getElem?_getD, List.getElem?_set]
  by_cases hij : i = j
  · subst hij; simp [h]
  · rw [if_neg (fun h => hij h.symm), if_neg hij]
/-- Bit j of packed bits. -/
theorem packGo_bit (bs : List Int) (hb : ∀ x ∈ bs, x = 0 ∨ x = 1) : ∀ (d i : Nat) (acc : List Int), i + d = bs.length → acc.length = (bs.length + 7) / 8 → (∀ x ∈ acc, 0 ≤ x ∧ x < 256) → (∀ j, j < i → bitAt (rd acc ((j / 8 : Nat) : Int)) (7 - j % 8) = rd bs (j : Int)) → (∀ j, i ≤ j → j < bs.length → bitAt (rd acc ((j / 8 : Nat) : Int)) (7 - j % 8) = 0) → ∀ j, j < bs.length → bitAt (rd (packGo bs d i acc) ((j / 8 : Nat) : Int)) (7 - j % 8) = rd bs (j : Int) := by
  intro d
  induction d with
  | zero =>
    intro i acc hi ha hx h1 h2 j hj
    exact h1 j (by omega)
  | succ d ih =>
    intro i acc hi ha hx h1 h2
    simp only [packGo]
    have hm := hx _ (rd_mem (xs := acc) (i := i / 8) (by omega))
    have hbi := hb _ (rd_mem (xs := bs) (i := i) (by omega))
    have key : ∀ j, bitAt (rd (acc.set (i / 8) (packVal bs acc i)) ((j / 8 : Nat) : Int)) (7 - j % 8) = if j = i ∧ rd bs (i : Int) = 1 then 1 else bitAt (rd acc ((j / 8 : Nat) : Int)) (7 - j % 8) := by
      intro j
      rw [rd_set _ _ _ _ (by omega)]
      by_cases h : j / 8 = i / 8
      · rw [if_pos h]
        unfold packVal
        rw [bitAt_or hm _ hbi _ _ (by omega), h]
        by_cases h3 : j = i
        · subst h3; simp
        · rw [if_neg (fun h4 => by omega), if_neg (fun h4 => h3 h4.1)]
      · rw [if_neg h, if_neg (fun h4 => h (by rw [h4.1]))]
    refine ih (i + 1) _ (by omega) (by simpa using ha) (fun x h => ?_) (fun j hj => ?_) (fun j hj hj2 => ?_)
    · rcases List.mem_or_eq_of_mem_set h with h | rfl
      · exact hx x h
      · exact packVal_bd bs acc i
    · rw [key j]
      by_cases h : j = i
      · subst h
        rcases hbi with h0 | h0
        · rw [if_neg (fun h4 => by omega), h2 j (by omega) (by omega), h0]
        · rw [if_pos ⟨rfl, h0⟩, h0]
      · rw [if_neg (fun h4 => h h4.1)]; exact h1 j (by omega)
    · rw [key j, if_neg (fun h4 => by omega)]; exact h2 j (by omega) hj2
theorem rd_rep (n j : Nat) : rd (List.replicate n 0) (j : Int) = 0 := by
  rw [rd_nat, List.getD_eq_getElem?_getD, List.getElem?_replicate]
  split <;> rfl
theorem packOf_bit (bs : List Int) (hb : ∀ x ∈ bs, x = 0 ∨ x = 1) : ∀ j, j < bs.length → bitAt (rd (packOf bs) ((j / 8 : Nat) : Int)) (7 - j % 8) = rd bs (j : Int) := by
  unfold packOf
  exact packGo_bit bs hb bs.length 0 _ (by omega) (by simp) (fun x hx => by rw [List.eq_of_mem_replicate hx]; omega) (fun j hj => by omega) (fun j _ _ => by rw [rd_rep]; simp [bitAt])
theorem rd_append {a b : List Int} {j : Nat} (h : j < a.length) : rd (a ++ b) (j : Int) = rd a (j : Int) := by
  rw [rd_nat, rd_nat, List.getD_eq_getElem?_getD, List.getD_eq_getElem?_getD, List.getElem?_append_left h]
theorem unpackGo_add (b : List Int) : ∀ (d e i : Nat), unpackGo b (d + e) i = unpackGo b d i ++ unpackGo b e (i + d)
  | 0, e, i => by simp [unpackGo]
  | d + 1, e, i => by
    rw [show d + 1 + e = (d + e) + 1 by omega]
    simp only [unpackGo, List.cons_append]
    rw [unpackGo_add b d e (i + 1), show i + 1 + d = i + (d + 1) by omega]
theorem unpackGo_back (b bs : List Int) (h : ∀ j, j < bs.length → bitAt (rd b ((j / 8 : Nat) : Int)) (7 - j % 8) = rd bs (j : Int)) : ∀ d i, i + d = bs.length → unpackGo b d i = bs.drop i
  | 0, i, hi => by rw [List.drop_of_length_le (by omega)]; rfl
  | d + 1, i, hi => by
    simp only [unpackGo]
    rw [drop_rd (xs := bs) (i := i) (by omega), unpackGo_back b bs h d (i + 1) (by omega)]
    congr 1
    exact h i (by omega)
/-- The bits that were packed stand ahead of what is unpacked. -/
theorem unpack_back (bs rest : List Int) (hb : ∀ x ∈ bs, x = 0 ∨ x = 1) : ∃ t, unpackOf (packOf bs ++ rest) = bs ++ t := by
  have hl := packOf_len bs
  refine ⟨unpackGo (packOf bs ++ rest) (8 * (packOf bs ++ rest).length - bs.length) bs.length, ?_⟩
  unfold unpackOf
  have e : 8 * (packOf bs ++ rest).length = bs.length + (8 * (packOf bs ++ rest).length - bs.length) := by rw [List.length_append]; omega
  rw [e, unpackGo_add, unpackGo_back (packOf bs ++ rest) bs (fun j hj => ?_) bs.length 0 (by omega)]
  · rw [List.drop_zero, Nat.zero_add, ← e]
  · rw [rd_append (by omega)]; exact packOf_bit bs hb j hj
theorem guessGo_get (o : Int) (l : List Int) : ∀ (d i j : Nat), j < d → rd (guessGo o l d i) (j : Int) = rd l ((i + j : Nat) : Int) - foreN o l (i + j)
  | 0, _, _, h => by omega
  | d + 1, i, 0, _ => rfl
  | d + 1, i, j + 1, h => by
    have := guessGo_get o l d (i + 1) j (by omega)
    rw [show i + (j + 1) = i + 1 + j by omega, ← this]
    rfl
theorem foreN_take (o : Int) (l : List Int) (i : Nat) : foreN o (l.take i) i = foreN o l i := by
  have hm : mn o i ≤ i := by unfold mn; split <;> omega
  unfold foreN
  by_cases c1 : mn o i = 1
  · rw [if_pos c1, if_pos c1, rd_take (by omega) (by omega)]
  rw [if_neg c1, if_neg c1]
  by_cases c2 : mn o i = 2
  · rw [if_pos c2, if_pos c2, rd_take (by omega) (by omega), rd_take (by omega) (by omega)]
  rw [if_neg c2, if_neg c2]
  by_cases c3 : mn o i = 3
  · rw [if_pos c3, if_pos c3, rd_take (by omega) (by omega), rd_take (by omega) (by omega), rd_take (by omega) (by omega)]
  rw [if_neg c3, if_neg c3]
theorem unGo_back (o : Int) (l : List Int) (h : ∀ x ∈ l, -1000000000 ≤ x ∧ x ≤ 1000000000) : ∀ (d i : Nat), i + d = l.length → unGo o (guessGo o l l.length 0) d i (l.take i) = (l, true) := by
  intro d
  induction d with
  | zero =>
    intro i hi
    simp only [unGo]
    rw [List.take_of_length_le (by omega)]
  | succ d ih =>
    intro i hi
    have hg := guessGo_get o l l.length 0 i (by omega)
    rw [Nat.zero_add] at hg
    have hl : (l.take i).length = i := by rw [List.length_take]; omega
    have hr := rd_bd (l := l) (i := (i : Int)) h
    have e : rd (guessGo o l l.length 0) (i : Int) + foreN o (l.take i) (l.take i).length = rd l i := by rw [hl, foreN_take, hg]; omega
    simp only [unGo]
    rw [e, if_pos hr, ← take_rd (by omega)]
    exact ih (i + 1) (by omega)
theorem unGuess_back (o : Int) (l : List Int) (h : (guessOf o l).2 = true) : (unGuessOf o (guessOf o l).1).2 = true → (unGuessOf o (guessOf o l).1).1 = l := by
  unfold guessOf at h ⊢
  by_cases hc : (0 ≤ o ∧ o ≤ 3) ∧ sigB l = true
  · rw [if_pos hc]
    have hb := unGo_back o l (sigB_iff.1 hc.2).2 l.length 0 (by omega)
    simp only [List.take_zero] at hb
    unfold unGuessOf
    simp only [guessGo_len]
    split
    · rw [hb]; intro _; rfl
    · intro hh; cases hh
  · rw [if_neg hc] at h; cases h
theorem lowVal_back (u : Int) : ∀ (b : Nat) (t : List Int), lowVal (u / 2 ^ b) b (lowBits u b ++ t) = u
  | 0, t => by simp [lowVal]
  | b + 1, t => by
    have ih := lowVal_back u b t
    simp only [lowBits, List.cons_append, lowVal]
    have e : u / 2 ^ (b + 1) = u / 2 ^ b / 2 := by
      rw [Int.pow_succ, Int.ediv_ediv_of_nonneg (Int.le_of_lt (Int.pow_pos (by omega)))]
    rw [e, show 2 * (u / 2 ^ b / 2) + u / 2 ^ b % 2 = u / 2 ^ b by omega]
    exact ih
theorem onesRun_rep (q : Nat) (t : List Int) : onesRun (List.replicate q 1 ++ 0 :: t) = q := by
  induction q with
  | zero => simp [onesRun]
  | succ q ih => rw [List.replicate_succ, List.cons_append]; simp only [onesRun, if_true]; rw [ih]
theorem unzig_zig (x : Int) : unzig (zig x) = x := by unfold unzig zig; split <;> split <;> omega
theorem unR_back (kk : Nat) (rest : List Int) : ∀ (l p out : List Int), (∀ x ∈ l, -1000000000 ≤ x ∧ x ≤ 1000000000) → unR kk (p ++ (riceAll kk l ++ rest)) l.length p.length out = (out ++ l, ((p.length + (riceAll kk l).length : Nat) : Int), true)
  | [], p, out, _ => by simp [unR, riceAll]
  | x :: l, p, out, h => by
    have hx := h x (by simp)
    have hz := zig_bd hx.1 hx.2
    have hp : (0 : Int) < 2 ^ kk := Int.pow_pos (by omega)
    have h1 : 0 ≤ zig x / 2 ^ kk := Int.ediv_nonneg hz.1 (by omega)
    have e0 : (p ++ (riceAll kk (x :: l) ++ rest)).drop p.length = List.replicate (zig x / 2 ^ kk).toNat 1 ++ 0 :: (lowBits (zig x) kk ++ (riceAll kk l ++ rest)) := by
      rw [List.drop_left]; simp [riceAll, riceOne]
    have eq_ : onesRun ((p ++ (riceAll kk (x :: l) ++ rest)).drop p.length) = (zig x / 2 ^ kk).toNat := by rw [e0, onesRun_rep]
    have e1 : (p ++ (riceAll kk (x :: l) ++ rest)).drop (p.length + (zig x / 2 ^ kk).toNat + 1) = lowBits (zig x) kk ++ (riceAll kk l ++ rest) := by
      rw [show p.length + (zig x / 2 ^ kk).toNat + 1 = p.length + ((zig x / 2 ^ kk).toNat + 1) by omega, ← List.drop_drop, e0, ← List.drop_drop]
      rw [List.drop_left' (by simp)]; rfl
    have el := riceOne_length kk x hx
    rw [show (x :: l).length = l.length + 1 from rfl]
    simp only [unR]
    rw [eq_, e1, Int.toNat_of_nonneg h1, lowVal_back, unzig_zig]
    rw [if_neg (by
      simp only [List.length_append, riceAll] at *
      omega), if_pos (by omega)]
    have ih := unR_back kk rest l (p ++ riceOne kk x) (out ++ [x]) (fun y hy => h y (by simp [hy]))
    have e2 : (p ++ riceOne kk x).length = p.length + (zig x / 2 ^ kk).toNat + 1 + kk := by rw [List.length_append]; omega
    rw [e2] at ih
    have e3 : p ++ riceOne kk x ++ (riceAll kk l ++ rest) = p ++ (riceAll kk (x :: l) ++ rest) := by simp [riceAll]
    rw [e3] at ih
    rw [ih]
    simp only [riceAll, List.length_append, List.append_assoc, List.cons_append, List.nil_append, Prod.mk.injEq, true_and, and_true]
    omega
theorem bestGo_ok (f : Nat → Int) : ∀ (d i : Nat) (b m : Int), (0 ≤ b → b < (i : Int) ∧ f b.toNat ≤ 100000) → 0 ≤ (bestGo f d i b m).1 → (bestGo f d i b m).1 < ((i + d : Nat) : Int) ∧ f (bestGo f d i b m).1.toNat ≤ 100000
  | 0, i, b, m, h, h0 => h h0
  | d + 1, i, b, m, h, h0 => by
    simp only [bestGo] at h0 ⊢
    split at h0
    · rename_i hc
      rw [if_pos hc]
      have := bestGo_ok f d (i + 1) (i : Int) (f i) (fun _ => ⟨by omega, by rw [Int.toNat_natCast]; exact hc.1⟩) h0
      exact ⟨by omega, this.2⟩
    · rename_i hc
      rw [if_neg hc]
      have := bestGo_ok f d (i + 1) b m (fun hb => ⟨by have := (h hb).1; omega, (h hb).2⟩) h0
      exact ⟨by omega, this.2⟩
theorem bestOf_ok {l : List Int} (h : 0 ≤ (bestOf l).1) : (bestOf l).1 ≤ 30 ∧ (l.length ≤ 128 ∧ allIn 1000000000 l = true) ∧ riceSz (bestOf l).1.toNat l ≤ 100000 := by
  unfold bestOf at h ⊢
  split at h
  · rename_i hc
    rw [if_pos hc]
    have := bestGo_ok (fun k => riceSz k l) 31 0 (-1) 0 (fun h => by omega) h
    exact ⟨by omega, hc, this.2⟩
  · simp only at h; omega
theorem orderGo_ok (l : List Int) : ∀ (d i : Nat) (o q m : Int), (0 ≤ o → (bestOf (guessGo o l l.length 0)).1 = q ∧ 0 ≤ q) → 0 ≤ (orderGo l d i o q m).1 → (bestOf (guessGo (orderGo l d i o q m).1 l l.length 0)).1 = (orderGo l d i o q m).2.1 ∧ 0 ≤ (orderGo l d i o q m).2.1
  | 0, i, o, q, m, h, h0 => h h0
  | d + 1, i, o, q, m, h, h0 => by
    simp only [orderGo] at h0 ⊢
    split at h0
    · rename_i hc
      rw [if_pos hc]
      exact orderGo_ok l d (i + 1) _ _ _ (fun _ => ⟨rfl, hc.1⟩) h0
    · rename_i hc
      rw [if_neg hc]
      exact orderGo_ok l d (i + 1) _ _ _ h h0
/-- What a frame is made of, where there is one. -/
theorem frameOf_yes {l : List Int} (h : (frameOf l).2 = true) : ∃ (o : Int) (q : Nat), (0 ≤ o ∧ o ≤ 3) ∧ q ≤ 30 ∧ (1 ≤ l.length ∧ l.length ≤ 128) ∧ (∀ x ∈ l, -1000000000 ≤ x ∧ x ≤ 1000000000) ∧ (∀ x ∈ guessGo o l l.length 0, -1000000000 ≤ x ∧ x ≤ 1000000000) ∧ (frameOf l).1 = frameBody l o (q : Int) (riceAll q (guessGo o l l.length 0)) ++ [crcOf (frameBody l o (q : Int) (riceAll q (guessGo o l l.length 0))) / 256 % 256, crcOf (frameBody l o (q : Int) (riceAll q (guessGo o l l.length 0))) % 256] := by
  unfold frameOf at h ⊢
  split at h
  · rename_i h1
    rw [if_pos h1]
    split at h
    · cases h
    · rename_i h2
      rw [if_neg h2]
      have ob := orderGo_bd l (min 4 l.length) 0 (-1) 0 0 (by omega) (by omega)
      have ok := orderGo_ok l (min 4 l.length) 0 (-1) 0 0 (fun h => by omega) (by unfold orderOf at h2; omega)
      rw [show orderGo l (min 4 l.length) 0 (-1) 0 0 = orderOf l from rfl] at ob ok
      obtain ⟨q, hq⟩ := Int.eq_ofNat_of_zero_le ok.2
      have bk := bestOf_ok (l := guessGo (orderOf l).1 l l.length 0) (by rw [ok.1]; exact ok.2)
      rw [ok.1, hq, Int.toNat_natCast] at bk
      refine ⟨(orderOf l).1, q, by omega, by omega, h1.1, (sigB_iff.1 h1.2).2, allIn_iff.1 bk.2.1.2, ?_⟩
      rw [hq, show riceOf (q : Int) (guessGo (orderOf l).1 l l.length 0) = (riceAll q (guessGo (orderOf l).1 l l.length 0), true) from if_pos ⟨by omega, bk.2.1, by rw [Int.toNat_natCast]; exact bk.2.2⟩]
  · cases h
theorem rd_drop0 {b F : List Int} {a : Nat} (hd : b.drop a = F) (j : Nat) : rd b ((a + j : Nat) : Int) = rd F (j : Int) := by rw [← hd, rd_drop]
theorem unGuess_frame (o : Int) (ho : 0 ≤ o ∧ o ≤ 3) (l : List Int) (hl : l.length ≤ 512) (hw : ∀ x ∈ l, -1000000000 ≤ x ∧ x ≤ 1000000000) (hg : ∀ x ∈ guessGo o l l.length 0, -1000000000 ≤ x ∧ x ≤ 1000000000) : unGuessOf o (guessGo o l l.length 0) = (l, true) := by
  have hb := unGo_back o l hw l.length 0 (by omega)
  rw [List.take_zero] at hb
  unfold unGuessOf
  rw [guessGo_len, if_pos ⟨ho, hl, allIn_iff.2 (fun x hx => by have := hg x hx; omega)⟩]
  exact hb
/-- A frame opened is what was packed, whatever stands ahead of it and behind it. -/
theorem open_back {l : List Int} (h : (frameOf l).2 = true) {b rest : List Int} {a : Nat} (hd : b.drop a = (frameOf l).1 ++ rest) : openOf b (a : Int) = (l, ((a + (frameOf l).1.length : Nat) : Int), 0) := by
  obtain ⟨o, q, ho, hq, hn, hw, hg, hf⟩ := frameOf_yes h
  generalize hbs : riceAll q (guessGo o l l.length 0) = bs at hf
  have hbit : ∀ x ∈ bs, x = 0 ∨ x = 1 := by rw [← hbs]; exact riceAll_bit q _
  have hbl := frameBody_len l o (q : Int) bs
  have hbd := frameBody_bd l o (q : Int) bs
  have hbody : frameBody l o (q : Int) bs = 70 :: (((l.length : Int) - 1)) :: (32 * o + (q : Int)) :: packOf bs := by
    unfold frameBody
    rw [w64 (n := (l.length : Int) - 1) (by omega) (by omega), w64 (n := 32 * o) (by omega) (by omega), w64 (n := 32 * o + (q : Int)) (by omega) (by omega), show ((l.length : Int) - 1) % 256 = (l.length : Int) - 1 by omega, show (32 * o + (q : Int)) % 256 = 32 * o + (q : Int) by omega]
    rfl
  have hc := crcOf_bd hbd
  generalize hcd : crcOf (frameBody l o (q : Int) bs) = c at hc hf
  have hfl : (frameOf l).1.length = (frameBody l o (q : Int) bs).length + 2 := by rw [hf, List.length_append]; rfl
  have hlen : b.length = a + (frameOf l).1.length + rest.length := by
    have h1 := congrArg List.length hd
    rw [List.length_drop, List.length_append] at h1
    omega
  have hd2 : b.drop a = 70 :: ((l.length : Int) - 1) :: (32 * o + (q : Int)) :: (packOf bs ++ ([c / 256 % 256, c % 256] ++ rest)) := by
    rw [hd, hf, List.append_assoc]
    conv => lhs; rw [hbody]
    rfl
  have hd3 : b.drop (a + 3) = packOf bs ++ ([c / 256 % 256, c % 256] ++ rest) := by
    rw [← List.drop_drop, hd2]; rfl
  have r0 : rd b (a : Int) = 70 := by have := rd_drop0 hd2 0; exact this
  have r1 : rd b ((a + 1 : Nat) : Int) = (l.length : Int) - 1 := by have := rd_drop0 hd2 1; exact this
  have r2 : rd b ((a + 2 : Nat) : Int) = 32 * o + (q : Int) := by have := rd_drop0 hd2 2; exact this
  obtain ⟨t, ht⟩ := unpack_back bs ([c / 256 % 256, c % 256] ++ rest) hbit
  have hu := unR_back q t (guessGo o l l.length 0) [] [] hg
  rw [hbs, guessGo_len] at hu
  have hu2 : unR q (bs ++ t) l.length 0 [] = (guessGo o l l.length 0, ((bs.length : Nat) : Int), true) := by
    have := hu
    simp only [List.nil_append, List.length_nil, Nat.zero_add] at this
    exact this
  have hbody2 : (b.take (a + (frameBody l o (q : Int) bs).length)).drop a = frameBody l o (q : Int) bs := by
    rw [List.drop_take, hd, hf, Nat.add_sub_cancel_left, List.append_assoc, List.take_left]
  have hF2 : (b.take (a + (frameBody l o (q : Int) bs).length + 2)).drop a = (frameOf l).1 := by
    rw [List.drop_take, hd, show a + (frameBody l o (q : Int) bs).length + 2 - a = (frameOf l).1.length by omega, List.take_left]
  have hrd : ∀ j, rd b ((a + j : Nat) : Int) = rd ((frameOf l).1 ++ rest) (j : Int) := fun j => rd_drop0 hd j
  have c1 : rd b ((a + (frameBody l o (q : Int) bs).length : Nat) : Int) = c / 256 % 256 := by
    rw [hrd, hf, List.append_assoc, rd_nat, List.getD_eq_getElem?_getD, List.getElem?_append_right (Nat.le_refl _), Nat.sub_self]; rfl
  have c2 : rd b ((a + (frameBody l o (q : Int) bs).length + 1 : Nat) : Int) = c % 256 := by
    rw [show a + (frameBody l o (q : Int) bs).length + 1 = a + ((frameBody l o (q : Int) bs).length + 1) by omega, hrd, hf, List.append_assoc, rd_nat, List.getD_eq_getElem?_getD, List.getElem?_append_right (Nat.le_add_right _ 1), Nat.add_sub_cancel_left]; rfl
  unfold openOf
  rw [if_pos (by omega), Int.toNat_natCast]
  unfold openAt
  rw [if_pos (by rw [r0, r1, r2]; omega), r1, r2, show (32 * o + (q : Int)) / 32 = o by omega, show (32 * o + (q : Int)) % 32 = (q : Int) by omega, Int.toNat_natCast, show ((l.length : Int) - 1 + 1).toNat = l.length by omega, hd3, ht, hu2]
  unfold openBits
  have he : a + 3 + (bs.length + 7) / 8 = a + (frameBody l o (q : Int) bs).length := by omega
  simp only [Int.toNat_natCast]
  rw [if_pos trivial, if_neg (by omega), he, hbody2, hcd, c1, c2, if_pos (by omega), unGuess_frame o ho l (by omega) hw hg]
  unfold openForm
  rw [if_pos ⟨rfl, h, by rw [hF2]⟩]
  simp only [Prod.mk.injEq, true_and, and_true]
  omega
theorem nxor_right {u v w : Nat} (h : u ^^^ w = v ^^^ w) : u = v := by
  have e : (u ^^^ w) ^^^ w = (v ^^^ w) ^^^ w := by rw [h]
  rwa [Nat.xor_assoc, Nat.xor_self, Nat.xor_zero, Nat.xor_assoc, Nat.xor_self, Nat.xor_zero] at e
theorem xorI_right {x y a : Int} (hx : 0 ≤ x) (hy : 0 ≤ y) (h : xorI x a = xorI y a) : x = y := by
  unfold xorI at h
  have := nxor_right (u := x.toNat) (v := y.toNat) (w := a.toNat) (by omega)
  omega
theorem xorI_left {x a b : Int} (ha : 0 ≤ a) (hb : 0 ≤ b) (h : xorI x a = xorI x b) : a = b := by
  unfold xorI at h
  rw [Nat.xor_comm, Nat.xor_comm x.toNat b.toNat] at h
  have := nxor_right (u := a.toNat) (v := b.toNat) (w := x.toNat) (by omega)
  omega
theorem crcStep_inj {x y : Int} (hx : 0 ≤ x ∧ x < 65536) (hy : 0 ≤ y ∧ y < 65536) (h : crcStep x = crcStep y) : x = y := by
  obtain ⟨m, rfl⟩ := Int.eq_ofNat_of_zero_le hx.1
  obtain ⟨n, rfl⟩ := Int.eq_ofNat_of_zero_le hy.1
  have e : ∀ k : Nat, xorI (2 * (k : Int)) 4129 = (((2 * k) ^^^ 4129 : Nat) : Int) := fun k => by
    unfold xorI
    rw [show (2 * (k : Int)).toNat = 2 * k by omega, show (4129 : Int).toNat = 4129 by rfl]
  have odd : ∀ k : Nat, ((2 * k) ^^^ 4129) % 2 = 1 := fun k => by
    have := Nat.xor_mod_two_pow (a := 2 * k) (b := 4129) (n := 1)
    rw [show (2 ^ 1 : Nat) = 2 by rfl] at this
    rw [this, show 2 * k % 2 = 0 by omega]
    rfl
  have low : ∀ k : Nat, ((2 * k) ^^^ 4129) % 65536 = (2 * k % 65536) ^^^ 4129 := fun k => by
    have := Nat.xor_mod_two_pow (a := 2 * k) (b := 4129) (n := 16)
    rw [show (2 ^ 16 : Nat) = 65536 by rfl] at this
    exact this
  unfold crcStep at h
  rw [e, e] at h
  have om := odd m
  have on_ := odd n
  split at h
  · split at h
    · have h2 : ((2 * m) ^^^ 4129) % 65536 = ((2 * n) ^^^ 4129) % 65536 := by omega
      rw [low, low] at h2
      have := nxor_right h2
      omega
    · omega
  · split at h <;> omega
theorem crcTurns_inj : ∀ (d : Nat) {x y : Int}, (0 ≤ x ∧ x < 65536) → (0 ≤ y ∧ y < 65536) → crcTurns d x = crcTurns d y → x = y
  | 0, x, y, _, _, h => h
  | d + 1, x, y, hx, hy, h => crcStep_inj hx hy (crcTurns_inj d (crcStep_bd x) (crcStep_bd y) h)
theorem crcGo_state : ∀ (l : List Int) {x y : Int}, (0 ≤ x ∧ x < 65536) → (0 ≤ y ∧ y < 65536) → (∀ b ∈ l, 0 ≤ b ∧ b < 256) → crcGo l x = crcGo l y → x = y
  | [], x, y, _, _, _, h => h
  | b :: l, x, y, hx, hy, hb, h => by
    have h0 := hb b (by simp)
    have bx : 0 ≤ xorI x (256 * b) ∧ xorI x (256 * b) < 65536 := xorI_bd (n := 16) (by omega) (by omega)
    have by_ : 0 ≤ xorI y (256 * b) ∧ xorI y (256 * b) < 65536 := xorI_bd (n := 16) (by omega) (by omega)
    have h1 := crcGo_state l (crcTurns_bd 8 _ bx) (crcTurns_bd 8 _ by_) (fun z hz => hb z (by simp [hz])) h
    exact xorI_right hx.1 hy.1 (crcTurns_inj 8 bx by_ h1)
/-- One byte turned over is told by the check. -/
theorem crcGo_byte : ∀ (p : List Int) {x b c : Int} {s : List Int}, (0 ≤ x ∧ x < 65536) → (∀ z ∈ p ++ b :: s, 0 ≤ z ∧ z < 256) → (0 ≤ c ∧ c < 256) → crcGo (p ++ b :: s) x = crcGo (p ++ c :: s) x → b = c
  | [], x, b, c, s, hx, hb, hc, h => by
    have h0 := hb b (by simp)
    have bx : 0 ≤ xorI x (256 * b) ∧ xorI x (256 * b) < 65536 := xorI_bd (n := 16) (by omega) (by omega)
    have cx : 0 ≤ xorI x (256 * c) ∧ xorI x (256 * c) < 65536 := xorI_bd (n := 16) (by omega) (by omega)
    have h1 := crcGo_state s (crcTurns_bd 8 _ bx) (crcTurns_bd 8 _ cx) (fun z hz => hb z (by simp [hz])) h
    have h2 := xorI_left (by omega) (by omega) (crcTurns_inj 8 bx cx h1)
    omega
  | a :: p, x, b, c, s, hx, hb, hc, h => by
    have h0 := hb a (by simp)
    exact crcGo_byte p (crcTurns_bd 8 _ (xorI_bd (n := 16) (by omega) (by omega))) (fun z hz => hb z (by simp only [List.cons_append, List.mem_cons]; exact .inr hz)) hc h
theorem crcOf_set {l : List Int} {k : Nat} {v : Int} (hl : l.length ≤ 65536) (hb : ∀ z ∈ l, 0 ≤ z ∧ z < 256) (hv : 0 ≤ v ∧ v < 256) (hk : k < l.length) (h : crcOf l = crcOf (l.set k v)) : rd l (k : Int) = v := by
  unfold crcOf at h
  rw [if_neg (by omega), if_neg (by rw [List.length_set]; omega)] at h
  have e1 : l = l.take k ++ rd l (k : Int) :: l.drop (k + 1) := by rw [← drop_rd hk, List.take_append_drop]
  have e2 : l.set k v = l.take k ++ v :: l.drop (k + 1) := List.set_eq_take_append_cons_drop.trans (if_pos hk)
  rw [e2] at h
  conv at h => lhs; rw [e1]
  exact crcGo_byte (l.take k) (by omega) (by rw [← e1]; exact hb) hv h
/-- What a frame that opens is. -/
theorem openOf_ok {b : List Int} {x : Int} (h : (openOf b x).2.2 = 0) : ∃ a e : Nat, x = (a : Int) ∧ (openOf b x).2.1 = (e : Int) ∧ a + 5 ≤ e ∧ e ≤ b.length ∧ (frameOf (openOf b x).1).2 = true ∧ (frameOf (openOf b x).1).1 = (b.take e).drop a := by
  unfold openOf at h ⊢
  split at h
  · rename_i h0
    rw [if_pos h0]
    unfold openAt at h ⊢
    split at h
    · rename_i h1
      rw [if_pos h1]
      generalize unR (rd b ((x.toNat + 2 : Nat) : Int) % 32).toNat (unpackOf (b.drop (x.toNat + 3))) (rd b ((x.toNat + 1 : Nat) : Int) + 1).toNat 0 [] = r at h ⊢
      unfold openBits at h ⊢
      split at h
      · rename_i h2
        rw [if_pos h2]
        split at h
        · cases h
        · rename_i h3
          rw [if_neg h3]
          split at h
          · rename_i h4
            rw [if_pos h4]
            unfold openForm at h ⊢
            split at h
            · rename_i h5
              rw [if_pos h5]
              exact ⟨x.toNat, _, by omega, rfl, by omega, by omega, h5.2.1, h5.2.2⟩
            · cases h
          · cases h
      · cases h
    · cases h
  · cases h
theorem openOf_no {b : List Int} {x : Int} (h : (openOf b x).2.2 ≠ 0) : (openOf b x).1 = [] ∧ (openOf b x).2.1 = x := by
  unfold openOf at h ⊢
  split
  · rename_i h0
    have hx : ((x.toNat : Nat) : Int) = x := by omega
    rw [if_pos h0] at h
    unfold openAt at h ⊢
    split
    · rename_i h1
      rw [if_pos h1] at h
      generalize unR (rd b ((x.toNat + 2 : Nat) : Int) % 32).toNat (unpackOf (b.drop (x.toNat + 3))) (rd b ((x.toNat + 1 : Nat) : Int) + 1).toNat 0 [] = r at h ⊢
      unfold openBits at h ⊢
      split
      · rename_i h2
        rw [if_pos h2] at h
        split
        · exact ⟨rfl, hx⟩
        · rename_i h3
          rw [if_neg h3] at h
          split
          · rename_i h4
            rw [if_pos h4] at h
            unfold openForm at h ⊢
            split
            · rename_i h5
              rw [if_pos h5] at h
              exact absurd rfl h
            · exact ⟨rfl, hx⟩
          · exact ⟨rfl, hx⟩
      · exact ⟨rfl, hx⟩
    · exact ⟨rfl, hx⟩
  · exact ⟨rfl, rfl⟩
theorem riceAll_pos (q : Nat) : ∀ (l : List Int), l ≠ [] → 1 ≤ (riceAll q l).length
  | [], h => absurd rfl h
  | x :: l, _ => by simp only [riceAll, riceOne, List.length_append, List.length_cons]; omega
theorem frameOf_six {l : List Int} (h : (frameOf l).2 = true) : 6 ≤ (frameOf l).1.length := by
  obtain ⟨o, q, ho, hq, hn, hw, hg, hf⟩ := frameOf_yes h
  have hp := riceAll_pos q (guessGo o l l.length 0) (fun hz => by have := congrArg List.length hz; rw [guessGo_len, List.length_nil] at this; omega)
  have hb := frameBody_len l o (q : Int) (riceAll q (guessGo o l l.length 0))
  rw [hf, List.length_append]
  simp only [List.length_cons, List.length_nil]
  omega
/-- A frame with one byte turned over is not a whole frame. -/
theorem frame_hurt {l : List Int} (h : (frameOf l).2 = true) {k : Nat} {v : Int} (hk : k < (frameOf l).1.length) (hv : 0 ≤ v ∧ v < 256) (hne : rd (frameOf l).1 (k : Int) ≠ v) (ho : (openOf ((frameOf l).1.set k v) 0).2.2 = 0) : (openOf ((frameOf l).1.set k v) 0).2.1 < ((frameOf l).1.length : Int) := by
  obtain ⟨a, e, ha, he, h1, h2, h3, h4⟩ := openOf_ok ho
  rw [List.length_set] at h2
  rw [he]
  have ha0 : a = 0 := by omega
  subst ha0
  rcases Nat.lt_or_ge e (frameOf l).1.length with h5 | h5
  · omega
  · exfalso
    rw [List.drop_zero, List.take_of_length_le (by rw [List.length_set]; omega)] at h4
    generalize (openOf ((frameOf l).1.set k v) 0).1 = l2 at h3 h4
    obtain ⟨o, q, _, _, _, _, _, hf⟩ := frameOf_yes h
    obtain ⟨o2, q2, _, _, _, _, _, hf2⟩ := frameOf_yes h3
    have hfl := frameOf_len l
    have hbd := frameBody_bd l o (q : Int) (riceAll q (guessGo o l l.length 0))
    have hbd2 := frameBody_bd l2 o2 (q2 : Int) (riceAll q2 (guessGo o2 l2 l2.length 0))
    generalize frameBody l o (q : Int) (riceAll q (guessGo o l l.length 0)) = B at hf hbd
    generalize frameBody l2 o2 (q2 : Int) (riceAll q2 (guessGo o2 l2 l2.length 0)) = B2 at hf2 hbd2
    have hc := crcOf_bd hbd
    have hc2 := crcOf_bd hbd2
    generalize hcd : crcOf B = c at hc hf
    generalize hcd2 : crcOf B2 = c2 at hc2 hf2
    generalize (frameOf l).1 = F at hf h4 hk hne hfl
    generalize (frameOf l2).1 = F2 at hf2 h4
    subst h4
    have hlen : B.length = B2.length := by
      have e1 := congrArg List.length hf
      have e2 := congrArg List.length hf2
      rw [List.length_append] at e1 e2
      rw [List.length_set] at e2
      simp only [List.length_cons, List.length_nil] at e1 e2
      omega
    rcases Nat.lt_or_ge k B.length with h6 | h6
    · rw [hf, List.set_append_left _ _ h6] at hf2
      have e1 := List.append_inj hf2 (by rw [List.length_set]; exact hlen)
      simp only [List.cons.injEq, and_true] at e1
      have hcc : c = c2 := by omega
      have hFl : B.length ≤ 65536 := by
        have e1 := congrArg List.length hf
        rw [List.length_append] at e1
        omega
      have := crcOf_set hFl hbd hv h6 (by rw [e1.1, hcd, hcd2, hcc])
      apply hne
      rw [hf, rd_append h6]
      exact this
    · rw [hf, List.set_append_right _ _ h6] at hf2
      have e1 := List.append_inj hf2 hlen
      have hcc : c = c2 := by rw [← hcd, ← hcd2, e1.1]
      rw [hcc] at e1 hf
      have e2 : F.set k v = F := by rw [hf, List.set_append_right _ _ h6, e1.2]
      apply hne
      have e3 := rd_set F k k v hk
      rw [if_pos rfl, e2] at e3
      exact e3
theorem xor_u8 {a m : Int} (ha : 0 ≤ a ∧ a < 256) (hm : 1 ≤ m ∧ m < 256) : (0 ≤ bits .xor .u8 a m ∧ bits .xor .u8 a m < 256) ∧ a ≠ bits .xor .u8 a m := by
  obtain ⟨x, rfl⟩ := Int.eq_ofNat_of_zero_le ha.1
  obtain ⟨y, rfl⟩ := Int.eq_ofNat_of_zero_le (show 0 ≤ m by omega)
  have hx : x % 2 ^ IntKind.u8.bits = x := Nat.mod_eq_of_lt (by show x < 2 ^ 8; omega)
  have hy : y % 2 ^ IntKind.u8.bits = y := Nat.mod_eq_of_lt (by show y < 2 ^ 8; omega)
  have hl : x ^^^ y < 2 ^ 8 := Nat.xor_lt_two_pow (by omega) (by omega)
  simp only [bits, BitVec.toNat_xor, BitVec.ofInt_natCast, BitVec.toNat_ofNat, hx, hy]
  rw [IntKind.wrap_u8]
  refine ⟨by omega, fun h => ?_⟩
  have h2 : 0 ^^^ x = y ^^^ x := by rw [Nat.zero_xor, Nat.xor_comm]; omega
  have := nxor_right h2
  omega
theorem packAllOf_bd (l : List Int) (a : Int) : ∀ x ∈ (packAllOf l a).1, 0 ≤ x ∧ x < 256 := by
  have go : ∀ (s d : Nat) (l out : List Int), (∀ x ∈ out, 0 ≤ x ∧ x < 256) → ∀ x ∈ (packAllGo s d l out).1, 0 ≤ x ∧ x < 256 := by
    intro s d
    have fin : ∀ (out : List Int), (∀ x ∈ out, 0 ≤ x ∧ x < 256) → ∀ x ∈ (packEnd out).1, 0 ≤ x ∧ x < 256 := by
      intro out h
      unfold packEnd
      split
      · intro x hx; cases hx
      · exact h
    induction d with
    | zero => intro l out h; exact fin out h
    | succ d ih =>
      intro l out h
      simp only [packAllGo]
      split
      · exact fin out h
      · split
        · exact ih _ _ (fun x hx => (List.mem_append.1 hx).elim (h x) (frameOf_bd _ x))
        · intro x hx; cases hx
  unfold packAllOf
  split
  · exact go _ _ _ _ (fun x hx => by cases hx)
  · intro x hx; cases hx
theorem openOf_next {b : List Int} {x : Int} (h : (openOf b x).2.2 = 0) : ∃ e : Nat, (openOf b x).2.1 = (e : Int) ∧ x + 5 ≤ (e : Int) ∧ e ≤ b.length := by
  unfold openOf at h ⊢
  split at h
  · rename_i h0
    rw [if_pos h0]
    unfold openAt at h ⊢
    split at h
    · rename_i h1
      rw [if_pos h1]
      generalize unR (rd b ((x.toNat + 2 : Nat) : Int) % 32).toNat (unpackOf (b.drop (x.toNat + 3))) (rd b ((x.toNat + 1 : Nat) : Int) + 1).toNat 0 [] = r at h ⊢
      unfold openBits at h ⊢
      split at h
      · rename_i h2
        rw [if_pos h2]
        split at h
        · cases h
        · rename_i h3
          rw [if_neg h3]
          split at h
          · rename_i h4
            rw [if_pos h4]
            unfold openForm at h ⊢
            split at h
            · rename_i h5
              rw [if_pos h5]
              exact ⟨_, rfl, by omega, by omega⟩
            · cases h
          · cases h
      · cases h
    · cases h
  · cases h
/-- All frames, one behind the other; at most sixty. -/
def openGo (b : List Int) : Nat → Nat → List Int → List Int → List Int × List Int × Int
  | 0, a, l, p => if a = b.length then (l, p, 0) else (l, p, 5)
  | d + 1, a, l, p => if a = b.length then (l, p, 0) else if (openOf b (a : Int)).2.2 = 0 then openGo b d (openOf b (a : Int)).2.1.toNat (l ++ (openOf b (a : Int)).1) (p ++ [(a : Int)]) else (l, p, (openOf b (a : Int)).2.2)
def openAllOf (b : List Int) : List Int × List Int × Int := if (b.length : Int) > 20000 then ([], [], 1) else openGo b 60 0 [] []
theorem openGo_len (b : List Int) : ∀ (d a : Nat) (l p : List Int), p.length + d = 60 → l.length ≤ 512 * p.length → (openGo b d a l p).1.length ≤ 512 * 60 ∧ (openGo b d a l p).2.1.length ≤ 60
  | 0, a, l, p, hp, hl => by
    simp only [openGo]
    split <;> exact ⟨by simp only; omega, by simp only; omega⟩
  | d + 1, a, l, p, hp, hl => by
    have ho := openOf_len b (a : Int)
    simp only [openGo]
    split
    · exact ⟨by simp only; omega, by simp only; omega⟩
    · split
      · exact openGo_len b d _ _ _ (by simp; omega) (by rw [List.length_append, List.length_append]; simp only [List.length_cons, List.length_nil]; omega)
      · exact ⟨by simp only; omega, by simp only; omega⟩
theorem openAllOf_len (b : List Int) : (openAllOf b).1.length ≤ 512 * 60 ∧ (openAllOf b).2.1.length ≤ 60 := by
  unfold openAllOf
  split
  · exact ⟨by simp, by simp⟩
  · exact openGo_len b 60 0 [] [] rfl (by simp)
def mendGo (b : List Int) : Nat → Nat → Nat → List Int → Int → List Int × Int
  | 0, _, _, out, lost => (out, lost)
  | d + 1, a, f, out, lost => if a < b.length then (if (openOf b (a : Int)).2.2 = 0 ∧ f < 60 then mendGo b d (openOf b (a : Int)).2.1.toNat (f + 1) (out ++ (openOf b (a : Int)).1) lost else mendGo b d (a + 1) f out (lost + 1)) else (out, lost)
def mendOf (b : List Int) : List Int × Int := if (b.length : Int) > 20000 then ([], 0) else mendGo b b.length 0 0 [] 0
theorem mendGo_end (b : List Int) (f : Nat) (out : List Int) (hf : 60 ≤ f) : ∀ (d a : Nat) (lost : Int), a + d = b.length → mendGo b d a f out lost = (out, lost + (d : Int))
  | 0, a, lost, h => by simp [mendGo]
  | d + 1, a, lost, h => by
    rw [show mendGo b (d + 1) a f out lost = _ from if_pos (by omega), if_neg (fun h => by omega), mendGo_end b f out hf d (a + 1) (lost + 1) (by omega)]
    congr 1
    omega
theorem mendGo_over (b : List Int) (f : Nat) (out : List Int) (lost : Int) : ∀ (d a : Nat), b.length ≤ a → mendGo b d a f out lost = (out, lost)
  | 0, a, h => rfl
  | d + 1, a, h => if_neg (by omega)
theorem mendGo_end2 (b : List Int) (f : Nat) (out : List Int) (hf : 60 ≤ f) : ∀ (d a : Nat) (lost : Int), b.length ≤ a + d → a ≤ b.length → mendGo b d a f out lost = (out, lost + ((b.length : Int) - (a : Int)))
  | 0, a, lost, h, h2 => by simp [mendGo]; omega
  | d + 1, a, lost, h, h2 => by
    by_cases h3 : a < b.length
    · rw [show mendGo b (d + 1) a f out lost = _ from if_pos h3, if_neg (fun h => by omega), mendGo_end2 b f out hf d (a + 1) (lost + 1) (by omega) (by omega)]
      congr 1
      omega
    · rw [show mendGo b (d + 1) a f out lost = _ from if_neg h3]
      congr 1
      omega
theorem mendGo_len (b : List Int) : ∀ (d a f : Nat) (out : List Int) (lost : Int), f ≤ 60 → out.length ≤ 512 * f → (mendGo b d a f out lost).1.length ≤ 512 * 60
  | 0, a, f, out, lost, hf, ho => by simp only [mendGo]; omega
  | d + 1, a, f, out, lost, hf, ho => by
    have hl := openOf_len b (a : Int)
    simp only [mendGo]
    split
    · split
      · rename_i h
        exact mendGo_len b d _ _ _ _ (by omega) (by rw [List.length_append]; omega)
      · exact mendGo_len b d _ _ _ _ hf ho
    · simp only; omega
theorem mendOf_len (b : List Int) : (mendOf b).1.length ≤ 512 * 60 := by
  unfold mendOf
  split
  · simp
  · exact mendGo_len b _ _ _ _ _ (by omega) (by simp)
def seekGo (b : List Int) (x : Int) : List Int → Int → Int × Int
  | [], _ => (-1, 0)
  | p :: ps, ah => if x ≥ ah ∧ x < ah + ((openOf b p).1.length : Int) then (p, ah) else seekGo b x ps (ah + ((openOf b p).1.length : Int))
def seekOf (b : List Int) (x : Int) : Int × Int := seekGo b x (openAllOf b).2.1 0
def starts (s : Nat) : Nat → List Int → Nat → List Int
  | 0, _, _ => []
  | d + 1, l, a => if l.length = 0 then [] else (a : Int) :: starts s d (l.drop s) (a + (frameOf (l.take s)).1.length)
theorem packEnd_yes {out b : List Int} (h : packEnd out = (b, true)) : b = out ∧ out.length ≤ 20000 := by
  unfold packEnd at h
  split at h
  · cases h
  · simp only [Prod.mk.injEq, and_true] at h
    exact ⟨h.symm, by omega⟩
theorem packAllGo_prefix (s : Nat) : ∀ (d : Nat) (l out b : List Int), packAllGo s d l out = (b, true) → (∃ m, b = out ++ m) ∧ b.length ≤ 20000
  | 0, l, out, b, h => by
    have := packEnd_yes h
    exact ⟨⟨[], by rw [this.1]; simp⟩, by rw [this.1]; exact this.2⟩
  | d + 1, l, out, b, h => by
    simp only [packAllGo] at h
    split at h
    · have := packEnd_yes h
      exact ⟨⟨[], by rw [this.1]; simp⟩, by rw [this.1]; exact this.2⟩
    · split at h
      · obtain ⟨⟨m, hm⟩, h2⟩ := packAllGo_prefix s d _ _ b h
        exact ⟨⟨(frameOf (l.take s)).1 ++ m, by rw [hm]; simp⟩, h2⟩
      · cases h
theorem packAllGo_step {s d : Nat} {l out b : List Int} (h : packAllGo s (d + 1) l out = (b, true)) (hl : l.length ≠ 0) : (frameOf (l.take s)).2 = true ∧ packAllGo s d (l.drop s) (out ++ (frameOf (l.take s)).1) = (b, true) := by
  simp only [packAllGo] at h
  rw [if_neg hl] at h
  split at h
  · rename_i h2; exact ⟨h2, h⟩
  · cases h
theorem packAllGo_stop {s d : Nat} {l out b : List Int} (h : packAllGo s d l out = (b, true)) (hl : l.length = 0) : b = out := by
  cases d with
  | zero => exact (packEnd_yes h).1
  | succ d =>
    simp only [packAllGo] at h
    rw [if_pos hl] at h
    exact (packEnd_yes h).1
theorem packAllGo_no (s : Nat) : ∀ (d : Nat) (l out : List Int), (packAllGo s d l out).2 = false → (packAllGo s d l out).1 = []
  | 0, l, out, h => by
    simp only [packAllGo, packEnd] at h ⊢
    split at h
    · rename_i h1; rw [if_pos h1]
    · cases h
  | d + 1, l, out, h => by
    simp only [packAllGo, packEnd] at h ⊢
    split at h
    · rename_i h1
      rw [if_pos h1]
      split at h
      · rename_i h2; rw [if_pos h2]
      · cases h
    · rename_i h1
      rw [if_neg h1]
      split at h
      · rename_i h2; rw [if_pos h2]; exact packAllGo_no s d _ _ h
      · rename_i h2; rw [if_neg h2]
theorem packAllOf_no {l : List Int} {a : Int} (h : (packAllOf l a).2 = false) : (packAllOf l a).1 = [] := by
  unfold packAllOf at h ⊢
  split
  · rename_i h1; rw [if_pos h1] at h; exact packAllGo_no _ _ _ _ h
  · rfl
/-- One frame of a file, where it stands. -/
theorem file_frame {s d : Nat} {l out b : List Int} (h : packAllGo s (d + 1) l out = (b, true)) (hl : l.length ≠ 0) : openOf b (out.length : Int) = (l.take s, ((out.length + (frameOf (l.take s)).1.length : Nat) : Int), 0) ∧ out.length + (frameOf (l.take s)).1.length ≤ b.length ∧ 6 ≤ (frameOf (l.take s)).1.length ∧ ∃ m, b.drop out.length = (frameOf (l.take s)).1 ++ m := by
  have st := packAllGo_step h hl
  obtain ⟨⟨m, hm⟩, _⟩ := packAllGo_prefix s d _ _ b st.2
  have hd : b.drop out.length = (frameOf (l.take s)).1 ++ m := by rw [hm, List.append_assoc, List.drop_left]
  refine ⟨open_back st.1 hd, ?_, frameOf_six st.1, m, hd⟩
  rw [hm, List.length_append, List.length_append]
  omega
theorem openGo_end (b acc p : List Int) (c : Nat) : openGo b c b.length acc p = (acc, p, 0) := by
  cases c with
  | zero => exact if_pos rfl
  | succ c => exact if_pos rfl
theorem starts_nil (s d a : Nat) {l : List Int} (hl : l.length = 0) : starts s d l a = [] := by
  cases d with
  | zero => rfl
  | succ d => exact if_pos hl
/-- A file opened is what was packed. -/
theorem openGo_file (s : Nat) (hs : 1 ≤ s) (b : List Int) : ∀ (d : Nat) (l out : List Int) (c : Nat) (acc p : List Int), l.length ≤ d → l.length ≤ c → packAllGo s d l out = (b, true) → openGo b c out.length acc p = (acc ++ l, p ++ starts s d l out.length, 0) := by
  have fin : ∀ (d : Nat) (l out : List Int) (c : Nat) (acc p : List Int), l.length = 0 → packAllGo s d l out = (b, true) → openGo b c out.length acc p = (acc ++ l, p ++ starts s d l out.length, 0) := by
    intro d l out c acc p hl h
    rw [← packAllGo_stop h hl, openGo_end, starts_nil s d _ hl, List.eq_nil_of_length_eq_zero hl, List.append_nil, List.append_nil]
  intro d
  induction d with
  | zero => exact fun l out c acc p hd _ h => fin 0 l out c acc p (by omega) h
  | succ d ih =>
    intro l out c acc p hd hc h
    by_cases hl : l.length = 0
    · exact fin (d + 1) l out c acc p hl h
    · obtain ⟨h1, h2, h3, _⟩ := file_frame h hl
      have st := packAllGo_step h hl
      obtain ⟨c, rfl⟩ : ∃ e, c = e + 1 := ⟨c - 1, by omega⟩
      rw [show openGo b (c + 1) out.length acc p = _ from if_neg (by omega), h1, if_pos rfl, Int.toNat_natCast]
      have := ih (l.drop s) (out ++ (frameOf (l.take s)).1) c (acc ++ l.take s) (p ++ [(out.length : Int)]) (by rw [List.length_drop]; omega) (by rw [List.length_drop]; omega) st.2
      rw [List.length_append] at this
      rw [this, show starts s (d + 1) l out.length = _ from if_neg hl, List.append_assoc, List.append_assoc, List.take_append_drop]
      rfl
theorem mendGo_file (s : Nat) (hs : 1 ≤ s) (b : List Int) : ∀ (d : Nat) (l out : List Int) (c f : Nat) (acc : List Int) (lost : Int), l.length ≤ d → l.length + f ≤ 60 → b.length ≤ out.length + c → packAllGo s d l out = (b, true) → mendGo b c out.length f acc lost = (acc ++ l, lost) := by
  have fin : ∀ (d : Nat) (l out : List Int) (c f : Nat) (acc : List Int) (lost : Int), l.length = 0 → packAllGo s d l out = (b, true) → mendGo b c out.length f acc lost = (acc ++ l, lost) := by
    intro d l out c f acc lost hl h
    rw [← packAllGo_stop h hl, mendGo_over b f acc lost c b.length (Nat.le_refl _), List.eq_nil_of_length_eq_zero hl, List.append_nil]
  intro d
  induction d with
  | zero => exact fun l out c f acc lost hd _ _ h => fin 0 l out c f acc lost (by omega) h
  | succ d ih =>
    intro l out c f acc lost hd hf hc h
    by_cases hl : l.length = 0
    · exact fin (d + 1) l out c f acc lost hl h
    · obtain ⟨h1, h2, h3, _⟩ := file_frame h hl
      have st := packAllGo_step h hl
      obtain ⟨c, rfl⟩ : ∃ e, c = e + 1 := ⟨c - 1, by omega⟩
      rw [show mendGo b (c + 1) out.length f acc lost = _ from if_pos (by omega), h1, if_pos ⟨rfl, by omega⟩, Int.toNat_natCast]
      have := ih (l.drop s) (out ++ (frameOf (l.take s)).1) c (f + 1) (acc ++ l.take s) lost (by rw [List.length_drop]; omega) (by rw [List.length_drop]; omega) (by rw [List.length_append]; omega) st.2
      rw [List.length_append] at this
      rw [this, List.append_assoc, List.take_append_drop]
theorem rd_cons0 (a : Int) (l : List Int) : rd (a :: l) ((0 : Nat) : Int) = a := rfl
theorem rd_cons1 (a : Int) (l : List Int) (j : Nat) : rd (a :: l) ((j + 1 : Nat) : Int) = rd l (j : Int) := rfl
theorem seekGo_file (s : Nat) (hs : 1 ≤ s) (b : List Int) : ∀ (d : Nat) (l out : List Int) (ah i : Nat), l.length ≤ d → i < l.length → packAllGo s d l out = (b, true) → seekGo b ((ah + i : Nat) : Int) (starts s d l out.length) (ah : Int) = (rd (starts s d l out.length) ((i / s : Nat) : Int), ((ah + i / s * s : Nat) : Int)) ∧ i / s < (starts s d l out.length).length := by
  intro d
  induction d with
  | zero => intro l out ah i hd hi h; omega
  | succ d ih =>
    intro l out ah i hd hi h
    have hl : l.length ≠ 0 := by omega
    obtain ⟨h1, h2, h3, _⟩ := file_frame h hl
    have st := packAllGo_step h hl
    rw [show starts s (d + 1) l out.length = _ from if_neg hl]
    have hlen : (l.take s).length = min s l.length := List.length_take
    simp only [seekGo, h1]
    by_cases hc : i < s
    · rw [if_pos ⟨by omega, by omega⟩, Nat.div_eq_of_lt hc]
      refine ⟨?_, by simp⟩
      rw [rd_cons0]
      simp
    · rw [if_neg (fun hx => by omega)]
      have e1 : i / s = (i - s) / s + 1 := by
        rw [Nat.div_eq i s, if_pos ⟨by omega, by omega⟩]
      obtain ⟨r1, r2⟩ := ih (l.drop s) (out ++ (frameOf (l.take s)).1) (ah + s) (i - s) (by rw [List.length_drop]; omega) (by rw [List.length_drop]; omega) st.2
      rw [List.length_append, show ah + s + (i - s) = ah + i by omega] at r1
      rw [List.length_append] at r2
      refine ⟨?_, by rw [e1, List.length_cons]; omega⟩
      rw [show (ah : Int) + ((l.take s).length : Int) = ((ah + s : Nat) : Int) by omega, r1, e1, rd_cons1, Nat.succ_mul]
      congr 2
      omega
theorem starts_head {s d a : Nat} {l : List Int} (h : 0 < (starts s d l a).length) : l.length ≠ 0 ∧ rd (starts s d l a) ((0 : Nat) : Int) = (a : Int) := by
  have hl : l.length ≠ 0 := fun hz => by rw [starts_nil s d a hz] at h; simp at h
  cases d with
  | zero => simp [starts] at h
  | succ d => rw [show starts s (d + 1) l a = _ from if_neg hl]; exact ⟨hl, rfl⟩
theorem sameInts_l0 (a b : List Int) (h : a.length = b.length) (hl : a.length ≤ 35184372088832) : ∀ (d i : Nat), i + d = a.length → Ev (fun k => laws_sameInts.l0 k a b (i : Int)) (decide (a.drop i = b.drop i)) := by
  intro d
  induction d with
  | zero =>
    intro i hi
    refine Ev.round (f := fun _ => some true) (Ev.some_ ?_) (fun k => by simp only [laws_sameInts.l0]; rw [if_neg (by omega)])
    rw [List.drop_of_length_le (by omega), List.drop_of_length_le (by omega)]; simp
  | succ d ih =>
    intro i hi
    by_cases he : rd a i = rd b i
    · refine (Ev.round (ih (i + 1) (by omega)) (fun k => ?_)).to ?_
      · simp only [laws_sameInts.l0]
        rw [if_pos (by omega), if_pos (by omega), if_pos (by omega), if_pos he, w64_add (by omega) (by omega)]; simp
      · rw [drop_rd (xs := a) (i := i) (by omega), drop_rd (xs := b) (i := i) (by omega), he]; simp
    · refine (Ev.round (f := fun _ => some false) (Ev.some_ rfl) (fun k => ?_)).to ?_
      · simp only [laws_sameInts.l0]
        rw [if_pos (by omega), if_pos (by omega), if_pos (by omega), if_neg he]
      · rw [drop_rd (xs := a) (i := i) (by omega), drop_rd (xs := b) (i := i) (by omega)]; simp [he]
theorem sameInts_ev (a b : List Int) (hl : a.length ≤ 35184372088832) : Ev (fun k => laws_sameInts.f k a b) (decide (a = b)) := by
  unfold laws_sameInts.f
  by_cases h : a.length = b.length
  · exact Ev.pos (by omega) (sameInts_l0 a b h hl a.length 0 (by omega))
  · exact (Ev.neg (by omega) (Ev.some_ rfl)).to (by simp; intro e; exact h (by rw [e]))
theorem l17Fore_ev (o : Int) (l : List Int) (i : Nat) (hi : i ≤ l.length) (hl : l.length ≤ 1048576) (ho : 0 ≤ o ∧ o ≤ 3) (h : ∀ x ∈ l, -1000000000 ≤ x ∧ x ≤ 1000000000) : Ev (fun k => spec_l17Fore.f k o l (i : Int)) (foreN o l i) := by
  have h1 := rd_bd (l := l) (i := (i : Int) - 1) h
  have h2 := rd_bd (l := l) (i := (i : Int) - 2) h
  have h3 := rd_bd (l := l) (i := (i : Int) - 3) h
  have key : ∀ m : Int, m = mn o i → 0 ≤ m → m ≤ i → Ev (fun k => spec_l17Fore.j0 k m l (i : Int)) (foreN o l i) := by
    intro m hm h0 hmi
    have e : foreN o l i = if m = 1 then rd l ((i : Int) - 1) else if m = 2 then 2 * rd l ((i : Int) - 1) - rd l ((i : Int) - 2) else if m = 3 then 3 * (rd l ((i : Int) - 1) - rd l ((i : Int) - 2)) + rd l ((i : Int) - 3) else 0 := by rw [hm]; rfl
    refine Ev.succ ?_
    simp only [spec_l17Fore.j0]
    by_cases c1 : m = 1
    · rw [if_pos c1] at e
      rw [e, w64 (n := (i : Int) - 1) (by omega) (by omega)]
      exact Ev.pos c1 (Ev.pos (by omega) (Ev.pos (by omega) (Ev.some_ rfl)))
    rw [if_neg c1] at e
    refine Ev.neg c1 ?_
    by_cases c2 : m = 2
    · rw [if_pos c2] at e
      rw [e, w64 (n := (i : Int) - 1) (by omega) (by omega), w64 (n := (i : Int) - 2) (by omega) (by omega), w64 (n := 2 * rd l ((i : Int) - 1)) (by omega) (by omega), w64 (n := 2 * _ - _) (by omega) (by omega)]
      exact Ev.pos c2 (Ev.pos (by omega) (Ev.pos (by omega) (Ev.pos (by omega) (Ev.pos (by omega) (Ev.some_ rfl)))))
    rw [if_neg c2] at e
    refine Ev.neg c2 ?_
    by_cases c3 : m = 3
    · rw [if_pos c3] at e
      rw [e, w64 (n := (i : Int) - 1) (by omega) (by omega), w64 (n := (i : Int) - 2) (by omega) (by omega), w64 (n := (i : Int) - 3) (by omega) (by omega), w64 (n := rd l ((i : Int) - 1) - _) (by omega) (by omega), w64 (n := 3 * _) (by omega) (by omega), w64 (n := 3 * _ + _) (by omega) (by omega)]
      exact Ev.pos c3 (Ev.pos (by omega) (Ev.pos (by omega) (Ev.pos (by omega) (Ev.pos (by omega) (Ev.pos (by omega) (Ev.pos (by omega) (Ev.some_ rfl)))))))
    rw [if_neg c3] at e
    rw [e]
    exact Ev.neg c3 (Ev.some_ rfl)
  unfold spec_l17Fore.f
  by_cases hc : (i : Int) < o
  · exact Ev.pos hc (key i (by unfold mn; rw [if_pos hc]) (by omega) (by omega))
  · exact Ev.neg hc (key o (by unfold mn; rw [if_neg hc]) (by omega) (by omega))
theorem sSignalOk_l0 (l : List Int) (hl : l.length ≤ 1048576) : ∀ (d i : Nat), i + d = l.length → Ev (fun k => spec_SignalOk.l0 k l (i : Int)) (decide (l.length ≤ 512) && allIn 1000000000 (l.drop i)) := by
  intro d
  induction d with
  | zero =>
    intro i hi
    refine Ev.succ ?_
    simp only [spec_SignalOk.l0]
    rw [List.drop_of_length_le (by omega)]
    exact Ev.neg (by omega) (Ev.some_ (by simp [allIn]; omega))
  | succ d ih =>
    intro i hi
    refine Ev.succ ?_
    simp only [spec_SignalOk.l0, l5Sample_eq, Option.bind_some]
    rw [drop_rd (xs := l) (i := i) (by omega), w64_add (by omega) (by omega)]
    refine Ev.pos (by omega) (Ev.pos (by omega) ?_)
    by_cases h1 : -1000000000 ≤ rd l i ∧ rd l i ≤ 1000000000
    · exact Ev.pos (by simp [h1]) ((ih (i + 1) (by omega)).to (by simp [allIn, h1]))
    · refine Ev.neg (by simp; omega) (Ev.some_ ?_)
      have : (decide (-1000000000 ≤ rd l i) && decide (rd l i ≤ 1000000000)) = false := by simp; omega
      simp only [allIn, List.all_cons, this, Bool.false_and, Bool.and_false]
theorem sSignalOk_ev (l : List Int) (hl : l.length ≤ 1048576) : Ev (fun k => spec_SignalOk.f k l) (sigB l) :=
  (sSignalOk_l0 l hl l.length 0 (by omega)).to (by simp [sigB])
theorem sGuess_l0 (o : Int) (ho : 0 ≤ o ∧ o ≤ 3) (l : List Int) (hl : l.length ≤ 512) (h : ∀ x ∈ l, -1000000000 ≤ x ∧ x ≤ 1000000000) : ∀ (d i : Nat) (acc : List Int), i + d = l.length → acc.length = i → Ev (fun k => spec_Guess.l0 k o l acc (i : Int)) (acc ++ guessGo o l d i, true) := by
  intro d
  induction d with
  | zero =>
    intro i acc hi ha
    refine Ev.succ ?_
    simp only [spec_Guess.l0]
    exact Ev.neg (by omega) (Ev.some_ (by simp [guessGo]))
  | succ d ih =>
    intro i acc hi ha
    have hf := foreN_bd (o := o) (l := l) (i := i) h
    have hr := rd_bd (l := l) (i := (i : Int)) h
    refine Ev.succ ?_
    simp only [spec_Guess.l0]
    rw [w64_add (by omega) (by omega)]
    refine Ev.pos (by omega) (Ev.pos (by omega) (Ev.next (l17Fore_ev o l i (by omega) (by omega) ho h) (Ev.pos (by omega) ?_)))
    rw [w64 (n := rd l i - _) (by omega) (by omega)]
    exact (ih (i + 1) (acc ++ [rd l i - foreN o l i]) (by omega) (by simp; omega)).to (by simp [guessGo])
theorem sGuess_ev (o : Int) (l : List Int) (hl : l.length ≤ 1048576) : Ev (fun k => spec_Guess.f k o l) (guessOf o l) := by
  have bad : Ev (fun k => spec_Guess.j0 k o l [] true) ([], false) := by
    refine Ev.succ ?_
    simp only [spec_Guess.j0]
    exact Ev.pos trivial (Ev.some_ rfl)
  unfold spec_Guess.f guessOf
  simp only [l1In_eq, Option.bind_some]
  by_cases h1 : 0 ≤ o ∧ o ≤ 3
  · refine Ev.pos (by simp; omega) (Ev.next (sSignalOk_ev l hl) ?_)
    cases h2 : sigB l
    · rw [if_neg (by simp)]; exact bad
    · rw [if_pos ⟨h1, rfl⟩]
      refine Ev.succ ?_
      simp only [spec_Guess.j0]
      exact Ev.neg (by simp) ((sGuess_l0 o h1 l (sigB_iff.1 h2).1 (sigB_iff.1 h2).2 l.length 0 [] (by omega) rfl).to (by simp))
  · rw [if_neg (fun h => h1 h.1)]; exact Ev.neg (by simp; omega) bad
theorem l9Wide_l0 (l : List Int) (a : Int) (ha : 0 ≤ a) (ha' : a ≤ 9000000000000000000) (hl : l.length ≤ 35184372088832) : ∀ (d i : Nat), i + d = l.length → Ev (fun k => spec_l9Wide.l0 k l a (i : Int)) (allIn a (l.drop i)) := by
  intro d
  induction d with
  | zero =>
    intro i hi
    refine (Ev.round (f := fun _ => some true) (Ev.some_ rfl) (fun k => by simp only [spec_l9Wide.l0]; rw [if_neg (by omega)])).to ?_
    rw [List.drop_of_length_le (by omega)]; rfl
  | succ d ih =>
    intro i hi
    rw [drop_rd (xs := l) (i := i) (by omega)]
    by_cases h1 : -a ≤ rd l i ∧ rd l i ≤ a
    · refine (Ev.round (ih (i + 1) (by omega)) (fun k => ?_)).to ?_
      · simp only [spec_l9Wide.l0, l1In_eq, Option.bind_some]
        rw [if_pos (by omega), if_pos (by omega), w64 (n := -a) (by omega) (by omega), if_pos (by simp; omega), w64_add (by omega) (by omega)]
        simp
      · simp [allIn]; intros; omega
    · refine (Ev.round (f := fun _ => some false) (Ev.some_ rfl) (fun k => ?_)).to (by simp [allIn]; intros; omega)
      simp only [spec_l9Wide.l0, l1In_eq, Option.bind_some]
      rw [if_pos (by omega), if_pos (by omega), w64 (n := -a) (by omega) (by omega), if_neg (by simp; omega)]
theorem l9Wide_ev (l : List Int) (a : Int) (ha : 0 ≤ a) (ha' : a ≤ 9000000000000000000) (hl : l.length ≤ 35184372088832) : Ev (fun k => spec_l9Wide.f k l a) (allIn a l) :=
  (l9Wide_l0 l a ha ha' hl l.length 0 (by omega)).to (by simp)
theorem l17Zig_eq {x : Int} (h0 : -1000000000 ≤ x) (h1 : x ≤ 1000000000) : spec_l17Zig.f x = some (zig x) := by
  unfold spec_l17Zig.f zig
  by_cases h : x < 0
  · rw [if_pos h, if_pos h, w64 (n := -2 * x) (by omega) (by omega), w64 (by omega) (by omega)]
  · rw [if_neg h, if_neg h, w64 (by omega) (by omega)]
theorem l17Many_l0 (kk : Nat) (hk : kk ≤ 30) (l : List Int) (hl : l.length ≤ 1048576) (hw : ∀ x ∈ l, -1000000000 ≤ x ∧ x ≤ 1000000000) : ∀ (d i : Nat) (s : Int), i + d = l.length → 0 ≤ s → s ≤ i * 2000000031 → Ev (fun k => spec_l17Many.l0 k (kk : Int) l s (i : Int)) (s + riceSz kk (l.drop i), decide (s + riceSz kk (l.drop i) ≤ 100000)) := by
  intro d
  induction d with
  | zero =>
    intro i s hi _ _
    refine (Ev.round (f := fun _ => some (s, decide (s ≤ 100000))) (Ev.some_ rfl) (fun k => by simp only [spec_l17Many.l0]; rw [if_neg (by omega)])).to ?_
    rw [List.drop_of_length_le (by omega)]; simp [riceSz]
  | succ d ih =>
    intro i s hi hs hs'
    have hx := hw _ (rd_mem (xs := l) (i := i) (by omega))
    have hz := zig_bd hx.1 hx.2
    have hp : (0 : Int) < 2 ^ kk := Int.pow_pos (by omega)
    have h1 : 0 ≤ zig (rd l i) / 2 ^ kk := Int.ediv_nonneg hz.1 (by omega)
    have h2 : zig (rd l i) / 2 ^ kk ≤ zig (rd l i) := Int.ediv_le_self _ hz.1
    rw [drop_rd (xs := l) (i := i) (by omega)]
    refine (Ev.round (ih (i + 1) (s + (zig (rd l i) / 2 ^ kk + 1 + kk)) (by omega) (by omega) (by omega)) (fun k => ?_)).to ?_
    · simp only [spec_l17Many.l0]
      rw [if_pos (by omega), if_pos (by omega), l17Zig_eq hx.1 hx.2]
      simp only [Option.bind_some]
      rw [wu64 (by omega) (by omega), if_pos (by omega), shr_small (by omega), w64_add (i := (i : Int)) (by omega) (by omega), w64 (n := s + _) (by omega) (by omega), w64 (n := _ + 1) (by omega) (by omega), w64 (by omega) (by omega)]
      rw [show s + (zig (rd l i) / 2 ^ kk + 1 + kk) = s + zig (rd l i) / 2 ^ kk + 1 + kk by omega]; simp
    · simp only [riceSz, Prod.mk.injEq]; rw [show s + (zig (rd l i) / 2 ^ kk + 1 + ↑kk) + riceSz kk (l.drop (i + 1)) = s + (riceSz kk (l.drop (i + 1)) + (zig (rd l i) / 2 ^ kk + 1 + ↑kk)) by omega]; exact ⟨rfl, rfl⟩
theorem l17Many_ev (kk : Nat) (hk : kk ≤ 30) (l : List Int) (hl : l.length ≤ 1048576) : Ev (fun k => spec_l17Many.f k (kk : Int) l) (if l.length ≤ 128 ∧ allIn 1000000000 l = true then (riceSz kk l, decide (riceSz kk l ≤ 100000)) else (0, false)) := by
  unfold spec_l17Many.f
  rw [l1In_eq]
  have hc : (decide (0 ≤ (kk : Int)) && decide ((kk : Int) ≤ 30)) = true := by simp; omega
  rw [hc]
  refine Ev.next (Ev.some_ rfl) (Ev.pos rfl ?_)
  by_cases h : l.length ≤ 128
  · refine Ev.neg (by omega) (Ev.next (l9Wide_ev l 1000000000 (by omega) (by omega) (by omega)) ?_)
    cases hb : allIn 1000000000 l
    · rw [if_neg (by simp)]
      exact Ev.round (Ev.some_ rfl) (fun k => by simp only [spec_l17Many.j0]; rfl)
    · rw [if_pos ⟨h, rfl⟩]
      refine Ev.round ((l17Many_l0 kk hk l hl (allIn_iff.1 hb) l.length 0 0 (by omega) (by omega) (by omega)).to (by simp)) (fun k => by simp only [spec_l17Many.j0]; rw [if_neg (by simp)]; rfl)
  · refine Ev.pos (by omega) ?_
    rw [if_neg (by omega)]
    exact Ev.round (Ev.some_ rfl) (fun k => by simp only [spec_l17Many.j0]; rfl)
theorem sBestRice_l0 (l : List Int) (hl : l.length ≤ 1048576) (hw : l.length ≤ 128 ∧ allIn 1000000000 l = true) : ∀ (d i : Nat) (b m : Int), i + d = 31 → Ev (fun k => spec_BestRice.l0 k l b m (i : Int)) (bestGo (fun k => riceSz k l) d i b m) := by
  intro d
  induction d with
  | zero =>
    intro i b m hi
    exact (Ev.round (f := fun _ => some (b, m)) (Ev.some_ rfl) (fun k => by simp only [spec_BestRice.l0]; rw [if_neg (by omega)]))
  | succ d ih =>
    intro i b m hi
    refine Ev.round (f := fun k => (spec_l17Many.f k (i : Int) l).bind fun t => if t.2 = true then (if b < 0 then spec_BestRice.l0 k l (i : Int) t.1 ((i + 1 : Nat) : Int) else (if t.1 < m then spec_BestRice.l0 k l (i : Int) t.1 ((i + 1 : Nat) : Int) else spec_BestRice.l0 k l b m ((i + 1 : Nat) : Int))) else spec_BestRice.l0 k l b m ((i + 1 : Nat) : Int)) ?_ (fun k => by simp only [spec_BestRice.l0]; rw [if_pos (by omega), w64_add (by omega) (by omega)]; rfl)
    refine Ev.next ((l17Many_ev i (by omega) l hl).to (if_pos hw)) ?_
    simp only [bestGo]
    by_cases h1 : riceSz i l ≤ 100000
    · refine Ev.pos (by simp [h1]) ?_
      by_cases h2 : b < 0
      · rw [if_pos ⟨h1, .inl h2⟩]; exact Ev.pos h2 (ih (i + 1) _ _ (by omega))
      · refine Ev.neg h2 ?_
        by_cases h3 : riceSz i l < m
        · rw [if_pos ⟨h1, .inr h3⟩]; exact Ev.pos h3 (ih (i + 1) _ _ (by omega))
        · rw [if_neg (by omega)]; exact Ev.neg h3 (ih (i + 1) _ _ (by omega))
    · rw [if_neg (by omega)]; exact Ev.neg (by simp; omega) (ih (i + 1) _ _ (by omega))
theorem sBestRice_l0_no (l : List Int) (hl : l.length ≤ 1048576) (hw : ¬ (l.length ≤ 128 ∧ allIn 1000000000 l = true)) : ∀ (d i : Nat) (b m : Int), i + d = 31 → Ev (fun k => spec_BestRice.l0 k l b m (i : Int)) (b, m) := by
  intro d
  induction d with
  | zero =>
    intro i b m hi
    exact (Ev.round (f := fun _ => some (b, m)) (Ev.some_ rfl) (fun k => by simp only [spec_BestRice.l0]; rw [if_neg (by omega)]))
  | succ d ih =>
    intro i b m hi
    refine Ev.round (f := fun k => (spec_l17Many.f k (i : Int) l).bind fun t => if t.2 = true then (if b < 0 then spec_BestRice.l0 k l (i : Int) t.1 ((i + 1 : Nat) : Int) else (if t.1 < m then spec_BestRice.l0 k l (i : Int) t.1 ((i + 1 : Nat) : Int) else spec_BestRice.l0 k l b m ((i + 1 : Nat) : Int))) else spec_BestRice.l0 k l b m ((i + 1 : Nat) : Int)) ?_ (fun k => by simp only [spec_BestRice.l0]; rw [if_pos (by omega), w64_add (by omega) (by omega)]; rfl)
    exact Ev.next ((l17Many_ev i (by omega) l hl).to (if_neg hw)) (Ev.neg (by simp) (ih (i + 1) _ _ (by omega)))
theorem sBestRice_ev (l : List Int) (hl : l.length ≤ 1048576) : Ev (fun k => spec_BestRice.f k l) (bestOf l) := by
  unfold spec_BestRice.f bestOf
  by_cases h : l.length ≤ 128 ∧ allIn 1000000000 l = true
  · rw [if_pos h]; exact sBestRice_l0 l hl h 31 0 (-1) 0 (by omega)
  · rw [if_neg h]; exact sBestRice_l0_no l hl h 31 0 (-1) 0 (by omega)
theorem sOrder_l0 (l : List Int) (hl : l.length ≤ 128) (hs : sigB l = true) : ∀ (d i : Nat) (o q m : Int), i + d = min 4 l.length → Ev (fun k => spec_l17Order.l0 k l o q m (i : Int)) ((orderGo l d i o q m).1, (orderGo l d i o q m).2.1, decide ((orderGo l d i o q m).1 ≥ 0)) := by
  intro d
  induction d with
  | zero =>
    intro i o q m hi
    have last : ∀ b : Bool, b = false → Ev (fun k => spec_l17Order.j1 k l o q m (i : Int) b) (o, q, decide (o ≥ 0)) := by
      intro b hb
      refine Ev.succ ?_
      simp only [spec_l17Order.j1]
      exact Ev.neg (by rw [hb]; decide) (Ev.some_ rfl)
    simp only [orderGo]
    refine Ev.succ ?_
    simp only [spec_l17Order.l0]
    exact Ev.both (fun h => last _ (decide_eq_false (by omega))) (fun _ => last _ rfl)
  | succ d ih =>
    intro i o q m hi
    have e : guessOf (i : Int) l = (guessGo i l l.length 0, true) := if_pos ⟨by omega, hs⟩
    have hg := sGuess_ev (i : Int) l (by omega)
    rw [e] at hg
    refine Ev.succ ?_
    simp only [spec_l17Order.l0]
    refine Ev.pos (by omega) (Ev.succ ?_)
    simp only [spec_l17Order.j1]
    refine Ev.pos (decide_eq_true (by omega)) (Ev.next hg (Ev.next (sBestRice_ev _ (by rw [guessGo_len]; omega)) ?_))
    rw [w64 (n := (i : Int) + 1) (by omega) (by omega), show ((i : Int) + 1) = ((i + 1 : Nat) : Int) by omega]
    by_cases h1 : (bestOf (guessGo i l l.length 0)).1 ≥ 0
    · refine Ev.pos h1 ?_
      by_cases h2 : o < 0
      · rw [show orderGo l (d + 1) i o q m = _ from if_pos ⟨h1, .inl h2⟩]
        exact Ev.pos h2 (ih (i + 1) _ _ _ (by omega))
      · refine Ev.neg h2 ?_
        by_cases h3 : (bestOf (guessGo i l l.length 0)).2 < m
        · rw [show orderGo l (d + 1) i o q m = _ from if_pos ⟨h1, .inr h3⟩]
          exact Ev.pos h3 (ih (i + 1) _ _ _ (by omega))
        · rw [show orderGo l (d + 1) i o q m = _ from if_neg (fun h => h.2.elim h2 h3)]
          exact Ev.neg h3 (ih (i + 1) _ _ _ (by omega))
    · rw [show orderGo l (d + 1) i o q m = _ from if_neg (fun h => h1 h.1)]
      exact Ev.neg h1 (ih (i + 1) _ _ _ (by omega))
theorem sOrder_ev (l : List Int) (hl : l.length ≤ 128) (hs : sigB l = true) : Ev (fun k => spec_l17Order.f k l) ((orderOf l).1, (orderOf l).2.1, decide ((orderOf l).1 ≥ 0)) :=
  sOrder_l0 l hl hs (min 4 l.length) 0 (-1) 0 0 (by omega)
theorem sRice_l0 (kk : Nat) (hk : kk ≤ 30) (l : List Int) (hl : l.length ≤ 128) (hw : ∀ x ∈ l, -1000000000 ≤ x ∧ x ≤ 1000000000) : ∀ (d i : Nat) (acc : List Int), i + d = l.length → acc.length + riceSz kk (l.drop i) ≤ 100000 → Ev (fun k => spec_Rice.l0 k (kk : Int) l acc (i : Int)) (acc ++ riceAll kk (l.drop i), true) := by
  intro d
  induction d with
  | zero =>
    intro i acc hi _
    refine Ev.succ ?_
    simp only [spec_Rice.l0]
    refine Ev.neg (by omega) (Ev.some_ ?_)
    rw [List.drop_of_length_le (by omega)]; simp [riceAll]
  | succ d ih =>
    intro i acc hi hs
    have hx := hw _ (rd_mem (xs := l) (i := i) (by omega))
    have hz := zig_bd hx.1 hx.2
    have hp : (0 : Int) < 2 ^ kk := Int.pow_pos (by omega)
    have h1 : 0 ≤ zig (rd l i) / 2 ^ kk := Int.ediv_nonneg hz.1 (by omega)
    have hr := riceSz_bd kk hk (l.drop (i + 1)) (fun x hx => hw x (List.mem_of_mem_drop hx))
    rw [drop_rd (xs := l) (i := i) (by omega)] at hs ⊢
    simp only [riceSz] at hs
    simp only [riceAll]
    have l2 : ∀ (b : Nat) (a : List Int), b ≤ kk → a.length + b + riceSz kk (l.drop (i + 1)) ≤ 100000 → Ev (fun k => spec_Rice.l2 k (kk : Int) l a (i : Int) (zig (rd l i)) ((b : Int) - 1)) (a ++ lowBits (zig (rd l i)) b ++ riceAll kk (l.drop (i + 1)), true) := by
      intro b
      induction b with
      | zero =>
        intro a _ ha
        refine Ev.succ ?_
        simp only [spec_Rice.l2]
        refine Ev.neg (by omega) ?_
        rw [w64_add (by omega) (by omega)]
        exact (ih (i + 1) a (by omega) (by omega)).to (by simp [lowBits])
      | succ b ihb =>
        intro a hb ha
        refine Ev.succ ?_
        simp only [spec_Rice.l2]
        rw [show (((b + 1 : Nat) : Int) - 1) = (b : Int) by omega, wu64 (by omega) (by omega), w64 (by omega) (by omega), shr_small (by omega), Int.tmod_eq_emod_of_nonneg (Int.ediv_nonneg hz.1 (Int.le_of_lt (Int.pow_pos (by omega))))]
        refine Ev.pos (by omega) (Ev.pos (by omega) (Ev.pos (by omega) ?_))
        refine (ihb (a ++ [zig (rd l i) / 2 ^ b % 2]) (by omega) (by simp; omega)).to ?_
        simp [lowBits]
    have l1 : ∀ (q : Nat) (a : List Int), a.length + q + 1 + kk + riceSz kk (l.drop (i + 1)) ≤ 100000 → Ev (fun k => spec_Rice.l1 k (kk : Int) l a (i : Int) (zig (rd l i)) (q : Int)) (a ++ (List.replicate q 1 ++ 0 :: lowBits (zig (rd l i)) kk) ++ riceAll kk (l.drop (i + 1)), true) := by
      intro q
      induction q with
      | zero =>
        intro a ha
        refine Ev.succ ?_
        simp only [spec_Rice.l1]
        refine Ev.neg (by omega) (Ev.pos (by omega) ?_)
        rw [w64 (by omega) (by omega)]
        refine (l2 kk (a ++ [0]) (by omega) (by simp; omega)).to ?_
        simp
      | succ q ihq =>
        intro a ha
        refine Ev.succ ?_
        simp only [spec_Rice.l1]
        rw [w64 (by omega) (by omega), show ((q + 1 : Nat) : Int) - 1 = (q : Int) by omega]
        refine Ev.pos (by omega) (Ev.pos (by omega) ?_)
        refine (ihq (a ++ [1]) (by simp; omega)).to ?_
        simp [List.replicate_succ]
    refine Ev.succ ?_
    simp only [spec_Rice.l0, l17Zig_eq hx.1 hx.2, Option.bind_some]
    rw [wu64 (by omega) (by omega), shr_small (by omega)]
    refine Ev.pos (by omega) (Ev.pos (by omega) (Ev.pos (by omega) ?_))
    rw [show zig (rd l i) / 2 ^ kk = (((zig (rd l i) / 2 ^ kk).toNat : Nat) : Int) by omega]
    refine (l1 _ acc (by omega)).to ?_
    simp only [riceOne, List.append_assoc]
theorem sRice_ev (kk : Int) (l : List Int) (hl : l.length ≤ 1048576) : Ev (fun k => spec_Rice.f k kk l) (riceOf kk l) := by
  unfold spec_Rice.f riceOf
  by_cases hk : 0 ≤ kk ∧ kk ≤ 30
  · obtain ⟨m, rfl⟩ := Int.eq_ofNat_of_zero_le hk.1
    rw [Int.toNat_natCast]
    refine Ev.next (l17Many_ev m (by omega) l hl) ?_
    by_cases h : l.length ≤ 128 ∧ allIn 1000000000 l = true
    · rw [if_pos h]
      by_cases h2 : riceSz m l ≤ 100000
      · rw [if_pos ⟨by omega, h, by simpa using h2⟩]
        refine Ev.pos (by simpa using h2) ((sRice_l0 m (by omega) l h.1 (allIn_iff.1 h.2) l.length 0 [] (by omega) (by simpa using h2)).to (by simp))
      · rw [if_neg (by simp; intros; omega)]
        exact Ev.neg (by simpa using h2) (Ev.some_ rfl)
    · rw [if_neg h, if_neg (fun hh => h hh.2.1)]
      exact Ev.neg (by simp) (Ev.some_ rfl)
  · rw [if_neg (fun hh => hk hh.1)]
    unfold spec_l17Many.f
    have hc : (decide (0 ≤ kk) && decide (kk ≤ 30)) = false := by simp; omega
    simp only [l1In_eq, Option.bind_some, hc]
    refine Ev.next (a := (0, false)) (Ev.neg (by simp) ?_) (Ev.neg (by simp) (Ev.some_ rfl))
    refine Ev.succ ?_
    simp only [spec_l17Many.j0]
    exact Ev.pos trivial (Ev.some_ rfl)
theorem sCrc_l1 (l : List Int) (x4 : Int) (r : Int) : ∀ (d : Nat) (j x : Int), 0 ≤ j → j + d = 8 → 0 ≤ x ∧ x < 65536 → Ev (fun k => spec_Crc16.l0 k l (crcTurns d x) (wrap64 (x4 + 1))) r → Ev (fun k => spec_Crc16.l1 k l x x4 j) r := by
  intro d
  induction d with
  | zero =>
    intro j x _ hj _ H
    refine Ev.succ ?_
    simp only [spec_Crc16.l1]
    exact Ev.neg (by omega) H
  | succ d ih =>
    intro j x hj0 hj hx H
    refine Ev.succ ?_
    simp only [spec_Crc16.l1]
    refine Ev.pos (by omega) ?_
    rw [w64 (n := 2 * x) (by omega) (by omega), w64 (n := j + 1) (by omega) (by omega)]
    simp only [crcTurns] at H
    by_cases h : x ≥ 32768
    · refine Ev.pos h (ih _ _ (by omega) (by omega) ?_ ?_)
      · rw [bits_xor (by omega) (by omega)]
        have b := xorI_bd (a := 2 * x) (b := 4129) (n := 17) (by omega) (by omega)
        rw [Int.tmod_eq_emod_of_nonneg b.1]; omega
      · rw [bits_xor (by omega) (by omega)]
        have b := xorI_bd (a := 2 * x) (b := 4129) (n := 17) (by omega) (by omega)
        rw [Int.tmod_eq_emod_of_nonneg b.1, show xorI (2 * x) 4129 % 65536 = crcStep x from (if_pos h).symm]
        exact H
    · refine Ev.neg h (ih _ _ (by omega) (by omega) ?_ ?_)
      · rw [Int.tmod_eq_emod_of_nonneg (by omega)]; omega
      · rw [Int.tmod_eq_emod_of_nonneg (by omega), show 2 * x % 65536 = crcStep x from (if_neg h).symm]
        exact H
theorem sCrc_l0 (l : List Int) (hl : l.length ≤ 65536) (hb : ∀ b ∈ l, 0 ≤ b ∧ b < 256) : ∀ (d i : Nat) (x : Int), i + d = l.length → 0 ≤ x ∧ x < 65536 → Ev (fun k => spec_Crc16.l0 k l x (i : Int)) (crcGo (l.drop i) x) := by
  intro d
  induction d with
  | zero =>
    intro i x hi hx
    rw [List.drop_of_length_le (by omega)]
    refine Ev.succ ?_
    simp only [spec_Crc16.l0]
    exact Ev.neg (by omega) (Ev.some_ rfl)
  | succ d ih =>
    intro i x hi hx
    have hr := hb _ (rd_mem (xs := l) (i := i) (by omega))
    rw [drop_rd (by omega)]
    refine Ev.succ ?_
    simp only [spec_Crc16.l0, crcGo]
    refine Ev.pos (by omega) (Ev.pos (by omega) ?_)
    rw [w64 (n := rd l (i : Int)) (by omega) (by omega), w64 (n := 256 * rd l (i : Int)) (by omega) (by omega), bits_xor (by omega) (by omega)]
    have b := xorI_bd (a := x) (b := 256 * rd l (i : Int)) (n := 16) (by omega) (by omega)
    refine sCrc_l1 l i _ 8 0 _ (by omega) (by omega) (by omega) ?_
    rw [w64 (n := (i : Int) + 1) (by omega) (by omega), show ((i : Int) + 1) = ((i + 1 : Nat) : Int) by omega]
    exact ih (i + 1) _ (by omega) (crcTurns_bd 8 _ (by omega))
theorem sCrc_ev (l : List Int) (hb : ∀ b ∈ l, 0 ≤ b ∧ b < 256) : Ev (fun k => spec_Crc16.f k l) (crcOf l) := by
  unfold spec_Crc16.f crcOf
  by_cases h : l.length > 65536
  · rw [if_pos h]; exact Ev.pos (by omega) (Ev.some_ rfl)
  · rw [if_neg h]; exact Ev.neg (by omega) (sCrc_l0 l (by omega) hb l.length 0 65535 (by omega) (by omega))
theorem sPack_l0 (bs hd : List Int) (hl : bs.length ≤ 100000) (hb : ∀ x ∈ bs, x = 0 ∨ x = 1) (hh : ∀ x ∈ hd, 0 ≤ x ∧ x < 256) (hn : hd.length ≤ 100) : ∀ (d i : Nat) (acc : List Int), i + d = bs.length → acc.length = (bs.length + 7) / 8 → (∀ x ∈ acc, 0 ≤ x ∧ x < 256) → Ev (fun k => spec_PackFrame.l0 k bs hd acc (i : Int)) ((hd ++ packGo bs d i acc) ++ [crcOf (hd ++ packGo bs d i acc) / 256 % 256, crcOf (hd ++ packGo bs d i acc) % 256], true) := by
  intro d
  induction d with
  | zero =>
    intro i acc hi ha hx
    have hbb : ∀ x ∈ hd ++ acc, 0 ≤ x ∧ x < 256 := fun x h => (List.mem_append.1 h).elim (hh x) (hx x)
    have c := crcOf_bd hbb
    simp only [packGo]
    refine Ev.succ ?_
    simp only [spec_PackFrame.l0, Option.bind_some]
    refine Ev.neg (by omega) (Ev.pos (by omega) (Ev.next (sCrc_ev _ hbb) ?_))
    rw [Int.tdiv_eq_ediv_of_nonneg c.1, Int.tmod_eq_emod_of_nonneg c.1, w64 (n := crcOf (hd ++ acc) / 256) (by omega) (by omega), Int.emod_emod]
    refine Ev.pos ?_ (Ev.some_ rfl)
    simp only [List.length_append, List.length_cons, List.length_nil]
    omega
  | succ d ih =>
    intro i acc hi ha hx
    have hbit := hb _ (rd_mem (xs := bs) (i := i) (by omega))
    have e1 : wrap64 (Int.tdiv (i : Int) 8) = ((i / 8 : Nat) : Int) := by rw [Int.tdiv_eq_ediv_of_nonneg (by omega), w64 (by omega) (by omega)]; omega
    have e2 : IntKind.u64.wrap (wrap64 (7 - Int.tmod (i : Int) 8)) = ((7 - i % 8 : Nat) : Int) := by rw [Int.tmod_eq_emod_of_nonneg (by omega), w64 (by omega) (by omega), wu64 (by omega) (by omega)]; omega
    refine Ev.succ ?_
    simp only [spec_PackFrame.l0, packGo, e1, e2, shl_bit64 (7 - i % 8) (by omega) _ hbit]
    refine Ev.pos (by omega) (Ev.pos (by omega) (Ev.pos (by omega) (Ev.pos (by omega) (Ev.pos (by omega) ?_))))
    rw [w64 (n := (i : Int) + 1) (by omega) (by omega), show ((i : Int) + 1) = ((i + 1 : Nat) : Int) by omega]
    exact ih (i + 1) _ (by omega) (by simpa using ha) (fun x h => by
      rcases List.mem_or_eq_of_mem_set h with h | rfl
      · exact hx x h
      · exact packVal_bd bs acc i)
theorem sPackFrame_ev (l : List Int) (hl : l.length ≤ 1048576) : Ev (fun k => spec_PackFrame.f k l) (frameOf l) := by
  have ft : ∀ b : Bool, b = true → Ev (fun k => spec_PackFrame.j0 k l b) ([], false) := by
    intro b hb
    refine Ev.succ ?_
    simp only [spec_PackFrame.j0]
    exact Ev.pos hb (Ev.some_ rfl)
  unfold spec_PackFrame.f frameOf
  rw [l1In_eq]
  simp only [Option.bind_some]
  by_cases h1 : 1 ≤ l.length ∧ l.length ≤ 128
  · refine Ev.pos (by simp; omega) (Ev.next (sSignalOk_ev l (by omega)) ?_)
    by_cases h2 : sigB l = true
    · rw [if_pos ⟨h1, h2⟩]
      refine Ev.succ ?_
      simp only [spec_PackFrame.j0]
      refine Ev.neg (by rw [h2]; decide) (Ev.next (sOrder_ev l h1.2 h2) ?_)
      have ob := orderGo_bd l (min 4 l.length) 0 (-1) 0 0 (by omega) (by omega)
      rw [show orderGo l (min 4 l.length) 0 (-1) 0 0 = orderOf l from rfl] at ob
      by_cases h3 : (orderOf l).1 < 0
      · rw [if_pos h3]
        exact Ev.neg (by simp; omega) (Ev.some_ rfl)
      · rw [if_neg h3]
        have e : guessOf (orderOf l).1 l = (guessGo (orderOf l).1 l l.length 0, true) := if_pos ⟨by omega, h2⟩
        have hg := sGuess_ev (orderOf l).1 l (by omega)
        rw [e] at hg
        refine Ev.pos (decide_eq_true (by omega)) (Ev.next hg (Ev.next (sRice_ev _ _ (by rw [guessGo_len]; omega)) ?_))
        obtain ⟨bs, hbs⟩ : ∃ bs, (riceOf (orderOf l).2.1 (guessGo (orderOf l).1 l l.length 0)).1 = bs := ⟨_, rfl⟩
        have hlen := riceOf_len (orderOf l).2.1 (guessGo (orderOf l).1 l l.length 0)
        have hbit := riceOf_bit (orderOf l).2.1 (guessGo (orderOf l).1 l l.length 0)
        rw [hbs] at hlen hbit ⊢
        have e1 : wrap64 (Int.tdiv (wrap64 ((bs.length : Int) + 7)) 8) = (((bs.length + 7) / 8 : Nat) : Int) := by
          rw [w64 (n := (bs.length : Int) + 7) (by omega) (by omega), Int.tdiv_eq_ediv_of_nonneg (by omega), w64 (by omega) (by omega)]; omega
        simp only [e1, Int.toNat_natCast]
        refine Ev.pos (by omega) (Ev.pos (by omega) ?_)
        exact sPack_l0 bs _ hlen hbit (fun x h => by simp only [List.mem_cons, List.not_mem_nil, or_false] at h; rcases h with h | h | h <;> omega) (by simp) bs.length 0 _ (by omega) (by simp) (fun x hx => by rw [List.eq_of_mem_replicate hx]; omega)
    · rw [if_neg (fun h => h2 h.2)]
      exact ft _ (by simpa using h2)
  · rw [if_neg (fun h => h1 h.1)]
    exact Ev.neg (by simp; omega) (ft _ rfl)
theorem l17Least_eq (a b : Int) : spec_l17Least.f a b = some (mn a b) := by
  unfold spec_l17Least.f mn
  by_cases h : a < b
  · rw [if_pos h]; simp; omega
  · rw [if_neg h]; simp; omega
theorem sPackAll_l0 (l : List Int) (s : Nat) (hs : 1 ≤ s ∧ s ≤ 128) (hl : l.length ≤ 512) : ∀ (d i : Nat) (out : List Int), l.length ≤ i + d → out.length ≤ 20000 * i → i ≤ 1024 → Ev (fun k => spec_PackAll.l0 k l (s : Int) out (i : Int)) (packAllGo s d (l.drop i) out) := by
  have fin : ∀ (i : Nat) (out : List Int), l.length ≤ i → Ev (fun k => spec_PackAll.l0 k l (s : Int) out (i : Int)) (packEnd out) := by
    intro i out hi
    refine Ev.succ ?_
    simp only [spec_PackAll.l0]
    refine Ev.neg (by omega) ?_
    unfold packEnd
    exact Ev.cond (fun _ => Ev.some_ rfl) (fun _ => Ev.some_ rfl)
  intro d
  induction d with
  | zero =>
    intro i out hi ho hb
    exact fin i out (by omega)
  | succ d ih =>
    intro i out hi ho hb
    by_cases hn : l.length ≤ i
    · rw [List.drop_of_length_le hn, packAllGo_nil]; exact fin i out hn
    · rw [show packAllGo s (d + 1) (l.drop i) out = _ from if_neg (by rw [List.length_drop]; omega)]
      have hm : mn ((i : Int) + (s : Int)) (l.length : Int) = ((min (i + s) l.length : Nat) : Int) := by unfold mn; split <;> omega
      have e : (l.take (min (i + s) l.length)).drop i = (l.drop i).take s := by
        rw [List.drop_take]
        by_cases h : i + s ≤ l.length
        · rw [Nat.min_eq_left h, Nat.add_sub_cancel_left]
        · rw [Nat.min_eq_right (by omega), List.take_of_length_le (by have := List.length_drop (i := i) (l := l); omega), List.take_of_length_le (by have := List.length_drop (i := i) (l := l); omega)]
      have hf := frameOf_len ((l.drop i).take s)
      have hw : wrap64 ((i : Int) + (s : Int)) = ((i + s : Nat) : Int) := by rw [w64 (by omega) (by omega)]; omega
      have hx : spec_l17Least.f (wrap64 ((i : Int) + (s : Int))) (l.length : Int) = some ((min (i + s) l.length : Nat) : Int) := by rw [l17Least_eq, ← hm, hw]; congr 2
      refine Ev.succ ?_
      simp only [spec_PackAll.l0]
      rw [hw] at hx ⊢
      refine Ev.pos (by omega) (Ev.next (Ev.here hx) ?_)
      rw [Int.toNat_natCast, Int.toNat_natCast, e]
      refine Ev.pos (by omega) (Ev.pos (by omega) (Ev.pos (by omega) (Ev.next (sPackFrame_ev ((l.drop i).take s) (by rw [List.length_take]; omega)) ?_)))
      by_cases h2 : (frameOf ((l.drop i).take s)).2 = true
      · rw [if_pos h2]
        refine Ev.pos h2 (Ev.pos (by omega) ?_)
        rw [List.drop_drop]
        exact ih (i + s) _ (by omega) (by rw [List.length_append]; omega) (by omega)
      · rw [if_neg h2]
        exact Ev.neg h2 (Ev.some_ rfl)
theorem sPackAll_ev (l : List Int) (a : Int) (hl : l.length ≤ 1048576) : Ev (fun k => spec_PackAll.f k l a) (packAllOf l a) := by
  have ft : ∀ b : Bool, b = true → Ev (fun k => spec_PackAll.j0 k l a [] b) ([], false) := by
    intro b hb
    refine Ev.succ ?_
    simp only [spec_PackAll.j0]
    exact Ev.pos hb (Ev.some_ rfl)
  unfold spec_PackAll.f packAllOf
  refine Ev.next (Ev.some_ rfl) (Ev.next (sSignalOk_ev l (by omega)) ?_)
  by_cases h1 : sigB l = true
  · rw [l1In_eq]
    simp only [Option.bind_some]
    refine Ev.pos h1 ?_
    by_cases h2 : 1 ≤ a ∧ a ≤ 128
    · rw [if_pos ⟨h1, h2⟩]
      obtain ⟨s, rfl⟩ := Int.eq_ofNat_of_zero_le (show 0 ≤ a by omega)
      refine Ev.succ ?_
      simp only [spec_PackAll.j0]
      have := sigB_iff.1 h1
      exact Ev.neg (by simp; omega) (sPackAll_l0 l s (by omega) this.1 l.length 0 [] (by omega) (by simp) (by omega))
    · rw [if_neg (fun h => h2 h.2)]
      exact ft _ (by simp; omega)
  · rw [if_neg (fun h => h1 h.1)]
    exact Ev.neg h1 (ft _ rfl)
theorem foretold_eq (o : Int) (l : List Int) (i : Nat) (hi : i ≤ l.length) (ho : 0 ≤ o) (h : ∀ x ∈ l, -1000000000 ≤ x ∧ x ≤ 1000000000) : impl_foretold.f o (l.take i) = some (foreN o l i) := by
  have hl : (l.take i).length = i := by rw [List.length_take]; omega
  have h1 := rd_bd (l := l) (i := (i : Int) - 1) h
  have h2 := rd_bd (l := l) (i := (i : Int) - 2) h
  have h3 := rd_bd (l := l) (i := (i : Int) - 3) h
  have hm : mn o i ≤ i := by unfold mn; split <;> omega
  unfold impl_foretold.f foreN
  rw [hl]
  by_cases c1 : mn o i = 1
  · rw [if_pos c1, if_pos c1, rd_take (by omega) (by omega)]
  rw [if_neg c1, if_neg c1]
  by_cases c2 : mn o i = 2
  · rw [if_pos c2, if_pos c2, rd_take (by omega) (by omega), rd_take (by omega) (by omega), w64 (n := 2 * _) (by omega) (by omega), w64 (by omega) (by omega)]
  rw [if_neg c2, if_neg c2]
  by_cases c3 : mn o i = 3
  · rw [if_pos c3, if_pos c3, rd_take (by omega) (by omega), rd_take (by omega) (by omega), rd_take (by omega) (by omega), w64 (n := rd l ((i : Int) - 1) - _) (by omega) (by omega), w64 (n := 3 * _) (by omega) (by omega), w64 (by omega) (by omega)]
  rw [if_neg c3, if_neg c3]
theorem within_l0 (l : List Int) (a : Int) (ha : 0 ≤ a) (ha' : a ≤ 9000000000000000000) (hl : l.length ≤ 35184372088832) : ∀ (d i : Nat), i + d = l.length → Ev (fun k => impl_within.l0 k a l (l.length : Int) (i : Int)) (allIn a (l.drop i)) := by
  intro d
  induction d with
  | zero =>
    intro i hi
    refine (Ev.round (f := fun _ => some true) (Ev.some_ rfl) (fun k => by simp only [impl_within.l0]; rw [if_neg (by omega)])).to ?_
    rw [List.drop_of_length_le (by omega)]; rfl
  | succ d ih =>
    intro i hi
    rw [drop_rd (xs := l) (i := i) (by omega)]
    by_cases h1 : rd l i < -a
    · refine (Ev.round (f := fun _ => some false) (Ev.some_ rfl) (fun k => ?_)).to (by simp [allIn]; intros; omega)
      simp only [impl_within.l0]
      rw [if_pos (by omega), if_pos (by omega), if_pos (by omega), w64 (n := -a) (by omega) (by omega), if_pos h1]
    · by_cases h2 : rd l i > a
      · refine (Ev.round (f := fun _ => some false) (Ev.some_ rfl) (fun k => ?_)).to (by simp [allIn]; intros; omega)
        simp only [impl_within.l0]
        rw [if_pos (by omega), if_pos (by omega), if_pos (by omega), w64 (n := -a) (by omega) (by omega), if_neg h1, if_pos h2]
      · refine (Ev.round (ih (i + 1) (by omega)) (fun k => ?_)).to ?_
        · simp only [impl_within.l0]
          rw [if_pos (by omega), if_pos (by omega), if_pos (by omega), w64 (n := -a) (by omega) (by omega), if_neg h1, if_neg h2, w64_add (by omega) (by omega)]
          simp
        · simp [allIn]; intros; omega
theorem within_ev (l : List Int) (a : Int) (ha : 0 ≤ a) (ha' : a ≤ 9000000000000000000) (hl : l.length ≤ 35184372088832) : Ev (fun k => impl_within.f k l a) (allIn a l) :=
  (within_l0 l a ha ha' hl l.length 0 (by omega)).to (by simp)
theorem iSignalOk_ev (l : List Int) (hl : l.length ≤ 1048576) : Ev (fun k => impl_SignalOk.f k l) (sigB l) := by
  unfold impl_SignalOk.f sigB
  by_cases h : l.length ≤ 512
  · exact Ev.pos (by omega) (Ev.next (within_ev l 1000000000 (by omega) (by omega) (by omega)) (Ev.some_ (by simp [h])))
  · exact Ev.neg (by omega) (Ev.some_ (by simp [h]))
theorem guess4_l0 (o : Int) (ho : 0 ≤ o) (l : List Int) (hl : l.length ≤ 512) (h : ∀ x ∈ l, -1000000000 ≤ x ∧ x ≤ 1000000000) : ∀ (d i : Nat) (acc : List Int), i + d = l.length → acc.length = i → Ev (fun k => impl_guess4.l0 k o l acc l (l.length : Int) (i : Int)) (acc ++ guessGo o l d i) := by
  intro d
  induction d with
  | zero =>
    intro i acc hi ha
    refine Ev.succ ?_
    simp only [impl_guess4.l0]
    exact Ev.neg (by omega) (Ev.some_ (by simp [guessGo]))
  | succ d ih =>
    intro i acc hi ha
    have hf := foreN_bd (o := o) (l := l) (i := i) h
    have hr := rd_bd (l := l) (i := (i : Int)) h
    refine Ev.succ ?_
    simp only [impl_guess4.l0, Int.toNat_natCast]
    rw [foretold_eq o l i (by omega) ho h, w64_add (by omega) (by omega)]
    simp only [Option.bind_some]
    rw [w64 (n := rd l i - _) (by omega) (by omega)]
    refine Ev.pos (by omega) (Ev.pos (by omega) (Ev.pos (by omega) (Ev.pos (by omega) (Ev.pos (by omega) ?_))))
    exact (ih (i + 1) (acc ++ [rd l i - foreN o l i]) (by omega) (by simp; omega)).to (by simp [guessGo])
theorem guess4_ev (o : Int) (ho : 0 ≤ o) (l : List Int) (hs : sigB l = true) : Ev (fun k => impl_guess4.f k o l) (guessGo o l l.length 0) :=
  (guess4_l0 o ho l (sigB_iff.1 hs).1 (sigB_iff.1 hs).2 l.length 0 [] (by omega) rfl).to (by simp)
theorem folded_eq {x : Int} (h0 : -1000000000 ≤ x) (h1 : x ≤ 1000000000) : impl_folded.f x = some (zig x) := by
  unfold impl_folded.f zig
  by_cases h : x < 0
  · rw [if_pos h, if_pos h, w64 (n := -2 * x) (by omega) (by omega), w64 (by omega) (by omega)]
  · rw [if_neg h, if_neg h, w64 (by omega) (by omega)]
theorem riceSize_l0 (kk : Nat) (hk : kk ≤ 30) (l : List Int) (hl : l.length ≤ 1048576) (hw : ∀ x ∈ l, -1000000000 ≤ x ∧ x ≤ 1000000000) : ∀ (d i : Nat) (s : Int), i + d = l.length → 0 ≤ s → s ≤ i * 2000000031 → Ev (fun k => impl_riceSize.l0 k (kk : Int) s l (l.length : Int) (i : Int)) (s + riceSz kk (l.drop i)) := by
  intro d
  induction d with
  | zero =>
    intro i s hi _ _
    refine (Ev.round (f := fun _ => some s) (Ev.some_ rfl) (fun k => by simp only [impl_riceSize.l0]; rw [if_neg (by omega)])).to ?_
    rw [List.drop_of_length_le (by omega)]; simp [riceSz]
  | succ d ih =>
    intro i s hi hs hs'
    have hx := hw _ (rd_mem (xs := l) (i := i) (by omega))
    have hz := zig_bd hx.1 hx.2
    have hp : (0 : Int) < 2 ^ kk := Int.pow_pos (by omega)
    have h1 : 0 ≤ zig (rd l i) / 2 ^ kk := Int.ediv_nonneg hz.1 (by omega)
    have h2 : zig (rd l i) / 2 ^ kk ≤ zig (rd l i) := Int.ediv_le_self _ hz.1
    rw [drop_rd (xs := l) (i := i) (by omega)]
    refine (Ev.round (ih (i + 1) (s + (zig (rd l i) / 2 ^ kk + 1 + kk)) (by omega) (by omega) (by omega)) (fun k => ?_)).to ?_
    · simp only [impl_riceSize.l0]
      rw [if_pos (by omega), if_pos (by omega), if_pos (by omega), folded_eq hx.1 hx.2]
      simp only [Option.bind_some]
      rw [if_pos (by omega), shr_small (by omega), w64_add (i := (i : Int)) (by omega) (by omega), w64 (n := _ + 1) (by omega) (by omega), w64 (n := _ + (kk : Int)) (by omega) (by omega), w64 (by omega) (by omega)]
      simp
    · simp only [riceSz]; omega
theorem riceSize_ev (kk : Nat) (hk : kk ≤ 30) (l : List Int) (hl : l.length ≤ 1048576) (hw : ∀ x ∈ l, -1000000000 ≤ x ∧ x ≤ 1000000000) : Ev (fun k => impl_riceSize.f k (kk : Int) l) (riceSz kk l) :=
  (riceSize_l0 kk hk l hl hw l.length 0 0 (by omega) (by omega) (by omega)).to (by simp)
theorem riceOk_ev (l : List Int) (hl : l.length ≤ 1048576) : Ev (fun k => impl_riceOk.f k l) (decide (l.length ≤ 128 ∧ allIn 1000000000 l = true)) := by
  unfold impl_riceOk.f
  by_cases h : l.length ≤ 128
  · exact Ev.pos (by omega) (Ev.next (within_ev l 1000000000 (by omega) (by omega) (by omega)) (Ev.some_ (by simp [h])))
  · exact Ev.neg (by omega) (Ev.some_ (by simp [h]))
theorem iBestRice_l0 (l : List Int) (hl : l.length ≤ 1048576) (hw : ∀ x ∈ l, -1000000000 ≤ x ∧ x ≤ 1000000000) : ∀ (d i : Nat) (b m : Int), i + d = 31 → Ev (fun k => impl_BestRice.l0 k l b m (i : Int)) (bestGo (fun k => riceSz k l) d i b m) := by
  intro d
  induction d with
  | zero =>
    intro i b m hi
    exact (Ev.round (f := fun _ => some (b, m)) (Ev.some_ rfl) (fun k => by simp only [impl_BestRice.l0]; rw [if_neg (by omega)]))
  | succ d ih =>
    intro i b m hi
    refine Ev.round (f := fun k => (impl_riceSize.f k (i : Int) l).bind fun t => if t ≤ 100000 then (if b < 0 then impl_BestRice.l0 k l (i : Int) t ((i + 1 : Nat) : Int) else (if t < m then impl_BestRice.l0 k l (i : Int) t ((i + 1 : Nat) : Int) else impl_BestRice.l0 k l b m ((i + 1 : Nat) : Int))) else impl_BestRice.l0 k l b m ((i + 1 : Nat) : Int)) ?_ (fun k => by simp only [impl_BestRice.l0]; rw [if_pos (by omega), w64_add (by omega) (by omega)]; rfl)
    refine Ev.next (riceSize_ev i (by omega) l hl hw) ?_
    simp only [bestGo]
    by_cases h1 : riceSz i l ≤ 100000
    · refine Ev.pos h1 ?_
      by_cases h2 : b < 0
      · rw [if_pos ⟨h1, .inl h2⟩]; exact Ev.pos h2 (ih (i + 1) _ _ (by omega))
      · refine Ev.neg h2 ?_
        by_cases h3 : riceSz i l < m
        · rw [if_pos ⟨h1, .inr h3⟩]; exact Ev.pos h3 (ih (i + 1) _ _ (by omega))
        · rw [if_neg (by omega)]; exact Ev.neg h3 (ih (i + 1) _ _ (by omega))
    · rw [if_neg (by omega)]; exact Ev.neg h1 (ih (i + 1) _ _ (by omega))
theorem iBestRice_ev (l : List Int) (hl : l.length ≤ 1048576) : Ev (fun k => impl_BestRice.f k l) (bestOf l) := by
  unfold impl_BestRice.f bestOf
  refine Ev.next (riceOk_ev l hl) ?_
  by_cases h : l.length ≤ 128 ∧ allIn 1000000000 l = true
  · rw [if_pos h]
    exact Ev.pos (by simp [h]) (iBestRice_l0 l hl (allIn_iff.1 h.2) 31 0 (-1) 0 (by omega))
  · rw [if_neg h]
    exact Ev.neg (by simp; simpa using h) (Ev.some_ rfl)
theorem riceK_eq (a : Int) : impl_riceK.f a = some (decide (0 ≤ a ∧ a ≤ 30)) := by
  unfold impl_riceK.f
  by_cases h : a ≥ 0 <;> simp [h]
theorem iRice_l0 (kk : Nat) (hk : kk ≤ 30) (l : List Int) (hl : l.length ≤ 128) (hw : ∀ x ∈ l, -1000000000 ≤ x ∧ x ≤ 1000000000) : ∀ (d i : Nat) (acc : List Int), i + d = l.length → acc.length + riceSz kk (l.drop i) ≤ 100000 → Ev (fun k => impl_Rice.l0 k (kk : Int) acc l (l.length : Int) (i : Int)) (acc ++ riceAll kk (l.drop i), true) := by
  intro d
  induction d with
  | zero =>
    intro i acc hi _
    refine Ev.succ ?_
    simp only [impl_Rice.l0]
    refine Ev.neg (by omega) (Ev.some_ ?_)
    rw [List.drop_of_length_le (by omega)]; simp [riceAll]
  | succ d ih =>
    intro i acc hi hs
    have hx := hw _ (rd_mem (xs := l) (i := i) (by omega))
    have hz := zig_bd hx.1 hx.2
    have hp : (0 : Int) < 2 ^ kk := Int.pow_pos (by omega)
    have h1 : 0 ≤ zig (rd l i) / 2 ^ kk := Int.ediv_nonneg hz.1 (by omega)
    have h2 : zig (rd l i) / 2 ^ kk ≤ zig (rd l i) := Int.ediv_le_self _ hz.1
    have hr := riceSz_bd kk hk (l.drop (i + 1)) (fun x hx => hw x (List.mem_of_mem_drop hx))
    rw [drop_rd (xs := l) (i := i) (by omega)] at hs ⊢
    simp only [riceSz] at hs
    simp only [riceAll]
    have l2 : ∀ (b : Nat) (a : List Int), b ≤ kk → a.length + b + riceSz kk (l.drop (i + 1)) ≤ 100000 → Ev (fun k => impl_Rice.l2 k (kk : Int) a (zig (rd l i)) ((b : Int) - 1) l (l.length : Int) (i : Int)) (a ++ lowBits (zig (rd l i)) b ++ riceAll kk (l.drop (i + 1)), true) := by
      intro b
      induction b with
      | zero =>
        intro a _ ha
        refine Ev.succ ?_
        simp only [impl_Rice.l2]
        refine Ev.neg (by omega) ?_
        rw [w64_add (by omega) (by omega)]
        exact (ih (i + 1) a (by omega) (by omega)).to (by simp [lowBits])
      | succ b ihb =>
        intro a hb ha
        refine Ev.succ ?_
        simp only [impl_Rice.l2]
        rw [show (((b + 1 : Nat) : Int) - 1) = (b : Int) by omega, w64 (by omega) (by omega), shr_small (by omega)]
        have hm := bits_and_mask (zig (rd l i) / 2 ^ b) 1 (by omega)
        rw [show ((2 : Int) ^ 1 - 1) = 1 by rfl, show ((2 : Int) ^ 1) = 2 by rfl] at hm
        rw [hm]
        refine Ev.pos (by omega) (Ev.pos (by omega) (Ev.pos (by omega) ?_))
        refine (ihb (a ++ [zig (rd l i) / 2 ^ b % 2]) (by omega) (by simp; omega)).to ?_
        simp [lowBits]
    have l1 : ∀ (q j : Nat) (a : List Int), (j : Int) + q = zig (rd l i) / 2 ^ kk → a.length + q + 1 + kk + riceSz kk (l.drop (i + 1)) ≤ 100000 → Ev (fun k => impl_Rice.l1 k (kk : Int) a (zig (rd l i)) l (l.length : Int) (i : Int) (zig (rd l i) / 2 ^ kk) (j : Int)) (a ++ (List.replicate q 1 ++ 0 :: lowBits (zig (rd l i)) kk) ++ riceAll kk (l.drop (i + 1)), true) := by
      intro q
      induction q with
      | zero =>
        intro j a hj ha
        refine Ev.succ ?_
        simp only [impl_Rice.l1]
        refine Ev.neg (by omega) (Ev.pos (by omega) ?_)
        rw [w64 (by omega) (by omega)]
        refine (l2 kk (a ++ [0]) (by omega) (by simp; omega)).to ?_
        simp
      | succ q ihq =>
        intro j a hj ha
        refine Ev.succ ?_
        simp only [impl_Rice.l1]
        rw [w64_add (by omega) (by omega)]
        refine Ev.pos (by omega) (Ev.pos (by omega) ?_)
        refine (ihq (j + 1) (a ++ [1]) (by omega) (by simp; omega)).to ?_
        simp [List.replicate_succ]
    refine Ev.succ ?_
    simp only [impl_Rice.l0, folded_eq hx.1 hx.2, Option.bind_some]
    rw [shr_small (by omega)]
    refine Ev.pos (by omega) (Ev.pos (by omega) (Ev.pos (by omega) (Ev.pos (by omega) ?_)))
    refine (l1 (zig (rd l i) / 2 ^ kk).toNat 0 acc (by omega) (by omega)).to ?_
    simp only [riceOne, List.append_assoc]
theorem iRice_ev (kk : Int) (l : List Int) (hl : l.length ≤ 1048576) : Ev (fun k => impl_Rice.f k kk l) (riceOf kk l) := by
  have bad : Ev (fun k => impl_Rice.j0 k kk l true) ([], false) := by
    refine Ev.succ ?_
    simp only [impl_Rice.j0]
    exact Ev.pos trivial (Ev.some_ rfl)
  unfold impl_Rice.f riceOf
  rw [riceK_eq]
  simp only [Option.bind_some]
  by_cases hk : 0 ≤ kk ∧ kk ≤ 30
  · obtain ⟨m, rfl⟩ := Int.eq_ofNat_of_zero_le hk.1
    rw [Int.toNat_natCast]
    refine Ev.pos (by simp [hk]) (Ev.next (riceOk_ev l hl) ?_)
    by_cases h : l.length ≤ 128 ∧ allIn 1000000000 l = true
    · refine Ev.pos (by simp [h]) ?_
      refine Ev.next (riceSize_ev m (by omega) l hl (allIn_iff.1 h.2)) ?_
      by_cases h2 : riceSz m l ≤ 100000
      · rw [if_pos ⟨by omega, h, by simpa using h2⟩, show decide (riceSz m l > 100000) = false by simp; omega]
        refine Ev.succ ?_
        simp only [impl_Rice.j0]
        exact Ev.neg (by simp) ((iRice_l0 m (by omega) l h.1 (allIn_iff.1 h.2) l.length 0 [] (by omega) (by simpa using h2)).to (by simp))
      · rw [if_neg (by simp; intros; omega), show decide (riceSz m l > 100000) = true by simp; omega]
        exact bad
    · rw [if_neg (fun hh => h hh.2.1)]
      exact Ev.neg (by simpa using h) bad
  · rw [if_neg (fun hh => hk hh.1)]
    exact Ev.neg (by simp; omega) bad
theorem pack8_l0 (bs : List Int) (hl : bs.length ≤ 1000000) (hb : ∀ x ∈ bs, x = 0 ∨ x = 1) : ∀ (d i : Nat) (acc : List Int), i + d = bs.length → acc.length = (bs.length + 7) / 8 → Ev (fun k => impl_pack8.l0 k acc bs (bs.length : Int) (i : Int)) (packGo bs d i acc) := by
  intro d
  induction d with
  | zero =>
    intro i acc hi _
    refine Ev.succ ?_
    simp only [impl_pack8.l0]
    exact Ev.neg (by omega) (Ev.some_ rfl)
  | succ d ih =>
    intro i acc hi ha
    have hbit := hb _ (rd_mem (xs := bs) (i := i) (by omega))
    have e1 : wrap64 (Int.tdiv (i : Int) 8) = ((i / 8 : Nat) : Int) := by rw [Int.tdiv_eq_ediv_of_nonneg (by omega), w64 (by omega) (by omega)]; omega
    have e2 : wrap64 (7 - Int.tmod (i : Int) 8) = ((7 - i % 8 : Nat) : Int) := by rw [Int.tmod_eq_emod_of_nonneg (by omega), w64 (by omega) (by omega)]; omega
    refine Ev.succ ?_
    simp only [impl_pack8.l0, packGo, e1, e2, shl_bit8 (7 - i % 8) (by omega) _ hbit]
    refine Ev.pos (by omega) (Ev.pos (by omega) (Ev.pos (by omega) (Ev.pos (by omega) (Ev.pos (by omega) (Ev.pos (by omega) ?_)))))
    rw [w64 (n := (i : Int) + 1) (by omega) (by omega), show ((i : Int) + 1) = ((i + 1 : Nat) : Int) by omega]
    exact ih (i + 1) _ (by omega) (by simpa using ha)
theorem pack8_ev (bs : List Int) (hl : bs.length ≤ 1000000) (hb : ∀ x ∈ bs, x = 0 ∨ x = 1) : Ev (fun k => impl_pack8.f k bs) (packOf bs) := by
  have e1 : wrap64 (Int.tdiv (wrap64 ((bs.length : Int) + 7)) 8) = (((bs.length + 7) / 8 : Nat) : Int) := by
    rw [w64 (n := (bs.length : Int) + 7) (by omega) (by omega), Int.tdiv_eq_ediv_of_nonneg (by omega), w64 (by omega) (by omega)]; omega
  unfold impl_pack8.f packOf
  simp only [e1, Int.toNat_natCast]
  exact Ev.pos (by omega) (Ev.pos (by omega) (pack8_l0 bs hl hb bs.length 0 _ (by omega) (by simp)))
theorem iCrc_l1 (l : List Int) (n x4 : Int) (r : Int) : ∀ (d : Nat) (j x : Int), 0 ≤ j → j + d = 8 → 0 ≤ x ∧ x < 65536 → Ev (fun k => impl_Crc16.l0 k (crcTurns d x) l n (wrap64 (x4 + 1))) r → Ev (fun k => impl_Crc16.l1 k x l n x4 j) r := by
  intro d
  induction d with
  | zero =>
    intro j x _ hj _ H
    refine Ev.succ ?_
    simp only [impl_Crc16.l1]
    exact Ev.neg (by omega) H
  | succ d ih =>
    intro j x hj0 hj hx H
    refine Ev.succ ?_
    simp only [impl_Crc16.l1]
    refine Ev.pos (by omega) ?_
    rw [w64 (n := x * 2) (by omega) (by omega), w64 (n := j + 1) (by omega) (by omega)]
    simp only [crcTurns] at H
    by_cases h : x ≥ 32768
    · have e : bits .xor .i64 (x * 2) 69665 = crcStep x := by
        rw [bits_xor (by omega) (by omega), xor17 (by omega) (by omega), Int.mul_comm x 2]
        exact (if_pos h).symm
      rw [e]
      exact Ev.pos (by omega) (ih _ _ (by omega) (by omega) (crcStep_bd x) H)
    · have e : x * 2 = crcStep x := by
        rw [show crcStep x = 2 * x % 65536 from if_neg h]; omega
      refine Ev.neg (by omega) ?_
      rw [e]
      exact ih _ _ (by omega) (by omega) (crcStep_bd x) H
theorem iCrc_l0 (l : List Int) (hl : l.length ≤ 65536) (hb : ∀ b ∈ l, 0 ≤ b ∧ b < 256) : ∀ (d i : Nat) (x : Int), i + d = l.length → 0 ≤ x ∧ x < 65536 → Ev (fun k => impl_Crc16.l0 k x l (l.length : Int) (i : Int)) (crcGo (l.drop i) x) := by
  intro d
  induction d with
  | zero =>
    intro i x hi hx
    rw [List.drop_of_length_le (by omega)]
    refine Ev.succ ?_
    simp only [impl_Crc16.l0]
    exact Ev.neg (by omega) (Ev.some_ rfl)
  | succ d ih =>
    intro i x hi hx
    have hr := hb _ (rd_mem (xs := l) (i := i) (by omega))
    rw [drop_rd (by omega)]
    refine Ev.succ ?_
    simp only [impl_Crc16.l0, crcGo]
    refine Ev.pos (by omega) (Ev.pos (by omega) (Ev.pos (by omega) ?_))
    rw [w64 (n := rd l (i : Int)) (by omega) (by omega), w64 (n := rd l (i : Int) * 256) (by omega) (by omega), bits_xor (by omega) (by omega), Int.mul_comm _ 256]
    have b := xorI_bd (a := x) (b := 256 * rd l (i : Int)) (n := 16) (by omega) (by omega)
    refine iCrc_l1 l _ i _ 8 0 _ (by omega) (by omega) (by omega) ?_
    rw [w64 (n := (i : Int) + 1) (by omega) (by omega), show ((i : Int) + 1) = ((i + 1 : Nat) : Int) by omega]
    exact ih (i + 1) _ (by omega) (crcTurns_bd 8 _ (by omega))
theorem iCrc_ev (l : List Int) (hb : ∀ b ∈ l, 0 ≤ b ∧ b < 256) : Ev (fun k => impl_Crc16.f k l) (crcOf l) := by
  unfold impl_Crc16.f crcOf
  by_cases h : l.length > 65536
  · rw [if_pos h]; exact Ev.pos (by omega) (Ev.some_ rfl)
  · rw [if_neg h]; exact Ev.neg (by omega) (iCrc_l0 l (by omega) hb l.length 0 65535 (by omega) (by omega))
theorem iPack_end (l : List Int) (hl : 1 ≤ l.length ∧ l.length ≤ 128) (hs : sigB l = true) (o q m : Int) (ho : -1 ≤ o ∧ o ≤ 3) (n x : Int) (hx : ¬ x < n) : Ev (fun k => impl_PackFrame.l0 k l o q m n x) (if o < 0 then ([], false) else (frameBody l o q (riceOf q (guessGo o l l.length 0)).1 ++ [crcOf (frameBody l o q (riceOf q (guessGo o l l.length 0)).1) / 256 % 256, crcOf (frameBody l o q (riceOf q (guessGo o l l.length 0)).1) % 256], true)) := by
  refine Ev.succ ?_
  simp only [impl_PackFrame.l0]
  refine Ev.neg hx ?_
  by_cases h : o < 0
  · rw [if_pos h]; exact Ev.pos h (Ev.some_ rfl)
  · rw [if_neg h]
    refine Ev.neg h (Ev.next (guess4_ev o (by omega) l hs) (Ev.next (iRice_ev _ _ (by rw [guessGo_len]; omega)) ?_))
    obtain ⟨bs, hbs⟩ : ∃ bs, (riceOf q (guessGo o l l.length 0)).1 = bs := ⟨_, rfl⟩
    have hlen := riceOf_len q (guessGo o l l.length 0)
    have hbit := riceOf_bit q (guessGo o l l.length 0)
    rw [hbs] at hlen hbit ⊢
    have hbb := frameBody_bd l o q bs
    have hbl := frameBody_len l o q bs
    refine Ev.next (Ev.some_ rfl) (Ev.next (pack8_ev bs (by omega) hbit) ?_)
    have hp := packOf_len bs
    refine Ev.pos (by simp only [List.length_cons, List.length_nil]; omega) (Ev.next (Ev.some_ (r := frameBody l o q bs) rfl) ?_)
    generalize frameBody l o q bs = fb at hbb hbl ⊢
    refine Ev.next (iCrc_ev fb hbb) (Ev.next (Ev.some_ rfl) ?_)
    exact Ev.pos (by simp only [List.length_cons, List.length_nil]; omega) (Ev.some_ rfl)
theorem iPack_l0 (l : List Int) (hl : 1 ≤ l.length ∧ l.length ≤ 128) (hs : sigB l = true) : ∀ (d i : Nat) (o q m : Int), i + d = min 4 l.length → -1 ≤ o ∧ o ≤ 3 → Ev (fun k => impl_PackFrame.l0 k l o q m (mn 4 (l.length : Int)) (i : Int)) (if (orderGo l d i o q m).1 < 0 then ([], false) else (frameBody l (orderGo l d i o q m).1 (orderGo l d i o q m).2.1 (riceOf (orderGo l d i o q m).2.1 (guessGo (orderGo l d i o q m).1 l l.length 0)).1 ++ [crcOf (frameBody l (orderGo l d i o q m).1 (orderGo l d i o q m).2.1 (riceOf (orderGo l d i o q m).2.1 (guessGo (orderGo l d i o q m).1 l l.length 0)).1) / 256 % 256, crcOf (frameBody l (orderGo l d i o q m).1 (orderGo l d i o q m).2.1 (riceOf (orderGo l d i o q m).2.1 (guessGo (orderGo l d i o q m).1 l l.length 0)).1) % 256], true)) := by
  have hm : mn 4 (l.length : Int) = ((min 4 l.length : Nat) : Int) := by unfold mn; split <;> omega
  rw [hm]
  intro d
  induction d with
  | zero =>
    intro i o q m hi ho
    simp only [orderGo]
    exact iPack_end l hl hs o q m ho _ _ (by omega)
  | succ d ih =>
    intro i o q m hi ho
    refine Ev.succ ?_
    simp only [impl_PackFrame.l0]
    refine Ev.pos (by omega) (Ev.next (guess4_ev (i : Int) (by omega) l hs) (Ev.next (iBestRice_ev _ (by rw [guessGo_len]; omega)) ?_))
    rw [w64 (n := (i : Int) + 1) (by omega) (by omega), show ((i : Int) + 1) = ((i + 1 : Nat) : Int) by omega]
    by_cases h1 : (bestOf (guessGo i l l.length 0)).1 ≥ 0
    · refine Ev.pos h1 ?_
      by_cases h2 : o < 0
      · rw [show orderGo l (d + 1) i o q m = _ from if_pos ⟨h1, .inl h2⟩]
        exact Ev.pos h2 (ih (i + 1) _ _ _ (by omega) (by omega))
      · refine Ev.neg h2 ?_
        by_cases h3 : (bestOf (guessGo i l l.length 0)).2 < m
        · rw [show orderGo l (d + 1) i o q m = _ from if_pos ⟨h1, .inr h3⟩]
          exact Ev.pos h3 (ih (i + 1) _ _ _ (by omega) (by omega))
        · rw [show orderGo l (d + 1) i o q m = _ from if_neg (fun h => h.2.elim h2 h3)]
          exact Ev.neg h3 (ih (i + 1) _ _ _ (by omega) ho)
    · rw [show orderGo l (d + 1) i o q m = _ from if_neg (fun h => h1 h.1)]
      exact Ev.neg h1 (ih (i + 1) _ _ _ (by omega) ho)
theorem iPackFrame_ev (l : List Int) (hl : l.length ≤ 1048576) : Ev (fun k => impl_PackFrame.f k l) (frameOf l) := by
  have ft : ∀ b : Bool, b = true → Ev (fun k => impl_PackFrame.j0 k l b) ([], false) := by
    intro b hb
    refine Ev.succ ?_
    simp only [impl_PackFrame.j0]
    exact Ev.pos hb (Ev.some_ rfl)
  unfold impl_PackFrame.f frameOf
  by_cases h1 : 1 ≤ l.length ∧ l.length ≤ 128
  · refine Ev.neg (by omega) (Ev.neg (by omega) (Ev.next (iSignalOk_ev l (by omega)) ?_))
    by_cases h2 : sigB l = true
    · rw [if_pos ⟨h1, h2⟩]
      refine Ev.succ ?_
      simp only [impl_PackFrame.j0]
      exact Ev.neg (by rw [h2]; decide) (iPack_l0 l h1 h2 (min 4 l.length) 0 (-1) 0 0 (by omega) (by omega))
    · rw [if_neg (fun h => h2 h.2)]
      exact ft _ (by simpa using h2)
  · rw [if_neg (fun h => h1 h.1)]
    exact Ev.both (fun _ => ft _ rfl) (fun _ => Ev.pos (by omega) (ft _ rfl))
theorem iPackAll_l0 (s : Nat) (hs : 1 ≤ s ∧ s ≤ 128) : ∀ (d : Nat) (l out : List Int), l.length ≤ d → d ≤ 512 → out.length + 20000 * d ≤ 20000000 → Ev (fun k => impl_PackAll.l0 k l (s : Int) out) (packAllGo s d l out) := by
  have fin : ∀ (l out : List Int), l.length = 0 → Ev (fun k => impl_PackAll.l0 k l (s : Int) out) (packEnd out) := by
    intro l out hi
    refine Ev.succ ?_
    simp only [impl_PackAll.l0]
    refine Ev.neg (by omega) ?_
    unfold packEnd
    exact Ev.cond (fun _ => Ev.some_ rfl) (fun _ => Ev.some_ rfl)
  intro d
  induction d with
  | zero =>
    intro l out hi ho hb
    exact fin l out (by omega)
  | succ d ih =>
    intro l out hi hd ho
    by_cases hn : l.length = 0
    · rw [show packAllGo s (d + 1) l out = _ from if_pos hn]; exact fin l out hn
    · rw [show packAllGo s (d + 1) l out = _ from if_neg hn]
      refine Ev.succ ?_
      simp only [impl_PackAll.l0]
      have hm : mn (s : Int) (l.length : Int) = ((min s l.length : Nat) : Int) := by unfold mn; split <;> omega
      have e1 : l.take (min s l.length) = l.take s := by
        by_cases h : s ≤ l.length
        · rw [Nat.min_eq_left h]
        · rw [Nat.min_eq_right (by omega), List.take_of_length_le (by omega), List.take_of_length_le (by omega)]
      have e2 : l.drop (min s l.length) = l.drop s := by
        by_cases h : s ≤ l.length
        · rw [Nat.min_eq_left h]
        · rw [Nat.min_eq_right (by omega), List.drop_of_length_le (by omega), List.drop_of_length_le (by omega)]
      rw [hm, Int.toNat_natCast, e1, e2]
      have hf := frameOf_len (l.take s)
      refine Ev.pos (by omega) (Ev.pos (by omega) (Ev.pos (by omega) (Ev.next (iPackFrame_ev (l.take s) (by rw [List.length_take]; omega)) ?_)))
      by_cases h2 : (frameOf (l.take s)).2 = true
      · rw [if_pos h2]
        refine Ev.pos h2 (Ev.pos (by omega) ?_)
        exact ih _ _ (by rw [List.length_drop]; omega) (by omega) (by rw [List.length_append]; omega)
      · rw [if_neg h2]
        exact Ev.neg h2 (Ev.some_ rfl)
theorem iPackAll_ev (l : List Int) (a : Int) (hl : l.length ≤ 1048576) : Ev (fun k => impl_PackAll.f k l a) (packAllOf l a) := by
  have ft : ∀ b : Bool, b = true → Ev (fun k => impl_PackAll.j0 k l a b) ([], false) := by
    intro b hb
    refine Ev.succ ?_
    simp only [impl_PackAll.j0]
    exact Ev.pos hb (Ev.some_ rfl)
  unfold impl_PackAll.f packAllOf
  refine Ev.next (iSignalOk_ev l (by omega)) ?_
  by_cases h1 : sigB l = true
  · refine Ev.pos h1 ?_
    by_cases h2 : 1 ≤ a ∧ a ≤ 128
    · rw [if_pos ⟨h1, h2⟩]
      obtain ⟨s, rfl⟩ := Int.eq_ofNat_of_zero_le (show 0 ≤ a by omega)
      have := sigB_iff.1 h1
      refine Ev.neg (by omega) (Ev.succ ?_)
      simp only [impl_PackAll.j0]
      exact Ev.neg (by simp; omega) (iPackAll_l0 s (by omega) l.length l [] (by omega) (by omega) (by simp; omega))
    · rw [if_neg (fun h => h2 h.2)]
      exact Ev.both (fun _ => ft _ rfl) (fun _ => ft _ (by simp; omega))
  · rw [if_neg (fun h => h1 h.1)]
    exact Ev.neg h1 (ft _ rfl)
theorem unpack8_l0 (b : List Int) (hl : b.length ≤ 1048576) (hb : ∀ x ∈ b, 0 ≤ x ∧ x < 256) : ∀ (d j : Nat) (out : List Int), j + d = b.length → out.length = 8 * j → Ev (fun k => impl_unpack8.l0 k out b (b.length : Int) (j : Int)) (out ++ unpackGo b (8 * d) (8 * j)) := by
  intro d
  induction d with
  | zero =>
    intro j out hj ho
    refine Ev.succ ?_
    simp only [impl_unpack8.l0]
    exact Ev.neg (by omega) (Ev.some_ (by simp [unpackGo]))
  | succ d ih =>
    intro j out hj ho
    have hbit := hb _ (rd_mem (xs := b) (i := j) (by omega))
    have l1 : ∀ (m i : Nat) (acc : List Int), i + m = 8 * j + 8 → m ≤ 8 → acc.length = i → Ev (fun k => impl_unpack8.l1 k acc (rd b (j : Int)) ((m : Int) - 1) b (b.length : Int) (j : Int)) (acc ++ unpackGo b (m + 8 * d) i) := by
      intro m
      induction m with
      | zero =>
        intro i acc hi hm ha
        refine Ev.succ ?_
        simp only [impl_unpack8.l1]
        rw [w64_add (i := (j : Int)) (by omega) (by omega)]
        refine Ev.neg (by omega) ((ih (j + 1) acc (by omega) (by omega)).to ?_)
        rw [Nat.zero_add, show 8 * (j + 1) = i by omega]
      | succ m ihm =>
        intro i acc hi hm ha
        have hd := div_u8 hbit.1 hbit.2 m
        refine Ev.succ ?_
        simp only [impl_unpack8.l1]
        rw [show (((m + 1 : Nat) : Int) - 1) = (m : Int) by omega, w64 (n := (m : Int) - 1) (by omega) (by omega), shr_u8 _ m (by omega), bits_and1 hd.1 hd.2, w64 (n := rd b (j : Int) / 2 ^ m % 2) (by omega) (by omega)]
        refine Ev.pos (by omega) (Ev.pos (by omega) (Ev.pos (by omega) ((ihm (i + 1) _ (by omega) (by omega) (by simp; omega)).to ?_)))
        rw [show m + 1 + 8 * d = (m + 8 * d) + 1 by omega]
        simp only [unpackGo]
        rw [show i / 8 = j by omega, show 7 - i % 8 = m by omega, List.append_assoc]
        rfl
    refine Ev.succ ?_
    simp only [impl_unpack8.l0]
    refine Ev.pos (by omega) (Ev.pos (by omega) (Ev.pos (by omega) ((l1 8 (8 * j) out (by omega) (by omega) ho).to ?_)))
    rw [show 8 * (d + 1) = 8 + 8 * d by omega]
theorem unpack8_ev (b : List Int) (hl : b.length ≤ 1048576) (hb : ∀ x ∈ b, 0 ≤ x ∧ x < 256) : Ev (fun k => impl_unpack8.f k b) (unpackOf b) :=
  unpack8_l0 b hl hb b.length 0 [] (by omega) rfl
theorem sample_eq (a : Int) : impl_sample.f a = some (decide (-1000000000 ≤ a ∧ a ≤ 1000000000)) := by
  unfold impl_sample.f
  by_cases h : a ≥ -1000000000 <;> simp [h]
theorem iunRice_l0 (kk : Nat) (hk : kk ≤ 30) (l : List Int) (hl : l.length ≤ 8388608) (hb : ∀ x ∈ l, x = 0 ∨ x = 1) (nn : Nat) (hn : nn ≤ 128) : ∀ (n at_ : Nat) (out : List Int) (i : Nat), i + n = nn → out.length = i → at_ ≤ l.length → Ev (fun k => impl_unRice.l0 k (kk : Int) l out (at_ : Int) (nn : Int) (i : Int)) (unR kk l n at_ out) := by
  have bit : ∀ i : Nat, i < l.length → rd l i = 0 ∨ rd l i = 1 := fun i hi => hb _ (rd_mem hi)
  intro n
  induction n with
  | zero =>
    intro at_ out i hi ho ha
    refine Ev.succ ?_
    simp only [impl_unRice.l0]
    exact Ev.neg (by omega) (Ev.some_ rfl)
  | succ n ih =>
    intro at_ out i hi ho ha
    have l2 : ∀ (b c p : Nat) (u : Int), c + b = kk → 0 ≤ u → u < 16000000 * 2 ^ c → p + b ≤ l.length → Ev (fun k => impl_unRice.l2 k (kk : Int) l out (p : Int) u (nn : Int) (i : Int) (kk : Int) (c : Int))
        (if lowVal u b (l.drop p) ≤ 2000000000 then unR kk l n (p + b) (out ++ [unzig (lowVal u b (l.drop p))]) else ([], 0, false)) := by
      intro b
      induction b with
      | zero =>
        intro c p u hc hu hub hpl
        have hcc : (2 : Int) ^ c ≤ 2 ^ 30 := by
          have : (2 : Nat) ^ c ≤ 2 ^ 30 := Nat.pow_le_pow_right (by omega) (by omega)
          exact_mod_cast this
        have hub2 : u < 16000000 * 2 ^ 30 := Int.lt_of_lt_of_le hub (Int.mul_le_mul_of_nonneg_left hcc (by omega))
        refine Ev.succ ?_
        simp only [impl_unRice.l2]
        refine Ev.neg (by omega) ?_
        rw [show lowVal u 0 (l.drop p) = u from rfl, Int.tmod_eq_emod_of_nonneg hu, Int.tdiv_eq_ediv_of_nonneg hu, w64 (n := u / 2) (by omega) (by omega), w64 (n := -(u / 2)) (by omega) (by omega), w64 (n := -(u / 2) - 1) (by omega) (by omega), w64_add (by omega) (by omega)]
        simp only [sample_eq, Option.bind_some]
        by_cases h3 : u % 2 = 1
        · refine Ev.pos h3 ?_
          by_cases h2 : u ≤ 2000000000
          · rw [if_pos h2]
            refine Ev.pos (by simp; omega) (Ev.pos (by omega) ?_)
            exact (ih p (out ++ [-(u / 2) - 1]) (i + 1) (by omega) (by simp; omega) (by omega)).to (by simp [unzig, h3])
          · rw [if_neg h2]; exact Ev.neg (by simp; omega) (Ev.some_ rfl)
        · refine Ev.neg h3 ?_
          by_cases h2 : u ≤ 2000000000
          · rw [if_pos h2]
            refine Ev.pos (by simp; omega) (Ev.pos (by omega) ?_)
            exact (ih p (out ++ [u / 2]) (i + 1) (by omega) (by simp; omega) (by omega)).to (by simp [unzig, h3])
          · rw [if_neg h2]; exact Ev.neg (by simp; omega) (Ev.some_ rfl)
      | succ b ihb =>
        intro c p u hc hu hub hpl
        have hcc : (2 : Int) ^ c ≤ 2 ^ 30 := by
          have : (2 : Nat) ^ c ≤ 2 ^ 30 := Nat.pow_le_pow_right (by omega) (by omega)
          exact_mod_cast this
        have hub2 : u < 16000000 * 2 ^ 30 := Int.lt_of_lt_of_le hub (Int.mul_le_mul_of_nonneg_left hcc (by omega))
        have := bit p (by omega)
        refine Ev.succ ?_
        simp only [impl_unRice.l2]
        refine Ev.pos (by omega) (Ev.pos (by omega) (Ev.pos (by omega) ?_))
        rw [w64_add (by omega) (by omega), w64_add (by omega) (by omega), w64 (n := u * 2) (by omega) (by omega), w64 (by omega) (by omega)]
        have e2 : (2 : Int) ^ (c + 1) = 2 * 2 ^ c := by rw [Int.pow_succ]; omega
        rw [show u * 2 + rd l p = 2 * u + rd l p by omega]
        refine (ihb (c + 1) (p + 1) (2 * u + rd l p) (by omega) (by omega) (by rw [e2]; omega) (by omega)).to ?_
        rw [drop_rd (xs := l) (i := p) (by omega), show lowVal u (b + 1) (rd l p :: l.drop (p + 1)) = lowVal (2 * u + rd l p) b (l.drop (p + 1)) from rfl, show p + 1 + b = p + (b + 1) by omega]
    have j2 : ∀ (p q : Nat), at_ + q = p → p ≤ l.length → Ev (fun k => impl_unRice.j2 k (kk : Int) l out (p : Int) (q : Int) (nn : Int) (i : Int))
        (if l.length < p + 1 + kk then ([], 0, false) else if lowVal q kk (l.drop (p + 1)) ≤ 2000000000 then unR kk l n (p + 1 + kk) (out ++ [unzig (lowVal q kk (l.drop (p + 1)))]) else ([], 0, false)) := by
      intro p q hq hpl
      refine Ev.succ ?_
      simp only [impl_unRice.j2]
      rw [w64 (n := (l.length : Int) - p) (by omega) (by omega), w64 (n := 1 + (kk : Int)) (by omega) (by omega), w64_add (by omega) (by omega)]
      by_cases h1 : l.length < p + 1 + kk
      · rw [if_pos h1]; exact Ev.pos (by omega) (Ev.some_ rfl)
      · rw [if_neg h1]; exact Ev.neg (by omega) (l2 kk 0 (p + 1) q (by omega) (by omega) (by simp; omega) (by omega))
    have l1 : ∀ (d p q : Nat), p + d = l.length → at_ + q = p → Ev (fun k => impl_unRice.l1 k (kk : Int) l out (p : Int) (q : Int) (nn : Int) (i : Int))
        (if l.length < p + onesRun (l.drop p) + 1 + kk then ([], 0, false) else if lowVal ((q : Int) + onesRun (l.drop p)) kk (l.drop (p + onesRun (l.drop p) + 1)) ≤ 2000000000 then unR kk l n (p + onesRun (l.drop p) + 1 + kk) (out ++ [unzig (lowVal ((q : Int) + onesRun (l.drop p)) kk (l.drop (p + onesRun (l.drop p) + 1)))]) else ([], 0, false)) := by
      intro d
      induction d with
      | zero =>
        intro p q hpd hq
        refine Ev.succ ?_
        simp only [impl_unRice.l1]
        refine Ev.neg (by omega) ((j2 p q hq (by omega)).to ?_)
        rw [onesRun_stop (fun h => by omega)]
        simp
      | succ d ihd =>
        intro p q hpd hq
        refine Ev.succ ?_
        simp only [impl_unRice.l1]
        refine Ev.pos (by omega) (Ev.pos (by omega) ?_)
        by_cases h1 : rd l p = 1
        · rw [w64_add (by omega) (by omega), w64_add (by omega) (by omega)]
          refine Ev.pos h1 ((ihd (p + 1) (q + 1) (by omega) (by omega)).to ?_)
          rw [onesRun_drop (by omega) h1, show p + 1 + onesRun (l.drop (p + 1)) = p + (onesRun (l.drop (p + 1)) + 1) by omega, show (((q + 1 : Nat) : Int) + onesRun (l.drop (p + 1))) = (q : Int) + ((onesRun (l.drop (p + 1)) + 1 : Nat) : Int) by omega]
        · refine Ev.neg h1 ((j2 p q hq (by omega)).to ?_)
          rw [onesRun_stop (fun _ => h1)]
          simp
    refine Ev.succ ?_
    simp only [impl_unRice.l0]
    refine Ev.pos (by omega) ((l1 (l.length - at_) at_ 0 (by omega) (by omega)).to ?_)
    simp only [unR]
    simp
theorem iunRice_ev (kk : Nat) (hk : kk ≤ 30) (l : List Int) (hl : l.length ≤ 8388608) (hb : ∀ x ∈ l, x = 0 ∨ x = 1) (n : Nat) (hn : n ≤ 128) : Ev (fun k => impl_unRice.f k (kk : Int) l (n : Int)) (unR kk l n 0 []) :=
  iunRice_l0 kk hk l hl hb n hn n 0 [] 0 (by omega) rfl (by omega)
theorem orderOk_eq (a : Int) : impl_orderOk.f a = some (decide (0 ≤ a ∧ a ≤ 3)) := by
  unfold impl_orderOk.f
  by_cases h : a ≥ 0 <;> simp [h]
theorem iUnGuess_l0 (o : Int) (ho : 0 ≤ o) (left : List Int) (hl : left.length ≤ 512) (hw : ∀ x ∈ left, -10000000000 ≤ x ∧ x ≤ 10000000000) : ∀ (d i : Nat) (out : List Int), i + d = left.length → out.length = i → (∀ x ∈ out, -1000000000 ≤ x ∧ x ≤ 1000000000) → Ev (fun k => impl_UnGuess.l0 k o out left (left.length : Int) (i : Int)) (unGo o left d i out) := by
  intro d
  induction d with
  | zero =>
    intro i out hi ha hb
    refine Ev.succ ?_
    simp only [impl_UnGuess.l0]
    exact Ev.neg (by omega) (Ev.some_ rfl)
  | succ d ih =>
    intro i out hi ha hb
    have hf := foreN_bd (o := o) (l := out) (i := out.length) hb
    have hr := hw _ (rd_mem (xs := left) (i := i) (by omega))
    have hft := foretold_eq o out out.length (by omega) ho hb
    rw [List.take_length] at hft
    refine Ev.succ ?_
    simp only [impl_UnGuess.l0, hft, Option.bind_some, sample_eq]
    rw [w64_add (by omega) (by omega), w64 (n := rd left i + _) (by omega) (by omega)]
    refine Ev.pos (by omega) (Ev.pos (by omega) (Ev.pos (by omega) ?_))
    by_cases hc : -1000000000 ≤ rd left i + foreN o out out.length ∧ rd left i + foreN o out out.length ≤ 1000000000
    · refine Ev.pos (by simpa using hc) (Ev.pos (by omega) ((ih (i + 1) (out ++ [_]) (by omega) (by simp; omega) (fun x hx => ?_)).to ?_))
      · rcases List.mem_append.1 hx with hx | hx
        · exact hb x hx
        · rw [List.mem_singleton.1 hx]; exact hc
      · simp only [unGo]; rw [if_pos hc]
    · refine Ev.neg (by simpa using hc) (Ev.some_ ?_)
      simp only [unGo]; rw [if_neg hc]
theorem iUnGuess_ev (o : Int) (left : List Int) (hl : left.length ≤ 1048576) : Ev (fun k => impl_UnGuess.f k o left) (unGuessOf o left) := by
  have bad : Ev (fun k => impl_UnGuess.j0 k o left true) ([], false) := by
    refine Ev.succ ?_
    simp only [impl_UnGuess.j0]
    exact Ev.pos trivial (Ev.some_ rfl)
  unfold impl_UnGuess.f unGuessOf
  rw [orderOk_eq]
  simp only [Option.bind_some]
  by_cases h1 : 0 ≤ o ∧ o ≤ 3
  · refine Ev.pos (by simp [h1]) ?_
    by_cases h2 : left.length ≤ 512
    · refine Ev.neg (by omega) (Ev.next (within_ev left 10000000000 (by omega) (by omega) (by omega)) ?_)
      cases h3 : allIn 10000000000 left
      · rw [if_neg (by simp)]; exact bad
      · rw [if_pos ⟨h1, h2, rfl⟩]
        refine Ev.succ ?_
        simp only [impl_UnGuess.j0]
        exact Ev.neg (by simp) (iUnGuess_l0 o h1.1 left h2 (allIn_iff.1 h3) left.length 0 [] (by omega) rfl (by simp))
    · rw [if_neg (fun h => h2 h.2.1)]; exact Ev.pos (by omega) bad
  · rw [if_neg (fun h => h1 h.1)]; exact Ev.neg (by simp; omega) bad
theorem sliceEq_l0 (a b : List Int) (h : a.length = b.length) (hl : a.length ≤ 35184372088832) : ∀ (d i : Nat), i + d = a.length → Ev (fun k => slices_Equal_byte_byte.l0 k a b (a.length : Int) (i : Int)) (decide (a.drop i = b.drop i)) := by
  intro d
  induction d with
  | zero =>
    intro i hi
    refine Ev.round (f := fun _ => some true) (Ev.some_ ?_) (fun k => by simp only [slices_Equal_byte_byte.l0]; rw [if_neg (by omega)])
    rw [List.drop_of_length_le (by omega), List.drop_of_length_le (by omega)]; simp
  | succ d ih =>
    intro i hi
    by_cases he : rd a i = rd b i
    · refine (Ev.round (ih (i + 1) (by omega)) (fun k => ?_)).to ?_
      · simp only [slices_Equal_byte_byte.l0]
        rw [if_pos (by omega), if_pos (by omega), if_pos (by omega), if_pos (by omega), if_pos he, w64_add (by omega) (by omega)]; simp
      · rw [drop_rd (xs := a) (i := i) (by omega), drop_rd (xs := b) (i := i) (by omega), he]; simp
    · refine (Ev.round (f := fun _ => some false) (Ev.some_ rfl) (fun k => ?_)).to ?_
      · simp only [slices_Equal_byte_byte.l0]
        rw [if_pos (by omega), if_pos (by omega), if_pos (by omega), if_pos (by omega), if_neg he]
      · rw [drop_rd (xs := a) (i := i) (by omega), drop_rd (xs := b) (i := i) (by omega)]; simp [he]
theorem sliceEq_ev (a b : List Int) (hl : a.length ≤ 35184372088832) : Ev (fun k => slices_Equal_byte_byte.f k a b) (decide (a = b)) := by
  unfold slices_Equal_byte_byte.f
  by_cases h : a.length = b.length
  · exact Ev.pos (by omega) (sliceEq_l0 a b h hl a.length 0 (by omega))
  · exact (Ev.neg (by omega) (Ev.some_ rfl)).to (by simp; intro e; exact h (by rw [e]))
theorem iOpen_j1 (b : List Int) (hl : b.length ≤ 1048576) (hb : ∀ x ∈ b, 0 ≤ x ∧ x < 256) (a : Nat) (ha : a + 3 ≤ b.length) (n : Nat) (hn : n ≤ 128) (o : Int) (q : Nat) (hq : q ≤ 30) : Ev (fun k => impl_OpenFrame.j1 k b (a : Int) (n : Int) o (q : Int) false) (openBits b a o (unR q (unpackOf (b.drop (a + 3))) n 0 [])) := by
  have hu := unR_used q (unpackOf (b.drop (a + 3))) n 0 [] (by omega)
  have hlen := unR_len q (unpackOf (b.drop (a + 3))) n 0 []
  refine Ev.succ ?_
  simp only [impl_OpenFrame.j1]
  rw [wadd3 (e := a) (by omega)]
  refine Ev.neg (by decide) (Ev.pos (by omega) (Ev.pos (by omega) ?_))
  rw [Int.toNat_natCast]
  refine Ev.next (unpack8_ev (b.drop (a + 3)) (by rw [List.length_drop]; omega) (fun x hx => hb x (List.mem_of_mem_drop hx))) ?_
  refine Ev.next (iunRice_ev q hq _ (by rw [unpackOf_len, List.length_drop]; omega) (unpackOf_bit _) n hn) ?_
  rw [unpackOf_len, List.length_drop] at hu
  generalize unR q (unpackOf (b.drop (a + 3))) n 0 [] = r at hu hlen ⊢
  obtain ⟨left, used, ok⟩ := r
  simp only at hu hlen ⊢
  unfold openBits
  simp only
  cases ok with
  | false => exact Ev.neg (by decide) ((Ev.some_ rfl).to (if_neg (by decide)).symm)
  | true =>
    obtain ⟨u, rfl, hu2⟩ := hu rfl
    rw [if_pos rfl]
    simp only [Int.toNat_natCast]
    have he : a + 3 ≤ a + 3 + (u + 7) / 8 ∧ a + 3 + (u + 7) / 8 ≤ b.length := by omega
    rw [wround8 (e := a + 3) (u := u) (by omega) (by omega)]
    clear hu
    generalize a + 3 + (u + 7) / 8 = e at he ⊢
    rw [w64 (n := (b.length : Int) - (e : Int)) (by omega) (by omega), wadd1 (e := e) (by omega), wadd2 (e := e) (by omega)]
    refine Ev.pos trivial ?_
    by_cases h1 : b.length < e + 2
    · rw [if_pos h1]; exact Ev.pos (by omega) (Ev.some_ rfl)
    · rw [if_neg h1]
      have hc := iCrc_ev ((b.take e).drop a) (fun x hx => hb x (List.mem_of_mem_take (List.mem_of_mem_drop hx)))
      have r0 := hb _ (rd_mem (xs := b) (i := e) (by omega))
      have r1 := hb _ (rd_mem (xs := b) (i := e + 1) (by omega))
      refine Ev.neg (by omega) (Ev.pos (by omega) (Ev.pos (by omega) (Ev.pos (by omega) (Ev.next hc (Ev.pos (by omega) (Ev.pos (by omega) (Ev.pos (by omega) (Ev.pos (by omega) ?_))))))))
      rw [w64 (n := rd b (e : Int)) (by omega) (by omega), w64 (n := rd b (e : Int) * 256) (by omega) (by omega), w64 (n := rd b ((e + 1 : Nat) : Int)) (by omega) (by omega), bits_or256 r0 r1]
      by_cases h2 : crcOf ((b.take e).drop a) = 256 * rd b (e : Int) + rd b ((e + 1 : Nat) : Int)
      · rw [if_pos h2]
        refine Ev.pos h2 (Ev.next (iUnGuess_ev o left (by simp only [List.length_nil] at hlen; omega)) ?_)
        have hul : (unGuessOf o left).1.length ≤ 1048576 := by
          unfold unGuessOf
          split
          · have := unGo_len o left left.length 0 []
            simp only [List.length_nil] at this hlen
            omega
          · simp
        unfold openForm
        by_cases h3 : (unGuessOf o left).2 = true
        · refine Ev.pos h3 (Ev.next (iPackFrame_ev _ hul) ?_)
          by_cases h4 : (frameOf (unGuessOf o left).1).2 = true
          · have hfl := frameOf_len (unGuessOf o left).1
            refine Ev.pos h4 (Ev.pos (by omega) (Ev.pos (by omega) (Ev.next (sliceEq_ev _ _ (by omega)) ?_)))
            by_cases h5 : (frameOf (unGuessOf o left).1).1 = (b.take (e + 2)).drop a
            · exact (Ev.pos (decide_eq_true h5) (Ev.some_ rfl)).to (if_pos ⟨h3, h4, h5⟩).symm
            · exact (Ev.neg (fun h => h5 (of_decide_eq_true h)) (Ev.some_ rfl)).to (if_neg (fun h => h5 h.2.2)).symm
          · rw [if_neg (fun h => h4 h.2.1)]; exact Ev.neg h4 (Ev.some_ rfl)
        · rw [if_neg (fun h => h3 h.1)]; exact Ev.neg h3 (Ev.some_ rfl)
      · rw [if_neg h2]; exact Ev.neg h2 (Ev.some_ rfl)
theorem iOpenFrame_ev (b : List Int) (hl : b.length ≤ 1048576) (hb : ∀ x ∈ b, 0 ≤ x ∧ x < 256) (x : Int) : Ev (fun k => impl_OpenFrame.f k b x) (openOf b x) := by
  have ft : ∀ y, Ev (fun k => impl_OpenFrame.j0 k b y true) ([], y, 1) := by
    intro y
    refine Ev.succ ?_
    simp only [impl_OpenFrame.j0]
    exact Ev.pos trivial (Ev.some_ rfl)
  unfold impl_OpenFrame.f openOf
  by_cases h0 : x < 0
  · rw [if_neg (by omega)]; exact Ev.pos h0 (ft x)
  · refine Ev.neg h0 ?_
    by_cases h1 : x > (b.length : Int)
    · rw [if_neg (by omega)]; exact Ev.pos h1 (ft x)
    · refine Ev.neg h1 ?_
      rw [w64 (n := (b.length : Int) - x) (by omega) (by omega)]
      by_cases h2 : (b.length : Int) - x < 3
      · rw [if_neg (by omega), decide_eq_true h2]; exact ft x
      · rw [if_pos (by omega), decide_eq_false h2]
        obtain ⟨a, rfl⟩ := Int.eq_ofNat_of_zero_le (show 0 ≤ x by omega)
        rw [Int.toNat_natCast]
        have r1 := hb _ (rd_mem (xs := b) (i := a + 1) (by omega))
        have r2 := hb _ (rd_mem (xs := b) (i := a + 2) (by omega))
        have bad : ∀ (n o q : Int), Ev (fun k => impl_OpenFrame.j1 k b (a : Int) n o q true) ([], (a : Int), 2) := by
          intro n o q
          refine Ev.succ ?_
          simp only [impl_OpenFrame.j1]
          exact Ev.pos trivial (Ev.some_ rfl)
        refine Ev.succ ?_
        simp only [impl_OpenFrame.j0]
        rw [wadd1 (e := a) (by omega), wadd2 (e := a) (by omega)]
        refine Ev.neg (by decide) (Ev.pos (by omega) (Ev.pos (by omega) (Ev.pos (by omega) (Ev.pos (by omega) (Ev.pos (by omega) (Ev.pos (by omega) ?_))))))
        rw [w64 (n := rd b ((a + 1 : Nat) : Int)) (by omega) (by omega), w64 (n := rd b ((a + 1 : Nat) : Int) + 1) (by omega) (by omega), Int.tdiv_eq_ediv_of_nonneg r2.1, Int.tmod_eq_emod_of_nonneg r2.1, w64 (n := rd b ((a + 2 : Nat) : Int) % 32) (by omega) (by omega), show rd b ((a + 2 : Nat) : Int) / 32 % 256 = rd b ((a + 2 : Nat) : Int) / 32 by omega]
        unfold openAt
        by_cases c1 : rd b (a : Int) = 70
        · refine Ev.pos c1 ?_
          by_cases c2 : rd b ((a + 1 : Nat) : Int) + 1 > 128
          · rw [if_neg (by omega)]; exact Ev.pos c2 (bad _ _ _)
          · refine Ev.neg c2 ?_
            by_cases c3 : rd b ((a + 2 : Nat) : Int) / 32 > 3
            · rw [if_neg (by omega)]; exact Ev.pos c3 (bad _ _ _)
            · refine Ev.neg c3 ?_
              by_cases c4 : rd b ((a + 2 : Nat) : Int) % 32 > 30
              · rw [if_neg (by omega), decide_eq_true c4]; exact bad _ _ _
              · rw [if_pos ⟨c1, by omega, by omega, by omega⟩, decide_eq_false c4]
                obtain ⟨n, hn⟩ := Int.eq_ofNat_of_zero_le (show 0 ≤ rd b ((a + 1 : Nat) : Int) + 1 by omega)
                obtain ⟨q, hq⟩ := Int.eq_ofNat_of_zero_le (show 0 ≤ rd b ((a + 2 : Nat) : Int) % 32 by omega)
                rw [hn, hq, Int.toNat_natCast, Int.toNat_natCast]
                exact iOpen_j1 b hl hb a (by omega) n (by omega) _ q (by omega)
        · rw [if_neg (fun h => c1 h.1)]; exact Ev.neg c1 (bad _ _ _)
theorem iOpenAll_l0 (b : List Int) (hl : b.length ≤ 20000) (hb : ∀ x ∈ b, 0 ≤ x ∧ x < 256) : ∀ (d a : Nat) (l p : List Int), p.length + d = 60 → l.length ≤ 512 * p.length → a ≤ b.length → Ev (fun k => impl_OpenAll.l0 k b l p (a : Int)) (openGo b d a l p) := by
  intro d
  induction d with
  | zero =>
    intro a l p hp hn ha
    refine Ev.succ ?_
    simp only [impl_OpenAll.l0, openGo]
    by_cases h : a = b.length
    · exact (Ev.pos (by omega) (Ev.some_ rfl)).to (if_pos h).symm
    · exact (Ev.neg (by omega) (Ev.pos (by omega) (Ev.some_ rfl))).to (if_neg h).symm
  | succ d ih =>
    intro a l p hp hn ha
    refine Ev.succ ?_
    simp only [impl_OpenAll.l0, openGo]
    by_cases h : a = b.length
    · exact (Ev.pos (by omega) (Ev.some_ rfl)).to (if_pos h).symm
    · have ho := openOf_len b (a : Int)
      refine (Ev.neg (by omega) (Ev.neg (by omega) (Ev.next (iOpenFrame_ev b (by omega) hb (a : Int)) ?_))).to (if_neg h).symm
      by_cases h2 : (openOf b (a : Int)).2.2 = 0
      · obtain ⟨e, he, h3, h4⟩ := openOf_next h2
        refine (Ev.pos h2 (Ev.pos (by omega) (Ev.pos (by omega) ?_))).to (if_pos h2).symm
        rw [he, Int.toNat_natCast]
        exact ih e _ _ (by simp; omega) (by rw [List.length_append, List.length_append]; simp only [List.length_cons, List.length_nil]; omega) h4
      · exact (Ev.neg h2 (Ev.some_ rfl)).to (if_neg h2).symm
theorem iOpenAll_ev (b : List Int) (hb : ∀ x ∈ b, 0 ≤ x ∧ x < 256) : Ev (fun k => impl_OpenAll.f k b) (openAllOf b) := by
  unfold impl_OpenAll.f openAllOf
  exact Ev.cond (fun _ => Ev.some_ rfl) (fun h => iOpenAll_l0 b (by omega) hb 60 0 [] [] rfl (by simp) (by omega))
theorem iMend_l0 (b : List Int) (hl : b.length ≤ 20000) (hb : ∀ x ∈ b, 0 ≤ x ∧ x < 256) : ∀ (d a f : Nat) (out : List Int) (lost : Nat), b.length ≤ a + d → f ≤ 60 → out.length ≤ 512 * f → lost ≤ a → a ≤ b.length → Ev (fun k => impl_Mend.l0 k b out (lost : Int) (f : Int) (a : Int)) (mendGo b d a f out (lost : Int)) := by
  intro d
  induction d with
  | zero =>
    intro a f out lost h1 h2 h3 h4 h5
    refine Ev.succ ?_
    simp only [impl_Mend.l0]
    exact Ev.neg (by omega) (Ev.some_ rfl)
  | succ d ih =>
    intro a f out lost h1 h2 h3 h4 h5
    by_cases h6 : a < b.length
    · have ho := openOf_len b (a : Int)
      by_cases h10 : f < 60
      · refine Ev.succ ?_
        simp only [impl_Mend.l0, mendGo]
        rw [wadd1 (e := lost) (by omega), wadd1 (e := f) (by omega), wadd1 (e := a) (by omega)]
        refine (Ev.pos (by omega) (Ev.neg (by omega) (Ev.next (iOpenFrame_ev b (by omega) hb (a : Int)) ?_))).to (if_pos h6).symm
        have hno := ih (a + 1) f out (lost + 1) (by omega) h2 h3 (by omega) (by omega)
        rw [show ((lost + 1 : Nat) : Int) = (lost : Int) + 1 by omega] at hno ⊢
        by_cases h7 : (openOf b (a : Int)).2.2 = 0
        · obtain ⟨e, he, h8, h9⟩ := openOf_next h7
          refine (Ev.pos h7 (Ev.pos (by omega) ?_)).to (if_pos ⟨h7, h10⟩).symm
          rw [he, Int.toNat_natCast]
          exact ih e (f + 1) _ lost (by omega) (by omega) (by rw [List.length_append]; omega) (by omega) h9
        · exact (Ev.neg h7 hno).to (if_neg (fun h => h7 h.1)).symm
      · rw [mendGo_end2 b f out (by omega) (d + 1) a (lost : Int) (by omega) (by omega)]
        refine Ev.succ ?_
        simp only [impl_Mend.l0]
        rw [w64 (n := (b.length : Int) - (a : Int)) (by omega) (by omega), w64 (n := (lost : Int) + ((b.length : Int) - (a : Int))) (by omega) (by omega)]
        exact Ev.pos (by omega) (Ev.pos (by omega) (Ev.some_ rfl))
    · refine Ev.succ ?_
      simp only [impl_Mend.l0, mendGo]
      exact (Ev.neg (by omega) (Ev.some_ rfl)).to (if_neg h6).symm
theorem iMend_ev (b : List Int) (hb : ∀ x ∈ b, 0 ≤ x ∧ x < 256) : Ev (fun k => impl_Mend.f k b) (mendOf b) := by
  unfold impl_Mend.f mendOf
  exact Ev.cond (fun _ => Ev.some_ rfl) (fun h => iMend_l0 b (by omega) hb b.length 0 0 [] 0 (by omega) (by omega) (by simp) (by omega) (by omega))
theorem iSeek_l0 (b : List Int) (hl : b.length ≤ 1048576) (hb : ∀ x ∈ b, 0 ≤ x ∧ x < 256) (x : Int) (ps : List Int) (hp : ps.length ≤ 60) : ∀ (d i ah : Nat), i + d = ps.length → ah ≤ 512 * i → Ev (fun k => impl_Seek.l0 k b x (ah : Int) ps (ps.length : Int) (i : Int)) (seekGo b x (ps.drop i) (ah : Int)) := by
  intro d
  induction d with
  | zero =>
    intro i ah hi ha
    refine Ev.succ ?_
    simp only [impl_Seek.l0]
    rw [List.drop_of_length_le (by omega)]
    exact Ev.neg (by omega) (Ev.some_ rfl)
  | succ d ih =>
    intro i ah hi ha
    have ho := openOf_len b (rd ps (i : Int))
    refine Ev.succ ?_
    simp only [impl_Seek.l0]
    rw [drop_rd (xs := ps) (i := i) (by omega)]
    simp only [seekGo]
    refine Ev.pos (by omega) (Ev.pos (by omega) (Ev.pos (by omega) (Ev.next (iOpenFrame_ev b hl hb _) ?_)))
    rw [w64 (n := (ah : Int) + ((openOf b (rd ps (i : Int))).1.length : Int)) (by omega) (by omega), wadd1 (e := i) (by omega)]
    have nx := ih (i + 1) (ah + (openOf b (rd ps (i : Int))).1.length) (by omega) (by omega)
    rw [Int.natCast_add] at nx
    by_cases h1 : x ≥ (ah : Int)
    · refine Ev.pos h1 ?_
      by_cases h2 : x < (ah : Int) + ((openOf b (rd ps (i : Int))).1.length : Int)
      · exact (Ev.pos h2 (Ev.some_ rfl)).to (if_pos ⟨h1, h2⟩).symm
      · exact (Ev.neg h2 nx).to (if_neg (fun h => h2 h.2)).symm
    · exact (Ev.neg h1 nx).to (if_neg (fun h => h1 h.1)).symm
theorem iSeek_ev (b : List Int) (hl : b.length ≤ 1048576) (hb : ∀ x ∈ b, 0 ≤ x ∧ x < 256) (x : Int) : Ev (fun k => impl_Seek.f k b x) (seekOf b x) := by
  unfold impl_Seek.f seekOf
  exact Ev.next (iOpenAll_ev b hb) (iSeek_l0 b hl hb x _ (openAllOf_len b).2 (openAllOf b).2.1.length 0 0 (by omega) (by omega))
theorem law_l0 (xs b p : List Int) (s : Nat) (hs : 1 ≤ s ∧ s ≤ 128) (hx : xs.length ≤ 40) (hbl : b.length ≤ 20000) (hb : ∀ x ∈ b, 0 ≤ x ∧ x < 256) (hp : packAllGo s xs.length xs [] = (b, true)) (ho : openAllOf b = (xs, starts s xs.length xs 0, 0)) : ∀ (d i : Nat), xs.length ≤ i + d → i ≤ 100 → Ev (fun k => laws_FnFiled.l0 k xs (s : Int) b (starts s xs.length xs 0) (i : Int)) true := by
  intro d
  induction d with
  | zero =>
    intro i hi _
    refine Ev.succ ?_
    simp only [laws_FnFiled.l0]
    exact Ev.neg (by omega) (Ev.some_ rfl)
  | succ d ih =>
    intro i hi hi2
    refine Ev.succ ?_
    simp only [laws_FnFiled.l0]
    by_cases h : i < xs.length
    · have sk := seekGo_file s hs.1 b xs.length xs [] 0 i (Nat.le_refl _) h hp
      have sv := iSeek_ev b (by omega) hb (i : Int)
      unfold seekOf at sv
      rw [ho] at sv
      simp only [List.length_nil, Nat.zero_add] at sk
      rw [show (0 : Int) = ((0 : Nat) : Int) from rfl] at sv
      simp only at sv
      rw [sk.1] at sv
      have hle : i / s ≤ i := Nat.div_le_self i s
      have hml : i / s * s ≤ i := Nat.div_mul_le_self i s
      have e0 : Int.tdiv (i : Int) (s : Int) = ((i / s : Nat) : Int) := rfl
      rw [e0]
      generalize i / s = q at sk sv hle hml ⊢
      have e2 : (q : Int) * (s : Int) = ((q * s : Nat) : Int) := (Int.natCast_mul q s).symm
      rw [w64 (n := (q : Int)) (by omega) (by omega), e2]
      generalize q * s = r at sk sv hml ⊢
      rw [w64 (n := (r : Int)) (by omega) (by omega)]
      refine Ev.pos (by omega) (Ev.next sv (Ev.neg (by omega) (Ev.pos rfl (Ev.pos (by omega) (Ev.pos (by have := sk.2; omega) (Ev.pos rfl ?_))))))
      rw [wadd1 (e := i) (by omega), w64 (n := (xs.length : Int) / 6) (by omega) (by omega), w64 (n := ((i + 1 : Nat) : Int) + (xs.length : Int) / 6) (by omega) (by omega), show ((i + 1 : Nat) : Int) + (xs.length : Int) / 6 = ((i + 1 + xs.length / 6 : Nat) : Int) by omega]
      exact ih (i + 1 + xs.length / 6) (by omega) (by omega)
    · exact Ev.neg (by omega) (Ev.some_ rfl)
theorem law_yes (xs : List Int) (a : Int) (hx : xs.length ≤ 40) (h : (packAllOf xs a).2 = true) : Ev (fun k => laws_FnFiled.j0 k xs a (packAllOf xs a).1 true false) true := by
  have hlen := packAllOf_len xs a
  have hbd := packAllOf_bd xs a
  have ha : sigB xs = true ∧ 1 ≤ a ∧ a ≤ 128 := by
    unfold packAllOf at h
    split at h
    · rename_i h1; exact h1
    · cases h
  obtain ⟨s, rfl⟩ := Int.eq_ofNat_of_zero_le (show 0 ≤ a by omega)
  have hp : packAllGo s xs.length xs [] = ((packAllOf xs (s : Int)).1, true) := by
    unfold packAllOf at h ⊢
    rw [if_pos ha, Int.toNat_natCast] at h ⊢
    rw [← h]
  generalize (packAllOf xs (s : Int)).1 = b at hlen hbd hp
  have ho : openAllOf b = (xs, starts s xs.length xs 0, 0) := by
    unfold openAllOf
    rw [if_neg (by omega)]
    have := openGo_file s (by omega) b xs.length xs [] 60 [] [] (Nat.le_refl _) (by omega) hp
    simpa using this
  have hm : mendOf b = (xs, 0) := by
    unfold mendOf
    rw [if_neg (by omega)]
    have := mendGo_file s (by omega) b xs.length xs [] b.length 0 [] 0 (Nat.le_refl _) (by omega) (by simp) hp
    simpa using this
  have io := iOpenAll_ev b hbd
  have im := iMend_ev b hbd
  rw [ho] at io
  rw [hm] at im
  refine Ev.succ ?_
  simp only [laws_FnFiled.j0]
  refine Ev.neg (by decide) (Ev.pos trivial (Ev.next io (Ev.next im (Ev.both (fun _ => Ev.neg (show ¬ ((0 : Int) = 5) by decide) (Ev.some_ rfl)) (fun _ => ?_)))))
  refine Ev.pos rfl (Ev.next (sameInts_ev xs xs (by omega)) (Ev.pos (by simp) (Ev.next (sameInts_ev xs xs (by omega)) (Ev.pos (by simp) ?_))))
  refine Ev.succ ?_
  simp only [laws_FnFiled.j1]
  exact Ev.neg (by decide) (law_l0 xs b [] s (by omega) hx hlen hbd hp ho xs.length 0 (by omega) (by omega))
theorem law_no (xs : List Int) (a : Int) (h : (packAllOf xs a).2 = false) : Ev (fun k => laws_FnFiled.j0 k xs a (packAllOf xs a).1 false false) true := by
  rw [packAllOf_no h]
  refine Ev.succ ?_
  simp only [laws_FnFiled.j0]
  exact Ev.neg (by decide) (Ev.neg (by decide) (Ev.some_ rfl))
theorem FnFiled (l : List Int) (m0 : l.length ≤ maxLen) (w0 : ∀ x ∈ l, (Lit.int .u8 x).wf = true) : ∃ k, laws_FnFiled.f k l = some true := by
  refine EvP.law ?_
  unfold laws_FnFiled.f laws_big.f
  refine EvP.next (Ev.p (Ev.some_ rfl)) ?_
  rintro _ rfl
  refine EvP.both (fun _ => EvP.now rfl) (fun hl => ?_)
  have hl2 : l.length ≤ 1048576 := by simp at hl; omega
  refine EvP.next (DrawPackAll_ev l hl2) ?_
  rintro ⟨xs, a⟩ hx
  simp only at hx
  refine EvP.next (Ev.p (iPackAll_ev xs a (by omega))) ?_
  rintro _ rfl
  refine EvP.next (Ev.p (sPackAll_ev xs a (by omega))) ?_
  rintro _ rfl
  refine EvP.neg (by simp) (EvP.next (Ev.p (iPackFrame_ev [0] (by decide))) ?_)
  rintro _ rfl
  refine EvP.pos (by decide +kernel) ?_
  rw [show (((frameOf [0]).1.length : Int) != 6) = false by decide +kernel]
  cases h : (packAllOf xs a).2 with
  | true => exact Ev.p (law_yes xs a hx h)
  | false => exact Ev.p (law_no xs a h)
end Go.Proofs.Ytieadaglkibjbaa.Pure
