import Derived.Test.YtmikakdcggehcaaPFnExactMendx14
import Derived.Test.YtmikakdcggehcaaAidU
set_option linter.unusedVariables false
set_option linter.unusedSimpArgs false
namespace Go.Proofs.Ytmikakdcggehcaa.Pure
open Go Go.RowKit Go.Proofs.Ytmikakdcggehcaa.PFnExactMend Go.Proofs.YtmikakdcggehcaaW.PrintWords Go.Proofs.YtmikakdcggehcaaW.PrintLast Go.Proofs.YtmikakdcggehcaaW.PrintMore
theorem wf8 {x : Int} (h : (Lit.int .u8 x).wf = true) : 0 ≤ x ∧ x < 256 := by
 have h2 := h
 simp [Lit.wf, IntKind.min, IntKind.max, IntKind.signed, IntKind.bits] at h2
 omega
theorem toByteS_l0 (xs : List Int) (hl : xs.length ≤ 1048576) : ∀ (d i : Nat) (acc : List Int), i + d = xs.length → acc.length = xs.length → acc.take i = xs.take i → Ev (fun k => laws_toByteS.l0 k xs acc (i : Int)) xs := by
 intro d
 induction d with
 | zero =>
  intro i acc hi ha ht
  refine Ev.succ ?_
  simp only [laws_toByteS.l0]
  refine Ev.neg (by omega) (Ev.some_ ?_)
  rw [List.take_of_length_le (by omega), List.take_of_length_le (by omega)] at ht
  exact ht
 | succ d ih =>
  intro i acc hi ha ht
  refine Ev.succ ?_
  simp only [laws_toByteS.l0]
  rw [w64_add (by omega) (by omega), Int.toNat_natCast]
  refine Ev.pos (by omega) (Ev.pos (by omega) (Ev.pos (by omega) (ih (i + 1) _ (by omega) (by simpa using ha) ?_)))
  rw [take_set_end (by omega), take_rd (by omega), ht]
theorem toByteS_ev (xs : List Int) (hl : xs.length ≤ 1048576) : Ev (fun k => laws_toByteS.f k xs) xs := by
 unfold laws_toByteS.f
 refine Ev.pos (by omega) (Ev.pos (by rw [Int.toNat_natCast]; omega) ?_)
 rw [Int.toNat_natCast]
 exact toByteS_l0 xs hl xs.length 0 _ (by omega) (by simp) (by simp)
theorem eqIntS_l0 (a b : List Int) (h : a.length = b.length) (hl : a.length ≤ 35184372088832) : ∀ (d i : Nat), i + d = a.length → Ev (fun k => laws_eqIntS.l0 k a b (i : Int)) (decide (a.drop i = b.drop i)) := by
 intro d
 induction d with
 | zero =>
  intro i hi
  refine Ev.round (f := fun _ => some true) (Ev.some_ ?_) (fun k => by simp only [laws_eqIntS.l0]; rw [if_neg (by omega)])
  rw [List.drop_of_length_le (by omega), List.drop_of_length_le (by omega)]; simp
 | succ d ih =>
  intro i hi
  by_cases he : rd a i = rd b i
  case neg =>
   refine (Ev.round (f := fun _ => some false) (Ev.some_ rfl) (fun k => ?_)).to ?_
   ·simp only [laws_eqIntS.l0]
    rw [if_pos (by omega), if_pos (by omega), if_pos (by omega), if_neg he]
   ·rw [drop_rd (xs := a) (i := i) (by omega), drop_rd (xs := b) (i := i) (by omega)]; simp [he]
  refine (Ev.round (ih (i + 1) (by omega)) (fun k => ?_)).to ?_
  ·simp only [laws_eqIntS.l0]
   rw [if_pos (by omega), if_pos (by omega), if_pos (by omega), if_pos he, w64_add (by omega) (by omega)]; simp
  ·rw [drop_rd (xs := a) (i := i) (by omega), drop_rd (xs := b) (i := i) (by omega), he]; simp
theorem eqIntS_ev (a b : List Int) (hl : a.length ≤ 35184372088832) : Ev (fun k => laws_eqIntS.f k a b) (decide (a = b)) := by
 unfold laws_eqIntS.f
 by_cases h : a.length = b.length
 case pos => exact Ev.pos (by omega) (eqIntS_l0 a b h hl a.length 0 (by omega))
 exact (Ev.neg (by omega) (Ev.some_ rfl)).to (by simp; intro e; exact h (by rw [e]))
def iota (a : Int) : Nat → List Int
 | 0 => []
 | n + 1 => a :: iota (a + 1) n
theorem iota_length : ∀ (n : Nat) (a : Int), (iota a n).length = n
 | 0, _ => rfl
 | n + 1, a => by simp [iota, iota_length n]
theorem markIntS_l0 (m : Nat) (hm : m ≤ 1048576) : ∀ (d i : Nat) (l : List Int) (a : Int), i + d = l.length → l.length ≤ 1048576 → 0 ≤ a → a ≤ 1000000000 + i → Ev (fun k => laws_markIntS.l0 k l a (i : Int)) (a + d, l.take i ++ iota a d) := by
 intro d
 induction d with
 | zero =>
  intro i l a hi hl h0 h1
  refine Ev.succ ?_
  simp only [laws_markIntS.l0]
  refine Ev.neg (by omega) (Ev.some_ ?_)
  rw [List.take_of_length_le (by omega)]; simp [iota]
 | succ d ih =>
  intro i l a hi hl h0 h1
  refine Ev.succ ?_
  simp only [laws_markIntS.l0]
  refine Ev.pos (by omega) (Ev.pos (by omega) ?_)
  rw [w64_add (by omega) (by omega), w64_add (by omega) (by omega)]
  refine (ih (i + 1) (l.set i a) (a + 1) (by simp; omega) (by simpa using hl) (by omega) (by omega)).to ?_
  rw [take_set_end (by omega)]
  simp only [iota, List.append_assoc, List.cons_append, List.nil_append, Prod.mk.injEq, and_true]
  omega
theorem markIntS_ev (l : List Int) (a : Int) (hl : l.length ≤ 1048576) (h0 : 0 ≤ a) (h1 : a ≤ 1000000000) : Ev (fun k => laws_markIntS.f k l a) (a + l.length, iota a l.length) := by
 unfold laws_markIntS.f
 exact (markIntS_l0 l.length hl l.length 0 l a (by omega) hl h0 (by omega)).to (by simp)
theorem heldIntS_l0 (p : List Int) : ∀ (d : Nat) (a : Int) (l : List Int), l = p ++ iota a d → l.length ≤ 1048576 → ∀ i : Nat, i = p.length → 0 ≤ a → a ≤ 1000000000 + i → Ev (fun k => laws_heldIntS.l0 k l a (i : Int)) (a + d) := by
 intro d
 induction d generalizing p with
 | zero =>
  intro a l hl hn i hi h0 h1
  refine Ev.succ ?_
  simp only [laws_heldIntS.l0]
  have : l.length = p.length := by rw [hl]; simp [iota]
  exact Ev.neg (by omega) (Ev.some_ (by omega))
 | succ d ih =>
  intro a l hl hn i hi h0 h1
  have e : l.length = p.length + (d + 1) := by rw [hl]; simp [iota, iota_length]
  refine Ev.succ ?_
  simp only [laws_heldIntS.l0]
  refine Ev.pos (by omega) (Ev.pos (by omega) (Ev.pos ?_ ?_))
  ·rw [rd_get l i (by omega)]
   subst hl
   rw [List.getElem_append_right (by omega)]
   simp [iota, hi]
  ·rw [w64_add (by omega) (by omega), w64_add (by omega) (by omega)]
   exact (ih (p ++ [a]) (a + 1) l (by rw [hl]; simp [iota]) hn (i + 1) (by simp [hi]) (by omega) (by omega)).to (by omega)
theorem heldIntS_ev (n : Nat) (a : Int) (hn : n ≤ 1048576) (h0 : 0 ≤ a) (h1 : a ≤ 1000000000) : Ev (fun k => laws_heldIntS.f k (iota a n) a) (a + n) :=
 heldIntS_l0 [] n a (iota a n) (by simp) (by rw [iota_length]; exact hn) 0 rfl h0 (by omega)
def iota8 (a : Int) : Nat → List Int
 | 0 => []
 | n + 1 => a % 256 :: iota8 (a + 1) n
theorem iota8_length : ∀ (n : Nat) (a : Int), (iota8 a n).length = n
 | 0, _ => rfl
 | n + 1, a => by simp [iota8, iota8_length n]
theorem markByteS_l0 (m : Nat) (hm : m ≤ 1048576) : ∀ (d i : Nat) (l : List Int) (a : Int), i + d = l.length → l.length ≤ 1048576 → 0 ≤ a → a ≤ 1000000000 + i → Ev (fun k => laws_markByteS.l0 k l a (i : Int)) (a + d, l.take i ++ iota8 a d) := by
 intro d
 induction d with
 | zero =>
  intro i l a hi hl h0 h1
  refine Ev.succ ?_
  simp only [laws_markByteS.l0]
  refine Ev.neg (by omega) (Ev.some_ ?_)
  rw [List.take_of_length_le (by omega)]; simp [iota8]
 | succ d ih =>
  intro i l a hi hl h0 h1
  refine Ev.succ ?_
  simp only [laws_markByteS.l0]
  refine Ev.pos (by omega) (Ev.pos (by omega) ?_)
  rw [w64_add (by omega) (by omega), w64_add (by omega) (by omega)]
  refine (ih (i + 1) (l.set i (a % 256)) (a + 1) (by simp; omega) (by simpa using hl) (by omega) (by omega)).to ?_
  rw [take_set_end (by omega)]
  simp only [iota8, List.append_assoc, List.cons_append, List.nil_append, Prod.mk.injEq, and_true]
  omega
theorem markByteS_ev (l : List Int) (a : Int) (hl : l.length ≤ 1048576) (h0 : 0 ≤ a) (h1 : a ≤ 1000000000) : Ev (fun k => laws_markByteS.f k l a) (a + l.length, iota8 a l.length) := by
 unfold laws_markByteS.f
 exact (markByteS_l0 l.length hl l.length 0 l a (by omega) hl h0 (by omega)).to (by simp)
theorem eqByteS_l0 (a b : List Int) (h : a.length = b.length) (hl : a.length ≤ 35184372088832) : ∀ (d i : Nat), i + d = a.length → Ev (fun k => laws_eqByteS.l0 k a b (i : Int)) (decide (a.drop i = b.drop i)) := by
 intro d
 induction d with
 | zero =>
  intro i hi
  refine Ev.round (f := fun _ => some true) (Ev.some_ ?_) (fun k => by simp only [laws_eqByteS.l0]; rw [if_neg (by omega)])
  rw [List.drop_of_length_le (by omega), List.drop_of_length_le (by omega)]; simp
 | succ d ih =>
  intro i hi
  by_cases he : rd a i = rd b i
  case neg =>
   refine (Ev.round (f := fun _ => some false) (Ev.some_ rfl) (fun k => ?_)).to ?_
   ·simp only [laws_eqByteS.l0]
    rw [if_pos (by omega), if_pos (by omega), if_pos (by omega), if_neg he]
   ·rw [drop_rd (xs := a) (i := i) (by omega), drop_rd (xs := b) (i := i) (by omega)]; simp [he]
  refine (Ev.round (ih (i + 1) (by omega)) (fun k => ?_)).to ?_
  ·simp only [laws_eqByteS.l0]
   rw [if_pos (by omega), if_pos (by omega), if_pos (by omega), if_pos he, w64_add (by omega) (by omega)]; simp
  ·rw [drop_rd (xs := a) (i := i) (by omega), drop_rd (xs := b) (i := i) (by omega), he]; simp
theorem eqByteS_ev (a b : List Int) (hl : a.length ≤ 35184372088832) : Ev (fun k => laws_eqByteS.f k a b) (decide (a = b)) := by
 unfold laws_eqByteS.f
 by_cases h : a.length = b.length
 case pos => exact Ev.pos (by omega) (eqByteS_l0 a b h hl a.length 0 (by omega))
 exact (Ev.neg (by omega) (Ev.some_ rfl)).to (by simp; intro e; exact h (by rw [e]))
theorem wadd1 {e : Nat} (h : e ≤ 9000000000000000000) : wrap64 ((e : Int) + 1) = ((e + 1 : Nat) : Int) := by rw [w64 (by omega) (by omega)]; omega
theorem wadd2 {e : Nat} (h : e ≤ 9000000000000000000) : wrap64 ((e : Int) + 2) = ((e + 2 : Nat) : Int) := by rw [w64 (by omega) (by omega)]; omega
theorem wadd3 {e : Nat} (h : e ≤ 9000000000000000000) : wrap64 ((e : Int) + 3) = ((e + 3 : Nat) : Int) := by rw [w64 (by omega) (by omega)]; omega
theorem wround8 {e u : Nat} (h : e ≤ 1000000000000000000) (h2 : u ≤ 1000000000000000000) : wrap64 ((e : Int) + wrap64 (Int.tdiv (wrap64 ((u : Int) + 7)) 8)) = ((e + (u + 7) / 8 : Nat) : Int) := by
 rw [w64 (n := (u : Int) + 7) (by omega) (by omega), Int.tdiv_eq_ediv_of_nonneg (by omega), w64 (n := ((u : Int) + 7) / 8) (by omega) (by omega), w64 (by omega) (by omega)]; omega
/-- The bits, eight to a byte, the first in the highest place. -/
def packVal (bs acc : List Int) (i : Nat) : Int := bits .or .u8 (rd acc ((i / 8 : Nat) : Int)) (rd bs (i : Int) * 2 ^ (7 - i % 8))
def packGo (bs : List Int) : Nat → Nat → List Int → List Int
 | 0, _, acc => acc
 | d + 1, i, acc => packGo bs d (i + 1) (acc.set (i / 8) (packVal bs acc i))
def packOf (bs : List Int) : List Int := packGo bs bs.length 0 (List.replicate ((bs.length + 7) / 8) 0)
theorem shl_bit64 (s : Nat) (hs : s ≤ 7) (b : Int) (hb : b = 0 ∨ b = 1) : shl .i64 b (s : Int) % 256 = b * 2 ^ s := by
 have h : ∀ s : Fin 8, shl .i64 0 (s.val : Int) % 256 = 0 * 2 ^ s.val ∧ shl .i64 1 (s.val : Int) % 256 = 1 * 2 ^ s.val := by decide
 rcases hb with rfl | rfl
 ·exact (h ⟨s, by omega⟩).1
 ·exact (h ⟨s, by omega⟩).2
theorem shl_bit8 (s : Nat) (hs : s ≤ 7) (b : Int) (hb : b = 0 ∨ b = 1) : shl .u8 (b % 256) (s : Int) = b * 2 ^ s := by
 have h : ∀ s : Fin 8, shl .u8 (0 % 256) (s.val : Int) = 0 * 2 ^ s.val ∧ shl .u8 (1 % 256) (s.val : Int) = 1 * 2 ^ s.val := by decide
 rcases hb with rfl | rfl
 ·exact (h ⟨s, by omega⟩).1
 ·exact (h ⟨s, by omega⟩).2
theorem packVal_bd (bs acc : List Int) (i : Nat) : 0 ≤ packVal bs acc i ∧ packVal bs acc i < 256 := by
 unfold packVal bits
 simp only [IntKind.wrap_u8]
 omega
theorem packGo_len (bs : List Int) : ∀ (d i : Nat) (acc : List Int), (packGo bs d i acc).length = acc.length
 | 0, _, _ => rfl
 | d + 1, i, acc => by simp only [packGo]; rw [packGo_len bs d]; simp
theorem packGo_bd (bs : List Int) : ∀ (d i : Nat) (acc : List Int), (∀ x ∈ acc, 0 ≤ x ∧ x < 256) → ∀ x ∈ packGo bs d i acc, 0 ≤ x ∧ x < 256
 | 0, _, _, h => h
 | d + 1, i, acc, h => packGo_bd bs d (i + 1) _ (fun x hx => by
  rcases List.mem_or_eq_of_mem_set hx with hx | rfl
  ·exact h x hx
  ·exact packVal_bd bs acc i)
theorem packOf_bd (bs : List Int) : ∀ x ∈ packOf bs, 0 ≤ x ∧ x < 256 := packGo_bd bs _ _ _ (fun x hx => by rw [List.eq_of_mem_replicate hx]; omega)
theorem packOf_len (bs : List Int) : (packOf bs).length = (bs.length + 7) / 8 := by unfold packOf; rw [packGo_len]; simp
def xorI (a b : Int) : Int := ((a.toNat ^^^ b.toNat : Nat) : Int)
theorem bits_xor {a b : Int} (ha : 0 ≤ a ∧ a < 9223372036854775808) (hb : 0 ≤ b ∧ b < 9223372036854775808) : bits .xor .i64 a b = xorI a b := by
 obtain ⟨x, rfl⟩ := Int.eq_ofNat_of_zero_le ha.1
 obtain ⟨y, rfl⟩ := Int.eq_ofNat_of_zero_le hb.1
 have hx : x % 2 ^ IntKind.i64.bits = x := Nat.mod_eq_of_lt (by show x < 2 ^ 64; omega)
 have hy : y % 2 ^ IntKind.i64.bits = y := Nat.mod_eq_of_lt (by show y < 2 ^ 64; omega)
 have hl : x ^^^ y < 2 ^ 63 := Nat.xor_lt_two_pow (by omega) (by omega)
 unfold xorI
 simp only [bits, BitVec.toNat_xor, BitVec.ofInt_natCast, BitVec.toNat_ofNat, hx, hy, Int.toNat_natCast]
 rw [IntKind.wrap_i64]
 omega
theorem xorI_bd {a b : Int} {n : Nat} (ha : a < 2 ^ n) (hb : b < 2 ^ n) : 0 ≤ xorI a b ∧ xorI a b < 2 ^ n := by
 have e : ((2 ^ n : Nat) : Int) = (2 : Int) ^ n := by norm_cast
 have p : (0 : Nat) < 2 ^ n := Nat.two_pow_pos n
 have h : a.toNat ^^^ b.toNat < 2 ^ n := Nat.xor_lt_two_pow (by omega) (by omega)
 unfold xorI
 omega
/-- One round of the check: the top bit out, the rest up by one. -/
def crcStep (x : Int) : Int := if x ≥ 32768 then xorI (2 * x) 4129 % 65536 else 2 * x % 65536
def crcTurns : Nat → Int → Int
 | 0, x => x
 | d + 1, x => crcTurns d (crcStep x)
def crcGo : List Int → Int → Int
 | [], x => x
 | b :: l, x => crcGo l (crcTurns 8 (xorI x (256 * b)))
def crcOf (l : List Int) : Int := if l.length > 65536 then 0 else crcGo l 65535
theorem crcStep_bd (x : Int) : 0 ≤ crcStep x ∧ crcStep x < 65536 := by unfold crcStep; split <;> omega
theorem crcTurns_bd : ∀ (d : Nat) (x : Int), 0 ≤ x ∧ x < 65536 → 0 ≤ crcTurns d x ∧ crcTurns d x < 65536
 | 0, _, h => h
 | d + 1, x, _ => crcTurns_bd d _ (crcStep_bd x)
theorem crcGo_bd : ∀ (l : List Int) (x : Int), 0 ≤ x ∧ x < 65536 → (∀ b ∈ l, 0 ≤ b ∧ b < 256) → 0 ≤ crcGo l x ∧ crcGo l x < 65536
 | [], _, h, _ => h
 | b :: l, x, h, hb => by
  have := hb b (by simp)
  exact crcGo_bd l _ (crcTurns_bd 8 _ (xorI_bd (n := 16) (by omega) (by omega))) (fun y hy => hb y (by simp [hy]))
theorem crcOf_bd {l : List Int} (hb : ∀ b ∈ l, 0 ≤ b ∧ b < 256) : 0 ≤ crcOf l ∧ crcOf l < 65536 := by
 unfold crcOf
 split
 ·omega
 ·exact crcGo_bd l _ (by omega) hb
/-- The word with its seventeenth bit, turned over with the seventeen bits of the maker, is the low sixteen turned over. -/
theorem xor17 {x : Int} (h0 : 65536 ≤ x) (h1 : x < 131072) : xorI x 69665 = xorI x 4129 % 65536 := by
 obtain ⟨n, rfl⟩ := Int.eq_ofNat_of_zero_le (show 0 ≤ x by omega)
 have e1 : (n ^^^ 69665) / 2 ^ 16 = 0 := by
  rw [Nat.xor_div_two_pow, show n / 2 ^ 16 = 1 by omega]; rfl
 have e2 : (n ^^^ 69665) % 2 ^ 16 = (n ^^^ 4129) % 2 ^ 16 := by
  rw [Nat.xor_mod_two_pow, Nat.xor_mod_two_pow]
 unfold xorI
 simp only [Int.toNat_natCast]
 rw [show (69665 : Int).toNat = 69665 by rfl, show (4129 : Int).toNat = 4129 by rfl]
 omega
def allIn (a : Int) (l : List Int) : Bool := l.all fun x => decide (-a ≤ x) && decide (x ≤ a)
theorem allIn_iff {a : Int} {l : List Int} : allIn a l = true ↔ ∀ x ∈ l, -a ≤ x ∧ x ≤ a := by
 unfold allIn; simp [List.all_eq_true]
/-- What sample i is foretold by, by those ahead of it. -/
def foreN (o : Int) (l : List Int) (i : Nat) : Int :=
 if mn o i = 1 then rd l ((i : Int) - 1)
 else if mn o i = 2 then 2 * rd l ((i : Int) - 1) - rd l ((i : Int) - 2)
 else if mn o i = 3 then 3 * (rd l ((i : Int) - 1) - rd l ((i : Int) - 2)) + rd l ((i : Int) - 3)
 else 0
theorem rd_bd {l : List Int} {i : Int} (h : ∀ x ∈ l, -1000000000 ≤ x ∧ x ≤ 1000000000) : -1000000000 ≤ rd l i ∧ rd l i ≤ 1000000000 := by
 unfold rd
 rw [List.getD_eq_getElem?_getD]
 cases hg : l[i.toNat]? with
 | none => simp
 | some x => exact h x (List.mem_of_getElem? hg)
theorem foreN_bd {o : Int} {l : List Int} {i : Nat} (h : ∀ x ∈ l, -1000000000 ≤ x ∧ x ≤ 1000000000) : -7000000000 ≤ foreN o l i ∧ foreN o l i ≤ 7000000000 := by
 have h1 := rd_bd (l := l) (i := (i : Int) - 1) h
 have h2 := rd_bd (l := l) (i := (i : Int) - 2) h
 have h3 := rd_bd (l := l) (i := (i : Int) - 3) h
 unfold foreN
 split
 ·omega
 ·split
  ·omega
  ·split <;> omega
theorem rd_take {l : List Int} {i : Nat} {j : Int} (h0 : 0 ≤ j) (h1 : j < i) : rd (l.take i) j = rd l j := by
 unfold rd
 rw [List.getD_eq_getElem?_getD, List.getD_eq_getElem?_getD, List.getElem?_take_of_lt (by omega)]
def guessGo (o : Int) (l : List Int) : Nat → Nat → List Int
 | 0, _ => []
 | d + 1, i => (rd l i - foreN o l i) :: guessGo o l d (i + 1)
theorem guessGo_len (o : Int) (l : List Int) : ∀ d i, (guessGo o l d i).length = d
 | 0, _ => rfl
 | d + 1, i => by simp [guessGo, guessGo_len o l d (i + 1)]
def sigB (l : List Int) : Bool := decide (l.length ≤ 512) && allIn 1000000000 l
theorem sigB_iff {l : List Int} : sigB l = true ↔ l.length ≤ 512 ∧ ∀ x ∈ l, -1000000000 ≤ x ∧ x ≤ 1000000000 := by
 unfold sigB; rw [Bool.and_eq_true, allIn_iff]; simp
def guessOf (o : Int) (l : List Int) : List Int × Bool := if (0 ≤ o ∧ o ≤ 3) ∧ sigB l = true then (guessGo o l l.length 0, true) else ([], false)
def unGo (o : Int) (left : List Int) : Nat → Nat → List Int → List Int × Bool
 | 0, _, out => (out, true)
 | d + 1, i, out => if -1000000000 ≤ rd left i + foreN o out out.length ∧ rd left i + foreN o out out.length ≤ 1000000000 then unGo o left d (i + 1) (out ++ [rd left i + foreN o out out.length]) else ([], false)
theorem unGo_len (o : Int) (left : List Int) : ∀ (d i : Nat) (out : List Int), (unGo o left d i out).1.length ≤ out.length + d
 | 0, _, out => by simp [unGo]
 | d + 1, i, out => by
  simp only [unGo]
  split
  ·have := unGo_len o left d (i + 1) (out ++ [rd left i + foreN o out out.length])
   simp only [List.length_append, List.length_cons, List.length_nil] at this
   omega
  ·simp
def unGuessOf (o : Int) (left : List Int) : List Int × Bool := if (0 ≤ o ∧ o ≤ 3) ∧ left.length ≤ 512 ∧ allIn 10000000000 left = true then unGo o left left.length 0 [] else ([], false)
def zig (x : Int) : Int := if x < 0 then -2 * x - 1 else 2 * x
theorem zig_bd {x : Int} (h0 : -1000000000 ≤ x) (h1 : x ≤ 1000000000) : 0 ≤ zig x ∧ zig x ≤ 2000000000 := by unfold zig; split <;> omega
def riceSz (k : Nat) : List Int → Int
 | [] => 0
 | x :: l => riceSz k l + (zig x / 2 ^ k + 1 + k)
theorem riceSz_bd (k : Nat) (hk : k ≤ 30) : ∀ (l : List Int), (∀ x ∈ l, -1000000000 ≤ x ∧ x ≤ 1000000000) → 0 ≤ riceSz k l ∧ riceSz k l ≤ l.length * 2000000031
 | [], _ => by simp [riceSz]
 | x :: l, h => by
  have ih := riceSz_bd k hk l (fun y hy => h y (by simp [hy]))
  have hx := h x (by simp)
  have hz := zig_bd hx.1 hx.2
  have hp : (0 : Int) < 2 ^ k := Int.pow_pos (by omega)
  have h1 : 0 ≤ zig x / 2 ^ k := Int.ediv_nonneg hz.1 (by omega)
  have h2 : zig x / 2 ^ k ≤ zig x := Int.ediv_le_self _ hz.1
  simp only [riceSz, List.length_cons]
  omega
theorem shr_small {x : Int} {k : Nat} (hk : k ≤ 62) : shr .i64 x (k : Int) = x / 2 ^ k := by
 unfold shr
 rw [show min ((k : Int).toNat) IntKind.i64.bits = k by simp [IntKind.bits]; omega]
def bestGo (f : Nat → Int) : Nat → Nat → Int → Int → Int × Int
 | 0, _, b, m => (b, m)
 | d + 1, i, b, m => if f i ≤ 100000 ∧ (b < 0 ∨ f i < m) then bestGo f d (i + 1) i (f i) else bestGo f d (i + 1) b m
def bestOf (l : List Int) : Int × Int := if l.length ≤ 128 ∧ allIn 1000000000 l = true then bestGo (fun k => riceSz k l) 31 0 (-1) 0 else (-1, 0)
/-- The k lowest bits of u, the highest first. -/
def lowBits (u : Int) : Nat → List Int
 | 0 => []
 | k + 1 => (u / 2 ^ k % 2) :: lowBits u k
theorem lowBits_length (u : Int) : ∀ k, (lowBits u k).length = k
 | 0 => rfl
 | k + 1 => by simp [lowBits, lowBits_length u k]
def riceOne (k : Nat) (x : Int) : List Int := List.replicate (zig x / 2 ^ k).toNat 1 ++ 0 :: lowBits (zig x) k
def riceAll (k : Nat) : List Int → List Int
 | [] => []
 | x :: l => riceOne k x ++ riceAll k l
theorem riceOne_length (k : Nat) (x : Int) (hx : -1000000000 ≤ x ∧ x ≤ 1000000000) : ((riceOne k x).length : Int) = zig x / 2 ^ k + 1 + k := by
 have hz := zig_bd hx.1 hx.2
 have hp : (0 : Int) < 2 ^ k := Int.pow_pos (by omega)
 have h1 : 0 ≤ zig x / 2 ^ k := Int.ediv_nonneg hz.1 (by omega)
 simp only [riceOne, List.length_append, List.length_replicate, List.length_cons, lowBits_length]
 omega
theorem riceAll_length (k : Nat) : ∀ (l : List Int), (∀ x ∈ l, -1000000000 ≤ x ∧ x ≤ 1000000000) → ((riceAll k l).length : Int) = riceSz k l
 | [], _ => by simp [riceAll, riceSz]
 | x :: l, h => by
  have ih := riceAll_length k l (fun y hy => h y (by simp [hy]))
  have hx := riceOne_length k x (h x (by simp))
  simp only [riceAll, riceSz, List.length_append]
  omega
def riceOf (k : Int) (l : List Int) : List Int × Bool :=
 if (0 ≤ k ∧ k ≤ 30) ∧ (l.length ≤ 128 ∧ allIn 1000000000 l = true) ∧ riceSz k.toNat l ≤ 100000 then (riceAll k.toNat l, true) else ([], false)
theorem snoc_ones (acc : List Int) (n : Nat) : (acc ++ [1]) ++ List.replicate n 1 = acc ++ List.replicate (n + 1) 1 := by
 rw [List.append_assoc]; rfl
theorem lowBits_bit (u : Int) : ∀ k, ∀ x ∈ lowBits u k, x = 0 ∨ x = 1
 | 0, x, h => by cases h
 | k + 1, x, h => by
  simp only [lowBits, List.mem_cons] at h
  rcases h with rfl | h
  ·omega
  ·exact lowBits_bit u k x h
theorem riceAll_bit (kk : Nat) : ∀ l, ∀ x ∈ riceAll kk l, x = 0 ∨ x = 1
 | [], x, h => by cases h
 | y :: l, x, h => by
  simp only [riceAll, riceOne, List.mem_append, List.mem_cons, List.mem_replicate] at h
  rcases h with (⟨_, rfl⟩ | rfl | h) | h
  ·exact .inr rfl
  ·exact .inl rfl
  ·exact lowBits_bit _ _ _ h
  ·exact riceAll_bit kk l x h
def orderGo (l : List Int) : Nat → Nat → Int → Int → Int → Int × Int × Int
 | 0, _, o, q, m => (o, q, m)
 | d + 1, i, o, q, m => if (bestOf (guessGo i l l.length 0)).1 ≥ 0 ∧ (o < 0 ∨ (bestOf (guessGo i l l.length 0)).2 < m) then orderGo l d (i + 1) i (bestOf (guessGo i l l.length 0)).1 (bestOf (guessGo i l l.length 0)).2 else orderGo l d (i + 1) o q m
def orderOf (l : List Int) : Int × Int × Int := orderGo l (min 4 l.length) 0 (-1) 0 0
theorem orderGo_bd (l : List Int) : ∀ (d i : Nat) (o q m : Int), i + d ≤ 4 → -1 ≤ o ∧ o ≤ 3 → -1 ≤ (orderGo l d i o q m).1 ∧ (orderGo l d i o q m).1 ≤ 3
 | 0, _, _, _, _, _, h => h
 | d + 1, i, o, q, m, hi, h => by
  simp only [orderGo]
  split
  ·exact orderGo_bd l d (i + 1) _ _ _ (by omega) (by omega)
  ·exact orderGo_bd l d (i + 1) _ _ _ (by omega) h
def frameBody (l : List Int) (o q : Int) (bs : List Int) : List Int := [70, wrap64 ((l.length : Int) - 1) % 256, wrap64 (wrap64 (32 * o) + q) % 256] ++ packOf bs
def frameOf (l : List Int) : List Int × Bool :=
 if (1 ≤ l.length ∧ l.length ≤ 128) ∧ sigB l = true then
  (if (orderOf l).1 < 0 then ([], false)
   else (frameBody l (orderOf l).1 (orderOf l).2.1 (riceOf (orderOf l).2.1 (guessGo (orderOf l).1 l l.length 0)).1 ++ [crcOf (frameBody l (orderOf l).1 (orderOf l).2.1 (riceOf (orderOf l).2.1 (guessGo (orderOf l).1 l l.length 0)).1) / 256 % 256, crcOf (frameBody l (orderOf l).1 (orderOf l).2.1 (riceOf (orderOf l).2.1 (guessGo (orderOf l).1 l l.length 0)).1) % 256], true))
 else ([], false)
theorem frameBody_bd (l : List Int) (o q : Int) (bs : List Int) : ∀ x ∈ frameBody l o q bs, 0 ≤ x ∧ x < 256 := by
 intro x hx
 unfold frameBody at hx
 rcases List.mem_append.1 hx with h | h
 ·simp only [List.mem_cons, List.not_mem_nil, or_false] at h
  rcases h with h | h | h <;> omega
 ·exact packOf_bd bs x h
theorem frameBody_len (l : List Int) (o q : Int) (bs : List Int) : (frameBody l o q bs).length = 3 + (bs.length + 7) / 8 := by
 unfold frameBody; rw [List.length_append, packOf_len]; rfl
theorem riceOf_bit (q : Int) (l : List Int) : ∀ x ∈ (riceOf q l).1, x = 0 ∨ x = 1 := by
 unfold riceOf
 split
 ·exact riceAll_bit _ l
 ·intro x hx; cases hx
theorem riceOf_len (q : Int) (l : List Int) : (riceOf q l).1.length ≤ 100000 := by
 unfold riceOf
 split
 ·rename_i h
  have := riceAll_length q.toNat l (allIn_iff.1 h.2.1.2)
  have := h.2.2
  show (riceAll q.toNat l).length ≤ 100000
  omega
 ·exact Nat.zero_le _
theorem frameOf_len (l : List Int) : (frameOf l).1.length ≤ 20000 := by
 have h := riceOf_len (orderOf l).2.1 (guessGo (orderOf l).1 l l.length 0)
 have b := frameBody_len l (orderOf l).1 (orderOf l).2.1 (riceOf (orderOf l).2.1 (guessGo (orderOf l).1 l l.length 0)).1
 unfold frameOf
 split
 ·split
  ·exact Nat.zero_le _
  ·simp only [List.length_append, List.length_cons, List.length_nil]; omega
 ·exact Nat.zero_le _
theorem frameOf_no {l : List Int} (h : (frameOf l).2 = false) : (frameOf l).1 = [] := by
 unfold frameOf at h ⊢
 split
 ·rename_i h1
  rw [if_pos h1] at h
  split
  ·rfl
  ·rename_i h2
   rw [if_neg h2] at h
   cases h
 ·rfl
theorem frameOf_bd (l : List Int) : ∀ x ∈ (frameOf l).1, 0 ≤ x ∧ x < 256 := by
 have hb := frameBody_bd l (orderOf l).1 (orderOf l).2.1 (riceOf (orderOf l).2.1 (guessGo (orderOf l).1 l l.length 0)).1
 unfold frameOf
 split
 ·split
  ·intro x hx; cases hx
  ·intro x hx
   rcases List.mem_append.1 hx with h | h
   ·exact hb x h
   ·simp only [List.mem_cons, List.not_mem_nil, or_false] at h
    rcases h with h | h <;> omega
 ·intro x hx; cases hx
def bitOk (x : Int) : Bool := decide (x = 0 ∨ x = 1)
/-- How many 1 stand at the begin. -/
def onesRun : List Int → Nat
 | [] => 0
 | x :: l => if x = 1 then onesRun l + 1 else 0
theorem onesRun_le : ∀ l, onesRun l ≤ l.length
 | [] => by simp [onesRun]
 | x :: l => by have := onesRun_le l; simp only [onesRun, List.length_cons]; split <;> omega
def lowVal (u : Int) : Nat → List Int → Int
 | 0, _ => u
 | _ + 1, [] => u
 | b + 1, x :: l => lowVal (2 * u + x) b l
theorem lowVal_bd : ∀ (b : Nat) (u : Int) (l : List Int), (∀ x ∈ l, x = 0 ∨ x = 1) → 0 ≤ u → b ≤ l.length → u * 2 ^ b ≤ lowVal u b l ∧ lowVal u b l < (u + 1) * 2 ^ b
 | 0, u, l, _, _, _ => by simp [lowVal]; omega
 | b + 1, u, [], _, _, hl => by simp at hl
 | b + 1, u, x :: l, hb, hu, hl => by
  have hx := hb x (by simp)
  have ih := lowVal_bd b (2 * u + x) l (fun y hy => hb y (by simp [hy])) (by omega) (by simpa using hl)
  have e : (2 : Int) ^ (b + 1) = 2 * 2 ^ b := by rw [Int.pow_succ]; omega
  have hp : (0 : Int) < 2 ^ b := Int.pow_pos (by omega)
  simp only [lowVal]
  rw [e]
  have e1 : u * (2 * 2 ^ b) = 2 * u * 2 ^ b := by rw [← Int.mul_assoc, Int.mul_comm u 2]
  have e2 : (u + 1) * (2 * 2 ^ b) = (2 * u + 2) * 2 ^ b := by rw [← Int.mul_assoc, Int.mul_comm (u + 1) 2]; congr 1; omega
  rw [e1, e2]
  have h1 : 2 * u * 2 ^ b ≤ (2 * u + x) * 2 ^ b := Int.mul_le_mul_of_nonneg_right (by omega) (by omega)
  have h2 : (2 * u + x + 1) * 2 ^ b ≤ (2 * u + 2) * 2 ^ b := Int.mul_le_mul_of_nonneg_right (by omega) (by omega)
  omega
def unzig (u : Int) : Int := if u % 2 = 1 then -(u / 2) - 1 else u / 2
/-- What stands in the bits from a place on: so many numbers. -/
def unR (kk : Nat) (l : List Int) : Nat → Nat → List Int → List Int × Int × Bool
 | 0, at_, out => (out, (at_ : Int), true)
 | n + 1, at_, out =>
  if l.length < at_ + onesRun (l.drop at_) + 1 + kk then ([], 0, false)
  else if lowVal (onesRun (l.drop at_)) kk (l.drop (at_ + onesRun (l.drop at_) + 1)) ≤ 2000000000 then
   unR kk l n (at_ + onesRun (l.drop at_) + 1 + kk) (out ++ [unzig (lowVal (onesRun (l.drop at_)) kk (l.drop (at_ + onesRun (l.drop at_) + 1)))])
  else ([], 0, false)
def unRiceOf (kk : Int) (l : List Int) (n : Int) : List Int × Int × Bool :=
 if (0 ≤ kk ∧ kk ≤ 30) ∧ (0 ≤ n ∧ n ≤ 128) ∧ l.all bitOk = true then unR kk.toNat l n.toNat 0 [] else ([], 0, false)
theorem onesRun_drop {l : List Int} {i : Nat} (h : i < l.length) (h1 : rd l i = 1) : onesRun (l.drop i) = onesRun (l.drop (i + 1)) + 1 := by
 rw [drop_rd h]; simp [onesRun, h1]
theorem onesRun_stop {l : List Int} {i : Nat} (h : i < l.length → rd l i ≠ 1) : onesRun (l.drop i) = 0 := by
 by_cases hi : i < l.length
 case pos => rw [drop_rd hi]; simp [onesRun, h hi]
 rw [List.drop_of_length_le (by omega)]; rfl
theorem allBits_iff {l : List Int} : l.all bitOk = true ↔ ∀ x ∈ l, x = 0 ∨ x = 1 := by simp [List.all_eq_true, bitOk]
theorem unR_len (kk : Nat) (l : List Int) : ∀ (n at_ : Nat) (out : List Int), (unR kk l n at_ out).1.length ≤ out.length + n
 | 0, at_, out => by simp [unR]
 | n + 1, at_, out => by
  simp only [unR]
  split
  ·simp
  ·split
   ·have := unR_len kk l n (at_ + onesRun (l.drop at_) + 1 + kk) (out ++ [unzig (lowVal (onesRun (l.drop at_)) kk (l.drop (at_ + onesRun (l.drop at_) + 1)))])
    simp only [List.length_append, List.length_cons, List.length_nil] at this
    omega
   ·simp
theorem unRiceOf_len (kk : Int) (l : List Int) (n : Int) : (unRiceOf kk l n).1.length ≤ 128 := by
 unfold unRiceOf
 split
 ·rename_i h
  have := unR_len kk.toNat l n.toNat 0 []
  simp only [List.length_nil] at this
  omega
 ·simp
/-- The bits of bytes from bit i on, the highest of each byte first. -/
def unpackGo (b : List Int) : Nat → Nat → List Int
 | 0, _ => []
 | d + 1, i => rd b ((i / 8 : Nat) : Int) / 2 ^ (7 - i % 8) % 2 :: unpackGo b d (i + 1)
def unpackOf (b : List Int) : List Int := unpackGo b (8 * b.length) 0
theorem unpackGo_len (b : List Int) : ∀ d i, (unpackGo b d i).length = d
 | 0, _ => rfl
 | d + 1, i => by simp [unpackGo, unpackGo_len b d]
theorem unpackOf_len (b : List Int) : (unpackOf b).length = 8 * b.length := unpackGo_len b _ _
theorem unpackGo_bit (b : List Int) : ∀ d i, ∀ x ∈ unpackGo b d i, x = 0 ∨ x = 1
 | 0, _, x, h => by cases h
 | d + 1, i, x, h => by
  simp only [unpackGo, List.mem_cons] at h
  rcases h with rfl | h
  ·generalize rd b ((i / 8 : Nat) : Int) / 2 ^ (7 - i % 8) = y
   omega
  ·exact unpackGo_bit b d (i + 1) x h
theorem unpackOf_bit (b : List Int) : ∀ x ∈ unpackOf b, x = 0 ∨ x = 1 := unpackGo_bit b _ _
theorem rd_drop (b : List Int) (a j : Nat) : rd (b.drop a) (j : Int) = rd b ((a + j : Nat) : Int) := by
 rw [rd_nat, rd_nat, List.getD_eq_getElem?_getD, List.getD_eq_getElem?_getD, List.getElem?_drop]
theorem unpackGo_shift (b : List Int) (a : Nat) : ∀ d i, unpackGo b d (8 * a + i) = unpackGo (b.drop a) d i
 | 0, _ => rfl
 | d + 1, i => by
  simp only [unpackGo]
  rw [rd_drop, show (8 * a + i) / 8 = a + i / 8 by omega, show (8 * a + i) % 8 = i % 8 by omega, show 8 * a + i + 1 = 8 * a + (i + 1) by omega, unpackGo_shift b a d (i + 1)]
theorem unpackOf_drop (b : List Int) (a : Nat) : unpackOf (b.drop a) = unpackGo b (8 * (b.length - a)) (8 * a) := by
 unfold unpackOf
 rw [List.length_drop, show 8 * a = 8 * a + 0 from rfl, unpackGo_shift]
theorem shr_u8 (x : Int) (s : Nat) (hs : s ≤ 7) : shr .u8 x (s : Int) = x / 2 ^ s := by
 unfold shr
 rw [show min ((s : Int).toNat) IntKind.u8.bits = s by simp [IntKind.bits]; omega]
theorem div_u8 {x : Int} (h0 : 0 ≤ x) (h1 : x < 256) (s : Nat) : 0 ≤ x / 2 ^ s ∧ x / 2 ^ s < 256 := by
 have hp : (0 : Int) < 2 ^ s := Int.pow_pos (by omega)
 have a := Int.ediv_nonneg h0 (Int.le_of_lt hp)
 have b := Int.ediv_le_self (2 ^ s) h0
 omega
theorem bits_and1 {v : Int} (h0 : 0 ≤ v) (h1 : v < 256) : bits .and .u8 v 1 = v % 2 := by
 have h : ∀ n : Fin 256, bits .and .u8 ((n.val : Nat) : Int) 1 = ((n.val : Nat) : Int) % 2 := by decide +kernel
 obtain ⟨n, rfl⟩ := Int.eq_ofNat_of_zero_le h0
 exact h ⟨n, by omega⟩
/-- A high byte over a low one. -/
theorem bits_or256 {a b : Int} (ha : 0 ≤ a ∧ a < 256) (hb : 0 ≤ b ∧ b < 256) : bits .or .i64 (a * 256) b = 256 * a + b := by
 obtain ⟨x, rfl⟩ := Int.eq_ofNat_of_zero_le ha.1
 obtain ⟨y, rfl⟩ := Int.eq_ofNat_of_zero_le hb.1
 have e : (x : Int) * 256 = ((x * 256 : Nat) : Int) := by omega
 have hx : (x * 256) % 2 ^ IntKind.i64.bits = x * 256 := Nat.mod_eq_of_lt (by show x * 256 < 2 ^ 64; omega)
 have hy : y % 2 ^ IntKind.i64.bits = y := Nat.mod_eq_of_lt (by show y < 2 ^ 64; omega)
 rw [e]
 simp only [bits, BitVec.toNat_or, BitVec.ofInt_natCast, BitVec.toNat_ofNat, hx, hy]
 have h : x * 256 ||| y = 2 ^ 8 * x + y := by rw [Nat.two_pow_add_eq_or_of_lt (show y < 2 ^ 8 by omega), Nat.mul_comm]
 rw [h, IntKind.wrap_i64]
 omega
theorem strOfNums_inj : ∀ {xs ys : List Int}, (∀ x ∈ xs, 0 ≤ x ∧ x < 256) → (∀ x ∈ ys, 0 ≤ x ∧ x < 256) → (strOfNums xs).toList = (strOfNums ys).toList → xs = ys := by
 intro xs ys hx hy h
 rw [ByteArray.toList_eq, ByteArray.toList_eq, strOfNums_data, strOfNums_data] at h
 induction xs generalizing ys with
 | nil => cases ys with
  | nil => rfl
  | cons y ys => cases h
 | cons x xs ih => cases ys with
  | nil => cases h
  | cons y ys =>
   simp only [List.map_cons, List.cons.injEq] at h
   have h1 := congrArg UInt8.toNat h.1
   have bx := hx x (by simp)
   have by_ := hy y (by simp)
   rw [UInt8.toNat_ofNat', UInt8.toNat_ofNat'] at h1
   rw [show x = y by omega, ih (fun z hz => hx z (by simp [hz])) (fun z hz => hy z (by simp [hz])) h.2]
/-- The frame that stands at a place, once its numbers are told: it must be just what packing them tells. -/
def openForm (b : List Int) (a e : Nat) (r : List Int × Bool) : List Int × Int × Int :=
 if r.2 = true ∧ (frameOf r.1).2 = true ∧ (frameOf r.1).1 = (b.take (e + 2)).drop a then (r.1, ((e + 2 : Nat) : Int), 0) else ([], (a : Int), 5)
def openBits (b : List Int) (a : Nat) (o : Int) (r : List Int × Int × Bool) : List Int × Int × Int :=
 if r.2.2 = true then
  if b.length < a + 3 + (r.2.1.toNat + 7) / 8 + 2 then ([], (a : Int), 1)
  else if crcOf ((b.take (a + 3 + (r.2.1.toNat + 7) / 8)).drop a) = 256 * rd b ((a + 3 + (r.2.1.toNat + 7) / 8 : Nat) : Int) + rd b ((a + 3 + (r.2.1.toNat + 7) / 8 + 1 : Nat) : Int) then openForm b a (a + 3 + (r.2.1.toNat + 7) / 8) (unGuessOf o r.1)
  else ([], (a : Int), 4)
 else ([], (a : Int), 3)
def openAt (b : List Int) (a : Nat) : List Int × Int × Int :=
 if rd b (a : Int) = 70 ∧ rd b ((a + 1 : Nat) : Int) + 1 ≤ 128 ∧ rd b ((a + 2 : Nat) : Int) / 32 ≤ 3 ∧ rd b ((a + 2 : Nat) : Int) % 32 ≤ 30 then
  openBits b a (rd b ((a + 2 : Nat) : Int) / 32) (unR (rd b ((a + 2 : Nat) : Int) % 32).toNat (unpackOf (b.drop (a + 3))) (rd b ((a + 1 : Nat) : Int) + 1).toNat 0 [])
 else ([], (a : Int), 2)
def openOf (b : List Int) (x : Int) : List Int × Int × Int := if 0 ≤ x ∧ x + 3 ≤ (b.length : Int) then openAt b x.toNat else ([], x, 1)
theorem unR_used (kk : Nat) (l : List Int) : ∀ (n p : Nat) (out : List Int), p ≤ l.length → (unR kk l n p out).2.2 = true → ∃ u : Nat, (unR kk l n p out).2.1 = (u : Int) ∧ u ≤ l.length
 | 0, p, out, hp, _ => ⟨p, rfl, hp⟩
 | n + 1, p, out, hp, h => by
  simp only [unR] at h ⊢
  split at h
  ·cases h
  ·rename_i h1
   rw [if_neg h1]
   split at h
   ·rename_i h2
    rw [if_pos h2]
    exact unR_used kk l n _ _ (by omega) h
   ·cases h
theorem unGuessOf_len (o : Int) (left : List Int) : (unGuessOf o left).1.length ≤ 512 := by
 unfold unGuessOf
 split
 ·have := unGo_len o left left.length 0 []
  simp only [List.length_nil] at this
  omega
 ·simp
theorem openForm_len (b : List Int) (a e : Nat) (r : List Int × Bool) (h : r.1.length ≤ 512) : (openForm b a e r).1.length ≤ 512 := by
 unfold openForm
 split
 ·exact h
 ·simp
theorem openOf_len (b : List Int) (x : Int) : (openOf b x).1.length ≤ 512 := by
 unfold openOf openAt openBits
 split
 ·split
  ·split
   ·split
    ·simp
    ·split
     ·exact openForm_len _ _ _ _ (unGuessOf_len _ _)
     ·simp
   ·simp
  ·simp
 ·simp
theorem openOf_next {b : List Int} {x : Int} (h : (openOf b x).2.2 = 0) : ∃ e : Nat, (openOf b x).2.1 = (e : Int) ∧ x + 5 ≤ (e : Int) ∧ e ≤ b.length := by
 unfold openOf at h ⊢
 split at h
 ·rename_i h0
  rw [if_pos h0]
  unfold openAt at h ⊢
  split at h
  ·rename_i h1
   rw [if_pos h1]
   generalize unR (rd b ((x.toNat + 2 : Nat) : Int) % 32).toNat (unpackOf (b.drop (x.toNat + 3))) (rd b ((x.toNat + 1 : Nat) : Int) + 1).toNat 0 [] = r at h ⊢
   unfold openBits at h ⊢
   split at h
   ·rename_i h2
    rw [if_pos h2]
    split at h
    ·cases h
    ·rename_i h3
     rw [if_neg h3]
     split at h
     ·rename_i h4
      rw [if_pos h4]
      unfold openForm at h ⊢
      split at h
      ·rename_i h5
       rw [if_pos h5]
       exact ⟨_, rfl, by omega, by omega⟩
      ·cases h
     ·cases h
   ·cases h
  ·cases h
 ·cases h
/-- All frames, one behind the other; at most sixty. -/
def openGo (b : List Int) : Nat → Nat → List Int → List Int → List Int × List Int × Int
 | 0, a, l, p => if a = b.length then (l, p, 0) else (l, p, 5)
 | d + 1, a, l, p => if a = b.length then (l, p, 0) else if (openOf b (a : Int)).2.2 = 0 then openGo b d (openOf b (a : Int)).2.1.toNat (l ++ (openOf b (a : Int)).1) (p ++ [(a : Int)]) else (l, p, (openOf b (a : Int)).2.2)
def openAllOf (b : List Int) : List Int × List Int × Int := if (b.length : Int) > 20000 then ([], [], 1) else openGo b 60 0 [] []
theorem openGo_len (b : List Int) : ∀ (d a : Nat) (l p : List Int), p.length + d = 60 → l.length ≤ 512 * p.length → (openGo b d a l p).1.length ≤ 512 * 60 ∧ (openGo b d a l p).2.1.length ≤ 60
 | 0, a, l, p, hp, hl => by
  simp only [openGo]
  split <;> exact ⟨by simp only; omega, by simp only; omega⟩
 | d + 1, a, l, p, hp, hl => by
  have ho := openOf_len b (a : Int)
  simp only [openGo]
  split
  ·exact ⟨by simp only; omega, by simp only; omega⟩
  ·split
   ·exact openGo_len b d _ _ _ (by simp; omega) (by rw [List.length_append, List.length_append]; simp only [List.length_cons, List.length_nil]; omega)
   ·exact ⟨by simp only; omega, by simp only; omega⟩
theorem openAllOf_len (b : List Int) : (openAllOf b).1.length ≤ 512 * 60 ∧ (openAllOf b).2.1.length ≤ 60 := by
 unfold openAllOf
 split
 ·exact ⟨by simp, by simp⟩
 ·exact openGo_len b 60 0 [] [] rfl (by simp)
def mendGo (b : List Int) : Nat → Nat → Nat → List Int → Int → List Int × Int
 | 0, _, _, out, lost => (out, lost)
 | d + 1, a, f, out, lost => if a < b.length then (if (openOf b (a : Int)).2.2 = 0 ∧ f < 60 then mendGo b d (openOf b (a : Int)).2.1.toNat (f + 1) (out ++ (openOf b (a : Int)).1) lost else mendGo b d (a + 1) f out (lost + 1)) else (out, lost)
def mendOf (b : List Int) : List Int × Int := if (b.length : Int) > 20000 then ([], 0) else mendGo b b.length 0 0 [] 0
theorem mendGo_end (b : List Int) (f : Nat) (out : List Int) (hf : 60 ≤ f) : ∀ (d a : Nat) (lost : Int), a + d = b.length → mendGo b d a f out lost = (out, lost + (d : Int))
 | 0, a, lost, h => by simp [mendGo]
 | d + 1, a, lost, h => by
  rw [show mendGo b (d + 1) a f out lost = _ from if_pos (by omega), if_neg (fun h => by omega), mendGo_end b f out hf d (a + 1) (lost + 1) (by omega)]
  congr 1
  omega
theorem mendGo_over (b : List Int) (f : Nat) (out : List Int) (lost : Int) : ∀ (d a : Nat), b.length ≤ a → mendGo b d a f out lost = (out, lost)
 | 0, a, h => rfl
 | d + 1, a, h => if_neg (by omega)
theorem mendGo_end2 (b : List Int) (f : Nat) (out : List Int) (hf : 60 ≤ f) : ∀ (d a : Nat) (lost : Int), b.length ≤ a + d → a ≤ b.length → mendGo b d a f out lost = (out, lost + ((b.length : Int) - (a : Int)))
 | 0, a, lost, h, h2 => by simp [mendGo]; omega
 | d + 1, a, lost, h, h2 => by
  by_cases h3 : a < b.length
  case neg =>
   rw [show mendGo b (d + 1) a f out lost = _ from if_neg h3]
   congr 1
   omega
  rw [show mendGo b (d + 1) a f out lost = _ from if_pos h3, if_neg (fun h => by omega), mendGo_end2 b f out hf d (a + 1) (lost + 1) (by omega) (by omega)]
  congr 1
  omega
theorem mendGo_len (b : List Int) : ∀ (d a f : Nat) (out : List Int) (lost : Int), f ≤ 60 → out.length ≤ 512 * f → (mendGo b d a f out lost).1.length ≤ 512 * 60
 | 0, a, f, out, lost, hf, ho => by simp only [mendGo]; omega
 | d + 1, a, f, out, lost, hf, ho => by
  have hl := openOf_len b (a : Int)
  simp only [mendGo]
  split
  ·split
   ·rename_i h
    exact mendGo_len b d _ _ _ _ (by omega) (by rw [List.length_append]; omega)
   ·exact mendGo_len b d _ _ _ _ hf ho
  ·simp only; omega
theorem mendOf_len (b : List Int) : (mendOf b).1.length ≤ 512 * 60 := by
 unfold mendOf
 split
 ·simp
 ·exact mendGo_len b _ _ _ _ _ (by omega) (by simp)
theorem l1In_eq (a b c : Int) : spec_l1In.f a b c = some (decide (b ≤ a) && decide (a ≤ c)) := by
 unfold spec_l1In.f
 by_cases h : a ≥ b
 case pos => rw [if_pos h]; simp [show b ≤ a from h]
 rw [if_neg h]; simp [show ¬ b ≤ a from h]
theorem sUnRice_yes (kk : Nat) (hk : kk ≤ 30) (l : List Int) (hl : l.length ≤ 8388608) (hb : ∀ x ∈ l, x = 0 ∨ x = 1) (nn : Nat) (hn : nn ≤ 128) : ∀ (n at_ : Nat) (out : List Int), out.length + n = nn → at_ ≤ l.length → Ev (fun k => spec_UnRice.l0 k (kk : Int) l (nn : Int) out (at_ : Int)) (unR kk l n at_ out) := by
 have bit : ∀ i : Nat, i < l.length → rd l i = 0 ∨ rd l i = 1 := fun i hi => hb _ (rd_mem hi)
 intro n
 induction n with
 | zero =>
  intro at_ out ho ha
  have l3 : ∀ (d i : Nat), i + d = l.length → Ev (fun k => spec_UnRice.l3 k l out (at_ : Int) (i : Int)) (out, (at_ : Int), true) := by
   intro d
   induction d with
   | zero =>
    intro i hi
    refine Ev.succ ?_
    simp only [spec_UnRice.l3]
    exact Ev.neg (by omega) (Ev.some_ rfl)
   | succ d ihd =>
    intro i hi
    have := bit i (by omega)
    refine Ev.succ ?_
    simp only [spec_UnRice.l3, l1In_eq, Option.bind_some]
    rw [w64_add (by omega) (by omega)]
    exact Ev.pos (by omega) (Ev.pos (by omega) (Ev.pos (by simp; omega) (ihd (i + 1) (by omega))))
  refine Ev.succ ?_
  simp only [spec_UnRice.l0]
  exact Ev.neg (by omega) (l3 (l.length - at_) at_ (by omega))
 | succ n ih =>
  intro at_ out ho ha
  have hp : (0 : Int) < 2 ^ kk := Int.pow_pos (by omega)
  have bad : ∀ (p : Nat) (u : Int), Ev (fun k => spec_UnRice.j4 k (kk : Int) l (nn : Int) out (p : Int) u true) ([], 0, false) := fun p u => by
   refine Ev.succ ?_
   simp only [spec_UnRice.j4]
   exact Ev.pos trivial (Ev.some_ rfl)
  have l2 : ∀ (b c p : Nat) (u : Int), c + b = kk → 0 ≤ u → u < 4000000000 * 2 ^ c → p ≤ l.length → Ev (fun k => spec_UnRice.l2 k (kk : Int) l (nn : Int) out (p : Int) u (c : Int))
   (if l.length < p + b then ([], 0, false) else if lowVal u b (l.drop p) ≤ 2000000000 then unR kk l n (p + b) (out ++ [unzig (lowVal u b (l.drop p))]) else ([], 0, false)) := by
   intro b
   induction b with
   | zero =>
    intro c p u hc hu hub hpl
    have hcc : (2 : Int) ^ c ≤ 2 ^ 30 := by
     have : (2 : Nat) ^ c ≤ 2 ^ 30 := Nat.pow_le_pow_right (by omega) (by omega)
     exact_mod_cast this
    have hub2 : u < 4000000000 * 2 ^ 30 := Int.lt_of_lt_of_le hub (Int.mul_le_mul_of_nonneg_left hcc (by omega))
    refine Ev.succ ?_
    simp only [spec_UnRice.l2]
    refine Ev.neg (by omega) ?_
    rw [if_neg (by omega), show lowVal u 0 (l.drop p) = u from rfl]
    by_cases h2 : u > 2000000000
    case pos => rw [if_neg (by omega)]; exact Ev.pos h2 (Ev.some_ rfl)
    rw [if_pos (by omega)]
    refine Ev.neg h2 ?_
    rw [Int.tmod_eq_emod_of_nonneg hu]
    by_cases h3 : u % 2 = 1
    case neg =>
     refine Ev.neg h3 (Ev.pos (by omega) ?_)
     rw [Int.tdiv_eq_ediv_of_nonneg hu, w64 (by omega) (by omega)]
     exact (ih p (out ++ [u / 2]) (by simp; omega) (by omega)).to (by simp [unzig, h3])
    refine Ev.pos h3 (Ev.pos (by omega) ?_)
    rw [w64 (n := u + 1) (by omega) (by omega), w64 (n := -(u + 1)) (by omega) (by omega)]
    have e : Int.tdiv (-(u + 1)) 2 = -(u / 2) - 1 := by
     rw [Int.neg_tdiv, Int.tdiv_eq_ediv_of_nonneg (by omega)]; omega
    rw [e, w64 (by omega) (by omega)]
    exact (ih p (out ++ [-(u / 2) - 1]) (by simp; omega) (by omega)).to (by simp [unzig, h3])
   | succ b ihb =>
    intro c p u hc hu hub hpl
    have hcc : (2 : Int) ^ c ≤ 2 ^ 30 := by
     have : (2 : Nat) ^ c ≤ 2 ^ 30 := Nat.pow_le_pow_right (by omega) (by omega)
     exact_mod_cast this
    have hub2 : u < 4000000000 * 2 ^ 30 := Int.lt_of_lt_of_le hub (Int.mul_le_mul_of_nonneg_left hcc (by omega))
    refine Ev.succ ?_
    simp only [spec_UnRice.l2, l1In_eq, Option.bind_some]
    refine Ev.pos (by omega) ?_
    by_cases h1 : (p : Int) ≥ l.length
    case pos => rw [if_pos (by omega)]; exact Ev.pos h1 (Ev.some_ rfl)
    have := bit p (by omega)
    refine Ev.neg h1 (Ev.pos (by omega) (Ev.pos (by omega) (Ev.pos (by simp; omega) ?_)))
    rw [w64_add (by omega) (by omega), w64_add (by omega) (by omega), w64 (n := 2 * u) (by omega) (by omega), w64 (by omega) (by omega)]
    have e2 : (2 : Int) ^ (c + 1) = 2 * 2 ^ c := by rw [Int.pow_succ]; omega
    refine (ihb (c + 1) (p + 1) (2 * u + rd l p) (by omega) (by omega) (by rw [e2]; omega) (by omega)).to ?_
    rw [drop_rd (xs := l) (i := p) (by omega), show lowVal u (b + 1) (rd l p :: l.drop (p + 1)) = lowVal (2 * u + rd l p) b (l.drop (p + 1)) from rfl, show p + 1 + b = p + (b + 1) by omega]
  have j3 : ∀ (p q : Nat), at_ + q = p → p ≤ l.length → (p < l.length → rd l p ≠ 1) → Ev (fun k => spec_UnRice.j3 k (kk : Int) l (nn : Int) out (p : Int) (q : Int))
   (if l.length < p + 1 + kk then ([], 0, false) else if lowVal q kk (l.drop (p + 1)) ≤ 2000000000 then unR kk l n (p + 1 + kk) (out ++ [unzig (lowVal q kk (l.drop (p + 1)))]) else ([], 0, false)) := by
   intro p q hq hpl hp1
   refine Ev.succ ?_
   simp only [spec_UnRice.j3]
   by_cases h1 : (p : Int) ≥ l.length
   case pos => rw [if_pos (by omega)]; exact Ev.pos h1 (bad _ _)
   have h0 : rd l p = 0 := (bit p (by omega)).resolve_right (hp1 (by omega))
   refine Ev.neg h1 (Ev.pos (by omega) (Ev.pos (by omega) (Ev.pos h0 ?_)))
   rw [wu64 (by omega) (by omega), shr_small (by omega)]
   refine Ev.pos (by omega) ?_
   by_cases h2 : (q : Int) > 2000000000 / 2 ^ kk
   case neg =>
    rw [show decide ((q : Int) > 2000000000 / 2 ^ kk) = false by simpa using h2]
    refine Ev.succ ?_
    simp only [spec_UnRice.j4]
    rw [w64_add (by omega) (by omega)]
    refine Ev.neg (by simp) ?_
    exact l2 kk 0 (p + 1) q (by omega) (by omega) (by simp; omega) (by omega)
   rw [show decide ((q : Int) > 2000000000 / 2 ^ kk) = true by simpa using h2]
   refine (bad _ _).to ?_
   by_cases h3 : l.length < p + 1 + kk
   case pos => rw [if_pos h3]
   have hv := lowVal_bd kk q (l.drop (p + 1)) (fun x hx => hb x (List.mem_of_mem_drop hx)) (by omega) (by simp; omega)
   have : 2000000000 < (q : Int) * 2 ^ kk := by
    have h4 : 2000000000 / 2 ^ kk < (q : Int) := h2
    have := Int.lt_mul_of_ediv_lt hp h4
    exact this
   rw [if_neg h3, if_neg (by omega)]
  have l1 : ∀ (d p q : Nat), p + d = l.length → at_ + q = p → Ev (fun k => spec_UnRice.l1 k (kk : Int) l (nn : Int) out (p : Int) (q : Int))
   (if l.length < p + onesRun (l.drop p) + 1 + kk then ([], 0, false) else if lowVal ((q : Int) + onesRun (l.drop p)) kk (l.drop (p + onesRun (l.drop p) + 1)) ≤ 2000000000 then unR kk l n (p + onesRun (l.drop p) + 1 + kk) (out ++ [unzig (lowVal ((q : Int) + onesRun (l.drop p)) kk (l.drop (p + onesRun (l.drop p) + 1)))]) else ([], 0, false)) := by
   intro d
   induction d with
   | zero =>
    intro p q hpd hq
    refine Ev.succ ?_
    simp only [spec_UnRice.l1]
    refine Ev.neg (by omega) ((j3 p q hq (by omega) (fun h => by omega)).to ?_)
    rw [onesRun_stop (fun h => by omega)]
    simp
   | succ d ihd =>
    intro p q hpd hq
    refine Ev.succ ?_
    simp only [spec_UnRice.l1]
    refine Ev.pos (by omega) (Ev.pos (by omega) ?_)
    by_cases h1 : rd l p = 1
    case neg =>
     refine Ev.neg h1 ((j3 p q hq (by omega) (fun _ => h1)).to ?_)
     rw [onesRun_stop (fun _ => h1)]
     simp
    rw [w64_add (by omega) (by omega), w64_add (by omega) (by omega)]
    refine Ev.pos h1 (Ev.pos (by omega) ((ihd (p + 1) (q + 1) (by omega) (by omega)).to ?_))
    rw [onesRun_drop (by omega) h1, show p + 1 + onesRun (l.drop (p + 1)) = p + (onesRun (l.drop (p + 1)) + 1) by omega, show (((q + 1 : Nat) : Int) + onesRun (l.drop (p + 1))) = (q : Int) + ((onesRun (l.drop (p + 1)) + 1 : Nat) : Int) by omega]
  refine Ev.succ ?_
  simp only [spec_UnRice.l0]
  refine Ev.pos (by omega) ((l1 (l.length - at_) at_ 0 (by omega) (by omega)).to ?_)
  simp only [unR]
  simp
theorem sUnRice_no (kk : Nat) (hk : kk ≤ 30) (l : List Int) (hl : l.length ≤ 8388608) (j : Nat) (hj : j < l.length) (hb : ¬ (rd l j = 0 ∨ rd l j = 1)) (nn : Nat) (hn : nn ≤ 128) : ∀ (n at_ : Nat) (out : List Int), out.length + n = nn → at_ ≤ j → Ev (fun k => spec_UnRice.l0 k (kk : Int) l (nn : Int) out (at_ : Int)) ([], 0, false) := by
 have ne : ∀ p : Nat, p ≤ j → (rd l p = 0 ∨ rd l p = 1) → p + 1 ≤ j := fun p h1 h2 => by
  rcases Nat.lt_or_ge p j with h | h
  ·omega
  ·have : p = j := by omega
   subst this; exact absurd h2 hb
 intro n
 induction n with
 | zero =>
  intro at_ out ho ha
  have l3 : ∀ (d i : Nat), i + d = j → Ev (fun k => spec_UnRice.l3 k l out (at_ : Int) (i : Int)) ([], 0, false) := by
   intro d
   induction d with
   | zero =>
    intro i hi
    have : i = j := by omega
    subst this
    refine Ev.succ ?_
    simp only [spec_UnRice.l3, l1In_eq, Option.bind_some]
    exact Ev.pos (by omega) (Ev.pos (by omega) (Ev.neg (by simp; omega) (Ev.some_ rfl)))
   | succ d ihd =>
    intro i hi
    refine Ev.succ ?_
    simp only [spec_UnRice.l3, l1In_eq, Option.bind_some]
    rw [w64_add (by omega) (by omega)]
    refine Ev.pos (by omega) (Ev.pos (by omega) ?_)
    by_cases h1 : 0 ≤ rd l i ∧ rd l i ≤ 1
    case neg => exact Ev.neg (by simp; omega) (Ev.some_ rfl)
    exact Ev.pos (by simp; omega) (ihd (i + 1) (by omega))
  refine Ev.succ ?_
  simp only [spec_UnRice.l0]
  exact Ev.neg (by omega) (l3 (j - at_) at_ (by omega))
 | succ n ih =>
  intro at_ out ho ha
  have bad : ∀ (p : Nat) (u : Int), Ev (fun k => spec_UnRice.j4 k (kk : Int) l (nn : Int) out (p : Int) u true) ([], 0, false) := fun p u => by
   refine Ev.succ ?_
   simp only [spec_UnRice.j4]
   exact Ev.pos trivial (Ev.some_ rfl)
  have l2 : ∀ (b c p : Nat) (u : Int), c + b = kk → p ≤ j → Ev (fun k => spec_UnRice.l2 k (kk : Int) l (nn : Int) out (p : Int) u (c : Int)) ([], 0, false) := by
   intro b
   induction b with
   | zero =>
    intro c p u hc hpl
    refine Ev.succ ?_
    simp only [spec_UnRice.l2]
    refine Ev.neg (by omega) ?_
    refine Ev.both (fun _ => Ev.some_ rfl) (fun _ => Ev.both (fun _ => Ev.pos (by omega) ?_) (fun _ => Ev.pos (by omega) ?_))
    ·exact ih p _ (by simp; omega) hpl
    ·exact ih p _ (by simp; omega) hpl
   | succ b ihb =>
    intro c p u hc hpl
    refine Ev.succ ?_
    simp only [spec_UnRice.l2, l1In_eq, Option.bind_some]
    refine Ev.pos (by omega) (Ev.neg (by omega) (Ev.pos (by omega) (Ev.pos (by omega) ?_)))
    by_cases h1 : 0 ≤ rd l p ∧ rd l p ≤ 1
    case neg => exact Ev.neg (by simp; omega) (Ev.some_ rfl)
    rw [w64_add (by omega) (by omega), w64_add (by omega) (by omega)]
    exact Ev.pos (by simp; omega) (ihb (c + 1) (p + 1) _ (by omega) (ne p hpl (by omega)))
  have j3 : ∀ (p : Nat) (q : Int), p ≤ j → Ev (fun k => spec_UnRice.j3 k (kk : Int) l (nn : Int) out (p : Int) q) ([], 0, false) := by
   intro p q hpl
   refine Ev.succ ?_
   simp only [spec_UnRice.j3]
   refine Ev.neg (by omega) (Ev.pos (by omega) (Ev.pos (by omega) ?_))
   by_cases h0 : rd l p = 0
   case neg => exact Ev.neg h0 (bad _ _)
   refine Ev.pos h0 ?_
   rw [wu64 (by omega) (by omega)]
   refine Ev.pos (by omega) ?_
   cases hq : decide (q > shr .i64 2000000000 (kk : Int)) with
   | true => exact bad _ _
   | false =>
    refine Ev.succ ?_
    simp only [spec_UnRice.j4]
    rw [w64_add (by omega) (by omega)]
    exact Ev.neg (by simp) (l2 kk 0 (p + 1) q (by omega) (ne p hpl (.inl h0)))
  have l1 : ∀ (d p : Nat) (q : Int), p + d = j → Ev (fun k => spec_UnRice.l1 k (kk : Int) l (nn : Int) out (p : Int) q) ([], 0, false) := by
   intro d
   induction d with
   | zero =>
    intro p q hpd
    have : p = j := by omega
    subst this
    refine Ev.succ ?_
    simp only [spec_UnRice.l1]
    exact Ev.pos (by omega) (Ev.pos (by omega) (Ev.neg (fun h => hb (.inr h)) (j3 p q (by omega))))
   | succ d ihd =>
    intro p q hpd
    refine Ev.succ ?_
    simp only [spec_UnRice.l1]
    refine Ev.pos (by omega) (Ev.pos (by omega) ?_)
    rw [w64_add (by omega) (by omega)]
    exact Ev.both (fun h1 => Ev.both (fun _ => ihd (p + 1) _ (by omega)) (fun _ => j3 p q (by omega))) (fun _ => j3 p q (by omega))
  refine Ev.succ ?_
  simp only [spec_UnRice.l0]
  exact Ev.pos (by omega) (l1 (j - at_) at_ 0 (by omega))
theorem sUnRice_ev (kk : Int) (l : List Int) (n : Int) (hl : l.length ≤ 8388608) : Ev (fun k => spec_UnRice.f k kk l n) (unRiceOf kk l n) := by
 have bad : Ev (fun k => spec_UnRice.j0 k kk l n [] true) ([], 0, false) := by
  refine Ev.succ ?_
  simp only [spec_UnRice.j0]
  exact Ev.pos trivial (Ev.some_ rfl)
 unfold spec_UnRice.f unRiceOf
 simp only [l1In_eq, Option.bind_some]
 by_cases hk : 0 ≤ kk ∧ kk ≤ 30
 case neg => rw [if_neg (fun h => hk h.1)]; exact Ev.neg (by simp; omega) bad
 refine Ev.pos (by simp; omega) ?_
 by_cases hn : 0 ≤ n ∧ n ≤ 128
 case neg => rw [if_neg (fun h => hn h.2.1), show (!(decide (0 ≤ n) && decide (n ≤ 128))) = true by simp; omega]; exact bad
 rw [show (!(decide (0 ≤ n) && decide (n ≤ 128))) = false by simp; omega]
 obtain ⟨m, rfl⟩ := Int.eq_ofNat_of_zero_le hk.1
 obtain ⟨c, rfl⟩ := Int.eq_ofNat_of_zero_le hn.1
 rw [Int.toNat_natCast, Int.toNat_natCast]
 refine Ev.succ ?_
 simp only [spec_UnRice.j0]
 refine Ev.neg (by simp) ?_
 by_cases hb : l.all bitOk = true
 case pos =>
  rw [if_pos ⟨hk, hn, hb⟩]
  exact sUnRice_yes m (by omega) l hl (allBits_iff.1 hb) c (by omega) c 0 [] (by simp) (by omega)
 rw [if_neg (fun h => hb h.2.2)]
 have : ∃ x ∈ l, ¬ (x = 0 ∨ x = 1) := Classical.byContradiction fun hn => hb (allBits_iff.2 (fun x hx => Classical.byContradiction fun hx2 => hn ⟨x, hx, hx2⟩))
 obtain ⟨x, hx, hx2⟩ := this
 obtain ⟨j, hj, hjx⟩ := List.getElem_of_mem hx
 exact sUnRice_no m (by omega) l hl j hj (by rw [rd_get l j hj, hjx]; exact hx2) c (by omega) c 0 [] (by simp) (by omega)
theorem sCrc_l1 (l : List Int) (x4 : Int) (r : Int) : ∀ (d : Nat) (j x : Int), 0 ≤ j → j + d = 8 → 0 ≤ x ∧ x < 65536 → Ev (fun k => spec_Crc16.l0 k l (crcTurns d x) (wrap64 (x4 + 1))) r → Ev (fun k => spec_Crc16.l1 k l x x4 j) r := by
 intro d
 induction d with
 | zero =>
  intro j x _ hj _ H
  refine Ev.succ ?_
  simp only [spec_Crc16.l1]
  exact Ev.neg (by omega) H
 | succ d ih =>
  intro j x hj0 hj hx H
  refine Ev.succ ?_
  simp only [spec_Crc16.l1]
  refine Ev.pos (by omega) ?_
  rw [w64 (n := 2 * x) (by omega) (by omega), w64 (n := j + 1) (by omega) (by omega)]
  simp only [crcTurns] at H
  by_cases h : x ≥ 32768
  case neg =>
   refine Ev.neg h (ih _ _ (by omega) (by omega) ?_ ?_)
   ·rw [Int.tmod_eq_emod_of_nonneg (by omega)]; omega
   ·rw [Int.tmod_eq_emod_of_nonneg (by omega), show 2 * x % 65536 = crcStep x from (if_neg h).symm]
    exact H
  refine Ev.pos h (ih _ _ (by omega) (by omega) ?_ ?_)
  ·rw [bits_xor (by omega) (by omega)]
   have b := xorI_bd (a := 2 * x) (b := 4129) (n := 17) (by omega) (by omega)
   rw [Int.tmod_eq_emod_of_nonneg b.1]; omega
  ·rw [bits_xor (by omega) (by omega)]
   have b := xorI_bd (a := 2 * x) (b := 4129) (n := 17) (by omega) (by omega)
   rw [Int.tmod_eq_emod_of_nonneg b.1, show xorI (2 * x) 4129 % 65536 = crcStep x from (if_pos h).symm]
   exact H
theorem sCrc_l0 (l : List Int) (hl : l.length ≤ 65536) (hb : ∀ b ∈ l, 0 ≤ b ∧ b < 256) : ∀ (d i : Nat) (x : Int), i + d = l.length → 0 ≤ x ∧ x < 65536 → Ev (fun k => spec_Crc16.l0 k l x (i : Int)) (crcGo (l.drop i) x) := by
 intro d
 induction d with
 | zero =>
  intro i x hi hx
  rw [List.drop_of_length_le (by omega)]
  refine Ev.succ ?_
  simp only [spec_Crc16.l0]
  exact Ev.neg (by omega) (Ev.some_ rfl)
 | succ d ih =>
  intro i x hi hx
  have hr := hb _ (rd_mem (xs := l) (i := i) (by omega))
  rw [drop_rd (by omega)]
  refine Ev.succ ?_
  simp only [spec_Crc16.l0, crcGo]
  refine Ev.pos (by omega) (Ev.pos (by omega) ?_)
  rw [w64 (n := rd l (i : Int)) (by omega) (by omega), w64 (n := 256 * rd l (i : Int)) (by omega) (by omega), bits_xor (by omega) (by omega)]
  have b := xorI_bd (a := x) (b := 256 * rd l (i : Int)) (n := 16) (by omega) (by omega)
  refine sCrc_l1 l i _ 8 0 _ (by omega) (by omega) (by omega) ?_
  rw [w64 (n := (i : Int) + 1) (by omega) (by omega), show ((i : Int) + 1) = ((i + 1 : Nat) : Int) by omega]
  exact ih (i + 1) _ (by omega) (crcTurns_bd 8 _ (by omega))
theorem sCrc_ev (l : List Int) (hb : ∀ b ∈ l, 0 ≤ b ∧ b < 256) : Ev (fun k => spec_Crc16.f k l) (crcOf l) := by
 unfold spec_Crc16.f crcOf
 by_cases h : l.length > 65536
 case pos => rw [if_pos h]; exact Ev.pos (by omega) (Ev.some_ rfl)
 rw [if_neg h]; exact Ev.neg (by omega) (sCrc_l0 l (by omega) hb l.length 0 65535 (by omega) (by omega))
theorem l17Fore_ev (o : Int) (l : List Int) (i : Nat) (hi : i ≤ l.length) (hl : l.length ≤ 1048576) (ho : 0 ≤ o ∧ o ≤ 3) (h : ∀ x ∈ l, -1000000000 ≤ x ∧ x ≤ 1000000000) : Ev (fun k => spec_l17Fore.f k o l (i : Int)) (foreN o l i) := by
 have h1 := rd_bd (l := l) (i := (i : Int) - 1) h
 have h2 := rd_bd (l := l) (i := (i : Int) - 2) h
 have h3 := rd_bd (l := l) (i := (i : Int) - 3) h
 have key : ∀ m : Int, m = mn o i → 0 ≤ m → m ≤ i → Ev (fun k => spec_l17Fore.j0 k m l (i : Int)) (foreN o l i) := by
  intro m hm h0 hmi
  have e : foreN o l i = if m = 1 then rd l ((i : Int) - 1) else if m = 2 then 2 * rd l ((i : Int) - 1) - rd l ((i : Int) - 2) else if m = 3 then 3 * (rd l ((i : Int) - 1) - rd l ((i : Int) - 2)) + rd l ((i : Int) - 3) else 0 := by rw [hm]; rfl
  refine Ev.succ ?_
  simp only [spec_l17Fore.j0]
  by_cases c1 : m = 1
  ·rw [if_pos c1] at e
   rw [e, w64 (n := (i : Int) - 1) (by omega) (by omega)]
   exact Ev.pos c1 (Ev.pos (by omega) (Ev.pos (by omega) (Ev.some_ rfl)))
  rw [if_neg c1] at e
  refine Ev.neg c1 ?_
  by_cases c2 : m = 2
  ·rw [if_pos c2] at e
   rw [e, w64 (n := (i : Int) - 1) (by omega) (by omega), w64 (n := (i : Int) - 2) (by omega) (by omega), w64 (n := 2 * rd l ((i : Int) - 1)) (by omega) (by omega), w64 (n := 2 * _ - _) (by omega) (by omega)]
   exact Ev.pos c2 (Ev.pos (by omega) (Ev.pos (by omega) (Ev.pos (by omega) (Ev.pos (by omega) (Ev.some_ rfl)))))
  rw [if_neg c2] at e
  refine Ev.neg c2 ?_
  by_cases c3 : m = 3
  ·rw [if_pos c3] at e
   rw [e, w64 (n := (i : Int) - 1) (by omega) (by omega), w64 (n := (i : Int) - 2) (by omega) (by omega), w64 (n := (i : Int) - 3) (by omega) (by omega), w64 (n := rd l ((i : Int) - 1) - _) (by omega) (by omega), w64 (n := 3 * _) (by omega) (by omega), w64 (n := 3 * _ + _) (by omega) (by omega)]
   exact Ev.pos c3 (Ev.pos (by omega) (Ev.pos (by omega) (Ev.pos (by omega) (Ev.pos (by omega) (Ev.pos (by omega) (Ev.pos (by omega) (Ev.some_ rfl)))))))
  rw [if_neg c3] at e
  rw [e]
  exact Ev.neg c3 (Ev.some_ rfl)
 unfold spec_l17Fore.f
 by_cases hc : (i : Int) < o
 case neg => exact Ev.neg hc (key o (by unfold mn; rw [if_neg hc]) (by omega) (by omega))
 exact Ev.pos hc (key i (by unfold mn; rw [if_pos hc]) (by omega) (by omega))
theorem l9Wide_l0 (l : List Int) (a : Int) (ha : 0 ≤ a) (ha' : a ≤ 9000000000000000000) (hl : l.length ≤ 35184372088832) : ∀ (d i : Nat), i + d = l.length → Ev (fun k => spec_l9Wide.l0 k l a (i : Int)) (allIn a (l.drop i)) := by
 intro d
 induction d with
 | zero =>
  intro i hi
  refine (Ev.round (f := fun _ => some true) (Ev.some_ rfl) (fun k => by simp only [spec_l9Wide.l0]; rw [if_neg (by omega)])).to ?_
  rw [List.drop_of_length_le (by omega)]; rfl
 | succ d ih =>
  intro i hi
  rw [drop_rd (xs := l) (i := i) (by omega)]
  by_cases h1 : -a ≤ rd l i ∧ rd l i ≤ a
  case neg =>
   refine (Ev.round (f := fun _ => some false) (Ev.some_ rfl) (fun k => ?_)).to (by simp [allIn]; intros; omega)
   simp only [spec_l9Wide.l0, l1In_eq, Option.bind_some]
   rw [if_pos (by omega), if_pos (by omega), w64 (n := -a) (by omega) (by omega), if_neg (by simp; omega)]
  refine (Ev.round (ih (i + 1) (by omega)) (fun k => ?_)).to ?_
  ·simp only [spec_l9Wide.l0, l1In_eq, Option.bind_some]
   rw [if_pos (by omega), if_pos (by omega), w64 (n := -a) (by omega) (by omega), if_pos (by simp; omega), w64_add (by omega) (by omega)]
   simp
  ·simp [allIn]; intros; omega
theorem l9Wide_ev (l : List Int) (a : Int) (ha : 0 ≤ a) (ha' : a ≤ 9000000000000000000) (hl : l.length ≤ 35184372088832) : Ev (fun k => spec_l9Wide.f k l a) (allIn a l) :=
 (l9Wide_l0 l a ha ha' hl l.length 0 (by omega)).to (by simp)
theorem l5Sample_eq (a : Int) : spec_l5Sample.f a = some (decide (-1000000000 ≤ a ∧ a ≤ 1000000000)) := by unfold spec_l5Sample.f; rw [l1In_eq]; simp
theorem sUnGuess_l0 (o : Int) (ho : 0 ≤ o ∧ o ≤ 3) (left : List Int) (hl : left.length ≤ 512) (hw : ∀ x ∈ left, -10000000000 ≤ x ∧ x ≤ 10000000000) : ∀ (d i : Nat) (out : List Int), i + d = left.length → out.length = i → (∀ x ∈ out, -1000000000 ≤ x ∧ x ≤ 1000000000) → Ev (fun k => spec_UnGuess.l0 k o left out (i : Int)) (unGo o left d i out) := by
 intro d
 induction d with
 | zero =>
  intro i out hi ha hb
  refine Ev.succ ?_
  simp only [spec_UnGuess.l0]
  exact Ev.neg (by omega) (Ev.some_ rfl)
 | succ d ih =>
  intro i out hi ha hb
  have hf := foreN_bd (o := o) (l := out) (i := out.length) hb
  have hr := hw _ (rd_mem (xs := left) (i := i) (by omega))
  have hft := l17Fore_ev o out i (by omega) (by omega) ho hb
  rw [← ha] at hft
  refine Ev.succ ?_
  simp only [spec_UnGuess.l0]
  rw [w64_add (by omega) (by omega)]
  refine Ev.pos (by omega) (Ev.pos (by omega) ?_)
  rw [← ha]
  refine Ev.next hft ?_
  rw [ha] at hf ⊢
  simp only [l5Sample_eq, Option.bind_some]
  rw [w64 (n := rd left i + _) (by omega) (by omega)]
  by_cases hc : -1000000000 ≤ rd left i + foreN o out i ∧ rd left i + foreN o out i ≤ 1000000000
  case neg =>
   refine Ev.neg (by simpa using hc) (Ev.some_ ?_)
   simp only [unGo]; rw [ha, if_neg hc]
  refine Ev.pos (by simpa using hc) (Ev.pos (by omega) ((ih (i + 1) (out ++ [_]) (by omega) (by simp; omega) (fun x hx => ?_)).to ?_))
  ·rcases List.mem_append.1 hx with hx | hx
   ·exact hb x hx
   ·rw [List.mem_singleton.1 hx]; exact hc
  ·simp only [unGo]; rw [ha, if_pos hc]
theorem sUnGuess_ev (o : Int) (left : List Int) (hl : left.length ≤ 1048576) : Ev (fun k => spec_UnGuess.f k o left) (unGuessOf o left) := by
 have bad : Ev (fun k => spec_UnGuess.j0 k o left [] true) ([], false) := by
  refine Ev.succ ?_
  simp only [spec_UnGuess.j0]
  exact Ev.pos trivial (Ev.some_ rfl)
 unfold spec_UnGuess.f unGuessOf
 simp only [l1In_eq, Option.bind_some]
 by_cases h1 : 0 ≤ o ∧ o ≤ 3
 case neg => rw [if_neg (fun h => h1 h.1)]; exact Ev.neg (by simp; omega) bad
 refine Ev.pos (by simp; omega) ?_
 by_cases h2 : left.length ≤ 512
 case neg => rw [if_neg (fun h => h2 h.2.1)]; exact Ev.pos (by omega) bad
 refine Ev.neg (by omega) (Ev.next (l9Wide_ev left 10000000000 (by omega) (by omega) (by omega)) ?_)
 cases h3 : allIn 10000000000 left
 ·rw [if_neg (by simp)]; exact bad
 ·rw [if_pos ⟨h1, h2, rfl⟩]
  refine Ev.succ ?_
  simp only [spec_UnGuess.j0]
  exact Ev.neg (by simp) (sUnGuess_l0 o h1 left h2 (allIn_iff.1 h3) left.length 0 [] (by omega) rfl (by simp))
theorem sSignalOk_l0 (l : List Int) (hl : l.length ≤ 1048576) : ∀ (d i : Nat), i + d = l.length → Ev (fun k => spec_SignalOk.l0 k l (i : Int)) (decide (l.length ≤ 512) && allIn 1000000000 (l.drop i)) := by
 intro d
 induction d with
 | zero =>
  intro i hi
  refine Ev.succ ?_
  simp only [spec_SignalOk.l0]
  rw [List.drop_of_length_le (by omega)]
  exact Ev.neg (by omega) (Ev.some_ (by simp [allIn]; omega))
 | succ d ih =>
  intro i hi
  refine Ev.succ ?_
  simp only [spec_SignalOk.l0, l5Sample_eq, Option.bind_some]
  rw [drop_rd (xs := l) (i := i) (by omega), w64_add (by omega) (by omega)]
  refine Ev.pos (by omega) (Ev.pos (by omega) ?_)
  by_cases h1 : -1000000000 ≤ rd l i ∧ rd l i ≤ 1000000000
  case pos => exact Ev.pos (by simp [h1]) ((ih (i + 1) (by omega)).to (by simp [allIn, h1]))
  refine Ev.neg (by simp; omega) (Ev.some_ ?_)
  have : (decide (-1000000000 ≤ rd l i) && decide (rd l i ≤ 1000000000)) = false := by simp; omega
  simp only [allIn, List.all_cons, this, Bool.false_and, Bool.and_false]
theorem sSignalOk_ev (l : List Int) (hl : l.length ≤ 1048576) : Ev (fun k => spec_SignalOk.f k l) (sigB l) :=
 (sSignalOk_l0 l hl l.length 0 (by omega)).to (by simp [sigB])
theorem sGuess_l0 (o : Int) (ho : 0 ≤ o ∧ o ≤ 3) (l : List Int) (hl : l.length ≤ 512) (h : ∀ x ∈ l, -1000000000 ≤ x ∧ x ≤ 1000000000) : ∀ (d i : Nat) (acc : List Int), i + d = l.length → acc.length = i → Ev (fun k => spec_Guess.l0 k o l acc (i : Int)) (acc ++ guessGo o l d i, true) := by
 intro d
 induction d with
 | zero =>
  intro i acc hi ha
  refine Ev.succ ?_
  simp only [spec_Guess.l0]
  exact Ev.neg (by omega) (Ev.some_ (by simp [guessGo]))
 | succ d ih =>
  intro i acc hi ha
  have hf := foreN_bd (o := o) (l := l) (i := i) h
  have hr := rd_bd (l := l) (i := (i : Int)) h
  refine Ev.succ ?_
  simp only [spec_Guess.l0]
  rw [w64_add (by omega) (by omega)]
  refine Ev.pos (by omega) (Ev.pos (by omega) (Ev.next (l17Fore_ev o l i (by omega) (by omega) ho h) (Ev.pos (by omega) ?_)))
  rw [w64 (n := rd l i - _) (by omega) (by omega)]
  exact (ih (i + 1) (acc ++ [rd l i - foreN o l i]) (by omega) (by simp; omega)).to (by simp [guessGo])
theorem sGuess_ev (o : Int) (l : List Int) (hl : l.length ≤ 1048576) : Ev (fun k => spec_Guess.f k o l) (guessOf o l) := by
 have bad : Ev (fun k => spec_Guess.j0 k o l [] true) ([], false) := by
  refine Ev.succ ?_
  simp only [spec_Guess.j0]
  exact Ev.pos trivial (Ev.some_ rfl)
 unfold spec_Guess.f guessOf
 simp only [l1In_eq, Option.bind_some]
 by_cases h1 : 0 ≤ o ∧ o ≤ 3
 case neg => rw [if_neg (fun h => h1 h.1)]; exact Ev.neg (by simp; omega) bad
 refine Ev.pos (by simp; omega) (Ev.next (sSignalOk_ev l hl) ?_)
 cases h2 : sigB l
 ·rw [if_neg (by simp)]; exact bad
 ·rw [if_pos ⟨h1, rfl⟩]
  refine Ev.succ ?_
  simp only [spec_Guess.j0]
  exact Ev.neg (by simp) ((sGuess_l0 o h1 l (sigB_iff.1 h2).1 (sigB_iff.1 h2).2 l.length 0 [] (by omega) rfl).to (by simp))
theorem l17Zig_eq {x : Int} (h0 : -1000000000 ≤ x) (h1 : x ≤ 1000000000) : spec_l17Zig.f x = some (zig x) := by
 unfold spec_l17Zig.f zig
 by_cases h : x < 0
 case neg => rw [if_neg h, if_neg h, w64 (by omega) (by omega)]
 rw [if_pos h, if_pos h, w64 (n := -2 * x) (by omega) (by omega), w64 (by omega) (by omega)]
theorem l17Many_l0 (kk : Nat) (hk : kk ≤ 30) (l : List Int) (hl : l.length ≤ 1048576) (hw : ∀ x ∈ l, -1000000000 ≤ x ∧ x ≤ 1000000000) : ∀ (d i : Nat) (s : Int), i + d = l.length → 0 ≤ s → s ≤ i * 2000000031 → Ev (fun k => spec_l17Many.l0 k (kk : Int) l s (i : Int)) (s + riceSz kk (l.drop i), decide (s + riceSz kk (l.drop i) ≤ 100000)) := by
 intro d
 induction d with
 | zero =>
  intro i s hi _ _
  refine (Ev.round (f := fun _ => some (s, decide (s ≤ 100000))) (Ev.some_ rfl) (fun k => by simp only [spec_l17Many.l0]; rw [if_neg (by omega)])).to ?_
  rw [List.drop_of_length_le (by omega)]; simp [riceSz]
 | succ d ih =>
  intro i s hi hs hs'
  have hx := hw _ (rd_mem (xs := l) (i := i) (by omega))
  have hz := zig_bd hx.1 hx.2
  have hp : (0 : Int) < 2 ^ kk := Int.pow_pos (by omega)
  have h1 : 0 ≤ zig (rd l i) / 2 ^ kk := Int.ediv_nonneg hz.1 (by omega)
  have h2 : zig (rd l i) / 2 ^ kk ≤ zig (rd l i) := Int.ediv_le_self _ hz.1
  rw [drop_rd (xs := l) (i := i) (by omega)]
  refine (Ev.round (ih (i + 1) (s + (zig (rd l i) / 2 ^ kk + 1 + kk)) (by omega) (by omega) (by omega)) (fun k => ?_)).to ?_
  ·simp only [spec_l17Many.l0]
   rw [if_pos (by omega), if_pos (by omega), l17Zig_eq hx.1 hx.2]
   simp only [Option.bind_some]
   rw [wu64 (by omega) (by omega), if_pos (by omega), shr_small (by omega), w64_add (i := (i : Int)) (by omega) (by omega), w64 (n := s + _) (by omega) (by omega), w64 (n := _ + 1) (by omega) (by omega), w64 (by omega) (by omega)]
   rw [show s + (zig (rd l i) / 2 ^ kk + 1 + kk) = s + zig (rd l i) / 2 ^ kk + 1 + kk by omega]; simp
  ·simp only [riceSz, Prod.mk.injEq]; rw [show s + (zig (rd l i) / 2 ^ kk + 1 + ↑kk) + riceSz kk (l.drop (i + 1)) = s + (riceSz kk (l.drop (i + 1)) + (zig (rd l i) / 2 ^ kk + 1 + ↑kk)) by omega]; exact ⟨rfl, rfl⟩
theorem l17Many_ev (kk : Nat) (hk : kk ≤ 30) (l : List Int) (hl : l.length ≤ 1048576) : Ev (fun k => spec_l17Many.f k (kk : Int) l) (if l.length ≤ 128 ∧ allIn 1000000000 l = true then (riceSz kk l, decide (riceSz kk l ≤ 100000)) else (0, false)) := by
 unfold spec_l17Many.f
 rw [l1In_eq]
 have hc : (decide (0 ≤ (kk : Int)) && decide ((kk : Int) ≤ 30)) = true := by simp; omega
 rw [hc]
 refine Ev.next (Ev.some_ rfl) (Ev.pos rfl ?_)
 by_cases h : l.length ≤ 128
 case neg =>
  refine Ev.pos (by omega) ?_
  rw [if_neg (by omega)]
  exact Ev.round (Ev.some_ rfl) (fun k => by simp only [spec_l17Many.j0]; rfl)
 refine Ev.neg (by omega) (Ev.next (l9Wide_ev l 1000000000 (by omega) (by omega) (by omega)) ?_)
 cases hb : allIn 1000000000 l
 ·rw [if_neg (by simp)]
  exact Ev.round (Ev.some_ rfl) (fun k => by simp only [spec_l17Many.j0]; rfl)
 ·rw [if_pos ⟨h, rfl⟩]
  refine Ev.round ((l17Many_l0 kk hk l hl (allIn_iff.1 hb) l.length 0 0 (by omega) (by omega) (by omega)).to (by simp)) (fun k => by simp only [spec_l17Many.j0]; rw [if_neg (by simp)]; rfl)
theorem sBestRice_l0 (l : List Int) (hl : l.length ≤ 1048576) (hw : l.length ≤ 128 ∧ allIn 1000000000 l = true) : ∀ (d i : Nat) (b m : Int), i + d = 31 → Ev (fun k => spec_BestRice.l0 k l b m (i : Int)) (bestGo (fun k => riceSz k l) d i b m) := by
 intro d
 induction d with
 | zero =>
  intro i b m hi
  exact (Ev.round (f := fun _ => some (b, m)) (Ev.some_ rfl) (fun k => by simp only [spec_BestRice.l0]; rw [if_neg (by omega)]))
 | succ d ih =>
  intro i b m hi
  refine Ev.round (f := fun k => (spec_l17Many.f k (i : Int) l).bind fun t => if t.2 = true then (if b < 0 then spec_BestRice.l0 k l (i : Int) t.1 ((i + 1 : Nat) : Int) else (if t.1 < m then spec_BestRice.l0 k l (i : Int) t.1 ((i + 1 : Nat) : Int) else spec_BestRice.l0 k l b m ((i + 1 : Nat) : Int))) else spec_BestRice.l0 k l b m ((i + 1 : Nat) : Int)) ?_ (fun k => by simp only [spec_BestRice.l0]; rw [if_pos (by omega), w64_add (by omega) (by omega)]; rfl)
  refine Ev.next ((l17Many_ev i (by omega) l hl).to (if_pos hw)) ?_
  simp only [bestGo]
  by_cases h1 : riceSz i l ≤ 100000
  case neg => rw [if_neg (by omega)]; exact Ev.neg (by simp; omega) (ih (i + 1) _ _ (by omega))
  refine Ev.pos (by simp [h1]) ?_
  by_cases h2 : b < 0
  case pos => rw [if_pos ⟨h1, .inl h2⟩]; exact Ev.pos h2 (ih (i + 1) _ _ (by omega))
  refine Ev.neg h2 ?_
  by_cases h3 : riceSz i l < m
  case neg => rw [if_neg (by omega)]; exact Ev.neg h3 (ih (i + 1) _ _ (by omega))
  rw [if_pos ⟨h1, .inr h3⟩]; exact Ev.pos h3 (ih (i + 1) _ _ (by omega))
theorem sBestRice_l0_no (l : List Int) (hl : l.length ≤ 1048576) (hw : ¬ (l.length ≤ 128 ∧ allIn 1000000000 l = true)) : ∀ (d i : Nat) (b m : Int), i + d = 31 → Ev (fun k => spec_BestRice.l0 k l b m (i : Int)) (b, m) := by
 intro d
 induction d with
 | zero =>
  intro i b m hi
  exact (Ev.round (f := fun _ => some (b, m)) (Ev.some_ rfl) (fun k => by simp only [spec_BestRice.l0]; rw [if_neg (by omega)]))
 | succ d ih =>
  intro i b m hi
  refine Ev.round (f := fun k => (spec_l17Many.f k (i : Int) l).bind fun t => if t.2 = true then (if b < 0 then spec_BestRice.l0 k l (i : Int) t.1 ((i + 1 : Nat) : Int) else (if t.1 < m then spec_BestRice.l0 k l (i : Int) t.1 ((i + 1 : Nat) : Int) else spec_BestRice.l0 k l b m ((i + 1 : Nat) : Int))) else spec_BestRice.l0 k l b m ((i + 1 : Nat) : Int)) ?_ (fun k => by simp only [spec_BestRice.l0]; rw [if_pos (by omega), w64_add (by omega) (by omega)]; rfl)
  exact Ev.next ((l17Many_ev i (by omega) l hl).to (if_neg hw)) (Ev.neg (by simp) (ih (i + 1) _ _ (by omega)))
theorem sBestRice_ev (l : List Int) (hl : l.length ≤ 1048576) : Ev (fun k => spec_BestRice.f k l) (bestOf l) := by
 unfold spec_BestRice.f bestOf
 by_cases h : l.length ≤ 128 ∧ allIn 1000000000 l = true
 case pos => rw [if_pos h]; exact sBestRice_l0 l hl h 31 0 (-1) 0 (by omega)
 rw [if_neg h]; exact sBestRice_l0_no l hl h 31 0 (-1) 0 (by omega)
theorem sOrder_l0 (l : List Int) (hl : l.length ≤ 128) (hs : sigB l = true) : ∀ (d i : Nat) (o q m : Int), i + d = min 4 l.length → Ev (fun k => spec_l17Order.l0 k l o q m (i : Int)) ((orderGo l d i o q m).1, (orderGo l d i o q m).2.1, decide ((orderGo l d i o q m).1 ≥ 0)) := by
 intro d
 induction d with
 | zero =>
  intro i o q m hi
  have last : ∀ b : Bool, b = false → Ev (fun k => spec_l17Order.j1 k l o q m (i : Int) b) (o, q, decide (o ≥ 0)) := by
   intro b hb
   refine Ev.succ ?_
   simp only [spec_l17Order.j1]
   exact Ev.neg (by rw [hb]; decide) (Ev.some_ rfl)
  simp only [orderGo]
  refine Ev.succ ?_
  simp only [spec_l17Order.l0]
  exact Ev.both (fun h => last _ (decide_eq_false (by omega))) (fun _ => last _ rfl)
 | succ d ih =>
  intro i o q m hi
  have e : guessOf (i : Int) l = (guessGo i l l.length 0, true) := if_pos ⟨by omega, hs⟩
  have hg := sGuess_ev (i : Int) l (by omega)
  rw [e] at hg
  refine Ev.succ ?_
  simp only [spec_l17Order.l0]
  refine Ev.pos (by omega) (Ev.succ ?_)
  simp only [spec_l17Order.j1]
  refine Ev.pos (decide_eq_true (by omega)) (Ev.next hg (Ev.next (sBestRice_ev _ (by rw [guessGo_len]; omega)) ?_))
  rw [w64 (n := (i : Int) + 1) (by omega) (by omega), show ((i : Int) + 1) = ((i + 1 : Nat) : Int) by omega]
  by_cases h1 : (bestOf (guessGo i l l.length 0)).1 ≥ 0
  case neg =>
   rw [show orderGo l (d + 1) i o q m = _ from if_neg (fun h => h1 h.1)]
   exact Ev.neg h1 (ih (i + 1) _ _ _ (by omega))
  refine Ev.pos h1 ?_
  by_cases h2 : o < 0
  case pos =>
   rw [show orderGo l (d + 1) i o q m = _ from if_pos ⟨h1, .inl h2⟩]
   exact Ev.pos h2 (ih (i + 1) _ _ _ (by omega))
  refine Ev.neg h2 ?_
  by_cases h3 : (bestOf (guessGo i l l.length 0)).2 < m
  case pos =>
   rw [show orderGo l (d + 1) i o q m = _ from if_pos ⟨h1, .inr h3⟩]
   exact Ev.pos h3 (ih (i + 1) _ _ _ (by omega))
  rw [show orderGo l (d + 1) i o q m = _ from if_neg (fun h => h.2.elim h2 h3)]
  exact Ev.neg h3 (ih (i + 1) _ _ _ (by omega))
theorem sOrder_ev (l : List Int) (hl : l.length ≤ 128) (hs : sigB l = true) : Ev (fun k => spec_l17Order.f k l) ((orderOf l).1, (orderOf l).2.1, decide ((orderOf l).1 ≥ 0)) :=
 sOrder_l0 l hl hs (min 4 l.length) 0 (-1) 0 0 (by omega)
theorem sRice_l0 (kk : Nat) (hk : kk ≤ 30) (l : List Int) (hl : l.length ≤ 128) (hw : ∀ x ∈ l, -1000000000 ≤ x ∧ x ≤ 1000000000) : ∀ (d i : Nat) (acc : List Int), i + d = l.length → acc.length + riceSz kk (l.drop i) ≤ 100000 → Ev (fun k => spec_Rice.l0 k (kk : Int) l acc (i : Int)) (acc ++ riceAll kk (l.drop i), true) := by
 intro d
 induction d with
 | zero =>
  intro i acc hi _
  refine Ev.succ ?_
  simp only [spec_Rice.l0]
  refine Ev.neg (by omega) (Ev.some_ ?_)
  rw [List.drop_of_length_le (by omega)]; simp [riceAll]
 | succ d ih =>
  intro i acc hi hs
  have hx := hw _ (rd_mem (xs := l) (i := i) (by omega))
  have hz := zig_bd hx.1 hx.2
  have hp : (0 : Int) < 2 ^ kk := Int.pow_pos (by omega)
  have h1 : 0 ≤ zig (rd l i) / 2 ^ kk := Int.ediv_nonneg hz.1 (by omega)
  have hr := riceSz_bd kk hk (l.drop (i + 1)) (fun x hx => hw x (List.mem_of_mem_drop hx))
  rw [drop_rd (xs := l) (i := i) (by omega)] at hs ⊢
  simp only [riceSz] at hs
  simp only [riceAll]
  have l2 : ∀ (b : Nat) (a : List Int), b ≤ kk → a.length + b + riceSz kk (l.drop (i + 1)) ≤ 100000 → Ev (fun k => spec_Rice.l2 k (kk : Int) l a (i : Int) (zig (rd l i)) ((b : Int) - 1)) (a ++ lowBits (zig (rd l i)) b ++ riceAll kk (l.drop (i + 1)), true) := by
   intro b
   induction b with
   | zero =>
    intro a _ ha
    refine Ev.succ ?_
    simp only [spec_Rice.l2]
    refine Ev.neg (by omega) ?_
    rw [w64_add (by omega) (by omega)]
    exact (ih (i + 1) a (by omega) (by omega)).to (by simp [lowBits])
   | succ b ihb =>
    intro a hb ha
    refine Ev.succ ?_
    simp only [spec_Rice.l2]
    rw [show (((b + 1 : Nat) : Int) - 1) = (b : Int) by omega, wu64 (by omega) (by omega), w64 (by omega) (by omega), shr_small (by omega), Int.tmod_eq_emod_of_nonneg (Int.ediv_nonneg hz.1 (Int.le_of_lt (Int.pow_pos (by omega))))]
    refine Ev.pos (by omega) (Ev.pos (by omega) (Ev.pos (by omega) ?_))
    refine (ihb (a ++ [zig (rd l i) / 2 ^ b % 2]) (by omega) (by simp; omega)).to ?_
    simp [lowBits]
  have l1 : ∀ (q : Nat) (a : List Int), a.length + q + 1 + kk + riceSz kk (l.drop (i + 1)) ≤ 100000 → Ev (fun k => spec_Rice.l1 k (kk : Int) l a (i : Int) (zig (rd l i)) (q : Int)) (a ++ (List.replicate q 1 ++ 0 :: lowBits (zig (rd l i)) kk) ++ riceAll kk (l.drop (i + 1)), true) := by
   intro q
   induction q with
   | zero =>
    intro a ha
    refine Ev.succ ?_
    simp only [spec_Rice.l1]
    refine Ev.neg (by omega) (Ev.pos (by omega) ?_)
    rw [w64 (by omega) (by omega)]
    refine (l2 kk (a ++ [0]) (by omega) (by simp; omega)).to ?_
    simp
   | succ q ihq =>
    intro a ha
    refine Ev.succ ?_
    simp only [spec_Rice.l1]
    rw [w64 (by omega) (by omega), show ((q + 1 : Nat) : Int) - 1 = (q : Int) by omega]
    refine Ev.pos (by omega) (Ev.pos (by omega) ?_)
    refine (ihq (a ++ [1]) (by simp; omega)).to ?_
    simp [List.replicate_succ]
  refine Ev.succ ?_
  simp only [spec_Rice.l0, l17Zig_eq hx.1 hx.2, Option.bind_some]
  rw [wu64 (by omega) (by omega), shr_small (by omega)]
  refine Ev.pos (by omega) (Ev.pos (by omega) (Ev.pos (by omega) ?_))
  rw [show zig (rd l i) / 2 ^ kk = (((zig (rd l i) / 2 ^ kk).toNat : Nat) : Int) by omega]
  refine (l1 _ acc (by omega)).to ?_
  simp only [riceOne, List.append_assoc]
theorem sRice_ev (kk : Int) (l : List Int) (hl : l.length ≤ 1048576) : Ev (fun k => spec_Rice.f k kk l) (riceOf kk l) := by
 unfold spec_Rice.f riceOf
 by_cases hk : 0 ≤ kk ∧ kk ≤ 30
 case neg =>
  rw [if_neg (fun hh => hk hh.1)]
  unfold spec_l17Many.f
  have hc : (decide (0 ≤ kk) && decide (kk ≤ 30)) = false := by simp; omega
  simp only [l1In_eq, Option.bind_some, hc]
  refine Ev.next (a := (0, false)) (Ev.neg (by simp) ?_) (Ev.neg (by simp) (Ev.some_ rfl))
  refine Ev.succ ?_
  simp only [spec_l17Many.j0]
  exact Ev.pos trivial (Ev.some_ rfl)
 obtain ⟨m, rfl⟩ := Int.eq_ofNat_of_zero_le hk.1
 rw [Int.toNat_natCast]
 refine Ev.next (l17Many_ev m (by omega) l hl) ?_
 by_cases h : l.length ≤ 128 ∧ allIn 1000000000 l = true
 case neg =>
  rw [if_neg h, if_neg (fun hh => h hh.2.1)]
  exact Ev.neg (by simp) (Ev.some_ rfl)
 rw [if_pos h]
 by_cases h2 : riceSz m l ≤ 100000
 case neg =>
  rw [if_neg (by simp; intros; omega)]
  exact Ev.neg (by simpa using h2) (Ev.some_ rfl)
 rw [if_pos ⟨by omega, h, by simpa using h2⟩]
 refine Ev.pos (by simpa using h2) ((sRice_l0 m (by omega) l h.1 (allIn_iff.1 h.2) l.length 0 [] (by omega) (by simpa using h2)).to (by simp))
theorem sPack_l0 (bs hd : List Int) (hl : bs.length ≤ 100000) (hb : ∀ x ∈ bs, x = 0 ∨ x = 1) (hh : ∀ x ∈ hd, 0 ≤ x ∧ x < 256) (hn : hd.length ≤ 100) : ∀ (d i : Nat) (acc : List Int), i + d = bs.length → acc.length = (bs.length + 7) / 8 → (∀ x ∈ acc, 0 ≤ x ∧ x < 256) → Ev (fun k => spec_PackFrame.l0 k bs hd acc (i : Int)) ((hd ++ packGo bs d i acc) ++ [crcOf (hd ++ packGo bs d i acc) / 256 % 256, crcOf (hd ++ packGo bs d i acc) % 256], true) := by
 intro d
 induction d with
 | zero =>
  intro i acc hi ha hx
  have hbb : ∀ x ∈ hd ++ acc, 0 ≤ x ∧ x < 256 := fun x h => (List.mem_append.1 h).elim (hh x) (hx x)
  have c := crcOf_bd hbb
  simp only [packGo]
  refine Ev.succ ?_
  simp only [spec_PackFrame.l0, Option.bind_some]
  refine Ev.neg (by omega) (Ev.pos (by omega) (Ev.next (sCrc_ev _ hbb) ?_))
  rw [Int.tdiv_eq_ediv_of_nonneg c.1, Int.tmod_eq_emod_of_nonneg c.1, w64 (n := crcOf (hd ++ acc) / 256) (by omega) (by omega), Int.emod_emod]
  refine Ev.pos ?_ (Ev.some_ rfl)
  simp only [List.length_append, List.length_cons, List.length_nil]
  omega
 | succ d ih =>
  intro i acc hi ha hx
  have hbit := hb _ (rd_mem (xs := bs) (i := i) (by omega))
  have e1 : wrap64 (Int.tdiv (i : Int) 8) = ((i / 8 : Nat) : Int) := by rw [Int.tdiv_eq_ediv_of_nonneg (by omega), w64 (by omega) (by omega)]; omega
  have e2 : IntKind.u64.wrap (wrap64 (7 - Int.tmod (i : Int) 8)) = ((7 - i % 8 : Nat) : Int) := by rw [Int.tmod_eq_emod_of_nonneg (by omega), w64 (by omega) (by omega), wu64 (by omega) (by omega)]; omega
  refine Ev.succ ?_
  simp only [spec_PackFrame.l0, packGo, e1, e2, shl_bit64 (7 - i % 8) (by omega) _ hbit]
  refine Ev.pos (by omega) (Ev.pos (by omega) (Ev.pos (by omega) (Ev.pos (by omega) (Ev.pos (by omega) ?_))))
  rw [w64 (n := (i : Int) + 1) (by omega) (by omega), show ((i : Int) + 1) = ((i + 1 : Nat) : Int) by omega]
  exact ih (i + 1) _ (by omega) (by simpa using ha) (fun x h => by
   rcases List.mem_or_eq_of_mem_set h with h | rfl
   ·exact hx x h
   ·exact packVal_bd bs acc i)
theorem sPackFrame_ev (l : List Int) (hl : l.length ≤ 1048576) : Ev (fun k => spec_PackFrame.f k l) (frameOf l) := by
 have ft : ∀ b : Bool, b = true → Ev (fun k => spec_PackFrame.j0 k l b) ([], false) := by
  intro b hb
  refine Ev.succ ?_
  simp only [spec_PackFrame.j0]
  exact Ev.pos hb (Ev.some_ rfl)
 unfold spec_PackFrame.f frameOf
 rw [l1In_eq]
 simp only [Option.bind_some]
 by_cases h1 : 1 ≤ l.length ∧ l.length ≤ 128
 case neg =>
  rw [if_neg (fun h => h1 h.1)]
  exact Ev.neg (by simp; omega) (ft _ rfl)
 refine Ev.pos (by simp; omega) (Ev.next (sSignalOk_ev l (by omega)) ?_)
 by_cases h2 : sigB l = true
 case neg =>
  rw [if_neg (fun h => h2 h.2)]
  exact ft _ (by simpa using h2)
 rw [if_pos ⟨h1, h2⟩]
 refine Ev.succ ?_
 simp only [spec_PackFrame.j0]
 refine Ev.neg (by rw [h2]; decide) (Ev.next (sOrder_ev l h1.2 h2) ?_)
 have ob := orderGo_bd l (min 4 l.length) 0 (-1) 0 0 (by omega) (by omega)
 rw [show orderGo l (min 4 l.length) 0 (-1) 0 0 = orderOf l from rfl] at ob
 by_cases h3 : (orderOf l).1 < 0
 case pos =>
  rw [if_pos h3]
  exact Ev.neg (by simp; omega) (Ev.some_ rfl)
 rw [if_neg h3]
 have e : guessOf (orderOf l).1 l = (guessGo (orderOf l).1 l l.length 0, true) := if_pos ⟨by omega, h2⟩
 have hg := sGuess_ev (orderOf l).1 l (by omega)
 rw [e] at hg
 refine Ev.pos (decide_eq_true (by omega)) (Ev.next hg (Ev.next (sRice_ev _ _ (by rw [guessGo_len]; omega)) ?_))
 obtain ⟨bs, hbs⟩ : ∃ bs, (riceOf (orderOf l).2.1 (guessGo (orderOf l).1 l l.length 0)).1 = bs := ⟨_, rfl⟩
 have hlen := riceOf_len (orderOf l).2.1 (guessGo (orderOf l).1 l l.length 0)
 have hbit := riceOf_bit (orderOf l).2.1 (guessGo (orderOf l).1 l l.length 0)
 rw [hbs] at hlen hbit ⊢
 have e1 : wrap64 (Int.tdiv (wrap64 ((bs.length : Int) + 7)) 8) = (((bs.length + 7) / 8 : Nat) : Int) := by
  rw [w64 (n := (bs.length : Int) + 7) (by omega) (by omega), Int.tdiv_eq_ediv_of_nonneg (by omega), w64 (by omega) (by omega)]; omega
 simp only [e1, Int.toNat_natCast]
 refine Ev.pos (by omega) (Ev.pos (by omega) ?_)
 exact sPack_l0 bs _ hlen hbit (fun x h => by simp only [List.mem_cons, List.not_mem_nil, or_false] at h; rcases h with h | h | h <;> omega) (by simp) bs.length 0 _ (by omega) (by simp) (fun x hx => by rw [List.eq_of_mem_replicate hx]; omega)
theorem sOpen_end (b : List Int) (hl : b.length ≤ 1048576) (hb : ∀ x ∈ b, 0 ≤ x ∧ x < 256) (a : Nat) (ha : a + 3 ≤ b.length) (n : Nat) (hn : n ≤ 128) (o : Int) (q : Nat) (hq : q ≤ 30) (i : Nat) (hi : 8 * b.length ≤ i) (hi2 : i ≤ 100000000) : Ev (fun k => spec_OpenFrame.l0 k b (a : Int) [] (n : Int) o (q : Int) (unpackOf (b.drop (a + 3))) (i : Int)) (openBits b a o (unR q (unpackOf (b.drop (a + 3))) n 0 [])) := by
 have hu := unR_used q (unpackOf (b.drop (a + 3))) n 0 [] (by omega)
 have hlen := unR_len q (unpackOf (b.drop (a + 3))) n 0 []
 have hev := sUnRice_ev (q : Int) (unpackOf (b.drop (a + 3))) (n : Int) (by rw [unpackOf_len, List.length_drop]; omega)
 rw [show unRiceOf (q : Int) (unpackOf (b.drop (a + 3))) (n : Int) = unR q (unpackOf (b.drop (a + 3))) n 0 [] from if_pos ⟨⟨by omega, by omega⟩, ⟨by omega, by omega⟩, allBits_iff.2 (unpackOf_bit _)⟩] at hev
 refine Ev.succ ?_
 simp only [spec_OpenFrame.l0]
 rw [wadd3 (e := a) (by omega), w64 (n := 8 * (b.length : Int)) (by omega) (by omega)]
 refine Ev.neg (by omega) (Ev.next hev ?_)
 rw [unpackOf_len, List.length_drop] at hu
 clear hev
 generalize unR q (unpackOf (b.drop (a + 3))) n 0 [] = r at hu hlen ⊢
 obtain ⟨left, used, ok⟩ := r
 simp only at hu hlen ⊢
 unfold openBits
 simp only
 cases ok with
 | false => exact Ev.neg (by decide) ((Ev.some_ rfl).to (if_neg (by decide)).symm)
 | true =>
  obtain ⟨u, rfl, hu2⟩ := hu rfl
  rw [if_pos rfl]
  simp only [Int.toNat_natCast]
  have he : a + 3 ≤ a + 3 + (u + 7) / 8 ∧ a + 3 + (u + 7) / 8 ≤ b.length := by omega
  rw [wround8 (e := a + 3) (u := u) (by omega) (by omega)]
  clear hu
  generalize a + 3 + (u + 7) / 8 = e at he ⊢
  rw [w64 (n := (b.length : Int) - (e : Int)) (by omega) (by omega), wadd1 (e := e) (by omega), wadd2 (e := e) (by omega)]
  refine Ev.pos trivial ?_
  by_cases h1 : b.length < e + 2
  case pos => rw [if_pos h1]; exact Ev.pos (by omega) (Ev.some_ rfl)
  rw [if_neg h1]
  have hc := sCrc_ev ((b.take e).drop a) (fun x hx => hb x (List.mem_of_mem_take (List.mem_of_mem_drop hx)))
  have r0 := hb _ (rd_mem (xs := b) (i := e) (by omega))
  have r1 := hb _ (rd_mem (xs := b) (i := e + 1) (by omega))
  refine Ev.neg (by omega) (Ev.pos (by omega) (Ev.pos (by omega) (Ev.pos (by omega) (Ev.next hc (Ev.pos (by omega) (Ev.pos (by omega) (Ev.pos (by omega) (Ev.pos (by omega) ?_))))))))
  rw [w64 (n := rd b (e : Int)) (by omega) (by omega), w64 (n := 256 * rd b (e : Int)) (by omega) (by omega), w64 (n := rd b ((e + 1 : Nat) : Int)) (by omega) (by omega), w64 (n := 256 * rd b (e : Int) + rd b ((e + 1 : Nat) : Int)) (by omega) (by omega)]
  by_cases h2 : crcOf ((b.take e).drop a) = 256 * rd b (e : Int) + rd b ((e + 1 : Nat) : Int)
  case neg => rw [if_neg h2]; exact Ev.neg h2 (Ev.some_ rfl)
  rw [if_pos h2]
  refine Ev.pos h2 (Ev.next (sUnGuess_ev o left (by simp only [List.length_nil] at hlen; omega)) ?_)
  have hul : (unGuessOf o left).1.length ≤ 1048576 := by
   unfold unGuessOf
   split
   ·have := unGo_len o left left.length 0 []
    simp only [List.length_nil] at this hlen
    omega
   ·simp
  unfold openForm
  by_cases h3 : (unGuessOf o left).2 = true
  case neg => rw [if_neg (fun h => h3 h.1)]; exact Ev.neg h3 (Ev.some_ rfl)
  refine Ev.pos h3 (Ev.next (sPackFrame_ev _ hul) (Ev.pos (by omega) (Ev.pos (by omega) ?_)))
  have hby : ∀ x ∈ (b.take (e + 2)).drop a, 0 ≤ x ∧ x < 256 := fun x hx => hb x (List.mem_of_mem_take (List.mem_of_mem_drop hx))
  have hln : 2 ≤ ((b.take (e + 2)).drop a).length := by rw [List.length_drop, List.length_take]; omega
  by_cases h4 : (frameOf (unGuessOf o left).1).2 = true ∧ (frameOf (unGuessOf o left).1).1 = (b.take (e + 2)).drop a
  case pos =>
   refine (Ev.pos ?_ (Ev.some_ rfl)).to (if_pos ⟨h3, h4⟩).symm
   rw [h4.2]; rfl
  refine (Ev.neg (fun h => h4 ?_) (Ev.some_ rfl)).to (if_neg (fun h => h4 h.2)).symm
  have e5 := strOfNums_inj (frameOf_bd _) hby h
  refine ⟨?_, e5⟩
  cases hf : (frameOf (unGuessOf o left).1).2 with
  | true => rfl
  | false =>
   have := frameOf_no hf
   rw [e5] at this
   rw [this] at hln
   simp at hln
theorem sOpen_l0 (b : List Int) (hl : b.length ≤ 1048576) (hb : ∀ x ∈ b, 0 ≤ x ∧ x < 256) (a : Nat) (ha : a + 3 ≤ b.length) (n : Nat) (hn : n ≤ 128) (o : Int) (q : Nat) (hq : q ≤ 30) : ∀ (d i : Nat) (acc : List Int), i + d = 8 * b.length → acc.length ≤ i → acc ++ unpackGo b d i = unpackOf (b.drop (a + 3)) → Ev (fun k => spec_OpenFrame.l0 k b (a : Int) [] (n : Int) o (q : Int) acc (i : Int)) (openBits b a o (unR q (unpackOf (b.drop (a + 3))) n 0 [])) := by
 intro d
 induction d with
 | zero =>
  intro i acc hi hac ht
  rw [unpackGo, List.append_nil] at ht
  rw [ht]
  exact sOpen_end b hl hb a ha n hn o q hq i (by omega) (by omega)
 | succ d ih =>
  intro i acc hi hac ht
  have hbit := hb _ (rd_mem (xs := b) (i := i / 8) (by omega))
  have hd := div_u8 hbit.1 hbit.2 (7 - i % 8)
  have e1 : wrap64 (Int.tdiv (i : Int) 8) = ((i / 8 : Nat) : Int) := by rw [Int.tdiv_eq_ediv_of_nonneg (by omega), w64 (by omega) (by omega)]; omega
  have e2 : IntKind.u64.wrap (wrap64 (7 - Int.tmod (i : Int) 8)) = ((7 - i % 8 : Nat) : Int) := by rw [Int.tmod_eq_emod_of_nonneg (by omega), w64 (by omega) (by omega), wu64 (by omega) (by omega)]; omega
  refine Ev.succ ?_
  simp only [spec_OpenFrame.l0]
  rw [e1, e2]
  clear e1 e2
  rw [w64 (n := 8 * (b.length : Int)) (by omega) (by omega), shr_u8 _ (7 - i % 8) (by omega), wadd1 (e := i) (by omega), w64 (n := rd b ((i / 8 : Nat) : Int) / 2 ^ (7 - i % 8)) (by omega) (by omega), Int.tmod_eq_emod_of_nonneg hd.1]
  refine Ev.pos (by omega) (Ev.pos (by omega) (Ev.pos (by omega) (Ev.pos (by omega) (Ev.pos (by omega) ?_))))
  refine ih (i + 1) _ (by omega) (by simp; omega) ?_
  rw [List.append_assoc]
  exact ht
theorem sOpenFrame_ev (b : List Int) (hl : b.length ≤ 1048576) (hb : ∀ x ∈ b, 0 ≤ x ∧ x < 256) (x : Int) : Ev (fun k => spec_OpenFrame.f k b x) (openOf b x) := by
 have ft : ∀ y, Ev (fun k => spec_OpenFrame.j0 k b y [] true) ([], y, 1) := by
  intro y
  refine Ev.succ ?_
  simp only [spec_OpenFrame.j0]
  exact Ev.pos trivial (Ev.some_ rfl)
 unfold spec_OpenFrame.f openOf
 refine Ev.next (Ev.some_ rfl) (Ev.next (Ev.here (l1In_eq x 0 (b.length : Int))) ?_)
 by_cases h0 : 0 ≤ x ∧ x ≤ (b.length : Int)
 case neg =>
  rw [if_neg (by omega)]
  exact Ev.neg (by simp; omega) (ft x)
 refine Ev.pos (by simp; omega) ?_
 rw [w64 (n := (b.length : Int) - x) (by omega) (by omega)]
 by_cases h2 : (b.length : Int) - x < 3
 case pos => rw [if_neg (by omega), decide_eq_true h2]; exact ft x
 rw [if_pos (by omega), decide_eq_false h2]
 obtain ⟨a, rfl⟩ := Int.eq_ofNat_of_zero_le (show 0 ≤ x by omega)
 rw [Int.toNat_natCast]
 have r1 := hb _ (rd_mem (xs := b) (i := a + 1) (by omega))
 have r2 := hb _ (rd_mem (xs := b) (i := a + 2) (by omega))
 have bad : ∀ (n o q : Int), Ev (fun k => spec_OpenFrame.j1 k b (a : Int) [] n o q true) ([], (a : Int), 2) := by
  intro n o q
  refine Ev.succ ?_
  simp only [spec_OpenFrame.j1]
  exact Ev.pos trivial (Ev.some_ rfl)
 refine Ev.succ ?_
 simp only [spec_OpenFrame.j0]
 rw [wadd1 (e := a) (by omega), wadd2 (e := a) (by omega)]
 refine Ev.neg (by decide) (Ev.pos (by omega) (Ev.pos (by omega) (Ev.pos (by omega) (Ev.pos (by omega) (Ev.pos (by omega) (Ev.pos (by omega) ?_))))))
 rw [w64 (n := rd b ((a + 1 : Nat) : Int)) (by omega) (by omega), w64 (n := rd b ((a + 1 : Nat) : Int) + 1) (by omega) (by omega), w64 (n := rd b ((a + 2 : Nat) : Int)) (by omega) (by omega), Int.tdiv_eq_ediv_of_nonneg r2.1, Int.tmod_eq_emod_of_nonneg r2.1, w64 (n := rd b ((a + 2 : Nat) : Int) / 32) (by omega) (by omega)]
 unfold openAt
 by_cases c1 : rd b (a : Int) = 70
 case neg => rw [if_neg (fun h => c1 h.1)]; exact Ev.neg c1 (bad _ _ _)
 refine Ev.pos c1 ?_
 by_cases c2 : rd b ((a + 1 : Nat) : Int) + 1 > 128
 case pos => rw [if_neg (by omega)]; exact Ev.pos c2 (bad _ _ _)
 refine Ev.neg c2 ?_
 by_cases c3 : rd b ((a + 2 : Nat) : Int) / 32 > 3
 case pos => rw [if_neg (by omega)]; exact Ev.pos c3 (bad _ _ _)
 refine Ev.neg c3 ?_
 by_cases c4 : rd b ((a + 2 : Nat) : Int) % 32 > 30
 case pos => rw [if_neg (by omega), decide_eq_true c4]; exact bad _ _ _
 rw [if_pos ⟨c1, by omega, by omega, by omega⟩, decide_eq_false c4]
 obtain ⟨n, hn⟩ := Int.eq_ofNat_of_zero_le (show 0 ≤ rd b ((a + 1 : Nat) : Int) + 1 by omega)
 obtain ⟨q, hq⟩ := Int.eq_ofNat_of_zero_le (show 0 ≤ rd b ((a + 2 : Nat) : Int) % 32 by omega)
 rw [hn, hq, Int.toNat_natCast, Int.toNat_natCast]
 refine Ev.succ ?_
 simp only [spec_OpenFrame.j1]
 rw [wadd3 (e := a) (by omega), w64 (n := 8 * ((a + 3 : Nat) : Int)) (by omega) (by omega), show 8 * ((a + 3 : Nat) : Int) = ((8 * (a + 3) : Nat) : Int) by omega]
 exact Ev.neg (by decide) (sOpen_l0 b hl hb a (by omega) n (by omega) _ q (by omega) (8 * (b.length - (a + 3))) (8 * (a + 3)) [] (by omega) (by simp) (by rw [unpackOf_drop]; rfl))
theorem sMend_l0 (b : List Int) (hl : b.length ≤ 20000) (hb : ∀ x ∈ b, 0 ≤ x ∧ x < 256) : ∀ (d a f : Nat) (out : List Int) (lost : Nat), b.length ≤ a + d → f ≤ 60 → out.length ≤ 512 * f → lost ≤ a → a ≤ b.length → Ev (fun k => spec_Mend.l0 k b out (lost : Int) (f : Int) (a : Int)) (mendGo b d a f out (lost : Int)) := by
 intro d
 induction d with
 | zero =>
  intro a f out lost h1 h2 h3 h4 h5
  refine Ev.succ ?_
  simp only [spec_Mend.l0]
  exact Ev.neg (by omega) (Ev.some_ rfl)
 | succ d ih =>
  intro a f out lost h1 h2 h3 h4 h5
  refine Ev.succ ?_
  simp only [spec_Mend.l0, mendGo]
  by_cases h6 : a < b.length
  case neg => exact (Ev.neg (by omega) (Ev.some_ rfl)).to (if_neg h6).symm
  have ho := openOf_len b (a : Int)
  rw [wadd1 (e := lost) (by omega), wadd1 (e := f) (by omega), wadd1 (e := a) (by omega)]
  refine (Ev.pos (by omega) (Ev.next (sOpenFrame_ev b (by omega) hb (a : Int)) ?_)).to (if_pos h6).symm
  have hno := ih (a + 1) f out (lost + 1) (by omega) h2 h3 (by omega) (by omega)
  rw [show ((lost + 1 : Nat) : Int) = (lost : Int) + 1 by omega] at hno ⊢
  by_cases h7 : (openOf b (a : Int)).2.2 = 0
  case neg => exact (Ev.neg h7 hno).to (if_neg (fun h => h7 h.1)).symm
  obtain ⟨e, he, h8, h9⟩ := openOf_next h7
  refine Ev.pos h7 ?_
  by_cases h10 : f < 60
  case neg => exact (Ev.neg (by omega) hno).to (if_neg (fun h => h10 h.2)).symm
  refine (Ev.pos (by omega) (Ev.pos (by omega) ?_)).to (if_pos ⟨h7, h10⟩).symm
  rw [he, Int.toNat_natCast]
  exact ih e (f + 1) _ lost (by omega) (by omega) (by rw [List.length_append]; omega) (by omega) h9
theorem sMend_ev (b : List Int) (hb : ∀ x ∈ b, 0 ≤ x ∧ x < 256) : Ev (fun k => spec_Mend.f k b) (mendOf b) := by
 unfold spec_Mend.f mendOf
 refine Ev.next (Ev.some_ rfl) ?_
 exact Ev.cond (fun _ => Ev.some_ rfl) (fun h => sMend_l0 b (by omega) hb b.length 0 0 [] 0 (by omega) (by omega) (by simp) (by omega) (by omega))
theorem unpack8_l0 (b : List Int) (hl : b.length ≤ 1048576) (hb : ∀ x ∈ b, 0 ≤ x ∧ x < 256) : ∀ (d j : Nat) (out : List Int), j + d = b.length → out.length = 8 * j → Ev (fun k => impl_unpack8.l0 k out b (b.length : Int) (j : Int)) (out ++ unpackGo b (8 * d) (8 * j)) := by
 intro d
 induction d with
 | zero =>
  intro j out hj ho
  refine Ev.succ ?_
  simp only [impl_unpack8.l0]
  exact Ev.neg (by omega) (Ev.some_ (by simp [unpackGo]))
 | succ d ih =>
  intro j out hj ho
  have hbit := hb _ (rd_mem (xs := b) (i := j) (by omega))
  have l1 : ∀ (m i : Nat) (acc : List Int), i + m = 8 * j + 8 → m ≤ 8 → acc.length = i → Ev (fun k => impl_unpack8.l1 k acc (rd b (j : Int)) ((m : Int) - 1) b (b.length : Int) (j : Int)) (acc ++ unpackGo b (m + 8 * d) i) := by
   intro m
   induction m with
   | zero =>
    intro i acc hi hm ha
    refine Ev.succ ?_
    simp only [impl_unpack8.l1]
    rw [w64_add (i := (j : Int)) (by omega) (by omega)]
    refine Ev.neg (by omega) ((ih (j + 1) acc (by omega) (by omega)).to ?_)
    rw [Nat.zero_add, show 8 * (j + 1) = i by omega]
   | succ m ihm =>
    intro i acc hi hm ha
    have hd := div_u8 hbit.1 hbit.2 m
    refine Ev.succ ?_
    simp only [impl_unpack8.l1]
    rw [show (((m + 1 : Nat) : Int) - 1) = (m : Int) by omega, w64 (n := (m : Int) - 1) (by omega) (by omega), shr_u8 _ m (by omega), bits_and1 hd.1 hd.2, w64 (n := rd b (j : Int) / 2 ^ m % 2) (by omega) (by omega)]
    refine Ev.pos (by omega) (Ev.pos (by omega) (Ev.pos (by omega) ((ihm (i + 1) _ (by omega) (by omega) (by simp; omega)).to ?_)))
    rw [show m + 1 + 8 * d = (m + 8 * d) + 1 by omega]
    simp only [unpackGo]
    rw [show i / 8 = j by omega, show 7 - i % 8 = m by omega, List.append_assoc]
    rfl
  refine Ev.succ ?_
  simp only [impl_unpack8.l0]
  refine Ev.pos (by omega) (Ev.pos (by omega) (Ev.pos (by omega) ((l1 8 (8 * j) out (by omega) (by omega) ho).to ?_)))
  rw [show 8 * (d + 1) = 8 + 8 * d by omega]
theorem unpack8_ev (b : List Int) (hl : b.length ≤ 1048576) (hb : ∀ x ∈ b, 0 ≤ x ∧ x < 256) : Ev (fun k => impl_unpack8.f k b) (unpackOf b) :=
 unpack8_l0 b hl hb b.length 0 [] (by omega) rfl
theorem sample_eq (a : Int) : impl_sample.f a = some (decide (-1000000000 ≤ a ∧ a ≤ 1000000000)) := by
 unfold impl_sample.f
 by_cases h : a ≥ -1000000000 <;> simp [h]
theorem iunRice_l0 (kk : Nat) (hk : kk ≤ 30) (l : List Int) (hl : l.length ≤ 8388608) (hb : ∀ x ∈ l, x = 0 ∨ x = 1) (nn : Nat) (hn : nn ≤ 128) : ∀ (n at_ : Nat) (out : List Int) (i : Nat), i + n = nn → out.length = i → at_ ≤ l.length → Ev (fun k => impl_unRice.l0 k (kk : Int) l out (at_ : Int) (nn : Int) (i : Int)) (unR kk l n at_ out) := by
 have bit : ∀ i : Nat, i < l.length → rd l i = 0 ∨ rd l i = 1 := fun i hi => hb _ (rd_mem hi)
 intro n
 induction n with
 | zero =>
  intro at_ out i hi ho ha
  refine Ev.succ ?_
  simp only [impl_unRice.l0]
  exact Ev.neg (by omega) (Ev.some_ rfl)
 | succ n ih =>
  intro at_ out i hi ho ha
  have l2 : ∀ (b c p : Nat) (u : Int), c + b = kk → 0 ≤ u → u < 16000000 * 2 ^ c → p + b ≤ l.length → Ev (fun k => impl_unRice.l2 k (kk : Int) l out (p : Int) u (nn : Int) (i : Int) (kk : Int) (c : Int))
   (if lowVal u b (l.drop p) ≤ 2000000000 then unR kk l n (p + b) (out ++ [unzig (lowVal u b (l.drop p))]) else ([], 0, false)) := by
   intro b
   induction b with
   | zero =>
    intro c p u hc hu hub hpl
    have hcc : (2 : Int) ^ c ≤ 2 ^ 30 := by
     have : (2 : Nat) ^ c ≤ 2 ^ 30 := Nat.pow_le_pow_right (by omega) (by omega)
     exact_mod_cast this
    have hub2 : u < 16000000 * 2 ^ 30 := Int.lt_of_lt_of_le hub (Int.mul_le_mul_of_nonneg_left hcc (by omega))
    refine Ev.succ ?_
    simp only [impl_unRice.l2]
    refine Ev.neg (by omega) ?_
    rw [show lowVal u 0 (l.drop p) = u from rfl, Int.tmod_eq_emod_of_nonneg hu, Int.tdiv_eq_ediv_of_nonneg hu, w64 (n := u / 2) (by omega) (by omega), w64 (n := -(u / 2)) (by omega) (by omega), w64 (n := -(u / 2) - 1) (by omega) (by omega), w64_add (by omega) (by omega)]
    simp only [sample_eq, Option.bind_some]
    by_cases h3 : u % 2 = 1
    case neg =>
     refine Ev.neg h3 ?_
     by_cases h2 : u ≤ 2000000000
     case neg => rw [if_neg h2]; exact Ev.neg (by simp; omega) (Ev.some_ rfl)
     rw [if_pos h2]
     refine Ev.pos (by simp; omega) (Ev.pos (by omega) ?_)
     exact (ih p (out ++ [u / 2]) (i + 1) (by omega) (by simp; omega) (by omega)).to (by simp [unzig, h3])
    refine Ev.pos h3 ?_
    by_cases h2 : u ≤ 2000000000
    case neg => rw [if_neg h2]; exact Ev.neg (by simp; omega) (Ev.some_ rfl)
    rw [if_pos h2]
    refine Ev.pos (by simp; omega) (Ev.pos (by omega) ?_)
    exact (ih p (out ++ [-(u / 2) - 1]) (i + 1) (by omega) (by simp; omega) (by omega)).to (by simp [unzig, h3])
   | succ b ihb =>
    intro c p u hc hu hub hpl
    have hcc : (2 : Int) ^ c ≤ 2 ^ 30 := by
     have : (2 : Nat) ^ c ≤ 2 ^ 30 := Nat.pow_le_pow_right (by omega) (by omega)
     exact_mod_cast this
    have hub2 : u < 16000000 * 2 ^ 30 := Int.lt_of_lt_of_le hub (Int.mul_le_mul_of_nonneg_left hcc (by omega))
    have := bit p (by omega)
    refine Ev.succ ?_
    simp only [impl_unRice.l2]
    refine Ev.pos (by omega) (Ev.pos (by omega) (Ev.pos (by omega) ?_))
    rw [w64_add (by omega) (by omega), w64_add (by omega) (by omega), w64 (n := u * 2) (by omega) (by omega), w64 (by omega) (by omega)]
    have e2 : (2 : Int) ^ (c + 1) = 2 * 2 ^ c := by rw [Int.pow_succ]; omega
    rw [show u * 2 + rd l p = 2 * u + rd l p by omega]
    refine (ihb (c + 1) (p + 1) (2 * u + rd l p) (by omega) (by omega) (by rw [e2]; omega) (by omega)).to ?_
    rw [drop_rd (xs := l) (i := p) (by omega), show lowVal u (b + 1) (rd l p :: l.drop (p + 1)) = lowVal (2 * u + rd l p) b (l.drop (p + 1)) from rfl, show p + 1 + b = p + (b + 1) by omega]
  have j2 : ∀ (p q : Nat), at_ + q = p → p ≤ l.length → Ev (fun k => impl_unRice.j2 k (kk : Int) l out (p : Int) (q : Int) (nn : Int) (i : Int))
   (if l.length < p + 1 + kk then ([], 0, false) else if lowVal q kk (l.drop (p + 1)) ≤ 2000000000 then unR kk l n (p + 1 + kk) (out ++ [unzig (lowVal q kk (l.drop (p + 1)))]) else ([], 0, false)) := by
   intro p q hq hpl
   refine Ev.succ ?_
   simp only [impl_unRice.j2]
   rw [w64 (n := (l.length : Int) - p) (by omega) (by omega), w64 (n := 1 + (kk : Int)) (by omega) (by omega), w64_add (by omega) (by omega)]
   by_cases h1 : l.length < p + 1 + kk
   case pos => rw [if_pos h1]; exact Ev.pos (by omega) (Ev.some_ rfl)
   rw [if_neg h1]; exact Ev.neg (by omega) (l2 kk 0 (p + 1) q (by omega) (by omega) (by simp; omega) (by omega))
  have l1 : ∀ (d p q : Nat), p + d = l.length → at_ + q = p → Ev (fun k => impl_unRice.l1 k (kk : Int) l out (p : Int) (q : Int) (nn : Int) (i : Int))
   (if l.length < p + onesRun (l.drop p) + 1 + kk then ([], 0, false) else if lowVal ((q : Int) + onesRun (l.drop p)) kk (l.drop (p + onesRun (l.drop p) + 1)) ≤ 2000000000 then unR kk l n (p + onesRun (l.drop p) + 1 + kk) (out ++ [unzig (lowVal ((q : Int) + onesRun (l.drop p)) kk (l.drop (p + onesRun (l.drop p) + 1)))]) else ([], 0, false)) := by
   intro d
   induction d with
   | zero =>
    intro p q hpd hq
    refine Ev.succ ?_
    simp only [impl_unRice.l1]
    refine Ev.neg (by omega) ((j2 p q hq (by omega)).to ?_)
    rw [onesRun_stop (fun h => by omega)]
    simp
   | succ d ihd =>
    intro p q hpd hq
    refine Ev.succ ?_
    simp only [impl_unRice.l1]
    refine Ev.pos (by omega) (Ev.pos (by omega) ?_)
    by_cases h1 : rd l p = 1
    case neg =>
     refine Ev.neg h1 ((j2 p q hq (by omega)).to ?_)
     rw [onesRun_stop (fun _ => h1)]
     simp
    rw [w64_add (by omega) (by omega), w64_add (by omega) (by omega)]
    refine Ev.pos h1 ((ihd (p + 1) (q + 1) (by omega) (by omega)).to ?_)
    rw [onesRun_drop (by omega) h1, show p + 1 + onesRun (l.drop (p + 1)) = p + (onesRun (l.drop (p + 1)) + 1) by omega, show (((q + 1 : Nat) : Int) + onesRun (l.drop (p + 1))) = (q : Int) + ((onesRun (l.drop (p + 1)) + 1 : Nat) : Int) by omega]
  refine Ev.succ ?_
  simp only [impl_unRice.l0]
  refine Ev.pos (by omega) ((l1 (l.length - at_) at_ 0 (by omega) (by omega)).to ?_)
  simp only [unR]
  simp
theorem iunRice_ev (kk : Nat) (hk : kk ≤ 30) (l : List Int) (hl : l.length ≤ 8388608) (hb : ∀ x ∈ l, x = 0 ∨ x = 1) (n : Nat) (hn : n ≤ 128) : Ev (fun k => impl_unRice.f k (kk : Int) l (n : Int)) (unR kk l n 0 []) :=
 iunRice_l0 kk hk l hl hb n hn n 0 [] 0 (by omega) rfl (by omega)
theorem iCrc_l1 (l : List Int) (n x4 : Int) (r : Int) : ∀ (d : Nat) (j x : Int), 0 ≤ j → j + d = 8 → 0 ≤ x ∧ x < 65536 → Ev (fun k => impl_Crc16.l0 k (crcTurns d x) l n (wrap64 (x4 + 1))) r → Ev (fun k => impl_Crc16.l1 k x l n x4 j) r := by
 intro d
 induction d with
 | zero =>
  intro j x _ hj _ H
  refine Ev.succ ?_
  simp only [impl_Crc16.l1]
  exact Ev.neg (by omega) H
 | succ d ih =>
  intro j x hj0 hj hx H
  refine Ev.succ ?_
  simp only [impl_Crc16.l1]
  refine Ev.pos (by omega) ?_
  rw [w64 (n := x * 2) (by omega) (by omega), w64 (n := j + 1) (by omega) (by omega)]
  simp only [crcTurns] at H
  by_cases h : x ≥ 32768
  case neg =>
   have e : x * 2 = crcStep x := by
    rw [show crcStep x = 2 * x % 65536 from if_neg h]; omega
   refine Ev.neg (by omega) ?_
   rw [e]
   exact ih _ _ (by omega) (by omega) (crcStep_bd x) H
  have e : bits .xor .i64 (x * 2) 69665 = crcStep x := by
   rw [bits_xor (by omega) (by omega), xor17 (by omega) (by omega), Int.mul_comm x 2]
   exact (if_pos h).symm
  rw [e]
  exact Ev.pos (by omega) (ih _ _ (by omega) (by omega) (crcStep_bd x) H)
theorem iCrc_l0 (l : List Int) (hl : l.length ≤ 65536) (hb : ∀ b ∈ l, 0 ≤ b ∧ b < 256) : ∀ (d i : Nat) (x : Int), i + d = l.length → 0 ≤ x ∧ x < 65536 → Ev (fun k => impl_Crc16.l0 k x l (l.length : Int) (i : Int)) (crcGo (l.drop i) x) := by
 intro d
 induction d with
 | zero =>
  intro i x hi hx
  rw [List.drop_of_length_le (by omega)]
  refine Ev.succ ?_
  simp only [impl_Crc16.l0]
  exact Ev.neg (by omega) (Ev.some_ rfl)
 | succ d ih =>
  intro i x hi hx
  have hr := hb _ (rd_mem (xs := l) (i := i) (by omega))
  rw [drop_rd (by omega)]
  refine Ev.succ ?_
  simp only [impl_Crc16.l0, crcGo]
  refine Ev.pos (by omega) (Ev.pos (by omega) (Ev.pos (by omega) ?_))
  rw [w64 (n := rd l (i : Int)) (by omega) (by omega), w64 (n := rd l (i : Int) * 256) (by omega) (by omega), bits_xor (by omega) (by omega), Int.mul_comm _ 256]
  have b := xorI_bd (a := x) (b := 256 * rd l (i : Int)) (n := 16) (by omega) (by omega)
  refine iCrc_l1 l _ i _ 8 0 _ (by omega) (by omega) (by omega) ?_
  rw [w64 (n := (i : Int) + 1) (by omega) (by omega), show ((i : Int) + 1) = ((i + 1 : Nat) : Int) by omega]
  exact ih (i + 1) _ (by omega) (crcTurns_bd 8 _ (by omega))
theorem iCrc_ev (l : List Int) (hb : ∀ b ∈ l, 0 ≤ b ∧ b < 256) : Ev (fun k => impl_Crc16.f k l) (crcOf l) := by
 unfold impl_Crc16.f crcOf
 by_cases h : l.length > 65536
 case pos => rw [if_pos h]; exact Ev.pos (by omega) (Ev.some_ rfl)
 rw [if_neg h]; exact Ev.neg (by omega) (iCrc_l0 l (by omega) hb l.length 0 65535 (by omega) (by omega))
theorem foretold_eq (o : Int) (l : List Int) (i : Nat) (hi : i ≤ l.length) (ho : 0 ≤ o) (h : ∀ x ∈ l, -1000000000 ≤ x ∧ x ≤ 1000000000) : impl_foretold.f o (l.take i) = some (foreN o l i) := by
 have hl : (l.take i).length = i := by rw [List.length_take]; omega
 have h1 := rd_bd (l := l) (i := (i : Int) - 1) h
 have h2 := rd_bd (l := l) (i := (i : Int) - 2) h
 have h3 := rd_bd (l := l) (i := (i : Int) - 3) h
 have hm : mn o i ≤ i := by unfold mn; split <;> omega
 unfold impl_foretold.f foreN
 rw [hl]
 by_cases c1 : mn o i = 1
 ·rw [if_pos c1, if_pos c1, rd_take (by omega) (by omega)]
 rw [if_neg c1, if_neg c1]
 by_cases c2 : mn o i = 2
 ·rw [if_pos c2, if_pos c2, rd_take (by omega) (by omega), rd_take (by omega) (by omega), w64 (n := 2 * _) (by omega) (by omega), w64 (by omega) (by omega)]
 rw [if_neg c2, if_neg c2]
 by_cases c3 : mn o i = 3
 ·rw [if_pos c3, if_pos c3, rd_take (by omega) (by omega), rd_take (by omega) (by omega), rd_take (by omega) (by omega), w64 (n := rd l ((i : Int) - 1) - _) (by omega) (by omega), w64 (n := 3 * _) (by omega) (by omega), w64 (by omega) (by omega)]
 rw [if_neg c3, if_neg c3]
theorem orderOk_eq (a : Int) : impl_orderOk.f a = some (decide (0 ≤ a ∧ a ≤ 3)) := by
 unfold impl_orderOk.f
 by_cases h : a ≥ 0 <;> simp [h]
theorem within_l0 (l : List Int) (a : Int) (ha : 0 ≤ a) (ha' : a ≤ 9000000000000000000) (hl : l.length ≤ 35184372088832) : ∀ (d i : Nat), i + d = l.length → Ev (fun k => impl_within.l0 k a l (l.length : Int) (i : Int)) (allIn a (l.drop i)) := by
 intro d
 induction d with
 | zero =>
  intro i hi
  refine (Ev.round (f := fun _ => some true) (Ev.some_ rfl) (fun k => by simp only [impl_within.l0]; rw [if_neg (by omega)])).to ?_
  rw [List.drop_of_length_le (by omega)]; rfl
 | succ d ih =>
  intro i hi
  rw [drop_rd (xs := l) (i := i) (by omega)]
  by_cases h1 : rd l i < -a
  case pos =>
   refine (Ev.round (f := fun _ => some false) (Ev.some_ rfl) (fun k => ?_)).to (by simp [allIn]; intros; omega)
   simp only [impl_within.l0]
   rw [if_pos (by omega), if_pos (by omega), if_pos (by omega), w64 (n := -a) (by omega) (by omega), if_pos h1]
  by_cases h2 : rd l i > a
  case pos =>
   refine (Ev.round (f := fun _ => some false) (Ev.some_ rfl) (fun k => ?_)).to (by simp [allIn]; intros; omega)
   simp only [impl_within.l0]
   rw [if_pos (by omega), if_pos (by omega), if_pos (by omega), w64 (n := -a) (by omega) (by omega), if_neg h1, if_pos h2]
  refine (Ev.round (ih (i + 1) (by omega)) (fun k => ?_)).to ?_
  ·simp only [impl_within.l0]
   rw [if_pos (by omega), if_pos (by omega), if_pos (by omega), w64 (n := -a) (by omega) (by omega), if_neg h1, if_neg h2, w64_add (by omega) (by omega)]
   simp
  ·simp [allIn]; intros; omega
theorem within_ev (l : List Int) (a : Int) (ha : 0 ≤ a) (ha' : a ≤ 9000000000000000000) (hl : l.length ≤ 35184372088832) : Ev (fun k => impl_within.f k l a) (allIn a l) :=
 (within_l0 l a ha ha' hl l.length 0 (by omega)).to (by simp)
theorem iUnGuess_l0 (o : Int) (ho : 0 ≤ o) (left : List Int) (hl : left.length ≤ 512) (hw : ∀ x ∈ left, -10000000000 ≤ x ∧ x ≤ 10000000000) : ∀ (d i : Nat) (out : List Int), i + d = left.length → out.length = i → (∀ x ∈ out, -1000000000 ≤ x ∧ x ≤ 1000000000) → Ev (fun k => impl_UnGuess.l0 k o out left (left.length : Int) (i : Int)) (unGo o left d i out) := by
 intro d
 induction d with
 | zero =>
  intro i out hi ha hb
  refine Ev.succ ?_
  simp only [impl_UnGuess.l0]
  exact Ev.neg (by omega) (Ev.some_ rfl)
 | succ d ih =>
  intro i out hi ha hb
  have hf := foreN_bd (o := o) (l := out) (i := out.length) hb
  have hr := hw _ (rd_mem (xs := left) (i := i) (by omega))
  have hft := foretold_eq o out out.length (by omega) ho hb
  rw [List.take_length] at hft
  refine Ev.succ ?_
  simp only [impl_UnGuess.l0, hft, Option.bind_some, sample_eq]
  rw [w64_add (by omega) (by omega), w64 (n := rd left i + _) (by omega) (by omega)]
  refine Ev.pos (by omega) (Ev.pos (by omega) (Ev.pos (by omega) ?_))
  by_cases hc : -1000000000 ≤ rd left i + foreN o out out.length ∧ rd left i + foreN o out out.length ≤ 1000000000
  case neg =>
   refine Ev.neg (by simpa using hc) (Ev.some_ ?_)
   simp only [unGo]; rw [if_neg hc]
  refine Ev.pos (by simpa using hc) (Ev.pos (by omega) ((ih (i + 1) (out ++ [_]) (by omega) (by simp; omega) (fun x hx => ?_)).to ?_))
  ·rcases List.mem_append.1 hx with hx | hx
   ·exact hb x hx
   ·rw [List.mem_singleton.1 hx]; exact hc
  ·simp only [unGo]; rw [if_pos hc]
theorem iUnGuess_ev (o : Int) (left : List Int) (hl : left.length ≤ 1048576) : Ev (fun k => impl_UnGuess.f k o left) (unGuessOf o left) := by
 have bad : Ev (fun k => impl_UnGuess.j0 k o left true) ([], false) := by
  refine Ev.succ ?_
  simp only [impl_UnGuess.j0]
  exact Ev.pos trivial (Ev.some_ rfl)
 unfold impl_UnGuess.f unGuessOf
 rw [orderOk_eq]
 simp only [Option.bind_some]
 by_cases h1 : 0 ≤ o ∧ o ≤ 3
 case neg => rw [if_neg (fun h => h1 h.1)]; exact Ev.neg (by simp; omega) bad
 refine Ev.pos (by simp [h1]) ?_
 by_cases h2 : left.length ≤ 512
 case neg => rw [if_neg (fun h => h2 h.2.1)]; exact Ev.pos (by omega) bad
 refine Ev.neg (by omega) (Ev.next (within_ev left 10000000000 (by omega) (by omega) (by omega)) ?_)
 cases h3 : allIn 10000000000 left
 ·rw [if_neg (by simp)]; exact bad
 ·rw [if_pos ⟨h1, h2, rfl⟩]
  refine Ev.succ ?_
  simp only [impl_UnGuess.j0]
  exact Ev.neg (by simp) (iUnGuess_l0 o h1.1 left h2 (allIn_iff.1 h3) left.length 0 [] (by omega) rfl (by simp))
theorem iSignalOk_ev (l : List Int) (hl : l.length ≤ 1048576) : Ev (fun k => impl_SignalOk.f k l) (sigB l) := by
 unfold impl_SignalOk.f sigB
 by_cases h : l.length ≤ 512
 case neg => exact Ev.neg (by omega) (Ev.some_ (by simp [h]))
 exact Ev.pos (by omega) (Ev.next (within_ev l 1000000000 (by omega) (by omega) (by omega)) (Ev.some_ (by simp [h])))
theorem guess4_l0 (o : Int) (ho : 0 ≤ o) (l : List Int) (hl : l.length ≤ 512) (h : ∀ x ∈ l, -1000000000 ≤ x ∧ x ≤ 1000000000) : ∀ (d i : Nat) (acc : List Int), i + d = l.length → acc.length = i → Ev (fun k => impl_guess4.l0 k o l acc l (l.length : Int) (i : Int)) (acc ++ guessGo o l d i) := by
 intro d
 induction d with
 | zero =>
  intro i acc hi ha
  refine Ev.succ ?_
  simp only [impl_guess4.l0]
  exact Ev.neg (by omega) (Ev.some_ (by simp [guessGo]))
 | succ d ih =>
  intro i acc hi ha
  have hf := foreN_bd (o := o) (l := l) (i := i) h
  have hr := rd_bd (l := l) (i := (i : Int)) h
  refine Ev.succ ?_
  simp only [impl_guess4.l0, Int.toNat_natCast]
  rw [foretold_eq o l i (by omega) ho h, w64_add (by omega) (by omega)]
  simp only [Option.bind_some]
  rw [w64 (n := rd l i - _) (by omega) (by omega)]
  refine Ev.pos (by omega) (Ev.pos (by omega) (Ev.pos (by omega) (Ev.pos (by omega) (Ev.pos (by omega) ?_))))
  exact (ih (i + 1) (acc ++ [rd l i - foreN o l i]) (by omega) (by simp; omega)).to (by simp [guessGo])
theorem guess4_ev (o : Int) (ho : 0 ≤ o) (l : List Int) (hs : sigB l = true) : Ev (fun k => impl_guess4.f k o l) (guessGo o l l.length 0) :=
 (guess4_l0 o ho l (sigB_iff.1 hs).1 (sigB_iff.1 hs).2 l.length 0 [] (by omega) rfl).to (by simp)
theorem folded_eq {x : Int} (h0 : -1000000000 ≤ x) (h1 : x ≤ 1000000000) : impl_folded.f x = some (zig x) := by
 unfold impl_folded.f zig
 by_cases h : x < 0
 case neg => rw [if_neg h, if_neg h, w64 (by omega) (by omega)]
 rw [if_pos h, if_pos h, w64 (n := -2 * x) (by omega) (by omega), w64 (by omega) (by omega)]
theorem riceSize_l0 (kk : Nat) (hk : kk ≤ 30) (l : List Int) (hl : l.length ≤ 1048576) (hw : ∀ x ∈ l, -1000000000 ≤ x ∧ x ≤ 1000000000) : ∀ (d i : Nat) (s : Int), i + d = l.length → 0 ≤ s → s ≤ i * 2000000031 → Ev (fun k => impl_riceSize.l0 k (kk : Int) s l (l.length : Int) (i : Int)) (s + riceSz kk (l.drop i)) := by
 intro d
 induction d with
 | zero =>
  intro i s hi _ _
  refine (Ev.round (f := fun _ => some s) (Ev.some_ rfl) (fun k => by simp only [impl_riceSize.l0]; rw [if_neg (by omega)])).to ?_
  rw [List.drop_of_length_le (by omega)]; simp [riceSz]
 | succ d ih =>
  intro i s hi hs hs'
  have hx := hw _ (rd_mem (xs := l) (i := i) (by omega))
  have hz := zig_bd hx.1 hx.2
  have hp : (0 : Int) < 2 ^ kk := Int.pow_pos (by omega)
  have h1 : 0 ≤ zig (rd l i) / 2 ^ kk := Int.ediv_nonneg hz.1 (by omega)
  have h2 : zig (rd l i) / 2 ^ kk ≤ zig (rd l i) := Int.ediv_le_self _ hz.1
  rw [drop_rd (xs := l) (i := i) (by omega)]
  refine (Ev.round (ih (i + 1) (s + (zig (rd l i) / 2 ^ kk + 1 + kk)) (by omega) (by omega) (by omega)) (fun k => ?_)).to ?_
  ·simp only [impl_riceSize.l0]
   rw [if_pos (by omega), if_pos (by omega), if_pos (by omega), folded_eq hx.1 hx.2]
   simp only [Option.bind_some]
   rw [if_pos (by omega), shr_small (by omega), w64_add (i := (i : Int)) (by omega) (by omega), w64 (n := _ + 1) (by omega) (by omega), w64 (n := _ + (kk : Int)) (by omega) (by omega), w64 (by omega) (by omega)]
   simp
  ·simp only [riceSz]; omega
theorem riceSize_ev (kk : Nat) (hk : kk ≤ 30) (l : List Int) (hl : l.length ≤ 1048576) (hw : ∀ x ∈ l, -1000000000 ≤ x ∧ x ≤ 1000000000) : Ev (fun k => impl_riceSize.f k (kk : Int) l) (riceSz kk l) :=
 (riceSize_l0 kk hk l hl hw l.length 0 0 (by omega) (by omega) (by omega)).to (by simp)
theorem riceOk_ev (l : List Int) (hl : l.length ≤ 1048576) : Ev (fun k => impl_riceOk.f k l) (decide (l.length ≤ 128 ∧ allIn 1000000000 l = true)) := by
 unfold impl_riceOk.f
 by_cases h : l.length ≤ 128
 case neg => exact Ev.neg (by omega) (Ev.some_ (by simp [h]))
 exact Ev.pos (by omega) (Ev.next (within_ev l 1000000000 (by omega) (by omega) (by omega)) (Ev.some_ (by simp [h])))
theorem iBestRice_l0 (l : List Int) (hl : l.length ≤ 1048576) (hw : ∀ x ∈ l, -1000000000 ≤ x ∧ x ≤ 1000000000) : ∀ (d i : Nat) (b m : Int), i + d = 31 → Ev (fun k => impl_BestRice.l0 k l b m (i : Int)) (bestGo (fun k => riceSz k l) d i b m) := by
 intro d
 induction d with
 | zero =>
  intro i b m hi
  exact (Ev.round (f := fun _ => some (b, m)) (Ev.some_ rfl) (fun k => by simp only [impl_BestRice.l0]; rw [if_neg (by omega)]))
 | succ d ih =>
  intro i b m hi
  refine Ev.round (f := fun k => (impl_riceSize.f k (i : Int) l).bind fun t => if t ≤ 100000 then (if b < 0 then impl_BestRice.l0 k l (i : Int) t ((i + 1 : Nat) : Int) else (if t < m then impl_BestRice.l0 k l (i : Int) t ((i + 1 : Nat) : Int) else impl_BestRice.l0 k l b m ((i + 1 : Nat) : Int))) else impl_BestRice.l0 k l b m ((i + 1 : Nat) : Int)) ?_ (fun k => by simp only [impl_BestRice.l0]; rw [if_pos (by omega), w64_add (by omega) (by omega)]; rfl)
  refine Ev.next (riceSize_ev i (by omega) l hl hw) ?_
  simp only [bestGo]
  by_cases h1 : riceSz i l ≤ 100000
  case neg => rw [if_neg (by omega)]; exact Ev.neg h1 (ih (i + 1) _ _ (by omega))
  refine Ev.pos h1 ?_
  by_cases h2 : b < 0
  case pos => rw [if_pos ⟨h1, .inl h2⟩]; exact Ev.pos h2 (ih (i + 1) _ _ (by omega))
  refine Ev.neg h2 ?_
  by_cases h3 : riceSz i l < m
  case neg => rw [if_neg (by omega)]; exact Ev.neg h3 (ih (i + 1) _ _ (by omega))
  rw [if_pos ⟨h1, .inr h3⟩]; exact Ev.pos h3 (ih (i + 1) _ _ (by omega))
theorem iBestRice_ev (l : List Int) (hl : l.length ≤ 1048576) : Ev (fun k => impl_BestRice.f k l) (bestOf l) := by
 unfold impl_BestRice.f bestOf
 refine Ev.next (riceOk_ev l hl) ?_
 by_cases h : l.length ≤ 128 ∧ allIn 1000000000 l = true
 case neg =>
  rw [if_neg h]
  exact Ev.neg (by simp; simpa using h) (Ev.some_ rfl)
 rw [if_pos h]
 exact Ev.pos (by simp [h]) (iBestRice_l0 l hl (allIn_iff.1 h.2) 31 0 (-1) 0 (by omega))
theorem riceK_eq (a : Int) : impl_riceK.f a = some (decide (0 ≤ a ∧ a ≤ 30)) := by
 unfold impl_riceK.f
 by_cases h : a ≥ 0 <;> simp [h]
theorem iRice_l0 (kk : Nat) (hk : kk ≤ 30) (l : List Int) (hl : l.length ≤ 128) (hw : ∀ x ∈ l, -1000000000 ≤ x ∧ x ≤ 1000000000) : ∀ (d i : Nat) (acc : List Int), i + d = l.length → acc.length + riceSz kk (l.drop i) ≤ 100000 → Ev (fun k => impl_Rice.l0 k (kk : Int) acc l (l.length : Int) (i : Int)) (acc ++ riceAll kk (l.drop i), true) := by
 intro d
 induction d with
 | zero =>
  intro i acc hi _
  refine Ev.succ ?_
  simp only [impl_Rice.l0]
  refine Ev.neg (by omega) (Ev.some_ ?_)
  rw [List.drop_of_length_le (by omega)]; simp [riceAll]
 | succ d ih =>
  intro i acc hi hs
  have hx := hw _ (rd_mem (xs := l) (i := i) (by omega))
  have hz := zig_bd hx.1 hx.2
  have hp : (0 : Int) < 2 ^ kk := Int.pow_pos (by omega)
  have h1 : 0 ≤ zig (rd l i) / 2 ^ kk := Int.ediv_nonneg hz.1 (by omega)
  have h2 : zig (rd l i) / 2 ^ kk ≤ zig (rd l i) := Int.ediv_le_self _ hz.1
  have hr := riceSz_bd kk hk (l.drop (i + 1)) (fun x hx => hw x (List.mem_of_mem_drop hx))
  rw [drop_rd (xs := l) (i := i) (by omega)] at hs ⊢
  simp only [riceSz] at hs
  simp only [riceAll]
  have l2 : ∀ (b : Nat) (a : List Int), b ≤ kk → a.length + b + riceSz kk (l.drop (i + 1)) ≤ 100000 → Ev (fun k => impl_Rice.l2 k (kk : Int) a (zig (rd l i)) ((b : Int) - 1) l (l.length : Int) (i : Int)) (a ++ lowBits (zig (rd l i)) b ++ riceAll kk (l.drop (i + 1)), true) := by
   intro b
   induction b with
   | zero =>
    intro a _ ha
    refine Ev.succ ?_
    simp only [impl_Rice.l2]
    refine Ev.neg (by omega) ?_
    rw [w64_add (by omega) (by omega)]
    exact (ih (i + 1) a (by omega) (by omega)).to (by simp [lowBits])
   | succ b ihb =>
    intro a hb ha
    refine Ev.succ ?_
    simp only [impl_Rice.l2]
    rw [show (((b + 1 : Nat) : Int) - 1) = (b : Int) by omega, w64 (by omega) (by omega), shr_small (by omega)]
    have hm := bits_and_mask (zig (rd l i) / 2 ^ b) 1 (by omega)
    rw [show ((2 : Int) ^ 1 - 1) = 1 by rfl, show ((2 : Int) ^ 1) = 2 by rfl] at hm
    rw [hm]
    refine Ev.pos (by omega) (Ev.pos (by omega) (Ev.pos (by omega) ?_))
    refine (ihb (a ++ [zig (rd l i) / 2 ^ b % 2]) (by omega) (by simp; omega)).to ?_
    simp [lowBits]
  have l1 : ∀ (q j : Nat) (a : List Int), (j : Int) + q = zig (rd l i) / 2 ^ kk → a.length + q + 1 + kk + riceSz kk (l.drop (i + 1)) ≤ 100000 → Ev (fun k => impl_Rice.l1 k (kk : Int) a (zig (rd l i)) l (l.length : Int) (i : Int) (zig (rd l i) / 2 ^ kk) (j : Int)) (a ++ (List.replicate q 1 ++ 0 :: lowBits (zig (rd l i)) kk) ++ riceAll kk (l.drop (i + 1)), true) := by
   intro q
   induction q with
   | zero =>
    intro j a hj ha
    refine Ev.succ ?_
    simp only [impl_Rice.l1]
    refine Ev.neg (by omega) (Ev.pos (by omega) ?_)
    rw [w64 (by omega) (by omega)]
    refine (l2 kk (a ++ [0]) (by omega) (by simp; omega)).to ?_
    simp
   | succ q ihq =>
    intro j a hj ha
    refine Ev.succ ?_
    simp only [impl_Rice.l1]
    rw [w64_add (by omega) (by omega)]
    refine Ev.pos (by omega) (Ev.pos (by omega) ?_)
    refine (ihq (j + 1) (a ++ [1]) (by omega) (by simp; omega)).to ?_
    simp [List.replicate_succ]
  refine Ev.succ ?_
  simp only [impl_Rice.l0, folded_eq hx.1 hx.2, Option.bind_some]
  rw [shr_small (by omega)]
  refine Ev.pos (by omega) (Ev.pos (by omega) (Ev.pos (by omega) (Ev.pos (by omega) ?_)))
  refine (l1 (zig (rd l i) / 2 ^ kk).toNat 0 acc (by omega) (by omega)).to ?_
  simp only [riceOne, List.append_assoc]
theorem iRice_ev (kk : Int) (l : List Int) (hl : l.length ≤ 1048576) : Ev (fun k => impl_Rice.f k kk l) (riceOf kk l) := by
 have bad : Ev (fun k => impl_Rice.j0 k kk l true) ([], false) := by
  refine Ev.succ ?_
  simp only [impl_Rice.j0]
  exact Ev.pos trivial (Ev.some_ rfl)
 unfold impl_Rice.f riceOf
 rw [riceK_eq]
 simp only [Option.bind_some]
 by_cases hk : 0 ≤ kk ∧ kk ≤ 30
 case neg =>
  rw [if_neg (fun hh => hk hh.1)]
  exact Ev.neg (by simp; omega) bad
 obtain ⟨m, rfl⟩ := Int.eq_ofNat_of_zero_le hk.1
 rw [Int.toNat_natCast]
 refine Ev.pos (by simp [hk]) (Ev.next (riceOk_ev l hl) ?_)
 by_cases h : l.length ≤ 128 ∧ allIn 1000000000 l = true
 case neg =>
  rw [if_neg (fun hh => h hh.2.1)]
  exact Ev.neg (by simpa using h) bad
 refine Ev.pos (by simp [h]) ?_
 refine Ev.next (riceSize_ev m (by omega) l hl (allIn_iff.1 h.2)) ?_
 by_cases h2 : riceSz m l ≤ 100000
 case neg =>
  rw [if_neg (by simp; intros; omega), show decide (riceSz m l > 100000) = true by simp; omega]
  exact bad
 rw [if_pos ⟨by omega, h, by simpa using h2⟩, show decide (riceSz m l > 100000) = false by simp; omega]
 refine Ev.succ ?_
 simp only [impl_Rice.j0]
 exact Ev.neg (by simp) ((iRice_l0 m (by omega) l h.1 (allIn_iff.1 h.2) l.length 0 [] (by omega) (by simpa using h2)).to (by simp))
theorem pack8_l0 (bs : List Int) (hl : bs.length ≤ 1000000) (hb : ∀ x ∈ bs, x = 0 ∨ x = 1) : ∀ (d i : Nat) (acc : List Int), i + d = bs.length → acc.length = (bs.length + 7) / 8 → Ev (fun k => impl_pack8.l0 k acc bs (bs.length : Int) (i : Int)) (packGo bs d i acc) := by
 intro d
 induction d with
 | zero =>
  intro i acc hi _
  refine Ev.succ ?_
  simp only [impl_pack8.l0]
  exact Ev.neg (by omega) (Ev.some_ rfl)
 | succ d ih =>
  intro i acc hi ha
  have hbit := hb _ (rd_mem (xs := bs) (i := i) (by omega))
  have e1 : wrap64 (Int.tdiv (i : Int) 8) = ((i / 8 : Nat) : Int) := by rw [Int.tdiv_eq_ediv_of_nonneg (by omega), w64 (by omega) (by omega)]; omega
  have e2 : wrap64 (7 - Int.tmod (i : Int) 8) = ((7 - i % 8 : Nat) : Int) := by rw [Int.tmod_eq_emod_of_nonneg (by omega), w64 (by omega) (by omega)]; omega
  refine Ev.succ ?_
  simp only [impl_pack8.l0, packGo, e1, e2, shl_bit8 (7 - i % 8) (by omega) _ hbit]
  refine Ev.pos (by omega) (Ev.pos (by omega) (Ev.pos (by omega) (Ev.pos (by omega) (Ev.pos (by omega) (Ev.pos (by omega) ?_)))))
  rw [w64 (n := (i : Int) + 1) (by omega) (by omega), show ((i : Int) + 1) = ((i + 1 : Nat) : Int) by omega]
  exact ih (i + 1) _ (by omega) (by simpa using ha)
theorem pack8_ev (bs : List Int) (hl : bs.length ≤ 1000000) (hb : ∀ x ∈ bs, x = 0 ∨ x = 1) : Ev (fun k => impl_pack8.f k bs) (packOf bs) := by
 have e1 : wrap64 (Int.tdiv (wrap64 ((bs.length : Int) + 7)) 8) = (((bs.length + 7) / 8 : Nat) : Int) := by
  rw [w64 (n := (bs.length : Int) + 7) (by omega) (by omega), Int.tdiv_eq_ediv_of_nonneg (by omega), w64 (by omega) (by omega)]; omega
 unfold impl_pack8.f packOf
 simp only [e1, Int.toNat_natCast]
 exact Ev.pos (by omega) (Ev.pos (by omega) (pack8_l0 bs hl hb bs.length 0 _ (by omega) (by simp)))
theorem iPack_end (l : List Int) (hl : 1 ≤ l.length ∧ l.length ≤ 128) (hs : sigB l = true) (o q m : Int) (ho : -1 ≤ o ∧ o ≤ 3) (n x : Int) (hx : ¬ x < n) : Ev (fun k => impl_PackFrame.l0 k l o q m n x) (if o < 0 then ([], false) else (frameBody l o q (riceOf q (guessGo o l l.length 0)).1 ++ [crcOf (frameBody l o q (riceOf q (guessGo o l l.length 0)).1) / 256 % 256, crcOf (frameBody l o q (riceOf q (guessGo o l l.length 0)).1) % 256], true)) := by
 refine Ev.succ ?_
 simp only [impl_PackFrame.l0]
 refine Ev.neg hx ?_
 by_cases h : o < 0
 case pos => rw [if_pos h]; exact Ev.pos h (Ev.some_ rfl)
 rw [if_neg h]
 refine Ev.neg h (Ev.next (guess4_ev o (by omega) l hs) (Ev.next (iRice_ev _ _ (by rw [guessGo_len]; omega)) ?_))
 obtain ⟨bs, hbs⟩ : ∃ bs, (riceOf q (guessGo o l l.length 0)).1 = bs := ⟨_, rfl⟩
 have hlen := riceOf_len q (guessGo o l l.length 0)
 have hbit := riceOf_bit q (guessGo o l l.length 0)
 rw [hbs] at hlen hbit ⊢
 have hbb := frameBody_bd l o q bs
 have hbl := frameBody_len l o q bs
 refine Ev.next (Ev.some_ rfl) (Ev.next (pack8_ev bs (by omega) hbit) ?_)
 have hp := packOf_len bs
 refine Ev.pos (by simp only [List.length_cons, List.length_nil]; omega) (Ev.next (Ev.some_ (r := frameBody l o q bs) rfl) ?_)
 generalize frameBody l o q bs = fb at hbb hbl ⊢
 refine Ev.next (iCrc_ev fb hbb) (Ev.next (Ev.some_ rfl) ?_)
 exact Ev.pos (by simp only [List.length_cons, List.length_nil]; omega) (Ev.some_ rfl)
theorem iPack_l0 (l : List Int) (hl : 1 ≤ l.length ∧ l.length ≤ 128) (hs : sigB l = true) : ∀ (d i : Nat) (o q m : Int), i + d = min 4 l.length → -1 ≤ o ∧ o ≤ 3 → Ev (fun k => impl_PackFrame.l0 k l o q m (mn 4 (l.length : Int)) (i : Int)) (if (orderGo l d i o q m).1 < 0 then ([], false) else (frameBody l (orderGo l d i o q m).1 (orderGo l d i o q m).2.1 (riceOf (orderGo l d i o q m).2.1 (guessGo (orderGo l d i o q m).1 l l.length 0)).1 ++ [crcOf (frameBody l (orderGo l d i o q m).1 (orderGo l d i o q m).2.1 (riceOf (orderGo l d i o q m).2.1 (guessGo (orderGo l d i o q m).1 l l.length 0)).1) / 256 % 256, crcOf (frameBody l (orderGo l d i o q m).1 (orderGo l d i o q m).2.1 (riceOf (orderGo l d i o q m).2.1 (guessGo (orderGo l d i o q m).1 l l.length 0)).1) % 256], true)) := by
 have hm : mn 4 (l.length : Int) = ((min 4 l.length : Nat) : Int) := by unfold mn; split <;> omega
 rw [hm]
 intro d
 induction d with
 | zero =>
  intro i o q m hi ho
  simp only [orderGo]
  exact iPack_end l hl hs o q m ho _ _ (by omega)
 | succ d ih =>
  intro i o q m hi ho
  refine Ev.succ ?_
  simp only [impl_PackFrame.l0]
  refine Ev.pos (by omega) (Ev.next (guess4_ev (i : Int) (by omega) l hs) (Ev.next (iBestRice_ev _ (by rw [guessGo_len]; omega)) ?_))
  rw [w64 (n := (i : Int) + 1) (by omega) (by omega), show ((i : Int) + 1) = ((i + 1 : Nat) : Int) by omega]
  by_cases h1 : (bestOf (guessGo i l l.length 0)).1 ≥ 0
  case neg =>
   rw [show orderGo l (d + 1) i o q m = _ from if_neg (fun h => h1 h.1)]
   exact Ev.neg h1 (ih (i + 1) _ _ _ (by omega) ho)
  refine Ev.pos h1 ?_
  by_cases h2 : o < 0
  case pos =>
   rw [show orderGo l (d + 1) i o q m = _ from if_pos ⟨h1, .inl h2⟩]
   exact Ev.pos h2 (ih (i + 1) _ _ _ (by omega) (by omega))
  refine Ev.neg h2 ?_
  by_cases h3 : (bestOf (guessGo i l l.length 0)).2 < m
  case pos =>
   rw [show orderGo l (d + 1) i o q m = _ from if_pos ⟨h1, .inr h3⟩]
   exact Ev.pos h3 (ih (i + 1) _ _ _ (by omega) (by omega))
  rw [show orderGo l (d + 1) i o q m = _ from if_neg (fun h => h.2.elim h2 h3)]
  exact Ev.neg h3 (ih (i + 1) _ _ _ (by omega) ho)
theorem iPackFrame_ev (l : List Int) (hl : l.length ≤ 1048576) : Ev (fun k => impl_PackFrame.f k l) (frameOf l) := by
 have ft : ∀ b : Bool, b = true → Ev (fun k => impl_PackFrame.j0 k l b) ([], false) := by
  intro b hb
  refine Ev.succ ?_
  simp only [impl_PackFrame.j0]
  exact Ev.pos hb (Ev.some_ rfl)
 unfold impl_PackFrame.f frameOf
 by_cases h1 : 1 ≤ l.length ∧ l.length ≤ 128
 case neg =>
  rw [if_neg (fun h => h1 h.1)]
  exact Ev.both (fun _ => ft _ rfl) (fun _ => Ev.pos (by omega) (ft _ rfl))
 refine Ev.neg (by omega) (Ev.neg (by omega) (Ev.next (iSignalOk_ev l (by omega)) ?_))
 by_cases h2 : sigB l = true
 case neg =>
  rw [if_neg (fun h => h2 h.2)]
  exact ft _ (by simpa using h2)
 rw [if_pos ⟨h1, h2⟩]
 refine Ev.succ ?_
 simp only [impl_PackFrame.j0]
 exact Ev.neg (by rw [h2]; decide) (iPack_l0 l h1 h2 (min 4 l.length) 0 (-1) 0 0 (by omega) (by omega))
theorem sliceEq_l0 (a b : List Int) (h : a.length = b.length) (hl : a.length ≤ 35184372088832) : ∀ (d i : Nat), i + d = a.length → Ev (fun k => slices_Equal_byte_byte.l0 k a b (a.length : Int) (i : Int)) (decide (a.drop i = b.drop i)) := by
 intro d
 induction d with
 | zero =>
  intro i hi
  refine Ev.round (f := fun _ => some true) (Ev.some_ ?_) (fun k => by simp only [slices_Equal_byte_byte.l0]; rw [if_neg (by omega)])
  rw [List.drop_of_length_le (by omega), List.drop_of_length_le (by omega)]; simp
 | succ d ih =>
  intro i hi
  by_cases he : rd a i = rd b i
  case neg =>
   refine (Ev.round (f := fun _ => some false) (Ev.some_ rfl) (fun k => ?_)).to ?_
   ·simp only [slices_Equal_byte_byte.l0]
    rw [if_pos (by omega), if_pos (by omega), if_pos (by omega), if_pos (by omega), if_neg he]
   ·rw [drop_rd (xs := a) (i := i) (by omega), drop_rd (xs := b) (i := i) (by omega)]; simp [he]
  refine (Ev.round (ih (i + 1) (by omega)) (fun k => ?_)).to ?_
  ·simp only [slices_Equal_byte_byte.l0]
   rw [if_pos (by omega), if_pos (by omega), if_pos (by omega), if_pos (by omega), if_pos he, w64_add (by omega) (by omega)]; simp
  ·rw [drop_rd (xs := a) (i := i) (by omega), drop_rd (xs := b) (i := i) (by omega), he]; simp
theorem sliceEq_ev (a b : List Int) (hl : a.length ≤ 35184372088832) : Ev (fun k => slices_Equal_byte_byte.f k a b) (decide (a = b)) := by
 unfold slices_Equal_byte_byte.f
 by_cases h : a.length = b.length
 case pos => exact Ev.pos (by omega) (sliceEq_l0 a b h hl a.length 0 (by omega))
 exact (Ev.neg (by omega) (Ev.some_ rfl)).to (by simp; intro e; exact h (by rw [e]))
theorem iOpen_j1 (b : List Int) (hl : b.length ≤ 1048576) (hb : ∀ x ∈ b, 0 ≤ x ∧ x < 256) (a : Nat) (ha : a + 3 ≤ b.length) (n : Nat) (hn : n ≤ 128) (o : Int) (q : Nat) (hq : q ≤ 30) : Ev (fun k => impl_OpenFrame.j1 k b (a : Int) (n : Int) o (q : Int) false) (openBits b a o (unR q (unpackOf (b.drop (a + 3))) n 0 [])) := by
 have hu := unR_used q (unpackOf (b.drop (a + 3))) n 0 [] (by omega)
 have hlen := unR_len q (unpackOf (b.drop (a + 3))) n 0 []
 refine Ev.succ ?_
 simp only [impl_OpenFrame.j1]
 rw [wadd3 (e := a) (by omega)]
 refine Ev.neg (by decide) (Ev.pos (by omega) (Ev.pos (by omega) ?_))
 rw [Int.toNat_natCast]
 refine Ev.next (unpack8_ev (b.drop (a + 3)) (by rw [List.length_drop]; omega) (fun x hx => hb x (List.mem_of_mem_drop hx))) ?_
 refine Ev.next (iunRice_ev q hq _ (by rw [unpackOf_len, List.length_drop]; omega) (unpackOf_bit _) n hn) ?_
 rw [unpackOf_len, List.length_drop] at hu
 generalize unR q (unpackOf (b.drop (a + 3))) n 0 [] = r at hu hlen ⊢
 obtain ⟨left, used, ok⟩ := r
 simp only at hu hlen ⊢
 unfold openBits
 simp only
 cases ok with
 | false => exact Ev.neg (by decide) ((Ev.some_ rfl).to (if_neg (by decide)).symm)
 | true =>
  obtain ⟨u, rfl, hu2⟩ := hu rfl
  rw [if_pos rfl]
  simp only [Int.toNat_natCast]
  have he : a + 3 ≤ a + 3 + (u + 7) / 8 ∧ a + 3 + (u + 7) / 8 ≤ b.length := by omega
  rw [wround8 (e := a + 3) (u := u) (by omega) (by omega)]
  clear hu
  generalize a + 3 + (u + 7) / 8 = e at he ⊢
  rw [w64 (n := (b.length : Int) - (e : Int)) (by omega) (by omega), wadd1 (e := e) (by omega), wadd2 (e := e) (by omega)]
  refine Ev.pos trivial ?_
  by_cases h1 : b.length < e + 2
  case pos => rw [if_pos h1]; exact Ev.pos (by omega) (Ev.some_ rfl)
  rw [if_neg h1]
  have hc := iCrc_ev ((b.take e).drop a) (fun x hx => hb x (List.mem_of_mem_take (List.mem_of_mem_drop hx)))
  have r0 := hb _ (rd_mem (xs := b) (i := e) (by omega))
  have r1 := hb _ (rd_mem (xs := b) (i := e + 1) (by omega))
  refine Ev.neg (by omega) (Ev.pos (by omega) (Ev.pos (by omega) (Ev.pos (by omega) (Ev.next hc (Ev.pos (by omega) (Ev.pos (by omega) (Ev.pos (by omega) (Ev.pos (by omega) ?_))))))))
  rw [w64 (n := rd b (e : Int)) (by omega) (by omega), w64 (n := rd b (e : Int) * 256) (by omega) (by omega), w64 (n := rd b ((e + 1 : Nat) : Int)) (by omega) (by omega), bits_or256 r0 r1]
  by_cases h2 : crcOf ((b.take e).drop a) = 256 * rd b (e : Int) + rd b ((e + 1 : Nat) : Int)
  case neg => rw [if_neg h2]; exact Ev.neg h2 (Ev.some_ rfl)
  rw [if_pos h2]
  refine Ev.pos h2 (Ev.next (iUnGuess_ev o left (by simp only [List.length_nil] at hlen; omega)) ?_)
  have hul : (unGuessOf o left).1.length ≤ 1048576 := by
   unfold unGuessOf
   split
   ·have := unGo_len o left left.length 0 []
    simp only [List.length_nil] at this hlen
    omega
   ·simp
  unfold openForm
  by_cases h3 : (unGuessOf o left).2 = true
  case neg => rw [if_neg (fun h => h3 h.1)]; exact Ev.neg h3 (Ev.some_ rfl)
  refine Ev.pos h3 (Ev.next (iPackFrame_ev _ hul) ?_)
  by_cases h4 : (frameOf (unGuessOf o left).1).2 = true
  case neg => rw [if_neg (fun h => h4 h.2.1)]; exact Ev.neg h4 (Ev.some_ rfl)
  have hfl := frameOf_len (unGuessOf o left).1
  refine Ev.pos h4 (Ev.pos (by omega) (Ev.pos (by omega) (Ev.next (sliceEq_ev _ _ (by omega)) ?_)))
  by_cases h5 : (frameOf (unGuessOf o left).1).1 = (b.take (e + 2)).drop a
  case pos => exact (Ev.pos (decide_eq_true h5) (Ev.some_ rfl)).to (if_pos ⟨h3, h4, h5⟩).symm
  exact (Ev.neg (fun h => h5 (of_decide_eq_true h)) (Ev.some_ rfl)).to (if_neg (fun h => h5 h.2.2)).symm
theorem iOpenFrame_ev (b : List Int) (hl : b.length ≤ 1048576) (hb : ∀ x ∈ b, 0 ≤ x ∧ x < 256) (x : Int) : Ev (fun k => impl_OpenFrame.f k b x) (openOf b x) := by
 have ft : ∀ y, Ev (fun k => impl_OpenFrame.j0 k b y true) ([], y, 1) := by
  intro y
  refine Ev.succ ?_
  simp only [impl_OpenFrame.j0]
  exact Ev.pos trivial (Ev.some_ rfl)
 unfold impl_OpenFrame.f openOf
 by_cases h0 : x < 0
 case pos => rw [if_neg (by omega)]; exact Ev.pos h0 (ft x)
 refine Ev.neg h0 ?_
 by_cases h1 : x > (b.length : Int)
 case pos => rw [if_neg (by omega)]; exact Ev.pos h1 (ft x)
 refine Ev.neg h1 ?_
 rw [w64 (n := (b.length : Int) - x) (by omega) (by omega)]
 by_cases h2 : (b.length : Int) - x < 3
 case pos => rw [if_neg (by omega), decide_eq_true h2]; exact ft x
 rw [if_pos (by omega), decide_eq_false h2]
 obtain ⟨a, rfl⟩ := Int.eq_ofNat_of_zero_le (show 0 ≤ x by omega)
 rw [Int.toNat_natCast]
 have r1 := hb _ (rd_mem (xs := b) (i := a + 1) (by omega))
 have r2 := hb _ (rd_mem (xs := b) (i := a + 2) (by omega))
 have bad : ∀ (n o q : Int), Ev (fun k => impl_OpenFrame.j1 k b (a : Int) n o q true) ([], (a : Int), 2) := by
  intro n o q
  refine Ev.succ ?_
  simp only [impl_OpenFrame.j1]
  exact Ev.pos trivial (Ev.some_ rfl)
 refine Ev.succ ?_
 simp only [impl_OpenFrame.j0]
 rw [wadd1 (e := a) (by omega), wadd2 (e := a) (by omega)]
 refine Ev.neg (by decide) (Ev.pos (by omega) (Ev.pos (by omega) (Ev.pos (by omega) (Ev.pos (by omega) (Ev.pos (by omega) (Ev.pos (by omega) ?_))))))
 rw [w64 (n := rd b ((a + 1 : Nat) : Int)) (by omega) (by omega), w64 (n := rd b ((a + 1 : Nat) : Int) + 1) (by omega) (by omega), Int.tdiv_eq_ediv_of_nonneg r2.1, Int.tmod_eq_emod_of_nonneg r2.1, w64 (n := rd b ((a + 2 : Nat) : Int) % 32) (by omega) (by omega), show rd b ((a + 2 : Nat) : Int) / 32 % 256 = rd b ((a + 2 : Nat) : Int) / 32 by omega]
 unfold openAt
 by_cases c1 : rd b (a : Int) = 70
 case neg => rw [if_neg (fun h => c1 h.1)]; exact Ev.neg c1 (bad _ _ _)
 refine Ev.pos c1 ?_
 by_cases c2 : rd b ((a + 1 : Nat) : Int) + 1 > 128
 case pos => rw [if_neg (by omega)]; exact Ev.pos c2 (bad _ _ _)
 refine Ev.neg c2 ?_
 by_cases c3 : rd b ((a + 2 : Nat) : Int) / 32 > 3
 case pos => rw [if_neg (by omega)]; exact Ev.pos c3 (bad _ _ _)
 refine Ev.neg c3 ?_
 by_cases c4 : rd b ((a + 2 : Nat) : Int) % 32 > 30
 case pos => rw [if_neg (by omega), decide_eq_true c4]; exact bad _ _ _
 rw [if_pos ⟨c1, by omega, by omega, by omega⟩, decide_eq_false c4]
 obtain ⟨n, hn⟩ := Int.eq_ofNat_of_zero_le (show 0 ≤ rd b ((a + 1 : Nat) : Int) + 1 by omega)
 obtain ⟨q, hq⟩ := Int.eq_ofNat_of_zero_le (show 0 ≤ rd b ((a + 2 : Nat) : Int) % 32 by omega)
 rw [hn, hq, Int.toNat_natCast, Int.toNat_natCast]
 exact iOpen_j1 b hl hb a (by omega) n (by omega) _ q (by omega)
theorem iMend_l0 (b : List Int) (hl : b.length ≤ 20000) (hb : ∀ x ∈ b, 0 ≤ x ∧ x < 256) : ∀ (d a f : Nat) (out : List Int) (lost : Nat), b.length ≤ a + d → f ≤ 60 → out.length ≤ 512 * f → lost ≤ a → a ≤ b.length → Ev (fun k => impl_Mend.l0 k b out (lost : Int) (f : Int) (a : Int)) (mendGo b d a f out (lost : Int)) := by
 intro d
 induction d with
 | zero =>
  intro a f out lost h1 h2 h3 h4 h5
  refine Ev.succ ?_
  simp only [impl_Mend.l0]
  exact Ev.neg (by omega) (Ev.some_ rfl)
 | succ d ih =>
  intro a f out lost h1 h2 h3 h4 h5
  by_cases h6 : a < b.length
  case neg =>
   refine Ev.succ ?_
   simp only [impl_Mend.l0, mendGo]
   exact (Ev.neg (by omega) (Ev.some_ rfl)).to (if_neg h6).symm
  have ho := openOf_len b (a : Int)
  by_cases h10 : f < 60
  case neg =>
   rw [mendGo_end2 b f out (by omega) (d + 1) a (lost : Int) (by omega) (by omega)]
   refine Ev.succ ?_
   simp only [impl_Mend.l0]
   rw [w64 (n := (b.length : Int) - (a : Int)) (by omega) (by omega), w64 (n := (lost : Int) + ((b.length : Int) - (a : Int))) (by omega) (by omega)]
   exact Ev.pos (by omega) (Ev.pos (by omega) (Ev.some_ rfl))
  refine Ev.succ ?_
  simp only [impl_Mend.l0, mendGo]
  rw [wadd1 (e := lost) (by omega), wadd1 (e := f) (by omega), wadd1 (e := a) (by omega)]
  refine (Ev.pos (by omega) (Ev.neg (by omega) (Ev.next (iOpenFrame_ev b (by omega) hb (a : Int)) ?_))).to (if_pos h6).symm
  have hno := ih (a + 1) f out (lost + 1) (by omega) h2 h3 (by omega) (by omega)
  rw [show ((lost + 1 : Nat) : Int) = (lost : Int) + 1 by omega] at hno ⊢
  by_cases h7 : (openOf b (a : Int)).2.2 = 0
  case neg => exact (Ev.neg h7 hno).to (if_neg (fun h => h7 h.1)).symm
  obtain ⟨e, he, h8, h9⟩ := openOf_next h7
  refine (Ev.pos h7 (Ev.pos (by omega) ?_)).to (if_pos ⟨h7, h10⟩).symm
  rw [he, Int.toNat_natCast]
  exact ih e (f + 1) _ lost (by omega) (by omega) (by rw [List.length_append]; omega) (by omega) h9
theorem iMend_ev (b : List Int) (hb : ∀ x ∈ b, 0 ≤ x ∧ x < 256) : Ev (fun k => impl_Mend.f k b) (mendOf b) := by
 unfold impl_Mend.f mendOf
 exact Ev.cond (fun _ => Ev.some_ rfl) (fun h => iMend_l0 b (by omega) hb b.length 0 0 [] 0 (by omega) (by omega) (by simp) (by omega) (by omega))
theorem FnExactMend (l : List Int) (m1 : l.length ≤ maxLen) (w1 : ∀ x ∈ l, (Lit.int .u8 x).wf = true) : ∃ k, laws_FnExactMend.f k l = some true := by
 refine Ev.rounds ?_
 unfold laws_FnExactMend.f
 by_cases hl : (l.length : Int) > 1048576
 ·exact Ev.pos hl (Ev.some_ rfl)
 have hb : ∀ x ∈ l, 0 ≤ x ∧ x < 256 := fun x hx => wf8 (w1 x hx)
 have hg := mendOf_len l
 have ti := toByteS_ev l (by omega)
 have si := sMend_ev l hb
 have ii := iMend_ev l hb
 have ee := eqIntS_ev (mendOf l).1 (mendOf l).1 (by omega)
 refine Ev.neg hl (Ev.next ti (Ev.next si (Ev.next ti (Ev.next ii (Ev.next ee (Ev.pos (by simp) ?_))))))
 refine Ev.succ ?_
 simp only [laws_FnExactMend.j0]
 refine Ev.neg (by simp) (Ev.next ti (Ev.next (eqByteS_ev l l (by omega)) (Ev.pos (by simp) (Ev.next (markByteS_ev l 1 (by omega) (by omega) (by omega)) (Ev.neg (by simp only; omega) (Ev.next ee (Ev.pos (by simp) ?_)))))))
 refine Ev.succ ?_
 simp only [laws_FnExactMend.j1]
 have hh := heldIntS_ev (mendOf l).1.length 1 (by omega) (by omega) (by omega)
 refine Ev.neg (by simp) (Ev.next (markIntS_ev (mendOf l).1 1 (by omega) (by omega) (by omega)) (Ev.next hh (Ev.neg (by omega) (Ev.pos rfl (Ev.next ti (Ev.next ii (Ev.next ee (Ev.pos (by simp) ?_))))))))
 refine Ev.succ ?_
 simp only [laws_FnExactMend.j2]
 exact Ev.neg (by simp) (Ev.next hh (Ev.neg (by omega) (Ev.pos rfl (Ev.some_ rfl))))
end Go.Proofs.Ytmikakdcggehcaa.Pure
