import Derived.Test.YtnmglbdhnegebaaPFnExactRicex4
import Derived.Test.YtnmglbdhnegebaaAid
set_option linter.unusedVariables false
set_option linter.unusedSimpArgs false
namespace Go.Proofs.Ytnmglbdhnegebaa.Pure
open Go Go.RowKit Go.Proofs.Ytnmglbdhnegebaa.PFnExactRice Go.Proofs.YtnmglbdhnegebaaW.PrintWords Go.Proofs.YtnmglbdhnegebaaW.PrintLast Go.Proofs.YtnmglbdhnegebaaW.PrintMore
theorem toIntS_l0 (l : List Int) (hl : l.length ≤ 35184372088832) : ∀ (d i : Nat) (acc : List Int), i + d = l.length → acc.length = l.length → acc.take i = l.take i → Ev (fun k => laws_toIntS.l0 k l acc (i : Int)) l := by
  intro d
  induction d with
  | zero =>
    intro i acc h h1 h2
    refine Ev.round (f := fun _ => some acc) (Ev.some_ ?_) (fun k => by simp only [laws_toIntS.l0]; rw [if_neg (by omega)])
    rw [List.take_of_length_le (by omega), List.take_of_length_le (by omega)] at h2
    exact h2
  | succ d ih =>
    intro i acc h h1 h2
    have hi : i < l.length := by omega
    refine Ev.round (ih (i + 1) (acc.set i (rd l i)) (by omega) (by simp [h1]) ?_) (fun k => ?_)
    · rw [take_rd hi, ← h2]; exact take_set_end (by omega) _
    · simp only [laws_toIntS.l0]
      rw [if_pos (by omega), if_pos (by omega), if_pos (by omega), w64_add (by omega) (by omega)]
      simp
theorem toIntS_ev (l : List Int) (hl : l.length ≤ 35184372088832) : Ev (fun k => laws_toIntS.f k l) l := by
  unfold laws_toIntS.f
  refine Ev.pos (by omega) (Ev.pos (by omega) ?_)
  exact toIntS_l0 l hl l.length 0 _ (by omega) (by simp) (by simp)
theorem eqIntS_l0 (a b : List Int) (h : a.length = b.length) (hl : a.length ≤ 35184372088832) : ∀ (d i : Nat), i + d = a.length → Ev (fun k => laws_eqIntS.l0 k a b (i : Int)) (decide (a.drop i = b.drop i)) := by
  intro d
  induction d with
  | zero =>
    intro i hi
    refine Ev.round (f := fun _ => some true) (Ev.some_ ?_) (fun k => by simp only [laws_eqIntS.l0]; rw [if_neg (by omega)])
    rw [List.drop_of_length_le (by omega), List.drop_of_length_le (by omega)]; simp
  | succ d ih =>
    intro i hi
    by_cases he : rd a i = rd b i
    · refine (Ev.round (ih (i + 1) (by omega)) (fun k => ?_)).to ?_
      · simp only [laws_eqIntS.l0]
        rw [if_pos (by omega), if_pos (by omega), if_pos (by omega), if_pos he, w64_add (by omega) (by omega)]; simp
      · rw [drop_rd (xs := a) (i := i) (by omega), drop_rd (xs := b) (i := i) (by omega), he]; simp
    · refine (Ev.round (f := fun _ => some false) (Ev.some_ rfl) (fun k => ?_)).to ?_
      · simp only [laws_eqIntS.l0]
        rw [if_pos (by omega), if_pos (by omega), if_pos (by omega), if_neg he]
      · rw [drop_rd (xs := a) (i := i) (by omega), drop_rd (xs := b) (i := i) (by omega)]; simp [he]
theorem eqIntS_ev (a b : List Int) (hl : a.length ≤ 35184372088832) : Ev (fun k => laws_eqIntS.f k a b) (decide (a = b)) := by
  unfold laws_eqIntS.f
  by_cases h : a.length = b.length
  · exact Ev.pos (by omega) (eqIntS_l0 a b h hl a.length 0 (by omega))
  · exact (Ev.neg (by omega) (Ev.some_ rfl)).to (by simp; intro e; exact h (by rw [e]))
def iota (a : Int) : Nat → List Int
  | 0 => []
  | n + 1 => a :: iota (a + 1) n
theorem iota_length : ∀ (n : Nat) (a : Int), (iota a n).length = n
  | 0, _ => rfl
  | n + 1, a => by simp [iota, iota_length n]
theorem markIntS_l0 (m : Nat) (hm : m ≤ 1048576) : ∀ (d i : Nat) (l : List Int) (a : Int), i + d = l.length → l.length ≤ 1048576 → 0 ≤ a → a ≤ 1000000000 + i → Ev (fun k => laws_markIntS.l0 k l a (i : Int)) (a + d, l.take i ++ iota a d) := by
  intro d
  induction d with
  | zero =>
    intro i l a hi hl h0 h1
    refine Ev.succ ?_
    simp only [laws_markIntS.l0]
    refine Ev.neg (by omega) (Ev.some_ ?_)
    rw [List.take_of_length_le (by omega)]; simp [iota]
  | succ d ih =>
    intro i l a hi hl h0 h1
    refine Ev.succ ?_
    simp only [laws_markIntS.l0]
    refine Ev.pos (by omega) (Ev.pos (by omega) ?_)
    rw [w64_add (by omega) (by omega), w64_add (by omega) (by omega)]
    refine (ih (i + 1) (l.set i a) (a + 1) (by simp; omega) (by simpa using hl) (by omega) (by omega)).to ?_
    rw [take_set_end (by omega)]
    simp only [iota, List.append_assoc, List.cons_append, List.nil_append, Prod.mk.injEq, and_true]
    omega
theorem markIntS_ev (l : List Int) (a : Int) (hl : l.length ≤ 1048576) (h0 : 0 ≤ a) (h1 : a ≤ 1000000000) : Ev (fun k => laws_markIntS.f k l a) (a + l.length, iota a l.length) := by
  unfold laws_markIntS.f
  exact (markIntS_l0 l.length hl l.length 0 l a (by omega) hl h0 (by omega)).to (by simp)
theorem heldIntS_l0 (p : List Int) : ∀ (d : Nat) (a : Int) (l : List Int), l = p ++ iota a d → l.length ≤ 1048576 → ∀ i : Nat, i = p.length → 0 ≤ a → a ≤ 1000000000 + i → Ev (fun k => laws_heldIntS.l0 k l a (i : Int)) (a + d) := by
  intro d
  induction d generalizing p with
  | zero =>
    intro a l hl hn i hi h0 h1
    refine Ev.succ ?_
    simp only [laws_heldIntS.l0]
    have : l.length = p.length := by rw [hl]; simp [iota]
    exact Ev.neg (by omega) (Ev.some_ (by omega))
  | succ d ih =>
    intro a l hl hn i hi h0 h1
    have e : l.length = p.length + (d + 1) := by rw [hl]; simp [iota, iota_length]
    refine Ev.succ ?_
    simp only [laws_heldIntS.l0]
    refine Ev.pos (by omega) (Ev.pos (by omega) (Ev.pos ?_ ?_))
    · rw [rd_get l i (by omega)]
      subst hl
      rw [List.getElem_append_right (by omega)]
      simp [iota, hi]
    · rw [w64_add (by omega) (by omega), w64_add (by omega) (by omega)]
      exact (ih (p ++ [a]) (a + 1) l (by rw [hl]; simp [iota]) hn (i + 1) (by simp [hi]) (by omega) (by omega)).to (by omega)
theorem heldIntS_ev (n : Nat) (a : Int) (hn : n ≤ 1048576) (h0 : 0 ≤ a) (h1 : a ≤ 1000000000) : Ev (fun k => laws_heldIntS.f k (iota a n) a) (a + n) :=
  heldIntS_l0 [] n a (iota a n) (by simp) (by rw [iota_length]; exact hn) 0 rfl h0 (by omega)
def zig (x : Int) : Int := if x < 0 then -2 * x - 1 else 2 * x
theorem zig_bd {x : Int} (h0 : -1000000000 ≤ x) (h1 : x ≤ 1000000000) : 0 ≤ zig x ∧ zig x ≤ 2000000000 := by unfold zig; split <;> omega
def riceSz (k : Nat) : List Int → Int
  | [] => 0
  | x :: l => riceSz k l + (zig x / 2 ^ k + 1 + k)
theorem riceSz_bd (k : Nat) (hk : k ≤ 30) : ∀ (l : List Int), (∀ x ∈ l, -1000000000 ≤ x ∧ x ≤ 1000000000) → 0 ≤ riceSz k l ∧ riceSz k l ≤ l.length * 2000000031
  | [], _ => by simp [riceSz]
  | x :: l, h => by
    have ih := riceSz_bd k hk l (fun y hy => h y (by simp [hy]))
    have hx := h x (by simp)
    have hz := zig_bd hx.1 hx.2
    have hp : (0 : Int) < 2 ^ k := Int.pow_pos (by omega)
    have h1 : 0 ≤ zig x / 2 ^ k := Int.ediv_nonneg hz.1 (by omega)
    have h2 : zig x / 2 ^ k ≤ zig x := Int.ediv_le_self _ hz.1
    simp only [riceSz, List.length_cons]
    omega
theorem shr_small {x : Int} {k : Nat} (hk : k ≤ 62) : shr .i64 x (k : Int) = x / 2 ^ k := by
  unfold shr
  rw [show min ((k : Int).toNat) IntKind.i64.bits = k by simp [IntKind.bits]; omega]
def allIn (a : Int) (l : List Int) : Bool := l.all fun x => decide (-a ≤ x) && decide (x ≤ a)
theorem allIn_iff {a : Int} {l : List Int} : allIn a l = true ↔ ∀ x ∈ l, -a ≤ x ∧ x ≤ a := by
  unfold allIn; simp [List.all_eq_true]
/-- The k lowest bits of u, the highest first. -/
def lowBits (u : Int) : Nat → List Int
  | 0 => []
  | k + 1 => (u / 2 ^ k % 2) :: lowBits u k
theorem lowBits_length (u : Int) : ∀ k, (lowBits u k).length = k
  | 0 => rfl
  | k + 1 => by simp [lowBits, lowBits_length u k]
def riceOne (k : Nat) (x : Int) : List Int := List.replicate (zig x / 2 ^ k).toNat 1 ++ 0 :: lowBits (zig x) k
def riceAll (k : Nat) : List Int → List Int
  | [] => []
  | x :: l => riceOne k x ++ riceAll k l
theorem riceOne_length (k : Nat) (x : Int) (hx : -1000000000 ≤ x ∧ x ≤ 1000000000) : ((riceOne k x).length : Int) = zig x / 2 ^ k + 1 + k := by
  have hz := zig_bd hx.1 hx.2
  have hp : (0 : Int) < 2 ^ k := Int.pow_pos (by omega)
  have h1 : 0 ≤ zig x / 2 ^ k := Int.ediv_nonneg hz.1 (by omega)
  simp only [riceOne, List.length_append, List.length_replicate, List.length_cons, lowBits_length]
  omega
theorem riceAll_length (k : Nat) : ∀ (l : List Int), (∀ x ∈ l, -1000000000 ≤ x ∧ x ≤ 1000000000) → ((riceAll k l).length : Int) = riceSz k l
  | [], _ => by simp [riceAll, riceSz]
  | x :: l, h => by
    have ih := riceAll_length k l (fun y hy => h y (by simp [hy]))
    have hx := riceOne_length k x (h x (by simp))
    simp only [riceAll, riceSz, List.length_append]
    omega
def riceOf (k : Int) (l : List Int) : List Int × Bool :=
  if (0 ≤ k ∧ k ≤ 30) ∧ (l.length ≤ 128 ∧ allIn 1000000000 l = true) ∧ riceSz k.toNat l ≤ 100000 then (riceAll k.toNat l, true) else ([], false)
theorem snoc_ones (acc : List Int) (n : Nat) : (acc ++ [1]) ++ List.replicate n 1 = acc ++ List.replicate (n + 1) 1 := by
  rw [List.append_assoc]; rfl
theorem l1In_eq (a b c : Int) : spec_l1In.f a b c = some (decide (b ≤ a) && decide (a ≤ c)) := by
  unfold spec_l1In.f
  by_cases h : a ≥ b
  · rw [if_pos h]; simp [show b ≤ a from h]
  · rw [if_neg h]; simp [show ¬ b ≤ a from h]
theorem l9Wide_l0 (l : List Int) (a : Int) (ha : 0 ≤ a) (ha' : a ≤ 9000000000000000000) (hl : l.length ≤ 35184372088832) : ∀ (d i : Nat), i + d = l.length → Ev (fun k => spec_l9Wide.l0 k l a (i : Int)) (allIn a (l.drop i)) := by
  intro d
  induction d with
  | zero =>
    intro i hi
    refine (Ev.round (f := fun _ => some true) (Ev.some_ rfl) (fun k => by simp only [spec_l9Wide.l0]; rw [if_neg (by omega)])).to ?_
    rw [List.drop_of_length_le (by omega)]; rfl
  | succ d ih =>
    intro i hi
    rw [drop_rd (xs := l) (i := i) (by omega)]
    by_cases h1 : -a ≤ rd l i ∧ rd l i ≤ a
    · refine (Ev.round (ih (i + 1) (by omega)) (fun k => ?_)).to ?_
      · simp only [spec_l9Wide.l0, l1In_eq, Option.bind_some]
        rw [if_pos (by omega), if_pos (by omega), w64 (n := -a) (by omega) (by omega), if_pos (by simp; omega), w64_add (by omega) (by omega)]
        simp
      · simp [allIn]; intros; omega
    · refine (Ev.round (f := fun _ => some false) (Ev.some_ rfl) (fun k => ?_)).to (by simp [allIn]; intros; omega)
      simp only [spec_l9Wide.l0, l1In_eq, Option.bind_some]
      rw [if_pos (by omega), if_pos (by omega), w64 (n := -a) (by omega) (by omega), if_neg (by simp; omega)]
theorem l9Wide_ev (l : List Int) (a : Int) (ha : 0 ≤ a) (ha' : a ≤ 9000000000000000000) (hl : l.length ≤ 35184372088832) : Ev (fun k => spec_l9Wide.f k l a) (allIn a l) :=
  (l9Wide_l0 l a ha ha' hl l.length 0 (by omega)).to (by simp)
theorem l17Zig_eq {x : Int} (h0 : -1000000000 ≤ x) (h1 : x ≤ 1000000000) : spec_l17Zig.f x = some (zig x) := by
  unfold spec_l17Zig.f zig
  by_cases h : x < 0
  · rw [if_pos h, if_pos h, w64 (n := -2 * x) (by omega) (by omega), w64 (by omega) (by omega)]
  · rw [if_neg h, if_neg h, w64 (by omega) (by omega)]
theorem l17Many_l0 (kk : Nat) (hk : kk ≤ 30) (l : List Int) (hl : l.length ≤ 1048576) (hw : ∀ x ∈ l, -1000000000 ≤ x ∧ x ≤ 1000000000) : ∀ (d i : Nat) (s : Int), i + d = l.length → 0 ≤ s → s ≤ i * 2000000031 → Ev (fun k => spec_l17Many.l0 k (kk : Int) l s (i : Int)) (s + riceSz kk (l.drop i), decide (s + riceSz kk (l.drop i) ≤ 100000)) := by
  intro d
  induction d with
  | zero =>
    intro i s hi _ _
    refine (Ev.round (f := fun _ => some (s, decide (s ≤ 100000))) (Ev.some_ rfl) (fun k => by simp only [spec_l17Many.l0]; rw [if_neg (by omega)])).to ?_
    rw [List.drop_of_length_le (by omega)]; simp [riceSz]
  | succ d ih =>
    intro i s hi hs hs'
    have hx := hw _ (rd_mem (xs := l) (i := i) (by omega))
    have hz := zig_bd hx.1 hx.2
    have hp : (0 : Int) < 2 ^ kk := Int.pow_pos (by omega)
    have h1 : 0 ≤ zig (rd l i) / 2 ^ kk := Int.ediv_nonneg hz.1 (by omega)
    have h2 : zig (rd l i) / 2 ^ kk ≤ zig (rd l i) := Int.ediv_le_self _ hz.1
    rw [drop_rd (xs := l) (i := i) (by omega)]
    refine (Ev.round (ih (i + 1) (s + (zig (rd l i) / 2 ^ kk + 1 + kk)) (by omega) (by omega) (by omega)) (fun k => ?_)).to ?_
    · simp only [spec_l17Many.l0]
      rw [if_pos (by omega), if_pos (by omega), l17Zig_eq hx.1 hx.2]
      simp only [Option.bind_some]
      rw [wu64 (by omega) (by omega), if_pos (by omega), shr_small (by omega), w64_add (i := (i : Int)) (by omega) (by omega), w64 (n := s + _) (by omega) (by omega), w64 (n := _ + 1) (by omega) (by omega), w64 (by omega) (by omega)]
      rw [show s + (zig (rd l i) / 2 ^ kk + 1 + kk) = s + zig (rd l i) / 2 ^ kk + 1 + kk by omega]; simp
    · simp only [riceSz, Prod.mk.injEq]; rw [show s + (zig (rd l i) / 2 ^ kk + 1 + ↑kk) + riceSz kk (l.drop (i + 1)) = s + (riceSz kk (l.drop (i + 1)) + (zig (rd l i) / 2 ^ kk + 1 + ↑kk)) by omega]; exact ⟨rfl, rfl⟩
theorem l17Many_ev (kk : Nat) (hk : kk ≤ 30) (l : List Int) (hl : l.length ≤ 1048576) : Ev (fun k => spec_l17Many.f k (kk : Int) l) (if l.length ≤ 128 ∧ allIn 1000000000 l = true then (riceSz kk l, decide (riceSz kk l ≤ 100000)) else (0, false)) := by
  unfold spec_l17Many.f
  rw [l1In_eq]
  have hc : (decide (0 ≤ (kk : Int)) && decide ((kk : Int) ≤ 30)) = true := by simp; omega
  rw [hc]
  refine Ev.next (Ev.some_ rfl) (Ev.pos rfl ?_)
  by_cases h : l.length ≤ 128
  · refine Ev.neg (by omega) (Ev.next (l9Wide_ev l 1000000000 (by omega) (by omega) (by omega)) ?_)
    cases hb : allIn 1000000000 l
    · rw [if_neg (by simp)]
      exact Ev.round (Ev.some_ rfl) (fun k => by simp only [spec_l17Many.j0]; rfl)
    · rw [if_pos ⟨h, rfl⟩]
      refine Ev.round ((l17Many_l0 kk hk l hl (allIn_iff.1 hb) l.length 0 0 (by omega) (by omega) (by omega)).to (by simp)) (fun k => by simp only [spec_l17Many.j0]; rw [if_neg (by simp)]; rfl)
  · refine Ev.pos (by omega) ?_
    rw [if_neg (by omega)]
    exact Ev.round (Ev.some_ rfl) (fun k => by simp only [spec_l17Many.j0]; rfl)
theorem sRice_l0 (kk : Nat) (hk : kk ≤ 30) (l : List Int) (hl : l.length ≤ 128) (hw : ∀ x ∈ l, -1000000000 ≤ x ∧ x ≤ 1000000000) : ∀ (d i : Nat) (acc : List Int), i + d = l.length → acc.length + riceSz kk (l.drop i) ≤ 100000 → Ev (fun k => spec_Rice.l0 k (kk : Int) l acc (i : Int)) (acc ++ riceAll kk (l.drop i), true) := by
  intro d
  induction d with
  | zero =>
    intro i acc hi _
    refine Ev.succ ?_
    simp only [spec_Rice.l0]
    refine Ev.neg (by omega) (Ev.some_ ?_)
    rw [List.drop_of_length_le (by omega)]; simp [riceAll]
  | succ d ih =>
    intro i acc hi hs
    have hx := hw _ (rd_mem (xs := l) (i := i) (by omega))
    have hz := zig_bd hx.1 hx.2
    have hp : (0 : Int) < 2 ^ kk := Int.pow_pos (by omega)
    have h1 : 0 ≤ zig (rd l i) / 2 ^ kk := Int.ediv_nonneg hz.1 (by omega)
    have hr := riceSz_bd kk hk (l.drop (i + 1)) (fun x hx => hw x (List.mem_of_mem_drop hx))
    rw [drop_rd (xs := l) (i := i) (by omega)] at hs ⊢
    simp only [riceSz] at hs
    simp only [riceAll]
    have l2 : ∀ (b : Nat) (a : List Int), b ≤ kk → a.length + b + riceSz kk (l.drop (i + 1)) ≤ 100000 → Ev (fun k => spec_Rice.l2 k (kk : Int) l a (i : Int) (zig (rd l i)) ((b : Int) - 1)) (a ++ lowBits (zig (rd l i)) b ++ riceAll kk (l.drop (i + 1)), true) := by
      intro b
      induction b with
      | zero =>
        intro a _ ha
        refine Ev.succ ?_
        simp only [spec_Rice.l2]
        refine Ev.neg (by omega) ?_
        rw [w64_add (by omega) (by omega)]
        exact (ih (i + 1) a (by omega) (by omega)).to (by simp [lowBits])
      | succ b ihb =>
        intro a hb ha
        refine Ev.succ ?_
        simp only [spec_Rice.l2]
        rw [show (((b + 1 : Nat) : Int) - 1) = (b : Int) by omega, wu64 (by omega) (by omega), w64 (by omega) (by omega), shr_small (by omega), Int.tmod_eq_emod_of_nonneg (Int.ediv_nonneg hz.1 (Int.le_of_lt (Int.pow_pos (by omega))))]
        refine Ev.pos (by omega) (Ev.pos (by omega) (Ev.pos (by omega) ?_))
        refine (ihb (a ++ [zig (rd l i) / 2 ^ b % 2]) (by omega) (by simp; omega)).to ?_
        simp [lowBits]
    have l1 : ∀ (q : Nat) (a : List Int), a.length + q + 1 + kk + riceSz kk (l.drop (i + 1)) ≤ 100000 → Ev (fun k => spec_Rice.l1 k (kk : Int) l a (i : Int) (zig (rd l i)) (q : Int)) (a ++ (List.replicate q 1 ++ 0 :: lowBits (zig (rd l i)) kk) ++ riceAll kk (l.drop (i + 1)), true) := by
      intro q
      induction q with
      | zero =>
        intro a ha
        refine Ev.succ ?_
        simp only [spec_Rice.l1]
        refine Ev.neg (by omega) (Ev.pos (by omega) ?_)
        rw [w64 (by omega) (by omega)]
        refine (l2 kk (a ++ [0]) (by omega) (by simp; omega)).to ?_
        simp
      | succ q ihq =>
        intro a ha
        refine Ev.succ ?_
        simp only [spec_Rice.l1]
        rw [w64 (by omega) (by omega), show ((q + 1 : Nat) : Int) - 1 = (q : Int) by omega]
        refine Ev.pos (by omega) (Ev.pos (by omega) ?_)
        refine (ihq (a ++ [1]) (by simp; omega)).to ?_
        simp [List.replicate_succ]
    refine Ev.succ ?_
    simp only [spec_Rice.l0, l17Zig_eq hx.1 hx.2, Option.bind_some]
    rw [wu64 (by omega) (by omega), shr_small (by omega)]
    refine Ev.pos (by omega) (Ev.pos (by omega) (Ev.pos (by omega) ?_))
    rw [show zig (rd l i) / 2 ^ kk = (((zig (rd l i) / 2 ^ kk).toNat : Nat) : Int) by omega]
    refine (l1 _ acc (by omega)).to ?_
    simp only [riceOne, List.append_assoc]
theorem sRice_ev (kk : Int) (l : List Int) (hl : l.length ≤ 1048576) : Ev (fun k => spec_Rice.f k kk l) (riceOf kk l) := by
  unfold spec_Rice.f riceOf
  by_cases hk : 0 ≤ kk ∧ kk ≤ 30
  · obtain ⟨m, rfl⟩ := Int.eq_ofNat_of_zero_le hk.1
    rw [Int.toNat_natCast]
    refine Ev.next (l17Many_ev m (by omega) l hl) ?_
    by_cases h : l.length ≤ 128 ∧ allIn 1000000000 l = true
    · rw [if_pos h]
      by_cases h2 : riceSz m l ≤ 100000
      · rw [if_pos ⟨by omega, h, by simpa using h2⟩]
        refine Ev.pos (by simpa using h2) ((sRice_l0 m (by omega) l h.1 (allIn_iff.1 h.2) l.length 0 [] (by omega) (by simpa using h2)).to (by simp))
      · rw [if_neg (by simp; intros; omega)]
        exact Ev.neg (by simpa using h2) (Ev.some_ rfl)
    · rw [if_neg h, if_neg (fun hh => h hh.2.1)]
      exact Ev.neg (by simp) (Ev.some_ rfl)
  · rw [if_neg (fun hh => hk hh.1)]
    unfold spec_l17Many.f
    have hc : (decide (0 ≤ kk) && decide (kk ≤ 30)) = false := by simp; omega
    simp only [l1In_eq, Option.bind_some, hc]
    refine Ev.next (a := (0, false)) (Ev.neg (by simp) ?_) (Ev.neg (by simp) (Ev.some_ rfl))
    refine Ev.succ ?_
    simp only [spec_l17Many.j0]
    exact Ev.pos trivial (Ev.some_ rfl)
theorem folded_eq {x : Int} (h0 : -1000000000 ≤ x) (h1 : x ≤ 1000000000) : impl_folded.f x = some (zig x) := by
  unfold impl_folded.f zig
  by_cases h : x < 0
  · rw [if_pos h, if_pos h, w64 (n := -2 * x) (by omega) (by omega), w64 (by omega) (by omega)]
  · rw [if_neg h, if_neg h, w64 (by omega) (by omega)]
theorem riceSize_l0 (kk : Nat) (hk : kk ≤ 30) (l : List Int) (hl : l.length ≤ 1048576) (hw : ∀ x ∈ l, -1000000000 ≤ x ∧ x ≤ 1000000000) : ∀ (d i : Nat) (s : Int), i + d = l.length → 0 ≤ s → s ≤ i * 2000000031 → Ev (fun k => impl_riceSize.l0 k (kk : Int) s l (l.length : Int) (i : Int)) (s + riceSz kk (l.drop i)) := by
  intro d
  induction d with
  | zero =>
    intro i s hi _ _
    refine (Ev.round (f := fun _ => some s) (Ev.some_ rfl) (fun k => by simp only [impl_riceSize.l0]; rw [if_neg (by omega)])).to ?_
    rw [List.drop_of_length_le (by omega)]; simp [riceSz]
  | succ d ih =>
    intro i s hi hs hs'
    have hx := hw _ (rd_mem (xs := l) (i := i) (by omega))
    have hz := zig_bd hx.1 hx.2
    have hp : (0 : Int) < 2 ^ kk := Int.pow_pos (by omega)
    have h1 : 0 ≤ zig (rd l i) / 2 ^ kk := Int.ediv_nonneg hz.1 (by omega)
    have h2 : zig (rd l i) / 2 ^ kk ≤ zig (rd l i) := Int.ediv_le_self _ hz.1
    rw [drop_rd (xs := l) (i := i) (by omega)]
    refine (Ev.round (ih (i + 1) (s + (zig (rd l i) / 2 ^ kk + 1 + kk)) (by omega) (by omega) (by omega)) (fun k => ?_)).to ?_
    · simp only [impl_riceSize.l0]
      rw [if_pos (by omega), if_pos (by omega), if_pos (by omega), folded_eq hx.1 hx.2]
      simp only [Option.bind_some]
      rw [if_pos (by omega), shr_small (by omega), w64_add (i := (i : Int)) (by omega) (by omega), w64 (n := _ + 1) (by omega) (by omega), w64 (n := _ + (kk : Int)) (by omega) (by omega), w64 (by omega) (by omega)]
      simp
    · simp only [riceSz]; omega
theorem riceSize_ev (kk : Nat) (hk : kk ≤ 30) (l : List Int) (hl : l.length ≤ 1048576) (hw : ∀ x ∈ l, -1000000000 ≤ x ∧ x ≤ 1000000000) : Ev (fun k => impl_riceSize.f k (kk : Int) l) (riceSz kk l) :=
  (riceSize_l0 kk hk l hl hw l.length 0 0 (by omega) (by omega) (by omega)).to (by simp)
theorem within_l0 (l : List Int) (a : Int) (ha : 0 ≤ a) (ha' : a ≤ 9000000000000000000) (hl : l.length ≤ 35184372088832) : ∀ (d i : Nat), i + d = l.length → Ev (fun k => impl_within.l0 k a l (l.length : Int) (i : Int)) (allIn a (l.drop i)) := by
  intro d
  induction d with
  | zero =>
    intro i hi
    refine (Ev.round (f := fun _ => some true) (Ev.some_ rfl) (fun k => by simp only [impl_within.l0]; rw [if_neg (by omega)])).to ?_
    rw [List.drop_of_length_le (by omega)]; rfl
  | succ d ih =>
    intro i hi
    rw [drop_rd (xs := l) (i := i) (by omega)]
    by_cases h1 : rd l i < -a
    · refine (Ev.round (f := fun _ => some false) (Ev.some_ rfl) (fun k => ?_)).to (by simp [allIn]; intros; omega)
      simp only [impl_within.l0]
      rw [if_pos (by omega), if_pos (by omega), if_pos (by omega), w64 (n := -a) (by omega) (by omega), if_pos h1]
    · by_cases h2 : rd l i > a
      · refine (Ev.round (f := fun _ => some false) (Ev.some_ rfl) (fun k => ?_)).to (by simp [allIn]; intros; omega)
        simp only [impl_within.l0]
        rw [if_pos (by omega), if_pos (by omega), if_pos (by omega), w64 (n := -a) (by omega) (by omega), if_neg h1, if_pos h2]
      · refine (Ev.round (ih (i + 1) (by omega)) (fun k => ?_)).to ?_
        · simp only [impl_within.l0]
          rw [if_pos (by omega), if_pos (by omega), if_pos (by omega), w64 (n := -a) (by omega) (by omega), if_neg h1, if_neg h2, w64_add (by omega) (by omega)]
          simp
        · simp [allIn]; intros; omega
theorem within_ev (l : List Int) (a : Int) (ha : 0 ≤ a) (ha' : a ≤ 9000000000000000000) (hl : l.length ≤ 35184372088832) : Ev (fun k => impl_within.f k l a) (allIn a l) :=
  (within_l0 l a ha ha' hl l.length 0 (by omega)).to (by simp)
theorem riceOk_ev (l : List Int) (hl : l.length ≤ 1048576) : Ev (fun k => impl_riceOk.f k l) (decide (l.length ≤ 128 ∧ allIn 1000000000 l = true)) := by
  unfold impl_riceOk.f
  by_cases h : l.length ≤ 128
  · exact Ev.pos (by omega) (Ev.next (within_ev l 1000000000 (by omega) (by omega) (by omega)) (Ev.some_ (by simp [h])))
  · exact Ev.neg (by omega) (Ev.some_ (by simp [h]))
theorem riceK_eq (a : Int) : impl_riceK.f a = some (decide (0 ≤ a ∧ a ≤ 30)) := by
  unfold impl_riceK.f
  by_cases h : a ≥ 0 <;> simp [h]
theorem iRice_l0 (kk : Nat) (hk : kk ≤ 30) (l : List Int) (hl : l.length ≤ 128) (hw : ∀ x ∈ l, -1000000000 ≤ x ∧ x ≤ 1000000000) : ∀ (d i : Nat) (acc : List Int), i + d = l.length → acc.length + riceSz kk (l.drop i) ≤ 100000 → Ev (fun k => impl_Rice.l0 k (kk : Int) acc l (l.length : Int) (i : Int)) (acc ++ riceAll kk (l.drop i), true) := by
  intro d
  induction d with
  | zero =>
    intro i acc hi _
    refine Ev.succ ?_
    simp only [impl_Rice.l0]
    refine Ev.neg (by omega) (Ev.some_ ?_)
    rw [List.drop_of_length_le (by omega)]; simp [riceAll]
  | succ d ih =>
    intro i acc hi hs
    have hx := hw _ (rd_mem (xs := l) (i := i) (by omega))
    have hz := zig_bd hx.1 hx.2
    have hp : (0 : Int) < 2 ^ kk := Int.pow_pos (by omega)
    have h1 : 0 ≤ zig (rd l i) / 2 ^ kk := Int.ediv_nonneg hz.1 (by omega)
    have h2 : zig (rd l i) / 2 ^ kk ≤ zig (rd l i) := Int.ediv_le_self _ hz.1
    have hr := riceSz_bd kk hk (l.drop (i + 1)) (fun x hx => hw x (List.mem_of_mem_drop hx))
    rw [drop_rd (xs := l) (i := i) (by omega)] at hs ⊢
    simp only [riceSz] at hs
    simp only [riceAll]
    have l2 : ∀ (b : Nat) (a : List Int), b ≤ kk → a.length + b + riceSz kk (l.drop (i + 1)) ≤ 100000 → Ev (fun k => impl_Rice.l2 k (kk : Int) a (zig (rd l i)) ((b : Int) - 1) l (l.length : Int) (i : Int)) (a ++ lowBits (zig (rd l i)) b ++ riceAll kk (l.drop (i + 1)), true) := by
      intro b
      induction b with
      | zero =>
        intro a _ ha
        refine Ev.succ ?_
        simp only [impl_Rice.l2]
        refine Ev.neg (by omega) ?_
        rw [w64_add (by omega) (by omega)]
        exact (ih (i + 1) a (by omega) (by omega)).to (by simp [lowBits])
      | succ b ihb =>
        intro a hb ha
        refine Ev.succ ?_
        simp only [impl_Rice.l2]
        rw [show (((b + 1 : Nat) : Int) - 1) = (b : Int) by omega, w64 (by omega) (by omega), shr_small (by omega)]
        have hm := bits_and_mask (zig (rd l i) / 2 ^ b) 1 (by omega)
        rw [show ((2 : Int) ^ 1 - 1) = 1 by rfl, show ((2 : Int) ^ 1) = 2 by rfl] at hm
        rw [hm]
        refine Ev.pos (by omega) (Ev.pos (by omega) (Ev.pos (by omega) ?_))
        refine (ihb (a ++ [zig (rd l i) / 2 ^ b % 2]) (by omega) (by simp; omega)).to ?_
        simp [lowBits]
    have l1 : ∀ (q j : Nat) (a : List Int), (j : Int) + q = zig (rd l i) / 2 ^ kk → a.length + q + 1 + kk + riceSz kk (l.drop (i + 1)) ≤ 100000 → Ev (fun k => impl_Rice.l1 k (kk : Int) a (zig (rd l i)) l (l.length : Int) (i : Int) (zig (rd l i) / 2 ^ kk) (j : Int)) (a ++ (List.replicate q 1 ++ 0 :: lowBits (zig (rd l i)) kk) ++ riceAll kk (l.drop (i + 1)), true) := by
      intro q
      induction q with
      | zero =>
        intro j a hj ha
        refine Ev.succ ?_
        simp only [impl_Rice.l1]
        refine Ev.neg (by omega) (Ev.pos (by omega) ?_)
        rw [w64 (by omega) (by omega)]
        refine (l2 kk (a ++ [0]) (by omega) (by simp; omega)).to ?_
        simp
      | succ q ihq =>
        intro j a hj ha
        refine Ev.succ ?_
        simp only [impl_Rice.l1]
        rw [w64_add (by omega) (by omega)]
        refine Ev.pos (by omega) (Ev.pos (by omega) ?_)
        refine (ihq (j + 1) (a ++ [1]) (by omega) (by simp; omega)).to ?_
        simp [List.replicate_succ]
    refine Ev.succ ?_
    simp only [impl_Rice.l0, folded_eq hx.1 hx.2, Option.bind_some]
    rw [shr_small (by omega)]
    refine Ev.pos (by omega) (Ev.pos (by omega) (Ev.pos (by omega) (Ev.pos (by omega) ?_)))
    refine (l1 (zig (rd l i) / 2 ^ kk).toNat 0 acc (by omega) (by omega)).to ?_
    simp only [riceOne, List.append_assoc]
theorem iRice_ev (kk : Int) (l : List Int) (hl : l.length ≤ 1048576) : Ev (fun k => impl_Rice.f k kk l) (riceOf kk l) := by
  have bad : Ev (fun k => impl_Rice.j0 k kk l true) ([], false) := by
    refine Ev.succ ?_
    simp only [impl_Rice.j0]
    exact Ev.pos trivial (Ev.some_ rfl)
  unfold impl_Rice.f riceOf
  rw [riceK_eq]
  simp only [Option.bind_some]
  by_cases hk : 0 ≤ kk ∧ kk ≤ 30
  · obtain ⟨m, rfl⟩ := Int.eq_ofNat_of_zero_le hk.1
    rw [Int.toNat_natCast]
    refine Ev.pos (by simp [hk]) (Ev.next (riceOk_ev l hl) ?_)
    by_cases h : l.length ≤ 128 ∧ allIn 1000000000 l = true
    · refine Ev.pos (by simp [h]) ?_
      refine Ev.next (riceSize_ev m (by omega) l hl (allIn_iff.1 h.2)) ?_
      by_cases h2 : riceSz m l ≤ 100000
      · rw [if_pos ⟨by omega, h, by simpa using h2⟩, show decide (riceSz m l > 100000) = false by simp; omega]
        refine Ev.succ ?_
        simp only [impl_Rice.j0]
        exact Ev.neg (by simp) ((iRice_l0 m (by omega) l h.1 (allIn_iff.1 h.2) l.length 0 [] (by omega) (by simpa using h2)).to (by simp))
      · rw [if_neg (by simp; intros; omega), show decide (riceSz m l > 100000) = true by simp; omega]
        exact bad
    · rw [if_neg (fun hh => h hh.2.1)]
      exact Ev.neg (by simpa using h) bad
  · rw [if_neg (fun hh => hk hh.1)]
    exact Ev.neg (by simp; omega) bad
theorem FnExactRice (kk : Int) (l : List Int) (w0 : (Lit.int .i64 kk).wf = true) (m1 : l.length ≤ maxLen) (w1 : ∀ x ∈ l, (Lit.int .i64 x).wf = true) : ∃ k, laws_FnExactRice.f k kk l = some true := by
  refine Ev.rounds ?_
  unfold laws_FnExactRice.f
  by_cases hl : (l.length : Int) > 1048576
  · exact Ev.pos hl (Ev.some_ rfl)
  have hg : (riceOf kk l).1.length ≤ 100000 := by
    unfold riceOf
    split
    · rename_i h
      have := riceAll_length kk.toNat l (allIn_iff.1 h.2.1.2)
      simp only; omega
    · simp
  have ti := toIntS_ev l (by omega)
  have si := sRice_ev kk l (by omega)
  have ii := iRice_ev kk l (by omega)
  have ee := eqIntS_ev (riceOf kk l).1 (riceOf kk l).1 (by omega)
  refine Ev.neg hl (Ev.next ti (Ev.next si (Ev.next ti (Ev.next ii (Ev.next ee (Ev.pos (by simp) ?_))))))
  refine Ev.succ ?_
  simp only [laws_FnExactRice.j0]
  refine Ev.neg (by simp) (Ev.next ti (Ev.next (eqIntS_ev l l (by omega)) (Ev.pos (by simp) (Ev.next (markIntS_ev l 1 (by omega) (by omega) (by omega)) (Ev.neg (by simp only; omega) (Ev.next ee (Ev.pos (by simp) ?_)))))))
  refine Ev.succ ?_
  simp only [laws_FnExactRice.j1]
  have hh := heldIntS_ev (riceOf kk l).1.length 1 (by omega) (by omega) (by omega)
  refine Ev.neg (by simp) (Ev.next (markIntS_ev (riceOf kk l).1 1 (by omega) (by omega) (by omega)) (Ev.next hh (Ev.neg (by omega) (Ev.pos rfl (Ev.next ti (Ev.next ii (Ev.next ee (Ev.pos (by simp) ?_))))))))
  refine Ev.succ ?_
  simp only [laws_FnExactRice.j2]
  exact Ev.neg (by simp) (Ev.next hh (Ev.neg (by omega) (Ev.pos rfl (Ev.some_ rfl))))
end Go.Proofs.Ytnmglbdhnegebaa.Pure
