import Derived.Test.YtnmglbdhnegebaaPFnExactUnRicex4
import Derived.Test.YtnmglbdhnegebaaAid
set_option linter.unusedVariables false
set_option linter.unusedSimpArgs false
namespace Go.Proofs.Ytnmglbdhnegebaa.Pure
open Go Go.RowKit Go.Proofs.Ytnmglbdhnegebaa.PFnExactUnRice Go.Proofs.YtnmglbdhnegebaaW.PrintWords Go.Proofs.YtnmglbdhnegebaaW.PrintLast Go.Proofs.YtnmglbdhnegebaaW.PrintMore
theorem toIntS_l0 (l : List Int) (hl : l.length ≤ 35184372088832) : ∀ (d i : Nat) (acc : List Int), i + d = l.length → acc.length = l.length → acc.take i = l.take i → Ev (fun k => laws_toIntS.l0 k l acc (i : Int)) l := by
  intro d
  induction d with
  | zero =>
    intro i acc h h1 h2
    refine Ev.round (f := fun _ => some acc) (Ev.some_ ?_) (fun k => by simp only [laws_toIntS.l0]; rw [if_neg (by omega)])
    rw [List.take_of_length_le (by omega), List.take_of_length_le (by omega)] at h2
    exact h2
  | succ d ih =>
    intro i acc h h1 h2
    have hi : i < l.length := by omega
    refine Ev.round (ih (i + 1) (acc.set i (rd l i)) (by omega) (by simp [h1]) ?_) (fun k => ?_)
    · rw [take_rd hi, ← h2]; exact take_set_end (by omega) _
    · simp only [laws_toIntS.l0]
      rw [if_pos (by omega), if_pos (by omega), if_pos (by omega), w64_add (by omega) (by omega)]
      simp
theorem toIntS_ev (l : List Int) (hl : l.length ≤ 35184372088832) : Ev (fun k => laws_toIntS.f k l) l := by
  unfold laws_toIntS.f
  refine Ev.pos (by omega) (Ev.pos (by omega) ?_)
  exact toIntS_l0 l hl l.length 0 _ (by omega) (by simp) (by simp)
theorem eqIntS_l0 (a b : List Int) (h : a.length = b.length) (hl : a.length ≤ 35184372088832) : ∀ (d i : Nat), i + d = a.length → Ev (fun k => laws_eqIntS.l0 k a b (i : Int)) (decide (a.drop i = b.drop i)) := by
  intro d
  induction d with
  | zero =>
    intro i hi
    refine Ev.round (f := fun _ => some true) (Ev.some_ ?_) (fun k => by simp only [laws_eqIntS.l0]; rw [if_neg (by omega)])
    rw [List.drop_of_length_le (by omega), List.drop_of_length_le (by omega)]; simp
  | succ d ih =>
    intro i hi
    by_cases he : rd a i = rd b i
    · refine (Ev.round (ih (i + 1) (by omega)) (fun k => ?_)).to ?_
      · simp only [laws_eqIntS.l0]
        rw [if_pos (by omega), if_pos (by omega), if_pos (by omega), if_pos he, w64_add (by omega) (by omega)]; simp
      · rw [drop_rd (xs := a) (i := i) (by omega), drop_rd (xs := b) (i := i) (by omega), he]; simp
    · refine (Ev.round (f := fun _ => some false) (Ev.some_ rfl) (fun k => ?_)).to ?_
      · simp only [laws_eqIntS.l0]
        rw [if_pos (by omega), if_pos (by omega), if_pos (by omega), if_neg he]
      · rw [drop_rd (xs := a) (i := i) (by omega), drop_rd (xs := b) (i := i) (by omega)]; simp [he]
theorem eqIntS_ev (a b : List Int) (hl : a.length ≤ 35184372088832) : Ev (fun k => laws_eqIntS.f k a b) (decide (a = b)) := by
  unfold laws_eqIntS.f
  by_cases h : a.length = b.length
  · exact Ev.pos (by omega) (eqIntS_l0 a b h hl a.length 0 (by omega))
  · exact (Ev.neg (by omega) (Ev.some_ rfl)).to (by simp; intro e; exact h (by rw [e]))
def iota (a : Int) : Nat → List Int
  | 0 => []
  | n + 1 => a :: iota (a + 1) n
theorem iota_length : ∀ (n : Nat) (a : Int), (iota a n).length = n
  | 0, _ => rfl
  | n + 1, a => by simp [iota, iota_length n]
theorem markIntS_l0 (m : Nat) (hm : m ≤ 1048576) : ∀ (d i : Nat) (l : List Int) (a : Int), i + d = l.length → l.length ≤ 1048576 → 0 ≤ a → a ≤ 1000000000 + i → Ev (fun k => laws_markIntS.l0 k l a (i : Int)) (a + d, l.take i ++ iota a d) := by
  intro d
  induction d with
  | zero =>
    intro i l a hi hl h0 h1
    refine Ev.succ ?_
    simp only [laws_markIntS.l0]
    refine Ev.neg (by omega) (Ev.some_ ?_)
    rw [List.take_of_length_le (by omega)]; simp [iota]
  | succ d ih =>
    intro i l a hi hl h0 h1
    refine Ev.succ ?_
    simp only [laws_markIntS.l0]
    refine Ev.pos (by omega) (Ev.pos (by omega) ?_)
    rw [w64_add (by omega) (by omega), w64_add (by omega) (by omega)]
    refine (ih (i + 1) (l.set i a) (a + 1) (by simp; omega) (by simpa using hl) (by omega) (by omega)).to ?_
    rw [take_set_end (by omega)]
    simp only [iota, List.append_assoc, List.cons_append, List.nil_append, Prod.mk.injEq, and_true]
    omega
theorem markIntS_ev (l : List Int) (a : Int) (hl : l.length ≤ 1048576) (h0 : 0 ≤ a) (h1 : a ≤ 1000000000) : Ev (fun k => laws_markIntS.f k l a) (a + l.length, iota a l.length) := by
  unfold laws_markIntS.f
  exact (markIntS_l0 l.length hl l.length 0 l a (by omega) hl h0 (by omega)).to (by simp)
theorem heldIntS_l0 (p : List Int) : ∀ (d : Nat) (a : Int) (l : List Int), l = p ++ iota a d → l.length ≤ 1048576 → ∀ i : Nat, i = p.length → 0 ≤ a → a ≤ 1000000000 + i → Ev (fun k => laws_heldIntS.l0 k l a (i : Int)) (a + d) := by
  intro d
  induction d generalizing p with
  | zero =>
    intro a l hl hn i hi h0 h1
    refine Ev.succ ?_
    simp only [laws_heldIntS.l0]
    have : l.length = p.length := by rw [hl]; simp [iota]
    exact Ev.neg (by omega) (Ev.some_ (by omega))
  | succ d ih =>
    intro a l hl hn i hi h0 h1
    have e : l.length = p.length + (d + 1) := by rw [hl]; simp [iota, iota_length]
    refine Ev.succ ?_
    simp only [laws_heldIntS.l0]
    refine Ev.pos (by omega) (Ev.pos (by omega) (Ev.pos ?_ ?_))
    · rw [rd_get l i (by omega)]
      subst hl
      rw [List.getElem_append_right (by omega)]
      simp [iota, hi]
    · rw [w64_add (by omega) (by omega), w64_add (by omega) (by omega)]
      exact (ih (p ++ [a]) (a + 1) l (by rw [hl]; simp [iota]) hn (i + 1) (by simp [hi]) (by omega) (by omega)).to (by omega)
theorem heldIntS_ev (n : Nat) (a : Int) (hn : n ≤ 1048576) (h0 : 0 ≤ a) (h1 : a ≤ 1000000000) : Ev (fun k => laws_heldIntS.f k (iota a n) a) (a + n) :=
  heldIntS_l0 [] n a (iota a n) (by simp) (by rw [iota_length]; exact hn) 0 rfl h0 (by omega)
def zig (x : Int) : Int := if x < 0 then -2 * x - 1 else 2 * x
theorem zig_bd {x : Int} (h0 : -1000000000 ≤ x) (h1 : x ≤ 1000000000) : 0 ≤ zig x ∧ zig x ≤ 2000000000 := by unfold zig; split <;> omega
def riceSz (k : Nat) : List Int → Int
  | [] => 0
  | x :: l => riceSz k l + (zig x / 2 ^ k + 1 + k)
theorem riceSz_bd (k : Nat) (hk : k ≤ 30) : ∀ (l : List Int), (∀ x ∈ l, -1000000000 ≤ x ∧ x ≤ 1000000000) → 0 ≤ riceSz k l ∧ riceSz k l ≤ l.length * 2000000031
  | [], _ => by simp [riceSz]
  | x :: l, h => by
    have ih := riceSz_bd k hk l (fun y hy => h y (by simp [hy]))
    have hx := h x (by simp)
    have hz := zig_bd hx.1 hx.2
    have hp : (0 : Int) < 2 ^ k := Int.pow_pos (by omega)
    have h1 : 0 ≤ zig x / 2 ^ k := Int.ediv_nonneg hz.1 (by omega)
    have h2 : zig x / 2 ^ k ≤ zig x := Int.ediv_le_self _ hz.1
    simp only [riceSz, List.length_cons]
    omega
theorem shr_small {x : Int} {k : Nat} (hk : k ≤ 62) : shr .i64 x (k : Int) = x / 2 ^ k := by
  unfold shr
  rw [show min ((k : Int).toNat) IntKind.i64.bits = k by simp [IntKind.bits]; omega]
def bitOk (x : Int) : Bool := decide (x = 0 ∨ x = 1)
/-- How many 1 stand at the begin. -/
def onesRun : List Int → Nat
  | [] => 0
  | x :: l => if x = 1 then onesRun l + 1 else 0
theorem onesRun_le : ∀ l, onesRun l ≤ l.length
  | [] => by simp [onesRun]
  | x :: l => by have := onesRun_le l; simp only [onesRun, List.length_cons]; split <;> omega
def lowVal (u : Int) : Nat → List Int → Int
  | 0, _ => u
  | _ + 1, [] => u
  | b + 1, x :: l => lowVal (2 * u + x) b l
theorem lowVal_bd : ∀ (b : Nat) (u : Int) (l : List Int), (∀ x ∈ l, x = 0 ∨ x = 1) → 0 ≤ u → b ≤ l.length → u * 2 ^ b ≤ lowVal u b l ∧ lowVal u b l < (u + 1) * 2 ^ b
  | 0, u, l, _, _, _ => by simp [lowVal]; omega
  | b + 1, u, [], _, _, hl => by simp at hl
  | b + 1, u, x :: l, hb, hu, hl => by
    have hx := hb x (by simp)
    have ih := lowVal_bd b (2 * u + x) l (fun y hy => hb y (by simp [hy])) (by omega) (by simpa using hl)
    have e : (2 : Int) ^ (b + 1) = 2 * 2 ^ b := by rw [Int.pow_succ]; omega
    have hp : (0 : Int) < 2 ^ b := Int.pow_pos (by omega)
    simp only [lowVal]
    rw [e]
    have e1 : u * (2 * 2 ^ b) = 2 * u * 2 ^ b := by rw [← Int.mul_assoc, Int.mul_comm u 2]
    have e2 : (u + 1) * (2 * 2 ^ b) = (2 * u + 2) * 2 ^ b := by rw [← Int.mul_assoc, Int.mul_comm (u + 1) 2]; congr 1; omega
    rw [e1, e2]
    have h1 : 2 * u * 2 ^ b ≤ (2 * u + x) * 2 ^ b := Int.mul_le_mul_of_nonneg_right (by omega) (by omega)
    have h2 : (2 * u + x + 1) * 2 ^ b ≤ (2 * u + 2) * 2 ^ b := Int.mul_le_mul_of_nonneg_right (by omega) (by omega)
    omega
def unzig (u : Int) : Int := if u % 2 = 1 then -(u / 2) - 1 else u / 2
/-- What stands in the bits from a place on: so many numbers. -/
def unR (kk : Nat) (l : List Int) : Nat → Nat → List Int → List Int × Int × Bool
  | 0, at_, out => (out, (at_ : Int), true)
  | n + 1, at_, out =>
    if l.length < at_ + onesRun (l.drop at_) + 1 + kk then ([], 0, false)
    else if lowVal (onesRun (l.drop at_)) kk (l.drop (at_ + onesRun (l.drop at_) + 1)) ≤ 2000000000 then
      unR kk l n (at_ + onesRun (l.drop at_) + 1 + kk) (out ++ [unzig (lowVal (onesRun (l.drop at_)) kk (l.drop (at_ + onesRun (l.drop at_) + 1)))])
    else ([], 0, false)
def unRiceOf (kk : Int) (l : List Int) (n : Int) : List Int × Int × Bool :=
  if (0 ≤ kk ∧ kk ≤ 30) ∧ (0 ≤ n ∧ n ≤ 128) ∧ l.all bitOk = true then unR kk.toNat l n.toNat 0 [] else ([], 0, false)
theorem onesRun_drop {l : List Int} {i : Nat} (h : i < l.length) (h1 : rd l i = 1) : onesRun (l.drop i) = onesRun (l.drop (i + 1)) + 1 := by
  rw [drop_rd h]; simp [onesRun, h1]
theorem onesRun_stop {l : List Int} {i : Nat} (h : i < l.length → rd l i ≠ 1) : onesRun (l.drop i) = 0 := by
  by_cases hi : i < l.length
  · rw [drop_rd hi]; simp [onesRun, h hi]
  · rw [List.drop_of_length_le (by omega)]; rfl
theorem allBits_iff {l : List Int} : l.all bitOk = true ↔ ∀ x ∈ l, x = 0 ∨ x = 1 := by simp [List.all_eq_true, bitOk]
theorem l1In_eq (a b c : Int) : spec_l1In.f a b c = some (decide (b ≤ a) && decide (a ≤ c)) := by
  unfold spec_l1In.f
  by_cases h : a ≥ b
  · rw [if_pos h]; simp [show b ≤ a from h]
  · rw [if_neg h]; simp [show ¬ b ≤ a from h]
theorem sUnRice_yes (kk : Nat) (hk : kk ≤ 30) (l : List Int) (hl : l.length ≤ 1048576) (hb : ∀ x ∈ l, x = 0 ∨ x = 1) (nn : Nat) (hn : nn ≤ 128) : ∀ (n at_ : Nat) (out : List Int), out.length + n = nn → at_ ≤ l.length → Ev (fun k => spec_UnRice.l0 k (kk : Int) l (nn : Int) out (at_ : Int)) (unR kk l n at_ out) := by
  have bit : ∀ i : Nat, i < l.length → rd l i = 0 ∨ rd l i = 1 := fun i hi => hb _ (rd_mem hi)
  intro n
  induction n with
  | zero =>
    intro at_ out ho ha
    have l3 : ∀ (d i : Nat), i + d = l.length → Ev (fun k => spec_UnRice.l3 k l out (at_ : Int) (i : Int)) (out, (at_ : Int), true) := by
      intro d
      induction d with
      | zero =>
        intro i hi
        refine Ev.succ ?_
        simp only [spec_UnRice.l3]
        exact Ev.neg (by omega) (Ev.some_ rfl)
      | succ d ihd =>
        intro i hi
        have := bit i (by omega)
        refine Ev.succ ?_
        simp only [spec_UnRice.l3, l1In_eq, Option.bind_some]
        rw [w64_add (by omega) (by omega)]
        exact Ev.pos (by omega) (Ev.pos (by omega) (Ev.pos (by simp; omega) (ihd (i + 1) (by omega))))
    refine Ev.succ ?_
    simp only [spec_UnRice.l0]
    exact Ev.neg (by omega) (l3 (l.length - at_) at_ (by omega))
  | succ n ih =>
    intro at_ out ho ha
    have hp : (0 : Int) < 2 ^ kk := Int.pow_pos (by omega)
    have bad : ∀ (p : Nat) (u : Int), Ev (fun k => spec_UnRice.j4 k (kk : Int) l (nn : Int) out (p : Int) u true) ([], 0, false) := fun p u => by
      refine Ev.succ ?_
      simp only [spec_UnRice.j4]
      exact Ev.pos trivial (Ev.some_ rfl)
    have l2 : ∀ (b c p : Nat) (u : Int), c + b = kk → 0 ≤ u → u < 4000000000 * 2 ^ c → p ≤ l.length → Ev (fun k => spec_UnRice.l2 k (kk : Int) l (nn : Int) out (p : Int) u (c : Int))
        (if l.length < p + b then ([], 0, false) else if lowVal u b (l.drop p) ≤ 2000000000 then unR kk l n (p + b) (out ++ [unzig (lowVal u b (l.drop p))]) else ([], 0, false)) := by
      intro b
      induction b with
      | zero =>
        intro c p u hc hu hub hpl
        have hcc : (2 : Int) ^ c ≤ 2 ^ 30 := by
          have : (2 : Nat) ^ c ≤ 2 ^ 30 := Nat.pow_le_pow_right (by omega) (by omega)
          exact_mod_cast this
        have hub2 : u < 4000000000 * 2 ^ 30 := Int.lt_of_lt_of_le hub (Int.mul_le_mul_of_nonneg_left hcc (by omega))
        refine Ev.succ ?_
        simp only [spec_UnRice.l2]
        refine Ev.neg (by omega) ?_
        rw [if_neg (by omega), show lowVal u 0 (l.drop p) = u from rfl]
        by_cases h2 : u > 2000000000
        · rw [if_neg (by omega)]; exact Ev.pos h2 (Ev.some_ rfl)
        · rw [if_pos (by omega)]
          refine Ev.neg h2 ?_
          rw [Int.tmod_eq_emod_of_nonneg hu]
          by_cases h3 : u % 2 = 1
          · refine Ev.pos h3 (Ev.pos (by omega) ?_)
            rw [w64 (n := u + 1) (by omega) (by omega), w64 (n := -(u + 1)) (by omega) (by omega)]
            have e : Int.tdiv (-(u + 1)) 2 = -(u / 2) - 1 := by
              rw [Int.neg_tdiv, Int.tdiv_eq_ediv_of_nonneg (by omega)]; omega
            rw [e, w64 (by omega) (by omega)]
            exact (ih p (out ++ [-(u / 2) - 1]) (by simp; omega) (by omega)).to (by simp [unzig, h3])
          · refine Ev.neg h3 (Ev.pos (by omega) ?_)
            rw [Int.tdiv_eq_ediv_of_nonneg hu, w64 (by omega) (by omega)]
            exact (ih p (out ++ [u / 2]) (by simp; omega) (by omega)).to (by simp [unzig, h3])
      | succ b ihb =>
        intro c p u hc hu hub hpl
        have hcc : (2 : Int) ^ c ≤ 2 ^ 30 := by
          have : (2 : Nat) ^ c ≤ 2 ^ 30 := Nat.pow_le_pow_right (by omega) (by omega)
          exact_mod_cast this
        have hub2 : u < 4000000000 * 2 ^ 30 := Int.lt_of_lt_of_le hub (Int.mul_le_mul_of_nonneg_left hcc (by omega))
        refine Ev.succ ?_
        simp only [spec_UnRice.l2, l1In_eq, Option.bind_some]
        refine Ev.pos (by omega) ?_
        by_cases h1 : (p : Int) ≥ l.length
        · rw [if_pos (by omega)]; exact Ev.pos h1 (Ev.some_ rfl)
        · have := bit p (by omega)
          refine Ev.neg h1 (Ev.pos (by omega) (Ev.pos (by omega) (Ev.pos (by simp; omega) ?_)))
          rw [w64_add (by omega) (by omega), w64_add (by omega) (by omega), w64 (n := 2 * u) (by omega) (by omega), w64 (by omega) (by omega)]
          have e2 : (2 : Int) ^ (c + 1) = 2 * 2 ^ c := by rw [Int.pow_succ]; omega
          refine (ihb (c + 1) (p + 1) (2 * u + rd l p) (by omega) (by omega) (by rw [e2]; omega) (by omega)).to ?_
          rw [drop_rd (xs := l) (i := p) (by omega), show lowVal u (b + 1) (rd l p :: l.drop (p + 1)) = lowVal (2 * u + rd l p) b (l.drop (p + 1)) from rfl, show p + 1 + b = p + (b + 1) by omega]
    have j3 : ∀ (p q : Nat), at_ + q = p → p ≤ l.length → (p < l.length → rd l p ≠ 1) → Ev (fun k => spec_UnRice.j3 k (kk : Int) l (nn : Int) out (p : Int) (q : Int))
        (if l.length < p + 1 + kk then ([], 0, false) else if lowVal q kk (l.drop (p + 1)) ≤ 2000000000 then unR kk l n (p + 1 + kk) (out ++ [unzig (lowVal q kk (l.drop (p + 1)))]) else ([], 0, false)) := by
      intro p q hq hpl hp1
      refine Ev.succ ?_
      simp only [spec_UnRice.j3]
      by_cases h1 : (p : Int) ≥ l.length
      · rw [if_pos (by omega)]; exact Ev.pos h1 (bad _ _)
      · have h0 : rd l p = 0 := (bit p (by omega)).resolve_right (hp1 (by omega))
        refine Ev.neg h1 (Ev.pos (by omega) (Ev.pos (by omega) (Ev.pos h0 ?_)))
        rw [wu64 (by omega) (by omega), shr_small (by omega)]
        refine Ev.pos (by omega) ?_
        by_cases h2 : (q : Int) > 2000000000 / 2 ^ kk
        · rw [show decide ((q : Int) > 2000000000 / 2 ^ kk) = true by simpa using h2]
          refine (bad _ _).to ?_
          by_cases h3 : l.length < p + 1 + kk
          · rw [if_pos h3]
          · have hv := lowVal_bd kk q (l.drop (p + 1)) (fun x hx => hb x (List.mem_of_mem_drop hx)) (by omega) (by simp; omega)
            have : 2000000000 < (q : Int) * 2 ^ kk := by
              have h4 : 2000000000 / 2 ^ kk < (q : Int) := h2
              have := Int.lt_mul_of_ediv_lt hp h4
              exact this
            rw [if_neg h3, if_neg (by omega)]
        · rw [show decide ((q : Int) > 2000000000 / 2 ^ kk) = false by simpa using h2]
          refine Ev.succ ?_
          simp only [spec_UnRice.j4]
          rw [w64_add (by omega) (by omega)]
          refine Ev.neg (by simp) ?_
          exact l2 kk 0 (p + 1) q (by omega) (by omega) (by simp; omega) (by omega)
    have l1 : ∀ (d p q : Nat), p + d = l.length → at_ + q = p → Ev (fun k => spec_UnRice.l1 k (kk : Int) l (nn : Int) out (p : Int) (q : Int))
        (if l.length < p + onesRun (l.drop p) + 1 + kk then ([], 0, false) else if lowVal ((q : Int) + onesRun (l.drop p)) kk (l.drop (p + onesRun (l.drop p) + 1)) ≤ 2000000000 then unR kk l n (p + onesRun (l.drop p) + 1 + kk) (out ++ [unzig (lowVal ((q : Int) + onesRun (l.drop p)) kk (l.drop (p + onesRun (l.drop p) + 1)))]) else ([], 0, false)) := by
      intro d
      induction d with
      | zero =>
        intro p q hpd hq
        refine Ev.succ ?_
        simp only [spec_UnRice.l1]
        refine Ev.neg (by omega) ((j3 p q hq (by omega) (fun h => by omega)).to ?_)
        rw [onesRun_stop (fun h => by omega)]
        simp
      | succ d ihd =>
        intro p q hpd hq
        refine Ev.succ ?_
        simp only [spec_UnRice.l1]
        refine Ev.pos (by omega) (Ev.pos (by omega) ?_)
        by_cases h1 : rd l p = 1
        · rw [w64_add (by omega) (by omega), w64_add (by omega) (by omega)]
          refine Ev.pos h1 (Ev.pos (by omega) ((ihd (p + 1) (q + 1) (by omega) (by omega)).to ?_))
          rw [onesRun_drop (by omega) h1, show p + 1 + onesRun (l.drop (p + 1)) = p + (onesRun (l.drop (p + 1)) + 1) by omega, show (((q + 1 : Nat) : Int) + onesRun (l.drop (p + 1))) = (q : Int) + ((onesRun (l.drop (p + 1)) + 1 : Nat) : Int) by omega]
        · refine Ev.neg h1 ((j3 p q hq (by omega) (fun _ => h1)).to ?_)
          rw [onesRun_stop (fun _ => h1)]
          simp
    refine Ev.succ ?_
    simp only [spec_UnRice.l0]
    refine Ev.pos (by omega) ((l1 (l.length - at_) at_ 0 (by omega) (by omega)).to ?_)
    simp only [unR]
    simp
theorem sUnRice_no (kk : Nat) (hk : kk ≤ 30) (l : List Int) (hl : l.length ≤ 1048576) (j : Nat) (hj : j < l.length) (hb : ¬ (rd l j = 0 ∨ rd l j = 1)) (nn : Nat) (hn : nn ≤ 128) : ∀ (n at_ : Nat) (out : List Int), out.length + n = nn → at_ ≤ j → Ev (fun k => spec_UnRice.l0 k (kk : Int) l (nn : Int) out (at_ : Int)) ([], 0, false) := by
  have ne : ∀ p : Nat, p ≤ j → (rd l p = 0 ∨ rd l p = 1) → p + 1 ≤ j := fun p h1 h2 => by
    rcases Nat.lt_or_ge p j with h | h
    · omega
    · have : p = j := by omega
      subst this; exact absurd h2 hb
  intro n
  induction n with
  | zero =>
    intro at_ out ho ha
    have l3 : ∀ (d i : Nat), i + d = j → Ev (fun k => spec_UnRice.l3 k l out (at_ : Int) (i : Int)) ([], 0, false) := by
      intro d
      induction d with
      | zero =>
        intro i hi
        have : i = j := by omega
        subst this
        refine Ev.succ ?_
        simp only [spec_UnRice.l3, l1In_eq, Option.bind_some]
        exact Ev.pos (by omega) (Ev.pos (by omega) (Ev.neg (by simp; omega) (Ev.some_ rfl)))
      | succ d ihd =>
        intro i hi
        refine Ev.succ ?_
        simp only [spec_UnRice.l3, l1In_eq, Option.bind_some]
        rw [w64_add (by omega) (by omega)]
        refine Ev.pos (by omega) (Ev.pos (by omega) ?_)
        by_cases h1 : 0 ≤ rd l i ∧ rd l i ≤ 1
        · exact Ev.pos (by simp; omega) (ihd (i + 1) (by omega))
        · exact Ev.neg (by simp; omega) (Ev.some_ rfl)
    refine Ev.succ ?_
    simp only [spec_UnRice.l0]
    exact Ev.neg (by omega) (l3 (j - at_) at_ (by omega))
  | succ n ih =>
    intro at_ out ho ha
    have bad : ∀ (p : Nat) (u : Int), Ev (fun k => spec_UnRice.j4 k (kk : Int) l (nn : Int) out (p : Int) u true) ([], 0, false) := fun p u => by
      refine Ev.succ ?_
      simp only [spec_UnRice.j4]
      exact Ev.pos trivial (Ev.some_ rfl)
    have l2 : ∀ (b c p : Nat) (u : Int), c + b = kk → p ≤ j → Ev (fun k => spec_UnRice.l2 k (kk : Int) l (nn : Int) out (p : Int) u (c : Int)) ([], 0, false) := by
      intro b
      induction b with
      | zero =>
        intro c p u hc hpl
        refine Ev.succ ?_
        simp only [spec_UnRice.l2]
        refine Ev.neg (by omega) ?_
        refine Ev.both (fun _ => Ev.some_ rfl) (fun _ => Ev.both (fun _ => Ev.pos (by omega) ?_) (fun _ => Ev.pos (by omega) ?_))
        · exact ih p _ (by simp; omega) hpl
        · exact ih p _ (by simp; omega) hpl
      | succ b ihb =>
        intro c p u hc hpl
        refine Ev.succ ?_
        simp only [spec_UnRice.l2, l1In_eq, Option.bind_some]
        refine Ev.pos (by omega) (Ev.neg (by omega) (Ev.pos (by omega) (Ev.pos (by omega) ?_)))
        by_cases h1 : 0 ≤ rd l p ∧ rd l p ≤ 1
        · rw [w64_add (by omega) (by omega), w64_add (by omega) (by omega)]
          exact Ev.pos (by simp; omega) (ihb (c + 1) (p + 1) _ (by omega) (ne p hpl (by omega)))
        · exact Ev.neg (by simp; omega) (Ev.some_ rfl)
    have j3 : ∀ (p : Nat) (q : Int), p ≤ j → Ev (fun k => spec_UnRice.j3 k (kk : Int) l (nn : Int) out (p : Int) q) ([], 0, false) := by
      intro p q hpl
      refine Ev.succ ?_
      simp only [spec_UnRice.j3]
      refine Ev.neg (by omega) (Ev.pos (by omega) (Ev.pos (by omega) ?_))
      by_cases h0 : rd l p = 0
      · refine Ev.pos h0 ?_
        rw [wu64 (by omega) (by omega)]
        refine Ev.pos (by omega) ?_
        cases hq : decide (q > shr .i64 2000000000 (kk : Int)) with
        | true => exact bad _ _
        | false =>
          refine Ev.succ ?_
          simp only [spec_UnRice.j4]
          rw [w64_add (by omega) (by omega)]
          exact Ev.neg (by simp) (l2 kk 0 (p + 1) q (by omega) (ne p hpl (.inl h0)))
      · exact Ev.neg h0 (bad _ _)
    have l1 : ∀ (d p : Nat) (q : Int), p + d = j → Ev (fun k => spec_UnRice.l1 k (kk : Int) l (nn : Int) out (p : Int) q) ([], 0, false) := by
      intro d
      induction d with
      | zero =>
        intro p q hpd
        have : p = j := by omega
        subst this
        refine Ev.succ ?_
        simp only [spec_UnRice.l1]
        exact Ev.pos (by omega) (Ev.pos (by omega) (Ev.neg (fun h => hb (.inr h)) (j3 p q (by omega))))
      | succ d ihd =>
        intro p q hpd
        refine Ev.succ ?_
        simp only [spec_UnRice.l1]
        refine Ev.pos (by omega) (Ev.pos (by omega) ?_)
        rw [w64_add (by omega) (by omega)]
        exact Ev.both (fun h1 => Ev.both (fun _ => ihd (p + 1) _ (by omega)) (fun _ => j3 p q (by omega))) (fun _ => j3 p q (by omega))
    refine Ev.succ ?_
    simp only [spec_UnRice.l0]
    exact Ev.pos (by omega) (l1 (j - at_) at_ 0 (by omega))
theorem sUnRice_ev (kk : Int) (l : List Int) (n : Int) (hl : l.length ≤ 1048576) : Ev (fun k => spec_UnRice.f k kk l n) (unRiceOf kk l n) := by
  have bad : Ev (fun k => spec_UnRice.j0 k kk l n [] true) ([], 0, false) := by
    refine Ev.succ ?_
    simp only [spec_UnRice.j0]
    exact Ev.pos trivial (Ev.some_ rfl)
  unfold spec_UnRice.f unRiceOf
  simp only [l1In_eq, Option.bind_some]
  by_cases hk : 0 ≤ kk ∧ kk ≤ 30
  · refine Ev.pos (by simp; omega) ?_
    by_cases hn : 0 ≤ n ∧ n ≤ 128
    · rw [show (!(decide (0 ≤ n) && decide (n ≤ 128))) = false by simp; omega]
      obtain ⟨m, rfl⟩ := Int.eq_ofNat_of_zero_le hk.1
      obtain ⟨c, rfl⟩ := Int.eq_ofNat_of_zero_le hn.1
      rw [Int.toNat_natCast, Int.toNat_natCast]
      refine Ev.succ ?_
      simp only [spec_UnRice.j0]
      refine Ev.neg (by simp) ?_
      by_cases hb : l.all bitOk = true
      · rw [if_pos ⟨hk, hn, hb⟩]
        exact sUnRice_yes m (by omega) l hl (allBits_iff.1 hb) c (by omega) c 0 [] (by simp) (by omega)
      · rw [if_neg (fun h => hb h.2.2)]
        have : ∃ x ∈ l, ¬ (x = 0 ∨ x = 1) := Classical.byContradiction fun hn => hb (allBits_iff.2 (fun x hx => Classical.byContradiction fun hx2 => hn ⟨x, hx, hx2⟩))
        obtain ⟨x, hx, hx2⟩ := this
        obtain ⟨j, hj, hjx⟩ := List.getElem_of_mem hx
        exact sUnRice_no m (by omega) l hl j hj (by rw [rd_get l j hj, hjx]; exact hx2) c (by omega) c 0 [] (by simp) (by omega)
    · rw [if_neg (fun h => hn h.2.1), show (!(decide (0 ≤ n) && decide (n ≤ 128))) = true by simp; omega]; exact bad
  · rw [if_neg (fun h => hk h.1)]; exact Ev.neg (by simp; omega) bad
theorem isBit_eq (a : Int) : impl_isBit.f a = some (decide (a = 0 ∨ a = 1)) := by
  unfold impl_isBit.f
  by_cases h : a = 0
  · simp [h]
  · rw [if_neg h]; simp [h]; by_cases h1 : a = 1 <;> simp [h1]
theorem sample_eq (a : Int) : impl_sample.f a = some (decide (-1000000000 ≤ a ∧ a ≤ 1000000000)) := by
  unfold impl_sample.f
  by_cases h : a ≥ -1000000000 <;> simp [h]
theorem riceK_eq (a : Int) : impl_riceK.f a = some (decide (0 ≤ a ∧ a ≤ 30)) := by
  unfold impl_riceK.f
  by_cases h : a ≥ 0 <;> simp [h]
theorem iunRice_l0 (kk : Nat) (hk : kk ≤ 30) (l : List Int) (hl : l.length ≤ 1048576) (hb : ∀ x ∈ l, x = 0 ∨ x = 1) (nn : Nat) (hn : nn ≤ 128) : ∀ (n at_ : Nat) (out : List Int) (i : Nat), i + n = nn → out.length = i → at_ ≤ l.length → Ev (fun k => impl_unRice.l0 k (kk : Int) l out (at_ : Int) (nn : Int) (i : Int)) (unR kk l n at_ out) := by
  have bit : ∀ i : Nat, i < l.length → rd l i = 0 ∨ rd l i = 1 := fun i hi => hb _ (rd_mem hi)
  intro n
  induction n with
  | zero =>
    intro at_ out i hi ho ha
    refine Ev.succ ?_
    simp only [impl_unRice.l0]
    exact Ev.neg (by omega) (Ev.some_ rfl)
  | succ n ih =>
    intro at_ out i hi ho ha
    have l2 : ∀ (b c p : Nat) (u : Int), c + b = kk → 0 ≤ u → u < 4000000 * 2 ^ c → p + b ≤ l.length → Ev (fun k => impl_unRice.l2 k (kk : Int) l out (p : Int) u (nn : Int) (i : Int) (kk : Int) (c : Int))
        (if lowVal u b (l.drop p) ≤ 2000000000 then unR kk l n (p + b) (out ++ [unzig (lowVal u b (l.drop p))]) else ([], 0, false)) := by
      intro b
      induction b with
      | zero =>
        intro c p u hc hu hub hpl
        have hcc : (2 : Int) ^ c ≤ 2 ^ 30 := by
          have : (2 : Nat) ^ c ≤ 2 ^ 30 := Nat.pow_le_pow_right (by omega) (by omega)
          exact_mod_cast this
        have hub2 : u < 4000000 * 2 ^ 30 := Int.lt_of_lt_of_le hub (Int.mul_le_mul_of_nonneg_left hcc (by omega))
        refine Ev.succ ?_
        simp only [impl_unRice.l2]
        refine Ev.neg (by omega) ?_
        rw [show lowVal u 0 (l.drop p) = u from rfl, Int.tmod_eq_emod_of_nonneg hu, Int.tdiv_eq_ediv_of_nonneg hu, w64 (n := u / 2) (by omega) (by omega), w64 (n := -(u / 2)) (by omega) (by omega), w64 (n := -(u / 2) - 1) (by omega) (by omega), w64_add (by omega) (by omega)]
        simp only [sample_eq, Option.bind_some]
        by_cases h3 : u % 2 = 1
        · refine Ev.pos h3 ?_
          by_cases h2 : u ≤ 2000000000
          · rw [if_pos h2]
            refine Ev.pos (by simp; omega) (Ev.pos (by omega) ?_)
            exact (ih p (out ++ [-(u / 2) - 1]) (i + 1) (by omega) (by simp; omega) (by omega)).to (by simp [unzig, h3])
          · rw [if_neg h2]; exact Ev.neg (by simp; omega) (Ev.some_ rfl)
        · refine Ev.neg h3 ?_
          by_cases h2 : u ≤ 2000000000
          · rw [if_pos h2]
            refine Ev.pos (by simp; omega) (Ev.pos (by omega) ?_)
            exact (ih p (out ++ [u / 2]) (i + 1) (by omega) (by simp; omega) (by omega)).to (by simp [unzig, h3])
          · rw [if_neg h2]; exact Ev.neg (by simp; omega) (Ev.some_ rfl)
      | succ b ihb =>
        intro c p u hc hu hub hpl
        have hcc : (2 : Int) ^ c ≤ 2 ^ 30 := by
          have : (2 : Nat) ^ c ≤ 2 ^ 30 := Nat.pow_le_pow_right (by omega) (by omega)
          exact_mod_cast this
        have hub2 : u < 4000000 * 2 ^ 30 := Int.lt_of_lt_of_le hub (Int.mul_le_mul_of_nonneg_left hcc (by omega))
        have := bit p (by omega)
        refine Ev.succ ?_
        simp only [impl_unRice.l2]
        refine Ev.pos (by omega) (Ev.pos (by omega) (Ev.pos (by omega) ?_))
        rw [w64_add (by omega) (by omega), w64_add (by omega) (by omega), w64 (n := u * 2) (by omega) (by omega), w64 (by omega) (by omega)]
        have e2 : (2 : Int) ^ (c + 1) = 2 * 2 ^ c := by rw [Int.pow_succ]; omega
        rw [show u * 2 + rd l p = 2 * u + rd l p by omega]
        refine (ihb (c + 1) (p + 1) (2 * u + rd l p) (by omega) (by omega) (by rw [e2]; omega) (by omega)).to ?_
        rw [drop_rd (xs := l) (i := p) (by omega), show lowVal u (b + 1) (rd l p :: l.drop (p + 1)) = lowVal (2 * u + rd l p) b (l.drop (p + 1)) from rfl, show p + 1 + b = p + (b + 1) by omega]
    have j2 : ∀ (p q : Nat), at_ + q = p → p ≤ l.length → Ev (fun k => impl_unRice.j2 k (kk : Int) l out (p : Int) (q : Int) (nn : Int) (i : Int))
        (if l.length < p + 1 + kk then ([], 0, false) else if lowVal q kk (l.drop (p + 1)) ≤ 2000000000 then unR kk l n (p + 1 + kk) (out ++ [unzig (lowVal q kk (l.drop (p + 1)))]) else ([], 0, false)) := by
      intro p q hq hpl
      refine Ev.succ ?_
      simp only [impl_unRice.j2]
      rw [w64 (n := (l.length : Int) - p) (by omega) (by omega), w64 (n := 1 + (kk : Int)) (by omega) (by omega), w64_add (by omega) (by omega)]
      by_cases h1 : l.length < p + 1 + kk
      · rw [if_pos h1]; exact Ev.pos (by omega) (Ev.some_ rfl)
      · rw [if_neg h1]; exact Ev.neg (by omega) (l2 kk 0 (p + 1) q (by omega) (by omega) (by simp; omega) (by omega))
    have l1 : ∀ (d p q : Nat), p + d = l.length → at_ + q = p → Ev (fun k => impl_unRice.l1 k (kk : Int) l out (p : Int) (q : Int) (nn : Int) (i : Int))
        (if l.length < p + onesRun (l.drop p) + 1 + kk then ([], 0, false) else if lowVal ((q : Int) + onesRun (l.drop p)) kk (l.drop (p + onesRun (l.drop p) + 1)) ≤ 2000000000 then unR kk l n (p + onesRun (l.drop p) + 1 + kk) (out ++ [unzig (lowVal ((q : Int) + onesRun (l.drop p)) kk (l.drop (p + onesRun (l.drop p) + 1)))]) else ([], 0, false)) := by
      intro d
      induction d with
      | zero =>
        intro p q hpd hq
        refine Ev.succ ?_
        simp only [impl_unRice.l1]
        refine Ev.neg (by omega) ((j2 p q hq (by omega)).to ?_)
        rw [onesRun_stop (fun h => by omega)]
        simp
      | succ d ihd =>
        intro p q hpd hq
        refine Ev.succ ?_
        simp only [impl_unRice.l1]
        refine Ev.pos (by omega) (Ev.pos (by omega) ?_)
        by_cases h1 : rd l p = 1
        · rw [w64_add (by omega) (by omega), w64_add (by omega) (by omega)]
          refine Ev.pos h1 ((ihd (p + 1) (q + 1) (by omega) (by omega)).to ?_)
          rw [onesRun_drop (by omega) h1, show p + 1 + onesRun (l.drop (p + 1)) = p + (onesRun (l.drop (p + 1)) + 1) by omega, show (((q + 1 : Nat) : Int) + onesRun (l.drop (p + 1))) = (q : Int) + ((onesRun (l.drop (p + 1)) + 1 : Nat) : Int) by omega]
        · refine Ev.neg h1 ((j2 p q hq (by omega)).to ?_)
          rw [onesRun_stop (fun _ => h1)]
          simp
    refine Ev.succ ?_
    simp only [impl_unRice.l0]
    refine Ev.pos (by omega) ((l1 (l.length - at_) at_ 0 (by omega) (by omega)).to ?_)
    simp only [unR]
    simp
theorem iunRice_ev (kk : Nat) (hk : kk ≤ 30) (l : List Int) (hl : l.length ≤ 1048576) (hb : ∀ x ∈ l, x = 0 ∨ x = 1) (n : Nat) (hn : n ≤ 128) : Ev (fun k => impl_unRice.f k (kk : Int) l (n : Int)) (unR kk l n 0 []) :=
  iunRice_l0 kk hk l hl hb n hn n 0 [] 0 (by omega) rfl (by omega)
theorem iUnRice_ev (kk : Int) (l : List Int) (n : Int) (hl : l.length ≤ 1048576) : Ev (fun k => impl_UnRice.f k kk l n) (unRiceOf kk l n) := by
  have bad : Ev (fun k => impl_UnRice.j0 k kk l n true) ([], 0, false) := by
    refine Ev.succ ?_
    simp only [impl_UnRice.j0]
    exact Ev.pos trivial (Ev.some_ rfl)
  unfold impl_UnRice.f unRiceOf
  simp only [riceK_eq, Option.bind_some]
  by_cases hk : 0 ≤ kk ∧ kk ≤ 30
  · refine Ev.pos (by simp; omega) ?_
    by_cases hn0 : n < 0
    · rw [if_neg (by omega)]; exact Ev.pos hn0 bad
    · refine Ev.neg hn0 ?_
      by_cases hn : 0 ≤ n ∧ n ≤ 128
      · rw [show decide (n > 128) = false by simp; omega]
        obtain ⟨m, rfl⟩ := Int.eq_ofNat_of_zero_le hk.1
        obtain ⟨c, rfl⟩ := Int.eq_ofNat_of_zero_le hn.1
        rw [Int.toNat_natCast, Int.toNat_natCast]
        have hl0 : ∀ (d i : Nat), i + d = l.length → (∀ x ∈ l.take i, x = 0 ∨ x = 1) → Ev (fun k => impl_UnRice.l0 k (m : Int) l (c : Int) l (l.length : Int) (i : Int)) (if l.all bitOk = true then unR m l c 0 [] else ([], 0, false)) := by
          intro d
          induction d with
          | zero =>
            intro i hi hp
            rw [List.take_of_length_le (by omega)] at hp
            refine Ev.succ ?_
            simp only [impl_UnRice.l0]
            rw [if_pos (allBits_iff.2 hp)]
            exact Ev.neg (by omega) (Ev.next (iunRice_ev m (by omega) l hl hp c (by omega)) (Ev.some_ rfl))
          | succ d ihd =>
            intro i hi hp
            refine Ev.succ ?_
            simp only [impl_UnRice.l0, isBit_eq, Option.bind_some]
            refine Ev.pos (by omega) (Ev.pos (by omega) (Ev.pos (by omega) ?_))
            by_cases h1 : rd l i = 0 ∨ rd l i = 1
            · rw [w64_add (by omega) (by omega)]
              refine Ev.pos (by simp [h1]) (ihd (i + 1) (by omega) (fun x hx => ?_))
              rw [take_rd (by omega)] at hx
              rcases List.mem_append.1 hx with hx | hx
              · exact hp x hx
              · rw [List.mem_singleton.1 hx]; exact h1
            · rw [if_neg (fun h => h1 (allBits_iff.1 h _ (rd_mem (by omega))))]
              exact Ev.neg (by simp [h1]) (Ev.some_ rfl)
        refine Ev.succ ?_
        simp only [impl_UnRice.j0]
        refine Ev.neg (by simp) ((hl0 l.length 0 (by omega) (by simp)).to ?_)
        by_cases hb : l.all bitOk = true
        · rw [if_pos hb, if_pos ⟨hk, hn, hb⟩]
        · rw [if_neg hb, if_neg (fun h => hb h.2.2)]
      · rw [if_neg (fun h => hn h.2.1), show decide (n > 128) = true by simp; omega]; exact bad
  · rw [if_neg (fun h => hk h.1)]; exact Ev.neg (by simp; omega) bad
theorem unR_len (kk : Nat) (l : List Int) : ∀ (n at_ : Nat) (out : List Int), (unR kk l n at_ out).1.length ≤ out.length + n
  | 0, at_, out => by simp [unR]
  | n + 1, at_, out => by
    simp only [unR]
    split
    · simp
    · split
      · have := unR_len kk l n (at_ + onesRun (l.drop at_) + 1 + kk) (out ++ [unzig (lowVal (onesRun (l.drop at_)) kk (l.drop (at_ + onesRun (l.drop at_) + 1)))])
        simp only [List.length_append, List.length_cons, List.length_nil] at this
        omega
      · simp
theorem unRiceOf_len (kk : Int) (l : List Int) (n : Int) : (unRiceOf kk l n).1.length ≤ 128 := by
  unfold unRiceOf
  split
  · rename_i h
    have := unR_len kk.toNat l n.toNat 0 []
    simp only [List.length_nil] at this
    omega
  · simp
theorem FnExactUnRice (kk : Int) (l : List Int) (n : Int) (w0 : (Lit.int .i64 kk).wf = true) (m1 : l.length ≤ maxLen) (w1 : ∀ x ∈ l, (Lit.int .i64 x).wf = true) (w2 : (Lit.int .i64 n).wf = true) : ∃ k, laws_FnExactUnRice.f k kk l n = some true := by
  refine Ev.rounds ?_
  unfold laws_FnExactUnRice.f
  by_cases hl : (l.length : Int) > 1048576
  · exact Ev.pos hl (Ev.some_ rfl)
  have hg := unRiceOf_len kk l n
  have ti := toIntS_ev l (by omega)
  have si := sUnRice_ev kk l n (by omega)
  have ii := iUnRice_ev kk l n (by omega)
  have ee := eqIntS_ev (unRiceOf kk l n).1 (unRiceOf kk l n).1 (by omega)
  refine Ev.neg hl (Ev.next ti (Ev.next si (Ev.next ti (Ev.next ii (Ev.next ee (Ev.pos (by simp) (Ev.pos rfl ?_)))))))
  refine Ev.succ ?_
  simp only [laws_FnExactUnRice.j0]
  refine Ev.neg (by simp) (Ev.next ti (Ev.next (eqIntS_ev l l (by omega)) (Ev.pos (by simp) (Ev.next (markIntS_ev l 1 (by omega) (by omega) (by omega)) (Ev.neg (by simp only; omega) (Ev.next ee (Ev.pos (by simp) (Ev.pos (by simp) ?_))))))))
  refine Ev.succ ?_
  simp only [laws_FnExactUnRice.j1]
  have hh := heldIntS_ev (unRiceOf kk l n).1.length 1 (by omega) (by omega) (by omega)
  refine Ev.neg (by simp) (Ev.next (markIntS_ev (unRiceOf kk l n).1 1 (by omega) (by omega) (by omega)) (Ev.next hh (Ev.neg (by omega) (Ev.pos rfl (Ev.next ti (Ev.next ii (Ev.next ee (Ev.pos (by simp) (Ev.pos rfl ?_)))))))))
  refine Ev.succ ?_
  simp only [laws_FnExactUnRice.j2]
  exact Ev.neg (by simp) (Ev.next hh (Ev.neg (by omega) (Ev.pos rfl (Ev.some_ rfl))))
end Go.Proofs.Ytnmglbdhnegebaa.Pure
