/- For every list of whole numbers the law FnExactBestRice answers true; no condition beside what its parameters are. -/
import Derived.Test.YtbllkldpipmalaaPFnExactBestRicex2
import Derived.Test.YtbllkldpipmalaaAid
set_option linter.unusedVariables false
set_option linter.unusedSimpArgs false
namespace Go.Proofs.Ytbllkldpipmalaa.Pure
open Go Go.RowKit Go.Proofs.Ytbllkldpipmalaa.PFnExactBestRice Go.Proofs.YtbllkldpipmalaaW.PrintWords Go.Proofs.YtbllkldpipmalaaW.PrintLast Go.Proofs.YtbllkldpipmalaaW.PrintMore
theorem toIntS_l0 (l : List Int) (hl : l.length ≤ 35184372088832) : ∀ (d i : Nat) (acc : List Int), i + d = l.length → acc.length = l.length → acc.take i = l.take i → Ev (fun k => laws_toIntS.l0 k l acc (i : Int)) l := by
  intro d
  induction d with
  | zero =>
    intro i acc h h1 h2
    refine Ev.round (f := fun _ => some acc) (Ev.some_ ?_) (fun k => by simp only [laws_toIntS.l0]; rw [if_neg (by omega)])
    rw [List.take_of_length_le (by omega), List.take_of_length_le (by omega)] at h2
    exact h2
  | succ d ih =>
    intro i acc h h1 h2
    have hi : i < l.length := by omega
    refine Ev.round (ih (i + 1) (acc.set i (rd l i)) (by omega) (by simp [h1]) ?_) (fun k => ?_)
    · rw [take_rd hi, ← h2]; exact take_set_end (by omega) _
    · simp only [laws_toIntS.l0]
      rw [if_pos (by omega), if_pos (by omega), if_pos (by omega), w64_add (by omega) (by omega)]
      simp
theorem toIntS_ev (l : List Int) (hl : l.length ≤ 35184372088832) : Ev (fun k => laws_toIntS.f k l) l := by
  unfold laws_toIntS.f
  refine Ev.pos (by omega) (Ev.pos (by omega) ?_)
  exact toIntS_l0 l hl l.length 0 _ (by omega) (by simp) (by simp)
theorem eqIntS_l0 (a b : List Int) (h : a.length = b.length) (hl : a.length ≤ 35184372088832) : ∀ (d i : Nat), i + d = a.length → Ev (fun k => laws_eqIntS.l0 k a b (i : Int)) (decide (a.drop i = b.drop i)) := by
  intro d
  induction d with
  | zero =>
    intro i hi
    refine Ev.round (f := fun _ => some true) (Ev.some_ ?_) (fun k => by simp only [laws_eqIntS.l0]; rw [if_neg (by omega)])
    rw [List.drop_of_length_le (by omega), List.drop_of_length_le (by omega)]; simp
  | succ d ih =>
    intro i hi
    by_cases he : rd a i = rd b i
    · refine (Ev.round (ih (i + 1) (by omega)) (fun k => ?_)).to ?_
      · simp only [laws_eqIntS.l0]
        rw [if_pos (by omega), if_pos (by omega), if_pos (by omega), if_pos he, w64_add (by omega) (by omega)]; simp
      · rw [drop_rd (xs := a) (i := i) (by omega), drop_rd (xs := b) (i := i) (by omega), he]; simp
    · refine (Ev.round (f := fun _ => some false) (Ev.some_ rfl) (fun k => ?_)).to ?_
      · simp only [laws_eqIntS.l0]
        rw [if_pos (by omega), if_pos (by omega), if_pos (by omega), if_neg he]
      · rw [drop_rd (xs := a) (i := i) (by omega), drop_rd (xs := b) (i := i) (by omega)]; simp [he]
theorem eqIntS_ev (a b : List Int) (hl : a.length ≤ 35184372088832) : Ev (fun k => laws_eqIntS.f k a b) (decide (a = b)) := by
  unfold laws_eqIntS.f
  by_cases h : a.length = b.length
  · exact Ev.pos (by omega) (eqIntS_l0 a b h hl a.length 0 (by omega))
  · exact (Ev.neg (by omega) (Ev.some_ rfl)).to (by simp; intro e; exact h (by rw [e]))
def zig (x : Int) : Int := if x < 0 then -2 * x - 1 else 2 * x
theorem zig_bd {x : Int} (h0 : -1000000000 ≤ x) (h1 : x ≤ 1000000000) : 0 ≤ zig x ∧ zig x ≤ 2000000000 := by unfold zig; split <;> omega
def riceSz (k : Nat) : List Int → Int
  | [] => 0
  | x :: l => riceSz k l + (zig x / 2 ^ k + 1 + k)
theorem riceSz_bd (k : Nat) (hk : k ≤ 30) : ∀ (l : List Int), (∀ x ∈ l, -1000000000 ≤ x ∧ x ≤ 1000000000) → 0 ≤ riceSz k l ∧ riceSz k l ≤ l.length * 2000000031
  | [], _ => by simp [riceSz]
  | x :: l, h => by
    have ih := riceSz_bd k hk l (fun y hy => h y (by simp [hy]))
    have hx := h x (by simp)
    have hz := zig_bd hx.1 hx.2
    have hp : (0 : Int) < 2 ^ k := Int.pow_pos (by omega)
    have h1 : 0 ≤ zig x / 2 ^ k := Int.ediv_nonneg hz.1 (by omega)
    have h2 : zig x / 2 ^ k ≤ zig x := Int.ediv_le_self _ hz.1
    simp only [riceSz, List.length_cons]
    omega
theorem shr_small {x : Int} {k : Nat} (hk : k ≤ 62) : shr .i64 x (k : Int) = x / 2 ^ k := by
  unfold shr
  rw [show min ((k : Int).toNat) IntKind.i64.bits = k by simp [IntKind.bits]; omega]
def allIn (a : Int) (l : List Int) : Bool := l.all fun x => decide (-a ≤ x) && decide (x ≤ a)
theorem allIn_iff {a : Int} {l : List Int} : allIn a l = true ↔ ∀ x ∈ l, -a ≤ x ∧ x ≤ a := by
  unfold allIn; simp [List.all_eq_true]
def bestGo (f : Nat → Int) : Nat → Nat → Int → Int → Int × Int
  | 0, _, b, m => (b, m)
  | d + 1, i, b, m => if f i ≤ 100000 ∧ (b < 0 ∨ f i < m) then bestGo f d (i + 1) i (f i) else bestGo f d (i + 1) b m
def bestOf (l : List Int) : Int × Int := if l.length ≤ 128 ∧ allIn 1000000000 l = true then bestGo (fun k => riceSz k l) 31 0 (-1) 0 else (-1, 0)
theorem folded_eq {x : Int} (h0 : -1000000000 ≤ x) (h1 : x ≤ 1000000000) : impl_folded.f x = some (zig x) := by
  unfold impl_folded.f zig
  by_cases h : x < 0
  · rw [if_pos h, if_pos h, w64 (n := -2 * x) (by omega) (by omega), w64 (by omega) (by omega)]
  · rw [if_neg h, if_neg h, w64 (by omega) (by omega)]
theorem riceSize_l0 (kk : Nat) (hk : kk ≤ 30) (l : List Int) (hl : l.length ≤ 1048576) (hw : ∀ x ∈ l, -1000000000 ≤ x ∧ x ≤ 1000000000) : ∀ (d i : Nat) (s : Int), i + d = l.length → 0 ≤ s → s ≤ i * 2000000031 → Ev (fun k => impl_riceSize.l0 k (kk : Int) s l (l.length : Int) (i : Int)) (s + riceSz kk (l.drop i)) := by
  intro d
  induction d with
  | zero =>
    intro i s hi _ _
    refine (Ev.round (f := fun _ => some s) (Ev.some_ rfl) (fun k => by simp only [impl_riceSize.l0]; rw [if_neg (by omega)])).to ?_
    rw [List.drop_of_length_le (by omega)]; simp [riceSz]
  | succ d ih =>
    intro i s hi hs hs'
    have hx := hw _ (rd_mem (xs := l) (i := i) (by omega))
    have hz := zig_bd hx.1 hx.2
    have hp : (0 : Int) < 2 ^ kk := Int.pow_pos (by omega)
    have h1 : 0 ≤ zig (rd l i) / 2 ^ kk := Int.ediv_nonneg hz.1 (by omega)
    have h2 : zig (rd l i) / 2 ^ kk ≤ zig (rd l i) := Int.ediv_le_self _ hz.1
    rw [drop_rd (xs := l) (i := i) (by omega)]
    refine (Ev.round (ih (i + 1) (s + (zig (rd l i) / 2 ^ kk + 1 + kk)) (by omega) (by omega) (by omega)) (fun k => ?_)).to ?_
    · simp only [impl_riceSize.l0]
      rw [if_pos (by omega), if_pos (by omega), if_pos (by omega), folded_eq hx.1 hx.2]
      simp only [Option.bind_some]
      rw [if_pos (by omega), shr_small (by omega), w64_add (i := (i : Int)) (by omega) (by omega), w64 (n := _ + 1) (by omega) (by omega), w64 (n := _ + (kk : Int)) (by omega) (by omega), w64 (by omega) (by omega)]
      simp
    · simp only [riceSz]; omega
theorem riceSize_ev (kk : Nat) (hk : kk ≤ 30) (l : List Int) (hl : l.length ≤ 1048576) (hw : ∀ x ∈ l, -1000000000 ≤ x ∧ x ≤ 1000000000) : Ev (fun k => impl_riceSize.f k (kk : Int) l) (riceSz kk l) :=
  (riceSize_l0 kk hk l hl hw l.length 0 0 (by omega) (by omega) (by omega)).to (by simp)
theorem within_l0 (l : List Int) (a : Int) (ha : 0 ≤ a) (ha' : a ≤ 9000000000000000000) (hl : l.length ≤ 35184372088832) : ∀ (d i : Nat), i + d = l.length → Ev (fun k => impl_within.l0 k a l (l.length : Int) (i : Int)) (allIn a (l.drop i)) := by
  intro d
  induction d with
  | zero =>
    intro i hi
    refine (Ev.round (f := fun _ => some true) (Ev.some_ rfl) (fun k => by simp only [impl_within.l0]; rw [if_neg (by omega)])).to ?_
    rw [List.drop_of_length_le (by omega)]; rfl
  | succ d ih =>
    intro i hi
    rw [drop_rd (xs := l) (i := i) (by omega)]
    by_cases h1 : rd l i < -a
    · refine (Ev.round (f := fun _ => some false) (Ev.some_ rfl) (fun k => ?_)).to (by simp [allIn]; intros; omega)
      simp only [impl_within.l0]
      rw [if_pos (by omega), if_pos (by omega), if_pos (by omega), w64 (n := -a) (by omega) (by omega), if_pos h1]
    · by_cases h2 : rd l i > a
      · refine (Ev.round (f := fun _ => some false) (Ev.some_ rfl) (fun k => ?_)).to (by simp [allIn]; intros; omega)
        simp only [impl_within.l0]
        rw [if_pos (by omega), if_pos (by omega), if_pos (by omega), w64 (n := -a) (by omega) (by omega), if_neg h1, if_pos h2]
      · refine (Ev.round (ih (i + 1) (by omega)) (fun k => ?_)).to ?_
        · simp only [impl_within.l0]
          rw [if_pos (by omega), if_pos (by omega), if_pos (by omega), w64 (n := -a) (by omega) (by omega), if_neg h1, if_neg h2, w64_add (by omega) (by omega)]
          simp
        · simp [allIn]; intros; omega
theorem within_ev (l : List Int) (a : Int) (ha : 0 ≤ a) (ha' : a ≤ 9000000000000000000) (hl : l.length ≤ 35184372088832) : Ev (fun k => impl_within.f k l a) (allIn a l) :=
  (within_l0 l a ha ha' hl l.length 0 (by omega)).to (by simp)
theorem iBestRice_l0 (l : List Int) (hl : l.length ≤ 1048576) (hw : ∀ x ∈ l, -1000000000 ≤ x ∧ x ≤ 1000000000) : ∀ (d i : Nat) (b m : Int), i + d = 31 → Ev (fun k => impl_BestRice.l0 k l b m (i : Int)) (bestGo (fun k => riceSz k l) d i b m) := by
  intro d
  induction d with
  | zero =>
    intro i b m hi
    exact (Ev.round (f := fun _ => some (b, m)) (Ev.some_ rfl) (fun k => by simp only [impl_BestRice.l0]; rw [if_neg (by omega)]))
  | succ d ih =>
    intro i b m hi
    refine Ev.round (f := fun k => (impl_riceSize.f k (i : Int) l).bind fun t => if t ≤ 100000 then (if b < 0 then impl_BestRice.l0 k l (i : Int) t ((i + 1 : Nat) : Int) else (if t < m then impl_BestRice.l0 k l (i : Int) t ((i + 1 : Nat) : Int) else impl_BestRice.l0 k l b m ((i + 1 : Nat) : Int))) else impl_BestRice.l0 k l b m ((i + 1 : Nat) : Int)) ?_ (fun k => by simp only [impl_BestRice.l0]; rw [if_pos (by omega), w64_add (by omega) (by omega)]; rfl)
    refine Ev.next (riceSize_ev i (by omega) l hl hw) ?_
    simp only [bestGo]
    by_cases h1 : riceSz i l ≤ 100000
    · refine Ev.pos h1 ?_
      by_cases h2 : b < 0
      · rw [if_pos ⟨h1, .inl h2⟩]; exact Ev.pos h2 (ih (i + 1) _ _ (by omega))
      · refine Ev.neg h2 ?_
        by_cases h3 : riceSz i l < m
        · rw [if_pos ⟨h1, .inr h3⟩]; exact Ev.pos h3 (ih (i + 1) _ _ (by omega))
        · rw [if_neg (by omega)]; exact Ev.neg h3 (ih (i + 1) _ _ (by omega))
    · rw [if_neg (by omega)]; exact Ev.neg h1 (ih (i + 1) _ _ (by omega))
theorem riceOk_ev (l : List Int) (hl : l.length ≤ 1048576) : Ev (fun k => impl_riceOk.f k l) (decide (l.length ≤ 128 ∧ allIn 1000000000 l = true)) := by
  unfold impl_riceOk.f
  by_cases h : l.length ≤ 128
  · exact Ev.pos (by omega) (Ev.next (within_ev l 1000000000 (by omega) (by omega) (by omega)) (Ev.some_ (by simp [h])))
  · exact Ev.neg (by omega) (Ev.some_ (by simp [h]))
theorem iBestRice_ev (l : List Int) (hl : l.length ≤ 1048576) : Ev (fun k => impl_BestRice.f k l) (bestOf l) := by
  unfold impl_BestRice.f bestOf
  refine Ev.next (riceOk_ev l hl) ?_
  by_cases h : l.length ≤ 128 ∧ allIn 1000000000 l = true
  · rw [if_pos h]
    exact Ev.pos (by simp [h]) (iBestRice_l0 l hl (allIn_iff.1 h.2) 31 0 (-1) 0 (by omega))
  · rw [if_neg h]
    exact Ev.neg (by simp; simpa using h) (Ev.some_ rfl)
theorem l1In_eq (a b c : Int) : spec_l1In.f a b c = some (decide (b ≤ a) && decide (a ≤ c)) := by
  unfold spec_l1In.f
  by_cases h : a ≥ b
  · rw [if_pos h]; simp [show b ≤ a from h]
  · rw [if_neg h]; simp [show ¬ b ≤ a from h]
theorem l9Wide_l0 (l : List Int) (a : Int) (ha : 0 ≤ a) (ha' : a ≤ 9000000000000000000) (hl : l.length ≤ 35184372088832) : ∀ (d i : Nat), i + d = l.length → Ev (fun k => spec_l9Wide.l0 k l a (i : Int)) (allIn a (l.drop i)) := by
  intro d
  induction d with
  | zero =>
    intro i hi
    refine (Ev.round (f := fun _ => some true) (Ev.some_ rfl) (fun k => by simp only [spec_l9Wide.l0]; rw [if_neg (by omega)])).to ?_
    rw [List.drop_of_length_le (by omega)]; rfl
  | succ d ih =>
    intro i hi
    rw [drop_rd (xs := l) (i := i) (by omega)]
    by_cases h1 : -a ≤ rd l i ∧ rd l i ≤ a
    · refine (Ev.round (ih (i + 1) (by omega)) (fun k => ?_)).to ?_
      · simp only [spec_l9Wide.l0, l1In_eq, Option.bind_some]
        rw [if_pos (by omega), if_pos (by omega), w64 (n := -a) (by omega) (by omega), if_pos (by simp; omega), w64_add (by omega) (by omega)]
        simp
      · simp [allIn]; intros; omega
    · refine (Ev.round (f := fun _ => some false) (Ev.some_ rfl) (fun k => ?_)).to (by simp [allIn]; intros; omega)
      simp only [spec_l9Wide.l0, l1In_eq, Option.bind_some]
      rw [if_pos (by omega), if_pos (by omega), w64 (n := -a) (by omega) (by omega), if_neg (by simp; omega)]
theorem l9Wide_ev (l : List Int) (a : Int) (ha : 0 ≤ a) (ha' : a ≤ 9000000000000000000) (hl : l.length ≤ 35184372088832) : Ev (fun k => spec_l9Wide.f k l a) (allIn a l) :=
  (l9Wide_l0 l a ha ha' hl l.length 0 (by omega)).to (by simp)
theorem l17Zig_eq {x : Int} (h0 : -1000000000 ≤ x) (h1 : x ≤ 1000000000) : spec_l17Zig.f x = some (zig x) := by
  unfold spec_l17Zig.f zig
  by_cases h : x < 0
  · rw [if_pos h, if_pos h, w64 (n := -2 * x) (by omega) (by omega), w64 (by omega) (by omega)]
  · rw [if_neg h, if_neg h, w64 (by omega) (by omega)]
theorem l17Many_l0 (kk : Nat) (hk : kk ≤ 30) (l : List Int) (hl : l.length ≤ 1048576) (hw : ∀ x ∈ l, -1000000000 ≤ x ∧ x ≤ 1000000000) : ∀ (d i : Nat) (s : Int), i + d = l.length → 0 ≤ s → s ≤ i * 2000000031 → Ev (fun k => spec_l17Many.l0 k (kk : Int) l s (i : Int)) (s + riceSz kk (l.drop i), decide (s + riceSz kk (l.drop i) ≤ 100000)) := by
  intro d
  induction d with
  | zero =>
    intro i s hi _ _
    refine (Ev.round (f := fun _ => some (s, decide (s ≤ 100000))) (Ev.some_ rfl) (fun k => by simp only [spec_l17Many.l0]; rw [if_neg (by omega)])).to ?_
    rw [List.drop_of_length_le (by omega)]; simp [riceSz]
  | succ d ih =>
    intro i s hi hs hs'
    have hx := hw _ (rd_mem (xs := l) (i := i) (by omega))
    have hz := zig_bd hx.1 hx.2
    have hp : (0 : Int) < 2 ^ kk := Int.pow_pos (by omega)
    have h1 : 0 ≤ zig (rd l i) / 2 ^ kk := Int.ediv_nonneg hz.1 (by omega)
    have h2 : zig (rd l i) / 2 ^ kk ≤ zig (rd l i) := Int.ediv_le_self _ hz.1
    rw [drop_rd (xs := l) (i := i) (by omega)]
    refine (Ev.round (ih (i + 1) (s + (zig (rd l i) / 2 ^ kk + 1 + kk)) (by omega) (by omega) (by omega)) (fun k => ?_)).to ?_
    · simp only [spec_l17Many.l0]
      rw [if_pos (by omega), if_pos (by omega), l17Zig_eq hx.1 hx.2]
      simp only [Option.bind_some]
      rw [wu64 (by omega) (by omega), if_pos (by omega), shr_small (by omega), w64_add (i := (i : Int)) (by omega) (by omega), w64 (n := s + _) (by omega) (by omega), w64 (n := _ + 1) (by omega) (by omega), w64 (by omega) (by omega)]
      rw [show s + (zig (rd l i) / 2 ^ kk + 1 + kk) = s + zig (rd l i) / 2 ^ kk + 1 + kk by omega]; simp
    · simp only [riceSz, Prod.mk.injEq]; rw [show s + (zig (rd l i) / 2 ^ kk + 1 + ↑kk) + riceSz kk (l.drop (i + 1)) = s + (riceSz kk (l.drop (i + 1)) + (zig (rd l i) / 2 ^ kk + 1 + ↑kk)) by omega]; exact ⟨rfl, rfl⟩
theorem l17Many_ev (kk : Nat) (hk : kk ≤ 30) (l : List Int) (hl : l.length ≤ 1048576) : Ev (fun k => spec_l17Many.f k (kk : Int) l) (if l.length ≤ 128 ∧ allIn 1000000000 l = true then (riceSz kk l, decide (riceSz kk l ≤ 100000)) else (0, false)) := by
  unfold spec_l17Many.f
  rw [l1In_eq]
  have hc : (decide (0 ≤ (kk : Int)) && decide ((kk : Int) ≤ 30)) = true := by simp; omega
  rw [hc]
  refine Ev.next (Ev.some_ rfl) (Ev.pos rfl ?_)
  by_cases h : l.length ≤ 128
  · refine Ev.neg (by omega) (Ev.next (l9Wide_ev l 1000000000 (by omega) (by omega) (by omega)) ?_)
    cases hb : allIn 1000000000 l
    · rw [if_neg (by simp)]
      exact Ev.round (Ev.some_ rfl) (fun k => by simp only [spec_l17Many.j0]; rfl)
    · rw [if_pos ⟨h, rfl⟩]
      refine Ev.round ((l17Many_l0 kk hk l hl (allIn_iff.1 hb) l.length 0 0 (by omega) (by omega) (by omega)).to (by simp)) (fun k => by simp only [spec_l17Many.j0]; rw [if_neg (by simp)]; rfl)
  · refine Ev.pos (by omega) ?_
    rw [if_neg (by omega)]
    exact Ev.round (Ev.some_ rfl) (fun k => by simp only [spec_l17Many.j0]; rfl)
theorem sBestRice_l0 (l : List Int) (hl : l.length ≤ 1048576) (hw : l.length ≤ 128 ∧ allIn 1000000000 l = true) : ∀ (d i : Nat) (b m : Int), i + d = 31 → Ev (fun k => spec_BestRice.l0 k l b m (i : Int)) (bestGo (fun k => riceSz k l) d i b m) := by
  intro d
  induction d with
  | zero =>
    intro i b m hi
    exact (Ev.round (f := fun _ => some (b, m)) (Ev.some_ rfl) (fun k => by simp only [spec_BestRice.l0]; rw [if_neg (by omega)]))
  | succ d ih =>
    intro i b m hi
    refine Ev.round (f := fun k => (spec_l17Many.f k (i : Int) l).bind fun t => if t.2 = true then (if b < 0 then spec_BestRice.l0 k l (i : Int) t.1 ((i + 1 : Nat) : Int) else (if t.1 < m then spec_BestRice.l0 k l (i : Int) t.1 ((i + 1 : Nat) : Int) else spec_BestRice.l0 k l b m ((i + 1 : Nat) : Int))) else spec_BestRice.l0 k l b m ((i + 1 : Nat) : Int)) ?_ (fun k => by simp only [spec_BestRice.l0]; rw [if_pos (by omega), w64_add (by omega) (by omega)]; rfl)
    refine Ev.next ((l17Many_ev i (by omega) l hl).to (if_pos hw)) ?_
    simp only [bestGo]
    by_cases h1 : riceSz i l ≤ 100000
    · refine Ev.pos (by simp [h1]) ?_
      by_cases h2 : b < 0
      · rw [if_pos ⟨h1, .inl h2⟩]; exact Ev.pos h2 (ih (i + 1) _ _ (by omega))
      · refine Ev.neg h2 ?_
        by_cases h3 : riceSz i l < m
        · rw [if_pos ⟨h1, .inr h3⟩]; exact Ev.pos h3 (ih (i + 1) _ _ (by omega))
        · rw [if_neg (by omega)]; exact Ev.neg h3 (ih (i + 1) _ _ (by omega))
    · rw [if_neg (by omega)]; exact Ev.neg (by simp; omega) (ih (i + 1) _ _ (by omega))
theorem sBestRice_l0_no (l : List Int) (hl : l.length ≤ 1048576) (hw : ¬ (l.length ≤ 128 ∧ allIn 1000000000 l = true)) : ∀ (d i : Nat) (b m : Int), i + d = 31 → Ev (fun k => spec_BestRice.l0 k l b m (i : Int)) (b, m) := by
  intro d
  induction d with
  | zero =>
    intro i b m hi
    exact (Ev.round (f := fun _ => some (b, m)) (Ev.some_ rfl) (fun k => by simp only [spec_BestRice.l0]; rw [if_neg (by omega)]))
  | succ d ih =>
    intro i b m hi
    refine Ev.round (f := fun k => (spec_l17Many.f k (i : Int) l).bind fun t => if t.2 = true then (if b < 0 then spec_BestRice.l0 k l (i : Int) t.1 ((i + 1 : Nat) : Int) else (if t.1 < m then spec_BestRice.l0 k l (i : Int) t.1 ((i + 1 : Nat) : Int) else spec_BestRice.l0 k l b m ((i + 1 : Nat) : Int))) else spec_BestRice.l0 k l b m ((i + 1 : Nat) : Int)) ?_ (fun k => by simp only [spec_BestRice.l0]; rw [if_pos (by omega), w64_add (by omega) (by omega)]; rfl)
    exact Ev.next ((l17Many_ev i (by omega) l hl).to (if_neg hw)) (Ev.neg (by simp) (ih (i + 1) _ _ (by omega)))
theorem sBestRice_ev (l : List Int) (hl : l.length ≤ 1048576) : Ev (fun k => spec_BestRice.f k l) (bestOf l) := by
  unfold spec_BestRice.f bestOf
  by_cases h : l.length ≤ 128 ∧ allIn 1000000000 l = true
  · rw [if_pos h]; exact sBestRice_l0 l hl h 31 0 (-1) 0 (by omega)
  · rw [if_neg h]; exact sBestRice_l0_no l hl h 31 0 (-1) 0 (by omega)
theorem FnExactBestRice (l : List Int) (m0 : l.length ≤ maxLen) (w0 : ∀ x ∈ l, (Lit.int .i64 x).wf = true) : ∃ k, laws_FnExactBestRice.f k l = some true := by
  refine Ev.rounds ?_
  unfold laws_FnExactBestRice.f
  by_cases hl : (l.length : Int) > 1048576
  · exact Ev.pos hl (Ev.some_ rfl)
  refine Ev.neg hl (Ev.next (toIntS_ev l (by omega)) (Ev.next (sBestRice_ev l (by omega)) (Ev.next (toIntS_ev l (by omega)) (Ev.next (iBestRice_ev l (by omega)) (Ev.pos rfl ?_)))))
  refine Ev.round (f := fun k => (laws_toIntS.f k l).bind fun t132 => ((laws_eqIntS.f k l t132).bind fun t135 => (if t135 = true then (some true) else (some false)))) ?_ (fun k => by simp only [laws_FnExactBestRice.j0]; rw [if_neg (by simp)])
  exact Ev.next (toIntS_ev l (by omega)) (Ev.next (eqIntS_ev l l (by omega)) (Ev.pos (by simp) (Ev.some_ rfl)))
end Go.Proofs.Ytbllkldpipmalaa.Pure
