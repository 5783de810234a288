import Derived.Test.YtnmglbdhnegebaaPFnRicedx5
import Derived.Test.YtnmglbdhnegebaaAid
set_option linter.unusedVariables false
set_option linter.unusedSimpArgs false
namespace Go.Proofs.Ytnmglbdhnegebaa.Pure
open Go Go.RowKit Go.Proofs.Ytnmglbdhnegebaa.PFnRiced Go.Proofs.YtnmglbdhnegebaaW.PrintWords Go.Proofs.YtnmglbdhnegebaaW.PrintLast Go.Proofs.YtnmglbdhnegebaaW.PrintMore
theorem l1New_l0 (l : List Int) : ∀ (d i : Nat) (h : Int), i + d = l.length → (i : Int) ≤ 4000 → EvP (fun k => spec_l1New.l0 k l h (i : Int)) (fun r => r.1 = l ∧ r.2.1 = 0) := by
  intro d
  induction d with
  | zero =>
    intro i h hi _
    refine EvP.succ ?_
    simp only [spec_l1New.l0]
    exact EvP.neg (by omega) (EvP.now ⟨rfl, rfl⟩)
  | succ d ih =>
    intro i h hi hi2
    refine EvP.succ ?_
    simp only [spec_l1New.l0]
    refine EvP.pos (by omega) ?_
    by_cases h4 : (i : Int) < 4000
    · rw [w64_add (by omega) (by omega)]
      exact EvP.pos h4 (EvP.pos (by omega) (ih (i + 1) _ (by omega) (by omega)))
    · exact EvP.neg h4 (EvP.now ⟨rfl, rfl⟩)
theorem l1New_ev (l : List Int) : EvP (fun k => spec_l1New.f k l) (fun r => r.1 = l ∧ r.2.1 = 0) := l1New_l0 l l.length 0 _ (by omega) (by omega)
theorem l1Byte_ok (l : List Int) (p h : Int) (h0 : 0 ≤ p) (h1 : p ≤ l.length) (hl : l.length ≤ 1048576) : ∃ r, spec_l1Byte.f l p h = some r ∧ (0 ≤ r.1 ∧ r.1 ≤ 255) ∧ 0 ≤ r.2.1 ∧ r.2.1 ≤ l.length := by
  unfold spec_l1Byte.f
  by_cases hp : p < (l.length : Int)
  · rw [if_pos hp, if_pos h0]
    refine ⟨_, rfl, bits_and_le _ 255 (by omega) (by omega), ?_⟩
    simp only
    rw [w64_add h0 (by omega)]
    omega
  · rw [if_neg hp]
    exact ⟨_, rfl, bits_and_le _ 255 (by omega) (by omega), h0, h1⟩
theorem l1Below_ok (l : List Int) (p h n : Int) (h0 : 0 ≤ p) (h1 : p ≤ l.length) (hl : l.length ≤ 1048576) : ∃ r, spec_l1Below.f l p h n = some r ∧ (0 ≤ r.1 ∧ (r.1 < n ∨ r.1 = 0)) ∧ 0 ≤ r.2.1 ∧ r.2.1 ≤ l.length := by
  unfold spec_l1Below.f
  by_cases hn : n ≤ 0
  · rw [if_pos hn]; exact ⟨_, rfl, ⟨by simp, .inr rfl⟩, h0, h1⟩
  rw [if_neg hn]
  have tm : ∀ x : Int, 0 ≤ x → 0 ≤ Int.tmod x n ∧ Int.tmod x n < n := fun x hx => by
    rw [Int.tmod_eq_emod_of_nonneg hx]
    exact ⟨Int.emod_nonneg _ (by omega), Int.emod_lt_of_pos _ (by omega)⟩
  by_cases h2 : n ≤ 256
  · rw [if_pos h2]
    obtain ⟨r, e, hb, hp⟩ := l1Byte_ok l p h h0 h1 hl
    rw [e]
    simp only [Option.bind_some]
    rw [if_neg (by omega)]
    exact ⟨_, rfl, ⟨(tm _ hb.1).1, .inl (tm _ hb.1).2⟩, hp⟩
  · rw [if_neg h2]
    obtain ⟨r, e, hb, hp⟩ := l1Byte_ok l p h h0 h1 hl
    obtain ⟨r2, e2, hb2, hp2⟩ := l1Byte_ok l r.2.1 r.2.2 hp.1 hp.2 hl
    obtain ⟨r3, e3, hb3, hp3⟩ := l1Byte_ok l r2.2.1 r2.2.2 hp2.1 hp2.2 hl
    obtain ⟨r4, e4, hb4, hp4⟩ := l1Byte_ok l r3.2.1 r3.2.2 hp3.1 hp3.2 hl
    rw [e]; simp only [Option.bind_some]
    rw [e2]; simp only [Option.bind_some]
    rw [e3]; simp only [Option.bind_some]
    rw [e4]; simp only [Option.bind_some]
    rw [if_neg (by omega), w64 (n := r.1 * 16777216) (by omega) (by omega), w64 (n := r2.1 * 65536) (by omega) (by omega), w64 (n := r3.1 * 256) (by omega) (by omega), w64 (n := r.1 * 16777216 + _) (by omega) (by omega), w64 (n := r.1 * 16777216 + _ + _) (by omega) (by omega), w64 (n := r.1 * 16777216 + _ + _ + _) (by omega) (by omega)]
    exact ⟨_, rfl, ⟨(tm _ (by omega)).1, .inl (tm _ (by omega)).2⟩, hp4⟩
theorem l1Once_ok (l : List Int) (p h n : Int) (h0 : 0 ≤ p) (h1 : p ≤ l.length) (hl : l.length ≤ 1048576) : ∃ r, spec_l1Once.f l p h n = some r ∧ 0 ≤ r.2.1 ∧ r.2.1 ≤ l.length := by
  obtain ⟨r, e, hb, hp⟩ := l1Below_ok l p h n h0 h1 hl
  unfold spec_l1Once.f
  rw [e]; simp only [Option.bind_some]
  exact ⟨_, rfl, hp⟩
theorem l1PickInt_ok (l : List Int) (p h : Int) (xs : List Int) (h0 : 0 ≤ p) (h1 : p ≤ l.length) (hl : l.length ≤ 1048576) (hx : 0 < xs.length) : ∃ r, spec_l1PickInt.f l p h xs = some r ∧ r.1 ∈ xs ∧ 0 ≤ r.2.1 ∧ r.2.1 ≤ l.length := by
  unfold spec_l1PickInt.f
  obtain ⟨r, e, hb, hp⟩ := l1Below_ok l p h xs.length h0 h1 hl
  rw [e]
  simp only [Option.bind_some]
  rw [if_pos hb.1, if_pos (by omega)]
  refine ⟨_, rfl, ?_, hp⟩
  have : r.1 = ((r.1.toNat : Nat) : Int) := by omega
  simp only
  rw [this]
  exact rd_mem (by omega)
theorem l17DrawLeft_l0 (l : List Int) (hl : l.length ≤ 1048576) : ∀ (d : Nat) (xs : List Int) (p h : Int), xs.length + d ≤ 100000 → 0 ≤ p → p ≤ l.length → EvP (fun k => spec_l17DrawLeft.l0 k xs (d : Int) l p h) (fun r => r.1.length ≤ xs.length + d + 1) := by
  intro d
  induction d with
  | zero =>
    intro xs p h hx h0 h1
    refine EvP.succ ?_
    simp only [spec_l17DrawLeft.l0]
    refine EvP.neg (by omega) ?_
    obtain ⟨r, e, hp⟩ := l1Once_ok l p h 40 h0 h1 hl
    obtain ⟨r2, e2, _, hp2⟩ := l1PickInt_ok l r.2.1 r.2.2 [1000000001, (-1000000001)] hp.1 hp.2 hl (by decide)
    rw [e]; simp only [Option.bind_some]
    rw [e2]; simp only [Option.bind_some]
    exact EvP.both (fun _ => EvP.pos (by omega) (EvP.now (by simp))) (fun _ => EvP.now (by simp))
  | succ d ih =>
    intro xs p h hx h0 h1
    refine EvP.succ ?_
    simp only [spec_l17DrawLeft.l0]
    refine EvP.pos (by omega) ?_
    obtain ⟨r, e, hb, hp⟩ := l1Below_ok l p h 41 h0 h1 hl
    obtain ⟨r2, e2, hp2⟩ := l1Once_ok l r.2.1 r.2.2 20 hp.1 hp.2 hl
    obtain ⟨r3, e3, _, hp3⟩ := l1PickInt_ok l r2.2.1 r2.2.2 [100000, (-70000), 1000000000, (-1000000000)] hp2.1 hp2.2 hl (by decide)
    rw [e]; simp only [Option.bind_some]
    rw [e2]; simp only [Option.bind_some]
    rw [e3]; simp only [Option.bind_some]
    refine EvP.pos (by omega) ?_
    have el : (xs ++ [wrap64 (r.1 - 20)]).length = xs.length + 1 := by simp
    rw [show wrap64 (((d + 1 : Nat) : Int) - 1) = (d : Int) by rw [w64 (by omega) (by omega)]; omega, el, w64 (by omega) (by omega)]
    refine EvP.both (fun _ => EvP.pos (by omega) (EvP.pos (by omega) ?_)) (fun _ => ?_)
    · exact (ih _ _ _ (by simp; omega) hp3.1 hp3.2).mono (fun r h => by simp at h; omega)
    · exact (ih _ _ _ (by simp; omega) hp2.1 hp2.2).mono (fun r h => by simp at h; omega)
theorem l17DrawLeft_ev (l : List Int) (hl : l.length ≤ 1048576) (p h n : Int) (h0 : 0 ≤ p) (h1 : p ≤ l.length) (hn : 0 ≤ n ∧ n ≤ 1000) : EvP (fun k => spec_l17DrawLeft.f k l p h n) (fun r => r.1.length ≤ 1002) := by
  unfold spec_l17DrawLeft.f
  obtain ⟨r, e, hb, hp⟩ := l1Below_ok l p h (wrap64 (n + 1)) h0 h1 hl
  rw [w64 (by omega) (by omega)] at hb
  rw [e]; simp only [Option.bind_some]
  have hr : r.1 = ((r.1.toNat : Nat) : Int) := by omega
  rw [hr]
  exact (l17DrawLeft_l0 l hl _ _ _ _ (by simp; omega) hp.1 hp.2).mono (fun r h => by simp at h; omega)
theorem l1Size_ok (l : List Int) (m : Int) (hl : l.length ≤ 1048576) (hm : 2 ≤ m) : ∃ r, spec_l1Size.f l m = some r ∧ 2 ≤ r ∧ r ≤ m := by
  unfold spec_l1Size.f
  rw [w64 (n := (l.length : Int) / 20) (by omega) (by omega), w64 (n := 2 + _) (by omega) (by omega)]
  by_cases h : 2 + (l.length : Int) / 20 > m
  · rw [if_pos h]; exact ⟨_, rfl, hm, by omega⟩
  · rw [if_neg h]; exact ⟨_, rfl, by omega, by omega⟩
def zig (x : Int) : Int := if x < 0 then -2 * x - 1 else 2 * x
theorem zig_bd {x : Int} (h0 : -1000000000 ≤ x) (h1 : x ≤ 1000000000) : 0 ≤ zig x ∧ zig x ≤ 2000000000 := by unfold zig; split <;> omega
def riceSz (k : Nat) : List Int → Int
  | [] => 0
  | x :: l => riceSz k l + (zig x / 2 ^ k + 1 + k)
theorem riceSz_bd (k : Nat) (hk : k ≤ 30) : ∀ (l : List Int), (∀ x ∈ l, -1000000000 ≤ x ∧ x ≤ 1000000000) → 0 ≤ riceSz k l ∧ riceSz k l ≤ l.length * 2000000031
  | [], _ => by simp [riceSz]
  | x :: l, h => by
    have ih := riceSz_bd k hk l (fun y hy => h y (by simp [hy]))
    have hx := h x (by simp)
    have hz := zig_bd hx.1 hx.2
    have hp : (0 : Int) < 2 ^ k := Int.pow_pos (by omega)
    have h1 : 0 ≤ zig x / 2 ^ k := Int.ediv_nonneg hz.1 (by omega)
    have h2 : zig x / 2 ^ k ≤ zig x := Int.ediv_le_self _ hz.1
    simp only [riceSz, List.length_cons]
    omega
theorem shr_small {x : Int} {k : Nat} (hk : k ≤ 62) : shr .i64 x (k : Int) = x / 2 ^ k := by
  unfold shr
  rw [show min ((k : Int).toNat) IntKind.i64.bits = k by simp [IntKind.bits]; omega]
def allIn (a : Int) (l : List Int) : Bool := l.all fun x => decide (-a ≤ x) && decide (x ≤ a)
theorem allIn_iff {a : Int} {l : List Int} : allIn a l = true ↔ ∀ x ∈ l, -a ≤ x ∧ x ≤ a := by
  unfold allIn; simp [List.all_eq_true]
def bestGo (f : Nat → Int) : Nat → Nat → Int → Int → Int × Int
  | 0, _, b, m => (b, m)
  | d + 1, i, b, m => if f i ≤ 100000 ∧ (b < 0 ∨ f i < m) then bestGo f d (i + 1) i (f i) else bestGo f d (i + 1) b m
def bestOf (l : List Int) : Int × Int := if l.length ≤ 128 ∧ allIn 1000000000 l = true then bestGo (fun k => riceSz k l) 31 0 (-1) 0 else (-1, 0)
theorem folded_eq {x : Int} (h0 : -1000000000 ≤ x) (h1 : x ≤ 1000000000) : impl_folded.f x = some (zig x) := by
  unfold impl_folded.f zig
  by_cases h : x < 0
  · rw [if_pos h, if_pos h, w64 (n := -2 * x) (by omega) (by omega), w64 (by omega) (by omega)]
  · rw [if_neg h, if_neg h, w64 (by omega) (by omega)]
theorem riceSize_l0 (kk : Nat) (hk : kk ≤ 30) (l : List Int) (hl : l.length ≤ 1048576) (hw : ∀ x ∈ l, -1000000000 ≤ x ∧ x ≤ 1000000000) : ∀ (d i : Nat) (s : Int), i + d = l.length → 0 ≤ s → s ≤ i * 2000000031 → Ev (fun k => impl_riceSize.l0 k (kk : Int) s l (l.length : Int) (i : Int)) (s + riceSz kk (l.drop i)) := by
  intro d
  induction d with
  | zero =>
    intro i s hi _ _
    refine (Ev.round (f := fun _ => some s) (Ev.some_ rfl) (fun k => by simp only [impl_riceSize.l0]; rw [if_neg (by omega)])).to ?_
    rw [List.drop_of_length_le (by omega)]; simp [riceSz]
  | succ d ih =>
    intro i s hi hs hs'
    have hx := hw _ (rd_mem (xs := l) (i := i) (by omega))
    have hz := zig_bd hx.1 hx.2
    have hp : (0 : Int) < 2 ^ kk := Int.pow_pos (by omega)
    have h1 : 0 ≤ zig (rd l i) / 2 ^ kk := Int.ediv_nonneg hz.1 (by omega)
    have h2 : zig (rd l i) / 2 ^ kk ≤ zig (rd l i) := Int.ediv_le_self _ hz.1
    rw [drop_rd (xs := l) (i := i) (by omega)]
    refine (Ev.round (ih (i + 1) (s + (zig (rd l i) / 2 ^ kk + 1 + kk)) (by omega) (by omega) (by omega)) (fun k => ?_)).to ?_
    · simp only [impl_riceSize.l0]
      rw [if_pos (by omega), if_pos (by omega), if_pos (by omega), folded_eq hx.1 hx.2]
      simp only [Option.bind_some]
      rw [if_pos (by omega), shr_small (by omega), w64_add (i := (i : Int)) (by omega) (by omega), w64 (n := _ + 1) (by omega) (by omega), w64 (n := _ + (kk : Int)) (by omega) (by omega), w64 (by omega) (by omega)]
      simp
    · simp only [riceSz]; omega
theorem riceSize_ev (kk : Nat) (hk : kk ≤ 30) (l : List Int) (hl : l.length ≤ 1048576) (hw : ∀ x ∈ l, -1000000000 ≤ x ∧ x ≤ 1000000000) : Ev (fun k => impl_riceSize.f k (kk : Int) l) (riceSz kk l) :=
  (riceSize_l0 kk hk l hl hw l.length 0 0 (by omega) (by omega) (by omega)).to (by simp)
theorem within_l0 (l : List Int) (a : Int) (ha : 0 ≤ a) (ha' : a ≤ 9000000000000000000) (hl : l.length ≤ 35184372088832) : ∀ (d i : Nat), i + d = l.length → Ev (fun k => impl_within.l0 k a l (l.length : Int) (i : Int)) (allIn a (l.drop i)) := by
  intro d
  induction d with
  | zero =>
    intro i hi
    refine (Ev.round (f := fun _ => some true) (Ev.some_ rfl) (fun k => by simp only [impl_within.l0]; rw [if_neg (by omega)])).to ?_
    rw [List.drop_of_length_le (by omega)]; rfl
  | succ d ih =>
    intro i hi
    rw [drop_rd (xs := l) (i := i) (by omega)]
    by_cases h1 : rd l i < -a
    · refine (Ev.round (f := fun _ => some false) (Ev.some_ rfl) (fun k => ?_)).to (by simp [allIn]; intros; omega)
      simp only [impl_within.l0]
      rw [if_pos (by omega), if_pos (by omega), if_pos (by omega), w64 (n := -a) (by omega) (by omega), if_pos h1]
    · by_cases h2 : rd l i > a
      · refine (Ev.round (f := fun _ => some false) (Ev.some_ rfl) (fun k => ?_)).to (by simp [allIn]; intros; omega)
        simp only [impl_within.l0]
        rw [if_pos (by omega), if_pos (by omega), if_pos (by omega), w64 (n := -a) (by omega) (by omega), if_neg h1, if_pos h2]
      · refine (Ev.round (ih (i + 1) (by omega)) (fun k => ?_)).to ?_
        · simp only [impl_within.l0]
          rw [if_pos (by omega), if_pos (by omega), if_pos (by omega), w64 (n := -a) (by omega) (by omega), if_neg h1, if_neg h2, w64_add (by omega) (by omega)]
          simp
        · simp [allIn]; intros; omega
theorem within_ev (l : List Int) (a : Int) (ha : 0 ≤ a) (ha' : a ≤ 9000000000000000000) (hl : l.length ≤ 35184372088832) : Ev (fun k => impl_within.f k l a) (allIn a l) :=
  (within_l0 l a ha ha' hl l.length 0 (by omega)).to (by simp)
theorem riceOk_ev (l : List Int) (hl : l.length ≤ 1048576) : Ev (fun k => impl_riceOk.f k l) (decide (l.length ≤ 128 ∧ allIn 1000000000 l = true)) := by
  unfold impl_riceOk.f
  by_cases h : l.length ≤ 128
  · exact Ev.pos (by omega) (Ev.next (within_ev l 1000000000 (by omega) (by omega) (by omega)) (Ev.some_ (by simp [h])))
  · exact Ev.neg (by omega) (Ev.some_ (by simp [h]))
theorem iBestRice_l0 (l : List Int) (hl : l.length ≤ 1048576) (hw : ∀ x ∈ l, -1000000000 ≤ x ∧ x ≤ 1000000000) : ∀ (d i : Nat) (b m : Int), i + d = 31 → Ev (fun k => impl_BestRice.l0 k l b m (i : Int)) (bestGo (fun k => riceSz k l) d i b m) := by
  intro d
  induction d with
  | zero =>
    intro i b m hi
    exact (Ev.round (f := fun _ => some (b, m)) (Ev.some_ rfl) (fun k => by simp only [impl_BestRice.l0]; rw [if_neg (by omega)]))
  | succ d ih =>
    intro i b m hi
    refine Ev.round (f := fun k => (impl_riceSize.f k (i : Int) l).bind fun t => if t ≤ 100000 then (if b < 0 then impl_BestRice.l0 k l (i : Int) t ((i + 1 : Nat) : Int) else (if t < m then impl_BestRice.l0 k l (i : Int) t ((i + 1 : Nat) : Int) else impl_BestRice.l0 k l b m ((i + 1 : Nat) : Int))) else impl_BestRice.l0 k l b m ((i + 1 : Nat) : Int)) ?_ (fun k => by simp only [impl_BestRice.l0]; rw [if_pos (by omega), w64_add (by omega) (by omega)]; rfl)
    refine Ev.next (riceSize_ev i (by omega) l hl hw) ?_
    simp only [bestGo]
    by_cases h1 : riceSz i l ≤ 100000
    · refine Ev.pos h1 ?_
      by_cases h2 : b < 0
      · rw [if_pos ⟨h1, .inl h2⟩]; exact Ev.pos h2 (ih (i + 1) _ _ (by omega))
      · refine Ev.neg h2 ?_
        by_cases h3 : riceSz i l < m
        · rw [if_pos ⟨h1, .inr h3⟩]; exact Ev.pos h3 (ih (i + 1) _ _ (by omega))
        · rw [if_neg (by omega)]; exact Ev.neg h3 (ih (i + 1) _ _ (by omega))
    · rw [if_neg (by omega)]; exact Ev.neg h1 (ih (i + 1) _ _ (by omega))
theorem iBestRice_ev (l : List Int) (hl : l.length ≤ 1048576) : Ev (fun k => impl_BestRice.f k l) (bestOf l) := by
  unfold impl_BestRice.f bestOf
  refine Ev.next (riceOk_ev l hl) ?_
  by_cases h : l.length ≤ 128 ∧ allIn 1000000000 l = true
  · rw [if_pos h]
    exact Ev.pos (by simp [h]) (iBestRice_l0 l hl (allIn_iff.1 h.2) 31 0 (-1) 0 (by omega))
  · rw [if_neg h]
    exact Ev.neg (by simp; simpa using h) (Ev.some_ rfl)
theorem l1In_eq (a b c : Int) : spec_l1In.f a b c = some (decide (b ≤ a) && decide (a ≤ c)) := by
  unfold spec_l1In.f
  by_cases h : a ≥ b
  · rw [if_pos h]; simp [show b ≤ a from h]
  · rw [if_neg h]; simp [show ¬ b ≤ a from h]
theorem l9Wide_l0 (l : List Int) (a : Int) (ha : 0 ≤ a) (ha' : a ≤ 9000000000000000000) (hl : l.length ≤ 35184372088832) : ∀ (d i : Nat), i + d = l.length → Ev (fun k => spec_l9Wide.l0 k l a (i : Int)) (allIn a (l.drop i)) := by
  intro d
  induction d with
  | zero =>
    intro i hi
    refine (Ev.round (f := fun _ => some true) (Ev.some_ rfl) (fun k => by simp only [spec_l9Wide.l0]; rw [if_neg (by omega)])).to ?_
    rw [List.drop_of_length_le (by omega)]; rfl
  | succ d ih =>
    intro i hi
    rw [drop_rd (xs := l) (i := i) (by omega)]
    by_cases h1 : -a ≤ rd l i ∧ rd l i ≤ a
    · refine (Ev.round (ih (i + 1) (by omega)) (fun k => ?_)).to ?_
      · simp only [spec_l9Wide.l0, l1In_eq, Option.bind_some]
        rw [if_pos (by omega), if_pos (by omega), w64 (n := -a) (by omega) (by omega), if_pos (by simp; omega), w64_add (by omega) (by omega)]
        simp
      · simp [allIn]; intros; omega
    · refine (Ev.round (f := fun _ => some false) (Ev.some_ rfl) (fun k => ?_)).to (by simp [allIn]; intros; omega)
      simp only [spec_l9Wide.l0, l1In_eq, Option.bind_some]
      rw [if_pos (by omega), if_pos (by omega), w64 (n := -a) (by omega) (by omega), if_neg (by simp; omega)]
theorem l9Wide_ev (l : List Int) (a : Int) (ha : 0 ≤ a) (ha' : a ≤ 9000000000000000000) (hl : l.length ≤ 35184372088832) : Ev (fun k => spec_l9Wide.f k l a) (allIn a l) :=
  (l9Wide_l0 l a ha ha' hl l.length 0 (by omega)).to (by simp)
theorem l17Zig_eq {x : Int} (h0 : -1000000000 ≤ x) (h1 : x ≤ 1000000000) : spec_l17Zig.f x = some (zig x) := by
  unfold spec_l17Zig.f zig
  by_cases h : x < 0
  · rw [if_pos h, if_pos h, w64 (n := -2 * x) (by omega) (by omega), w64 (by omega) (by omega)]
  · rw [if_neg h, if_neg h, w64 (by omega) (by omega)]
theorem l17Many_l0 (kk : Nat) (hk : kk ≤ 30) (l : List Int) (hl : l.length ≤ 1048576) (hw : ∀ x ∈ l, -1000000000 ≤ x ∧ x ≤ 1000000000) : ∀ (d i : Nat) (s : Int), i + d = l.length → 0 ≤ s → s ≤ i * 2000000031 → Ev (fun k => spec_l17Many.l0 k (kk : Int) l s (i : Int)) (s + riceSz kk (l.drop i), decide (s + riceSz kk (l.drop i) ≤ 100000)) := by
  intro d
  induction d with
  | zero =>
    intro i s hi _ _
    refine (Ev.round (f := fun _ => some (s, decide (s ≤ 100000))) (Ev.some_ rfl) (fun k => by simp only [spec_l17Many.l0]; rw [if_neg (by omega)])).to ?_
    rw [List.drop_of_length_le (by omega)]; simp [riceSz]
  | succ d ih =>
    intro i s hi hs hs'
    have hx := hw _ (rd_mem (xs := l) (i := i) (by omega))
    have hz := zig_bd hx.1 hx.2
    have hp : (0 : Int) < 2 ^ kk := Int.pow_pos (by omega)
    have h1 : 0 ≤ zig (rd l i) / 2 ^ kk := Int.ediv_nonneg hz.1 (by omega)
    have h2 : zig (rd l i) / 2 ^ kk ≤ zig (rd l i) := Int.ediv_le_self _ hz.1
    rw [drop_rd (xs := l) (i := i) (by omega)]
    refine (Ev.round (ih (i + 1) (s + (zig (rd l i) / 2 ^ kk + 1 + kk)) (by omega) (by omega) (by omega)) (fun k => ?_)).to ?_
    · simp only [spec_l17Many.l0]
      rw [if_pos (by omega), if_pos (by omega), l17Zig_eq hx.1 hx.2]
      simp only [Option.bind_some]
      rw [wu64 (by omega) (by omega), if_pos (by omega), shr_small (by omega), w64_add (i := (i : Int)) (by omega) (by omega), w64 (n := s + _) (by omega) (by omega), w64 (n := _ + 1) (by omega) (by omega), w64 (by omega) (by omega)]
      rw [show s + (zig (rd l i) / 2 ^ kk + 1 + kk) = s + zig (rd l i) / 2 ^ kk + 1 + kk by omega]; simp
    · simp only [riceSz, Prod.mk.injEq]; rw [show s + (zig (rd l i) / 2 ^ kk + 1 + ↑kk) + riceSz kk (l.drop (i + 1)) = s + (riceSz kk (l.drop (i + 1)) + (zig (rd l i) / 2 ^ kk + 1 + ↑kk)) by omega]; exact ⟨rfl, rfl⟩
theorem l17Many_ev (kk : Nat) (hk : kk ≤ 30) (l : List Int) (hl : l.length ≤ 1048576) : Ev (fun k => spec_l17Many.f k (kk : Int) l) (if l.length ≤ 128 ∧ allIn 1000000000 l = true then (riceSz kk l, decide (riceSz kk l ≤ 100000)) else (0, false)) := by
  unfold spec_l17Many.f
  rw [l1In_eq]
  have hc : (decide (0 ≤ (kk : Int)) && decide ((kk : Int) ≤ 30)) = true := by simp; omega
  rw [hc]
  refine Ev.next (Ev.some_ rfl) (Ev.pos rfl ?_)
  by_cases h : l.length ≤ 128
  · refine Ev.neg (by omega) (Ev.next (l9Wide_ev l 1000000000 (by omega) (by omega) (by omega)) ?_)
    cases hb : allIn 1000000000 l
    · rw [if_neg (by simp)]
      exact Ev.round (Ev.some_ rfl) (fun k => by simp only [spec_l17Many.j0]; rfl)
    · rw [if_pos ⟨h, rfl⟩]
      refine Ev.round ((l17Many_l0 kk hk l hl (allIn_iff.1 hb) l.length 0 0 (by omega) (by omega) (by omega)).to (by simp)) (fun k => by simp only [spec_l17Many.j0]; rw [if_neg (by simp)]; rfl)
  · refine Ev.pos (by omega) ?_
    rw [if_neg (by omega)]
    exact Ev.round (Ev.some_ rfl) (fun k => by simp only [spec_l17Many.j0]; rfl)
theorem sBestRice_l0 (l : List Int) (hl : l.length ≤ 1048576) (hw : l.length ≤ 128 ∧ allIn 1000000000 l = true) : ∀ (d i : Nat) (b m : Int), i + d = 31 → Ev (fun k => spec_BestRice.l0 k l b m (i : Int)) (bestGo (fun k => riceSz k l) d i b m) := by
  intro d
  induction d with
  | zero =>
    intro i b m hi
    exact (Ev.round (f := fun _ => some (b, m)) (Ev.some_ rfl) (fun k => by simp only [spec_BestRice.l0]; rw [if_neg (by omega)]))
  | succ d ih =>
    intro i b m hi
    refine Ev.round (f := fun k => (spec_l17Many.f k (i : Int) l).bind fun t => if t.2 = true then (if b < 0 then spec_BestRice.l0 k l (i : Int) t.1 ((i + 1 : Nat) : Int) else (if t.1 < m then spec_BestRice.l0 k l (i : Int) t.1 ((i + 1 : Nat) : Int) else spec_BestRice.l0 k l b m ((i + 1 : Nat) : Int))) else spec_BestRice.l0 k l b m ((i + 1 : Nat) : Int)) ?_ (fun k => by simp only [spec_BestRice.l0]; rw [if_pos (by omega), w64_add (by omega) (by omega)]; rfl)
    refine Ev.next ((l17Many_ev i (by omega) l hl).to (if_pos hw)) ?_
    simp only [bestGo]
    by_cases h1 : riceSz i l ≤ 100000
    · refine Ev.pos (by simp [h1]) ?_
      by_cases h2 : b < 0
      · rw [if_pos ⟨h1, .inl h2⟩]; exact Ev.pos h2 (ih (i + 1) _ _ (by omega))
      · refine Ev.neg h2 ?_
        by_cases h3 : riceSz i l < m
        · rw [if_pos ⟨h1, .inr h3⟩]; exact Ev.pos h3 (ih (i + 1) _ _ (by omega))
        · rw [if_neg (by omega)]; exact Ev.neg h3 (ih (i + 1) _ _ (by omega))
    · rw [if_neg (by omega)]; exact Ev.neg (by simp; omega) (ih (i + 1) _ _ (by omega))
theorem sBestRice_l0_no (l : List Int) (hl : l.length ≤ 1048576) (hw : ¬ (l.length ≤ 128 ∧ allIn 1000000000 l = true)) : ∀ (d i : Nat) (b m : Int), i + d = 31 → Ev (fun k => spec_BestRice.l0 k l b m (i : Int)) (b, m) := by
  intro d
  induction d with
  | zero =>
    intro i b m hi
    exact (Ev.round (f := fun _ => some (b, m)) (Ev.some_ rfl) (fun k => by simp only [spec_BestRice.l0]; rw [if_neg (by omega)]))
  | succ d ih =>
    intro i b m hi
    refine Ev.round (f := fun k => (spec_l17Many.f k (i : Int) l).bind fun t => if t.2 = true then (if b < 0 then spec_BestRice.l0 k l (i : Int) t.1 ((i + 1 : Nat) : Int) else (if t.1 < m then spec_BestRice.l0 k l (i : Int) t.1 ((i + 1 : Nat) : Int) else spec_BestRice.l0 k l b m ((i + 1 : Nat) : Int))) else spec_BestRice.l0 k l b m ((i + 1 : Nat) : Int)) ?_ (fun k => by simp only [spec_BestRice.l0]; rw [if_pos (by omega), w64_add (by omega) (by omega)]; rfl)
    exact Ev.next ((l17Many_ev i (by omega) l hl).to (if_neg hw)) (Ev.neg (by simp) (ih (i + 1) _ _ (by omega)))
theorem sBestRice_ev (l : List Int) (hl : l.length ≤ 1048576) : Ev (fun k => spec_BestRice.f k l) (bestOf l) := by
  unfold spec_BestRice.f bestOf
  by_cases h : l.length ≤ 128 ∧ allIn 1000000000 l = true
  · rw [if_pos h]; exact sBestRice_l0 l hl h 31 0 (-1) 0 (by omega)
  · rw [if_neg h]; exact sBestRice_l0_no l hl h 31 0 (-1) 0 (by omega)
/-- The k lowest bits of u, the highest first. -/
def lowBits (u : Int) : Nat → List Int
  | 0 => []
  | k + 1 => (u / 2 ^ k % 2) :: lowBits u k
theorem lowBits_length (u : Int) : ∀ k, (lowBits u k).length = k
  | 0 => rfl
  | k + 1 => by simp [lowBits, lowBits_length u k]
def riceOne (k : Nat) (x : Int) : List Int := List.replicate (zig x / 2 ^ k).toNat 1 ++ 0 :: lowBits (zig x) k
def riceAll (k : Nat) : List Int → List Int
  | [] => []
  | x :: l => riceOne k x ++ riceAll k l
theorem riceOne_length (k : Nat) (x : Int) (hx : -1000000000 ≤ x ∧ x ≤ 1000000000) : ((riceOne k x).length : Int) = zig x / 2 ^ k + 1 + k := by
  have hz := zig_bd hx.1 hx.2
  have hp : (0 : Int) < 2 ^ k := Int.pow_pos (by omega)
  have h1 : 0 ≤ zig x / 2 ^ k := Int.ediv_nonneg hz.1 (by omega)
  simp only [riceOne, List.length_append, List.length_replicate, List.length_cons, lowBits_length]
  omega
theorem riceAll_length (k : Nat) : ∀ (l : List Int), (∀ x ∈ l, -1000000000 ≤ x ∧ x ≤ 1000000000) → ((riceAll k l).length : Int) = riceSz k l
  | [], _ => by simp [riceAll, riceSz]
  | x :: l, h => by
    have ih := riceAll_length k l (fun y hy => h y (by simp [hy]))
    have hx := riceOne_length k x (h x (by simp))
    simp only [riceAll, riceSz, List.length_append]
    omega
def riceOf (k : Int) (l : List Int) : List Int × Bool :=
  if (0 ≤ k ∧ k ≤ 30) ∧ (l.length ≤ 128 ∧ allIn 1000000000 l = true) ∧ riceSz k.toNat l ≤ 100000 then (riceAll k.toNat l, true) else ([], false)
theorem snoc_ones (acc : List Int) (n : Nat) : (acc ++ [1]) ++ List.replicate n 1 = acc ++ List.replicate (n + 1) 1 := by
  rw [List.append_assoc]; rfl
theorem riceK_eq (a : Int) : impl_riceK.f a = some (decide (0 ≤ a ∧ a ≤ 30)) := by
  unfold impl_riceK.f
  by_cases h : a ≥ 0 <;> simp [h]
theorem iRice_l0 (kk : Nat) (hk : kk ≤ 30) (l : List Int) (hl : l.length ≤ 128) (hw : ∀ x ∈ l, -1000000000 ≤ x ∧ x ≤ 1000000000) : ∀ (d i : Nat) (acc : List Int), i + d = l.length → acc.length + riceSz kk (l.drop i) ≤ 100000 → Ev (fun k => impl_Rice.l0 k (kk : Int) acc l (l.length : Int) (i : Int)) (acc ++ riceAll kk (l.drop i), true) := by
  intro d
  induction d with
  | zero =>
    intro i acc hi _
    refine Ev.succ ?_
    simp only [impl_Rice.l0]
    refine Ev.neg (by omega) (Ev.some_ ?_)
    rw [List.drop_of_length_le (by omega)]; simp [riceAll]
  | succ d ih =>
    intro i acc hi hs
    have hx := hw _ (rd_mem (xs := l) (i := i) (by omega))
    have hz := zig_bd hx.1 hx.2
    have hp : (0 : Int) < 2 ^ kk := Int.pow_pos (by omega)
    have h1 : 0 ≤ zig (rd l i) / 2 ^ kk := Int.ediv_nonneg hz.1 (by omega)
    have h2 : zig (rd l i) / 2 ^ kk ≤ zig (rd l i) := Int.ediv_le_self _ hz.1
    have hr := riceSz_bd kk hk (l.drop (i + 1)) (fun x hx => hw x (List.mem_of_mem_drop hx))
    rw [drop_rd (xs := l) (i := i) (by omega)] at hs ⊢
    simp only [riceSz] at hs
    simp only [riceAll]
    have l2 : ∀ (b : Nat) (a : List Int), b ≤ kk → a.length + b + riceSz kk (l.drop (i + 1)) ≤ 100000 → Ev (fun k => impl_Rice.l2 k (kk : Int) a (zig (rd l i)) ((b : Int) - 1) l (l.length : Int) (i : Int)) (a ++ lowBits (zig (rd l i)) b ++ riceAll kk (l.drop (i + 1)), true) := by
      intro b
      induction b with
      | zero =>
        intro a _ ha
        refine Ev.succ ?_
        simp only [impl_Rice.l2]
        refine Ev.neg (by omega) ?_
        rw [w64_add (by omega) (by omega)]
        exact (ih (i + 1) a (by omega) (by omega)).to (by simp [lowBits])
      | succ b ihb =>
        intro a hb ha
        refine Ev.succ ?_
        simp only [impl_Rice.l2]
        rw [show (((b + 1 : Nat) : Int) - 1) = (b : Int) by omega, w64 (by omega) (by omega), shr_small (by omega)]
        have hm := bits_and_mask (zig (rd l i) / 2 ^ b) 1 (by omega)
        rw [show ((2 : Int) ^ 1 - 1) = 1 by rfl, show ((2 : Int) ^ 1) = 2 by rfl] at hm
        rw [hm]
        refine Ev.pos (by omega) (Ev.pos (by omega) (Ev.pos (by omega) ?_))
        refine (ihb (a ++ [zig (rd l i) / 2 ^ b % 2]) (by omega) (by simp; omega)).to ?_
        simp [lowBits]
    have l1 : ∀ (q j : Nat) (a : List Int), (j : Int) + q = zig (rd l i) / 2 ^ kk → a.length + q + 1 + kk + riceSz kk (l.drop (i + 1)) ≤ 100000 → Ev (fun k => impl_Rice.l1 k (kk : Int) a (zig (rd l i)) l (l.length : Int) (i : Int) (zig (rd l i) / 2 ^ kk) (j : Int)) (a ++ (List.replicate q 1 ++ 0 :: lowBits (zig (rd l i)) kk) ++ riceAll kk (l.drop (i + 1)), true) := by
      intro q
      induction q with
      | zero =>
        intro j a hj ha
        refine Ev.succ ?_
        simp only [impl_Rice.l1]
        refine Ev.neg (by omega) (Ev.pos (by omega) ?_)
        rw [w64 (by omega) (by omega)]
        refine (l2 kk (a ++ [0]) (by omega) (by simp; omega)).to ?_
        simp
      | succ q ihq =>
        intro j a hj ha
        refine Ev.succ ?_
        simp only [impl_Rice.l1]
        rw [w64_add (by omega) (by omega)]
        refine Ev.pos (by omega) (Ev.pos (by omega) ?_)
        refine (ihq (j + 1) (a ++ [1]) (by omega) (by simp; omega)).to ?_
        simp [List.replicate_succ]
    refine Ev.succ ?_
    simp only [impl_Rice.l0, folded_eq hx.1 hx.2, Option.bind_some]
    rw [shr_small (by omega)]
    refine Ev.pos (by omega) (Ev.pos (by omega) (Ev.pos (by omega) (Ev.pos (by omega) ?_)))
    refine (l1 (zig (rd l i) / 2 ^ kk).toNat 0 acc (by omega) (by omega)).to ?_
    simp only [riceOne, List.append_assoc]
theorem iRice_ev (kk : Int) (l : List Int) (hl : l.length ≤ 1048576) : Ev (fun k => impl_Rice.f k kk l) (riceOf kk l) := by
  have bad : Ev (fun k => impl_Rice.j0 k kk l true) ([], false) := by
    refine Ev.succ ?_
    simp only [impl_Rice.j0]
    exact Ev.pos trivial (Ev.some_ rfl)
  unfold impl_Rice.f riceOf
  rw [riceK_eq]
  simp only [Option.bind_some]
  by_cases hk : 0 ≤ kk ∧ kk ≤ 30
  · obtain ⟨m, rfl⟩ := Int.eq_ofNat_of_zero_le hk.1
    rw [Int.toNat_natCast]
    refine Ev.pos (by simp [hk]) (Ev.next (riceOk_ev l hl) ?_)
    by_cases h : l.length ≤ 128 ∧ allIn 1000000000 l = true
    · refine Ev.pos (by simp [h]) ?_
      refine Ev.next (riceSize_ev m (by omega) l hl (allIn_iff.1 h.2)) ?_
      by_cases h2 : riceSz m l ≤ 100000
      · rw [if_pos ⟨by omega, h, by simpa using h2⟩, show decide (riceSz m l > 100000) = false by simp; omega]
        refine Ev.succ ?_
        simp only [impl_Rice.j0]
        exact Ev.neg (by simp) ((iRice_l0 m (by omega) l h.1 (allIn_iff.1 h.2) l.length 0 [] (by omega) (by simpa using h2)).to (by simp))
      · rw [if_neg (by simp; intros; omega), show decide (riceSz m l > 100000) = true by simp; omega]
        exact bad
    · rw [if_neg (fun hh => h hh.2.1)]
      exact Ev.neg (by simpa using h) bad
  · rw [if_neg (fun hh => hk hh.1)]
    exact Ev.neg (by simp; omega) bad
theorem sRice_l0 (kk : Nat) (hk : kk ≤ 30) (l : List Int) (hl : l.length ≤ 128) (hw : ∀ x ∈ l, -1000000000 ≤ x ∧ x ≤ 1000000000) : ∀ (d i : Nat) (acc : List Int), i + d = l.length → acc.length + riceSz kk (l.drop i) ≤ 100000 → Ev (fun k => spec_Rice.l0 k (kk : Int) l acc (i : Int)) (acc ++ riceAll kk (l.drop i), true) := by
  intro d
  induction d with
  | zero =>
    intro i acc hi _
    refine Ev.succ ?_
    simp only [spec_Rice.l0]
    refine Ev.neg (by omega) (Ev.some_ ?_)
    rw [List.drop_of_length_le (by omega)]; simp [riceAll]
  | succ d ih =>
    intro i acc hi hs
    have hx := hw _ (rd_mem (xs := l) (i := i) (by omega))
    have hz := zig_bd hx.1 hx.2
    have hp : (0 : Int) < 2 ^ kk := Int.pow_pos (by omega)
    have h1 : 0 ≤ zig (rd l i) / 2 ^ kk := Int.ediv_nonneg hz.1 (by omega)
    have hr := riceSz_bd kk hk (l.drop (i + 1)) (fun x hx => hw x (List.mem_of_mem_drop hx))
    rw [drop_rd (xs := l) (i := i) (by omega)] at hs ⊢
    simp only [riceSz] at hs
    simp only [riceAll]
    have l2 : ∀ (b : Nat) (a : List Int), b ≤ kk → a.length + b + riceSz kk (l.drop (i + 1)) ≤ 100000 → Ev (fun k => spec_Rice.l2 k (kk : Int) l a (i : Int) (zig (rd l i)) ((b : Int) - 1)) (a ++ lowBits (zig (rd l i)) b ++ riceAll kk (l.drop (i + 1)), true) := by
      intro b
      induction b with
      | zero =>
        intro a _ ha
        refine Ev.succ ?_
        simp only [spec_Rice.l2]
        refine Ev.neg (by omega) ?_
        rw [w64_add (by omega) (by omega)]
        exact (ih (i + 1) a (by omega) (by omega)).to (by simp [lowBits])
      | succ b ihb =>
        intro a hb ha
        refine Ev.succ ?_
        simp only [spec_Rice.l2]
        rw [show (((b + 1 : Nat) : Int) - 1) = (b : Int) by omega, wu64 (by omega) (by omega), w64 (by omega) (by omega), shr_small (by omega), Int.tmod_eq_emod_of_nonneg (Int.ediv_nonneg hz.1 (Int.le_of_lt (Int.pow_pos (by omega))))]
        refine Ev.pos (by omega) (Ev.pos (by omega) (Ev.pos (by omega) ?_))
        refine (ihb (a ++ [zig (rd l i) / 2 ^ b % 2]) (by omega) (by simp; omega)).to ?_
        simp [lowBits]
    have l1 : ∀ (q : Nat) (a : List Int), a.length + q + 1 + kk + riceSz kk (l.drop (i + 1)) ≤ 100000 → Ev (fun k => spec_Rice.l1 k (kk : Int) l a (i : Int) (zig (rd l i)) (q : Int)) (a ++ (List.replicate q 1 ++ 0 :: lowBits (zig (rd l i)) kk) ++ riceAll kk (l.drop (i + 1)), true) := by
      intro q
      induction q with
      | zero =>
        intro a ha
        refine Ev.succ ?_
        simp only [spec_Rice.l1]
        refine Ev.neg (by omega) (Ev.pos (by omega) ?_)
        rw [w64 (by omega) (by omega)]
        refine (l2 kk (a ++ [0]) (by omega) (by simp; omega)).to ?_
        simp
      | succ q ihq =>
        intro a ha
        refine Ev.succ ?_
        simp only [spec_Rice.l1]
        rw [w64 (by omega) (by omega), show ((q + 1 : Nat) : Int) - 1 = (q : Int) by omega]
        refine Ev.pos (by omega) (Ev.pos (by omega) ?_)
        refine (ihq (a ++ [1]) (by simp; omega)).to ?_
        simp [List.replicate_succ]
    refine Ev.succ ?_
    simp only [spec_Rice.l0, l17Zig_eq hx.1 hx.2, Option.bind_some]
    rw [wu64 (by omega) (by omega), shr_small (by omega)]
    refine Ev.pos (by omega) (Ev.pos (by omega) (Ev.pos (by omega) ?_))
    rw [show zig (rd l i) / 2 ^ kk = (((zig (rd l i) / 2 ^ kk).toNat : Nat) : Int) by omega]
    refine (l1 _ acc (by omega)).to ?_
    simp only [riceOne, List.append_assoc]
theorem sRice_ev (kk : Int) (l : List Int) (hl : l.length ≤ 1048576) : Ev (fun k => spec_Rice.f k kk l) (riceOf kk l) := by
  unfold spec_Rice.f riceOf
  by_cases hk : 0 ≤ kk ∧ kk ≤ 30
  · obtain ⟨m, rfl⟩ := Int.eq_ofNat_of_zero_le hk.1
    rw [Int.toNat_natCast]
    refine Ev.next (l17Many_ev m (by omega) l hl) ?_
    by_cases h : l.length ≤ 128 ∧ allIn 1000000000 l = true
    · rw [if_pos h]
      by_cases h2 : riceSz m l ≤ 100000
      · rw [if_pos ⟨by omega, h, by simpa using h2⟩]
        refine Ev.pos (by simpa using h2) ((sRice_l0 m (by omega) l h.1 (allIn_iff.1 h.2) l.length 0 [] (by omega) (by simpa using h2)).to (by simp))
      · rw [if_neg (by simp; intros; omega)]
        exact Ev.neg (by simpa using h2) (Ev.some_ rfl)
    · rw [if_neg h, if_neg (fun hh => h hh.2.1)]
      exact Ev.neg (by simp) (Ev.some_ rfl)
  · rw [if_neg (fun hh => hk hh.1)]
    unfold spec_l17Many.f
    have hc : (decide (0 ≤ kk) && decide (kk ≤ 30)) = false := by simp; omega
    simp only [l1In_eq, Option.bind_some, hc]
    refine Ev.next (a := (0, false)) (Ev.neg (by simp) ?_) (Ev.neg (by simp) (Ev.some_ rfl))
    refine Ev.succ ?_
    simp only [spec_l17Many.j0]
    exact Ev.pos trivial (Ev.some_ rfl)
def bitOk (x : Int) : Bool := decide (x = 0 ∨ x = 1)
/-- How many 1 stand at the begin. -/
def onesRun : List Int → Nat
  | [] => 0
  | x :: l => if x = 1 then onesRun l + 1 else 0
theorem onesRun_le : ∀ l, onesRun l ≤ l.length
  | [] => by simp [onesRun]
  | x :: l => by have := onesRun_le l; simp only [onesRun, List.length_cons]; split <;> omega
def lowVal (u : Int) : Nat → List Int → Int
  | 0, _ => u
  | _ + 1, [] => u
  | b + 1, x :: l => lowVal (2 * u + x) b l
theorem lowVal_bd : ∀ (b : Nat) (u : Int) (l : List Int), (∀ x ∈ l, x = 0 ∨ x = 1) → 0 ≤ u → b ≤ l.length → u * 2 ^ b ≤ lowVal u b l ∧ lowVal u b l < (u + 1) * 2 ^ b
  | 0, u, l, _, _, _ => by simp [lowVal]; omega
  | b + 1, u, [], _, _, hl => by simp at hl
  | b + 1, u, x :: l, hb, hu, hl => by
    have hx := hb x (by simp)
    have ih := lowVal_bd b (2 * u + x) l (fun y hy => hb y (by simp [hy])) (by omega) (by simpa using hl)
    have e : (2 : Int) ^ (b + 1) = 2 * 2 ^ b := by rw [Int.pow_succ]; omega
    have hp : (0 : Int) < 2 ^ b := Int.pow_pos (by omega)
    simp only [lowVal]
    rw [e]
    have e1 : u * (2 * 2 ^ b) = 2 * u * 2 ^ b := by rw [← Int.mul_assoc, Int.mul_comm u 2]
    have e2 : (u + 1) * (2 * 2 ^ b) = (2 * u + 2) * 2 ^ b := by rw [← Int.mul_assoc, Int.mul_comm (u + 1) 2]; congr 1; omega
    rw [e1, e2]
    have h1 : 2 * u * 2 ^ b ≤ (2 * u + x) * 2 ^ b := Int.mul_le_mul_of_nonneg_right (by omega) (by omega)
    have h2 : (2 * u + x + 1) * 2 ^ b ≤ (2 * u + 2) * 2 ^ b := Int.mul_le_mul_of_nonneg_right (by omega) (by omega)
    omega
def unzig (u : Int) : Int := if u % 2 = 1 then -(u / 2) - 1 else u / 2
/-- What stands in the bits from a place on: so many numbers. -/
def unR (kk : Nat) (l : List Int) : Nat → Nat → List Int → List Int × Int × Bool
  | 0, at_, out => (out, (at_ : Int), true)
  | n + 1, at_, out =>
    if l.length < at_ + onesRun (l.drop at_) + 1 + kk then ([], 0, false)
    else if lowVal (onesRun (l.drop at_)) kk (l.drop (at_ + onesRun (l.drop at_) + 1)) ≤ 2000000000 then
      unR kk l n (at_ + onesRun (l.drop at_) + 1 + kk) (out ++ [unzig (lowVal (onesRun (l.drop at_)) kk (l.drop (at_ + onesRun (l.drop at_) + 1)))])
    else ([], 0, false)
def unRiceOf (kk : Int) (l : List Int) (n : Int) : List Int × Int × Bool :=
  if (0 ≤ kk ∧ kk ≤ 30) ∧ (0 ≤ n ∧ n ≤ 128) ∧ l.all bitOk = true then unR kk.toNat l n.toNat 0 [] else ([], 0, false)
theorem onesRun_drop {l : List Int} {i : Nat} (h : i < l.length) (h1 : rd l i = 1) : onesRun (l.drop i) = onesRun (l.drop (i + 1)) + 1 := by
  rw [drop_rd h]; simp [onesRun, h1]
theorem onesRun_stop {l : List Int} {i : Nat} (h : i < l.length → rd l i ≠ 1) : onesRun (l.drop i) = 0 := by
  by_cases hi : i < l.length
  · rw [drop_rd hi]; simp [onesRun, h hi]
  · rw [List.drop_of_length_le (by omega)]; rfl
theorem allBits_iff {l : List Int} : l.all bitOk = true ↔ ∀ x ∈ l, x = 0 ∨ x = 1 := by simp [List.all_eq_true, bitOk]
theorem isBit_eq (a : Int) : impl_isBit.f a = some (decide (a = 0 ∨ a = 1)) := by
  unfold impl_isBit.f
  by_cases h : a = 0
  · simp [h]
  · rw [if_neg h]; simp [h]; by_cases h1 : a = 1 <;> simp [h1]
theorem sample_eq (a : Int) : impl_sample.f a = some (decide (-1000000000 ≤ a ∧ a ≤ 1000000000)) := by
  unfold impl_sample.f
  by_cases h : a ≥ -1000000000 <;> simp [h]
theorem iunRice_l0 (kk : Nat) (hk : kk ≤ 30) (l : List Int) (hl : l.length ≤ 1048576) (hb : ∀ x ∈ l, x = 0 ∨ x = 1) (nn : Nat) (hn : nn ≤ 128) : ∀ (n at_ : Nat) (out : List Int) (i : Nat), i + n = nn → out.length = i → at_ ≤ l.length → Ev (fun k => impl_unRice.l0 k (kk : Int) l out (at_ : Int) (nn : Int) (i : Int)) (unR kk l n at_ out) := by
  have bit : ∀ i : Nat, i < l.length → rd l i = 0 ∨ rd l i = 1 := fun i hi => hb _ (rd_mem hi)
  intro n
  induction n with
  | zero =>
    intro at_ out i hi ho ha
    refine Ev.succ ?_
    simp only [impl_unRice.l0]
    exact Ev.neg (by omega) (Ev.some_ rfl)
  | succ n ih =>
    intro at_ out i hi ho ha
    have l2 : ∀ (b c p : Nat) (u : Int), c + b = kk → 0 ≤ u → u < 4000000 * 2 ^ c → p + b ≤ l.length → Ev (fun k => impl_unRice.l2 k (kk : Int) l out (p : Int) u (nn : Int) (i : Int) (kk : Int) (c : Int))
        (if lowVal u b (l.drop p) ≤ 2000000000 then unR kk l n (p + b) (out ++ [unzig (lowVal u b (l.drop p))]) else ([], 0, false)) := by
      intro b
      induction b with
      | zero =>
        intro c p u hc hu hub hpl
        have hcc : (2 : Int) ^ c ≤ 2 ^ 30 := by
          have : (2 : Nat) ^ c ≤ 2 ^ 30 := Nat.pow_le_pow_right (by omega) (by omega)
          exact_mod_cast this
        have hub2 : u < 4000000 * 2 ^ 30 := Int.lt_of_lt_of_le hub (Int.mul_le_mul_of_nonneg_left hcc (by omega))
        refine Ev.succ ?_
        simp only [impl_unRice.l2]
        refine Ev.neg (by omega) ?_
        rw [show lowVal u 0 (l.drop p) = u from rfl, Int.tmod_eq_emod_of_nonneg hu, Int.tdiv_eq_ediv_of_nonneg hu, w64 (n := u / 2) (by omega) (by omega), w64 (n := -(u / 2)) (by omega) (by omega), w64 (n := -(u / 2) - 1) (by omega) (by omega), w64_add (by omega) (by omega)]
        simp only [sample_eq, Option.bind_some]
        by_cases h3 : u % 2 = 1
        · refine Ev.pos h3 ?_
          by_cases h2 : u ≤ 2000000000
          · rw [if_pos h2]
            refine Ev.pos (by simp; omega) (Ev.pos (by omega) ?_)
            exact (ih p (out ++ [-(u / 2) - 1]) (i + 1) (by omega) (by simp; omega) (by omega)).to (by simp [unzig, h3])
          · rw [if_neg h2]; exact Ev.neg (by simp; omega) (Ev.some_ rfl)
        · refine Ev.neg h3 ?_
          by_cases h2 : u ≤ 2000000000
          · rw [if_pos h2]
            refine Ev.pos (by simp; omega) (Ev.pos (by omega) ?_)
            exact (ih p (out ++ [u / 2]) (i + 1) (by omega) (by simp; omega) (by omega)).to (by simp [unzig, h3])
          · rw [if_neg h2]; exact Ev.neg (by simp; omega) (Ev.some_ rfl)
      | succ b ihb =>
        intro c p u hc hu hub hpl
        have hcc : (2 : Int) ^ c ≤ 2 ^ 30 := by
          have : (2 : Nat) ^ c ≤ 2 ^ 30 := Nat.pow_le_pow_right (by omega) (by omega)
          exact_mod_cast this
        have hub2 : u < 4000000 * 2 ^ 30 := Int.lt_of_lt_of_le hub (Int.mul_le_mul_of_nonneg_left hcc (by omega))
        have := bit p (by omega)
        refine Ev.succ ?_
        simp only [impl_unRice.l2]
        refine Ev.pos (by omega) (Ev.pos (by omega) (Ev.pos (by omega) ?_))
        rw [w64_add (by omega) (by omega), w64_add (by omega) (by omega), w64 (n := u * 2) (by omega) (by omega), w64 (by omega) (by omega)]
        have e2 : (2 : Int) ^ (c + 1) = 2 * 2 ^ c := by rw [Int.pow_succ]; omega
        rw [show u * 2 + rd l p = 2 * u + rd l p by omega]
        refine (ihb (c + 1) (p + 1) (2 * u + rd l p) (by omega) (by omega) (by rw [e2]; omega) (by omega)).to ?_
        rw [drop_rd (xs := l) (i := p) (by omega), show lowVal u (b + 1) (rd l p :: l.drop (p + 1)) = lowVal (2 * u + rd l p) b (l.drop (p + 1)) from rfl, show p + 1 + b = p + (b + 1) by omega]
    have j2 : ∀ (p q : Nat), at_ + q = p → p ≤ l.length → Ev (fun k => impl_unRice.j2 k (kk : Int) l out (p : Int) (q : Int) (nn : Int) (i : Int))
        (if l.length < p + 1 + kk then ([], 0, false) else if lowVal q kk (l.drop (p + 1)) ≤ 2000000000 then unR kk l n (p + 1 + kk) (out ++ [unzig (lowVal q kk (l.drop (p + 1)))]) else ([], 0, false)) := by
      intro p q hq hpl
      refine Ev.succ ?_
      simp only [impl_unRice.j2]
      rw [w64 (n := (l.length : Int) - p) (by omega) (by omega), w64 (n := 1 + (kk : Int)) (by omega) (by omega), w64_add (by omega) (by omega)]
      by_cases h1 : l.length < p + 1 + kk
      · rw [if_pos h1]; exact Ev.pos (by omega) (Ev.some_ rfl)
      · rw [if_neg h1]; exact Ev.neg (by omega) (l2 kk 0 (p + 1) q (by omega) (by omega) (by simp; omega) (by omega))
    have l1 : ∀ (d p q : Nat), p + d = l.length → at_ + q = p → Ev (fun k => impl_unRice.l1 k (kk : Int) l out (p : Int) (q : Int) (nn : Int) (i : Int))
        (if l.length < p + onesRun (l.drop p) + 1 + kk then ([], 0, false) else if lowVal ((q : Int) + onesRun (l.drop p)) kk (l.drop (p + onesRun (l.drop p) + 1)) ≤ 2000000000 then unR kk l n (p + onesRun (l.drop p) + 1 + kk) (out ++ [unzig (lowVal ((q : Int) + onesRun (l.drop p)) kk (l.drop (p + onesRun (l.drop p) + 1)))]) else ([], 0, false)) := by
      intro d
      induction d with
      | zero =>
        intro p q hpd hq
        refine Ev.succ ?_
        simp only [impl_unRice.l1]
        refine Ev.neg (by omega) ((j2 p q hq (by omega)).to ?_)
        rw [onesRun_stop (fun h => by omega)]
        simp
      | succ d ihd =>
        intro p q hpd hq
        refine Ev.succ ?_
        simp only [impl_unRice.l1]
        refine Ev.pos (by omega) (Ev.pos (by omega) ?_)
        by_cases h1 : rd l p = 1
        · rw [w64_add (by omega) (by omega), w64_add (by omega) (by omega)]
          refine Ev.pos h1 ((ihd (p + 1) (q + 1) (by omega) (by omega)).to ?_)
          rw [onesRun_drop (by omega) h1, show p + 1 + onesRun (l.drop (p + 1)) = p + (onesRun (l.drop (p + 1)) + 1) by omega, show (((q + 1 : Nat) : Int) + onesRun (l.drop (p + 1))) = (q : Int) + ((onesRun (l.drop (p + 1)) + 1 : Nat) : Int) by omega]
        · refine Ev.neg h1 ((j2 p q hq (by omega)).to ?_)
          rw [onesRun_stop (fun _ => h1)]
          simp
    refine Ev.succ ?_
    simp only [impl_unRice.l0]
    refine Ev.pos (by omega) ((l1 (l.length - at_) at_ 0 (by omega) (by omega)).to ?_)
    simp only [unR]
    simp
theorem iunRice_ev (kk : Nat) (hk : kk ≤ 30) (l : List Int) (hl : l.length ≤ 1048576) (hb : ∀ x ∈ l, x = 0 ∨ x = 1) (n : Nat) (hn : n ≤ 128) : Ev (fun k => impl_unRice.f k (kk : Int) l (n : Int)) (unR kk l n 0 []) :=
  iunRice_l0 kk hk l hl hb n hn n 0 [] 0 (by omega) rfl (by omega)
theorem iUnRice_ev (kk : Int) (l : List Int) (n : Int) (hl : l.length ≤ 1048576) : Ev (fun k => impl_UnRice.f k kk l n) (unRiceOf kk l n) := by
  have bad : Ev (fun k => impl_UnRice.j0 k kk l n true) ([], 0, false) := by
    refine Ev.succ ?_
    simp only [impl_UnRice.j0]
    exact Ev.pos trivial (Ev.some_ rfl)
  unfold impl_UnRice.f unRiceOf
  simp only [riceK_eq, Option.bind_some]
  by_cases hk : 0 ≤ kk ∧ kk ≤ 30
  · refine Ev.pos (by simp; omega) ?_
    by_cases hn0 : n < 0
    · rw [if_neg (by omega)]; exact Ev.pos hn0 bad
    · refine Ev.neg hn0 ?_
      by_cases hn : 0 ≤ n ∧ n ≤ 128
      · rw [show decide (n > 128) = false by simp; omega]
        obtain ⟨m, rfl⟩ := Int.eq_ofNat_of_zero_le hk.1
        obtain ⟨c, rfl⟩ := Int.eq_ofNat_of_zero_le hn.1
        rw [Int.toNat_natCast, Int.toNat_natCast]
        have hl0 : ∀ (d i : Nat), i + d = l.length → (∀ x ∈ l.take i, x = 0 ∨ x = 1) → Ev (fun k => impl_UnRice.l0 k (m : Int) l (c : Int) l (l.length : Int) (i : Int)) (if l.all bitOk = true then unR m l c 0 [] else ([], 0, false)) := by
          intro d
          induction d with
          | zero =>
            intro i hi hp
            rw [List.take_of_length_le (by omega)] at hp
            refine Ev.succ ?_
            simp only [impl_UnRice.l0]
            rw [if_pos (allBits_iff.2 hp)]
            exact Ev.neg (by omega) (Ev.next (iunRice_ev m (by omega) l hl hp c (by omega)) (Ev.some_ rfl))
          | succ d ihd =>
            intro i hi hp
            refine Ev.succ ?_
            simp only [impl_UnRice.l0, isBit_eq, Option.bind_some]
            refine Ev.pos (by omega) (Ev.pos (by omega) (Ev.pos (by omega) ?_))
            by_cases h1 : rd l i = 0 ∨ rd l i = 1
            · rw [w64_add (by omega) (by omega)]
              refine Ev.pos (by simp [h1]) (ihd (i + 1) (by omega) (fun x hx => ?_))
              rw [take_rd (by omega)] at hx
              rcases List.mem_append.1 hx with hx | hx
              · exact hp x hx
              · rw [List.mem_singleton.1 hx]; exact h1
            · rw [if_neg (fun h => h1 (allBits_iff.1 h _ (rd_mem (by omega))))]
              exact Ev.neg (by simp [h1]) (Ev.some_ rfl)
        refine Ev.succ ?_
        simp only [impl_UnRice.j0]
        refine Ev.neg (by simp) ((hl0 l.length 0 (by omega) (by simp)).to ?_)
        by_cases hb : l.all bitOk = true
        · rw [if_pos hb, if_pos ⟨hk, hn, hb⟩]
        · rw [if_neg hb, if_neg (fun h => hb h.2.2)]
      · rw [if_neg (fun h => hn h.2.1), show decide (n > 128) = true by simp; omega]; exact bad
  · rw [if_neg (fun h => hk h.1)]; exact Ev.neg (by simp; omega) bad
theorem unR_len (kk : Nat) (l : List Int) : ∀ (n at_ : Nat) (out : List Int), (unR kk l n at_ out).1.length ≤ out.length + n
  | 0, at_, out => by simp [unR]
  | n + 1, at_, out => by
    simp only [unR]
    split
    · simp
    · split
      · have := unR_len kk l n (at_ + onesRun (l.drop at_) + 1 + kk) (out ++ [unzig (lowVal (onesRun (l.drop at_)) kk (l.drop (at_ + onesRun (l.drop at_) + 1)))])
        simp only [List.length_append, List.length_cons, List.length_nil] at this
        omega
      · simp
theorem unRiceOf_len (kk : Int) (l : List Int) (n : Int) : (unRiceOf kk l n).1.length ≤ 128 := by
  unfold unRiceOf
  split
  · rename_i h
    have := unR_len kk.toNat l n.toNat 0 []
    simp only [List.length_nil] at this
    omega
  · simp
theorem lowVal_back (u : Int) : ∀ (b : Nat) (t : List Int), lowVal (u / 2 ^ b) b (lowBits u b ++ t) = u
  | 0, t => by simp [lowVal]
  | b + 1, t => by
    have ih := lowVal_back u b t
    simp only [lowBits, List.cons_append, lowVal]
    have e : u / 2 ^ (b + 1) = u / 2 ^ b / 2 := by
      rw [Int.pow_succ, Int.ediv_ediv_of_nonneg (Int.le_of_lt (Int.pow_pos (by omega)))]
    rw [e, show 2 * (u / 2 ^ b / 2) + u / 2 ^ b % 2 = u / 2 ^ b by omega]
    exact ih
theorem onesRun_rep (q : Nat) (t : List Int) : onesRun (List.replicate q 1 ++ 0 :: t) = q := by
  induction q with
  | zero => simp [onesRun]
  | succ q ih => rw [List.replicate_succ, List.cons_append]; simp only [onesRun, if_true]; rw [ih]
theorem unzig_zig (x : Int) : unzig (zig x) = x := by unfold unzig zig; split <;> split <;> omega
theorem unR_back (kk : Nat) (rest : List Int) : ∀ (l p out : List Int), (∀ x ∈ l, -1000000000 ≤ x ∧ x ≤ 1000000000) → unR kk (p ++ (riceAll kk l ++ rest)) l.length p.length out = (out ++ l, ((p.length + (riceAll kk l).length : Nat) : Int), true)
  | [], p, out, _ => by simp [unR, riceAll]
  | x :: l, p, out, h => by
    have hx := h x (by simp)
    have hz := zig_bd hx.1 hx.2
    have hp : (0 : Int) < 2 ^ kk := Int.pow_pos (by omega)
    have h1 : 0 ≤ zig x / 2 ^ kk := Int.ediv_nonneg hz.1 (by omega)
    have e0 : (p ++ (riceAll kk (x :: l) ++ rest)).drop p.length = List.replicate (zig x / 2 ^ kk).toNat 1 ++ 0 :: (lowBits (zig x) kk ++ (riceAll kk l ++ rest)) := by
      rw [List.drop_left]; simp [riceAll, riceOne]
    have eq_ : onesRun ((p ++ (riceAll kk (x :: l) ++ rest)).drop p.length) = (zig x / 2 ^ kk).toNat := by rw [e0, onesRun_rep]
    have e1 : (p ++ (riceAll kk (x :: l) ++ rest)).drop (p.length + (zig x / 2 ^ kk).toNat + 1) = lowBits (zig x) kk ++ (riceAll kk l ++ rest) := by
      rw [show p.length + (zig x / 2 ^ kk).toNat + 1 = p.length + ((zig x / 2 ^ kk).toNat + 1) by omega, ← List.drop_drop, e0, ← List.drop_drop]
      rw [List.drop_left' (by simp)]; rfl
    have el := riceOne_length kk x hx
    rw [show (x :: l).length = l.length + 1 from rfl]
    simp only [unR]
    rw [eq_, e1, Int.toNat_of_nonneg h1, lowVal_back, unzig_zig]
    rw [if_neg (by
      simp only [List.length_append, riceAll] at *
      omega), if_pos (by omega)]
    have ih := unR_back kk rest l (p ++ riceOne kk x) (out ++ [x]) (fun y hy => h y (by simp [hy]))
    have e2 : (p ++ riceOne kk x).length = p.length + (zig x / 2 ^ kk).toNat + 1 + kk := by rw [List.length_append]; omega
    rw [e2] at ih
    have e3 : p ++ riceOne kk x ++ (riceAll kk l ++ rest) = p ++ (riceAll kk (x :: l) ++ rest) := by simp [riceAll]
    rw [e3] at ih
    rw [ih]
    simp only [riceAll, List.length_append, List.append_assoc, List.cons_append, List.nil_append, Prod.mk.injEq, true_and, and_true]
    omega
theorem lowBits_bit (u : Int) : ∀ k, ∀ x ∈ lowBits u k, x = 0 ∨ x = 1
  | 0, x, h => by cases h
  | k + 1, x, h => by
    simp only [lowBits, List.mem_cons] at h
    rcases h with rfl | h
    · omega
    · exact lowBits_bit u k x h
theorem riceAll_bit (kk : Nat) : ∀ l, ∀ x ∈ riceAll kk l, x = 0 ∨ x = 1
  | [], x, h => by cases h
  | y :: l, x, h => by
    simp only [riceAll, riceOne, List.mem_append, List.mem_cons, List.mem_replicate] at h
    rcases h with (⟨_, rfl⟩ | rfl | h) | h
    · exact .inr rfl
    · exact .inl rfl
    · exact lowBits_bit _ _ _ h
    · exact riceAll_bit kk l x h
theorem sameInts_l0 (a b : List Int) (h : a.length = b.length) (hl : a.length ≤ 35184372088832) : ∀ (d i : Nat), i + d = a.length → Ev (fun k => laws_sameInts.l0 k a b (i : Int)) (decide (a.drop i = b.drop i)) := by
  intro d
  induction d with
  | zero =>
    intro i hi
    refine Ev.round (f := fun _ => some true) (Ev.some_ ?_) (fun k => by simp only [laws_sameInts.l0]; rw [if_neg (by omega)])
    rw [List.drop_of_length_le (by omega), List.drop_of_length_le (by omega)]; simp
  | succ d ih =>
    intro i hi
    by_cases he : rd a i = rd b i
    · refine (Ev.round (ih (i + 1) (by omega)) (fun k => ?_)).to ?_
      · simp only [laws_sameInts.l0]
        rw [if_pos (by omega), if_pos (by omega), if_pos (by omega), if_pos he, w64_add (by omega) (by omega)]; simp
      · rw [drop_rd (xs := a) (i := i) (by omega), drop_rd (xs := b) (i := i) (by omega), he]; simp
    · refine (Ev.round (f := fun _ => some false) (Ev.some_ rfl) (fun k => ?_)).to ?_
      · simp only [laws_sameInts.l0]
        rw [if_pos (by omega), if_pos (by omega), if_pos (by omega), if_neg he]
      · rw [drop_rd (xs := a) (i := i) (by omega), drop_rd (xs := b) (i := i) (by omega)]; simp [he]
theorem sameInts_ev (a b : List Int) (hl : a.length ≤ 35184372088832) : Ev (fun k => laws_sameInts.f k a b) (decide (a = b)) := by
  unfold laws_sameInts.f
  by_cases h : a.length = b.length
  · exact Ev.pos (by omega) (sameInts_l0 a b h hl a.length 0 (by omega))
  · exact (Ev.neg (by omega) (Ev.some_ rfl)).to (by simp; intro e; exact h (by rw [e]))
theorem DrawRice_ev (l : List Int) (hl : l.length ≤ 1048576) : EvP (fun k => spec_DrawRice.f k l) (fun r => r.2.length ≤ 1002) := by
  unfold spec_DrawRice.f
  refine EvP.next (l1New_ev l) ?_
  rintro ⟨l', p', h'⟩ ⟨rfl, hp⟩
  simp only at hp
  subst hp
  obtain ⟨m, em, hm⟩ := l1Size_ok l' 30 hl (by omega)
  unfold spec_l17DrawK.f
  obtain ⟨r, e, _, hp⟩ := l1PickInt_ok l' 0 h' [0, 1, 2, 3, 4, 6, 12, 20, 30, 31, (-1), 5] (by omega) (by omega) hl (by decide)
  simp only [e, em, Option.bind_some]
  refine EvP.next (l17DrawLeft_ev l' hl r.2.1 r.2.2 m hp.1 hp.2 (by omega)) ?_
  intro a ha
  exact EvP.now ha
theorem bestGo_neg (f : Nat → Int) (hf : ∀ k, 0 ≤ f k) : ∀ (d i : Nat) (b m : Int), 0 ≤ m → (0 ≤ b → ∀ j, j < i → f j ≤ 100000 → m ≤ f j) → (b < 0 → m = 0 ∧ ∀ j, j < i → ¬ f j ≤ 100000) → ∀ j, j < i + d → f j ≤ 100000 → (bestGo f d i b m).2 ≤ f j := by
  intro d
  induction d with
  | zero =>
    intro i b m hm h1 h2 j hj hfj
    simp only [bestGo]
    rcases Int.lt_or_le b 0 with hb | hb
    · have := (h2 hb).1; have := hf j; omega
    · exact h1 hb j (by omega) hfj
  | succ d ih =>
    intro i b m hm h1 h2 j hj hfj
    simp only [bestGo]
    by_cases hc : f i ≤ 100000 ∧ (b < 0 ∨ f i < m)
    · rw [if_pos hc]
      refine ih (i + 1) i (f i) (hf i) (fun _ q hq hfq => ?_) (fun h => by omega) j (by omega) hfj
      rcases Nat.lt_or_ge q i with hqi | hqi
      · rcases hc.2 with hb | hlt
        · exact absurd hfq ((h2 hb).2 q hqi)
        · rcases Int.lt_or_le b 0 with hb | hb
          · exact absurd hfq ((h2 hb).2 q hqi)
          · have := h1 hb q hqi hfq; omega
      · have : q = i := by omega
        subst this; omega
    · rw [if_neg hc]
      refine ih (i + 1) b m hm (fun hb q hq hfq => ?_) (fun hb => ⟨(h2 hb).1, fun q hq hfq => ?_⟩) j (by omega) hfj
      · rcases Nat.lt_or_ge q i with hqi | hqi
        · exact h1 hb q hqi hfq
        · have : q = i := by omega
          subst this; omega
      · rcases Nat.lt_or_ge q i with hqi | hqi
        · exact (h2 hb).2 q hqi hfq
        · have : q = i := by omega
          subst this; exact hc ⟨hfq, .inl hb⟩
theorem law_l0 (l : List Int) (hl : l.length ≤ 1002) : ∀ (d i : Nat), i + d = 31 → Ev (fun k => laws_FnRiced.l0 k l (bestOf l).2 (i : Int)) true := by
  intro d
  induction d with
  | zero =>
    intro i hi
    refine Ev.succ ?_
    simp only [laws_FnRiced.l0]
    refine Ev.neg (by omega) (Ev.next (iRice_ev 1 [-2] (by decide)) (Ev.pos (by decide) ?_))
    exact Ev.next (sameInts_ev _ _ (by decide)) (Ev.some_ (by decide))
  | succ d ih =>
    intro i hi
    refine Ev.succ ?_
    simp only [laws_FnRiced.l0]
    refine Ev.pos (by omega) (Ev.next (iRice_ev i l (by omega)) (Ev.next (sRice_ev i l (by omega)) (Ev.neg (by simp) ?_)))
    rw [w64_add (by omega) (by omega)]
    unfold riceOf
    rw [Int.toNat_natCast]
    by_cases h : (0 ≤ (i : Int) ∧ (i : Int) ≤ 30) ∧ (l.length ≤ 128 ∧ allIn 1000000000 l = true) ∧ riceSz i l ≤ 100000
    · rw [if_pos h]
      have hw := allIn_iff.1 h.2.1.2
      have hlen := riceAll_length i l hw
      refine Ev.pos rfl ?_
      simp only [Option.bind_some, List.nil_append, List.length_nil, Nat.zero_add]
      refine Ev.pos (by omega) (Ev.pos (by simp; omega) ?_)
      have hu : unRiceOf (i : Int) (riceAll i l ++ [1, 0, 1]) (l.length : Int) = (l, ((riceAll i l).length : Int), true) := by
        unfold unRiceOf
        rw [if_pos ⟨h.1, by omega, allBits_iff.2 (fun x hx => by
          rcases List.mem_append.1 hx with hx | hx
          · exact riceAll_bit i l x hx
          · simp at hx; omega)⟩]
        have := unR_back i [1, 0, 1] l [] [] hw
        simpa using this
      refine Ev.next ((iUnRice_ev i _ l.length (by simp; omega)).to hu) (Ev.pos rfl (Ev.pos rfl (Ev.next (sameInts_ev l l (by omega)) (Ev.pos (by simp) (Ev.neg ?_ (ih (i + 1) (by omega)))))))
      have hb : bestOf l = bestGo (fun k => riceSz k l) 31 0 (-1) 0 := if_pos h.2.1
      rw [hb, hlen]
      have hz : ∀ k, 0 ≤ riceSz k l := by
        intro k
        have := riceAll_length k l hw
        omega
      have := bestGo_neg (fun k => riceSz k l) hz 31 0 (-1) 0 (by omega) (fun h => by omega) (fun _ => ⟨rfl, fun j hj => by omega⟩) i (by omega) h.2.2
      have this2 : (bestGo (fun k => riceSz k l) 31 0 (-1) 0).2 ≤ riceSz i l := this
      omega
    · rw [if_neg h]
      exact Ev.neg (by simp) (ih (i + 1) (by omega))
theorem FnRiced (l : List Int) (m0 : l.length ≤ maxLen) (w0 : ∀ x ∈ l, (Lit.int .u8 x).wf = true) : ∃ k, laws_FnRiced.f k l = some true := by
  refine EvP.law ?_
  unfold laws_FnRiced.f laws_big.f
  simp only [Option.bind_some]
  refine EvP.both (fun _ => EvP.now rfl) (fun hl => ?_)
  refine EvP.next (DrawRice_ev l (by simp at hl; omega)) ?_
  rintro ⟨c, xs⟩ hx
  simp only at hx
  refine Ev.p ?_
  simp only
  refine Ev.next (iBestRice_ev xs (by omega)) (Ev.next (sBestRice_ev xs (by omega)) (Ev.pos rfl ?_))
  refine Ev.succ ?_
  simp only [laws_FnRiced.j0]
  exact Ev.neg (by simp) (law_l0 xs hx 31 0 (by omega))
end Go.Proofs.Ytnmglbdhnegebaa.Pure
