/- For every list of bytes the law FnDropped answers true; no condition beside what its parameter is. -/
import Derived.Test.YtbllkldpipmalaaPFnDroppedx3
import Derived.Test.YtbllkldpipmalaaAid
set_option linter.unusedVariables false
set_option linter.unusedSimpArgs false
namespace Go.Proofs.Ytbllkldpipmalaa.Pure
open Go Go.RowKit Go.Proofs.Ytbllkldpipmalaa.PFnDropped Go.Proofs.YtbllkldpipmalaaW.PrintWords Go.Proofs.YtbllkldpipmalaaW.PrintLast Go.Proofs.YtbllkldpipmalaaW.PrintMore
def dGo (c : Int) (gs ts : List Int) : Nat → Nat → Int → Int → Int → Int × Int × Bool
  | 0, _, _, lo, g => (lo, g, true)
  | d + 1, i, h, lo, g =>
    if (0 ≤ rd gs i ∧ rd gs i ≤ 1000) ∧ (0 ≤ rd ts i ∧ rd ts i ≤ 1000) then
      dGo c gs ts d (i + 1) (mx (mn (h + rd gs i) c - rd ts i) 0) (lo + mx (h + rd gs i - c) 0) (g + mx (rd ts i - mn (h + rd gs i) c) 0)
    else (0, 0, false)
def droppedOf (c : Int) (gs ts : List Int) : Int × Int × Bool :=
  if (1 ≤ c ∧ c ≤ 1000) ∧ gs.length = ts.length ∧ gs.length ≤ 512 then dGo c gs ts gs.length 0 0 0 0 else (0, 0, false)
theorem mx_bd (a : Int) : 0 ≤ mx a 0 ∧ a ≤ mx a 0 ∧ (mx a 0 = a ∨ mx a 0 = 0) := by unfold mx; split <;> omega
theorem mn_bd (a b : Int) : mn a b ≤ a ∧ mn a b ≤ b ∧ (mn a b = a ∨ mn a b = b) := by unfold mn; split <;> omega
theorem to_eq (a b c : Int) : impl_to.f a b c = some (decide (b ≤ a) && decide (a ≤ c)) := by
  unfold impl_to.f
  by_cases h : a ≥ b
  · rw [if_pos h]; simp [show b ≤ a from h]
  · rw [if_neg h]; simp [show ¬ b ≤ a from h]
theorem iDropped_l0 (c : Int) (gs ts : List Int) (hc : 1 ≤ c ∧ c ≤ 1000) (hl : gs.length = ts.length) (hn : gs.length ≤ 512) : ∀ (d i : Nat) (h lo g : Int), i + d = gs.length → 0 ≤ h → h ≤ 1000 → 0 ≤ lo → lo ≤ i * 2000 → 0 ≤ g → g ≤ i * 1000 →
    Ev (fun k => impl_Dropped.l0 k c gs ts lo g h (gs.length : Int) (i : Int)) (dGo c gs ts d i h lo g) := by
  intro d
  induction d with
  | zero =>
    intro i h lo g hi _ _ _ _ _ _
    exact Ev.round (f := fun _ => some (lo, g, true)) (Ev.some_ rfl) (fun k => by simp only [impl_Dropped.l0]; rw [if_neg (by omega)])
  | succ d ih =>
    intro i h lo g hi h0 h1 l0 l1 g0 g1
    refine Ev.succ ?_
    simp only [impl_Dropped.l0, to_eq, Option.bind_some]
    refine Ev.pos (by omega) (Ev.pos (by omega) (Ev.pos (by omega) ?_))
    simp only [dGo]
    by_cases hx : 0 ≤ rd gs i ∧ rd gs i ≤ 1000
    · refine Ev.pos (by simp; omega) (Ev.pos (by omega) ?_)
      by_cases hy : 0 ≤ rd ts i ∧ rd ts i ≤ 1000
      · refine Ev.pos (by simp; omega) ?_
        rw [if_pos ⟨hx, hy⟩]
        have a1 := mn_bd (h + rd gs i) c
        have a2 := mx_bd (h + rd gs i - c)
        have a3 := mx_bd (rd ts i - mn (h + rd gs i) c)
        have a4 := mx_bd (mn (h + rd gs i) c - rd ts i)
        rw [w64 (n := h + rd gs i) (by omega) (by omega), w64 (n := h + rd gs i - c) (by omega) (by omega), w64 (n := lo + _) (by omega) (by omega), w64 (n := rd ts i - _) (by omega) (by omega), w64 (n := g + _) (by omega) (by omega), w64 (n := _ - rd ts i) (by omega) (by omega), w64_add (by omega) (by omega)]
        exact ih (i + 1) _ _ _ (by omega) (by omega) (by omega) (by omega) (by omega) (by omega) (by omega)
      · rw [if_neg (by omega)]; exact Ev.neg (by simp; omega) (Ev.some_ rfl)
    · rw [if_neg (by omega)]; exact Ev.neg (by simp; omega) (Ev.some_ rfl)
theorem iDropped_ev (c : Int) (gs ts : List Int) : Ev (fun k => impl_Dropped.f k c gs ts) (droppedOf c gs ts) := by
  have bad : Ev (fun k => impl_Dropped.j0 k c gs ts true) (0, 0, false) := by
    refine Ev.succ ?_
    simp only [impl_Dropped.j0]
    exact Ev.pos trivial (Ev.some_ rfl)
  unfold impl_Dropped.f droppedOf
  by_cases h1 : c < 1
  · rw [if_neg (by omega)]; exact Ev.pos h1 bad
  refine Ev.neg h1 ?_
  by_cases h2 : c > 1000
  · rw [if_neg (by omega)]; exact Ev.pos h2 bad
  refine Ev.neg h2 ?_
  by_cases h3 : gs.length = ts.length
  · refine Ev.pos (by omega) ?_
    by_cases h4 : gs.length ≤ 512
    · rw [if_pos ⟨by omega, h3, h4⟩, show decide ((gs.length : Int) > 512) = false by simp; omega]
      refine Ev.succ ?_
      simp only [impl_Dropped.j0]
      exact Ev.neg (by simp) (iDropped_l0 c gs ts (by omega) h3 h4 gs.length 0 0 0 0 (by omega) (by omega) (by omega) (by omega) (by omega) (by omega) (by omega))
    · rw [if_neg (by omega), show decide ((gs.length : Int) > 512) = true by simp; omega]; exact bad
  · rw [if_neg (by omega)]; exact Ev.neg (by omega) bad
theorem l1In_eq (a b c : Int) : spec_l1In.f a b c = some (decide (b ≤ a) && decide (a ≤ c)) := by
  unfold spec_l1In.f
  by_cases h : a ≥ b
  · rw [if_pos h]; simp [show b ≤ a from h]
  · rw [if_neg h]; simp [show ¬ b ≤ a from h]
theorem sDropped_l0 (c : Int) (gs ts : List Int) (hc : 1 ≤ c ∧ c ≤ 1000) (hl : gs.length = ts.length) (hn : gs.length ≤ 512) : ∀ (d i : Nat) (h lo g : Int), i + d = gs.length → 0 ≤ h → h ≤ 1000 → 0 ≤ lo → lo ≤ i * 2000 → 0 ≤ g → g ≤ i * 1000 →
    Ev (fun k => spec_Dropped.l0 k c gs ts h lo g (i : Int)) (dGo c gs ts d i h lo g) := by
  intro d
  induction d with
  | zero =>
    intro i h lo g hi _ _ _ _ _ _
    exact Ev.round (f := fun _ => some (lo, g, true)) (Ev.some_ rfl) (fun k => by simp only [spec_Dropped.l0]; rw [if_neg (by omega)])
  | succ d ih =>
    intro i h lo g hi h0 h1 l0 l1 g0 g1
    have bad : Ev (fun k => spec_Dropped.j2 k c gs ts h lo g (i : Int) true) (0, 0, false) := by
      refine Ev.succ ?_
      simp only [spec_Dropped.j2]
      exact Ev.pos trivial (Ev.some_ rfl)
    refine Ev.succ ?_
    simp only [spec_Dropped.l0, l1In_eq, Option.bind_some]
    refine Ev.pos (by omega) (Ev.pos (by omega) ?_)
    simp only [dGo]
    by_cases hx : 0 ≤ rd gs i ∧ rd gs i ≤ 1000
    · refine Ev.pos (by simp; omega) (Ev.pos (by omega) ?_)
      by_cases hy : 0 ≤ rd ts i ∧ rd ts i ≤ 1000
      · rw [if_pos ⟨hx, hy⟩, show (decide (0 ≤ rd ts i) && decide (rd ts i ≤ 1000)) = true by simp; omega]
        refine Ev.succ ?_
        simp only [spec_Dropped.j2]
        refine Ev.neg (by simp) (Ev.pos (by omega) (Ev.pos (by omega) ?_))
        rw [w64 (n := h + rd gs i) (by omega) (by omega), w64 (n := lo + (h + rd gs i)) (by omega) (by omega), w64 (n := _ - c) (by omega) (by omega), w64 (n := c - _) (by omega) (by omega), w64 (n := h + rd gs i - _) (by omega) (by omega), w64_add (by omega) (by omega)]
        have key : ∀ a b e a' b' e' : Int, a = a' → b = b' → e = e' → Ev (fun k => spec_Dropped.l0 k c gs ts a' b' e' ((i + 1 : Nat) : Int)) (dGo c gs ts d (i + 1) a' b' e') → Ev (fun k => spec_Dropped.l0 k c gs ts a b e ((i : Int) + 1)) (dGo c gs ts d (i + 1) a' b' e') := by
          rintro a b e _ _ _ rfl rfl rfl h; exact h
        by_cases h3 : h + rd gs i > c
        · have e1 : mn (h + rd gs i) c = c := by unfold mn; split <;> omega
          have e2 : mx (h + rd gs i - c) 0 = h + rd gs i - c := by unfold mx; split <;> omega
          rw [e1, e2]
          refine Ev.pos h3 (Ev.pos (by omega) ?_)
          by_cases h4 : c - rd ts i < 0
          · have e3 : mx (c - rd ts i) 0 = 0 := by unfold mx; split <;> omega
            have e4 : mx (rd ts i - c) 0 = rd ts i - c := by unfold mx; split <;> omega
            rw [e3, e4, w64 (n := g - _) (by omega) (by omega)]
            exact Ev.pos h4 (key _ _ _ _ _ _ rfl (by omega) (by omega) (ih (i + 1) _ _ _ (by omega) (by omega) (by omega) (by omega) (by omega) (by omega) (by omega)))
          · have e3 : mx (c - rd ts i) 0 = c - rd ts i := by unfold mx; split <;> omega
            have e4 : mx (rd ts i - c) 0 = 0 := by unfold mx; split <;> omega
            rw [e3, e4]
            exact Ev.neg h4 (key _ _ _ _ _ _ rfl (by omega) (by omega) (ih (i + 1) _ _ _ (by omega) (by omega) (by omega) (by omega) (by omega) (by omega) (by omega)))
        · have e1 : mn (h + rd gs i) c = h + rd gs i := by unfold mn; split <;> omega
          have e2 : mx (h + rd gs i - c) 0 = 0 := by unfold mx; split <;> omega
          rw [e1, e2]
          refine Ev.neg h3 (Ev.pos (by omega) ?_)
          by_cases h4 : h + rd gs i - rd ts i < 0
          · have e3 : mx (h + rd gs i - rd ts i) 0 = 0 := by unfold mx; split <;> omega
            have e4 : mx (rd ts i - (h + rd gs i)) 0 = rd ts i - (h + rd gs i) := by unfold mx; split <;> omega
            rw [e3, e4, w64 (n := g - _) (by omega) (by omega)]
            exact Ev.pos h4 (key _ _ _ _ _ _ rfl (by omega) (by omega) (ih (i + 1) _ _ _ (by omega) (by omega) (by omega) (by omega) (by omega) (by omega) (by omega)))
          · have e3 : mx (h + rd gs i - rd ts i) 0 = h + rd gs i - rd ts i := by unfold mx; split <;> omega
            have e4 : mx (rd ts i - (h + rd gs i)) 0 = 0 := by unfold mx; split <;> omega
            rw [e3, e4]
            exact Ev.neg h4 (key _ _ _ _ _ _ rfl (by omega) (by omega) (ih (i + 1) _ _ _ (by omega) (by omega) (by omega) (by omega) (by omega) (by omega) (by omega)))
      · rw [if_neg (by omega), show (decide (0 ≤ rd ts i) && decide (rd ts i ≤ 1000)) = false by simp; omega]; exact bad
    · rw [if_neg (by omega)]; exact Ev.neg (by simp; omega) bad
theorem sDropped_ev (c : Int) (gs ts : List Int) : Ev (fun k => spec_Dropped.f k c gs ts) (droppedOf c gs ts) := by
  have bad : Ev (fun k => spec_Dropped.j0 k c gs ts true) (0, 0, false) := by
    refine Ev.succ ?_
    simp only [spec_Dropped.j0]
    exact Ev.pos trivial (Ev.some_ rfl)
  unfold spec_Dropped.f droppedOf
  simp only [l1In_eq, Option.bind_some]
  by_cases h1 : 1 ≤ c ∧ c ≤ 1000
  · refine Ev.pos (by simp; omega) ?_
    by_cases h3 : gs.length = ts.length
    · refine Ev.pos (by omega) ?_
      by_cases h4 : gs.length ≤ 512
      · rw [if_pos ⟨h1, h3, h4⟩, show decide ((gs.length : Int) > 512) = false by simp; omega]
        refine Ev.succ ?_
        simp only [spec_Dropped.j0]
        exact Ev.neg (by simp) (sDropped_l0 c gs ts (by omega) h3 h4 gs.length 0 0 0 0 (by omega) (by omega) (by omega) (by omega) (by omega) (by omega) (by omega))
      · rw [if_neg (by omega), show decide ((gs.length : Int) > 512) = true by simp; omega]; exact bad
    · rw [if_neg (by omega)]; exact Ev.neg (by omega) bad
  · rw [if_neg (by omega)]; exact Ev.neg (by simp; omega) bad
theorem l1New_l0 (l : List Int) : ∀ (d i : Nat) (h : Int), i + d = l.length → (i : Int) ≤ 4000 → EvP (fun k => spec_l1New.l0 k l h (i : Int)) (fun r => r.1 = l ∧ r.2.1 = 0) := by
  intro d
  induction d with
  | zero =>
    intro i h hi _
    refine EvP.succ ?_
    simp only [spec_l1New.l0]
    exact EvP.neg (by omega) (EvP.now ⟨rfl, rfl⟩)
  | succ d ih =>
    intro i h hi hi2
    refine EvP.succ ?_
    simp only [spec_l1New.l0]
    refine EvP.pos (by omega) ?_
    by_cases h4 : (i : Int) < 4000
    · rw [w64_add (by omega) (by omega)]
      exact EvP.pos h4 (EvP.pos (by omega) (ih (i + 1) _ (by omega) (by omega)))
    · exact EvP.neg h4 (EvP.now ⟨rfl, rfl⟩)
theorem l1New_ev (l : List Int) : EvP (fun k => spec_l1New.f k l) (fun r => r.1 = l ∧ r.2.1 = 0) := l1New_l0 l l.length 0 _ (by omega) (by omega)
theorem l1Byte_ok (l : List Int) (p h : Int) (h0 : 0 ≤ p) (h1 : p ≤ l.length) (hl : l.length ≤ 1048576) : ∃ r, spec_l1Byte.f l p h = some r ∧ (0 ≤ r.1 ∧ r.1 ≤ 255) ∧ 0 ≤ r.2.1 ∧ r.2.1 ≤ l.length := by
  unfold spec_l1Byte.f
  by_cases hp : p < (l.length : Int)
  · rw [if_pos hp, if_pos h0]
    refine ⟨_, rfl, bits_and_le _ 255 (by omega) (by omega), ?_⟩
    simp only
    rw [w64_add h0 (by omega)]
    omega
  · rw [if_neg hp]
    exact ⟨_, rfl, bits_and_le _ 255 (by omega) (by omega), h0, h1⟩
theorem l1Below_ok (l : List Int) (p h n : Int) (h0 : 0 ≤ p) (h1 : p ≤ l.length) (hl : l.length ≤ 1048576) : ∃ r, spec_l1Below.f l p h n = some r ∧ (0 ≤ r.1 ∧ (r.1 < n ∨ r.1 = 0)) ∧ 0 ≤ r.2.1 ∧ r.2.1 ≤ l.length := by
  unfold spec_l1Below.f
  by_cases hn : n ≤ 0
  · rw [if_pos hn]; exact ⟨_, rfl, ⟨by simp, .inr rfl⟩, h0, h1⟩
  rw [if_neg hn]
  have tm : ∀ x : Int, 0 ≤ x → 0 ≤ Int.tmod x n ∧ Int.tmod x n < n := fun x hx => by
    rw [Int.tmod_eq_emod_of_nonneg hx]
    exact ⟨Int.emod_nonneg _ (by omega), Int.emod_lt_of_pos _ (by omega)⟩
  by_cases h2 : n ≤ 256
  · rw [if_pos h2]
    obtain ⟨r, e, hb, hp⟩ := l1Byte_ok l p h h0 h1 hl
    rw [e]
    simp only [Option.bind_some]
    rw [if_neg (by omega)]
    exact ⟨_, rfl, ⟨(tm _ hb.1).1, .inl (tm _ hb.1).2⟩, hp⟩
  · rw [if_neg h2]
    obtain ⟨r, e, hb, hp⟩ := l1Byte_ok l p h h0 h1 hl
    obtain ⟨r2, e2, hb2, hp2⟩ := l1Byte_ok l r.2.1 r.2.2 hp.1 hp.2 hl
    obtain ⟨r3, e3, hb3, hp3⟩ := l1Byte_ok l r2.2.1 r2.2.2 hp2.1 hp2.2 hl
    obtain ⟨r4, e4, hb4, hp4⟩ := l1Byte_ok l r3.2.1 r3.2.2 hp3.1 hp3.2 hl
    rw [e]; simp only [Option.bind_some]
    rw [e2]; simp only [Option.bind_some]
    rw [e3]; simp only [Option.bind_some]
    rw [e4]; simp only [Option.bind_some]
    rw [if_neg (by omega), w64 (n := r.1 * 16777216) (by omega) (by omega), w64 (n := r2.1 * 65536) (by omega) (by omega), w64 (n := r3.1 * 256) (by omega) (by omega), w64 (n := r.1 * 16777216 + _) (by omega) (by omega), w64 (n := r.1 * 16777216 + _ + _) (by omega) (by omega), w64 (n := r.1 * 16777216 + _ + _ + _) (by omega) (by omega)]
    exact ⟨_, rfl, ⟨(tm _ (by omega)).1, .inl (tm _ (by omega)).2⟩, hp4⟩
theorem l1Size_ok (l : List Int) (m : Int) (hl : l.length ≤ 1048576) (hm : 2 ≤ m) : ∃ r, spec_l1Size.f l m = some r ∧ 2 ≤ r ∧ r ≤ m := by
  unfold spec_l1Size.f
  rw [w64 (n := (l.length : Int) / 20) (by omega) (by omega), w64 (n := 2 + _) (by omega) (by omega)]
  by_cases h : 2 + (l.length : Int) / 20 > m
  · rw [if_pos h]; exact ⟨_, rfl, hm, by omega⟩
  · rw [if_neg h]; exact ⟨_, rfl, by omega, by omega⟩
theorem l1PickInt_ok (l : List Int) (p h : Int) (xs : List Int) (h0 : 0 ≤ p) (h1 : p ≤ l.length) (hl : l.length ≤ 1048576) (hx : 0 < xs.length) : ∃ r, spec_l1PickInt.f l p h xs = some r ∧ r.1 ∈ xs ∧ 0 ≤ r.2.1 ∧ r.2.1 ≤ l.length := by
  unfold spec_l1PickInt.f
  obtain ⟨r, e, hb, hp⟩ := l1Below_ok l p h xs.length h0 h1 hl
  rw [e]
  simp only [Option.bind_some]
  rw [if_pos hb.1, if_pos (by omega)]
  refine ⟨_, rfl, ?_, hp⟩
  have : r.1 = ((r.1.toNat : Nat) : Int) := by omega
  simp only
  rw [this]
  exact rd_mem (by omega)
theorem DrawDropped_l0 (l : List Int) (hl : l.length ≤ 1048576) : ∀ (d : Nat) (gs ts : List Int) (p h : Int), d ≤ 1000 → gs.length + d ≤ 1000 → ts.length + d ≤ 1000 → 0 ≤ p → p ≤ l.length → EvP (fun k => spec_DrawDropped.l0 k gs ts (d : Int) l p h) (fun _ => True) := by
  intro d
  induction d with
  | zero =>
    intro gs ts p h _ hg ht h0 h1
    refine EvP.succ ?_
    simp only [spec_DrawDropped.l0]
    refine EvP.neg (by omega) ?_
    obtain ⟨r, e, hb, hp⟩ := l1Below_ok l p h 20 h0 h1 hl
    rw [e]; simp only [Option.bind_some]
    have pick : ∀ (q h : Int) (xs : List Int), 0 ≤ q → q ≤ l.length → 0 < xs.length → ∃ r, spec_l1PickInt.f l q h xs = some r ∧ r.1 ∈ xs ∧ 0 ≤ r.2.1 ∧ r.2.1 ≤ l.length := fun q h xs a b c => l1PickInt_ok l q h xs a b hl c
    refine EvP.both (fun _ => ?_) (fun _ => EvP.both (fun _ => ?_) (fun _ => ?_))
    · obtain ⟨r2, e2, _, hp2⟩ := pick r.2.1 r.2.2 [1000, 1001, (-1)] hp.1 hp.2 (by decide)
      obtain ⟨r3, e3, _, hp3⟩ := pick r2.2.1 r2.2.2 [1, 2, 5, 10, 1000, 1001, 0, 7] hp2.1 hp2.2 (by decide)
      rw [e2]; simp only [Option.bind_some]
      rw [e3]; simp only [Option.bind_some]
      exact EvP.pos (by omega) (EvP.pos (by omega) (EvP.now trivial))
    · obtain ⟨r3, e3, _, hp3⟩ := pick r.2.1 r.2.2 [1, 2, 5, 10, 1000, 1001, 0, 7] hp.1 hp.2 (by decide)
      rw [e3]; simp only [Option.bind_some]
      exact EvP.pos (by omega) (EvP.now trivial)
    · obtain ⟨r3, e3, _, hp3⟩ := pick r.2.1 r.2.2 [1, 2, 5, 10, 1000, 1001, 0, 7] hp.1 hp.2 (by decide)
      rw [e3]; simp only [Option.bind_some]
      exact EvP.now trivial
  | succ d ih =>
    intro gs ts p h hd hg ht h0 h1
    refine EvP.succ ?_
    simp only [spec_DrawDropped.l0]
    refine EvP.pos (by omega) ?_
    obtain ⟨r, e, hb, hp⟩ := l1Below_ok l p h 9 h0 h1 hl
    obtain ⟨r2, e2, hb2, hp2⟩ := l1Below_ok l r.2.1 r.2.2 9 hp.1 hp.2 hl
    rw [e]; simp only [Option.bind_some]
    rw [e2]; simp only [Option.bind_some]
    refine EvP.pos (by omega) (EvP.pos (by omega) ?_)
    rw [show wrap64 (((d + 1 : Nat) : Int) - 1) = (d : Int) by rw [w64 (by omega) (by omega)]; omega]
    exact ih _ _ _ _ (by omega) (by simp; omega) (by simp; omega) hp2.1 hp2.2
theorem DrawDropped_ev (l : List Int) (hl : l.length ≤ 1048576) : EvP (fun k => spec_DrawDropped.f k l) (fun _ => True) := by
  unfold spec_DrawDropped.f
  refine EvP.next (l1New_ev l) ?_
  rintro ⟨l', p', h'⟩ ⟨rfl, hp⟩
  simp only at hp
  subst hp
  obtain ⟨m, em, hm⟩ := l1Size_ok l' 30 hl (by omega)
  obtain ⟨r, e, hb, hp⟩ := l1Below_ok l' 0 h' (wrap64 (m + 1)) (by omega) (by omega) hl
  simp only [em, Option.bind_some, e]
  rw [w64 (by omega) (by omega)] at hb
  have hr : r.1 = ((r.1.toNat : Nat) : Int) := by omega
  rw [hr]
  exact DrawDropped_l0 l' hl _ _ _ _ _ (by omega) (by simp; omega) (by simp; omega) hp.1 hp.2
/-- What lies there behind all ticks. -/
def dEnd (c : Int) (gs ts : List Int) : Nat → Nat → Int → Int
  | 0, _, h => h
  | d + 1, i, h => dEnd c gs ts d (i + 1) (mx (mn (h + rd gs i) c - rd ts i) 0)
theorem dGo_true (c : Int) (gs ts : List Int) : ∀ (d i : Nat) (h lo g h' lo' g' : Int) (c' : Int), (dGo c gs ts d i h lo g).2.2 = true → (dGo c' gs ts d i h' lo' g').2.2 = true := by
  intro d
  induction d with
  | zero => intros; rfl
  | succ d ih =>
    intro i h lo g h' lo' g' c' H
    simp only [dGo] at H ⊢
    by_cases hb : (0 ≤ rd gs i ∧ rd gs i ≤ 1000) ∧ (0 ≤ rd ts i ∧ rd ts i ≤ 1000)
    · rw [if_pos hb] at H ⊢; exact ih _ _ _ _ _ _ _ _ H
    · rw [if_neg hb] at H; cases H
theorem dGo_more (c : Int) (gs ts : List Int) : ∀ (d i : Nat) (h lo g h' lo' g' : Int), (dGo c gs ts d i h lo g).2.2 = true → h ≤ h' → h' - h ≤ lo - lo' → (dGo (c + 1) gs ts d i h' lo' g').1 ≤ (dGo c gs ts d i h lo g).1 := by
  intro d
  induction d with
  | zero => intro i h lo g h' lo' g' _ h1 h2; simp only [dGo]; omega
  | succ d ih =>
    intro i h lo g h' lo' g' H h1 h2
    simp only [dGo] at H ⊢
    by_cases hb : (0 ≤ rd gs i ∧ rd gs i ≤ 1000) ∧ (0 ≤ rd ts i ∧ rd ts i ≤ 1000)
    · rw [if_pos hb] at H ⊢
      rw [if_pos hb]
      refine ih _ _ _ _ _ _ _ H ?_ ?_
      · unfold mx mn; split <;> split <;> split <;> split <;> omega
      · unfold mx mn; split <;> split <;> split <;> split <;> split <;> split <;> omega
    · rw [if_neg hb] at H; cases H
/-- The sums: what came and what went from tick i on. -/
def sumRd (xs : List Int) : Nat → Nat → Int
  | 0, _ => 0
  | d + 1, i => rd xs i + sumRd xs d (i + 1)
theorem dGo_sum (c : Int) (hc : 1 ≤ c) (gs ts : List Int) : ∀ (d i : Nat) (h lo g : Int), (dGo c gs ts d i h lo g).2.2 = true → 0 ≤ h → h ≤ c → 0 ≤ g →
    (0 ≤ (h + sumRd gs d i - ((dGo c gs ts d i h lo g).1 - lo)) - (sumRd ts d i - ((dGo c gs ts d i h lo g).2.1 - g)) ∧ (h + sumRd gs d i - ((dGo c gs ts d i h lo g).1 - lo)) - (sumRd ts d i - ((dGo c gs ts d i h lo g).2.1 - g)) ≤ c) ∧ 0 ≤ (dGo c gs ts d i h lo g).2.1 := by
  intro d
  induction d with
  | zero => intro i h lo g _ h0 h1 h2; simp only [dGo, sumRd]; omega
  | succ d ih =>
    intro i h lo g H h0 h1 h2
    simp only [dGo, sumRd] at H ⊢
    by_cases hb : (0 ≤ rd gs i ∧ rd gs i ≤ 1000) ∧ (0 ≤ rd ts i ∧ rd ts i ≤ 1000)
    · rw [if_pos hb] at H ⊢
      have e1 : 0 ≤ mx (mn (h + rd gs i) c - rd ts i) 0 ∧ mx (mn (h + rd gs i) c - rd ts i) 0 ≤ c ∧ mx (mn (h + rd gs i) c - rd ts i) 0 = h + rd gs i - mx (h + rd gs i - c) 0 - rd ts i + mx (rd ts i - mn (h + rd gs i) c) 0 ∧ 0 ≤ mx (rd ts i - mn (h + rd gs i) c) 0 := by
        unfold mx mn; split <;> split <;> split <;> split <;> omega
      have := ih (i + 1) _ (lo + mx (h + rd gs i - c) 0) (g + mx (rd ts i - mn (h + rd gs i) c) 0) H e1.1 e1.2.1 (by omega)
      omega
    · rw [if_neg hb] at H; cases H
theorem dGo_bd (c : Int) (hc : 1 ≤ c ∧ c ≤ 1001) (gs ts : List Int) : ∀ (d i : Nat) (h lo g : Int), 0 ≤ h → h ≤ 1001 → 0 ≤ lo → 0 ≤ g → 
    (0 ≤ (dGo c gs ts d i h lo g).1 ∧ (dGo c gs ts d i h lo g).1 ≤ lo + d * 2001) ∧ 0 ≤ (dGo c gs ts d i h lo g).2.1 ∧ (dGo c gs ts d i h lo g).2.1 ≤ g + d * 1000 := by
  intro d
  induction d with
  | zero => intro i h lo g _ _ _ _; simp only [dGo]; omega
  | succ d ih =>
    intro i h lo g h0 h1 h2 h3
    simp only [dGo]
    by_cases hb : (0 ≤ rd gs i ∧ rd gs i ≤ 1000) ∧ (0 ≤ rd ts i ∧ rd ts i ≤ 1000)
    · rw [if_pos hb]
      have a1 := mn_bd (h + rd gs i) c
      have a2 := mx_bd (h + rd gs i - c)
      have a3 := mx_bd (rd ts i - mn (h + rd gs i) c)
      have a4 := mx_bd (mn (h + rd gs i) c - rd ts i)
      have := ih (i + 1) (mx (mn (h + rd gs i) c - rd ts i) 0) (lo + mx (h + rd gs i - c) 0) (g + mx (rd ts i - mn (h + rd gs i) c) 0) (by omega) (by omega) (by omega) (by omega)
      omega
    · rw [if_neg hb]; simp only; omega
theorem droppedOf_no {c : Int} {gs ts : List Int} (h : (droppedOf c gs ts).2.2 = false) : (droppedOf c gs ts).1 = 0 ∧ (droppedOf c gs ts).2.1 = 0 := by
  unfold droppedOf at h ⊢
  split
  · rename_i hc
    rw [if_pos hc] at h
    have : ∀ (d i : Nat) (h lo g : Int), (dGo c gs ts d i h lo g).2.2 = false → (dGo c gs ts d i h lo g).1 = 0 ∧ (dGo c gs ts d i h lo g).2.1 = 0 := by
      intro d
      induction d with
      | zero => intro i h lo g H; simp only [dGo] at H; cases H
      | succ d ih =>
        intro i h lo g H
        simp only [dGo] at H ⊢
        split
        · rename_i hb; rw [if_pos hb] at H; exact ih _ _ _ _ H
        · exact ⟨rfl, rfl⟩
    exact this _ _ _ _ _ h
  · exact ⟨rfl, rfl⟩
theorem dGo_in (c : Int) (gs ts : List Int) : ∀ (d i : Nat) (h lo g : Int), (dGo c gs ts d i h lo g).2.2 = true → (0 ≤ sumRd gs d i ∧ sumRd gs d i ≤ d * 1000) ∧ (0 ≤ sumRd ts d i ∧ sumRd ts d i ≤ d * 1000) ∧ ∀ j, j < d → 0 ≤ rd gs (i + j : Nat) ∧ rd gs (i + j : Nat) ≤ 1000 ∧ 0 ≤ rd ts (i + j : Nat) ∧ rd ts (i + j : Nat) ≤ 1000 := by
  intro d
  induction d with
  | zero => intro i h lo g _; simp [sumRd]
  | succ d ih =>
    intro i h lo g H
    simp only [dGo, sumRd] at H ⊢
    by_cases hb : (0 ≤ rd gs i ∧ rd gs i ≤ 1000) ∧ (0 ≤ rd ts i ∧ rd ts i ≤ 1000)
    · rw [if_pos hb] at H
      obtain ⟨h1, h2, h3⟩ := ih _ _ _ _ H
      refine ⟨by omega, by omega, fun j hj => ?_⟩
      rcases j with _ | j
      · exact ⟨hb.1.1, hb.1.2, hb.2.1, hb.2.2⟩
      · have := h3 j (by omega)
        rw [show i + (j + 1) = i + 1 + j by omega]; exact this
    · rw [if_neg hb] at H; cases H
theorem law_l0 (c : Int) (gs ts : List Int) (lo g : Int) (hc : 1 ≤ c ∧ c ≤ 1000) (hl : gs.length = ts.length) (hn : gs.length ≤ 512)
    (hlo : 0 ≤ lo ∧ lo ≤ 2000000) (hg : 0 ≤ g ∧ g ≤ 1000000)
    (hd : ∀ j, j < gs.length → 0 ≤ rd gs (j : Nat) ∧ rd gs (j : Nat) ≤ 1000 ∧ 0 ≤ rd ts (j : Nat) ∧ rd ts (j : Nat) ≤ 1000)
    (hs : 0 ≤ (sumRd gs gs.length 0 - lo) - (sumRd ts gs.length 0 - g) ∧ (sumRd gs gs.length 0 - lo) - (sumRd ts gs.length 0 - g) ≤ c)
    (hm : c < 1000 → (droppedOf (c + 1) gs ts).1 ≤ lo) :
    ∀ (d i : Nat) (a b : Int), i + d = gs.length → 0 ≤ a → a ≤ i * 1000 → 0 ≤ b → b ≤ i * 1000 → a + sumRd gs d i = sumRd gs gs.length 0 → b + sumRd ts d i = sumRd ts gs.length 0 →
    Ev (fun k => laws_FnDropped.l0 k c gs ts lo g a b (i : Int)) true := by
  intro d
  induction d with
  | zero =>
    intro i a b hi a0 a1 b0 b1 ha hb
    simp only [sumRd] at ha hb
    refine Ev.succ ?_
    simp only [laws_FnDropped.l0]
    refine Ev.neg (by omega) ?_
    rw [w64 (n := a - lo) (by omega) (by omega), w64 (n := b - g) (by omega) (by omega), w64 (by omega) (by omega)]
    refine Ev.neg (by omega) (Ev.neg (by omega) ?_)
    rw [show decide (g < 0) = false by simp; omega]
    refine Ev.succ ?_
    simp only [laws_FnDropped.j2]
    refine Ev.neg (by simp) ?_
    by_cases h1 : c = 1000
    · exact Ev.pos h1 (Ev.some_ rfl)
    · refine Ev.neg h1 ?_
      rw [w64 (by omega) (by omega)]
      exact Ev.next (iDropped_ev (c + 1) gs ts) (Ev.some_ (by simp; exact hm (by omega)))
  | succ d ih =>
    intro i a b hi a0 a1 b0 b1 ha hb
    simp only [sumRd] at ha hb
    have := hd i (by omega)
    refine Ev.succ ?_
    simp only [laws_FnDropped.l0]
    refine Ev.pos (by omega) (Ev.pos (by omega) (Ev.pos (by omega) ?_))
    rw [w64 (n := a + _) (by omega) (by omega), w64 (n := b + _) (by omega) (by omega), w64_add (by omega) (by omega)]
    exact ih (i + 1) _ _ (by omega) (by omega) (by omega) (by omega) (by omega) (by omega) (by omega)
theorem FnDropped (l : List Int) (m0 : l.length ≤ maxLen) (w0 : ∀ x ∈ l, (Lit.int .u8 x).wf = true) : ∃ k, laws_FnDropped.f k l = some true := by
  refine EvP.law ?_
  unfold laws_FnDropped.f laws_big.f
  simp only [Option.bind_some]
  refine EvP.both (fun _ => EvP.now rfl) (fun hl => ?_)
  refine EvP.next (DrawDropped_ev l (by simp at hl; omega)) ?_
  rintro ⟨c, gs, ts⟩ -
  refine Ev.p ?_
  simp only
  refine Ev.next (iDropped_ev c gs ts) (Ev.next (sDropped_ev c gs ts) (Ev.neg (by simp) (Ev.next (iDropped_ev 2 [3, 0] [1, 2]) (Ev.pos (by decide) (Ev.pos (by decide) ?_)))))
  rw [show ((droppedOf 2 [3, 0] [1, 2]).2.1 != 1) = false by decide]
  refine Ev.succ ?_
  simp only [laws_FnDropped.j0]
  refine Ev.neg (by simp) ?_
  cases hok : (droppedOf c gs ts).2.2 with
  | false =>
    obtain ⟨h1, h2⟩ := droppedOf_no hok
    exact Ev.neg (by simp) (Ev.pos h1 (Ev.some_ (by simp [h2])))
  | true =>
    refine Ev.pos rfl ?_
    unfold droppedOf at hok
    by_cases hc : (1 ≤ c ∧ c ≤ 1000) ∧ gs.length = ts.length ∧ gs.length ≤ 512
    · rw [if_pos hc] at hok
      have hD : droppedOf c gs ts = dGo c gs ts gs.length 0 0 0 0 := if_pos hc
      rw [hD]
      have hb := dGo_bd c (by omega) gs ts gs.length 0 0 0 0 (by omega) (by omega) (by omega) (by omega)
      have hs := dGo_sum c (by omega) gs ts gs.length 0 0 0 0 hok (by omega) (by omega) (by omega)
      have hi := dGo_in c gs ts gs.length 0 0 0 0 hok
      refine law_l0 c gs ts _ _ hc.1 hc.2.1 hc.2.2 (by omega) (by omega) (fun j hj => by simpa using hi.2.2 j hj) (by omega) (fun hlt => ?_) gs.length 0 0 0 (by omega) (by omega) (by omega) (by omega) (by omega) (by omega) (by omega)
      have : droppedOf (c + 1) gs ts = dGo (c + 1) gs ts gs.length 0 0 0 0 := if_pos ⟨by omega, hc.2⟩
      rw [this]
      exact dGo_more c gs ts gs.length 0 0 0 0 0 0 0 hok (by omega) (by omega)
    · rw [if_neg hc] at hok; cases hok
end Go.Proofs.Ytbllkldpipmalaa.Pure
