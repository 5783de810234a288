/- For every capacity and every two lists of whole numbers the law FnExactDropped answers true; no condition beside what its parameters are. -/
import Derived.Test.YtbllkldpipmalaaPFnExactDroppedx2
import Derived.Test.YtbllkldpipmalaaAid
set_option linter.unusedVariables false
set_option linter.unusedSimpArgs false
namespace Go.Proofs.Ytbllkldpipmalaa.Pure
open Go Go.RowKit Go.Proofs.Ytbllkldpipmalaa.PFnExactDropped Go.Proofs.YtbllkldpipmalaaW.PrintWords Go.Proofs.YtbllkldpipmalaaW.PrintLast Go.Proofs.YtbllkldpipmalaaW.PrintMore
theorem toIntS_l0 (l : List Int) (hl : l.length ≤ 35184372088832) : ∀ (d i : Nat) (acc : List Int), i + d = l.length → acc.length = l.length → acc.take i = l.take i → Ev (fun k => laws_toIntS.l0 k l acc (i : Int)) l := by
  intro d
  induction d with
  | zero =>
    intro i acc h h1 h2
    refine Ev.round (f := fun _ => some acc) (Ev.some_ ?_) (fun k => by simp only [laws_toIntS.l0]; rw [if_neg (by omega)])
    rw [List.take_of_length_le (by omega), List.take_of_length_le (by omega)] at h2
    exact h2
  | succ d ih =>
    intro i acc h h1 h2
    have hi : i < l.length := by omega
    refine Ev.round (ih (i + 1) (acc.set i (rd l i)) (by omega) (by simp [h1]) ?_) (fun k => ?_)
    · rw [take_rd hi, ← h2]; exact take_set_end (by omega) _
    · simp only [laws_toIntS.l0]
      rw [if_pos (by omega), if_pos (by omega), if_pos (by omega), w64_add (by omega) (by omega)]
      simp
theorem toIntS_ev (l : List Int) (hl : l.length ≤ 35184372088832) : Ev (fun k => laws_toIntS.f k l) l := by
  unfold laws_toIntS.f
  refine Ev.pos (by omega) (Ev.pos (by omega) ?_)
  exact toIntS_l0 l hl l.length 0 _ (by omega) (by simp) (by simp)
theorem eqIntS_l0 (a b : List Int) (h : a.length = b.length) (hl : a.length ≤ 35184372088832) : ∀ (d i : Nat), i + d = a.length → Ev (fun k => laws_eqIntS.l0 k a b (i : Int)) (decide (a.drop i = b.drop i)) := by
  intro d
  induction d with
  | zero =>
    intro i hi
    refine Ev.round (f := fun _ => some true) (Ev.some_ ?_) (fun k => by simp only [laws_eqIntS.l0]; rw [if_neg (by omega)])
    rw [List.drop_of_length_le (by omega), List.drop_of_length_le (by omega)]; simp
  | succ d ih =>
    intro i hi
    by_cases he : rd a i = rd b i
    · refine (Ev.round (ih (i + 1) (by omega)) (fun k => ?_)).to ?_
      · simp only [laws_eqIntS.l0]
        rw [if_pos (by omega), if_pos (by omega), if_pos (by omega), if_pos he, w64_add (by omega) (by omega)]; simp
      · rw [drop_rd (xs := a) (i := i) (by omega), drop_rd (xs := b) (i := i) (by omega), he]; simp
    · refine (Ev.round (f := fun _ => some false) (Ev.some_ rfl) (fun k => ?_)).to ?_
      · simp only [laws_eqIntS.l0]
        rw [if_pos (by omega), if_pos (by omega), if_pos (by omega), if_neg he]
      · rw [drop_rd (xs := a) (i := i) (by omega), drop_rd (xs := b) (i := i) (by omega)]; simp [he]
theorem eqIntS_ev (a b : List Int) (hl : a.length ≤ 35184372088832) : Ev (fun k => laws_eqIntS.f k a b) (decide (a = b)) := by
  unfold laws_eqIntS.f
  by_cases h : a.length = b.length
  · exact Ev.pos (by omega) (eqIntS_l0 a b h hl a.length 0 (by omega))
  · exact (Ev.neg (by omega) (Ev.some_ rfl)).to (by simp; intro e; exact h (by rw [e]))
def dGo (c : Int) (gs ts : List Int) : Nat → Nat → Int → Int → Int → Int × Int × Bool
  | 0, _, _, lo, g => (lo, g, true)
  | d + 1, i, h, lo, g =>
    if (0 ≤ rd gs i ∧ rd gs i ≤ 1000) ∧ (0 ≤ rd ts i ∧ rd ts i ≤ 1000) then
      dGo c gs ts d (i + 1) (mx (mn (h + rd gs i) c - rd ts i) 0) (lo + mx (h + rd gs i - c) 0) (g + mx (rd ts i - mn (h + rd gs i) c) 0)
    else (0, 0, false)
def droppedOf (c : Int) (gs ts : List Int) : Int × Int × Bool :=
  if (1 ≤ c ∧ c ≤ 1000) ∧ gs.length = ts.length ∧ gs.length ≤ 512 then dGo c gs ts gs.length 0 0 0 0 else (0, 0, false)
theorem mx_bd (a : Int) : 0 ≤ mx a 0 ∧ a ≤ mx a 0 ∧ (mx a 0 = a ∨ mx a 0 = 0) := by unfold mx; split <;> omega
theorem mn_bd (a b : Int) : mn a b ≤ a ∧ mn a b ≤ b ∧ (mn a b = a ∨ mn a b = b) := by unfold mn; split <;> omega
theorem to_eq (a b c : Int) : impl_to.f a b c = some (decide (b ≤ a) && decide (a ≤ c)) := by
  unfold impl_to.f
  by_cases h : a ≥ b
  · rw [if_pos h]; simp [show b ≤ a from h]
  · rw [if_neg h]; simp [show ¬ b ≤ a from h]
theorem iDropped_l0 (c : Int) (gs ts : List Int) (hc : 1 ≤ c ∧ c ≤ 1000) (hl : gs.length = ts.length) (hn : gs.length ≤ 512) : ∀ (d i : Nat) (h lo g : Int), i + d = gs.length → 0 ≤ h → h ≤ 1000 → 0 ≤ lo → lo ≤ i * 2000 → 0 ≤ g → g ≤ i * 1000 →
    Ev (fun k => impl_Dropped.l0 k c gs ts lo g h (gs.length : Int) (i : Int)) (dGo c gs ts d i h lo g) := by
  intro d
  induction d with
  | zero =>
    intro i h lo g hi _ _ _ _ _ _
    exact Ev.round (f := fun _ => some (lo, g, true)) (Ev.some_ rfl) (fun k => by simp only [impl_Dropped.l0]; rw [if_neg (by omega)])
  | succ d ih =>
    intro i h lo g hi h0 h1 l0 l1 g0 g1
    refine Ev.succ ?_
    simp only [impl_Dropped.l0, to_eq, Option.bind_some]
    refine Ev.pos (by omega) (Ev.pos (by omega) (Ev.pos (by omega) ?_))
    simp only [dGo]
    by_cases hx : 0 ≤ rd gs i ∧ rd gs i ≤ 1000
    · refine Ev.pos (by simp; omega) (Ev.pos (by omega) ?_)
      by_cases hy : 0 ≤ rd ts i ∧ rd ts i ≤ 1000
      · refine Ev.pos (by simp; omega) ?_
        rw [if_pos ⟨hx, hy⟩]
        have a1 := mn_bd (h + rd gs i) c
        have a2 := mx_bd (h + rd gs i - c)
        have a3 := mx_bd (rd ts i - mn (h + rd gs i) c)
        have a4 := mx_bd (mn (h + rd gs i) c - rd ts i)
        rw [w64 (n := h + rd gs i) (by omega) (by omega), w64 (n := h + rd gs i - c) (by omega) (by omega), w64 (n := lo + _) (by omega) (by omega), w64 (n := rd ts i - _) (by omega) (by omega), w64 (n := g + _) (by omega) (by omega), w64 (n := _ - rd ts i) (by omega) (by omega), w64_add (by omega) (by omega)]
        exact ih (i + 1) _ _ _ (by omega) (by omega) (by omega) (by omega) (by omega) (by omega) (by omega)
      · rw [if_neg (by omega)]; exact Ev.neg (by simp; omega) (Ev.some_ rfl)
    · rw [if_neg (by omega)]; exact Ev.neg (by simp; omega) (Ev.some_ rfl)
theorem iDropped_ev (c : Int) (gs ts : List Int) : Ev (fun k => impl_Dropped.f k c gs ts) (droppedOf c gs ts) := by
  have bad : Ev (fun k => impl_Dropped.j0 k c gs ts true) (0, 0, false) := by
    refine Ev.succ ?_
    simp only [impl_Dropped.j0]
    exact Ev.pos trivial (Ev.some_ rfl)
  unfold impl_Dropped.f droppedOf
  by_cases h1 : c < 1
  · rw [if_neg (by omega)]; exact Ev.pos h1 bad
  refine Ev.neg h1 ?_
  by_cases h2 : c > 1000
  · rw [if_neg (by omega)]; exact Ev.pos h2 bad
  refine Ev.neg h2 ?_
  by_cases h3 : gs.length = ts.length
  · refine Ev.pos (by omega) ?_
    by_cases h4 : gs.length ≤ 512
    · rw [if_pos ⟨by omega, h3, h4⟩, show decide ((gs.length : Int) > 512) = false by simp; omega]
      refine Ev.succ ?_
      simp only [impl_Dropped.j0]
      exact Ev.neg (by simp) (iDropped_l0 c gs ts (by omega) h3 h4 gs.length 0 0 0 0 (by omega) (by omega) (by omega) (by omega) (by omega) (by omega) (by omega))
    · rw [if_neg (by omega), show decide ((gs.length : Int) > 512) = true by simp; omega]; exact bad
  · rw [if_neg (by omega)]; exact Ev.neg (by omega) bad
theorem l1In_eq (a b c : Int) : spec_l1In.f a b c = some (decide (b ≤ a) && decide (a ≤ c)) := by
  unfold spec_l1In.f
  by_cases h : a ≥ b
  · rw [if_pos h]; simp [show b ≤ a from h]
  · rw [if_neg h]; simp [show ¬ b ≤ a from h]
theorem sDropped_l0 (c : Int) (gs ts : List Int) (hc : 1 ≤ c ∧ c ≤ 1000) (hl : gs.length = ts.length) (hn : gs.length ≤ 512) : ∀ (d i : Nat) (h lo g : Int), i + d = gs.length → 0 ≤ h → h ≤ 1000 → 0 ≤ lo → lo ≤ i * 2000 → 0 ≤ g → g ≤ i * 1000 →
    Ev (fun k => spec_Dropped.l0 k c gs ts h lo g (i : Int)) (dGo c gs ts d i h lo g) := by
  intro d
  induction d with
  | zero =>
    intro i h lo g hi _ _ _ _ _ _
    exact Ev.round (f := fun _ => some (lo, g, true)) (Ev.some_ rfl) (fun k => by simp only [spec_Dropped.l0]; rw [if_neg (by omega)])
  | succ d ih =>
    intro i h lo g hi h0 h1 l0 l1 g0 g1
    have bad : Ev (fun k => spec_Dropped.j2 k c gs ts h lo g (i : Int) true) (0, 0, false) := by
      refine Ev.succ ?_
      simp only [spec_Dropped.j2]
      exact Ev.pos trivial (Ev.some_ rfl)
    refine Ev.succ ?_
    simp only [spec_Dropped.l0, l1In_eq, Option.bind_some]
    refine Ev.pos (by omega) (Ev.pos (by omega) ?_)
    simp only [dGo]
    by_cases hx : 0 ≤ rd gs i ∧ rd gs i ≤ 1000
    · refine Ev.pos (by simp; omega) (Ev.pos (by omega) ?_)
      by_cases hy : 0 ≤ rd ts i ∧ rd ts i ≤ 1000
      · rw [if_pos ⟨hx, hy⟩, show (decide (0 ≤ rd ts i) && decide (rd ts i ≤ 1000)) = true by simp; omega]
        refine Ev.succ ?_
        simp only [spec_Dropped.j2]
        refine Ev.neg (by simp) (Ev.pos (by omega) (Ev.pos (by omega) ?_))
        rw [w64 (n := h + rd gs i) (by omega) (by omega), w64 (n := lo + (h + rd gs i)) (by omega) (by omega), w64 (n := _ - c) (by omega) (by omega), w64 (n := c - _) (by omega) (by omega), w64 (n := h + rd gs i - _) (by omega) (by omega), w64_add (by omega) (by omega)]
        have key : ∀ a b e a' b' e' : Int, a = a' → b = b' → e = e' → Ev (fun k => spec_Dropped.l0 k c gs ts a' b' e' ((i + 1 : Nat) : Int)) (dGo c gs ts d (i + 1) a' b' e') → Ev (fun k => spec_Dropped.l0 k c gs ts a b e ((i : Int) + 1)) (dGo c gs ts d (i + 1) a' b' e') := by
          rintro a b e _ _ _ rfl rfl rfl h; exact h
        by_cases h3 : h + rd gs i > c
        · have e1 : mn (h + rd gs i) c = c := by unfold mn; split <;> omega
          have e2 : mx (h + rd gs i - c) 0 = h + rd gs i - c := by unfold mx; split <;> omega
          rw [e1, e2]
          refine Ev.pos h3 (Ev.pos (by omega) ?_)
          by_cases h4 : c - rd ts i < 0
          · have e3 : mx (c - rd ts i) 0 = 0 := by unfold mx; split <;> omega
            have e4 : mx (rd ts i - c) 0 = rd ts i - c := by unfold mx; split <;> omega
            rw [e3, e4, w64 (n := g - _) (by omega) (by omega)]
            exact Ev.pos h4 (key _ _ _ _ _ _ rfl (by omega) (by omega) (ih (i + 1) _ _ _ (by omega) (by omega) (by omega) (by omega) (by omega) (by omega) (by omega)))
          · have e3 : mx (c - rd ts i) 0 = c - rd ts i := by unfold mx; split <;> omega
            have e4 : mx (rd ts i - c) 0 = 0 := by unfold mx; split <;> omega
            rw [e3, e4]
            exact Ev.neg h4 (key _ _ _ _ _ _ rfl (by omega) (by omega) (ih (i + 1) _ _ _ (by omega) (by omega) (by omega) (by omega) (by omega) (by omega) (by omega)))
        · have e1 : mn (h + rd gs i) c = h + rd gs i := by unfold mn; split <;> omega
          have e2 : mx (h + rd gs i - c) 0 = 0 := by unfold mx; split <;> omega
          rw [e1, e2]
          refine Ev.neg h3 (Ev.pos (by omega) ?_)
          by_cases h4 : h + rd gs i - rd ts i < 0
          · have e3 : mx (h + rd gs i - rd ts i) 0 = 0 := by unfold mx; split <;> omega
            have e4 : mx (rd ts i - (h + rd gs i)) 0 = rd ts i - (h + rd gs i) := by unfold mx; split <;> omega
            rw [e3, e4, w64 (n := g - _) (by omega) (by omega)]
            exact Ev.pos h4 (key _ _ _ _ _ _ rfl (by omega) (by omega) (ih (i + 1) _ _ _ (by omega) (by omega) (by omega) (by omega) (by omega) (by omega) (by omega)))
          · have e3 : mx (h + rd gs i - rd ts i) 0 = h + rd gs i - rd ts i := by unfold mx; split <;> omega
            have e4 : mx (rd ts i - (h + rd gs i)) 0 = 0 := by unfold mx; split <;> omega
            rw [e3, e4]
            exact Ev.neg h4 (key _ _ _ _ _ _ rfl (by omega) (by omega) (ih (i + 1) _ _ _ (by omega) (by omega) (by omega) (by omega) (by omega) (by omega) (by omega)))
      · rw [if_neg (by omega), show (decide (0 ≤ rd ts i) && decide (rd ts i ≤ 1000)) = false by simp; omega]; exact bad
    · rw [if_neg (by omega)]; exact Ev.neg (by simp; omega) bad
theorem sDropped_ev (c : Int) (gs ts : List Int) : Ev (fun k => spec_Dropped.f k c gs ts) (droppedOf c gs ts) := by
  have bad : Ev (fun k => spec_Dropped.j0 k c gs ts true) (0, 0, false) := by
    refine Ev.succ ?_
    simp only [spec_Dropped.j0]
    exact Ev.pos trivial (Ev.some_ rfl)
  unfold spec_Dropped.f droppedOf
  simp only [l1In_eq, Option.bind_some]
  by_cases h1 : 1 ≤ c ∧ c ≤ 1000
  · refine Ev.pos (by simp; omega) ?_
    by_cases h3 : gs.length = ts.length
    · refine Ev.pos (by omega) ?_
      by_cases h4 : gs.length ≤ 512
      · rw [if_pos ⟨h1, h3, h4⟩, show decide ((gs.length : Int) > 512) = false by simp; omega]
        refine Ev.succ ?_
        simp only [spec_Dropped.j0]
        exact Ev.neg (by simp) (sDropped_l0 c gs ts (by omega) h3 h4 gs.length 0 0 0 0 (by omega) (by omega) (by omega) (by omega) (by omega) (by omega) (by omega))
      · rw [if_neg (by omega), show decide ((gs.length : Int) > 512) = true by simp; omega]; exact bad
    · rw [if_neg (by omega)]; exact Ev.neg (by omega) bad
  · rw [if_neg (by omega)]; exact Ev.neg (by simp; omega) bad
theorem FnExactDropped (c : Int) (l1 : List Int) (l2 : List Int) (w0 : (Lit.int .i64 c).wf = true) (m1 : l1.length ≤ maxLen) (w1 : ∀ x ∈ l1, (Lit.int .i64 x).wf = true) (m2 : l2.length ≤ maxLen) (w2 : ∀ x ∈ l2, (Lit.int .i64 x).wf = true) : ∃ k, laws_FnExactDropped.f k c l1 l2 = some true := by
  refine Ev.rounds ?_
  unfold laws_FnExactDropped.f
  by_cases h1 : (l1.length : Int) > 1048576
  · exact Ev.pos h1 (Ev.some_ rfl)
  refine Ev.neg h1 ?_
  by_cases h2 : (l2.length : Int) > 1048576
  · exact Ev.pos h2 (Ev.some_ rfl)
  refine Ev.neg h2 (Ev.next (toIntS_ev l1 (by omega)) (Ev.next (toIntS_ev l2 (by omega)) (Ev.next (sDropped_ev c l1 l2) (Ev.next (toIntS_ev l1 (by omega)) (Ev.next (toIntS_ev l2 (by omega)) (Ev.next (iDropped_ev c l1 l2) (Ev.pos rfl (Ev.pos rfl ?_))))))))
  refine Ev.succ ?_
  simp only [laws_FnExactDropped.j0]
  exact Ev.neg (by simp) (Ev.next (toIntS_ev l1 (by omega)) (Ev.next (eqIntS_ev l1 l1 (by omega)) (Ev.pos (by simp) (Ev.next (toIntS_ev l2 (by omega)) (Ev.next (eqIntS_ev l2 l2 (by omega)) (Ev.pos (by simp) (Ev.some_ rfl)))))))
end Go.Proofs.Ytbllkldpipmalaa.Pure
