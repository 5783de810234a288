import Derived.Test.YtbllkldpipmalaaPFnExactUnGuessx3
import Derived.Test.YtbllkldpipmalaaAid
set_option linter.unusedVariables false
set_option linter.unusedSimpArgs false
namespace Go.Proofs.Ytbllkldpipmalaa.Pure
open Go Go.RowKit Go.Proofs.Ytbllkldpipmalaa.PFnExactUnGuess Go.Proofs.YtbllkldpipmalaaW.PrintWords Go.Proofs.YtbllkldpipmalaaW.PrintLast Go.Proofs.YtbllkldpipmalaaW.PrintMore
theorem toIntS_l0 (l : List Int) (hl : l.length ≤ 35184372088832) : ∀ (d i : Nat) (acc : List Int), i + d = l.length → acc.length = l.length → acc.take i = l.take i → Ev (fun k => laws_toIntS.l0 k l acc (i : Int)) l := by
  intro d
  induction d with
  | zero =>
    intro i acc h h1 h2
    refine Ev.round (f := fun _ => some acc) (Ev.some_ ?_) (fun k => by simp only [laws_toIntS.l0]; rw [if_neg (by omega)])
    rw [List.take_of_length_le (by omega), List.take_of_length_le (by omega)] at h2
    exact h2
  | succ d ih =>
    intro i acc h h1 h2
    have hi : i < l.length := by omega
    refine Ev.round (ih (i + 1) (acc.set i (rd l i)) (by omega) (by simp [h1]) ?_) (fun k => ?_)
    · rw [take_rd hi, ← h2]; exact take_set_end (by omega) _
    · simp only [laws_toIntS.l0]
      rw [if_pos (by omega), if_pos (by omega), if_pos (by omega), w64_add (by omega) (by omega)]
      simp
theorem toIntS_ev (l : List Int) (hl : l.length ≤ 35184372088832) : Ev (fun k => laws_toIntS.f k l) l := by
  unfold laws_toIntS.f
  refine Ev.pos (by omega) (Ev.pos (by omega) ?_)
  exact toIntS_l0 l hl l.length 0 _ (by omega) (by simp) (by simp)
theorem eqIntS_l0 (a b : List Int) (h : a.length = b.length) (hl : a.length ≤ 35184372088832) : ∀ (d i : Nat), i + d = a.length → Ev (fun k => laws_eqIntS.l0 k a b (i : Int)) (decide (a.drop i = b.drop i)) := by
  intro d
  induction d with
  | zero =>
    intro i hi
    refine Ev.round (f := fun _ => some true) (Ev.some_ ?_) (fun k => by simp only [laws_eqIntS.l0]; rw [if_neg (by omega)])
    rw [List.drop_of_length_le (by omega), List.drop_of_length_le (by omega)]; simp
  | succ d ih =>
    intro i hi
    by_cases he : rd a i = rd b i
    · refine (Ev.round (ih (i + 1) (by omega)) (fun k => ?_)).to ?_
      · simp only [laws_eqIntS.l0]
        rw [if_pos (by omega), if_pos (by omega), if_pos (by omega), if_pos he, w64_add (by omega) (by omega)]; simp
      · rw [drop_rd (xs := a) (i := i) (by omega), drop_rd (xs := b) (i := i) (by omega), he]; simp
    · refine (Ev.round (f := fun _ => some false) (Ev.some_ rfl) (fun k => ?_)).to ?_
      · simp only [laws_eqIntS.l0]
        rw [if_pos (by omega), if_pos (by omega), if_pos (by omega), if_neg he]
      · rw [drop_rd (xs := a) (i := i) (by omega), drop_rd (xs := b) (i := i) (by omega)]; simp [he]
theorem eqIntS_ev (a b : List Int) (hl : a.length ≤ 35184372088832) : Ev (fun k => laws_eqIntS.f k a b) (decide (a = b)) := by
  unfold laws_eqIntS.f
  by_cases h : a.length = b.length
  · exact Ev.pos (by omega) (eqIntS_l0 a b h hl a.length 0 (by omega))
  · exact (Ev.neg (by omega) (Ev.some_ rfl)).to (by simp; intro e; exact h (by rw [e]))
def iota (a : Int) : Nat → List Int
  | 0 => []
  | n + 1 => a :: iota (a + 1) n
theorem iota_length : ∀ (n : Nat) (a : Int), (iota a n).length = n
  | 0, _ => rfl
  | n + 1, a => by simp [iota, iota_length n]
theorem markIntS_l0 (m : Nat) (hm : m ≤ 1048576) : ∀ (d i : Nat) (l : List Int) (a : Int), i + d = l.length → l.length ≤ 1048576 → 0 ≤ a → a ≤ 1000000000 + i → Ev (fun k => laws_markIntS.l0 k l a (i : Int)) (a + d, l.take i ++ iota a d) := by
  intro d
  induction d with
  | zero =>
    intro i l a hi hl h0 h1
    refine Ev.succ ?_
    simp only [laws_markIntS.l0]
    refine Ev.neg (by omega) (Ev.some_ ?_)
    rw [List.take_of_length_le (by omega)]; simp [iota]
  | succ d ih =>
    intro i l a hi hl h0 h1
    refine Ev.succ ?_
    simp only [laws_markIntS.l0]
    refine Ev.pos (by omega) (Ev.pos (by omega) ?_)
    rw [w64_add (by omega) (by omega), w64_add (by omega) (by omega)]
    refine (ih (i + 1) (l.set i a) (a + 1) (by simp; omega) (by simpa using hl) (by omega) (by omega)).to ?_
    rw [take_set_end (by omega)]
    simp only [iota, List.append_assoc, List.cons_append, List.nil_append, Prod.mk.injEq, and_true]
    omega
theorem markIntS_ev (l : List Int) (a : Int) (hl : l.length ≤ 1048576) (h0 : 0 ≤ a) (h1 : a ≤ 1000000000) : Ev (fun k => laws_markIntS.f k l a) (a + l.length, iota a l.length) := by
  unfold laws_markIntS.f
  exact (markIntS_l0 l.length hl l.length 0 l a (by omega) hl h0 (by omega)).to (by simp)
theorem heldIntS_l0 (p : List Int) : ∀ (d : Nat) (a : Int) (l : List Int), l = p ++ iota a d → l.length ≤ 1048576 → ∀ i : Nat, i = p.length → 0 ≤ a → a ≤ 1000000000 + i → Ev (fun k => laws_heldIntS.l0 k l a (i : Int)) (a + d) := by
  intro d
  induction d generalizing p with
  | zero =>
    intro a l hl hn i hi h0 h1
    refine Ev.succ ?_
    simp only [laws_heldIntS.l0]
    have : l.length = p.length := by rw [hl]; simp [iota]
    exact Ev.neg (by omega) (Ev.some_ (by omega))
  | succ d ih =>
    intro a l hl hn i hi h0 h1
    have e : l.length = p.length + (d + 1) := by rw [hl]; simp [iota, iota_length]
    refine Ev.succ ?_
    simp only [laws_heldIntS.l0]
    refine Ev.pos (by omega) (Ev.pos (by omega) (Ev.pos ?_ ?_))
    · rw [rd_get l i (by omega)]
      subst hl
      rw [List.getElem_append_right (by omega)]
      simp [iota, hi]
    · rw [w64_add (by omega) (by omega), w64_add (by omega) (by omega)]
      exact (ih (p ++ [a]) (a + 1) l (by rw [hl]; simp [iota]) hn (i + 1) (by simp [hi]) (by omega) (by omega)).to (by omega)
theorem heldIntS_ev (n : Nat) (a : Int) (hn : n ≤ 1048576) (h0 : 0 ≤ a) (h1 : a ≤ 1000000000) : Ev (fun k => laws_heldIntS.f k (iota a n) a) (a + n) :=
  heldIntS_l0 [] n a (iota a n) (by simp) (by rw [iota_length]; exact hn) 0 rfl h0 (by omega)
def allIn (a : Int) (l : List Int) : Bool := l.all fun x => decide (-a ≤ x) && decide (x ≤ a)
theorem allIn_iff {a : Int} {l : List Int} : allIn a l = true ↔ ∀ x ∈ l, -a ≤ x ∧ x ≤ a := by
  unfold allIn; simp [List.all_eq_true]
/-- What sample i is foretold by, by those ahead of it. -/
def foreN (o : Int) (l : List Int) (i : Nat) : Int :=
  if mn o i = 1 then rd l ((i : Int) - 1)
  else if mn o i = 2 then 2 * rd l ((i : Int) - 1) - rd l ((i : Int) - 2)
  else if mn o i = 3 then 3 * (rd l ((i : Int) - 1) - rd l ((i : Int) - 2)) + rd l ((i : Int) - 3)
  else 0
theorem rd_bd {l : List Int} {i : Int} (h : ∀ x ∈ l, -1000000000 ≤ x ∧ x ≤ 1000000000) : -1000000000 ≤ rd l i ∧ rd l i ≤ 1000000000 := by
  unfold rd
  rw [List.getD_eq_getElem?_getD]
  cases hg : l[i.toNat]? with
  | none => simp
  | some x => exact h x (List.mem_of_getElem? hg)
theorem foreN_bd {o : Int} {l : List Int} {i : Nat} (h : ∀ x ∈ l, -1000000000 ≤ x ∧ x ≤ 1000000000) : -7000000000 ≤ foreN o l i ∧ foreN o l i ≤ 7000000000 := by
  have h1 := rd_bd (l := l) (i := (i : Int) - 1) h
  have h2 := rd_bd (l := l) (i := (i : Int) - 2) h
  have h3 := rd_bd (l := l) (i := (i : Int) - 3) h
  unfold foreN
  split
  · omega
  · split
    · omega
    · split <;> omega
theorem rd_take {l : List Int} {i : Nat} {j : Int} (h0 : 0 ≤ j) (h1 : j < i) : rd (l.take i) j = rd l j := by
  unfold rd
  rw [List.getD_eq_getElem?_getD, List.getD_eq_getElem?_getD, List.getElem?_take_of_lt (by omega)]
def guessGo (o : Int) (l : List Int) : Nat → Nat → List Int
  | 0, _ => []
  | d + 1, i => (rd l i - foreN o l i) :: guessGo o l d (i + 1)
theorem guessGo_len (o : Int) (l : List Int) : ∀ d i, (guessGo o l d i).length = d
  | 0, _ => rfl
  | d + 1, i => by simp [guessGo, guessGo_len o l d (i + 1)]
def sigB (l : List Int) : Bool := decide (l.length ≤ 512) && allIn 1000000000 l
theorem sigB_iff {l : List Int} : sigB l = true ↔ l.length ≤ 512 ∧ ∀ x ∈ l, -1000000000 ≤ x ∧ x ≤ 1000000000 := by
  unfold sigB; rw [Bool.and_eq_true, allIn_iff]; simp
def guessOf (o : Int) (l : List Int) : List Int × Bool := if (0 ≤ o ∧ o ≤ 3) ∧ sigB l = true then (guessGo o l l.length 0, true) else ([], false)
def unGo (o : Int) (left : List Int) : Nat → Nat → List Int → List Int × Bool
  | 0, _, out => (out, true)
  | d + 1, i, out => if -1000000000 ≤ rd left i + foreN o out out.length ∧ rd left i + foreN o out out.length ≤ 1000000000 then unGo o left d (i + 1) (out ++ [rd left i + foreN o out out.length]) else ([], false)
theorem unGo_len (o : Int) (left : List Int) : ∀ (d i : Nat) (out : List Int), (unGo o left d i out).1.length ≤ out.length + d
  | 0, _, out => by simp [unGo]
  | d + 1, i, out => by
    simp only [unGo]
    split
    · have := unGo_len o left d (i + 1) (out ++ [rd left i + foreN o out out.length])
      simp only [List.length_append, List.length_cons, List.length_nil] at this
      omega
    · simp
def unGuessOf (o : Int) (left : List Int) : List Int × Bool := if (0 ≤ o ∧ o ≤ 3) ∧ left.length ≤ 512 ∧ allIn 10000000000 left = true then unGo o left left.length 0 [] else ([], false)
theorem l17Fore_ev (o : Int) (l : List Int) (i : Nat) (hi : i ≤ l.length) (hl : l.length ≤ 1048576) (ho : 0 ≤ o ∧ o ≤ 3) (h : ∀ x ∈ l, -1000000000 ≤ x ∧ x ≤ 1000000000) : Ev (fun k => spec_l17Fore.f k o l (i : Int)) (foreN o l i) := by
  have h1 := rd_bd (l := l) (i := (i : Int) - 1) h
  have h2 := rd_bd (l := l) (i := (i : Int) - 2) h
  have h3 := rd_bd (l := l) (i := (i : Int) - 3) h
  have key : ∀ m : Int, m = mn o i → 0 ≤ m → m ≤ i → Ev (fun k => spec_l17Fore.j0 k m l (i : Int)) (foreN o l i) := by
    intro m hm h0 hmi
    have e : foreN o l i = if m = 1 then rd l ((i : Int) - 1) else if m = 2 then 2 * rd l ((i : Int) - 1) - rd l ((i : Int) - 2) else if m = 3 then 3 * (rd l ((i : Int) - 1) - rd l ((i : Int) - 2)) + rd l ((i : Int) - 3) else 0 := by rw [hm]; rfl
    refine Ev.succ ?_
    simp only [spec_l17Fore.j0]
    by_cases c1 : m = 1
    · rw [if_pos c1] at e
      rw [e, w64 (n := (i : Int) - 1) (by omega) (by omega)]
      exact Ev.pos c1 (Ev.pos (by omega) (Ev.pos (by omega) (Ev.some_ rfl)))
    rw [if_neg c1] at e
    refine Ev.neg c1 ?_
    by_cases c2 : m = 2
    · rw [if_pos c2] at e
      rw [e, w64 (n := (i : Int) - 1) (by omega) (by omega), w64 (n := (i : Int) - 2) (by omega) (by omega), w64 (n := 2 * rd l ((i : Int) - 1)) (by omega) (by omega), w64 (n := 2 * _ - _) (by omega) (by omega)]
      exact Ev.pos c2 (Ev.pos (by omega) (Ev.pos (by omega) (Ev.pos (by omega) (Ev.pos (by omega) (Ev.some_ rfl)))))
    rw [if_neg c2] at e
    refine Ev.neg c2 ?_
    by_cases c3 : m = 3
    · rw [if_pos c3] at e
      rw [e, w64 (n := (i : Int) - 1) (by omega) (by omega), w64 (n := (i : Int) - 2) (by omega) (by omega), w64 (n := (i : Int) - 3) (by omega) (by omega), w64 (n := rd l ((i : Int) - 1) - _) (by omega) (by omega), w64 (n := 3 * _) (by omega) (by omega), w64 (n := 3 * _ + _) (by omega) (by omega)]
      exact Ev.pos c3 (Ev.pos (by omega) (Ev.pos (by omega) (Ev.pos (by omega) (Ev.pos (by omega) (Ev.pos (by omega) (Ev.pos (by omega) (Ev.some_ rfl)))))))
    rw [if_neg c3] at e
    rw [e]
    exact Ev.neg c3 (Ev.some_ rfl)
  unfold spec_l17Fore.f
  by_cases hc : (i : Int) < o
  · exact Ev.pos hc (key i (by unfold mn; rw [if_pos hc]) (by omega) (by omega))
  · exact Ev.neg hc (key o (by unfold mn; rw [if_neg hc]) (by omega) (by omega))
theorem l1In_eq (a b c : Int) : spec_l1In.f a b c = some (decide (b ≤ a) && decide (a ≤ c)) := by
  unfold spec_l1In.f
  by_cases h : a ≥ b
  · rw [if_pos h]; simp [show b ≤ a from h]
  · rw [if_neg h]; simp [show ¬ b ≤ a from h]
theorem l9Wide_l0 (l : List Int) (a : Int) (ha : 0 ≤ a) (ha' : a ≤ 9000000000000000000) (hl : l.length ≤ 35184372088832) : ∀ (d i : Nat), i + d = l.length → Ev (fun k => spec_l9Wide.l0 k l a (i : Int)) (allIn a (l.drop i)) := by
  intro d
  induction d with
  | zero =>
    intro i hi
    refine (Ev.round (f := fun _ => some true) (Ev.some_ rfl) (fun k => by simp only [spec_l9Wide.l0]; rw [if_neg (by omega)])).to ?_
    rw [List.drop_of_length_le (by omega)]; rfl
  | succ d ih =>
    intro i hi
    rw [drop_rd (xs := l) (i := i) (by omega)]
    by_cases h1 : -a ≤ rd l i ∧ rd l i ≤ a
    · refine (Ev.round (ih (i + 1) (by omega)) (fun k => ?_)).to ?_
      · simp only [spec_l9Wide.l0, l1In_eq, Option.bind_some]
        rw [if_pos (by omega), if_pos (by omega), w64 (n := -a) (by omega) (by omega), if_pos (by simp; omega), w64_add (by omega) (by omega)]
        simp
      · simp [allIn]; intros; omega
    · refine (Ev.round (f := fun _ => some false) (Ev.some_ rfl) (fun k => ?_)).to (by simp [allIn]; intros; omega)
      simp only [spec_l9Wide.l0, l1In_eq, Option.bind_some]
      rw [if_pos (by omega), if_pos (by omega), w64 (n := -a) (by omega) (by omega), if_neg (by simp; omega)]
theorem l9Wide_ev (l : List Int) (a : Int) (ha : 0 ≤ a) (ha' : a ≤ 9000000000000000000) (hl : l.length ≤ 35184372088832) : Ev (fun k => spec_l9Wide.f k l a) (allIn a l) :=
  (l9Wide_l0 l a ha ha' hl l.length 0 (by omega)).to (by simp)
theorem l5Sample_eq (a : Int) : spec_l5Sample.f a = some (decide (-1000000000 ≤ a ∧ a ≤ 1000000000)) := by unfold spec_l5Sample.f; rw [l1In_eq]; simp
theorem sUnGuess_l0 (o : Int) (ho : 0 ≤ o ∧ o ≤ 3) (left : List Int) (hl : left.length ≤ 512) (hw : ∀ x ∈ left, -10000000000 ≤ x ∧ x ≤ 10000000000) : ∀ (d i : Nat) (out : List Int), i + d = left.length → out.length = i → (∀ x ∈ out, -1000000000 ≤ x ∧ x ≤ 1000000000) → Ev (fun k => spec_UnGuess.l0 k o left out (i : Int)) (unGo o left d i out) := by
  intro d
  induction d with
  | zero =>
    intro i out hi ha hb
    refine Ev.succ ?_
    simp only [spec_UnGuess.l0]
    exact Ev.neg (by omega) (Ev.some_ rfl)
  | succ d ih =>
    intro i out hi ha hb
    have hf := foreN_bd (o := o) (l := out) (i := out.length) hb
    have hr := hw _ (rd_mem (xs := left) (i := i) (by omega))
    have hft := l17Fore_ev o out i (by omega) (by omega) ho hb
    rw [← ha] at hft
    refine Ev.succ ?_
    simp only [spec_UnGuess.l0]
    rw [w64_add (by omega) (by omega)]
    refine Ev.pos (by omega) (Ev.pos (by omega) ?_)
    rw [← ha]
    refine Ev.next hft ?_
    rw [ha] at hf ⊢
    simp only [l5Sample_eq, Option.bind_some]
    rw [w64 (n := rd left i + _) (by omega) (by omega)]
    by_cases hc : -1000000000 ≤ rd left i + foreN o out i ∧ rd left i + foreN o out i ≤ 1000000000
    · refine Ev.pos (by simpa using hc) (Ev.pos (by omega) ((ih (i + 1) (out ++ [_]) (by omega) (by simp; omega) (fun x hx => ?_)).to ?_))
      · rcases List.mem_append.1 hx with hx | hx
        · exact hb x hx
        · rw [List.mem_singleton.1 hx]; exact hc
      · simp only [unGo]; rw [ha, if_pos hc]
    · refine Ev.neg (by simpa using hc) (Ev.some_ ?_)
      simp only [unGo]; rw [ha, if_neg hc]
theorem sUnGuess_ev (o : Int) (left : List Int) (hl : left.length ≤ 1048576) : Ev (fun k => spec_UnGuess.f k o left) (unGuessOf o left) := by
  have bad : Ev (fun k => spec_UnGuess.j0 k o left [] true) ([], false) := by
    refine Ev.succ ?_
    simp only [spec_UnGuess.j0]
    exact Ev.pos trivial (Ev.some_ rfl)
  unfold spec_UnGuess.f unGuessOf
  simp only [l1In_eq, Option.bind_some]
  by_cases h1 : 0 ≤ o ∧ o ≤ 3
  · refine Ev.pos (by simp; omega) ?_
    by_cases h2 : left.length ≤ 512
    · refine Ev.neg (by omega) (Ev.next (l9Wide_ev left 10000000000 (by omega) (by omega) (by omega)) ?_)
      cases h3 : allIn 10000000000 left
      · rw [if_neg (by simp)]; exact bad
      · rw [if_pos ⟨h1, h2, rfl⟩]
        refine Ev.succ ?_
        simp only [spec_UnGuess.j0]
        exact Ev.neg (by simp) (sUnGuess_l0 o h1 left h2 (allIn_iff.1 h3) left.length 0 [] (by omega) rfl (by simp))
    · rw [if_neg (fun h => h2 h.2.1)]; exact Ev.pos (by omega) bad
  · rw [if_neg (fun h => h1 h.1)]; exact Ev.neg (by simp; omega) bad
theorem foretold_eq (o : Int) (l : List Int) (i : Nat) (hi : i ≤ l.length) (ho : 0 ≤ o) (h : ∀ x ∈ l, -1000000000 ≤ x ∧ x ≤ 1000000000) : impl_foretold.f o (l.take i) = some (foreN o l i) := by
  have hl : (l.take i).length = i := by rw [List.length_take]; omega
  have h1 := rd_bd (l := l) (i := (i : Int) - 1) h
  have h2 := rd_bd (l := l) (i := (i : Int) - 2) h
  have h3 := rd_bd (l := l) (i := (i : Int) - 3) h
  have hm : mn o i ≤ i := by unfold mn; split <;> omega
  unfold impl_foretold.f foreN
  rw [hl]
  by_cases c1 : mn o i = 1
  · rw [if_pos c1, if_pos c1, rd_take (by omega) (by omega)]
  rw [if_neg c1, if_neg c1]
  by_cases c2 : mn o i = 2
  · rw [if_pos c2, if_pos c2, rd_take (by omega) (by omega), rd_take (by omega) (by omega), w64 (n := 2 * _) (by omega) (by omega), w64 (by omega) (by omega)]
  rw [if_neg c2, if_neg c2]
  by_cases c3 : mn o i = 3
  · rw [if_pos c3, if_pos c3, rd_take (by omega) (by omega), rd_take (by omega) (by omega), rd_take (by omega) (by omega), w64 (n := rd l ((i : Int) - 1) - _) (by omega) (by omega), w64 (n := 3 * _) (by omega) (by omega), w64 (by omega) (by omega)]
  rw [if_neg c3, if_neg c3]
theorem orderOk_eq (a : Int) : impl_orderOk.f a = some (decide (0 ≤ a ∧ a ≤ 3)) := by
  unfold impl_orderOk.f
  by_cases h : a ≥ 0 <;> simp [h]
theorem within_l0 (l : List Int) (a : Int) (ha : 0 ≤ a) (ha' : a ≤ 9000000000000000000) (hl : l.length ≤ 35184372088832) : ∀ (d i : Nat), i + d = l.length → Ev (fun k => impl_within.l0 k a l (l.length : Int) (i : Int)) (allIn a (l.drop i)) := by
  intro d
  induction d with
  | zero =>
    intro i hi
    refine (Ev.round (f := fun _ => some true) (Ev.some_ rfl) (fun k => by simp only [impl_within.l0]; rw [if_neg (by omega)])).to ?_
    rw [List.drop_of_length_le (by omega)]; rfl
  | succ d ih =>
    intro i hi
    rw [drop_rd (xs := l) (i := i) (by omega)]
    by_cases h1 : rd l i < -a
    · refine (Ev.round (f := fun _ => some false) (Ev.some_ rfl) (fun k => ?_)).to (by simp [allIn]; intros; omega)
      simp only [impl_within.l0]
      rw [if_pos (by omega), if_pos (by omega), if_pos (by omega), w64 (n := -a) (by omega) (by omega), if_pos h1]
    · by_cases h2 : rd l i > a
      · refine (Ev.round (f := fun _ => some false) (Ev.some_ rfl) (fun k => ?_)).to (by simp [allIn]; intros; omega)
        simp only [impl_within.l0]
        rw [if_pos (by omega), if_pos (by omega), if_pos (by omega), w64 (n := -a) (by omega) (by omega), if_neg h1, if_pos h2]
      · refine (Ev.round (ih (i + 1) (by omega)) (fun k => ?_)).to ?_
        · simp only [impl_within.l0]
          rw [if_pos (by omega), if_pos (by omega), if_pos (by omega), w64 (n := -a) (by omega) (by omega), if_neg h1, if_neg h2, w64_add (by omega) (by omega)]
          simp
        · simp [allIn]; intros; omega
theorem within_ev (l : List Int) (a : Int) (ha : 0 ≤ a) (ha' : a ≤ 9000000000000000000) (hl : l.length ≤ 35184372088832) : Ev (fun k => impl_within.f k l a) (allIn a l) :=
  (within_l0 l a ha ha' hl l.length 0 (by omega)).to (by simp)
theorem sample_eq (a : Int) : impl_sample.f a = some (decide (-1000000000 ≤ a ∧ a ≤ 1000000000)) := by
  unfold impl_sample.f
  by_cases h : a ≥ -1000000000 <;> simp [h]
theorem iUnGuess_l0 (o : Int) (ho : 0 ≤ o) (left : List Int) (hl : left.length ≤ 512) (hw : ∀ x ∈ left, -10000000000 ≤ x ∧ x ≤ 10000000000) : ∀ (d i : Nat) (out : List Int), i + d = left.length → out.length = i → (∀ x ∈ out, -1000000000 ≤ x ∧ x ≤ 1000000000) → Ev (fun k => impl_UnGuess.l0 k o out left (left.length : Int) (i : Int)) (unGo o left d i out) := by
  intro d
  induction d with
  | zero =>
    intro i out hi ha hb
    refine Ev.succ ?_
    simp only [impl_UnGuess.l0]
    exact Ev.neg (by omega) (Ev.some_ rfl)
  | succ d ih =>
    intro i out hi ha hb
    have hf := foreN_bd (o := o) (l := out) (i := out.length) hb
    have hr := hw _ (rd_mem (xs := left) (i := i) (by omega))
    have hft := foretold_eq o out out.length (by omega) ho hb
    rw [List.take_length] at hft
    refine Ev.succ ?_
    simp only [impl_UnGuess.l0, hft, Option.bind_some, sample_eq]
    rw [w64_add (by omega) (by omega), w64 (n := rd left i + _) (by omega) (by omega)]
    refine Ev.pos (by omega) (Ev.pos (by omega) (Ev.pos (by omega) ?_))
    by_cases hc : -1000000000 ≤ rd left i + foreN o out out.length ∧ rd left i + foreN o out out.length ≤ 1000000000
    · refine Ev.pos (by simpa using hc) (Ev.pos (by omega) ((ih (i + 1) (out ++ [_]) (by omega) (by simp; omega) (fun x hx => ?_)).to ?_))
      · rcases List.mem_append.1 hx with hx | hx
        · exact hb x hx
        · rw [List.mem_singleton.1 hx]; exact hc
      · simp only [unGo]; rw [if_pos hc]
    · refine Ev.neg (by simpa using hc) (Ev.some_ ?_)
      simp only [unGo]; rw [if_neg hc]
theorem iUnGuess_ev (o : Int) (left : List Int) (hl : left.length ≤ 1048576) : Ev (fun k => impl_UnGuess.f k o left) (unGuessOf o left) := by
  have bad : Ev (fun k => impl_UnGuess.j0 k o left true) ([], false) := by
    refine Ev.succ ?_
    simp only [impl_UnGuess.j0]
    exact Ev.pos trivial (Ev.some_ rfl)
  unfold impl_UnGuess.f unGuessOf
  rw [orderOk_eq]
  simp only [Option.bind_some]
  by_cases h1 : 0 ≤ o ∧ o ≤ 3
  · refine Ev.pos (by simp [h1]) ?_
    by_cases h2 : left.length ≤ 512
    · refine Ev.neg (by omega) (Ev.next (within_ev left 10000000000 (by omega) (by omega) (by omega)) ?_)
      cases h3 : allIn 10000000000 left
      · rw [if_neg (by simp)]; exact bad
      · rw [if_pos ⟨h1, h2, rfl⟩]
        refine Ev.succ ?_
        simp only [impl_UnGuess.j0]
        exact Ev.neg (by simp) (iUnGuess_l0 o h1.1 left h2 (allIn_iff.1 h3) left.length 0 [] (by omega) rfl (by simp))
    · rw [if_neg (fun h => h2 h.2.1)]; exact Ev.pos (by omega) bad
  · rw [if_neg (fun h => h1 h.1)]; exact Ev.neg (by simp; omega) bad
theorem FnExactUnGuess (o : Int) (l : List Int) (w0 : (Lit.int .i64 o).wf = true) (m1 : l.length ≤ maxLen) (w1 : ∀ x ∈ l, (Lit.int .i64 x).wf = true) : ∃ k, laws_FnExactUnGuess.f k o l = some true := by
  refine Ev.rounds ?_
  unfold laws_FnExactUnGuess.f
  by_cases hl : (l.length : Int) > 1048576
  · exact Ev.pos hl (Ev.some_ rfl)
  have hg : (unGuessOf o l).1.length ≤ 1048576 := by
    unfold unGuessOf
    split
    · have := unGo_len o l l.length 0 []
      simp only [List.length_nil] at this
      omega
    · simp
  have ti := toIntS_ev l (by omega)
  have si := sUnGuess_ev o l (by omega)
  have ii := iUnGuess_ev o l (by omega)
  have ee := eqIntS_ev (unGuessOf o l).1 (unGuessOf o l).1 (by omega)
  refine Ev.neg hl (Ev.next ti (Ev.next si (Ev.next ti (Ev.next ii (Ev.next ee (Ev.pos (by simp) ?_))))))
  refine Ev.succ ?_
  simp only [laws_FnExactUnGuess.j0]
  refine Ev.neg (by simp) (Ev.next ti (Ev.next (eqIntS_ev l l (by omega)) (Ev.pos (by simp) (Ev.next (markIntS_ev l 1 (by omega) (by omega) (by omega)) (Ev.neg (by simp only; omega) (Ev.next ee (Ev.pos (by simp) ?_)))))))
  refine Ev.succ ?_
  simp only [laws_FnExactUnGuess.j1]
  have hh := heldIntS_ev (unGuessOf o l).1.length 1 (by omega) (by omega) (by omega)
  refine Ev.neg (by simp) (Ev.next (markIntS_ev (unGuessOf o l).1 1 (by omega) (by omega) (by omega)) (Ev.next hh (Ev.neg (by omega) (Ev.pos rfl (Ev.next ti (Ev.next ii (Ev.next ee (Ev.pos (by simp) ?_))))))))
  refine Ev.succ ?_
  simp only [laws_FnExactUnGuess.j2]
  exact Ev.neg (by simp) (Ev.next hh (Ev.neg (by omega) (Ev.pos rfl (Ev.some_ rfl))))
end Go.Proofs.Ytbllkldpipmalaa.Pure
