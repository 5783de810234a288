import Derived.Test.YtieadaglkibjbaaPFnGuessedx5
import Derived.Test.YtieadaglkibjbaaAid
set_option linter.unusedVariables false
set_option linter.unusedSimpArgs false
namespace Go.Proofs.Ytieadaglkibjbaa.Pure
open Go Go.RowKit Go.Proofs.Ytieadaglkibjbaa.PFnGuessed Go.Proofs.YtieadaglkibjbaaW.PrintWords Go.Proofs.YtieadaglkibjbaaW.PrintLast Go.Proofs.YtieadaglkibjbaaW.PrintMore
theorem l1Size_ok (l : List Int) (m : Int) (hl : l.length ≤ 1048576) (hm : 2 ≤ m) : ∃ r, spec_l1Size.f l m = some r ∧ 2 ≤ r ∧ r ≤ m := by
  unfold spec_l1Size.f
  rw [w64 (n := (l.length : Int) / 20) (by omega) (by omega), w64 (n := 2 + _) (by omega) (by omega)]
  by_cases h : 2 + (l.length : Int) / 20 > m
  · rw [if_pos h]; exact ⟨_, rfl, hm, by omega⟩
  · rw [if_neg h]; exact ⟨_, rfl, by omega, by omega⟩
theorem l1New_l0 (l : List Int) : ∀ (d i : Nat) (h : Int), i + d = l.length → (i : Int) ≤ 4000 → EvP (fun k => spec_l1New.l0 k l h (i : Int)) (fun r => r.1 = l ∧ r.2.1 = 0) := by
  intro d
  induction d with
  | zero =>
    intro i h hi _
    refine EvP.succ ?_
    simp only [spec_l1New.l0]
    exact EvP.neg (by omega) (EvP.now ⟨rfl, rfl⟩)
  | succ d ih =>
    intro i h hi hi2
    refine EvP.succ ?_
    simp only [spec_l1New.l0]
    refine EvP.pos (by omega) ?_
    by_cases h4 : (i : Int) < 4000
    · rw [w64_add (by omega) (by omega)]
      exact EvP.pos h4 (EvP.pos (by omega) (ih (i + 1) _ (by omega) (by omega)))
    · exact EvP.neg h4 (EvP.now ⟨rfl, rfl⟩)
theorem l1New_ev (l : List Int) : EvP (fun k => spec_l1New.f k l) (fun r => r.1 = l ∧ r.2.1 = 0) := l1New_l0 l l.length 0 _ (by omega) (by omega)
theorem l1Byte_ok (l : List Int) (p h : Int) (h0 : 0 ≤ p) (h1 : p ≤ l.length) (hl : l.length ≤ 1048576) : ∃ r, spec_l1Byte.f l p h = some r ∧ (0 ≤ r.1 ∧ r.1 ≤ 255) ∧ 0 ≤ r.2.1 ∧ r.2.1 ≤ l.length := by
  unfold spec_l1Byte.f
  by_cases hp : p < (l.length : Int)
  · rw [if_pos hp, if_pos h0]
    refine ⟨_, rfl, bits_and_le _ 255 (by omega) (by omega), ?_⟩
    simp only
    rw [w64_add h0 (by omega)]
    omega
  · rw [if_neg hp]
    exact ⟨_, rfl, bits_and_le _ 255 (by omega) (by omega), h0, h1⟩
theorem l1Below_ok (l : List Int) (p h n : Int) (h0 : 0 ≤ p) (h1 : p ≤ l.length) (hl : l.length ≤ 1048576) : ∃ r, spec_l1Below.f l p h n = some r ∧ (0 ≤ r.1 ∧ (r.1 < n ∨ r.1 = 0)) ∧ 0 ≤ r.2.1 ∧ r.2.1 ≤ l.length := by
  unfold spec_l1Below.f
  by_cases hn : n ≤ 0
  · rw [if_pos hn]; exact ⟨_, rfl, ⟨by simp, .inr rfl⟩, h0, h1⟩
  rw [if_neg hn]
  have tm : ∀ x : Int, 0 ≤ x → 0 ≤ Int.tmod x n ∧ Int.tmod x n < n := fun x hx => by
    rw [Int.tmod_eq_emod_of_nonneg hx]
    exact ⟨Int.emod_nonneg _ (by omega), Int.emod_lt_of_pos _ (by omega)⟩
  by_cases h2 : n ≤ 256
  · rw [if_pos h2]
    obtain ⟨r, e, hb, hp⟩ := l1Byte_ok l p h h0 h1 hl
    rw [e]
    simp only [Option.bind_some]
    rw [if_neg (by omega)]
    exact ⟨_, rfl, ⟨(tm _ hb.1).1, .inl (tm _ hb.1).2⟩, hp⟩
  · rw [if_neg h2]
    obtain ⟨r, e, hb, hp⟩ := l1Byte_ok l p h h0 h1 hl
    obtain ⟨r2, e2, hb2, hp2⟩ := l1Byte_ok l r.2.1 r.2.2 hp.1 hp.2 hl
    obtain ⟨r3, e3, hb3, hp3⟩ := l1Byte_ok l r2.2.1 r2.2.2 hp2.1 hp2.2 hl
    obtain ⟨r4, e4, hb4, hp4⟩ := l1Byte_ok l r3.2.1 r3.2.2 hp3.1 hp3.2 hl
    rw [e]; simp only [Option.bind_some]
    rw [e2]; simp only [Option.bind_some]
    rw [e3]; simp only [Option.bind_some]
    rw [e4]; simp only [Option.bind_some]
    rw [if_neg (by omega), w64 (n := r.1 * 16777216) (by omega) (by omega), w64 (n := r2.1 * 65536) (by omega) (by omega), w64 (n := r3.1 * 256) (by omega) (by omega), w64 (n := r.1 * 16777216 + _) (by omega) (by omega), w64 (n := r.1 * 16777216 + _ + _) (by omega) (by omega), w64 (n := r.1 * 16777216 + _ + _ + _) (by omega) (by omega)]
    exact ⟨_, rfl, ⟨(tm _ (by omega)).1, .inl (tm _ (by omega)).2⟩, hp4⟩
theorem l1Once_ok (l : List Int) (p h n : Int) (h0 : 0 ≤ p) (h1 : p ≤ l.length) (hl : l.length ≤ 1048576) : ∃ r, spec_l1Once.f l p h n = some r ∧ 0 ≤ r.2.1 ∧ r.2.1 ≤ l.length := by
  obtain ⟨r, e, hb, hp⟩ := l1Below_ok l p h n h0 h1 hl
  unfold spec_l1Once.f
  rw [e]; simp only [Option.bind_some]
  exact ⟨_, rfl, hp⟩
theorem l1PickInt_ok (l : List Int) (p h : Int) (xs : List Int) (h0 : 0 ≤ p) (h1 : p ≤ l.length) (hl : l.length ≤ 1048576) (hx : 0 < xs.length) : ∃ r, spec_l1PickInt.f l p h xs = some r ∧ r.1 ∈ xs ∧ 0 ≤ r.2.1 ∧ r.2.1 ≤ l.length := by
  unfold spec_l1PickInt.f
  obtain ⟨r, e, hb, hp⟩ := l1Below_ok l p h xs.length h0 h1 hl
  rw [e]
  simp only [Option.bind_some]
  rw [if_pos hb.1, if_pos (by omega)]
  refine ⟨_, rfl, ?_, hp⟩
  have : r.1 = ((r.1.toNat : Nat) : Int) := by omega
  simp only
  rw [this]
  exact rd_mem (by omega)
theorem l5DrawSample_ok (l : List Int) (p h : Int) (h0 : 0 ≤ p) (h1 : p ≤ l.length) (hl : l.length ≤ 1048576) : ∃ r, spec_l5DrawSample.f l p h = some r ∧ 0 ≤ r.2.1 ∧ r.2.1 ≤ l.length := by
  unfold spec_l5DrawSample.f
  obtain ⟨r, e, hb, hp⟩ := l1Below_ok l p h 5 h0 h1 hl
  obtain ⟨r1, e1, _, hp1⟩ := l1Below_ok l r.2.1 r.2.2 21 hp.1 hp.2 hl
  obtain ⟨r2, e2, _, hp2⟩ := l1Below_ok l r.2.1 r.2.2 65536 hp.1 hp.2 hl
  obtain ⟨r3, e3, hp3⟩ := l1Once_ok l r.2.1 r.2.2 12 hp.1 hp.2 hl
  obtain ⟨r4, e4, _, hp4⟩ := l1PickInt_ok l r3.2.1 r3.2.2 [1000000000, (-1000000000), 0] hp3.1 hp3.2 hl (by decide)
  obtain ⟨r5, e5, _, hp5⟩ := l1Below_ok l r3.2.1 r3.2.2 2001 hp3.1 hp3.2 hl
  obtain ⟨r6, e6, _, hp6⟩ := l1Below_ok l r.2.1 r.2.2 2001 hp.1 hp.2 hl
  simp only [e, e1, e2, e3, e4, e5, e6, Option.bind_some]
  split
  · exact ⟨_, rfl, hp1⟩
  · split
    · exact ⟨_, rfl, hp2⟩
    · split
      · split
        · exact ⟨_, rfl, hp4⟩
        · exact ⟨_, rfl, hp5⟩
      · exact ⟨_, rfl, hp6⟩
theorem l5Draw_l0 (l : List Int) (hl : l.length ≤ 1048576) : ∀ (d : Nat) (xs : List Int) (p h : Int), xs.length + d ≤ 100000 → 0 ≤ p → p ≤ l.length → EvP (fun k => spec_l5Draw.l0 k xs (d : Int) l p h) (fun r => r.1.length ≤ xs.length + d ∧ 0 ≤ r.2.1 ∧ r.2.1 ≤ l.length) := by
  intro d
  induction d with
  | zero =>
    intro xs p h hx h0 h1
    refine EvP.succ ?_
    simp only [spec_l5Draw.l0]
    exact EvP.neg (by omega) (EvP.now ⟨by simp, h0, h1⟩)
  | succ d ih =>
    intro xs p h hx h0 h1
    refine EvP.succ ?_
    simp only [spec_l5Draw.l0]
    refine EvP.pos (by omega) ?_
    obtain ⟨r, e, hp⟩ := l5DrawSample_ok l p h h0 h1 hl
    rw [e]; simp only [Option.bind_some]
    refine EvP.pos (by omega) ?_
    rw [show wrap64 (((d + 1 : Nat) : Int) - 1) = (d : Int) by rw [w64 (by omega) (by omega)]; omega]
    exact (ih _ _ _ (by simp; omega) hp.1 hp.2).mono (fun r h => by simp at h; omega)
theorem l5Draw_ev (l : List Int) (hl : l.length ≤ 1048576) (p h n : Int) (h0 : 0 ≤ p) (h1 : p ≤ l.length) (hn : 0 ≤ n ∧ n ≤ 1000) : EvP (fun k => spec_l5Draw.f k l p h n) (fun r => r.1.length ≤ 1001 ∧ 0 ≤ r.2.1 ∧ r.2.1 ≤ l.length) := by
  unfold spec_l5Draw.f
  obtain ⟨r, e, hb, hp⟩ := l1Below_ok l p h (wrap64 (n + 1)) h0 h1 hl
  rw [w64 (by omega) (by omega)] at hb
  rw [e]; simp only [Option.bind_some]
  have hr : r.1 = ((r.1.toNat : Nat) : Int) := by omega
  rw [hr]
  exact (l5Draw_l0 l hl _ _ _ _ (by simp; omega) hp.1 hp.2).mono (fun r h => by simp at h; omega)
theorem l5DrawAny_j0 (l : List Int) (hl : l.length ≤ 1048576) (xs : List Int) (hx : xs.length ≤ 2000) (p h : Int) (h0 : 0 ≤ p) (h1 : p ≤ l.length) : EvP (fun k => spec_l5DrawAny.j0 k xs l p h) (fun r => r.1.length ≤ 2000 ∧ 0 ≤ r.2.1 ∧ r.2.1 ≤ l.length) := by
  refine EvP.succ ?_
  simp only [spec_l5DrawAny.j0]
  obtain ⟨r, e, hp⟩ := l1Once_ok l p h 80 h0 h1 hl
  obtain ⟨r2, e2, hb2, hp2⟩ := l1Below_ok l r.2.1 r.2.2 2 hp.1 hp.2 hl
  rw [e]; simp only [Option.bind_some]
  rw [e2]; simp only [Option.bind_some]
  rw [w64 (n := 512 + r2.1) (by omega) (by omega)]
  exact EvP.both (fun _ => EvP.pos (by omega) (EvP.pos (by omega) (EvP.now ⟨by simp; omega, hp2⟩))) (fun _ => EvP.now ⟨hx, hp⟩)
theorem l5DrawAny_ev (l : List Int) (hl : l.length ≤ 1048576) (p h n : Int) (h0 : 0 ≤ p) (h1 : p ≤ l.length) (hn : 0 ≤ n ∧ n ≤ 1000) : EvP (fun k => spec_l5DrawAny.f k l p h n) (fun r => r.1.length ≤ 2000 ∧ 0 ≤ r.2.1 ∧ r.2.1 ≤ l.length) := by
  unfold spec_l5DrawAny.f
  refine EvP.next (l5Draw_ev l hl p h n h0 h1 hn) ?_
  intro a ha
  obtain ⟨r, e, hp⟩ := l1Once_ok l a.2.1 a.2.2 25 ha.2.1 ha.2.2 hl
  obtain ⟨r2, e2, _, hp2⟩ := l1PickInt_ok l r.2.1 r.2.2 [1000000001, (-1000000001)] hp.1 hp.2 hl (by decide)
  simp only [e, e2, Option.bind_some]
  exact EvP.both (fun _ => EvP.pos (by omega) (l5DrawAny_j0 l hl _ (by simp; omega) _ _ hp2.1 hp2.2)) (fun _ => l5DrawAny_j0 l hl _ (by omega) _ _ hp.1 hp.2)
def allIn (a : Int) (l : List Int) : Bool := l.all fun x => decide (-a ≤ x) && decide (x ≤ a)
theorem allIn_iff {a : Int} {l : List Int} : allIn a l = true ↔ ∀ x ∈ l, -a ≤ x ∧ x ≤ a := by
  unfold allIn; simp [List.all_eq_true]
/-- What sample i is foretold by, by those ahead of it. -/
def foreN (o : Int) (l : List Int) (i : Nat) : Int :=
  if mn o i = 1 then rd l ((i : Int) - 1)
  else if mn o i = 2 then 2 * rd l ((i : Int) - 1) - rd l ((i : Int) - 2)
  else if mn o i = 3 then 3 * (rd l ((i : Int) - 1) - rd l ((i : Int) - 2)) + rd l ((i : Int) - 3)
  else 0
theorem rd_bd {l : List Int} {i : Int} (h : ∀ x ∈ l, -1000000000 ≤ x ∧ x ≤ 1000000000) : -1000000000 ≤ rd l i ∧ rd l i ≤ 1000000000 := by
  unfold rd
  rw [List.getD_eq_getElem?_getD]
  cases hg : l[i.toNat]? with
  | none => simp
  | some x => exact h x (List.mem_of_getElem? hg)
theorem foreN_bd {o : Int} {l : List Int} {i : Nat} (h : ∀ x ∈ l, -1000000000 ≤ x ∧ x ≤ 1000000000) : -7000000000 ≤ foreN o l i ∧ foreN o l i ≤ 7000000000 := by
  have h1 := rd_bd (l := l) (i := (i : Int) - 1) h
  have h2 := rd_bd (l := l) (i := (i : Int) - 2) h
  have h3 := rd_bd (l := l) (i := (i : Int) - 3) h
  unfold foreN
  split
  · omega
  · split
    · omega
    · split <;> omega
theorem rd_take {l : List Int} {i : Nat} {j : Int} (h0 : 0 ≤ j) (h1 : j < i) : rd (l.take i) j = rd l j := by
  unfold rd
  rw [List.getD_eq_getElem?_getD, List.getD_eq_getElem?_getD, List.getElem?_take_of_lt (by omega)]
def guessGo (o : Int) (l : List Int) : Nat → Nat → List Int
  | 0, _ => []
  | d + 1, i => (rd l i - foreN o l i) :: guessGo o l d (i + 1)
theorem guessGo_len (o : Int) (l : List Int) : ∀ d i, (guessGo o l d i).length = d
  | 0, _ => rfl
  | d + 1, i => by simp [guessGo, guessGo_len o l d (i + 1)]
def sigB (l : List Int) : Bool := decide (l.length ≤ 512) && allIn 1000000000 l
theorem sigB_iff {l : List Int} : sigB l = true ↔ l.length ≤ 512 ∧ ∀ x ∈ l, -1000000000 ≤ x ∧ x ≤ 1000000000 := by
  unfold sigB; rw [Bool.and_eq_true, allIn_iff]; simp
def guessOf (o : Int) (l : List Int) : List Int × Bool := if (0 ≤ o ∧ o ≤ 3) ∧ sigB l = true then (guessGo o l l.length 0, true) else ([], false)
def unGo (o : Int) (left : List Int) : Nat → Nat → List Int → List Int × Bool
  | 0, _, out => (out, true)
  | d + 1, i, out => if -1000000000 ≤ rd left i + foreN o out out.length ∧ rd left i + foreN o out out.length ≤ 1000000000 then unGo o left d (i + 1) (out ++ [rd left i + foreN o out out.length]) else ([], false)
theorem unGo_len (o : Int) (left : List Int) : ∀ (d i : Nat) (out : List Int), (unGo o left d i out).1.length ≤ out.length + d
  | 0, _, out => by simp [unGo]
  | d + 1, i, out => by
    simp only [unGo]
    split
    · have := unGo_len o left d (i + 1) (out ++ [rd left i + foreN o out out.length])
      simp only [List.length_append, List.length_cons, List.length_nil] at this
      omega
    · simp
def unGuessOf (o : Int) (left : List Int) : List Int × Bool := if (0 ≤ o ∧ o ≤ 3) ∧ left.length ≤ 512 ∧ allIn 10000000000 left = true then unGo o left left.length 0 [] else ([], false)
theorem foretold_eq (o : Int) (l : List Int) (i : Nat) (hi : i ≤ l.length) (ho : 0 ≤ o) (h : ∀ x ∈ l, -1000000000 ≤ x ∧ x ≤ 1000000000) : impl_foretold.f o (l.take i) = some (foreN o l i) := by
  have hl : (l.take i).length = i := by rw [List.length_take]; omega
  have h1 := rd_bd (l := l) (i := (i : Int) - 1) h
  have h2 := rd_bd (l := l) (i := (i : Int) - 2) h
  have h3 := rd_bd (l := l) (i := (i : Int) - 3) h
  have hm : mn o i ≤ i := by unfold mn; split <;> omega
  unfold impl_foretold.f foreN
  rw [hl]
  by_cases c1 : mn o i = 1
  · rw [if_pos c1, if_pos c1, rd_take (by omega) (by omega)]
  rw [if_neg c1, if_neg c1]
  by_cases c2 : mn o i = 2
  · rw [if_pos c2, if_pos c2, rd_take (by omega) (by omega), rd_take (by omega) (by omega), w64 (n := 2 * _) (by omega) (by omega), w64 (by omega) (by omega)]
  rw [if_neg c2, if_neg c2]
  by_cases c3 : mn o i = 3
  · rw [if_pos c3, if_pos c3, rd_take (by omega) (by omega), rd_take (by omega) (by omega), rd_take (by omega) (by omega), w64 (n := rd l ((i : Int) - 1) - _) (by omega) (by omega), w64 (n := 3 * _) (by omega) (by omega), w64 (by omega) (by omega)]
  rw [if_neg c3, if_neg c3]
theorem orderOk_eq (a : Int) : impl_orderOk.f a = some (decide (0 ≤ a ∧ a ≤ 3)) := by
  unfold impl_orderOk.f
  by_cases h : a ≥ 0 <;> simp [h]
theorem within_l0 (l : List Int) (a : Int) (ha : 0 ≤ a) (ha' : a ≤ 9000000000000000000) (hl : l.length ≤ 35184372088832) : ∀ (d i : Nat), i + d = l.length → Ev (fun k => impl_within.l0 k a l (l.length : Int) (i : Int)) (allIn a (l.drop i)) := by
  intro d
  induction d with
  | zero =>
    intro i hi
    refine (Ev.round (f := fun _ => some true) (Ev.some_ rfl) (fun k => by simp only [impl_within.l0]; rw [if_neg (by omega)])).to ?_
    rw [List.drop_of_length_le (by omega)]; rfl
  | succ d ih =>
    intro i hi
    rw [drop_rd (xs := l) (i := i) (by omega)]
    by_cases h1 : rd l i < -a
    · refine (Ev.round (f := fun _ => some false) (Ev.some_ rfl) (fun k => ?_)).to (by simp [allIn]; intros; omega)
      simp only [impl_within.l0]
      rw [if_pos (by omega), if_pos (by omega), if_pos (by omega), w64 (n := -a) (by omega) (by omega), if_pos h1]
    · by_cases h2 : rd l i > a
      · refine (Ev.round (f := fun _ => some false) (Ev.some_ rfl) (fun k => ?_)).to (by simp [allIn]; intros; omega)
        simp only [impl_within.l0]
        rw [if_pos (by omega), if_pos (by omega), if_pos (by omega), w64 (n := -a) (by omega) (by omega), if_neg h1, if_pos h2]
      · refine (Ev.round (ih (i + 1) (by omega)) (fun k => ?_)).to ?_
        · simp only [impl_within.l0]
          rw [if_pos (by omega), if_pos (by omega), if_pos (by omega), w64 (n := -a) (by omega) (by omega), if_neg h1, if_neg h2, w64_add (by omega) (by omega)]
          simp
        · simp [allIn]; intros; omega
theorem within_ev (l : List Int) (a : Int) (ha : 0 ≤ a) (ha' : a ≤ 9000000000000000000) (hl : l.length ≤ 35184372088832) : Ev (fun k => impl_within.f k l a) (allIn a l) :=
  (within_l0 l a ha ha' hl l.length 0 (by omega)).to (by simp)
theorem iSignalOk_ev (l : List Int) (hl : l.length ≤ 1048576) : Ev (fun k => impl_SignalOk.f k l) (sigB l) := by
  unfold impl_SignalOk.f sigB
  by_cases h : l.length ≤ 512
  · exact Ev.pos (by omega) (Ev.next (within_ev l 1000000000 (by omega) (by omega) (by omega)) (Ev.some_ (by simp [h])))
  · exact Ev.neg (by omega) (Ev.some_ (by simp [h]))
theorem guess4_l0 (o : Int) (ho : 0 ≤ o) (l : List Int) (hl : l.length ≤ 512) (h : ∀ x ∈ l, -1000000000 ≤ x ∧ x ≤ 1000000000) : ∀ (d i : Nat) (acc : List Int), i + d = l.length → acc.length = i → Ev (fun k => impl_guess4.l0 k o l acc l (l.length : Int) (i : Int)) (acc ++ guessGo o l d i) := by
  intro d
  induction d with
  | zero =>
    intro i acc hi ha
    refine Ev.succ ?_
    simp only [impl_guess4.l0]
    exact Ev.neg (by omega) (Ev.some_ (by simp [guessGo]))
  | succ d ih =>
    intro i acc hi ha
    have hf := foreN_bd (o := o) (l := l) (i := i) h
    have hr := rd_bd (l := l) (i := (i : Int)) h
    refine Ev.succ ?_
    simp only [impl_guess4.l0, Int.toNat_natCast]
    rw [foretold_eq o l i (by omega) ho h, w64_add (by omega) (by omega)]
    simp only [Option.bind_some]
    rw [w64 (n := rd l i - _) (by omega) (by omega)]
    refine Ev.pos (by omega) (Ev.pos (by omega) (Ev.pos (by omega) (Ev.pos (by omega) (Ev.pos (by omega) ?_))))
    exact (ih (i + 1) (acc ++ [rd l i - foreN o l i]) (by omega) (by simp; omega)).to (by simp [guessGo])
theorem guess4_ev (o : Int) (ho : 0 ≤ o) (l : List Int) (hs : sigB l = true) : Ev (fun k => impl_guess4.f k o l) (guessGo o l l.length 0) :=
  (guess4_l0 o ho l (sigB_iff.1 hs).1 (sigB_iff.1 hs).2 l.length 0 [] (by omega) rfl).to (by simp)
theorem iGuess_ev (o : Int) (l : List Int) (hl : l.length ≤ 1048576) : Ev (fun k => impl_Guess.f k o l) (guessOf o l) := by
  unfold impl_Guess.f guessOf
  rw [orderOk_eq]
  simp only [Option.bind_some]
  by_cases h1 : 0 ≤ o ∧ o ≤ 3
  · refine Ev.pos (by simp [h1]) (Ev.next (iSignalOk_ev l hl) ?_)
    by_cases h2 : sigB l = true
    · rw [if_pos ⟨h1, h2⟩]
      exact Ev.pos h2 (Ev.next (guess4_ev o h1.1 l h2) (Ev.some_ rfl))
    · rw [if_neg (fun h => h2 h.2)]; exact Ev.neg h2 (Ev.some_ rfl)
  · rw [if_neg (fun h => h1 h.1)]; exact Ev.neg (by simp; omega) (Ev.some_ rfl)
theorem l17Fore_ev (o : Int) (l : List Int) (i : Nat) (hi : i ≤ l.length) (hl : l.length ≤ 1048576) (ho : 0 ≤ o ∧ o ≤ 3) (h : ∀ x ∈ l, -1000000000 ≤ x ∧ x ≤ 1000000000) : Ev (fun k => spec_l17Fore.f k o l (i : Int)) (foreN o l i) := by
  have h1 := rd_bd (l := l) (i := (i : Int) - 1) h
  have h2 := rd_bd (l := l) (i := (i : Int) - 2) h
  have h3 := rd_bd (l := l) (i := (i : Int) - 3) h
  have key : ∀ m : Int, m = mn o i → 0 ≤ m → m ≤ i → Ev (fun k => spec_l17Fore.j0 k m l (i : Int)) (foreN o l i) := by
    intro m hm h0 hmi
    have e : foreN o l i = if m = 1 then rd l ((i : Int) - 1) else if m = 2 then 2 * rd l ((i : Int) - 1) - rd l ((i : Int) - 2) else if m = 3 then 3 * (rd l ((i : Int) - 1) - rd l ((i : Int) - 2)) + rd l ((i : Int) - 3) else 0 := by rw [hm]; rfl
    refine Ev.succ ?_
    simp only [spec_l17Fore.j0]
    by_cases c1 : m = 1
    · rw [if_pos c1] at e
      rw [e, w64 (n := (i : Int) - 1) (by omega) (by omega)]
      exact Ev.pos c1 (Ev.pos (by omega) (Ev.pos (by omega) (Ev.some_ rfl)))
    rw [if_neg c1] at e
    refine Ev.neg c1 ?_
    by_cases c2 : m = 2
    · rw [if_pos c2] at e
      rw [e, w64 (n := (i : Int) - 1) (by omega) (by omega), w64 (n := (i : Int) - 2) (by omega) (by omega), w64 (n := 2 * rd l ((i : Int) - 1)) (by omega) (by omega), w64 (n := 2 * _ - _) (by omega) (by omega)]
      exact Ev.pos c2 (Ev.pos (by omega) (Ev.pos (by omega) (Ev.pos (by omega) (Ev.pos (by omega) (Ev.some_ rfl)))))
    rw [if_neg c2] at e
    refine Ev.neg c2 ?_
    by_cases c3 : m = 3
    · rw [if_pos c3] at e
      rw [e, w64 (n := (i : Int) - 1) (by omega) (by omega), w64 (n := (i : Int) - 2) (by omega) (by omega), w64 (n := (i : Int) - 3) (by omega) (by omega), w64 (n := rd l ((i : Int) - 1) - _) (by omega) (by omega), w64 (n := 3 * _) (by omega) (by omega), w64 (n := 3 * _ + _) (by omega) (by omega)]
      exact Ev.pos c3 (Ev.pos (by omega) (Ev.pos (by omega) (Ev.pos (by omega) (Ev.pos (by omega) (Ev.pos (by omega) (Ev.pos (by omega) (Ev.some_ rfl)))))))
    rw [if_neg c3] at e
    rw [e]
    exact Ev.neg c3 (Ev.some_ rfl)
  unfold spec_l17Fore.f
  by_cases hc : (i : Int) < o
  · exact Ev.pos hc (key i (by unfold mn; rw [if_pos hc]) (by omega) (by omega))
  · exact Ev.neg hc (key o (by unfold mn; rw [if_neg hc]) (by omega) (by omega))
theorem l1In_eq (a b c : Int) : spec_l1In.f a b c = some (decide (b ≤ a) && decide (a ≤ c)) := by
  unfold spec_l1In.f
  by_cases h : a ≥ b
  · rw [if_pos h]; simp [show b ≤ a from h]
  · rw [if_neg h]; simp [show ¬ b ≤ a from h]
theorem l5Sample_eq (a : Int) : spec_l5Sample.f a = some (decide (-1000000000 ≤ a ∧ a ≤ 1000000000)) := by unfold spec_l5Sample.f; rw [l1In_eq]; simp
theorem sSignalOk_l0 (l : List Int) (hl : l.length ≤ 1048576) : ∀ (d i : Nat), i + d = l.length → Ev (fun k => spec_SignalOk.l0 k l (i : Int)) (decide (l.length ≤ 512) && allIn 1000000000 (l.drop i)) := by
  intro d
  induction d with
  | zero =>
    intro i hi
    refine Ev.succ ?_
    simp only [spec_SignalOk.l0]
    rw [List.drop_of_length_le (by omega)]
    exact Ev.neg (by omega) (Ev.some_ (by simp [allIn]; omega))
  | succ d ih =>
    intro i hi
    refine Ev.succ ?_
    simp only [spec_SignalOk.l0, l5Sample_eq, Option.bind_some]
    rw [drop_rd (xs := l) (i := i) (by omega), w64_add (by omega) (by omega)]
    refine Ev.pos (by omega) (Ev.pos (by omega) ?_)
    by_cases h1 : -1000000000 ≤ rd l i ∧ rd l i ≤ 1000000000
    · exact Ev.pos (by simp [h1]) ((ih (i + 1) (by omega)).to (by simp [allIn, h1]))
    · refine Ev.neg (by simp; omega) (Ev.some_ ?_)
      have : (decide (-1000000000 ≤ rd l i) && decide (rd l i ≤ 1000000000)) = false := by simp; omega
      simp only [allIn, List.all_cons, this, Bool.false_and, Bool.and_false]
theorem sSignalOk_ev (l : List Int) (hl : l.length ≤ 1048576) : Ev (fun k => spec_SignalOk.f k l) (sigB l) :=
  (sSignalOk_l0 l hl l.length 0 (by omega)).to (by simp [sigB])
theorem sGuess_l0 (o : Int) (ho : 0 ≤ o ∧ o ≤ 3) (l : List Int) (hl : l.length ≤ 512) (h : ∀ x ∈ l, -1000000000 ≤ x ∧ x ≤ 1000000000) : ∀ (d i : Nat) (acc : List Int), i + d = l.length → acc.length = i → Ev (fun k => spec_Guess.l0 k o l acc (i : Int)) (acc ++ guessGo o l d i, true) := by
  intro d
  induction d with
  | zero =>
    intro i acc hi ha
    refine Ev.succ ?_
    simp only [spec_Guess.l0]
    exact Ev.neg (by omega) (Ev.some_ (by simp [guessGo]))
  | succ d ih =>
    intro i acc hi ha
    have hf := foreN_bd (o := o) (l := l) (i := i) h
    have hr := rd_bd (l := l) (i := (i : Int)) h
    refine Ev.succ ?_
    simp only [spec_Guess.l0]
    rw [w64_add (by omega) (by omega)]
    refine Ev.pos (by omega) (Ev.pos (by omega) (Ev.next (l17Fore_ev o l i (by omega) (by omega) ho h) (Ev.pos (by omega) ?_)))
    rw [w64 (n := rd l i - _) (by omega) (by omega)]
    exact (ih (i + 1) (acc ++ [rd l i - foreN o l i]) (by omega) (by simp; omega)).to (by simp [guessGo])
theorem sGuess_ev (o : Int) (l : List Int) (hl : l.length ≤ 1048576) : Ev (fun k => spec_Guess.f k o l) (guessOf o l) := by
  have bad : Ev (fun k => spec_Guess.j0 k o l [] true) ([], false) := by
    refine Ev.succ ?_
    simp only [spec_Guess.j0]
    exact Ev.pos trivial (Ev.some_ rfl)
  unfold spec_Guess.f guessOf
  simp only [l1In_eq, Option.bind_some]
  by_cases h1 : 0 ≤ o ∧ o ≤ 3
  · refine Ev.pos (by simp; omega) (Ev.next (sSignalOk_ev l hl) ?_)
    cases h2 : sigB l
    · rw [if_neg (by simp)]; exact bad
    · rw [if_pos ⟨h1, rfl⟩]
      refine Ev.succ ?_
      simp only [spec_Guess.j0]
      exact Ev.neg (by simp) ((sGuess_l0 o h1 l (sigB_iff.1 h2).1 (sigB_iff.1 h2).2 l.length 0 [] (by omega) rfl).to (by simp))
  · rw [if_neg (fun h => h1 h.1)]; exact Ev.neg (by simp; omega) bad
theorem sample_eq (a : Int) : impl_sample.f a = some (decide (-1000000000 ≤ a ∧ a ≤ 1000000000)) := by
  unfold impl_sample.f
  by_cases h : a ≥ -1000000000 <;> simp [h]
theorem iUnGuess_l0 (o : Int) (ho : 0 ≤ o) (left : List Int) (hl : left.length ≤ 512) (hw : ∀ x ∈ left, -10000000000 ≤ x ∧ x ≤ 10000000000) : ∀ (d i : Nat) (out : List Int), i + d = left.length → out.length = i → (∀ x ∈ out, -1000000000 ≤ x ∧ x ≤ 1000000000) → Ev (fun k => impl_UnGuess.l0 k o out left (left.length : Int) (i : Int)) (unGo o left d i out) := by
  intro d
  induction d with
  | zero =>
    intro i out hi ha hb
    refine Ev.succ ?_
    simp only [impl_UnGuess.l0]
    exact Ev.neg (by omega) (Ev.some_ rfl)
  | succ d ih =>
    intro i out hi ha hb
    have hf := foreN_bd (o := o) (l := out) (i := out.length) hb
    have hr := hw _ (rd_mem (xs := left) (i := i) (by omega))
    have hft := foretold_eq o out out.length (by omega) ho hb
    rw [List.take_length] at hft
    refine Ev.succ ?_
    simp only [impl_UnGuess.l0, hft, Option.bind_some, sample_eq]
    rw [w64_add (by omega) (by omega), w64 (n := rd left i + _) (by omega) (by omega)]
    refine Ev.pos (by omega) (Ev.pos (by omega) (Ev.pos (by omega) ?_))
    by_cases hc : -1000000000 ≤ rd left i + foreN o out out.length ∧ rd left i + foreN o out out.length ≤ 1000000000
    · refine Ev.pos (by simpa using hc) (Ev.pos (by omega) ((ih (i + 1) (out ++ [_]) (by omega) (by simp; omega) (fun x hx => ?_)).to ?_))
      · rcases List.mem_append.1 hx with hx | hx
        · exact hb x hx
        · rw [List.mem_singleton.1 hx]; exact hc
      · simp only [unGo]; rw [if_pos hc]
    · refine Ev.neg (by simpa using hc) (Ev.some_ ?_)
      simp only [unGo]; rw [if_neg hc]
theorem iUnGuess_ev (o : Int) (left : List Int) (hl : left.length ≤ 1048576) : Ev (fun k => impl_UnGuess.f k o left) (unGuessOf o left) := by
  have bad : Ev (fun k => impl_UnGuess.j0 k o left true) ([], false) := by
    refine Ev.succ ?_
    simp only [impl_UnGuess.j0]
    exact Ev.pos trivial (Ev.some_ rfl)
  unfold impl_UnGuess.f unGuessOf
  rw [orderOk_eq]
  simp only [Option.bind_some]
  by_cases h1 : 0 ≤ o ∧ o ≤ 3
  · refine Ev.pos (by simp [h1]) ?_
    by_cases h2 : left.length ≤ 512
    · refine Ev.neg (by omega) (Ev.next (within_ev left 10000000000 (by omega) (by omega) (by omega)) ?_)
      cases h3 : allIn 10000000000 left
      · rw [if_neg (by simp)]; exact bad
      · rw [if_pos ⟨h1, h2, rfl⟩]
        refine Ev.succ ?_
        simp only [impl_UnGuess.j0]
        exact Ev.neg (by simp) (iUnGuess_l0 o h1.1 left h2 (allIn_iff.1 h3) left.length 0 [] (by omega) rfl (by simp))
    · rw [if_neg (fun h => h2 h.2.1)]; exact Ev.pos (by omega) bad
  · rw [if_neg (fun h => h1 h.1)]; exact Ev.neg (by simp; omega) bad
theorem l9Wide_l0 (l : List Int) (a : Int) (ha : 0 ≤ a) (ha' : a ≤ 9000000000000000000) (hl : l.length ≤ 35184372088832) : ∀ (d i : Nat), i + d = l.length → Ev (fun k => spec_l9Wide.l0 k l a (i : Int)) (allIn a (l.drop i)) := by
  intro d
  induction d with
  | zero =>
    intro i hi
    refine (Ev.round (f := fun _ => some true) (Ev.some_ rfl) (fun k => by simp only [spec_l9Wide.l0]; rw [if_neg (by omega)])).to ?_
    rw [List.drop_of_length_le (by omega)]; rfl
  | succ d ih =>
    intro i hi
    rw [drop_rd (xs := l) (i := i) (by omega)]
    by_cases h1 : -a ≤ rd l i ∧ rd l i ≤ a
    · refine (Ev.round (ih (i + 1) (by omega)) (fun k => ?_)).to ?_
      · simp only [spec_l9Wide.l0, l1In_eq, Option.bind_some]
        rw [if_pos (by omega), if_pos (by omega), w64 (n := -a) (by omega) (by omega), if_pos (by simp; omega), w64_add (by omega) (by omega)]
        simp
      · simp [allIn]; intros; omega
    · refine (Ev.round (f := fun _ => some false) (Ev.some_ rfl) (fun k => ?_)).to (by simp [allIn]; intros; omega)
      simp only [spec_l9Wide.l0, l1In_eq, Option.bind_some]
      rw [if_pos (by omega), if_pos (by omega), w64 (n := -a) (by omega) (by omega), if_neg (by simp; omega)]
theorem l9Wide_ev (l : List Int) (a : Int) (ha : 0 ≤ a) (ha' : a ≤ 9000000000000000000) (hl : l.length ≤ 35184372088832) : Ev (fun k => spec_l9Wide.f k l a) (allIn a l) :=
  (l9Wide_l0 l a ha ha' hl l.length 0 (by omega)).to (by simp)
theorem sUnGuess_l0 (o : Int) (ho : 0 ≤ o ∧ o ≤ 3) (left : List Int) (hl : left.length ≤ 512) (hw : ∀ x ∈ left, -10000000000 ≤ x ∧ x ≤ 10000000000) : ∀ (d i : Nat) (out : List Int), i + d = left.length → out.length = i → (∀ x ∈ out, -1000000000 ≤ x ∧ x ≤ 1000000000) → Ev (fun k => spec_UnGuess.l0 k o left out (i : Int)) (unGo o left d i out) := by
  intro d
  induction d with
  | zero =>
    intro i out hi ha hb
    refine Ev.succ ?_
    simp only [spec_UnGuess.l0]
    exact Ev.neg (by omega) (Ev.some_ rfl)
  | succ d ih =>
    intro i out hi ha hb
    have hf := foreN_bd (o := o) (l := out) (i := out.length) hb
    have hr := hw _ (rd_mem (xs := left) (i := i) (by omega))
    have hft := l17Fore_ev o out i (by omega) (by omega) ho hb
    rw [← ha] at hft
    refine Ev.succ ?_
    simp only [spec_UnGuess.l0]
    rw [w64_add (by omega) (by omega)]
    refine Ev.pos (by omega) (Ev.pos (by omega) ?_)
    rw [← ha]
    refine Ev.next hft ?_
    rw [ha] at hf ⊢
    simp only [l5Sample_eq, Option.bind_some]
    rw [w64 (n := rd left i + _) (by omega) (by omega)]
    by_cases hc : -1000000000 ≤ rd left i + foreN o out i ∧ rd left i + foreN o out i ≤ 1000000000
    · refine Ev.pos (by simpa using hc) (Ev.pos (by omega) ((ih (i + 1) (out ++ [_]) (by omega) (by simp; omega) (fun x hx => ?_)).to ?_))
      · rcases List.mem_append.1 hx with hx | hx
        · exact hb x hx
        · rw [List.mem_singleton.1 hx]; exact hc
      · simp only [unGo]; rw [ha, if_pos hc]
    · refine Ev.neg (by simpa using hc) (Ev.some_ ?_)
      simp only [unGo]; rw [ha, if_neg hc]
theorem sUnGuess_ev (o : Int) (left : List Int) (hl : left.length ≤ 1048576) : Ev (fun k => spec_UnGuess.f k o left) (unGuessOf o left) := by
  have bad : Ev (fun k => spec_UnGuess.j0 k o left [] true) ([], false) := by
    refine Ev.succ ?_
    simp only [spec_UnGuess.j0]
    exact Ev.pos trivial (Ev.some_ rfl)
  unfold spec_UnGuess.f unGuessOf
  simp only [l1In_eq, Option.bind_some]
  by_cases h1 : 0 ≤ o ∧ o ≤ 3
  · refine Ev.pos (by simp; omega) ?_
    by_cases h2 : left.length ≤ 512
    · refine Ev.neg (by omega) (Ev.next (l9Wide_ev left 10000000000 (by omega) (by omega) (by omega)) ?_)
      cases h3 : allIn 10000000000 left
      · rw [if_neg (by simp)]; exact bad
      · rw [if_pos ⟨h1, h2, rfl⟩]
        refine Ev.succ ?_
        simp only [spec_UnGuess.j0]
        exact Ev.neg (by simp) (sUnGuess_l0 o h1 left h2 (allIn_iff.1 h3) left.length 0 [] (by omega) rfl (by simp))
    · rw [if_neg (fun h => h2 h.2.1)]; exact Ev.pos (by omega) bad
  · rw [if_neg (fun h => h1 h.1)]; exact Ev.neg (by simp; omega) bad
theorem guessGo_get (o : Int) (l : List Int) : ∀ (d i j : Nat), j < d → rd (guessGo o l d i) (j : Int) = rd l ((i + j : Nat) : Int) - foreN o l (i + j)
  | 0, _, _, h => by omega
  | d + 1, i, 0, _ => rfl
  | d + 1, i, j + 1, h => by
    have := guessGo_get o l d (i + 1) j (by omega)
    rw [show i + (j + 1) = i + 1 + j by omega, ← this]
    rfl
theorem foreN_take (o : Int) (l : List Int) (i : Nat) : foreN o (l.take i) i = foreN o l i := by
  have hm : mn o i ≤ i := by unfold mn; split <;> omega
  unfold foreN
  by_cases c1 : mn o i = 1
  · rw [if_pos c1, if_pos c1, rd_take (by omega) (by omega)]
  rw [if_neg c1, if_neg c1]
  by_cases c2 : mn o i = 2
  · rw [if_pos c2, if_pos c2, rd_take (by omega) (by omega), rd_take (by omega) (by omega)]
  rw [if_neg c2, if_neg c2]
  by_cases c3 : mn o i = 3
  · rw [if_pos c3, if_pos c3, rd_take (by omega) (by omega), rd_take (by omega) (by omega), rd_take (by omega) (by omega)]
  rw [if_neg c3, if_neg c3]
theorem unGo_back (o : Int) (l : List Int) (h : ∀ x ∈ l, -1000000000 ≤ x ∧ x ≤ 1000000000) : ∀ (d i : Nat), i + d = l.length → unGo o (guessGo o l l.length 0) d i (l.take i) = (l, true) := by
  intro d
  induction d with
  | zero =>
    intro i hi
    simp only [unGo]
    rw [List.take_of_length_le (by omega)]
  | succ d ih =>
    intro i hi
    have hg := guessGo_get o l l.length 0 i (by omega)
    rw [Nat.zero_add] at hg
    have hl : (l.take i).length = i := by rw [List.length_take]; omega
    have hr := rd_bd (l := l) (i := (i : Int)) h
    have e : rd (guessGo o l l.length 0) (i : Int) + foreN o (l.take i) (l.take i).length = rd l i := by rw [hl, foreN_take, hg]; omega
    simp only [unGo]
    rw [e, if_pos hr, ← take_rd (by omega)]
    exact ih (i + 1) (by omega)
theorem unGuess_back (o : Int) (l : List Int) (h : (guessOf o l).2 = true) : (unGuessOf o (guessOf o l).1).2 = true → (unGuessOf o (guessOf o l).1).1 = l := by
  unfold guessOf at h ⊢
  by_cases hc : (0 ≤ o ∧ o ≤ 3) ∧ sigB l = true
  · rw [if_pos hc]
    have hb := unGo_back o l (sigB_iff.1 hc.2).2 l.length 0 (by omega)
    simp only [List.take_zero] at hb
    unfold unGuessOf
    simp only [guessGo_len]
    split
    · rw [hb]; intro _; rfl
    · intro hh; cases hh
  · rw [if_neg hc] at h; cases h
theorem sameInts_l0 (a b : List Int) (h : a.length = b.length) (hl : a.length ≤ 35184372088832) : ∀ (d i : Nat), i + d = a.length → Ev (fun k => laws_sameInts.l0 k a b (i : Int)) (decide (a.drop i = b.drop i)) := by
  intro d
  induction d with
  | zero =>
    intro i hi
    refine Ev.round (f := fun _ => some true) (Ev.some_ ?_) (fun k => by simp only [laws_sameInts.l0]; rw [if_neg (by omega)])
    rw [List.drop_of_length_le (by omega), List.drop_of_length_le (by omega)]; simp
  | succ d ih =>
    intro i hi
    by_cases he : rd a i = rd b i
    · refine (Ev.round (ih (i + 1) (by omega)) (fun k => ?_)).to ?_
      · simp only [laws_sameInts.l0]
        rw [if_pos (by omega), if_pos (by omega), if_pos (by omega), if_pos he, w64_add (by omega) (by omega)]; simp
      · rw [drop_rd (xs := a) (i := i) (by omega), drop_rd (xs := b) (i := i) (by omega), he]; simp
    · refine (Ev.round (f := fun _ => some false) (Ev.some_ rfl) (fun k => ?_)).to ?_
      · simp only [laws_sameInts.l0]
        rw [if_pos (by omega), if_pos (by omega), if_pos (by omega), if_neg he]
      · rw [drop_rd (xs := a) (i := i) (by omega), drop_rd (xs := b) (i := i) (by omega)]; simp [he]
theorem sameInts_ev (a b : List Int) (hl : a.length ≤ 35184372088832) : Ev (fun k => laws_sameInts.f k a b) (decide (a = b)) := by
  unfold laws_sameInts.f
  by_cases h : a.length = b.length
  · exact Ev.pos (by omega) (sameInts_l0 a b h hl a.length 0 (by omega))
  · exact (Ev.neg (by omega) (Ev.some_ rfl)).to (by simp; intro e; exact h (by rw [e]))
theorem DrawGuess_ev (l : List Int) (hl : l.length ≤ 1048576) : EvP (fun k => spec_DrawGuess.f k l) (fun r => r.2.length ≤ 2000) := by
  unfold spec_DrawGuess.f
  refine EvP.next (l1New_ev l) ?_
  rintro ⟨l', p', h'⟩ ⟨rfl, hp⟩
  simp only at hp
  subst hp
  obtain ⟨m, em, hm⟩ := l1Size_ok l' 40 hl (by omega)
  obtain ⟨r, e, _, hp⟩ := l1Below_ok l' 0 h' 36 (by omega) (by omega) hl
  obtain ⟨r2, e2, _, hp2⟩ := l1Below_ok l' r.2.1 r.2.2 9 hp.1 hp.2 hl
  simp only [e, e2, em, Option.bind_some]
  refine EvP.next (l5DrawAny_ev l' hl r2.2.1 r2.2.2 m hp2.1 hp2.2 (by omega)) ?_
  intro a ha
  exact EvP.now ha.1
theorem law_l0 (l : List Int) (hl : l.length ≤ 2000) : ∀ (d i : Nat), i + d = 4 → Ev (fun k => laws_FnGuessed.l0 k l (i : Int)) true := by
  intro d
  induction d with
  | zero =>
    intro i hi
    refine Ev.succ ?_
    simp only [laws_FnGuessed.l0]
    refine Ev.neg (by omega) (Ev.next (iGuess_ev 2 [1, 3, 6] (by decide)) (Ev.pos (by decide) ?_))
    exact Ev.next (sameInts_ev _ _ (by decide)) (Ev.some_ (by decide))
  | succ d ih =>
    intro i hi
    have hg : (guessOf i l).1.length ≤ 1048576 := by
      unfold guessOf
      split
      · simp only [guessGo_len]; omega
      · simp
    have hu : (unGuessOf i (guessOf i l).1).1.length ≤ 35184372088832 := by
      unfold unGuessOf
      split
      · have := unGo_len i (guessOf i l).1 (guessOf i l).1.length 0 []
        simp only [List.length_nil] at this
        omega
      · simp
    refine Ev.succ ?_
    simp only [laws_FnGuessed.l0]
    refine Ev.pos (by omega) (Ev.next (iGuess_ev i l (by omega)) (Ev.next (sGuess_ev i l (by omega)) (Ev.neg (by simp) (Ev.next (iUnGuess_ev i _ hg) (Ev.next (sUnGuess_ev i _ hg) ?_)))))
    rw [w64_add (by omega) (by omega)]
    refine Ev.both (fun h1 => Ev.neg (by simp) (Ev.both (fun h2 => Ev.next (sameInts_ev _ l hu) ?_) (fun _ => ih (i + 1) (by omega)))) (fun _ => ih (i + 1) (by omega))
    rw [unGuess_back i l h1 h2]
    exact Ev.pos (by simp) (ih (i + 1) (by omega))
theorem FnGuessed (l : List Int) (m0 : l.length ≤ maxLen) (w0 : ∀ x ∈ l, (Lit.int .u8 x).wf = true) : ∃ k, laws_FnGuessed.f k l = some true := by
  refine EvP.law ?_
  unfold laws_FnGuessed.f laws_big.f
  simp only [Option.bind_some]
  refine EvP.both (fun _ => EvP.now rfl) (fun hl => ?_)
  refine EvP.next (DrawGuess_ev l (by simp at hl; omega)) ?_
  rintro ⟨c, xs⟩ hx
  exact Ev.p (law_l0 xs hx 4 0 (by omega))
end Go.Proofs.Ytieadaglkibjbaa.Pure
