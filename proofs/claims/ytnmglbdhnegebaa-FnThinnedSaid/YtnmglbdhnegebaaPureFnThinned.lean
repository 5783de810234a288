import Derived.Test.YtnmglbdhnegebaaPFnThinnedx5
import Derived.Test.YtnmglbdhnegebaaAid
set_option linter.unusedVariables false
set_option linter.unusedSimpArgs false
namespace Go.Proofs.Ytnmglbdhnegebaa.Pure
open Go Go.RowKit Go.Proofs.Ytnmglbdhnegebaa.PFnThinned Go.Proofs.YtnmglbdhnegebaaW.PrintWords Go.Proofs.YtnmglbdhnegebaaW.PrintLast Go.Proofs.YtnmglbdhnegebaaW.PrintMore
theorem l1Size_ok (l : List Int) (m : Int) (hl : l.length ≤ 1048576) (hm : 2 ≤ m) : ∃ r, spec_l1Size.f l m = some r ∧ 2 ≤ r ∧ r ≤ m := by
  unfold spec_l1Size.f
  rw [w64 (n := (l.length : Int) / 20) (by omega) (by omega), w64 (n := 2 + _) (by omega) (by omega)]
  by_cases h : 2 + (l.length : Int) / 20 > m
  · rw [if_pos h]; exact ⟨_, rfl, hm, by omega⟩
  · rw [if_neg h]; exact ⟨_, rfl, by omega, by omega⟩
theorem l1New_l0 (l : List Int) : ∀ (d i : Nat) (h : Int), i + d = l.length → (i : Int) ≤ 4000 → EvP (fun k => spec_l1New.l0 k l h (i : Int)) (fun r => r.1 = l ∧ r.2.1 = 0) := by
  intro d
  induction d with
  | zero =>
    intro i h hi _
    refine EvP.succ ?_
    simp only [spec_l1New.l0]
    exact EvP.neg (by omega) (EvP.now ⟨rfl, rfl⟩)
  | succ d ih =>
    intro i h hi hi2
    refine EvP.succ ?_
    simp only [spec_l1New.l0]
    refine EvP.pos (by omega) ?_
    by_cases h4 : (i : Int) < 4000
    · rw [w64_add (by omega) (by omega)]
      exact EvP.pos h4 (EvP.pos (by omega) (ih (i + 1) _ (by omega) (by omega)))
    · exact EvP.neg h4 (EvP.now ⟨rfl, rfl⟩)
theorem l1New_ev (l : List Int) : EvP (fun k => spec_l1New.f k l) (fun r => r.1 = l ∧ r.2.1 = 0) := l1New_l0 l l.length 0 _ (by omega) (by omega)
theorem l1Byte_ok (l : List Int) (p h : Int) (h0 : 0 ≤ p) (h1 : p ≤ l.length) (hl : l.length ≤ 1048576) : ∃ r, spec_l1Byte.f l p h = some r ∧ (0 ≤ r.1 ∧ r.1 ≤ 255) ∧ 0 ≤ r.2.1 ∧ r.2.1 ≤ l.length := by
  unfold spec_l1Byte.f
  by_cases hp : p < (l.length : Int)
  · rw [if_pos hp, if_pos h0]
    refine ⟨_, rfl, bits_and_le _ 255 (by omega) (by omega), ?_⟩
    simp only
    rw [w64_add h0 (by omega)]
    omega
  · rw [if_neg hp]
    exact ⟨_, rfl, bits_and_le _ 255 (by omega) (by omega), h0, h1⟩
theorem l1Below_ok (l : List Int) (p h n : Int) (h0 : 0 ≤ p) (h1 : p ≤ l.length) (hl : l.length ≤ 1048576) : ∃ r, spec_l1Below.f l p h n = some r ∧ (0 ≤ r.1 ∧ (r.1 < n ∨ r.1 = 0)) ∧ 0 ≤ r.2.1 ∧ r.2.1 ≤ l.length := by
  unfold spec_l1Below.f
  by_cases hn : n ≤ 0
  · rw [if_pos hn]; exact ⟨_, rfl, ⟨by simp, .inr rfl⟩, h0, h1⟩
  rw [if_neg hn]
  have tm : ∀ x : Int, 0 ≤ x → 0 ≤ Int.tmod x n ∧ Int.tmod x n < n := fun x hx => by
    rw [Int.tmod_eq_emod_of_nonneg hx]
    exact ⟨Int.emod_nonneg _ (by omega), Int.emod_lt_of_pos _ (by omega)⟩
  by_cases h2 : n ≤ 256
  · rw [if_pos h2]
    obtain ⟨r, e, hb, hp⟩ := l1Byte_ok l p h h0 h1 hl
    rw [e]
    simp only [Option.bind_some]
    rw [if_neg (by omega)]
    exact ⟨_, rfl, ⟨(tm _ hb.1).1, .inl (tm _ hb.1).2⟩, hp⟩
  · rw [if_neg h2]
    obtain ⟨r, e, hb, hp⟩ := l1Byte_ok l p h h0 h1 hl
    obtain ⟨r2, e2, hb2, hp2⟩ := l1Byte_ok l r.2.1 r.2.2 hp.1 hp.2 hl
    obtain ⟨r3, e3, hb3, hp3⟩ := l1Byte_ok l r2.2.1 r2.2.2 hp2.1 hp2.2 hl
    obtain ⟨r4, e4, hb4, hp4⟩ := l1Byte_ok l r3.2.1 r3.2.2 hp3.1 hp3.2 hl
    rw [e]; simp only [Option.bind_some]
    rw [e2]; simp only [Option.bind_some]
    rw [e3]; simp only [Option.bind_some]
    rw [e4]; simp only [Option.bind_some]
    rw [if_neg (by omega), w64 (n := r.1 * 16777216) (by omega) (by omega), w64 (n := r2.1 * 65536) (by omega) (by omega), w64 (n := r3.1 * 256) (by omega) (by omega), w64 (n := r.1 * 16777216 + _) (by omega) (by omega), w64 (n := r.1 * 16777216 + _ + _) (by omega) (by omega), w64 (n := r.1 * 16777216 + _ + _ + _) (by omega) (by omega)]
    exact ⟨_, rfl, ⟨(tm _ (by omega)).1, .inl (tm _ (by omega)).2⟩, hp4⟩
theorem l1Once_ok (l : List Int) (p h n : Int) (h0 : 0 ≤ p) (h1 : p ≤ l.length) (hl : l.length ≤ 1048576) : ∃ r, spec_l1Once.f l p h n = some r ∧ 0 ≤ r.2.1 ∧ r.2.1 ≤ l.length := by
  obtain ⟨r, e, hb, hp⟩ := l1Below_ok l p h n h0 h1 hl
  unfold spec_l1Once.f
  rw [e]; simp only [Option.bind_some]
  exact ⟨_, rfl, hp⟩
theorem l1PickInt_ok (l : List Int) (p h : Int) (xs : List Int) (h0 : 0 ≤ p) (h1 : p ≤ l.length) (hl : l.length ≤ 1048576) (hx : 0 < xs.length) : ∃ r, spec_l1PickInt.f l p h xs = some r ∧ r.1 ∈ xs ∧ 0 ≤ r.2.1 ∧ r.2.1 ≤ l.length := by
  unfold spec_l1PickInt.f
  obtain ⟨r, e, hb, hp⟩ := l1Below_ok l p h xs.length h0 h1 hl
  rw [e]
  simp only [Option.bind_some]
  rw [if_pos hb.1, if_pos (by omega)]
  refine ⟨_, rfl, ?_, hp⟩
  have : r.1 = ((r.1.toNat : Nat) : Int) := by omega
  simp only
  rw [this]
  exact rd_mem (by omega)
theorem l5DrawSample_ok (l : List Int) (p h : Int) (h0 : 0 ≤ p) (h1 : p ≤ l.length) (hl : l.length ≤ 1048576) : ∃ r, spec_l5DrawSample.f l p h = some r ∧ 0 ≤ r.2.1 ∧ r.2.1 ≤ l.length := by
  unfold spec_l5DrawSample.f
  obtain ⟨r, e, hb, hp⟩ := l1Below_ok l p h 5 h0 h1 hl
  obtain ⟨r1, e1, _, hp1⟩ := l1Below_ok l r.2.1 r.2.2 21 hp.1 hp.2 hl
  obtain ⟨r2, e2, _, hp2⟩ := l1Below_ok l r.2.1 r.2.2 65536 hp.1 hp.2 hl
  obtain ⟨r3, e3, hp3⟩ := l1Once_ok l r.2.1 r.2.2 12 hp.1 hp.2 hl
  obtain ⟨r4, e4, _, hp4⟩ := l1PickInt_ok l r3.2.1 r3.2.2 [1000000000, (-1000000000), 0] hp3.1 hp3.2 hl (by decide)
  obtain ⟨r5, e5, _, hp5⟩ := l1Below_ok l r3.2.1 r3.2.2 2001 hp3.1 hp3.2 hl
  obtain ⟨r6, e6, _, hp6⟩ := l1Below_ok l r.2.1 r.2.2 2001 hp.1 hp.2 hl
  simp only [e, e1, e2, e3, e4, e5, e6, Option.bind_some]
  split
  · exact ⟨_, rfl, hp1⟩
  · split
    · exact ⟨_, rfl, hp2⟩
    · split
      · split
        · exact ⟨_, rfl, hp4⟩
        · exact ⟨_, rfl, hp5⟩
      · exact ⟨_, rfl, hp6⟩
theorem l5Draw_l0 (l : List Int) (hl : l.length ≤ 1048576) : ∀ (d : Nat) (xs : List Int) (p h : Int), xs.length + d ≤ 100000 → 0 ≤ p → p ≤ l.length → EvP (fun k => spec_l5Draw.l0 k xs (d : Int) l p h) (fun r => r.1.length ≤ xs.length + d ∧ 0 ≤ r.2.1 ∧ r.2.1 ≤ l.length) := by
  intro d
  induction d with
  | zero =>
    intro xs p h hx h0 h1
    refine EvP.succ ?_
    simp only [spec_l5Draw.l0]
    exact EvP.neg (by omega) (EvP.now ⟨by simp, h0, h1⟩)
  | succ d ih =>
    intro xs p h hx h0 h1
    refine EvP.succ ?_
    simp only [spec_l5Draw.l0]
    refine EvP.pos (by omega) ?_
    obtain ⟨r, e, hp⟩ := l5DrawSample_ok l p h h0 h1 hl
    rw [e]; simp only [Option.bind_some]
    refine EvP.pos (by omega) ?_
    rw [show wrap64 (((d + 1 : Nat) : Int) - 1) = (d : Int) by rw [w64 (by omega) (by omega)]; omega]
    exact (ih _ _ _ (by simp; omega) hp.1 hp.2).mono (fun r h => by simp at h; omega)
theorem l5Draw_ev (l : List Int) (hl : l.length ≤ 1048576) (p h n : Int) (h0 : 0 ≤ p) (h1 : p ≤ l.length) (hn : 0 ≤ n ∧ n ≤ 1000) : EvP (fun k => spec_l5Draw.f k l p h n) (fun r => r.1.length ≤ 1001 ∧ 0 ≤ r.2.1 ∧ r.2.1 ≤ l.length) := by
  unfold spec_l5Draw.f
  obtain ⟨r, e, hb, hp⟩ := l1Below_ok l p h (wrap64 (n + 1)) h0 h1 hl
  rw [w64 (by omega) (by omega)] at hb
  rw [e]; simp only [Option.bind_some]
  have hr : r.1 = ((r.1.toNat : Nat) : Int) := by omega
  rw [hr]
  exact (l5Draw_l0 l hl _ _ _ _ (by simp; omega) hp.1 hp.2).mono (fun r h => by simp at h; omega)
theorem l15DrawKeep_j1 (l : List Int) (hl : l.length ≤ 1048576) (xs : List Int) (hx : xs.length ≤ 100) (p h : Int) (h0 : 0 ≤ p) (h1 : p ≤ l.length) : EvP (fun k => spec_l15DrawKeep.j1 k xs l p h) (fun r => r.1.length ≤ 200) := by
  refine EvP.succ ?_
  simp only [spec_l15DrawKeep.j1]
  obtain ⟨r, e, hp⟩ := l1Once_ok l p h 30 h0 h1 hl
  obtain ⟨r2, e2, hp2⟩ := l1Once_ok l r.2.1 r.2.2 30 hp.1 hp.2 hl
  rw [e]; simp only [Option.bind_some]
  rw [e2]; simp only [Option.bind_some]
  refine EvP.both (fun _ => EvP.pos (by omega) (EvP.both (fun _ => EvP.pos (by simp; omega) (EvP.now (by simp; omega))) (fun _ => EvP.now (by simp; omega)))) (fun _ => EvP.both (fun _ => EvP.pos (by omega) (EvP.now (by simp; omega))) (fun _ => EvP.now (by simp; omega)))
theorem l15DrawKeep_l0 (l : List Int) (hl : l.length ≤ 1048576) : ∀ (d : Nat) (xs : List Int) (p h : Int), 0 < xs.length + d → xs.length + d ≤ 100 → 0 ≤ p → p ≤ l.length → EvP (fun k => spec_l15DrawKeep.l0 k xs (d : Int) l p h) (fun r => r.1.length ≤ 200) := by
  intro d
  induction d with
  | zero =>
    intro xs p h hx hx2 h0 h1
    refine EvP.succ ?_
    simp only [spec_l15DrawKeep.l0]
    obtain ⟨r, e, hp⟩ := l1Once_ok l p h 8 h0 h1 hl
    rw [e]; simp only [Option.bind_some]
    exact EvP.neg (by omega) (EvP.both (fun _ => l15DrawKeep_j1 l hl xs (by omega) _ _ hp.1 hp.2) (fun _ => EvP.pos (by omega) (l15DrawKeep_j1 l hl _ (by simp; omega) _ _ hp.1 hp.2)))
  | succ d ih =>
    intro xs p h hx hx2 h0 h1
    refine EvP.succ ?_
    simp only [spec_l15DrawKeep.l0]
    obtain ⟨r, e, _, hp⟩ := l1Below_ok l p h 3 h0 h1 hl
    rw [e]; simp only [Option.bind_some]
    refine EvP.pos (by omega) (EvP.pos (by omega) ?_)
    rw [show wrap64 (((d + 1 : Nat) : Int) - 1) = (d : Int) by rw [w64 (by omega) (by omega)]; omega]
    exact ih _ _ _ (by simp; omega) (by simp; omega) hp.1 hp.2
theorem l15DrawKeep_ev (l : List Int) (hl : l.length ≤ 1048576) (p h : Int) (h0 : 0 ≤ p) (h1 : p ≤ l.length) : EvP (fun k => spec_l15DrawKeep.f k l p h) (fun r => r.1.length ≤ 200) := by
  unfold spec_l15DrawKeep.f
  obtain ⟨r, e, hb, hp⟩ := l1Below_ok l p h 6 h0 h1 hl
  rw [e]; simp only [Option.bind_some]
  rw [w64 (by omega) (by omega)]
  have hr : 1 + r.1 = (((1 + r.1).toNat : Nat) : Int) := by omega
  rw [hr]
  exact l15DrawKeep_l0 l hl _ _ _ _ (by omega) (by simp; omega) hp.1 hp.2
def keepAt (keep : List Int) (i : Nat) : Int := rd keep ((i % keep.length : Nat) : Int)
def bitOk (x : Int) : Bool := decide (x = 0 ∨ x = 1)
theorem allBits_iff {l : List Int} : l.all bitOk = true ↔ ∀ x ∈ l, x = 0 ∨ x = 1 := by simp [List.all_eq_true, bitOk]
def keepB (keep : List Int) : Bool := keep.all bitOk && keep.any (fun x => x == 1) && decide (keep.length ≤ 32)
def thinGo (l keep : List Int) : Nat → Nat → List Int
  | 0, _ => []
  | d + 1, i => if keepAt keep i = 1 then rd l i :: thinGo l keep d (i + 1) else thinGo l keep d (i + 1)
def thickGo (l keep : List Int) : Nat → Nat → List Int
  | 0, _ => []
  | d + 1, i => (if keepAt keep i = 1 then rd l i else 0) :: thickGo l keep d (i + 1)
def thinOf (l keep : List Int) : List Int × Bool := if l.length ≤ 1024 ∧ keepB keep = true then (thinGo l keep l.length 0, true) else ([], false)
theorem thinGo_len (l keep : List Int) : ∀ d i, (thinGo l keep d i).length ≤ d
  | 0, _ => by simp [thinGo]
  | d + 1, i => by
    have := thinGo_len l keep d (i + 1)
    simp only [thinGo]; split
    · simp only [List.length_cons]; omega
    · omega
theorem thickGo_len (l keep : List Int) : ∀ d i, (thickGo l keep d i).length = d
  | 0, _ => rfl
  | d + 1, i => by simp [thickGo, thickGo_len l keep d (i + 1)]
theorem thickGo_get (l keep : List Int) : ∀ (d i j : Nat), j < d → rd (thickGo l keep d i) (j : Int) = if keepAt keep (i + j) = 1 then rd l ((i + j : Nat) : Int) else 0
  | 0, _, _, h => by omega
  | d + 1, i, 0, _ => rfl
  | d + 1, i, j + 1, h => by
    have := thickGo_get l keep d (i + 1) j (by omega)
    rw [show i + (j + 1) = i + 1 + j by omega, ← this]
    rfl
theorem keepB_iff {keep : List Int} : keepB keep = true ↔ (∀ x ∈ keep, x = 0 ∨ x = 1) ∧ (∃ x ∈ keep, x = 1) ∧ keep.length ≤ 32 := by
  unfold keepB
  rw [Bool.and_eq_true, Bool.and_eq_true, allBits_iff]
  simp [and_assoc]
theorem keepB_pos {keep : List Int} (h : keepB keep = true) : 0 < keep.length := by
  obtain ⟨_, ⟨x, hx, _⟩, _⟩ := keepB_iff.1 h
  exact List.length_pos_of_mem hx
theorem keepAt_bit {keep : List Int} (h : keepB keep = true) (i : Nat) : keepAt keep i = 0 ∨ keepAt keep i = 1 :=
  (keepB_iff.1 h).1 _ (rd_mem (Nat.mod_lt _ (keepB_pos h)))
theorem tmod_nat (i m : Nat) : Int.tmod (i : Int) (m : Int) = ((i % m : Nat) : Int) := by
  rw [Int.tmod_eq_emod_of_nonneg (by omega)]; simp
theorem isBit_eq (a : Int) : impl_isBit.f a = some (decide (a = 0 ∨ a = 1)) := by
  unfold impl_isBit.f
  by_cases h : a = 0
  · simp [h]
  · rw [if_neg h]; simp [h]; by_cases h1 : a = 1 <;> simp [h1]
theorem keepOk_l0 (keep : List Int) (hl : keep.length ≤ 1048576) : ∀ (d i : Nat) (s : Bool), i + d = keep.length → Ev (fun k => impl_keepOk.l0 k keep s keep (keep.length : Int) (i : Int)) ((keep.drop i).all bitOk && (s || (keep.drop i).any (fun x => x == 1)) && decide (keep.length ≤ 32)) := by
  intro d
  induction d with
  | zero =>
    intro i s hi
    refine Ev.succ ?_
    simp only [impl_keepOk.l0]
    rw [List.drop_of_length_le (by omega)]
    refine Ev.neg (by omega) ?_
    cases s
    · exact Ev.neg (by simp) (Ev.some_ (by simp))
    · exact Ev.pos rfl (Ev.some_ (by simp; omega))
  | succ d ih =>
    intro i s hi
    refine Ev.succ ?_
    simp only [impl_keepOk.l0, isBit_eq, Option.bind_some]
    refine Ev.pos (by omega) (Ev.pos (by omega) (Ev.pos (by omega) ?_))
    rw [drop_rd (xs := keep) (i := i) (by omega), w64_add (by omega) (by omega)]
    by_cases h1 : rd keep i = 0 ∨ rd keep i = 1
    · refine Ev.pos (by simp [h1]) ?_
      cases s
      · refine Ev.neg (by simp) ((ih (i + 1) _ (by omega)).to ?_)
        simp [bitOk, h1]
      · refine Ev.pos rfl ((ih (i + 1) _ (by omega)).to ?_)
        simp [bitOk, h1]
    · refine Ev.neg (by simp [h1]) (Ev.some_ ?_)
      simp [bitOk, h1]
theorem keepOk_ev (keep : List Int) (hl : keep.length ≤ 1048576) : Ev (fun k => impl_keepOk.f k keep) (keepB keep) :=
  (keepOk_l0 keep hl keep.length 0 false (by omega)).to (by simp [keepB])
theorem iThin_l0 (l keep : List Int) (hl : l.length ≤ 1024) (hk : 0 < keep.length) (hk2 : keep.length ≤ 32) : ∀ (d i : Nat) (acc : List Int), i + d = l.length → acc.length ≤ i → Ev (fun k => impl_Thin.l0 k keep acc l (l.length : Int) (i : Int)) (acc ++ thinGo l keep d i, true) := by
  intro d
  induction d with
  | zero =>
    intro i acc hi ha
    refine Ev.succ ?_
    simp only [impl_Thin.l0]
    exact Ev.neg (by omega) (Ev.some_ (by simp [thinGo]))
  | succ d ih =>
    intro i acc hi ha
    have hm := Nat.mod_lt i hk
    refine Ev.succ ?_
    simp only [impl_Thin.l0]
    rw [tmod_nat, w64_add (by omega) (by omega)]
    refine Ev.pos (by omega) (Ev.pos (by omega) (Ev.pos (by omega) (Ev.neg (by omega) (Ev.pos (by omega) (Ev.pos (by omega) ?_)))))
    by_cases h1 : rd keep ((i % keep.length : Nat) : Int) = 1
    · have h1k : keepAt keep i = 1 := h1
      refine Ev.pos h1 (Ev.pos (by omega) ((ih (i + 1) (acc ++ [rd l i]) (by omega) (by simp; omega)).to ?_))
      simp [thinGo, h1k]
    · have h1k : ¬ keepAt keep i = 1 := h1
      refine Ev.neg h1 ((ih (i + 1) acc (by omega) (by omega)).to ?_)
      simp [thinGo, h1k]
theorem iThin_ev (l keep : List Int) (hl : l.length ≤ 1048576) (hk : keep.length ≤ 1048576) : Ev (fun k => impl_Thin.f k l keep) (thinOf l keep) := by
  have bad : Ev (fun k => impl_Thin.j0 k l keep true) ([], false) := by
    refine Ev.succ ?_
    simp only [impl_Thin.j0]
    exact Ev.pos trivial (Ev.some_ rfl)
  unfold impl_Thin.f thinOf
  by_cases h1 : (l.length : Int) > 1024
  · rw [if_neg (by omega)]; exact Ev.pos h1 bad
  · refine Ev.neg h1 (Ev.next (keepOk_ev keep hk) ?_)
    cases hb : keepB keep
    · rw [if_neg (by simp)]; exact bad
    · rw [if_pos ⟨by omega, rfl⟩]
      refine Ev.succ ?_
      simp only [impl_Thin.j0]
      exact Ev.neg (by simp) ((iThin_l0 l keep (by omega) (keepB_pos hb) (keepB_iff.1 hb).2.2 l.length 0 [] (by omega) (by simp)).to (by simp))
theorem l1In_eq (a b c : Int) : spec_l1In.f a b c = some (decide (b ≤ a) && decide (a ≤ c)) := by
  unfold spec_l1In.f
  by_cases h : a ≥ b
  · rw [if_pos h]; simp [show b ≤ a from h]
  · rw [if_neg h]; simp [show ¬ b ≤ a from h]
theorem l15Keep_l0 (keep : List Int) (hl : keep.length ≤ 1048576) : ∀ (d i : Nat) (s : Bool), i + d = keep.length → Ev (fun k => spec_l15Keep.l0 k keep s (i : Int)) ((keep.drop i).all bitOk && (s || (keep.drop i).any (fun x => x == 1)) && decide (keep.length ≤ 32)) := by
  intro d
  induction d with
  | zero =>
    intro i s hi
    refine Ev.succ ?_
    simp only [spec_l15Keep.l0]
    rw [List.drop_of_length_le (by omega)]
    refine Ev.neg (by omega) ?_
    cases s
    · exact Ev.neg (by simp) (Ev.some_ (by simp))
    · exact Ev.pos rfl (Ev.some_ (by simp; omega))
  | succ d ih =>
    intro i s hi
    refine Ev.succ ?_
    simp only [spec_l15Keep.l0, l1In_eq, Option.bind_some]
    refine Ev.pos (by omega) (Ev.pos (by omega) ?_)
    rw [drop_rd (xs := keep) (i := i) (by omega), w64_add (by omega) (by omega)]
    by_cases h1 : rd keep i = 0 ∨ rd keep i = 1
    · refine Ev.pos (by simp; omega) ?_
      cases s
      · refine Ev.neg (by simp) ((ih (i + 1) _ (by omega)).to ?_)
        simp [bitOk, h1]
      · refine Ev.pos rfl ((ih (i + 1) _ (by omega)).to ?_)
        simp [bitOk, h1]
    · refine Ev.neg (by simp; omega) (Ev.some_ ?_)
      simp [bitOk, h1]
theorem l15Keep_ev (keep : List Int) (hl : keep.length ≤ 1048576) : Ev (fun k => spec_l15Keep.f k keep) (keepB keep) :=
  (l15Keep_l0 keep hl keep.length 0 false (by omega)).to (by simp [keepB])
theorem sThin_l0 (l keep : List Int) (hl : l.length ≤ 1024) (hk : 0 < keep.length) (hk2 : keep.length ≤ 32) : ∀ (d i : Nat) (acc : List Int), i + d = l.length → acc.length ≤ i → Ev (fun k => spec_Thin.l0 k l keep acc (i : Int)) (acc ++ thinGo l keep d i, true) := by
  intro d
  induction d with
  | zero =>
    intro i acc hi ha
    refine Ev.succ ?_
    simp only [spec_Thin.l0]
    exact Ev.neg (by omega) (Ev.some_ (by simp [thinGo]))
  | succ d ih =>
    intro i acc hi ha
    have hm := Nat.mod_lt i hk
    refine Ev.succ ?_
    simp only [spec_Thin.l0]
    rw [tmod_nat, w64_add (by omega) (by omega)]
    refine Ev.pos (by omega) (Ev.neg (by omega) (Ev.pos (by omega) (Ev.pos (by omega) ?_)))
    by_cases h1 : rd keep ((i % keep.length : Nat) : Int) = 1
    · have h1k : keepAt keep i = 1 := h1
      refine Ev.pos h1 (Ev.pos (by omega) (Ev.pos (by omega) ((ih (i + 1) (acc ++ [rd l i]) (by omega) (by simp; omega)).to ?_)))
      simp [thinGo, h1k]
    · have h1k : ¬ keepAt keep i = 1 := h1
      refine Ev.neg h1 ((ih (i + 1) acc (by omega) (by omega)).to ?_)
      simp [thinGo, h1k]
theorem sThin_ev (l keep : List Int) (hl : l.length ≤ 1048576) (hk : keep.length ≤ 1048576) : Ev (fun k => spec_Thin.f k l keep) (thinOf l keep) := by
  have bad : Ev (fun k => spec_Thin.j0 k l keep [] true) ([], false) := by
    refine Ev.succ ?_
    simp only [spec_Thin.j0]
    exact Ev.pos trivial (Ev.some_ rfl)
  unfold spec_Thin.f thinOf
  simp only [Option.bind_some]
  by_cases h1 : (l.length : Int) > 1024
  · rw [if_neg (by omega)]; exact Ev.pos h1 bad
  · refine Ev.neg h1 (Ev.next (l15Keep_ev keep hk) ?_)
    cases hb : keepB keep
    · rw [if_neg (by simp)]; exact bad
    · rw [if_pos ⟨by omega, rfl⟩]
      refine Ev.succ ?_
      simp only [spec_Thin.j0]
      exact Ev.neg (by simp) ((sThin_l0 l keep (by omega) (keepB_pos hb) (keepB_iff.1 hb).2.2 l.length 0 [] (by omega) (by simp)).to (by simp))
/-- What was thinned is put back where it stood. -/
theorem iThicken_l0 (l keep x : List Int) (hl : l.length ≤ 1024) (hb : keepB keep = true) : ∀ (d i c : Nat) (out : List Int), i + d = l.length → c ≤ i → out.length = l.length → out.drop i = List.replicate d 0 → c + (thinGo l keep d i).length = x.length → x.drop c = thinGo l keep d i →
    Ev (fun k => impl_Thicken.l0 k x keep out (c : Int) (l.length : Int) (i : Int)) (out.take i ++ thickGo l keep d i, true) := by
  have hk := keepB_pos hb
  have hk2 := (keepB_iff.1 hb).2.2
  intro d
  induction d with
  | zero =>
    intro i c out hi hc ho hz hx hd
    simp only [thinGo, List.length_nil] at hx
    refine Ev.succ ?_
    simp only [impl_Thicken.l0]
    exact Ev.neg (by omega) (Ev.pos (by omega) (Ev.some_ (by rw [List.take_of_length_le (by omega)]; simp [thickGo])))
  | succ d ih =>
    intro i c out hi hc ho hz hx hd
    have hm := Nat.mod_lt i hk
    have hz0 : rd out i = 0 := by
      have := drop_rd (xs := out) (i := i) (by omega)
      rw [hz, List.replicate_succ] at this
      exact (List.cons.inj this).1.symm
    have hz1 : out.drop (i + 1) = List.replicate d 0 := by
      have := drop_rd (xs := out) (i := i) (by omega)
      rw [hz, List.replicate_succ] at this
      exact (List.cons.inj this).2.symm
    refine Ev.succ ?_
    simp only [impl_Thicken.l0]
    rw [tmod_nat, w64_add (by omega) (by omega)]
    refine Ev.pos (by omega) (Ev.neg (by omega) (Ev.pos (by omega) (Ev.pos (by omega) ?_)))
    rcases keepAt_bit hb i with h1 | h1
    · have h1' : rd keep ((i % keep.length : Nat) : Int) = 0 := h1
      have et : thinGo l keep (d + 1) i = thinGo l keep d (i + 1) := by simp [thinGo, h1]
      rw [et] at hx hd
      refine Ev.pos h1' ((ih (i + 1) c out (by omega) (by omega) ho hz1 hx hd).to ?_)
      rw [take_rd (by omega), hz0]
      simp [thickGo, h1]
    · have h1' : rd keep ((i % keep.length : Nat) : Int) = 1 := h1
      have et : thinGo l keep (d + 1) i = rd l i :: thinGo l keep d (i + 1) := by simp [thinGo, h1]
      rw [et] at hx hd
      simp only [List.length_cons] at hx
      have hcx : c < x.length := by omega
      rw [drop_rd hcx] at hd
      have e1 := (List.cons.inj hd).1
      have e2 := (List.cons.inj hd).2
      refine Ev.neg (by omega) (Ev.pos (by omega) (Ev.pos (by omega) (Ev.pos (by omega) (Ev.pos (by omega) ?_))))
      rw [w64_add (by omega) (by omega), e1]
      refine (ih (i + 1) (c + 1) (out.set i (rd l i)) (by omega) (by omega) (by simpa using ho) ?_ (by omega) e2).to ?_
      · rw [List.drop_set_of_lt (by omega)]; exact hz1
      · rw [take_set_end (by omega)]; simp [thickGo, h1]
theorem iThicken_ev (l keep : List Int) (hl : l.length ≤ 1024) (hb : keepB keep = true) : Ev (fun k => impl_Thicken.f k (thinGo l keep l.length 0) keep (l.length : Int)) (thickGo l keep l.length 0, true) := by
  have hk2 := (keepB_iff.1 hb).2.2
  unfold impl_Thicken.f
  refine Ev.next (keepOk_ev keep (by omega)) (Ev.pos hb (Ev.neg (by omega) ?_))
  rw [show decide ((l.length : Int) > 1024) = false by simp; omega]
  refine Ev.succ ?_
  simp only [impl_Thicken.j0]
  refine Ev.neg (by simp) (Ev.pos (by omega) (Ev.pos (by omega) ?_))
  simp only [Option.bind_some, Int.toNat_natCast, List.length_replicate]
  exact (iThicken_l0 l keep _ hl hb l.length 0 0 (List.replicate l.length 0) (by omega) (by omega) (by simp) (by simp) (by simp) (by simp)).to (by simp)
theorem sameInts_l0 (a b : List Int) (h : a.length = b.length) (hl : a.length ≤ 35184372088832) : ∀ (d i : Nat), i + d = a.length → Ev (fun k => laws_sameInts.l0 k a b (i : Int)) (decide (a.drop i = b.drop i)) := by
  intro d
  induction d with
  | zero =>
    intro i hi
    refine Ev.round (f := fun _ => some true) (Ev.some_ ?_) (fun k => by simp only [laws_sameInts.l0]; rw [if_neg (by omega)])
    rw [List.drop_of_length_le (by omega), List.drop_of_length_le (by omega)]; simp
  | succ d ih =>
    intro i hi
    by_cases he : rd a i = rd b i
    · refine (Ev.round (ih (i + 1) (by omega)) (fun k => ?_)).to ?_
      · simp only [laws_sameInts.l0]
        rw [if_pos (by omega), if_pos (by omega), if_pos (by omega), if_pos he, w64_add (by omega) (by omega)]; simp
      · rw [drop_rd (xs := a) (i := i) (by omega), drop_rd (xs := b) (i := i) (by omega), he]; simp
    · refine (Ev.round (f := fun _ => some false) (Ev.some_ rfl) (fun k => ?_)).to ?_
      · simp only [laws_sameInts.l0]
        rw [if_pos (by omega), if_pos (by omega), if_pos (by omega), if_neg he]
      · rw [drop_rd (xs := a) (i := i) (by omega), drop_rd (xs := b) (i := i) (by omega)]; simp [he]
theorem sameInts_ev (a b : List Int) (hl : a.length ≤ 35184372088832) : Ev (fun k => laws_sameInts.f k a b) (decide (a = b)) := by
  unfold laws_sameInts.f
  by_cases h : a.length = b.length
  · exact Ev.pos (by omega) (sameInts_l0 a b h hl a.length 0 (by omega))
  · exact (Ev.neg (by omega) (Ev.some_ rfl)).to (by simp; intro e; exact h (by rw [e]))
theorem DrawThin_ev (l : List Int) (hl : l.length ≤ 1048576) : EvP (fun k => spec_DrawThin.f k l) (fun r => r.1.length ≤ 1001 ∧ r.2.length ≤ 200) := by
  unfold spec_DrawThin.f
  refine EvP.next (l1New_ev l) ?_
  rintro ⟨l', p', h'⟩ ⟨rfl, hp⟩
  simp only at hp
  subst hp
  obtain ⟨m, em, hm⟩ := l1Size_ok l' 40 hl (by omega)
  simp only [em, Option.bind_some]
  refine EvP.next (l5Draw_ev l' hl 0 h' m (by omega) (by omega) (by omega)) ?_
  intro a ha
  refine EvP.next (l15DrawKeep_ev l' hl a.2.1 a.2.2 ha.2.1 ha.2.2) ?_
  intro b hb
  exact EvP.now ⟨ha.1, hb⟩
theorem law_l0 (l keep : List Int) (hl : l.length ≤ 1024) (hb : keepB keep = true) : ∀ (d i : Nat), i + d = l.length → Ev (fun k => laws_FnThinned.l0 k l keep (thickGo l keep l.length 0) (i : Int)) true := by
  have hk := keepB_pos hb
  have hk2 := (keepB_iff.1 hb).2.2
  have hlen := thickGo_len l keep l.length 0
  intro d
  induction d with
  | zero =>
    intro i hi
    refine Ev.succ ?_
    simp only [laws_FnThinned.l0]
    exact Ev.neg (by omega) (Ev.some_ rfl)
  | succ d ih =>
    intro i hi
    have hm := Nat.mod_lt i hk
    have hg := thickGo_get l keep l.length 0 i (by omega)
    rw [Nat.zero_add] at hg
    refine Ev.succ ?_
    simp only [laws_FnThinned.l0]
    rw [tmod_nat, w64_add (by omega) (by omega)]
    refine Ev.pos (by omega) (Ev.neg (by omega) (Ev.pos (by omega) (Ev.pos (by omega) ?_)))
    rcases keepAt_bit hb i with h1 | h1
    · have h1' : rd keep ((i % keep.length : Nat) : Int) = 0 := h1
      rw [if_neg (by omega)] at hg
      exact Ev.neg (by omega) (Ev.pos h1' (Ev.pos (by omega) (Ev.pos hg (ih (i + 1) (by omega)))))
    · have h1' : rd keep ((i % keep.length : Nat) : Int) = 1 := h1
      rw [if_pos h1] at hg
      exact Ev.pos h1' (Ev.pos (by omega) (Ev.pos (by omega) (Ev.pos hg (Ev.neg (by omega) (ih (i + 1) (by omega))))))
theorem FnThinned (l : List Int) (m0 : l.length ≤ maxLen) (w0 : ∀ x ∈ l, (Lit.int .u8 x).wf = true) : ∃ k, laws_FnThinned.f k l = some true := by
  refine EvP.law ?_
  unfold laws_FnThinned.f laws_big.f
  simp only [Option.bind_some]
  refine EvP.both (fun _ => EvP.now rfl) (fun hl => ?_)
  refine EvP.next (DrawThin_ev l (by simp at hl; omega)) ?_
  rintro ⟨xs, keep⟩ ⟨h1, h2⟩
  simp only at h1 h2
  refine Ev.p ?_
  simp only
  refine Ev.next (iThin_ev xs keep (by omega) (by omega)) (Ev.next (sThin_ev xs keep (by omega) (by omega)) (Ev.neg (by simp) ?_))
  unfold thinOf
  by_cases hc : xs.length ≤ 1024 ∧ keepB keep = true
  · rw [if_pos hc]
    refine Ev.pos rfl (Ev.next (iThicken_ev xs keep hc.1 hc.2) (Ev.pos rfl ?_))
    refine Ev.succ ?_
    simp only [laws_FnThinned.j0]
    refine Ev.neg (by rw [thickGo_len]; simp) (law_l0 xs keep hc.1 hc.2 xs.length 0 (by omega))
  · rw [if_neg hc]
    refine Ev.neg (by simp) (Ev.next (iThin_ev [4, 5, 6] [1, 0] (by decide) (by decide)) (Ev.pos (by decide) (Ev.next (sameInts_ev _ _ (by decide)) (Ev.some_ (by decide)))))
end Go.Proofs.Ytnmglbdhnegebaa.Pure
