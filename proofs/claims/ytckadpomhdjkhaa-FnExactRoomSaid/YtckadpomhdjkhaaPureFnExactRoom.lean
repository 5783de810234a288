import Derived.Test.YtckadpomhdjkhaaPFnExactRoomx8
import Derived.Test.YtckadpomhdjkhaaAid
set_option linter.unusedVariables false
set_option linter.unusedSimpArgs false
namespace Go.Proofs.Ytckadpomhdjkhaa.Pure
open Go Go.RowKit Go.Proofs.Ytckadpomhdjkhaa.PFnExactRoom Go.Proofs.YtckadpomhdjkhaaW.PrintWords Go.Proofs.YtckadpomhdjkhaaW.PrintLast Go.Proofs.YtckadpomhdjkhaaW.PrintMore
theorem eqIntS_l0 (a b : List Int) (h : a.length = b.length) (hl : a.length ≤ 35184372088832) : ∀ (d i : Nat), i + d = a.length → Ev (fun k => laws_eqIntS.l0 k a b (i : Int)) (decide (a.drop i = b.drop i)) := by
  intro d
  induction d with
  | zero =>
    intro i hi
    refine Ev.round (f := fun _ => some true) (Ev.some_ ?_) (fun k => by simp only [laws_eqIntS.l0]; rw [if_neg (by omega)])
    rw [List.drop_of_length_le (by omega), List.drop_of_length_le (by omega)]; simp
  | succ d ih =>
    intro i hi
    by_cases he : rd a i = rd b i
    · refine (Ev.round (ih (i + 1) (by omega)) (fun k => ?_)).to ?_
      · simp only [laws_eqIntS.l0]
        rw [if_pos (by omega), if_pos (by omega), if_pos (by omega), if_pos he, w64_add (by omega) (by omega)]; simp
      · rw [drop_rd (xs := a) (i := i) (by omega), drop_rd (xs := b) (i := i) (by omega), he]; simp
    · refine (Ev.round (f := fun _ => some false) (Ev.some_ rfl) (fun k => ?_)).to ?_
      · simp only [laws_eqIntS.l0]
        rw [if_pos (by omega), if_pos (by omega), if_pos (by omega), if_neg he]
      · rw [drop_rd (xs := a) (i := i) (by omega), drop_rd (xs := b) (i := i) (by omega)]; simp [he]
theorem eqIntS_ev (a b : List Int) (hl : a.length ≤ 35184372088832) : Ev (fun k => laws_eqIntS.f k a b) (decide (a = b)) := by
  unfold laws_eqIntS.f
  by_cases h : a.length = b.length
  · exact Ev.pos (by omega) (eqIntS_l0 a b h hl a.length 0 (by omega))
  · exact (Ev.neg (by omega) (Ev.some_ rfl)).to (by simp; intro e; exact h (by rw [e]))
theorem toIntS_l0 (l : List Int) (hl : l.length ≤ 35184372088832) : ∀ (d i : Nat) (acc : List Int), i + d = l.length → acc.length = l.length → acc.take i = l.take i → Ev (fun k => laws_toIntS.l0 k l acc (i : Int)) l := by
  intro d
  induction d with
  | zero =>
    intro i acc h h1 h2
    refine Ev.round (f := fun _ => some acc) (Ev.some_ ?_) (fun k => by simp only [laws_toIntS.l0]; rw [if_neg (by omega)])
    rw [List.take_of_length_le (by omega), List.take_of_length_le (by omega)] at h2
    exact h2
  | succ d ih =>
    intro i acc h h1 h2
    have hi : i < l.length := by omega
    refine Ev.round (ih (i + 1) (acc.set i (rd l i)) (by omega) (by simp [h1]) ?_) (fun k => ?_)
    · rw [take_rd hi, ← h2]; exact take_set_end (by omega) _
    · simp only [laws_toIntS.l0]
      rw [if_pos (by omega), if_pos (by omega), if_pos (by omega), w64_add (by omega) (by omega)]
      simp
theorem toIntS_ev (l : List Int) (hl : l.length ≤ 35184372088832) : Ev (fun k => laws_toIntS.f k l) l := by
  unfold laws_toIntS.f
  refine Ev.pos (by omega) (Ev.pos (by omega) ?_)
  exact toIntS_l0 l hl l.length 0 _ (by omega) (by simp) (by simp)
def iota (a : Int) : Nat → List Int
  | 0 => []
  | n + 1 => a :: iota (a + 1) n
theorem iota_length : ∀ (n : Nat) (a : Int), (iota a n).length = n
  | 0, _ => rfl
  | n + 1, a => by simp [iota, iota_length n]
theorem markIntS_l0 (m : Nat) (hm : m ≤ 1048576) : ∀ (d i : Nat) (l : List Int) (a : Int), i + d = l.length → l.length ≤ 1048576 → 0 ≤ a → a ≤ 1000000000 + i → Ev (fun k => laws_markIntS.l0 k l a (i : Int)) (a + d, l.take i ++ iota a d) := by
  intro d
  induction d with
  | zero =>
    intro i l a hi hl h0 h1
    refine Ev.succ ?_
    simp only [laws_markIntS.l0]
    refine Ev.neg (by omega) (Ev.some_ ?_)
    rw [List.take_of_length_le (by omega)]; simp [iota]
  | succ d ih =>
    intro i l a hi hl h0 h1
    refine Ev.succ ?_
    simp only [laws_markIntS.l0]
    refine Ev.pos (by omega) (Ev.pos (by omega) ?_)
    rw [w64_add (by omega) (by omega), w64_add (by omega) (by omega)]
    refine (ih (i + 1) (l.set i a) (a + 1) (by simp; omega) (by simpa using hl) (by omega) (by omega)).to ?_
    rw [take_set_end (by omega)]
    simp only [iota, List.append_assoc, List.cons_append, List.nil_append, Prod.mk.injEq, and_true]
    omega
theorem markIntS_ev (l : List Int) (a : Int) (hl : l.length ≤ 1048576) (h0 : 0 ≤ a) (h1 : a ≤ 1000000000) : Ev (fun k => laws_markIntS.f k l a) (a + l.length, iota a l.length) := by
  unfold laws_markIntS.f
  exact (markIntS_l0 l.length hl l.length 0 l a (by omega) hl h0 (by omega)).to (by simp)
theorem heldIntS_l0 (p : List Int) : ∀ (d : Nat) (a : Int) (l : List Int), l = p ++ iota a d → l.length ≤ 1048576 → ∀ i : Nat, i = p.length → 0 ≤ a → a ≤ 1000000000 + i → Ev (fun k => laws_heldIntS.l0 k l a (i : Int)) (a + d) := by
  intro d
  induction d generalizing p with
  | zero =>
    intro a l hl hn i hi h0 h1
    refine Ev.succ ?_
    simp only [laws_heldIntS.l0]
    have : l.length = p.length := by rw [hl]; simp [iota]
    exact Ev.neg (by omega) (Ev.some_ (by omega))
  | succ d ih =>
    intro a l hl hn i hi h0 h1
    have e : l.length = p.length + (d + 1) := by rw [hl]; simp [iota, iota_length]
    refine Ev.succ ?_
    simp only [laws_heldIntS.l0]
    refine Ev.pos (by omega) (Ev.pos (by omega) (Ev.pos ?_ ?_))
    · rw [rd_get l i (by omega)]
      subst hl
      rw [List.getElem_append_right (by omega)]
      simp [iota, hi]
    · rw [w64_add (by omega) (by omega), w64_add (by omega) (by omega)]
      exact (ih (p ++ [a]) (a + 1) l (by rw [hl]; simp [iota]) hn (i + 1) (by simp [hi]) (by omega) (by omega)).to (by omega)
theorem heldIntS_ev (n : Nat) (a : Int) (hn : n ≤ 1048576) (h0 : 0 ≤ a) (h1 : a ≤ 1000000000) : Ev (fun k => laws_heldIntS.f k (iota a n) a) (a + n) :=
  heldIntS_l0 [] n a (iota a n) (by simp) (by rw [iota_length]; exact hn) 0 rfl h0 (by omega)
theorem wadd1 {e : Nat} (h : e ≤ 9000000000000000000) : wrap64 ((e : Int) + 1) = ((e + 1 : Nat) : Int) := by rw [w64 (by omega) (by omega)]; omega
theorem wadd2 {e : Nat} (h : e ≤ 9000000000000000000) : wrap64 ((e : Int) + 2) = ((e + 2 : Nat) : Int) := by rw [w64 (by omega) (by omega)]; omega
theorem wadd3 {e : Nat} (h : e ≤ 9000000000000000000) : wrap64 ((e : Int) + 3) = ((e + 3 : Nat) : Int) := by rw [w64 (by omega) (by omega)]; omega
theorem wround8 {e u : Nat} (h : e ≤ 1000000000000000000) (h2 : u ≤ 1000000000000000000) : wrap64 ((e : Int) + wrap64 (Int.tdiv (wrap64 ((u : Int) + 7)) 8)) = ((e + (u + 7) / 8 : Nat) : Int) := by
  rw [w64 (n := (u : Int) + 7) (by omega) (by omega), Int.tdiv_eq_ediv_of_nonneg (by omega), w64 (n := ((u : Int) + 7) / 8) (by omega) (by omega), w64 (by omega) (by omega)]; omega
theorem get80 {xs : List S80} {i : Nat} (h : i < xs.length) : xs[i]? = some (rd_T80 xs (i : Int)) := by simp [rd_T80, List.getD_eq_getElem?_getD, h]
theorem drop80 {xs : List S80} {i : Nat} (h : i < xs.length) : xs.drop i = rd_T80 xs (i : Int) :: xs.drop (i + 1) := by
  rw [show rd_T80 xs (i : Int) = xs[i] by simp [rd_T80, List.getD_eq_getElem?_getD, h]]; exact List.drop_eq_getElem_cons h
theorem rd_set80 (l : List S80) (i : Nat) (v : S80) (h : i < l.length) : rd_T80 (l.set i v) (i : Int) = v := by simp [rd_T80, List.getD_eq_getElem?_getD, h]
def iotaW (a : Int) : Nat → List S80
  | 0 => []
  | d + 1 => ⟨a, a + 1, a + 2, a + 3, a + 4⟩ :: iotaW (a + 5) d
theorem iotaW_length : ∀ (d : Nat) (a : Int), (iotaW a d).length = d
  | 0, _ => rfl
  | d + 1, a => by simp [iotaW, iotaW_length d]
theorem eqWireS_l0 (l : List S80) (hl : l.length ≤ 1048576) : ∀ (d i : Nat), i + d = l.length → Ev (fun k => laws_eqWireS.l0 k l l (i : Int)) true := by
  intro d
  induction d with
  | zero =>
    intro i hi
    refine Ev.succ ?_
    simp only [laws_eqWireS.l0]
    exact Ev.neg (by omega) (Ev.some_ rfl)
  | succ d ih =>
    intro i hi
    refine Ev.succ ?_
    simp only [laws_eqWireS.l0]
    rw [wadd1 (e := i) (by omega)]
    refine Ev.pos (by omega) (Ev.pos (by omega) (Ev.pos (by omega) (Ev.next (Ev.here (r := true) ?_) (Ev.pos rfl (ih (i + 1) (by omega))))))
    unfold laws_eqWire.f
    simp
theorem eqWireS_ev (l : List S80) (hl : l.length ≤ 1048576) : Ev (fun k => laws_eqWireS.f k l l) true := by
  unfold laws_eqWireS.f
  exact Ev.pos rfl (eqWireS_l0 l hl l.length 0 (Nat.zero_add _))
theorem wr5 {a : Int} (h0 : 0 ≤ a) (h1 : a ≤ 1000000000000) : wrap64 (a + 1) = a + 1 ∧ wrap64 (a + 2) = a + 2 ∧ wrap64 (a + 3) = a + 3 ∧ wrap64 (a + 4) = a + 4 ∧ wrap64 (a + 5) = a + 5 :=
  ⟨w64 (by omega) (by omega), w64 (by omega) (by omega), w64 (by omega) (by omega), w64 (by omega) (by omega), w64 (by omega) (by omega)⟩
theorem markW_l0 : ∀ (d i : Nat) (l : List S80) (a : Int), i + d = l.length → l.length ≤ 1048576 → 0 ≤ a → a ≤ 1000000000 + 5 * i → Ev (fun k => laws_markWireS.l0 k l a (i : Int)) (a + 5 * d, l.take i ++ iotaW a d) := by
  intro d
  induction d with
  | zero =>
    intro i l a hi hl h0 h1
    refine Ev.succ ?_
    simp only [laws_markWireS.l0]
    refine Ev.neg (by omega) (Ev.some_ ?_)
    rw [List.take_of_length_le (by omega)]; simp [iotaW]
  | succ d ih =>
    intro i l a hi hl h0 h1
    obtain ⟨e1, e2, e3, e4, e5⟩ := wr5 h0 (by omega)
    refine Ev.succ ?_
    simp only [laws_markWireS.l0]
    rw [wadd1 (e := i) (by omega), e1, show a + 1 + 1 = a + 2 by omega, e2, show a + 2 + 1 = a + 3 by omega, e3, show a + 3 + 1 = a + 4 by omega, e4, show a + 4 + 1 = a + 5 by omega, e5, Int.toNat_natCast]
    refine Ev.pos (by omega) (Ev.pos (by omega) (Ev.next (Ev.some_ rfl) (Ev.next (Ev.some_ rfl) (Ev.next (Ev.some_ rfl) (Ev.next (Ev.some_ rfl) ?_)))))
    have hs : ∀ v, rd_T80 (l.set i v) (i : Int) = v := fun v => rd_set80 l i v (by omega)
    simp only [List.set_set, hs]
    refine (ih (i + 1) (l.set i ⟨a, a + 1, a + 2, a + 3, a + 4⟩) (a + 5) (by simp; omega) (by simpa using hl) (by omega) (by omega)).to ?_
    rw [take_set_end (by omega)]
    simp only [iotaW, List.append_assoc, List.cons_append, List.nil_append, Prod.mk.injEq, and_true]
    omega
theorem markW_ev (l : List S80) (a : Int) (hl : l.length ≤ 1048576) (h0 : 0 ≤ a) (h1 : a ≤ 1000000000) : Ev (fun k => laws_markWireS.f k l a) (a + 5 * l.length, iotaW a l.length) := by
  unfold laws_markWireS.f
  exact (markW_l0 l.length 0 l a (by omega) hl h0 (by omega)).to (by simp)
theorem l1In_eq (a b c : Int) : spec_l1In.f a b c = some (decide (b ≤ a) && decide (a ≤ c)) := by
  unfold spec_l1In.f
  by_cases h : a ≥ b
  · rw [if_pos h]; simp [show b ≤ a from h]
  · rw [if_neg h]; simp [show ¬ b ≤ a from h]
theorem lit1In_eq (x lo hi : Int) : impl_WiresOk_1.f x lo hi = some (decide (lo ≤ x) && decide (x ≤ hi)) := by
  unfold impl_WiresOk_1.f
  by_cases h : x ≥ lo
  · rw [if_pos h]; simp; omega
  · rw [if_neg h]; simp; omega
def conv (x : S82) : S80 := ⟨x.f0, x.f1, x.f2, x.f3, x.f4⟩
theorem take82 {xs : List S82} {i : Nat} (h : i < xs.length) : xs.take (i + 1) = xs.take i ++ [rd_T82 xs (i : Int)] := by
  rw [show rd_T82 xs (i : Int) = xs[i] by simp [rd_T82, List.getD_eq_getElem?_getD, h]]; exact (List.take_append_getElem h).symm
theorem toWireS_l0 (l : List S82) (hl : l.length ≤ 1048576) : ∀ (d i : Nat) (acc : List S80), i + d = l.length → acc.length = l.length → acc.take i = (l.take i).map conv → Ev (fun k => laws_toWireS.l0 k l acc (i : Int)) (l.map conv) := by
  intro d
  induction d with
  | zero =>
    intro i acc hi ha ht
    refine Ev.succ ?_
    simp only [laws_toWireS.l0]
    refine Ev.neg (by omega) (Ev.some_ ?_)
    rw [List.take_of_length_le (by omega), List.take_of_length_le (by omega)] at ht
    exact ht
  | succ d ih =>
    intro i acc hi ha ht
    refine Ev.succ ?_
    simp only [laws_toWireS.l0, laws_toWire.f, Option.bind_some]
    rw [wadd1 (e := i) (by omega), Int.toNat_natCast]
    refine Ev.pos (by omega) (Ev.pos (by omega) (Ev.pos (by omega) (ih (i + 1) _ (by omega) (by simpa using ha) ?_)))
    rw [take_set_end (by omega), take82 (by omega), List.map_append, ht]
    rfl
theorem toWireS_ev (l : List S82) (hl : l.length ≤ 1048576) : Ev (fun k => laws_toWireS.f k l) (l.map conv) := by
  unfold laws_toWireS.f
  refine Ev.pos (by omega) (Ev.pos (by rw [Int.toNat_natCast]; omega) ?_)
  rw [Int.toNat_natCast]
  exact toWireS_l0 l hl l.length 0 _ (by omega) (by simp) (by simp)
def wireB (n : Int) (x : S80) : Bool := (decide (0 ≤ x.f0) && decide (x.f0 ≤ n - 1)) && ((decide (0 ≤ x.f1) && decide (x.f1 ≤ n - 1)) && ((decide (1 ≤ x.f2) && decide (x.f2 ≤ 64)) && ((decide (1 ≤ x.f3) && decide (x.f3 ≤ 64)) && (decide (0 ≤ x.f4) && decide (x.f4 ≤ 1000)))))
def wiresOf (n : Int) (l : List S80) : Bool := decide ((1 ≤ n ∧ n ≤ 20) ∧ (l.length : Int) ≤ 40) && l.all (wireB n)
theorem chain5 {f : Nat → Option Bool} {b1 b2 b3 b4 b5 r : Bool} (h : Ev f r) : Ev (fun k => if b1 = true then (if b2 = true then (if b3 = true then (if b4 = true then (if b5 = true then f k else some false) else some false) else some false) else some false) else some false) (b1 && (b2 && (b3 && (b4 && b5))) && r) := by
  cases b1 with
  | false => exact Ev.some_ rfl
  | true => cases b2 with
    | false => exact Ev.some_ rfl
    | true => cases b3 with
      | false => exact Ev.some_ rfl
      | true => cases b4 with
        | false => exact Ev.some_ rfl
        | true => cases b5 with
          | false => exact Ev.some_ rfl
          | true => exact h.to (by cases r <;> rfl)
theorem sWires_l0 (n : Int) (hn : 1 ≤ n ∧ n ≤ 20) (l : List S80) (hl : l.length ≤ 40) : ∀ (d i : Nat), i + d = l.length → Ev (fun k => spec_WiresOk.l0 k n l (i : Int)) ((l.drop i).all (wireB n)) := by
  intro d
  induction d with
  | zero =>
    intro i hi
    refine Ev.succ ?_
    simp only [spec_WiresOk.l0]
    rw [List.drop_of_length_le (by omega)]
    exact Ev.neg (by omega) (Ev.some_ rfl)
  | succ d ih =>
    intro i hi
    refine Ev.succ ?_
    simp only [spec_WiresOk.l0, l1In_eq, Option.bind_some]
    rw [wadd1 (e := i) (by omega), w64 (n := n - 1) (by omega) (by omega), drop80 (by omega), List.all_cons]
    exact Ev.pos (by omega) (Ev.pos (by omega) (chain5 (ih (i + 1) (by omega))))
theorem iWires_l0 (n : Int) (hn : 1 ≤ n ∧ n ≤ 20) (l : List S80) (hl : l.length ≤ 40) : ∀ (d i : Nat), i + d = l.length → Ev (fun k => impl_WiresOk.l0 k n l (l.length : Int) (i : Int)) ((l.drop i).all (wireB n)) := by
  intro d
  induction d with
  | zero =>
    intro i hi
    refine Ev.succ ?_
    simp only [impl_WiresOk.l0]
    rw [List.drop_of_length_le (by omega)]
    exact Ev.neg (by omega) (Ev.some_ rfl)
  | succ d ih =>
    intro i hi
    refine Ev.succ ?_
    simp only [impl_WiresOk.l0, lit1In_eq, Option.bind_some]
    rw [wadd1 (e := i) (by omega), w64 (n := n - 1) (by omega) (by omega), drop80 (by omega), List.all_cons]
    exact Ev.pos (by omega) (Ev.pos (by omega) (Ev.pos (by omega) (chain5 (ih (i + 1) (by omega)))))
theorem sWires_ev (n : Int) (l : List S80) : Ev (fun k => spec_WiresOk.f k n l) (wiresOf n l) := by
  have ft : ∀ b : Bool, b = true → Ev (fun k => spec_WiresOk.j0 k n l b) false := by
    intro b hb
    refine Ev.succ ?_
    simp only [spec_WiresOk.j0]
    exact Ev.pos hb (Ev.some_ rfl)
  unfold spec_WiresOk.f wiresOf
  rw [l1In_eq]
  simp only [Option.bind_some]
  by_cases h1 : 1 ≤ n ∧ n ≤ 20
  · refine Ev.pos (by simp; omega) ?_
    by_cases h2 : (l.length : Int) ≤ 40
    · rw [show decide ((1 ≤ n ∧ n ≤ 20) ∧ (l.length : Int) ≤ 40) = true from decide_eq_true ⟨h1, h2⟩, show decide ((l.length : Int) > 40) = false from decide_eq_false (by omega), Bool.true_and]
      refine Ev.succ ?_
      simp only [spec_WiresOk.j0]
      exact Ev.neg (by decide) (sWires_l0 n h1 l (by omega) l.length 0 (by omega))
    · rw [show decide ((1 ≤ n ∧ n ≤ 20) ∧ (l.length : Int) ≤ 40) = false from decide_eq_false (fun h => h2 h.2), Bool.false_and]
      exact ft _ (by simp; omega)
  · rw [show decide ((1 ≤ n ∧ n ≤ 20) ∧ (l.length : Int) ≤ 40) = false from decide_eq_false (fun h => h1 h.1), Bool.false_and]
    exact Ev.neg (by simp; omega) (ft _ rfl)
theorem iWires_ev (n : Int) (l : List S80) : Ev (fun k => impl_WiresOk.f k n l) (wiresOf n l) := by
  have ft : ∀ b : Bool, b = true → Ev (fun k => impl_WiresOk.j0 k n l b) false := by
    intro b hb
    refine Ev.succ ?_
    simp only [impl_WiresOk.j0]
    exact Ev.pos hb (Ev.some_ rfl)
  unfold impl_WiresOk.f wiresOf
  by_cases h1 : 1 ≤ n ∧ n ≤ 20
  · refine Ev.neg (by omega) (Ev.neg (by omega) ?_)
    by_cases h2 : (l.length : Int) ≤ 40
    · rw [show decide ((1 ≤ n ∧ n ≤ 20) ∧ (l.length : Int) ≤ 40) = true from decide_eq_true ⟨h1, h2⟩, show decide ((l.length : Int) > 40) = false from decide_eq_false (by omega), Bool.true_and]
      refine Ev.succ ?_
      simp only [impl_WiresOk.j0]
      exact Ev.neg (by decide) (iWires_l0 n h1 l (by omega) l.length 0 (by omega))
    · rw [show decide ((1 ≤ n ∧ n ≤ 20) ∧ (l.length : Int) ≤ 40) = false from decide_eq_false (fun h => h2 h.2), Bool.false_and]
      exact ft _ (by simp; omega)
  · rw [show decide ((1 ≤ n ∧ n ≤ 20) ∧ (l.length : Int) ≤ 40) = false from decide_eq_false (fun h => h1 h.1), Bool.false_and]
    exact Ev.both (fun _ => ft _ rfl) (fun _ => Ev.both (fun _ => ft _ rfl) (fun _ => ft _ (by omega)))
theorem nfStep_len (l1 : List S80) (b : Int) (i : Int) (lie : List Int) : (frStep l1 b i lie).length = lie.length := by
  unfold frStep
  repeat' split
  all_goals simp
theorem nfGo_len (l1 : List S80) (b : Int) : ∀ (d : Nat) (i : Int) (lie : List Int), (frGo l1 b d i lie).length = lie.length
  | 0, _, _ => rfl
  | d + 1, i, lie => by unfold frGo; rw [nfGo_len l1 b d, nfStep_len]
def canFrom (ws : List S80) (lie : List Int) (b : Int) : Nat → Nat → Bool
  | 0, _ => true
  | d + 1, i => if (rd_T80 ws (i : Int)).f1 = b ∧ rd lie (i : Int) < (rd_T80 ws (i : Int)).f3 then false else canFrom ws lie b d (i + 1)
def canB (n : Int) (ws : List S80) (lie : List Int) (b : Int) : Bool := (decide (0 ≤ b) && decide (b ≤ n - 1)) && canFrom ws lie b ws.length 0
theorem sHave_l0 (ws : List S80) (hw : ws.length ≤ 40) : ∀ (d i : Nat), i + d = ws.length → Ev (fun k => spec_l19Have.l0 k ws ((ws.take i).map (·.f4)) (i : Int)) (ws.map (·.f4)) := by
  intro d
  induction d with
  | zero =>
    intro i hi
    refine Ev.succ ?_
    simp only [spec_l19Have.l0]
    rw [List.take_of_length_le (by omega)]
    exact Ev.neg (by omega) (Ev.some_ rfl)
  | succ d ih =>
    intro i hi
    have nx := ih (i + 1) (by omega)
    have hi1 : i < ws.length := by omega
    rw [show ws.take (i + 1) = ws.take i ++ [rd_T80 ws (i : Int)] by rw [show rd_T80 ws (i : Int) = ws[i] by simp [rd_T80, List.getD_eq_getElem?_getD, hi1]]; exact (List.take_append_getElem hi1).symm, List.map_append] at nx
    refine Ev.succ ?_
    simp only [spec_l19Have.l0]
    rw [wadd1 (e := i) (by omega)]
    exact Ev.pos (by omega) (Ev.pos (by omega) (Ev.pos (by rw [List.length_map, List.length_take]; omega) nx))
theorem sHave_ev (ws : List S80) (hw : ws.length ≤ 40) : Ev (fun k => spec_l19Have.f k ws) (ws.map (·.f4)) := sHave_l0 ws hw ws.length 0 (by omega)
theorem sCan_l0 (ws : List S80) (lie : List Int) (b : Int) (hw : ws.length ≤ 40) (hl : lie.length = ws.length) : ∀ (d i : Nat), i + d = ws.length → Ev (fun k => spec_l19Can.l0 k ws lie b (i : Int)) (canFrom ws lie b d i) := by
  intro d
  induction d with
  | zero =>
    intro i hi
    refine Ev.succ ?_
    simp only [spec_l19Can.l0]
    exact Ev.neg (by omega) (Ev.some_ rfl)
  | succ d ih =>
    intro i hi
    have nx := ih (i + 1) (by omega)
    refine Ev.succ ?_
    simp only [spec_l19Can.l0]
    rw [wadd1 (e := i) (by omega)]
    show Ev _ (if (rd_T80 ws (i : Int)).f1 = b ∧ rd lie (i : Int) < (rd_T80 ws (i : Int)).f3 then false else canFrom ws lie b d (i + 1))
    refine Ev.pos (by omega) (Ev.pos (by omega) (Ev.both (fun c => Ev.pos (by omega) (Ev.both (fun c2 => ?_) (fun c2 => ?_))) (fun c => ?_)))
    · rw [if_pos ⟨c, c2⟩]; exact Ev.some_ rfl
    · rw [if_neg (fun h => c2 h.2)]; exact nx
    · rw [if_neg (fun h => c h.1)]; exact nx
theorem iCan_l0 (n : Int) (ws : List S80) (lie : List Int) (b : Int) (hw : ws.length ≤ 40) (hl : lie.length = ws.length) : ∀ (d i : Nat), i + d = ws.length → Ev (fun k => impl_net_can.l0 k b ws (ws.length : Int) (i : Int) n ws lie) (canFrom ws lie b d i) := by
  intro d
  induction d with
  | zero =>
    intro i hi
    refine Ev.succ ?_
    simp only [impl_net_can.l0]
    exact Ev.neg (by omega) (Ev.some_ rfl)
  | succ d ih =>
    intro i hi
    have nx := ih (i + 1) (by omega)
    refine Ev.succ ?_
    simp only [impl_net_can.l0]
    rw [wadd1 (e := i) (by omega)]
    show Ev _ (if (rd_T80 ws (i : Int)).f1 = b ∧ rd lie (i : Int) < (rd_T80 ws (i : Int)).f3 then false else canFrom ws lie b d (i + 1))
    refine Ev.pos (by omega) (Ev.pos (by omega) (Ev.pos (by omega) (Ev.both (fun c => Ev.pos (by omega) (Ev.both (fun c2 => ?_) (fun c2 => ?_))) (fun c => ?_))))
    · rw [if_pos ⟨c, c2⟩]; exact Ev.some_ rfl
    · rw [if_neg (fun h => c2 h.2)]; exact nx
    · rw [if_neg (fun h => c h.1)]; exact nx
theorem iCan_ev (n : Int) (ws : List S80) (lie : List Int) (b : Int) (hn : n ≤ 20) (hw : ws.length ≤ 40) (hl : lie.length = ws.length) : Ev (fun k => impl_net_can.f k n ws lie b) (canB n ws lie b) := by
  have ft : ∀ c : Bool, c = true → Ev (fun k => impl_net_can.j0 k b c n ws lie) false := by
    intro c hc
    refine Ev.succ ?_
    simp only [impl_net_can.j0]
    exact Ev.pos hc (Ev.some_ rfl)
  unfold impl_net_can.f canB
  by_cases h1 : b < 0
  · refine Ev.pos h1 ((ft _ rfl).to ?_)
    rw [decide_eq_false (show ¬ 0 ≤ b by omega)]; rfl
  · refine Ev.neg h1 ?_
    rw [decide_eq_true (show 0 ≤ b by omega), Bool.true_and]
    by_cases h2 : b ≥ n
    · rw [decide_eq_false (show ¬ b ≤ n - 1 by omega), Bool.false_and]
      exact ft _ (decide_eq_true h2)
    · rw [decide_eq_true (show b ≤ n - 1 by omega), Bool.true_and]
      refine Ev.succ ?_
      simp only [impl_net_can.j0]
      exact Ev.neg (by simp; omega) (iCan_l0 n ws lie b hw hl ws.length 0 (by omega))
theorem sFire_l0 (ws : List S80) (b : Int) (hw : ws.length ≤ 40) : ∀ (d i : Nat) (lie : List Int), i + d = ws.length → lie.length = ws.length → Ev (fun k => spec_l19Fire.l0 k ws lie b (i : Int)) (frGo ws b d (i : Int) lie) := by
  intro d
  induction d with
  | zero =>
    intro i lie hi hl
    refine Ev.succ ?_
    simp only [spec_l19Fire.l0]
    exact Ev.neg (by omega) (Ev.some_ rfl)
  | succ d ih =>
    intro i lie hi hl
    have nx := ih (i + 1) (frStep ws b (i : Int) lie) (by omega) (by rw [nfStep_len]; exact hl)
    rw [show ((i + 1 : Nat) : Int) = (i : Int) + 1 by omega] at nx
    refine Ev.succ ?_
    simp only [spec_l19Fire.l0]
    rw [wadd1 (e := i) (by omega), show ((i + 1 : Nat) : Int) = (i : Int) + 1 by omega]
    show Ev _ (frGo ws b d ((i : Int) + 1) (frStep ws b (i : Int) lie))
    refine Ev.pos (by omega) (Ev.pos (by omega) (Ev.both (fun c => Ev.pos (by omega) (Ev.next (Ev.some_ rfl) (Ev.both (fun c2 => ?_) (fun c2 => ?_)))) (fun c => Ev.both (fun c2 => Ev.pos (by omega) ?_) (fun c2 => ?_))))
    · have e : frStep ws b (i : Int) lie = (lie.set (i : Int).toNat (wrap64 (rd lie (i : Int) - (rd_T80 ws (i : Int)).f3))).set (i : Int).toNat (wrap64 (rd (lie.set (i : Int).toNat (wrap64 (rd lie (i : Int) - (rd_T80 ws (i : Int)).f3))) (i : Int) + (rd_T80 ws (i : Int)).f2)) := by unfold frStep; simp only [c, c2, if_true]
      rw [← e]; exact nx
    · have e : frStep ws b (i : Int) lie = lie.set (i : Int).toNat (wrap64 (rd lie (i : Int) - (rd_T80 ws (i : Int)).f3)) := by unfold frStep; simp only [c, c2, if_true, if_false]
      rw [← e]; exact nx
    · have e : frStep ws b (i : Int) lie = lie.set (i : Int).toNat (wrap64 (rd lie (i : Int) + (rd_T80 ws (i : Int)).f2)) := by unfold frStep; simp only [c, c2, if_true, if_false]
      rw [← e]; exact nx
    · have e : frStep ws b (i : Int) lie = lie := by unfold frStep; simp only [c, c2, if_false]
      rw [e] at nx
      rw [e]
      exact nx
theorem sFire_ev (ws : List S80) (b : Int) (lie : List Int) (hw : ws.length ≤ 40) (hl : lie.length = ws.length) : Ev (fun k => spec_l19Fire.f k ws lie b) (frGo ws b ws.length 0 lie) := sFire_l0 ws b hw ws.length 0 lie (by omega) hl
def fireP (n : Int) (ws : List S80) (ord : List Int) : Nat → Int → List Int → List Int × Int
  | 0, _, lie => (lie, -1)
  | d + 1, i, lie => if canB n ws lie (rd ord i) = true then fireP n ws ord d (i + 1) (frGo ws (rd ord i) ws.length 0 lie) else (lie, i)
def fireOf (n : Int) (ws : List S80) (ord : List Int) : List Int × Int := if wiresOf n ws = true ∧ ord.length ≤ 2000 then fireP n ws ord ord.length 0 (ws.map (·.f4)) else ([], -2)
theorem fireP_len (n : Int) (ws : List S80) (ord : List Int) : ∀ (d : Nat) (i : Int) (lie : List Int), (fireP n ws ord d i lie).1.length = lie.length
  | 0, _, _ => rfl
  | d + 1, i, lie => by
    unfold fireP
    split
    · rw [fireP_len n ws ord d, nfGo_len]
    · rfl
theorem wires_parts {n : Int} {ws : List S80} (h : wiresOf n ws = true) : (1 ≤ n ∧ n ≤ 20) ∧ ws.length ≤ 40 := by
  unfold wiresOf at h
  simp only [Bool.and_eq_true, decide_eq_true_eq] at h
  exact ⟨h.1.1, by omega⟩
theorem fireOf_len (n : Int) (ws : List S80) (ord : List Int) : (fireOf n ws ord).1.length ≤ 40 := by
  unfold fireOf
  split
  · rename_i h
    rw [fireP_len, List.length_map]
    exact (wires_parts h.1).2
  · simp
theorem sFireLoop (n : Int) (ws : List S80) (ord : List Int) (hn : 1 ≤ n ∧ n ≤ 20) (hw : ws.length ≤ 40) (ho : ord.length ≤ 2000) : ∀ (d i : Nat) (lie : List Int), i + d = ord.length → lie.length = ws.length → Ev (fun k => spec_Fire.l0 k n ws ord lie (i : Int)) (fireP n ws ord d (i : Int) lie) := by
  intro d
  induction d with
  | zero =>
    intro i lie hi hl
    refine Ev.succ ?_
    simp only [spec_Fire.l0]
    exact Ev.neg (by omega) (Ev.some_ rfl)
  | succ d ih =>
    intro i lie hi hl
    have nx := ih (i + 1) (frGo ws (rd ord (i : Int)) ws.length 0 lie) (by omega) (by rw [nfGo_len]; exact hl)
    rw [show ((i + 1 : Nat) : Int) = (i : Int) + 1 by omega] at nx
    have cn := sCan_l0 ws lie (rd ord (i : Int)) hw hl ws.length 0 (by omega)
    refine Ev.succ ?_
    simp only [spec_Fire.l0, l1In_eq, Option.bind_some]
    rw [wadd1 (e := i) (by omega), show ((i + 1 : Nat) : Int) = (i : Int) + 1 by omega, w64 (n := n - 1) (by omega) (by omega)]
    show Ev _ (if ((decide (0 ≤ rd ord (i : Int)) && decide (rd ord (i : Int) ≤ n - 1)) && canFrom ws lie (rd ord (i : Int)) ws.length 0) = true then fireP n ws ord d ((i : Int) + 1) (frGo ws (rd ord (i : Int)) ws.length 0 lie) else (lie, (i : Int)))
    refine Ev.pos (by omega) (Ev.pos (by omega) ?_)
    cases (decide (0 ≤ rd ord (i : Int)) && decide (rd ord (i : Int) ≤ n - 1)) with
    | false => exact Ev.neg (by decide) (Ev.some_ rfl)
    | true =>
      refine Ev.pos rfl (Ev.next cn ?_)
      cases canFrom ws lie (rd ord (i : Int)) ws.length 0 with
      | false => exact Ev.neg (by decide) (Ev.some_ rfl)
      | true => exact Ev.pos rfl (Ev.next (sFire_ev ws _ lie hw hl) nx)
theorem iFireLoop (n : Int) (ws : List S80) (ord : List Int) (hn : 1 ≤ n ∧ n ≤ 20) (hw : ws.length ≤ 40) : ∀ (d : Nat) (i : Int) (lie : List Int), lie.length = ws.length → Ev (fun k => fireLoop k n ws ord d i lie) (fireP n ws ord d i lie) := by
  intro d
  induction d with
  | zero => intro i lie hl; exact Ev.some_ rfl
  | succ d ih =>
    intro i lie hl
    unfold fireLoop fireP
    refine Ev.next (iCan_ev n ws lie (rd ord i) hn.2 hw hl) ?_
    cases canB n ws lie (rd ord i) with
    | false => exact Ev.neg (by decide) (Ev.some_ rfl)
    | true => exact Ev.pos rfl (ih (i + 1) _ (by rw [nfGo_len]; exact hl))
theorem sFireOf_ev (n : Int) (ws : List S80) (ord : List Int) : Ev (fun k => spec_Fire.f k n ws ord) (fireOf n ws ord) := by
  unfold spec_Fire.f fireOf
  refine Ev.next (sWires_ev n ws) ?_
  by_cases h : wiresOf n ws = true
  · obtain ⟨hn, hw⟩ := wires_parts h
    refine Ev.pos h (Ev.succ ?_)
    simp only [spec_Fire.j0]
    by_cases ho : ord.length ≤ 2000
    · rw [if_pos ⟨h, ho⟩]
      refine Ev.neg (by simp; omega) (Ev.next (sHave_ev ws hw) (sFireLoop n ws ord hn hw ho ord.length 0 _ (by omega) (by simp)))
    · rw [if_neg (fun hh => ho hh.2)]
      exact Ev.pos (by simp; omega) (Ev.some_ rfl)
  · refine Ev.neg h (Ev.succ ?_)
    simp only [spec_Fire.j0]
    rw [if_neg (fun hh => h hh.1)]
    exact Ev.pos (by trivial) (Ev.some_ rfl)
theorem iFireOf_ev (n : Int) (ws : List S80) (ord : List Int) : Ev (fun k => impl_Fire.f k n ws ord) (fireOf n ws ord) := by
  unfold impl_Fire.f fireOf
  refine Ev.next (iWires_ev n ws) ?_
  by_cases h : wiresOf n ws = true
  · obtain ⟨hn, hw⟩ := wires_parts h
    refine Ev.pos h ?_
    by_cases ho : ord.length ≤ 2000
    · rw [if_pos ⟨h, ho⟩]
      exact Ev.pos ho (Ev.pos (by omega) (iFireLoop n ws ord hn hw ord.length 0 _ (by simp)))
    · rw [if_neg (fun hh => ho hh.2)]
      exact Ev.neg ho (Ev.some_ rfl)
  · rw [if_neg (fun hh => h hh.1)]
    exact Ev.neg h (Ev.some_ rfl)
theorem set_same (l : List Int) (i : Nat) : l.set i (rd l (i : Int)) = l := by
  by_cases h : i < l.length
  · rw [rd_get l i h]; exact List.set_getElem_self h
  · exact List.set_eq_of_length_le (by omega)
theorem rmMax_len (lie : List Int) : ∀ (d : Nat) (i : Int) (out : List Int), (roomMax lie d i out).length = out.length
  | 0, _, _ => rfl
  | d + 1, i, out => by unfold roomMax; rw [rmMax_len lie d]; simp
theorem rmLoop_len (ws : List S80) (ord : List Int) : ∀ (d : Nat) (i : Int) (lie out : List Int), (roomLoop ws ord d i lie out).length = out.length
  | 0, _, _, _ => rfl
  | d + 1, i, lie, out => by unfold roomLoop; rw [rmLoop_len ws ord d, rmMax_len]
def roomOf (n : Int) (ws : List S80) (ord : List Int) : List Int × Bool := if (fireOf n ws ord).2 = -1 then (roomLoop ws ord ord.length 0 (ws.map (·.f4)) (ws.map (·.f4)), true) else ([], false)
theorem fire_yes {n : Int} {ws : List S80} {ord : List Int} (h : (fireOf n ws ord).2 = -1) : ws.length ≤ 40 ∧ ord.length ≤ 2000 := by
  unfold fireOf at h
  split at h
  · rename_i hh
    exact ⟨(wires_parts hh.1).2, hh.2⟩
  · cases h
theorem roomOf_len (n : Int) (ws : List S80) (ord : List Int) : (roomOf n ws ord).1.length ≤ 40 := by
  unfold roomOf
  split
  · rename_i h
    rw [rmLoop_len, List.length_map]
    exact (fire_yes h).1
  · simp
theorem sRoom_l1 (ws : List S80) (ord lie : List Int) (oi : Int) (r : List Int × Bool) (hl : lie.length ≤ 40) : ∀ (d i : Nat) (out : List Int), i + d = lie.length → out.length = lie.length → Ev (fun k => spec_Room.l0 k ws ord lie (roomMax lie d (i : Int) out) (wrap64 (oi + 1))) r → Ev (fun k => spec_Room.l1 k ws ord lie out oi (i : Int)) r := by
  intro d
  induction d with
  | zero =>
    intro i out hi ho h
    refine Ev.succ ?_
    simp only [spec_Room.l1]
    exact Ev.neg (by omega) h
  | succ d ih =>
    intro i out hi ho h
    refine Ev.succ ?_
    simp only [spec_Room.l1]
    rw [wadd1 (e := i) (by omega)]
    have nx := ih (i + 1) (out.set i (mx (rd out (i : Int)) (rd lie (i : Int)))) (by omega) (by simpa using ho) (by
      rw [show ((i + 1 : Nat) : Int) = (i : Int) + 1 by omega]
      exact h)
    refine Ev.pos (by omega) (Ev.pos (by omega) (Ev.pos (by omega) (Ev.both (fun c => ?_) (fun c => ?_))))
    · rw [show mx (rd out (i : Int)) (rd lie (i : Int)) = rd lie (i : Int) by unfold mx; omega] at nx
      rw [Int.toNat_natCast]
      exact nx
    · rw [show mx (rd out (i : Int)) (rd lie (i : Int)) = rd out (i : Int) by unfold mx; omega, set_same] at nx
      exact nx
theorem sRoom_l0 (ws : List S80) (ord : List Int) (hw : ws.length ≤ 40) (ho : ord.length ≤ 2000) : ∀ (d i : Nat) (lie out : List Int), i + d = ord.length → lie.length = ws.length → out.length = ws.length → Ev (fun k => spec_Room.l0 k ws ord lie out (i : Int)) (roomLoop ws ord d (i : Int) lie out, true) := by
  intro d
  induction d with
  | zero =>
    intro i lie out hi hl h2
    refine Ev.succ ?_
    simp only [spec_Room.l0]
    exact Ev.neg (by omega) (Ev.some_ rfl)
  | succ d ih =>
    intro i lie out hi hl h2
    have hl2 : (frGo ws (rd ord (i : Int)) ws.length 0 lie).length = ws.length := by rw [nfGo_len]; exact hl
    have nx := ih (i + 1) (frGo ws (rd ord (i : Int)) ws.length 0 lie) (roomMax (frGo ws (rd ord (i : Int)) ws.length 0 lie) ws.length 0 out) (by omega) hl2 (by rw [rmMax_len]; exact h2)
    refine Ev.succ ?_
    simp only [spec_Room.l0]
    refine Ev.pos (by omega) (Ev.pos (by omega) (Ev.next (sFire_ev ws _ lie hw hl) ?_))
    refine sRoom_l1 ws ord _ (i : Int) _ (by omega) ws.length 0 out (by omega) (by omega) ?_
    rw [wadd1 (e := i) (by omega)]
    rw [show ((i + 1 : Nat) : Int) = (i : Int) + 1 by omega] at nx ⊢
    exact nx
theorem sRoomOf_ev (n : Int) (ws : List S80) (ord : List Int) : Ev (fun k => spec_Room.f k n ws ord) (roomOf n ws ord) := by
  unfold spec_Room.f roomOf
  refine Ev.next (sFireOf_ev n ws ord) ?_
  by_cases h : (fireOf n ws ord).2 = -1
  · rw [if_pos h]
    obtain ⟨hw, ho⟩ := fire_yes h
    exact Ev.pos h (Ev.next (sHave_ev ws hw) (Ev.next (sHave_ev ws hw) (sRoom_l0 ws ord hw ho ord.length 0 _ _ (by omega) (by simp) (by simp))))
  · rw [if_neg h]
    exact Ev.neg h (Ev.some_ rfl)
theorem iRoomOf_ev (n : Int) (ws : List S80) (ord : List Int) : Ev (fun k => impl_Room.f k n ws ord) (roomOf n ws ord) := by
  unfold impl_Room.f roomOf
  refine Ev.next (iFireOf_ev n ws ord) ?_
  by_cases h : (fireOf n ws ord).2 = -1
  · obtain ⟨hw, ho⟩ := fire_yes h
    exact (Ev.pos h (Ev.pos ⟨by omega, by omega⟩ (Ev.some_ rfl))).to (if_pos h).symm
  · exact (Ev.neg h (Ev.some_ rfl)).to (if_neg h).symm
theorem FnExactRoom (a0 : Int) (l1 : List S82) (l2 : List Int) (w0 : (Lit.int .i64 a0).wf = true) (m1 : l1.length ≤ maxLen) (w1 : ∀ x ∈ l1, ((Lit.int .i64 x.f0).wf = true) ∧ ((Lit.int .i64 x.f1).wf = true) ∧ ((Lit.int .i64 x.f2).wf = true) ∧ ((Lit.int .i64 x.f3).wf = true) ∧ ((Lit.int .i64 x.f4).wf = true)) (m2 : l2.length ≤ maxLen) (w2 : ∀ x ∈ l2, (Lit.int .i64 x).wf = true) : ∃ k, laws_FnExactRoom.f k a0 l1 l2 = some true := by
  refine Ev.rounds ?_
  have hm : l1.length ≤ 9223372036854775807 := by unfold maxLen at m1; omega
  unfold laws_FnExactRoom.f laws_szWireS.f
  by_cases hl2 : (l2.length : Int) > 1048576
  · exact Ev.pos hl2 (Ev.some_ rfl)
  refine Ev.neg hl2 ?_
  rw [w64 (n := 1048576 - (l1.length : Int)) (by omega) (by omega)]
  by_cases hl : (1048576 : Int) - (l1.length : Int) < 0
  · rw [if_pos hl]
    exact Ev.next (Ev.some_ rfl) (Ev.pos (by decide) (Ev.some_ rfl))
  · rw [if_neg hl]
    have ti := toWireS_ev l1 (by omega)
    have tz := toIntS_ev l2 (by omega)
    have si := sRoomOf_ev a0 (l1.map conv) l2
    have ii := iRoomOf_ev a0 (l1.map conv) l2
    have hg := roomOf_len a0 (l1.map conv) l2
    have n1 : (l1.map conv).length ≤ 1048576 := by rw [List.length_map]; omega
    generalize roomOf a0 (l1.map conv) l2 = q at si ii hg
    have ee := eqIntS_ev q.1 q.1 (by omega)
    refine Ev.next (Ev.some_ rfl) (Ev.neg hl (Ev.next ti (Ev.next tz (Ev.next si (Ev.next ti (Ev.next tz (Ev.next ii (Ev.next ee (Ev.pos (by simp) ?_)))))))))
    refine Ev.succ ?_
    simp only [laws_FnExactRoom.j0]
    refine Ev.neg (by simp) (Ev.next ti (Ev.next (eqWireS_ev _ n1) (Ev.pos rfl (Ev.next tz (Ev.next (eqIntS_ev l2 l2 (by omega)) (Ev.pos (by simp) (Ev.next (markW_ev _ 1 n1 (by omega) (by omega)) (Ev.next (markIntS_ev l2 _ (by omega) (by simp only; omega) (by simp only; omega)) (Ev.neg (by simp only; omega) (Ev.next ee (Ev.pos (by simp) ?_)))))))))))
    refine Ev.succ ?_
    simp only [laws_FnExactRoom.j1]
    have hh := heldIntS_ev q.1.length 1 (by omega) (by omega) (by omega)
    refine Ev.neg (by simp) (Ev.next (markIntS_ev q.1 1 (by omega) (by omega) (by omega)) (Ev.next hh (Ev.neg (by omega) (Ev.pos rfl (Ev.next ti (Ev.next tz (Ev.next ii (Ev.next ee (Ev.pos (by simp) ?_)))))))))
    refine Ev.succ ?_
    simp only [laws_FnExactRoom.j2]
    exact Ev.neg (by simp) (Ev.next hh (Ev.neg (by omega) (Ev.pos rfl (Ev.some_ rfl))))
end Go.Proofs.Ytckadpomhdjkhaa.Pure
