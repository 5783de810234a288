import Derived.Test.YtbhjgkbikmjaaaaPFnExactWiresOkx3
import Derived.Test.YtbhjgkbikmjaaaaAid
set_option linter.unusedVariables false
set_option linter.unusedSimpArgs false
namespace Go.Proofs.Ytbhjgkbikmjaaaa.Pure
open Go Go.RowKit Go.Proofs.Ytbhjgkbikmjaaaa.PFnExactWiresOk Go.Proofs.YtbhjgkbikmjaaaaW.PrintWords Go.Proofs.YtbhjgkbikmjaaaaW.PrintLast Go.Proofs.YtbhjgkbikmjaaaaW.PrintMore
theorem wadd1 {e : Nat} (h : e ≤ 9000000000000000000) : wrap64 ((e : Int) + 1) = ((e + 1 : Nat) : Int) := by rw [w64 (by omega) (by omega)]; omega
theorem wadd2 {e : Nat} (h : e ≤ 9000000000000000000) : wrap64 ((e : Int) + 2) = ((e + 2 : Nat) : Int) := by rw [w64 (by omega) (by omega)]; omega
theorem wadd3 {e : Nat} (h : e ≤ 9000000000000000000) : wrap64 ((e : Int) + 3) = ((e + 3 : Nat) : Int) := by rw [w64 (by omega) (by omega)]; omega
theorem wround8 {e u : Nat} (h : e ≤ 1000000000000000000) (h2 : u ≤ 1000000000000000000) : wrap64 ((e : Int) + wrap64 (Int.tdiv (wrap64 ((u : Int) + 7)) 8)) = ((e + (u + 7) / 8 : Nat) : Int) := by
  rw [w64 (n := (u : Int) + 7) (by omega) (by omega), Int.tdiv_eq_ediv_of_nonneg (by omega), w64 (n := ((u : Int) + 7) / 8) (by omega) (by omega), w64 (by omega) (by omega)]; omega
theorem l1In_eq (a b c : Int) : spec_l1In.f a b c = some (decide (b ≤ a) && decide (a ≤ c)) := by
  unfold spec_l1In.f
  by_cases h : a ≥ b
  · rw [if_pos h]; simp [show b ≤ a from h]
  · rw [if_neg h]; simp [show ¬ b ≤ a from h]
theorem lit1In_eq (x lo hi : Int) : impl_WiresOk_1.f x lo hi = some (decide (lo ≤ x) && decide (x ≤ hi)) := by
  unfold impl_WiresOk_1.f
  by_cases h : x ≥ lo
  · rw [if_pos h]; simp; omega
  · rw [if_neg h]; simp; omega
def conv (x : S61) : S59 := ⟨x.f0, x.f1, x.f2, x.f3, x.f4⟩
theorem drop59 {xs : List S59} {i : Nat} (h : i < xs.length) : xs.drop i = rd_T59 xs (i : Int) :: xs.drop (i + 1) := by
  rw [show rd_T59 xs (i : Int) = xs[i] by simp [rd_T59, List.getD_eq_getElem?_getD, h]]; exact List.drop_eq_getElem_cons h
theorem take61 {xs : List S61} {i : Nat} (h : i < xs.length) : xs.take (i + 1) = xs.take i ++ [rd_T61 xs (i : Int)] := by
  rw [show rd_T61 xs (i : Int) = xs[i] by simp [rd_T61, List.getD_eq_getElem?_getD, h]]; exact (List.take_append_getElem h).symm
theorem toWireS_l0 (l : List S61) (hl : l.length ≤ 1048576) : ∀ (d i : Nat) (acc : List S59), i + d = l.length → acc.length = l.length → acc.take i = (l.take i).map conv → Ev (fun k => laws_toWireS.l0 k l acc (i : Int)) (l.map conv) := by
  intro d
  induction d with
  | zero =>
    intro i acc hi ha ht
    refine Ev.succ ?_
    simp only [laws_toWireS.l0]
    refine Ev.neg (by omega) (Ev.some_ ?_)
    rw [List.take_of_length_le (by omega), List.take_of_length_le (by omega)] at ht
    exact ht
  | succ d ih =>
    intro i acc hi ha ht
    refine Ev.succ ?_
    simp only [laws_toWireS.l0, laws_toWire.f, Option.bind_some]
    rw [wadd1 (e := i) (by omega), Int.toNat_natCast]
    refine Ev.pos (by omega) (Ev.pos (by omega) (Ev.pos (by omega) (ih (i + 1) _ (by omega) (by simpa using ha) ?_)))
    rw [take_set_end (by omega), take61 (by omega), List.map_append, ht]
    rfl
theorem toWireS_ev (l : List S61) (hl : l.length ≤ 1048576) : Ev (fun k => laws_toWireS.f k l) (l.map conv) := by
  unfold laws_toWireS.f
  refine Ev.pos (by omega) (Ev.pos (by rw [Int.toNat_natCast]; omega) ?_)
  rw [Int.toNat_natCast]
  exact toWireS_l0 l hl l.length 0 _ (by omega) (by simp) (by simp)
def wireB (n : Int) (x : S59) : Bool := (decide (0 ≤ x.f0) && decide (x.f0 ≤ n - 1)) && ((decide (0 ≤ x.f1) && decide (x.f1 ≤ n - 1)) && ((decide (1 ≤ x.f2) && decide (x.f2 ≤ 64)) && ((decide (1 ≤ x.f3) && decide (x.f3 ≤ 64)) && (decide (0 ≤ x.f4) && decide (x.f4 ≤ 1000)))))
def wiresOf (n : Int) (l : List S59) : Bool := decide ((1 ≤ n ∧ n ≤ 20) ∧ (l.length : Int) ≤ 40) && l.all (wireB n)
theorem chain5 {f : Nat → Option Bool} {b1 b2 b3 b4 b5 r : Bool} (h : Ev f r) : Ev (fun k => if b1 = true then (if b2 = true then (if b3 = true then (if b4 = true then (if b5 = true then f k else some false) else some false) else some false) else some false) else some false) (b1 && (b2 && (b3 && (b4 && b5))) && r) := by
  cases b1 with
  | false => exact Ev.some_ rfl
  | true => cases b2 with
    | false => exact Ev.some_ rfl
    | true => cases b3 with
      | false => exact Ev.some_ rfl
      | true => cases b4 with
        | false => exact Ev.some_ rfl
        | true => cases b5 with
          | false => exact Ev.some_ rfl
          | true => exact h.to (by cases r <;> rfl)
theorem sWires_l0 (n : Int) (hn : 1 ≤ n ∧ n ≤ 20) (l : List S59) (hl : l.length ≤ 40) : ∀ (d i : Nat), i + d = l.length → Ev (fun k => spec_WiresOk.l0 k n l (i : Int)) ((l.drop i).all (wireB n)) := by
  intro d
  induction d with
  | zero =>
    intro i hi
    refine Ev.succ ?_
    simp only [spec_WiresOk.l0]
    rw [List.drop_of_length_le (by omega)]
    exact Ev.neg (by omega) (Ev.some_ rfl)
  | succ d ih =>
    intro i hi
    refine Ev.succ ?_
    simp only [spec_WiresOk.l0, l1In_eq, Option.bind_some]
    rw [wadd1 (e := i) (by omega), w64 (n := n - 1) (by omega) (by omega), drop59 (by omega), List.all_cons]
    exact Ev.pos (by omega) (Ev.pos (by omega) (chain5 (ih (i + 1) (by omega))))
theorem iWires_l0 (n : Int) (hn : 1 ≤ n ∧ n ≤ 20) (l : List S59) (hl : l.length ≤ 40) : ∀ (d i : Nat), i + d = l.length → Ev (fun k => impl_WiresOk.l0 k n l (l.length : Int) (i : Int)) ((l.drop i).all (wireB n)) := by
  intro d
  induction d with
  | zero =>
    intro i hi
    refine Ev.succ ?_
    simp only [impl_WiresOk.l0]
    rw [List.drop_of_length_le (by omega)]
    exact Ev.neg (by omega) (Ev.some_ rfl)
  | succ d ih =>
    intro i hi
    refine Ev.succ ?_
    simp only [impl_WiresOk.l0, lit1In_eq, Option.bind_some]
    rw [wadd1 (e := i) (by omega), w64 (n := n - 1) (by omega) (by omega), drop59 (by omega), List.all_cons]
    exact Ev.pos (by omega) (Ev.pos (by omega) (Ev.pos (by omega) (chain5 (ih (i + 1) (by omega)))))
theorem sWires_ev (n : Int) (l : List S59) : Ev (fun k => spec_WiresOk.f k n l) (wiresOf n l) := by
  have ft : ∀ b : Bool, b = true → Ev (fun k => spec_WiresOk.j0 k n l b) false := by
    intro b hb
    refine Ev.succ ?_
    simp only [spec_WiresOk.j0]
    exact Ev.pos hb (Ev.some_ rfl)
  unfold spec_WiresOk.f wiresOf
  rw [l1In_eq]
  simp only [Option.bind_some]
  by_cases h1 : 1 ≤ n ∧ n ≤ 20
  · refine Ev.pos (by simp; omega) ?_
    by_cases h2 : (l.length : Int) ≤ 40
    · rw [show decide ((1 ≤ n ∧ n ≤ 20) ∧ (l.length : Int) ≤ 40) = true from decide_eq_true ⟨h1, h2⟩, show decide ((l.length : Int) > 40) = false from decide_eq_false (by omega), Bool.true_and]
      refine Ev.succ ?_
      simp only [spec_WiresOk.j0]
      exact Ev.neg (by decide) (sWires_l0 n h1 l (by omega) l.length 0 (by omega))
    · rw [show decide ((1 ≤ n ∧ n ≤ 20) ∧ (l.length : Int) ≤ 40) = false from decide_eq_false (fun h => h2 h.2), Bool.false_and]
      exact ft _ (by simp; omega)
  · rw [show decide ((1 ≤ n ∧ n ≤ 20) ∧ (l.length : Int) ≤ 40) = false from decide_eq_false (fun h => h1 h.1), Bool.false_and]
    exact Ev.neg (by simp; omega) (ft _ rfl)
theorem iWires_ev (n : Int) (l : List S59) : Ev (fun k => impl_WiresOk.f k n l) (wiresOf n l) := by
  have ft : ∀ b : Bool, b = true → Ev (fun k => impl_WiresOk.j0 k n l b) false := by
    intro b hb
    refine Ev.succ ?_
    simp only [impl_WiresOk.j0]
    exact Ev.pos hb (Ev.some_ rfl)
  unfold impl_WiresOk.f wiresOf
  by_cases h1 : 1 ≤ n ∧ n ≤ 20
  · refine Ev.neg (by omega) (Ev.neg (by omega) ?_)
    by_cases h2 : (l.length : Int) ≤ 40
    · rw [show decide ((1 ≤ n ∧ n ≤ 20) ∧ (l.length : Int) ≤ 40) = true from decide_eq_true ⟨h1, h2⟩, show decide ((l.length : Int) > 40) = false from decide_eq_false (by omega), Bool.true_and]
      refine Ev.succ ?_
      simp only [impl_WiresOk.j0]
      exact Ev.neg (by decide) (iWires_l0 n h1 l (by omega) l.length 0 (by omega))
    · rw [show decide ((1 ≤ n ∧ n ≤ 20) ∧ (l.length : Int) ≤ 40) = false from decide_eq_false (fun h => h2 h.2), Bool.false_and]
      exact ft _ (by simp; omega)
  · rw [show decide ((1 ≤ n ∧ n ≤ 20) ∧ (l.length : Int) ≤ 40) = false from decide_eq_false (fun h => h1 h.1), Bool.false_and]
    exact Ev.both (fun _ => ft _ rfl) (fun _ => Ev.both (fun _ => ft _ rfl) (fun _ => ft _ (by omega)))
theorem eqWireS_l0 (l : List S59) (hl : l.length ≤ 1048576) : ∀ (d i : Nat), i + d = l.length → Ev (fun k => laws_eqWireS.l0 k l l (i : Int)) true := by
  intro d
  induction d with
  | zero =>
    intro i hi
    refine Ev.succ ?_
    simp only [laws_eqWireS.l0]
    exact Ev.neg (by omega) (Ev.some_ rfl)
  | succ d ih =>
    intro i hi
    refine Ev.succ ?_
    simp only [laws_eqWireS.l0]
    rw [wadd1 (e := i) (by omega)]
    refine Ev.pos (by omega) (Ev.pos (by omega) (Ev.pos (by omega) (Ev.next (Ev.here (r := true) ?_) (Ev.pos rfl (ih (i + 1) (by omega))))))
    unfold laws_eqWire.f
    simp
theorem FnExactWiresOk (a0 : Int) (l1 : List S61) (w0 : (Lit.int .i64 a0).wf = true) (m1 : l1.length ≤ maxLen) (w1 : ∀ x ∈ l1, ((Lit.int .i64 x.f0).wf = true) ∧ ((Lit.int .i64 x.f1).wf = true) ∧ ((Lit.int .i64 x.f2).wf = true) ∧ ((Lit.int .i64 x.f3).wf = true) ∧ ((Lit.int .i64 x.f4).wf = true)) : ∃ k, laws_FnExactWiresOk.f k a0 l1 = some true := by
  refine Ev.rounds ?_
  have hm : l1.length ≤ 9223372036854775807 := by unfold maxLen at m1; omega
  unfold laws_FnExactWiresOk.f laws_szWireS.f
  rw [w64 (n := 1048576 - (l1.length : Int)) (by omega) (by omega)]
  by_cases hl : (1048576 : Int) - (l1.length : Int) < 0
  · rw [if_pos hl]
    exact Ev.next (Ev.some_ rfl) (Ev.pos (by decide) (Ev.some_ rfl))
  · rw [if_neg hl]
    have ti := toWireS_ev l1 (by omega)
    refine Ev.next (Ev.some_ rfl) (Ev.neg hl (Ev.next ti (Ev.next (sWires_ev a0 _) (Ev.next ti (Ev.next (iWires_ev a0 _) (Ev.neg (by simp) (Ev.next ti (Ev.next (a := true) ?_ (Ev.pos rfl (Ev.some_ rfl))))))))))
    unfold laws_eqWireS.f
    exact Ev.pos rfl (eqWireS_l0 (l1.map conv) (by rw [List.length_map]; omega) _ 0 (Nat.zero_add _))
end Go.Proofs.Ytbhjgkbikmjaaaa.Pure
