-- Written by a turned copy of the print (see the notes of this repo): plain functions and their walks. Lean checks it.
import Derived.Test.YtpphjbogijjnpaaPFnBasisx0
import Derived.Test.YtpphjbogijjnpaaPFnBasisx1
import Derived.Test.YtpphjbogijjnpaaPFnBasisx5
namespace Go.Proofs.Ytpphjbogijjnpaa.PFnBasis
open Go.RowKit Go.Proofs.YtpphjbogijjnpaaW.PrintWords Go.Proofs.YtpphjbogijjnpaaW.PrintLast Go.Proofs.YtpphjbogijjnpaaW.PrintMore
attribute [local go_sem] max2_int min2_int max_two min_two max_three min_three max_four min_four   -- for this text's walks alone
set_option linter.unusedVariables false
set_option linter.unusedSimpArgs false

/-! ### impl_Basis: function 28 -/
def ibRow (n : Nat) (c : List Int) : List Int := c.foldl (fun r x => r.set x.toNat 1) (List.replicate n 0)
def ibFind (rows : List (List Int)) (col : Int) : Nat → Nat → Nat
  | 0, p => p
  | d + 1, p => if rd (rows.getD p []) col = 0 then ibFind rows col d (p + 1) else p
def ibXor (b : List Int) : Nat → Nat → List Int → List Int
  | 0, _, a => a
  | d + 1, k, a => ibXor b d (k + 1) (a.set k (Go.bits .xor .i64 (rd a k) (rd b k)))
def ibClear (n : Nat) (col : Int) (at_ : Nat) : Nat → Nat → List (List Int) → List (List Int)
  | 0, _, rows => rows
  | d + 1, i, rows => ibClear n col at_ d (i + 1) (if i ≠ at_ ∧ rd (rows.getD i []) col ≠ 0 then rows.set i (ibXor (rows.getD at_ []) n 0 (rows.getD i [])) else rows)
def ibSwap (rows : List (List Int)) (p q : Nat) : List (List Int) := (rows.set p (rows.getD q [])).set q (rows.getD p [])
def ibElim (n : Nat) : Nat → Nat → List (List Int) → List Int → List (List Int) × List Int
  | 0, _, rows, lead => (rows, lead)
  | d + 1, col, rows, lead =>
    if ibFind rows col (rows.length - lead.length) lead.length = rows.length then ibElim n d (col + 1) rows lead
    else ibElim n d (col + 1) (ibClear n col lead.length rows.length 0 (ibSwap rows lead.length (ibFind rows col (rows.length - lead.length) lead.length))) (lead ++ [(col : Int)])
def ibWord (rows : List (List Int)) (lead : List Int) (col : Int) : Nat → Nat → List Int → List Int
  | 0, _, w => w
  | d + 1, i, w => ibWord rows lead col d (i + 1) (w.set (rd lead i).toNat (rd (rows.getD i []) col))
def ibOut (k : Nat) (n : Nat) (rows : List (List Int)) (lead : List Int) : Nat → Nat → Option (List (List Int))
  | 0, _ => some []
  | d + 1, col => (slices_Contains_int_int.f k lead (col : Int)).bind fun b => (ibOut k n rows lead d (col + 1)).bind fun t => some (if b = true then t else ibWord rows lead col lead.length 0 ((List.replicate n 0).set col 1) :: t)
def ibIn (l : List (List Int)) (n : Int) : Prop := (1 ≤ n ∧ n ≤ 128) ∧ l.length ≤ 64 ∧ ∀ c ∈ l, c.length ≤ 16 ∧ ∀ x ∈ c, 0 ≤ x ∧ x < n
instance ibInDec (l : List (List Int)) (n : Int) : Decidable (ibIn l n) := by unfold ibIn; infer_instance
def ibBasis (k : Nat) (l : List (List Int)) (n : Nat) : Option (List (List Int)) := ibOut k n (ibElim n n 0 (l.map (ibRow n)) []).1 (ibElim n n 0 (l.map (ibRow n)) []).2 n 0
def impl_Basis.f (k : Nat) (l0 : List (List Int)) (a1 : Int) : Option (List (List Int) × Bool) := (impl_ChecksOk.f k l0 a1).bind fun t => if t = true then (if ibIn l0 a1 then (ibBasis k l0 a1.toNat).bind fun r => some (r, true) else none) else some ([], false)
theorem ibOut_mono (n : Nat) (rows : List (List Int)) (lead : List Int) : ∀ (d col k : Nat), LeO (ibOut k n rows lead d col) (ibOut (k + 1) n rows lead d col)
  | 0, _, _ => LeO.refl _
  | d + 1, col, k => LeO.bind (slices_Contains_int_int.mono _ _ _) (fun _ => LeO.bind (ibOut_mono n rows lead d (col + 1) k) (fun _ => LeO.refl _))
theorem impl_Basis.mono : ∀ a0 a1 k, LeO (impl_Basis.f k a0 a1) (impl_Basis.f (k + 1) a0 a1) := by
  intro a0 a1 k
  unfold impl_Basis.f
  exact LeO.bind (impl_ChecksOk.mono _ _ _) (fun _ => LeO.ite (LeO.ite (LeO.bind (ibOut_mono _ _ _ _ _ _) (fun _ => LeO.refl _)) (LeO.refl _)) (LeO.refl _))
theorem ibRd {c : List Int} {j : Int} (h0 : 0 ≤ j) (h1 : j < (c.length : Int)) : rd c j ∈ c := by
  have h : j.toNat < c.length := by omega
  rw [show rd c j = c[j.toNat] by simp [rd, List.getD_eq_getElem?_getD, h]]; exact List.getElem_mem h
theorem ibRdL {l : List (List Int)} {j : Int} (h0 : 0 ≤ j) (h1 : j < (l.length : Int)) : rd_L1 l j ∈ l := by
  have h : j.toNat < l.length := by omega
  rw [show rd_L1 l j = l[j.toNat] by simp [rd_L1, List.getD_eq_getElem?_getD, h]]; exact List.getElem_mem h
theorem ibTake {c : List Int} {j : Int} (h0 : 0 ≤ j) (h1 : j < (c.length : Int)) : c.take (j + 1).toNat = c.take j.toNat ++ [rd c j] := by
  have h : j.toNat < c.length := by omega
  rw [show (j + 1).toNat = j.toNat + 1 by omega, show rd c j = c[j.toNat] by simp [rd, List.getD_eq_getElem?_getD, h]]; exact (List.take_append_getElem h).symm
theorem ibTakeL {l : List (List Int)} {j : Int} (h0 : 0 ≤ j) (h1 : j < (l.length : Int)) : l.take (j + 1).toNat = l.take j.toNat ++ [rd_L1 l j] := by
  have h : j.toNat < l.length := by omega
  rw [show (j + 1).toNat = j.toNat + 1 by omega, show rd_L1 l j = l[j.toNat] by simp [rd_L1, List.getD_eq_getElem?_getD, h]]; exact (List.take_append_getElem h).symm
theorem ibFoldLen (c : List Int) : ∀ (r : List Int), (c.foldl (fun r x => r.set x.toNat 1) r).length = r.length := by
  induction c with
  | nil => intro r; rfl
  | cons x c ih => intro r; rw [List.foldl_cons, ih, List.length_set]
theorem ibRowLen (n : Nat) (c : List Int) : (ibRow n c).length = n := by rw [ibRow, ibFoldLen, List.length_replicate]
theorem ibW {i : Int} (h0 : 0 ≤ i) (h1 : i ≤ 1000000) : wrap64 (i + 1) = i + 1 := by unfold wrap64; omega
theorem ibElim_step {N : Nat} {col : Int} (h0 : 0 ≤ col) (h1 : col < (N : Int)) (rows : List (List Int)) (lead : List Int) : ibElim N (N - col.toNat) col.toNat rows lead =
    if ibFind rows col (rows.length - lead.length) lead.length = rows.length then ibElim N (N - (col + 1).toNat) (col + 1).toNat rows lead
    else ibElim N (N - (col + 1).toNat) (col + 1).toNat (ibClear N col lead.length rows.length 0 (ibSwap rows lead.length (ibFind rows col (rows.length - lead.length) lead.length))) (lead ++ [col]) := by
  obtain ⟨c, rfl⟩ := Int.eq_ofNat_of_zero_le h0
  obtain ⟨d, hd⟩ : ∃ d, N - c = d + 1 := ⟨N - c - 1, by omega⟩
  rw [show ((c : Int)).toNat = c from rfl, show ((c : Int) + 1).toNat = c + 1 by omega, hd, show N - (c + 1) = d by omega]
  rfl
theorem ibSwapLen (rows : List (List Int)) (p q : Nat) : (ibSwap rows p q).length = rows.length := by simp [ibSwap]
theorem ibGetRow {rows : List (List Int)} {N p : Nat} (h : ∀ r ∈ rows, r.length = N) (hp : p < rows.length) : (rows.getD p []).length = N := by
  rw [List.getD_eq_getElem?_getD, List.getElem?_eq_getElem hp]; exact h _ (List.getElem_mem hp)
theorem ibSetRow {rows : List (List Int)} {N : Nat} (h : ∀ r ∈ rows, r.length = N) (i : Nat) {x : List Int} (hx : x.length = N) : ∀ r ∈ rows.set i x, r.length = N := fun r hr => by
  rcases List.mem_or_eq_of_mem_set hr with h1 | h1
  · exact h r h1
  · rw [h1]; exact hx
theorem ibSwapRow {rows : List (List Int)} {N p q : Nat} (h : ∀ r ∈ rows, r.length = N) (hp : p < rows.length) (hq : q < rows.length) : ∀ r ∈ ibSwap rows p q, r.length = N :=
  ibSetRow (ibSetRow h p (ibGetRow h hq)) q (ibGetRow h hp)
theorem ibSetSelf {rows : List (List Int)} {i : Int} (h0 : 0 ≤ i) (h1 : i < (rows.length : Int)) (x : List Int) : rd_L1 (rows.set i.toNat x) i = x := by
  have h : i.toNat < rows.length := by omega
  simp [rd_L1, List.getD_eq_getElem?_getD, h]
theorem ibSetOther {rows : List (List Int)} {i j : Int} (h0 : 0 ≤ i) (hj : 0 ≤ j) (h : j ≠ i) (x : List Int) : rd_L1 (rows.set i.toNat x) j = rd_L1 rows j := by
  have h2 : i.toNat ≠ j.toNat := by omega
  simp [rd_L1, List.getD_eq_getElem?_getD, List.getElem?_set_ne h2]
theorem ibSetSet {rows : List (List Int)} {i : Nat} (x y : List Int) : (rows.set i x).set i y = rows.set i y := by simp
theorem ibSetGet {rows : List (List Int)} {i : Int} : rows.set i.toNat (rd_L1 rows i) = rows := by
  unfold rd_L1
  by_cases h : i.toNat < rows.length
  · apply List.ext_getElem?
    intro q
    rw [List.getElem?_set]
    split
    · rename_i hq; subst hq; rw [List.getD_eq_getElem?_getD, List.getElem?_eq_getElem h]; rfl
    · rfl
  · rw [List.set_eq_of_length_le (by omega)]
theorem ibClear_step {N q : Nat} {col i : Int} (rows : List (List Int)) (h0 : 0 ≤ i) (h1 : i < (rows.length : Int)) : ibClear N col q (rows.length - i.toNat) i.toNat rows =
    ibClear N col q (rows.length - (i + 1).toNat) (i + 1).toNat (if i.toNat ≠ q ∧ rd (rd_L1 rows i) col ≠ 0 then rows.set i.toNat (ibXor (rd_L1 rows q) N 0 (rd_L1 rows i)) else rows) := by
  obtain ⟨d, hd⟩ : ∃ d, rows.length - i.toNat = d + 1 := ⟨rows.length - i.toNat - 1, by omega⟩
  rw [hd, show rows.length - (i + 1).toNat = d by omega, show (i + 1).toNat = i.toNat + 1 by omega]
  rfl
theorem ibXor_step {N : Nat} {k : Int} (b a : List Int) (h0 : 0 ≤ k) (h1 : k < (N : Int)) : ibXor b (N - k.toNat) k.toNat a = ibXor b (N - (k + 1).toNat) (k + 1).toNat (a.set k.toNat (Go.bits .xor .i64 (rd a k) (rd b k))) := by
  obtain ⟨d, hd⟩ : ∃ d, N - k.toNat = d + 1 := ⟨N - k.toNat - 1, by omega⟩
  rw [hd, show N - (k + 1).toNat = d by omega, show (k + 1).toNat = k.toNat + 1 by omega]
  show ibXor b d (k.toNat + 1) (a.set k.toNat (Go.bits .xor .i64 (rd a ((k.toNat : Nat) : Int)) (rd b ((k.toNat : Nat) : Int)))) = _
  rw [Int.toNat_of_nonneg h0]
theorem ibXor_len (b : List Int) : ∀ (d k : Nat) (a : List Int), (ibXor b d k a).length = a.length
  | 0, _, _ => rfl
  | d + 1, k, a => by unfold ibXor; rw [ibXor_len b d, List.length_set]
theorem ibOut_step {k N : Nat} {col : Int} (rows : List (List Int)) (lead : List Int) (h0 : 0 ≤ col) (h1 : col < (N : Int)) : ibOut k N rows lead (N - col.toNat) col.toNat =
    (slices_Contains_int_int.f k lead col).bind fun b => (ibOut k N rows lead (N - (col + 1).toNat) (col + 1).toNat).bind fun t => some (if b = true then t else ibWord rows lead col lead.length 0 ((List.replicate N 0).set col.toNat 1) :: t) := by
  obtain ⟨c, rfl⟩ := Int.eq_ofNat_of_zero_le h0
  obtain ⟨d, hd⟩ : ∃ d, N - c = d + 1 := ⟨N - c - 1, by omega⟩
  rw [show ((c : Int)).toNat = c from rfl, show ((c : Int) + 1).toNat = c + 1 by omega, hd, show N - (c + 1) = d by omega]
  rfl
theorem ibWord_step {lead : List Int} {i col : Int} (rows : List (List Int)) (w : List Int) (h0 : 0 ≤ i) (h1 : i < (lead.length : Int)) : ibWord rows lead col (lead.length - i.toNat) i.toNat w =
    ibWord rows lead col (lead.length - (i + 1).toNat) (i + 1).toNat (w.set (rd lead i).toNat (rd (rd_L1 rows i) col)) := by
  obtain ⟨c, rfl⟩ := Int.eq_ofNat_of_zero_le h0
  obtain ⟨d, hd⟩ : ∃ d, lead.length - c = d + 1 := ⟨lead.length - c - 1, by omega⟩
  rw [show ((c : Int)).toNat = c from rfl, show ((c : Int) + 1).toNat = c + 1 by omega, hd, show lead.length - (c + 1) = d by omega]
  rfl
theorem ibAll {lead : List Int} {i col : Int} (h0 : 0 ≤ i) (h1 : i < (lead.length : Int)) : ((lead.take (i + 1).toNat).all fun x => x != col) = (((lead.take i.toNat).all fun x => x != col) && (rd lead i != col)) := by
  rw [ibTake h0 h1, List.all_append]; simp
section
variable {α : Type} {d : Kd α} {e : Nat} {W : World} {base n cap g : Nat} {ok : Nat → Prop}
theorem ibGrown {w w1 w2 : World} {r : Option Nat} (h : w.grownBy w1 r) (h2 : w1.grownBy w2 r) : w.grownBy w2 r := by
  exact ⟨h2.os.trans h.os, h2.tape.trans h.tape, h2.output.trans h.output, Nat.le_trans h.size h2.size, fun k hk hn => (h2.block k (Nat.lt_of_lt_of_le hk h.size) hn).trans (h.block k hk hn)⟩
theorem ibRetag {w : World} {v : Value} (f s : Nat → Nat) {ps : List (α × Nat)} (h : (Kd.tag f d).R e w base ok v ps) : (Kd.tag (fun k => s (f k)) d).R e w base ok v (ps.map fun p => (p.1, s p.2)) := by
  obtain ⟨h0, inner, ho, hr⟩ := h
  refine ⟨h0, inner, by rw [List.length_map]; exact ho, by rw [List.length_map]; exact hr.1, fun j p hj => ?_⟩
  rw [List.getElem?_map] at hj
  obtain ⟨q, hq, rfl⟩ := Option.map_eq_some_iff.1 hj
  exact d.M_mono (fun k hk => ⟨hk.1, show s (f k) = s q.2 by rw [show f k = q.2 from hk.2]⟩) (hr.2 j q hq)
def ibSw (i j k : Nat) : Nat := if k = i then j else if k = j then i else k
/-- Two elements (of one cell each) change places: the cells are stored crosswise. -/
theorem ibS_swap (hs : d.sz = 1) {xs : List α} (h : Kd.S d e W base ok (.slice (some ⟨g, 0, none⟩) n cap) xs) (z : α) (i j : Int) (hi0 : 0 ≤ i) (hi : i < n) (hj0 : 0 ≤ j) (hj : j < n) :
    ∃ vi vj, W.cell? ⟨g, i.toNat, none⟩ = some vi ∧ W.cell? ⟨g, j.toNat, none⟩ = some vj ∧ W.frozen? ⟨g, i.toNat, none⟩ = false ∧ W.frozen? ⟨g, j.toNat, none⟩ = false ∧
      Kd.S d e ((W.setCell ⟨g, i.toNat, none⟩ vj).setCell ⟨g, j.toNat, none⟩ vi) base ok (.slice (some ⟨g, 0, none⟩) n cap) ((xs.set i.toNat (xs.getD j.toNat z)).set j.toNat (xs.getD i.toNat z)) ∧
      W.grownBy ((W.setCell ⟨g, i.toNat, none⟩ vj).setCell ⟨g, j.toNat, none⟩ vi) (some g) := by
  obtain ⟨f, hR⟩ := h
  have hn := (Kd.R_reads' hR).1
  rw [List.length_zipIdx] at hn
  obtain ⟨ci, hci, hMi, hcci, hfi⟩ := Kd.R_elem hR (z, 0) i hi0 hi
  obtain ⟨cj, hcj, hMj, hccj, hfj⟩ := Kd.R_elem hR (z, 0) j hj0 hj
  change ci.length = d.sz at hci
  change cj.length = d.sz at hcj
  rw [hs] at hci hcj
  obtain ⟨vi, rfl⟩ := List.length_eq_one_iff.1 hci
  obtain ⟨vj, rfl⟩ := List.length_eq_one_iff.1 hcj
  have hz : (Kd.tag f d).sz = 1 := hs
  have ai := hcci 0 vi rfl
  have aj := hccj 0 vj rfl
  have bi := hfi 0
  have bj := hfj 0
  rw [hz] at ai aj bi bj
  simp only [Nat.mul_one, Nat.add_zero] at ai aj bi bj
  have hil : i.toNat < xs.length := by omega
  have hjl : j.toNat < xs.length := by omega
  have ei : xs.zipIdx.getD i.toNat (z, 0) = (xs.getD i.toNat z, i.toNat) := by
    rw [List.getD_eq_getElem?_getD, List.getElem?_zipIdx, List.getElem?_eq_getElem hil]; simp [List.getD_eq_getElem?_getD, hil]
  have ej : xs.zipIdx.getD j.toNat (z, 0) = (xs.getD j.toNat z, j.toNat) := by
    rw [List.getD_eq_getElem?_getD, List.getElem?_zipIdx, List.getElem?_eq_getElem hjl]; simp [List.getD_eq_getElem?_getD, hjl]
  rw [ei] at hMi
  rw [ej] at hMj
  have h1 := Kd.R_seg hR i hi0 hi (c := [vi]) (seg := [vj]) (j := 0) (by rw [hz]; rfl) hcci (by rw [hz]; exact Nat.le_refl _) (x' := (xs.getD j.toNat z, j.toNat)) (by simpa using hMj) (fun _ hk => hk)
  rw [hz] at h1
  simp only [Nat.mul_one, Nat.add_zero] at h1
  rw [show W.setCells g i.toNat [vj] = W.setCell ⟨g, i.toNat, none⟩ vj from rfl] at h1
  obtain ⟨hR1, hg1⟩ := h1
  obtain ⟨c2, hc2, hM2, hcc2, hf2⟩ := Kd.R_elem hR1 (z, 0) j hj0 hj
  have hMi1 : (Kd.tag f d).M (W.setCell ⟨g, i.toNat, none⟩ vj) base (fun k => ok k ∧ k ≠ g) (xs.getD i.toNat z, i.toNat) [vi] := Kd.M_grown hMi hg1 (fun k hk he => hk.2 (by injection he))
  have h2 := Kd.R_seg hR1 j hj0 hj (c := c2) (seg := [vi]) (j := 0) hc2 hcc2 (by rw [hz]; exact Nat.le_refl _) (x' := (xs.getD i.toNat z, i.toNat)) (by
    rw [List.take_zero, List.nil_append, List.drop_of_length_le (by rw [hc2, hz]; simp), List.append_nil]; exact hMi1) (fun _ hk => hk)
  rw [hz] at h2
  simp only [Nat.mul_one, Nat.add_zero] at h2
  rw [show (W.setCell ⟨g, i.toNat, none⟩ vj).setCells g j.toNat [vi] = (W.setCell ⟨g, i.toNat, none⟩ vj).setCell ⟨g, j.toNat, none⟩ vi from rfl] at h2
  obtain ⟨hR2, hg2⟩ := h2
  refine ⟨vi, vj, ai, aj, bi, bj, ⟨fun k => ibSw i.toNat j.toNat (f k), ?_⟩, ibGrown hg1 hg2⟩
  have h3 := ibRetag f (ibSw i.toNat j.toNat) hR2
  have e : (((xs.zipIdx.set i.toNat (xs.getD j.toNat z, j.toNat)).set j.toNat (xs.getD i.toNat z, i.toNat)).map fun p => (p.1, ibSw i.toNat j.toNat p.2)) = ((xs.set i.toNat (xs.getD j.toNat z)).set j.toNat (xs.getD i.toNat z)).zipIdx := by
    apply List.ext_getElem?
    intro q
    rw [List.getElem?_map, List.getElem?_zipIdx, Nat.zero_add]
    by_cases hq : q < xs.length
    · rw [List.getElem?_set, List.getElem?_set, List.getElem?_set, List.getElem?_set, List.getElem?_zipIdx]
      simp only [List.length_set, List.length_zipIdx, hil, hjl, if_true, Nat.zero_add]
      by_cases h1 : j.toNat = q
      · subst h1
        simp only [if_true, hjl, Option.map_some]
        unfold ibSw
        simp
      · simp only [h1, if_false]
        by_cases h2 : i.toNat = q
        · subst h2
          simp only [if_true, hil, Option.map_some]
          unfold ibSw
          simp
        · simp only [h2, if_false, List.getElem?_eq_getElem hq, Option.map_some]
          unfold ibSw
          rw [if_neg (by omega), if_neg (by omega)]
    · rw [List.getElem?_eq_none (by simp; omega), List.getElem?_eq_none (by simp; omega)]; rfl
  rw [← e]
  exact h3
end
theorem ibS_put2 {q e g n cap base : Nat} {W : World} {ok : Nat → Prop} {xs : List (List Int)} (h : Kd.S (Kd.slice q (Kd.int .i64)) e W base ok (.slice (some ⟨g, 0, none⟩) n cap) xs) (i k : Int) (hi0 : 0 ≤ i) (hi : i < n) (hk0 : 0 ≤ k) (hk : k < ((xs.getD i.toNat []).length : Int)) (v : Int) :
    ∃ gi ci, W.cell? ⟨g, i.toNat, none⟩ = some (.slice (some ⟨gi, 0, none⟩) (xs.getD i.toNat []).length ci) ∧ W.cell? ⟨gi, k.toNat, none⟩ = some (.int .i64 (rd (xs.getD i.toNat []) k)) ∧ W.frozen? ⟨gi, k.toNat, none⟩ = false ∧ ok gi ∧ gi ≠ g ∧
      Kd.S (Kd.slice q (Kd.int .i64)) e (W.setCell ⟨gi, k.toNat, none⟩ (.int .i64 v)) base ok (.slice (some ⟨g, 0, none⟩) n cap) (xs.set i.toNat ((xs.getD i.toNat []).set k.toNat v)) ∧ W.grownBy (W.setCell ⟨gi, k.toNat, none⟩ (.int .i64 v)) (some gi) := by
  obtain ⟨oki, c, hcl, hM, hcc, hoki, hbk⟩ := Kd.S_borrow h [] i hi0 hi
  obtain ⟨ve, rfl, ge⟩ := hM
  have hv := hcc 0 _ rfl
  rw [show (Kd.slice q (Kd.int .i64)).sz = 1 from rfl, Nat.mul_one, Nat.add_zero] at hv
  obtain ⟨gi, ci, rfl, _, _, _⟩ := Kd.R_form ge (by omega)
  obtain ⟨hx, hf⟩ := Kd.R_celln 0 ge k hk0 hk
  have hp := Kd.R_putg ge k v
  have hog := hoki gi (ge.1 _ rfl)
  refine ⟨gi, ci, ?_, ?_, ?_, hog.1, fun he => hog.2 (by rw [he]; rfl), ?_, hp.2⟩
  · have := hv; rw [add_plain] at this; simpa using this
  · exact hx
  · exact hf
  · exact hbk hp.2 (fun k_ e_ => by injection e_ with e_; subst e_; exact ge.1 _ rfl) ⟨_, rfl, hp.1⟩
theorem ibPut {q e g n cap base m : Nat} {W : World} {xs : List (List Int)} (h : Kd.S (Kd.slice q (Kd.int .i64)) e W base (fun k => k < m) (.slice (some ⟨g, 0, none⟩) n cap) xs) (i k : Int) (hi0 : 0 ≤ i) (hi : i < n) (hk0 : 0 ≤ k) (hk : k < ((rd_L1 xs i).length : Int)) (v : Int) :
    ∃ gi ci, W.cell? ⟨g, i.toNat, none⟩ = some (.slice (some ⟨gi, 0, none⟩) (rd_L1 xs i).length ci) ∧ W.cell? ⟨gi, k.toNat, none⟩ = some (.int .i64 (rd (rd_L1 xs i) k)) ∧ W.frozen? ⟨gi, k.toNat, none⟩ = false ∧ (gi < m ∧ base ≤ gi) ∧ gi ≠ g ∧
      Kd.S (Kd.slice q (Kd.int .i64)) e (W.setCell ⟨gi, k.toNat, none⟩ (.int .i64 v)) base (fun k => k < m) (.slice (some ⟨g, 0, none⟩) n cap) (xs.set i.toNat ((rd_L1 xs i).set k.toNat v)) ∧ W.grownBy (W.setCell ⟨gi, k.toNat, none⟩ (.int .i64 v)) (some gi) := by
  obtain ⟨gi, ci, h1, h2, h3, h4, h5, h6, h7⟩ := ibS_put2 (Kd.S_bound h) i k hi0 hi hk0 hk v
  exact ⟨gi, ci, h1, h2, h3, ⟨h4.1, h4.2.1⟩, h5, Kd.S_mono h6 (fun _ hk => hk.1), h7⟩
theorem ibLead {W W1 : World} {base g : Nat} {ok : Nat → Prop} {v : Value} {xs : List Int} (h : (Kd.int .i64).R 3 W base ok v xs) (hg : W.grownBy W1 (some g)) (hlt : g < base) : (Kd.int .i64).R 3 W1 base ok v xs :=
  Kd.R_mono (Kd.R_grown (Kd.R_bound h) hg (fun k hk he => by injection he with he; have := hk.2.1; omega)) (fun k hk => hk.1)
theorem ibRows {α : Type} {d : Kd α} {e base m : Nat} {W W1 : World} {v : Value} {xs : List α} {row : Option Nat} (h : Kd.S d e W base (fun k => k < m) v xs) (hg : W.grownBy W1 row) (hr : ∀ k, row = some k → m ≤ k) : Kd.S d e W1 base (fun k => k < m) v xs :=
  Kd.S_grown h hg (fun k hk he => by have := hr k he.symm; omega)
theorem ibFar {W : World} {a p : Addr} {u v : Value} (h : W.cell? a = some u) (hne : p.block ≠ a.block) : (W.setCell p v).cell? a = some u := by
  rw [← h]
  have := Below.heap_setCell W p v a.block (fun he => hne he.symm)
  simp [World.cell?, this]
theorem ibBelow {n m : Nat} {w W W1 : World} (h : Below n w W) (h2 : Below m W W1) (hle : n ≤ m) : Below n w W1 := by
  exact Below.trans h (Below.mono h2 hle)
theorem ibRowsOut {α : Type} {d : Kd α} {e base m n : Nat} {W W1 : World} {v : Value} {xs : List α} {row : Option Nat} (h : Kd.S d e W base (fun k => k < m) v xs) (hg : W.grownBy W1 row) (hr : ∀ k, row = some k → k < base ∨ n ≤ k) (hm : m ≤ n) : Kd.S d e W1 base (fun k => k < m) v xs :=
  Kd.S_mono (Kd.S_grown (Kd.S_bound h) hg (fun k hk he => by have := hr k he.symm; have := hk.1; have := hk.2.1; omega)) (fun k hk => hk.1)
theorem ibLeadOut {W W1 : World} {base m b : Nat} {v : Value} {xs : List Int} {row : Option Nat} (h : (Kd.int .i64).R 3 W base (fun k => k < m) v xs) (hg : W.grownBy W1 row) (hr : ∀ k, row = some k → k < b ∨ m ≤ k) (hb : b ≤ base) : (Kd.int .i64).R 3 W1 base (fun k => k < m) v xs :=
  Kd.R_mono (Kd.R_grown (Kd.R_bound h) hg (fun k hk he => by have := hr k he.symm; have := hk.1; have := hk.2.1; omega)) (fun k hk => hk.1)
set_option maxHeartbeats 8000000 in
set_option maxRecDepth 100000 in
theorem impl_Basis.calls (k : Nat) (A0 : Option Addr) (c0 : Nat) (l0 : List (List Int)) (a1 : Int) (r1 : List (List Int)) (r2 : Bool) (w : World) (hr0 : Kd.C (Kd.slice 3 (Kd.int .i64)) w A0 l0.length l0) (hc0 : l0.length ≤ c0) (h : impl_Basis.f k l0 a1 = some (r1, r2)) :
    Calls Try.prog 28 #[.slice A0 l0.length c0, .int .i64 a1] w fun e w' => ∃ v0_ : Value, e = .returned (.tuple #[v0_, .bool r2]) ∧ Kd.S (Kd.slice 3 (Kd.int .i64)) 23 w' w.heap.size (fun _ => True) v0_ r1 ∧ Below w.heap.size w w' := by
  have HR := Aside0.mk hr0
  clear hr0
  obtain ⟨t, ht, h2⟩ := Option.bind_eq_some_iff.mp h
  have HT := Aside0.mk ht
  clear ht h
  have HB0 := Aside0.mk (Below.refl w.heap.size w)
  cases t with
  | false =>
    rw [if_neg (by decide)] at h2
    obtain ⟨rfl, rfl⟩ : [] = r1 ∧ false = r2 := by simpa using h2
    go_enter Try.func28, Try.ntmps28
    go_wp2_with (go_at_call 36; (with_reducible refine (impl_ChecksOk.calls k A0 c0 l0 a1 false _ HR.out hc0 HT.out).mono ?_); rintro e w2 ⟨rfl, hd2⟩; obtain ⟨nd, hq⟩ := hd2; have HB2 := Aside0.mk (show Below w.heap.size w w2 by rw [hq]; exact pw_below_drewN (Below.refl _ _) _); clear hq)
    go_ret2
    exact ⟨_, rfl, Kd.S_nil _ _ _ _ _, HB2.out⟩
  | true =>
    rw [if_pos rfl] at h2
    have hin : ibIn l0 a1 ∧ ibBasis k l0 a1.toNat = some r1 ∧ true = r2 := by
      split at h2
      · rename_i hh
        obtain ⟨q, hq, h3⟩ := Option.bind_eq_some_iff.mp h2
        obtain ⟨e1, e2⟩ := Prod.mk.inj (Option.some.inj h3)
        exact ⟨hh, by rw [hq, e1], e2⟩
      · cases h2
    obtain ⟨hin, hres, rfl⟩ := hin
    obtain ⟨N, rfl⟩ : ∃ N : Nat, a1 = (N : Int) := ⟨a1.toNat, by have := hin.1; omega⟩
    rw [show ((N : Int)).toNat = N from rfl] at hres
    have HIN := Aside0.mk hin
    have HRES := Aside0.mk hres
    clear hin hres h2
    go_enter Try.func28, Try.ntmps28
    go_wp2_with (go_at_call 36; (with_reducible refine (impl_ChecksOk.calls k A0 c0 l0 (N : Int) true _ HR.out hc0 HT.out).mono ?_); rintro e w2 ⟨rfl, hd2⟩; obtain ⟨nd, hq⟩ := hd2; have HB2 := Aside0.mk (show Below w.heap.size w w2 by rw [hq]; exact pw_below_drewN (Below.refl _ _) _); clear hq)
    have HO7 := Aside0.mk (show Kd.S (Kd.slice 3 (Kd.int .i64)) 23 w2 w2.heap.size (fun _ => True) (.slice none 0 0) ((l0.take (0 : Int).toNat).map (ibRow N)) from Kd.S_nil _ _ _ _ _)
    have HB3 := Aside0.mk (Below.refl w2.heap.size w2)
    (try simp only [Act.put, List.setIfInBounds_toArray, List.set_cons_zero, List.set_cons_succ])
    go_loopw [6, 29] (fun u6 u29 W => ∃ (i : Int), u29 = .int .i64 i ∧ Aside0 (0 ≤ i ∧ i ≤ (l0.length : Int)) ∧ Aside0 (Kd.S (Kd.slice 3 (Kd.int .i64)) 23 W w2.heap.size (fun _ => True) u6 ((l0.take i.toNat).map (ibRow N))) ∧ Aside0 (Below w2.heap.size w2 W)) (fun _ v _ => l0.length - (match v with | .int _ n => n.toNat | _ => 0))
    case atStart => exact ⟨0, rfl, ⟨by omega⟩, HO7, HB3⟩
    case round =>
      clear HO7 HB3
      obtain ⟨i, rfl, HI, HO, HB⟩ := hrel
      obtain ⟨Wo, hWo⟩ : ∃ W, W = wr := ⟨_, rfl⟩
      subst hWo
      by_cases hi : i < (l0.length : Int)
      · have hlt : decide (i < (l0.length : Int)) = true := decide_eq_true hi
        have h0n : 0 ≤ (N : Int) := by have := HIN.out.1; omega
        have hnl : N ≤ 35184372088832 := by have := HIN.out.1; omega
        have HBw := Aside0.mk (below_step HB2.out HB.out)
        have HBW := Aside0.mk (Below.refl Wo.heap.size Wo)
        obtain ⟨ad, A, cc, e0, hx, hl, hc⟩ := at_L1 HR.out i HI.out.1 hi
        subst e0
        have hx2 := (HBw.out.cell (World.block_lt_of_cell? w _ hx)).trans hx
        have HX := Aside0.mk hx2
        have HCC := Aside0.mk hc
        have HCL := Aside0.mk hl
        have p1 := eq_true HI.out.1
        have q1 := eq_true hi
        have HQ := Aside0.mk hi
        clear hi hc hl hx
        go_wp2_with ((with_reducible refine gate_dst (N := 34) rfl ?_); refine Kd.R_make (Kd.int .i64) (w0 := Wo) Wo.heap.size 3 rfl (N := 34) rfl 23 _ _ rfl (N : Int) rfl rfl Try.underlying23 (.int .i64 0) 8 info3 rfl (by decide) (by omega) 0 (ok := fun _ => True) (okp := fun _ => True) rfl (fun _ hk => hk) trivial h0n (Nat.le_trans (Nat.mul_le_mul_right _ hnl) (by omega)) HBW.out (Nat.le_refl _) ?_; intro v9 w4 ho hb hg_ hnew_; clear hg_ hnew_; have HO9 := Aside0.mk ho; have HB4 := Aside0.mk hb; clear ho hb)
        rw [show ((N : Int)).toNat = N from rfl] at HO9
        obtain ⟨g9, c9, e9, _, _, _⟩ := Kd.R_form HO9.out (by have := HIN.out.1; simp; omega)
        subst e9
        rw [List.length_replicate] at HO9
        (try simp only [List.length_replicate])
        (try simp only [Act.put, List.setIfInBounds_toArray, List.set_cons_zero, List.set_cons_succ])
        go_loopw [37] (fun u37 W => ∃ (j : Int), u37 = .int .i64 j ∧ Aside0 (0 ≤ j ∧ j ≤ ((rd_L1 l0 i).length : Int)) ∧ Aside0 (Kd.R (Kd.int .i64) 3 W Wo.heap.size (fun _ => True) (.slice (some ⟨g9, 0, none⟩) N c9) (((rd_L1 l0 i).take j.toNat).foldl (fun r x => r.set x.toNat 1) (List.replicate N 0))) ∧ Aside0 (Below Wo.heap.size Wo W)) (fun v _ => (rd_L1 l0 i).length - (match v with | .int _ n => n.toNat | _ => 0))
        case atStart => exact ⟨0, rfl, ⟨by omega⟩, HO9, HB4⟩
        case round =>
          clear HO9 HB4
          obtain ⟨j, rfl, HJ, HO9, HB4⟩ := hrel
          have hx3 := (HB4.out.cell (World.block_lt_of_cell? _ _ HX.out)).trans HX.out
          by_cases hj : j < ((rd_L1 l0 i).length : Int)
          · have hltj : decide (j < ((rd_L1 l0 i).length : Int)) = true := decide_eq_true hj
            obtain ⟨ad2, e2, hx4⟩ := Kd.at_int HCC.out j HJ.out.1 hj
            subst e2
            have hx3b := hx3
            have hx5 := (HB4.out.cell (World.block_lt_of_cell? _ _ ((HBw.out.cell (World.block_lt_of_cell? w _ hx4)).trans hx4))).trans ((HBw.out.cell (World.block_lt_of_cell? w _ hx4)).trans hx4)
            have hmem := (HIN.out.2.2 _ (ibRdL HI.out.1 HQ.out)).2 _ (ibRd HJ.out.1 hj)
            obtain ⟨hx6, hf6⟩ := Kd.R_celln 0 HO9.out (rd (rd_L1 l0 i) j) hmem.1 hmem.2
            have hp := Kd.R_putg HO9.out (rd (rd_L1 l0 i) j) 1
            have HP := Aside0.mk hp
            have HJQ := Aside0.mk hj
            have p2 := eq_true HJ.out.1
            have q2 := eq_true hj
            have p3 := eq_true hmem.1
            have q3 := eq_true hmem.2
            have hw : wrap64 (j + 1) = j + 1 := ibW HJ.out.1 (by have := (HIN.out.2.2 _ (ibRdL HI.out.1 HQ.out)).1; omega)
            have HW := Aside0.mk hw
            have HT2 := Aside0.mk (ibTake HJ.out.1 hj)
            clear hj hmem hp hx4 hw
            go_wp2
            go_roundw
            case rel => exact ⟨j + 1, by rw [HW.out], ⟨by have := HJ.out; have := HJQ.out; omega⟩, ⟨by rw [HT2.out, List.foldl_append]; exact HP.out.1⟩, ⟨below_set HB4.out (Kd.R_base HO9.out _ rfl)⟩⟩
            case measure => have := HJ.out; have := HJQ.out; have := HW.out; first | (simp only [this]; omega) | (simp; omega) | omega
          · have hltj : decide (j < ((rd_L1 l0 i).length : Int)) = false := decide_eq_false hj
            have hje : j = ((rd_L1 l0 i).length : Int) := by have := HJ.out; omega
            have hrow : ((rd_L1 l0 i).take j.toNat).foldl (fun r x => r.set x.toNat 1) (List.replicate N 0) = ibRow N (rd_L1 l0 i) := by
              rw [List.take_of_length_le (by omega)]; rfl
            have HO9b := HO9.out
            rw [hrow] at HO9b
            have HO10 := Aside0.mk HO9b
            have HBo := Aside0.mk (below_step HB.out HB4.out)
            clear hj hrow HO9 HO9b hje
            have HLn := Aside0.mk (show (((l0.take i.toNat).map (ibRow N)).length + 1) * 24 ≤ 140737488355328 by have := HIN.out.2.1; simp; omega)
            have hw : wrap64 (i + 1) = i + 1 := ibW HI.out.1 (by have := HIN.out.2.1; have := HQ.out; omega)
            have HWi := Aside0.mk hw
            have HT3 := Aside0.mk (ibTakeL HI.out.1 HQ.out)
            have HOb : Kd.S (Kd.slice 3 (Kd.int .i64)) 23 wr w2.heap.size (fun k_ => True ∧ ¬ (some k_ = (.slice (some ⟨g9, 0, none⟩) N c9 : Value).ownBlock)) u6 ((l0.take i.toNat).map (ibRow N)) := Kd.S_mono (Kd.S_below (Kd.S_bound HO.out) HB4.out) (fun k_ hk_ => ⟨trivial, fun he_ => by have h1_ := hk_.2.2.1; have h2_ := Kd.R_base HO10.out k_ he_.symm; omega⟩)
            have HOB := Aside0.mk HOb
            have HAK : ∀ k_, some k_ = (.slice (some ⟨g9, 0, none⟩) N c9 : Value).ownBlock → True ∧ some k_ ≠ (u6 : Value).ownBlock := fun k_ hk_ => ⟨trivial, fun he_ => by have h1_ := Kd.S_lt HO.out k_ he_.symm; have h2_ := Kd.R_base HO10.out k_ hk_.symm; omega⟩
            have HAKA := Aside0.mk HAK
            have HAP := Aside0.mk (Kd.M_row (Kd.R_tight rfl (Kd.R_lower HO10.out HB.out.size)))
            clear hw HOb HAK HO
            go_wp2_with ((with_reducible refine gate_builtin (b := .append) (xs := #[.tmp 45, .tmp 47]) rfl ?_); at_builtin; refine Kd.S_append (Kd.slice 3 (Kd.int .i64)) (w0 := w2) w2.heap.size rfl (.tmp 45) (.tmp 47) 22 23 (.slice none 0 0) 24 rfl Try.underlying22 info23 rfl (by decide) (by omega) u6 ((l0.take i.toNat).map (ibRow N)) (ibRow N (rd_L1 l0 i)) [.slice (some ⟨g9, 0, none⟩) N c9] (fun _ => True) (fun k_ => some k_ = (.slice (some ⟨g9, 0, none⟩) N c9 : Value).ownBlock) rfl rfl HAP.out HAKA.out (fun _ _ => trivial) HOB.out HBo.out HBo.out.size HLn.out ?_; intro v8 w5 ho hb hg hat; have HO5 := Aside0.mk ho; have HB5 := Aside0.mk hb; clear ho hb hg hat)
            go_roundw
            case rel => exact ⟨i + 1, by rw [HWi.out], ⟨by have := HI.out; have := HQ.out; omega⟩, ⟨by rw [HT3.out, List.map_append]; exact HO5.out⟩, HB5⟩
            case measure => have := HI.out; have := HQ.out; have := HWi.out; first | (simp only [this]; omega) | (simp; omega) | omega
      · have hlt : decide (i < (l0.length : Int)) = false := decide_eq_false hi
        have hie : i = (l0.length : Int) := by have := HI.out; omega
        have HOR := HO.out
        rw [List.take_of_length_le (by omega)] at HOR
        have HO7 := Aside0.mk HOR
        have HB3 := Aside0.mk (Below.refl Wo.heap.size Wo)
        have HO11 := Aside0.mk (show Kd.R (Kd.int .i64) 3 Wo Wo.heap.size (fun _ => True) (.slice none 0 0) ([] : List Int) from Kd.R_nil _ _ _ _ _)
        clear hi HO HOR hie
        go_wp2
        (try simp only [Act.put, List.setIfInBounds_toArray, List.set_cons_zero, List.set_cons_succ])
        obtain ⟨A7, c7, e7⟩ := Kd.S_slice HO7.out
        subst e7
        rw [List.length_map] at HO7
        (try simp only [List.length_map])
        have HS7 := Aside0.mk (Kd.S_mono (Kd.S_bound HO7.out) (fun k_ hk_ => (hk_.2.2.1 : k_ < Wo.heap.size)))
        have HSz := Aside0.mk (Nat.le_refl Wo.heap.size)
        have HRL : ∀ r ∈ l0.map (ibRow N), r.length = N := fun r hr => by obtain ⟨c, _, rfl⟩ := List.mem_map.1 hr; exact ibRowLen N c
        have HIR := Aside0.mk HRL
        have HLL := Aside0.mk (show (l0.map (ibRow N)).length = l0.length from List.length_map _)
        have HEE := Aside0.mk (show ibElim N N 0 (l0.map (ibRow N)) [] = ibElim N N 0 (l0.map (ibRow N)) [] from rfl)
        generalize hE_ : ibElim N N 0 (l0.map (ibRow N)) [] = E_ at HEE
        have HEEq := Aside0.mk hE_
        clear HO7 HRL hE_
        go_loopw [12, 51] (fun u12 u51 W => ∃ (col : Int) (rows : List (List Int)) (lead : List Int), u51 = .int .i64 col ∧ Aside0 ((0 ≤ col ∧ col ≤ (N : Int)) ∧ rows.length = l0.length ∧ lead.length ≤ l0.length) ∧ Aside0 (∀ r ∈ rows, r.length = N) ∧ Aside0 (∀ x ∈ lead, 0 ≤ x ∧ x < (N : Int)) ∧ Aside0 (ibElim N (N - col.toNat) col.toNat rows lead = E_) ∧ Aside0 (Kd.S (Kd.slice 3 (Kd.int .i64)) 23 W w2.heap.size (fun k => k < Wo.heap.size) (.slice A7 l0.length c7) rows) ∧ Aside0 (Kd.R (Kd.int .i64) 3 W Wo.heap.size (fun _ => True) u12 lead) ∧ Aside0 (Below w2.heap.size w2 W) ∧ Aside0 (Wo.heap.size ≤ W.heap.size)) (fun _ v _ => N - (match v with | .int _ n => n.toNat | _ => 0))
        case atStart => exact ⟨0, _, [], rfl, ⟨by have := HLL.out; exact ⟨by omega, this, by simp⟩⟩, HIR, ⟨by simp⟩, ⟨by simpa using HEEq.out⟩, HS7, HO11, HB, HSz⟩
        case round =>
          clear HS7 HIR HLL HEE HO11 HSz
          obtain ⟨col, rows, lead, rfl, HI, HRL, HLD, HEL, HS, HO, HB2x, HSz⟩ := hrel
          by_cases hcol : col < (N : Int)
          · have hltc : decide (col < (N : Int)) = true := decide_eq_true hcol
            have HQ := Aside0.mk hcol
            obtain ⟨A11, c11, e11⟩ := Kd.R_slice HO.out
            subst e11
            have pc := eq_true HI.out.1.1
            have qc := eq_true hcol
            clear hcol
            obtain ⟨Wc, hWc⟩ : ∃ W, W = wr := ⟨_, rfl⟩
            subst hWc
            have HPf := Aside0.mk (show ibFind rows col (rows.length - lead.length) lead.length = ibFind rows col (rows.length - lead.length) lead.length from rfl)
            generalize hP_ : ibFind rows col (rows.length - lead.length) lead.length = P_ at HPf
            have HPQ := Aside0.mk hP_
            clear hP_
            go_wp2
            (try simp only [Act.put, List.setIfInBounds_toArray, List.set_cons_zero, List.set_cons_succ])
            go_loopw [15] (fun u15 W => ∃ (p : Int), u15 = .int .i64 p ∧ Aside0 ((lead.length : Int) ≤ p ∧ p ≤ (l0.length : Int)) ∧ Aside0 (ibFind rows col (rows.length - p.toNat) p.toNat = P_) ∧ Wc = W) (fun v _ => l0.length - (match v with | .int _ n => n.toNat | _ => 0))
            case atStart => exact ⟨(lead.length : Int), rfl, ⟨by have := HI.out.2.2; omega⟩, ⟨by simpa using HPQ.out⟩, by first | rfl | trivial⟩
            case round =>
              clear HPf
              obtain ⟨p, rfl, HP, HFP, rfl⟩ := hrel
              by_cases hp : p < (l0.length : Int)
              · have hltp : decide (p < (l0.length : Int)) = true := decide_eq_true hp
                have hp0 : 0 ≤ p := by have := HP.out; omega
                have hrl : (rd_L1 rows p).length = N := HRL.out _ (ibRdL hp0 (by have := HI.out.2.1; omega))
                obtain ⟨g7, c7b, e7b, hb7, _, _⟩ := Kd.S_form HS.out (by have := HI.out.2.1; omega)
                injection e7b with ea7 en7 ec7
                subst ea7
                clear ec7 en7
                obtain ⟨gi, ci, hy1, hy2, hy3, hy4, hy5, _, _⟩ := ibPut HS.out p col hp0 hp HI.out.1.1 (by rw [hrl]; exact HQ.out) 0
                rw [hrl] at hy1
                have p2 := eq_true hp0
                have q2 := eq_true hp
                have HPQ2 := Aside0.mk hp
                have hw : wrap64 (p + 1) = p + 1 := ibW hp0 (by have := HIN.out.2.1; omega)
                have HW := Aside0.mk hw
                have hfp : ibFind rows col (rows.length - p.toNat) p.toNat = if rd (rd_L1 rows p) col = 0 then ibFind rows col (rows.length - (p + 1).toNat) (p + 1).toNat else p.toNat := by
                  obtain ⟨d, hd⟩ : ∃ d, rows.length - p.toNat = d + 1 := ⟨rows.length - p.toNat - 1, by have := HI.out.2.1; omega⟩
                  rw [hd, show rows.length - (p + 1).toNat = d by omega, show (p + 1).toNat = p.toNat + 1 by omega]
                  rfl
                have HFQ := Aside0.mk hfp
                clear hp hw hfp hrl hy3 hy4 hy5
                by_cases hz : rd (rd_L1 rows p) col = 0
                · have z1 : (rd (rd_L1 rows p) col == 0) = true := beq_iff_eq.mpr hz
                  have z2 : (rd (rd_L1 rows p) col != 0) = false := bne_eq_false_iff_eq.mpr hz
                  have HZ := Aside0.mk hz
                  clear hz
                  go_wp2
                  go_roundw
                  case rel => exact ⟨p + 1, by rw [HW.out], ⟨by have := HP.out; have := HPQ2.out; omega⟩, ⟨by have h1 := HFP.out; rw [HFQ.out, if_pos HZ.out] at h1; exact h1⟩, by first | rfl | trivial⟩
                  case measure => have := HP.out; have := HPQ2.out; have := HW.out; first | (simp only [this]; omega) | (simp; omega) | omega
                · have z1 : (rd (rd_L1 rows p) col == 0) = false := beq_eq_false_iff_ne.mpr hz
                  have z2 : (rd (rd_L1 rows p) col != 0) = true := bne_iff_ne.mpr hz
                  have HZ := Aside0.mk hz
                  clear hz
                  have hl0 : (0 : Int) ≤ (lead.length : Int) := by omega
                  have hl1 : (lead.length : Int) < (l0.length : Int) := by have := HP.out; have := HPQ2.out; omega
                  have hpe : (p == (l0.length : Int)) = false := beq_eq_false_iff_ne.mpr (by have := HPQ2.out; omega)
                  have hpe2 : (p != (l0.length : Int)) = true := bne_iff_ne.mpr (by have := HPQ2.out; omega)
                  have HFP2 := Aside0.mk (show P_ = p.toNat by have h1 := HFP.out; rw [HFQ.out, if_neg HZ.out] at h1; exact h1.symm)
                  obtain ⟨vi, vj, hi1, hj1, hfi, hfj, hS2, hg2⟩ := ibS_swap (d := Kd.slice 3 (Kd.int .i64)) rfl HS.out [] (lead.length : Int) p hl0 hl1 hp0 HPQ2.out
                  rw [show ((lead.length : Int)).toNat = lead.length from rfl] at hi1 hfi hS2 hg2
                  obtain rfl := Option.some.inj (hj1.symm.trans hy1)
                  obtain ⟨ad7x, A2, cc2, e7x, hxj, _, _⟩ := at_L1 (Kd.S_reads' HS.out).2.2 (lead.length : Int) hl0 (by have := HI.out.2.1; omega)
                  injection e7x with e7x
                  subst e7x
                  rw [add_plain, show ((lead.length : Int)).toNat = lead.length from rfl] at hxj
                  obtain rfl := Option.some.inj (hi1.symm.trans hxj)
                  have hg7 : g7 < Wo.heap.size := (Kd.S_R HS.out).1 g7 rfl
                  have HS6 := Aside0.mk (show Kd.S (Kd.slice 3 (Kd.int .i64)) 23 _ w2.heap.size (fun k => k < Wo.heap.size) (.slice (some ⟨g7, 0, none⟩) l0.length c7) (ibSwap rows lead.length p.toNat) from hS2)
                  have HO6 := Aside0.mk (ibLead HO.out hg2 hg7)
                  have HB6 := Aside0.mk (below_set (below_set (v := .slice (some ⟨gi, 0, none⟩) N ci) (j := lead.length) HB2x.out hb7) hb7 (v := .slice A2 (rd_L1 rows (lead.length : Int)).length cc2) (j := p.toNat))
                  have HSz6 := Aside0.mk (Nat.le_trans HSz.out hg2.size)
                  obtain ⟨y, hy⟩ := cell?_setCell_some (p := ⟨g7, lead.length, none⟩) (x := .slice (some ⟨gi, 0, none⟩) N ci) hj1
                  have hfj2 : (Wc.setCell ⟨g7, lead.length, none⟩ (.slice (some ⟨gi, 0, none⟩) N ci)).frozen? ⟨g7, p.toNat, none⟩ = false := by rw [World.frozen?_setCell]; exact hfj
                  have p3 := eq_true hl0
                  have q3 := eq_true hl1
                  have q3b := eq_true (show lead.length < l0.length by omega)
                  have HG7 := Aside0.mk hg7
                  have HB7 := Aside0.mk hb7
                  have HPL := Aside0.mk hl1
                  have HRL6 := Aside0.mk (ibSwapRow HRL.out (p := lead.length) (q := p.toNat) (by have := HI.out.2.1; omega) (by have := HI.out.2.1; have := HPQ2.out; omega))
                  have HLN6 := Aside0.mk (show (ibSwap rows lead.length p.toNat).length = l0.length by rw [ibSwapLen]; exact HI.out.2.1)
                  obtain ⟨y2, hyb⟩ := cell?_setCell_some (p := ⟨g7, p.toNat, none⟩) (x := .slice A2 (rd_L1 rows (lead.length : Int)).length cc2) hi1
                  clear hS2 hg2 hl0 hl1 hg7 hb7 HFP HFQ HZ HS HO
                  go_wp2
                  go_region
                  generalize (Wc.setCell ⟨g7, lead.length, none⟩ (.slice (some ⟨gi, 0, none⟩) N ci)).setCell ⟨g7, p.toNat, none⟩ (.slice A2 (rd_L1 rows (lead.length : Int)).length cc2) = W5 at HS6 HO6 HB6 HSz6 ⊢
                  have HS6d := Aside0.mk (Kd.S_drew HS6.out)
                  have HO6d := Aside0.mk (Kd.R_drew HO6.out)
                  have HB6d := Aside0.mk (below_drew1 HB6.out)
                  have HSz6d := Aside0.mk (show Wo.heap.size ≤ W5.drew.heap.size from HSz6.out)
                  clear HS6 HO6 HB6 HSz6
                  have HS6 := HS6d
                  have HO6 := HO6d
                  have HB6 := HB6d
                  have HSz6 := HSz6d
                  clear HS6d HO6d HB6d HSz6d
                  generalize W5.drew = W6 at HS6 HO6 HB6 HSz6 ⊢
                  go_wp2
                  (try simp only [Act.put, List.setIfInBounds_toArray, List.set_cons_zero, List.set_cons_succ])
                  generalize hr6 : ibSwap rows lead.length p.toNat = rows6 at HS6 HRL6 HLN6
                  have HR6 := Aside0.mk hr6
                  clear hr6 hy hyb hfj2 hi1 hj1 hfi hfj hy1 hy2
                  have HXe := Aside0.mk (show rd_L1 rows6 (lead.length : Int) = rd_L1 rows6 (lead.length : Int) from rfl)
                  generalize hX_ : rd_L1 rows6 (lead.length : Int) = X_ at HXe
                  have HXE := Aside0.mk hX_
                  have HCe := Aside0.mk (show ibClear N col lead.length rows6.length 0 rows6 = ibClear N col lead.length rows6.length 0 rows6 from rfl)
                  generalize hC_ : ibClear N col lead.length rows6.length 0 rows6 = C_ at HCe
                  have HCE := Aside0.mk hC_
                  clear hX_ hC_ HXe HCe
                  go_loopw [93] (fun u93 W => ∃ (i2 : Int) (rows2 : List (List Int)), u93 = .int .i64 i2 ∧ Aside0 ((0 ≤ i2 ∧ i2 ≤ (l0.length : Int)) ∧ rows2.length = l0.length) ∧ Aside0 (∀ r ∈ rows2, r.length = N) ∧ Aside0 (rd_L1 rows2 (lead.length : Int) = X_) ∧ Aside0 (ibClear N col lead.length (rows2.length - i2.toNat) i2.toNat rows2 = C_) ∧ Aside0 (Kd.S (Kd.slice 3 (Kd.int .i64)) 23 W w2.heap.size (fun k => k < Wo.heap.size) (.slice (some ⟨g7, 0, none⟩) l0.length c7) rows2) ∧ Aside0 (Kd.R (Kd.int .i64) 3 W Wo.heap.size (fun _ => True) (.slice A11 lead.length c11) lead) ∧ Aside0 (Below w2.heap.size w2 W) ∧ Aside0 (Wo.heap.size ≤ W.heap.size)) (fun v _ => l0.length - (match v with | .int _ n => n.toNat | _ => 0))
                  case atStart => exact ⟨0, rows6, rfl, ⟨by have := HLN6.out; omega⟩, HRL6, HXE, ⟨by simpa using HCE.out⟩, HS6, HO6, HB6, HSz6⟩
                  case round =>
                    clear HRL6 HXE HS6 HO6 HB6 HSz6
                    obtain ⟨i2, rows2, rfl, HI2, HRL2, HX2, HC2, HS, HO, HB7x, HSz7⟩ := hrel
                    obtain ⟨Wd, hWd⟩ : ∃ W, W = wr := ⟨_, rfl⟩
                    subst hWd
                    by_cases hi2 : i2 < (l0.length : Int)
                    · have hlt2 : decide (i2 < (l0.length : Int)) = true := decide_eq_true hi2
                      have hrl2 : (rd_L1 rows2 i2).length = N := HRL2.out _ (ibRdL HI2.out.1.1 (by have := HI2.out.2; omega))
                      obtain ⟨gi, ci, hy1, hy2, hy3, hy4, hy5, _, _⟩ := ibPut HS.out i2 col HI2.out.1.1 hi2 HI.out.1.1 (by rw [hrl2]; exact HQ.out) 0
                      rw [hrl2] at hy1
                      have p4 := eq_true HI2.out.1.1
                      have q4 := eq_true hi2
                      have HQ2 := Aside0.mk hi2
                      have hw : wrap64 (i2 + 1) = i2 + 1 := ibW HI2.out.1.1 (by have := HIN.out.2.1; omega)
                      have HW2 := Aside0.mk hw
                      have HST := Aside0.mk (ibClear_step (N := N) (q := lead.length) (col := col) rows2 HI2.out.1.1 (by have := HI2.out.2; omega))
                      have HRN := Aside0.mk hrl2
                      clear hi2 hw hrl2
                      by_cases hia : i2 = (lead.length : Int)
                      · have n1 : (i2 == (lead.length : Int)) = true := beq_iff_eq.mpr hia
                        have n2 : (i2 != (lead.length : Int)) = false := bne_eq_false_iff_eq.mpr hia
                        have HIA := Aside0.mk hia
                        clear hia
                        go_wp2
                        go_roundw
                        case rel => exact ⟨i2 + 1, rows2, by rw [HW2.out], ⟨by have := HI2.out; have := HQ2.out; omega⟩, HRL2, HX2, ⟨by have h1 := HC2.out; rw [HST.out, if_neg (by have := HIA.out; have := HI2.out; omega)] at h1; exact h1⟩, HS, HO, HB7x, HSz7⟩
                        case measure => have := HI2.out; have := HQ2.out; have := HW2.out; first | (simp only [this]; omega) | (simp; omega) | omega
                      · have n1 : (i2 == (lead.length : Int)) = false := beq_eq_false_iff_ne.mpr hia
                        have n2 : (i2 != (lead.length : Int)) = true := bne_iff_ne.mpr hia
                        have HIA := Aside0.mk hia
                        clear hia
                        by_cases hz1 : rd (rd_L1 rows2 i2) col = 0
                        · have z3 : (rd (rd_L1 rows2 i2) col == 0) = true := beq_iff_eq.mpr hz1
                          have z4 : (rd (rd_L1 rows2 i2) col != 0) = false := bne_eq_false_iff_eq.mpr hz1
                          have HZ1 := Aside0.mk hz1
                          clear hz1
                          go_wp2
                          go_roundw
                          case rel => exact ⟨i2 + 1, rows2, by rw [HW2.out], ⟨by have := HI2.out; have := HQ2.out; omega⟩, HRL2, HX2, ⟨by have h1 := HC2.out; rw [HST.out, if_neg (fun h_ => h_.2 HZ1.out)] at h1; exact h1⟩, HS, HO, HB7x, HSz7⟩
                          case measure => have := HI2.out; have := HQ2.out; have := HW2.out; first | (simp only [this]; omega) | (simp; omega) | omega
                        · have z3 : (rd (rd_L1 rows2 i2) col == 0) = false := beq_eq_false_iff_ne.mpr hz1
                          have z4 : (rd (rd_L1 rows2 i2) col != 0) = true := bne_iff_ne.mpr hz1
                          have HZ1 := Aside0.mk hz1
                          clear hz1
                          go_wp2
                          (try simp only [Act.put, List.setIfInBounds_toArray, List.set_cons_zero, List.set_cons_succ])
                          clear hy1 hy2 hy3 hy4 hy5
                          have HRe := Aside0.mk (show ibXor X_ N 0 (rd_L1 rows2 i2) = ibXor X_ N 0 (rd_L1 rows2 i2) from rfl)
                          generalize hR_ : ibXor X_ N 0 (rd_L1 rows2 i2) = R_ at HRe
                          have HRE := Aside0.mk hR_
                          clear hR_ HRe
                          have HSi := Aside0.mk (show Kd.S (Kd.slice 3 (Kd.int .i64)) 23 Wd w2.heap.size (fun k => k < Wo.heap.size) (.slice (some ⟨g7, 0, none⟩) l0.length c7) (rows2.set i2.toNat (rd_L1 rows2 i2)) from by rw [ibSetGet]; exact HS.out)
                          go_loopw [114] (fun u114 W => ∃ (k2 : Int) (row : List Int), u114 = .int .i64 k2 ∧ Aside0 (0 ≤ k2 ∧ k2 ≤ (N : Int)) ∧ Aside0 (row.length = N) ∧ Aside0 (ibXor X_ (N - k2.toNat) k2.toNat row = R_) ∧ Aside0 (Kd.S (Kd.slice 3 (Kd.int .i64)) 23 W w2.heap.size (fun k => k < Wo.heap.size) (.slice (some ⟨g7, 0, none⟩) l0.length c7) (rows2.set i2.toNat row)) ∧ Aside0 (Kd.R (Kd.int .i64) 3 W Wo.heap.size (fun _ => True) (.slice A11 lead.length c11) lead) ∧ Aside0 (Below w2.heap.size w2 W) ∧ Aside0 (Wo.heap.size ≤ W.heap.size)) (fun v _ => N - (match v with | .int _ n => n.toNat | _ => 0))
                          case atStart => exact ⟨0, rd_L1 rows2 i2, rfl, ⟨by omega⟩, HRN, ⟨by simpa using HRE.out⟩, HSi, HO, HB7x, HSz7⟩
                          case round =>
                            clear HSi HS HO HB7x HSz7
                            obtain ⟨k2, row, rfl, HK2, HRW, HX3, HS, HO, HB7x, HSz7⟩ := hrel
                            obtain ⟨We, hWe⟩ : ∃ W, W = wr := ⟨_, rfl⟩
                            subst hWe
                            by_cases hk2 : k2 < (N : Int)
                            · have hlt3 : decide (k2 < (N : Int)) = true := decide_eq_true hk2
                              have HSd := Aside0.mk (Kd.S_drew HS.out)
                              have HOd := Aside0.mk (Kd.R_drew HO.out)
                              have HBd := Aside0.mk (below_drew1 HB7x.out)
                              have HSzd := Aside0.mk (show Wo.heap.size ≤ We.drew.heap.size from HSz7.out)
                              clear HS HO HB7x HSz7
                              have hself : rd_L1 (rows2.set i2.toNat row) i2 = row := ibSetSelf HI2.out.1.1 (by have := HI2.out.2; have := HQ2.out; omega) row
                              obtain ⟨gi, ci, hy1, hy2, hy3, hy4, hy5, hy6, hy7⟩ := ibPut HSd.out i2 k2 HI2.out.1.1 HQ2.out HK2.out.1 (by rw [hself, HRW.out]; exact hk2) (Go.bits .xor .i64 (rd row k2) (rd X_ k2))
                              rw [hself, HRW.out] at hy1
                              rw [hself] at hy2 hy6
                              rw [ibSetSet] at hy6
                              have hat : rd_L1 (rows2.set i2.toNat row) (lead.length : Int) = X_ := by rw [ibSetOther HI2.out.1.1 (by omega) (fun h_ => HIA.out h_.symm)]; exact HX2.out
                              have hxl : X_.length = N := by rw [← HX2.out]; exact HRL2.out _ (ibRdL (by omega) (by have := HI2.out.2; have := HPL.out; omega))
                              obtain ⟨adx, Ax, ccx, ex, hxc, _, hxC⟩ := at_L1 (Kd.S_reads' HSd.out).2.2 (lead.length : Int) (by omega) (by rw [List.length_set]; have := HI2.out.2; have := HPL.out; omega)
                              injection ex with ex
                              subst ex
                              rw [add_plain, show ((lead.length : Int)).toNat = lead.length from rfl] at hxc
                              rw [hat, hxl] at hxc
                              rw [hat] at hxC
                              obtain ⟨adz, ez, hxz⟩ := Kd.at_int hxC k2 HK2.out.1 (by omega)
                              subst ez
                              have p5 := eq_true HK2.out.1
                              have q5 := eq_true hk2
                              have HQ3 := Aside0.mk hk2
                              have hw : wrap64 (k2 + 1) = k2 + 1 := ibW HK2.out.1 (by have := HIN.out.1; omega)
                              have HW3 := Aside0.mk hw
                              have HST3 := Aside0.mk (ibXor_step X_ row HK2.out.1 hk2)
                              have HS8 := Aside0.mk hy6
                              have HG8 := Aside0.mk hy7
                              have HGI := Aside0.mk hy4
                              have HGN := Aside0.mk hy5
                              clear hk2 hw hself hat hxC hxl hy4 hy5 hy6 hy7
                              go_wp2
                              go_still_tail 16, (by kernel_rfl)
                              change wpList _ _ _ _ _ We.drew
                              generalize We.drew = W9 at HSd HOd HBd HSzd HS8 HG8 hy1 hy2 hy3 hxz hxc ⊢
                              go_wp2
                              go_roundw
                              case rel => exact ⟨k2 + 1, row.set k2.toNat (Go.bits .xor .i64 (rd row k2) (rd X_ k2)), by rw [HW3.out], ⟨by have := HK2.out; have := HQ3.out; omega⟩, ⟨by rw [List.length_set]; exact HRW.out⟩, ⟨by have h1 := HX3.out; rw [HST3.out] at h1; exact h1⟩, HS8, ⟨ibLead HOd.out HG8.out HGI.out.1⟩, ⟨below_set HBd.out HGI.out.2⟩, ⟨Nat.le_trans HSzd.out HG8.out.size⟩⟩
                              case measure => have := HK2.out; have := HQ3.out; have := HW3.out; first | (simp only [this]; omega) | (simp; omega) | omega
                            · have hlt3 : decide (k2 < (N : Int)) = false := decide_eq_false hk2
                              have HROW := Aside0.mk (show row = R_ from by
                                have h1 := HX3.out
                                rw [show N - k2.toNat = 0 by have := HK2.out; omega] at h1
                                exact h1)
                              clear hk2
                              go_wp2
                              go_roundw
                              case rel => exact ⟨i2 + 1, rows2.set i2.toNat row, by rw [HW2.out], ⟨by rw [List.length_set]; have := HI2.out; have := HQ2.out; omega⟩, ⟨ibSetRow HRL2.out _ HRW.out⟩, ⟨by rw [ibSetOther HI2.out.1.1 (by omega) (fun h_ => HIA.out h_.symm)]; exact HX2.out⟩, ⟨by
                                have h1 := HC2.out
                                rw [HST.out, if_pos ⟨by have := HIA.out; have := HI2.out; omega, HZ1.out⟩, HX2.out, HRE.out, ← HROW.out] at h1
                                rw [List.length_set]; exact h1⟩, HS, HO, HB7x, HSz7⟩
                              case measure => have := HI2.out; have := HQ2.out; have := HW2.out; first | (simp only [this]; omega) | (simp; omega) | omega
                    · have hlt2 : decide (i2 < (l0.length : Int)) = false := decide_eq_false hi2
                      have HCR := Aside0.mk (show rows2 = C_ from by
                        have h1 := HC2.out
                        rw [show rows2.length - i2.toNat = 0 by have := HI2.out; omega] at h1
                        exact h1)
                      have hw : wrap64 (col + 1) = col + 1 := ibW HI.out.1.1 (by have := HIN.out.1; have := HQ.out; omega)
                      have HW := Aside0.mk hw
                      have HLM := Aside0.mk (show (lead.length + 1) * 8 ≤ 140737488355328 by have := HPL.out; have := HIN.out.2.1; omega)
                      clear hi2 hw
                      go_wp2_with ((with_reducible refine gate_builtin (b := .append) (xs := #[.tmp 135, .tmp 137]) rfl ?_); at_builtin; refine Kd.R_append (Kd.int .i64) (w0 := Wd) Wo.heap.size rfl (.tmp 135) (.tmp 137) 23 3 (.int .i64 0) 8 rfl Try.underlying23 info3 rfl (by decide) (by omega) (.slice A11 lead.length c11) lead col [.int .i64 col] (fun _ => True) (fun _ => False) rfl rfl rfl (fun _ hk => hk.elim) (fun _ _ => trivial) HO.out (Below.refl _ _) HSz7.out HLM.out ?_; intro v12 w8 ho hb hg hat; have HO8 := Aside0.mk ho; have HS8 := Aside0.mk (ibRows HS.out hg (fun k_ hk_ => Kd.R_base HO.out k_ hk_)); have HB8 := Aside0.mk (ibBelow HB7x.out hb HB.out.size); have HSz8 := Aside0.mk (Nat.le_trans HSz7.out hg.size); clear ho hb hg hat)
                      go_roundw
                      case rel => exact ⟨col + 1, rows2, lead ++ [col], by rw [HW.out], ⟨by have := HI.out; have := HQ.out; have := HI2.out; have := HPL.out; simp only [List.length_append, List.length_singleton]; omega⟩, HRL2, ⟨fun x hx => by
                        rcases List.mem_append.1 hx with h1 | h1
                        · exact HLD.out x h1
                        · rw [List.mem_singleton] at h1; rw [h1]; exact ⟨HI.out.1.1, HQ.out⟩⟩, ⟨by
                        have h1 := HEL.out
                        rw [ibElim_step HI.out.1.1 HQ.out, HPQ.out, HFP2.out, if_neg (by have := HI.out; have := HPQ2.out; have := HP.out; omega), HR6.out, show rows.length = rows6.length by rw [HLN6.out]; exact HI.out.2.1, HCE.out, ← HCR.out] at h1
                        exact h1⟩, HS8, HO8, HB8, HSz8⟩
                      case measure => have := HI.out; have := HQ.out; have := HW.out; first | (simp only [this]; omega) | (simp; omega) | omega
              · have hltp : decide (p < (l0.length : Int)) = false := decide_eq_false hp
                have hpe : (p == (l0.length : Int)) = true := beq_iff_eq.mpr (by have := HP.out; omega)
                have hpe2 : (p != (l0.length : Int)) = false := bne_eq_false_iff_eq.mpr (by have := HP.out; omega)
                have HPQ2 := Aside0.mk hp
                have hw : wrap64 (col + 1) = col + 1 := ibW HI.out.1.1 (by have := HIN.out.1; have := HQ.out; omega)
                have HW := Aside0.mk hw
                clear hp hw
                go_wp2
                go_roundw
                case rel => exact ⟨col + 1, rows, lead, by rw [HW.out], ⟨by have := HI.out; have := HQ.out; omega⟩, HRL, HLD, ⟨by
                  have h1 := HEL.out
                  rw [ibElim_step HI.out.1.1 HQ.out, HPQ.out, if_pos (by
                    have h2 := HFP.out
                    rw [show rows.length - p.toNat = 0 by have := HI.out; have := HP.out; have := HPQ2.out; omega] at h2
                    have h3 : p.toNat = P_ := h2
                    have := HI.out; have := HP.out; have := HPQ2.out; omega)] at h1
                  exact h1⟩, HS, HO, HB2x, HSz⟩
                case measure => have := HI.out; have := HQ.out; have := HW.out; first | (simp only [this]; omega) | (simp; omega) | omega
          · have hltc : decide (col < (N : Int)) = false := decide_eq_false hcol
            obtain ⟨Wp, hWp⟩ : ∃ W, W = wr := ⟨_, rfl⟩
            subst hWp
            have hE : (rows, lead) = E_ := by
              have h1 := HEL.out
              rw [show N - col.toNat = 0 by have := HI.out; omega] at h1
              exact h1
            have HR1 := Aside0.mk (show ∃ t, ibOut k N rows lead (N - (0 : Int).toNat) (0 : Int).toNat = some t ∧ ([] : List (List Int)) ++ t = r1 from by
              have h1 := HRES.out
              unfold ibBasis at h1
              rw [HEEq.out, ← hE] at h1
              exact ⟨r1, h1, rfl⟩)
            have HS0 := Aside0.mk (show Kd.S (Kd.slice 3 (Kd.int .i64)) 23 Wp w.heap.size (fun k => k < w2.heap.size ∨ Wp.heap.size ≤ k) (.slice none 0 0) ([] : List (List Int)) from Kd.S_nil _ _ _ _ _)
            obtain ⟨A11, c11, e11⟩ := Kd.R_slice HO.out
            subst e11
            have HLd := Aside0.mk (Kd.R_mono (ok' := fun k => k < Wp.heap.size) (Kd.R_bound HO.out) (fun k hk => hk.2.2.1))
            have HBp := Aside0.mk (below_step HB2.out HB2x.out)
            have HWp := Aside0.mk (Nat.le_refl Wp.heap.size)
            have HLN := Aside0.mk HI.out.2
            have HWW := Aside0.mk HB.out.size
            clear hcol hE HO HB2x HI HEL
            go_wp2
            (try simp only [Act.put, List.setIfInBounds_toArray, List.set_cons_zero, List.set_cons_succ])
            go_loopw [18, 141] (fun u18 u141 W => ∃ (col3 : Int) (outl : List (List Int)), u141 = .int .i64 col3 ∧ Aside0 ((0 ≤ col3 ∧ col3 ≤ (N : Int)) ∧ (outl.length : Int) ≤ col3) ∧ Aside0 (∃ t, ibOut k N rows lead (N - col3.toNat) col3.toNat = some t ∧ outl ++ t = r1) ∧ Aside0 (Kd.S (Kd.slice 3 (Kd.int .i64)) 23 W w.heap.size (fun k => k < w2.heap.size ∨ Wp.heap.size ≤ k) u18 outl) ∧ Aside0 (Kd.S (Kd.slice 3 (Kd.int .i64)) 23 W w2.heap.size (fun k => k < Wo.heap.size) (.slice A7 l0.length c7) rows) ∧ Aside0 (Kd.R (Kd.int .i64) 3 W Wo.heap.size (fun k => k < Wp.heap.size) (.slice A11 lead.length c11) lead) ∧ Aside0 (Below w.heap.size w W) ∧ Aside0 (Wp.heap.size ≤ W.heap.size)) (fun _ v _ => N - (match v with | .int _ n => n.toNat | _ => 0))
            case atStart => exact ⟨0, [], rfl, ⟨by simp⟩, HR1, HS0, HS, HLd, HBp, HWp⟩
            case round =>
              clear HR1 HS0 HS HLd HBp HWp
              obtain ⟨col3, outl, rfl, HI3, HR3, HSo, HS, HLd, HBp, HWp⟩ := hrel
              obtain ⟨Wq, hWq⟩ : ∃ W, W = wr := ⟨_, rfl⟩
              subst hWq
              by_cases hcol3 : col3 < (N : Int)
              · have hltc3 : decide (col3 < (N : Int)) = true := decide_eq_true hcol3
                have HQc := Aside0.mk hcol3
                have h0n : 0 ≤ (N : Int) := by omega
                have hnl : N ≤ 35184372088832 := by have := HIN.out.1; omega
                have hw : wrap64 (col3 + 1) = col3 + 1 := ibW HI3.out.1.1 (by have := HIN.out.1; have := HQc.out; omega)
                have HWc := Aside0.mk hw
                obtain ⟨tl, ht1, ht2⟩ := HR3.out
                rw [ibOut_step rows lead HI3.out.1.1 HQc.out] at ht1
                obtain ⟨bb, hbb, ht3⟩ := Option.bind_eq_some_iff.mp ht1
                obtain ⟨tl2, htl2, ht4⟩ := Option.bind_eq_some_iff.mp ht3
                have HBB := Aside0.mk hbb
                have HTL := Aside0.mk htl2
                have HT4 := Aside0.mk (Option.some.inj ht4)
                have HT2 := Aside0.mk ht2
                clear hcol3 hw ht1 ht2 ht3 ht4 hbb htl2 HR3
                cases bb with
                | true =>
                  go_wp2_with (go_at_call 51; (with_reducible refine (slices_Contains_int_int.calls k A11 c11 lead col3 true _ (Kd.R_reads' HLd.out).2.2 (Kd.R_reads' HLd.out).2.1 HBB.out).mono ?_); rintro e w9 ⟨rfl, hd2⟩; obtain ⟨nd, hq⟩ := hd2; have HBq := Aside0.mk (show Below Wq.heap.size Wq w9 by rw [hq]; exact pw_below_drewN (Below.refl _ _) _); clear hq)
                  go_roundw
                  case rel => exact ⟨col3 + 1, outl, by rw [HWc.out], ⟨by have := HI3.out; have := HQc.out; omega⟩, ⟨tl2, HTL.out, by rw [show tl2 = tl by simpa using HT4.out]; exact HT2.out⟩, ⟨Kd.S_below HSo.out HBq.out⟩, ⟨Kd.S_below HS.out HBq.out⟩, ⟨Kd.R_below HLd.out HBq.out⟩, ⟨below_step HBp.out HBq.out⟩, ⟨Nat.le_trans HWp.out HBq.out.size⟩⟩
                  case measure => have := HI3.out; have := HQc.out; have := HWc.out; first | (simp only [this]; omega) | (simp; omega) | omega
                | false =>
                  go_wp2_with (first | (go_at_call 51; (with_reducible refine (slices_Contains_int_int.calls k A11 c11 lead col3 false _ (Kd.R_reads' HLd.out).2.2 (Kd.R_reads' HLd.out).2.1 HBB.out).mono ?_); rintro e wq ⟨rfl, hd2⟩; obtain ⟨nd, hq⟩ := hd2; have HBq := Aside0.mk (show Below Wq.heap.size Wq wq by rw [hq]; exact pw_below_drewN (Below.refl _ _) _); have HBr := Aside0.mk (Below.refl wq.heap.size wq); have HSoq := Aside0.mk (Kd.S_below HSo.out HBq.out); have HSq := Aside0.mk (Kd.S_below HS.out HBq.out); have HLq := Aside0.mk (Kd.R_below HLd.out HBq.out); have HBpq := Aside0.mk (below_step HBp.out HBq.out); have HWpq := Aside0.mk (Nat.le_trans HWp.out HBq.out.size); clear hq HSo HS HLd HBp HWp) | ((with_reducible refine gate_dst (N := 148) rfl ?_); refine Kd.R_make (Kd.int .i64) (w0 := wq) wq.heap.size 3 rfl (N := 148) rfl 23 _ _ rfl (N : Int) rfl rfl Try.underlying23 (.int .i64 0) 8 info3 rfl (by decide) (by omega) 0 (ok := fun _ => True) (okp := fun _ => True) rfl (fun _ hk => hk) trivial h0n (Nat.le_trans (Nat.mul_le_mul_right _ hnl) (by omega)) HBr.out (Nat.le_refl _) ?_; intro v19 w9 ho hb hg_ hnew_; clear hg_ hnew_; rw [show ((N : Int)).toNat = N from rfl] at ho; obtain ⟨g9, c9, e9, _, _, _⟩ := Kd.R_form ho (by have := HIN.out.1; simp; omega); subst e9; rw [List.length_replicate] at ho; (try simp only [List.length_replicate]); obtain ⟨hx9, hf9⟩ := Kd.R_celln 0 ho col3 HI3.out.1.1 HQc.out; have HO9 := Aside0.mk (Kd.R_putg ho col3 1).1; have HB9 := Aside0.mk (below_set hb (Kd.R_base ho _ rfl) (j := col3.toNat) (v := .int .i64 1)); have HGB := Aside0.mk (Kd.R_base ho _ rfl); have p9 := eq_true HI3.out.1.1; have q9 := eq_true HQc.out; clear ho hb))
                  (try simp only [Act.put, List.setIfInBounds_toArray, List.set_cons_zero, List.set_cons_succ])
                  have HWe := Aside0.mk (show ibWord rows lead col3 lead.length 0 ((List.replicate N 0).set col3.toNat 1) = ibWord rows lead col3 lead.length 0 ((List.replicate N 0).set col3.toNat 1) from rfl)
                  generalize hW_ : ibWord rows lead col3 lead.length 0 ((List.replicate N 0).set col3.toNat 1) = W_ at HWe
                  have HWE := Aside0.mk hW_
                  clear hW_ HWe hx9 hf9
                  go_loopw [154] (fun u154 W => ∃ (i3 : Int) (wl : List Int), u154 = .int .i64 i3 ∧ Aside0 (0 ≤ i3 ∧ i3 ≤ (lead.length : Int)) ∧ Aside0 (ibWord rows lead col3 (lead.length - i3.toNat) i3.toNat wl = W_) ∧ Aside0 (wl.length = N) ∧ Aside0 (Kd.R (Kd.int .i64) 3 W wq.heap.size (fun _ => True) (.slice (some ⟨g9, 0, none⟩) N c9) wl) ∧ Aside0 (Below wq.heap.size wq W)) (fun v _ => lead.length - (match v with | .int _ n => n.toNat | _ => 0))
                  case atStart => exact ⟨0, _, rfl, ⟨by omega⟩, ⟨by simpa using HWE.out⟩, ⟨by simp⟩, HO9, HB9⟩
                  case round =>
                    clear HO9 HB9
                    obtain ⟨i3, wl, rfl, HI4, HWX, HWL, HO9, HB9⟩ := hrel
                    obtain ⟨We, hWe⟩ : ∃ W, W = wr := ⟨_, rfl⟩
                    subst hWe
                    by_cases hi3 : i3 < (lead.length : Int)
                    · have hlt4 : decide (i3 < (lead.length : Int)) = true := decide_eq_true hi3
                      have hmem := HLD.out _ (ibRd HI4.out.1 hi3)
                      obtain ⟨adl, el, hl1⟩ := Kd.at_int (Kd.R_reads' HLq.out).2.2 i3 HI4.out.1 hi3
                      subst el
                      have hi7 : i3 < (l0.length : Int) := by have := HLN.out.2; omega
                      obtain ⟨ad7, A7i, cc7, e7, hr1, _, hrC⟩ := at_L1 (Kd.S_reads' HSq.out).2.2 i3 HI4.out.1 (by have := HLN.out.1; omega)
                      subst e7
                      have hrl : (rd_L1 rows i3).length = N := HRL.out _ (ibRdL HI4.out.1 (by have := HLN.out.1; omega))
                      rw [hrl] at hr1 hrC
                      obtain ⟨adr, er, hr2⟩ := Kd.at_int hrC col3 HI3.out.1.1 HQc.out
                      subst er
                      have hv1 := (HB9.out.cell (World.block_lt_of_cell? _ _ hl1)).trans hl1
                      have hv2 := (HB9.out.cell (World.block_lt_of_cell? _ _ hr1)).trans hr1
                      have hv3 := (HB9.out.cell (World.block_lt_of_cell? _ _ hr2)).trans hr2
                      obtain ⟨hv4, hv5⟩ := Kd.R_celln 0 HO9.out (rd lead i3) hmem.1 hmem.2
                      have HP9 := Aside0.mk (Kd.R_putg HO9.out (rd lead i3) (rd (rd_L1 rows i3) col3))
                      have p10 := eq_true HI4.out.1
                      have q10 := eq_true hi3
                      have q11 := eq_true hi7
                      have p12 := eq_true hmem.1
                      have q12 := eq_true hmem.2
                      have p13 := eq_true HI3.out.1.1
                      have q13 := eq_true HQc.out
                      have HQi := Aside0.mk hi3
                      have hw : wrap64 (i3 + 1) = i3 + 1 := ibW HI4.out.1 (by have := HLN.out; have := HIN.out.2.1; omega)
                      have HWi3 := Aside0.mk hw
                      clear hi3 hw hl1 hr1 hr2 hrC hi7 hmem hrl
                      go_wp2
                      go_roundw
                      case rel => exact ⟨i3 + 1, wl.set (rd lead i3).toNat (rd (rd_L1 rows i3) col3), by rw [HWi3.out], ⟨by have := HI4.out; have := HQi.out; omega⟩, ⟨by have h1 := HWX.out; rw [ibWord_step rows wl HI4.out.1 HQi.out] at h1; exact h1⟩, ⟨by rw [List.length_set]; exact HWL.out⟩, ⟨HP9.out.1⟩, ⟨below_set HB9.out HGB.out⟩⟩
                      case measure => have := HI4.out; have := HQi.out; have := HWi3.out; first | (simp only [this]; omega) | (simp; omega) | omega
                    · have hlt4 : decide (i3 < (lead.length : Int)) = false := decide_eq_false hi3
                      have hwl : wl = W_ := by
                        have h1 := HWX.out
                        rw [show lead.length - i3.toNat = 0 by omega] at h1
                        exact h1
                      have HO5 := HO9.out
                      rw [hwl] at HO5
                      have HOW := Aside0.mk HO5
                      have HBn := Aside0.mk (below_step HBpq.out HB9.out)
                      have HSe := Aside0.mk (Kd.S_below HSq.out HB9.out)
                      have HLe := Aside0.mk (Kd.R_below HLq.out HB9.out)
                      have HWn := Aside0.mk (Nat.le_trans HWpq.out HB9.out.size)
                      clear hi3 hwl HO5 HO9
                      have HLn := Aside0.mk (show (outl.length + 1) * 24 ≤ 140737488355328 by have := HI3.out; have := HQc.out; have := HIN.out.1; omega)
                      have HOB := Aside0.mk (show Kd.S (Kd.slice 3 (Kd.int .i64)) 23 We w.heap.size (fun k_ => (k_ < w2.heap.size ∨ Wp.heap.size ≤ k_) ∧ ¬ (some k_ = (.slice (some ⟨g9, 0, none⟩) N c9 : Value).ownBlock)) u18 outl from Kd.S_mono (Kd.S_below (Kd.S_bound HSoq.out) HB9.out) (fun k_ hk_ => ⟨hk_.1, fun he_ => by have h1_ := hk_.2.2.1; have h2_ := Kd.R_base HOW.out k_ he_.symm; omega⟩))
                      have HAK := Aside0.mk (show ∀ k_, some k_ = (.slice (some ⟨g9, 0, none⟩) N c9 : Value).ownBlock → (k_ < w2.heap.size ∨ Wp.heap.size ≤ k_) ∧ some k_ ≠ (u18 : Value).ownBlock from fun k_ hk_ => ⟨.inr (by have h2_ := Kd.R_base HOW.out k_ hk_.symm; have := HWpq.out; omega), fun he_ => by have h1_ := Kd.S_lt HSoq.out k_ he_.symm; have h2_ := Kd.R_base HOW.out k_ hk_.symm; omega⟩)
                      have HAP := Aside0.mk (Kd.M_row (Kd.R_tight rfl (Kd.R_lower HOW.out HBpq.out.size)))
                      have HAF := Aside0.mk (show ∀ k_, We.heap.size ≤ k_ → k_ < w2.heap.size ∨ Wp.heap.size ≤ k_ from fun k_ hk_ => .inr (Nat.le_trans HWn.out hk_))
                      have HOk := Aside0.mk (show ∀ k_, (u18 : Value).ownBlock = some k_ → k_ < w2.heap.size ∨ Wp.heap.size ≤ k_ from fun k_ hk_ => (Kd.S_R HSoq.out).1 k_ hk_)
                      have HWoP := Aside0.mk (show Wo.heap.size ≤ Wp.heap.size from HSz.out)
                      have HBnn := Aside0.mk HBn.out.size
                      clear HSoq
                      go_wp2_with ((with_reducible refine gate_builtin (b := .append) (xs := #[.tmp 170, .tmp 172]) rfl ?_); at_builtin; refine Kd.S_append (Kd.slice 3 (Kd.int .i64)) (w0 := w) w.heap.size rfl (.tmp 170) (.tmp 172) 22 23 (.slice none 0 0) 24 rfl Try.underlying22 info23 rfl (by decide) (by omega) u18 outl W_ [.slice (some ⟨g9, 0, none⟩) N c9] (fun k_ => k_ < w2.heap.size ∨ Wp.heap.size ≤ k_) (fun k_ => some k_ = (.slice (some ⟨g9, 0, none⟩) N c9 : Value).ownBlock) rfl rfl HAP.out HAK.out HAF.out HOB.out HBn.out HBnn.out HLn.out ?_; intro v20 w10 ho hb hg hat; have HOn := Aside0.mk ho; have HBz := Aside0.mk hb; have HSz2 := Aside0.mk (ibRowsOut (n := Wp.heap.size) HSe.out hg HOk.out HWoP.out); have HLz := Aside0.mk (ibLeadOut (b := w2.heap.size) HLe.out hg HOk.out HWW.out); have HWz := Aside0.mk (Nat.le_trans HWn.out hg.size); clear ho hb hg hat)
                      go_roundw
                      case rel => exact ⟨col3 + 1, outl ++ [W_], by rw [HWc.out], ⟨by have := HI3.out; have := HQc.out; simp only [List.length_append, List.length_singleton]; omega⟩, ⟨tl2, HTL.out, by rw [List.append_assoc, List.singleton_append, ← HWE.out, show ibWord rows lead col3 lead.length 0 ((List.replicate N 0).set col3.toNat 1) :: tl2 = tl by simpa using HT4.out]; exact HT2.out⟩, HOn, HSz2, HLz, HBz, HWz⟩
                      case measure => have := HI3.out; have := HQc.out; have := HWc.out; first | (simp only [this]; omega) | (simp; omega) | omega
              · have hltc3 : decide (col3 < (N : Int)) = false := decide_eq_false hcol3
                have HFin := Aside0.mk (show outl = r1 from by
                  obtain ⟨t, h1, h2⟩ := HR3.out
                  rw [show N - col3.toNat = 0 by have := HI3.out; omega] at h1
                  rw [← h2, ← Option.some.inj (show some ([] : List (List Int)) = some t from h1)]; simp)
                clear hcol3
                go_wp2
                go_ret2
                exact ⟨_, rfl, by rw [← HFin.out]; exact Kd.S_mono HSo.out (fun _ _ => trivial), HBp.out⟩


end Go.Proofs.Ytpphjbogijjnpaa.PFnBasis
