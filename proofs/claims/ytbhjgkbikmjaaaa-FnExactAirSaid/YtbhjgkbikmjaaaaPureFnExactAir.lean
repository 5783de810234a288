import Derived.Test.YtbhjgkbikmjaaaaPFnExactAirx6
import Derived.Test.YtbhjgkbikmjaaaaAid
set_option linter.unusedVariables false
set_option linter.unusedSimpArgs false
namespace Go.Proofs.Ytbhjgkbikmjaaaa.Pure
open Go Go.RowKit Go.Proofs.Ytbhjgkbikmjaaaa.PFnExactAir Go.Proofs.YtbhjgkbikmjaaaaW.PrintWords Go.Proofs.YtbhjgkbikmjaaaaW.PrintLast Go.Proofs.YtbhjgkbikmjaaaaW.PrintMore
theorem wadd1 {e : Nat} (h : e ≤ 9000000000000000000) : wrap64 ((e : Int) + 1) = ((e + 1 : Nat) : Int) := by rw [w64 (by omega) (by omega)]; omega
theorem wadd2 {e : Nat} (h : e ≤ 9000000000000000000) : wrap64 ((e : Int) + 2) = ((e + 2 : Nat) : Int) := by rw [w64 (by omega) (by omega)]; omega
theorem wadd3 {e : Nat} (h : e ≤ 9000000000000000000) : wrap64 ((e : Int) + 3) = ((e + 3 : Nat) : Int) := by rw [w64 (by omega) (by omega)]; omega
theorem wround8 {e u : Nat} (h : e ≤ 1000000000000000000) (h2 : u ≤ 1000000000000000000) : wrap64 ((e : Int) + wrap64 (Int.tdiv (wrap64 ((u : Int) + 7)) 8)) = ((e + (u + 7) / 8 : Nat) : Int) := by
  rw [w64 (n := (u : Int) + 7) (by omega) (by omega), Int.tdiv_eq_ediv_of_nonneg (by omega), w64 (n := ((u : Int) + 7) / 8) (by omega) (by omega), w64 (by omega) (by omega)]; omega
theorem l1In_eq (a b c : Int) : spec_l1In.f a b c = some (decide (b ≤ a) && decide (a ≤ c)) := by
  unfold spec_l1In.f
  by_cases h : a ≥ b
  · rw [if_pos h]; simp [show b ≤ a from h]
  · rw [if_neg h]; simp [show ¬ b ≤ a from h]
theorem drop76 {xs : List S76} {i : Nat} (h : i < xs.length) : xs.drop i = rd_T76 xs (i : Int) :: xs.drop (i + 1) := by
  rw [show rd_T76 xs (i : Int) = xs[i] by simp [rd_T76, List.getD_eq_getElem?_getD, h]]; exact List.drop_eq_getElem_cons h
theorem get76 {xs : List S76} {i : Nat} (h : i < xs.length) : xs[i]? = some (rd_T76 xs (i : Int)) := by
  rw [show rd_T76 xs (i : Int) = xs[i] by simp [rd_T76, List.getD_eq_getElem?_getD, h]]; exact List.getElem?_eq_getElem h
theorem take79 {xs : List S79} {i : Nat} (h : i < xs.length) : xs.take (i + 1) = xs.take i ++ [rd_T79 xs (i : Int)] := by
  rw [show rd_T79 xs (i : Int) = xs[i] by simp [rd_T79, List.getD_eq_getElem?_getD, h]]; exact (List.take_append_getElem h).symm
def conv (x : S79) : S76 := ⟨x.f0, x.f1⟩
theorem toPointS_l0 (l : List S79) (hl : l.length ≤ 1048576) : ∀ (d i : Nat) (acc : List S76), i + d = l.length → acc.length = l.length → acc.take i = (l.take i).map conv → Ev (fun k => laws_toPointS.l0 k l (i : Int) acc) (l.map conv) := by
  intro d
  induction d with
  | zero =>
    intro i acc hi ha ht
    refine Ev.succ ?_
    simp only [laws_toPointS.l0]
    refine Ev.neg (by omega) (Ev.some_ ?_)
    rw [List.take_of_length_le (by omega), List.take_of_length_le (by omega)] at ht
    exact ht
  | succ d ih =>
    intro i acc hi ha ht
    refine Ev.succ ?_
    simp only [laws_toPointS.l0, laws_toPoint.f, Option.bind_some]
    rw [wadd1 (e := i) (by omega), Int.toNat_natCast]
    refine Ev.pos (by omega) (Ev.pos (by omega) (Ev.pos (by omega) (ih (i + 1) _ (by omega) (by simpa using ha) ?_)))
    rw [take_set_end (by omega), take79 (by omega), List.map_append, ht]
    rfl
theorem toPointS_ev (l : List S79) (hl : l.length ≤ 1048576) : Ev (fun k => laws_toPointS.f k l) (l.map conv) := by
  unfold laws_toPointS.f
  refine Ev.pos (by omega) (Ev.pos (by rw [Int.toNat_natCast]; omega) ?_)
  rw [Int.toNat_natCast]
  exact toPointS_l0 l hl l.length 0 _ (by omega) (by simp) (by simp)
def burstB (l : List S76) : Bool := decide ((l.length : Int) ≤ 4096) && l.all ptB
theorem l5_eq (x : Int) : spec_l5Sample.f x = some (decide (-1000000000 ≤ x) && decide (x ≤ 1000000000)) := by
  unfold spec_l5Sample.f; rw [l1In_eq]; rfl
theorem sBurst_l0 (l : List S76) (hl : l.length ≤ 100000000) : ∀ (d i : Nat), i + d = l.length → Ev (fun k => spec_l18Burst.l0 k l (i : Int)) (decide ((l.length : Int) ≤ 4096) && (l.drop i).all ptB) := by
  intro d
  induction d with
  | zero =>
    intro i hi
    refine Ev.succ ?_
    simp only [spec_l18Burst.l0]
    rw [List.drop_of_length_le (by omega)]
    exact Ev.neg (by omega) (Ev.some_ (by simp))
  | succ d ih =>
    intro i hi
    refine Ev.succ ?_
    simp only [spec_l18Burst.l0, l5_eq, Option.bind_some]
    rw [wadd1 (e := i) (by omega), drop76 (by omega), List.all_cons]
    refine Ev.pos (by omega) (Ev.pos (by omega) ?_)
    have nx := ih (i + 1) (by omega)
    unfold ptB
    cases (decide (-1000000000 ≤ (rd_T76 l (i : Int)).f0) && decide ((rd_T76 l (i : Int)).f0 ≤ 1000000000)) with
    | false => exact Ev.some_ (by simp)
    | true =>
      cases (decide (-1000000000 ≤ (rd_T76 l (i : Int)).f1) && decide ((rd_T76 l (i : Int)).f1 ≤ 1000000000)) with
      | false => exact Ev.some_ (by simp)
      | true => exact nx.to (by simp; rfl)
theorem sBurst_ev (l : List S76) (hl : l.length ≤ 100000000) : Ev (fun k => spec_l18Burst.f k l) (burstB l) := (sBurst_l0 l hl l.length 0 (by omega)).to (by simp [burstB])
def rotGo : Nat → Int → Int → Int × Int
  | 0, a, b => (a, b)
  | d + 1, a, b => rotGo d (wrap64 (-b)) a
theorem rotGo_zero : ∀ d, rotGo d 0 0 = (0, 0)
  | 0 => rfl
  | d + 1 => by simp only [rotGo]; rw [show wrap64 (-0) = 0 by rw [w64 (by omega) (by omega)]; rfl]; exact rotGo_zero d
theorem sQuarter_ev : ∀ (d : Nat) (a b : Int), d ≤ 100 → Ev (fun k => spec_l18Quarter.l0 k (d : Int) a b) (rotGo d a b)
  | 0, a, b, _ => by
    refine Ev.succ ?_
    simp only [spec_l18Quarter.l0]
    exact Ev.neg (by omega) (Ev.some_ rfl)
  | d + 1, a, b, h => by
    refine Ev.succ ?_
    simp only [spec_l18Quarter.l0]
    rw [show wrap64 (((d + 1 : Nat) : Int) - 1) = (d : Int) by rw [w64 (by omega) (by omega)]; omega]
    exact Ev.pos (by omega) (sQuarter_ev d _ _ (by omega))
theorem iTurned_l0 (q : Nat) (hq : q ≤ 100) : ∀ (d i : Nat) (a b : Int), i + d = q → Ev (fun k => impl_turned.l0 k (q : Int) (i : Int) a b) (rotGo d a b)
  | 0, i, a, b, hi => by
    refine Ev.succ ?_
    simp only [impl_turned.l0]
    exact Ev.neg (by omega) (Ev.some_ rfl)
  | d + 1, i, a, b, hi => by
    refine Ev.succ ?_
    simp only [impl_turned.l0]
    rw [wadd1 (e := i) (by omega)]
    exact Ev.pos (by omega) (iTurned_l0 q hq d (i + 1) _ _ (by omega))
def turnP (q : Nat) (x : S76) : S76 := ⟨(rotGo q x.f0 x.f1).1, (rotGo q x.f0 x.f1).2⟩
def addP (x y : S76) : S76 := ⟨wrap64 (x.f0 + y.f0), wrap64 (x.f1 + y.f1)⟩
def setGo (f : Nat → S76 → S76) : Nat → Nat → List S76 → List S76
  | 0, _, acc => acc
  | d + 1, i, acc => setGo f d (i + 1) (acc.set i (f i (rd_T76 acc (i : Int))))
theorem setGo_len (f : Nat → S76 → S76) : ∀ (d i : Nat) (acc : List S76), (setGo f d i acc).length = acc.length
  | 0, _, _ => rfl
  | d + 1, i, acc => by simp only [setGo]; rw [setGo_len f d]; simp
theorem setGo_get (f : Nat → S76 → S76) (j : Nat) : ∀ (d i : Nat) (acc : List S76), i + d ≤ acc.length → (setGo f d i acc)[j]? = if i ≤ j ∧ j < i + d then acc[j]?.map (f j) else acc[j]?
  | 0, i, acc, _ => by simp only [setGo]; rw [if_neg (by omega)]
  | d + 1, i, acc, h => by
    simp only [setGo]
    rw [setGo_get f j d (i + 1) _ (by simp; omega), List.getElem?_set]
    by_cases h1 : i = j
    · subst h1
      rw [if_neg (by omega), if_pos rfl, if_pos (by omega), if_pos (by omega), get76 (by omega)]
      rfl
    · rw [if_neg h1]
      by_cases h2 : i + 1 ≤ j ∧ j < i + 1 + d
      · rw [if_pos h2, if_pos (by omega)]
      · rw [if_neg h2, if_neg (by omega)]
def sOut (l no : List S76) (d q : Nat) : List S76 := setGo (fun i x => addP x (rd_T76 no (i : Int))) no.length 0 (List.replicate d z76 ++ l.map (turnP q))
def iOut (l no : List S76) (d q : Nat) : List S76 := setGo (fun i x => if (i : Int) < (no.length : Int) then addP (turnP q x) (rd_T76 no (i : Int)) else turnP q x) (d + l.length) 0 (List.replicate d z76 ++ l)
theorem turn_zero (q : Nat) : turnP q z76 = z76 := by
  unfold turnP z76; simp only [rotGo_zero]
theorem out_eq (l no : List S76) (d q : Nat) (h : no.length ≤ d + l.length) : iOut l no d q = sOut l no d q := by
  have e : List.replicate d z76 ++ l.map (turnP q) = (List.replicate d z76 ++ l).map (turnP q) := by
    rw [List.map_append, List.map_replicate, turn_zero]
  unfold iOut sOut
  rw [e]
  apply List.ext_getElem?
  intro j
  rw [setGo_get _ j _ _ _ (by simp), setGo_get _ j _ _ _ (by simp; omega), List.getElem?_map]
  by_cases h1 : j < d + l.length
  · rw [if_pos (by omega)]
    by_cases h2 : j < no.length
    · rw [if_pos (by omega), Option.map_map]
      congr 1
      funext x
      simp only [Function.comp]
      rw [if_pos (by omega)]
    · rw [if_neg (by omega)]
      congr 1
      funext x
      rw [if_neg (by omega)]
  · rw [if_neg (by omega), if_neg (by omega)]
    rw [List.getElem?_eq_none (by simp; omega)]
    rfl
def airEnd (o : List S76) : List S76 × Bool := if burstB o = true then (o, true) else ([], false)
def airOf (l : List S76) (a1 a2 : Int) (no : List S76) : List S76 × Bool :=
  if burstB l = true ∧ burstB no = true ∧ (0 ≤ a1 ∧ a1 ≤ 200) ∧ (0 ≤ a2 ∧ a2 ≤ 3) ∧ (no.length : Int) ≤ a1 + (l.length : Int) then airEnd (sOut l no a1.toNat a2.toNat) else ([], false)
theorem burstB_len {l : List S76} (h : burstB l = true) : l.length ≤ 4096 := by
  unfold burstB at h
  rw [Bool.and_eq_true] at h
  have := of_decide_eq_true h.1
  omega
theorem airOf_len (l : List S76) (a1 a2 : Int) (no : List S76) : (airOf l a1 a2 no).1.length ≤ 4096 := by
  unfold airOf airEnd
  split
  · split
    · rename_i h; exact burstB_len h
    · simp
  · simp
theorem sAir_l1 (no : List S76) (hn : no.length ≤ 4096) : ∀ (d i : Nat) (acc : List S76), i + d = no.length → no.length ≤ acc.length → acc.length ≤ 10000 → Ev (fun k => spec_Air.l1 k no acc (i : Int)) (airEnd (setGo (fun i x => addP x (rd_T76 no (i : Int))) d i acc)) := by
  intro d
  induction d with
  | zero =>
    intro i acc hi ha hb
    refine Ev.succ ?_
    simp only [spec_Air.l1, setGo]
    refine Ev.neg (by omega) (Ev.next (sBurst_ev acc (by omega)) ?_)
    unfold airEnd
    exact Ev.cond (fun _ => Ev.some_ rfl) (fun _ => Ev.some_ rfl)
  | succ d ih =>
    intro i acc hi ha hb
    refine Ev.succ ?_
    simp only [spec_Air.l1, setGo]
    rw [wadd1 (e := i) (by omega), Int.toNat_natCast]
    exact Ev.pos (by omega) (Ev.pos (by omega) (Ev.pos (by omega) (ih (i + 1) _ (by omega) (by simp; omega) (by simp; omega))))
theorem take76 {xs : List S76} {i : Nat} (h : i < xs.length) : xs.take (i + 1) = xs.take i ++ [rd_T76 xs (i : Int)] := by
  rw [show rd_T76 xs (i : Int) = xs[i] by simp [rd_T76, List.getD_eq_getElem?_getD, h]]; exact (List.take_append_getElem h).symm
theorem sAir_l0 (l no : List S76) (q dl : Nat) (hq : q ≤ 100) (hd : dl ≤ 200) (hl : l.length ≤ 4096) (hn : no.length ≤ 4096) (hm : no.length ≤ dl + l.length) : ∀ (d i : Nat) (acc : List S76), i + d = l.length → acc = List.replicate dl z76 ++ (l.take i).map (turnP q) → Ev (fun k => spec_Air.l0 k l (q : Int) no acc (i : Int)) (airEnd (sOut l no dl q)) := by
  intro d
  induction d with
  | zero =>
    intro i acc hi ha
    refine Ev.succ ?_
    simp only [spec_Air.l0]
    rw [List.take_of_length_le (by omega)] at ha
    subst ha
    exact Ev.neg (by omega) (sAir_l1 no hn no.length 0 _ (by omega) (by simp; omega) (by simp; omega))
  | succ d ih =>
    intro i acc hi ha
    have hal : acc.length = dl + i := by rw [ha]; simp; omega
    refine Ev.succ ?_
    simp only [spec_Air.l0]
    rw [wadd1 (e := i) (by omega)]
    refine Ev.pos (by omega) (Ev.pos (by omega) (Ev.next (sQuarter_ev q _ _ hq) (Ev.pos (by omega) (ih (i + 1) _ (by omega) ?_))))
    rw [take76 (by omega), List.map_append, ← List.append_assoc, ← ha]
    rfl
theorem iAir_l0 (no : List S76) (q : Nat) (hq : q ≤ 100) (hn : no.length ≤ 4096) (n : Nat) (hn2 : n ≤ 10000) : ∀ (d i : Nat) (acc : List S76), i + d = n → acc.length = n → Ev (fun k => impl_Air.l0 k (q : Int) no acc (n : Int) (i : Int)) (airEnd (setGo (fun i x => if (i : Int) < (no.length : Int) then addP (turnP q x) (rd_T76 no (i : Int)) else turnP q x) d i acc)) := by
  intro d
  induction d with
  | zero =>
    intro i acc hi ha
    refine Ev.succ ?_
    simp only [impl_Air.l0, setGo]
    refine Ev.neg (by omega) (Ev.next (Ev.here (r := burstB acc) rfl) ?_)
    unfold airEnd
    exact Ev.cond (fun _ => Ev.some_ rfl) (fun _ => Ev.some_ rfl)
  | succ d ih =>
    intro i acc hi ha
    refine Ev.succ ?_
    simp only [impl_Air.l0, setGo]
    rw [wadd1 (e := i) (by omega), Int.toNat_natCast]
    refine Ev.pos (by omega) (Ev.pos (by omega) (Ev.pos (by omega) (Ev.next (iTurned_l0 q hq q 0 _ _ (by omega)) ?_)))
    by_cases h : (i : Int) < (no.length : Int)
    · rw [if_pos h]
      exact Ev.pos h (ih (i + 1) _ (by omega) (by simp; omega))
    · rw [if_neg h]
      exact Ev.neg h (ih (i + 1) _ (by omega) (by simp; omega))
theorem sAir_ev (l : List S76) (a1 a2 : Int) (no : List S76) (hl : l.length ≤ 1048576) (hn : no.length ≤ 1048576) : Ev (fun k => spec_Air.f k l a1 a2 no) (airOf l a1 a2 no) := by
  have ft : ∀ b : Bool, b = true → Ev (fun k => spec_Air.j0 k l a1 a2 no b) ([], false) := by
    intro b hb
    refine Ev.succ ?_
    simp only [spec_Air.j0]
    exact Ev.pos hb (Ev.some_ rfl)
  unfold spec_Air.f airOf
  refine Ev.next (sBurst_ev l (by omega)) ?_
  by_cases h1 : burstB l = true
  · refine Ev.pos h1 (Ev.next (sBurst_ev no (by omega)) ?_)
    by_cases h2 : burstB no = true
    · have g1 := burstB_len h1
      have g2 := burstB_len h2
      refine Ev.pos h2 (Ev.next (Ev.here (l1In_eq _ _ _)) ?_)
      by_cases h3 : 0 ≤ a1 ∧ a1 ≤ 200
      · refine Ev.pos (by simp; omega) (Ev.next (Ev.here (l1In_eq _ _ _)) ?_)
        by_cases h4 : 0 ≤ a2 ∧ a2 ≤ 3
        · refine Ev.pos (by simp; omega) ?_
          rw [w64 (n := a1 + (l.length : Int)) (by omega) (by omega)]
          by_cases h5 : (no.length : Int) ≤ a1 + (l.length : Int)
          · rw [if_pos ⟨h1, h2, h3, h4, h5⟩]
            obtain ⟨d, rfl⟩ := Int.eq_ofNat_of_zero_le h3.1
            obtain ⟨q, rfl⟩ := Int.eq_ofNat_of_zero_le h4.1
            rw [Int.toNat_natCast, Int.toNat_natCast, show decide ((no.length : Int) > (d : Int) + (l.length : Int)) = false from decide_eq_false (by omega)]
            refine Ev.succ ?_
            simp only [spec_Air.j0]
            refine Ev.neg (by decide) (Ev.pos (by omega) (Ev.pos (by rw [Int.toNat_natCast]; omega) ?_))
            rw [Int.toNat_natCast]
            exact sAir_l0 l no q d (by omega) (by omega) g1 g2 (by omega) l.length 0 _ (by omega) (by simp)
          · rw [if_neg (fun h => h5 h.2.2.2.2)]
            exact ft _ (by simp; omega)
        · rw [if_neg (fun h => h4 h.2.2.2.1)]
          exact Ev.neg (by simp; omega) (ft _ rfl)
      · rw [if_neg (fun h => h3 h.2.2.1)]
        exact Ev.neg (by simp; omega) (ft _ rfl)
    · rw [if_neg (fun h => h2 h.2.1)]
      exact Ev.neg h2 (ft _ rfl)
  · rw [if_neg (fun h => h1 h.1)]
    exact Ev.neg h1 (ft _ rfl)
theorem burstB_long {l : List S76} (h : ¬ l.length ≤ 4096) : burstB l = false := by
  cases e : burstB l with
  | true => exact absurd (burstB_len e) h
  | false => rfl
theorem iAir_ev (l : List S76) (a1 a2 : Int) (no : List S76) (hl : l.length ≤ 1048576) (hn : no.length ≤ 1048576) : Ev (fun k => impl_Air.f k l a1 a2 no) (airOf l a1 a2 no) := by
  have ft : ∀ b : Bool, b = true → Ev (fun k => impl_Air.j0 k l a1 a2 no b) ([], false) := by
    intro b hb
    refine Ev.succ ?_
    simp only [impl_Air.j0]
    exact Ev.pos hb (Ev.some_ rfl)
  unfold impl_Air.f airOf
  refine Ev.next (Ev.here (r := burstB l) rfl) ?_
  by_cases h1 : burstB l = true
  · refine Ev.pos h1 (Ev.next (Ev.here (r := burstB no) rfl) ?_)
    by_cases h2 : burstB no = true
    · have g1 := burstB_len h1
      have g2 := burstB_len h2
      refine Ev.pos h2 ?_
      by_cases h3 : 0 ≤ a1 ∧ a1 ≤ 200
      · refine Ev.neg (by omega) (Ev.neg (by omega) ?_)
        by_cases h4 : 0 ≤ a2 ∧ a2 ≤ 3
        · refine Ev.neg (by omega) (Ev.neg (by omega) ?_)
          rw [w64 (n := (l.length : Int) + a1) (by omega) (by omega)]
          obtain ⟨d, rfl⟩ := Int.eq_ofNat_of_zero_le h3.1
          obtain ⟨q, rfl⟩ := Int.eq_ofNat_of_zero_le h4.1
          rw [Int.toNat_natCast, Int.toNat_natCast]
          by_cases h6 : (l.length : Int) + (d : Int) > 4096
          · refine (Ev.pos h6 (ft _ rfl)).to ?_
            split
            · unfold airEnd
              rw [if_neg]
              rw [burstB_long (by unfold sOut; rw [setGo_len]; simp; omega)]
              decide
            · rfl
          · refine Ev.neg h6 ?_
            by_cases h5 : (no.length : Int) ≤ (d : Int) + (l.length : Int)
            · rw [if_pos ⟨h1, h2, h3, h4, h5⟩, show decide ((no.length : Int) > (l.length : Int) + (d : Int)) = false from decide_eq_false (by omega), ← out_eq l no d q (by omega)]
              refine Ev.succ ?_
              simp only [impl_Air.j0]
              refine Ev.neg (by decide) (Ev.pos (by omega) (Ev.pos (by rw [Int.toNat_natCast]; omega) (Ev.next (Ev.some_ rfl) (Ev.pos (by rw [Int.toNat_natCast]; simp; omega) (Ev.next (Ev.some_ rfl) ?_)))))
              rw [Int.toNat_natCast]
              have hlen : (List.replicate d z76 ++ l).length = d + l.length := by simp
              unfold iOut
              have := iAir_l0 no q (by omega) g2 (d + l.length) (by omega) (d + l.length) 0 (List.replicate d z76 ++ l) (by omega) hlen
              rw [hlen]
              exact this
            · rw [if_neg (fun h => h5 h.2.2.2.2)]
              exact ft _ (by simp; omega)
        · rw [if_neg (fun h => h4 h.2.2.2.1)]
          by_cases h5 : a2 < 0
          · exact Ev.pos h5 (ft _ rfl)
          · exact Ev.neg h5 (Ev.pos (by omega) (ft _ rfl))
      · rw [if_neg (fun h => h3 h.2.2.1)]
        by_cases h5 : a1 < 0
        · exact Ev.pos h5 (ft _ rfl)
        · exact Ev.neg h5 (Ev.pos (by omega) (ft _ rfl))
    · rw [if_neg (fun h => h2 h.2.1)]
      exact Ev.neg h2 (ft _ rfl)
  · rw [if_neg (fun h => h1 h.1)]
    exact Ev.neg h1 (ft _ rfl)
theorem eqPointS_l0 (a b : List S76) (h : a = b) (hl : a.length ≤ 1048576) : ∀ (d i : Nat), i + d = a.length → Ev (fun k => laws_eqPointS.l0 k a b (i : Int)) true := by
  subst h
  intro d
  induction d with
  | zero =>
    intro i hi
    refine Ev.succ ?_
    simp only [laws_eqPointS.l0]
    exact Ev.neg (by omega) (Ev.some_ rfl)
  | succ d ih =>
    intro i hi
    refine Ev.succ ?_
    simp only [laws_eqPointS.l0]
    rw [wadd1 (e := i) (by omega)]
    refine Ev.pos (by omega) (Ev.pos (by omega) (Ev.pos (by omega) (Ev.next (Ev.here (r := true) ?_) (Ev.pos rfl (ih (i + 1) (by omega))))))
    unfold laws_eqPoint.f
    simp
theorem eqPointS_ev (a : List S76) (hl : a.length ≤ 1048576) : Ev (fun k => laws_eqPointS.f k a a) true := by
  unfold laws_eqPointS.f
  exact Ev.pos rfl (eqPointS_l0 a a rfl hl a.length 0 (by omega))
def iotaP (a : Int) : Nat → List S76
  | 0 => []
  | n + 1 => ⟨a, a + 1⟩ :: iotaP (a + 2) n
theorem iotaP_length : ∀ (n : Nat) (a : Int), (iotaP a n).length = n
  | 0, _ => rfl
  | n + 1, a => by simp [iotaP, iotaP_length n]
theorem rd_set76 (l : List S76) (i : Nat) (v : S76) (h : i < l.length) : rd_T76 (l.set i v) (i : Int) = v := by
  simp [rd_T76, List.getD_eq_getElem?_getD, h]
theorem markP_l0 : ∀ (d i : Nat) (l : List S76) (a : Int), i + d = l.length → l.length ≤ 1048576 → 0 ≤ a → a ≤ 1000000000 + 2 * i → Ev (fun k => laws_markPointS.l0 k l a (i : Int)) (a + 2 * d, l.take i ++ iotaP a d) := by
  intro d
  induction d with
  | zero =>
    intro i l a hi hl h0 h1
    refine Ev.succ ?_
    simp only [laws_markPointS.l0]
    refine Ev.neg (by omega) (Ev.some_ ?_)
    rw [List.take_of_length_le (by omega)]; simp [iotaP]
  | succ d ih =>
    intro i l a hi hl h0 h1
    refine Ev.succ ?_
    simp only [laws_markPointS.l0]
    rw [wadd1 (e := i) (by omega), w64_add (by omega) (by omega), w64 (n := a + 1 + 1) (by omega) (by omega), Int.toNat_natCast]
    refine Ev.pos (by omega) (Ev.pos (by omega) (Ev.next (Ev.some_ rfl) ?_))
    rw [rd_set76 l i _ (by omega), List.set_set, show a + 1 + 1 = a + 2 by omega]
    refine (ih (i + 1) (l.set i ⟨a, a + 1⟩) (a + 2) (by simp; omega) (by simpa using hl) (by omega) (by omega)).to ?_
    rw [take_set_end (by omega)]
    simp only [iotaP, List.append_assoc, List.cons_append, List.nil_append, Prod.mk.injEq, and_true]
    omega
theorem markP_ev (l : List S76) (a : Int) (hl : l.length ≤ 1048576) (h0 : 0 ≤ a) (h1 : a ≤ 1000000000) : Ev (fun k => laws_markPointS.f k l a) (a + 2 * l.length, iotaP a l.length) := by
  unfold laws_markPointS.f
  exact (markP_l0 l.length 0 l a (by omega) hl h0 (by omega)).to (by simp)
theorem heldP_l0 (p : List S76) : ∀ (d : Nat) (a : Int) (l : List S76), l = p ++ iotaP a d → l.length ≤ 1048576 → ∀ i : Nat, i = p.length → 0 ≤ a → a ≤ 1000000000 + 2 * i → Ev (fun k => laws_heldPointS.l0 k l a (i : Int)) (a + 2 * d) := by
  intro d
  induction d generalizing p with
  | zero =>
    intro a l hl hn i hi h0 h1
    refine Ev.succ ?_
    simp only [laws_heldPointS.l0]
    have : l.length = p.length := by rw [hl]; simp [iotaP]
    exact Ev.neg (by omega) (Ev.some_ (by omega))
  | succ d ih =>
    intro a l hl hn i hi h0 h1
    have e : l.length = p.length + (d + 1) := by rw [hl]; simp [iotaP, iotaP_length]
    have er : rd_T76 l (i : Int) = ⟨a, a + 1⟩ := by
      have := get76 (xs := l) (i := i) (by omega)
      rw [hl, List.getElem?_append_right (by omega), hi, Nat.sub_self] at this
      rw [hl, hi]
      exact (Option.some.inj this).symm
    refine Ev.succ ?_
    simp only [laws_heldPointS.l0, er]
    rw [wadd1 (e := i) (by omega), w64_add (by omega) (by omega), w64 (n := a + 1 + 1) (by omega) (by omega)]
    refine Ev.pos (by omega) (Ev.pos (by omega) (Ev.pos trivial (Ev.pos rfl ?_)))
    rw [show a + 1 + 1 = a + 2 by omega]
    exact (ih (p ++ [⟨a, a + 1⟩]) (a + 2) l (by rw [hl]; simp [iotaP]) hn (i + 1) (by simp [hi]) (by omega) (by omega)).to (by omega)
theorem heldP_ev (n : Nat) (a : Int) (hn : n ≤ 1048576) (h0 : 0 ≤ a) (h1 : a ≤ 1000000000) : Ev (fun k => laws_heldPointS.f k (iotaP a n) a) (a + 2 * n) :=
  heldP_l0 [] n a (iotaP a n) (by simp) (by rw [iotaP_length]; exact hn) 0 rfl h0 (by omega)
theorem FnExactAir (l0 : List S79) (a1 : Int) (a2 : Int) (l3 : List S79) (m0 : l0.length ≤ maxLen) (w0 : ∀ x ∈ l0, ((Lit.int .i64 x.f0).wf = true) ∧ ((Lit.int .i64 x.f1).wf = true)) (w1 : (Lit.int .i64 a1).wf = true) (w2 : (Lit.int .i64 a2).wf = true) (m3 : l3.length ≤ maxLen) (w3 : ∀ x ∈ l3, ((Lit.int .i64 x.f0).wf = true) ∧ ((Lit.int .i64 x.f1).wf = true)) : ∃ k, laws_FnExactAir.f k l0 a1 a2 l3 = some true := by
  refine Ev.rounds ?_
  have hm : l0.length ≤ 9223372036854775807 := by unfold maxLen at m0; omega
  have hm3 : l3.length ≤ 9223372036854775807 := by unfold maxLen at m3; omega
  unfold laws_FnExactAir.f laws_szPointS.f
  rw [w64 (n := 1048576 - (l0.length : Int)) (by omega) (by omega)]
  by_cases hl : (1048576 : Int) - (l0.length : Int) < 0
  · rw [if_pos hl]
    exact Ev.next (Ev.some_ rfl) (Ev.pos (by decide) (Ev.some_ rfl))
  · rw [if_neg hl]
    refine Ev.next (Ev.some_ rfl) (Ev.neg hl ?_)
    rw [w64 (n := 1048576 - (l0.length : Int) - (l3.length : Int)) (by omega) (by omega)]
    by_cases hl3 : (1048576 : Int) - (l0.length : Int) - (l3.length : Int) < 0
    · rw [if_pos hl3]
      exact Ev.next (Ev.some_ rfl) (Ev.pos (by decide) (Ev.some_ rfl))
    · rw [if_neg hl3]
      have t0 := toPointS_ev l0 (by omega)
      have t3 := toPointS_ev l3 (by omega)
      have n0 : (l0.map conv).length = l0.length := List.length_map _
      have n3 : (l3.map conv).length = l3.length := List.length_map _
      have si := sAir_ev (l0.map conv) a1 a2 (l3.map conv) (by omega) (by omega)
      have ii := iAir_ev (l0.map conv) a1 a2 (l3.map conv) (by omega) (by omega)
      have hg := airOf_len (l0.map conv) a1 a2 (l3.map conv)
      generalize airOf (l0.map conv) a1 a2 (l3.map conv) = r at si ii hg
      have ee := eqPointS_ev r.1 (by omega)
      refine Ev.next (Ev.some_ rfl) (Ev.neg hl3 (Ev.next t0 (Ev.next t3 (Ev.next si (Ev.next t0 (Ev.next t3 (Ev.next ii (Ev.next ee (Ev.pos rfl ?_)))))))))
      refine Ev.succ ?_
      simp only [laws_FnExactAir.j0]
      refine Ev.neg (by simp) (Ev.next t0 (Ev.next (eqPointS_ev _ (by omega)) (Ev.pos rfl (Ev.next t3 (Ev.next (eqPointS_ev _ (by omega)) (Ev.pos rfl (Ev.next (markP_ev _ 1 (by omega) (by omega) (by omega)) (Ev.next (markP_ev _ _ (by omega) (by omega) (by omega)) (Ev.neg (by simp only; omega) (Ev.next ee (Ev.pos rfl ?_)))))))))))
      refine Ev.succ ?_
      simp only [laws_FnExactAir.j1]
      have hh := heldP_ev r.1.length 1 (by omega) (by omega) (by omega)
      refine Ev.neg (by simp) (Ev.next (markP_ev r.1 1 (by omega) (by omega) (by omega)) (Ev.next hh (Ev.neg (by omega) (Ev.pos rfl (Ev.next t0 (Ev.next t3 (Ev.next ii (Ev.next ee (Ev.pos rfl ?_)))))))))
      refine Ev.succ ?_
      simp only [laws_FnExactAir.j2]
      exact Ev.neg (by simp) (Ev.next hh (Ev.neg (by omega) (Ev.pos rfl (Ev.some_ rfl))))
end Go.Proofs.Ytbhjgkbikmjaaaa.Pure
