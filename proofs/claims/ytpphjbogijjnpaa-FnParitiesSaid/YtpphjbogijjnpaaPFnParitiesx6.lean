-- Written by a turned copy of the print (see the notes of this repo): plain functions and their walks. Lean checks it.
import Derived.Test.YtpphjbogijjnpaaPFnParitiesx0
namespace Go.Proofs.Ytpphjbogijjnpaa.PFnParities
open Go.RowKit Go.Proofs.YtpphjbogijjnpaaW.PrintWords Go.Proofs.YtpphjbogijjnpaaW.PrintLast Go.Proofs.YtpphjbogijjnpaaW.PrintMore
attribute [local go_sem] max2_int min2_int max_two min_two max_three min_three max_four min_four   -- for this text's walks alone
set_option linter.unusedVariables false
set_option linter.unusedSimpArgs false

/-! ### slices_Clone_int_int: function 40 -/
def slices_Clone_int_int.f (l0 : List Int) : Option (List Int) := if l0.length < 17592186044416 then some l0 else none
set_option maxHeartbeats 4000000 in
set_option maxRecDepth 100000 in
theorem slices_Clone_int_int.calls (A0 : Option Addr) (c0 : Nat) (l0 : List Int) (r : List Int) (w : World) (hr0 : Kd.C (Kd.int .i64) w A0 l0.length l0) (hc0 : l0.length ≤ c0) (h : slices_Clone_int_int.f l0 = some r) :
 Calls Try.prog 40 #[.slice A0 l0.length c0] w fun e w' => ∃ v0_ : Value, e = .returned (v0_) ∧ Kd.R (Kd.int .i64) 3 w' w.heap.size (fun _ => True) v0_ r ∧ Below w.heap.size w w' := by
 have HL : l0.length < 17592186044416 ∧ l0 = r := by
  unfold slices_Clone_int_int.f at h
  split at h
  ·exact ⟨by assumption, zI h⟩
  ·cases h
 obtain ⟨hl, rfl⟩ := HL
 have HL := zM hl
 have HR := zM hr0
 clear hl hr0 h
 have q22 : ∀ (w : World) (a : Option Addr) (n c n' c' : Nat), (binOp .eql 23 (.slice a n c) (.slice none n' c')).run Try.prog w = .ok (.bool a.isNone) w := fun w a n c n' c' => Lib.run_eql_slice_nil w _ _ a n c n' c' Try.underlying23
 cases A0 with
 | none =>
  have q := fun (w : World) (n c n' c' : Nat) => q22 w none n c n' c'
  simp only [Option.isNone_none] at q
  go_enter Try.func40, Try.ntmps40
  go_wp2
  go_ret
  obtain rfl : l0 = [] := by
   cases l0 with
   | nil => rfl
   | cons x xs => obtain ⟨ad, e, _⟩ := HR.out.2.2 (by simp); cases e
  exact ⟨_, rfl, Kd.R_nil _ _ _ _ _, Below.refl _ _⟩
 | some ad =>
  have q := fun (w : World) (n c n' c' : Nat) => q22 w (some ad) n c n' c'
  simp only [Option.isNone_some] at q
  clear q22
  have HB := zM (Below.refl w.heap.size w)
  go_enter Try.func40, Try.ntmps40
  go_wp2_with (first | ((with_reducible refine gate_dst (N := 5) rfl ?_); refine Kd.R_lit (Kd.int .i64) (w0 := w) w.heap.size 3 ?hg (N := 5) ?hd (xs := ([] : List Int)) (inner := []) (ok := fun _ => True) (okp := fun _ => True) ?hr ?hp (fun _ hk => hk) trivial HB.out (Nat.le_refl _) (by simp) ?_; (case hd => rfl); (case hg => rfl); (case hr => first | (go_simp; done) | (go_simp; rfl)); (case hp => exact (Reps.none _ _)); intro v1 w1 ho hb hg_ hnew_; have HO := zM ho; have HB1 := zM hb; clear hg_ hnew_ ho hb) | ((with_reducible refine gate_builtin (b := .append) (xs := #[.tmp 5, .tmp 6]) rfl ?_); at_builtin; refine Kd.R_append_rows (Kd.int .i64) (w0 := w) w.heap.size rfl (.tmp 5) (.tmp 6) 23 3 (.int .i64 0) 8 rfl Try.underlying23 info3 rfl (by decide) (by omega) v1 [] l0 _ _ _ (fun _ => True) (fun _ => False) rfl rfl ?aO ?aR (fun _ _ h => h) (fun _ h => h.elim) ?aF ?aB ?aS ?aL ?_; (case aR => exact (Kd.C_below HR.out HB1.out)); (case aB => exact HB1.out); (case aF => exact (fun _ _ => trivial)); (case aO => exact HO.out); (case aS => exact HB1.out.size); (case aL => have := HL.out; simp only [List.length_nil]; omega); intro v2 w2 ho hb hg hat; have HO2 := zM ho; have HB2 := zM hb; clear ho hb hg hat))
  go_ret
  exact ⟨_, rfl, by simpa using HO2.out, HB2.out⟩


/-! ### slices_Max_int_int: function 41 -/
def maxOne (a b : Int) : Int := if a < b then b else a
def slices_Max_int_int.f (l0 : List Int) : Option Int := if 0 < l0.length then some ((l0.drop 1).foldl maxOne (rd l0 0)) else none
set_option maxHeartbeats 4000000 in
set_option maxRecDepth 100000 in
theorem slices_Max_int_int.calls (A0 : Option Addr) (c0 : Nat) (l0 : List Int) (r : Int) (w : World) (hr0 : Kd.C (Kd.int .i64) w A0 l0.length l0) (hc0 : l0.length ≤ c0) (h : slices_Max_int_int.f l0 = some r) :
 Calls Try.prog 41 #[.slice A0 l0.length c0] w fun e w' => e = .returned (.int .i64 r) ∧ Drawn0 w w' := by
 have HL : 0 < l0.length ∧ (l0.drop 1).foldl maxOne (rd l0 0) = r := by
  unfold slices_Max_int_int.f at h
  split at h
  ·exact ⟨by assumption, zI h⟩
  ·cases h
 obtain ⟨hl, hr⟩ := HL
 have HL := zM hl
 have H0 := zM hr
 have HR := zM hr0
 have HM := zM hr0.2.1
 clear hr0 h hr
 have hlt1 : decide ((l0.length : Int) < 1) = false := decide_eq_false (by omega)
 obtain ⟨ad, rfl, hx0⟩ := Kd.at_int HR.out 0 (by omega) (by omega)
 have hx1 : w.cell? ad = some (.int .i64 (rd l0 0)) := by
  rw [← show ad.add 0 = ad by cases ad; rfl]
  exact hx0
 have p0 := eq_true (show (0 : Int) ≤ 0 by omega)
 have q0 := eq_true (show (0 : Int) < (l0.length : Int) by omega)
 have q0b := eq_true (show 0 < l0.length from hl)
 clear hl
 go_enter Try.func41, Try.ntmps41
 go_wp2
 (try simp only [Act.put, zS1, zS2, zS3])
 go_loopw [3, 4] (fun v3 v4 w' => ∃ (m i : Int), v3 = .int .i64 m ∧ v4 = .int .i64 i ∧ Aside0 (1 ≤ i ∧ i ≤ (l0.length : Int)) ∧ Aside0 ((l0.drop i.toNat).foldl maxOne m = r) ∧ w = w') (fun _ v _ => l0.length - (match v with | .int _ n => n.toNat | _ => 0))
 case atStart => exact ⟨_, 1, rfl, rfl, ⟨by have := HL.out; omega⟩, H0, rfl⟩
 case round =>
  clear H0 p0 q0 q0b hx0 hx1 hlt1
  obtain ⟨m, i, rfl, rfl, HI, HA, rfl⟩ := hrel
  by_cases hi : i < (l0.length : Int)
  case neg =>
   have hlt : decide (i < (l0.length : Int)) = false := decide_eq_false hi
   have HQ := zM hi
   clear hi
   go_wp2
   go_ret
   have he := HA.out
   rw [List.drop_eq_nil_of_le (by have := HI.out; have := HQ.out; omega)] at he
   obtain rfl : m = r := he
   exact ⟨rfl, Drawn0.refl _⟩
  have hlt : decide (i < (l0.length : Int)) = true := zE hi
  obtain ⟨ad2, e2, hx⟩ := Kd.at_int HR.out i (by have := HI.out; omega) hi
  cases e2
  have p1 := eq_true (show (0 : Int) ≤ i by have := HI.out; omega)
  have q1 := eq_true hi
  have HQ := zM hi
  have hw : wrap64 (i + 1) = i + 1 := by have := HI.out; have := HM.out; unfold wrap64; omega
  have HW := zM hw
  have hd : l0.drop i.toNat = rd l0 i :: l0.drop (i + 1).toNat := by
   have h1 : i.toNat < l0.length := by have := HI.out; omega
   rw [List.drop_eq_getElem_cons h1, show (i + 1).toNat = i.toNat + 1 by have := HI.out; omega]
   simp [rd, List.getD_eq_getElem?_getD, h1]
  have HD := zM hd
  clear hi hw hd
  go_wp2
  go_roundw
  case rel => exact ⟨maxOne m (rd l0 i), i + 1, by first | rfl | (unfold maxOne; rfl) | (simp; done), by first | rfl | rw [HW.out], ⟨by have := HI.out; have := HQ.out; omega⟩, ⟨by have h := HA.out; rw [HD.out] at h; exact h⟩, by first | rfl | trivial⟩
  case measure => have := HI.out; have := HQ.out; have := HW.out; first | (simp only [this]; omega) | (simp; omega) | omega


end Go.Proofs.Ytpphjbogijjnpaa.PFnParities
