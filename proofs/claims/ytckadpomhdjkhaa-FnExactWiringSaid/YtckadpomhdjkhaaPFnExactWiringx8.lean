-- Written by a turned copy of the print (see the notes of this repo): plain functions and their walks. Lean checks it.
import Derived.Test.YtckadpomhdjkhaaPFnExactWiringx0
namespace Go.Proofs.Ytckadpomhdjkhaa.PFnExactWiring
open Go.RowKit Go.Proofs.YtckadpomhdjkhaaW.PrintWords Go.Proofs.YtckadpomhdjkhaaW.PrintLast Go.Proofs.YtckadpomhdjkhaaW.PrintMore
attribute [local go_sem] max2_int min2_int max_two min_two max_three min_three max_four min_four   -- for this text's walks alone
set_option linter.unusedVariables false
set_option linter.unusedSimpArgs false

/-! ### impl_to: function 66 -/
def impl_to.f (a0 : Int) (a1 : Int) (a2 : Int) : Option (Bool) := if a0 ≥ a1 then (some (decide (a0 ≤ a2))) else (some false)
set_option maxHeartbeats 8000000 in
set_option maxRecDepth 100000 in
theorem impl_to.calls (a0 : Int) (a1 : Int) (a2 : Int) (r : Bool) (w : World) (h : impl_to.f a0 a1 a2 = some r) :
 Calls Try.prog 66 #[.int .i64 a0, .int .i64 a1, .int .i64 a2] w fun e w' => e = .returned (.bool r) ∧ Drawn0 w w' := by
 have H : (if a0 ≥ a1 then (some (decide (a0 ≤ a2))) else (some false)) = some r := h
 clear h
 by_cases c4 : a0 ≥ a1
 case pos =>
  rw [if_pos c4] at H
  have c4b0 : decide (a1 ≤ a0) = true := zE c4
  clear c4
  obtain rfl := zI H
  go_enter Try.func66, Try.ntmps66
  go_wp2
  go_ret
  exact ⟨by first | rfl | (simp; done) | (simp [*]; done), by repeat (first | exact Drawn0.refl _ | apply Drawn0.step)⟩
 rw [if_neg c4] at H
 have c4b0 : decide (a1 ≤ a0) = false := decide_eq_false c4
 clear c4
 obtain rfl := zI H
 go_enter Try.func66, Try.ntmps66
 go_wp2
 go_ret
 exact ⟨by first | rfl | (simp; done) | (simp [*]; done), by repeat (first | exact Drawn0.refl _ | apply Drawn0.step)⟩

/-! ### impl_isLetter: function 134 -/
set_option maxRecDepth 100000 in
theorem isLetter_in (lo hi r : Int) (g : Nat) (w : World) (b : Bool) (hg : w.cell? ⟨g, 0, none⟩ = some (.int .i32 r)) (hb : (decide (lo ≤ r) && decide (r ≤ hi)) = b) :
 Calls Try.prog 144 #[.int .i32 lo, .int .i32 hi, .pointer (some ⟨g, 0, none⟩)] w fun e w' => e = .returned (.bool b) ∧ w = w' := by
 subst hb
 cases h1 : decide (lo ≤ r) with
 | false =>
  go_enter Try.func144, Try.ntmps144
  go_wp2
  go_ret
  exact ⟨rfl, rfl⟩
 | true =>
  cases h2 : decide (r ≤ hi) with
  | false =>
   go_enter Try.func144, Try.ntmps144
   go_wp2
   go_ret
   exact ⟨rfl, rfl⟩
  | true =>
   go_enter Try.func144, Try.ntmps144
   go_wp2
   go_ret
   exact ⟨rfl, rfl⟩
def letterB (r : Int) : Bool := (decide (65 ≤ r) && decide (r ≤ 90)) || ((decide (97 ≤ r) && decide (r ≤ 122)) || (((decide (192 ≤ r) && decide (r ≤ 591)) && ((r != 215) && (r != 247))) || ((decide (913 ≤ r) && decide (r ≤ 969)) && (r != 930))))
theorem isLetter_world (r : Int) (w : World) : (w.alloc (.cells #[.int .i32 r] 21)).cell? ⟨w.heap.size, 0, none⟩ = some (.int .i32 r) ∧ Below w.heap.size w (w.alloc (.cells #[.int .i32 r] 21)) :=
 ⟨by simp, (Below.refl _ _).alloc (Nat.le_refl _) _⟩
set_option maxHeartbeats 4000000 in
set_option maxRecDepth 100000 in
theorem isLetter_calls (r : Int) (w : World) :
 Calls Try.prog 134 #[.int .i32 r] w fun e w' => e = .returned (.bool (letterB r)) ∧ Below w.heap.size w w' := by
 obtain ⟨ha, hB⟩ := isLetter_world r w
 have HA := zM ha
 have HB := zM hB
 clear ha hB
 unfold letterB
 obtain ⟨b1, hb1⟩ : ∃ b, (decide (65 ≤ r) && decide (r ≤ 90)) = b := ⟨_, rfl⟩
 obtain ⟨b2, hb2⟩ : ∃ b, (decide (97 ≤ r) && decide (r ≤ 122)) = b := ⟨_, rfl⟩
 obtain ⟨b3, hb3⟩ : ∃ b, (decide (192 ≤ r) && decide (r ≤ 591)) = b := ⟨_, rfl⟩
 obtain ⟨b4, hb4⟩ : ∃ b, (decide (913 ≤ r) && decide (r ≤ 969)) = b := ⟨_, rfl⟩
 rw [hb1, hb2, hb3, hb4]
 have H1 := zM hb1
 have H2 := zM hb2
 have H3 := zM hb3
 have H4 := zM hb4
 clear hb1 hb2 hb3 hb4
 cases b1 with
 | true =>
  go_enter Try.func134, Try.ntmps134
  go_wp2_with (first | (go_at_call 144; (with_reducible refine (isLetter_in 65 90 r w.heap.size _ true HA.out H1.out).mono ?_); rintro e w' ⟨rfl, rfl⟩))
  go_ret
  exact ⟨rfl, HB.out⟩
 | false =>
  cases b2 with
  | true =>
   go_enter Try.func134, Try.ntmps134
   go_wp2_with (first | (go_at_call 144; (with_reducible refine (isLetter_in 65 90 r w.heap.size _ false HA.out H1.out).mono ?_); rintro e w' ⟨rfl, rfl⟩) | (go_at_call 144; (with_reducible refine (isLetter_in 97 122 r w.heap.size _ true HA.out H2.out).mono ?_); rintro e w' ⟨rfl, rfl⟩))
   go_ret
   exact ⟨rfl, HB.out⟩
  | false =>
   cases b3 with
   | false =>
    cases b4 with
    | false =>
     go_enter Try.func134, Try.ntmps134
     go_wp2_with (first | (go_at_call 144; (with_reducible refine (isLetter_in 65 90 r w.heap.size _ false HA.out H1.out).mono ?_); rintro e w' ⟨rfl, rfl⟩) | (go_at_call 144; (with_reducible refine (isLetter_in 97 122 r w.heap.size _ false HA.out H2.out).mono ?_); rintro e w' ⟨rfl, rfl⟩) | (go_at_call 144; (with_reducible refine (isLetter_in 192 591 r w.heap.size _ false HA.out H3.out).mono ?_); rintro e w' ⟨rfl, rfl⟩) | (go_at_call 144; (with_reducible refine (isLetter_in 913 969 r w.heap.size _ false HA.out H4.out).mono ?_); rintro e w' ⟨rfl, rfl⟩))
     go_ret
     exact ⟨rfl, HB.out⟩
    | true =>
     cases e3 : (r != 930) with
     | true =>
      go_enter Try.func134, Try.ntmps134
      go_wp2_with (first | (go_at_call 144; (with_reducible refine (isLetter_in 65 90 r w.heap.size _ false HA.out H1.out).mono ?_); rintro e w' ⟨rfl, rfl⟩) | (go_at_call 144; (with_reducible refine (isLetter_in 97 122 r w.heap.size _ false HA.out H2.out).mono ?_); rintro e w' ⟨rfl, rfl⟩) | (go_at_call 144; (with_reducible refine (isLetter_in 192 591 r w.heap.size _ false HA.out H3.out).mono ?_); rintro e w' ⟨rfl, rfl⟩) | (go_at_call 144; (with_reducible refine (isLetter_in 913 969 r w.heap.size _ true HA.out H4.out).mono ?_); rintro e w' ⟨rfl, rfl⟩))
      go_ret
      exact ⟨rfl, HB.out⟩
     | false =>
      go_enter Try.func134, Try.ntmps134
      go_wp2_with (first | (go_at_call 144; (with_reducible refine (isLetter_in 65 90 r w.heap.size _ false HA.out H1.out).mono ?_); rintro e w' ⟨rfl, rfl⟩) | (go_at_call 144; (with_reducible refine (isLetter_in 97 122 r w.heap.size _ false HA.out H2.out).mono ?_); rintro e w' ⟨rfl, rfl⟩) | (go_at_call 144; (with_reducible refine (isLetter_in 192 591 r w.heap.size _ false HA.out H3.out).mono ?_); rintro e w' ⟨rfl, rfl⟩) | (go_at_call 144; (with_reducible refine (isLetter_in 913 969 r w.heap.size _ true HA.out H4.out).mono ?_); rintro e w' ⟨rfl, rfl⟩))
      go_ret
      exact ⟨rfl, HB.out⟩
   | true =>
    cases e1 : (r != 215) with
    | true =>
     cases e2 : (r != 247) with
     | true =>
      go_enter Try.func134, Try.ntmps134
      go_wp2_with (first | (go_at_call 144; (with_reducible refine (isLetter_in 65 90 r w.heap.size _ false HA.out H1.out).mono ?_); rintro e w' ⟨rfl, rfl⟩) | (go_at_call 144; (with_reducible refine (isLetter_in 97 122 r w.heap.size _ false HA.out H2.out).mono ?_); rintro e w' ⟨rfl, rfl⟩) | (go_at_call 144; (with_reducible refine (isLetter_in 192 591 r w.heap.size _ true HA.out H3.out).mono ?_); rintro e w' ⟨rfl, rfl⟩))
      go_ret
      exact ⟨rfl, HB.out⟩
     | false =>
      cases b4 with
      | false =>
       go_enter Try.func134, Try.ntmps134
       go_wp2_with (first | (go_at_call 144; (with_reducible refine (isLetter_in 65 90 r w.heap.size _ false HA.out H1.out).mono ?_); rintro e w' ⟨rfl, rfl⟩) | (go_at_call 144; (with_reducible refine (isLetter_in 97 122 r w.heap.size _ false HA.out H2.out).mono ?_); rintro e w' ⟨rfl, rfl⟩) | (go_at_call 144; (with_reducible refine (isLetter_in 192 591 r w.heap.size _ true HA.out H3.out).mono ?_); rintro e w' ⟨rfl, rfl⟩) | (go_at_call 144; (with_reducible refine (isLetter_in 913 969 r w.heap.size _ false HA.out H4.out).mono ?_); rintro e w' ⟨rfl, rfl⟩))
       go_ret
       exact ⟨rfl, HB.out⟩
      | true =>
       cases e3 : (r != 930) with
       | true =>
        go_enter Try.func134, Try.ntmps134
        go_wp2_with (first | (go_at_call 144; (with_reducible refine (isLetter_in 65 90 r w.heap.size _ false HA.out H1.out).mono ?_); rintro e w' ⟨rfl, rfl⟩) | (go_at_call 144; (with_reducible refine (isLetter_in 97 122 r w.heap.size _ false HA.out H2.out).mono ?_); rintro e w' ⟨rfl, rfl⟩) | (go_at_call 144; (with_reducible refine (isLetter_in 192 591 r w.heap.size _ true HA.out H3.out).mono ?_); rintro e w' ⟨rfl, rfl⟩) | (go_at_call 144; (with_reducible refine (isLetter_in 913 969 r w.heap.size _ true HA.out H4.out).mono ?_); rintro e w' ⟨rfl, rfl⟩))
        go_ret
        exact ⟨rfl, HB.out⟩
       | false =>
        go_enter Try.func134, Try.ntmps134
        go_wp2_with (first | (go_at_call 144; (with_reducible refine (isLetter_in 65 90 r w.heap.size _ false HA.out H1.out).mono ?_); rintro e w' ⟨rfl, rfl⟩) | (go_at_call 144; (with_reducible refine (isLetter_in 97 122 r w.heap.size _ false HA.out H2.out).mono ?_); rintro e w' ⟨rfl, rfl⟩) | (go_at_call 144; (with_reducible refine (isLetter_in 192 591 r w.heap.size _ true HA.out H3.out).mono ?_); rintro e w' ⟨rfl, rfl⟩) | (go_at_call 144; (with_reducible refine (isLetter_in 913 969 r w.heap.size _ true HA.out H4.out).mono ?_); rintro e w' ⟨rfl, rfl⟩))
        go_ret
        exact ⟨rfl, HB.out⟩
    | false =>
     cases b4 with
     | false =>
      go_enter Try.func134, Try.ntmps134
      go_wp2_with (first | (go_at_call 144; (with_reducible refine (isLetter_in 65 90 r w.heap.size _ false HA.out H1.out).mono ?_); rintro e w' ⟨rfl, rfl⟩) | (go_at_call 144; (with_reducible refine (isLetter_in 97 122 r w.heap.size _ false HA.out H2.out).mono ?_); rintro e w' ⟨rfl, rfl⟩) | (go_at_call 144; (with_reducible refine (isLetter_in 192 591 r w.heap.size _ true HA.out H3.out).mono ?_); rintro e w' ⟨rfl, rfl⟩) | (go_at_call 144; (with_reducible refine (isLetter_in 913 969 r w.heap.size _ false HA.out H4.out).mono ?_); rintro e w' ⟨rfl, rfl⟩))
      go_ret
      exact ⟨rfl, HB.out⟩
     | true =>
      cases e3 : (r != 930) with
      | true =>
       go_enter Try.func134, Try.ntmps134
       go_wp2_with (first | (go_at_call 144; (with_reducible refine (isLetter_in 65 90 r w.heap.size _ false HA.out H1.out).mono ?_); rintro e w' ⟨rfl, rfl⟩) | (go_at_call 144; (with_reducible refine (isLetter_in 97 122 r w.heap.size _ false HA.out H2.out).mono ?_); rintro e w' ⟨rfl, rfl⟩) | (go_at_call 144; (with_reducible refine (isLetter_in 192 591 r w.heap.size _ true HA.out H3.out).mono ?_); rintro e w' ⟨rfl, rfl⟩) | (go_at_call 144; (with_reducible refine (isLetter_in 913 969 r w.heap.size _ true HA.out H4.out).mono ?_); rintro e w' ⟨rfl, rfl⟩))
       go_ret
       exact ⟨rfl, HB.out⟩
      | false =>
       go_enter Try.func134, Try.ntmps134
       go_wp2_with (first | (go_at_call 144; (with_reducible refine (isLetter_in 65 90 r w.heap.size _ false HA.out H1.out).mono ?_); rintro e w' ⟨rfl, rfl⟩) | (go_at_call 144; (with_reducible refine (isLetter_in 97 122 r w.heap.size _ false HA.out H2.out).mono ?_); rintro e w' ⟨rfl, rfl⟩) | (go_at_call 144; (with_reducible refine (isLetter_in 192 591 r w.heap.size _ true HA.out H3.out).mono ?_); rintro e w' ⟨rfl, rfl⟩) | (go_at_call 144; (with_reducible refine (isLetter_in 913 969 r w.heap.size _ true HA.out H4.out).mono ?_); rintro e w' ⟨rfl, rfl⟩))
       go_ret
       exact ⟨rfl, HB.out⟩
def impl_isLetter.f (a0 : Int) : Option Bool := some (letterB a0)
theorem impl_isLetter.calls (a0 : Int) (r : Bool) (w : World) (h : impl_isLetter.f a0 = some r) :
 Calls Try.prog 134 #[.int .i32 a0] w fun e w' => e = .returned (.bool r) ∧ Below w.heap.size w w' := by
 obtain rfl := zI h
 exact isLetter_calls a0 w


/-! ### impl_NodeName: function 103 -/
def badRune (first : Bool) (r : Int) : Bool := (r == 65533) || (!letterB r && (first || ((r != 95) && (decide (r < 48) || decide (57 < r)))))
def nodeGo (s : ByteArray) : Nat → Nat → Int → Bool
 | 0, _, acc => decide (1 ≤ acc) && decide (acc ≤ 12)
 | b + 1, pos, acc => if pos < s.size then (if badRune (pos == 0) ((Utf8.decode s pos).1 : Int) = true then false else nodeGo s b (pos + (Utf8.decode s pos).2) (wrap64 (acc + 1))) else decide (1 ≤ acc) && decide (acc ≤ 12)
theorem nodeGo_end (s : ByteArray) (b pos : Nat) (acc : Int) (h : ¬ pos < s.size) : nodeGo s b pos acc = (decide (1 ≤ acc) && decide (acc ≤ 12)) := by
 cases b with
 | zero => rfl
 | succ b => exact if_neg h
theorem width_pos (s : ByteArray) (pos : Nat) (h : pos < s.size) : 1 ≤ (Utf8.decode s pos).2 := by
 by_cases ha : (s[pos]'h).toNat < 128
 case neg => exact (decode_high s pos h (by omega)).2
 rw [decode_ascii s pos h ha]
 exact Nat.le_refl _
def impl_NodeName.f (s : ByteArray) : Option Bool := some (nodeGo s s.size 0 0)
theorem node_start (w : World) (s : ByteArray) : (w.iter s 0).heap[w.heap.size]? = some (.stringIter s 0) ∧ Below w.heap.size w (w.iter s 0) := ⟨World.iter_heap w s 0, (Below.refl _ _).alloc (Nat.le_refl _) _⟩
theorem node_round (w w' : World) (s : ByteArray) (pos : Nat) (hk : w'.heap[w.heap.size]? = some (.stringIter s pos)) (hB : Below w.heap.size w w') (p : Nat) : (w'.iterAt w.heap.size s p).heap[w.heap.size]? = some (.stringIter s p) ∧ Below w.heap.size w (w'.iterAt w.heap.size s p) := ⟨Lib.iterAt_heap w' _ s pos p hk, Lib.below_iterAt hB (Nat.le_refl _) s p⟩
theorem node_call (w w2 w3 : World) (s : ByteArray) (p : Nat) (hk : w2.heap[w.heap.size]? = some (.stringIter s p)) (hB : Below w.heap.size w w2) (hb : Below w2.heap.size w2 w3) : w3.heap[w.heap.size]? = some (.stringIter s p) ∧ Below w.heap.size w w3 := ⟨zNb hk hb, below_step hB hb⟩
theorem iterPos_of {w : World} {k : Nat} {s : ByteArray} {p : Nat} (h : w.heap[k]? = some (.stringIter s p)) : w.iterPos k = p := by simp [World.iterPos, h]
set_option maxHeartbeats 4000000 in
set_option maxRecDepth 100000 in
theorem impl_NodeName.calls (s : ByteArray) (r : Bool) (w : World) (h : impl_NodeName.f s = some r) :
 Calls Try.prog 103 #[.string s] w fun e w' => e = .returned (.bool r) ∧ Below w.heap.size w w' := by
 have hR := zI h
 clear h
 obtain ⟨hs1, hs2⟩ := node_start w s
 have S1 := zM hs1
 have S2 := zM hs2
 clear hs1 hs2
 go_enter Try.func103, Try.ntmps103
 go_wp2
 go_loopw [3] (fun n w' => ∃ (pos b : Nat) (acc : Int), n = .int .i64 acc ∧ Aside0 (w'.heap[w.heap.size]? = some (.stringIter s pos)) ∧ Aside0 (Below w.heap.size w w') ∧ Aside0 (nodeGo s b pos acc = r) ∧ Aside0 (s.size ≤ pos + b)) (fun _ w' => s.size - w'.iterPos w.heap.size)
 case atStart => exact ⟨0, s.size, 0, rfl, S1, S2, ⟨hR⟩, ⟨by omega⟩⟩
 case round =>
  obtain ⟨pos, b, acc, rfl, HK, HB, HC, HN⟩ := hrel
  by_cases hp : pos < s.size
  case neg =>
   have hnx : ∀ ty, (Instr.next (.pointer (some ⟨w.heap.size, 0, none⟩)) true ty).run Try.prog wr = _ := fun ty => Lib.run_next_end_at wr w.heap.size s pos ty HK.out hp
   have hC := HC.out
   rw [nodeGo_end s b pos acc hp] at hC
   cases f1 : decide (1 ≤ acc) with
   | false =>
    rw [f1, Bool.false_and] at hC
    subst hC
    go_wp2
    go_ret
    exact ⟨rfl, HB.out⟩
   | true =>
    rw [f1, Bool.true_and] at hC
    subst hC
    go_wp2
    go_ret
    exact ⟨rfl, HB.out⟩
  have hnx : ∀ ty, (Instr.next (.pointer (some ⟨w.heap.size, 0, none⟩)) true ty).run Try.prog wr = _ := fun ty => Lib.run_next_any_at wr w.heap.size s pos ty HK.out hp
  have hwd := zM (width_pos s pos hp)
  have hp_ := zM hp
  obtain ⟨hk2, hB2⟩ := node_round w wr s pos HK.out HB.out (pos + (Utf8.decode s pos).2)
  have HK2 := zM hk2
  have HB2 := zM hB2
  have HM := zM (iterPos_of HK.out)
  clear hk2 hB2
  cases b with
  | zero => exact absurd HN.out (by have := hp; omega)
  | succ b =>
  have hC := HC.out
  rw [show nodeGo s (b + 1) pos acc = _ from if_pos hp] at hC
  clear HC hp
  generalize hcc : ((Utf8.decode s pos).1 : Int) = c at hnx hC
  clear hcc
  unfold badRune at hC
  cases e1 : (c == 65533) with
  | true =>
   rw [e1] at hC
   simp only [Bool.true_or, if_true] at hC
   subst hC
   go_wp2
   go_ret
   exact ⟨rfl, HB2.out⟩
  | false =>
   rw [e1, Bool.false_or] at hC
   have LC := zM (isLetter_calls c)
   cases e2 : letterB c with
   | true =>
    rw [e2] at hC LC
    simp only [Bool.not_true, Bool.false_and, Bool.false_eq_true, if_false] at hC
    have HC := zM hC
    clear hC e2
    go_wp2_with (go_at_call 134; (with_reducible refine (LC.out _).mono ?_); rintro e w3 ⟨rfl, hb3⟩)
    obtain ⟨hk3, hB3⟩ := node_call w _ w3 s _ HK2.out HB2.out hb3
    go_roundw
    case rel => exact ⟨_, b, _, rfl, ⟨hk3⟩, ⟨hB3⟩, HC, ⟨by have := HN.out; have := hwd.out; omega⟩⟩
    case measure => rw [iterPos_of hk3, HM.out]; have := hp_.out; have := hwd.out; omega
   | false =>
    rw [e2] at hC LC
    clear e2
    cases e3 : (pos == 0) with
    | true =>
     have T3 : (((pos : Nat) : Int) == 0) = true := by simpa using e3
     rw [e3] at hC
     clear e3
     simp only [Bool.not_false, Bool.true_and, Bool.true_or, Bool.false_or, if_true] at hC
     subst hC
     go_wp2_with (go_at_call 134; (with_reducible refine (LC.out _).mono ?_); rintro e w3 ⟨rfl, hb3⟩)
     obtain ⟨hk3, hB3⟩ := node_call w _ w3 s _ HK2.out HB2.out hb3
     go_ret
     exact ⟨rfl, hB3⟩
    | false =>
     have T3 : (((pos : Nat) : Int) == 0) = false := by simpa using e3
     rw [e3] at hC
     clear e3
     cases e4 : (c != 95) with
     | false =>
      rw [e4] at hC
      simp only [Bool.not_false, Bool.true_and, Bool.false_and, Bool.and_false, Bool.or_false, Bool.false_or, Bool.false_eq_true, if_false] at hC
      have HC := zM hC
      clear hC
      go_wp2_with (go_at_call 134; (with_reducible refine (LC.out _).mono ?_); rintro e w3 ⟨rfl, hb3⟩)
      obtain ⟨hk3, hB3⟩ := node_call w _ w3 s _ HK2.out HB2.out hb3
      go_roundw
      case rel => exact ⟨_, b, _, rfl, ⟨hk3⟩, ⟨hB3⟩, HC, ⟨by have := HN.out; have := hwd.out; omega⟩⟩
      case measure => rw [iterPos_of hk3, HM.out]; have := hp_.out; have := hwd.out; omega
     | true =>
      rw [e4] at hC
      cases e5 : decide (c < 48) with
      | true =>
       rw [e5] at hC
       simp only [Bool.not_false, Bool.true_and, Bool.true_or, Bool.false_or, if_true] at hC
       subst hC
       go_wp2_with (go_at_call 134; (with_reducible refine (LC.out _).mono ?_); rintro e w3 ⟨rfl, hb3⟩)
       obtain ⟨hk3, hB3⟩ := node_call w _ w3 s _ HK2.out HB2.out hb3
       go_ret
       exact ⟨rfl, hB3⟩
      | false =>
       rw [e5] at hC
       cases e6 : decide (57 < c) with
       | true =>
        rw [e6] at hC
        simp only [Bool.not_false, Bool.true_and, Bool.true_or, Bool.false_or, if_true] at hC
        subst hC
        go_wp2_with (go_at_call 134; (with_reducible refine (LC.out _).mono ?_); rintro e w3 ⟨rfl, hb3⟩)
        obtain ⟨hk3, hB3⟩ := node_call w _ w3 s _ HK2.out HB2.out hb3
        go_ret
        exact ⟨rfl, hB3⟩
       | false =>
        rw [e6] at hC
        simp only [Bool.not_false, Bool.true_and, Bool.false_and, Bool.and_false, Bool.or_false, Bool.false_or, Bool.false_eq_true, if_false] at hC
        have HC := zM hC
        clear hC
        go_wp2_with (go_at_call 134; (with_reducible refine (LC.out _).mono ?_); rintro e w3 ⟨rfl, hb3⟩)
        obtain ⟨hk3, hB3⟩ := node_call w _ w3 s _ HK2.out HB2.out hb3
        go_roundw
        case rel => exact ⟨_, b, _, rfl, ⟨hk3⟩, ⟨hB3⟩, HC, ⟨by have := HN.out; have := hwd.out; omega⟩⟩
        case measure => rw [iterPos_of hk3, HM.out]; have := hp_.out; have := hwd.out; omega


/-! ### impl_plainKind: function 104 -/
def impl_plainKind.f (a0 : Int) : Option (Bool) := if a0 = 1 then (some true) else (if a0 = 2 then (some true) else (some (a0 == 4)))
set_option maxHeartbeats 8000000 in
set_option maxRecDepth 100000 in
theorem impl_plainKind.calls (a0 : Int) (r : Bool) (w : World) (h : impl_plainKind.f a0 = some r) :
 Calls Try.prog 104 #[.int .i64 a0] w fun e w' => e = .returned (.bool r) ∧ Drawn0 w w' := by
 have H : (if a0 = 1 then (some true) else (if a0 = 2 then (some true) else (some (a0 == 4)))) = some r := h
 clear h
 by_cases c2 : a0 = 1
 case pos =>
  rw [if_pos c2] at H
  have c2b0 : (a0 == 1) = true := beq_iff_eq.mpr c2
  have c2b1 : (a0 != 1) = false := bne_eq_false_iff_eq.mpr c2
  clear c2
  obtain rfl := zI H
  go_enter Try.func104, Try.ntmps104
  go_wp2
  go_ret
  exact ⟨by first | rfl | (simp; done) | (simp [*]; done), by repeat (first | exact Drawn0.refl _ | apply Drawn0.step)⟩
 rw [if_neg c2] at H
 have c2b0 : (a0 == 1) = false := beq_eq_false_iff_ne.mpr c2
 have c2b1 : (a0 != 1) = true := bne_iff_ne.mpr c2
 by_cases c3 : a0 = 2
 case neg =>
  rw [if_neg c3] at H
  have c3b0 : (a0 == 2) = false := beq_eq_false_iff_ne.mpr c3
  have c3b1 : (a0 != 2) = true := bne_iff_ne.mpr c3
  obtain rfl := zI H
  go_enter Try.func104, Try.ntmps104
  go_wp2
  go_ret
  exact ⟨by first | rfl | (simp; done) | (simp [*]; done), by repeat (first | exact Drawn0.refl _ | apply Drawn0.step)⟩
 rw [if_pos c3] at H
 have c3b0 : (a0 == 2) = true := beq_iff_eq.mpr c3
 have c3b1 : (a0 != 2) = false := bne_eq_false_iff_eq.mpr c3
 clear c3
 obtain rfl := zI H
 go_enter Try.func104, Try.ntmps104
 go_wp2
 go_ret
 exact ⟨by first | rfl | (simp; done) | (simp [*]; done), by repeat (first | exact Drawn0.refl _ | apply Drawn0.step)⟩

/-! ### impl_nodeOk: function 65 -/
def impl_nodeOk.j0 : Nat → Bool → ByteArray → Int → Int → Option (Bool)
 | 0, _, _, _, _ => none
 | k + 1, x3, x236000, x236001, x236002 => if x3 = true then (some false) else ((impl_plainKind.f x236001).bind fun t237 => (if t237 = true then (some (x236002 == 0)) else (if x236001 = 3 then ((impl_to.f x236002 (-1000) 1000).bind fun t238 => (some t238)) else ((impl_to.f x236002 1 64).bind fun t239 => (some t239)))))
def impl_nodeOk.f (k : Nat) (a0_0 : ByteArray) (a0_1 : Int) (a0_2 : Int) : Option (Bool) := (impl_NodeName.f a0_0).bind fun t236 => (if t236 = true then (if a0_1 < 1 then (impl_nodeOk.j0 k true a0_0 a0_1 a0_2) else (impl_nodeOk.j0 k (decide (a0_1 > 8)) a0_0 a0_1 a0_2)) else (impl_nodeOk.j0 k true a0_0 a0_1 a0_2))
theorem impl_nodeOk.mono_l : ∀ k, (∀ y0 y1 y2 y3, LeO (impl_nodeOk.j0 k y0 y1 y2 y3) (impl_nodeOk.j0 (k + 1) y0 y1 y2 y3))
 | 0 => fun _ _ _ _ r h => by simp [impl_nodeOk.j0] at h
 | k + 1 => by
  have ih0 := impl_nodeOk.mono_l k
  ·intro y0 y1 y2 y3
   unfold impl_nodeOk.j0
   repeat' first
   | (with_reducible exact ih0 _ _ _ _)
   | (with_reducible exact LeO.refl _)
   | (with_reducible exact LeO.none _)
   | (with_reducible refine LeO.ite ?_ ?_)
   | (with_reducible refine LeO.bind ?_ (fun _ => ?_))
theorem impl_nodeOk.mono : ∀ a0 a1 a2 k, LeO (impl_nodeOk.f k a0 a1 a2) (impl_nodeOk.f (k + 1) a0 a1 a2) := by
 intro a0 a1 a2 k
 have ih0 := impl_nodeOk.mono_l k
 unfold impl_nodeOk.f
 repeat' first
  | (with_reducible exact ih0 _ _ _ _)
  | (with_reducible exact LeO.refl _)
  | (with_reducible exact LeO.none _)
  | (with_reducible refine LeO.ite ?_ ?_)
  | (with_reducible refine LeO.bind ?_ (fun _ => ?_))
set_option maxHeartbeats 8000000 in
set_option maxRecDepth 100000 in
theorem impl_nodeOk.calls (k : Nat) (a0_0 : ByteArray) (a0_1 : Int) (a0_2 : Int) (r : Bool) (w : World) (h : impl_nodeOk.f k a0_0 a0_1 a0_2 = some r) :
 Calls Try.prog 65 #[.agg #[.string a0_0, .int .i64 a0_1, .int .i64 a0_2]] w fun e w' => e = .returned (.bool r) ∧ Below w.heap.size w w' := by
 have hu94 := Try.underlying94
 have HB := zM (Below.refl w.heap.size w)
 have H : ((impl_NodeName.f a0_0).bind fun t236 => (if t236 = true then (if a0_1 < 1 then (impl_nodeOk.j0 k true a0_0 a0_1 a0_2) else (impl_nodeOk.j0 k (decide (a0_1 > 8)) a0_0 a0_1 a0_2)) else (impl_nodeOk.j0 k true a0_0 a0_1 a0_2))) = some r := h
 clear h
 have HC2 := zM H
 clear H
 go_enter Try.func65, Try.ntmps65
 go_upto_region 1 with (first | ((with_reducible refine gate_dst (N := 1) rfl ?_); refine box_event ?hg (N := 1) ?hd (cs := #[.string a0_0, .int .i64 a0_1, .int .i64 a0_2]) (t := 94) ?hr ?_; (case hd => rfl); (case hg => rfl); (case hr => first | (go_simp; done) | (go_simp; rfl)); intro gb235 hg w3 hbox hb; have n0_ := zM (below_step (by repeat (first | (with_reducible first | exact HB.out | apply zBa | apply zBn | apply zBd) | exact HB.out)) hb); have n1_ := zM (hbox); have n2_ := zM ((by rw [hg]; exact (below_size (by repeat (first | (with_reducible first | exact HB.out | apply zBa | apply zBn | apply zBd) | exact HB.out))) : w.heap.size ≤ gb235)); have n3_ := zM n2_.out; clear HB; have HB := n0_; have BK235 := n1_; have GW235 := n2_; have GE235 := n3_; clear n0_ n1_ n2_ n3_; clear hb hbox hg))
 (try simp only [Act.put, zS1, zS2, zS3])
 go_cut [3] (fun v3 wc => ∃ (kq : Nat) (x3_1 : Bool), v3 = .bool x3_1 ∧ Aside0 (impl_nodeOk.j0 kq x3_1 a0_0 a0_1 a0_2 = some r) ∧ Aside0 (kq ≤ k) ∧ Aside0 (wc.heap[gb235]? = some (.cells #[.string a0_0, .int .i64 a0_1, .int .i64 a0_2] 94 (0, 0))) ∧ Aside0 (Below w.heap.size w wc))
 case first =>
  have H := HC2.out
  clear HC2
  replace H := zO.mp H
  obtain ⟨t236, A40, H⟩ := H
  replace H : (if t236 = true then (if a0_1 < 1 then (impl_nodeOk.j0 k true a0_0 a0_1 a0_2) else (impl_nodeOk.j0 k (decide (a0_1 > 8)) a0_0 a0_1 a0_2)) else (impl_nodeOk.j0 k true a0_0 a0_1 a0_2)) = some r := H
  have A4 := zM A40
  clear A40
  by_cases c5 : t236 = true
  case neg =>
   replace c5 := Bool.eq_false_iff.mpr c5
   subst c5
   have H1 : (impl_nodeOk.j0 k true a0_0 a0_1 a0_2) = some r := by rw [if_neg (show ¬ (false = true) by decide)] at H; exact H
   clear H
   have H := H1
   clear H1
   have H' := zM H
   clear H
   obtain ⟨hcz13_0, hcz13_1, hcz13_2, hfz13_0, hfz13_1, hfz13_2⟩ := zc3 BK235.out
   go_wp2_with (first | ((with_reducible refine gate_callee (f := 103) rfl ?_); refine goesL_ (some 6) rfl rfl Try.func103 (by kernel_rfl) rfl #[.string a0_0] rfl (by (try simp only [List.map_toArray, List.map_cons, List.map_nil]); first | done | rfl | (simp only [List.length_drop, List.length_take]; rfl)) ?_; (with_reducible refine (impl_NodeName.calls a0_0 false _ A4.out).mono ?_); rintro e w14 ⟨rfl, hb⟩; refine ⟨_, rfl, ?_⟩; have n0_ := zM (zNb (g := gb235) (o := .cells #[.string a0_0, .int .i64 a0_1, .int .i64 a0_2] 94 (0, 0)) (by (with_reducible repeat (first | apply zNn | apply zNd | apply zNa)); exact BK235.out) hb); have n1_ := zM (below_step (by repeat (first | (with_reducible first | exact HB.out | apply zBa | apply zBn | apply zBd | refine zBs ?_ GE235.out) | exact HB.out)) hb); clear BK235; clear HB; have BK235 := n0_; have HB := n1_; clear n0_ n1_; (try clear hb); (try clear hb2); (try clear hk); (try clear hi)))
   go_meet
   case rel => exact ⟨_, (true), (by first | rfl | (simp; done) | (simp [*]; done)), H', ⟨by first | omega | exact Nat.le_refl _⟩, ⟨by (with_reducible repeat (first | apply zNn | apply zNd | apply zNa)); exact BK235.out⟩, ⟨by repeat (first | (with_reducible first | exact HB.out | apply zBa | apply zBn | apply zBd | refine zBs ?_ GE235.out) | exact HB.out)⟩⟩
  subst c5
  have H1 : (if a0_1 < 1 then (impl_nodeOk.j0 k true a0_0 a0_1 a0_2) else (impl_nodeOk.j0 k (decide (a0_1 > 8)) a0_0 a0_1 a0_2)) = some r := by rw [if_pos rfl] at H; exact H
  clear H
  have H := H1
  clear H1
  by_cases c6 : a0_1 < 1
  case pos =>
   rw [if_pos c6] at H
   have c6b0 : decide (a0_1 < 1) = true := zE c6
   clear c6
   (first | rw [c6b0] | (simp only [i64_w, i32_w]; rw [c6b0]) | skip)
   have H' := zM H
   clear H
   obtain ⟨hcz7_0, hcz7_1, hcz7_2, hfz7_0, hfz7_1, hfz7_2⟩ := zc3 BK235.out
   go_wp2_with (first | ((with_reducible refine gate_callee (f := 103) rfl ?_); refine goesL_ (some 6) rfl rfl Try.func103 (by kernel_rfl) rfl #[.string a0_0] rfl (by (try simp only [List.map_toArray, List.map_cons, List.map_nil]); first | done | rfl | (simp only [List.length_drop, List.length_take]; rfl)) ?_; (with_reducible refine (impl_NodeName.calls a0_0 true _ A4.out).mono ?_); rintro e w8 ⟨rfl, hb⟩; refine ⟨_, rfl, ?_⟩; have n0_ := zM (zNb (g := gb235) (o := .cells #[.string a0_0, .int .i64 a0_1, .int .i64 a0_2] 94 (0, 0)) (by (with_reducible repeat (first | apply zNn | apply zNd | apply zNa)); exact BK235.out) hb); have n1_ := zM (below_step (by repeat (first | (with_reducible first | exact HB.out | apply zBa | apply zBn | apply zBd | refine zBs ?_ GE235.out) | exact HB.out)) hb); clear BK235; clear HB; have BK235 := n0_; have HB := n1_; clear n0_ n1_; (try clear hb); (try clear hb2); (try clear hk); (try clear hi); obtain ⟨hcz9_0, hcz9_1, hcz9_2, hfz9_0, hfz9_1, hfz9_2⟩ := zc3 BK235.out))
   go_meet
   case rel => exact ⟨_, (true), (by first | rfl | (simp; done) | (simp [*]; done)), H', ⟨by first | omega | exact Nat.le_refl _⟩, ⟨by (with_reducible repeat (first | apply zNn | apply zNd | apply zNa)); exact BK235.out⟩, ⟨by repeat (first | (with_reducible first | exact HB.out | apply zBa | apply zBn | apply zBd | refine zBs ?_ GE235.out) | exact HB.out)⟩⟩
  rw [if_neg c6] at H
  have c6b0 : decide (a0_1 < 1) = false := decide_eq_false c6
  clear c6
  (first | rw [c6b0] | (simp only [i64_w, i32_w]; rw [c6b0]) | skip)
  have H' := zM H
  clear H
  obtain ⟨hcz10_0, hcz10_1, hcz10_2, hfz10_0, hfz10_1, hfz10_2⟩ := zc3 BK235.out
  go_wp2_with (first | ((with_reducible refine gate_callee (f := 103) rfl ?_); refine goesL_ (some 6) rfl rfl Try.func103 (by kernel_rfl) rfl #[.string a0_0] rfl (by (try simp only [List.map_toArray, List.map_cons, List.map_nil]); first | done | rfl | (simp only [List.length_drop, List.length_take]; rfl)) ?_; (with_reducible refine (impl_NodeName.calls a0_0 true _ A4.out).mono ?_); rintro e w11 ⟨rfl, hb⟩; refine ⟨_, rfl, ?_⟩; have n0_ := zM (zNb (g := gb235) (o := .cells #[.string a0_0, .int .i64 a0_1, .int .i64 a0_2] 94 (0, 0)) (by (with_reducible repeat (first | apply zNn | apply zNd | apply zNa)); exact BK235.out) hb); have n1_ := zM (below_step (by repeat (first | (with_reducible first | exact HB.out | apply zBa | apply zBn | apply zBd | refine zBs ?_ GE235.out) | exact HB.out)) hb); clear BK235; clear HB; have BK235 := n0_; have HB := n1_; clear n0_ n1_; (try clear hb); (try clear hb2); (try clear hk); (try clear hi); obtain ⟨hcz12_0, hcz12_1, hcz12_2, hfz12_0, hfz12_1, hfz12_2⟩ := zc3 BK235.out))
  go_meet
  case rel => exact ⟨_, (decide (a0_1 > 8)), (by first | rfl | (simp; done) | (simp [*]; done)), H', ⟨by first | omega | exact Nat.le_refl _⟩, ⟨by (with_reducible repeat (first | apply zNn | apply zNd | apply zNa)); exact BK235.out⟩, ⟨by repeat (first | (with_reducible first | exact HB.out | apply zBa | apply zBn | apply zBd | refine zBs ?_ GE235.out) | exact HB.out)⟩⟩
 case rest =>
  clear HC2
  try clear c1
  try clear p2
  try clear c5
  try clear c6
  try clear c6b0
  try clear c10
  try clear hcz10_0
  try clear hcz10_1
  try clear hcz10_2
  try clear hcz12_0
  try clear hcz12_1
  try clear hcz12_2
  try clear hcz13_0
  try clear hcz13_1
  try clear hcz13_2
  try clear hcz7_0
  try clear hcz7_1
  try clear hcz7_2
  try clear hcz9_0
  try clear hcz9_1
  try clear hcz9_2
  try clear hfz10_0
  try clear hfz10_1
  try clear hfz10_2
  try clear hfz12_0
  try clear hfz12_1
  try clear hfz12_2
  try clear hfz13_0
  try clear hfz13_1
  try clear hfz13_2
  try clear hfz7_0
  try clear hfz7_1
  try clear hfz7_2
  try clear hfz9_0
  try clear hfz9_1
  try clear hfz9_2
  obtain ⟨kq, x3_1, rfl, HA, HJ1, BK235, HB⟩ := hcut
  cases kq with
  | zero => exact absurd HA.out (by simp [impl_nodeOk.j0])
  | succ kj1 =>
   have H := HA.out
   clear HA
   simp only [impl_nodeOk.j0] at H
   by_cases c15 : x3_1 = true
   case pos =>
    subst c15
    have H1 : (some false) = some r := by rw [if_pos rfl] at H; exact H
    clear H
    have H := H1
    clear H1
    obtain rfl := zI H
    go_wp2
    go_ret
    exact ⟨by first | rfl | (simp [errW_none, errW_some] <;> rfl) | (simp [*, errW_none, errW_some] <;> rfl), by repeat (first | (with_reducible first | exact HB.out | apply zBa | apply zBn | apply zBd | refine zBs ?_ GE235.out) | exact HB.out)⟩
   replace c15 := Bool.eq_false_iff.mpr c15
   subst c15
   have H1 : ((impl_plainKind.f a0_1).bind fun t237 => (if t237 = true then (some (a0_2 == 0)) else (if a0_1 = 3 then ((impl_to.f a0_2 (-1000) 1000).bind fun t238 => (some t238)) else ((impl_to.f a0_2 1 64).bind fun t239 => (some t239))))) = some r := by rw [if_neg (show ¬ (false = true) by decide)] at H; exact H
   clear H
   have H := H1
   clear H1
   replace H := zO.mp H
   obtain ⟨t237, A160, H⟩ := H
   replace H : (if t237 = true then (some (a0_2 == 0)) else (if a0_1 = 3 then ((impl_to.f a0_2 (-1000) 1000).bind fun t238 => (some t238)) else ((impl_to.f a0_2 1 64).bind fun t239 => (some t239)))) = some r := H
   have A16 := zM A160
   clear A160
   by_cases c17 : t237 = true
   case pos =>
    subst c17
    have H1 : (some (a0_2 == 0)) = some r := by rw [if_pos rfl] at H; exact H
    clear H
    have H := H1
    clear H1
    obtain rfl := zI H
    obtain ⟨hcz18_0, hcz18_1, hcz18_2, hfz18_0, hfz18_1, hfz18_2⟩ := zc3 BK235.out
    go_wp2_with (first | ((with_reducible refine gate_callee (f := 104) rfl ?_); refine goesL_ (some 21) rfl rfl Try.func104 (by kernel_rfl) rfl #[.int .i64 a0_1] rfl (by (try simp only [List.map_toArray, List.map_cons, List.map_nil]); first | done | rfl | (simp only [List.length_drop, List.length_take]; rfl)) ?_; (with_reducible refine (impl_plainKind.calls a0_1 true _ A16.out).mono ?_); rintro e w' ⟨rfl, ⟨nd, rfl⟩⟩; refine ⟨_, rfl, ?_⟩))
    go_ret
    exact ⟨by first | rfl | (simp [errW_none, errW_some] <;> rfl) | (simp [*, errW_none, errW_some] <;> rfl), by repeat (first | (with_reducible first | exact HB.out | apply zBa | apply zBn | apply zBd | refine zBs ?_ GE235.out) | exact HB.out)⟩
   replace c17 := Bool.eq_false_iff.mpr c17
   subst c17
   have H1 : (if a0_1 = 3 then ((impl_to.f a0_2 (-1000) 1000).bind fun t238 => (some t238)) else ((impl_to.f a0_2 1 64).bind fun t239 => (some t239))) = some r := by rw [if_neg (show ¬ (false = true) by decide)] at H; exact H
   clear H
   have H := H1
   clear H1
   by_cases c19 : a0_1 = 3
   case neg =>
    rw [if_neg c19] at H
    have c19b0 : (a0_1 == 3) = false := beq_eq_false_iff_ne.mpr c19
    have c19b1 : (a0_1 != 3) = true := bne_iff_ne.mpr c19
    replace H := zO.mp H
    obtain ⟨t239, A220, H⟩ := H
    replace H : (some t239) = some r := H
    have A22 := zM A220
    clear A220
    obtain rfl := zI H
    obtain ⟨hcz23_0, hcz23_1, hcz23_2, hfz23_0, hfz23_1, hfz23_2⟩ := zc3 BK235.out
    go_wp2_with (first | ((with_reducible refine gate_callee (f := 104) rfl ?_); refine goesL_ (some 21) rfl rfl Try.func104 (by kernel_rfl) rfl #[.int .i64 a0_1] rfl (by (try simp only [List.map_toArray, List.map_cons, List.map_nil]); first | done | rfl | (simp only [List.length_drop, List.length_take]; rfl)) ?_; (with_reducible refine (impl_plainKind.calls a0_1 false _ A16.out).mono ?_); rintro e w' ⟨rfl, ⟨nd, rfl⟩⟩; refine ⟨_, rfl, ?_⟩) | ((with_reducible refine gate_callee (f := 66) rfl ?_); refine goesL_ (some 34) rfl rfl Try.func66 (by kernel_rfl) rfl #[.int .i64 a0_2, .int .i64 1, .int .i64 64] rfl (by (try simp only [List.map_toArray, List.map_cons, List.map_nil]); first | done | rfl | (simp only [List.length_drop, List.length_take]; rfl)) ?_; (with_reducible refine (impl_to.calls a0_2 1 64 t239 _ A22.out).mono ?_); rintro e w' ⟨rfl, ⟨nd, rfl⟩⟩; refine ⟨_, rfl, ?_⟩))
    go_ret
    exact ⟨by first | rfl | (simp [errW_none, errW_some] <;> rfl) | (simp [*, errW_none, errW_some] <;> rfl), by repeat (first | (with_reducible first | exact HB.out | apply zBa | apply zBn | apply zBd | refine zBs ?_ GE235.out) | exact HB.out)⟩
   rw [if_pos c19] at H
   have c19b0 : (a0_1 == 3) = true := beq_iff_eq.mpr c19
   have c19b1 : (a0_1 != 3) = false := bne_eq_false_iff_eq.mpr c19
   clear c19
   replace H := zO.mp H
   obtain ⟨t238, A200, H⟩ := H
   replace H : (some t238) = some r := H
   have A20 := zM A200
   clear A200
   obtain rfl := zI H
   obtain ⟨hcz21_0, hcz21_1, hcz21_2, hfz21_0, hfz21_1, hfz21_2⟩ := zc3 BK235.out
   go_wp2_with (first | ((with_reducible refine gate_callee (f := 104) rfl ?_); refine goesL_ (some 21) rfl rfl Try.func104 (by kernel_rfl) rfl #[.int .i64 a0_1] rfl (by (try simp only [List.map_toArray, List.map_cons, List.map_nil]); first | done | rfl | (simp only [List.length_drop, List.length_take]; rfl)) ?_; (with_reducible refine (impl_plainKind.calls a0_1 false _ A16.out).mono ?_); rintro e w' ⟨rfl, ⟨nd, rfl⟩⟩; refine ⟨_, rfl, ?_⟩) | ((with_reducible refine gate_callee (f := 66) rfl ?_); refine goesL_ (some 31) rfl rfl Try.func66 (by kernel_rfl) rfl #[.int .i64 a0_2, .int .i64 (-1000), .int .i64 1000] rfl (by (try simp only [List.map_toArray, List.map_cons, List.map_nil]); first | done | rfl | (simp only [List.length_drop, List.length_take]; rfl)) ?_; (with_reducible refine (impl_to.calls a0_2 (-1000) 1000 t238 _ A20.out).mono ?_); rintro e w' ⟨rfl, ⟨nd, rfl⟩⟩; refine ⟨_, rfl, ?_⟩))
   go_ret
   exact ⟨by first | rfl | (simp [errW_none, errW_some] <;> rfl) | (simp [*, errW_none, errW_some] <;> rfl), by repeat (first | (with_reducible first | exact HB.out | apply zBa | apply zBn | apply zBd | refine zBs ?_ GE235.out) | exact HB.out)⟩

/-! ### impl_doors: function 67 -/
def impl_doors.f (a0 : Int) : Option (Int) := if a0 = 1 then (some 0) else (if a0 = 4 then (some 2) else (some 1))
set_option maxHeartbeats 8000000 in
set_option maxRecDepth 100000 in
theorem impl_doors.calls (a0 : Int) (r : Int) (w : World) (h : impl_doors.f a0 = some r) :
 Calls Try.prog 67 #[.int .i64 a0] w fun e w' => e = .returned (.int .i64 r) ∧ Drawn0 w w' := by
 have H : (if a0 = 1 then (some 0) else (if a0 = 4 then (some 2) else (some 1))) = some r := h
 clear h
 by_cases c2 : a0 = 1
 case pos =>
  rw [if_pos c2] at H
  have c2b0 : (a0 == 1) = true := beq_iff_eq.mpr c2
  have c2b1 : (a0 != 1) = false := bne_eq_false_iff_eq.mpr c2
  clear c2
  obtain rfl := zI H
  go_enter Try.func67, Try.ntmps67
  go_wp2
  go_ret
  exact ⟨by first | rfl | (simp; done) | (simp [*]; done), by repeat (first | exact Drawn0.refl _ | apply Drawn0.step)⟩
 rw [if_neg c2] at H
 have c2b0 : (a0 == 1) = false := beq_eq_false_iff_ne.mpr c2
 have c2b1 : (a0 != 1) = true := bne_iff_ne.mpr c2
 by_cases c3 : a0 = 4
 case neg =>
  rw [if_neg c3] at H
  have c3b0 : (a0 == 4) = false := beq_eq_false_iff_ne.mpr c3
  have c3b1 : (a0 != 4) = true := bne_iff_ne.mpr c3
  obtain rfl := zI H
  go_enter Try.func67, Try.ntmps67
  go_wp2
  go_ret
  exact ⟨by first | rfl | (simp; done) | (simp [*]; done), by repeat (first | exact Drawn0.refl _ | apply Drawn0.step)⟩
 rw [if_pos c3] at H
 have c3b0 : (a0 == 4) = true := beq_iff_eq.mpr c3
 have c3b1 : (a0 != 4) = false := bne_eq_false_iff_eq.mpr c3
 clear c3
 obtain rfl := zI H
 go_enter Try.func67, Try.ntmps67
 go_wp2
 go_ret
 exact ⟨by first | rfl | (simp; done) | (simp [*]; done), by repeat (first | exact Drawn0.refl _ | apply Drawn0.step)⟩

end Go.Proofs.Ytckadpomhdjkhaa.PFnExactWiring
