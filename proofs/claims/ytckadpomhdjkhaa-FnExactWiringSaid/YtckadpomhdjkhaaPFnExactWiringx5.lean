-- Written by a turned copy of the print (see the notes of this repo): plain functions and their walks. Lean checks it.
import Derived.Test.YtckadpomhdjkhaaPFnExactWiringx0
import Derived.Test.YtckadpomhdjkhaaPFnExactWiringx3
import Derived.Test.YtckadpomhdjkhaaPFnExactWiringx4
namespace Go.Proofs.Ytckadpomhdjkhaa.PFnExactWiring
open Go.RowKit Go.Proofs.YtckadpomhdjkhaaW.PrintWords Go.Proofs.YtckadpomhdjkhaaW.PrintLast Go.Proofs.YtckadpomhdjkhaaW.PrintMore
attribute [local go_sem] max2_int min2_int max_two min_two max_three min_three max_four min_four   -- for this text's walks alone
set_option linter.unusedVariables false
set_option linter.unusedSimpArgs false

/-! ### spec_l20Node: function 60 -/
def spec_l20Node.j0 : Nat → Bool → ByteArray → Int → Int → Option (Bool)
 | 0, _, _, _, _ => none
 | k + 1, x12, x183000, x183001, x183002 => if x12 = true then (some false) else ((spec_l20Bare.f x183001).bind fun t185 => (if t185 = true then (some (x183002 == 0)) else (if x183001 = 3 then ((spec_l1In.f x183002 (-1000) 1000).bind fun t186 => (some t186)) else ((spec_l1In.f x183002 1 64).bind fun t187 => (some t187)))))
def spec_l20Node.f (k : Nat) (a0_0 : ByteArray) (a0_1 : Int) (a0_2 : Int) : Option (Bool) := (spec_NodeName.f k a0_0).bind fun t183 => (if t183 = true then ((spec_l1In.f a0_1 1 8).bind fun t184 => (spec_l20Node.j0 k (!t184) a0_0 a0_1 a0_2)) else (spec_l20Node.j0 k true a0_0 a0_1 a0_2))
theorem spec_l20Node.mono_l : ∀ k, (∀ y0 y1 y2 y3, LeO (spec_l20Node.j0 k y0 y1 y2 y3) (spec_l20Node.j0 (k + 1) y0 y1 y2 y3))
 | 0 => fun _ _ _ _ r h => by simp [spec_l20Node.j0] at h
 | k + 1 => by
  have ih0 := spec_l20Node.mono_l k
  ·intro y0 y1 y2 y3
   unfold spec_l20Node.j0
   repeat' first
   | (with_reducible exact ih0 _ _ _ _)
   | (with_reducible exact spec_NodeName.mono _ _)
   | (with_reducible exact LeO.refl _)
   | (with_reducible exact LeO.none _)
   | (with_reducible refine LeO.ite ?_ ?_)
   | (with_reducible refine LeO.bind ?_ (fun _ => ?_))
theorem spec_l20Node.mono : ∀ a0 a1 a2 k, LeO (spec_l20Node.f k a0 a1 a2) (spec_l20Node.f (k + 1) a0 a1 a2) := by
 intro a0 a1 a2 k
 have ih0 := spec_l20Node.mono_l k
 unfold spec_l20Node.f
 repeat' first
  | (with_reducible exact ih0 _ _ _ _)
  | (with_reducible exact spec_NodeName.mono _ _)
  | (with_reducible exact LeO.refl _)
  | (with_reducible exact LeO.none _)
  | (with_reducible refine LeO.ite ?_ ?_)
  | (with_reducible refine LeO.bind ?_ (fun _ => ?_))
set_option maxHeartbeats 8000000 in
set_option maxRecDepth 100000 in
theorem spec_l20Node.calls (k : Nat) (a0_0 : ByteArray) (a0_1 : Int) (a0_2 : Int) (r : Bool) (w : World) (h : spec_l20Node.f k a0_0 a0_1 a0_2 = some r) :
 Calls Try.prog 60 #[.agg #[.string a0_0, .int .i64 a0_1, .int .i64 a0_2]] w fun e w' => e = .returned (.bool r) ∧ Below w.heap.size w w' := by
 have hu94 := Try.underlying94
 have HB := zM (Below.refl w.heap.size w)
 have H : ((spec_NodeName.f k a0_0).bind fun t183 => (if t183 = true then ((spec_l1In.f a0_1 1 8).bind fun t184 => (spec_l20Node.j0 k (!t184) a0_0 a0_1 a0_2)) else (spec_l20Node.j0 k true a0_0 a0_1 a0_2))) = some r := h
 clear h
 have HC2 := zM H
 clear H
 go_enter Try.func60, Try.ntmps60
 go_upto_region 1 with (first | ((with_reducible refine gate_dst (N := 1) rfl ?_); refine box_event ?hg (N := 1) ?hd (cs := #[.string a0_0, .int .i64 a0_1, .int .i64 a0_2]) (t := 94) ?hr ?_; (case hd => rfl); (case hg => rfl); (case hr => first | (go_simp; done) | (go_simp; rfl)); intro gb182 hg w3 hbox hb; have n0_ := zM (below_step (by repeat (first | (with_reducible first | exact HB.out | apply zBa | apply zBn | apply zBd) | exact HB.out)) hb); have n1_ := zM (hbox); have n2_ := zM ((by rw [hg]; exact (below_size (by repeat (first | (with_reducible first | exact HB.out | apply zBa | apply zBn | apply zBd) | exact HB.out))) : w.heap.size ≤ gb182)); have n3_ := zM n2_.out; clear HB; have HB := n0_; have BK182 := n1_; have GW182 := n2_; have GE182 := n3_; clear n0_ n1_ n2_ n3_; clear hb hbox hg))
 (try simp only [Act.put, zS1, zS2, zS3])
 go_cut [12] (fun v12 wc => ∃ (kq : Nat) (x12_1 : Bool), v12 = .bool x12_1 ∧ Aside0 (spec_l20Node.j0 kq x12_1 a0_0 a0_1 a0_2 = some r) ∧ Aside0 (kq ≤ k) ∧ Aside0 (wc.heap[gb182]? = some (.cells #[.string a0_0, .int .i64 a0_1, .int .i64 a0_2] 94 (0, 0))) ∧ Aside0 (Below w.heap.size w wc))
 case first =>
  have H := HC2.out
  clear HC2
  replace H := zO.mp H
  obtain ⟨t183, A40, H⟩ := H
  replace H : (if t183 = true then ((spec_l1In.f a0_1 1 8).bind fun t184 => (spec_l20Node.j0 k (!t184) a0_0 a0_1 a0_2)) else (spec_l20Node.j0 k true a0_0 a0_1 a0_2)) = some r := H
  have A4 := zM A40
  clear A40
  by_cases c5 : t183 = true
  case neg =>
   replace c5 := Bool.eq_false_iff.mpr c5
   subst c5
   have H1 : (spec_l20Node.j0 k true a0_0 a0_1 a0_2) = some r := by rw [if_neg (show ¬ (false = true) by decide)] at H; exact H
   clear H
   have H := H1
   clear H1
   have H' := zM H
   clear H
   obtain ⟨hcz8_0, hcz8_1, hcz8_2, hfz8_0, hfz8_1, hfz8_2⟩ := zc3 BK182.out
   go_wp2_with (first | ((with_reducible refine gate_callee (f := 99) rfl ?_); refine goesL_ (some 5) rfl rfl Try.func99 (by kernel_rfl) rfl #[.string a0_0] rfl (by (try simp only [List.map_toArray, List.map_cons, List.map_nil]); first | done | rfl | (simp only [List.length_drop, List.length_take]; rfl)) ?_; (with_reducible refine (spec_NodeName.calls k a0_0 false _ A4.out).mono ?_); rintro e w' ⟨rfl, ⟨nd, rfl⟩⟩; refine ⟨_, rfl, ?_⟩))
   go_meet
   case rel => exact ⟨_, (true), (by first | rfl | (simp; done) | (simp [*]; done)), H', ⟨by first | omega | exact Nat.le_refl _⟩, ⟨by (with_reducible repeat (first | apply zNn | apply zNd | apply zNa)); exact BK182.out⟩, ⟨by repeat (first | (with_reducible first | exact HB.out | apply zBa | apply zBn | apply zBd | refine zBs ?_ GE182.out) | exact HB.out)⟩⟩
  subst c5
  have H1 : ((spec_l1In.f a0_1 1 8).bind fun t184 => (spec_l20Node.j0 k (!t184) a0_0 a0_1 a0_2)) = some r := by rw [if_pos rfl] at H; exact H
  clear H
  have H := H1
  clear H1
  replace H := zO.mp H
  obtain ⟨t184, A60, H⟩ := H
  replace H : (spec_l20Node.j0 k (!t184) a0_0 a0_1 a0_2) = some r := H
  have A6 := zM A60
  clear A60
  have H' := zM H
  clear H
  obtain ⟨hcz7_0, hcz7_1, hcz7_2, hfz7_0, hfz7_1, hfz7_2⟩ := zc3 BK182.out
  go_wp2_with (first | ((with_reducible refine gate_callee (f := 99) rfl ?_); refine goesL_ (some 5) rfl rfl Try.func99 (by kernel_rfl) rfl #[.string a0_0] rfl (by (try simp only [List.map_toArray, List.map_cons, List.map_nil]); first | done | rfl | (simp only [List.length_drop, List.length_take]; rfl)) ?_; (with_reducible refine (spec_NodeName.calls k a0_0 true _ A4.out).mono ?_); rintro e w' ⟨rfl, ⟨nd, rfl⟩⟩; refine ⟨_, rfl, ?_⟩) | (go_at_call 48; (with_reducible refine (spec_l1In.calls a0_1 1 8 t184 _ A6.out).mono ?_); rintro e w' ⟨rfl, ⟨nd, rfl⟩⟩))
  go_meet
  case rel => exact ⟨_, (!t184), (by first | rfl | (simp; done) | (simp [*]; done)), H', ⟨by first | omega | exact Nat.le_refl _⟩, ⟨by (with_reducible repeat (first | apply zNn | apply zNd | apply zNa)); exact BK182.out⟩, ⟨by repeat (first | (with_reducible first | exact HB.out | apply zBa | apply zBn | apply zBd | refine zBs ?_ GE182.out) | exact HB.out)⟩⟩
 case rest =>
  clear HC2
  try clear p2
  try clear c5
  try clear c6
  try clear hcz7_0
  try clear hcz7_1
  try clear hcz7_2
  try clear hcz8_0
  try clear hcz8_1
  try clear hcz8_2
  try clear hfz7_0
  try clear hfz7_1
  try clear hfz7_2
  try clear hfz8_0
  try clear hfz8_1
  try clear hfz8_2
  obtain ⟨kq, x12_1, rfl, HA, HJ1, BK182, HB⟩ := hcut
  cases kq with
  | zero => exact absurd HA.out (by simp [spec_l20Node.j0])
  | succ kj1 =>
   have H := HA.out
   clear HA
   simp only [spec_l20Node.j0] at H
   by_cases c9 : x12_1 = true
   case pos =>
    subst c9
    have H1 : (some false) = some r := by rw [if_pos rfl] at H; exact H
    clear H
    have H := H1
    clear H1
    obtain rfl := zI H
    go_wp2
    go_ret
    exact ⟨by first | rfl | (simp [errW_none, errW_some] <;> rfl) | (simp [*, errW_none, errW_some] <;> rfl), by repeat (first | (with_reducible first | exact HB.out | apply zBa | apply zBn | apply zBd | refine zBs ?_ GE182.out) | exact HB.out)⟩
   replace c9 := Bool.eq_false_iff.mpr c9
   subst c9
   have H1 : ((spec_l20Bare.f a0_1).bind fun t185 => (if t185 = true then (some (a0_2 == 0)) else (if a0_1 = 3 then ((spec_l1In.f a0_2 (-1000) 1000).bind fun t186 => (some t186)) else ((spec_l1In.f a0_2 1 64).bind fun t187 => (some t187))))) = some r := by rw [if_neg (show ¬ (false = true) by decide)] at H; exact H
   clear H
   have H := H1
   clear H1
   replace H := zO.mp H
   obtain ⟨t185, A100, H⟩ := H
   replace H : (if t185 = true then (some (a0_2 == 0)) else (if a0_1 = 3 then ((spec_l1In.f a0_2 (-1000) 1000).bind fun t186 => (some t186)) else ((spec_l1In.f a0_2 1 64).bind fun t187 => (some t187)))) = some r := H
   have A10 := zM A100
   clear A100
   by_cases c11 : t185 = true
   case pos =>
    subst c11
    have H1 : (some (a0_2 == 0)) = some r := by rw [if_pos rfl] at H; exact H
    clear H
    have H := H1
    clear H1
    obtain rfl := zI H
    obtain ⟨hcz12_0, hcz12_1, hcz12_2, hfz12_0, hfz12_1, hfz12_2⟩ := zc3 BK182.out
    go_wp2_with (first | ((with_reducible refine gate_callee (f := 100) rfl ?_); refine goesL_ (some 15) rfl rfl Try.func100 (by kernel_rfl) rfl #[.int .i64 a0_1] rfl (by (try simp only [List.map_toArray, List.map_cons, List.map_nil]); first | done | rfl | (simp only [List.length_drop, List.length_take]; rfl)) ?_; (with_reducible refine (spec_l20Bare.calls a0_1 true _ A10.out).mono ?_); rintro e w' ⟨rfl, ⟨nd, rfl⟩⟩; refine ⟨_, rfl, ?_⟩))
    go_ret
    exact ⟨by first | rfl | (simp [errW_none, errW_some] <;> rfl) | (simp [*, errW_none, errW_some] <;> rfl), by repeat (first | (with_reducible first | exact HB.out | apply zBa | apply zBn | apply zBd | refine zBs ?_ GE182.out) | exact HB.out)⟩
   replace c11 := Bool.eq_false_iff.mpr c11
   subst c11
   have H1 : (if a0_1 = 3 then ((spec_l1In.f a0_2 (-1000) 1000).bind fun t186 => (some t186)) else ((spec_l1In.f a0_2 1 64).bind fun t187 => (some t187))) = some r := by rw [if_neg (show ¬ (false = true) by decide)] at H; exact H
   clear H
   have H := H1
   clear H1
   by_cases c13 : a0_1 = 3
   case neg =>
    rw [if_neg c13] at H
    have c13b0 : (a0_1 == 3) = false := beq_eq_false_iff_ne.mpr c13
    have c13b1 : (a0_1 != 3) = true := bne_iff_ne.mpr c13
    replace H := zO.mp H
    obtain ⟨t187, A160, H⟩ := H
    replace H : (some t187) = some r := H
    have A16 := zM A160
    clear A160
    obtain rfl := zI H
    obtain ⟨hcz17_0, hcz17_1, hcz17_2, hfz17_0, hfz17_1, hfz17_2⟩ := zc3 BK182.out
    go_wp2_with (first | ((with_reducible refine gate_callee (f := 100) rfl ?_); refine goesL_ (some 15) rfl rfl Try.func100 (by kernel_rfl) rfl #[.int .i64 a0_1] rfl (by (try simp only [List.map_toArray, List.map_cons, List.map_nil]); first | done | rfl | (simp only [List.length_drop, List.length_take]; rfl)) ?_; (with_reducible refine (spec_l20Bare.calls a0_1 false _ A10.out).mono ?_); rintro e w' ⟨rfl, ⟨nd, rfl⟩⟩; refine ⟨_, rfl, ?_⟩) | ((with_reducible refine gate_callee (f := 48) rfl ?_); refine goesL_ (some 27) rfl rfl Try.func48 (by kernel_rfl) rfl #[.int .i64 a0_2, .int .i64 1, .int .i64 64] rfl (by (try simp only [List.map_toArray, List.map_cons, List.map_nil]); first | done | rfl | (simp only [List.length_drop, List.length_take]; rfl)) ?_; (with_reducible refine (spec_l1In.calls a0_2 1 64 t187 _ A16.out).mono ?_); rintro e w' ⟨rfl, ⟨nd, rfl⟩⟩; refine ⟨_, rfl, ?_⟩))
    go_ret
    exact ⟨by first | rfl | (simp [errW_none, errW_some] <;> rfl) | (simp [*, errW_none, errW_some] <;> rfl), by repeat (first | (with_reducible first | exact HB.out | apply zBa | apply zBn | apply zBd | refine zBs ?_ GE182.out) | exact HB.out)⟩
   rw [if_pos c13] at H
   have c13b0 : (a0_1 == 3) = true := beq_iff_eq.mpr c13
   have c13b1 : (a0_1 != 3) = false := bne_eq_false_iff_eq.mpr c13
   clear c13
   replace H := zO.mp H
   obtain ⟨t186, A140, H⟩ := H
   replace H : (some t186) = some r := H
   have A14 := zM A140
   clear A140
   obtain rfl := zI H
   obtain ⟨hcz15_0, hcz15_1, hcz15_2, hfz15_0, hfz15_1, hfz15_2⟩ := zc3 BK182.out
   go_wp2_with (first | ((with_reducible refine gate_callee (f := 100) rfl ?_); refine goesL_ (some 15) rfl rfl Try.func100 (by kernel_rfl) rfl #[.int .i64 a0_1] rfl (by (try simp only [List.map_toArray, List.map_cons, List.map_nil]); first | done | rfl | (simp only [List.length_drop, List.length_take]; rfl)) ?_; (with_reducible refine (spec_l20Bare.calls a0_1 false _ A10.out).mono ?_); rintro e w' ⟨rfl, ⟨nd, rfl⟩⟩; refine ⟨_, rfl, ?_⟩) | ((with_reducible refine gate_callee (f := 48) rfl ?_); refine goesL_ (some 24) rfl rfl Try.func48 (by kernel_rfl) rfl #[.int .i64 a0_2, .int .i64 (-1000), .int .i64 1000] rfl (by (try simp only [List.map_toArray, List.map_cons, List.map_nil]); first | done | rfl | (simp only [List.length_drop, List.length_take]; rfl)) ?_; (with_reducible refine (spec_l1In.calls a0_2 (-1000) 1000 t186 _ A14.out).mono ?_); rintro e w' ⟨rfl, ⟨nd, rfl⟩⟩; refine ⟨_, rfl, ?_⟩))
   go_ret
   exact ⟨by first | rfl | (simp [errW_none, errW_some] <;> rfl) | (simp [*, errW_none, errW_some] <;> rfl), by repeat (first | (with_reducible first | exact HB.out | apply zBa | apply zBn | apply zBd | refine zBs ?_ GE182.out) | exact HB.out)⟩

/-! ### spec_l20Find: function 61 -/
def spec_l20Find.l0 : Nat → ByteArray → Int → List (S94) → List (S97) → Option (Int)
 | 0, _, _, _, _ => none
 | k + 1, x1, x5, x189000, x189001 => if x5 < (x189000.length : Int) then (if 0 ≤ x5 then (if ((rd_T94 x189000 x5).f0).toList = x1.toList then (some x5) else (spec_l20Find.l0 k x1 (wrap64 (x5 + 1)) x189000 x189001)) else (none)) else (some (-1))
def spec_l20Find.f (k : Nat) (l0_0 : List (S94)) (l0_1 : List (S97)) (a1 : ByteArray) : Option (Int) := spec_l20Find.l0 k a1 0 l0_0 l0_1
theorem spec_l20Find.mono_l : ∀ k, (∀ y0 y1 y2 y3, LeO (spec_l20Find.l0 k y0 y1 y2 y3) (spec_l20Find.l0 (k + 1) y0 y1 y2 y3))
 | 0 => fun _ _ _ _ r h => by simp [spec_l20Find.l0] at h
 | k + 1 => by
  have ih0 := spec_l20Find.mono_l k
  ·intro y0 y1 y2 y3
   unfold spec_l20Find.l0
   repeat' first
   | (with_reducible exact ih0 _ _ _ _)
   | (with_reducible exact LeO.refl _)
   | (with_reducible exact LeO.none _)
   | (with_reducible refine LeO.ite ?_ ?_)
   | (with_reducible refine LeO.bind ?_ (fun _ => ?_))
theorem spec_l20Find.mono : ∀ a0 a1 a2 k, LeO (spec_l20Find.f k a0 a1 a2) (spec_l20Find.f (k + 1) a0 a1 a2) := by
 intro a0 a1 a2 k
 have ih0 := spec_l20Find.mono_l k
 unfold spec_l20Find.f
 repeat' first
  | (with_reducible exact ih0 _ _ _ _)
  | (with_reducible exact LeO.refl _)
  | (with_reducible exact LeO.none _)
  | (with_reducible refine LeO.ite ?_ ?_)
  | (with_reducible refine LeO.bind ?_ (fun _ => ?_))
set_option maxHeartbeats 8000000 in
set_option maxRecDepth 100000 in
theorem spec_l20Find.calls (k : Nat) (A0_0 : Option Addr) (c0_0 : Nat) (l0_0 : List (S94)) (A0_1 : Option Addr) (c0_1 : Nat) (l0_1 : List (S97)) (a1 : ByteArray) (r : Int) (w : World) (hr0_0 : Kd.C k94 w A0_0 l0_0.length l0_0) (hc0_0 : l0_0.length ≤ c0_0) (hr0_1 : Kd.C k97 w A0_1 l0_1.length l0_1) (hc0_1 : l0_1.length ≤ c0_1) (h : spec_l20Find.f k l0_0 l0_1 a1 = some r) :
 Calls Try.prog 61 #[.agg #[.slice A0_0 l0_0.length c0_0, .slice A0_1 l0_1.length c0_1], .string a1] w fun e w' => e = .returned (.int .i64 r) ∧ Below w.heap.size w w' := by
 have hu46 := Try.underlying46
 have HR0_0 := zM hr0_0
 have HC0_0 := zM hc0_0
 clear hr0_0 hc0_0
 have HR0_1 := zM hr0_1
 have HC0_1 := zM hc0_1
 clear hr0_1 hc0_1
 have HB := zM (Below.refl w.heap.size w)
 have H : (spec_l20Find.l0 k a1 0 l0_0 l0_1) = some r := h
 clear h
 have H' := zM H
 clear H
 go_enter Try.func61, Try.ntmps61
 go_wp2_with (first | ((with_reducible refine gate_dst (N := 2) rfl ?_); refine box_event ?hg (N := 2) ?hd (cs := #[.slice A0_0 l0_0.length c0_0, .slice A0_1 l0_1.length c0_1]) (t := 46) ?hr ?_; (case hd => rfl); (case hg => rfl); (case hr => first | (go_simp; done) | (go_simp; rfl)); intro gb188 hg w3 hbox hb; have n0_ := zM (below_step (by repeat (first | (with_reducible first | exact HB.out | apply zBa | apply zBn | apply zBd) | exact HB.out)) hb); have n1_ := zM (hbox); have n2_ := zM ((by rw [hg]; exact (below_size (by repeat (first | (with_reducible first | exact HB.out | apply zBa | apply zBn | apply zBd) | exact HB.out))) : w.heap.size ≤ gb188)); have n3_ := zM n2_.out; clear HB; have HB := n0_; have BK188 := n1_; have GW188 := n2_; have GE188 := n3_; clear n0_ n1_ n2_ n3_; clear hb hbox hg))
 (try simp only [Act.put, zS1, zS2, zS3])
 go_loopg [5] k (fun kq v5 w' => ∃ (x5_1 : Int), v5 = .int .i64 x5_1 ∧ Aside0 (spec_l20Find.l0 kq a1 x5_1 l0_0 l0_1 = some r) ∧ Aside0 (kq ≤ k) ∧ Aside0 (w'.heap[gb188]? = some (.cells #[(.slice A0_0 l0_0.length c0_0), (.slice A0_1 l0_1.length c0_1)] 46 (0, 0))) ∧ Aside0 (Below w.heap.size w w'))
 case atStart => exact ⟨(0), (by first | rfl | (simp; done) | (simp [*]; done)), H', ⟨Nat.le_refl _⟩, ⟨by (with_reducible repeat (first | apply zNn | apply zNd | apply zNa)); exact BK188.out⟩, ⟨by repeat (first | (with_reducible first | exact HB.out | apply zBa | apply zBn | apply zBd | refine zBs ?_ GE188.out) | exact HB.out)⟩⟩
 case round =>
  clear H'
  try clear p2
  obtain ⟨x5_1, rfl, HA, HK1, BK188, HB⟩ := hrel
  cases gk with
  | zero => exact absurd HA.out (by simp [spec_l20Find.l0])
  | succ k1 =>
   have H := HA.out
   clear HA
   simp only [spec_l20Find.l0] at H
   by_cases c4 : x5_1 < (l0_0.length : Int)
   case neg =>
    rw [if_neg c4] at H
    have c4b0 : decide (x5_1 < (l0_0.length : Int)) = false := decide_eq_false c4
    clear c4
    obtain rfl := zI H
    obtain ⟨hcz9_0, hcz9_1, hfz9_0, hfz9_1⟩ := zc2 BK188.out
    go_wp2
    go_ret
    exact ⟨by first | rfl | (simp [errW_none, errW_some] <;> rfl) | (simp [*, errW_none, errW_some] <;> rfl), by repeat (first | (with_reducible first | exact HB.out | apply zBa | apply zBn | apply zBd | refine zBs ?_ GE188.out) | exact HB.out)⟩
   rw [if_pos c4] at H
   have c4b0 : decide (x5_1 < (l0_0.length : Int)) = true := zE c4
   clear c4
   by_cases c5 : 0 ≤ x5_1
   case neg =>
    rw [if_neg c5] at H
    exact absurd H (by simp)
   rw [if_pos c5] at H
   have c5b0 : decide (0 ≤ x5_1) = true := zE c5
   clear c5
   by_cases c6 : ((rd_T94 l0_0 x5_1).f0).toList = a1.toList
   case pos =>
    rw [if_pos c6] at H
    have c6b0 : (((rd_T94 l0_0 x5_1).f0).toList == a1.toList) = true := beq_iff_eq.mpr c6
    have c6b1 : (((rd_T94 l0_0 x5_1).f0).toList != a1.toList) = false := bne_eq_false_iff_eq.mpr c6
    clear c6
    obtain rfl := zI H
    obtain ⟨hcz7_0, hcz7_1, hfz7_0, hfz7_1⟩ := zc2 BK188.out
    have p189 : 0 ≤ (x5_1 : Int) := zT (by assumption)
    have q189 : x5_1 < (l0_0.length : Int) := zT (by assumption)
    obtain ⟨ad189, e189, hx189_0, hx189_1, hx189_2⟩ := at_T94 HR0_0.out x5_1 p189 q189
    cases e189
    replace hx189_0 := (HB.out.cell (zW w _ hx189_0)).trans hx189_0
    replace hx189_1 := (HB.out.cell (zW w _ hx189_1)).trans hx189_1
    replace hx189_2 := (HB.out.cell (zW w _ hx189_2)).trans hx189_2
    replace p189 := eq_true p189
    replace q189 := eq_true q189
    go_wp2
    go_ret
    exact ⟨by first | rfl | (simp [errW_none, errW_some] <;> rfl) | (simp [*, errW_none, errW_some] <;> rfl), by repeat (first | (with_reducible first | exact HB.out | apply zBa | apply zBn | apply zBd | refine zBs ?_ GE188.out) | exact HB.out)⟩
   rw [if_neg c6] at H
   have c6b0 : (((rd_T94 l0_0 x5_1).f0).toList == a1.toList) = false := beq_eq_false_iff_ne.mpr c6
   have c6b1 : (((rd_T94 l0_0 x5_1).f0).toList != a1.toList) = true := bne_iff_ne.mpr c6
   have H' := zM H
   clear H
   obtain ⟨hcz8_0, hcz8_1, hfz8_0, hfz8_1⟩ := zc2 BK188.out
   have p189 : 0 ≤ (x5_1 : Int) := zT (by assumption)
   have q189 : x5_1 < (l0_0.length : Int) := zT (by assumption)
   obtain ⟨ad189, e189, hx189_0, hx189_1, hx189_2⟩ := at_T94 HR0_0.out x5_1 p189 q189
   cases e189
   replace hx189_0 := (HB.out.cell (zW w _ hx189_0)).trans hx189_0
   replace hx189_1 := (HB.out.cell (zW w _ hx189_1)).trans hx189_1
   replace hx189_2 := (HB.out.cell (zW w _ hx189_2)).trans hx189_2
   replace p189 := eq_true p189
   replace q189 := eq_true q189
   go_wp2
   go_roundg k1
   case measure => have := HK1.out; omega
   case rel => exact ⟨(wrap64 (x5_1 + 1)), (by first | rfl | (simp; done) | (simp [*]; done)), H', ⟨by have := HK1.out; omega⟩, ⟨by (with_reducible repeat (first | apply zNn | apply zNd | apply zNa)); exact BK188.out⟩, ⟨by repeat (first | (with_reducible first | exact HB.out | apply zBa | apply zBn | apply zBd | refine zBs ?_ GE188.out) | exact HB.out)⟩⟩

/-! ### spec_l20Doors: function 62 -/
def spec_l20Doors.f (a0 : Int) : Option (Int) := if a0 = 1 then (some 0) else (if a0 = 4 then (some 2) else (some 1))
set_option maxHeartbeats 8000000 in
set_option maxRecDepth 100000 in
theorem spec_l20Doors.calls (a0 : Int) (r : Int) (w : World) (h : spec_l20Doors.f a0 = some r) :
 Calls Try.prog 62 #[.int .i64 a0] w fun e w' => e = .returned (.int .i64 r) ∧ Drawn0 w w' := by
 have H : (if a0 = 1 then (some 0) else (if a0 = 4 then (some 2) else (some 1))) = some r := h
 clear h
 by_cases c2 : a0 = 1
 case pos =>
  rw [if_pos c2] at H
  have c2b0 : (a0 == 1) = true := beq_iff_eq.mpr c2
  have c2b1 : (a0 != 1) = false := bne_eq_false_iff_eq.mpr c2
  clear c2
  obtain rfl := zI H
  go_enter Try.func62, Try.ntmps62
  go_wp2
  go_ret
  exact ⟨by first | rfl | (simp; done) | (simp [*]; done), by repeat (first | exact Drawn0.refl _ | apply Drawn0.step)⟩
 rw [if_neg c2] at H
 have c2b0 : (a0 == 1) = false := beq_eq_false_iff_ne.mpr c2
 have c2b1 : (a0 != 1) = true := bne_iff_ne.mpr c2
 by_cases c3 : a0 = 4
 case neg =>
  rw [if_neg c3] at H
  have c3b0 : (a0 == 4) = false := beq_eq_false_iff_ne.mpr c3
  have c3b1 : (a0 != 4) = true := bne_iff_ne.mpr c3
  obtain rfl := zI H
  go_enter Try.func62, Try.ntmps62
  go_wp2
  go_ret
  exact ⟨by first | rfl | (simp; done) | (simp [*]; done), by repeat (first | exact Drawn0.refl _ | apply Drawn0.step)⟩
 rw [if_pos c3] at H
 have c3b0 : (a0 == 4) = true := beq_iff_eq.mpr c3
 have c3b1 : (a0 != 4) = false := bne_eq_false_iff_eq.mpr c3
 clear c3
 obtain rfl := zI H
 go_enter Try.func62, Try.ntmps62
 go_wp2
 go_ret
 exact ⟨by first | rfl | (simp; done) | (simp [*]; done), by repeat (first | exact Drawn0.refl _ | apply Drawn0.step)⟩

end Go.Proofs.Ytckadpomhdjkhaa.PFnExactWiring
