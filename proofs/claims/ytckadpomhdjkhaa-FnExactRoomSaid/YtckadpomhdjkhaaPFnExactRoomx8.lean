-- Written by a turned copy of the print (see the notes of this repo): plain functions and their walks. Lean checks it.
import Derived.Test.YtckadpomhdjkhaaPFnExactRoomx0
import Derived.Test.YtckadpomhdjkhaaPFnExactRoomx1
import Derived.Test.YtckadpomhdjkhaaPFnExactRoomx2
import Derived.Test.YtckadpomhdjkhaaPFnExactRoomx5
import Derived.Test.YtckadpomhdjkhaaPFnExactRoomx7
namespace Go.Proofs.Ytckadpomhdjkhaa.PFnExactRoom
open Go.RowKit Go.Proofs.YtckadpomhdjkhaaW.PrintWords Go.Proofs.YtckadpomhdjkhaaW.PrintLast Go.Proofs.YtckadpomhdjkhaaW.PrintMore
attribute [local go_sem] max2_int min2_int max_two min_two max_three min_three max_four min_four   -- for this text's walks alone
set_option linter.unusedVariables false
set_option linter.unusedSimpArgs false

/-! ### slices_Clone_int_int: function 57 -/
def slices_Clone_int_int.f (l0 : List Int) : Option (List Int) := if l0.length < 17592186044416 then some l0 else none
set_option maxHeartbeats 4000000 in
set_option maxRecDepth 100000 in
theorem slices_Clone_int_int.calls (A0 : Option Addr) (c0 : Nat) (l0 : List Int) (r : List Int) (w : World) (hr0 : Kd.C (Kd.int .i64) w A0 l0.length l0) (hc0 : l0.length ≤ c0) (h : slices_Clone_int_int.f l0 = some r) :
    Calls Try.prog 57 #[.slice A0 l0.length c0] w fun e w' => ∃ v0_ : Value, e = .returned (v0_) ∧ Kd.R (Kd.int .i64) 3 w' w.heap.size (fun _ => True) v0_ r ∧ Below w.heap.size w w' := by
  have HL : l0.length < 17592186044416 ∧ l0 = r := by
    unfold slices_Clone_int_int.f at h
    split at h
    · exact ⟨by assumption, Option.some.inj h⟩
    · cases h
  obtain ⟨hl, rfl⟩ := HL
  have HL := Aside0.mk hl
  have HR := Aside0.mk hr0
  clear hl hr0 h
  have q22 : ∀ (w : World) (a : Option Addr) (n c n' c' : Nat), (binOp .eql 23 (.slice a n c) (.slice none n' c')).run Try.prog w = .ok (.bool a.isNone) w := fun w a n c n' c' => Lib.run_eql_slice_nil w _ _ a n c n' c' Try.underlying23
  cases A0 with
  | none =>
    have q := fun (w : World) (n c n' c' : Nat) => q22 w none n c n' c'
    simp only [Option.isNone_none] at q
    go_enter Try.func57, Try.ntmps57
    go_wp2
    go_ret
    obtain rfl : l0 = [] := by
      cases l0 with
      | nil => rfl
      | cons x xs => obtain ⟨ad, e, _⟩ := HR.out.2.2 (by simp); cases e
    exact ⟨_, rfl, Kd.R_nil _ _ _ _ _, Below.refl _ _⟩
  | some ad =>
    have q := fun (w : World) (n c n' c' : Nat) => q22 w (some ad) n c n' c'
    simp only [Option.isNone_some] at q
    clear q22
    have HB := Aside0.mk (Below.refl w.heap.size w)
    go_enter Try.func57, Try.ntmps57
    go_wp2_with (first | ((with_reducible refine gate_dst (N := 5) rfl ?_); refine Kd.R_lit (Kd.int .i64) (w0 := w) w.heap.size 3 ?hg (N := 5) ?hd (xs := ([] : List Int)) (inner := []) (ok := fun _ => True) (okp := fun _ => True) ?hr ?hp (fun _ hk => hk) trivial HB.out (Nat.le_refl _) (by simp) ?_; (case hd => rfl); (case hg => rfl); (case hr => first | (go_simp; done) | (go_simp; rfl)); (case hp => exact (Reps.none _ _)); intro v1 w1 ho hb hg_ hnew_; have HO := Aside0.mk ho; have HB1 := Aside0.mk hb; clear hg_ hnew_ ho hb) | ((with_reducible refine gate_builtin (b := .append) (xs := #[.tmp 5, .tmp 6]) rfl ?_); at_builtin; refine Kd.R_append_rows (Kd.int .i64) (w0 := w) w.heap.size rfl (.tmp 5) (.tmp 6) 23 3 (.int .i64 0) 8 rfl Try.underlying23 info3 rfl (by decide) (by omega) v1 [] l0 _ _ _ (fun _ => True) (fun _ => False) rfl rfl ?aO ?aR (fun _ _ h => h) (fun _ h => h.elim) ?aF ?aB ?aS ?aL ?_; (case aR => exact (Kd.C_below HR.out HB1.out)); (case aB => exact HB1.out); (case aF => exact (fun _ _ => trivial)); (case aO => exact HO.out); (case aS => exact HB1.out.size); (case aL => have := HL.out; simp only [List.length_nil]; omega); intro v2 w2 ho hb hg hat; have HO2 := Aside0.mk ho; have HB2 := Aside0.mk hb; clear ho hb hg hat))
    go_ret
    exact ⟨_, rfl, by simpa using HO2.out, HB2.out⟩


/-! ### impl_Room: function 20 -/
def roomMax (lie : List Int) : Nat → Int → List Int → List Int
  | 0, _, out => out
  | d + 1, i, out => roomMax lie d (i + 1) (out.set i.toNat (mx (rd out i) (rd lie i)))
theorem roomMax_len (lie : List Int) : ∀ (d : Nat) (i : Int) (out : List Int), (roomMax lie d i out).length = out.length
  | 0, _, _ => rfl
  | d + 1, i, out => by unfold roomMax; rw [roomMax_len lie d]; simp
def roomLoop (l1 : List S80) (ord : List Int) : Nat → Int → List Int → List Int → List Int
  | 0, _, _, out => out
  | d + 1, i, lie, out => roomLoop l1 ord d (i + 1) (frGo l1 (rd ord i) l1.length 0 lie) (roomMax (frGo l1 (rd ord i) l1.length 0 lie) l1.length 0 out)
def impl_Room.f (k : Nat) (a0 : Int) (l1 : List S80) (l2 : List Int) : Option (List Int × Bool) := (impl_Fire.f k a0 l1 l2).bind fun p => if p.2 = -1 then (if l1.length ≤ 1000000 ∧ l2.length ≤ 1000000 then some (roomLoop l1 l2 l2.length 0 (l1.map (·.f4)) (l1.map (·.f4)), true) else none) else some ([], false)
theorem impl_Room.mono : ∀ a0 a1 a2 k, LeO (impl_Room.f k a0 a1 a2) (impl_Room.f (k + 1) a0 a1 a2) := by
  intro a0 a1 a2 k
  unfold impl_Room.f
  exact LeO.bind (impl_Fire.mono _ _ _ _) (fun p => LeO.refl _)
theorem R_int_ok {e : Nat} {w : World} {base : Nat} {ok ok' : Nat → Prop} {v : Value} {xs : List Int} (h : Kd.R (Kd.int .i64) e w base ok v xs) (h2 : ∀ k, v.ownBlock = some k → ok' k) : Kd.R (Kd.int .i64) e w base ok' v xs := Kd.R_of_own (Kd.own_of_R h) h2
theorem R_keepV {e : Nat} {w w1 : World} {base : Nat} {u v : Value} {xs : List Int} (h : Kd.R (Kd.int .i64) e w base (fun _ => True) u xs) (hk : KeepV w w1 v) (hne : ∀ k, u.ownBlock = some k → some k ≠ v.ownBlock) : Kd.R (Kd.int .i64) e w1 base (fun _ => True) u xs :=
  Kd.R_mono (Kd.R_step (R_int_ok h hne) (fun k hk1 hlt => hk.2 k hlt hk1)) (fun _ _ => trivial)
theorem R_apart {e : Nat} {w : World} {base g j : Nat} {u : Value} {xs : List Int} (h : Kd.R (Kd.int .i64) e w base (fun _ => True) u xs) (hne : ∀ k, u.ownBlock = some k → k ≠ g) (a : Value) : Kd.R (Kd.int .i64) e (w.setCell ⟨g, j, none⟩ a) base (fun _ => True) u xs :=
  Kd.R_mono (Kd.R_far (p := ⟨g, j, none⟩) (R_int_ok h hne) (fun _ hk => hk) a) (fun _ _ => trivial)
theorem R_lt {e : Nat} {w : World} {base : Nat} {ok : Nat → Prop} {v : Value} {xs : List Int} (h : Kd.R (Kd.int .i64) e w base ok v xs) (k : Nat) (hk : v.ownBlock = some k) : base ≤ k ∧ k < w.heap.size := by
  obtain ⟨inner, ho⟩ := Kd.R_own h
  exact ⟨own_base ho k hk, own_lt ho k hk⟩
set_option maxHeartbeats 8000000 in
set_option maxRecDepth 100000 in
theorem impl_Room.calls (k : Nat) (a0 : Int) (A1 : Option Addr) (c1 : Nat) (l1 : List (S80)) (A2 : Option Addr) (c2 : Nat) (l2 : List Int) (r1 : List Int) (r2 : Bool) (w : World) (hr1 : Kd.C k80 w A1 l1.length l1) (hc1 : l1.length ≤ c1) (hr2 : Kd.C (Kd.int .i64) w A2 l2.length l2) (hc2 : l2.length ≤ c2) (h : impl_Room.f k a0 l1 l2 = some (r1, r2)) :
    Calls Try.prog 20 #[.int .i64 a0, .slice A1 l1.length c1, .slice A2 l2.length c2] w fun e w' => ∃ v0_ : Value, e = .returned (.tuple #[v0_, .bool r2]) ∧ Kd.R (Kd.int .i64) 3 w' w.heap.size (fun _ => True) v0_ r1 ∧ Below w.heap.size w w' := by
  have HR1 := Aside0.mk hr1
  have HR2 := Aside0.mk hr2
  clear hr1 hr2
  obtain ⟨⟨f1, f2⟩, ht, h2⟩ := Option.bind_eq_some_iff.mp h
  clear h
  have HT := Aside0.mk ht
  clear ht
  by_cases hf : f2 = -1
  case neg =>
    rw [if_neg hf] at h2
    obtain ⟨rfl, rfl⟩ : [] = r1 ∧ false = r2 := by simpa using h2
    have hf2 : (f2 != -1) = true := bne_iff_ne.mpr hf
    go_enter Try.func20, Try.ntmps20
    go_wp2_with (go_at_call 13; (with_reducible refine (impl_Fire.calls k a0 A1 c1 l1 A2 c2 l2 f1 f2 _ HR1.out hc1 HR2.out hc2 HT.out).mono ?_); rintro e w2 ⟨v2, rfl, ho, hb⟩)
    go_ret2
    exact ⟨_, rfl, Kd.R_nil _ _ _ _ _, hb⟩
  subst hf
  rw [if_pos rfl] at h2
  by_cases hl : l1.length ≤ 1000000 ∧ l2.length ≤ 1000000
  case neg => rw [if_neg hl] at h2; cases h2
  rw [if_pos hl] at h2
  obtain ⟨hres, rfl⟩ := Prod.mk.inj (Option.some.inj h2)
  have HRES := Aside0.mk hres
  have HL := Aside0.mk hl.1
  have HN := Aside0.mk hl.2
  clear hl h2 hres
  obtain ⟨L0, hL0⟩ : ∃ L, L = l1.map (·.f4) := ⟨_, rfl⟩
  have HLN := Aside0.mk (show L0.length = l1.length by rw [hL0]; simp)
  have HRES2 : Aside0 (roomLoop l1 l2 l2.length 0 L0 L0 = r1) := ⟨by rw [hL0]; exact HRES.out⟩
  have HL0 := Aside0.mk hL0
  clear HRES hL0
  go_enter Try.func20, Try.ntmps20
  go_wp2_with (first | (go_at_call 13; (with_reducible refine (impl_Fire.calls k a0 A1 c1 l1 A2 c2 l2 f1 (-1) _ HR1.out hc1 HR2.out hc2 HT.out).mono ?_); rintro e w2 ⟨v2, rfl, ho, hb⟩; have HB2 := Aside0.mk hb; clear ho hb) | (go_at_call 53; (with_reducible refine (netOf_calls a0 A1 c1 l1 _ (Kd.C_below HR1.out HB2.out) HL.out).mono ?_); rintro e w3 ⟨g, v, rfl, hg, hbk, ho, hb⟩; rw [← HL0.out] at ho; obtain ⟨Av, cv, ev, hcv, _⟩ := Kd.R_reads ho; subst ev; have HCV := Aside0.mk hcv; have HG := Aside0.mk (Nat.le_trans (below_size HB2.out) hg); have BK := Aside0.mk hbk; have HO := Aside0.mk (Kd.R_lower ho (below_size HB2.out)); have HB := Aside0.mk (below_step HB2.out hb); clear hg hbk ho hb hcv; have hck_2 : w3.cell? ⟨g, 2, none⟩ = some (.slice Av L0.length cv) := (blk_cell BK.out 2).trans rfl) | (go_at_call 57; (with_reducible refine (slices_Clone_int_int.calls Av cv L0 L0 _ (Kd.R_reads' HO.out).2.2 HCV.out (by unfold slices_Clone_int_int.f; rw [if_pos (by have := HLN.out; have := HL.out; omega)])).mono ?_); rintro e w4 ⟨u, rfl, ho, hb⟩; have NE := Aside0.mk (fun (k : Nat) (hk : u.ownBlock = some k) => (fun (e : some k = (Value.slice Av L0.length cv).ownBlock) => by have h1 := (R_lt HO.out k e.symm).2; have h2 := (R_lt ho k hk).1; omega : some k ≠ (Value.slice Av L0.length cv).ownBlock)); have HU := Aside0.mk (Kd.R_lower ho (below_size HB.out)); have n0_ := Aside0.mk (blk_below BK.out hb); have n1_ := Aside0.mk (Kd.R_below HO.out hb); have n2_ := Aside0.mk (below_step HB.out hb); clear BK HO HB ho hb hck_2; have BK := n0_; have HO := n1_; have HB := n2_; clear n0_ n1_ n2_))
  obtain ⟨Au, cu, eu, hcu, _⟩ := Kd.R_reads HU.out
  subst eu
  (try simp only [Act.put, List.setIfInBounds_toArray, List.set_cons_zero, List.set_cons_succ])
  go_loopw [35] (fun u35 W => ∃ (i : Int) (lie out : List Int), u35 = .int .i64 i ∧ Aside0 ((0 ≤ i ∧ i ≤ (l2.length : Int)) ∧ lie.length = L0.length ∧ out.length = L0.length) ∧ Aside0 (roomLoop l1 l2 (l2.length - i.toNat) i lie out = r1) ∧ Aside0 (W.heap[g]? = some (.cells #[.int .i64 a0, .slice A1 l1.length c1, .slice Av L0.length cv] 87 (0, 0))) ∧ Aside0 (Kd.R (Kd.int .i64) 3 W w.heap.size (fun _ => True) (.slice Av L0.length cv) lie) ∧ Aside0 (Kd.R (Kd.int .i64) 3 W w.heap.size (fun _ => True) (.slice Au L0.length cu) out) ∧ Aside0 (Below w.heap.size w W)) (fun v _ => l2.length - (match v with | .int _ n => n.toNat | _ => 0))
  case atStart => exact ⟨0, L0, L0, rfl, ⟨⟨by omega, rfl, rfl⟩⟩, ⟨by simpa using HRES2.out⟩, BK, HO, HU, HB⟩
  case round =>
    clear BK HO HU HB HRES2
    obtain ⟨i, lie, out, rfl, HI, HF, BK, HO, HU, HB⟩ := hrel
    by_cases hi : i < (l2.length : Int)
    · have hlt : decide (i < (l2.length : Int)) = true := decide_eq_true hi
      obtain ⟨ad, e0, hx_0⟩ := Kd.at_int HR2.out i HI.out.1.1 hi
      subst e0
      replace hx_0 := (HB.out.cell (World.block_lt_of_cell? w _ hx_0)).trans hx_0
      have p1 := eq_true HI.out.1.1
      have q1 := eq_true hi
      have HQ := Aside0.mk hi
      have HW1 := Aside0.mk (net_wrap HI.out.1.1 hi HN.out)
      obtain ⟨lie2, hlie2⟩ : ∃ l, l = frGo l1 (rd l2 i) l1.length 0 lie := ⟨_, rfl⟩
      have HL2 := Aside0.mk hlie2
      have HN2 := Aside0.mk (show lie2.length = L0.length by rw [hlie2, frGo_len]; exact HI.out.2.1)
      clear hi hlie2
      go_wp2_with (first | (go_at_call 55; (with_reducible refine (fire_calls a0 (rd l2 i) A1 c1 l1 g (.slice Av L0.length cv) lie w _ HR1.out HL.out (HI.out.2.1.trans HLN.out) HB.out BK.out HO.out).mono ?_); rintro e w5 ⟨rfl, hbk, ho, hb, hkv⟩; rw [← HL2.out] at ho; have n0_ := Aside0.mk hbk; have n1_ := Aside0.mk ho; have n2_ := Aside0.mk (R_keepV HU.out hkv NE.out); have n3_ := Aside0.mk hb; clear BK HO HU HB hbk ho hb hkv; have BK := n0_; have HO := n1_; have HU := n2_; have HB := n3_; clear n0_ n1_ n2_ n3_; have hck_2 : w5.cell? ⟨g, 2, none⟩ = some (.slice Av L0.length cv) := (blk_cell BK.out 2).trans rfl))
      clear hck_2
      (try simp only [Act.put, List.setIfInBounds_toArray, List.set_cons_zero, List.set_cons_succ])
      go_loopw [47] (fun u47 W => ∃ (j : Int) (ys : List Int), u47 = .int .i64 j ∧ Aside0 ((0 ≤ j ∧ j ≤ (L0.length : Int)) ∧ ys.length = L0.length) ∧ Aside0 (roomMax lie2 (L0.length - j.toNat) j ys = roomMax lie2 L0.length 0 out) ∧ Aside0 (W.heap[g]? = some (.cells #[.int .i64 a0, .slice A1 l1.length c1, .slice Av L0.length cv] 87 (0, 0))) ∧ Aside0 (Kd.R (Kd.int .i64) 3 W w.heap.size (fun _ => True) (.slice Av L0.length cv) lie2) ∧ Aside0 (Kd.R (Kd.int .i64) 3 W w.heap.size (fun _ => True) (.slice Au L0.length cu) ys) ∧ Aside0 (Below w.heap.size w W)) (fun v _ => L0.length - (match v with | .int _ n => n.toNat | _ => 0))
      case atStart => exact ⟨0, out, rfl, ⟨⟨by omega, HI.out.2.2⟩⟩, ⟨by simp⟩, BK, HO, HU, HB⟩
      case round =>
        clear BK HO HU HB
        obtain ⟨j, ys, rfl, HJ, HM, BK, HO, HU, HB⟩ := hrel
        by_cases hj : j < (L0.length : Int)
        · have hltj : decide (j < (L0.length : Int)) = true := decide_eq_true hj
          obtain ⟨go, co, eo, _, _, _⟩ := Kd.R_form HO.out (by have := HN2.out; have := HJ.out; omega)
          obtain ⟨gu, cu2, eu, _, _, _⟩ := Kd.R_form HU.out (by have := HJ.out; omega)
          injection eo with eo1 eo2 eo3
          injection eu with eu1 eu2 eu3
          subst eo1 eu1
          clear eo2 eo3 eu2 eu3
          have hne : gu ≠ go := fun e_ => NE.out gu rfl (by rw [e_]; rfl)
          obtain ⟨hcl, hfl⟩ := Kd.R_celln 0 HO.out j HJ.out.1.1 hj
          obtain ⟨hcu2, hfu⟩ := Kd.R_celln 0 HU.out j HJ.out.1.1 hj
          have p2 := eq_true HJ.out.1.1
          have q2 := eq_true hj
          have HJQ := Aside0.mk hj
          have HW2 := Aside0.mk (net_wrap HJ.out.1.1 hj (by have := HLN.out; have := HL.out; omega))
          have HM2 : Aside0 (roomMax lie2 (L0.length - (j + 1).toNat) (j + 1) (ys.set j.toNat (mx (rd ys j) (rd lie2 j))) = roomMax lie2 L0.length 0 out) := ⟨by have h := HM.out; rw [show L0.length - j.toNat = (L0.length - (j + 1).toNat) + 1 by have := HJ.out; omega] at h; exact h⟩
          have GU := Aside0.mk ((R_lt HU.out gu rfl).1)
          clear hj HM
          go_wp2
          go_roundw
          case rel => exact ⟨j + 1, ys.set j.toNat (mx (rd ys j) (rd lie2 j)), by rw [HW2.out], ⟨⟨by have := HJ.out; have := HJQ.out; omega, by simp; exact HJ.out.2⟩⟩, HM2, ⟨blk_far BK.out (fun e_ => Kd.R_ne HU.out BK.out (by decide) (by rw [e_]; rfl)) _⟩, ⟨R_apart HO.out (fun k hk e_ => hne (e_.symm.trans (Option.some.inj (show some go = some k from hk)).symm)) _⟩, ⟨Kd.R_putn HU.out j _⟩, ⟨below_set HB.out GU.out⟩⟩
          case measure => have := HJQ.out; have := HJ.out; rw [HW2.out]; simp; omega
        · have hltj : decide (j < (L0.length : Int)) = false := decide_eq_false hj
          have HJQ := Aside0.mk hj
          have e : roomMax lie2 (L0.length - j.toNat) j ys = ys := by rw [show L0.length - j.toNat = 0 by have := HJ.out; have := HJQ.out; omega]; rfl
          have HE := Aside0.mk (e.symm.trans HM.out)
          clear hj e HM
          have HF2 : Aside0 (roomLoop l1 l2 (l2.length - (i + 1).toNat) (i + 1) lie2 ys = r1) := ⟨by have h := HF.out; rw [show l2.length - i.toNat = (l2.length - (i + 1).toNat) + 1 by have := HI.out; have := HQ.out; omega] at h; rw [HE.out, HL2.out, HLN.out]; exact h⟩
          clear HF HE
          go_wp2
          go_roundw
          case rel => exact ⟨i + 1, lie2, ys, by rw [HW1.out], ⟨⟨by have := HI.out; have := HQ.out; omega, HN2.out, HJ.out.2⟩⟩, HF2, BK, HO, HU, HB⟩
          case measure => have := HQ.out; have := HI.out; rw [HW1.out]; simp; omega
    · have hlt : decide (i < (l2.length : Int)) = false := decide_eq_false hi
      have HQ := Aside0.mk hi
      clear hi
      have e : roomLoop l1 l2 (l2.length - i.toNat) i lie out = out := by rw [show l2.length - i.toNat = 0 by have := HI.out; have := HQ.out; omega]; rfl
      have e2 := HF.out
      rw [e] at e2
      subst e2
      clear e
      go_wp2
      go_ret2
      exact ⟨_, rfl, HU.out, HB.out⟩


/-! ### laws_FnExactRoom: function 4 -/
mutual
def laws_FnExactRoom.j0 : Nat → Int → List (S82) → List Int → List Int → Bool → List (S80) → List Int → List Int → Bool → Bool → Option (Bool)
  | 0, _, _, _, _, _, _, _, _, _, _ => none
  | k + 1, x0, x1, x2, x8, x9, x10, x11, x12, x13, x55 => if x55 = true then (some false) else ((laws_toWireS.f k x1).bind fun t233 => ((laws_eqWireS.f k x10 t233).bind fun t236 => (if t236 = true then ((laws_toIntS.f k x2).bind fun t237 => ((laws_eqIntS.f k x11 t237).bind fun t240 => (if t240 = true then ((laws_markWireS.f k x10 1).bind fun bt241 => ((laws_markIntS.f k x11 bt241.1).bind fun bt243 => (if bt243.1 < 0 then (laws_FnExactRoom.j1 k x0 x1 x2 x8 x9 x12 true) else ((laws_eqIntS.f k x12 x8).bind fun t245 => (if t245 = true then (laws_FnExactRoom.j1 k x0 x1 x2 x8 x9 x12 (x13 != x9)) else (laws_FnExactRoom.j1 k x0 x1 x2 x8 x9 x12 true)))))) else (some false)))) else (some false))))
def laws_FnExactRoom.j1 : Nat → Int → List (S82) → List Int → List Int → Bool → List Int → Bool → Option (Bool)
  | 0, _, _, _, _, _, _, _ => none
  | k + 1, x0, x1, x2, x8, x9, x12, x84 => if x84 = true then (some false) else ((laws_markIntS.f k x12 1).bind fun bt246 => ((laws_heldIntS.f k bt246.2 1).bind fun t248 => (if t248 < 0 then (some false) else (if t248 = bt246.1 then ((laws_toWireS.f k x1).bind fun t249 => ((laws_toIntS.f k x2).bind fun t252 => ((impl_Room.f k x0 t249 t252).bind fun bt255 => ((laws_eqIntS.f k bt255.1 x8).bind fun t259 => (if t259 = true then (laws_FnExactRoom.j2 k bt246.2 bt246.1 (bt255.2 != x9)) else (laws_FnExactRoom.j2 k bt246.2 bt246.1 true)))))) else (some false)))))
def laws_FnExactRoom.j2 : Nat → List Int → Int → Bool → Option (Bool)
  | 0, _, _, _ => none
  | k + 1, x12, x15, x113 => if x113 = true then (some false) else ((laws_heldIntS.f k x12 1).bind fun t260 => (if t260 < 0 then (some false) else (if t260 = x15 then (some true) else (some false))))
end
def laws_FnExactRoom.f (k : Nat) (a0 : Int) (l1 : List (S82)) (l2 : List Int) : Option (Bool) := if (l2.length : Int) > 1048576 then (some true) else ((laws_szWireS.f l1 1048576).bind fun t211 => (if t211 < 0 then (some true) else ((laws_toWireS.f k l1).bind fun t212 => ((laws_toIntS.f k l2).bind fun t215 => ((spec_Room.f k a0 t212 t215).bind fun bt218 => ((laws_toWireS.f k l1).bind fun t222 => ((laws_toIntS.f k l2).bind fun t225 => ((impl_Room.f k a0 t222 t225).bind fun bt228 => ((laws_eqIntS.f k bt228.1 bt218.1).bind fun t232 => (if t232 = true then (laws_FnExactRoom.j0 k a0 l1 l2 bt218.1 bt218.2 t222 t225 bt228.1 bt228.2 (bt228.2 != bt218.2)) else (laws_FnExactRoom.j0 k a0 l1 l2 bt218.1 bt218.2 t222 t225 bt228.1 bt228.2 true)))))))))))
theorem laws_FnExactRoom.mono_l : ∀ k, (∀ y0 y1 y2 y3 y4 y5 y6 y7 y8 y9, LeO (laws_FnExactRoom.j0 k y0 y1 y2 y3 y4 y5 y6 y7 y8 y9) (laws_FnExactRoom.j0 (k + 1) y0 y1 y2 y3 y4 y5 y6 y7 y8 y9)) ∧ (∀ y0 y1 y2 y3 y4 y5 y6, LeO (laws_FnExactRoom.j1 k y0 y1 y2 y3 y4 y5 y6) (laws_FnExactRoom.j1 (k + 1) y0 y1 y2 y3 y4 y5 y6)) ∧ (∀ y0 y1 y2, LeO (laws_FnExactRoom.j2 k y0 y1 y2) (laws_FnExactRoom.j2 (k + 1) y0 y1 y2))
  | 0 => ⟨fun _ _ _ _ _ _ _ _ _ _ r h => by simp [laws_FnExactRoom.j0] at h, fun _ _ _ _ _ _ _ r h => by simp [laws_FnExactRoom.j1] at h, fun _ _ _ r h => by simp [laws_FnExactRoom.j2] at h⟩
  | k + 1 => by
    obtain ⟨ih0, ih1, ih2⟩ := laws_FnExactRoom.mono_l k
    refine ⟨?_, ?_, ?_⟩
    · intro y0 y1 y2 y3 y4 y5 y6 y7 y8 y9
      unfold laws_FnExactRoom.j0
      repeat' first
      | (with_reducible exact ih0 _ _ _ _ _ _ _ _ _ _)
      | (with_reducible exact ih1 _ _ _ _ _ _ _)
      | (with_reducible exact ih2 _ _ _)
      | (with_reducible exact impl_Room.mono _ _ _ _)
      | (with_reducible exact laws_eqIntS.mono _ _ _)
      | (with_reducible exact laws_eqWireS.mono _ _ _)
      | (with_reducible exact laws_heldIntS.mono _ _ _)
      | (with_reducible exact laws_markIntS.mono _ _ _)
      | (with_reducible exact laws_markWireS.mono _ _ _)
      | (with_reducible exact laws_toIntS.mono _ _)
      | (with_reducible exact laws_toWireS.mono _ _)
      | (with_reducible exact spec_Room.mono _ _ _ _)
      | (with_reducible exact LeO.refl _)
      | (with_reducible exact LeO.none _)
      | (with_reducible refine LeO.ite ?_ ?_)
      | (with_reducible refine LeO.bind ?_ (fun _ => ?_))
      | exact ih0 _ _ _ _ _ _ _ _ _ _
      | exact ih1 _ _ _ _ _ _ _
      | exact ih2 _ _ _
      | exact impl_Room.mono _ _ _ _
      | exact laws_eqIntS.mono _ _ _
      | exact laws_eqWireS.mono _ _ _
      | exact laws_heldIntS.mono _ _ _
      | exact laws_markIntS.mono _ _ _
      | exact laws_markWireS.mono _ _ _
      | exact laws_toIntS.mono _ _
      | exact laws_toWireS.mono _ _
      | exact spec_Room.mono _ _ _ _
      | exact LeO.none _
      | refine LeO.ite ?_ ?_
      | refine LeO.bind ?_ (fun _ => ?_)
    · intro y0 y1 y2 y3 y4 y5 y6
      unfold laws_FnExactRoom.j1
      repeat' first
      | (with_reducible exact ih0 _ _ _ _ _ _ _ _ _ _)
      | (with_reducible exact ih1 _ _ _ _ _ _ _)
      | (with_reducible exact ih2 _ _ _)
      | (with_reducible exact impl_Room.mono _ _ _ _)
      | (with_reducible exact laws_eqIntS.mono _ _ _)
      | (with_reducible exact laws_eqWireS.mono _ _ _)
      | (with_reducible exact laws_heldIntS.mono _ _ _)
      | (with_reducible exact laws_markIntS.mono _ _ _)
      | (with_reducible exact laws_markWireS.mono _ _ _)
      | (with_reducible exact laws_toIntS.mono _ _)
      | (with_reducible exact laws_toWireS.mono _ _)
      | (with_reducible exact spec_Room.mono _ _ _ _)
      | (with_reducible exact LeO.refl _)
      | (with_reducible exact LeO.none _)
      | (with_reducible refine LeO.ite ?_ ?_)
      | (with_reducible refine LeO.bind ?_ (fun _ => ?_))
      | exact ih0 _ _ _ _ _ _ _ _ _ _
      | exact ih1 _ _ _ _ _ _ _
      | exact ih2 _ _ _
      | exact impl_Room.mono _ _ _ _
      | exact laws_eqIntS.mono _ _ _
      | exact laws_eqWireS.mono _ _ _
      | exact laws_heldIntS.mono _ _ _
      | exact laws_markIntS.mono _ _ _
      | exact laws_markWireS.mono _ _ _
      | exact laws_toIntS.mono _ _
      | exact laws_toWireS.mono _ _
      | exact spec_Room.mono _ _ _ _
      | exact LeO.none _
      | refine LeO.ite ?_ ?_
      | refine LeO.bind ?_ (fun _ => ?_)
    · intro y0 y1 y2
      unfold laws_FnExactRoom.j2
      repeat' first
      | (with_reducible exact ih0 _ _ _ _ _ _ _ _ _ _)
      | (with_reducible exact ih1 _ _ _ _ _ _ _)
      | (with_reducible exact ih2 _ _ _)
      | (with_reducible exact impl_Room.mono _ _ _ _)
      | (with_reducible exact laws_eqIntS.mono _ _ _)
      | (with_reducible exact laws_eqWireS.mono _ _ _)
      | (with_reducible exact laws_heldIntS.mono _ _ _)
      | (with_reducible exact laws_markIntS.mono _ _ _)
      | (with_reducible exact laws_markWireS.mono _ _ _)
      | (with_reducible exact laws_toIntS.mono _ _)
      | (with_reducible exact laws_toWireS.mono _ _)
      | (with_reducible exact spec_Room.mono _ _ _ _)
      | (with_reducible exact LeO.refl _)
      | (with_reducible exact LeO.none _)
      | (with_reducible refine LeO.ite ?_ ?_)
      | (with_reducible refine LeO.bind ?_ (fun _ => ?_))
      | exact ih0 _ _ _ _ _ _ _ _ _ _
      | exact ih1 _ _ _ _ _ _ _
      | exact ih2 _ _ _
      | exact impl_Room.mono _ _ _ _
      | exact laws_eqIntS.mono _ _ _
      | exact laws_eqWireS.mono _ _ _
      | exact laws_heldIntS.mono _ _ _
      | exact laws_markIntS.mono _ _ _
      | exact laws_markWireS.mono _ _ _
      | exact laws_toIntS.mono _ _
      | exact laws_toWireS.mono _ _
      | exact spec_Room.mono _ _ _ _
      | exact LeO.none _
      | refine LeO.ite ?_ ?_
      | refine LeO.bind ?_ (fun _ => ?_)
theorem laws_FnExactRoom.mono : ∀ a0 a1 a2 k, LeO (laws_FnExactRoom.f k a0 a1 a2) (laws_FnExactRoom.f (k + 1) a0 a1 a2) := by
  intro a0 a1 a2 k
  obtain ⟨ih0, ih1, ih2⟩ := laws_FnExactRoom.mono_l k
  unfold laws_FnExactRoom.f
  repeat' first
      | (with_reducible exact ih0 _ _ _ _ _ _ _ _ _ _)
      | (with_reducible exact ih1 _ _ _ _ _ _ _)
      | (with_reducible exact ih2 _ _ _)
      | (with_reducible exact impl_Room.mono _ _ _ _)
      | (with_reducible exact laws_eqIntS.mono _ _ _)
      | (with_reducible exact laws_eqWireS.mono _ _ _)
      | (with_reducible exact laws_heldIntS.mono _ _ _)
      | (with_reducible exact laws_markIntS.mono _ _ _)
      | (with_reducible exact laws_markWireS.mono _ _ _)
      | (with_reducible exact laws_toIntS.mono _ _)
      | (with_reducible exact laws_toWireS.mono _ _)
      | (with_reducible exact spec_Room.mono _ _ _ _)
      | (with_reducible exact LeO.refl _)
      | (with_reducible exact LeO.none _)
      | (with_reducible refine LeO.ite ?_ ?_)
      | (with_reducible refine LeO.bind ?_ (fun _ => ?_))
      | exact ih0 _ _ _ _ _ _ _ _ _ _
      | exact ih1 _ _ _ _ _ _ _
      | exact ih2 _ _ _
      | exact impl_Room.mono _ _ _ _
      | exact laws_eqIntS.mono _ _ _
      | exact laws_eqWireS.mono _ _ _
      | exact laws_heldIntS.mono _ _ _
      | exact laws_markIntS.mono _ _ _
      | exact laws_markWireS.mono _ _ _
      | exact laws_toIntS.mono _ _
      | exact laws_toWireS.mono _ _
      | exact spec_Room.mono _ _ _ _
      | exact LeO.none _
      | refine LeO.ite ?_ ?_
      | refine LeO.bind ?_ (fun _ => ?_)
set_option maxHeartbeats 8000000 in
set_option maxRecDepth 100000 in
theorem laws_FnExactRoom.calls (k : Nat) (a0 : Int) (A1 : Option Addr) (c1 : Nat) (l1 : List (S82)) (A2 : Option Addr) (c2 : Nat) (l2 : List Int) (r : Bool) (w : World) (hr1 : Kd.C k82 w A1 l1.length l1) (hc1 : l1.length ≤ c1) (hr2 : Kd.C (Kd.int .i64) w A2 l2.length l2) (hc2 : l2.length ≤ c2) (hr_ : r = true) (h : laws_FnExactRoom.f k a0 l1 l2 = some r) :
    Calls Try.prog 4 #[.int .i64 a0, .slice A1 l1.length c1, .slice A2 l2.length c2] w fun e w' => e = .returned (.bool r) ∧ Below w.heap.size w w' := by
  have HR1 := Aside0.mk hr1
  have HC1 := Aside0.mk hc1
  clear hr1 hc1
  have HR2 := Aside0.mk hr2
  have HC2 := Aside0.mk hc2
  clear hr2 hc2
  have HB := Aside0.mk (Below.refl w.heap.size w)
  have H : (if (l2.length : Int) > 1048576 then (some true) else ((laws_szWireS.f l1 1048576).bind fun t211 => (if t211 < 0 then (some true) else ((laws_toWireS.f k l1).bind fun t212 => ((laws_toIntS.f k l2).bind fun t215 => ((spec_Room.f k a0 t212 t215).bind fun bt218 => ((laws_toWireS.f k l1).bind fun t222 => ((laws_toIntS.f k l2).bind fun t225 => ((impl_Room.f k a0 t222 t225).bind fun bt228 => ((laws_eqIntS.f k bt228.1 bt218.1).bind fun t232 => (if t232 = true then (laws_FnExactRoom.j0 k a0 l1 l2 bt218.1 bt218.2 t222 t225 bt228.1 bt228.2 (bt228.2 != bt218.2)) else (laws_FnExactRoom.j0 k a0 l1 l2 bt218.1 bt218.2 t222 t225 bt228.1 bt228.2 true)))))))))))) = some r := h
  clear h
  by_cases c4 : (l2.length : Int) > 1048576
  · rw [if_pos c4] at H
    have c4b0 : decide (1048576 < (l2.length : Int)) = true := decide_eq_true c4
    have c4b1 : decide (1048576 < l2.length) = true := decide_eq_true (by omega)
    clear c4
    obtain rfl := Option.some.inj H
    go_enter Try.func4, Try.ntmps4
    go_wp2
    go_ret
    exact ⟨by first | rfl | (simp [errW_none, errW_some] <;> rfl) | (simp [*, errW_none, errW_some] <;> rfl), by repeat (first | (with_reducible first | exact HB.out | apply below_alloc | apply pw_below_drewN | apply below_drew1) | exact HB.out)⟩
  · rw [if_neg c4] at H
    have c4b0 : decide (1048576 < (l2.length : Int)) = false := decide_eq_false c4
    have c4b1 : decide (1048576 < l2.length) = false := decide_eq_false (by omega)
    clear c4
    replace H := Option.bind_eq_some_iff.mp H
    obtain ⟨t211, A50, H⟩ := H
    replace H : (if t211 < 0 then (some true) else ((laws_toWireS.f k l1).bind fun t212 => ((laws_toIntS.f k l2).bind fun t215 => ((spec_Room.f k a0 t212 t215).bind fun bt218 => ((laws_toWireS.f k l1).bind fun t222 => ((laws_toIntS.f k l2).bind fun t225 => ((impl_Room.f k a0 t222 t225).bind fun bt228 => ((laws_eqIntS.f k bt228.1 bt218.1).bind fun t232 => (if t232 = true then (laws_FnExactRoom.j0 k a0 l1 l2 bt218.1 bt218.2 t222 t225 bt228.1 bt228.2 (bt228.2 != bt218.2)) else (laws_FnExactRoom.j0 k a0 l1 l2 bt218.1 bt218.2 t222 t225 bt228.1 bt228.2 true)))))))))) = some r := H
    have A5 := Aside0.mk A50
    clear A50
    by_cases c6 : t211 < 0
    · rw [if_pos c6] at H
      have c6b0 : decide (t211 < 0) = true := decide_eq_true c6
      clear c6
      obtain rfl := Option.some.inj H
      go_enter Try.func4, Try.ntmps4
      go_wp2_with (first | ((with_reducible refine gate_callee (f := 9) rfl ?_); refine goesL_ (some 24) rfl rfl Try.func9 (by kernel_rfl) rfl #[.slice A1 l1.length c1, .int .i64 1048576] rfl (by (try simp only [List.map_toArray, List.map_cons, List.map_nil]); first | done | rfl | (simp only [List.length_drop, List.length_take]; rfl)) ?_; (with_reducible refine (laws_szWireS.calls _ _ l1 1048576 t211 _ ?side1 ?side2 A5.out).mono ?_); (case side1 => repeat (first | exact HR1.out | (with_reducible refine Kd.C_alloc ?_ _) | (with_reducible refine Kd.C_drewN ?_ _) | (with_reducible refine Kd.C_drew ?_))); (case side2 => exact HC1.out); rintro e w' ⟨rfl, ⟨nd, rfl⟩⟩; refine ⟨_, rfl, ?_⟩))
      go_ret
      exact ⟨by first | rfl | (simp [errW_none, errW_some] <;> rfl) | (simp [*, errW_none, errW_some] <;> rfl), by repeat (first | (with_reducible first | exact HB.out | apply below_alloc | apply pw_below_drewN | apply below_drew1) | exact HB.out)⟩
    · rw [if_neg c6] at H
      have c6b0 : decide (t211 < 0) = false := decide_eq_false c6
      clear c6
      replace H := Option.bind_eq_some_iff.mp H
      obtain ⟨t212, A70, H⟩ := H
      replace H : ((laws_toIntS.f k l2).bind fun t215 => ((spec_Room.f k a0 t212 t215).bind fun bt218 => ((laws_toWireS.f k l1).bind fun t222 => ((laws_toIntS.f k l2).bind fun t225 => ((impl_Room.f k a0 t222 t225).bind fun bt228 => ((laws_eqIntS.f k bt228.1 bt218.1).bind fun t232 => (if t232 = true then (laws_FnExactRoom.j0 k a0 l1 l2 bt218.1 bt218.2 t222 t225 bt228.1 bt228.2 (bt228.2 != bt218.2)) else (laws_FnExactRoom.j0 k a0 l1 l2 bt218.1 bt218.2 t222 t225 bt228.1 bt228.2 true)))))))) = some r := H
      have A7 := Aside0.mk A70
      clear A70
      replace H := Option.bind_eq_some_iff.mp H
      obtain ⟨t215, A80, H⟩ := H
      replace H : ((spec_Room.f k a0 t212 t215).bind fun bt218 => ((laws_toWireS.f k l1).bind fun t222 => ((laws_toIntS.f k l2).bind fun t225 => ((impl_Room.f k a0 t222 t225).bind fun bt228 => ((laws_eqIntS.f k bt228.1 bt218.1).bind fun t232 => (if t232 = true then (laws_FnExactRoom.j0 k a0 l1 l2 bt218.1 bt218.2 t222 t225 bt228.1 bt228.2 (bt228.2 != bt218.2)) else (laws_FnExactRoom.j0 k a0 l1 l2 bt218.1 bt218.2 t222 t225 bt228.1 bt228.2 true))))))) = some r := H
      have A8 := Aside0.mk A80
      clear A80
      replace H := Option.bind_eq_some_iff.mp H
      obtain ⟨⟨t218, t219⟩, A90, H⟩ := H
      replace H : ((laws_toWireS.f k l1).bind fun t222 => ((laws_toIntS.f k l2).bind fun t225 => ((impl_Room.f k a0 t222 t225).bind fun bt228 => ((laws_eqIntS.f k bt228.1 t218).bind fun t232 => (if t232 = true then (laws_FnExactRoom.j0 k a0 l1 l2 t218 t219 t222 t225 bt228.1 bt228.2 (bt228.2 != t219)) else (laws_FnExactRoom.j0 k a0 l1 l2 t218 t219 t222 t225 bt228.1 bt228.2 true)))))) = some r := H
      have A9 := Aside0.mk A90
      clear A90
      replace H := Option.bind_eq_some_iff.mp H
      obtain ⟨t222, A100, H⟩ := H
      replace H : ((laws_toIntS.f k l2).bind fun t225 => ((impl_Room.f k a0 t222 t225).bind fun bt228 => ((laws_eqIntS.f k bt228.1 t218).bind fun t232 => (if t232 = true then (laws_FnExactRoom.j0 k a0 l1 l2 t218 t219 t222 t225 bt228.1 bt228.2 (bt228.2 != t219)) else (laws_FnExactRoom.j0 k a0 l1 l2 t218 t219 t222 t225 bt228.1 bt228.2 true))))) = some r := H
      have A10 := Aside0.mk A100
      clear A100
      replace H := Option.bind_eq_some_iff.mp H
      obtain ⟨t225, A110, H⟩ := H
      replace H : ((impl_Room.f k a0 t222 t225).bind fun bt228 => ((laws_eqIntS.f k bt228.1 t218).bind fun t232 => (if t232 = true then (laws_FnExactRoom.j0 k a0 l1 l2 t218 t219 t222 t225 bt228.1 bt228.2 (bt228.2 != t219)) else (laws_FnExactRoom.j0 k a0 l1 l2 t218 t219 t222 t225 bt228.1 bt228.2 true)))) = some r := H
      have A11 := Aside0.mk A110
      clear A110
      replace H := Option.bind_eq_some_iff.mp H
      obtain ⟨⟨t228, t229⟩, A120, H⟩ := H
      replace H : ((laws_eqIntS.f k t228 t218).bind fun t232 => (if t232 = true then (laws_FnExactRoom.j0 k a0 l1 l2 t218 t219 t222 t225 t228 t229 (t229 != t219)) else (laws_FnExactRoom.j0 k a0 l1 l2 t218 t219 t222 t225 t228 t229 true))) = some r := H
      have A12 := Aside0.mk A120
      clear A120
      have HC13 := Aside0.mk H
      clear H
      go_enter Try.func4, Try.ntmps4
      go_upto_region 11 with (first | ((with_reducible refine gate_callee (f := 9) rfl ?_); refine goesL_ (some 24) rfl rfl Try.func9 (by kernel_rfl) rfl #[.slice A1 l1.length c1, .int .i64 1048576] rfl (by (try simp only [List.map_toArray, List.map_cons, List.map_nil]); first | done | rfl | (simp only [List.length_drop, List.length_take]; rfl)) ?_; (with_reducible refine (laws_szWireS.calls _ _ l1 1048576 t211 _ ?side1 ?side2 A5.out).mono ?_); (case side1 => repeat (first | exact HR1.out | (with_reducible refine Kd.C_alloc ?_ _) | (with_reducible refine Kd.C_drewN ?_ _) | (with_reducible refine Kd.C_drew ?_))); (case side2 => exact HC1.out); rintro e w' ⟨rfl, ⟨nd, rfl⟩⟩; refine ⟨_, rfl, ?_⟩) | ((with_reducible refine gate_callee (f := 11) rfl ?_); refine goesL_ (some 30) rfl rfl Try.func11 (by kernel_rfl) rfl #[.slice A1 l1.length c1] rfl (by (try simp only [List.map_toArray, List.map_cons, List.map_nil]); first | done | rfl | (simp only [List.length_drop, List.length_take]; rfl)) ?_; (with_reducible refine (laws_toWireS.calls k _ _ l1 t212 _ ?side1 ?side2 A7.out).mono ?_); (case side1 => repeat (first | exact HR1.out | (with_reducible refine Kd.C_alloc ?_ _) | (with_reducible refine Kd.C_drewN ?_ _) | (with_reducible refine Kd.C_drew ?_))); (case side2 => exact HC1.out); rintro e w14 ⟨v213, rfl, ho0, hb⟩; refine ⟨_, rfl, ?_⟩; have n0_ := Aside0.mk (Kd.R_lower ho0 (below_size (by repeat (first | (with_reducible first | exact HB.out | apply below_alloc | apply pw_below_drewN | apply below_drew1) | exact HB.out)))); have n1_ := Aside0.mk (below_step (by repeat (first | (with_reducible first | exact HB.out | apply below_alloc | apply pw_below_drewN | apply below_drew1) | exact HB.out)) hb); clear HB; have HO214 := n0_; have HB := n1_; clear n0_ n1_; (try clear hb); (try clear hb2); (try clear hk); (try clear hi); (try clear ho0)) | ((with_reducible refine gate_callee (f := 12) rfl ?_); refine goesL_ (some 32) rfl rfl Try.func12 (by kernel_rfl) rfl #[.slice A2 l2.length c2] rfl (by (try simp only [List.map_toArray, List.map_cons, List.map_nil]); first | done | rfl | (simp only [List.length_drop, List.length_take]; rfl)) ?_; (with_reducible refine (laws_toIntS.calls k _ _ l2 t215 _ ?side1 ?side2 A8.out).mono ?_); (case side1 => repeat (first | exact (Kd.C_below HR2.out HB.out) | (with_reducible refine Kd.C_alloc ?_ _) | (with_reducible refine Kd.C_drewN ?_ _) | (with_reducible refine Kd.C_drew ?_))); (case side2 => exact HC2.out); rintro e w15 ⟨v216, rfl, ho0, hb⟩; refine ⟨_, rfl, ?_⟩; have n0_ := Aside0.mk (Kd.R_below (by (with_reducible repeat (first | apply Kd.R_alloc | apply Kd.R_drewN | apply Kd.R_drew)); first | exact HO214.out | (subst_vars; exact HO214.out)) hb); have n1_ := Aside0.mk (Kd.R_lower ho0 (below_size (by repeat (first | (with_reducible first | exact HB.out | apply below_alloc | apply pw_below_drewN | apply below_drew1) | exact HB.out)))); have n2_ := Aside0.mk (below_step (by repeat (first | (with_reducible first | exact HB.out | apply below_alloc | apply pw_below_drewN | apply below_drew1) | exact HB.out)) hb); clear HO214; clear HB; have HO214 := n0_; have HO217 := n1_; have HB := n2_; clear n0_ n1_ n2_; (try clear hb); (try clear hb2); (try clear hk); (try clear hi); (try clear ho0); obtain ⟨Ao16, co16, eo16⟩ := Kd.R_slice HO214.out; subst eo16; obtain ⟨Ao17, co17, eo17⟩ := Kd.R_slice HO217.out; subst eo17) | ((with_reducible refine gate_callee (f := 19) rfl ?_); refine goesL_ (some 33) rfl rfl Try.func19 (by kernel_rfl) rfl #[.int .i64 a0, .slice Ao16 t212.length co16, .slice Ao17 t215.length co17] rfl (by (try simp only [List.map_toArray, List.map_cons, List.map_nil]); first | done | rfl | (simp only [List.length_drop, List.length_take]; rfl)) ?_; (with_reducible refine (spec_Room.calls k a0 _ _ t212 _ _ t215 t218 t219 _ ?side1 ?side2 ?side3 ?side4 A9.out).mono ?_); (case side1 => repeat (first | exact (Kd.R_reads' HO214.out).2.2 | (with_reducible refine Kd.C_alloc ?_ _) | (with_reducible refine Kd.C_drewN ?_ _) | (with_reducible refine Kd.C_drew ?_))); (case side2 => exact (Kd.R_reads' HO214.out).2.1); (case side3 => repeat (first | exact (Kd.R_reads' HO217.out).2.2 | (with_reducible refine Kd.C_alloc ?_ _) | (with_reducible refine Kd.C_drewN ?_ _) | (with_reducible refine Kd.C_drew ?_))); (case side4 => exact (Kd.R_reads' HO217.out).2.1); rintro e w18 ⟨v220, rfl, ho0, hb⟩; refine ⟨_, rfl, ?_⟩; have n0_ := Aside0.mk (Kd.R_below (by (with_reducible repeat (first | apply Kd.R_alloc | apply Kd.R_drewN | apply Kd.R_drew)); first | exact HO214.out | (subst_vars; exact HO214.out)) hb); have n1_ := Aside0.mk (Kd.R_elder' (by (with_reducible repeat (first | apply Kd.R_alloc | apply Kd.R_drewN | apply Kd.R_drew)); first | exact HO217.out | (subst_vars; exact HO217.out)) (Kd.R_base ho0) hb); have n2_ := Aside0.mk (Kd.R_lower (Kd.R_new' ho0 (Kd.R_lt (by (with_reducible repeat (first | apply Kd.R_alloc | apply Kd.R_drewN | apply Kd.R_drew)); first | exact HO217.out | (subst_vars; exact HO217.out)))) (below_size (by repeat (first | (with_reducible first | exact HB.out | apply below_alloc | apply pw_below_drewN | apply below_drew1) | exact HB.out)))); have n3_ := Aside0.mk (below_step (by repeat (first | (with_reducible first | exact HB.out | apply below_alloc | apply pw_below_drewN | apply below_drew1) | exact HB.out)) hb); clear HO214; clear HO217; clear HB; have HO214 := n0_; have HO217 := n1_; have HO221 := n2_; have HB := n3_; clear n0_ n1_ n2_ n3_; (try clear hb); (try clear hb2); (try clear hk); (try clear hi); (try clear ho0)) | ((with_reducible refine gate_callee (f := 11) rfl ?_); refine goesL_ (some 37) rfl rfl Try.func11 (by kernel_rfl) rfl #[.slice A1 l1.length c1] rfl (by (try simp only [List.map_toArray, List.map_cons, List.map_nil]); first | done | rfl | (simp only [List.length_drop, List.length_take]; rfl)) ?_; (with_reducible refine (laws_toWireS.calls k _ _ l1 t222 _ ?side1 ?side2 A10.out).mono ?_); (case side1 => repeat (first | exact (Kd.C_below HR1.out HB.out) | (with_reducible refine Kd.C_alloc ?_ _) | (with_reducible refine Kd.C_drewN ?_ _) | (with_reducible refine Kd.C_drew ?_))); (case side2 => exact HC1.out); rintro e w19 ⟨v223, rfl, ho0, hb⟩; refine ⟨_, rfl, ?_⟩; have n0_ := Aside0.mk (Kd.R_elder' (by (with_reducible repeat (first | apply Kd.R_alloc | apply Kd.R_drewN | apply Kd.R_drew)); first | exact HO214.out | (subst_vars; exact HO214.out)) (Kd.R_base ho0) hb); have n1_ := Aside0.mk (Kd.R_below (by (with_reducible repeat (first | apply Kd.R_alloc | apply Kd.R_drewN | apply Kd.R_drew)); first | exact HO217.out | (subst_vars; exact HO217.out)) hb); have n2_ := Aside0.mk (Kd.R_below (by (with_reducible repeat (first | apply Kd.R_alloc | apply Kd.R_drewN | apply Kd.R_drew)); first | exact HO221.out | (subst_vars; exact HO221.out)) hb); have n3_ := Aside0.mk (Kd.R_lower (Kd.R_new' ho0 (Kd.R_lt (by (with_reducible repeat (first | apply Kd.R_alloc | apply Kd.R_drewN | apply Kd.R_drew)); first | exact HO214.out | (subst_vars; exact HO214.out)))) (below_size (by repeat (first | (with_reducible first | exact HB.out | apply below_alloc | apply pw_below_drewN | apply below_drew1) | exact HB.out)))); have n4_ := Aside0.mk (below_step (by repeat (first | (with_reducible first | exact HB.out | apply below_alloc | apply pw_below_drewN | apply below_drew1) | exact HB.out)) hb); clear HO214; clear HO217; clear HO221; clear HB; have HO214 := n0_; have HO217 := n1_; have HO221 := n2_; have HO224 := n3_; have HB := n4_; clear n0_ n1_ n2_ n3_ n4_; (try clear hb); (try clear hb2); (try clear hk); (try clear hi); (try clear ho0)) | ((with_reducible refine gate_callee (f := 12) rfl ?_); refine goesL_ (some 39) rfl rfl Try.func12 (by kernel_rfl) rfl #[.slice A2 l2.length c2] rfl (by (try simp only [List.map_toArray, List.map_cons, List.map_nil]); first | done | rfl | (simp only [List.length_drop, List.length_take]; rfl)) ?_; (with_reducible refine (laws_toIntS.calls k _ _ l2 t225 _ ?side1 ?side2 A11.out).mono ?_); (case side1 => repeat (first | exact (Kd.C_below HR2.out HB.out) | (with_reducible refine Kd.C_alloc ?_ _) | (with_reducible refine Kd.C_drewN ?_ _) | (with_reducible refine Kd.C_drew ?_))); (case side2 => exact HC2.out); rintro e w20 ⟨v226, rfl, ho0, hb⟩; refine ⟨_, rfl, ?_⟩; have n0_ := Aside0.mk (Kd.R_below (by (with_reducible repeat (first | apply Kd.R_alloc | apply Kd.R_drewN | apply Kd.R_drew)); first | exact HO214.out | (subst_vars; exact HO214.out)) hb); have n1_ := Aside0.mk (Kd.R_elder' (by (with_reducible repeat (first | apply Kd.R_alloc | apply Kd.R_drewN | apply Kd.R_drew)); first | exact HO217.out | (subst_vars; exact HO217.out)) (Kd.R_base ho0) hb); have n2_ := Aside0.mk (Kd.R_elder' (by (with_reducible repeat (first | apply Kd.R_alloc | apply Kd.R_drewN | apply Kd.R_drew)); first | exact HO221.out | (subst_vars; exact HO221.out)) (Kd.R_base ho0) hb); have n3_ := Aside0.mk (Kd.R_below (by (with_reducible repeat (first | apply Kd.R_alloc | apply Kd.R_drewN | apply Kd.R_drew)); first | exact HO224.out | (subst_vars; exact HO224.out)) hb); have n4_ := Aside0.mk (Kd.R_lower (Kd.R_new' (Kd.R_new' ho0 (Kd.R_lt (by (with_reducible repeat (first | apply Kd.R_alloc | apply Kd.R_drewN | apply Kd.R_drew)); first | exact HO217.out | (subst_vars; exact HO217.out)))) (Kd.R_lt (by (with_reducible repeat (first | apply Kd.R_alloc | apply Kd.R_drewN | apply Kd.R_drew)); first | exact HO221.out | (subst_vars; exact HO221.out)))) (below_size (by repeat (first | (with_reducible first | exact HB.out | apply below_alloc | apply pw_below_drewN | apply below_drew1) | exact HB.out)))); have n5_ := Aside0.mk (below_step (by repeat (first | (with_reducible first | exact HB.out | apply below_alloc | apply pw_below_drewN | apply below_drew1) | exact HB.out)) hb); clear HO214; clear HO217; clear HO221; clear HO224; clear HB; have HO214 := n0_; have HO217 := n1_; have HO221 := n2_; have HO224 := n3_; have HO227 := n4_; have HB := n5_; clear n0_ n1_ n2_ n3_ n4_ n5_; (try clear hb); (try clear hb2); (try clear hk); (try clear hi); (try clear ho0); obtain ⟨Ao21, co21, eo21⟩ := Kd.R_slice HO224.out; subst eo21; obtain ⟨Ao22, co22, eo22⟩ := Kd.R_slice HO227.out; subst eo22) | ((with_reducible refine gate_callee (f := 20) rfl ?_); refine goesL_ (some 44) rfl rfl Try.func20 (by kernel_rfl) rfl #[.int .i64 a0, .slice Ao21 t222.length co21, .slice Ao22 t225.length co22] rfl (by (try simp only [List.map_toArray, List.map_cons, List.map_nil]); first | done | rfl | (simp only [List.length_drop, List.length_take]; rfl)) ?_; (with_reducible refine (impl_Room.calls k a0 _ _ t222 _ _ t225 t228 t229 _ ?side1 ?side2 ?side3 ?side4 A12.out).mono ?_); (case side1 => repeat (first | exact (Kd.R_reads' HO224.out).2.2 | (with_reducible refine Kd.C_alloc ?_ _) | (with_reducible refine Kd.C_drewN ?_ _) | (with_reducible refine Kd.C_drew ?_))); (case side2 => exact (Kd.R_reads' HO224.out).2.1); (case side3 => repeat (first | exact (Kd.R_reads' HO227.out).2.2 | (with_reducible refine Kd.C_alloc ?_ _) | (with_reducible refine Kd.C_drewN ?_ _) | (with_reducible refine Kd.C_drew ?_))); (case side4 => exact (Kd.R_reads' HO227.out).2.1); rintro e w23 ⟨v230, rfl, ho0, hb⟩; refine ⟨_, rfl, ?_⟩; have n0_ := Aside0.mk (Kd.R_below (by (with_reducible repeat (first | apply Kd.R_alloc | apply Kd.R_drewN | apply Kd.R_drew)); first | exact HO214.out | (subst_vars; exact HO214.out)) hb); have n1_ := Aside0.mk (Kd.R_elder' (by (with_reducible repeat (first | apply Kd.R_alloc | apply Kd.R_drewN | apply Kd.R_drew)); first | exact HO217.out | (subst_vars; exact HO217.out)) (Kd.R_base ho0) hb); have n2_ := Aside0.mk (Kd.R_elder' (by (with_reducible repeat (first | apply Kd.R_alloc | apply Kd.R_drewN | apply Kd.R_drew)); first | exact HO221.out | (subst_vars; exact HO221.out)) (Kd.R_base ho0) hb); have n3_ := Aside0.mk (Kd.R_below (by (with_reducible repeat (first | apply Kd.R_alloc | apply Kd.R_drewN | apply Kd.R_drew)); first | exact HO224.out | (subst_vars; exact HO224.out)) hb); have n4_ := Aside0.mk (Kd.R_elder' (by (with_reducible repeat (first | apply Kd.R_alloc | apply Kd.R_drewN | apply Kd.R_drew)); first | exact HO227.out | (subst_vars; exact HO227.out)) (Kd.R_base ho0) hb); have n5_ := Aside0.mk (Kd.R_lower (Kd.R_new' (Kd.R_new' (Kd.R_new' ho0 (Kd.R_lt (by (with_reducible repeat (first | apply Kd.R_alloc | apply Kd.R_drewN | apply Kd.R_drew)); first | exact HO217.out | (subst_vars; exact HO217.out)))) (Kd.R_lt (by (with_reducible repeat (first | apply Kd.R_alloc | apply Kd.R_drewN | apply Kd.R_drew)); first | exact HO221.out | (subst_vars; exact HO221.out)))) (Kd.R_lt (by (with_reducible repeat (first | apply Kd.R_alloc | apply Kd.R_drewN | apply Kd.R_drew)); first | exact HO227.out | (subst_vars; exact HO227.out)))) (below_size (by repeat (first | (with_reducible first | exact HB.out | apply below_alloc | apply pw_below_drewN | apply below_drew1) | exact HB.out)))); have n6_ := Aside0.mk (below_step (by repeat (first | (with_reducible first | exact HB.out | apply below_alloc | apply pw_below_drewN | apply below_drew1) | exact HB.out)) hb); clear HO214; clear HO217; clear HO221; clear HO224; clear HO227; clear HB; have HO214 := n0_; have HO217 := n1_; have HO221 := n2_; have HO224 := n3_; have HO227 := n4_; have HO231 := n5_; have HB := n6_; clear n0_ n1_ n2_ n3_ n4_ n5_ n6_; (try clear hb); (try clear hb2); (try clear hk); (try clear hi); (try clear ho0)))
      (try simp only [Act.put, List.setIfInBounds_toArray, List.set_cons_zero, List.set_cons_succ])
      go_cut [55] (fun v55 wc => ∃ (kq : Nat) (x55_12 : Bool), v55 = .bool x55_12 ∧ Aside0 (laws_FnExactRoom.j0 kq a0 l1 l2 t218 t219 t222 t225 t228 t229 x55_12 = some r) ∧ Aside0 (kq ≤ k) ∧ Aside0 (Kd.R (Kd.int .i64) 3 wc w.heap.size (fun k_ => some k_ ≠ ((.slice Ao22 t225.length co22) : Value).ownBlock ∧ some k_ ≠ (v230 : Value).ownBlock) v220 t218) ∧ Aside0 (Kd.R k80 80 wc w.heap.size (fun _ => True) (.slice Ao21 t222.length co21) t222) ∧ Aside0 (Kd.R (Kd.int .i64) 3 wc w.heap.size (fun k_ => some k_ ≠ (v220 : Value).ownBlock ∧ some k_ ≠ (v230 : Value).ownBlock) (.slice Ao22 t225.length co22) t225) ∧ Aside0 (Kd.R (Kd.int .i64) 3 wc w.heap.size (fun k_ => some k_ ≠ (v220 : Value).ownBlock ∧ some k_ ≠ ((.slice Ao22 t225.length co22) : Value).ownBlock) v230 t228) ∧ Aside0 (Below w.heap.size w wc))
      case first =>
        have H := HC13.out
        clear HC13
        replace H := Option.bind_eq_some_iff.mp H
        obtain ⟨t232, A240, H⟩ := H
        replace H : (if t232 = true then (laws_FnExactRoom.j0 k a0 l1 l2 t218 t219 t222 t225 t228 t229 (t229 != t219)) else (laws_FnExactRoom.j0 k a0 l1 l2 t218 t219 t222 t225 t228 t229 true)) = some r := H
        have A24 := Aside0.mk A240
        clear A240
        by_cases c25 : t232 = true
        · subst c25
          have H1 : (laws_FnExactRoom.j0 k a0 l1 l2 t218 t219 t222 t225 t228 t229 (t229 != t219)) = some r := by rw [if_pos rfl] at H; exact H
          clear H
          have H := H1
          clear H1
          have H' := Aside0.mk H
          clear H
          obtain ⟨Ao26, co26, eo26⟩ := Kd.R_slice HO231.out
          subst eo26
          obtain ⟨Ao27, co27, eo27⟩ := Kd.R_slice HO221.out
          subst eo27
          go_wp2_with (first | ((with_reducible refine gate_callee (f := 14) rfl ?_); refine goesL_ (some 49) rfl rfl Try.func14 (by kernel_rfl) rfl #[.slice Ao26 t228.length co26, .slice Ao27 t218.length co27] rfl (by (try simp only [List.map_toArray, List.map_cons, List.map_nil]); first | done | rfl | (simp only [List.length_drop, List.length_take]; rfl)) ?_; (with_reducible refine (laws_eqIntS.calls k _ _ t228 _ _ t218 true _ ?side1 ?side2 ?side3 ?side4 A24.out).mono ?_); (case side1 => repeat (first | exact (Kd.R_reads' HO231.out).2.2 | (with_reducible refine Kd.C_alloc ?_ _) | (with_reducible refine Kd.C_drewN ?_ _) | (with_reducible refine Kd.C_drew ?_))); (case side2 => exact (Kd.R_reads' HO231.out).2.1); (case side3 => repeat (first | exact (Kd.R_reads' HO221.out).2.2 | (with_reducible refine Kd.C_alloc ?_ _) | (with_reducible refine Kd.C_drewN ?_ _) | (with_reducible refine Kd.C_drew ?_))); (case side4 => exact (Kd.R_reads' HO221.out).2.1); rintro e w' ⟨rfl, ⟨nd, rfl⟩⟩; refine ⟨_, rfl, ?_⟩))
          go_meet
          case rel => exact ⟨_, ((t229 != t219)), (by first | rfl | (simp; done) | (simp [*]; done)), H', ⟨by first | omega | exact Nat.le_refl _⟩, ⟨by (with_reducible repeat (first | apply Kd.R_alloc | apply Kd.R_drewN | apply Kd.R_drew)); first | exact Kd.R_mono HO221.out (fun _ hk => ⟨hk.1.2, hk.2⟩) | (subst_vars; exact Kd.R_mono HO221.out (fun _ hk => ⟨hk.1.2, hk.2⟩))⟩, ⟨by (with_reducible repeat (first | apply Kd.R_alloc | apply Kd.R_drewN | apply Kd.R_drew)); first | exact Kd.R_mono HO224.out (fun _ hk => trivial) | (subst_vars; exact Kd.R_mono HO224.out (fun _ hk => trivial))⟩, ⟨by (with_reducible repeat (first | apply Kd.R_alloc | apply Kd.R_drewN | apply Kd.R_drew)); first | exact Kd.R_mono HO227.out (fun _ hk => ⟨hk.1.2, hk.2⟩) | (subst_vars; exact Kd.R_mono HO227.out (fun _ hk => ⟨hk.1.2, hk.2⟩))⟩, ⟨by (with_reducible repeat (first | apply Kd.R_alloc | apply Kd.R_drewN | apply Kd.R_drew)); first | exact Kd.R_mono HO231.out (fun _ hk => ⟨hk.1.2, hk.2⟩) | (subst_vars; exact Kd.R_mono HO231.out (fun _ hk => ⟨hk.1.2, hk.2⟩))⟩, ⟨by repeat (first | (with_reducible first | exact HB.out | apply below_alloc | apply pw_below_drewN | apply below_drew1) | exact HB.out)⟩⟩
        · replace c25 := Bool.eq_false_iff.mpr c25
          subst c25
          have H1 : (laws_FnExactRoom.j0 k a0 l1 l2 t218 t219 t222 t225 t228 t229 true) = some r := by rw [if_neg (show ¬ (false = true) by decide)] at H; exact H
          clear H
          have H := H1
          clear H1
          have H' := Aside0.mk H
          clear H
          obtain ⟨Ao28, co28, eo28⟩ := Kd.R_slice HO231.out
          subst eo28
          obtain ⟨Ao29, co29, eo29⟩ := Kd.R_slice HO221.out
          subst eo29
          go_wp2_with (first | ((with_reducible refine gate_callee (f := 14) rfl ?_); refine goesL_ (some 49) rfl rfl Try.func14 (by kernel_rfl) rfl #[.slice Ao28 t228.length co28, .slice Ao29 t218.length co29] rfl (by (try simp only [List.map_toArray, List.map_cons, List.map_nil]); first | done | rfl | (simp only [List.length_drop, List.length_take]; rfl)) ?_; (with_reducible refine (laws_eqIntS.calls k _ _ t228 _ _ t218 false _ ?side1 ?side2 ?side3 ?side4 A24.out).mono ?_); (case side1 => repeat (first | exact (Kd.R_reads' HO231.out).2.2 | (with_reducible refine Kd.C_alloc ?_ _) | (with_reducible refine Kd.C_drewN ?_ _) | (with_reducible refine Kd.C_drew ?_))); (case side2 => exact (Kd.R_reads' HO231.out).2.1); (case side3 => repeat (first | exact (Kd.R_reads' HO221.out).2.2 | (with_reducible refine Kd.C_alloc ?_ _) | (with_reducible refine Kd.C_drewN ?_ _) | (with_reducible refine Kd.C_drew ?_))); (case side4 => exact (Kd.R_reads' HO221.out).2.1); rintro e w' ⟨rfl, ⟨nd, rfl⟩⟩; refine ⟨_, rfl, ?_⟩))
          go_meet
          case rel => exact ⟨_, (true), (by first | rfl | (simp; done) | (simp [*]; done)), H', ⟨by first | omega | exact Nat.le_refl _⟩, ⟨by (with_reducible repeat (first | apply Kd.R_alloc | apply Kd.R_drewN | apply Kd.R_drew)); first | exact Kd.R_mono HO221.out (fun _ hk => ⟨hk.1.2, hk.2⟩) | (subst_vars; exact Kd.R_mono HO221.out (fun _ hk => ⟨hk.1.2, hk.2⟩))⟩, ⟨by (with_reducible repeat (first | apply Kd.R_alloc | apply Kd.R_drewN | apply Kd.R_drew)); first | exact Kd.R_mono HO224.out (fun _ hk => trivial) | (subst_vars; exact Kd.R_mono HO224.out (fun _ hk => trivial))⟩, ⟨by (with_reducible repeat (first | apply Kd.R_alloc | apply Kd.R_drewN | apply Kd.R_drew)); first | exact Kd.R_mono HO227.out (fun _ hk => ⟨hk.1.2, hk.2⟩) | (subst_vars; exact Kd.R_mono HO227.out (fun _ hk => ⟨hk.1.2, hk.2⟩))⟩, ⟨by (with_reducible repeat (first | apply Kd.R_alloc | apply Kd.R_drewN | apply Kd.R_drew)); first | exact Kd.R_mono HO231.out (fun _ hk => ⟨hk.1.2, hk.2⟩) | (subst_vars; exact Kd.R_mono HO231.out (fun _ hk => ⟨hk.1.2, hk.2⟩))⟩, ⟨by repeat (first | (with_reducible first | exact HB.out | apply below_alloc | apply pw_below_drewN | apply below_drew1) | exact HB.out)⟩⟩
      case rest =>
        clear HC13
        try clear c1
        try clear c2
        try clear p2
        try clear c4
        try clear c4b0
        try clear c4b1
        try clear c6
        try clear c6b0
        try clear c9
        try clear c11
        try clear c12
        try clear c14
        try clear c19
        try clear c20
        try clear c25
        obtain ⟨kq, x55_12, rfl, HA, HJ12, HO_8, HO_10, HO_11, HO_12, HB⟩ := hcut
        cases kq with
        | zero => exact absurd HA.out (by simp [laws_FnExactRoom.j0])
        | succ kj12 =>
          have H := HA.out
          clear HA
          simp only [laws_FnExactRoom.j0] at H
          by_cases c30 : x55_12 = true
          · subst c30
            have H1 : (some false) = some r := by rw [if_pos rfl] at H; exact H
            clear H
            have H := H1
            clear H1
            exact absurd (Option.some.inj H) (by rw [hr_]; decide)
          · replace c30 := Bool.eq_false_iff.mpr c30
            subst c30
            have H1 : ((laws_toWireS.f kj12 l1).bind fun t233 => ((laws_eqWireS.f kj12 t222 t233).bind fun t236 => (if t236 = true then ((laws_toIntS.f kj12 l2).bind fun t237 => ((laws_eqIntS.f kj12 t225 t237).bind fun t240 => (if t240 = true then ((laws_markWireS.f kj12 t222 1).bind fun bt241 => ((laws_markIntS.f kj12 t225 bt241.1).bind fun bt243 => (if bt243.1 < 0 then (laws_FnExactRoom.j1 kj12 a0 l1 l2 t218 t219 t228 true) else ((laws_eqIntS.f kj12 t228 t218).bind fun t245 => (if t245 = true then (laws_FnExactRoom.j1 kj12 a0 l1 l2 t218 t219 t228 (t229 != t219)) else (laws_FnExactRoom.j1 kj12 a0 l1 l2 t218 t219 t228 true)))))) else (some false)))) else (some false)))) = some r := by rw [if_neg (show ¬ (false = true) by decide)] at H; exact H
            clear H
            have H := H1
            clear H1
            replace H := Option.bind_eq_some_iff.mp H
            obtain ⟨t233, A310, H⟩ := H
            replace H : ((laws_eqWireS.f kj12 t222 t233).bind fun t236 => (if t236 = true then ((laws_toIntS.f kj12 l2).bind fun t237 => ((laws_eqIntS.f kj12 t225 t237).bind fun t240 => (if t240 = true then ((laws_markWireS.f kj12 t222 1).bind fun bt241 => ((laws_markIntS.f kj12 t225 bt241.1).bind fun bt243 => (if bt243.1 < 0 then (laws_FnExactRoom.j1 kj12 a0 l1 l2 t218 t219 t228 true) else ((laws_eqIntS.f kj12 t228 t218).bind fun t245 => (if t245 = true then (laws_FnExactRoom.j1 kj12 a0 l1 l2 t218 t219 t228 (t229 != t219)) else (laws_FnExactRoom.j1 kj12 a0 l1 l2 t218 t219 t228 true)))))) else (some false)))) else (some false))) = some r := H
            have A31 := Aside0.mk A310
            clear A310
            replace H := Option.bind_eq_some_iff.mp H
            obtain ⟨t236, A320, H⟩ := H
            replace H : (if t236 = true then ((laws_toIntS.f kj12 l2).bind fun t237 => ((laws_eqIntS.f kj12 t225 t237).bind fun t240 => (if t240 = true then ((laws_markWireS.f kj12 t222 1).bind fun bt241 => ((laws_markIntS.f kj12 t225 bt241.1).bind fun bt243 => (if bt243.1 < 0 then (laws_FnExactRoom.j1 kj12 a0 l1 l2 t218 t219 t228 true) else ((laws_eqIntS.f kj12 t228 t218).bind fun t245 => (if t245 = true then (laws_FnExactRoom.j1 kj12 a0 l1 l2 t218 t219 t228 (t229 != t219)) else (laws_FnExactRoom.j1 kj12 a0 l1 l2 t218 t219 t228 true)))))) else (some false)))) else (some false)) = some r := H
            have A32 := Aside0.mk A320
            clear A320
            by_cases c33 : t236 = true
            · subst c33
              have H1 : ((laws_toIntS.f kj12 l2).bind fun t237 => ((laws_eqIntS.f kj12 t225 t237).bind fun t240 => (if t240 = true then ((laws_markWireS.f kj12 t222 1).bind fun bt241 => ((laws_markIntS.f kj12 t225 bt241.1).bind fun bt243 => (if bt243.1 < 0 then (laws_FnExactRoom.j1 kj12 a0 l1 l2 t218 t219 t228 true) else ((laws_eqIntS.f kj12 t228 t218).bind fun t245 => (if t245 = true then (laws_FnExactRoom.j1 kj12 a0 l1 l2 t218 t219 t228 (t229 != t219)) else (laws_FnExactRoom.j1 kj12 a0 l1 l2 t218 t219 t228 true)))))) else (some false)))) = some r := by rw [if_pos rfl] at H; exact H
              clear H
              have H := H1
              clear H1
              replace H := Option.bind_eq_some_iff.mp H
              obtain ⟨t237, A340, H⟩ := H
              replace H : ((laws_eqIntS.f kj12 t225 t237).bind fun t240 => (if t240 = true then ((laws_markWireS.f kj12 t222 1).bind fun bt241 => ((laws_markIntS.f kj12 t225 bt241.1).bind fun bt243 => (if bt243.1 < 0 then (laws_FnExactRoom.j1 kj12 a0 l1 l2 t218 t219 t228 true) else ((laws_eqIntS.f kj12 t228 t218).bind fun t245 => (if t245 = true then (laws_FnExactRoom.j1 kj12 a0 l1 l2 t218 t219 t228 (t229 != t219)) else (laws_FnExactRoom.j1 kj12 a0 l1 l2 t218 t219 t228 true)))))) else (some false))) = some r := H
              have A34 := Aside0.mk A340
              clear A340
              replace H := Option.bind_eq_some_iff.mp H
              obtain ⟨t240, A350, H⟩ := H
              replace H : (if t240 = true then ((laws_markWireS.f kj12 t222 1).bind fun bt241 => ((laws_markIntS.f kj12 t225 bt241.1).bind fun bt243 => (if bt243.1 < 0 then (laws_FnExactRoom.j1 kj12 a0 l1 l2 t218 t219 t228 true) else ((laws_eqIntS.f kj12 t228 t218).bind fun t245 => (if t245 = true then (laws_FnExactRoom.j1 kj12 a0 l1 l2 t218 t219 t228 (t229 != t219)) else (laws_FnExactRoom.j1 kj12 a0 l1 l2 t218 t219 t228 true)))))) else (some false)) = some r := H
              have A35 := Aside0.mk A350
              clear A350
              by_cases c36 : t240 = true
              · subst c36
                have H1 : ((laws_markWireS.f kj12 t222 1).bind fun bt241 => ((laws_markIntS.f kj12 t225 bt241.1).bind fun bt243 => (if bt243.1 < 0 then (laws_FnExactRoom.j1 kj12 a0 l1 l2 t218 t219 t228 true) else ((laws_eqIntS.f kj12 t228 t218).bind fun t245 => (if t245 = true then (laws_FnExactRoom.j1 kj12 a0 l1 l2 t218 t219 t228 (t229 != t219)) else (laws_FnExactRoom.j1 kj12 a0 l1 l2 t218 t219 t228 true)))))) = some r := by rw [if_pos rfl] at H; exact H
                clear H
                have H := H1
                clear H1
                replace H := Option.bind_eq_some_iff.mp H
                obtain ⟨⟨t241, t242⟩, A370, H⟩ := H
                replace H : ((laws_markIntS.f kj12 t225 t241).bind fun bt243 => (if bt243.1 < 0 then (laws_FnExactRoom.j1 kj12 a0 l1 l2 t218 t219 t228 true) else ((laws_eqIntS.f kj12 t228 t218).bind fun t245 => (if t245 = true then (laws_FnExactRoom.j1 kj12 a0 l1 l2 t218 t219 t228 (t229 != t219)) else (laws_FnExactRoom.j1 kj12 a0 l1 l2 t218 t219 t228 true))))) = some r := H
                have A37 := Aside0.mk A370
                clear A370
                replace H := Option.bind_eq_some_iff.mp H
                obtain ⟨⟨t243, t244⟩, A380, H⟩ := H
                replace H : (if t243 < 0 then (laws_FnExactRoom.j1 kj12 a0 l1 l2 t218 t219 t228 true) else ((laws_eqIntS.f kj12 t228 t218).bind fun t245 => (if t245 = true then (laws_FnExactRoom.j1 kj12 a0 l1 l2 t218 t219 t228 (t229 != t219)) else (laws_FnExactRoom.j1 kj12 a0 l1 l2 t218 t219 t228 true)))) = some r := H
                have A38 := Aside0.mk A380
                clear A380
                have HC39 := Aside0.mk H
                clear H
                go_upto_region 20 with (first | ((with_reducible refine gate_callee (f := 11) rfl ?_); refine goesL_ (some 58) rfl rfl Try.func11 (by kernel_rfl) rfl #[.slice A1 l1.length c1] rfl (by (try simp only [List.map_toArray, List.map_cons, List.map_nil]); first | done | rfl | (simp only [List.length_drop, List.length_take]; rfl)) ?_; (with_reducible refine (laws_toWireS.calls kj12 _ _ l1 t233 _ ?side1 ?side2 A31.out).mono ?_); (case side1 => repeat (first | exact (Kd.C_below HR1.out HB.out) | (with_reducible refine Kd.C_alloc ?_ _) | (with_reducible refine Kd.C_drewN ?_ _) | (with_reducible refine Kd.C_drew ?_))); (case side2 => exact HC1.out); rintro e w40 ⟨v234, rfl, ho0, hb⟩; refine ⟨_, rfl, ?_⟩; have n0_ := Aside0.mk (Kd.R_below (by (with_reducible repeat (first | apply Kd.R_alloc | apply Kd.R_drewN | apply Kd.R_drew)); first | exact HO_8.out | (subst_vars; exact HO_8.out)) hb); have n1_ := Aside0.mk (Kd.R_elder' (by (with_reducible repeat (first | apply Kd.R_alloc | apply Kd.R_drewN | apply Kd.R_drew)); first | exact HO_10.out | (subst_vars; exact HO_10.out)) (Kd.R_base ho0) hb); have n2_ := Aside0.mk (Kd.R_below (by (with_reducible repeat (first | apply Kd.R_alloc | apply Kd.R_drewN | apply Kd.R_drew)); first | exact HO_11.out | (subst_vars; exact HO_11.out)) hb); have n3_ := Aside0.mk (Kd.R_below (by (with_reducible repeat (first | apply Kd.R_alloc | apply Kd.R_drewN | apply Kd.R_drew)); first | exact HO_12.out | (subst_vars; exact HO_12.out)) hb); have n4_ := Aside0.mk (Kd.R_lower (Kd.R_new' ho0 (Kd.R_lt (by (with_reducible repeat (first | apply Kd.R_alloc | apply Kd.R_drewN | apply Kd.R_drew)); first | exact HO_10.out | (subst_vars; exact HO_10.out)))) (below_size (by repeat (first | (with_reducible first | exact HB.out | apply below_alloc | apply pw_below_drewN | apply below_drew1) | exact HB.out)))); have n5_ := Aside0.mk (below_step (by repeat (first | (with_reducible first | exact HB.out | apply below_alloc | apply pw_below_drewN | apply below_drew1) | exact HB.out)) hb); clear HO_8; clear HO_10; clear HO_11; clear HO_12; clear HB; have HO_8 := n0_; have HO_10 := n1_; have HO_11 := n2_; have HO_12 := n3_; have HO235 := n4_; have HB := n5_; clear n0_ n1_ n2_ n3_ n4_ n5_; (try clear hb); (try clear hb2); (try clear hk); (try clear hi); (try clear ho0); obtain ⟨Ao41, co41, eo41⟩ := Kd.R_slice HO235.out; subst eo41) | ((with_reducible refine gate_callee (f := 15) rfl ?_); refine goesL_ (some 59) rfl rfl Try.func15 (by kernel_rfl) rfl #[.slice Ao21 t222.length co21, .slice Ao41 t233.length co41] rfl (by (try simp only [List.map_toArray, List.map_cons, List.map_nil]); first | done | rfl | (simp only [List.length_drop, List.length_take]; rfl)) ?_; (with_reducible refine (laws_eqWireS.calls kj12 _ _ t222 _ _ t233 true _ ?side1 ?side2 ?side3 ?side4 A32.out).mono ?_); (case side1 => repeat (first | exact (Kd.R_reads' HO_10.out).2.2 | (with_reducible refine Kd.C_alloc ?_ _) | (with_reducible refine Kd.C_drewN ?_ _) | (with_reducible refine Kd.C_drew ?_))); (case side2 => exact (Kd.R_reads' HO_10.out).2.1); (case side3 => repeat (first | exact (Kd.R_reads' HO235.out).2.2 | (with_reducible refine Kd.C_alloc ?_ _) | (with_reducible refine Kd.C_drewN ?_ _) | (with_reducible refine Kd.C_drew ?_))); (case side4 => exact (Kd.R_reads' HO235.out).2.1); rintro e w42 ⟨rfl, hb⟩; refine ⟨_, rfl, ?_⟩; have n0_ := Aside0.mk (Kd.R_below (by (with_reducible repeat (first | apply Kd.R_alloc | apply Kd.R_drewN | apply Kd.R_drew)); first | exact HO_8.out | (subst_vars; exact HO_8.out)) hb); have n1_ := Aside0.mk (Kd.R_below (by (with_reducible repeat (first | apply Kd.R_alloc | apply Kd.R_drewN | apply Kd.R_drew)); first | exact HO_10.out | (subst_vars; exact HO_10.out)) hb); have n2_ := Aside0.mk (Kd.R_below (by (with_reducible repeat (first | apply Kd.R_alloc | apply Kd.R_drewN | apply Kd.R_drew)); first | exact HO_11.out | (subst_vars; exact HO_11.out)) hb); have n3_ := Aside0.mk (Kd.R_below (by (with_reducible repeat (first | apply Kd.R_alloc | apply Kd.R_drewN | apply Kd.R_drew)); first | exact HO_12.out | (subst_vars; exact HO_12.out)) hb); have n4_ := Aside0.mk (Kd.R_below (by (with_reducible repeat (first | apply Kd.R_alloc | apply Kd.R_drewN | apply Kd.R_drew)); first | exact HO235.out | (subst_vars; exact HO235.out)) hb); have n5_ := Aside0.mk (below_step (by repeat (first | (with_reducible first | exact HB.out | apply below_alloc | apply pw_below_drewN | apply below_drew1) | exact HB.out)) hb); clear HO_8; clear HO_10; clear HO_11; clear HO_12; clear HO235; clear HB; have HO_8 := n0_; have HO_10 := n1_; have HO_11 := n2_; have HO_12 := n3_; have HO235 := n4_; have HB := n5_; clear n0_ n1_ n2_ n3_ n4_ n5_; (try clear hb); (try clear hb2); (try clear hk); (try clear hi)) | ((with_reducible refine gate_callee (f := 12) rfl ?_); refine goesL_ (some 63) rfl rfl Try.func12 (by kernel_rfl) rfl #[.slice A2 l2.length c2] rfl (by (try simp only [List.map_toArray, List.map_cons, List.map_nil]); first | done | rfl | (simp only [List.length_drop, List.length_take]; rfl)) ?_; (with_reducible refine (laws_toIntS.calls kj12 _ _ l2 t237 _ ?side1 ?side2 A34.out).mono ?_); (case side1 => repeat (first | exact (Kd.C_below HR2.out HB.out) | (with_reducible refine Kd.C_alloc ?_ _) | (with_reducible refine Kd.C_drewN ?_ _) | (with_reducible refine Kd.C_drew ?_))); (case side2 => exact HC2.out); rintro e w43 ⟨v238, rfl, ho0, hb⟩; refine ⟨_, rfl, ?_⟩; have n0_ := Aside0.mk (Kd.R_elder' (by (with_reducible repeat (first | apply Kd.R_alloc | apply Kd.R_drewN | apply Kd.R_drew)); first | exact HO_8.out | (subst_vars; exact HO_8.out)) (Kd.R_base ho0) hb); have n1_ := Aside0.mk (Kd.R_below (by (with_reducible repeat (first | apply Kd.R_alloc | apply Kd.R_drewN | apply Kd.R_drew)); first | exact HO_10.out | (subst_vars; exact HO_10.out)) hb); have n2_ := Aside0.mk (Kd.R_elder' (by (with_reducible repeat (first | apply Kd.R_alloc | apply Kd.R_drewN | apply Kd.R_drew)); first | exact HO_11.out | (subst_vars; exact HO_11.out)) (Kd.R_base ho0) hb); have n3_ := Aside0.mk (Kd.R_elder' (by (with_reducible repeat (first | apply Kd.R_alloc | apply Kd.R_drewN | apply Kd.R_drew)); first | exact HO_12.out | (subst_vars; exact HO_12.out)) (Kd.R_base ho0) hb); have n4_ := Aside0.mk (Kd.R_below (by (with_reducible repeat (first | apply Kd.R_alloc | apply Kd.R_drewN | apply Kd.R_drew)); first | exact HO235.out | (subst_vars; exact HO235.out)) hb); have n5_ := Aside0.mk (Kd.R_lower (Kd.R_new' (Kd.R_new' (Kd.R_new' ho0 (Kd.R_lt (by (with_reducible repeat (first | apply Kd.R_alloc | apply Kd.R_drewN | apply Kd.R_drew)); first | exact HO_8.out | (subst_vars; exact HO_8.out)))) (Kd.R_lt (by (with_reducible repeat (first | apply Kd.R_alloc | apply Kd.R_drewN | apply Kd.R_drew)); first | exact HO_11.out | (subst_vars; exact HO_11.out)))) (Kd.R_lt (by (with_reducible repeat (first | apply Kd.R_alloc | apply Kd.R_drewN | apply Kd.R_drew)); first | exact HO_12.out | (subst_vars; exact HO_12.out)))) (below_size (by repeat (first | (with_reducible first | exact HB.out | apply below_alloc | apply pw_below_drewN | apply below_drew1) | exact HB.out)))); have n6_ := Aside0.mk (below_step (by repeat (first | (with_reducible first | exact HB.out | apply below_alloc | apply pw_below_drewN | apply below_drew1) | exact HB.out)) hb); clear HO_8; clear HO_10; clear HO_11; clear HO_12; clear HO235; clear HB; have HO_8 := n0_; have HO_10 := n1_; have HO_11 := n2_; have HO_12 := n3_; have HO235 := n4_; have HO239 := n5_; have HB := n6_; clear n0_ n1_ n2_ n3_ n4_ n5_ n6_; (try clear hb); (try clear hb2); (try clear hk); (try clear hi); (try clear ho0); obtain ⟨Ao44, co44, eo44⟩ := Kd.R_slice HO239.out; subst eo44) | ((with_reducible refine gate_callee (f := 14) rfl ?_); refine goesL_ (some 64) rfl rfl Try.func14 (by kernel_rfl) rfl #[.slice Ao22 t225.length co22, .slice Ao44 t237.length co44] rfl (by (try simp only [List.map_toArray, List.map_cons, List.map_nil]); first | done | rfl | (simp only [List.length_drop, List.length_take]; rfl)) ?_; (with_reducible refine (laws_eqIntS.calls kj12 _ _ t225 _ _ t237 true _ ?side1 ?side2 ?side3 ?side4 A35.out).mono ?_); (case side1 => repeat (first | exact (Kd.R_reads' HO_11.out).2.2 | (with_reducible refine Kd.C_alloc ?_ _) | (with_reducible refine Kd.C_drewN ?_ _) | (with_reducible refine Kd.C_drew ?_))); (case side2 => exact (Kd.R_reads' HO_11.out).2.1); (case side3 => repeat (first | exact (Kd.R_reads' HO239.out).2.2 | (with_reducible refine Kd.C_alloc ?_ _) | (with_reducible refine Kd.C_drewN ?_ _) | (with_reducible refine Kd.C_drew ?_))); (case side4 => exact (Kd.R_reads' HO239.out).2.1); rintro e w' ⟨rfl, ⟨nd, rfl⟩⟩; refine ⟨_, rfl, ?_⟩) | ((with_reducible refine gate_callee (f := 16) rfl ?_); refine goesL_ (some 68) rfl rfl Try.func16 (by kernel_rfl) rfl #[.slice Ao21 t222.length co21, .int .i64 1] rfl (by (try simp only [List.map_toArray, List.map_cons, List.map_nil]); first | done | rfl | (simp only [List.length_drop, List.length_take]; rfl)) ?_; (with_reducible refine (laws_markWireS.calls kj12 (fun k_ => some k_ = (.slice Ao21 t222.length co21 : Value).ownBlock) (.slice Ao21 t222.length co21) t222 1 t241 t242 w _ ?side1 ?side2 A37.out).mono ?_); (case side1 => repeat (first | (with_reducible first | exact HB.out | apply below_alloc | apply pw_below_drewN | apply below_drew1) | exact HB.out)); (case side2 => exact Kd.R_tight rfl HO_10.out); rintro e w45 ⟨rfl, hy0, hb, hkp⟩; refine ⟨_, rfl, ?_⟩; have n0_ := Aside0.mk (Kd.R_mono (ok' := fun k_ => some k_ ≠ (.slice Ao22 t225.length co22 : Value).ownBlock ∧ some k_ ≠ (v230 : Value).ownBlock ∧ some k_ ≠ (.slice Ao44 t237.length co44 : Value).ownBlock) (Kd.R_keptB ((Kd.R_apart' HO_8.out (Kd.R_typed HO_10.out) (by decide))) hkp (fun k_ hk_ hs_ => (hk_.2) hs_)) (fun k_ hk_ => ⟨hk_.1.1.1.1, hk_.1.1.1.2, hk_.1.1.2⟩)); have n1_ := Aside0.mk (Kd.R_reok rfl hy0 (fun k_ e_ => HO_10.out.1 k_ e_)); have n2_ := Aside0.mk (Kd.R_mono (ok' := fun k_ => some k_ ≠ (v220 : Value).ownBlock ∧ some k_ ≠ (v230 : Value).ownBlock ∧ some k_ ≠ (.slice Ao44 t237.length co44 : Value).ownBlock) (Kd.R_keptB ((Kd.R_apart' HO_11.out (Kd.R_typed HO_10.out) (by decide))) hkp (fun k_ hk_ hs_ => (hk_.2) hs_)) (fun k_ hk_ => ⟨hk_.1.1.1.1, hk_.1.1.1.2, hk_.1.1.2⟩)); have n3_ := Aside0.mk (Kd.R_mono (ok' := fun k_ => some k_ ≠ (v220 : Value).ownBlock ∧ some k_ ≠ (.slice Ao22 t225.length co22 : Value).ownBlock ∧ some k_ ≠ (.slice Ao44 t237.length co44 : Value).ownBlock) (Kd.R_keptB ((Kd.R_apart' HO_12.out (Kd.R_typed HO_10.out) (by decide))) hkp (fun k_ hk_ hs_ => (hk_.2) hs_)) (fun k_ hk_ => ⟨hk_.1.1.1.1, hk_.1.1.1.2, hk_.1.1.2⟩)); have n4_ := Aside0.mk (Kd.R_mono (ok' := fun k_ => some k_ ≠ (.slice Ao21 t222.length co21 : Value).ownBlock) (Kd.R_keptB (HO235.out) hkp (fun k_ hk_ hs_ => (hk_.2) hs_)) (fun k_ hk_ => hk_.1.2)); have n5_ := Aside0.mk (Kd.R_mono (ok' := fun k_ => some k_ ≠ (v220 : Value).ownBlock ∧ some k_ ≠ (.slice Ao22 t225.length co22 : Value).ownBlock ∧ some k_ ≠ (v230 : Value).ownBlock) (Kd.R_keptB ((Kd.R_apart' HO239.out (Kd.R_typed HO_10.out) (by decide))) hkp (fun k_ hk_ hs_ => (hk_.2) hs_)) (fun k_ hk_ => ⟨hk_.1.1.1.1.2, hk_.1.1.1.2, hk_.1.1.2⟩)); have n6_ := Aside0.mk (hb); clear HO_8; clear HO_10; clear HO_11; clear HO_12; clear HO235; clear HO239; clear HB; have HO_8 := n0_; have HO_10 := n1_; have HO_11 := n2_; have HO_12 := n3_; have HO235 := n4_; have HO239 := n5_; have HB := n6_; clear n0_ n1_ n2_ n3_ n4_ n5_ n6_; (try clear hb); (try clear hkp); (try clear hy0)) | ((with_reducible refine gate_callee (f := 17) rfl ?_); refine goesL_ (some 71) rfl rfl Try.func17 (by kernel_rfl) rfl #[.slice Ao22 t225.length co22, .int .i64 t241] rfl (by (try simp only [List.map_toArray, List.map_cons, List.map_nil]); first | done | rfl | (simp only [List.length_drop, List.length_take]; rfl)) ?_; (with_reducible refine (laws_markIntS.calls kj12 (fun k_ => some k_ = (.slice Ao22 t225.length co22 : Value).ownBlock) (.slice Ao22 t225.length co22) t225 t241 t243 t244 w _ ?side1 ?side2 A38.out).mono ?_); (case side1 => repeat (first | (with_reducible first | exact HB.out | apply below_alloc | apply pw_below_drewN | apply below_drew1) | exact HB.out)); (case side2 => exact Kd.R_tight rfl HO_11.out); rintro e w46 ⟨rfl, hy0, hb, hkp⟩; refine ⟨_, rfl, ?_⟩; have n0_ := Aside0.mk (Kd.R_mono (ok' := fun k_ => some k_ ≠ (.slice Ao22 t225.length co22 : Value).ownBlock ∧ some k_ ≠ (v230 : Value).ownBlock ∧ some k_ ≠ (.slice Ao44 t237.length co44 : Value).ownBlock) (Kd.R_keptB (HO_8.out) hkp (fun k_ hk_ hs_ => (hk_.1) hs_)) (fun k_ hk_ => ⟨hk_.1.1, hk_.1.2.1, hk_.1.2.2⟩)); have n1_ := Aside0.mk (Kd.R_mono (ok' := fun k_ => some k_ ≠ (.slice Ao41 t233.length co41 : Value).ownBlock) (Kd.R_keptB ((Kd.R_apart' HO_10.out (Kd.R_typed HO_11.out) (by decide))) hkp (fun k_ hk_ hs_ => (hk_.2) hs_)) (fun k_ hk_ => hk_.1.1.2)); have n2_ := Aside0.mk (Kd.R_reok rfl hy0 (fun k_ e_ => HO_11.out.1 k_ e_)); have n3_ := Aside0.mk (Kd.R_mono (ok' := fun k_ => some k_ ≠ (v220 : Value).ownBlock ∧ some k_ ≠ (.slice Ao22 t225.length co22 : Value).ownBlock ∧ some k_ ≠ (.slice Ao44 t237.length co44 : Value).ownBlock) (Kd.R_keptB (HO_12.out) hkp (fun k_ hk_ hs_ => (hk_.2.1) hs_)) (fun k_ hk_ => ⟨hk_.1.1, hk_.1.2.1, hk_.1.2.2⟩)); have n4_ := Aside0.mk (Kd.R_mono (ok' := fun k_ => some k_ ≠ (.slice Ao21 t222.length co21 : Value).ownBlock) (Kd.R_keptB ((Kd.R_apart' HO235.out (Kd.R_typed HO_11.out) (by decide))) hkp (fun k_ hk_ hs_ => (hk_.2) hs_)) (fun k_ hk_ => hk_.1.1)); have n5_ := Aside0.mk (Kd.R_mono (ok' := fun k_ => some k_ ≠ (v220 : Value).ownBlock ∧ some k_ ≠ (.slice Ao22 t225.length co22 : Value).ownBlock ∧ some k_ ≠ (v230 : Value).ownBlock) (Kd.R_keptB (HO239.out) hkp (fun k_ hk_ hs_ => (hk_.2.1) hs_)) (fun k_ hk_ => ⟨hk_.1.1, hk_.1.2.1, hk_.1.2.2⟩)); have n6_ := Aside0.mk (hb); clear HO_8; clear HO_10; clear HO_11; clear HO_12; clear HO235; clear HO239; clear HB; have HO_8 := n0_; have HO_10 := n1_; have HO_11 := n2_; have HO_12 := n3_; have HO235 := n4_; have HO239 := n5_; have HB := n6_; clear n0_ n1_ n2_ n3_ n4_ n5_ n6_; (try clear hb); (try clear hkp); (try clear hy0)))
                (try simp only [Act.put, List.setIfInBounds_toArray, List.set_cons_zero, List.set_cons_succ])
                go_cut [84] (fun v84 wc => ∃ (kq : Nat) (x84_38 : Bool), v84 = .bool x84_38 ∧ Aside0 (laws_FnExactRoom.j1 kq a0 l1 l2 t218 t219 t228 x84_38 = some r) ∧ Aside0 (kq ≤ kj12) ∧ Aside0 (Kd.R (Kd.int .i64) 3 wc w.heap.size (fun k_ => some k_ ≠ (v230 : Value).ownBlock) v220 t218) ∧ Aside0 (Kd.R (Kd.int .i64) 3 wc w.heap.size (fun k_ => some k_ ≠ (v220 : Value).ownBlock) v230 t228) ∧ Aside0 (Below w.heap.size w wc))
                case first =>
                  have H := HC39.out
                  clear HC39
                  by_cases c47 : t243 < 0
                  · rw [if_pos c47] at H
                    have c47b0 : decide (t243 < 0) = true := decide_eq_true c47
                    clear c47
                    (first | rw [c47b0] | (simp only [i64_w, i32_w]; rw [c47b0]) | skip)
                    have H' := Aside0.mk H
                    clear H
                    go_wp2
                    go_meet
                    case rel => exact ⟨_, (true), (by first | rfl | (simp; done) | (simp [*]; done)), H', ⟨by have := HJ12.out; first | omega | exact Nat.le_refl _⟩, ⟨by (with_reducible repeat (first | apply Kd.R_alloc | apply Kd.R_drewN | apply Kd.R_drew)); first | exact Kd.R_mono HO_8.out (fun _ hk => hk.2.1) | (subst_vars; exact Kd.R_mono HO_8.out (fun _ hk => hk.2.1))⟩, ⟨by (with_reducible repeat (first | apply Kd.R_alloc | apply Kd.R_drewN | apply Kd.R_drew)); first | exact Kd.R_mono HO_12.out (fun _ hk => hk.1) | (subst_vars; exact Kd.R_mono HO_12.out (fun _ hk => hk.1))⟩, ⟨by repeat (first | (with_reducible first | exact HB.out | apply below_alloc | apply pw_below_drewN | apply below_drew1) | exact HB.out)⟩⟩
                  · rw [if_neg c47] at H
                    have c47b0 : decide (t243 < 0) = false := decide_eq_false c47
                    clear c47
                    (first | rw [c47b0] | (simp only [i64_w, i32_w]; rw [c47b0]) | skip)
                    replace H := Option.bind_eq_some_iff.mp H
                    obtain ⟨t245, A480, H⟩ := H
                    replace H : (if t245 = true then (laws_FnExactRoom.j1 kj12 a0 l1 l2 t218 t219 t228 (t229 != t219)) else (laws_FnExactRoom.j1 kj12 a0 l1 l2 t218 t219 t228 true)) = some r := H
                    have A48 := Aside0.mk A480
                    clear A480
                    by_cases c49 : t245 = true
                    · subst c49
                      have H1 : (laws_FnExactRoom.j1 kj12 a0 l1 l2 t218 t219 t228 (t229 != t219)) = some r := by rw [if_pos rfl] at H; exact H
                      clear H
                      have H := H1
                      clear H1
                      have H' := Aside0.mk H
                      clear H
                      obtain ⟨Ao50, co50, eo50⟩ := Kd.R_slice HO_12.out
                      subst eo50
                      obtain ⟨Ao51, co51, eo51⟩ := Kd.R_slice HO_8.out
                      subst eo51
                      go_wp2_with (first | (go_at_call 14; (with_reducible refine (laws_eqIntS.calls kj12 _ _ t228 _ _ t218 true _ ?side1 ?side2 ?side3 ?side4 A48.out).mono ?_); (case side1 => repeat (first | exact (Kd.R_reads' HO_12.out).2.2 | (with_reducible refine Kd.C_alloc ?_ _) | (with_reducible refine Kd.C_drewN ?_ _) | (with_reducible refine Kd.C_drew ?_))); (case side2 => exact (Kd.R_reads' HO_12.out).2.1); (case side3 => repeat (first | exact (Kd.R_reads' HO_8.out).2.2 | (with_reducible refine Kd.C_alloc ?_ _) | (with_reducible refine Kd.C_drewN ?_ _) | (with_reducible refine Kd.C_drew ?_))); (case side4 => exact (Kd.R_reads' HO_8.out).2.1); rintro e w' ⟨rfl, ⟨nd, rfl⟩⟩))
                      go_meet
                      case rel => exact ⟨_, ((t229 != t219)), (by first | rfl | (simp; done) | (simp [*]; done)), H', ⟨by have := HJ12.out; first | omega | exact Nat.le_refl _⟩, ⟨by (with_reducible repeat (first | apply Kd.R_alloc | apply Kd.R_drewN | apply Kd.R_drew)); first | exact Kd.R_mono HO_8.out (fun _ hk => hk.2.1) | (subst_vars; exact Kd.R_mono HO_8.out (fun _ hk => hk.2.1))⟩, ⟨by (with_reducible repeat (first | apply Kd.R_alloc | apply Kd.R_drewN | apply Kd.R_drew)); first | exact Kd.R_mono HO_12.out (fun _ hk => hk.1) | (subst_vars; exact Kd.R_mono HO_12.out (fun _ hk => hk.1))⟩, ⟨by repeat (first | (with_reducible first | exact HB.out | apply below_alloc | apply pw_below_drewN | apply below_drew1) | exact HB.out)⟩⟩
                    · replace c49 := Bool.eq_false_iff.mpr c49
                      subst c49
                      have H1 : (laws_FnExactRoom.j1 kj12 a0 l1 l2 t218 t219 t228 true) = some r := by rw [if_neg (show ¬ (false = true) by decide)] at H; exact H
                      clear H
                      have H := H1
                      clear H1
                      have H' := Aside0.mk H
                      clear H
                      obtain ⟨Ao52, co52, eo52⟩ := Kd.R_slice HO_12.out
                      subst eo52
                      obtain ⟨Ao53, co53, eo53⟩ := Kd.R_slice HO_8.out
                      subst eo53
                      go_wp2_with (first | (go_at_call 14; (with_reducible refine (laws_eqIntS.calls kj12 _ _ t228 _ _ t218 false _ ?side1 ?side2 ?side3 ?side4 A48.out).mono ?_); (case side1 => repeat (first | exact (Kd.R_reads' HO_12.out).2.2 | (with_reducible refine Kd.C_alloc ?_ _) | (with_reducible refine Kd.C_drewN ?_ _) | (with_reducible refine Kd.C_drew ?_))); (case side2 => exact (Kd.R_reads' HO_12.out).2.1); (case side3 => repeat (first | exact (Kd.R_reads' HO_8.out).2.2 | (with_reducible refine Kd.C_alloc ?_ _) | (with_reducible refine Kd.C_drewN ?_ _) | (with_reducible refine Kd.C_drew ?_))); (case side4 => exact (Kd.R_reads' HO_8.out).2.1); rintro e w' ⟨rfl, ⟨nd, rfl⟩⟩))
                      go_meet
                      case rel => exact ⟨_, (true), (by first | rfl | (simp; done) | (simp [*]; done)), H', ⟨by have := HJ12.out; first | omega | exact Nat.le_refl _⟩, ⟨by (with_reducible repeat (first | apply Kd.R_alloc | apply Kd.R_drewN | apply Kd.R_drew)); first | exact Kd.R_mono HO_8.out (fun _ hk => hk.2.1) | (subst_vars; exact Kd.R_mono HO_8.out (fun _ hk => hk.2.1))⟩, ⟨by (with_reducible repeat (first | apply Kd.R_alloc | apply Kd.R_drewN | apply Kd.R_drew)); first | exact Kd.R_mono HO_12.out (fun _ hk => hk.1) | (subst_vars; exact Kd.R_mono HO_12.out (fun _ hk => hk.1))⟩, ⟨by repeat (first | (with_reducible first | exact HB.out | apply below_alloc | apply pw_below_drewN | apply below_drew1) | exact HB.out)⟩⟩
                case rest =>
                  clear HC39
                  try clear c1
                  try clear c2
                  try clear p2
                  try clear c3
                  try clear c4
                  try clear c4b0
                  try clear c4b1
                  try clear c6
                  try clear c6b0
                  try clear c9
                  try clear c11
                  try clear c12
                  try clear c14
                  try clear c15
                  try clear c16
                  try clear c17
                  try clear c19
                  try clear c20
                  try clear c25
                  try clear c30
                  try clear c33
                  try clear c36
                  try clear c47
                  try clear c47b0
                  try clear c49
                  try clear p2
                  obtain ⟨kq, x84_38, rfl, HA, HJ38, HO_8, HO_12, HB⟩ := hcut
                  cases kq with
                  | zero => exact absurd HA.out (by simp [laws_FnExactRoom.j1])
                  | succ kj38 =>
                    have H := HA.out
                    clear HA
                    simp only [laws_FnExactRoom.j1] at H
                    by_cases c54 : x84_38 = true
                    · subst c54
                      have H1 : (some false) = some r := by rw [if_pos rfl] at H; exact H
                      clear H
                      have H := H1
                      clear H1
                      exact absurd (Option.some.inj H) (by rw [hr_]; decide)
                    · replace c54 := Bool.eq_false_iff.mpr c54
                      subst c54
                      have H1 : ((laws_markIntS.f kj38 t228 1).bind fun bt246 => ((laws_heldIntS.f kj38 bt246.2 1).bind fun t248 => (if t248 < 0 then (some false) else (if t248 = bt246.1 then ((laws_toWireS.f kj38 l1).bind fun t249 => ((laws_toIntS.f kj38 l2).bind fun t252 => ((impl_Room.f kj38 a0 t249 t252).bind fun bt255 => ((laws_eqIntS.f kj38 bt255.1 t218).bind fun t259 => (if t259 = true then (laws_FnExactRoom.j2 kj38 bt246.2 bt246.1 (bt255.2 != t219)) else (laws_FnExactRoom.j2 kj38 bt246.2 bt246.1 true)))))) else (some false))))) = some r := by rw [if_neg (show ¬ (false = true) by decide)] at H; exact H
                      clear H
                      have H := H1
                      clear H1
                      replace H := Option.bind_eq_some_iff.mp H
                      obtain ⟨⟨t246, t247⟩, A550, H⟩ := H
                      replace H : ((laws_heldIntS.f kj38 t247 1).bind fun t248 => (if t248 < 0 then (some false) else (if t248 = t246 then ((laws_toWireS.f kj38 l1).bind fun t249 => ((laws_toIntS.f kj38 l2).bind fun t252 => ((impl_Room.f kj38 a0 t249 t252).bind fun bt255 => ((laws_eqIntS.f kj38 bt255.1 t218).bind fun t259 => (if t259 = true then (laws_FnExactRoom.j2 kj38 t247 t246 (bt255.2 != t219)) else (laws_FnExactRoom.j2 kj38 t247 t246 true)))))) else (some false)))) = some r := H
                      have A55 := Aside0.mk A550
                      clear A550
                      replace H := Option.bind_eq_some_iff.mp H
                      obtain ⟨t248, A560, H⟩ := H
                      replace H : (if t248 < 0 then (some false) else (if t248 = t246 then ((laws_toWireS.f kj38 l1).bind fun t249 => ((laws_toIntS.f kj38 l2).bind fun t252 => ((impl_Room.f kj38 a0 t249 t252).bind fun bt255 => ((laws_eqIntS.f kj38 bt255.1 t218).bind fun t259 => (if t259 = true then (laws_FnExactRoom.j2 kj38 t247 t246 (bt255.2 != t219)) else (laws_FnExactRoom.j2 kj38 t247 t246 true)))))) else (some false))) = some r := H
                      have A56 := Aside0.mk A560
                      clear A560
                      by_cases c57 : t248 < 0
                      · rw [if_pos c57] at H
                        have c57b0 : decide (t248 < 0) = true := decide_eq_true c57
                        clear c57
                        exact absurd (Option.some.inj H) (by rw [hr_]; decide)
                      · rw [if_neg c57] at H
                        have c57b0 : decide (t248 < 0) = false := decide_eq_false c57
                        clear c57
                        by_cases c58 : t248 = t246
                        · rw [if_pos c58] at H
                          have c58b0 : (t248 == t246) = true := beq_iff_eq.mpr c58
                          have c58b1 : (t248 != t246) = false := bne_eq_false_iff_eq.mpr c58
                          clear c58
                          replace H := Option.bind_eq_some_iff.mp H
                          obtain ⟨t249, A590, H⟩ := H
                          replace H : ((laws_toIntS.f kj38 l2).bind fun t252 => ((impl_Room.f kj38 a0 t249 t252).bind fun bt255 => ((laws_eqIntS.f kj38 bt255.1 t218).bind fun t259 => (if t259 = true then (laws_FnExactRoom.j2 kj38 t247 t246 (bt255.2 != t219)) else (laws_FnExactRoom.j2 kj38 t247 t246 true))))) = some r := H
                          have A59 := Aside0.mk A590
                          clear A590
                          replace H := Option.bind_eq_some_iff.mp H
                          obtain ⟨t252, A600, H⟩ := H
                          replace H : ((impl_Room.f kj38 a0 t249 t252).bind fun bt255 => ((laws_eqIntS.f kj38 bt255.1 t218).bind fun t259 => (if t259 = true then (laws_FnExactRoom.j2 kj38 t247 t246 (bt255.2 != t219)) else (laws_FnExactRoom.j2 kj38 t247 t246 true)))) = some r := H
                          have A60 := Aside0.mk A600
                          clear A600
                          replace H := Option.bind_eq_some_iff.mp H
                          obtain ⟨⟨t255, t256⟩, A610, H⟩ := H
                          replace H : ((laws_eqIntS.f kj38 t255 t218).bind fun t259 => (if t259 = true then (laws_FnExactRoom.j2 kj38 t247 t246 (t256 != t219)) else (laws_FnExactRoom.j2 kj38 t247 t246 true))) = some r := H
                          have A61 := Aside0.mk A610
                          clear A610
                          have HC62 := Aside0.mk H
                          clear H
                          obtain ⟨Ao63, co63, eo63⟩ := Kd.R_slice HO_12.out
                          subst eo63
                          go_upto_region 31 with (first | ((with_reducible refine gate_callee (f := 17) rfl ?_); refine goesL_ (some 87) rfl rfl Try.func17 (by kernel_rfl) rfl #[.slice Ao63 t228.length co63, .int .i64 1] rfl (by (try simp only [List.map_toArray, List.map_cons, List.map_nil]); first | done | rfl | (simp only [List.length_drop, List.length_take]; rfl)) ?_; (with_reducible refine (laws_markIntS.calls kj38 (fun k_ => some k_ = (.slice Ao63 t228.length co63 : Value).ownBlock) (.slice Ao63 t228.length co63) t228 1 t246 t247 w _ ?side1 ?side2 A55.out).mono ?_); (case side1 => repeat (first | (with_reducible first | exact HB.out | apply below_alloc | apply pw_below_drewN | apply below_drew1) | exact HB.out)); (case side2 => exact Kd.R_tight rfl HO_12.out); rintro e w64 ⟨rfl, hy0, hb, hkp⟩; refine ⟨_, rfl, ?_⟩; have n0_ := Aside0.mk (Kd.R_mono (ok' := fun k_ => some k_ ≠ (.slice Ao63 t228.length co63 : Value).ownBlock) (Kd.R_keptB (HO_8.out) hkp (fun k_ hk_ hs_ => (hk_) hs_)) (fun k_ hk_ => hk_.1)); have n1_ := Aside0.mk (Kd.R_reok rfl hy0 (fun k_ e_ => HO_12.out.1 k_ e_)); have n2_ := Aside0.mk (hb); clear HO_8; clear HO_12; clear HB; have HO_8 := n0_; have HO_12 := n1_; have HB := n2_; clear n0_ n1_ n2_; (try clear hb); (try clear hkp); (try clear hy0)) | ((with_reducible refine gate_callee (f := 18) rfl ?_); refine goesL_ (some 90) rfl rfl Try.func18 (by kernel_rfl) rfl #[.slice Ao63 t247.length co63, .int .i64 1] rfl (by (try simp only [List.map_toArray, List.map_cons, List.map_nil]); first | done | (rw [show t247.length = t228.length from (Kd.R_reads' HO_12.out).1.symm] <;> rfl) | rfl | (simp only [List.length_drop, List.length_take]; rfl)) ?_; (with_reducible refine (laws_heldIntS.calls kj38 _ _ t247 1 t248 _ ?side1 ?side2 A56.out).mono ?_); (case side1 => repeat (first | exact (Kd.R_reads' HO_12.out).2.2 | (with_reducible refine Kd.C_alloc ?_ _) | (with_reducible refine Kd.C_drewN ?_ _) | (with_reducible refine Kd.C_drew ?_))); (case side2 => rw [show t247.length = t228.length from (Kd.R_reads' HO_12.out).1.symm]; exact (Kd.R_reads' HO_12.out).2.1); rintro e w' ⟨rfl, ⟨nd, rfl⟩⟩; refine ⟨_, rfl, ?_⟩) | ((with_reducible refine gate_callee (f := 11) rfl ?_); refine goesL_ (some 99) rfl rfl Try.func11 (by kernel_rfl) rfl #[.slice A1 l1.length c1] rfl (by (try simp only [List.map_toArray, List.map_cons, List.map_nil]); first | done | rfl | (simp only [List.length_drop, List.length_take]; rfl)) ?_; (with_reducible refine (laws_toWireS.calls kj38 _ _ l1 t249 _ ?side1 ?side2 A59.out).mono ?_); (case side1 => repeat (first | exact (Kd.C_below HR1.out (by repeat (first | (with_reducible first | exact HB.out | apply below_alloc | apply pw_below_drewN | apply below_drew1) | exact HB.out))) | (with_reducible refine Kd.C_alloc ?_ _) | (with_reducible refine Kd.C_drewN ?_ _) | (with_reducible refine Kd.C_drew ?_))); (case side2 => exact HC1.out); rintro e w65 ⟨v250, rfl, ho0, hb⟩; refine ⟨_, rfl, ?_⟩; have n0_ := Aside0.mk (Kd.R_below (by (with_reducible repeat (first | apply Kd.R_alloc | apply Kd.R_drewN | apply Kd.R_drew)); first | exact HO_8.out | (subst_vars; exact HO_8.out)) hb); have n1_ := Aside0.mk (Kd.R_below (by (with_reducible repeat (first | apply Kd.R_alloc | apply Kd.R_drewN | apply Kd.R_drew)); first | exact HO_12.out | (subst_vars; exact HO_12.out)) hb); have n2_ := Aside0.mk (Kd.R_lower ho0 (below_size (by repeat (first | (with_reducible first | exact HB.out | apply below_alloc | apply pw_below_drewN | apply below_drew1) | exact HB.out)))); have n3_ := Aside0.mk (below_step (by repeat (first | (with_reducible first | exact HB.out | apply below_alloc | apply pw_below_drewN | apply below_drew1) | exact HB.out)) hb); clear HO_8; clear HO_12; clear HB; have HO_8 := n0_; have HO_12 := n1_; have HO251 := n2_; have HB := n3_; clear n0_ n1_ n2_ n3_; (try clear hb); (try clear hb2); (try clear hk); (try clear hi); (try clear ho0)) | ((with_reducible refine gate_callee (f := 12) rfl ?_); refine goesL_ (some 101) rfl rfl Try.func12 (by kernel_rfl) rfl #[.slice A2 l2.length c2] rfl (by (try simp only [List.map_toArray, List.map_cons, List.map_nil]); first | done | rfl | (simp only [List.length_drop, List.length_take]; rfl)) ?_; (with_reducible refine (laws_toIntS.calls kj38 _ _ l2 t252 _ ?side1 ?side2 A60.out).mono ?_); (case side1 => repeat (first | exact (Kd.C_below HR2.out HB.out) | (with_reducible refine Kd.C_alloc ?_ _) | (with_reducible refine Kd.C_drewN ?_ _) | (with_reducible refine Kd.C_drew ?_))); (case side2 => exact HC2.out); rintro e w66 ⟨v253, rfl, ho0, hb⟩; refine ⟨_, rfl, ?_⟩; have n0_ := Aside0.mk (Kd.R_elder' (by (with_reducible repeat (first | apply Kd.R_alloc | apply Kd.R_drewN | apply Kd.R_drew)); first | exact HO_8.out | (subst_vars; exact HO_8.out)) (Kd.R_base ho0) hb); have n1_ := Aside0.mk (Kd.R_elder' (by (with_reducible repeat (first | apply Kd.R_alloc | apply Kd.R_drewN | apply Kd.R_drew)); first | exact HO_12.out | (subst_vars; exact HO_12.out)) (Kd.R_base ho0) hb); have n2_ := Aside0.mk (Kd.R_below (by (with_reducible repeat (first | apply Kd.R_alloc | apply Kd.R_drewN | apply Kd.R_drew)); first | exact HO251.out | (subst_vars; exact HO251.out)) hb); have n3_ := Aside0.mk (Kd.R_lower (Kd.R_new' (Kd.R_new' ho0 (Kd.R_lt (by (with_reducible repeat (first | apply Kd.R_alloc | apply Kd.R_drewN | apply Kd.R_drew)); first | exact HO_8.out | (subst_vars; exact HO_8.out)))) (Kd.R_lt (by (with_reducible repeat (first | apply Kd.R_alloc | apply Kd.R_drewN | apply Kd.R_drew)); first | exact HO_12.out | (subst_vars; exact HO_12.out)))) (below_size (by repeat (first | (with_reducible first | exact HB.out | apply below_alloc | apply pw_below_drewN | apply below_drew1) | exact HB.out)))); have n4_ := Aside0.mk (below_step (by repeat (first | (with_reducible first | exact HB.out | apply below_alloc | apply pw_below_drewN | apply below_drew1) | exact HB.out)) hb); clear HO_8; clear HO_12; clear HO251; clear HB; have HO_8 := n0_; have HO_12 := n1_; have HO251 := n2_; have HO254 := n3_; have HB := n4_; clear n0_ n1_ n2_ n3_ n4_; (try clear hb); (try clear hb2); (try clear hk); (try clear hi); (try clear ho0); obtain ⟨Ao67, co67, eo67⟩ := Kd.R_slice HO251.out; subst eo67; obtain ⟨Ao68, co68, eo68⟩ := Kd.R_slice HO254.out; subst eo68) | ((with_reducible refine gate_callee (f := 20) rfl ?_); refine goesL_ (some 102) rfl rfl Try.func20 (by kernel_rfl) rfl #[.int .i64 a0, .slice Ao67 t249.length co67, .slice Ao68 t252.length co68] rfl (by (try simp only [List.map_toArray, List.map_cons, List.map_nil]); first | done | rfl | (simp only [List.length_drop, List.length_take]; rfl)) ?_; (with_reducible refine (impl_Room.calls kj38 a0 _ _ t249 _ _ t252 t255 t256 _ ?side1 ?side2 ?side3 ?side4 A61.out).mono ?_); (case side1 => repeat (first | exact (Kd.R_reads' HO251.out).2.2 | (with_reducible refine Kd.C_alloc ?_ _) | (with_reducible refine Kd.C_drewN ?_ _) | (with_reducible refine Kd.C_drew ?_))); (case side2 => exact (Kd.R_reads' HO251.out).2.1); (case side3 => repeat (first | exact (Kd.R_reads' HO254.out).2.2 | (with_reducible refine Kd.C_alloc ?_ _) | (with_reducible refine Kd.C_drewN ?_ _) | (with_reducible refine Kd.C_drew ?_))); (case side4 => exact (Kd.R_reads' HO254.out).2.1); rintro e w69 ⟨v257, rfl, ho0, hb⟩; refine ⟨_, rfl, ?_⟩; have n0_ := Aside0.mk (Kd.R_elder' (by (with_reducible repeat (first | apply Kd.R_alloc | apply Kd.R_drewN | apply Kd.R_drew)); first | exact HO_8.out | (subst_vars; exact HO_8.out)) (Kd.R_base ho0) hb); have n1_ := Aside0.mk (Kd.R_elder' (by (with_reducible repeat (first | apply Kd.R_alloc | apply Kd.R_drewN | apply Kd.R_drew)); first | exact HO_12.out | (subst_vars; exact HO_12.out)) (Kd.R_base ho0) hb); have n2_ := Aside0.mk (Kd.R_below (by (with_reducible repeat (first | apply Kd.R_alloc | apply Kd.R_drewN | apply Kd.R_drew)); first | exact HO251.out | (subst_vars; exact HO251.out)) hb); have n3_ := Aside0.mk (Kd.R_elder' (by (with_reducible repeat (first | apply Kd.R_alloc | apply Kd.R_drewN | apply Kd.R_drew)); first | exact HO254.out | (subst_vars; exact HO254.out)) (Kd.R_base ho0) hb); have n4_ := Aside0.mk (Kd.R_lower (Kd.R_new' (Kd.R_new' (Kd.R_new' ho0 (Kd.R_lt (by (with_reducible repeat (first | apply Kd.R_alloc | apply Kd.R_drewN | apply Kd.R_drew)); first | exact HO_8.out | (subst_vars; exact HO_8.out)))) (Kd.R_lt (by (with_reducible repeat (first | apply Kd.R_alloc | apply Kd.R_drewN | apply Kd.R_drew)); first | exact HO_12.out | (subst_vars; exact HO_12.out)))) (Kd.R_lt (by (with_reducible repeat (first | apply Kd.R_alloc | apply Kd.R_drewN | apply Kd.R_drew)); first | exact HO254.out | (subst_vars; exact HO254.out)))) (below_size (by repeat (first | (with_reducible first | exact HB.out | apply below_alloc | apply pw_below_drewN | apply below_drew1) | exact HB.out)))); have n5_ := Aside0.mk (below_step (by repeat (first | (with_reducible first | exact HB.out | apply below_alloc | apply pw_below_drewN | apply below_drew1) | exact HB.out)) hb); clear HO_8; clear HO_12; clear HO251; clear HO254; clear HB; have HO_8 := n0_; have HO_12 := n1_; have HO251 := n2_; have HO254 := n3_; have HO258 := n4_; have HB := n5_; clear n0_ n1_ n2_ n3_ n4_ n5_; (try clear hb); (try clear hb2); (try clear hk); (try clear hi); (try clear ho0)))
                          (try simp only [Act.put, List.setIfInBounds_toArray, List.set_cons_zero, List.set_cons_succ])
                          go_cut [113] (fun v113 wc => ∃ (kq : Nat) (x113_61 : Bool), v113 = .bool x113_61 ∧ Aside0 (laws_FnExactRoom.j2 kq t247 t246 x113_61 = some r) ∧ Aside0 (kq ≤ kj38) ∧ Aside0 (Kd.R (Kd.int .i64) 3 wc w.heap.size (fun _ => True) (.slice Ao63 t228.length co63) t247) ∧ Aside0 (Below w.heap.size w wc))
                          case first =>
                            have H := HC62.out
                            clear HC62
                            replace H := Option.bind_eq_some_iff.mp H
                            obtain ⟨t259, A700, H⟩ := H
                            replace H : (if t259 = true then (laws_FnExactRoom.j2 kj38 t247 t246 (t256 != t219)) else (laws_FnExactRoom.j2 kj38 t247 t246 true)) = some r := H
                            have A70 := Aside0.mk A700
                            clear A700
                            by_cases c71 : t259 = true
                            · subst c71
                              have H1 : (laws_FnExactRoom.j2 kj38 t247 t246 (t256 != t219)) = some r := by rw [if_pos rfl] at H; exact H
                              clear H
                              have H := H1
                              clear H1
                              have H' := Aside0.mk H
                              clear H
                              obtain ⟨Ao72, co72, eo72⟩ := Kd.R_slice HO258.out
                              subst eo72
                              obtain ⟨Ao73, co73, eo73⟩ := Kd.R_slice HO_8.out
                              subst eo73
                              go_wp2_with (first | ((with_reducible refine gate_callee (f := 14) rfl ?_); refine goesL_ (some 107) rfl rfl Try.func14 (by kernel_rfl) rfl #[.slice Ao72 t255.length co72, .slice Ao73 t218.length co73] rfl (by (try simp only [List.map_toArray, List.map_cons, List.map_nil]); first | done | rfl | (simp only [List.length_drop, List.length_take]; rfl)) ?_; (with_reducible refine (laws_eqIntS.calls kj38 _ _ t255 _ _ t218 true _ ?side1 ?side2 ?side3 ?side4 A70.out).mono ?_); (case side1 => repeat (first | exact (Kd.R_reads' HO258.out).2.2 | (with_reducible refine Kd.C_alloc ?_ _) | (with_reducible refine Kd.C_drewN ?_ _) | (with_reducible refine Kd.C_drew ?_))); (case side2 => exact (Kd.R_reads' HO258.out).2.1); (case side3 => repeat (first | exact (Kd.R_reads' HO_8.out).2.2 | (with_reducible refine Kd.C_alloc ?_ _) | (with_reducible refine Kd.C_drewN ?_ _) | (with_reducible refine Kd.C_drew ?_))); (case side4 => exact (Kd.R_reads' HO_8.out).2.1); rintro e w' ⟨rfl, ⟨nd, rfl⟩⟩; refine ⟨_, rfl, ?_⟩))
                              go_meet
                              case rel => exact ⟨_, ((t256 != t219)), (by first | rfl | (simp; done) | (simp [*]; done)), H', ⟨by have := HJ12.out; have := HJ38.out; first | omega | exact Nat.le_refl _⟩, ⟨by (with_reducible repeat (first | apply Kd.R_alloc | apply Kd.R_drewN | apply Kd.R_drew)); first | exact Kd.R_mono HO_12.out (fun _ hk => trivial) | (subst_vars; exact Kd.R_mono HO_12.out (fun _ hk => trivial))⟩, ⟨by repeat (first | (with_reducible first | exact HB.out | apply below_alloc | apply pw_below_drewN | apply below_drew1) | exact HB.out)⟩⟩
                            · replace c71 := Bool.eq_false_iff.mpr c71
                              subst c71
                              have H1 : (laws_FnExactRoom.j2 kj38 t247 t246 true) = some r := by rw [if_neg (show ¬ (false = true) by decide)] at H; exact H
                              clear H
                              have H := H1
                              clear H1
                              have H' := Aside0.mk H
                              clear H
                              obtain ⟨Ao74, co74, eo74⟩ := Kd.R_slice HO258.out
                              subst eo74
                              obtain ⟨Ao75, co75, eo75⟩ := Kd.R_slice HO_8.out
                              subst eo75
                              go_wp2_with (first | ((with_reducible refine gate_callee (f := 14) rfl ?_); refine goesL_ (some 107) rfl rfl Try.func14 (by kernel_rfl) rfl #[.slice Ao74 t255.length co74, .slice Ao75 t218.length co75] rfl (by (try simp only [List.map_toArray, List.map_cons, List.map_nil]); first | done | rfl | (simp only [List.length_drop, List.length_take]; rfl)) ?_; (with_reducible refine (laws_eqIntS.calls kj38 _ _ t255 _ _ t218 false _ ?side1 ?side2 ?side3 ?side4 A70.out).mono ?_); (case side1 => repeat (first | exact (Kd.R_reads' HO258.out).2.2 | (with_reducible refine Kd.C_alloc ?_ _) | (with_reducible refine Kd.C_drewN ?_ _) | (with_reducible refine Kd.C_drew ?_))); (case side2 => exact (Kd.R_reads' HO258.out).2.1); (case side3 => repeat (first | exact (Kd.R_reads' HO_8.out).2.2 | (with_reducible refine Kd.C_alloc ?_ _) | (with_reducible refine Kd.C_drewN ?_ _) | (with_reducible refine Kd.C_drew ?_))); (case side4 => exact (Kd.R_reads' HO_8.out).2.1); rintro e w' ⟨rfl, ⟨nd, rfl⟩⟩; refine ⟨_, rfl, ?_⟩))
                              go_meet
                              case rel => exact ⟨_, (true), (by first | rfl | (simp; done) | (simp [*]; done)), H', ⟨by have := HJ12.out; have := HJ38.out; first | omega | exact Nat.le_refl _⟩, ⟨by (with_reducible repeat (first | apply Kd.R_alloc | apply Kd.R_drewN | apply Kd.R_drew)); first | exact Kd.R_mono HO_12.out (fun _ hk => trivial) | (subst_vars; exact Kd.R_mono HO_12.out (fun _ hk => trivial))⟩, ⟨by repeat (first | (with_reducible first | exact HB.out | apply below_alloc | apply pw_below_drewN | apply below_drew1) | exact HB.out)⟩⟩
                          case rest =>
                            clear HC62
                            try clear c1
                            try clear c2
                            try clear p2
                            try clear c3
                            try clear c4
                            try clear c4b0
                            try clear c4b1
                            try clear c5
                            try clear c6
                            try clear c6b0
                            try clear c7
                            try clear c9
                            try clear c11
                            try clear c12
                            try clear c14
                            try clear c15
                            try clear c16
                            try clear c17
                            try clear c18
                            try clear c19
                            try clear c20
                            try clear c25
                            try clear c30
                            try clear c33
                            try clear c36
                            try clear c47
                            try clear c47b0
                            try clear c49
                            try clear c54
                            try clear c57
                            try clear c57b0
                            try clear c58
                            try clear c58b0
                            try clear c58b1
                            try clear c71
                            try clear p2
                            obtain ⟨kq, x113_61, rfl, HA, HJ61, HO_12, HB⟩ := hcut
                            have hl12_61 := (Kd.R_reads' HO_12.out).1
                            rw [hl12_61] at HO_12
                            (try simp only [hl12_61])
                            cases kq with
                            | zero => exact absurd HA.out (by simp [laws_FnExactRoom.j2])
                            | succ kj61 =>
                              have H := HA.out
                              clear HA
                              simp only [laws_FnExactRoom.j2] at H
                              by_cases c76 : x113_61 = true
                              · subst c76
                                have H1 : (some false) = some r := by rw [if_pos rfl] at H; exact H
                                clear H
                                have H := H1
                                clear H1
                                exact absurd (Option.some.inj H) (by rw [hr_]; decide)
                              · replace c76 := Bool.eq_false_iff.mpr c76
                                subst c76
                                have H1 : ((laws_heldIntS.f kj61 t247 1).bind fun t260 => (if t260 < 0 then (some false) else (if t260 = t246 then (some true) else (some false)))) = some r := by rw [if_neg (show ¬ (false = true) by decide)] at H; exact H
                                clear H
                                have H := H1
                                clear H1
                                replace H := Option.bind_eq_some_iff.mp H
                                obtain ⟨t260, A770, H⟩ := H
                                replace H : (if t260 < 0 then (some false) else (if t260 = t246 then (some true) else (some false))) = some r := H
                                have A77 := Aside0.mk A770
                                clear A770
                                by_cases c78 : t260 < 0
                                · rw [if_pos c78] at H
                                  have c78b0 : decide (t260 < 0) = true := decide_eq_true c78
                                  (try (have c78w_hl12_61 := c78b0; simp only [hl12_61] at c78w_hl12_61))
                                  clear c78
                                  exact absurd (Option.some.inj H) (by rw [hr_]; decide)
                                · rw [if_neg c78] at H
                                  have c78b0 : decide (t260 < 0) = false := decide_eq_false c78
                                  (try (have c78w_hl12_61 := c78b0; simp only [hl12_61] at c78w_hl12_61))
                                  clear c78
                                  by_cases c79 : t260 = t246
                                  · rw [if_pos c79] at H
                                    have c79b0 : (t260 == t246) = true := beq_iff_eq.mpr c79
                                    have c79b1 : (t260 != t246) = false := bne_eq_false_iff_eq.mpr c79
                                    (try (have c79w_hl12_61 := c79b0; simp only [hl12_61] at c79w_hl12_61))
                                    clear c79
                                    obtain rfl := Option.some.inj H
                                    go_wp2_with (first | ((with_reducible refine gate_callee (f := 18) rfl ?_); refine goesL_ (some 116) rfl rfl Try.func18 (by kernel_rfl) rfl #[.slice Ao63 t247.length co63, .int .i64 1] rfl (by (try simp only [List.map_toArray, List.map_cons, List.map_nil]); first | done | rfl | (simp only [List.length_drop, List.length_take]; rfl)) ?_; (with_reducible refine (laws_heldIntS.calls kj61 _ _ t247 1 t260 _ ?side1 ?side2 A77.out).mono ?_); (case side1 => repeat (first | exact (Kd.R_reads' HO_12.out).2.2 | (with_reducible refine Kd.C_alloc ?_ _) | (with_reducible refine Kd.C_drewN ?_ _) | (with_reducible refine Kd.C_drew ?_))); (case side2 => exact (Kd.R_reads' HO_12.out).2.1); rintro e w' ⟨rfl, ⟨nd, rfl⟩⟩; refine ⟨_, rfl, ?_⟩))
                                    go_ret
                                    exact ⟨by first | rfl | (simp [errW_none, errW_some] <;> rfl) | (simp [*, errW_none, errW_some] <;> rfl), by repeat (first | (with_reducible first | exact HB.out | apply below_alloc | apply pw_below_drewN | apply below_drew1) | exact HB.out)⟩
                                  · rw [if_neg c79] at H
                                    have c79b0 : (t260 == t246) = false := beq_eq_false_iff_ne.mpr c79
                                    have c79b1 : (t260 != t246) = true := bne_iff_ne.mpr c79
                                    (try (have c79w_hl12_61 := c79b0; simp only [hl12_61] at c79w_hl12_61))
                                    exact absurd (Option.some.inj H) (by rw [hr_]; decide)
                        · rw [if_neg c58] at H
                          have c58b0 : (t248 == t246) = false := beq_eq_false_iff_ne.mpr c58
                          have c58b1 : (t248 != t246) = true := bne_iff_ne.mpr c58
                          exact absurd (Option.some.inj H) (by rw [hr_]; decide)
              · replace c36 := Bool.eq_false_iff.mpr c36
                subst c36
                have H1 : (some false) = some r := by rw [if_neg (show ¬ (false = true) by decide)] at H; exact H
                clear H
                have H := H1
                clear H1
                exact absurd (Option.some.inj H) (by rw [hr_]; decide)
            · replace c33 := Bool.eq_false_iff.mpr c33
              subst c33
              have H1 : (some false) = some r := by rw [if_neg (show ¬ (false = true) by decide)] at H; exact H
              clear H
              have H := H1
              clear H1
              exact absurd (Option.some.inj H) (by rw [hr_]; decide)

end Go.Proofs.Ytckadpomhdjkhaa.PFnExactRoom
