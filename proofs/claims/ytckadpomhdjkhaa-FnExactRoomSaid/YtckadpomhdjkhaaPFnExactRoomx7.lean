-- Written by a turned copy of the print (see the notes of this repo): plain functions and their walks. Lean checks it.
import Derived.Test.YtckadpomhdjkhaaPFnExactRoomx0
import Derived.Test.YtckadpomhdjkhaaPFnExactRoomx6
namespace Go.Proofs.Ytckadpomhdjkhaa.PFnExactRoom
open Go.RowKit Go.Proofs.YtckadpomhdjkhaaW.PrintWords Go.Proofs.YtckadpomhdjkhaaW.PrintLast Go.Proofs.YtckadpomhdjkhaaW.PrintMore
attribute [local go_sem] max2_int min2_int max_two min_two max_three min_three max_four min_four   -- for this text's walks alone
set_option linter.unusedVariables false
set_option linter.unusedSimpArgs false

/-! ### impl_Fire: function 13 -/
theorem zc5 {w : World} {g : Nat} {t : TypeId} {a0 a1 a2 a3 a4 : Value} (h : w.heap[g]? = some (.cells #[a0, a1, a2, a3, a4] t (0, 0))) : w.cell? ⟨g, 0, none⟩ = some a0 ∧ w.cell? ⟨g, 1, none⟩ = some a1 ∧ w.cell? ⟨g, 2, none⟩ = some a2 ∧ w.cell? ⟨g, 3, none⟩ = some a3 ∧ w.cell? ⟨g, 4, none⟩ = some a4 ∧ w.frozen? ⟨g, 0, none⟩ = false ∧ w.frozen? ⟨g, 1, none⟩ = false ∧ w.frozen? ⟨g, 2, none⟩ = false ∧ w.frozen? ⟨g, 3, none⟩ = false ∧ w.frozen? ⟨g, 4, none⟩ = false :=
  ⟨(blk_cell h 0).trans rfl, (blk_cell h 1).trans rfl, (blk_cell h 2).trans rfl, (blk_cell h 3).trans rfl, (blk_cell h 4).trans rfl, blk_frozen h 0, blk_frozen h 1, blk_frozen h 2, blk_frozen h 3, blk_frozen h 4⟩
theorem net_far1 {w : World} {base g j : Nat} {v : Value} {xs : List Int} {cs : Array Value} {t : TypeId} (h : Kd.R (Kd.int .i64) 3 w base (fun _ => True) v xs) (hb : w.heap[g]? = some (.cells cs t (0, 0))) (ht : 3 ≠ t) (a : Value) :
    Kd.R (Kd.int .i64) 3 (w.setCell ⟨g, j, none⟩ a) base (fun _ => True) v xs := by
  have h1 := Kd.R_types h hb (by intro q hq; rcases List.mem_singleton.1 hq with rfl; exact ht)
  exact Kd.R_mono (Kd.R_far (p := ⟨g, j, none⟩) h1 (fun _ hk => hk.2) a) (fun _ _ => trivial)
theorem net_wrap {i : Int} {n : Nat} (h0 : 0 ≤ i) (h1 : i < (n : Int)) (h2 : n ≤ 1000000) : wrap64 (i + 1) = i + 1 := by unfold wrap64; omega
theorem net_step {l : List S80} {i : Int} (h0 : 0 ≤ i) (h1 : i < (l.length : Int)) : (l.take (i + 1).toNat).map (·.f4) = (l.take i.toNat).map (·.f4) ++ [(rd_T80 l i).f4] := by
  have hl : i.toNat < l.length := by omega
  rw [show (i + 1).toNat = i.toNat + 1 by omega, List.take_add_one, List.map_append, List.getElem?_eq_getElem hl]
  simp [rd_T80, List.getD_eq_getElem?_getD, hl]
theorem net_far5 {w : World} {base gw : Nat} {v : Value} {xs : List Int} {cs : Array Value} {t : TypeId} (h : Kd.R (Kd.int .i64) 3 w base (fun _ => True) v xs) (hb : w.heap[gw]? = some (.cells cs t (0, 0))) (ht : 3 ≠ t) (a b c d e : Value) :
    Kd.R (Kd.int .i64) 3 (((((w.setCell ⟨gw, 0, none⟩ a).setCell ⟨gw, 1, none⟩ b).setCell ⟨gw, 2, none⟩ c).setCell ⟨gw, 3, none⟩ d).setCell ⟨gw, 4, none⟩ e) base (fun _ => True) v xs := by
  have h1 := Kd.R_types h hb (by intro q hq; rcases List.mem_singleton.1 hq with rfl; exact ht)
  exact Kd.R_mono (Kd.R_far (p := ⟨gw, 4, none⟩) (Kd.R_far (p := ⟨gw, 3, none⟩) (Kd.R_far (p := ⟨gw, 2, none⟩) (Kd.R_far (p := ⟨gw, 1, none⟩) (Kd.R_far (p := ⟨gw, 0, none⟩) h1 (fun _ hk => hk.2) a) (fun _ hk => hk.2) b) (fun _ hk => hk.2) c) (fun _ hk => hk.2) d) (fun _ hk => hk.2) e) (fun _ _ => trivial)
set_option maxHeartbeats 4000000 in
set_option maxRecDepth 100000 in
theorem netOf_calls (a0 : Int) (A1 : Option Addr) (c1 : Nat) (l1 : List S80) (w : World) (hr1 : Kd.C k80 w A1 l1.length l1) (hl : l1.length ≤ 1000000) :
    Calls Try.prog 53 #[.int .i64 a0, .slice A1 l1.length c1] w fun e w' => ∃ (g : Nat) (v : Value), e = .returned (.pointer (some ⟨g, 0, none⟩)) ∧ w.heap.size ≤ g ∧ w'.heap[g]? = some (.cells #[.int .i64 a0, .slice A1 l1.length c1, v] 87 (0, 0)) ∧ Kd.R (Kd.int .i64) 3 w' w.heap.size (fun _ => True) v (l1.map (·.f4)) ∧ Below w.heap.size w w' := by
  have HR1 := Aside0.mk hr1
  have HL := Aside0.mk hl
  have HB0 := Aside0.mk (Below.refl w.heap.size w)
  clear hr1 hl
  go_enter Try.func53, Try.ntmps53
  go_upto_region 2 with (first | ((with_reducible refine gate_dst (N := 11) rfl ?_); refine box_event ?hg (N := 11) ?hd (cs := #[.int .i64 a0, .slice A1 l1.length c1, .slice none 0 0]) (t := 87) ?hr ?_; (case hd => rfl); (case hg => rfl); (case hr => first | (go_simp; done) | (go_simp; rfl)); intro g hg w1 hbox hb; have BK := Aside0.mk hbox; have HB := Aside0.mk hb; have GE := Aside0.mk (Nat.le_of_eq hg.symm : w.heap.size ≤ g); clear hbox hb hg))
  go_wp2
  (try simp only [Act.put, List.setIfInBounds_toArray, List.set_cons_zero, List.set_cons_succ])
  go_loopw [14] (fun u14 W => ∃ (i : Int) (v : Value), u14 = .int .i64 i ∧ Aside0 (0 ≤ i ∧ i ≤ (l1.length : Int)) ∧ Aside0 (W.heap[g]? = some (.cells #[.int .i64 a0, .slice A1 l1.length c1, v] 87 (0, 0))) ∧ Aside0 (Kd.R (Kd.int .i64) 3 W w.heap.size (fun _ => True) v ((l1.take i.toNat).map (·.f4))) ∧ Aside0 (Below w.heap.size w W)) (fun v _ => l1.length - (match v with | .int _ n => n.toNat | _ => 0))
  case atStart => exact ⟨0, _, rfl, ⟨by omega⟩, BK, ⟨Kd.R_nil _ _ _ _ _⟩, HB⟩
  case round =>
    clear BK HB
    obtain ⟨i, v, rfl, HI, BK, HO, HB⟩ := hrel
    by_cases hi : i < (l1.length : Int)
    · have hlt : decide (i < (l1.length : Int)) = true := decide_eq_true hi
      obtain ⟨ad, e0, hx_0, hx_1, hx_2, hx_3, hx_4⟩ := at_T80 HR1.out i HI.out.1 hi
      subst e0
      replace hx_0 := (HB.out.cell (World.block_lt_of_cell? w _ hx_0)).trans hx_0
      replace hx_1 := (HB.out.cell (World.block_lt_of_cell? w _ hx_1)).trans hx_1
      replace hx_2 := (HB.out.cell (World.block_lt_of_cell? w _ hx_2)).trans hx_2
      replace hx_3 := (HB.out.cell (World.block_lt_of_cell? w _ hx_3)).trans hx_3
      replace hx_4 := (HB.out.cell (World.block_lt_of_cell? w _ hx_4)).trans hx_4
      have p1 := eq_true HI.out.1
      have q1 := eq_true hi
      have HQ := Aside0.mk hi
      clear hi
      go_upto_region 5 with (first | ((with_reducible refine gate_dst (N := 7) rfl ?_); refine box_event ?hg (N := 7) ?hd (cs := #[.int .i64 0, .int .i64 0, .int .i64 0, .int .i64 0, .int .i64 0]) (t := 80) ?hr ?_; (case hd => rfl); (case hg => rfl); (case hr => first | (go_simp; done) | (go_simp; rfl)); intro gw hg w2 hbox hb; have NE := Aside0.mk ((by rw [hg]; exact Nat.ne_of_lt (by simpa using blk_lt BK.out)) : g ≠ gw); have GW := Aside0.mk ((by rw [hg]; exact (below_size HB.out)) : w.heap.size ≤ gw); have n0_ := Aside0.mk (blk_below BK.out hb); have n1_ := Aside0.mk (Kd.R_below HO.out hb); have n2_ := Aside0.mk (below_step HB.out hb); have BW := Aside0.mk hbox; clear BK HO HB hb hg hbox; have BK := n0_; have HO := n1_; have HB := n2_; clear n0_ n1_ n2_; have hcz_0 : w2.cell? ⟨gw, 0, none⟩ = some (.int .i64 0) := (blk_cell BW.out 0).trans rfl; have hcz_1 : w2.cell? ⟨gw, 1, none⟩ = some (.int .i64 0) := (blk_cell BW.out 1).trans rfl; have hcz_2 : w2.cell? ⟨gw, 2, none⟩ = some (.int .i64 0) := (blk_cell BW.out 2).trans rfl; have hcz_3 : w2.cell? ⟨gw, 3, none⟩ = some (.int .i64 0) := (blk_cell BW.out 3).trans rfl; have hcz_4 : w2.cell? ⟨gw, 4, none⟩ = some (.int .i64 0) := (blk_cell BW.out 4).trans rfl; have hfz_0 := blk_frozen BW.out 0; have hfz_1 := blk_frozen BW.out 1; have hfz_2 := blk_frozen BW.out 2; have hfz_3 := blk_frozen BW.out 3; have hfz_4 := blk_frozen BW.out 4))
      obtain ⟨W, hW⟩ : ∃ W, W = ((((w2.setCell ⟨gw, 0, none⟩ (.int .i64 (rd_T80 l1 i).f0)).setCell ⟨gw, 1, none⟩ (.int .i64 (rd_T80 l1 i).f1)).setCell ⟨gw, 2, none⟩ (.int .i64 (rd_T80 l1 i).f2)).setCell ⟨gw, 3, none⟩ (.int .i64 (rd_T80 l1 i).f3)).setCell ⟨gw, 4, none⟩ (.int .i64 (rd_T80 l1 i).f4) := ⟨_, rfl⟩
      have n0_ : Aside0 (W.heap[g]? = some (.cells #[.int .i64 a0, .slice (some ad) l1.length c1, v] 87 (0, 0))) := ⟨by rw [hW]; exact blk_far (blk_far (blk_far (blk_far (blk_far BK.out NE.out _) NE.out _) NE.out _) NE.out _) NE.out _⟩
      have n1_ : Aside0 (Kd.R (Kd.int .i64) 3 W w.heap.size (fun _ => True) v ((l1.take i.toNat).map (·.f4))) := ⟨by rw [hW]; exact net_far5 HO.out BW.out (by decide) _ _ _ _ _⟩
      have n2_ : Aside0 (Below w.heap.size w W) := ⟨by rw [hW]; exact below_set (below_set (below_set (below_set (below_set HB.out GW.out) GW.out) GW.out) GW.out) GW.out⟩
      have n3_ : Aside0 (W.heap[gw]? = some (.cells #[.int .i64 (rd_T80 l1 i).f0, .int .i64 (rd_T80 l1 i).f1, .int .i64 (rd_T80 l1 i).f2, .int .i64 (rd_T80 l1 i).f3, .int .i64 (rd_T80 l1 i).f4] 80 (0, 0))) := ⟨by rw [hW]; exact blk_put (blk_put (blk_put (blk_put (blk_put BW.out 0 _ rfl) 1 _ rfl) 2 _ rfl) 3 _ rfl) 4 _ rfl⟩
      rw [← hW]
      clear hW BK HO HB BW hcz_0 hcz_1 hcz_2 hcz_3 hcz_4 hfz_0 hfz_1 hfz_2 hfz_3 hfz_4 hx_0 hx_1 hx_2 hx_3 hx_4
      have BK := n0_
      have HO := n1_
      have HB := n2_
      have BW := n3_
      clear n0_ n1_ n2_ n3_
      have hcz_4 : W.cell? ⟨gw, 4, none⟩ = some (.int .i64 (rd_T80 l1 i).f4) := (blk_cell BW.out 4).trans rfl
      have hck_2 : W.cell? ⟨g, 2, none⟩ = some v := (blk_cell BK.out 2).trans rfl
      have hcka_2 : (W.alloc (.cells #[.int .i64 (rd_T80 l1 i).f4] 3)).cell? ⟨g, 2, none⟩ = some v := (blk_cell (blk_alloc BK.out _) 2).trans rfl
      go_region_law (refine Kd.R_append_step (Kd.int .i64) (w0 := w) w.heap.size (by rfl) (.tmp 22) (.tmp 25) 23 3 (.int .i64 0) 8 rfl Try.underlying23 info3 rfl (by decide) (by omega) v ((l1.take i.toNat).map (·.f4)) (rd_T80 l1 i).f4 [.int .i64 (rd_T80 l1 i).f4] (fun _ => True) (fun _ => False) (by simp [Act.eval, Act.put]) (by simp [Act.eval, Act.put]) rfl (fun _ hk => hk.elim) (fun _ _ => trivial) (Kd.R_drew HO.out) (below_drew1 HB.out) (below_size (below_drew1 HB.out)) (by have := HL.out; have := HQ.out; simp; omega) ?_; intro v2 w3 ho hb hg hat; obtain ⟨go, co, ev, _, _, _⟩ := Kd.R_form ho (by simp); obtain ⟨n2, hn2⟩ : ∃ n, (((l1.take i.toNat).map (·.f4)) ++ [(rd_T80 l1 i).f4]).length = n := ⟨_, rfl⟩; rw [hn2] at ev; clear hn2; subst ev; have bk3 := blk_grown (blk_drew BK.out) hg (Kd.R_ne HO.out BK.out (by decide)); have hck3 : w3.cell? ⟨g, 2, none⟩ = some v := (blk_cell bk3 2).trans rfl; have hfk3 := blk_frozen bk3 2)
      all_goals
        have HI2 := Aside0.mk (net_wrap HI.out.1 HQ.out HL.out)
        have HS := Aside0.mk (net_step (l := l1) HI.out.1 HQ.out)
        go_wp2
        go_roundw
        case rel => exact ⟨i + 1, _, by rw [HI2.out], ⟨by have := HI.out; have := HQ.out; omega⟩, ⟨blk_put bk3 2 _ rfl⟩, ⟨by rw [HS.out]; exact net_far1 ho bk3 (by decide) _⟩, ⟨below_set hb GE.out⟩⟩
        case measure => have := HI.out; have := HQ.out; rw [HI2.out]; simp; omega
    · have hlt : decide (i < (l1.length : Int)) = false := decide_eq_false hi
      have HQ := Aside0.mk hi
      clear hi
      go_wp2
      go_ret
      exact ⟨g, rfl, GE.out, v, BK.out, by have := HO.out; rw [List.take_of_length_le (by have := HI.out; have := HQ.out; omega)] at this; exact this, HB.out⟩
def frStep (l1 : List S80) (b : Int) (i : Int) (lie : List Int) : List Int :=
  if (rd_T80 l1 i).f0 = b then
    (if (rd_T80 l1 i).f1 = b then lie.set i.toNat (wrap64 (rd lie i - (rd_T80 l1 i).f3)) else lie).set i.toNat (wrap64 (rd (if (rd_T80 l1 i).f1 = b then lie.set i.toNat (wrap64 (rd lie i - (rd_T80 l1 i).f3)) else lie) i + (rd_T80 l1 i).f2))
  else if (rd_T80 l1 i).f1 = b then lie.set i.toNat (wrap64 (rd lie i - (rd_T80 l1 i).f3)) else lie
def frGo (l1 : List S80) (b : Int) : Nat → Int → List Int → List Int
  | 0, _, lie => lie
  | d + 1, i, lie => frGo l1 b d (i + 1) (frStep l1 b i lie)
theorem frStep_len (l1 : List S80) (b : Int) (i : Int) (lie : List Int) : (frStep l1 b i lie).length = lie.length := by
  unfold frStep
  repeat' split
  all_goals simp
theorem frGo_len (l1 : List S80) (b : Int) : ∀ (d : Nat) (i : Int) (lie : List Int), (frGo l1 b d i lie).length = lie.length
  | 0, _, _ => rfl
  | d + 1, i, lie => by unfold frGo; rw [frGo_len l1 b d, frStep_len]
/-- Nothing that stood has turned but the row that v owns. -/
def KeepV (w w1 : World) (v : Value) : Prop := w.heap.size ≤ w1.heap.size ∧ ∀ k, k < w.heap.size → some k ≠ v.ownBlock → w1.heap[k]? = w.heap[k]?
theorem KeepV.refl (w : World) (v : Value) : KeepV w w v := ⟨Nat.le_refl _, fun _ _ _ => rfl⟩
theorem KeepV.below {w w1 w2 : World} {v : Value} (h : KeepV w w1 v) (hb : Below w1.heap.size w1 w2) : KeepV w w2 v :=
  ⟨Nat.le_trans h.1 hb.size, fun k hk hv => (hb.block k (Nat.lt_of_lt_of_le hk h.1)).trans (h.2 k hk hv)⟩
theorem KeepV.new {w w1 : World} {v : Value} (h : KeepV w w1 v) {g j : Nat} (hg : w.heap.size ≤ g) (u : Value) : KeepV w (w1.setCell ⟨g, j, none⟩ u) v :=
  ⟨by simpa [World.setCell] using h.1, fun k hk hv => (Below.heap_setCell w1 ⟨g, j, none⟩ u k (by simp only; omega)).trans (h.2 k hk hv)⟩
theorem KeepV.own {w w1 : World} {g n c : Nat} (h : KeepV w w1 (.slice (some ⟨g, 0, none⟩) n c)) (j : Nat) (u : Value) : KeepV w (w1.setCell ⟨g, j, none⟩ u) (.slice (some ⟨g, 0, none⟩) n c) :=
  ⟨by simpa [World.setCell] using h.1, fun k hk hv => (Below.heap_setCell w1 ⟨g, j, none⟩ u k (by simp only; intro e; exact hv (by simp [Value.ownBlock, e]))).trans (h.2 k hk hv)⟩
theorem KeepV.drew {w w1 : World} {v : Value} (h : KeepV w w1 v) : KeepV w w1.drew v := h
set_option maxHeartbeats 4000000 in
set_option maxRecDepth 100000 in
theorem fire_calls (a0 b : Int) (A1 : Option Addr) (c1 : Nat) (l1 : List S80) (g : Nat) (v : Value) (lie : List Int) (w0 w : World) (hr1 : Kd.C k80 w0 A1 l1.length l1) (hl : l1.length ≤ 1000000) (hlen : lie.length = l1.length)
    (hB : Below w0.heap.size w0 w) (hbk : w.heap[g]? = some (.cells #[.int .i64 a0, .slice A1 l1.length c1, v] 87 (0, 0))) (ho : Kd.R (Kd.int .i64) 3 w w0.heap.size (fun _ => True) v lie) :
    Calls Try.prog 55 #[.pointer (some ⟨g, 0, none⟩), .int .i64 b] w fun e w' => e = .returned (.tuple #[]) ∧ w'.heap[g]? = some (.cells #[.int .i64 a0, .slice A1 l1.length c1, v] 87 (0, 0)) ∧ Kd.R (Kd.int .i64) 3 w' w0.heap.size (fun _ => True) v (frGo l1 b l1.length 0 lie) ∧ Below w0.heap.size w0 w' ∧ KeepV w w' v := by
  have HR1 := Aside0.mk hr1
  have HL := Aside0.mk hl
  have HS0 := Aside0.mk (hB.size : w0.heap.size ≤ w.heap.size)
  have HB := Aside0.mk hB
  have BK := Aside0.mk hbk
  have HO := Aside0.mk ho
  have HK := Aside0.mk (KeepV.refl w v)
  have HG := Aside0.mk (blk_lt hbk)
  have HLEN := Aside0.mk hlen
  obtain ⟨R, hR⟩ : ∃ R, frGo l1 b l1.length 0 lie = R := ⟨_, rfl⟩
  rw [hR]
  have HR := Aside0.mk hR
  clear hr1 hl hB hbk ho hlen hR
  have hck_1 : w.cell? ⟨g, 1, none⟩ = some (.slice A1 l1.length c1) := (blk_cell BK.out 1).trans rfl
  go_enter Try.func55, Try.ntmps55
  go_wp2
  clear hck_1
  (try simp only [Act.put, List.setIfInBounds_toArray, List.set_cons_zero, List.set_cons_succ])
  go_loopw [11] (fun u11 W => ∃ (i : Int) (ys : List Int), u11 = .int .i64 i ∧ Aside0 ((0 ≤ i ∧ i ≤ (l1.length : Int)) ∧ ys.length = l1.length) ∧ Aside0 (frGo l1 b (l1.length - i.toNat) i ys = R) ∧ Aside0 (W.heap[g]? = some (.cells #[.int .i64 a0, .slice A1 l1.length c1, v] 87 (0, 0))) ∧ Aside0 (Kd.R (Kd.int .i64) 3 W w0.heap.size (fun _ => True) v ys) ∧ Aside0 (Below w0.heap.size w0 W) ∧ Aside0 (KeepV w W v)) (fun v _ => l1.length - (match v with | .int _ n => n.toNat | _ => 0))
  case atStart => exact ⟨0, lie, rfl, ⟨⟨by omega, HLEN.out⟩⟩, ⟨by simpa using HR.out⟩, BK, HO, HB, HK⟩
  case round =>
    clear HR BK HO HB HK HLEN
    obtain ⟨i, ys, rfl, HI, HR, BK, HO, HB, HK⟩ := hrel
    by_cases hi : i < (l1.length : Int)
    · have hlt : decide (i < (l1.length : Int)) = true := decide_eq_true hi
      obtain ⟨ad, e0, hx_0, hx_1, hx_2, hx_3, hx_4⟩ := at_T80 HR1.out i HI.out.1.1 hi
      subst e0
      replace hx_0 := (HB.out.cell (World.block_lt_of_cell? w0 _ hx_0)).trans hx_0
      replace hx_1 := (HB.out.cell (World.block_lt_of_cell? w0 _ hx_1)).trans hx_1
      replace hx_2 := (HB.out.cell (World.block_lt_of_cell? w0 _ hx_2)).trans hx_2
      replace hx_3 := (HB.out.cell (World.block_lt_of_cell? w0 _ hx_3)).trans hx_3
      replace hx_4 := (HB.out.cell (World.block_lt_of_cell? w0 _ hx_4)).trans hx_4
      obtain ⟨go, co, ev, _, _, _⟩ := Kd.R_form HO.out (by have := HI.out; omega)
      obtain ⟨n2, hn2⟩ : ∃ n, ys.length = n := ⟨_, rfl⟩
      rw [hn2] at ev
      subst ev
      have HN2 := Aside0.mk hn2
      clear hn2
      have p0 := eq_true HI.out.1.1
      have q1 := eq_true hi
      have q2 := eq_true (show i < (n2 : Int) by have := HI.out; have := HN2.out; omega)
      have HQ := Aside0.mk hi
      clear hi
      go_upto_region 3 with (first | ((with_reducible refine gate_dst (N := 5) rfl ?_); refine box_event ?hg (N := 5) ?hd (cs := #[.int .i64 0, .int .i64 0, .int .i64 0, .int .i64 0, .int .i64 0]) (t := 80) ?hr ?_; (case hd => rfl); (case hg => rfl); (case hr => first | (go_simp; done) | (go_simp; rfl)); intro gw hg w2 hbox hb; have NE := Aside0.mk ((by rw [hg]; exact Nat.ne_of_lt (by simpa using blk_lt BK.out)) : g ≠ gw); have GW := Aside0.mk ((by rw [hg]; exact HB.out.size) : w0.heap.size ≤ gw); have GV := Aside0.mk ((by rw [hg]; exact HK.out.1) : w.heap.size ≤ gw); have n0_ := Aside0.mk (blk_below BK.out hb); have n1_ := Aside0.mk (Kd.R_below HO.out hb); have n2_ := Aside0.mk (below_step HB.out hb); have n3_ := Aside0.mk (KeepV.below HK.out hb); have BW := Aside0.mk hbox; clear BK HO HB HK hb hg hbox; have BK := n0_; have HO := n1_; have HB := n2_; have HK := n3_; clear n0_ n1_ n2_ n3_; obtain ⟨hcz_0, hcz_1, hcz_2, hcz_3, hcz_4, hfz_0, hfz_1, hfz_2, hfz_3, hfz_4⟩ := zc5 BW.out))
      obtain ⟨W, hW⟩ : ∃ W, W = ((((w2.setCell ⟨gw, 0, none⟩ (.int .i64 (rd_T80 l1 i).f0)).setCell ⟨gw, 1, none⟩ (.int .i64 (rd_T80 l1 i).f1)).setCell ⟨gw, 2, none⟩ (.int .i64 (rd_T80 l1 i).f2)).setCell ⟨gw, 3, none⟩ (.int .i64 (rd_T80 l1 i).f3)).setCell ⟨gw, 4, none⟩ (.int .i64 (rd_T80 l1 i).f4) := ⟨_, rfl⟩
      have n0_ : Aside0 (W.heap[g]? = some (.cells #[.int .i64 a0, .slice (some ad) l1.length c1, .slice (some ⟨go, 0, none⟩) n2 co] 87 (0, 0))) := ⟨by rw [hW]; exact blk_far (blk_far (blk_far (blk_far (blk_far BK.out NE.out _) NE.out _) NE.out _) NE.out _) NE.out _⟩
      have n1_ : Aside0 (Kd.R (Kd.int .i64) 3 W w0.heap.size (fun _ => True) (.slice (some ⟨go, 0, none⟩) n2 co) ys) := ⟨by rw [hW]; exact net_far5 HO.out BW.out (by decide) _ _ _ _ _⟩
      have n2_ : Aside0 (Below w0.heap.size w0 W) := ⟨by rw [hW]; exact below_set (below_set (below_set (below_set (below_set HB.out GW.out) GW.out) GW.out) GW.out) GW.out⟩
      have n3_ : Aside0 (KeepV w W (.slice (some ⟨go, 0, none⟩) n2 co)) := ⟨by rw [hW]; exact ((((HK.out.new GV.out _).new GV.out _).new GV.out _).new GV.out _).new GV.out _⟩
      have n4_ : Aside0 (W.heap[gw]? = some (.cells #[.int .i64 (rd_T80 l1 i).f0, .int .i64 (rd_T80 l1 i).f1, .int .i64 (rd_T80 l1 i).f2, .int .i64 (rd_T80 l1 i).f3, .int .i64 (rd_T80 l1 i).f4] 80 (0, 0))) := ⟨by rw [hW]; exact blk_put (blk_put (blk_put (blk_put (blk_put BW.out 0 _ rfl) 1 _ rfl) 2 _ rfl) 3 _ rfl) 4 _ rfl⟩
      rw [← hW]
      clear hW BK HO HB HK BW hcz_0 hcz_1 hcz_2 hcz_3 hcz_4 hfz_0 hfz_1 hfz_2 hfz_3 hfz_4 hx_0 hx_1 hx_2 hx_3 hx_4
      have BK := n0_
      have HO := n1_
      have HB := n2_
      have HK := n3_
      have BW := n4_
      clear n0_ n1_ n2_ n3_ n4_
      have HW1 := Aside0.mk (net_wrap HI.out.1.1 HQ.out HL.out)
      have HRS : Aside0 (frGo l1 b (l1.length - (i + 1).toNat) (i + 1) (frStep l1 b i ys) = R) := ⟨by have h := HR.out; rw [show l1.length - i.toNat = (l1.length - (i + 1).toNat) + 1 by have := HQ.out; have := HI.out; omega] at h; exact h⟩
      clear HR
      have HQ2 := Aside0.mk (show i < (n2 : Int) by have := HI.out; have := HN2.out; have := HQ.out; omega)
      have NGO := Aside0.mk (fun e_ => Kd.R_ne HO.out BK.out (by decide) (by rw [e_]; rfl) : g ≠ go)
      have NGW := Aside0.mk (fun e_ => Kd.R_ne HO.out BW.out (by decide) (by rw [e_]; rfl) : gw ≠ go)
      have GGO := Aside0.mk (own_base (Kd.R_own HO.out).choose_spec go rfl : w0.heap.size ≤ go)
      obtain ⟨hcz_0, hcz_1, hcz_2, hcz_3, hcz_4, hfz_0, hfz_1, hfz_2, hfz_3, hfz_4⟩ := zc5 BW.out
      have hck_2 : W.cell? ⟨g, 2, none⟩ = some (.slice (some ⟨go, 0, none⟩) n2 co) := (blk_cell BK.out 2).trans rfl
      obtain ⟨hcl, hfl⟩ := Kd.R_celln 0 HO.out i HI.out.1.1 HQ2.out
      by_cases ct : (rd_T80 l1 i).f1 = b
      · have t1 : ((rd_T80 l1 i).f1 == b) = true := beq_iff_eq.mpr ct
        go_wp2
        refine start_ (n := 12) (S := fun w' => w'.cell? ⟨g, 2, none⟩ = some (.slice (some ⟨go, 0, none⟩) n2 co) ∧ w'.cell? ⟨gw, 3, none⟩ = some (.int .i64 (rd_T80 l1 i).f3) ∧ w'.cell? ⟨go, i.toNat, none⟩ = some (.int .i64 (rd (ys) i))) (ds := [11]) #[false, false, false, false, false, false, false, false, false, false, false, false] (by kernel_rfl) rfl rfl ⟨hck_2, hcz_3, hcl⟩ (fun hHeld => ?_)
        refine pure_ (i := 0) (N := some 20) (v := ?_) (a' := ?_) #[true, false, false, false, false, false, false, false, false, false, false, false] rfl rfl (by kernel_rfl) (fun _ _ _ h => h) (Or.inl ⟨by rfl, ?_⟩) ?_ ?_
        rotate_left
        · intro w'
          go_simp
          with_reducible rfl
        rotate_left
        · simp only [Act.put, List.setIfInBounds_toArray, List.set_cons_zero, List.set_cons_succ, i64_w, i32_w]
          rfl
        refine pure_ (i := 1) (N := some 21) (v := ?_) (a' := ?_) #[true, true, false, false, false, false, false, false, false, false, false, false] rfl rfl (by kernel_rfl) (fun _ _ _ h => h) (Or.inl ⟨by rfl, ?_⟩) ?_ ?_
        rotate_left
        · intro w'
          go_simp
          with_reducible rfl
        rotate_left
        · simp only [Act.put, List.setIfInBounds_toArray, List.set_cons_zero, List.set_cons_succ, i64_w, i32_w]
          rfl
        refine pure_ (i := 2) (N := some 22) (v := ?_) (a' := ?_) #[true, true, true, false, false, false, false, false, false, false, false, false] rfl rfl (by kernel_rfl) (fun _ _ _ h => h) (Or.inl ⟨by rfl, ?_⟩) ?_ ?_
        rotate_left
        · intro w'
          go_simp
          with_reducible rfl
        rotate_left
        · simp only [Act.put, List.setIfInBounds_toArray, List.set_cons_zero, List.set_cons_succ, i64_w, i32_w]
          rfl
        refine pure_ (i := 4) (N := some 24) (v := ?_) (a' := ?_) #[true, true, true, false, true, false, false, false, false, false, false, false] rfl rfl (by kernel_rfl) (fun _ _ _ h => h) (Or.inl ⟨by rfl, ?_⟩) ?_ ?_
        rotate_left
        · intro w'
          go_simp
          with_reducible rfl
        rotate_left
        · simp only [Act.put, List.setIfInBounds_toArray, List.set_cons_zero, List.set_cons_succ, i64_w, i32_w]
          rfl
        refine pure_ (i := 7) (N := some 27) (v := ?_) (a' := ?_) #[true, true, true, false, true, false, false, true, false, false, false, false] rfl rfl (by kernel_rfl) (fun _ _ _ h => h) (Or.inl ⟨by rfl, ?_⟩) ?_ ?_
        rotate_left
        · intro w'
          go_simp
          with_reducible rfl
        rotate_left
        · simp only [Act.put, List.setIfInBounds_toArray, List.set_cons_zero, List.set_cons_succ, i64_w, i32_w]
          rfl
        refine take_ (i := 3) (N := some 23) (v := ?_) (a' := ?_) #[true, true, true, true, true, false, false, true, false, false, false, false] rfl rfl (by kernel_rfl) (fun _ _ _ h => h) (Or.inl ⟨by rfl, ?_⟩) hHeld ?_ ?_
        rotate_left
        · rintro w' ⟨s0, s1, s2⟩
          go_simp
          with_reducible rfl
        rotate_left
        · simp only [Act.put, List.setIfInBounds_toArray, List.set_cons_zero, List.set_cons_succ, i64_w, i32_w]
          rfl
        refine pure_ (i := 5) (N := some 25) (v := ?_) (a' := ?_) #[true, true, true, true, true, true, false, true, false, false, false, false] rfl rfl (by kernel_rfl) (fun _ _ _ h => h) (Or.inl ⟨by rfl, ?_⟩) ?_ ?_
        rotate_left
        · intro w'
          go_simp
          with_reducible rfl
        rotate_left
        · simp only [Act.put, List.setIfInBounds_toArray, List.set_cons_zero, List.set_cons_succ, i64_w, i32_w]
          rfl
        refine take_ (i := 6) (N := some 26) (v := ?_) (a' := ?_) #[true, true, true, true, true, true, true, true, false, false, false, false] rfl rfl (by kernel_rfl) (fun _ _ _ h => h) (Or.inl ⟨by rfl, ?_⟩) hHeld ?_ ?_
        rotate_left
        · rintro w' ⟨s0, s1, s2⟩
          go_simp
          with_reducible rfl
        rotate_left
        · simp only [Act.put, List.setIfInBounds_toArray, List.set_cons_zero, List.set_cons_succ, i64_w, i32_w]
          rfl
        refine take_ (i := 8) (N := some 28) (v := ?_) (a' := ?_) #[true, true, true, true, true, true, true, true, true, false, false, false] rfl rfl (by kernel_rfl) (fun _ _ _ h => h) (Or.inl ⟨by rfl, ?_⟩) hHeld ?_ ?_
        rotate_left
        · rintro w' ⟨s0, s1, s2⟩
          go_simp
          with_reducible rfl
        rotate_left
        · simp only [Act.put, List.setIfInBounds_toArray, List.set_cons_zero, List.set_cons_succ, i64_w, i32_w]
          rfl
        refine pure_ (i := 9) (N := some 29) (v := ?_) (a' := ?_) #[true, true, true, true, true, true, true, true, true, true, false, false] rfl rfl (by kernel_rfl) (fun _ _ _ h => h) (Or.inl ⟨by rfl, ?_⟩) ?_ ?_
        rotate_left
        · intro w'
          go_simp
          with_reducible rfl
        rotate_left
        · simp only [Act.put, List.setIfInBounds_toArray, List.set_cons_zero, List.set_cons_succ, i64_w, i32_w]
          rfl
        refine pure_ (i := 10) (N := some 30) (v := ?_) (a' := ?_) #[true, true, true, true, true, true, true, true, true, true, true, false] rfl rfl (by kernel_rfl) (fun _ _ _ h => h) (Or.inl ⟨by rfl, ?_⟩) ?_ ?_
        rotate_left
        · intro w'
          go_simp
          with_reducible rfl
        rotate_left
        · simp only [Act.put, List.setIfInBounds_toArray, List.set_cons_zero, List.set_cons_succ, i64_w, i32_w]
          rfl
        refine last_ (i := 11) (N := none) #[true, true, true, true, true, true, true, true, true, true, true, true] rfl rfl (by kernel_rfl) (by decide) (fun K hK => ?_)
        refine skip_ (w1 := ?_) (by rfl) rfl ?_ ?_
        rotate_left
        · go_simp
          rfl
        refine hK.out _ _ ?_
        clear hK K
        refine done_ (by kernel_rfl) ?_
        obtain ⟨W5, hW2⟩ : ∃ Z, Z = (W.setCell ⟨go, i.toNat, none⟩ (.int .i64 (wrap64 (rd ys i - (rd_T80 l1 i).f3)))).drew := ⟨_, rfl⟩
        have n0_ : Aside0 (W5.heap[g]? = some (.cells #[.int .i64 a0, .slice (some ad) l1.length c1, .slice (some ⟨go, 0, none⟩) n2 co] 87 (0, 0))) := ⟨by rw [hW2]; exact blk_drew (blk_far BK.out NGO.out _)⟩
        have n1_ : Aside0 (Kd.R (Kd.int .i64) 3 W5 w0.heap.size (fun _ => True) (.slice (some ⟨go, 0, none⟩) n2 co) (ys.set i.toNat (wrap64 (rd ys i - (rd_T80 l1 i).f3)))) := ⟨by rw [hW2]; exact Kd.R_drew (Kd.R_putn HO.out i _)⟩
        have n2_ : Aside0 (Below w0.heap.size w0 W5) := ⟨by rw [hW2]; exact below_drew1 (below_set HB.out GGO.out)⟩
        have n3_ : Aside0 (KeepV w W5 (.slice (some ⟨go, 0, none⟩) n2 co)) := ⟨by rw [hW2]; exact KeepV.drew (KeepV.own HK.out _ _)⟩
        have n4_ : Aside0 (W5.heap[gw]? = some (.cells #[.int .i64 (rd_T80 l1 i).f0, .int .i64 (rd_T80 l1 i).f1, .int .i64 (rd_T80 l1 i).f2, .int .i64 (rd_T80 l1 i).f3, .int .i64 (rd_T80 l1 i).f4] 80 (0, 0))) := ⟨by rw [hW2]; exact blk_drew (blk_far BW.out NGW.out _)⟩
        rw [← hW2]
        clear hW2 BK HO HB HK BW hcz_0 hcz_1 hcz_2 hcz_3 hcz_4 hfz_0 hfz_1 hfz_2 hfz_3 hfz_4 hck_2 hcl hfl
        have BK := n0_
        have HO := n1_
        have HB := n2_
        have HK := n3_
        have BW := n4_
        clear n0_ n1_ n2_ n3_ n4_
        obtain ⟨hcz_0, hcz_1, hcz_2, hcz_3, hcz_4, hfz_0, hfz_1, hfz_2, hfz_3, hfz_4⟩ := zc5 BW.out
        have hck_2 : W5.cell? ⟨g, 2, none⟩ = some (.slice (some ⟨go, 0, none⟩) n2 co) := (blk_cell BK.out 2).trans rfl
        obtain ⟨hcl, hfl⟩ := Kd.R_celln 0 HO.out i HI.out.1.1 HQ2.out
        by_cases cf : (rd_T80 l1 i).f0 = b
        · have t2 : ((rd_T80 l1 i).f0 == b) = true := beq_iff_eq.mpr cf
          have HRS := Aside0.mk ((show frStep l1 b i ys = (ys.set i.toNat (wrap64 (rd ys i - (rd_T80 l1 i).f3))).set i.toNat (wrap64 (rd (ys.set i.toNat (wrap64 (rd ys i - (rd_T80 l1 i).f3))) i + (rd_T80 l1 i).f2)) by unfold frStep; simp only [ct, cf, if_true, if_false]) ▸ HRS.out)
          have HYL := Aside0.mk (show ((ys.set i.toNat (wrap64 (rd ys i - (rd_T80 l1 i).f3))).set i.toNat (wrap64 (rd (ys.set i.toNat (wrap64 (rd ys i - (rd_T80 l1 i).f3))) i + (rd_T80 l1 i).f2))).length = l1.length by have := HI.out; first | exact this.2 | (simp; exact this.2))
          clear cf ct
          go_wp2
          refine start_ (n := 12) (S := fun w' => w'.cell? ⟨g, 2, none⟩ = some (.slice (some ⟨go, 0, none⟩) n2 co) ∧ w'.cell? ⟨gw, 2, none⟩ = some (.int .i64 (rd_T80 l1 i).f2) ∧ w'.cell? ⟨go, i.toNat, none⟩ = some (.int .i64 (rd (ys.set i.toNat (wrap64 (rd ys i - (rd_T80 l1 i).f3))) i))) (ds := [11]) #[false, false, false, false, false, false, false, false, false, false, false, false] (by kernel_rfl) rfl rfl ⟨hck_2, hcz_2, hcl⟩ (fun hHeld => ?_)
          refine pure_ (i := 0) (N := some 35) (v := ?_) (a' := ?_) #[true, false, false, false, false, false, false, false, false, false, false, false] rfl rfl (by kernel_rfl) (fun _ _ _ h => h) (Or.inl ⟨by rfl, ?_⟩) ?_ ?_
          rotate_left
          · intro w'
            go_simp
            with_reducible rfl
          rotate_left
          · simp only [Act.put, List.setIfInBounds_toArray, List.set_cons_zero, List.set_cons_succ, i64_w, i32_w]
            rfl
          refine pure_ (i := 1) (N := some 36) (v := ?_) (a' := ?_) #[true, true, false, false, false, false, false, false, false, false, false, false] rfl rfl (by kernel_rfl) (fun _ _ _ h => h) (Or.inl ⟨by rfl, ?_⟩) ?_ ?_
          rotate_left
          · intro w'
            go_simp
            with_reducible rfl
          rotate_left
          · simp only [Act.put, List.setIfInBounds_toArray, List.set_cons_zero, List.set_cons_succ, i64_w, i32_w]
            rfl
          refine pure_ (i := 2) (N := some 37) (v := ?_) (a' := ?_) #[true, true, true, false, false, false, false, false, false, false, false, false] rfl rfl (by kernel_rfl) (fun _ _ _ h => h) (Or.inl ⟨by rfl, ?_⟩) ?_ ?_
          rotate_left
          · intro w'
            go_simp
            with_reducible rfl
          rotate_left
          · simp only [Act.put, List.setIfInBounds_toArray, List.set_cons_zero, List.set_cons_succ, i64_w, i32_w]
            rfl
          refine pure_ (i := 4) (N := some 39) (v := ?_) (a' := ?_) #[true, true, true, false, true, false, false, false, false, false, false, false] rfl rfl (by kernel_rfl) (fun _ _ _ h => h) (Or.inl ⟨by rfl, ?_⟩) ?_ ?_
          rotate_left
          · intro w'
            go_simp
            with_reducible rfl
          rotate_left
          · simp only [Act.put, List.setIfInBounds_toArray, List.set_cons_zero, List.set_cons_succ, i64_w, i32_w]
            rfl
          refine pure_ (i := 7) (N := some 42) (v := ?_) (a' := ?_) #[true, true, true, false, true, false, false, true, false, false, false, false] rfl rfl (by kernel_rfl) (fun _ _ _ h => h) (Or.inl ⟨by rfl, ?_⟩) ?_ ?_
          rotate_left
          · intro w'
            go_simp
            with_reducible rfl
          rotate_left
          · simp only [Act.put, List.setIfInBounds_toArray, List.set_cons_zero, List.set_cons_succ, i64_w, i32_w]
            rfl
          refine take_ (i := 3) (N := some 38) (v := ?_) (a' := ?_) #[true, true, true, true, true, false, false, true, false, false, false, false] rfl rfl (by kernel_rfl) (fun _ _ _ h => h) (Or.inl ⟨by rfl, ?_⟩) hHeld ?_ ?_
          rotate_left
          · rintro w' ⟨s0, s1, s2⟩
            go_simp
            with_reducible rfl
          rotate_left
          · simp only [Act.put, List.setIfInBounds_toArray, List.set_cons_zero, List.set_cons_succ, i64_w, i32_w]
            rfl
          refine pure_ (i := 5) (N := some 40) (v := ?_) (a' := ?_) #[true, true, true, true, true, true, false, true, false, false, false, false] rfl rfl (by kernel_rfl) (fun _ _ _ h => h) (Or.inl ⟨by rfl, ?_⟩) ?_ ?_
          rotate_left
          · intro w'
            go_simp
            with_reducible rfl
          rotate_left
          · simp only [Act.put, List.setIfInBounds_toArray, List.set_cons_zero, List.set_cons_succ, i64_w, i32_w]
            rfl
          refine take_ (i := 6) (N := some 41) (v := ?_) (a' := ?_) #[true, true, true, true, true, true, true, true, false, false, false, false] rfl rfl (by kernel_rfl) (fun _ _ _ h => h) (Or.inl ⟨by rfl, ?_⟩) hHeld ?_ ?_
          rotate_left
          · rintro w' ⟨s0, s1, s2⟩
            go_simp
            with_reducible rfl
          rotate_left
          · simp only [Act.put, List.setIfInBounds_toArray, List.set_cons_zero, List.set_cons_succ, i64_w, i32_w]
            rfl
          refine take_ (i := 8) (N := some 43) (v := ?_) (a' := ?_) #[true, true, true, true, true, true, true, true, true, false, false, false] rfl rfl (by kernel_rfl) (fun _ _ _ h => h) (Or.inl ⟨by rfl, ?_⟩) hHeld ?_ ?_
          rotate_left
          · rintro w' ⟨s0, s1, s2⟩
            go_simp
            with_reducible rfl
          rotate_left
          · simp only [Act.put, List.setIfInBounds_toArray, List.set_cons_zero, List.set_cons_succ, i64_w, i32_w]
            rfl
          refine pure_ (i := 9) (N := some 44) (v := ?_) (a' := ?_) #[true, true, true, true, true, true, true, true, true, true, false, false] rfl rfl (by kernel_rfl) (fun _ _ _ h => h) (Or.inl ⟨by rfl, ?_⟩) ?_ ?_
          rotate_left
          · intro w'
            go_simp
            with_reducible rfl
          rotate_left
          · simp only [Act.put, List.setIfInBounds_toArray, List.set_cons_zero, List.set_cons_succ, i64_w, i32_w]
            rfl
          refine pure_ (i := 10) (N := some 45) (v := ?_) (a' := ?_) #[true, true, true, true, true, true, true, true, true, true, true, false] rfl rfl (by kernel_rfl) (fun _ _ _ h => h) (Or.inl ⟨by rfl, ?_⟩) ?_ ?_
          rotate_left
          · intro w'
            go_simp
            with_reducible rfl
          rotate_left
          · simp only [Act.put, List.setIfInBounds_toArray, List.set_cons_zero, List.set_cons_succ, i64_w, i32_w]
            rfl
          refine last_ (i := 11) (N := none) #[true, true, true, true, true, true, true, true, true, true, true, true] rfl rfl (by kernel_rfl) (by decide) (fun K hK => ?_)
          refine skip_ (w1 := ?_) (by rfl) rfl ?_ ?_
          rotate_left
          · go_simp
            rfl
          refine hK.out _ _ ?_
          clear hK K
          refine done_ (by kernel_rfl) ?_
          obtain ⟨W9, hW2⟩ : ∃ Z, Z = (W5.setCell ⟨go, i.toNat, none⟩ (.int .i64 (wrap64 (rd (ys.set i.toNat (wrap64 (rd ys i - (rd_T80 l1 i).f3))) i + (rd_T80 l1 i).f2)))).drew := ⟨_, rfl⟩
          have n0_ : Aside0 (W9.heap[g]? = some (.cells #[.int .i64 a0, .slice (some ad) l1.length c1, .slice (some ⟨go, 0, none⟩) n2 co] 87 (0, 0))) := ⟨by rw [hW2]; exact blk_drew (blk_far BK.out NGO.out _)⟩
          have n1_ : Aside0 (Kd.R (Kd.int .i64) 3 W9 w0.heap.size (fun _ => True) (.slice (some ⟨go, 0, none⟩) n2 co) ((ys.set i.toNat (wrap64 (rd ys i - (rd_T80 l1 i).f3))).set i.toNat (wrap64 (rd (ys.set i.toNat (wrap64 (rd ys i - (rd_T80 l1 i).f3))) i + (rd_T80 l1 i).f2)))) := ⟨by rw [hW2]; exact Kd.R_drew (Kd.R_putn HO.out i _)⟩
          have n2_ : Aside0 (Below w0.heap.size w0 W9) := ⟨by rw [hW2]; exact below_drew1 (below_set HB.out GGO.out)⟩
          have n3_ : Aside0 (KeepV w W9 (.slice (some ⟨go, 0, none⟩) n2 co)) := ⟨by rw [hW2]; exact KeepV.drew (KeepV.own HK.out _ _)⟩
          have n4_ : Aside0 (W9.heap[gw]? = some (.cells #[.int .i64 (rd_T80 l1 i).f0, .int .i64 (rd_T80 l1 i).f1, .int .i64 (rd_T80 l1 i).f2, .int .i64 (rd_T80 l1 i).f3, .int .i64 (rd_T80 l1 i).f4] 80 (0, 0))) := ⟨by rw [hW2]; exact blk_drew (blk_far BW.out NGW.out _)⟩
          rw [← hW2]
          clear hW2 BK HO HB HK BW hcz_0 hcz_1 hcz_2 hcz_3 hcz_4 hfz_0 hfz_1 hfz_2 hfz_3 hfz_4 hck_2 hcl hfl
          have BK := n0_
          have HO := n1_
          have HB := n2_
          have HK := n3_
          have BW := n4_
          clear n0_ n1_ n2_ n3_ n4_
          go_wp2
          go_roundw
          case rel => exact ⟨i + 1, _, by rw [HW1.out], ⟨⟨by have := HQ.out; have := HI.out; omega, HYL.out⟩⟩, HRS, BK, HO, HB, HK⟩
          case measure => have := HQ.out; have := HI.out; rw [HW1.out]; simp; omega
        · have t2 : ((rd_T80 l1 i).f0 == b) = false := beq_eq_false_iff_ne.mpr cf
          have HRS := Aside0.mk ((show frStep l1 b i ys = ys.set i.toNat (wrap64 (rd ys i - (rd_T80 l1 i).f3)) by unfold frStep; simp only [ct, cf, if_true, if_false]) ▸ HRS.out)
          have HYL := Aside0.mk (show (ys.set i.toNat (wrap64 (rd ys i - (rd_T80 l1 i).f3))).length = l1.length by have := HI.out; first | exact this.2 | (simp; exact this.2))
          clear cf ct
          go_wp2
          go_roundw
          case rel => exact ⟨i + 1, _, by rw [HW1.out], ⟨⟨by have := HQ.out; have := HI.out; omega, HYL.out⟩⟩, HRS, BK, HO, HB, HK⟩
          case measure => have := HQ.out; have := HI.out; rw [HW1.out]; simp; omega
      · have t1 : ((rd_T80 l1 i).f1 == b) = false := beq_eq_false_iff_ne.mpr ct
        by_cases cf : (rd_T80 l1 i).f0 = b
        · have t2 : ((rd_T80 l1 i).f0 == b) = true := beq_iff_eq.mpr cf
          have HRS := Aside0.mk ((show frStep l1 b i ys = (ys).set i.toNat (wrap64 (rd (ys) i + (rd_T80 l1 i).f2)) by unfold frStep; simp only [ct, cf, if_true, if_false]) ▸ HRS.out)
          have HYL := Aside0.mk (show ((ys).set i.toNat (wrap64 (rd (ys) i + (rd_T80 l1 i).f2))).length = l1.length by have := HI.out; first | exact this.2 | (simp; exact this.2))
          clear cf ct
          go_wp2
          refine start_ (n := 12) (S := fun w' => w'.cell? ⟨g, 2, none⟩ = some (.slice (some ⟨go, 0, none⟩) n2 co) ∧ w'.cell? ⟨gw, 2, none⟩ = some (.int .i64 (rd_T80 l1 i).f2) ∧ w'.cell? ⟨go, i.toNat, none⟩ = some (.int .i64 (rd (ys) i))) (ds := [11]) #[false, false, false, false, false, false, false, false, false, false, false, false] (by kernel_rfl) rfl rfl ⟨hck_2, hcz_2, hcl⟩ (fun hHeld => ?_)
          refine pure_ (i := 0) (N := some 35) (v := ?_) (a' := ?_) #[true, false, false, false, false, false, false, false, false, false, false, false] rfl rfl (by kernel_rfl) (fun _ _ _ h => h) (Or.inl ⟨by rfl, ?_⟩) ?_ ?_
          rotate_left
          · intro w'
            go_simp
            with_reducible rfl
          rotate_left
          · simp only [Act.put, List.setIfInBounds_toArray, List.set_cons_zero, List.set_cons_succ, i64_w, i32_w]
            rfl
          refine pure_ (i := 1) (N := some 36) (v := ?_) (a' := ?_) #[true, true, false, false, false, false, false, false, false, false, false, false] rfl rfl (by kernel_rfl) (fun _ _ _ h => h) (Or.inl ⟨by rfl, ?_⟩) ?_ ?_
          rotate_left
          · intro w'
            go_simp
            with_reducible rfl
          rotate_left
          · simp only [Act.put, List.setIfInBounds_toArray, List.set_cons_zero, List.set_cons_succ, i64_w, i32_w]
            rfl
          refine pure_ (i := 2) (N := some 37) (v := ?_) (a' := ?_) #[true, true, true, false, false, false, false, false, false, false, false, false] rfl rfl (by kernel_rfl) (fun _ _ _ h => h) (Or.inl ⟨by rfl, ?_⟩) ?_ ?_
          rotate_left
          · intro w'
            go_simp
            with_reducible rfl
          rotate_left
          · simp only [Act.put, List.setIfInBounds_toArray, List.set_cons_zero, List.set_cons_succ, i64_w, i32_w]
            rfl
          refine pure_ (i := 4) (N := some 39) (v := ?_) (a' := ?_) #[true, true, true, false, true, false, false, false, false, false, false, false] rfl rfl (by kernel_rfl) (fun _ _ _ h => h) (Or.inl ⟨by rfl, ?_⟩) ?_ ?_
          rotate_left
          · intro w'
            go_simp
            with_reducible rfl
          rotate_left
          · simp only [Act.put, List.setIfInBounds_toArray, List.set_cons_zero, List.set_cons_succ, i64_w, i32_w]
            rfl
          refine pure_ (i := 7) (N := some 42) (v := ?_) (a' := ?_) #[true, true, true, false, true, false, false, true, false, false, false, false] rfl rfl (by kernel_rfl) (fun _ _ _ h => h) (Or.inl ⟨by rfl, ?_⟩) ?_ ?_
          rotate_left
          · intro w'
            go_simp
            with_reducible rfl
          rotate_left
          · simp only [Act.put, List.setIfInBounds_toArray, List.set_cons_zero, List.set_cons_succ, i64_w, i32_w]
            rfl
          refine take_ (i := 3) (N := some 38) (v := ?_) (a' := ?_) #[true, true, true, true, true, false, false, true, false, false, false, false] rfl rfl (by kernel_rfl) (fun _ _ _ h => h) (Or.inl ⟨by rfl, ?_⟩) hHeld ?_ ?_
          rotate_left
          · rintro w' ⟨s0, s1, s2⟩
            go_simp
            with_reducible rfl
          rotate_left
          · simp only [Act.put, List.setIfInBounds_toArray, List.set_cons_zero, List.set_cons_succ, i64_w, i32_w]
            rfl
          refine pure_ (i := 5) (N := some 40) (v := ?_) (a' := ?_) #[true, true, true, true, true, true, false, true, false, false, false, false] rfl rfl (by kernel_rfl) (fun _ _ _ h => h) (Or.inl ⟨by rfl, ?_⟩) ?_ ?_
          rotate_left
          · intro w'
            go_simp
            with_reducible rfl
          rotate_left
          · simp only [Act.put, List.setIfInBounds_toArray, List.set_cons_zero, List.set_cons_succ, i64_w, i32_w]
            rfl
          refine take_ (i := 6) (N := some 41) (v := ?_) (a' := ?_) #[true, true, true, true, true, true, true, true, false, false, false, false] rfl rfl (by kernel_rfl) (fun _ _ _ h => h) (Or.inl ⟨by rfl, ?_⟩) hHeld ?_ ?_
          rotate_left
          · rintro w' ⟨s0, s1, s2⟩
            go_simp
            with_reducible rfl
          rotate_left
          · simp only [Act.put, List.setIfInBounds_toArray, List.set_cons_zero, List.set_cons_succ, i64_w, i32_w]
            rfl
          refine take_ (i := 8) (N := some 43) (v := ?_) (a' := ?_) #[true, true, true, true, true, true, true, true, true, false, false, false] rfl rfl (by kernel_rfl) (fun _ _ _ h => h) (Or.inl ⟨by rfl, ?_⟩) hHeld ?_ ?_
          rotate_left
          · rintro w' ⟨s0, s1, s2⟩
            go_simp
            with_reducible rfl
          rotate_left
          · simp only [Act.put, List.setIfInBounds_toArray, List.set_cons_zero, List.set_cons_succ, i64_w, i32_w]
            rfl
          refine pure_ (i := 9) (N := some 44) (v := ?_) (a' := ?_) #[true, true, true, true, true, true, true, true, true, true, false, false] rfl rfl (by kernel_rfl) (fun _ _ _ h => h) (Or.inl ⟨by rfl, ?_⟩) ?_ ?_
          rotate_left
          · intro w'
            go_simp
            with_reducible rfl
          rotate_left
          · simp only [Act.put, List.setIfInBounds_toArray, List.set_cons_zero, List.set_cons_succ, i64_w, i32_w]
            rfl
          refine pure_ (i := 10) (N := some 45) (v := ?_) (a' := ?_) #[true, true, true, true, true, true, true, true, true, true, true, false] rfl rfl (by kernel_rfl) (fun _ _ _ h => h) (Or.inl ⟨by rfl, ?_⟩) ?_ ?_
          rotate_left
          · intro w'
            go_simp
            with_reducible rfl
          rotate_left
          · simp only [Act.put, List.setIfInBounds_toArray, List.set_cons_zero, List.set_cons_succ, i64_w, i32_w]
            rfl
          refine last_ (i := 11) (N := none) #[true, true, true, true, true, true, true, true, true, true, true, true] rfl rfl (by kernel_rfl) (by decide) (fun K hK => ?_)
          refine skip_ (w1 := ?_) (by rfl) rfl ?_ ?_
          rotate_left
          · go_simp
            rfl
          refine hK.out _ _ ?_
          clear hK K
          refine done_ (by kernel_rfl) ?_
          obtain ⟨W9, hW2⟩ : ∃ Z, Z = (W.setCell ⟨go, i.toNat, none⟩ (.int .i64 (wrap64 (rd (ys) i + (rd_T80 l1 i).f2)))).drew := ⟨_, rfl⟩
          have n0_ : Aside0 (W9.heap[g]? = some (.cells #[.int .i64 a0, .slice (some ad) l1.length c1, .slice (some ⟨go, 0, none⟩) n2 co] 87 (0, 0))) := ⟨by rw [hW2]; exact blk_drew (blk_far BK.out NGO.out _)⟩
          have n1_ : Aside0 (Kd.R (Kd.int .i64) 3 W9 w0.heap.size (fun _ => True) (.slice (some ⟨go, 0, none⟩) n2 co) ((ys).set i.toNat (wrap64 (rd (ys) i + (rd_T80 l1 i).f2)))) := ⟨by rw [hW2]; exact Kd.R_drew (Kd.R_putn HO.out i _)⟩
          have n2_ : Aside0 (Below w0.heap.size w0 W9) := ⟨by rw [hW2]; exact below_drew1 (below_set HB.out GGO.out)⟩
          have n3_ : Aside0 (KeepV w W9 (.slice (some ⟨go, 0, none⟩) n2 co)) := ⟨by rw [hW2]; exact KeepV.drew (KeepV.own HK.out _ _)⟩
          have n4_ : Aside0 (W9.heap[gw]? = some (.cells #[.int .i64 (rd_T80 l1 i).f0, .int .i64 (rd_T80 l1 i).f1, .int .i64 (rd_T80 l1 i).f2, .int .i64 (rd_T80 l1 i).f3, .int .i64 (rd_T80 l1 i).f4] 80 (0, 0))) := ⟨by rw [hW2]; exact blk_drew (blk_far BW.out NGW.out _)⟩
          rw [← hW2]
          clear hW2 BK HO HB HK BW hcz_0 hcz_1 hcz_2 hcz_3 hcz_4 hfz_0 hfz_1 hfz_2 hfz_3 hfz_4 hck_2 hcl hfl
          have BK := n0_
          have HO := n1_
          have HB := n2_
          have HK := n3_
          have BW := n4_
          clear n0_ n1_ n2_ n3_ n4_
          go_wp2
          go_roundw
          case rel => exact ⟨i + 1, _, by rw [HW1.out], ⟨⟨by have := HQ.out; have := HI.out; omega, HYL.out⟩⟩, HRS, BK, HO, HB, HK⟩
          case measure => have := HQ.out; have := HI.out; rw [HW1.out]; simp; omega
        · have t2 : ((rd_T80 l1 i).f0 == b) = false := beq_eq_false_iff_ne.mpr cf
          have HRS := Aside0.mk ((show frStep l1 b i ys = ys by unfold frStep; simp only [ct, cf, if_true, if_false]) ▸ HRS.out)
          have HYL := Aside0.mk (show (ys).length = l1.length by have := HI.out; first | exact this.2 | (simp; exact this.2))
          clear cf ct
          go_wp2
          go_roundw
          case rel => exact ⟨i + 1, _, by rw [HW1.out], ⟨⟨by have := HQ.out; have := HI.out; omega, HYL.out⟩⟩, HRS, BK, HO, HB, HK⟩
          case measure => have := HQ.out; have := HI.out; rw [HW1.out]; simp; omega
    · have hlt : decide (i < (l1.length : Int)) = false := decide_eq_false hi
      have HQ := Aside0.mk hi
      clear hi
      go_wp2
      go_end0
      have e : frGo l1 b (l1.length - i.toNat) i ys = ys := by rw [show l1.length - i.toNat = 0 by have := HI.out; have := HQ.out; omega]; rfl
      have e2 := HR.out
      rw [e] at e2
      exact ⟨rfl, BK.out, e2 ▸ HO.out, HB.out, HK.out⟩
mutual
def impl_net_can.j0 : Nat → Int → Bool → Int → List (S80) → List Int → Option (Bool)
  | 0, _, _, _, _, _ => none
  | k + 1, x1, x16, x176000, x176001, x176002 => if x16 = true then (some false) else (impl_net_can.l0 k x1 x176001 (x176001.length : Int) 0 x176000 x176001 x176002)
def impl_net_can.l0 : Nat → Int → List (S80) → Int → Int → Int → List (S80) → List Int → Option (Bool)
  | 0, _, _, _, _, _, _, _ => none
  | k + 1, x1, x20, x21, x22, x176000, x176001, x176002 => if x22 < x21 then (if 0 ≤ x22 then (if x22 < (x20.length : Int) then (if ((rd_T80 x20 x22).f1) = x1 then (if x22 < (x176002.length : Int) then (if (rd x176002 x22) < ((rd_T80 x20 x22).f3) then (some false) else (impl_net_can.l0 k x1 x20 x21 (wrap64 (x22 + 1)) x176000 x176001 x176002)) else (none)) else (impl_net_can.l0 k x1 x20 x21 (wrap64 (x22 + 1)) x176000 x176001 x176002)) else (none)) else (none)) else (some true)
end
def impl_net_can.f (k : Nat) (a0_0 : Int) (l0_1 : List (S80)) (l0_2 : List Int) (a1 : Int) : Option (Bool) := if a1 < 0 then (impl_net_can.j0 k a1 true a0_0 l0_1 l0_2) else (impl_net_can.j0 k a1 (decide (a1 ≥ a0_0)) a0_0 l0_1 l0_2)
theorem impl_net_can.mono_l : ∀ k, (∀ y0 y1 y2 y3 y4, LeO (impl_net_can.j0 k y0 y1 y2 y3 y4) (impl_net_can.j0 (k + 1) y0 y1 y2 y3 y4)) ∧ (∀ y0 y1 y2 y3 y4 y5 y6, LeO (impl_net_can.l0 k y0 y1 y2 y3 y4 y5 y6) (impl_net_can.l0 (k + 1) y0 y1 y2 y3 y4 y5 y6))
  | 0 => ⟨fun _ _ _ _ _ r h => by simp [impl_net_can.j0] at h, fun _ _ _ _ _ _ _ r h => by simp [impl_net_can.l0] at h⟩
  | k + 1 => by
    obtain ⟨ih0, ih1⟩ := impl_net_can.mono_l k
    refine ⟨?_, ?_⟩
    · intro y0 y1 y2 y3 y4
      unfold impl_net_can.j0
      repeat' first
      | (with_reducible exact ih0 _ _ _ _ _)
      | (with_reducible exact ih1 _ _ _ _ _ _ _)
      | (with_reducible exact LeO.refl _)
      | (with_reducible exact LeO.none _)
      | (with_reducible refine LeO.ite ?_ ?_)
      | (with_reducible refine LeO.bind ?_ (fun _ => ?_))
      | exact ih0 _ _ _ _ _
      | exact ih1 _ _ _ _ _ _ _
      | exact LeO.none _
      | refine LeO.ite ?_ ?_
      | refine LeO.bind ?_ (fun _ => ?_)
    · intro y0 y1 y2 y3 y4 y5 y6
      unfold impl_net_can.l0
      repeat' first
      | (with_reducible exact ih0 _ _ _ _ _)
      | (with_reducible exact ih1 _ _ _ _ _ _ _)
      | (with_reducible exact LeO.refl _)
      | (with_reducible exact LeO.none _)
      | (with_reducible refine LeO.ite ?_ ?_)
      | (with_reducible refine LeO.bind ?_ (fun _ => ?_))
      | exact ih0 _ _ _ _ _
      | exact ih1 _ _ _ _ _ _ _
      | exact LeO.none _
      | refine LeO.ite ?_ ?_
      | refine LeO.bind ?_ (fun _ => ?_)
theorem impl_net_can.mono : ∀ a0 a1 a2 a3 k, LeO (impl_net_can.f k a0 a1 a2 a3) (impl_net_can.f (k + 1) a0 a1 a2 a3) := by
  intro a0 a1 a2 a3 k
  obtain ⟨ih0, ih1⟩ := impl_net_can.mono_l k
  unfold impl_net_can.f
  repeat' first
      | (with_reducible exact ih0 _ _ _ _ _)
      | (with_reducible exact ih1 _ _ _ _ _ _ _)
      | (with_reducible exact LeO.refl _)
      | (with_reducible exact LeO.none _)
      | (with_reducible refine LeO.ite ?_ ?_)
      | (with_reducible refine LeO.bind ?_ (fun _ => ?_))
      | exact ih0 _ _ _ _ _
      | exact ih1 _ _ _ _ _ _ _
      | exact LeO.none _
      | refine LeO.ite ?_ ?_
      | refine LeO.bind ?_ (fun _ => ?_)
set_option maxHeartbeats 8000000 in
set_option maxRecDepth 100000 in
theorem impl_net_can.calls (k : Nat) (a0_0 : Int) (A0_1 : Option Addr) (c0_1 : Nat) (l0_1 : List (S80)) (A0_2 : Option Addr) (c0_2 : Nat) (l0_2 : List Int) (a1 : Int) (r : Bool) (gb175 : Nat) (w : World) (hbk : w.heap[gb175]? = some (.cells #[.int .i64 a0_0, .slice A0_1 l0_1.length c0_1, .slice A0_2 l0_2.length c0_2] 87 (0, 0))) (hr0_1 : Kd.C k80 w A0_1 l0_1.length l0_1) (hc0_1 : l0_1.length ≤ c0_1) (hr0_2 : Kd.C (Kd.int .i64) w A0_2 l0_2.length l0_2) (hc0_2 : l0_2.length ≤ c0_2) (h : impl_net_can.f k a0_0 l0_1 l0_2 a1 = some r) :
    Calls Try.prog 54 #[.pointer (some ⟨gb175, 0, none⟩), .int .i64 a1] w fun e w' => e = .returned (.bool r) ∧ Below w.heap.size w w' := by
  have hu87 := Try.underlying87
  have hu80 := Try.underlying80
  have HR0_1 := Aside0.mk hr0_1
  have HC0_1 := Aside0.mk hc0_1
  clear hr0_1 hc0_1
  have HR0_2 := Aside0.mk hr0_2
  have HC0_2 := Aside0.mk hc0_2
  clear hr0_2 hc0_2
  have HB := Aside0.mk (Below.refl w.heap.size w)
  have H : (if a1 < 0 then (impl_net_can.j0 k a1 true a0_0 l0_1 l0_2) else (impl_net_can.j0 k a1 (decide (a1 ≥ a0_0)) a0_0 l0_1 l0_2)) = some r := h
  clear h
  have HC3 := Aside0.mk H
  clear H
  go_enter Try.func54, Try.ntmps54
  have BK175 := Aside0.mk hbk
  go_upto_region 1 with (fail)
  (try simp only [Act.put, List.setIfInBounds_toArray, List.set_cons_zero, List.set_cons_succ])
  go_cut [16] (fun v16 wc => ∃ (kq : Nat) (x16_2 : Bool), v16 = .bool x16_2 ∧ Aside0 (impl_net_can.j0 kq a1 x16_2 a0_0 l0_1 l0_2 = some r) ∧ Aside0 (kq ≤ k) ∧ Aside0 (wc.heap[gb175]? = some (.cells #[.int .i64 a0_0, (.slice A0_1 l0_1.length c0_1), (.slice A0_2 l0_2.length c0_2)] 87 (0, 0))) ∧ Aside0 (Below w.heap.size w wc))
  case first =>
    have H := HC3.out
    clear HC3
    by_cases c5 : a1 < 0
    · rw [if_pos c5] at H
      have c5b0 : decide (a1 < 0) = true := decide_eq_true c5
      clear c5
      (first | rw [c5b0] | (simp only [i64_w, i32_w]; rw [c5b0]) | skip)
      have H' := Aside0.mk H
      clear H
      go_wp2
      repeat (go_quiet (fail); try go_wp2)
      go_meet
      case rel => exact ⟨_, (true), (by first | rfl | (simp; done) | (simp [*]; done)), H', ⟨by first | omega | exact Nat.le_refl _⟩, ⟨by (with_reducible repeat (first | refine blk_drewN ?_ _ | refine blk_drew ?_ | refine blk_alloc ?_ _)); exact BK175.out⟩, ⟨by repeat (first | (with_reducible first | exact HB.out | apply below_alloc | apply pw_below_drewN | apply below_drew1 | refine below_set ?_ GE175.out) | exact HB.out)⟩⟩
    · rw [if_neg c5] at H
      have c5b0 : decide (a1 < 0) = false := decide_eq_false c5
      clear c5
      (first | rw [c5b0] | (simp only [i64_w, i32_w]; rw [c5b0]) | skip)
      have H' := Aside0.mk H
      clear H
      have hcz6_0 : w.cell? ⟨gb175, 0, none⟩ = some (.int .i64 a0_0) := (blk_cell BK175.out 0).trans rfl
      have hcz6_1 : w.cell? ⟨gb175, 1, none⟩ = some (.slice A0_1 l0_1.length c0_1) := (blk_cell BK175.out 1).trans rfl
      have hcz6_2 : w.cell? ⟨gb175, 2, none⟩ = some (.slice A0_2 l0_2.length c0_2) := (blk_cell BK175.out 2).trans rfl
      have hfz6_0 := blk_frozen BK175.out 0
      have hfz6_1 := blk_frozen BK175.out 1
      have hfz6_2 := blk_frozen BK175.out 2
      go_wp2
      repeat (go_quiet (fail); try go_wp2)
      go_meet
      case rel => exact ⟨_, (decide (a1 ≥ a0_0)), (by first | rfl | (simp; done) | (simp [*]; done)), H', ⟨by first | omega | exact Nat.le_refl _⟩, ⟨by (with_reducible repeat (first | refine blk_drewN ?_ _ | refine blk_drew ?_ | refine blk_alloc ?_ _)); exact BK175.out⟩, ⟨by repeat (first | (with_reducible first | exact HB.out | apply below_alloc | apply pw_below_drewN | apply below_drew1 | refine below_set ?_ GE175.out) | exact HB.out)⟩⟩
  case rest =>
    clear HC3
    try clear p2
    try clear c5
    try clear c5b0
    try clear hcz6_0
    try clear hcz6_1
    try clear hcz6_2
    try clear hfz6_0
    try clear hfz6_1
    try clear hfz6_2
    obtain ⟨kq, x16_2, rfl, HA, HJ2, BK175, HB⟩ := hcut
    cases kq with
    | zero => exact absurd HA.out (by simp [impl_net_can.j0])
    | succ kj2 =>
      have H := HA.out
      clear HA
      simp only [impl_net_can.j0] at H
      by_cases c7 : x16_2 = true
      · subst c7
        have H1 : (some false) = some r := by rw [if_pos rfl] at H; exact H
        clear H
        have H := H1
        clear H1
        obtain rfl := Option.some.inj H
        go_wp2
        repeat (go_quiet (fail); try go_wp2)
        go_ret
        exact ⟨by first | rfl | (simp [errW_none, errW_some] <;> rfl) | (simp [*, errW_none, errW_some] <;> rfl), by repeat (first | (with_reducible first | exact HB.out | apply below_alloc | apply pw_below_drewN | apply below_drew1 | refine below_set ?_ GE175.out) | exact HB.out)⟩
      · replace c7 := Bool.eq_false_iff.mpr c7
        subst c7
        have H1 : (impl_net_can.l0 kj2 a1 l0_1 (l0_1.length : Int) 0 a0_0 l0_1 l0_2) = some r := by rw [if_neg (show ¬ (false = true) by decide)] at H; exact H
        clear H
        have H := H1
        clear H1
        have H' := Aside0.mk H
        clear H
        have hcz8_0 : wc.cell? ⟨gb175, 0, none⟩ = some (.int .i64 a0_0) := (blk_cell BK175.out 0).trans rfl
        have hcz8_1 : wc.cell? ⟨gb175, 1, none⟩ = some (.slice A0_1 l0_1.length c0_1) := (blk_cell BK175.out 1).trans rfl
        have hcz8_2 : wc.cell? ⟨gb175, 2, none⟩ = some (.slice A0_2 l0_2.length c0_2) := (blk_cell BK175.out 2).trans rfl
        have hfz8_0 := blk_frozen BK175.out 0
        have hfz8_1 := blk_frozen BK175.out 1
        have hfz8_2 := blk_frozen BK175.out 2
        go_wp2
        repeat (go_quiet (fail); try go_wp2)
        (try simp only [Act.put, List.setIfInBounds_toArray, List.set_cons_zero, List.set_cons_succ])
        go_loopg [22] kj2 (fun kq v22 w' => ∃ (x22_2 : Int), v22 = .int .i64 x22_2 ∧ Aside0 (impl_net_can.l0 kq a1 l0_1 (l0_1.length : Int) x22_2 a0_0 l0_1 l0_2 = some r) ∧ Aside0 (kq ≤ kj2) ∧ Aside0 (w'.heap[gb175]? = some (.cells #[.int .i64 a0_0, (.slice A0_1 l0_1.length c0_1), (.slice A0_2 l0_2.length c0_2)] 87 (0, 0))) ∧ Aside0 (Below w.heap.size w w'))
        case atStart => exact ⟨(0), (by first | rfl | (simp; done) | (simp [*]; done)), H', ⟨Nat.le_refl _⟩, ⟨by (with_reducible repeat (first | refine blk_drewN ?_ _ | refine blk_drew ?_ | refine blk_alloc ?_ _)); exact BK175.out⟩, ⟨by repeat (first | (with_reducible first | exact HB.out | apply below_alloc | apply pw_below_drewN | apply below_drew1 | refine below_set ?_ GE175.out) | exact HB.out)⟩⟩
        case round =>
          clear H'
          try clear p2
          try clear c5
          try clear c5b0
          try clear c7
          try clear hcz6_0
          try clear hcz6_1
          try clear hcz6_2
          try clear hcz8_0
          try clear hcz8_1
          try clear hcz8_2
          try clear hfz6_0
          try clear hfz6_1
          try clear hfz6_2
          try clear hfz8_0
          try clear hfz8_1
          try clear hfz8_2
          try clear p2
          obtain ⟨x22_2, rfl, HA, HK2, BK175, HB⟩ := hrel
          cases gk with
          | zero => exact absurd HA.out (by simp [impl_net_can.l0])
          | succ k2 =>
            have H := HA.out
            clear HA
            simp only [impl_net_can.l0] at H
            by_cases c9 : x22_2 < (l0_1.length : Int)
            · rw [if_pos c9] at H
              have c9b0 : decide (x22_2 < (l0_1.length : Int)) = true := decide_eq_true c9
              clear c9
              by_cases c10 : 0 ≤ x22_2
              · rw [if_pos c10] at H
                have c10b0 : decide (0 ≤ x22_2) = true := decide_eq_true c10
                clear c10
                by_cases c11 : x22_2 < (l0_1.length : Int)
                · rw [if_pos c11] at H
                  have c11b0 : decide (x22_2 < (l0_1.length : Int)) = true := decide_eq_true c11
                  clear c11
                  by_cases c12 : ((rd_T80 l0_1 x22_2).f1) = a1
                  · rw [if_pos c12] at H
                    have c12b0 : (((rd_T80 l0_1 x22_2).f1) == a1) = true := beq_iff_eq.mpr c12
                    have c12b1 : (((rd_T80 l0_1 x22_2).f1) != a1) = false := bne_eq_false_iff_eq.mpr c12
                    clear c12
                    by_cases c13 : x22_2 < (l0_2.length : Int)
                    · rw [if_pos c13] at H
                      have c13b0 : decide (x22_2 < (l0_2.length : Int)) = true := decide_eq_true c13
                      clear c13
                      by_cases c14 : (rd l0_2 x22_2) < ((rd_T80 l0_1 x22_2).f3)
                      · rw [if_pos c14] at H
                        have c14b0 : decide ((rd l0_2 x22_2) < ((rd_T80 l0_1 x22_2).f3)) = true := decide_eq_true c14
                        clear c14
                        obtain rfl := Option.some.inj H
                        have p176 : 0 ≤ (x22_2 : Int) := of_decide_eq_true (by first | (with_reducible assumption) | assumption)
                        have q176 : x22_2 < (l0_1.length : Int) := of_decide_eq_true (by first | (with_reducible assumption) | assumption)
                        obtain ⟨ad176, e176, hx176_0, hx176_1, hx176_2, hx176_3, hx176_4⟩ := at_T80 HR0_1.out x22_2 p176 q176
                        cases e176
                        replace hx176_0 := (HB.out.cell (World.block_lt_of_cell? w _ hx176_0)).trans hx176_0
                        replace hx176_1 := (HB.out.cell (World.block_lt_of_cell? w _ hx176_1)).trans hx176_1
                        replace hx176_2 := (HB.out.cell (World.block_lt_of_cell? w _ hx176_2)).trans hx176_2
                        replace hx176_3 := (HB.out.cell (World.block_lt_of_cell? w _ hx176_3)).trans hx176_3
                        replace hx176_4 := (HB.out.cell (World.block_lt_of_cell? w _ hx176_4)).trans hx176_4
                        replace p176 := eq_true p176
                        replace q176 := eq_true q176
                        go_wp2_with (first | ((with_reducible refine gate_dst (N := 6) rfl ?_); refine box_event ?hg (N := 6) ?hd (cs := #[.int .i64 0, .int .i64 0, .int .i64 0, .int .i64 0, .int .i64 0]) (t := 80) ?hr ?_; (case hd => rfl); (case hg => rfl); (case hr => first | (go_simp; done) | (go_simp; rfl)); intro gb177 hg w15 hbox hb; have n0_ := Aside0.mk (blk_below (g := gb175) (o := .cells #[.int .i64 a0_0, .slice (some ad176) l0_1.length c0_1, .slice A0_2 l0_2.length c0_2] 87 (0, 0)) (by (with_reducible repeat (first | refine blk_drewN ?_ _ | refine blk_drew ?_ | refine blk_alloc ?_ _)); exact BK175.out) hb); have n1_ := Aside0.mk (below_step (by repeat (first | (with_reducible first | exact HB.out | apply below_alloc | apply pw_below_drewN | apply below_drew1 | refine below_set ?_ GE175.out) | exact HB.out)) hb); have n2_ := Aside0.mk (hbox); have n3_ := Aside0.mk ((by rw [hg]; exact (below_size (by repeat (first | (with_reducible first | exact HB.out | apply below_alloc | apply pw_below_drewN | apply below_drew1 | refine below_set ?_ GE175.out) | exact HB.out))) : w.heap.size ≤ gb177)); have n4_ := Aside0.mk ((by rw [hg]; exact (below_size (by repeat (first | (with_reducible first | exact HB.out | apply below_alloc | apply pw_below_drewN | apply below_drew1 | refine below_set ?_ GE175.out) | exact HB.out))) : w.heap.size ≤ gb177)); have n5_ := Aside0.mk ((by rw [hg]; exact Nat.ne_of_lt (blk_lt (g := gb175) (o := .cells #[.int .i64 a0_0, .slice (some ad176) l0_1.length c0_1, .slice A0_2 l0_2.length c0_2] 87 (0, 0)) (by (with_reducible repeat (first | refine blk_drewN ?_ _ | refine blk_drew ?_ | refine blk_alloc ?_ _)); exact BK175.out)) : gb175 ≠ gb177)); have n6_ := Aside0.mk ((by rw [hg]; exact Nat.ne_of_gt (blk_lt (g := gb175) (o := .cells #[.int .i64 a0_0, .slice (some ad176) l0_1.length c0_1, .slice A0_2 l0_2.length c0_2] 87 (0, 0)) (by (with_reducible repeat (first | refine blk_drewN ?_ _ | refine blk_drew ?_ | refine blk_alloc ?_ _)); exact BK175.out)) : gb177 ≠ gb175)); clear BK175; clear HB; have BK175 := n0_; have HB := n1_; have BK177 := n2_; have GW177 := n3_; have GE177 := n4_; have NB175_177 := n5_; have NB177_175 := n6_; clear n0_ n1_ n2_ n3_ n4_ n5_ n6_; clear hb hbox hg; have hnb16 := NB177_175.out; have hnc16 := NB175_177.out; have hcz17_0 : w15.cell? ⟨gb177, 0, none⟩ = some (.int .i64 0) := (blk_cell BK177.out 0).trans rfl; have hcz17_1 : w15.cell? ⟨gb177, 1, none⟩ = some (.int .i64 0) := (blk_cell BK177.out 1).trans rfl; have hcz17_2 : w15.cell? ⟨gb177, 2, none⟩ = some (.int .i64 0) := (blk_cell BK177.out 2).trans rfl; have hcz17_3 : w15.cell? ⟨gb177, 3, none⟩ = some (.int .i64 0) := (blk_cell BK177.out 3).trans rfl; have hcz17_4 : w15.cell? ⟨gb177, 4, none⟩ = some (.int .i64 0) := (blk_cell BK177.out 4).trans rfl; have hfz17_0 := blk_frozen BK177.out 0; have hfz17_1 := blk_frozen BK177.out 1; have hfz17_2 := blk_frozen BK177.out 2; have hfz17_3 := blk_frozen BK177.out 3; have hfz17_4 := blk_frozen BK177.out 4; have hcz18_0 : w15.cell? ⟨gb175, 0, none⟩ = some (.int .i64 a0_0) := (blk_cell BK175.out 0).trans rfl; have hcz18_1 : w15.cell? ⟨gb175, 1, none⟩ = some (.slice (some ad176) l0_1.length c0_1) := (blk_cell BK175.out 1).trans rfl; have hcz18_2 : w15.cell? ⟨gb175, 2, none⟩ = some (.slice A0_2 l0_2.length c0_2) := (blk_cell BK175.out 2).trans rfl; have hfz18_0 := blk_frozen BK175.out 0; have hfz18_1 := blk_frozen BK175.out 1; have hfz18_2 := blk_frozen BK175.out 2; have p178 : 0 ≤ (x22_2 : Int) := of_decide_eq_true (by first | (with_reducible assumption) | assumption); have q178 : x22_2 < (l0_2.length : Int) := of_decide_eq_true (by first | (with_reducible assumption) | assumption); obtain ⟨ad178, e178, hx178_0⟩ := Kd.at_int HR0_2.out x22_2 p178 q178; cases e178; have hn178_0 : ad178.block ≠ gb177 := Nat.ne_of_lt (Nat.lt_of_lt_of_le (by have := World.block_lt_of_cell? _ _ hx178_0; first | rwa [add_block] at this | exact this) GW177.out); have hn178_1 : ad178.block ≠ gb177 := Nat.ne_of_lt (Nat.lt_of_lt_of_le (by have := World.block_lt_of_cell? _ _ hx178_0; first | rwa [add_block] at this | exact this) GW177.out); have hn178_2 : ad178.block ≠ gb177 := Nat.ne_of_lt (Nat.lt_of_lt_of_le (by have := World.block_lt_of_cell? _ _ hx178_0; first | rwa [add_block] at this | exact this) GW177.out); have hn178_3 : ad178.block ≠ gb177 := Nat.ne_of_lt (Nat.lt_of_lt_of_le (by have := World.block_lt_of_cell? _ _ hx178_0; first | rwa [add_block] at this | exact this) GW177.out); have hn178_4 : ad178.block ≠ gb177 := Nat.ne_of_lt (Nat.lt_of_lt_of_le (by have := World.block_lt_of_cell? _ _ hx178_0; first | rwa [add_block] at this | exact this) GW177.out); replace hx178_0 := (HB.out.cell (World.block_lt_of_cell? w _ hx178_0)).trans hx178_0; replace hx178_0 := (cell_far (p := ⟨gb177, 0, none⟩) (by first | (rw [add_block]; exact hn178_0) | (show (Addr.add _ _).block ≠ _; rw [add_block]; exact hn178_0) | exact hn178_0) (.int .i64 ((rd_T80 l0_1 x22_2).f0))).trans hx178_0; replace hx178_0 := (cell_far (p := ⟨gb177, 1, none⟩) (by first | (rw [add_block]; exact hn178_1) | (show (Addr.add _ _).block ≠ _; rw [add_block]; exact hn178_1) | exact hn178_1) (.int .i64 ((rd_T80 l0_1 x22_2).f1))).trans hx178_0; replace hx178_0 := (cell_far (p := ⟨gb177, 2, none⟩) (by first | (rw [add_block]; exact hn178_2) | (show (Addr.add _ _).block ≠ _; rw [add_block]; exact hn178_2) | exact hn178_2) (.int .i64 ((rd_T80 l0_1 x22_2).f2))).trans hx178_0; replace hx178_0 := (cell_far (p := ⟨gb177, 3, none⟩) (by first | (rw [add_block]; exact hn178_3) | (show (Addr.add _ _).block ≠ _; rw [add_block]; exact hn178_3) | exact hn178_3) (.int .i64 ((rd_T80 l0_1 x22_2).f3))).trans hx178_0; replace hx178_0 := (cell_far (p := ⟨gb177, 4, none⟩) (by first | (rw [add_block]; exact hn178_4) | (show (Addr.add _ _).block ≠ _; rw [add_block]; exact hn178_4) | exact hn178_4) (.int .i64 ((rd_T80 l0_1 x22_2).f4))).trans hx178_0; (try have hy178_0 := fun (n_ : Nat) => (show (((((((w15.drewN n_).setCell ⟨gb177, 0, none⟩ (.int .i64 ((rd_T80 l0_1 x22_2).f0))).setCell ⟨gb177, 1, none⟩ (.int .i64 ((rd_T80 l0_1 x22_2).f1))).setCell ⟨gb177, 2, none⟩ (.int .i64 ((rd_T80 l0_1 x22_2).f2))).setCell ⟨gb177, 3, none⟩ (.int .i64 ((rd_T80 l0_1 x22_2).f3))).setCell ⟨gb177, 4, none⟩ (.int .i64 ((rd_T80 l0_1 x22_2).f4)))).cell? _ = some _ from hx178_0)); clear hn178_0; clear hn178_1; clear hn178_2; clear hn178_3; clear hn178_4; replace p178 := eq_true p178; replace q178 := eq_true q178))
                        repeat (go_quiet (first | ((with_reducible refine gate_dst (N := 6) rfl ?_); refine box_event ?hg (N := 6) ?hd (cs := #[.int .i64 0, .int .i64 0, .int .i64 0, .int .i64 0, .int .i64 0]) (t := 80) ?hr ?_; (case hd => rfl); (case hg => rfl); (case hr => first | (go_simp; done) | (go_simp; rfl)); intro gb177 hg w15 hbox hb; have n0_ := Aside0.mk (blk_below (g := gb175) (o := .cells #[.int .i64 a0_0, .slice (some ad176) l0_1.length c0_1, .slice A0_2 l0_2.length c0_2] 87 (0, 0)) (by (with_reducible repeat (first | refine blk_drewN ?_ _ | refine blk_drew ?_ | refine blk_alloc ?_ _)); exact BK175.out) hb); have n1_ := Aside0.mk (below_step (by repeat (first | (with_reducible first | exact HB.out | apply below_alloc | apply pw_below_drewN | apply below_drew1 | refine below_set ?_ GE175.out) | exact HB.out)) hb); have n2_ := Aside0.mk (hbox); have n3_ := Aside0.mk ((by rw [hg]; exact (below_size (by repeat (first | (with_reducible first | exact HB.out | apply below_alloc | apply pw_below_drewN | apply below_drew1 | refine below_set ?_ GE175.out) | exact HB.out))) : w.heap.size ≤ gb177)); have n4_ := Aside0.mk ((by rw [hg]; exact (below_size (by repeat (first | (with_reducible first | exact HB.out | apply below_alloc | apply pw_below_drewN | apply below_drew1 | refine below_set ?_ GE175.out) | exact HB.out))) : w.heap.size ≤ gb177)); have n5_ := Aside0.mk ((by rw [hg]; exact Nat.ne_of_lt (blk_lt (g := gb175) (o := .cells #[.int .i64 a0_0, .slice (some ad176) l0_1.length c0_1, .slice A0_2 l0_2.length c0_2] 87 (0, 0)) (by (with_reducible repeat (first | refine blk_drewN ?_ _ | refine blk_drew ?_ | refine blk_alloc ?_ _)); exact BK175.out)) : gb175 ≠ gb177)); have n6_ := Aside0.mk ((by rw [hg]; exact Nat.ne_of_gt (blk_lt (g := gb175) (o := .cells #[.int .i64 a0_0, .slice (some ad176) l0_1.length c0_1, .slice A0_2 l0_2.length c0_2] 87 (0, 0)) (by (with_reducible repeat (first | refine blk_drewN ?_ _ | refine blk_drew ?_ | refine blk_alloc ?_ _)); exact BK175.out)) : gb177 ≠ gb175)); clear BK175; clear HB; have BK175 := n0_; have HB := n1_; have BK177 := n2_; have GW177 := n3_; have GE177 := n4_; have NB175_177 := n5_; have NB177_175 := n6_; clear n0_ n1_ n2_ n3_ n4_ n5_ n6_; clear hb hbox hg; have hnb16 := NB177_175.out; have hnc16 := NB175_177.out; have hcz17_0 : w15.cell? ⟨gb177, 0, none⟩ = some (.int .i64 0) := (blk_cell BK177.out 0).trans rfl; have hcz17_1 : w15.cell? ⟨gb177, 1, none⟩ = some (.int .i64 0) := (blk_cell BK177.out 1).trans rfl; have hcz17_2 : w15.cell? ⟨gb177, 2, none⟩ = some (.int .i64 0) := (blk_cell BK177.out 2).trans rfl; have hcz17_3 : w15.cell? ⟨gb177, 3, none⟩ = some (.int .i64 0) := (blk_cell BK177.out 3).trans rfl; have hcz17_4 : w15.cell? ⟨gb177, 4, none⟩ = some (.int .i64 0) := (blk_cell BK177.out 4).trans rfl; have hfz17_0 := blk_frozen BK177.out 0; have hfz17_1 := blk_frozen BK177.out 1; have hfz17_2 := blk_frozen BK177.out 2; have hfz17_3 := blk_frozen BK177.out 3; have hfz17_4 := blk_frozen BK177.out 4; have hcz18_0 : w15.cell? ⟨gb175, 0, none⟩ = some (.int .i64 a0_0) := (blk_cell BK175.out 0).trans rfl; have hcz18_1 : w15.cell? ⟨gb175, 1, none⟩ = some (.slice (some ad176) l0_1.length c0_1) := (blk_cell BK175.out 1).trans rfl; have hcz18_2 : w15.cell? ⟨gb175, 2, none⟩ = some (.slice A0_2 l0_2.length c0_2) := (blk_cell BK175.out 2).trans rfl; have hfz18_0 := blk_frozen BK175.out 0; have hfz18_1 := blk_frozen BK175.out 1; have hfz18_2 := blk_frozen BK175.out 2; have p178 : 0 ≤ (x22_2 : Int) := of_decide_eq_true (by first | (with_reducible assumption) | assumption); have q178 : x22_2 < (l0_2.length : Int) := of_decide_eq_true (by first | (with_reducible assumption) | assumption); obtain ⟨ad178, e178, hx178_0⟩ := Kd.at_int HR0_2.out x22_2 p178 q178; cases e178; have hn178_0 : ad178.block ≠ gb177 := Nat.ne_of_lt (Nat.lt_of_lt_of_le (by have := World.block_lt_of_cell? _ _ hx178_0; first | rwa [add_block] at this | exact this) GW177.out); have hn178_1 : ad178.block ≠ gb177 := Nat.ne_of_lt (Nat.lt_of_lt_of_le (by have := World.block_lt_of_cell? _ _ hx178_0; first | rwa [add_block] at this | exact this) GW177.out); have hn178_2 : ad178.block ≠ gb177 := Nat.ne_of_lt (Nat.lt_of_lt_of_le (by have := World.block_lt_of_cell? _ _ hx178_0; first | rwa [add_block] at this | exact this) GW177.out); have hn178_3 : ad178.block ≠ gb177 := Nat.ne_of_lt (Nat.lt_of_lt_of_le (by have := World.block_lt_of_cell? _ _ hx178_0; first | rwa [add_block] at this | exact this) GW177.out); have hn178_4 : ad178.block ≠ gb177 := Nat.ne_of_lt (Nat.lt_of_lt_of_le (by have := World.block_lt_of_cell? _ _ hx178_0; first | rwa [add_block] at this | exact this) GW177.out); replace hx178_0 := (HB.out.cell (World.block_lt_of_cell? w _ hx178_0)).trans hx178_0; replace hx178_0 := (cell_far (p := ⟨gb177, 0, none⟩) (by first | (rw [add_block]; exact hn178_0) | (show (Addr.add _ _).block ≠ _; rw [add_block]; exact hn178_0) | exact hn178_0) (.int .i64 ((rd_T80 l0_1 x22_2).f0))).trans hx178_0; replace hx178_0 := (cell_far (p := ⟨gb177, 1, none⟩) (by first | (rw [add_block]; exact hn178_1) | (show (Addr.add _ _).block ≠ _; rw [add_block]; exact hn178_1) | exact hn178_1) (.int .i64 ((rd_T80 l0_1 x22_2).f1))).trans hx178_0; replace hx178_0 := (cell_far (p := ⟨gb177, 2, none⟩) (by first | (rw [add_block]; exact hn178_2) | (show (Addr.add _ _).block ≠ _; rw [add_block]; exact hn178_2) | exact hn178_2) (.int .i64 ((rd_T80 l0_1 x22_2).f2))).trans hx178_0; replace hx178_0 := (cell_far (p := ⟨gb177, 3, none⟩) (by first | (rw [add_block]; exact hn178_3) | (show (Addr.add _ _).block ≠ _; rw [add_block]; exact hn178_3) | exact hn178_3) (.int .i64 ((rd_T80 l0_1 x22_2).f3))).trans hx178_0; replace hx178_0 := (cell_far (p := ⟨gb177, 4, none⟩) (by first | (rw [add_block]; exact hn178_4) | (show (Addr.add _ _).block ≠ _; rw [add_block]; exact hn178_4) | exact hn178_4) (.int .i64 ((rd_T80 l0_1 x22_2).f4))).trans hx178_0; (try have hy178_0 := fun (n_ : Nat) => (show (((((((w15.drewN n_).setCell ⟨gb177, 0, none⟩ (.int .i64 ((rd_T80 l0_1 x22_2).f0))).setCell ⟨gb177, 1, none⟩ (.int .i64 ((rd_T80 l0_1 x22_2).f1))).setCell ⟨gb177, 2, none⟩ (.int .i64 ((rd_T80 l0_1 x22_2).f2))).setCell ⟨gb177, 3, none⟩ (.int .i64 ((rd_T80 l0_1 x22_2).f3))).setCell ⟨gb177, 4, none⟩ (.int .i64 ((rd_T80 l0_1 x22_2).f4)))).cell? _ = some _ from hx178_0)); clear hn178_0; clear hn178_1; clear hn178_2; clear hn178_3; clear hn178_4; replace p178 := eq_true p178; replace q178 := eq_true q178)); try go_wp2_with (first | ((with_reducible refine gate_dst (N := 6) rfl ?_); refine box_event ?hg (N := 6) ?hd (cs := #[.int .i64 0, .int .i64 0, .int .i64 0, .int .i64 0, .int .i64 0]) (t := 80) ?hr ?_; (case hd => rfl); (case hg => rfl); (case hr => first | (go_simp; done) | (go_simp; rfl)); intro gb177 hg w15 hbox hb; have n0_ := Aside0.mk (blk_below (g := gb175) (o := .cells #[.int .i64 a0_0, .slice (some ad176) l0_1.length c0_1, .slice A0_2 l0_2.length c0_2] 87 (0, 0)) (by (with_reducible repeat (first | refine blk_drewN ?_ _ | refine blk_drew ?_ | refine blk_alloc ?_ _)); exact BK175.out) hb); have n1_ := Aside0.mk (below_step (by repeat (first | (with_reducible first | exact HB.out | apply below_alloc | apply pw_below_drewN | apply below_drew1 | refine below_set ?_ GE175.out) | exact HB.out)) hb); have n2_ := Aside0.mk (hbox); have n3_ := Aside0.mk ((by rw [hg]; exact (below_size (by repeat (first | (with_reducible first | exact HB.out | apply below_alloc | apply pw_below_drewN | apply below_drew1 | refine below_set ?_ GE175.out) | exact HB.out))) : w.heap.size ≤ gb177)); have n4_ := Aside0.mk ((by rw [hg]; exact (below_size (by repeat (first | (with_reducible first | exact HB.out | apply below_alloc | apply pw_below_drewN | apply below_drew1 | refine below_set ?_ GE175.out) | exact HB.out))) : w.heap.size ≤ gb177)); have n5_ := Aside0.mk ((by rw [hg]; exact Nat.ne_of_lt (blk_lt (g := gb175) (o := .cells #[.int .i64 a0_0, .slice (some ad176) l0_1.length c0_1, .slice A0_2 l0_2.length c0_2] 87 (0, 0)) (by (with_reducible repeat (first | refine blk_drewN ?_ _ | refine blk_drew ?_ | refine blk_alloc ?_ _)); exact BK175.out)) : gb175 ≠ gb177)); have n6_ := Aside0.mk ((by rw [hg]; exact Nat.ne_of_gt (blk_lt (g := gb175) (o := .cells #[.int .i64 a0_0, .slice (some ad176) l0_1.length c0_1, .slice A0_2 l0_2.length c0_2] 87 (0, 0)) (by (with_reducible repeat (first | refine blk_drewN ?_ _ | refine blk_drew ?_ | refine blk_alloc ?_ _)); exact BK175.out)) : gb177 ≠ gb175)); clear BK175; clear HB; have BK175 := n0_; have HB := n1_; have BK177 := n2_; have GW177 := n3_; have GE177 := n4_; have NB175_177 := n5_; have NB177_175 := n6_; clear n0_ n1_ n2_ n3_ n4_ n5_ n6_; clear hb hbox hg; have hnb16 := NB177_175.out; have hnc16 := NB175_177.out; have hcz17_0 : w15.cell? ⟨gb177, 0, none⟩ = some (.int .i64 0) := (blk_cell BK177.out 0).trans rfl; have hcz17_1 : w15.cell? ⟨gb177, 1, none⟩ = some (.int .i64 0) := (blk_cell BK177.out 1).trans rfl; have hcz17_2 : w15.cell? ⟨gb177, 2, none⟩ = some (.int .i64 0) := (blk_cell BK177.out 2).trans rfl; have hcz17_3 : w15.cell? ⟨gb177, 3, none⟩ = some (.int .i64 0) := (blk_cell BK177.out 3).trans rfl; have hcz17_4 : w15.cell? ⟨gb177, 4, none⟩ = some (.int .i64 0) := (blk_cell BK177.out 4).trans rfl; have hfz17_0 := blk_frozen BK177.out 0; have hfz17_1 := blk_frozen BK177.out 1; have hfz17_2 := blk_frozen BK177.out 2; have hfz17_3 := blk_frozen BK177.out 3; have hfz17_4 := blk_frozen BK177.out 4; have hcz18_0 : w15.cell? ⟨gb175, 0, none⟩ = some (.int .i64 a0_0) := (blk_cell BK175.out 0).trans rfl; have hcz18_1 : w15.cell? ⟨gb175, 1, none⟩ = some (.slice (some ad176) l0_1.length c0_1) := (blk_cell BK175.out 1).trans rfl; have hcz18_2 : w15.cell? ⟨gb175, 2, none⟩ = some (.slice A0_2 l0_2.length c0_2) := (blk_cell BK175.out 2).trans rfl; have hfz18_0 := blk_frozen BK175.out 0; have hfz18_1 := blk_frozen BK175.out 1; have hfz18_2 := blk_frozen BK175.out 2; have p178 : 0 ≤ (x22_2 : Int) := of_decide_eq_true (by first | (with_reducible assumption) | assumption); have q178 : x22_2 < (l0_2.length : Int) := of_decide_eq_true (by first | (with_reducible assumption) | assumption); obtain ⟨ad178, e178, hx178_0⟩ := Kd.at_int HR0_2.out x22_2 p178 q178; cases e178; have hn178_0 : ad178.block ≠ gb177 := Nat.ne_of_lt (Nat.lt_of_lt_of_le (by have := World.block_lt_of_cell? _ _ hx178_0; first | rwa [add_block] at this | exact this) GW177.out); have hn178_1 : ad178.block ≠ gb177 := Nat.ne_of_lt (Nat.lt_of_lt_of_le (by have := World.block_lt_of_cell? _ _ hx178_0; first | rwa [add_block] at this | exact this) GW177.out); have hn178_2 : ad178.block ≠ gb177 := Nat.ne_of_lt (Nat.lt_of_lt_of_le (by have := World.block_lt_of_cell? _ _ hx178_0; first | rwa [add_block] at this | exact this) GW177.out); have hn178_3 : ad178.block ≠ gb177 := Nat.ne_of_lt (Nat.lt_of_lt_of_le (by have := World.block_lt_of_cell? _ _ hx178_0; first | rwa [add_block] at this | exact this) GW177.out); have hn178_4 : ad178.block ≠ gb177 := Nat.ne_of_lt (Nat.lt_of_lt_of_le (by have := World.block_lt_of_cell? _ _ hx178_0; first | rwa [add_block] at this | exact this) GW177.out); replace hx178_0 := (HB.out.cell (World.block_lt_of_cell? w _ hx178_0)).trans hx178_0; replace hx178_0 := (cell_far (p := ⟨gb177, 0, none⟩) (by first | (rw [add_block]; exact hn178_0) | (show (Addr.add _ _).block ≠ _; rw [add_block]; exact hn178_0) | exact hn178_0) (.int .i64 ((rd_T80 l0_1 x22_2).f0))).trans hx178_0; replace hx178_0 := (cell_far (p := ⟨gb177, 1, none⟩) (by first | (rw [add_block]; exact hn178_1) | (show (Addr.add _ _).block ≠ _; rw [add_block]; exact hn178_1) | exact hn178_1) (.int .i64 ((rd_T80 l0_1 x22_2).f1))).trans hx178_0; replace hx178_0 := (cell_far (p := ⟨gb177, 2, none⟩) (by first | (rw [add_block]; exact hn178_2) | (show (Addr.add _ _).block ≠ _; rw [add_block]; exact hn178_2) | exact hn178_2) (.int .i64 ((rd_T80 l0_1 x22_2).f2))).trans hx178_0; replace hx178_0 := (cell_far (p := ⟨gb177, 3, none⟩) (by first | (rw [add_block]; exact hn178_3) | (show (Addr.add _ _).block ≠ _; rw [add_block]; exact hn178_3) | exact hn178_3) (.int .i64 ((rd_T80 l0_1 x22_2).f3))).trans hx178_0; replace hx178_0 := (cell_far (p := ⟨gb177, 4, none⟩) (by first | (rw [add_block]; exact hn178_4) | (show (Addr.add _ _).block ≠ _; rw [add_block]; exact hn178_4) | exact hn178_4) (.int .i64 ((rd_T80 l0_1 x22_2).f4))).trans hx178_0; (try have hy178_0 := fun (n_ : Nat) => (show (((((((w15.drewN n_).setCell ⟨gb177, 0, none⟩ (.int .i64 ((rd_T80 l0_1 x22_2).f0))).setCell ⟨gb177, 1, none⟩ (.int .i64 ((rd_T80 l0_1 x22_2).f1))).setCell ⟨gb177, 2, none⟩ (.int .i64 ((rd_T80 l0_1 x22_2).f2))).setCell ⟨gb177, 3, none⟩ (.int .i64 ((rd_T80 l0_1 x22_2).f3))).setCell ⟨gb177, 4, none⟩ (.int .i64 ((rd_T80 l0_1 x22_2).f4)))).cell? _ = some _ from hx178_0)); clear hn178_0; clear hn178_1; clear hn178_2; clear hn178_3; clear hn178_4; replace p178 := eq_true p178; replace q178 := eq_true q178)))
                        go_ret
                        exact ⟨by first | rfl | (simp [errW_none, errW_some] <;> rfl) | (simp [*, errW_none, errW_some] <;> rfl), by repeat (first | (with_reducible first | exact HB.out | apply below_alloc | apply pw_below_drewN | apply below_drew1 | refine below_set ?_ GE175.out | refine below_set ?_ GE177.out) | exact HB.out)⟩
                      · rw [if_neg c14] at H
                        have c14b0 : decide ((rd l0_2 x22_2) < ((rd_T80 l0_1 x22_2).f3)) = false := decide_eq_false c14
                        clear c14
                        have H' := Aside0.mk H
                        clear H
                        have p176 : 0 ≤ (x22_2 : Int) := of_decide_eq_true (by first | (with_reducible assumption) | assumption)
                        have q176 : x22_2 < (l0_1.length : Int) := of_decide_eq_true (by first | (with_reducible assumption) | assumption)
                        obtain ⟨ad176, e176, hx176_0, hx176_1, hx176_2, hx176_3, hx176_4⟩ := at_T80 HR0_1.out x22_2 p176 q176
                        cases e176
                        replace hx176_0 := (HB.out.cell (World.block_lt_of_cell? w _ hx176_0)).trans hx176_0
                        replace hx176_1 := (HB.out.cell (World.block_lt_of_cell? w _ hx176_1)).trans hx176_1
                        replace hx176_2 := (HB.out.cell (World.block_lt_of_cell? w _ hx176_2)).trans hx176_2
                        replace hx176_3 := (HB.out.cell (World.block_lt_of_cell? w _ hx176_3)).trans hx176_3
                        replace hx176_4 := (HB.out.cell (World.block_lt_of_cell? w _ hx176_4)).trans hx176_4
                        replace p176 := eq_true p176
                        replace q176 := eq_true q176
                        go_wp2_with (first | ((with_reducible refine gate_dst (N := 6) rfl ?_); refine box_event ?hg (N := 6) ?hd (cs := #[.int .i64 0, .int .i64 0, .int .i64 0, .int .i64 0, .int .i64 0]) (t := 80) ?hr ?_; (case hd => rfl); (case hg => rfl); (case hr => first | (go_simp; done) | (go_simp; rfl)); intro gb177 hg w19 hbox hb; have n0_ := Aside0.mk (blk_below (g := gb175) (o := .cells #[.int .i64 a0_0, .slice (some ad176) l0_1.length c0_1, .slice A0_2 l0_2.length c0_2] 87 (0, 0)) (by (with_reducible repeat (first | refine blk_drewN ?_ _ | refine blk_drew ?_ | refine blk_alloc ?_ _)); exact BK175.out) hb); have n1_ := Aside0.mk (below_step (by repeat (first | (with_reducible first | exact HB.out | apply below_alloc | apply pw_below_drewN | apply below_drew1 | refine below_set ?_ GE175.out) | exact HB.out)) hb); have n2_ := Aside0.mk (hbox); have n3_ := Aside0.mk ((by rw [hg]; exact (below_size (by repeat (first | (with_reducible first | exact HB.out | apply below_alloc | apply pw_below_drewN | apply below_drew1 | refine below_set ?_ GE175.out) | exact HB.out))) : w.heap.size ≤ gb177)); have n4_ := Aside0.mk ((by rw [hg]; exact (below_size (by repeat (first | (with_reducible first | exact HB.out | apply below_alloc | apply pw_below_drewN | apply below_drew1 | refine below_set ?_ GE175.out) | exact HB.out))) : w.heap.size ≤ gb177)); have n5_ := Aside0.mk ((by rw [hg]; exact Nat.ne_of_lt (blk_lt (g := gb175) (o := .cells #[.int .i64 a0_0, .slice (some ad176) l0_1.length c0_1, .slice A0_2 l0_2.length c0_2] 87 (0, 0)) (by (with_reducible repeat (first | refine blk_drewN ?_ _ | refine blk_drew ?_ | refine blk_alloc ?_ _)); exact BK175.out)) : gb175 ≠ gb177)); have n6_ := Aside0.mk ((by rw [hg]; exact Nat.ne_of_gt (blk_lt (g := gb175) (o := .cells #[.int .i64 a0_0, .slice (some ad176) l0_1.length c0_1, .slice A0_2 l0_2.length c0_2] 87 (0, 0)) (by (with_reducible repeat (first | refine blk_drewN ?_ _ | refine blk_drew ?_ | refine blk_alloc ?_ _)); exact BK175.out)) : gb177 ≠ gb175)); clear BK175; clear HB; have BK175 := n0_; have HB := n1_; have BK177 := n2_; have GW177 := n3_; have GE177 := n4_; have NB175_177 := n5_; have NB177_175 := n6_; clear n0_ n1_ n2_ n3_ n4_ n5_ n6_; clear hb hbox hg; have hnb20 := NB177_175.out; have hnc20 := NB175_177.out; have hcz21_0 : w19.cell? ⟨gb177, 0, none⟩ = some (.int .i64 0) := (blk_cell BK177.out 0).trans rfl; have hcz21_1 : w19.cell? ⟨gb177, 1, none⟩ = some (.int .i64 0) := (blk_cell BK177.out 1).trans rfl; have hcz21_2 : w19.cell? ⟨gb177, 2, none⟩ = some (.int .i64 0) := (blk_cell BK177.out 2).trans rfl; have hcz21_3 : w19.cell? ⟨gb177, 3, none⟩ = some (.int .i64 0) := (blk_cell BK177.out 3).trans rfl; have hcz21_4 : w19.cell? ⟨gb177, 4, none⟩ = some (.int .i64 0) := (blk_cell BK177.out 4).trans rfl; have hfz21_0 := blk_frozen BK177.out 0; have hfz21_1 := blk_frozen BK177.out 1; have hfz21_2 := blk_frozen BK177.out 2; have hfz21_3 := blk_frozen BK177.out 3; have hfz21_4 := blk_frozen BK177.out 4; have hcz22_0 : w19.cell? ⟨gb175, 0, none⟩ = some (.int .i64 a0_0) := (blk_cell BK175.out 0).trans rfl; have hcz22_1 : w19.cell? ⟨gb175, 1, none⟩ = some (.slice (some ad176) l0_1.length c0_1) := (blk_cell BK175.out 1).trans rfl; have hcz22_2 : w19.cell? ⟨gb175, 2, none⟩ = some (.slice A0_2 l0_2.length c0_2) := (blk_cell BK175.out 2).trans rfl; have hfz22_0 := blk_frozen BK175.out 0; have hfz22_1 := blk_frozen BK175.out 1; have hfz22_2 := blk_frozen BK175.out 2; have p178 : 0 ≤ (x22_2 : Int) := of_decide_eq_true (by first | (with_reducible assumption) | assumption); have q178 : x22_2 < (l0_2.length : Int) := of_decide_eq_true (by first | (with_reducible assumption) | assumption); obtain ⟨ad178, e178, hx178_0⟩ := Kd.at_int HR0_2.out x22_2 p178 q178; cases e178; have hn178_0 : ad178.block ≠ gb177 := Nat.ne_of_lt (Nat.lt_of_lt_of_le (by have := World.block_lt_of_cell? _ _ hx178_0; first | rwa [add_block] at this | exact this) GW177.out); have hn178_1 : ad178.block ≠ gb177 := Nat.ne_of_lt (Nat.lt_of_lt_of_le (by have := World.block_lt_of_cell? _ _ hx178_0; first | rwa [add_block] at this | exact this) GW177.out); have hn178_2 : ad178.block ≠ gb177 := Nat.ne_of_lt (Nat.lt_of_lt_of_le (by have := World.block_lt_of_cell? _ _ hx178_0; first | rwa [add_block] at this | exact this) GW177.out); have hn178_3 : ad178.block ≠ gb177 := Nat.ne_of_lt (Nat.lt_of_lt_of_le (by have := World.block_lt_of_cell? _ _ hx178_0; first | rwa [add_block] at this | exact this) GW177.out); have hn178_4 : ad178.block ≠ gb177 := Nat.ne_of_lt (Nat.lt_of_lt_of_le (by have := World.block_lt_of_cell? _ _ hx178_0; first | rwa [add_block] at this | exact this) GW177.out); replace hx178_0 := (HB.out.cell (World.block_lt_of_cell? w _ hx178_0)).trans hx178_0; replace hx178_0 := (cell_far (p := ⟨gb177, 0, none⟩) (by first | (rw [add_block]; exact hn178_0) | (show (Addr.add _ _).block ≠ _; rw [add_block]; exact hn178_0) | exact hn178_0) (.int .i64 ((rd_T80 l0_1 x22_2).f0))).trans hx178_0; replace hx178_0 := (cell_far (p := ⟨gb177, 1, none⟩) (by first | (rw [add_block]; exact hn178_1) | (show (Addr.add _ _).block ≠ _; rw [add_block]; exact hn178_1) | exact hn178_1) (.int .i64 ((rd_T80 l0_1 x22_2).f1))).trans hx178_0; replace hx178_0 := (cell_far (p := ⟨gb177, 2, none⟩) (by first | (rw [add_block]; exact hn178_2) | (show (Addr.add _ _).block ≠ _; rw [add_block]; exact hn178_2) | exact hn178_2) (.int .i64 ((rd_T80 l0_1 x22_2).f2))).trans hx178_0; replace hx178_0 := (cell_far (p := ⟨gb177, 3, none⟩) (by first | (rw [add_block]; exact hn178_3) | (show (Addr.add _ _).block ≠ _; rw [add_block]; exact hn178_3) | exact hn178_3) (.int .i64 ((rd_T80 l0_1 x22_2).f3))).trans hx178_0; replace hx178_0 := (cell_far (p := ⟨gb177, 4, none⟩) (by first | (rw [add_block]; exact hn178_4) | (show (Addr.add _ _).block ≠ _; rw [add_block]; exact hn178_4) | exact hn178_4) (.int .i64 ((rd_T80 l0_1 x22_2).f4))).trans hx178_0; (try have hy178_0 := fun (n_ : Nat) => (show (((((((w19.drewN n_).setCell ⟨gb177, 0, none⟩ (.int .i64 ((rd_T80 l0_1 x22_2).f0))).setCell ⟨gb177, 1, none⟩ (.int .i64 ((rd_T80 l0_1 x22_2).f1))).setCell ⟨gb177, 2, none⟩ (.int .i64 ((rd_T80 l0_1 x22_2).f2))).setCell ⟨gb177, 3, none⟩ (.int .i64 ((rd_T80 l0_1 x22_2).f3))).setCell ⟨gb177, 4, none⟩ (.int .i64 ((rd_T80 l0_1 x22_2).f4)))).cell? _ = some _ from hx178_0)); clear hn178_0; clear hn178_1; clear hn178_2; clear hn178_3; clear hn178_4; replace p178 := eq_true p178; replace q178 := eq_true q178))
                        repeat (go_quiet (first | ((with_reducible refine gate_dst (N := 6) rfl ?_); refine box_event ?hg (N := 6) ?hd (cs := #[.int .i64 0, .int .i64 0, .int .i64 0, .int .i64 0, .int .i64 0]) (t := 80) ?hr ?_; (case hd => rfl); (case hg => rfl); (case hr => first | (go_simp; done) | (go_simp; rfl)); intro gb177 hg w19 hbox hb; have n0_ := Aside0.mk (blk_below (g := gb175) (o := .cells #[.int .i64 a0_0, .slice (some ad176) l0_1.length c0_1, .slice A0_2 l0_2.length c0_2] 87 (0, 0)) (by (with_reducible repeat (first | refine blk_drewN ?_ _ | refine blk_drew ?_ | refine blk_alloc ?_ _)); exact BK175.out) hb); have n1_ := Aside0.mk (below_step (by repeat (first | (with_reducible first | exact HB.out | apply below_alloc | apply pw_below_drewN | apply below_drew1 | refine below_set ?_ GE175.out) | exact HB.out)) hb); have n2_ := Aside0.mk (hbox); have n3_ := Aside0.mk ((by rw [hg]; exact (below_size (by repeat (first | (with_reducible first | exact HB.out | apply below_alloc | apply pw_below_drewN | apply below_drew1 | refine below_set ?_ GE175.out) | exact HB.out))) : w.heap.size ≤ gb177)); have n4_ := Aside0.mk ((by rw [hg]; exact (below_size (by repeat (first | (with_reducible first | exact HB.out | apply below_alloc | apply pw_below_drewN | apply below_drew1 | refine below_set ?_ GE175.out) | exact HB.out))) : w.heap.size ≤ gb177)); have n5_ := Aside0.mk ((by rw [hg]; exact Nat.ne_of_lt (blk_lt (g := gb175) (o := .cells #[.int .i64 a0_0, .slice (some ad176) l0_1.length c0_1, .slice A0_2 l0_2.length c0_2] 87 (0, 0)) (by (with_reducible repeat (first | refine blk_drewN ?_ _ | refine blk_drew ?_ | refine blk_alloc ?_ _)); exact BK175.out)) : gb175 ≠ gb177)); have n6_ := Aside0.mk ((by rw [hg]; exact Nat.ne_of_gt (blk_lt (g := gb175) (o := .cells #[.int .i64 a0_0, .slice (some ad176) l0_1.length c0_1, .slice A0_2 l0_2.length c0_2] 87 (0, 0)) (by (with_reducible repeat (first | refine blk_drewN ?_ _ | refine blk_drew ?_ | refine blk_alloc ?_ _)); exact BK175.out)) : gb177 ≠ gb175)); clear BK175; clear HB; have BK175 := n0_; have HB := n1_; have BK177 := n2_; have GW177 := n3_; have GE177 := n4_; have NB175_177 := n5_; have NB177_175 := n6_; clear n0_ n1_ n2_ n3_ n4_ n5_ n6_; clear hb hbox hg; have hnb20 := NB177_175.out; have hnc20 := NB175_177.out; have hcz21_0 : w19.cell? ⟨gb177, 0, none⟩ = some (.int .i64 0) := (blk_cell BK177.out 0).trans rfl; have hcz21_1 : w19.cell? ⟨gb177, 1, none⟩ = some (.int .i64 0) := (blk_cell BK177.out 1).trans rfl; have hcz21_2 : w19.cell? ⟨gb177, 2, none⟩ = some (.int .i64 0) := (blk_cell BK177.out 2).trans rfl; have hcz21_3 : w19.cell? ⟨gb177, 3, none⟩ = some (.int .i64 0) := (blk_cell BK177.out 3).trans rfl; have hcz21_4 : w19.cell? ⟨gb177, 4, none⟩ = some (.int .i64 0) := (blk_cell BK177.out 4).trans rfl; have hfz21_0 := blk_frozen BK177.out 0; have hfz21_1 := blk_frozen BK177.out 1; have hfz21_2 := blk_frozen BK177.out 2; have hfz21_3 := blk_frozen BK177.out 3; have hfz21_4 := blk_frozen BK177.out 4; have hcz22_0 : w19.cell? ⟨gb175, 0, none⟩ = some (.int .i64 a0_0) := (blk_cell BK175.out 0).trans rfl; have hcz22_1 : w19.cell? ⟨gb175, 1, none⟩ = some (.slice (some ad176) l0_1.length c0_1) := (blk_cell BK175.out 1).trans rfl; have hcz22_2 : w19.cell? ⟨gb175, 2, none⟩ = some (.slice A0_2 l0_2.length c0_2) := (blk_cell BK175.out 2).trans rfl; have hfz22_0 := blk_frozen BK175.out 0; have hfz22_1 := blk_frozen BK175.out 1; have hfz22_2 := blk_frozen BK175.out 2; have p178 : 0 ≤ (x22_2 : Int) := of_decide_eq_true (by first | (with_reducible assumption) | assumption); have q178 : x22_2 < (l0_2.length : Int) := of_decide_eq_true (by first | (with_reducible assumption) | assumption); obtain ⟨ad178, e178, hx178_0⟩ := Kd.at_int HR0_2.out x22_2 p178 q178; cases e178; have hn178_0 : ad178.block ≠ gb177 := Nat.ne_of_lt (Nat.lt_of_lt_of_le (by have := World.block_lt_of_cell? _ _ hx178_0; first | rwa [add_block] at this | exact this) GW177.out); have hn178_1 : ad178.block ≠ gb177 := Nat.ne_of_lt (Nat.lt_of_lt_of_le (by have := World.block_lt_of_cell? _ _ hx178_0; first | rwa [add_block] at this | exact this) GW177.out); have hn178_2 : ad178.block ≠ gb177 := Nat.ne_of_lt (Nat.lt_of_lt_of_le (by have := World.block_lt_of_cell? _ _ hx178_0; first | rwa [add_block] at this | exact this) GW177.out); have hn178_3 : ad178.block ≠ gb177 := Nat.ne_of_lt (Nat.lt_of_lt_of_le (by have := World.block_lt_of_cell? _ _ hx178_0; first | rwa [add_block] at this | exact this) GW177.out); have hn178_4 : ad178.block ≠ gb177 := Nat.ne_of_lt (Nat.lt_of_lt_of_le (by have := World.block_lt_of_cell? _ _ hx178_0; first | rwa [add_block] at this | exact this) GW177.out); replace hx178_0 := (HB.out.cell (World.block_lt_of_cell? w _ hx178_0)).trans hx178_0; replace hx178_0 := (cell_far (p := ⟨gb177, 0, none⟩) (by first | (rw [add_block]; exact hn178_0) | (show (Addr.add _ _).block ≠ _; rw [add_block]; exact hn178_0) | exact hn178_0) (.int .i64 ((rd_T80 l0_1 x22_2).f0))).trans hx178_0; replace hx178_0 := (cell_far (p := ⟨gb177, 1, none⟩) (by first | (rw [add_block]; exact hn178_1) | (show (Addr.add _ _).block ≠ _; rw [add_block]; exact hn178_1) | exact hn178_1) (.int .i64 ((rd_T80 l0_1 x22_2).f1))).trans hx178_0; replace hx178_0 := (cell_far (p := ⟨gb177, 2, none⟩) (by first | (rw [add_block]; exact hn178_2) | (show (Addr.add _ _).block ≠ _; rw [add_block]; exact hn178_2) | exact hn178_2) (.int .i64 ((rd_T80 l0_1 x22_2).f2))).trans hx178_0; replace hx178_0 := (cell_far (p := ⟨gb177, 3, none⟩) (by first | (rw [add_block]; exact hn178_3) | (show (Addr.add _ _).block ≠ _; rw [add_block]; exact hn178_3) | exact hn178_3) (.int .i64 ((rd_T80 l0_1 x22_2).f3))).trans hx178_0; replace hx178_0 := (cell_far (p := ⟨gb177, 4, none⟩) (by first | (rw [add_block]; exact hn178_4) | (show (Addr.add _ _).block ≠ _; rw [add_block]; exact hn178_4) | exact hn178_4) (.int .i64 ((rd_T80 l0_1 x22_2).f4))).trans hx178_0; (try have hy178_0 := fun (n_ : Nat) => (show (((((((w19.drewN n_).setCell ⟨gb177, 0, none⟩ (.int .i64 ((rd_T80 l0_1 x22_2).f0))).setCell ⟨gb177, 1, none⟩ (.int .i64 ((rd_T80 l0_1 x22_2).f1))).setCell ⟨gb177, 2, none⟩ (.int .i64 ((rd_T80 l0_1 x22_2).f2))).setCell ⟨gb177, 3, none⟩ (.int .i64 ((rd_T80 l0_1 x22_2).f3))).setCell ⟨gb177, 4, none⟩ (.int .i64 ((rd_T80 l0_1 x22_2).f4)))).cell? _ = some _ from hx178_0)); clear hn178_0; clear hn178_1; clear hn178_2; clear hn178_3; clear hn178_4; replace p178 := eq_true p178; replace q178 := eq_true q178)); try go_wp2_with (first | ((with_reducible refine gate_dst (N := 6) rfl ?_); refine box_event ?hg (N := 6) ?hd (cs := #[.int .i64 0, .int .i64 0, .int .i64 0, .int .i64 0, .int .i64 0]) (t := 80) ?hr ?_; (case hd => rfl); (case hg => rfl); (case hr => first | (go_simp; done) | (go_simp; rfl)); intro gb177 hg w19 hbox hb; have n0_ := Aside0.mk (blk_below (g := gb175) (o := .cells #[.int .i64 a0_0, .slice (some ad176) l0_1.length c0_1, .slice A0_2 l0_2.length c0_2] 87 (0, 0)) (by (with_reducible repeat (first | refine blk_drewN ?_ _ | refine blk_drew ?_ | refine blk_alloc ?_ _)); exact BK175.out) hb); have n1_ := Aside0.mk (below_step (by repeat (first | (with_reducible first | exact HB.out | apply below_alloc | apply pw_below_drewN | apply below_drew1 | refine below_set ?_ GE175.out) | exact HB.out)) hb); have n2_ := Aside0.mk (hbox); have n3_ := Aside0.mk ((by rw [hg]; exact (below_size (by repeat (first | (with_reducible first | exact HB.out | apply below_alloc | apply pw_below_drewN | apply below_drew1 | refine below_set ?_ GE175.out) | exact HB.out))) : w.heap.size ≤ gb177)); have n4_ := Aside0.mk ((by rw [hg]; exact (below_size (by repeat (first | (with_reducible first | exact HB.out | apply below_alloc | apply pw_below_drewN | apply below_drew1 | refine below_set ?_ GE175.out) | exact HB.out))) : w.heap.size ≤ gb177)); have n5_ := Aside0.mk ((by rw [hg]; exact Nat.ne_of_lt (blk_lt (g := gb175) (o := .cells #[.int .i64 a0_0, .slice (some ad176) l0_1.length c0_1, .slice A0_2 l0_2.length c0_2] 87 (0, 0)) (by (with_reducible repeat (first | refine blk_drewN ?_ _ | refine blk_drew ?_ | refine blk_alloc ?_ _)); exact BK175.out)) : gb175 ≠ gb177)); have n6_ := Aside0.mk ((by rw [hg]; exact Nat.ne_of_gt (blk_lt (g := gb175) (o := .cells #[.int .i64 a0_0, .slice (some ad176) l0_1.length c0_1, .slice A0_2 l0_2.length c0_2] 87 (0, 0)) (by (with_reducible repeat (first | refine blk_drewN ?_ _ | refine blk_drew ?_ | refine blk_alloc ?_ _)); exact BK175.out)) : gb177 ≠ gb175)); clear BK175; clear HB; have BK175 := n0_; have HB := n1_; have BK177 := n2_; have GW177 := n3_; have GE177 := n4_; have NB175_177 := n5_; have NB177_175 := n6_; clear n0_ n1_ n2_ n3_ n4_ n5_ n6_; clear hb hbox hg; have hnb20 := NB177_175.out; have hnc20 := NB175_177.out; have hcz21_0 : w19.cell? ⟨gb177, 0, none⟩ = some (.int .i64 0) := (blk_cell BK177.out 0).trans rfl; have hcz21_1 : w19.cell? ⟨gb177, 1, none⟩ = some (.int .i64 0) := (blk_cell BK177.out 1).trans rfl; have hcz21_2 : w19.cell? ⟨gb177, 2, none⟩ = some (.int .i64 0) := (blk_cell BK177.out 2).trans rfl; have hcz21_3 : w19.cell? ⟨gb177, 3, none⟩ = some (.int .i64 0) := (blk_cell BK177.out 3).trans rfl; have hcz21_4 : w19.cell? ⟨gb177, 4, none⟩ = some (.int .i64 0) := (blk_cell BK177.out 4).trans rfl; have hfz21_0 := blk_frozen BK177.out 0; have hfz21_1 := blk_frozen BK177.out 1; have hfz21_2 := blk_frozen BK177.out 2; have hfz21_3 := blk_frozen BK177.out 3; have hfz21_4 := blk_frozen BK177.out 4; have hcz22_0 : w19.cell? ⟨gb175, 0, none⟩ = some (.int .i64 a0_0) := (blk_cell BK175.out 0).trans rfl; have hcz22_1 : w19.cell? ⟨gb175, 1, none⟩ = some (.slice (some ad176) l0_1.length c0_1) := (blk_cell BK175.out 1).trans rfl; have hcz22_2 : w19.cell? ⟨gb175, 2, none⟩ = some (.slice A0_2 l0_2.length c0_2) := (blk_cell BK175.out 2).trans rfl; have hfz22_0 := blk_frozen BK175.out 0; have hfz22_1 := blk_frozen BK175.out 1; have hfz22_2 := blk_frozen BK175.out 2; have p178 : 0 ≤ (x22_2 : Int) := of_decide_eq_true (by first | (with_reducible assumption) | assumption); have q178 : x22_2 < (l0_2.length : Int) := of_decide_eq_true (by first | (with_reducible assumption) | assumption); obtain ⟨ad178, e178, hx178_0⟩ := Kd.at_int HR0_2.out x22_2 p178 q178; cases e178; have hn178_0 : ad178.block ≠ gb177 := Nat.ne_of_lt (Nat.lt_of_lt_of_le (by have := World.block_lt_of_cell? _ _ hx178_0; first | rwa [add_block] at this | exact this) GW177.out); have hn178_1 : ad178.block ≠ gb177 := Nat.ne_of_lt (Nat.lt_of_lt_of_le (by have := World.block_lt_of_cell? _ _ hx178_0; first | rwa [add_block] at this | exact this) GW177.out); have hn178_2 : ad178.block ≠ gb177 := Nat.ne_of_lt (Nat.lt_of_lt_of_le (by have := World.block_lt_of_cell? _ _ hx178_0; first | rwa [add_block] at this | exact this) GW177.out); have hn178_3 : ad178.block ≠ gb177 := Nat.ne_of_lt (Nat.lt_of_lt_of_le (by have := World.block_lt_of_cell? _ _ hx178_0; first | rwa [add_block] at this | exact this) GW177.out); have hn178_4 : ad178.block ≠ gb177 := Nat.ne_of_lt (Nat.lt_of_lt_of_le (by have := World.block_lt_of_cell? _ _ hx178_0; first | rwa [add_block] at this | exact this) GW177.out); replace hx178_0 := (HB.out.cell (World.block_lt_of_cell? w _ hx178_0)).trans hx178_0; replace hx178_0 := (cell_far (p := ⟨gb177, 0, none⟩) (by first | (rw [add_block]; exact hn178_0) | (show (Addr.add _ _).block ≠ _; rw [add_block]; exact hn178_0) | exact hn178_0) (.int .i64 ((rd_T80 l0_1 x22_2).f0))).trans hx178_0; replace hx178_0 := (cell_far (p := ⟨gb177, 1, none⟩) (by first | (rw [add_block]; exact hn178_1) | (show (Addr.add _ _).block ≠ _; rw [add_block]; exact hn178_1) | exact hn178_1) (.int .i64 ((rd_T80 l0_1 x22_2).f1))).trans hx178_0; replace hx178_0 := (cell_far (p := ⟨gb177, 2, none⟩) (by first | (rw [add_block]; exact hn178_2) | (show (Addr.add _ _).block ≠ _; rw [add_block]; exact hn178_2) | exact hn178_2) (.int .i64 ((rd_T80 l0_1 x22_2).f2))).trans hx178_0; replace hx178_0 := (cell_far (p := ⟨gb177, 3, none⟩) (by first | (rw [add_block]; exact hn178_3) | (show (Addr.add _ _).block ≠ _; rw [add_block]; exact hn178_3) | exact hn178_3) (.int .i64 ((rd_T80 l0_1 x22_2).f3))).trans hx178_0; replace hx178_0 := (cell_far (p := ⟨gb177, 4, none⟩) (by first | (rw [add_block]; exact hn178_4) | (show (Addr.add _ _).block ≠ _; rw [add_block]; exact hn178_4) | exact hn178_4) (.int .i64 ((rd_T80 l0_1 x22_2).f4))).trans hx178_0; (try have hy178_0 := fun (n_ : Nat) => (show (((((((w19.drewN n_).setCell ⟨gb177, 0, none⟩ (.int .i64 ((rd_T80 l0_1 x22_2).f0))).setCell ⟨gb177, 1, none⟩ (.int .i64 ((rd_T80 l0_1 x22_2).f1))).setCell ⟨gb177, 2, none⟩ (.int .i64 ((rd_T80 l0_1 x22_2).f2))).setCell ⟨gb177, 3, none⟩ (.int .i64 ((rd_T80 l0_1 x22_2).f3))).setCell ⟨gb177, 4, none⟩ (.int .i64 ((rd_T80 l0_1 x22_2).f4)))).cell? _ = some _ from hx178_0)); clear hn178_0; clear hn178_1; clear hn178_2; clear hn178_3; clear hn178_4; replace p178 := eq_true p178; replace q178 := eq_true q178)))
                        go_roundg k2
                        case measure => have := HJ2.out; have := HK2.out; omega
                        case rel => exact ⟨(wrap64 (x22_2 + 1)), (by first | rfl | (simp; done) | (simp [*]; done)), H', ⟨by have := HJ2.out; have := HK2.out; omega⟩, ⟨by (with_reducible repeat (first | refine blk_drewN ?_ _ | refine blk_drew ?_ | refine blk_alloc ?_ _)); refine blk_far ?_ NB175_177.out _; (with_reducible repeat (first | refine blk_drewN ?_ _ | refine blk_drew ?_ | refine blk_alloc ?_ _)); refine blk_far ?_ NB175_177.out _; (with_reducible repeat (first | refine blk_drewN ?_ _ | refine blk_drew ?_ | refine blk_alloc ?_ _)); refine blk_far ?_ NB175_177.out _; (with_reducible repeat (first | refine blk_drewN ?_ _ | refine blk_drew ?_ | refine blk_alloc ?_ _)); refine blk_far ?_ NB175_177.out _; (with_reducible repeat (first | refine blk_drewN ?_ _ | refine blk_drew ?_ | refine blk_alloc ?_ _)); refine blk_far ?_ NB175_177.out _; (with_reducible repeat (first | refine blk_drewN ?_ _ | refine blk_drew ?_ | refine blk_alloc ?_ _)); exact BK175.out⟩, ⟨by repeat (first | (with_reducible first | exact HB.out | apply below_alloc | apply pw_below_drewN | apply below_drew1 | refine below_set ?_ GE175.out | refine below_set ?_ GE177.out) | exact HB.out)⟩⟩
                    · rw [if_neg c13] at H
                      exact absurd H (by simp)
                  · rw [if_neg c12] at H
                    have c12b0 : (((rd_T80 l0_1 x22_2).f1) == a1) = false := beq_eq_false_iff_ne.mpr c12
                    have c12b1 : (((rd_T80 l0_1 x22_2).f1) != a1) = true := bne_iff_ne.mpr c12
                    have H' := Aside0.mk H
                    clear H
                    have p176 : 0 ≤ (x22_2 : Int) := of_decide_eq_true (by first | (with_reducible assumption) | assumption)
                    have q176 : x22_2 < (l0_1.length : Int) := of_decide_eq_true (by first | (with_reducible assumption) | assumption)
                    obtain ⟨ad176, e176, hx176_0, hx176_1, hx176_2, hx176_3, hx176_4⟩ := at_T80 HR0_1.out x22_2 p176 q176
                    cases e176
                    replace hx176_0 := (HB.out.cell (World.block_lt_of_cell? w _ hx176_0)).trans hx176_0
                    replace hx176_1 := (HB.out.cell (World.block_lt_of_cell? w _ hx176_1)).trans hx176_1
                    replace hx176_2 := (HB.out.cell (World.block_lt_of_cell? w _ hx176_2)).trans hx176_2
                    replace hx176_3 := (HB.out.cell (World.block_lt_of_cell? w _ hx176_3)).trans hx176_3
                    replace hx176_4 := (HB.out.cell (World.block_lt_of_cell? w _ hx176_4)).trans hx176_4
                    replace p176 := eq_true p176
                    replace q176 := eq_true q176
                    go_wp2_with (first | ((with_reducible refine gate_dst (N := 6) rfl ?_); refine box_event ?hg (N := 6) ?hd (cs := #[.int .i64 0, .int .i64 0, .int .i64 0, .int .i64 0, .int .i64 0]) (t := 80) ?hr ?_; (case hd => rfl); (case hg => rfl); (case hr => first | (go_simp; done) | (go_simp; rfl)); intro gb177 hg w23 hbox hb; have n0_ := Aside0.mk (blk_below (g := gb175) (o := .cells #[.int .i64 a0_0, .slice (some ad176) l0_1.length c0_1, .slice A0_2 l0_2.length c0_2] 87 (0, 0)) (by (with_reducible repeat (first | refine blk_drewN ?_ _ | refine blk_drew ?_ | refine blk_alloc ?_ _)); exact BK175.out) hb); have n1_ := Aside0.mk (below_step (by repeat (first | (with_reducible first | exact HB.out | apply below_alloc | apply pw_below_drewN | apply below_drew1 | refine below_set ?_ GE175.out) | exact HB.out)) hb); have n2_ := Aside0.mk (hbox); have n3_ := Aside0.mk ((by rw [hg]; exact (below_size (by repeat (first | (with_reducible first | exact HB.out | apply below_alloc | apply pw_below_drewN | apply below_drew1 | refine below_set ?_ GE175.out) | exact HB.out))) : w.heap.size ≤ gb177)); have n4_ := Aside0.mk ((by rw [hg]; exact (below_size (by repeat (first | (with_reducible first | exact HB.out | apply below_alloc | apply pw_below_drewN | apply below_drew1 | refine below_set ?_ GE175.out) | exact HB.out))) : w.heap.size ≤ gb177)); have n5_ := Aside0.mk ((by rw [hg]; exact Nat.ne_of_lt (blk_lt (g := gb175) (o := .cells #[.int .i64 a0_0, .slice (some ad176) l0_1.length c0_1, .slice A0_2 l0_2.length c0_2] 87 (0, 0)) (by (with_reducible repeat (first | refine blk_drewN ?_ _ | refine blk_drew ?_ | refine blk_alloc ?_ _)); exact BK175.out)) : gb175 ≠ gb177)); have n6_ := Aside0.mk ((by rw [hg]; exact Nat.ne_of_gt (blk_lt (g := gb175) (o := .cells #[.int .i64 a0_0, .slice (some ad176) l0_1.length c0_1, .slice A0_2 l0_2.length c0_2] 87 (0, 0)) (by (with_reducible repeat (first | refine blk_drewN ?_ _ | refine blk_drew ?_ | refine blk_alloc ?_ _)); exact BK175.out)) : gb177 ≠ gb175)); clear BK175; clear HB; have BK175 := n0_; have HB := n1_; have BK177 := n2_; have GW177 := n3_; have GE177 := n4_; have NB175_177 := n5_; have NB177_175 := n6_; clear n0_ n1_ n2_ n3_ n4_ n5_ n6_; clear hb hbox hg; have hnb24 := NB177_175.out; have hnc24 := NB175_177.out; have hcz25_0 : w23.cell? ⟨gb177, 0, none⟩ = some (.int .i64 0) := (blk_cell BK177.out 0).trans rfl; have hcz25_1 : w23.cell? ⟨gb177, 1, none⟩ = some (.int .i64 0) := (blk_cell BK177.out 1).trans rfl; have hcz25_2 : w23.cell? ⟨gb177, 2, none⟩ = some (.int .i64 0) := (blk_cell BK177.out 2).trans rfl; have hcz25_3 : w23.cell? ⟨gb177, 3, none⟩ = some (.int .i64 0) := (blk_cell BK177.out 3).trans rfl; have hcz25_4 : w23.cell? ⟨gb177, 4, none⟩ = some (.int .i64 0) := (blk_cell BK177.out 4).trans rfl; have hfz25_0 := blk_frozen BK177.out 0; have hfz25_1 := blk_frozen BK177.out 1; have hfz25_2 := blk_frozen BK177.out 2; have hfz25_3 := blk_frozen BK177.out 3; have hfz25_4 := blk_frozen BK177.out 4))
                    repeat (go_quiet (first | ((with_reducible refine gate_dst (N := 6) rfl ?_); refine box_event ?hg (N := 6) ?hd (cs := #[.int .i64 0, .int .i64 0, .int .i64 0, .int .i64 0, .int .i64 0]) (t := 80) ?hr ?_; (case hd => rfl); (case hg => rfl); (case hr => first | (go_simp; done) | (go_simp; rfl)); intro gb177 hg w23 hbox hb; have n0_ := Aside0.mk (blk_below (g := gb175) (o := .cells #[.int .i64 a0_0, .slice (some ad176) l0_1.length c0_1, .slice A0_2 l0_2.length c0_2] 87 (0, 0)) (by (with_reducible repeat (first | refine blk_drewN ?_ _ | refine blk_drew ?_ | refine blk_alloc ?_ _)); exact BK175.out) hb); have n1_ := Aside0.mk (below_step (by repeat (first | (with_reducible first | exact HB.out | apply below_alloc | apply pw_below_drewN | apply below_drew1 | refine below_set ?_ GE175.out) | exact HB.out)) hb); have n2_ := Aside0.mk (hbox); have n3_ := Aside0.mk ((by rw [hg]; exact (below_size (by repeat (first | (with_reducible first | exact HB.out | apply below_alloc | apply pw_below_drewN | apply below_drew1 | refine below_set ?_ GE175.out) | exact HB.out))) : w.heap.size ≤ gb177)); have n4_ := Aside0.mk ((by rw [hg]; exact (below_size (by repeat (first | (with_reducible first | exact HB.out | apply below_alloc | apply pw_below_drewN | apply below_drew1 | refine below_set ?_ GE175.out) | exact HB.out))) : w.heap.size ≤ gb177)); have n5_ := Aside0.mk ((by rw [hg]; exact Nat.ne_of_lt (blk_lt (g := gb175) (o := .cells #[.int .i64 a0_0, .slice (some ad176) l0_1.length c0_1, .slice A0_2 l0_2.length c0_2] 87 (0, 0)) (by (with_reducible repeat (first | refine blk_drewN ?_ _ | refine blk_drew ?_ | refine blk_alloc ?_ _)); exact BK175.out)) : gb175 ≠ gb177)); have n6_ := Aside0.mk ((by rw [hg]; exact Nat.ne_of_gt (blk_lt (g := gb175) (o := .cells #[.int .i64 a0_0, .slice (some ad176) l0_1.length c0_1, .slice A0_2 l0_2.length c0_2] 87 (0, 0)) (by (with_reducible repeat (first | refine blk_drewN ?_ _ | refine blk_drew ?_ | refine blk_alloc ?_ _)); exact BK175.out)) : gb177 ≠ gb175)); clear BK175; clear HB; have BK175 := n0_; have HB := n1_; have BK177 := n2_; have GW177 := n3_; have GE177 := n4_; have NB175_177 := n5_; have NB177_175 := n6_; clear n0_ n1_ n2_ n3_ n4_ n5_ n6_; clear hb hbox hg; have hnb24 := NB177_175.out; have hnc24 := NB175_177.out; have hcz25_0 : w23.cell? ⟨gb177, 0, none⟩ = some (.int .i64 0) := (blk_cell BK177.out 0).trans rfl; have hcz25_1 : w23.cell? ⟨gb177, 1, none⟩ = some (.int .i64 0) := (blk_cell BK177.out 1).trans rfl; have hcz25_2 : w23.cell? ⟨gb177, 2, none⟩ = some (.int .i64 0) := (blk_cell BK177.out 2).trans rfl; have hcz25_3 : w23.cell? ⟨gb177, 3, none⟩ = some (.int .i64 0) := (blk_cell BK177.out 3).trans rfl; have hcz25_4 : w23.cell? ⟨gb177, 4, none⟩ = some (.int .i64 0) := (blk_cell BK177.out 4).trans rfl; have hfz25_0 := blk_frozen BK177.out 0; have hfz25_1 := blk_frozen BK177.out 1; have hfz25_2 := blk_frozen BK177.out 2; have hfz25_3 := blk_frozen BK177.out 3; have hfz25_4 := blk_frozen BK177.out 4)); try go_wp2_with (first | ((with_reducible refine gate_dst (N := 6) rfl ?_); refine box_event ?hg (N := 6) ?hd (cs := #[.int .i64 0, .int .i64 0, .int .i64 0, .int .i64 0, .int .i64 0]) (t := 80) ?hr ?_; (case hd => rfl); (case hg => rfl); (case hr => first | (go_simp; done) | (go_simp; rfl)); intro gb177 hg w23 hbox hb; have n0_ := Aside0.mk (blk_below (g := gb175) (o := .cells #[.int .i64 a0_0, .slice (some ad176) l0_1.length c0_1, .slice A0_2 l0_2.length c0_2] 87 (0, 0)) (by (with_reducible repeat (first | refine blk_drewN ?_ _ | refine blk_drew ?_ | refine blk_alloc ?_ _)); exact BK175.out) hb); have n1_ := Aside0.mk (below_step (by repeat (first | (with_reducible first | exact HB.out | apply below_alloc | apply pw_below_drewN | apply below_drew1 | refine below_set ?_ GE175.out) | exact HB.out)) hb); have n2_ := Aside0.mk (hbox); have n3_ := Aside0.mk ((by rw [hg]; exact (below_size (by repeat (first | (with_reducible first | exact HB.out | apply below_alloc | apply pw_below_drewN | apply below_drew1 | refine below_set ?_ GE175.out) | exact HB.out))) : w.heap.size ≤ gb177)); have n4_ := Aside0.mk ((by rw [hg]; exact (below_size (by repeat (first | (with_reducible first | exact HB.out | apply below_alloc | apply pw_below_drewN | apply below_drew1 | refine below_set ?_ GE175.out) | exact HB.out))) : w.heap.size ≤ gb177)); have n5_ := Aside0.mk ((by rw [hg]; exact Nat.ne_of_lt (blk_lt (g := gb175) (o := .cells #[.int .i64 a0_0, .slice (some ad176) l0_1.length c0_1, .slice A0_2 l0_2.length c0_2] 87 (0, 0)) (by (with_reducible repeat (first | refine blk_drewN ?_ _ | refine blk_drew ?_ | refine blk_alloc ?_ _)); exact BK175.out)) : gb175 ≠ gb177)); have n6_ := Aside0.mk ((by rw [hg]; exact Nat.ne_of_gt (blk_lt (g := gb175) (o := .cells #[.int .i64 a0_0, .slice (some ad176) l0_1.length c0_1, .slice A0_2 l0_2.length c0_2] 87 (0, 0)) (by (with_reducible repeat (first | refine blk_drewN ?_ _ | refine blk_drew ?_ | refine blk_alloc ?_ _)); exact BK175.out)) : gb177 ≠ gb175)); clear BK175; clear HB; have BK175 := n0_; have HB := n1_; have BK177 := n2_; have GW177 := n3_; have GE177 := n4_; have NB175_177 := n5_; have NB177_175 := n6_; clear n0_ n1_ n2_ n3_ n4_ n5_ n6_; clear hb hbox hg; have hnb24 := NB177_175.out; have hnc24 := NB175_177.out; have hcz25_0 : w23.cell? ⟨gb177, 0, none⟩ = some (.int .i64 0) := (blk_cell BK177.out 0).trans rfl; have hcz25_1 : w23.cell? ⟨gb177, 1, none⟩ = some (.int .i64 0) := (blk_cell BK177.out 1).trans rfl; have hcz25_2 : w23.cell? ⟨gb177, 2, none⟩ = some (.int .i64 0) := (blk_cell BK177.out 2).trans rfl; have hcz25_3 : w23.cell? ⟨gb177, 3, none⟩ = some (.int .i64 0) := (blk_cell BK177.out 3).trans rfl; have hcz25_4 : w23.cell? ⟨gb177, 4, none⟩ = some (.int .i64 0) := (blk_cell BK177.out 4).trans rfl; have hfz25_0 := blk_frozen BK177.out 0; have hfz25_1 := blk_frozen BK177.out 1; have hfz25_2 := blk_frozen BK177.out 2; have hfz25_3 := blk_frozen BK177.out 3; have hfz25_4 := blk_frozen BK177.out 4)))
                    go_roundg k2
                    case measure => have := HJ2.out; have := HK2.out; omega
                    case rel => exact ⟨(wrap64 (x22_2 + 1)), (by first | rfl | (simp; done) | (simp [*]; done)), H', ⟨by have := HJ2.out; have := HK2.out; omega⟩, ⟨by (with_reducible repeat (first | refine blk_drewN ?_ _ | refine blk_drew ?_ | refine blk_alloc ?_ _)); refine blk_far ?_ NB175_177.out _; (with_reducible repeat (first | refine blk_drewN ?_ _ | refine blk_drew ?_ | refine blk_alloc ?_ _)); refine blk_far ?_ NB175_177.out _; (with_reducible repeat (first | refine blk_drewN ?_ _ | refine blk_drew ?_ | refine blk_alloc ?_ _)); refine blk_far ?_ NB175_177.out _; (with_reducible repeat (first | refine blk_drewN ?_ _ | refine blk_drew ?_ | refine blk_alloc ?_ _)); refine blk_far ?_ NB175_177.out _; (with_reducible repeat (first | refine blk_drewN ?_ _ | refine blk_drew ?_ | refine blk_alloc ?_ _)); refine blk_far ?_ NB175_177.out _; (with_reducible repeat (first | refine blk_drewN ?_ _ | refine blk_drew ?_ | refine blk_alloc ?_ _)); exact BK175.out⟩, ⟨by repeat (first | (with_reducible first | exact HB.out | apply below_alloc | apply pw_below_drewN | apply below_drew1 | refine below_set ?_ GE175.out | refine below_set ?_ GE177.out) | exact HB.out)⟩⟩
                · rw [if_neg c11] at H
                  exact absurd H (by simp)
              · rw [if_neg c10] at H
                exact absurd H (by simp)
            · rw [if_neg c9] at H
              have c9b0 : decide (x22_2 < (l0_1.length : Int)) = false := decide_eq_false c9
              clear c9
              obtain rfl := Option.some.inj H
              go_wp2
              repeat (go_quiet (fail); try go_wp2)
              go_ret
              exact ⟨by first | rfl | (simp [errW_none, errW_some] <;> rfl) | (simp [*, errW_none, errW_some] <;> rfl), by repeat (first | (with_reducible first | exact HB.out | apply below_alloc | apply pw_below_drewN | apply below_drew1 | refine below_set ?_ GE175.out) | exact HB.out)⟩

def fireLoop (k : Nat) (a0 : Int) (l1 : List S80) (ord : List Int) : Nat → Int → List Int → Option (List Int × Int)
  | 0, _, lie => some (lie, -1)
  | d + 1, i, lie => (impl_net_can.f k a0 l1 lie (rd ord i)).bind fun t => if t = true then fireLoop k a0 l1 ord d (i + 1) (frGo l1 (rd ord i) l1.length 0 lie) else some (lie, i)
def impl_Fire.f (k : Nat) (a0 : Int) (l1 : List S80) (l2 : List Int) : Option (List Int × Int) := (impl_WiresOk.f k a0 l1).bind fun t => if t = true then (if l2.length ≤ 2000 then (if l1.length ≤ 1000000 then fireLoop k a0 l1 l2 l2.length 0 (l1.map (·.f4)) else none) else some ([], -2)) else some ([], -2)
theorem fireLoop.mono (a0 : Int) (l1 : List S80) (ord : List Int) (k : Nat) : ∀ (d : Nat) (i : Int) (lie : List Int), LeO (fireLoop k a0 l1 ord d i lie) (fireLoop (k + 1) a0 l1 ord d i lie)
  | 0, _, _ => LeO.refl _
  | d + 1, i, lie => by
    unfold fireLoop
    exact LeO.bind (impl_net_can.mono _ _ _ _ _) (fun t => LeO.ite (fireLoop.mono a0 l1 ord k d _ _) (LeO.refl _))
theorem impl_Fire.mono : ∀ a0 a1 a2 k, LeO (impl_Fire.f k a0 a1 a2) (impl_Fire.f (k + 1) a0 a1 a2) := by
  intro a0 a1 a2 k
  unfold impl_Fire.f
  exact LeO.bind (impl_WiresOk.mono _ _ _) (fun t => LeO.ite (LeO.ite (LeO.ite (fireLoop.mono _ _ _ _ _ _ _) (LeO.refl _)) (LeO.refl _)) (LeO.refl _))
theorem fire_next {k : Nat} {a0 : Int} {l1 : List S80} {ord : List Int} {d : Nat} {i : Int} {lie : List Int} {r : List Int × Int} (h : fireLoop k a0 l1 ord (d + 1) i lie = some r) : ∃ t, impl_net_can.f k a0 l1 lie (rd ord i) = some t ∧ (if t = true then fireLoop k a0 l1 ord d (i + 1) (frGo l1 (rd ord i) l1.length 0 lie) else some (lie, i)) = some r := Option.bind_eq_some_iff.mp h
set_option maxHeartbeats 8000000 in
set_option maxRecDepth 100000 in
theorem impl_Fire.calls (k : Nat) (a0 : Int) (A1 : Option Addr) (c1 : Nat) (l1 : List (S80)) (A2 : Option Addr) (c2 : Nat) (l2 : List Int) (r1 : List Int) (r2 : Int) (w : World) (hr1 : Kd.C k80 w A1 l1.length l1) (hc1 : l1.length ≤ c1) (hr2 : Kd.C (Kd.int .i64) w A2 l2.length l2) (hc2 : l2.length ≤ c2) (h : impl_Fire.f k a0 l1 l2 = some (r1, r2)) :
    Calls Try.prog 13 #[.int .i64 a0, .slice A1 l1.length c1, .slice A2 l2.length c2] w fun e w' => ∃ v0_ : Value, e = .returned (.tuple #[v0_, .int .i64 r2]) ∧ Kd.R (Kd.int .i64) 3 w' w.heap.size (fun _ => True) v0_ r1 ∧ Below w.heap.size w w' := by
  have HR1 := Aside0.mk hr1
  have HR2 := Aside0.mk hr2
  clear hr1 hr2
  obtain ⟨t, ht, h2⟩ := Option.bind_eq_some_iff.mp h
  clear h
  have HT := Aside0.mk ht
  clear ht
  cases t with
  | false =>
    rw [if_neg (by decide)] at h2
    obtain ⟨rfl, rfl⟩ : [] = r1 ∧ -2 = r2 := by simpa using h2
    go_enter Try.func13, Try.ntmps13
    go_wp2_with (go_at_call 52; (with_reducible refine (impl_WiresOk.calls k a0 A1 c1 l1 false _ HR1.out hc1 HT.out).mono ?_); rintro e w2 ⟨rfl, hb⟩)
    go_ret2
    exact ⟨_, rfl, Kd.R_nil _ _ _ _ _, hb⟩
  | true =>
    rw [if_pos rfl] at h2
    by_cases hn : l2.length ≤ 2000
    · rw [if_pos hn] at h2
      by_cases hl : l1.length ≤ 1000000
      case neg => rw [if_neg hl] at h2; cases h2
      rw [if_pos hl] at h2
      have c2b : decide (2000 < (l2.length : Int)) = false := decide_eq_false (by omega)
      have HL := Aside0.mk hl
      have HF := Aside0.mk h2
      have HN := Aside0.mk hn
      clear hn hl h2
      go_enter Try.func13, Try.ntmps13
      go_wp2_with (first | (go_at_call 52; (with_reducible refine (impl_WiresOk.calls k a0 A1 c1 l1 true _ HR1.out hc1 HT.out).mono ?_); rintro e w2 ⟨rfl, hb⟩; have HB2 := Aside0.mk hb; clear hb) | (go_at_call 53; (with_reducible refine (netOf_calls a0 A1 c1 l1 _ (Kd.C_below HR1.out HB2.out) HL.out).mono ?_); rintro e w3 ⟨g, v, rfl, hg, hbk, ho, hb⟩; have HG := Aside0.mk (Nat.le_trans (below_size HB2.out) hg); have BK := Aside0.mk hbk; have HO := Aside0.mk (Kd.R_lower ho (below_size HB2.out)); have HB := Aside0.mk (below_step HB2.out hb); clear hg hbk ho hb))
      obtain ⟨Av, cv, ev, hcv, _⟩ := Kd.R_reads HO.out
      rw [List.length_map] at ev hcv
      subst ev
      have hz : ∃ lie, fireLoop k a0 l1 l2 l2.length 0 lie = some (r1, r2) ∧ lie.length = l1.length ∧ Kd.R (Kd.int .i64) 3 w3 w.heap.size (fun _ => True) (.slice Av l1.length cv) lie := ⟨_, HF.out, by simp, HO.out⟩
      clear HO HF
      (try simp only [Act.put, List.setIfInBounds_toArray, List.set_cons_zero, List.set_cons_succ])
      go_loopw [25] (fun u25 W => ∃ (i : Int) (lie : List Int), u25 = .int .i64 i ∧ Aside0 ((0 ≤ i ∧ i ≤ (l2.length : Int)) ∧ lie.length = l1.length) ∧ Aside0 (fireLoop k a0 l1 l2 (l2.length - i.toNat) i lie = some (r1, r2)) ∧ Aside0 (W.heap[g]? = some (.cells #[.int .i64 a0, .slice A1 l1.length c1, .slice Av l1.length cv] 87 (0, 0))) ∧ Aside0 (Kd.R (Kd.int .i64) 3 W w.heap.size (fun _ => True) (.slice Av l1.length cv) lie) ∧ Aside0 (Below w.heap.size w W)) (fun v _ => l2.length - (match v with | .int _ n => n.toNat | _ => 0))
      case atStart =>
        obtain ⟨lie, z1, z2, z3⟩ := hz
        exact ⟨0, lie, rfl, ⟨⟨by omega, z2⟩⟩, ⟨by simpa using z1⟩, BK, ⟨z3⟩, HB⟩
      case round =>
        clear hz BK HB
        obtain ⟨i, lie, rfl, HI, HF, BK, HO, HB⟩ := hrel
        by_cases hi : i < (l2.length : Int)
        · have hlt : decide (i < (l2.length : Int)) = true := decide_eq_true hi
          obtain ⟨ad, e0, hx_0⟩ := Kd.at_int HR2.out i HI.out.1.1 hi
          subst e0
          replace hx_0 := (HB.out.cell (World.block_lt_of_cell? w _ hx_0)).trans hx_0
          have HF2 := HF.out
          rw [show l2.length - i.toNat = (l2.length - (i + 1).toNat) + 1 by have := HI.out; omega] at HF2
          obtain ⟨t, hcan, hnx⟩ := fire_next HF2
          clear HF HF2
          have p1 := eq_true HI.out.1.1
          have q1 := eq_true hi
          have HQ := Aside0.mk hi
          have HC := Aside0.mk hcan
          have HW1 := Aside0.mk (net_wrap HI.out.1.1 hi (Nat.le_trans HN.out (by decide)))
          have HCL : Aside0 (∀ W2, W2 = wr → Kd.C (Kd.int .i64) W2 Av lie.length lie) := ⟨fun W2 e => e ▸ (Kd.R_reads' HO.out).2.2⟩
          clear hi hcan
          cases t with
          | true =>
            rw [if_pos rfl] at hnx
            have HX := Aside0.mk hnx
            clear hnx
            have hlen2 := HI.out.2
            go_wp2_with (first | (go_at_call 54; (with_reducible refine (impl_net_can.calls k a0 A1 c1 l1 Av cv lie (rd l2 i) true g _ (by rw [hlen2]; exact BK.out) (Kd.C_below HR1.out HB.out) hc1 (HCL.out _ rfl) (by rw [hlen2]; exact hcv) HC.out).mono ?_); rintro e w4 ⟨rfl, hb⟩; have n0_ := Aside0.mk (blk_below BK.out hb); have n1_ := Aside0.mk (Kd.R_below HO.out hb); have n2_ := Aside0.mk (below_step HB.out hb); clear BK HO HB hb HCL; have BK := n0_; have HO := n1_; have HB := n2_; clear n0_ n1_ n2_) | (go_at_call 55; (with_reducible refine (fire_calls a0 (rd l2 i) A1 c1 l1 g (.slice Av l1.length cv) lie w _ HR1.out HL.out hlen2 HB.out BK.out HO.out).mono ?_); rintro e w5 ⟨rfl, hbk, ho, hb, hkv⟩))
            go_roundw
            case rel => exact ⟨i + 1, _, by rw [HW1.out], ⟨⟨by have := HQ.out; have := HI.out; omega, by rw [frGo_len]; exact hlen2⟩⟩, HX, ⟨hbk⟩, ⟨ho⟩, ⟨hb⟩⟩
            case measure => have := HQ.out; have := HI.out; rw [HW1.out]; simp; omega
          | false =>
            rw [if_neg (by decide)] at hnx
            obtain ⟨rfl, rfl⟩ := Prod.mk.inj (Option.some.inj hnx)
            clear hnx
            have hlen2 := HI.out.2
            go_wp2_with (first | (go_at_call 54; (with_reducible refine (impl_net_can.calls k a0 A1 c1 l1 Av cv lie (rd l2 i) false g _ (by rw [hlen2]; exact BK.out) (Kd.C_below HR1.out HB.out) hc1 (HCL.out _ rfl) (by rw [hlen2]; exact hcv) HC.out).mono ?_); rintro e w4 ⟨rfl, hb⟩; have n0_ := Aside0.mk (blk_below BK.out hb); have n1_ := Aside0.mk (Kd.R_below HO.out hb); have n2_ := Aside0.mk (below_step HB.out hb); clear BK HO HB hb HCL; have BK := n0_; have HO := n1_; have HB := n2_; clear n0_ n1_ n2_; have hck_2 : w4.cell? ⟨g, 2, none⟩ = some (.slice Av l1.length cv) := (blk_cell BK.out 2).trans rfl))
            go_ret2
            exact ⟨_, rfl, HO.out, HB.out⟩
        · have hlt : decide (i < (l2.length : Int)) = false := decide_eq_false hi
          have HQ := Aside0.mk hi
          clear hi
          have hck_2 : wr.cell? ⟨g, 2, none⟩ = some (.slice Av l1.length cv) := (blk_cell BK.out 2).trans rfl
          have e : fireLoop k a0 l1 l2 (l2.length - i.toNat) i lie = some (lie, -1) := by rw [show l2.length - i.toNat = 0 by have := HI.out; have := HQ.out; omega]; rfl
          have e2 := HF.out
          rw [e] at e2
          obtain ⟨rfl, rfl⟩ := Prod.mk.inj (Option.some.inj e2)
          clear e e2
          go_wp2
          go_ret2
          exact ⟨_, rfl, HO.out, HB.out⟩
    · rw [if_neg hn] at h2
      obtain ⟨rfl, rfl⟩ : [] = r1 ∧ -2 = r2 := by simpa using h2
      have c2b : decide (2000 < (l2.length : Int)) = true := decide_eq_true (by omega)
      go_enter Try.func13, Try.ntmps13
      go_wp2_with (go_at_call 52; (with_reducible refine (impl_WiresOk.calls k a0 A1 c1 l1 true _ HR1.out hc1 HT.out).mono ?_); rintro e w2 ⟨rfl, hb⟩)
      go_ret2
      exact ⟨_, rfl, Kd.R_nil _ _ _ _ _, hb⟩


end Go.Proofs.Ytckadpomhdjkhaa.PFnExactRoom
