-- Written by a turned copy of the print (see the notes of this repo): plain functions and their walks. Lean checks it.
import Derived.Test.YtckadpomhdjkhaaPFnExactWiringx0
import Derived.Test.YtckadpomhdjkhaaPFnExactWiringx8
namespace Go.Proofs.Ytckadpomhdjkhaa.PFnExactWiring
open Go.RowKit Go.Proofs.YtckadpomhdjkhaaW.PrintWords Go.Proofs.YtckadpomhdjkhaaW.PrintLast Go.Proofs.YtckadpomhdjkhaaW.PrintMore
attribute [local go_sem] max2_int min2_int max_two min_two max_three min_three max_four min_four   -- for this text's walks alone
set_option linter.unusedVariables false
set_option linter.unusedSimpArgs false

/-! ### impl_PlanOk: function 24 -/
def po_key (s : ByteArray) : Lit := .string s.data.toList
def po_keys (l : List S94) (n : Nat) : List Lit := (l.take n).map fun x => po_key x.f0
def po_seen (l : List S94) (i : Int) : Bool := (l.take i.toNat).any fun x => decide (x.f0 = (rd_T94 l i).f0)
def po_D (l : List S94) (i : Int) : DataW Unit := Maps.setOf (.lit (.bool true)) (po_keys l i.toNat)
theorem po_isKey (l : List S94) (n : Nat) : ∀ x ∈ po_keys l n, WideAt.IsKeyLit x := by
 intro x hx
 obtain ⟨y, _, rfl⟩ := List.mem_map.1 hx
 trivial
theorem po_sameKey (a b : ByteArray) : (po_key a).sameKey (po_key b) = decide (a = b) := by
 by_cases h : a = b
 case pos =>
  subst h
  rw [zE rfl]
  simp [po_key, Lit.sameKey]
 rw [decide_eq_false h]
 refine Bool.eq_false_iff.mpr fun hs => h ?_
 have := WideAt.sameKey_eq hs
 simp only [po_key, Lit.string.injEq] at this
 cases a with | mk da => cases b with | mk db =>
 cases da; cases db
 simp_all
theorem po_at (u z : DataW Unit) (kl : Lit) (hk : WideAt.IsKeyLit kl) : ∀ (ks : List Lit) (m : DataW Unit), Maps.IsMap m → m.atKey kl z = (if Maps.has m kl = true then u else z) → (∀ x ∈ ks, WideAt.IsKeyLit x) →
 (ks.foldl (fun m x => m.put x u) m).atKey kl z = if (Maps.has m kl || ks.any (fun x => x.sameKey kl)) = true then u else z
 | [], m, _, hm, _ => by simpa using hm
 | x :: ks, m, hM, hm, hx => by
  have hxk := hx x List.mem_cons_self
  rw [List.foldl_cons, po_at u z kl hk ks (m.put x u) (hM.put x u) ?_ (fun y hy => hx y (List.mem_cons_of_mem _ hy))]
  ·by_cases he : x = kl
   case neg =>
    rw [Maps.has_put_other (Ne.symm he), List.any_cons, Maps.sameKey_ne he]
    simp
   subst he
   rw [Maps.has_put_same hM hk]
   have hs : x.sameKey x = true := by cases x <;> simp_all [Lit.sameKey, WideAt.IsKeyLit]
   simp [hs]
  ·by_cases he : x = kl
   case pos =>
    subst he
    rw [Maps.atKey_put_same hM hk, Maps.has_put_same hM hk]
    rfl
   rw [Maps.atKey_put_other (Ne.symm he), Maps.has_put_other (Ne.symm he)]
   exact hm
theorem po_atKey (l : List S94) (i : Int) : (po_D l i).atKey (po_key (rd_T94 l i).f0) (.lit (.bool false)) = .lit (.bool (po_seen l i)) := by
 unfold po_D Maps.setOf
 rw [po_at _ _ _ (show WideAt.IsKeyLit (po_key (rd_T94 l i).f0) from trivial) _ _ Maps.isMap_empty rfl (po_isKey l _)]
 have e : (po_keys l i.toNat).any (fun x => x.sameKey (po_key (rd_T94 l i).f0)) = po_seen l i := by
  unfold po_keys po_seen
  rw [List.any_map]
  congr 1
  funext x
  exact po_sameKey _ _
 rw [e]
 have e2 : Maps.has (DataW.map [] : DataW Unit) (po_key (rd_T94 l i).f0) = false := rfl
 rw [e2, Bool.false_or]
 cases po_seen l i <;> rfl
theorem po_D_succ (l : List S94) (i : Int) (h0 : 0 ≤ i) (h1 : i < (l.length : Int)) : (po_D l i).put (po_key (rd_T94 l i).f0) (.lit (.bool true)) = po_D l (i + 1) := by
 unfold po_D
 rw [← Maps.setOf_snoc]
 congr 1
 unfold po_keys rd_T94
 have hl : i.toNat < l.length := by omega
 rw [show (i + 1).toNat = i.toNat + 1 by omega, List.take_add_one, List.map_append, List.getElem?_eq_getElem hl, List.getD_eq_getElem?_getD, List.getElem?_eq_getElem hl]
 rfl
def po_own (w : World) (g : Nat) (l : List S94) (i : Int) : Prop := w.ownsMap Try.prog 9 (plainElem (H := Unit) Try.prog 4) g i.toNat (po_D l i)
theorem po_zero (w : World) : (zeroValue 4).run Try.prog w = .ok (.bool false) w := by kernel_rfl
theorem po_keyOf (s : ByteArray) (hs : s.size ≤ 1048576) : keyOf Try.prog 9 (.string s) = some (po_key s) := WideMaps.keyOf_string_mk Try.underlying9 (by unfold maxLen; omega)
theorem po_bool {v : Value} {b : Bool} {ps : List MemPlace} (h : plainElem (H := Unit) Try.prog 4 v = some (.lit (.bool b), ps)) : v = .bool b := by
 have hu := Try.underlying4
 revert h
 unfold plainElem
 generalize Program.underlying Try.prog 4 = u at hu ⊢
 subst hu
 intro h
 cases v <;> simp at h
 rw [h.1]
theorem po_look {w : World} {g : Nat} {l : List S94} {i : Int} (h : po_own w g l i) (hs : ((rd_T94 l i).f0).size ≤ 1048576) : (Instr.lookup 101 (.map (some g)) (.string (rd_T94 l i).f0) false).run Try.prog w = .ok (.bool (po_seen l i)) w := by
 obtain ⟨v, ps, hrun, hv⟩ := World.ownsMap.lookup h (Maps.string_keyed Try.underlying9) Try.underlying101 (po_zero w) (plainElem_bool Try.underlying4 false) (po_keyOf _ hs)
 rw [hrun]
 rw [po_atKey] at hv
 rw [po_bool hv]
theorem po_made (w : World) (l : List S94) : po_own (w.alloc (.map #[] 0)) w.heap.size l 0 := by
 unfold po_own po_D po_keys
 exact World.ownsMap_made _ _ _ _
theorem po_below {w w1 : World} {g : Nat} {l : List S94} {i : Int} (h : po_own w g l i) (hb : Below w.heap.size w w1) : po_own w1 g l i := by
 have hlt := World.ownsMap.lt h
 obtain ⟨es, clock, hb0, F, hs, hD⟩ := h
 exact ⟨es, clock, (hb.block g hlt).trans hb0, F, hs, hD⟩
theorem po_alloc {w : World} {g : Nat} {l : List S94} {i : Int} (h : po_own w g l i) (o : Obj) : po_own (w.alloc o) g l i := World.ownsMap.alloc h o
theorem po_drew {w : World} {g : Nat} {l : List S94} {i : Int} (h : po_own w g l i) : po_own w.drew g l i := h
theorem po_drewN {w : World} {g : Nat} {l : List S94} {i : Int} (h : po_own w g l i) (n : Nat) : po_own (w.drewN n) g l i := by
 obtain ⟨es, clock, hb0, F, hs, hD⟩ := h
 exact ⟨es, clock, by rw [← hb0]; simp, F, hs, hD⟩
theorem po_far {w : World} {g g2 j : Nat} {l : List S94} {i : Int} (h : po_own w g l i) (hne : g ≠ g2) (u : Value) : po_own (w.setCell ⟨g2, j, none⟩ u) g l i := World.ownsMap.setCell h hne u
theorem po_lt {w : World} {g : Nat} {l : List S94} {i : Int} (h : po_own w g l i) : g < w.heap.size := World.ownsMap.lt h
theorem po_blk {w w1 : World} {g gm : Nat} {o : Obj} (h : w.heap[g]? = some o) (hne : g ≠ gm) (hg : w.grownBy w1 (some gm)) : w1.heap[g]? = some o :=
 (hg.block g (Array.getElem?_eq_some_iff.1 h).1 (by simpa using hne)).trans h
theorem po_bel {w0 w w1 : World} {base gm : Nat} (h : Below base w0 w) (hb : base ≤ gm) (hg : w.grownBy w1 (some gm)) (hs : base ≤ w.heap.size) : Below base w0 w1 :=
 h.grown hg hs (fun j hj => by injection hj with hj; omega)
theorem po_wrap {i : Int} {n : Nat} (h0 : 0 ≤ i) (h1 : i < (n : Int)) (h2 : n ≤ 9223372036854775807) : wrap64 (i + 1) = i + 1 := by
 unfold wrap64; omega
theorem po_step {w : World} {g : Nat} {l : List S94} {i : Int} (h : w.ownsMap Try.prog 9 (plainElem (H := Unit) Try.prog 4) g (i.toNat + 1) ((po_D l i).put (po_key (rd_T94 l i).f0) (.lit (.bool true)))) (h0 : 0 ≤ i) (h1 : i < (l.length : Int)) : po_own w g l (i + 1) := by
 rw [po_D_succ l i h0 h1] at h
 unfold po_own
 rw [show (i + 1).toNat = i.toNat + 1 by omega]
 exact h
theorem po_size {w0 w : World} {base : Nat} (h : Below base w0 w) (hb : base ≤ w0.heap.size) : base ≤ w.heap.size := Nat.le_trans hb (Below.size h)
mutual
def impl_PlanOk.j0 : Nat → Bool → List (S94) → List (S97) → Option (Bool)
 | 0, _, _, _ => none
 | k + 1, x26, x191000, x191001 => if x26 = true then (some false) else (impl_PlanOk.l0 k x191000 (x191000.length : Int) 0 x191000 x191001)
def impl_PlanOk.l0 : Nat → List (S94) → Int → Int → List (S94) → List (S97) → Option (Bool)
 | 0, _, _, _, _, _ => none
 | k + 1, x29, x30, x31, x191000, x191001 => if x31 < x30 then (if 0 ≤ x31 then (if x31 < (x29.length : Int) then (if ((rd_T94 x29 x31).f0).size ≤ 1048576 then ((impl_nodeOk.f k ((rd_T94 x29 x31).f0) ((rd_T94 x29 x31).f1) ((rd_T94 x29 x31).f2)).bind fun t193 => (if t193 = true then (if po_seen x29 x31 = true then (some false) else (impl_PlanOk.l0 k x29 x30 (wrap64 (x31 + 1)) x191000 x191001)) else (some false))) else (none)) else (none)) else (none)) else (if 0 ≤ (x191000.length : Int) then (if ((x191000.length : Int) : Int).toNat ≤ 35184372088832 then (impl_PlanOk.l1 k (List.replicate ((x191000.length : Int) : Int).toNat 0) x191001 (x191001.length : Int) 0 x191000 x191001) else (none)) else (none))
def impl_PlanOk.l1 : Nat → List Int → List (S97) → Int → Int → List (S94) → List (S97) → Option (Bool)
 | 0, _, _, _, _, _, _ => none
 | k + 1, x6, x53, x54, x55, x191000, x191001 => if x55 < x54 then (if 0 ≤ x55 then (if x55 < (x53.length : Int) then ((impl_to.f ((rd_T97 x53 x55).f0) 0 (wrap64 ((x191000.length : Int) - 1))).bind fun t199 => (if t199 = true then ((impl_to.f ((rd_T97 x53 x55).f1) 0 (wrap64 ((x191000.length : Int) - 1))).bind fun t200 => (if t200 = true then (if 0 ≤ ((rd_T97 x53 x55).f0) then (if ((rd_T97 x53 x55).f0) < (x191000.length : Int) then (if ((rd_T94 x191000 ((rd_T97 x53 x55).f0)).f1) = 2 then (some false) else (if 0 ≤ ((rd_T97 x53 x55).f1) then (if ((rd_T97 x53 x55).f1) < (x6.length : Int) then (impl_PlanOk.l1 k (x6.set (((rd_T97 x53 x55).f1) : Int).toNat (wrap64 ((rd x6 ((rd_T97 x53 x55).f1)) + 1))) x53 x54 (wrap64 (x55 + 1)) x191000 x191001) else (none)) else (none))) else (none)) else (none)) else (some false))) else (some false))) else (none)) else (none)) else (impl_PlanOk.l2 k x6 x191000 (x191000.length : Int) 0)
def impl_PlanOk.l2 : Nat → List Int → List (S94) → Int → Int → Option (Bool)
 | 0, _, _, _, _ => none
 | k + 1, x6, x96, x97, x98 => if x98 < x97 then (if 0 ≤ x98 then (if x98 < (x96.length : Int) then (if x98 < (x6.length : Int) then ((impl_doors.f ((rd_T94 x96 x98).f1)).bind fun t207 => (if (rd x6 x98) = t207 then (impl_PlanOk.l2 k x6 x96 x97 (wrap64 (x98 + 1))) else (some false))) else (none)) else (none)) else (none)) else (some true)
end
def impl_PlanOk.f (k : Nat) (l0_0 : List (S94)) (l0_1 : List (S97)) : Option (Bool) := if (l0_0.length : Int) < 1 then (impl_PlanOk.j0 k true l0_0 l0_1) else (if (l0_0.length : Int) > 20 then (impl_PlanOk.j0 k true l0_0 l0_1) else (impl_PlanOk.j0 k (decide ((l0_1.length : Int) > 40)) l0_0 l0_1))
theorem impl_PlanOk.mono_l : ∀ k, (∀ y0 y1 y2, LeO (impl_PlanOk.j0 k y0 y1 y2) (impl_PlanOk.j0 (k + 1) y0 y1 y2)) ∧ (∀ y0 y1 y2 y3 y4, LeO (impl_PlanOk.l0 k y0 y1 y2 y3 y4) (impl_PlanOk.l0 (k + 1) y0 y1 y2 y3 y4)) ∧ (∀ y0 y1 y2 y3 y4 y5, LeO (impl_PlanOk.l1 k y0 y1 y2 y3 y4 y5) (impl_PlanOk.l1 (k + 1) y0 y1 y2 y3 y4 y5)) ∧ (∀ y0 y1 y2 y3, LeO (impl_PlanOk.l2 k y0 y1 y2 y3) (impl_PlanOk.l2 (k + 1) y0 y1 y2 y3))
 | 0 => ⟨fun _ _ _ r h => by simp [impl_PlanOk.j0] at h, fun _ _ _ _ _ r h => by simp [impl_PlanOk.l0] at h, fun _ _ _ _ _ _ r h => by simp [impl_PlanOk.l1] at h, fun _ _ _ _ r h => by simp [impl_PlanOk.l2] at h⟩
 | k + 1 => by
  obtain ⟨ih0, ih1, ih2, ih3⟩ := impl_PlanOk.mono_l k
  refine ⟨?_, ?_, ?_, ?_⟩
  ·intro y0 y1 y2
   unfold impl_PlanOk.j0
   repeat' first
   | (with_reducible exact ih0 _ _ _)
   | (with_reducible exact ih1 _ _ _ _ _)
   | (with_reducible exact ih2 _ _ _ _ _ _)
   | (with_reducible exact ih3 _ _ _ _)
   | (with_reducible exact impl_nodeOk.mono _ _ _ _)
   | (with_reducible exact LeO.refl _)
   | (with_reducible exact LeO.none _)
   | (with_reducible refine LeO.ite ?_ ?_)
   | (with_reducible refine LeO.bind ?_ (fun _ => ?_))
  ·intro y0 y1 y2 y3 y4
   unfold impl_PlanOk.l0
   repeat' first
   | (with_reducible exact ih0 _ _ _)
   | (with_reducible exact ih1 _ _ _ _ _)
   | (with_reducible exact ih2 _ _ _ _ _ _)
   | (with_reducible exact ih3 _ _ _ _)
   | (with_reducible exact impl_nodeOk.mono _ _ _ _)
   | (with_reducible exact LeO.refl _)
   | (with_reducible exact LeO.none _)
   | (with_reducible refine LeO.ite ?_ ?_)
   | (with_reducible refine LeO.bind ?_ (fun _ => ?_))
  ·intro y0 y1 y2 y3 y4 y5
   unfold impl_PlanOk.l1
   repeat' first
   | (with_reducible exact ih0 _ _ _)
   | (with_reducible exact ih1 _ _ _ _ _)
   | (with_reducible exact ih2 _ _ _ _ _ _)
   | (with_reducible exact ih3 _ _ _ _)
   | (with_reducible exact impl_nodeOk.mono _ _ _ _)
   | (with_reducible exact LeO.refl _)
   | (with_reducible exact LeO.none _)
   | (with_reducible refine LeO.ite ?_ ?_)
   | (with_reducible refine LeO.bind ?_ (fun _ => ?_))
  ·intro y0 y1 y2 y3
   unfold impl_PlanOk.l2
   repeat' first
   | (with_reducible exact ih0 _ _ _)
   | (with_reducible exact ih1 _ _ _ _ _)
   | (with_reducible exact ih2 _ _ _ _ _ _)
   | (with_reducible exact ih3 _ _ _ _)
   | (with_reducible exact impl_nodeOk.mono _ _ _ _)
   | (with_reducible exact LeO.refl _)
   | (with_reducible exact LeO.none _)
   | (with_reducible refine LeO.ite ?_ ?_)
   | (with_reducible refine LeO.bind ?_ (fun _ => ?_))
theorem impl_PlanOk.mono : ∀ a0 a1 k, LeO (impl_PlanOk.f k a0 a1) (impl_PlanOk.f (k + 1) a0 a1) := by
 intro a0 a1 k
 obtain ⟨ih0, ih1, ih2, ih3⟩ := impl_PlanOk.mono_l k
 unfold impl_PlanOk.f
 repeat' first
  | (with_reducible exact ih0 _ _ _)
  | (with_reducible exact ih1 _ _ _ _ _)
  | (with_reducible exact ih2 _ _ _ _ _ _)
  | (with_reducible exact ih3 _ _ _ _)
  | (with_reducible exact impl_nodeOk.mono _ _ _ _)
  | (with_reducible exact LeO.refl _)
  | (with_reducible exact LeO.none _)
  | (with_reducible refine LeO.ite ?_ ?_)
  | (with_reducible refine LeO.bind ?_ (fun _ => ?_))
set_option maxHeartbeats 8000000 in
set_option maxRecDepth 100000 in
theorem impl_PlanOk.calls (k : Nat) (A0_0 : Option Addr) (c0_0 : Nat) (l0_0 : List (S94)) (A0_1 : Option Addr) (c0_1 : Nat) (l0_1 : List (S97)) (r : Bool) (w : World) (hr0_0 : Kd.C k94 w A0_0 l0_0.length l0_0) (hc0_0 : l0_0.length ≤ c0_0) (hr0_1 : Kd.C k97 w A0_1 l0_1.length l0_1) (hc0_1 : l0_1.length ≤ c0_1) (h : impl_PlanOk.f k l0_0 l0_1 = some r) :
 Calls Try.prog 24 #[.agg #[.slice A0_0 l0_0.length c0_0, .slice A0_1 l0_1.length c0_1]] w fun e w' => e = .returned (.bool r) ∧ Below w.heap.size w w' := by
 have hu46 := Try.underlying46
 have hu94 := Try.underlying94
 have hu97 := Try.underlying97
 have HR0_0 := zM hr0_0
 have HC0_0 := zM hc0_0
 clear hr0_0 hc0_0
 have HR0_1 := zM hr0_1
 have HC0_1 := zM hc0_1
 clear hr0_1 hc0_1
 have HB := zM (Below.refl w.heap.size w)
 have H : (if (l0_0.length : Int) < 1 then (impl_PlanOk.j0 k true l0_0 l0_1) else (if (l0_0.length : Int) > 20 then (impl_PlanOk.j0 k true l0_0 l0_1) else (impl_PlanOk.j0 k (decide ((l0_1.length : Int) > 40)) l0_0 l0_1))) = some r := h
 clear h
 have HC2 := zM H
 clear H
 have hmm := @run_makeMap Try.prog
 go_enter Try.func24, Try.ntmps24
 go_upto_region 1 with (first | ((with_reducible refine gate_dst (N := 1) rfl ?_); (try (refine gate_guard (by rfl) ?_; dsimp only)); refine box_event ?hg (N := 1) ?hd (cs := #[.slice A0_0 l0_0.length c0_0, .slice A0_1 l0_1.length c0_1]) (t := 46) ?hr ?_; (case hd => rfl); (case hg => rfl); (case hr => first | (go_simp; done) | (go_simp; rfl)); intro gb190 hg w3 hbox hb; have n0_ := zM (below_step (by repeat (first | (with_reducible first | exact HB.out | apply zBa | apply zBn | apply zBd) | exact HB.out)) hb); have n1_ := zM (hbox); have n2_ := zM ((by rw [hg]; exact (below_size (by repeat (first | (with_reducible first | exact HB.out | apply zBa | apply zBn | apply zBd) | exact HB.out))) : w.heap.size ≤ gb190)); have n3_ := zM n2_.out; clear HB; have HB := n0_; have BK190 := n1_; have GW190 := n2_; have GE190 := n3_; clear n0_ n1_ n2_ n3_; clear hb hbox hg))
 (try simp only [Act.put, zS1, zS2, zS3])
 go_cut [26] (fun v26 wc => ∃ (kq : Nat) (x26_1 : Bool), v26 = .bool x26_1 ∧ Aside0 (impl_PlanOk.j0 kq x26_1 l0_0 l0_1 = some r) ∧ Aside0 (kq ≤ k) ∧ Aside0 (wc.heap[gb190]? = some (.cells #[(.slice A0_0 l0_0.length c0_0), (.slice A0_1 l0_1.length c0_1)] 46 (0, 0))) ∧ Aside0 (Below w.heap.size w wc))
 case first =>
  have H := HC2.out
  clear HC2
  by_cases c4 : (l0_0.length : Int) < 1
  case pos =>
   rw [if_pos c4] at H
   have c4b0 : decide ((l0_0.length : Int) < 1) = true := zE c4
   have c4b1 : decide (l0_0.length < 1) = true := zE (by omega)
   clear c4
   (first | rw [c4b0] | (simp only [i64_w, i32_w]; rw [c4b0]) | skip)
   have H' := zM H
   clear H
   obtain ⟨hcz5_0, hcz5_1, hfz5_0, hfz5_1⟩ := zc2 BK190.out
   go_wp2
   repeat (go_quiet (fail); try go_wp2)
   go_meet
   case rel => exact ⟨_, (true), (by first | rfl | (simp; done) | (simp [*]; done)), H', ⟨by first | omega | exact Nat.le_refl _⟩, ⟨by (with_reducible repeat (first | apply zNn | apply zNd | apply zNa)); exact BK190.out⟩, ⟨by repeat (first | (with_reducible first | exact HB.out | apply zBa | apply zBn | apply zBd | refine zBs ?_ GE190.out) | exact HB.out)⟩⟩
  rw [if_neg c4] at H
  have c4b0 : decide ((l0_0.length : Int) < 1) = false := decide_eq_false c4
  have c4b1 : decide (l0_0.length < 1) = false := decide_eq_false (by omega)
  clear c4
  (first | rw [c4b0] | (simp only [i64_w, i32_w]; rw [c4b0]) | skip)
  by_cases c6 : (l0_0.length : Int) > 20
  case pos =>
   rw [if_pos c6] at H
   have c6b0 : decide (20 < (l0_0.length : Int)) = true := zE c6
   have c6b1 : decide (20 < l0_0.length) = true := zE (by omega)
   clear c6
   have H' := zM H
   clear H
   obtain ⟨hcz7_0, hcz7_1, hfz7_0, hfz7_1⟩ := zc2 BK190.out
   go_wp2
   repeat (go_quiet (fail); try go_wp2)
   go_meet
   case rel => exact ⟨_, (true), (by first | rfl | (simp; done) | (simp [*]; done)), H', ⟨by first | omega | exact Nat.le_refl _⟩, ⟨by (with_reducible repeat (first | apply zNn | apply zNd | apply zNa)); exact BK190.out⟩, ⟨by repeat (first | (with_reducible first | exact HB.out | apply zBa | apply zBn | apply zBd | refine zBs ?_ GE190.out) | exact HB.out)⟩⟩
  rw [if_neg c6] at H
  have c6b0 : decide (20 < (l0_0.length : Int)) = false := decide_eq_false c6
  have c6b1 : decide (20 < l0_0.length) = false := decide_eq_false (by omega)
  clear c6
  have H' := zM H
  clear H
  obtain ⟨hcz8_0, hcz8_1, hfz8_0, hfz8_1⟩ := zc2 BK190.out
  go_wp2
  repeat (go_quiet (fail); try go_wp2)
  go_meet
  case rel => exact ⟨_, (decide ((l0_1.length : Int) > 40)), (by first | rfl | (simp; done) | (simp [*]; done)), H', ⟨by first | omega | exact Nat.le_refl _⟩, ⟨by (with_reducible repeat (first | apply zNn | apply zNd | apply zNa)); exact BK190.out⟩, ⟨by repeat (first | (with_reducible first | exact HB.out | apply zBa | apply zBn | apply zBd | refine zBs ?_ GE190.out) | exact HB.out)⟩⟩
 case rest =>
  clear HC2
  try clear c2
  try clear p2
  try clear c4
  try clear c4b0
  try clear c4b1
  try clear c6
  try clear c6b0
  try clear c6b1
  try clear hcz5_0
  try clear hcz5_1
  try clear hcz7_0
  try clear hcz7_1
  try clear hcz8_0
  try clear hcz8_1
  try clear hfz5_0
  try clear hfz5_1
  try clear hfz7_0
  try clear hfz7_1
  try clear hfz8_0
  try clear hfz8_1
  obtain ⟨kq, x26_1, rfl, HA, HJ1, BK190, HB⟩ := hcut
  cases kq with
  | zero => exact absurd HA.out (by simp [impl_PlanOk.j0])
  | succ kj1 =>
   have H := HA.out
   clear HA
   simp only [impl_PlanOk.j0] at H
   by_cases c9 : x26_1 = true
   case pos =>
    subst c9
    have H1 : (some false) = some r := by rw [if_pos rfl] at H; exact H
    clear H
    have H := H1
    clear H1
    obtain rfl := zI H
    go_wp2
    repeat (go_quiet (fail); try go_wp2)
    go_ret
    exact ⟨by first | rfl | (simp [errW_none, errW_some] <;> rfl) | (simp [*, errW_none, errW_some] <;> rfl), by repeat (first | (with_reducible first | exact HB.out | apply zBa | apply zBn | apply zBd | refine zBs ?_ GE190.out) | exact HB.out)⟩
   replace c9 := Bool.eq_false_iff.mpr c9
   subst c9
   have H1 : (impl_PlanOk.l0 kj1 l0_0 (l0_0.length : Int) 0 l0_0 l0_1) = some r := by rw [if_neg (show ¬ (false = true) by decide)] at H; exact H
   clear H
   have H := H1
   clear H1
   have H' := zM H
   clear H
   have HLEN := zM HR0_0.out.2.1
   have GM := zM (below_size HB.out : w.heap.size ≤ wc.heap.size)
   have NM := zM (Nat.ne_of_lt (blk_lt BK190.out) : gb190 ≠ wc.heap.size)
   have BKm := zM (zNa BK190.out (.map #[] 0))
   have hcm10_0 : (wc.alloc (.map #[] 0)).cell? ⟨gb190, 0, none⟩ = some (.slice A0_0 l0_0.length c0_0) := (blk_cell BKm.out 0).trans rfl
   have hcm10_1 : (wc.alloc (.map #[] 0)).cell? ⟨gb190, 1, none⟩ = some (.slice A0_1 l0_1.length c0_1) := (blk_cell BKm.out 1).trans rfl
   have hfm10_0 := blk_frozen BKm.out 0
   have hfm10_1 := blk_frozen BKm.out 1
   obtain ⟨hcz10_0, hcz10_1, hfz10_0, hfz10_1⟩ := zc2 BK190.out
   go_wp2
   repeat (go_quiet (fail); try go_wp2)
   (try simp only [Act.put, zS1, zS2, zS3])
   go_loopg [31] kj1 (fun kq v31 w' => ∃ (x31_2 : Int), v31 = .int .i64 x31_2 ∧ Aside0 (impl_PlanOk.l0 kq l0_0 (l0_0.length : Int) x31_2 l0_0 l0_1 = some r) ∧ Aside0 (kq ≤ kj1) ∧ Aside0 (w'.heap[gb190]? = some (.cells #[(.slice A0_0 l0_0.length c0_0), (.slice A0_1 l0_1.length c0_1)] 46 (0, 0))) ∧ Aside0 (Below w.heap.size w w') ∧ Aside0 (po_own w' wc.heap.size l0_0 x31_2) ∧ Aside0 (0 ≤ x31_2))
   case atStart => exact ⟨(0), (by first | rfl | (simp; done) | (simp [*]; done)), H', ⟨Nat.le_refl _⟩, ⟨by (with_reducible repeat (first | apply zNn | apply zNd | apply zNa)); exact BK190.out⟩, ⟨by repeat (first | (with_reducible first | exact HB.out | apply zBa | apply zBn | apply zBd | refine zBs ?_ GE190.out) | exact HB.out)⟩, ⟨po_made _ _⟩, ⟨Int.le_refl _⟩⟩
   case round =>
    clear H'
    try clear c2
    try clear p2
    try clear c4
    try clear c4b0
    try clear c4b1
    try clear c6
    try clear c6b0
    try clear c6b1
    try clear c9
    try clear hcz10_0
    try clear hcz10_1
    try clear hcz5_0
    try clear hcz5_1
    try clear hcz7_0
    try clear hcz7_1
    try clear hcz8_0
    try clear hcz8_1
    try clear hfz10_0
    try clear hfz10_1
    try clear hfz5_0
    try clear hfz5_1
    try clear hfz7_0
    try clear hfz7_1
    try clear hfz8_0
    try clear hfz8_1
    try clear p2
    obtain ⟨x31_2, rfl, HA, HK2, BK190, HB, HM, HZ⟩ := hrel
    cases gk with
    | zero => exact absurd HA.out (by simp [impl_PlanOk.l0])
    | succ k2 =>
     have H := HA.out
     clear HA
     simp only [impl_PlanOk.l0] at H
     by_cases c11 : x31_2 < (l0_0.length : Int)
     case pos =>
      rw [if_pos c11] at H
      have c11b0 : decide (x31_2 < (l0_0.length : Int)) = true := zE c11
      clear c11
      by_cases c12 : 0 ≤ x31_2
      case neg =>
       rw [if_neg c12] at H
       exact absurd H (by simp)
      rw [if_pos c12] at H
      have c12b0 : decide (0 ≤ x31_2) = true := zE c12
      clear c12
      by_cases c13 : x31_2 < (l0_0.length : Int)
      case neg =>
       rw [if_neg c13] at H
       exact absurd H (by simp)
      rw [if_pos c13] at H
      have c13b0 : decide (x31_2 < (l0_0.length : Int)) = true := zE c13
      clear c13
      by_cases csz : ((rd_T94 l0_0 x31_2).f0).size ≤ 1048576
      case neg => rw [if_neg csz] at H; exact absurd H (by simp)
      rw [if_pos csz] at H
      have CSZ := zM csz
      clear csz
      replace H := zO.mp H
      obtain ⟨t193, A140, H⟩ := H
      replace H : (if t193 = true then (if po_seen l0_0 x31_2 = true then (some false) else (impl_PlanOk.l0 k2 l0_0 (l0_0.length : Int) (wrap64 (x31_2 + 1)) l0_0 l0_1)) else (some false)) = some r := H
      have A14 := zM A140
      clear A140
      by_cases c15 : t193 = true
      case neg =>
       replace c15 := Bool.eq_false_iff.mpr c15
       subst c15
       have H1 : (some false) = some r := by rw [if_neg (show ¬ (false = true) by decide)] at H; exact H
       clear H
       have H := H1
       clear H1
       obtain rfl := zI H
       have p191 : 0 ≤ (x31_2 : Int) := zT (by assumption)
       have q191 : x31_2 < (l0_0.length : Int) := zT (by assumption)
       obtain ⟨ad191, e191, hx191_0, hx191_1, hx191_2⟩ := at_T94 HR0_0.out x31_2 p191 q191
       cases e191
       replace hx191_0 := (HB.out.cell (zW w _ hx191_0)).trans hx191_0
       replace hx191_1 := (HB.out.cell (zW w _ hx191_1)).trans hx191_1
       replace hx191_2 := (HB.out.cell (zW w _ hx191_2)).trans hx191_2
       replace p191 := eq_true p191
       replace q191 := eq_true q191
       go_wp2_with (first | ((with_reducible refine gate_dst (N := 5) rfl ?_); (try (refine gate_guard (by rfl) ?_; dsimp only)); refine box_event ?hg (N := 5) ?hd (cs := #[.string (⟨#[]⟩ : ByteArray), .int .i64 0, .int .i64 0]) (t := 94) ?hr ?_; (case hd => rfl); (case hg => rfl); (case hr => first | (go_simp; done) | (go_simp; rfl)); intro gb192 hg w21 hbox hb; have n0_ := zM (zNb (g := gb190) (o := .cells #[.slice (some ad191) l0_0.length c0_0, .slice A0_1 l0_1.length c0_1] 46 (0, 0)) (by (with_reducible repeat (first | apply zNn | apply zNd | apply zNa)); exact BK190.out) hb); have n1_ := zM (below_step (by repeat (first | (with_reducible first | exact HB.out | apply zBa | apply zBn | apply zBd | refine zBs ?_ GE190.out) | exact HB.out)) hb); have n2_ := zM (hbox); have n3_ := zM ((by rw [hg]; exact (below_size (by repeat (first | (with_reducible first | exact HB.out | apply zBa | apply zBn | apply zBd | refine zBs ?_ GE190.out) | exact HB.out))) : w.heap.size ≤ gb192)); have n4_ := zM n3_.out; have n5_ := zM ((by rw [hg]; exact Nat.ne_of_lt (by simpa using blk_lt BK190.out) : gb190 ≠ gb192)); have n6_ := zM ((by rw [hg]; exact Nat.ne_of_gt (by simpa using blk_lt BK190.out) : gb192 ≠ gb190)); clear BK190; clear HB; have BK190 := n0_; have HB := n1_; have BK192 := n2_; have GW192 := n3_; have GE192 := n4_; have NB190_192 := n5_; have NB192_190 := n6_; clear n0_ n1_ n2_ n3_ n4_ n5_ n6_; clear hb hbox hg; have hnb22 := NB192_190.out; have hnc22 := NB190_192.out; obtain ⟨hcz23_0, hcz23_1, hcz23_2, hfz23_0, hfz23_1, hfz23_2⟩ := zc3 BK192.out) | (go_at_call 65; (with_reducible refine (impl_nodeOk.calls k2 ((rd_T94 l0_0 x31_2).f0) ((rd_T94 l0_0 x31_2).f1) ((rd_T94 l0_0 x31_2).f2) false _ A14.out).mono ?_); rintro e w24 ⟨rfl, hb⟩; have n0_ := zM (zNb (g := gb190) (o := .cells #[.slice (some ad191) l0_0.length c0_0, .slice A0_1 l0_1.length c0_1] 46 (0, 0)) (by exact zNf (zNf (zNf (BK190.out) NB190_192.out _) NB190_192.out _) NB190_192.out _) hb); have n1_ := zM (zNb (g := gb192) (o := .cells #[.string ((rd_T94 l0_0 x31_2).f0), .int .i64 ((rd_T94 l0_0 x31_2).f1), .int .i64 ((rd_T94 l0_0 x31_2).f2)] 94 (0, 0)) (by exact blk_put (blk_put (blk_put (BK192.out) 0 _ rfl) 1 _ rfl) 2 _ rfl) hb); have n2_ := zM (below_step (by repeat (first | (with_reducible first | exact HB.out | apply zBa | apply zBn | apply zBd | refine zBs ?_ GE190.out | refine zBs ?_ GE192.out) | exact HB.out)) hb); clear BK190; clear BK192; clear HB; have BK190 := n0_; have BK192 := n1_; have HB := n2_; clear n0_ n1_ n2_; (try clear hb); (try clear hb2); (try clear hk); (try clear hi)))
       go_ret
       exact ⟨by first | rfl | (simp [errW_none, errW_some] <;> rfl) | (simp [*, errW_none, errW_some] <;> rfl), by repeat (first | (with_reducible first | exact HB.out | apply zBa | apply zBn | apply zBd | refine zBs ?_ GE190.out | refine zBs ?_ GE192.out) | exact HB.out)⟩
      subst c15
      rw [if_pos rfl] at H
      by_cases csn : po_seen l0_0 x31_2 = true
      case pos =>
       have hsn := zM csn
       rw [if_pos csn] at H
       clear csn
       obtain rfl := zI H
       clear H
       have p191 : 0 ≤ (x31_2 : Int) := zT (by assumption)
       have q191 : x31_2 < (l0_0.length : Int) := zT (by assumption)
       obtain ⟨ad191, e191, hx191_0, hx191_1, hx191_2⟩ := at_T94 HR0_0.out x31_2 p191 q191
       cases e191
       replace hx191_0 := (HB.out.cell (zW w _ hx191_0)).trans hx191_0
       replace hx191_1 := (HB.out.cell (zW w _ hx191_1)).trans hx191_1
       replace hx191_2 := (HB.out.cell (zW w _ hx191_2)).trans hx191_2
       replace p191 := eq_true p191
       replace q191 := eq_true q191
       go_wp2_with (first | ((with_reducible refine gate_dst (N := 5) rfl ?_); (try (refine gate_guard (by rfl) ?_; dsimp only)); refine box_event ?hg (N := 5) ?hd (cs := #[.string (⟨#[]⟩ : ByteArray), .int .i64 0, .int .i64 0]) (t := 94) ?hr ?_; (case hd => rfl); (case hg => rfl); (case hr => first | (go_simp; done) | (go_simp; rfl)); intro gb192 hg w16 hbox hb; have n0_ := zM (zNb (g := gb190) (o := .cells #[.slice (some ad191) l0_0.length c0_0, .slice A0_1 l0_1.length c0_1] 46 (0, 0)) (by (with_reducible repeat (first | apply zNn | apply zNd | apply zNa)); exact BK190.out) hb); have n1_ := zM (below_step (by repeat (first | (with_reducible first | exact HB.out | apply zBa | apply zBn | apply zBd | refine zBs ?_ GE190.out) | exact HB.out)) hb); have n2_ := zM (hbox); have n3_ := zM ((by rw [hg]; exact (below_size (by repeat (first | (with_reducible first | exact HB.out | apply zBa | apply zBn | apply zBd | refine zBs ?_ GE190.out) | exact HB.out))) : w.heap.size ≤ gb192)); have n4_ := zM n3_.out; have n5_ := zM ((by rw [hg]; exact Nat.ne_of_lt (by simpa using blk_lt BK190.out) : gb190 ≠ gb192)); have n6_ := zM ((by rw [hg]; exact Nat.ne_of_gt (by simpa using blk_lt BK190.out) : gb192 ≠ gb190)); have m1_ := zM (po_below (g := wc.heap.size) (l := l0_0) (i := x31_2) (by (with_reducible repeat (first | refine po_drewN ?_ _ | refine po_drew ?_ | refine po_alloc ?_ _)); exact HM.out) hb); have NM192 := zM ((by rw [hg]; exact Nat.ne_of_lt (po_lt (g := wc.heap.size) (l := l0_0) (i := x31_2) (by (with_reducible repeat (first | refine po_drewN ?_ _ | refine po_drew ?_ | refine po_alloc ?_ _)); exact HM.out))) : wc.heap.size ≠ gb192); clear HM; have HM := m1_; clear m1_; clear BK190; clear HB; have BK190 := n0_; have HB := n1_; have BK192 := n2_; have GW192 := n3_; have GE192 := n4_; have NB190_192 := n5_; have NB192_190 := n6_; clear n0_ n1_ n2_ n3_ n4_ n5_ n6_; clear hb hbox hg; have hnb17 := NB192_190.out; have hnc17 := NB190_192.out; obtain ⟨hcz18_0, hcz18_1, hcz18_2, hfz18_0, hfz18_1, hfz18_2⟩ := zc3 BK192.out) | (go_at_call 65; (with_reducible refine (impl_nodeOk.calls k2 ((rd_T94 l0_0 x31_2).f0) ((rd_T94 l0_0 x31_2).f1) ((rd_T94 l0_0 x31_2).f2) true _ A14.out).mono ?_); rintro e w19 ⟨rfl, hb⟩; have n0_ := zM (zNb (g := gb190) (o := .cells #[.slice (some ad191) l0_0.length c0_0, .slice A0_1 l0_1.length c0_1] 46 (0, 0)) (by exact zNf (zNf (zNf (BK190.out) NB190_192.out _) NB190_192.out _) NB190_192.out _) hb); have n1_ := zM (zNb (g := gb192) (o := .cells #[.string ((rd_T94 l0_0 x31_2).f0), .int .i64 ((rd_T94 l0_0 x31_2).f1), .int .i64 ((rd_T94 l0_0 x31_2).f2)] 94 (0, 0)) (by exact blk_put (blk_put (blk_put (BK192.out) 0 _ rfl) 1 _ rfl) 2 _ rfl) hb); have n2_ := zM (below_step (by repeat (first | (with_reducible first | exact HB.out | apply zBa | apply zBn | apply zBd | refine zBs ?_ GE190.out | refine zBs ?_ GE192.out) | exact HB.out)) hb); have m1_ := zM (po_below (g := wc.heap.size) (l := l0_0) (i := x31_2) (by repeat (first | (with_reducible first | exact HM.out | refine po_drewN ?_ _ | refine po_drew ?_ | refine po_alloc ?_ _) | refine po_far ?_ NM192.out _)) hb); clear HM; have HM := m1_; clear m1_; have hlk := po_look HM.out CSZ.out; rw [hsn.out] at hlk; clear BK190; clear BK192; clear HB; have BK190 := n0_; have BK192 := n1_; have HB := n2_; clear n0_ n1_ n2_; (try clear hb); (try clear hb2); (try clear hk); (try clear hi); obtain ⟨hcz20_0, hcz20_1, hcz20_2, hfz20_0, hfz20_1, hfz20_2⟩ := zc3 BK192.out))
       go_ret
       exact ⟨by first | rfl | (simp; done), by repeat (first | (with_reducible first | exact HB.out | apply zBa | apply zBn | apply zBd | refine zBs ?_ GE190.out | refine zBs ?_ GE192.out) | exact HB.out)⟩
      have hsn := zM (Bool.eq_false_iff.mpr csn)
      rw [if_neg csn] at H
      clear csn
      have H' := zM H
      clear H
      have p191 : 0 ≤ (x31_2 : Int) := zT (by assumption)
      have q191 : x31_2 < (l0_0.length : Int) := zT (by assumption)
      obtain ⟨ad191, e191, hx191_0, hx191_1, hx191_2⟩ := at_T94 HR0_0.out x31_2 p191 q191
      cases e191
      replace hx191_0 := (HB.out.cell (zW w _ hx191_0)).trans hx191_0
      replace hx191_1 := (HB.out.cell (zW w _ hx191_1)).trans hx191_1
      replace hx191_2 := (HB.out.cell (zW w _ hx191_2)).trans hx191_2
      have HQ := zM q191
      have HWR := zM (po_wrap HZ.out q191 HLEN.out)
      replace p191 := eq_true p191
      replace q191 := eq_true q191
      go_wp2_with (first | ((with_reducible refine gate_dst (N := 5) rfl ?_); (try (refine gate_guard (by rfl) ?_; dsimp only)); refine box_event ?hg (N := 5) ?hd (cs := #[.string (⟨#[]⟩ : ByteArray), .int .i64 0, .int .i64 0]) (t := 94) ?hr ?_; (case hd => rfl); (case hg => rfl); (case hr => first | (go_simp; done) | (go_simp; rfl)); intro gb192 hg w16 hbox hb; have n0_ := zM (zNb (g := gb190) (o := .cells #[.slice (some ad191) l0_0.length c0_0, .slice A0_1 l0_1.length c0_1] 46 (0, 0)) (by (with_reducible repeat (first | apply zNn | apply zNd | apply zNa)); exact BK190.out) hb); have n1_ := zM (below_step (by repeat (first | (with_reducible first | exact HB.out | apply zBa | apply zBn | apply zBd | refine zBs ?_ GE190.out) | exact HB.out)) hb); have n2_ := zM (hbox); have n3_ := zM ((by rw [hg]; exact (below_size (by repeat (first | (with_reducible first | exact HB.out | apply zBa | apply zBn | apply zBd | refine zBs ?_ GE190.out) | exact HB.out))) : w.heap.size ≤ gb192)); have n4_ := zM n3_.out; have n5_ := zM ((by rw [hg]; exact Nat.ne_of_lt (by simpa using blk_lt BK190.out) : gb190 ≠ gb192)); have n6_ := zM ((by rw [hg]; exact Nat.ne_of_gt (by simpa using blk_lt BK190.out) : gb192 ≠ gb190)); have m1_ := zM (po_below (g := wc.heap.size) (l := l0_0) (i := x31_2) (by (with_reducible repeat (first | refine po_drewN ?_ _ | refine po_drew ?_ | refine po_alloc ?_ _)); exact HM.out) hb); have NM192 := zM ((by rw [hg]; exact Nat.ne_of_lt (po_lt (g := wc.heap.size) (l := l0_0) (i := x31_2) (by (with_reducible repeat (first | refine po_drewN ?_ _ | refine po_drew ?_ | refine po_alloc ?_ _)); exact HM.out))) : wc.heap.size ≠ gb192); clear HM; have HM := m1_; clear m1_; clear BK190; clear HB; have BK190 := n0_; have HB := n1_; have BK192 := n2_; have GW192 := n3_; have GE192 := n4_; have NB190_192 := n5_; have NB192_190 := n6_; clear n0_ n1_ n2_ n3_ n4_ n5_ n6_; clear hb hbox hg; have hnb17 := NB192_190.out; have hnc17 := NB190_192.out; obtain ⟨hcz18_0, hcz18_1, hcz18_2, hfz18_0, hfz18_1, hfz18_2⟩ := zc3 BK192.out) | (go_at_call 65; (with_reducible refine (impl_nodeOk.calls k2 ((rd_T94 l0_0 x31_2).f0) ((rd_T94 l0_0 x31_2).f1) ((rd_T94 l0_0 x31_2).f2) true _ A14.out).mono ?_); rintro e w19 ⟨rfl, hb⟩; have n0_ := zM (zNb (g := gb190) (o := .cells #[.slice (some ad191) l0_0.length c0_0, .slice A0_1 l0_1.length c0_1] 46 (0, 0)) (by exact zNf (zNf (zNf (BK190.out) NB190_192.out _) NB190_192.out _) NB190_192.out _) hb); have n1_ := zM (zNb (g := gb192) (o := .cells #[.string ((rd_T94 l0_0 x31_2).f0), .int .i64 ((rd_T94 l0_0 x31_2).f1), .int .i64 ((rd_T94 l0_0 x31_2).f2)] 94 (0, 0)) (by exact blk_put (blk_put (blk_put (BK192.out) 0 _ rfl) 1 _ rfl) 2 _ rfl) hb); have n2_ := zM (below_step (by repeat (first | (with_reducible first | exact HB.out | apply zBa | apply zBn | apply zBd | refine zBs ?_ GE190.out | refine zBs ?_ GE192.out) | exact HB.out)) hb); have m1_ := zM (po_below (g := wc.heap.size) (l := l0_0) (i := x31_2) (by repeat (first | (with_reducible first | exact HM.out | refine po_drewN ?_ _ | refine po_drew ?_ | refine po_alloc ?_ _) | refine po_far ?_ NM192.out _)) hb); clear HM; have HM := m1_; clear m1_; have hlk := po_look HM.out CSZ.out; rw [hsn.out] at hlk; clear BK190; clear BK192; clear HB; have BK190 := n0_; have BK192 := n1_; have HB := n2_; clear n0_ n1_ n2_; (try clear hb); (try clear hb2); (try clear hk); (try clear hi); obtain ⟨hcz20_0, hcz20_1, hcz20_2, hfz20_0, hfz20_1, hfz20_2⟩ := zc3 BK192.out) | (at_mapUpdate; refine wpList_mapUpdate_own _ rfl _ _ _ 101 rfl 9 4 (Maps.string_keyed Try.underlying9) Try.underlying101 (plainElem (H := Unit) Try.prog 4) wc.heap.size x31_2.toNat _ rfl HM.out (by have := q191; unfold maxLen; have := HQ.out; have := HLEN.out; have := HZ.out; omega) _ _ _ rfl rfl (po_keyOf _ CSZ.out) _ [] (plainElem_bool Try.underlying4 true) ?_; intro wu hown1 hgrow1; have m1_ := zM hown1; have n0_ := zM (po_blk BK190.out NM.out hgrow1); have n1_ := zM (po_bel HB.out GM.out hgrow1 (below_size HB.out)); clear HM BK190 HB BK192; have HM := m1_; have BK190 := n0_; have HB := n1_; clear m1_ n0_ n1_ hown1 hgrow1))
      go_roundg k2
      case measure => have := HJ1.out; have := HK2.out; omega
      case rel => exact ⟨(wrap64 (x31_2 + 1)), (by first | rfl | (simp; done) | (simp [*]; done)), H', ⟨by have := HJ1.out; have := HK2.out; omega⟩, ⟨by (with_reducible repeat (first | apply zNn | apply zNd | apply zNa)); exact BK190.out⟩, ⟨by repeat (first | (with_reducible first | exact HB.out | apply zBa | apply zBn | apply zBd | refine zBs ?_ GE190.out | refine zBs ?_ GE192.out) | exact HB.out)⟩, ⟨by rw [HWR.out]; exact po_step HM.out HZ.out HQ.out⟩, ⟨by rw [HWR.out]; have := HZ.out; omega⟩⟩
     rw [if_neg c11] at H
     have c11b0 : decide (x31_2 < (l0_0.length : Int)) = false := decide_eq_false c11
     clear c11
     by_cases c25 : 0 ≤ (l0_0.length : Int)
     case neg =>
      rw [if_neg c25] at H
      exact absurd H (by simp)
     rw [if_pos c25] at H
     have c25b0 := eq_true c25
     have c25b1 : decide (0 ≤ (l0_0.length : Int)) = true := zE c25
     clear c25
     by_cases c26 : ((l0_0.length : Int) : Int).toNat ≤ 35184372088832
     case neg =>
      rw [if_neg c26] at H
      exact absurd H (by simp)
     rw [if_pos c26] at H
     have c26b0 := eq_true c26
     have c26b1 : decide (((l0_0.length : Int) : Int).toNat ≤ 35184372088832) = true := zE c26
     clear c26
     obtain ⟨y194, hy194⟩ : ∃ y_ : List Int, y_ = (List.replicate ((l0_0.length : Int) : Int).toNat 0) := ⟨_, rfl⟩
     replace H : (impl_PlanOk.l1 k2 y194 l0_1 (l0_1.length : Int) 0 l0_0 l0_1) = some r := by first | (rw [hy194]; with_reducible exact H) | (have H2_ := (Option.bind_some _ _).symm.trans H; rw [hy194]; with_reducible exact H2_) | (have H2_ := (Option.bind_some _ _).symm.trans H; with_reducible exact H2_) | with_reducible exact H | (rw [hy194]; exact H) | exact H
     have Ny194 := zM hy194
     clear hy194
     have H' := zM H
     clear H
     obtain ⟨hcz27_0, hcz27_1, hfz27_0, hfz27_1⟩ := zc2 BK190.out
     go_wp2_with (first | ((with_reducible refine gate_dst (N := 51) rfl ?_); (try (refine gate_guard (by rfl) ?_; dsimp only)); refine Kd.R_make (Kd.int .i64) _ 3 rfl (N := 51) rfl 23 _ _ rfl (l0_0.length : Int) rfl rfl Try.underlying23 (.int .i64 0) 8 info3 rfl (by decide) (by omega) 0 (ok := fun _ => True) (okp := fun _ => True) rfl (fun _ hk => hk) trivial (zT (by assumption)) (Nat.le_trans (Nat.mul_le_mul_right _ (zT (by assumption) : (l0_0.length : Int).toNat ≤ 35184372088832)) (by omega)) (Below.refl _ _) (Nat.le_refl _) ?_; intro v195 w28 ho29 hb hg_ hnew_; clear hg_ hnew_; (first | rw [← Ny194.out] at ho29 | (simp only [Int.reduceToNat] at ho29; rw [← Ny194.out] at ho29)); have n0_ := zM (Kd.R_lower ho29 (below_size (by repeat (first | (with_reducible first | exact HB.out | apply zBa | apply zBn | apply zBd | refine zBs ?_ GE190.out) | exact HB.out)))); have n1_ := zM (zNb (g := gb190) (o := .cells #[.slice A0_0 l0_0.length c0_0, .slice A0_1 l0_1.length c0_1] 46 (0, 0)) (by (with_reducible repeat (first | apply zNn | apply zNd | apply zNa)); exact BK190.out) hb); have n2_ := zM (below_step (by repeat (first | (with_reducible first | exact HB.out | apply zBa | apply zBn | apply zBd | refine zBs ?_ GE190.out) | exact HB.out)) hb); clear BK190; clear HB; have HO196 := n0_; have BK190 := n1_; have HB := n2_; clear n0_ n1_ n2_; clear hb ho29; obtain ⟨hcz30_0, hcz30_1, hfz30_0, hfz30_1⟩ := zc2 BK190.out))
     (try simp only [Act.put, zS1, zS2, zS3])
     go_loopg [55] k2 (fun kq v55 w' => ∃ (x6_3 : List Int) (x55_3 : Int), v55 = .int .i64 x55_3 ∧ Aside0 (impl_PlanOk.l1 kq x6_3 l0_1 (l0_1.length : Int) x55_3 l0_0 l0_1 = some r) ∧ Aside0 (kq ≤ k2) ∧ Aside0 (Kd.R (Kd.int .i64) 3 w' w.heap.size (fun _ => True) v195 x6_3) ∧ Aside0 (w'.heap[gb190]? = some (.cells #[(.slice A0_0 l0_0.length c0_0), (.slice A0_1 l0_1.length c0_1)] 46 (0, 0))) ∧ Aside0 (Below w.heap.size w w'))
     case atStart => exact ⟨(y194), (0), (by first | rfl | (simp; done) | (simp [*]; done)), H', ⟨Nat.le_refl _⟩, ⟨by (with_reducible repeat (first | apply zRa | apply zRn | apply zRd)); first | exact HO196.out | (subst_vars; exact HO196.out)⟩, ⟨by (with_reducible repeat (first | apply zNn | apply zNd | apply zNa)); exact BK190.out⟩, ⟨by repeat (first | (with_reducible first | exact HB.out | apply zBa | apply zBn | apply zBd | refine zBs ?_ GE190.out) | exact HB.out)⟩⟩
     case round =>
      clear H'
      try clear c1
      try clear p1
      try clear q1
      try clear hx1
      try clear c2
      try clear p2
      try clear c4
      try clear c4b0
      try clear c4b1
      try clear c6
      try clear c6b0
      try clear c6b1
      try clear p6
      try clear c9
      try clear c11
      try clear c11b0
      try clear c12
      try clear c12b0
      try clear c13
      try clear c13b0
      try clear c15
      try clear c17
      try clear p19
      try clear q19
      try clear hx19
      try clear c22
      try clear c24
      try clear c25
      try clear c25b0
      try clear c25b1
      try clear c26
      try clear c26b0
      try clear c26b1
      try clear hcz10_0
      try clear hcz10_1
      try clear hcz18_0
      try clear hcz18_1
      try clear hcz18_2
      try clear hcz20_0
      try clear hcz20_1
      try clear hcz20_2
      try clear hcz23_0
      try clear hcz23_1
      try clear hcz23_2
      try clear hcz27_0
      try clear hcz27_1
      try clear hcz30_0
      try clear hcz30_1
      try clear hcz5_0
      try clear hcz5_1
      try clear hcz7_0
      try clear hcz7_1
      try clear hcz8_0
      try clear hcz8_1
      try clear hfz10_0
      try clear hfz10_1
      try clear hfz18_0
      try clear hfz18_1
      try clear hfz18_2
      try clear hfz20_0
      try clear hfz20_1
      try clear hfz20_2
      try clear hfz23_0
      try clear hfz23_1
      try clear hfz23_2
      try clear hfz27_0
      try clear hfz27_1
      try clear hfz30_0
      try clear hfz30_1
      try clear hfz5_0
      try clear hfz5_1
      try clear hfz7_0
      try clear hfz7_1
      try clear hfz8_0
      try clear hfz8_1
      try clear hx191_0
      try clear hx191_1
      try clear hx191_2
      try clear p191
      try clear p2
      try clear q191
      obtain ⟨x6_3, x55_3, rfl, HA, HK3, HO_6, BK190, HB⟩ := hrel
      cases gk with
      | zero => exact absurd HA.out (by simp [impl_PlanOk.l1])
      | succ k3 =>
       have H := HA.out
       clear HA
       simp only [impl_PlanOk.l1] at H
       by_cases c31 : x55_3 < (l0_1.length : Int)
       case neg =>
        rw [if_neg c31] at H
        have c31b0 : decide (x55_3 < (l0_1.length : Int)) = false := decide_eq_false c31
        clear c31
        have H' := zM H
        clear H
        obtain ⟨hcz65_0, hcz65_1, hfz65_0, hfz65_1⟩ := zc2 BK190.out
        go_wp2
        repeat (go_quiet (fail); try go_wp2)
        (try simp only [Act.put, zS1, zS2, zS3])
        go_loopg [98] k3 (fun kq v98 w' => ∃ (x98_4 : Int), v98 = .int .i64 x98_4 ∧ Aside0 (impl_PlanOk.l2 kq x6_3 l0_0 (l0_0.length : Int) x98_4 = some r) ∧ Aside0 (kq ≤ k3) ∧ Aside0 (Kd.R (Kd.int .i64) 3 w' w.heap.size (fun _ => True) v195 x6_3) ∧ Aside0 (w'.heap[gb190]? = some (.cells #[(.slice A0_0 l0_0.length c0_0), (.slice A0_1 l0_1.length c0_1)] 46 (0, 0))) ∧ Aside0 (Below w.heap.size w w'))
        case atStart => exact ⟨(0), (by first | rfl | (simp; done) | (simp [*]; done)), H', ⟨Nat.le_refl _⟩, ⟨by (with_reducible repeat (first | apply zRa | apply zRn | apply zRd)); first | exact HO_6.out | (subst_vars; exact HO_6.out)⟩, ⟨by (with_reducible repeat (first | apply zNn | apply zNd | apply zNa)); exact BK190.out⟩, ⟨by repeat (first | (with_reducible first | exact HB.out | apply zBa | apply zBn | apply zBd | refine zBs ?_ GE190.out) | exact HB.out)⟩⟩
        case round =>
         clear H'
         try clear c1
         try clear p1
         try clear q1
         try clear hx1
         try clear c2
         try clear p2
         try clear q2
         try clear hx2
         try clear c3
         try clear c4
         try clear c4b0
         try clear c4b1
         try clear p4
         try clear q4
         try clear hx4
         try clear hf4
         try clear c5
         try clear c6
         try clear c6b0
         try clear c6b1
         try clear p6
         try clear c9
         try clear c11
         try clear c11b0
         try clear c12
         try clear c12b0
         try clear c13
         try clear c13b0
         try clear c15
         try clear c17
         try clear p19
         try clear q19
         try clear hx19
         try clear p20
         try clear q20
         try clear hx20
         try clear c22
         try clear c24
         try clear c25
         try clear c25b0
         try clear c25b1
         try clear c26
         try clear c26b0
         try clear c26b1
         try clear c31
         try clear c31b0
         try clear c32
         try clear c32b0
         try clear c33
         try clear c33b0
         try clear c35
         try clear c37
         try clear c38
         try clear c38b0
         try clear c39
         try clear c39b0
         try clear c40
         try clear c40b0
         try clear c40b1
         try clear c42
         try clear c45
         try clear c45b0
         try clear c46
         try clear c46b0
         try clear p47
         try clear q47
         try clear hx47
         try clear hf47
         try clear c49
         try clear c58
         try clear c62
         try clear p64
         try clear hcz10_0
         try clear hcz10_1
         try clear hcz18_0
         try clear hcz18_1
         try clear hcz18_2
         try clear hcz20_0
         try clear hcz20_1
         try clear hcz20_2
         try clear hcz23_0
         try clear hcz23_1
         try clear hcz23_2
         try clear hcz27_0
         try clear hcz27_1
         try clear hcz30_0
         try clear hcz30_1
         try clear hcz43_0
         try clear hcz43_1
         try clear hcz44_0
         try clear hcz44_1
         try clear hcz50_0
         try clear hcz50_1
         try clear hcz52_0
         try clear hcz52_1
         try clear hcz53_0
         try clear hcz53_1
         try clear hcz59_0
         try clear hcz59_1
         try clear hcz5_0
         try clear hcz5_1
         try clear hcz60_0
         try clear hcz60_1
         try clear hcz63_0
         try clear hcz63_1
         try clear hcz64_0
         try clear hcz64_1
         try clear hcz65_0
         try clear hcz65_1
         try clear hcz7_0
         try clear hcz7_1
         try clear hcz8_0
         try clear hcz8_1
         try clear hfz10_0
         try clear hfz10_1
         try clear hfz18_0
         try clear hfz18_1
         try clear hfz18_2
         try clear hfz20_0
         try clear hfz20_1
         try clear hfz20_2
         try clear hfz23_0
         try clear hfz23_1
         try clear hfz23_2
         try clear hfz27_0
         try clear hfz27_1
         try clear hfz30_0
         try clear hfz30_1
         try clear hfz43_0
         try clear hfz43_1
         try clear hfz44_0
         try clear hfz44_1
         try clear hfz50_0
         try clear hfz50_1
         try clear hfz52_0
         try clear hfz52_1
         try clear hfz53_0
         try clear hfz53_1
         try clear hfz59_0
         try clear hfz59_1
         try clear hfz5_0
         try clear hfz5_1
         try clear hfz60_0
         try clear hfz60_1
         try clear hfz63_0
         try clear hfz63_1
         try clear hfz64_0
         try clear hfz64_1
         try clear hfz65_0
         try clear hfz65_1
         try clear hfz7_0
         try clear hfz7_1
         try clear hfz8_0
         try clear hfz8_1
         try clear hx191_0
         try clear hx191_1
         try clear hx191_2
         try clear hx197_0
         try clear hx197_1
         try clear hx201_0
         try clear hx201_1
         try clear hx201_2
         try clear hx202_0
         try clear hx47_0
         try clear p1
         try clear p19
         try clear p191
         try clear p197
         try clear p2
         try clear p201
         try clear p202
         try clear p47
         try clear p6
         try clear q1
         try clear q19
         try clear q191
         try clear q197
         try clear q201
         try clear q202
         try clear q47
         obtain ⟨x98_4, rfl, HA, HK4, HO_6, BK190, HB⟩ := hrel
         cases gk with
         | zero => exact absurd HA.out (by simp [impl_PlanOk.l2])
         | succ k4 =>
          have H := HA.out
          clear HA
          simp only [impl_PlanOk.l2] at H
          by_cases c66 : x98_4 < (l0_0.length : Int)
          case neg =>
           rw [if_neg c66] at H
           have c66b0 : decide (x98_4 < (l0_0.length : Int)) = false := decide_eq_false c66
           clear c66
           obtain rfl := zI H
           go_wp2
           repeat (go_quiet (fail); try go_wp2)
           go_ret
           exact ⟨by first | rfl | (simp [errW_none, errW_some] <;> rfl) | (simp [*, errW_none, errW_some] <;> rfl), by repeat (first | (with_reducible first | exact HB.out | apply zBa | apply zBn | apply zBd | refine zBs ?_ GE190.out) | exact HB.out)⟩
          rw [if_pos c66] at H
          have c66b0 : decide (x98_4 < (l0_0.length : Int)) = true := zE c66
          clear c66
          by_cases c67 : 0 ≤ x98_4
          case neg =>
           rw [if_neg c67] at H
           exact absurd H (by simp)
          rw [if_pos c67] at H
          have c67b0 : decide (0 ≤ x98_4) = true := zE c67
          clear c67
          by_cases c68 : x98_4 < (l0_0.length : Int)
          case neg =>
           rw [if_neg c68] at H
           exact absurd H (by simp)
          rw [if_pos c68] at H
          have c68b0 : decide (x98_4 < (l0_0.length : Int)) = true := zE c68
          clear c68
          by_cases c69 : x98_4 < (x6_3.length : Int)
          case neg =>
           rw [if_neg c69] at H
           exact absurd H (by simp)
          rw [if_pos c69] at H
          have c69b0 : decide (x98_4 < (x6_3.length : Int)) = true := zE c69
          clear c69
          replace H := zO.mp H
          obtain ⟨t207, A700, H⟩ := H
          replace H : (if (rd x6_3 x98_4) = t207 then (impl_PlanOk.l2 k4 x6_3 l0_0 (l0_0.length : Int) (wrap64 (x98_4 + 1))) else (some false)) = some r := H
          have A70 := zM A700
          clear A700
          by_cases c71 : (rd x6_3 x98_4) = t207
          case neg =>
           rw [if_neg c71] at H
           have c71b0 : ((rd x6_3 x98_4) == t207) = false := beq_eq_false_iff_ne.mpr c71
           have c71b1 : ((rd x6_3 x98_4) != t207) = true := bne_iff_ne.mpr c71
           obtain rfl := zI H
           have p204 : 0 ≤ (x98_4 : Int) := zT (by assumption)
           have q204 : x98_4 < (l0_0.length : Int) := zT (by assumption)
           obtain ⟨ad204, e204, hx204_0, hx204_1, hx204_2⟩ := at_T94 HR0_0.out x98_4 p204 q204
           cases e204
           replace hx204_0 := (HB.out.cell (zW w _ hx204_0)).trans hx204_0
           replace hx204_1 := (HB.out.cell (zW w _ hx204_1)).trans hx204_1
           replace hx204_2 := (HB.out.cell (zW w _ hx204_2)).trans hx204_2
           replace p204 := eq_true p204
           replace q204 := eq_true q204
           go_wp2_with (first | ((with_reducible refine gate_dst (N := 10) rfl ?_); (try (refine gate_guard (by rfl) ?_; dsimp only)); refine box_event ?hg (N := 10) ?hd (cs := #[.string (⟨#[]⟩ : ByteArray), .int .i64 0, .int .i64 0]) (t := 94) ?hr ?_; (case hd => rfl); (case hg => rfl); (case hr => first | (go_simp; done) | (go_simp; rfl)); intro gb205 hg w76 hbox hb; have n0_ := zM (Kd.R_below (by (with_reducible repeat (first | apply zRa | apply zRn | apply zRd)); first | exact HO_6.out | (subst_vars; exact HO_6.out)) hb); have n1_ := zM (zNb (g := gb190) (o := .cells #[.slice (some ad204) l0_0.length c0_0, .slice A0_1 l0_1.length c0_1] 46 (0, 0)) (by (with_reducible repeat (first | apply zNn | apply zNd | apply zNa)); exact BK190.out) hb); have n2_ := zM (below_step (by repeat (first | (with_reducible first | exact HB.out | apply zBa | apply zBn | apply zBd | refine zBs ?_ GE190.out) | exact HB.out)) hb); have n3_ := zM (hbox); have n4_ := zM ((by rw [hg]; exact (below_size (by repeat (first | (with_reducible first | exact HB.out | apply zBa | apply zBn | apply zBd | refine zBs ?_ GE190.out) | exact HB.out))) : w.heap.size ≤ gb205)); have n5_ := zM n4_.out; have n6_ := zM ((by rw [hg]; exact Nat.ne_of_lt (by simpa using blk_lt BK190.out) : gb190 ≠ gb205)); have n7_ := zM ((by rw [hg]; exact Nat.ne_of_gt (by simpa using blk_lt BK190.out) : gb205 ≠ gb190)); clear HO_6; clear BK190; clear HB; have HO_6 := n0_; have BK190 := n1_; have HB := n2_; have BK205 := n3_; have GW205 := n4_; have GE205 := n5_; have NB190_205 := n6_; have NB205_190 := n7_; clear n0_ n1_ n2_ n3_ n4_ n5_ n6_ n7_; clear hb hbox hg; have hnb77 := NB205_190.out; have hnc77 := NB190_205.out; obtain ⟨hcz78_0, hcz78_1, hcz78_2, hfz78_0, hfz78_1, hfz78_2⟩ := zc3 BK205.out; obtain ⟨Ao79, co79, eo79⟩ := Kd.R_slice HO_6.out; subst eo79; have p206 : 0 ≤ (x98_4 : Int) := zT (by assumption); have q206 : x98_4 < (x6_3.length : Int) := zT (by assumption); obtain ⟨ad206, e206, hx206_0⟩ := Kd.at_int (Kd.R_reads' HO_6.out).2.2 x98_4 p206 q206; cases e206; have hn206_0 : ad206.block ≠ gb205 := Kd.own_blk (Kd.R_ne HO_6.out BK205.out (by decide)); have hn206_1 : ad206.block ≠ gb205 := Kd.own_blk (Kd.R_ne HO_6.out BK205.out (by decide)); have hn206_2 : ad206.block ≠ gb205 := Kd.own_blk (Kd.R_ne HO_6.out BK205.out (by decide)); replace hx206_0 := (cell_far (p := ⟨gb205, 0, none⟩) (by first | (rw [add_block]; exact hn206_0) | (show (Addr.add _ _).block ≠ _; rw [add_block]; exact hn206_0) | exact hn206_0) (.string ((rd_T94 l0_0 x98_4).f0))).trans hx206_0; replace hx206_0 := (cell_far (p := ⟨gb205, 1, none⟩) (by first | (rw [add_block]; exact hn206_1) | (show (Addr.add _ _).block ≠ _; rw [add_block]; exact hn206_1) | exact hn206_1) (.int .i64 ((rd_T94 l0_0 x98_4).f1))).trans hx206_0; replace hx206_0 := (cell_far (p := ⟨gb205, 2, none⟩) (by first | (rw [add_block]; exact hn206_2) | (show (Addr.add _ _).block ≠ _; rw [add_block]; exact hn206_2) | exact hn206_2) (.int .i64 ((rd_T94 l0_0 x98_4).f2))).trans hx206_0; (try have hy206_0 := fun (n_ : Nat) => (show (((((w76.drewN n_).setCell ⟨gb205, 0, none⟩ (.string ((rd_T94 l0_0 x98_4).f0))).setCell ⟨gb205, 1, none⟩ (.int .i64 ((rd_T94 l0_0 x98_4).f1))).setCell ⟨gb205, 2, none⟩ (.int .i64 ((rd_T94 l0_0 x98_4).f2)))).cell? _ = some _ from hx206_0)); clear hn206_0; clear hn206_1; clear hn206_2; replace p206 := eq_true p206; replace q206 := eq_true q206) | (go_at_call 67; (with_reducible refine (impl_doors.calls ((rd_T94 l0_0 x98_4).f1) t207 _ A70.out).mono ?_); rintro e w' ⟨rfl, ⟨nd, rfl⟩⟩; (try first | exact ⟨rfl, _, zD _ _ _⟩ | exact ⟨rfl, _, Eq.trans (zD _ _ _) (congrArg (World.drewN _) (Nat.add_assoc _ _ _))⟩)))
           skip; repeat (go_quiet (first | ((with_reducible refine gate_dst (N := 10) rfl ?_); (try (refine gate_guard (by rfl) ?_; dsimp only)); refine box_event ?hg (N := 10) ?hd (cs := #[.string (⟨#[]⟩ : ByteArray), .int .i64 0, .int .i64 0]) (t := 94) ?hr ?_; (case hd => rfl); (case hg => rfl); (case hr => first | (go_simp; done) | (go_simp; rfl)); intro gb205 hg w76 hbox hb; have n0_ := zM (Kd.R_below (by (with_reducible repeat (first | apply zRa | apply zRn | apply zRd)); first | exact HO_6.out | (subst_vars; exact HO_6.out)) hb); have n1_ := zM (zNb (g := gb190) (o := .cells #[.slice (some ad204) l0_0.length c0_0, .slice A0_1 l0_1.length c0_1] 46 (0, 0)) (by (with_reducible repeat (first | apply zNn | apply zNd | apply zNa)); exact BK190.out) hb); have n2_ := zM (below_step (by repeat (first | (with_reducible first | exact HB.out | apply zBa | apply zBn | apply zBd | refine zBs ?_ GE190.out) | exact HB.out)) hb); have n3_ := zM (hbox); have n4_ := zM ((by rw [hg]; exact (below_size (by repeat (first | (with_reducible first | exact HB.out | apply zBa | apply zBn | apply zBd | refine zBs ?_ GE190.out) | exact HB.out))) : w.heap.size ≤ gb205)); have n5_ := zM n4_.out; have n6_ := zM ((by rw [hg]; exact Nat.ne_of_lt (by simpa using blk_lt BK190.out) : gb190 ≠ gb205)); have n7_ := zM ((by rw [hg]; exact Nat.ne_of_gt (by simpa using blk_lt BK190.out) : gb205 ≠ gb190)); clear HO_6; clear BK190; clear HB; have HO_6 := n0_; have BK190 := n1_; have HB := n2_; have BK205 := n3_; have GW205 := n4_; have GE205 := n5_; have NB190_205 := n6_; have NB205_190 := n7_; clear n0_ n1_ n2_ n3_ n4_ n5_ n6_ n7_; clear hb hbox hg; have hnb77 := NB205_190.out; have hnc77 := NB190_205.out; obtain ⟨hcz78_0, hcz78_1, hcz78_2, hfz78_0, hfz78_1, hfz78_2⟩ := zc3 BK205.out; obtain ⟨Ao79, co79, eo79⟩ := Kd.R_slice HO_6.out; subst eo79; have p206 : 0 ≤ (x98_4 : Int) := zT (by assumption); have q206 : x98_4 < (x6_3.length : Int) := zT (by assumption); obtain ⟨ad206, e206, hx206_0⟩ := Kd.at_int (Kd.R_reads' HO_6.out).2.2 x98_4 p206 q206; cases e206; have hn206_0 : ad206.block ≠ gb205 := Kd.own_blk (Kd.R_ne HO_6.out BK205.out (by decide)); have hn206_1 : ad206.block ≠ gb205 := Kd.own_blk (Kd.R_ne HO_6.out BK205.out (by decide)); have hn206_2 : ad206.block ≠ gb205 := Kd.own_blk (Kd.R_ne HO_6.out BK205.out (by decide)); replace hx206_0 := (cell_far (p := ⟨gb205, 0, none⟩) (by first | (rw [add_block]; exact hn206_0) | (show (Addr.add _ _).block ≠ _; rw [add_block]; exact hn206_0) | exact hn206_0) (.string ((rd_T94 l0_0 x98_4).f0))).trans hx206_0; replace hx206_0 := (cell_far (p := ⟨gb205, 1, none⟩) (by first | (rw [add_block]; exact hn206_1) | (show (Addr.add _ _).block ≠ _; rw [add_block]; exact hn206_1) | exact hn206_1) (.int .i64 ((rd_T94 l0_0 x98_4).f1))).trans hx206_0; replace hx206_0 := (cell_far (p := ⟨gb205, 2, none⟩) (by first | (rw [add_block]; exact hn206_2) | (show (Addr.add _ _).block ≠ _; rw [add_block]; exact hn206_2) | exact hn206_2) (.int .i64 ((rd_T94 l0_0 x98_4).f2))).trans hx206_0; (try have hy206_0 := fun (n_ : Nat) => (show (((((w76.drewN n_).setCell ⟨gb205, 0, none⟩ (.string ((rd_T94 l0_0 x98_4).f0))).setCell ⟨gb205, 1, none⟩ (.int .i64 ((rd_T94 l0_0 x98_4).f1))).setCell ⟨gb205, 2, none⟩ (.int .i64 ((rd_T94 l0_0 x98_4).f2)))).cell? _ = some _ from hx206_0)); clear hn206_0; clear hn206_1; clear hn206_2; replace p206 := eq_true p206; replace q206 := eq_true q206) | (go_at_call 67; (with_reducible refine (impl_doors.calls ((rd_T94 l0_0 x98_4).f1) t207 _ A70.out).mono ?_); rintro e w' ⟨rfl, ⟨nd, rfl⟩⟩; (try first | exact ⟨rfl, _, zD _ _ _⟩ | exact ⟨rfl, _, Eq.trans (zD _ _ _) (congrArg (World.drewN _) (Nat.add_assoc _ _ _))⟩))); try go_wp2_with (first | ((with_reducible refine gate_dst (N := 10) rfl ?_); (try (refine gate_guard (by rfl) ?_; dsimp only)); refine box_event ?hg (N := 10) ?hd (cs := #[.string (⟨#[]⟩ : ByteArray), .int .i64 0, .int .i64 0]) (t := 94) ?hr ?_; (case hd => rfl); (case hg => rfl); (case hr => first | (go_simp; done) | (go_simp; rfl)); intro gb205 hg w76 hbox hb; have n0_ := zM (Kd.R_below (by (with_reducible repeat (first | apply zRa | apply zRn | apply zRd)); first | exact HO_6.out | (subst_vars; exact HO_6.out)) hb); have n1_ := zM (zNb (g := gb190) (o := .cells #[.slice (some ad204) l0_0.length c0_0, .slice A0_1 l0_1.length c0_1] 46 (0, 0)) (by (with_reducible repeat (first | apply zNn | apply zNd | apply zNa)); exact BK190.out) hb); have n2_ := zM (below_step (by repeat (first | (with_reducible first | exact HB.out | apply zBa | apply zBn | apply zBd | refine zBs ?_ GE190.out) | exact HB.out)) hb); have n3_ := zM (hbox); have n4_ := zM ((by rw [hg]; exact (below_size (by repeat (first | (with_reducible first | exact HB.out | apply zBa | apply zBn | apply zBd | refine zBs ?_ GE190.out) | exact HB.out))) : w.heap.size ≤ gb205)); have n5_ := zM n4_.out; have n6_ := zM ((by rw [hg]; exact Nat.ne_of_lt (by simpa using blk_lt BK190.out) : gb190 ≠ gb205)); have n7_ := zM ((by rw [hg]; exact Nat.ne_of_gt (by simpa using blk_lt BK190.out) : gb205 ≠ gb190)); clear HO_6; clear BK190; clear HB; have HO_6 := n0_; have BK190 := n1_; have HB := n2_; have BK205 := n3_; have GW205 := n4_; have GE205 := n5_; have NB190_205 := n6_; have NB205_190 := n7_; clear n0_ n1_ n2_ n3_ n4_ n5_ n6_ n7_; clear hb hbox hg; have hnb77 := NB205_190.out; have hnc77 := NB190_205.out; obtain ⟨hcz78_0, hcz78_1, hcz78_2, hfz78_0, hfz78_1, hfz78_2⟩ := zc3 BK205.out; obtain ⟨Ao79, co79, eo79⟩ := Kd.R_slice HO_6.out; subst eo79; have p206 : 0 ≤ (x98_4 : Int) := zT (by assumption); have q206 : x98_4 < (x6_3.length : Int) := zT (by assumption); obtain ⟨ad206, e206, hx206_0⟩ := Kd.at_int (Kd.R_reads' HO_6.out).2.2 x98_4 p206 q206; cases e206; have hn206_0 : ad206.block ≠ gb205 := Kd.own_blk (Kd.R_ne HO_6.out BK205.out (by decide)); have hn206_1 : ad206.block ≠ gb205 := Kd.own_blk (Kd.R_ne HO_6.out BK205.out (by decide)); have hn206_2 : ad206.block ≠ gb205 := Kd.own_blk (Kd.R_ne HO_6.out BK205.out (by decide)); replace hx206_0 := (cell_far (p := ⟨gb205, 0, none⟩) (by first | (rw [add_block]; exact hn206_0) | (show (Addr.add _ _).block ≠ _; rw [add_block]; exact hn206_0) | exact hn206_0) (.string ((rd_T94 l0_0 x98_4).f0))).trans hx206_0; replace hx206_0 := (cell_far (p := ⟨gb205, 1, none⟩) (by first | (rw [add_block]; exact hn206_1) | (show (Addr.add _ _).block ≠ _; rw [add_block]; exact hn206_1) | exact hn206_1) (.int .i64 ((rd_T94 l0_0 x98_4).f1))).trans hx206_0; replace hx206_0 := (cell_far (p := ⟨gb205, 2, none⟩) (by first | (rw [add_block]; exact hn206_2) | (show (Addr.add _ _).block ≠ _; rw [add_block]; exact hn206_2) | exact hn206_2) (.int .i64 ((rd_T94 l0_0 x98_4).f2))).trans hx206_0; (try have hy206_0 := fun (n_ : Nat) => (show (((((w76.drewN n_).setCell ⟨gb205, 0, none⟩ (.string ((rd_T94 l0_0 x98_4).f0))).setCell ⟨gb205, 1, none⟩ (.int .i64 ((rd_T94 l0_0 x98_4).f1))).setCell ⟨gb205, 2, none⟩ (.int .i64 ((rd_T94 l0_0 x98_4).f2)))).cell? _ = some _ from hx206_0)); clear hn206_0; clear hn206_1; clear hn206_2; replace p206 := eq_true p206; replace q206 := eq_true q206) | (go_at_call 67; (with_reducible refine (impl_doors.calls ((rd_T94 l0_0 x98_4).f1) t207 _ A70.out).mono ?_); rintro e w' ⟨rfl, ⟨nd, rfl⟩⟩; (try first | exact ⟨rfl, _, zD _ _ _⟩ | exact ⟨rfl, _, Eq.trans (zD _ _ _) (congrArg (World.drewN _) (Nat.add_assoc _ _ _))⟩))))
           go_ret
           exact ⟨by first | rfl | (simp [errW_none, errW_some] <;> rfl) | (simp [*, errW_none, errW_some] <;> rfl), by repeat (first | (with_reducible first | exact HB.out | apply zBa | apply zBn | apply zBd | refine zBs ?_ GE190.out | refine zBs ?_ GE205.out) | exact HB.out)⟩
          rw [if_pos c71] at H
          have c71b0 : ((rd x6_3 x98_4) == t207) = true := beq_iff_eq.mpr c71
          have c71b1 : ((rd x6_3 x98_4) != t207) = false := bne_eq_false_iff_eq.mpr c71
          clear c71
          have H' := zM H
          clear H
          have p204 : 0 ≤ (x98_4 : Int) := zT (by assumption)
          have q204 : x98_4 < (l0_0.length : Int) := zT (by assumption)
          obtain ⟨ad204, e204, hx204_0, hx204_1, hx204_2⟩ := at_T94 HR0_0.out x98_4 p204 q204
          cases e204
          replace hx204_0 := (HB.out.cell (zW w _ hx204_0)).trans hx204_0
          replace hx204_1 := (HB.out.cell (zW w _ hx204_1)).trans hx204_1
          replace hx204_2 := (HB.out.cell (zW w _ hx204_2)).trans hx204_2
          replace p204 := eq_true p204
          replace q204 := eq_true q204
          go_wp2_with (first | ((with_reducible refine gate_dst (N := 10) rfl ?_); (try (refine gate_guard (by rfl) ?_; dsimp only)); refine box_event ?hg (N := 10) ?hd (cs := #[.string (⟨#[]⟩ : ByteArray), .int .i64 0, .int .i64 0]) (t := 94) ?hr ?_; (case hd => rfl); (case hg => rfl); (case hr => first | (go_simp; done) | (go_simp; rfl)); intro gb205 hg w72 hbox hb; have n0_ := zM (Kd.R_below (by (with_reducible repeat (first | apply zRa | apply zRn | apply zRd)); first | exact HO_6.out | (subst_vars; exact HO_6.out)) hb); have n1_ := zM (zNb (g := gb190) (o := .cells #[.slice (some ad204) l0_0.length c0_0, .slice A0_1 l0_1.length c0_1] 46 (0, 0)) (by (with_reducible repeat (first | apply zNn | apply zNd | apply zNa)); exact BK190.out) hb); have n2_ := zM (below_step (by repeat (first | (with_reducible first | exact HB.out | apply zBa | apply zBn | apply zBd | refine zBs ?_ GE190.out) | exact HB.out)) hb); have n3_ := zM (hbox); have n4_ := zM ((by rw [hg]; exact (below_size (by repeat (first | (with_reducible first | exact HB.out | apply zBa | apply zBn | apply zBd | refine zBs ?_ GE190.out) | exact HB.out))) : w.heap.size ≤ gb205)); have n5_ := zM n4_.out; have n6_ := zM ((by rw [hg]; exact Nat.ne_of_lt (by simpa using blk_lt BK190.out) : gb190 ≠ gb205)); have n7_ := zM ((by rw [hg]; exact Nat.ne_of_gt (by simpa using blk_lt BK190.out) : gb205 ≠ gb190)); clear HO_6; clear BK190; clear HB; have HO_6 := n0_; have BK190 := n1_; have HB := n2_; have BK205 := n3_; have GW205 := n4_; have GE205 := n5_; have NB190_205 := n6_; have NB205_190 := n7_; clear n0_ n1_ n2_ n3_ n4_ n5_ n6_ n7_; clear hb hbox hg; have hnb73 := NB205_190.out; have hnc73 := NB190_205.out; obtain ⟨hcz74_0, hcz74_1, hcz74_2, hfz74_0, hfz74_1, hfz74_2⟩ := zc3 BK205.out; obtain ⟨Ao75, co75, eo75⟩ := Kd.R_slice HO_6.out; subst eo75; have p206 : 0 ≤ (x98_4 : Int) := zT (by assumption); have q206 : x98_4 < (x6_3.length : Int) := zT (by assumption); obtain ⟨ad206, e206, hx206_0⟩ := Kd.at_int (Kd.R_reads' HO_6.out).2.2 x98_4 p206 q206; cases e206; have hn206_0 : ad206.block ≠ gb205 := Kd.own_blk (Kd.R_ne HO_6.out BK205.out (by decide)); have hn206_1 : ad206.block ≠ gb205 := Kd.own_blk (Kd.R_ne HO_6.out BK205.out (by decide)); have hn206_2 : ad206.block ≠ gb205 := Kd.own_blk (Kd.R_ne HO_6.out BK205.out (by decide)); replace hx206_0 := (cell_far (p := ⟨gb205, 0, none⟩) (by first | (rw [add_block]; exact hn206_0) | (show (Addr.add _ _).block ≠ _; rw [add_block]; exact hn206_0) | exact hn206_0) (.string ((rd_T94 l0_0 x98_4).f0))).trans hx206_0; replace hx206_0 := (cell_far (p := ⟨gb205, 1, none⟩) (by first | (rw [add_block]; exact hn206_1) | (show (Addr.add _ _).block ≠ _; rw [add_block]; exact hn206_1) | exact hn206_1) (.int .i64 ((rd_T94 l0_0 x98_4).f1))).trans hx206_0; replace hx206_0 := (cell_far (p := ⟨gb205, 2, none⟩) (by first | (rw [add_block]; exact hn206_2) | (show (Addr.add _ _).block ≠ _; rw [add_block]; exact hn206_2) | exact hn206_2) (.int .i64 ((rd_T94 l0_0 x98_4).f2))).trans hx206_0; (try have hy206_0 := fun (n_ : Nat) => (show (((((w72.drewN n_).setCell ⟨gb205, 0, none⟩ (.string ((rd_T94 l0_0 x98_4).f0))).setCell ⟨gb205, 1, none⟩ (.int .i64 ((rd_T94 l0_0 x98_4).f1))).setCell ⟨gb205, 2, none⟩ (.int .i64 ((rd_T94 l0_0 x98_4).f2)))).cell? _ = some _ from hx206_0)); clear hn206_0; clear hn206_1; clear hn206_2; replace p206 := eq_true p206; replace q206 := eq_true q206) | (go_at_call 67; (with_reducible refine (impl_doors.calls ((rd_T94 l0_0 x98_4).f1) t207 _ A70.out).mono ?_); rintro e w' ⟨rfl, ⟨nd, rfl⟩⟩; (try first | exact ⟨rfl, _, zD _ _ _⟩ | exact ⟨rfl, _, Eq.trans (zD _ _ _) (congrArg (World.drewN _) (Nat.add_assoc _ _ _))⟩)))
          skip; repeat (go_quiet (first | ((with_reducible refine gate_dst (N := 10) rfl ?_); (try (refine gate_guard (by rfl) ?_; dsimp only)); refine box_event ?hg (N := 10) ?hd (cs := #[.string (⟨#[]⟩ : ByteArray), .int .i64 0, .int .i64 0]) (t := 94) ?hr ?_; (case hd => rfl); (case hg => rfl); (case hr => first | (go_simp; done) | (go_simp; rfl)); intro gb205 hg w72 hbox hb; have n0_ := zM (Kd.R_below (by (with_reducible repeat (first | apply zRa | apply zRn | apply zRd)); first | exact HO_6.out | (subst_vars; exact HO_6.out)) hb); have n1_ := zM (zNb (g := gb190) (o := .cells #[.slice (some ad204) l0_0.length c0_0, .slice A0_1 l0_1.length c0_1] 46 (0, 0)) (by (with_reducible repeat (first | apply zNn | apply zNd | apply zNa)); exact BK190.out) hb); have n2_ := zM (below_step (by repeat (first | (with_reducible first | exact HB.out | apply zBa | apply zBn | apply zBd | refine zBs ?_ GE190.out) | exact HB.out)) hb); have n3_ := zM (hbox); have n4_ := zM ((by rw [hg]; exact (below_size (by repeat (first | (with_reducible first | exact HB.out | apply zBa | apply zBn | apply zBd | refine zBs ?_ GE190.out) | exact HB.out))) : w.heap.size ≤ gb205)); have n5_ := zM n4_.out; have n6_ := zM ((by rw [hg]; exact Nat.ne_of_lt (by simpa using blk_lt BK190.out) : gb190 ≠ gb205)); have n7_ := zM ((by rw [hg]; exact Nat.ne_of_gt (by simpa using blk_lt BK190.out) : gb205 ≠ gb190)); clear HO_6; clear BK190; clear HB; have HO_6 := n0_; have BK190 := n1_; have HB := n2_; have BK205 := n3_; have GW205 := n4_; have GE205 := n5_; have NB190_205 := n6_; have NB205_190 := n7_; clear n0_ n1_ n2_ n3_ n4_ n5_ n6_ n7_; clear hb hbox hg; have hnb73 := NB205_190.out; have hnc73 := NB190_205.out; obtain ⟨hcz74_0, hcz74_1, hcz74_2, hfz74_0, hfz74_1, hfz74_2⟩ := zc3 BK205.out; obtain ⟨Ao75, co75, eo75⟩ := Kd.R_slice HO_6.out; subst eo75; have p206 : 0 ≤ (x98_4 : Int) := zT (by assumption); have q206 : x98_4 < (x6_3.length : Int) := zT (by assumption); obtain ⟨ad206, e206, hx206_0⟩ := Kd.at_int (Kd.R_reads' HO_6.out).2.2 x98_4 p206 q206; cases e206; have hn206_0 : ad206.block ≠ gb205 := Kd.own_blk (Kd.R_ne HO_6.out BK205.out (by decide)); have hn206_1 : ad206.block ≠ gb205 := Kd.own_blk (Kd.R_ne HO_6.out BK205.out (by decide)); have hn206_2 : ad206.block ≠ gb205 := Kd.own_blk (Kd.R_ne HO_6.out BK205.out (by decide)); replace hx206_0 := (cell_far (p := ⟨gb205, 0, none⟩) (by first | (rw [add_block]; exact hn206_0) | (show (Addr.add _ _).block ≠ _; rw [add_block]; exact hn206_0) | exact hn206_0) (.string ((rd_T94 l0_0 x98_4).f0))).trans hx206_0; replace hx206_0 := (cell_far (p := ⟨gb205, 1, none⟩) (by first | (rw [add_block]; exact hn206_1) | (show (Addr.add _ _).block ≠ _; rw [add_block]; exact hn206_1) | exact hn206_1) (.int .i64 ((rd_T94 l0_0 x98_4).f1))).trans hx206_0; replace hx206_0 := (cell_far (p := ⟨gb205, 2, none⟩) (by first | (rw [add_block]; exact hn206_2) | (show (Addr.add _ _).block ≠ _; rw [add_block]; exact hn206_2) | exact hn206_2) (.int .i64 ((rd_T94 l0_0 x98_4).f2))).trans hx206_0; (try have hy206_0 := fun (n_ : Nat) => (show (((((w72.drewN n_).setCell ⟨gb205, 0, none⟩ (.string ((rd_T94 l0_0 x98_4).f0))).setCell ⟨gb205, 1, none⟩ (.int .i64 ((rd_T94 l0_0 x98_4).f1))).setCell ⟨gb205, 2, none⟩ (.int .i64 ((rd_T94 l0_0 x98_4).f2)))).cell? _ = some _ from hx206_0)); clear hn206_0; clear hn206_1; clear hn206_2; replace p206 := eq_true p206; replace q206 := eq_true q206) | (go_at_call 67; (with_reducible refine (impl_doors.calls ((rd_T94 l0_0 x98_4).f1) t207 _ A70.out).mono ?_); rintro e w' ⟨rfl, ⟨nd, rfl⟩⟩; (try first | exact ⟨rfl, _, zD _ _ _⟩ | exact ⟨rfl, _, Eq.trans (zD _ _ _) (congrArg (World.drewN _) (Nat.add_assoc _ _ _))⟩))); try go_wp2_with (first | ((with_reducible refine gate_dst (N := 10) rfl ?_); (try (refine gate_guard (by rfl) ?_; dsimp only)); refine box_event ?hg (N := 10) ?hd (cs := #[.string (⟨#[]⟩ : ByteArray), .int .i64 0, .int .i64 0]) (t := 94) ?hr ?_; (case hd => rfl); (case hg => rfl); (case hr => first | (go_simp; done) | (go_simp; rfl)); intro gb205 hg w72 hbox hb; have n0_ := zM (Kd.R_below (by (with_reducible repeat (first | apply zRa | apply zRn | apply zRd)); first | exact HO_6.out | (subst_vars; exact HO_6.out)) hb); have n1_ := zM (zNb (g := gb190) (o := .cells #[.slice (some ad204) l0_0.length c0_0, .slice A0_1 l0_1.length c0_1] 46 (0, 0)) (by (with_reducible repeat (first | apply zNn | apply zNd | apply zNa)); exact BK190.out) hb); have n2_ := zM (below_step (by repeat (first | (with_reducible first | exact HB.out | apply zBa | apply zBn | apply zBd | refine zBs ?_ GE190.out) | exact HB.out)) hb); have n3_ := zM (hbox); have n4_ := zM ((by rw [hg]; exact (below_size (by repeat (first | (with_reducible first | exact HB.out | apply zBa | apply zBn | apply zBd | refine zBs ?_ GE190.out) | exact HB.out))) : w.heap.size ≤ gb205)); have n5_ := zM n4_.out; have n6_ := zM ((by rw [hg]; exact Nat.ne_of_lt (by simpa using blk_lt BK190.out) : gb190 ≠ gb205)); have n7_ := zM ((by rw [hg]; exact Nat.ne_of_gt (by simpa using blk_lt BK190.out) : gb205 ≠ gb190)); clear HO_6; clear BK190; clear HB; have HO_6 := n0_; have BK190 := n1_; have HB := n2_; have BK205 := n3_; have GW205 := n4_; have GE205 := n5_; have NB190_205 := n6_; have NB205_190 := n7_; clear n0_ n1_ n2_ n3_ n4_ n5_ n6_ n7_; clear hb hbox hg; have hnb73 := NB205_190.out; have hnc73 := NB190_205.out; obtain ⟨hcz74_0, hcz74_1, hcz74_2, hfz74_0, hfz74_1, hfz74_2⟩ := zc3 BK205.out; obtain ⟨Ao75, co75, eo75⟩ := Kd.R_slice HO_6.out; subst eo75; have p206 : 0 ≤ (x98_4 : Int) := zT (by assumption); have q206 : x98_4 < (x6_3.length : Int) := zT (by assumption); obtain ⟨ad206, e206, hx206_0⟩ := Kd.at_int (Kd.R_reads' HO_6.out).2.2 x98_4 p206 q206; cases e206; have hn206_0 : ad206.block ≠ gb205 := Kd.own_blk (Kd.R_ne HO_6.out BK205.out (by decide)); have hn206_1 : ad206.block ≠ gb205 := Kd.own_blk (Kd.R_ne HO_6.out BK205.out (by decide)); have hn206_2 : ad206.block ≠ gb205 := Kd.own_blk (Kd.R_ne HO_6.out BK205.out (by decide)); replace hx206_0 := (cell_far (p := ⟨gb205, 0, none⟩) (by first | (rw [add_block]; exact hn206_0) | (show (Addr.add _ _).block ≠ _; rw [add_block]; exact hn206_0) | exact hn206_0) (.string ((rd_T94 l0_0 x98_4).f0))).trans hx206_0; replace hx206_0 := (cell_far (p := ⟨gb205, 1, none⟩) (by first | (rw [add_block]; exact hn206_1) | (show (Addr.add _ _).block ≠ _; rw [add_block]; exact hn206_1) | exact hn206_1) (.int .i64 ((rd_T94 l0_0 x98_4).f1))).trans hx206_0; replace hx206_0 := (cell_far (p := ⟨gb205, 2, none⟩) (by first | (rw [add_block]; exact hn206_2) | (show (Addr.add _ _).block ≠ _; rw [add_block]; exact hn206_2) | exact hn206_2) (.int .i64 ((rd_T94 l0_0 x98_4).f2))).trans hx206_0; (try have hy206_0 := fun (n_ : Nat) => (show (((((w72.drewN n_).setCell ⟨gb205, 0, none⟩ (.string ((rd_T94 l0_0 x98_4).f0))).setCell ⟨gb205, 1, none⟩ (.int .i64 ((rd_T94 l0_0 x98_4).f1))).setCell ⟨gb205, 2, none⟩ (.int .i64 ((rd_T94 l0_0 x98_4).f2)))).cell? _ = some _ from hx206_0)); clear hn206_0; clear hn206_1; clear hn206_2; replace p206 := eq_true p206; replace q206 := eq_true q206) | (go_at_call 67; (with_reducible refine (impl_doors.calls ((rd_T94 l0_0 x98_4).f1) t207 _ A70.out).mono ?_); rintro e w' ⟨rfl, ⟨nd, rfl⟩⟩; (try first | exact ⟨rfl, _, zD _ _ _⟩ | exact ⟨rfl, _, Eq.trans (zD _ _ _) (congrArg (World.drewN _) (Nat.add_assoc _ _ _))⟩))))
          go_roundg k4
          case measure => have := HJ1.out; have := HK2.out; have := HK3.out; have := HK4.out; omega
          case rel => exact ⟨(wrap64 (x98_4 + 1)), (by first | rfl | (simp; done) | (simp [*]; done)), H', ⟨by have := HJ1.out; have := HK2.out; have := HK3.out; have := HK4.out; omega⟩, ⟨by (with_reducible repeat (first | apply zRa | apply zRn | apply zRd)); exact Kd.R_mono (Kd.R_far (p := ⟨gb205, 2, none⟩) (Kd.R_far (p := ⟨gb205, 1, none⟩) (Kd.R_far (p := ⟨gb205, 0, none⟩) (Kd.R_types HO_6.out BK205.out (by decide)) (fun _ hk => hk.2) (.string ((rd_T94 l0_0 x98_4).f0))) (fun _ hk => hk.2) (.int .i64 ((rd_T94 l0_0 x98_4).f1))) (fun _ hk => hk.2) (.int .i64 ((rd_T94 l0_0 x98_4).f2))) (fun _ hk => trivial)⟩, ⟨by (with_reducible repeat (first | apply zNn | apply zNd | apply zNa)); refine zNf ?_ NB190_205.out _; (with_reducible repeat (first | apply zNn | apply zNd | apply zNa)); refine zNf ?_ NB190_205.out _; (with_reducible repeat (first | apply zNn | apply zNd | apply zNa)); refine zNf ?_ NB190_205.out _; (with_reducible repeat (first | apply zNn | apply zNd | apply zNa)); exact BK190.out⟩, ⟨by repeat (first | (with_reducible first | exact HB.out | apply zBa | apply zBn | apply zBd | refine zBs ?_ GE190.out | refine zBs ?_ GE205.out) | exact HB.out)⟩⟩
       rw [if_pos c31] at H
       have c31b0 : decide (x55_3 < (l0_1.length : Int)) = true := zE c31
       clear c31
       by_cases c32 : 0 ≤ x55_3
       case neg =>
        rw [if_neg c32] at H
        exact absurd H (by simp)
       rw [if_pos c32] at H
       have c32b0 : decide (0 ≤ x55_3) = true := zE c32
       clear c32
       by_cases c33 : x55_3 < (l0_1.length : Int)
       case neg =>
        rw [if_neg c33] at H
        exact absurd H (by simp)
       rw [if_pos c33] at H
       have c33b0 : decide (x55_3 < (l0_1.length : Int)) = true := zE c33
       clear c33
       replace H := zO.mp H
       obtain ⟨t199, A340, H⟩ := H
       replace H : (if t199 = true then ((impl_to.f ((rd_T97 l0_1 x55_3).f1) 0 (wrap64 ((l0_0.length : Int) - 1))).bind fun t200 => (if t200 = true then (if 0 ≤ ((rd_T97 l0_1 x55_3).f0) then (if ((rd_T97 l0_1 x55_3).f0) < (l0_0.length : Int) then (if ((rd_T94 l0_0 ((rd_T97 l0_1 x55_3).f0)).f1) = 2 then (some false) else (if 0 ≤ ((rd_T97 l0_1 x55_3).f1) then (if ((rd_T97 l0_1 x55_3).f1) < (x6_3.length : Int) then (impl_PlanOk.l1 k3 (x6_3.set (((rd_T97 l0_1 x55_3).f1) : Int).toNat (wrap64 ((rd x6_3 ((rd_T97 l0_1 x55_3).f1)) + 1))) l0_1 (l0_1.length : Int) (wrap64 (x55_3 + 1)) l0_0 l0_1) else (none)) else (none))) else (none)) else (none)) else (some false))) else (some false)) = some r := H
       have A34 := zM A340
       clear A340
       by_cases c35 : t199 = true
       case neg =>
        replace c35 := Bool.eq_false_iff.mpr c35
        subst c35
        have H1 : (some false) = some r := by rw [if_neg (show ¬ (false = true) by decide)] at H; exact H
        clear H
        have H := H1
        clear H1
        obtain rfl := zI H
        have p197 : 0 ≤ (x55_3 : Int) := zT (by assumption)
        have q197 : x55_3 < (l0_1.length : Int) := zT (by assumption)
        obtain ⟨ad197, e197, hx197_0, hx197_1⟩ := at_T97 HR0_1.out x55_3 p197 q197
        cases e197
        replace hx197_0 := (HB.out.cell (zW w _ hx197_0)).trans hx197_0
        replace hx197_1 := (HB.out.cell (zW w _ hx197_1)).trans hx197_1
        replace p197 := eq_true p197
        replace q197 := eq_true q197
        go_wp2_with (first | ((with_reducible refine gate_dst (N := 8) rfl ?_); (try (refine gate_guard (by rfl) ?_; dsimp only)); refine box_event ?hg (N := 8) ?hd (cs := #[.int .i64 0, .int .i64 0]) (t := 97) ?hr ?_; (case hd => rfl); (case hg => rfl); (case hr => first | (go_simp; done) | (go_simp; rfl)); intro gb198 hg w61 hbox hb; have n0_ := zM (Kd.R_below (by (with_reducible repeat (first | apply zRa | apply zRn | apply zRd)); first | exact HO_6.out | (subst_vars; exact HO_6.out)) hb); have n1_ := zM (zNb (g := gb190) (o := .cells #[.slice A0_0 l0_0.length c0_0, .slice (some ad197) l0_1.length c0_1] 46 (0, 0)) (by (with_reducible repeat (first | apply zNn | apply zNd | apply zNa)); exact BK190.out) hb); have n2_ := zM (below_step (by repeat (first | (with_reducible first | exact HB.out | apply zBa | apply zBn | apply zBd | refine zBs ?_ GE190.out) | exact HB.out)) hb); have n3_ := zM (hbox); have n4_ := zM ((by rw [hg]; exact (below_size (by repeat (first | (with_reducible first | exact HB.out | apply zBa | apply zBn | apply zBd | refine zBs ?_ GE190.out) | exact HB.out))) : w.heap.size ≤ gb198)); have n5_ := zM n4_.out; have n6_ := zM ((by rw [hg]; exact Nat.ne_of_lt (by simpa using blk_lt BK190.out) : gb190 ≠ gb198)); have n7_ := zM ((by rw [hg]; exact Nat.ne_of_gt (by simpa using blk_lt BK190.out) : gb198 ≠ gb190)); clear HO_6; clear BK190; clear HB; have HO_6 := n0_; have BK190 := n1_; have HB := n2_; have BK198 := n3_; have GW198 := n4_; have GE198 := n5_; have NB190_198 := n6_; have NB198_190 := n7_; clear n0_ n1_ n2_ n3_ n4_ n5_ n6_ n7_; clear hb hbox hg; have hnb62 := NB198_190.out; have hnc62 := NB190_198.out; obtain ⟨hcz63_0, hcz63_1, hfz63_0, hfz63_1⟩ := zc2 BK198.out; obtain ⟨hcz64_0, hcz64_1, hfz64_0, hfz64_1⟩ := zc2 BK190.out) | (go_at_call 66; (with_reducible refine (impl_to.calls ((rd_T97 l0_1 x55_3).f0) 0 (wrap64 ((l0_0.length : Int) - 1)) false _ A34.out).mono ?_); rintro e w' ⟨rfl, ⟨nd, rfl⟩⟩; (try first | exact ⟨rfl, _, zD _ _ _⟩ | exact ⟨rfl, _, Eq.trans (zD _ _ _) (congrArg (World.drewN _) (Nat.add_assoc _ _ _))⟩)))
        go_ret
        exact ⟨by first | rfl | (simp [errW_none, errW_some] <;> rfl) | (simp [*, errW_none, errW_some] <;> rfl), by repeat (first | (with_reducible first | exact HB.out | apply zBa | apply zBn | apply zBd | refine zBs ?_ GE190.out | refine zBs ?_ GE198.out) | exact HB.out)⟩
       subst c35
       have H1 : ((impl_to.f ((rd_T97 l0_1 x55_3).f1) 0 (wrap64 ((l0_0.length : Int) - 1))).bind fun t200 => (if t200 = true then (if 0 ≤ ((rd_T97 l0_1 x55_3).f0) then (if ((rd_T97 l0_1 x55_3).f0) < (l0_0.length : Int) then (if ((rd_T94 l0_0 ((rd_T97 l0_1 x55_3).f0)).f1) = 2 then (some false) else (if 0 ≤ ((rd_T97 l0_1 x55_3).f1) then (if ((rd_T97 l0_1 x55_3).f1) < (x6_3.length : Int) then (impl_PlanOk.l1 k3 (x6_3.set (((rd_T97 l0_1 x55_3).f1) : Int).toNat (wrap64 ((rd x6_3 ((rd_T97 l0_1 x55_3).f1)) + 1))) l0_1 (l0_1.length : Int) (wrap64 (x55_3 + 1)) l0_0 l0_1) else (none)) else (none))) else (none)) else (none)) else (some false))) = some r := by rw [if_pos rfl] at H; exact H
       clear H
       have H := H1
       clear H1
       replace H := zO.mp H
       obtain ⟨t200, A360, H⟩ := H
       replace H : (if t200 = true then (if 0 ≤ ((rd_T97 l0_1 x55_3).f0) then (if ((rd_T97 l0_1 x55_3).f0) < (l0_0.length : Int) then (if ((rd_T94 l0_0 ((rd_T97 l0_1 x55_3).f0)).f1) = 2 then (some false) else (if 0 ≤ ((rd_T97 l0_1 x55_3).f1) then (if ((rd_T97 l0_1 x55_3).f1) < (x6_3.length : Int) then (impl_PlanOk.l1 k3 (x6_3.set (((rd_T97 l0_1 x55_3).f1) : Int).toNat (wrap64 ((rd x6_3 ((rd_T97 l0_1 x55_3).f1)) + 1))) l0_1 (l0_1.length : Int) (wrap64 (x55_3 + 1)) l0_0 l0_1) else (none)) else (none))) else (none)) else (none)) else (some false)) = some r := H
       have A36 := zM A360
       clear A360
       by_cases c37 : t200 = true
       case neg =>
        replace c37 := Bool.eq_false_iff.mpr c37
        subst c37
        have H1 : (some false) = some r := by rw [if_neg (show ¬ (false = true) by decide)] at H; exact H
        clear H
        have H := H1
        clear H1
        obtain rfl := zI H
        have p197 : 0 ≤ (x55_3 : Int) := zT (by assumption)
        have q197 : x55_3 < (l0_1.length : Int) := zT (by assumption)
        obtain ⟨ad197, e197, hx197_0, hx197_1⟩ := at_T97 HR0_1.out x55_3 p197 q197
        cases e197
        replace hx197_0 := (HB.out.cell (zW w _ hx197_0)).trans hx197_0
        replace hx197_1 := (HB.out.cell (zW w _ hx197_1)).trans hx197_1
        replace p197 := eq_true p197
        replace q197 := eq_true q197
        go_wp2_with (first | ((with_reducible refine gate_dst (N := 8) rfl ?_); (try (refine gate_guard (by rfl) ?_; dsimp only)); refine box_event ?hg (N := 8) ?hd (cs := #[.int .i64 0, .int .i64 0]) (t := 97) ?hr ?_; (case hd => rfl); (case hg => rfl); (case hr => first | (go_simp; done) | (go_simp; rfl)); intro gb198 hg w57 hbox hb; have n0_ := zM (Kd.R_below (by (with_reducible repeat (first | apply zRa | apply zRn | apply zRd)); first | exact HO_6.out | (subst_vars; exact HO_6.out)) hb); have n1_ := zM (zNb (g := gb190) (o := .cells #[.slice A0_0 l0_0.length c0_0, .slice (some ad197) l0_1.length c0_1] 46 (0, 0)) (by (with_reducible repeat (first | apply zNn | apply zNd | apply zNa)); exact BK190.out) hb); have n2_ := zM (below_step (by repeat (first | (with_reducible first | exact HB.out | apply zBa | apply zBn | apply zBd | refine zBs ?_ GE190.out) | exact HB.out)) hb); have n3_ := zM (hbox); have n4_ := zM ((by rw [hg]; exact (below_size (by repeat (first | (with_reducible first | exact HB.out | apply zBa | apply zBn | apply zBd | refine zBs ?_ GE190.out) | exact HB.out))) : w.heap.size ≤ gb198)); have n5_ := zM n4_.out; have n6_ := zM ((by rw [hg]; exact Nat.ne_of_lt (by simpa using blk_lt BK190.out) : gb190 ≠ gb198)); have n7_ := zM ((by rw [hg]; exact Nat.ne_of_gt (by simpa using blk_lt BK190.out) : gb198 ≠ gb190)); clear HO_6; clear BK190; clear HB; have HO_6 := n0_; have BK190 := n1_; have HB := n2_; have BK198 := n3_; have GW198 := n4_; have GE198 := n5_; have NB190_198 := n6_; have NB198_190 := n7_; clear n0_ n1_ n2_ n3_ n4_ n5_ n6_ n7_; clear hb hbox hg; have hnb58 := NB198_190.out; have hnc58 := NB190_198.out; obtain ⟨hcz59_0, hcz59_1, hfz59_0, hfz59_1⟩ := zc2 BK198.out; obtain ⟨hcz60_0, hcz60_1, hfz60_0, hfz60_1⟩ := zc2 BK190.out) | (go_at_call 66; (with_reducible refine (impl_to.calls ((rd_T97 l0_1 x55_3).f0) 0 (wrap64 ((l0_0.length : Int) - 1)) true _ A34.out).mono ?_); rintro e w' ⟨rfl, ⟨nd, rfl⟩⟩; (try first | exact ⟨rfl, _, zD _ _ _⟩ | exact ⟨rfl, _, Eq.trans (zD _ _ _) (congrArg (World.drewN _) (Nat.add_assoc _ _ _))⟩)) | (go_at_call 66; (with_reducible refine (impl_to.calls ((rd_T97 l0_1 x55_3).f1) 0 (wrap64 ((l0_0.length : Int) - 1)) false _ A36.out).mono ?_); rintro e w' ⟨rfl, ⟨nd, rfl⟩⟩; (try first | exact ⟨rfl, _, zD _ _ _⟩ | exact ⟨rfl, _, Eq.trans (zD _ _ _) (congrArg (World.drewN _) (Nat.add_assoc _ _ _))⟩)))
        go_ret
        exact ⟨by first | rfl | (simp [errW_none, errW_some] <;> rfl) | (simp [*, errW_none, errW_some] <;> rfl), by repeat (first | (with_reducible first | exact HB.out | apply zBa | apply zBn | apply zBd | refine zBs ?_ GE190.out | refine zBs ?_ GE198.out) | exact HB.out)⟩
       subst c37
       have H1 : (if 0 ≤ ((rd_T97 l0_1 x55_3).f0) then (if ((rd_T97 l0_1 x55_3).f0) < (l0_0.length : Int) then (if ((rd_T94 l0_0 ((rd_T97 l0_1 x55_3).f0)).f1) = 2 then (some false) else (if 0 ≤ ((rd_T97 l0_1 x55_3).f1) then (if ((rd_T97 l0_1 x55_3).f1) < (x6_3.length : Int) then (impl_PlanOk.l1 k3 (x6_3.set (((rd_T97 l0_1 x55_3).f1) : Int).toNat (wrap64 ((rd x6_3 ((rd_T97 l0_1 x55_3).f1)) + 1))) l0_1 (l0_1.length : Int) (wrap64 (x55_3 + 1)) l0_0 l0_1) else (none)) else (none))) else (none)) else (none)) = some r := by rw [if_pos rfl] at H; exact H
       clear H
       have H := H1
       clear H1
       by_cases c38 : 0 ≤ ((rd_T97 l0_1 x55_3).f0)
       case neg =>
        rw [if_neg c38] at H
        exact absurd H (by simp)
       rw [if_pos c38] at H
       have c38b0 : decide (0 ≤ ((rd_T97 l0_1 x55_3).f0)) = true := zE c38
       clear c38
       by_cases c39 : ((rd_T97 l0_1 x55_3).f0) < (l0_0.length : Int)
       case neg =>
        rw [if_neg c39] at H
        exact absurd H (by simp)
       rw [if_pos c39] at H
       have c39b0 : decide (((rd_T97 l0_1 x55_3).f0) < (l0_0.length : Int)) = true := zE c39
       clear c39
       by_cases c40 : ((rd_T94 l0_0 ((rd_T97 l0_1 x55_3).f0)).f1) = 2
       case pos =>
        rw [if_pos c40] at H
        have c40b0 : (((rd_T94 l0_0 ((rd_T97 l0_1 x55_3).f0)).f1) == 2) = true := beq_iff_eq.mpr c40
        have c40b1 : (((rd_T94 l0_0 ((rd_T97 l0_1 x55_3).f0)).f1) != 2) = false := bne_eq_false_iff_eq.mpr c40
        clear c40
        obtain rfl := zI H
        have p197 : 0 ≤ (x55_3 : Int) := zT (by assumption)
        have q197 : x55_3 < (l0_1.length : Int) := zT (by assumption)
        obtain ⟨ad197, e197, hx197_0, hx197_1⟩ := at_T97 HR0_1.out x55_3 p197 q197
        cases e197
        replace hx197_0 := (HB.out.cell (zW w _ hx197_0)).trans hx197_0
        replace hx197_1 := (HB.out.cell (zW w _ hx197_1)).trans hx197_1
        replace p197 := eq_true p197
        replace q197 := eq_true q197
        go_wp2_with (first | ((with_reducible refine gate_dst (N := 8) rfl ?_); (try (refine gate_guard (by rfl) ?_; dsimp only)); refine box_event ?hg (N := 8) ?hd (cs := #[.int .i64 0, .int .i64 0]) (t := 97) ?hr ?_; (case hd => rfl); (case hg => rfl); (case hr => first | (go_simp; done) | (go_simp; rfl)); intro gb198 hg w41 hbox hb; have n0_ := zM (Kd.R_below (by (with_reducible repeat (first | apply zRa | apply zRn | apply zRd)); first | exact HO_6.out | (subst_vars; exact HO_6.out)) hb); have n1_ := zM (zNb (g := gb190) (o := .cells #[.slice A0_0 l0_0.length c0_0, .slice (some ad197) l0_1.length c0_1] 46 (0, 0)) (by (with_reducible repeat (first | apply zNn | apply zNd | apply zNa)); exact BK190.out) hb); have n2_ := zM (below_step (by repeat (first | (with_reducible first | exact HB.out | apply zBa | apply zBn | apply zBd | refine zBs ?_ GE190.out) | exact HB.out)) hb); have n3_ := zM (hbox); have n4_ := zM ((by rw [hg]; exact (below_size (by repeat (first | (with_reducible first | exact HB.out | apply zBa | apply zBn | apply zBd | refine zBs ?_ GE190.out) | exact HB.out))) : w.heap.size ≤ gb198)); have n5_ := zM n4_.out; have n6_ := zM ((by rw [hg]; exact Nat.ne_of_lt (by simpa using blk_lt BK190.out) : gb190 ≠ gb198)); have n7_ := zM ((by rw [hg]; exact Nat.ne_of_gt (by simpa using blk_lt BK190.out) : gb198 ≠ gb190)); clear HO_6; clear BK190; clear HB; have HO_6 := n0_; have BK190 := n1_; have HB := n2_; have BK198 := n3_; have GW198 := n4_; have GE198 := n5_; have NB190_198 := n6_; have NB198_190 := n7_; clear n0_ n1_ n2_ n3_ n4_ n5_ n6_ n7_; clear hb hbox hg; have hnb42 := NB198_190.out; have hnc42 := NB190_198.out; obtain ⟨hcz43_0, hcz43_1, hfz43_0, hfz43_1⟩ := zc2 BK198.out; obtain ⟨hcz44_0, hcz44_1, hfz44_0, hfz44_1⟩ := zc2 BK190.out) | (go_at_call 66; (with_reducible refine (impl_to.calls ((rd_T97 l0_1 x55_3).f0) 0 (wrap64 ((l0_0.length : Int) - 1)) true _ A34.out).mono ?_); rintro e w' ⟨rfl, ⟨nd, rfl⟩⟩; (try first | exact ⟨rfl, _, zD _ _ _⟩ | exact ⟨rfl, _, Eq.trans (zD _ _ _) (congrArg (World.drewN _) (Nat.add_assoc _ _ _))⟩)) | (go_at_call 66; (with_reducible refine (impl_to.calls ((rd_T97 l0_1 x55_3).f1) 0 (wrap64 ((l0_0.length : Int) - 1)) true _ A36.out).mono ?_); rintro e w' ⟨rfl, ⟨nd, rfl⟩⟩; (try first | exact ⟨rfl, _, zD _ _ _⟩ | exact ⟨rfl, _, Eq.trans (zD _ _ _) (congrArg (World.drewN _) (Nat.add_assoc _ _ _))⟩); have p201 : 0 ≤ (((rd_T97 l0_1 x55_3).f0) : Int) := zT (by assumption); have q201 : ((rd_T97 l0_1 x55_3).f0) < (l0_0.length : Int) := zT (by assumption); obtain ⟨ad201, e201, hx201_0, hx201_1, hx201_2⟩ := at_T94 HR0_0.out ((rd_T97 l0_1 x55_3).f0) p201 q201; cases e201; have hn201_0 : ad201.block ≠ gb198 := Nat.ne_of_lt (Nat.lt_of_lt_of_le (by have := zW _ _ hx201_0; first | rwa [add_block] at this | exact this) GW198.out); have hn201_1 : ad201.block ≠ gb198 := Nat.ne_of_lt (Nat.lt_of_lt_of_le (by have := zW _ _ hx201_0; first | rwa [add_block] at this | exact this) GW198.out); replace hx201_0 := (HB.out.cell (zW w _ hx201_0)).trans hx201_0; replace hx201_1 := (HB.out.cell (zW w _ hx201_1)).trans hx201_1; replace hx201_2 := (HB.out.cell (zW w _ hx201_2)).trans hx201_2; replace hx201_0 := (cell_far (p := ⟨gb198, 0, none⟩) (by first | (rw [add_block]; exact hn201_0) | (show (Addr.add _ _).block ≠ _; rw [add_block]; exact hn201_0) | exact hn201_0) (.int .i64 ((rd_T97 l0_1 x55_3).f0))).trans hx201_0; replace hx201_1 := (cell_far (p := ⟨gb198, 0, none⟩) (by first | (rw [add_block]; exact hn201_0) | (show (Addr.add _ _).block ≠ _; rw [add_block]; exact hn201_0) | exact hn201_0) (.int .i64 ((rd_T97 l0_1 x55_3).f0))).trans hx201_1; replace hx201_2 := (cell_far (p := ⟨gb198, 0, none⟩) (by first | (rw [add_block]; exact hn201_0) | (show (Addr.add _ _).block ≠ _; rw [add_block]; exact hn201_0) | exact hn201_0) (.int .i64 ((rd_T97 l0_1 x55_3).f0))).trans hx201_2; replace hx201_0 := (cell_far (p := ⟨gb198, 1, none⟩) (by first | (rw [add_block]; exact hn201_1) | (show (Addr.add _ _).block ≠ _; rw [add_block]; exact hn201_1) | exact hn201_1) (.int .i64 ((rd_T97 l0_1 x55_3).f1))).trans hx201_0; replace hx201_1 := (cell_far (p := ⟨gb198, 1, none⟩) (by first | (rw [add_block]; exact hn201_1) | (show (Addr.add _ _).block ≠ _; rw [add_block]; exact hn201_1) | exact hn201_1) (.int .i64 ((rd_T97 l0_1 x55_3).f1))).trans hx201_1; replace hx201_2 := (cell_far (p := ⟨gb198, 1, none⟩) (by first | (rw [add_block]; exact hn201_1) | (show (Addr.add _ _).block ≠ _; rw [add_block]; exact hn201_1) | exact hn201_1) (.int .i64 ((rd_T97 l0_1 x55_3).f1))).trans hx201_2; (try have hy201_0 := fun (n_ : Nat) => (show ((((w41.drewN n_).setCell ⟨gb198, 0, none⟩ (.int .i64 ((rd_T97 l0_1 x55_3).f0))).setCell ⟨gb198, 1, none⟩ (.int .i64 ((rd_T97 l0_1 x55_3).f1)))).cell? _ = some _ from hx201_0)); (try have hy201_1 := fun (n_ : Nat) => (show ((((w41.drewN n_).setCell ⟨gb198, 0, none⟩ (.int .i64 ((rd_T97 l0_1 x55_3).f0))).setCell ⟨gb198, 1, none⟩ (.int .i64 ((rd_T97 l0_1 x55_3).f1)))).cell? _ = some _ from hx201_1)); (try have hy201_2 := fun (n_ : Nat) => (show ((((w41.drewN n_).setCell ⟨gb198, 0, none⟩ (.int .i64 ((rd_T97 l0_1 x55_3).f0))).setCell ⟨gb198, 1, none⟩ (.int .i64 ((rd_T97 l0_1 x55_3).f1)))).cell? _ = some _ from hx201_2)); clear hn201_0; clear hn201_1; replace p201 := eq_true p201; replace q201 := eq_true q201))
        go_ret
        exact ⟨by first | rfl | (simp [errW_none, errW_some] <;> rfl) | (simp [*, errW_none, errW_some] <;> rfl), by repeat (first | (with_reducible first | exact HB.out | apply zBa | apply zBn | apply zBd | refine zBs ?_ GE190.out | refine zBs ?_ GE198.out) | exact HB.out)⟩
       rw [if_neg c40] at H
       have c40b0 : (((rd_T94 l0_0 ((rd_T97 l0_1 x55_3).f0)).f1) == 2) = false := beq_eq_false_iff_ne.mpr c40
       have c40b1 : (((rd_T94 l0_0 ((rd_T97 l0_1 x55_3).f0)).f1) != 2) = true := bne_iff_ne.mpr c40
       by_cases c45 : 0 ≤ ((rd_T97 l0_1 x55_3).f1)
       case neg =>
        rw [if_neg c45] at H
        exact absurd H (by simp)
       rw [if_pos c45] at H
       have c45b0 : decide (0 ≤ ((rd_T97 l0_1 x55_3).f1)) = true := zE c45
       clear c45
       by_cases c46 : ((rd_T97 l0_1 x55_3).f1) < (x6_3.length : Int)
       case neg =>
        rw [if_neg c46] at H
        exact absurd H (by simp)
       rw [if_pos c46] at H
       have c46b0 : decide (((rd_T97 l0_1 x55_3).f1) < (x6_3.length : Int)) = true := zE c46
       clear c46
       obtain ⟨y203, hy203⟩ : ∃ y_ : List Int, y_ = (x6_3.set (((rd_T97 l0_1 x55_3).f1) : Int).toNat (wrap64 ((rd x6_3 ((rd_T97 l0_1 x55_3).f1)) + 1))) := ⟨_, rfl⟩
       replace H : (impl_PlanOk.l1 k3 y203 l0_1 (l0_1.length : Int) (wrap64 (x55_3 + 1)) l0_0 l0_1) = some r := by first | (rw [hy203]; with_reducible exact H) | (have H2_ := (Option.bind_some _ _).symm.trans H; rw [hy203]; with_reducible exact H2_) | (have H2_ := (Option.bind_some _ _).symm.trans H; with_reducible exact H2_) | with_reducible exact H | (rw [hy203]; exact H) | exact H
       have Ny203 := zM hy203
       clear hy203
       have H' := zM H
       clear H
       have p197 : 0 ≤ (x55_3 : Int) := zT (by assumption)
       have q197 : x55_3 < (l0_1.length : Int) := zT (by assumption)
       obtain ⟨ad197, e197, hx197_0, hx197_1⟩ := at_T97 HR0_1.out x55_3 p197 q197
       cases e197
       replace hx197_0 := (HB.out.cell (zW w _ hx197_0)).trans hx197_0
       replace hx197_1 := (HB.out.cell (zW w _ hx197_1)).trans hx197_1
       replace p197 := eq_true p197
       replace q197 := eq_true q197
       go_wp2_with (first | ((with_reducible refine gate_dst (N := 8) rfl ?_); (try (refine gate_guard (by rfl) ?_; dsimp only)); refine box_event ?hg (N := 8) ?hd (cs := #[.int .i64 0, .int .i64 0]) (t := 97) ?hr ?_; (case hd => rfl); (case hg => rfl); (case hr => first | (go_simp; done) | (go_simp; rfl)); intro gb198 hg w48 hbox hb; have n0_ := zM (Kd.R_below (by (with_reducible repeat (first | apply zRa | apply zRn | apply zRd)); first | exact HO_6.out | (subst_vars; exact HO_6.out)) hb); have n1_ := zM (zNb (g := gb190) (o := .cells #[.slice A0_0 l0_0.length c0_0, .slice (some ad197) l0_1.length c0_1] 46 (0, 0)) (by (with_reducible repeat (first | apply zNn | apply zNd | apply zNa)); exact BK190.out) hb); have n2_ := zM (below_step (by repeat (first | (with_reducible first | exact HB.out | apply zBa | apply zBn | apply zBd | refine zBs ?_ GE190.out) | exact HB.out)) hb); have n3_ := zM (hbox); have n4_ := zM ((by rw [hg]; exact (below_size (by repeat (first | (with_reducible first | exact HB.out | apply zBa | apply zBn | apply zBd | refine zBs ?_ GE190.out) | exact HB.out))) : w.heap.size ≤ gb198)); have n5_ := zM n4_.out; have n6_ := zM ((by rw [hg]; exact Nat.ne_of_lt (by simpa using blk_lt BK190.out) : gb190 ≠ gb198)); have n7_ := zM ((by rw [hg]; exact Nat.ne_of_gt (by simpa using blk_lt BK190.out) : gb198 ≠ gb190)); clear HO_6; clear BK190; clear HB; have HO_6 := n0_; have BK190 := n1_; have HB := n2_; have BK198 := n3_; have GW198 := n4_; have GE198 := n5_; have NB190_198 := n6_; have NB198_190 := n7_; clear n0_ n1_ n2_ n3_ n4_ n5_ n6_ n7_; clear hb hbox hg; have hnb49 := NB198_190.out; have hnc49 := NB190_198.out; obtain ⟨hcz50_0, hcz50_1, hfz50_0, hfz50_1⟩ := zc2 BK198.out) | ((with_reducible refine gate_store (t := 97) (p := 8) rfl ?_); (try (rw [drewN_self w48]; generalize hq_ : World.drewN w48 _ = w48; have n0_ := zM (Kd.R_at hq_ HO_6.out); have n1_ := zM (blk_at hq_ BK190.out); have n2_ := zM (blk_at hq_ BK198.out); have n3_ := zM (below_at hq_ HB.out); clear hq_ HO_6 BK190 BK198 HB; have HO_6 := n0_; have BK190 := n1_; have BK198 := n2_; have HB := n3_; clear n0_ n1_ n2_ n3_)); refine store_event (t := 97) (p := 8) (v := ?vo_w51) (w1 := ((w48.setCell ⟨gb198, 0, none⟩ (.int .i64 ((rd_T97 l0_1 x55_3).f0))).setCell ⟨gb198, 1, none⟩ (.int .i64 ((rd_T97 l0_1 x55_3).f1)))) ?hg ?ho ?hn ?hr ?_; (case ho => rfl); (case hg => rfl); (case hn => rfl); (case hr => first | (go_simp; done) | (go_simp; rfl)); intro w51 hw; have n0_ : Aside0 (Kd.R (Kd.int .i64) 3 w51 w.heap.size (fun _ => True) v195 x6_3) := ⟨(by rw [hw]; exact (by (with_reducible repeat (first | apply zRa | apply zRn | apply zRd)); exact Kd.R_mono (Kd.R_far (p := ⟨gb198, 1, none⟩) (Kd.R_far (p := ⟨gb198, 0, none⟩) (Kd.R_types HO_6.out BK198.out (by decide)) (fun _ hk => hk.2) (.int .i64 ((rd_T97 l0_1 x55_3).f0))) (fun _ hk => hk.2) (.int .i64 ((rd_T97 l0_1 x55_3).f1))) (fun _ hk => trivial)))⟩; have n1_ : Aside0 (w51.heap[gb190]? = some (.cells #[.slice A0_0 l0_0.length c0_0, .slice (some ad197) l0_1.length c0_1] 46 (0, 0))) := ⟨(by rw [hw]; exact (by exact zNf (zNf (BK190.out) NB190_198.out _) NB190_198.out _))⟩; have n2_ : Aside0 (w51.heap[gb198]? = some (.cells #[.int .i64 ((rd_T97 l0_1 x55_3).f0), .int .i64 ((rd_T97 l0_1 x55_3).f1)] 97 (0, 0))) := ⟨(by rw [hw]; exact (by exact blk_put (blk_put (BK198.out) 0 _ rfl) 1 _ rfl))⟩; have n3_ : Aside0 (Below w.heap.size w w51) := ⟨(by rw [hw]; exact (by repeat (first | (with_reducible first | exact HB.out | apply zBa | apply zBn | apply zBd | refine zBs ?_ GE190.out | refine zBs ?_ GE198.out) | exact HB.out)))⟩; clear hw; clear HO_6; clear BK190; clear BK198; clear HB; have HO_6 := n0_; have BK190 := n1_; have BK198 := n2_; have HB := n3_; clear n0_ n1_ n2_ n3_; obtain ⟨hcz52_0, hcz52_1, hfz52_0, hfz52_1⟩ := zc2 BK198.out; obtain ⟨hcz53_0, hcz53_1, hfz53_0, hfz53_1⟩ := zc2 BK190.out) | (go_at_call 66; (with_reducible refine (impl_to.calls ((rd_T97 l0_1 x55_3).f0) 0 (wrap64 ((l0_0.length : Int) - 1)) true _ A34.out).mono ?_); rintro e w' ⟨rfl, ⟨nd, rfl⟩⟩; (try first | exact ⟨rfl, _, zD _ _ _⟩ | exact ⟨rfl, _, Eq.trans (zD _ _ _) (congrArg (World.drewN _) (Nat.add_assoc _ _ _))⟩)) | (go_at_call 66; (with_reducible refine (impl_to.calls ((rd_T97 l0_1 x55_3).f1) 0 (wrap64 ((l0_0.length : Int) - 1)) true _ A36.out).mono ?_); rintro e w' ⟨rfl, ⟨nd, rfl⟩⟩; (try first | exact ⟨rfl, _, zD _ _ _⟩ | exact ⟨rfl, _, Eq.trans (zD _ _ _) (congrArg (World.drewN _) (Nat.add_assoc _ _ _))⟩); have p201 : 0 ≤ (((rd_T97 l0_1 x55_3).f0) : Int) := zT (by assumption); have q201 : ((rd_T97 l0_1 x55_3).f0) < (l0_0.length : Int) := zT (by assumption); obtain ⟨ad201, e201, hx201_0, hx201_1, hx201_2⟩ := at_T94 HR0_0.out ((rd_T97 l0_1 x55_3).f0) p201 q201; cases e201; replace hx201_0 := (HB.out.cell (zW w _ hx201_0)).trans hx201_0; replace hx201_1 := (HB.out.cell (zW w _ hx201_1)).trans hx201_1; replace hx201_2 := (HB.out.cell (zW w _ hx201_2)).trans hx201_2; replace p201 := eq_true p201; replace q201 := eq_true q201; obtain ⟨Ao54, co54, eo54⟩ := Kd.R_slice HO_6.out; subst eo54; have p202 : 0 ≤ (((rd_T97 l0_1 x55_3).f1) : Int) := zT (by assumption); have q202 : ((rd_T97 l0_1 x55_3).f1) < (x6_3.length : Int) := zT (by assumption); obtain ⟨ad202, e202, hx202_0⟩ := Kd.at_int (Kd.R_reads' HO_6.out).2.2 ((rd_T97 l0_1 x55_3).f1) p202 q202; cases e202; replace p202 := eq_true p202; replace q202 := eq_true q202; have p47 : 0 ≤ (((rd_T97 l0_1 x55_3).f1) : Int) := zT (by assumption); have q47 : (((rd_T97 l0_1 x55_3).f1) : Int) < ((x6_3.length : Int) : Int) := zT (by assumption); obtain ⟨go47, co47, eo47, gb47, gl47, cl47, HG47⟩ := Kd.R_form HO_6.out (by omega); (first | cases eo47 | (injection eo47 with ea_ en_ ec_; (first | subst ea_ | (injection ea_ with ea_; subst ea_)); subst ec_; clear en_)); have GB47 := zM gb47; have GG47 := zM HG47; clear gb47 gl47 HG47; (first | simp only [add_plain] at hx202_0 | skip); obtain ⟨hx47_0, hf47_0⟩ := Kd.R_celln 0 HO_6.out (((rd_T97 l0_1 x55_3).f1) : Int) p47 q47; replace p47 := eq_true p47; replace q47 := eq_true q47; obtain ⟨hy55_, hz55_⟩ := Kd.R_celln 0 HO_6.out (((rd_T97 l0_1 x55_3).f1) : Int) (zT (by assumption)) (zT (by assumption)); have HP55 := Kd.R_putg HO_6.out (((rd_T97 l0_1 x55_3).f1) : Int) (wrap64 ((rd x6_3 ((rd_T97 l0_1 x55_3).f1)) + 1))) | ((with_reducible refine gate_store (t := 3) (p := 93) rfl ?_); (try (rw [drewN_self w51]; generalize hq_ : World.drewN w51 _ = w51; have n0_ := zM (Kd.R_at hq_ HO_6.out); have n1_ := zM (blk_at hq_ BK190.out); have n2_ := zM (blk_at hq_ BK198.out); have n3_ := zM (below_at hq_ HB.out); clear hq_ HO_6 BK190 BK198 HB; have HO_6 := n0_; have BK190 := n1_; have BK198 := n2_; have HB := n3_; clear n0_ n1_ n2_ n3_; (try (obtain ⟨hy55_, hz55_⟩ := Kd.R_celln 0 HO_6.out (((rd_T97 l0_1 x55_3).f1) : Int) (zT (by assumption)) (zT (by assumption)))); (try (have HP55 := Kd.R_putg HO_6.out (((rd_T97 l0_1 x55_3).f1) : Int) (wrap64 ((rd x6_3 ((rd_T97 l0_1 x55_3).f1)) + 1)))))); refine store_event (t := 3) (p := 93) (v := ?vo_w56) (w1 := (w51.setCell ⟨go47, (((rd_T97 l0_1 x55_3).f1) : Int).toNat, none⟩ (.int .i64 (wrap64 ((rd x6_3 ((rd_T97 l0_1 x55_3).f1)) + 1))))) ?hg ?ho ?hn ?hr ?_; (case ho => rfl); (case hg => rfl); (case hn => rfl); (case hr => first | (go_simp; done) | (go_simp; rfl)); intro w56 hw; have hg : w51.grownBy w56 (some go47) := (by rw [hw]; exact HP55.2); have hp_ : Kd.R (Kd.int .i64) 3 w56 w.heap.size (fun _ => True) (.slice (some ⟨go47, 0, none⟩) x6_3.length co54) y203 := (by rw [hw, Ny203.out]; exact HP55.1); clear HP55; have n0_ := zM (hp_); have n1_ := zM (blk_grown (g := gb190) (o := .cells #[.slice (some ad201) l0_0.length c0_0, .slice (some ad197) l0_1.length c0_1] 46 (0, 0)) (by (with_reducible repeat (first | apply zNn | apply zNd | apply zNa)); exact BK190.out) hg (Kd.R_ne HO_6.out BK190.out (by decide))); have n2_ := zM (blk_grown (g := gb198) (o := .cells #[.int .i64 ((rd_T97 l0_1 x55_3).f0), .int .i64 ((rd_T97 l0_1 x55_3).f1)] 97 (0, 0)) (by (with_reducible repeat (first | apply zNn | apply zNd | apply zNa)); exact BK198.out) hg (Kd.R_ne HO_6.out BK198.out (by decide))); have n3_ := zM ((by rw [hw]; exact zBs (HB.out) GB47.out : Below w.heap.size w w56)); clear HO_6; clear BK190; clear BK198; clear HB; have HO_6 := n0_; have BK190 := n1_; have BK198 := n2_; have HB := n3_; clear n0_ n1_ n2_ n3_; clear hg hw hp_))
       go_roundg k3
       case measure => have := HJ1.out; have := HK2.out; have := HK3.out; omega
       case rel => exact ⟨(y203), (wrap64 (x55_3 + 1)), (by first | rfl | (simp; done) | (simp [*]; done)), H', ⟨by have := HJ1.out; have := HK2.out; have := HK3.out; omega⟩, ⟨by (with_reducible repeat (first | apply zRa | apply zRn | apply zRd)); first | exact HO_6.out | (subst_vars; exact HO_6.out)⟩, ⟨by (with_reducible repeat (first | apply zNn | apply zNd | apply zNa)); exact BK190.out⟩, ⟨by repeat (first | (with_reducible first | exact HB.out | apply zBa | apply zBn | apply zBd | refine zBs ?_ GE190.out | refine zBs ?_ GE198.out) | exact HB.out)⟩⟩


end Go.Proofs.Ytckadpomhdjkhaa.PFnExactWiring
