-- A turned copy of the print's text.
import Derived.Test.YtapobpkeefeajaaPFnCleanx0
import Derived.Test.YtapobpkeefeajaaPFnCleanx7
import Derived.Test.YtapobpkeefeajaaPFnCleanx18
namespace Go.Proofs.Ytapobpkeefeajaa.PFnClean
open Go.RowKit Go.Proofs.YtapobpkeefeajaaW.PrintWords Go.Proofs.YtapobpkeefeajaaW.PrintLast Go.Proofs.YtapobpkeefeajaaW.PrintMore
attribute [local go_sem] max2_int min2_int max_two min_two max_three min_three max_four min_four
set_option maxHeartbeats 8000000
set_option maxRecDepth 100000
set_option linter.unusedVariables false
set_option linter.unusedSimpArgs false
def rd_L3 (xs : List (List Int)) (i : Int) : (List Int) := xs.getD i.toNat ([] : List Int)
theorem at_L3 {w : World} {A : Option Addr} {n : Nat} {xs : List (List Int)} (h : Kd.C (Kd.slice 3 (Kd.int .i64)) w A n xs) (i : Int) (h0 : 0 ≤ i) (h1 : i < n) : ∃ ad A0 c0, A = some ad ∧ w.cell? (ad.add i.toNat) = some (.slice A0 (rd_L3 xs i).length c0) ∧ (rd_L3 xs i).length ≤ c0 ∧ (Kd.int .i64).C w A0 (rd_L3 xs i).length (rd_L3 xs i) := by
 obtain ⟨ad, c, e, _, hK, hc0⟩ := Kd.C_get h ([] : List Int) i h0 h1
 have hc : ∀ j u, c[j]? = some u → w.cell? (ad.add (i.toNat * 1 + j)) = some u := hc0
 obtain ⟨A0, c0, rfl, l0, g0⟩ := hK
 exact ⟨ad, A0, c0, e, by have hq := hc 0 _ rfl; rwa [Nat.mul_one, Nat.add_zero] at hq, l0, g0⟩
theorem fl_cell {W W1 : World} {row : Option Nat} {p : Addr} {v : Value} (hg : W.grownBy W1 row) (hr : some p.block ≠ row) (hc : W.cell? p = some v) : W1.cell? p = some v := by
 have h1 := zW W _ hc
 have h2 := hg.block p.block h1 hr
 unfold World.cell? at hc ⊢
 simp only [h2]
 exact hc
theorem fl_alloc {W : World} {p : Addr} {v : Value} (hc : W.cell? p = some v) (o : Obj) : (W.alloc o).cell? p = some v := by
 have h1 := zW W _ hc
 have h2 := Below.heap_alloc W o p.block h1
 unfold World.cell? at hc ⊢
 simp only [h2]
 exact hc
theorem fl_make {P : Program} {ops : Array Oper} {rest : List Oper} {o : Oper} {a : Act} {Q : Exit → Act → World → Prop} {w0 W : World} (base : Nat) (hgd : o.guard = none) {N' : Tmp} (hd : o.dst = some N') (t : TypeId) (x y : Operand) (ho : o.op = .makeSlice t x y) (n : Int) (hx : a.eval x = .int .i64 n) (hy : a.eval y = .int .i64 n)
 (ht : P.underlying t = some (.slice 46)) (hinfo : (P.info? 46).map (fun i => (i.zero, i.size, i.bytes)) = some (some (.slice none 0 0), 1, 24)) (h0 : 0 ≤ n) (hl : n.toNat * 24 ≤ 281474976710656) (HB : Below base w0 W) (hbase : base ≤ W.heap.size) (m : List (List Int)) (hm : m = List.replicate n.toNat [])
 (h : ∀ Ao co w1, Kd.N (Kd.slice 3 (Kd.int .i64)) 46 w1 base (fun _ => True) (.slice Ao m.length co) m → Below base w0 w1 → (∀ ad, Ao = some ad → ∀ j : Nat, j < m.length → w1.cell? (ad.add j) = some (.slice none 0 0)) → wpList P ops Q rest (a.put o.dst (.slice Ao m.length co)) w1) : wpList P ops Q (o :: rest) a W := by
 subst hm
 rw [List.length_replicate] at h
 have hz : (Kd.slice 3 (Kd.int .i64)).FK W (fun _ => False) ([] : List Int) (Value.slice none 0 0).cells.toList := Kd.FK_slice_mk (Nat.le_refl _) (Kd.F_nil _ _ _)
 refine Kd.R_make (Kd.raw 1) base 46 hgd hd t x y ho n hx hy ht (.slice none 0 0) 24 hinfo rfl (by decide) (by omega) (Value.slice none 0 0).cells.toList (ok := fun k => k = W.heap.size) (okp := fun _ => False) (Kd.FK_raw hz) (fun _ hk => hk.elim) rfl h0 hl HB hbase ?_
 intro v1 w1 hr hb hg hat
 obtain ⟨Ao, co, eo⟩ := Kd.R_slice hr
 rw [List.length_replicate] at eo
 subst eo
 refine h Ao co w1 (Kd.N_made (ok := fun _ => True) hr hg hat (by rw [List.length_replicate, List.length_replicate]) (fun j y c hy hc => ?_) (okp := fun _ => False) (fun _ hk => hk.elim) trivial) hb (fun ad e j hj => ?_)
 ·have h1 := (List.getElem?_eq_some_iff.1 hy).2
  have h2 := (List.getElem?_eq_some_iff.1 hc).2
  rw [List.getElem_replicate] at h1 h2
  rw [← h1, ← h2]
  exact hz
 ·subst e
  obtain ⟨c, _, hM, hc⟩ := Kd.R_get hr [] (j : Int) (by omega) (by omega)
  have e1 : c = [.slice none 0 0] := by
   rw [hM.1, Int.toNat_natCast, List.getD_eq_getElem?_getD, List.getElem?_replicate, if_pos hj]
   rfl
  have := hc 0 (.slice none 0 0) (by rw [e1]; rfl)
  rw [Int.toNat_natCast] at this
  simpa [Kd.raw] using this
mutual
def impl_fill.l0 : Nat → List Int → Int → List (List Int) → Int → Int → Option (List Int × Bool)
 | 0, _, _, _, _, _ => none
 | k + 1, x0, x8, x9, x31, x32 => if x32 < x31 then (if 0 ≤ x32 then (if x32 < (x9.length : Int) then ((impl_value.f k x0 x32).bind fun t546 => (if ([] : List Int).length < 17592186044416 then (impl_fill.l0 k x0 x8 (x9.set (x32 : Int).toNat (([] : List Int) ++ [t546])) x31 (wrap64 (x32 + 1))) else (none))) else (none)) else (none)) else (if 0 ≤ x8 then (if x8 ≤ (x9.length : Int) then ((some (x9.drop (x8 : Int).toNat : List (List Int))).bind fun y551 => (impl_fill.l1 k x0 x8 y551 (y551.length : Int) 0)) else (none)) else (none))
def impl_fill.l1 : Nat → List Int → Int → List (List Int) → Int → Int → Option (List Int × Bool)
 | 0, _, _, _, _, _ => none
 | k + 1, x0, x8, x193, x194, x195 => if x195 < x194 then (if 0 ≤ x195 then (if x195 < (x193.length : Int) then (if 0 ≤ x8 then (if x8 < ((rd_L3 x193 x195).length : Int) then (if (rd (rd_L3 x193 x195) x8) = 0 then (impl_fill.l1 k x0 x8 x193 x194 (wrap64 (x195 + 1))) else (some (([] : List Int), false))) else (none)) else (none)) else (none)) else (none)) else ((slices_Clone_byte_byte.f x0).bind fun t558 => (some (t558, true)))
end
def impl_fillg.f (k : Nat) (l0 : List Int) (l1 : List Int) (a2 : Int) : Option (List Int × Bool) := if 0 ≤ (wrap64 (2 * a2)) then (if (wrap64 (2 * a2) : Int).toNat ≤ 11728124029610 then ((some (List.replicate (wrap64 (2 * a2) : Int).toNat [] : List (List Int))).bind fun y542 => (impl_fill.l0 k l0 (l1.length : Int) y542 (y542.length : Int) 0)) else (none)) else (none)
def impl_fill.f (k : Nat) (l0 : List Int) (l1 : List Int) (a2 : Int) : Option (List Int × Bool) := if l1.length = 0 then impl_fillg.f k l0 l1 a2 else none
def impl_fill.T11 : Bool × List (List Nat × List Nat) := (true, [([], []), ([], []), ([], []), ([], []), ([2, 3], [2, 3]), ([4], [4]), ([], []), ([], []), ([6, 7], [6, 7]), ([8], [8]), ([5, 9, 8], [5, 9]), ([0, 1, 0, 1, 2, 3, 4, 5, 6, 7, 8, 9, 10], [0, 1]), ([11, 10, 10, 0, 1, 2, 3, 4, 5, 6, 7, 8, 9, 10], [10, 11])])
def impl_fill.B11 : List Nat := [0, 0, 0, 0, 12, 28, 0, 0, 192, 448, 1020, 2047, 4095]
theorem impl_fill.tab11 : rtab .any (opsOf Try.f108 11) = impl_fill.T11 := by kernel_rfl
theorem impl_fill.bits11 : waitsOk impl_fill.T11.2 impl_fill.B11 = true := by kernel_rfl
theorem impl_fill.calls (k : Nat) (A0 : Option Addr) (c0 : Nat) (l0 : List Int) (A1 : Option Addr) (c1 : Nat) (l1 : List Int) (a2 : Int) (r1 : List Int) (r2 : Bool) (w : World) (hr0 : Kd.C (Kd.int .u8) w A0 l0.length l0) (hc0 : l0.length ≤ c0) (hr1 : Kd.C (Kd.int .i64) w A1 l1.length l1) (hc1 : l1.length ≤ c1) (h : impl_fill.f k l0 l1 a2 = some (r1, r2)) :
 Calls Try.prog 108 #[.slice A0 l0.length c0, .slice A1 l1.length c1, .int .i64 a2] w fun e w' => ∃ v0_ : Value, e = .returned (.tuple #[v0_, .bool r2]) ∧ Kd.R (Kd.int .u8) 5 w' w.heap.size (fun _ => True) v0_ r1 ∧ Below w.heap.size w w' := by
 have HR0 := zM hr0
 have HC0 := zM hc0
 clear hr0 hc0
 have HR1 := zM hr1
 have HC1 := zM hc1
 clear hr1 hc1
 have HB := zM (Below.refl w.heap.size w)
 have hn0 : l1.length = 0 := by
  by_cases hq : l1.length = 0
  case pos => exact hq
  unfold impl_fill.f at h; rw [if_neg hq] at h; exact absurd h (by simp)
 unfold impl_fill.f at h
 rw [if_pos hn0] at h
 have HN0 := zM hn0
 clear hn0
 have H : (if 0 ≤ (wrap64 (2 * a2)) then (if (wrap64 (2 * a2) : Int).toNat ≤ 11728124029610 then ((some (List.replicate (wrap64 (2 * a2) : Int).toNat [] : List (List Int))).bind fun y542 => (impl_fill.l0 k l0 (l1.length : Int) y542 (y542.length : Int) 0)) else (none)) else (none)) = some (r1, r2) := h
 clear h
 obtain ⟨ji4, hji4⟩ : ∃ j_ : Int, (wrap64 (2 * a2)) = j_ := ⟨_, rfl⟩
 first | rw [hji4] at H | simp only [hji4] at H
 have hji4w : (IntKind.i64.wrap (2 * a2)) = ji4 := (i64_w _).trans hji4
 replace H := zIN H
 obtain ⟨c5, H⟩ := H
 have c5b0 := eq_true c5
 have c5b1 : decide (0 ≤ (ji4)) = true := zE c5
 clear c5
 replace H := zIN H
 obtain ⟨c6, H⟩ := H
 have c6b0 := eq_true c6
 have c6b1 : decide ((ji4 : Int).toNat ≤ 11728124029610) = true := zE c6
 clear c6
 replace H := zY H
 obtain ⟨y542, Ny542, H⟩ := H
 have H' := zM H
 clear H
 go_enter Try.func108, Try.ntmps108
 go_wp2_with (first | ((with_reducible refine gate_dst (N := 29) rfl ?_); refine fl_make (w0 := w) w.heap.size rfl (N' := 29) rfl 114 _ _ rfl ji4 rfl rfl Try.underlying114 info46 (zT (by assumption)) (Nat.le_trans (Nat.mul_le_mul_right _ (zT (by assumption) : ji4.toNat ≤ 11728124029610)) (by omega)) HB.out HB.out.size y542 Ny542.out ?_; intro Ao9 co9 w7 ho8 hb hI; have HO544 := zM ho8; have HI := zM hI; clear HB; have HB := zM hb; clear hb ho8 hI))
 (try simp only [Act.put, zS1, zS2, zS3])
 have HLb := zM (show y542.length ≤ 11728124029610 from by rw [Ny542.out, List.length_replicate]; exact zT c6b1)
 go_loopg [32] k (fun kq v32 w' => ∃ (x9_1 : List (List Int)) (x32_1 : Int), v32 = .int .i64 x32_1 ∧ Aside0 (impl_fill.l0 kq l0 (l1.length : Int) x9_1 (y542.length : Int) x32_1 = some (r1, r2)) ∧ Aside0 (kq ≤ k) ∧ Aside0 (Kd.N (Kd.slice 3 (Kd.int .i64)) 46 w' w.heap.size (fun _ => True) (.slice Ao9 y542.length co9) x9_1) ∧ Aside0 (∀ ad, Ao9 = some ad → ∀ j : Nat, x32_1.toNat ≤ j → j < y542.length → w'.cell? (ad.add j) = some (.slice none 0 0)) ∧ Aside0 (Below w.heap.size w w'))
 case atStart => exact ⟨(y542), (0), zs, H', ⟨Nat.le_refl _⟩, ⟨by (with_reducible repeat (first | apply Kd.N_alloc | apply Kd.N_drewN | apply Kd.N_drew)); first | exact HO544.out | (subst_vars; exact HO544.out)⟩, ⟨fun ad e j _ h2 => HI.out ad e j h2⟩, ⟨zb⟩⟩
 case round =>
  clear H'
  try clear c1
  try clear p2
  try clear c5
  try clear c5b0
  try clear c5b1
  try clear c6
  try clear c6b0
  try clear c6b1
  try clear p6
  obtain ⟨x9_1, x32_1, rfl, HA, HK1, HO_9, HI, HB⟩ := hrel
  have hl9_1 := (Kd.N_reads' HO_9.out).1
  rw [hl9_1] at HO_9
  (try simp only [hl9_1])
  cases gk with
  | zero => exact absurd HA.out (by simp [impl_fill.l0])
  | succ k1 =>
   have H := HA.out
   clear HA
   simp only [impl_fill.l0] at H
   replace H := zI2 H
   rcases H with ⟨c10, H⟩ | ⟨c10, H⟩
   case inr =>
    have c10b0 := decide_eq_false c10
    (try (have c10w_hl9_1 := c10b0; simp only [hl9_1] at c10w_hl9_1))
    clear c10
    replace H := zIN H
    obtain ⟨c19, H⟩ := H
    have c19b0 := eq_true c19
    have c19b1 : decide (0 ≤ (l1.length : Int)) = true := zE c19
    clear c19
    replace H := zIN H
    obtain ⟨c20, H⟩ := H
    have c20b0 := eq_true c20
    have c20b1 : decide ((l1.length : Int) ≤ (x9_1.length : Int)) = true := zE c20
    clear c20
    obtain ⟨y551, hy551⟩ : ∃ y_ : List (List Int), y_ = (x9_1.drop ((l1.length : Int) : Int).toNat) := ⟨_, rfl⟩
    rw [← hy551] at H
    have Ny551 := zM hy551
    clear hy551
    have H' := zM H
    clear H
    have q21 : ((l1.length : Int) : Int) ≤ ((x9_1.length : Int) : Int) := zT (by assumption)
    obtain ⟨i021, hi021, _, hsz21, _⟩ := info_parts info46
    have hroom21 : x9_1.length ≤ co9 := (Kd.N_reads' HO_9.out).2.1
    have hC21 : Kd.F (Kd.slice 3 (Kd.int .i64)) _ _ Ao9 x9_1.length x9_1 := (Kd.V_at (base := w.heap.size) (Kd.N_V HO_9.out)).2.2
    have q021 : (0 : Int) ≤ ((l1.length : Int) : Int) := zT (by assumption)
    have hcut21 := cut_from (P := Try.prog) 114 46 .i64 Try.underlying114 hi021 1 hsz21 Ao9 x9_1.length co9 (l1.length : Int) q021 q21
    have hr21 := Kd.F_cut (m := ((l1.length : Int) : Int).toNat) (c := co9) hC21 (by omega) hroom21
    obtain ⟨A21, hA21⟩ : ∃ A1, A1 = (if co9 = ((l1.length : Int) : Int).toNat then Ao9 else (Ao9 : Option Addr).map (·.add (((l1.length : Int) : Int).toNat * 1))) := ⟨_, rfl⟩
    obtain ⟨c21, hc21⟩ : ∃ c1, c1 = co9 - ((l1.length : Int) : Int).toNat := ⟨_, rfl⟩
    have hy21 : y551.length = x9_1.length - ((l1.length : Int) : Int).toNat := (by rw [Ny551.out, List.length_drop] <;> omega)
    rw [show (x9_1).drop ((l1.length : Int) : Int).toNat = y551 from Ny551.out.symm] at hr21
    replace hr21 : Kd.F (Kd.slice 3 (Kd.int .i64)) _ _ A21 y551.length y551 := (by rw [hA21]; exact hr21)
    rw [← hy21, ← hA21, ← hc21] at hcut21
    have HO555 := zM (show Kd.V (Kd.slice 3 (Kd.int .i64)) 46 _ w.heap.size _ (.slice A21 y551.length c21) y551 from Kd.V_mk (by rw [hy21, hc21]; exact Nat.sub_le_sub_right hroom21 _) hr21)
    have HC555 := zM (show y551.length ≤ c21 from by rw [hy21, hc21]; exact Nat.sub_le_sub_right hroom21 _)
    clear hr21 hC21 hroom21 hi021 hsz21 hc21
    have KY21 := zM hy21
    have KA21 := zM hA21
    clear hy21 hA21
    replace q21 := eq_true q21
    go_wp2
    go_loopg [73] 0 (fun kq v73 w' => v73 = .int .i64 0 ∧ Aside0 (w' = wr))
    case atStart => exact ⟨rfl, ⟨rfl⟩⟩
    obtain ⟨rfl, HE⟩ := hrel
    have he := HE.out
    clear HE
    subst he
    have cz1 : decide ((0 : Int) < (l1.length : Int)) = false := by simp [HN0.out]
    have cz2 : decide (0 < l1.length) = false := by simp [HN0.out]
    have cz3 : (0 < l1.length) = False := by simp [HN0.out]
    go_wp2
    clear cz1 cz2 cz3
    (try simp only [Act.put, zS1, zS2, zS3])
    go_loopg [195] k1 (fun kq v195 w' => ∃ (x195_2 : Int), v195 = .int .i64 x195_2 ∧ Aside0 (impl_fill.l1 kq l0 (l1.length : Int) y551 (y551.length : Int) x195_2 = some (r1, r2)) ∧ Aside0 (kq ≤ k1) ∧ Aside0 (Kd.V (Kd.slice 3 (Kd.int .i64)) 46 w' w.heap.size (fun _ => True) (.slice A21 y551.length c21) y551) ∧ Aside0 (Below w.heap.size w w'))
    case atStart => exact ⟨(0), zs, H', ⟨Nat.le_refl _⟩, ⟨by (try simp only [hl9_1]); (with_reducible repeat (first | apply Kd.V_alloc | apply Kd.V_drewN | apply Kd.V_drew)); first | exact HO555.out | (subst_vars; exact HO555.out)⟩, ⟨zb⟩⟩
    case round =>
     clear H'
     try clear c1
     try clear p1
     try clear q1
     try clear hx1
     try clear c2
     try clear p2
     try clear q2
     try clear c5
     try clear c5b0
     try clear c5b1
     try clear p5
     try clear q5
     try clear hx5
     try clear c6
     try clear c6b0
     try clear c6b1
     try clear p6
     try clear c10
     try clear c10b0
     try clear c11
     try clear c11b0
     try clear c12
     try clear c12b0
     try clear c14
     try clear c15
     try clear p15
     try clear q15
     try clear hx15
     try clear hf15
     try clear c18
     try clear c19
     try clear c19b0
     try clear c19b1
     try clear c20
     try clear c20b0
     try clear c20b1
     try clear c21
     try clear q21
     try clear hx15_0
     try clear hx545_0
     try clear p15
     try clear p2
     try clear p545
     try clear p6
     try clear q021
     try clear q15
     try clear q21
     try clear q545
     obtain ⟨x195_2, rfl, HA, HK2, HO_193, HB⟩ := hrel
     cases gk with
     | zero => exact absurd HA.out (by simp [impl_fill.l1])
     | succ k2 =>
      have H := HA.out
      clear HA
      simp only [impl_fill.l1] at H
      replace H := zI2 H
      rcases H with ⟨c22, H⟩ | ⟨c22, H⟩
      case inr =>
       have c22b0 := decide_eq_false c22
       (try (have c22w_hl9_1 := c22b0; simp only [hl9_1] at c22w_hl9_1))
       clear c22
       replace H := zP H
       obtain ⟨t558, A28, H⟩ := H
       simp only [Option.some.injEq, Prod.mk.injEq] at H
       obtain ⟨rfl, rfl⟩ := H
       go_wp2_with (first | ((with_reducible refine gate_callee (f := 88) rfl ?_); refine goesL_ (some 206) rfl rfl Try.func88 ze rfl #[.slice A0 l0.length c0] rfl zg ?_; (with_reducible refine (slices_Clone_byte_byte.calls _ _ l0 t558 _ ?side1 ?side2 A28.out).mono ?_); (case side1 => exact zc (Kd.C_below HR0.out HB.out)); (case side2 => exact HC0.out); rintro e w29 ⟨v559, rfl, ho0, hb⟩; refine ⟨_, rfl, ?_⟩; refine zS3 (Kd.V_elder' (by (with_reducible repeat (first | apply Kd.V_alloc | apply Kd.V_drewN | apply Kd.V_drew)); first | exact HO_193.out | (subst_vars; exact HO_193.out)) (Kd.R_base ho0) hb) (Kd.R_lower ho0 (below_size zb)) (below_step zb hb) ?_; clear HO_193 HB; intro HO_193 HO560 HB; (try clear hb); (try clear hb2); (try clear hk); (try clear hi); (try clear ho0)))
       go_loopg [209] 0 (fun kq v209 w' => v209 = .int .i64 0 ∧ Aside0 (w' = w29))
       case atStart => exact ⟨rfl, ⟨rfl⟩⟩
       obtain ⟨rfl, HE⟩ := hrel
       have he := HE.out
       clear HE
       subst he
       have cz1 : decide ((0 : Int) < (l1.length : Int)) = false := by simp [HN0.out]
       have cz2 : decide (0 < l1.length) = false := by simp [HN0.out]
       have cz3 : (0 < l1.length) = False := by simp [HN0.out]
       go_wp2
       clear cz1 cz2 cz3
       go_ret2
       exact ⟨_, by first | rfl | (simp [errW_none, errW_some] <;> rfl) | (simp only [← hji4]; first | rfl | (simp [errW_none, errW_some] <;> rfl)) | (simp [*, errW_none, errW_some] <;> rfl), zr HO560, zb⟩
      have c22b0 := zE c22
      (try (have c22w_hl9_1 := c22b0; simp only [hl9_1] at c22w_hl9_1))
      clear c22
      replace H := zIN H
      obtain ⟨c23, H⟩ := H
      have c23b0 : decide (0 ≤ x195_2) = true := zE c23
      (try (have c23w_hl9_1 := c23b0; simp only [hl9_1] at c23w_hl9_1))
      clear c23
      replace H := zIN H
      obtain ⟨c24, H⟩ := H
      have c24b0 : decide (x195_2 < (y551.length : Int)) = true := zE c24
      (try (have c24w_hl9_1 := c24b0; simp only [hl9_1] at c24w_hl9_1))
      clear c24
      replace H := zIN H
      obtain ⟨c25, H⟩ := H
      have c25b0 : decide (0 ≤ (l1.length : Int)) = true := zE c25
      have c25b1 : decide (0 ≤ l1.length) = true := zE (by omega)
      (try (have c25w_hl9_1 := c25b0; simp only [hl9_1] at c25w_hl9_1))
      clear c25
      replace H := zIN H
      obtain ⟨c26, H⟩ := H
      have c26b0 : decide ((l1.length : Int) < ((rd_L3 y551 x195_2).length : Int)) = true := zE c26
      have c26b1 : decide (l1.length < (rd_L3 y551 x195_2).length) = true := zE (Int.ofNat_lt.mp c26)
      (try (have c26w_hl9_1 := c26b0; simp only [hl9_1] at c26w_hl9_1))
      clear c26
      replace H := zI2 H
      rcases H with ⟨c27, H⟩ | ⟨c27, H⟩
      case inr =>
       have c27b0 : ((rd (rd_L3 y551 x195_2) (l1.length : Int)) == 0) = false := beq_eq_false_iff_ne.mpr c27
       have c27b1 : ((rd (rd_L3 y551 x195_2) (l1.length : Int)) != 0) = true := bne_iff_ne.mpr c27
       (try (have c27w_hl9_1 := c27b0; simp only [hl9_1] at c27w_hl9_1))
       simp only [Option.some.injEq, Prod.mk.injEq] at H
       obtain ⟨rfl, rfl⟩ := H
       have p556 : 0 ≤ (x195_2 : Int) := zT (by assumption)
       have q556 : x195_2 < (y551.length : Int) := zT (by assumption)
       obtain ⟨ad556, A556_0, c556_0, e556, hx556_0, hl556_0, hi556_0⟩ := at_L3 (Kd.V_reads' HO_193.out).2.2 x195_2 p556 q556
       cases e556
       obtain ⟨ce556, hce556, hMe556, hcc556⟩ := Kd.V_get HO_193.out [] x195_2 p556 (by first | exact q556 | exact zT (by assumption) | (have e_ := (Kd.V_reads' HO_193.out).1; omega))
       obtain ⟨ua556_0, uc556_0, rfl, ul556_0, ge556_0⟩ := Kd.FK_slice_open hMe556
       have hv556_0 := hcc556 0 _ rfl
       rw [Nat.add_zero, show ((Kd.slice 3 (Kd.int .i64))).sz = 1 from rfl, Nat.mul_one] at hv556_0
       replace hv556_0 := zI (hv556_0.symm.trans hx556_0)
       injection hv556_0 with hva_ hvn_ hvc_
       rw [hva_] at ge556_0
       rw [hvc_] at ul556_0
       have HL556_0 := zM (show Kd.V (Kd.int .i64) 3 _ w.heap.size _ _ (rd_L3 y551 x195_2) from Kd.V_mk ul556_0 ge556_0)
       clear hva_ hvn_ hvc_ ge556_0 ul556_0
       clear hcc556 hce556
       have HR556_0 := zM hi556_0
       have HC556_0 := zM hl556_0
       clear hi556_0 hl556_0
       replace p556 := eq_true p556
       replace q556 := eq_true q556
       have p557 : 0 ≤ ((l1.length : Int) : Int) := zT (by assumption)
       have q557 : (l1.length : Int) < ((rd_L3 y551 x195_2).length : Int) := zT (by assumption)
       obtain ⟨ad557, e557, hx557_0⟩ := Kd.at_int (zc HR556_0.out) (l1.length : Int) p557 q557
       cases e557
       (try simp only [Go.IntWalk.toNatUp] at hx557_0)
       (try simp only [hl9_1] at p557)
       (try simp only [hl9_1] at q557)
       (try simp only [hl9_1] at hx557_0)
       replace p557 := eq_true p557
       replace q557 := eq_true q557
       go_wp2
       go_ret2
       exact ⟨_, by first | rfl | (simp [errW_none, errW_some] <;> rfl) | (simp only [← hji4]; first | rfl | (simp [errW_none, errW_some] <;> rfl)) | (simp [*, errW_none, errW_some] <;> rfl), zz, zb⟩
      have c27b0 : ((rd (rd_L3 y551 x195_2) (l1.length : Int)) == 0) = true := beq_iff_eq.mpr c27
      have c27b1 : ((rd (rd_L3 y551 x195_2) (l1.length : Int)) != 0) = false := bne_eq_false_iff_eq.mpr c27
      (try (have c27w_hl9_1 := c27b0; simp only [hl9_1] at c27w_hl9_1))
      clear c27
      have H' := zM H
      clear H
      have p556 : 0 ≤ (x195_2 : Int) := zT (by assumption)
      have q556 : x195_2 < (y551.length : Int) := zT (by assumption)
      obtain ⟨ad556, A556_0, c556_0, e556, hx556_0, hl556_0, hi556_0⟩ := at_L3 (Kd.V_reads' HO_193.out).2.2 x195_2 p556 q556
      cases e556
      obtain ⟨ce556, hce556, hMe556, hcc556⟩ := Kd.V_get HO_193.out [] x195_2 p556 (by first | exact q556 | exact zT (by assumption) | (have e_ := (Kd.V_reads' HO_193.out).1; omega))
      obtain ⟨ua556_0, uc556_0, rfl, ul556_0, ge556_0⟩ := Kd.FK_slice_open hMe556
      have hv556_0 := hcc556 0 _ rfl
      rw [Nat.add_zero, show ((Kd.slice 3 (Kd.int .i64))).sz = 1 from rfl, Nat.mul_one] at hv556_0
      replace hv556_0 := zI (hv556_0.symm.trans hx556_0)
      injection hv556_0 with hva_ hvn_ hvc_
      rw [hva_] at ge556_0
      rw [hvc_] at ul556_0
      have HL556_0 := zM (show Kd.V (Kd.int .i64) 3 _ w.heap.size _ _ (rd_L3 y551 x195_2) from Kd.V_mk ul556_0 ge556_0)
      clear hva_ hvn_ hvc_ ge556_0 ul556_0
      clear hcc556 hce556
      have HR556_0 := zM hi556_0
      have HC556_0 := zM hl556_0
      clear hi556_0 hl556_0
      replace p556 := eq_true p556
      replace q556 := eq_true q556
      have p557 : 0 ≤ ((l1.length : Int) : Int) := zT (by assumption)
      have q557 : (l1.length : Int) < ((rd_L3 y551 x195_2).length : Int) := zT (by assumption)
      obtain ⟨ad557, e557, hx557_0⟩ := Kd.at_int (zc HR556_0.out) (l1.length : Int) p557 q557
      cases e557
      (try simp only [Go.IntWalk.toNatUp] at hx557_0)
      (try simp only [hl9_1] at p557)
      (try simp only [hl9_1] at q557)
      (try simp only [hl9_1] at hx557_0)
      replace p557 := eq_true p557
      replace q557 := eq_true q557
      go_wp2
      go_roundg k2
      case measure => have := HK1.out; have := HK2.out; omega
      case rel => exact ⟨(wrap64 (x195_2 + 1)), zs, H', ⟨zl2 HK1 HK2⟩, ⟨by (try simp only [hl9_1]); (with_reducible repeat (first | apply Kd.V_alloc | apply Kd.V_drewN | apply Kd.V_drew)); first | exact HO_193.out | (subst_vars; exact HO_193.out)⟩, ⟨zb⟩⟩
   have c10b0 := zE c10
   (try (have c10w_hl9_1 := c10b0; simp only [hl9_1] at c10w_hl9_1))
   clear c10
   replace H := zIN H
   obtain ⟨c11, H⟩ := H
   have c11b0 : decide (0 ≤ x32_1) = true := zE c11
   (try (have c11w_hl9_1 := c11b0; simp only [hl9_1] at c11w_hl9_1))
   clear c11
   replace H := zIN H
   obtain ⟨c12, H⟩ := H
   have c12b0 : decide (x32_1 < (x9_1.length : Int)) = true := zE c12
   (try (have c12w_hl9_1 := c12b0; simp only [hl9_1] at c12w_hl9_1))
   clear c12
   replace H := zP H
   obtain ⟨t546, A13, H⟩ := H
   replace H := zIM H
   obtain ⟨LMc14, H⟩ := H
   obtain ⟨y547, hy547⟩ : ∃ y_ : List Int, y_ = (([] : List Int) ++ [t546]) := ⟨_, rfl⟩
   rw [← hy547] at H
   have Ny547 := zM hy547
   clear hy547
   obtain ⟨y550, hy550⟩ : ∃ y_ : List (List Int), y_ = (x9_1.set (x32_1 : Int).toNat y547) := ⟨_, rfl⟩
   rw [← hy550] at H
   have Ny550 := zM hy550
   clear hy550
   have H' := zM H
   clear H
   go_wp2
   go_loopg [37] 0 (fun kq v37 w' => v37 = .int .i64 0 ∧ Aside0 (w' = wr))
   case atStart => exact ⟨rfl, ⟨rfl⟩⟩
   obtain ⟨rfl, HE⟩ := hrel
   have he := HE.out
   clear HE
   subst he
   have cz1 : decide ((0 : Int) < (l1.length : Int)) = false := by simp [HN0.out]
   have cz2 : decide (0 < l1.length) = false := by simp [HN0.out]
   have cz3 : (0 < l1.length) = False := by simp [HN0.out]
   go_wp2
   clear cz1 cz2 cz3
   refine zS2 (Kd.N_drew HO_9.out) (zBd HB.out) ?_
   clear HO_9 HB
   intro HO_9 HB
   have p545 : 0 ≤ (x32_1 : Int) := zT (by assumption)
   have q545 : x32_1 < (x9_1.length : Int) := zT (by assumption)
   obtain ⟨ad545, A545_0, c545_0, e545, hx545_0, hl545_0, hi545_0⟩ := at_L3 (Kd.N_reads' HO_9.out).2.2 x32_1 p545 q545
   cases e545
   obtain ⟨ce545, hce545, hMe545, hcc545⟩ := Kd.N_get HO_9.out [] x32_1 p545 (by first | exact q545 | exact zT (by assumption) | (have e_ := (Kd.N_reads' HO_9.out).1; omega))
   obtain ⟨ua545_0, uc545_0, rfl, ul545_0, ge545_0⟩ := Kd.FK_slice_open hMe545
   have hv545_0 := hcc545 0 _ rfl
   rw [Nat.add_zero, show ((Kd.slice 3 (Kd.int .i64))).sz = 1 from rfl, Nat.mul_one] at hv545_0
   replace hv545_0 := zI (hv545_0.symm.trans hx545_0)
   injection hv545_0 with hva_ hvn_ hvc_
   rw [hva_] at ge545_0
   rw [hvc_] at ul545_0
   have HL545_0 := zM (show Kd.V (Kd.int .i64) 3 _ w.heap.size _ _ (rd_L3 x9_1 x32_1) from Kd.V_mk ul545_0 ge545_0)
   clear hva_ hvn_ hvc_ ge545_0 ul545_0
   clear hcc545 hce545
   have HR545_0 := zM hi545_0
   have HC545_0 := zM hl545_0
   clear hi545_0 hl545_0
   replace p545 := eq_true p545
   replace q545 := eq_true q545
   have hz9 : wr.drew.cell? (ad545.add (x32_1).toNat) = some (.slice none 0 0) := HI.out _ rfl _ (Nat.le_refl _) (by have h_ := zT c10b0; have h2_ := zT c11b0; omega)
   have nI_ := zM (show ∀ ad', some ad545 = some ad' → ∀ j : Nat, x32_1.toNat ≤ j → j < y542.length → wr.drew.cell? (ad'.add j) = some (.slice none 0 0) from HI.out)
   clear HI
   have HI := nI_
   clear nI_
   refine start_ (n := 13) (S := fun w' => w'.cell? (ad545.add (x32_1).toNat) = some (.slice none 0 0)) (ds := [10, 12]) #[zf,zf,zf,zf,zf,zf,zf,zf,zf,zf,zf,zf,zf] ze rfl rfl (hz9) (fun hHeld => ?_); refine with_tabW impl_fill.tab11 impl_fill.bits11 (fun HT_ HW_ => ?_)
   generalize wr.drew = w16 at HO_9 HI hz9 HB HL545_0 HR545_0 hx545_0 hHeld ⊢
   refine pure_ (i := 0) (N := some 59) #[zt,zf,zf,zf,zf,zf,zf,zf,zf,zf,zf,zf,zf] rfl rfl (any_of HT_.out ze) (fun _ _ _ h => h) (Or.inl ⟨by rfl, zv⟩) za ?_
   refine pure_ (i := 1) (N := some 60) #[zt,zt,zf,zf,zf,zf,zf,zf,zf,zf,zf,zf,zf] rfl rfl (any_of HT_.out ze) (fun _ _ _ h => h) (Or.inl ⟨by rfl, zv⟩) za ?_
   refine pure_ (i := 2) (N := some 61) #[zt,zt,zt,zf,zf,zf,zf,zf,zf,zf,zf,zf,zf] rfl rfl (any_of HT_.out ze) (fun _ _ _ h => h) (Or.inl ⟨by rfl, zv⟩) za ?_
   refine pure_ (i := 3) (N := some 62) #[zt,zt,zt,zt,zf,zf,zf,zf,zf,zf,zf,zf,zf] rfl rfl (any_of HT_.out ze) (fun _ _ _ h => h) (Or.inl ⟨by rfl, zv⟩) za ?_
   refine pure_ (i := 4) (N := some 63) #[zt,zt,zt,zt,zt,zf,zf,zf,zf,zf,zf,zf,zf] rfl rfl (any_of HT_.out ze) (fun _ _ _ h => h) (Or.inl ⟨by rfl, zv⟩) za ?_
   refine take_ (i := 5) (N := some 64) (v := ?_) (a' := ?_) #[zt,zt,zt,zt,zt,zt,zf,zf,zf,zf,zf,zf,zf] rfl rfl (take_ofW HT_.out HW_.out ze) (fun _ _ _ h => h) (Or.inl ⟨by rfl, ?_⟩) hHeld ?_ ?_
   rotate_left
   ·intro w' s0
    go_simp
    with_reducible rfl
   rotate_left
   ·simp only [Act.put, zS1, zS2, zS3, i64_w, i32_w]
    rfl
   refine pure_ (i := 6) (N := some 65) #[zt,zt,zt,zt,zt,zt,zt,zf,zf,zf,zf,zf,zf] rfl rfl (any_of HT_.out ze) (fun _ _ _ h => h) (Or.inl ⟨by rfl, zv⟩) za ?_
   refine pure_ (i := 7) (N := some 66) #[zt,zt,zt,zt,zt,zt,zt,zt,zf,zf,zf,zf,zf] rfl rfl (any_of HT_.out ze) (fun _ _ _ h => h) (Or.inl ⟨by rfl, zv⟩) za ?_
   refine one_ (i := 8) (N := some 67) #[zt,zt,zt,zt,zt,zt,zt,zt,zt,zf,zf,zf,zf] rfl rfl (one_of HT_.out ze) (by decide) (fun K hK => ?_)
   refine goes_ Try.func106 ze rfl #[.slice A0 l0.length c0, .int .i64 x32_1] (by rfl) rfl rfl zg ?_
   with_reducible refine (impl_value.calls k1 _ _ l0 x32_1 t546 _ ?side1 ?side2 A13.out).mono ?_
   (case side1 => exact zc (Kd.C_below HR0.out HB.out))
   (case side2 => exact HC0.out)
   rintro e w' ⟨rfl, ⟨nd, rfl⟩⟩
   refine ⟨_, rfl, ?_⟩
   refine hK.out _ _ (hHeld) (fun hHeld => ?_)
   clear hK K
   refine norm_ (a' := ?_) ?_ ?_
   rotate_left
   ·show Act.put _ (some 67) _ = _
    simp only [Act.put, zS1, zS2, zS3, i64_w, i32_w]
    rfl
   refine one_ (i := 9) (N := some 68) #[zt,zt,zt,zt,zt,zt,zt,zt,zt,zt,zf,zf,zf] rfl rfl (one_of HT_.out ze) (by decide) (fun K hK => ?_)
   refine value_ (w1 := ?_) (v := ?_) (by rfl) rfl ?_ ?_
   rotate_left 2
   ·go_simp
    constructor
    ·rfl
    ·rfl
   refine hK.out _ _ (fl_alloc hHeld _) (fun hHeld => ?_)
   clear hK K
   refine norm_ (a' := ?_) ?_ ?_
   rotate_left
   ·show Act.put _ (some 68) _ = _
    simp only [Act.put, zS1, zS2, zS3, i64_w, i32_w]
    rfl
   refine last_ (i := 10) (N := some 69) #[zt,zt,zt,zt,zt,zt,zt,zt,zt,zt,zt,zf,zf] rfl rfl (one_of HT_.out ze) (by decide) (fun K hK => ?_)
   refine Kd.R_append_step (Kd.int .i64) (w0 := w) w.heap.size (by rfl) (.tmp 64) (.tmp 68) 46 3 (.int .i64 0) 8 rfl Try.underlying46 info3 rfl (by decide) (by omega) (.slice none 0 0) ([] : List Int) t546 [.int .i64 t546] (fun _ => True) (fun _ => False) rfl rfl ?aP (fun _ hk => hk.elim) ?aF ?aO ?aB ?aS ?aL ?_
   (case aP => exact rfl)
   (case aB => exact zb)
   (case aF => exact (fun _ _ => trivial))
   (case aO => exact ((Kd.R_nil _ _ _ _ (fun _ => True))))
   (case aS => exact (below_size zb))
   (case aL => have := LMc14.out; omega)
   intro v548 w17 ho hb hg hat
   (first | rw [← Ny547.out] at ho | simp only [Int.reduceToNat, ← Ny547.out] at ho)
   refine zS4 (Kd.N_afterv (Kd.N_apart_nil (by (with_reducible repeat (first | apply Kd.N_alloc | apply Kd.N_drewN | apply Kd.N_drew)); first | exact HO_9.out | (subst_vars; exact HO_9.out))) hg hat) (Kd.V_afterv (Kd.V_apart_nil (by (with_reducible repeat (first | apply Kd.V_alloc | apply Kd.V_drewN | apply Kd.V_drew)); first | exact HL545_0.out | (subst_vars; exact HL545_0.out))) hg hat) (hb) (ho) ?_
   clear HO_9 HL545_0 HB
   intro HO_9 HL545_0 HB HO549
   have nI2 := zM (fun ad' (e : _ = some ad') (j : Nat) (h1 : x32_1.toNat ≤ j) (h2 : j < y542.length) => fl_cell hg (by simp [Value.ownBlock]) (by first | exact fl_alloc (HI.out ad' e j h1 h2) _ | exact HI.out ad' e j h1 h2))
   clear HI hz9
   have HI := nI2
   clear nI2
   clear ho hb hg hat
   obtain ⟨Ae, ce, ee⟩ := Kd.R_slice HO549.out
   subst ee
   have p15 : 0 ≤ (x32_1 : Int) := zT (by assumption)
   have q15 : (x32_1 : Int) < ((x9_1.length : Int) : Int) := zT (by assumption)
   obtain ⟨go15, co15, eo15, gb15, gl15, cl15, HG15⟩ := Kd.N_form HO_9.out (by omega)
   (first | cases eo15 | (injection eo15 with ea_ en_ ec_; (first | subst ea_ | (injection ea_ with ea_; subst ea_)); subst ec_; clear en_))
   have GB15 := zM gb15
   have GG15 := zM HG15
   clear gb15 gl15 HG15
   (first | simp only [add_plain] at hx545_0 | skip)
   obtain ⟨ce15, hcl15, hM15, hcc15, hfr15⟩ := Kd.N_elem HO_9.out [] (x32_1 : Int) p15 q15
   obtain ⟨ua15_0, uc15_0, rfl, ul15_0, ge15_0⟩ := Kd.FK_slice_open hM15
   have hx15_0 := hcc15 0 _ rfl
   have hf15_0 := hfr15 0
   (try simp only [show ((Kd.slice 3 (Kd.int .i64))).sz = 1 from rfl, Nat.mul_one, Nat.add_zero] at hx15_0)
   (try simp only [show ((Kd.slice 3 (Kd.int .i64))).sz = 1 from rfl, Nat.mul_one, Nat.add_zero] at hf15_0)
   (try clear hcl15 hcc15 hfr15); (try clear hM15)
   replace p15 := eq_true p15
   replace q15 := eq_true q15
   have HX18 := zM (show Kd.N (Kd.slice 3 (Kd.int .i64)) 46 _ w.heap.size (fun k_ => some k_ ≠ (.slice Ae y547.length ce : Value).ownBlock) (.slice (some ⟨go15, 0, none⟩) x9_1.length co9) x9_1 from (Kd.N_mono (HO_9.out) (fun k_ hk => hk.2)))
   replace HX18 := zM (show Kd.N (Kd.slice 3 (Kd.int .i64)) 46 _ w.heap.size (fun _ => True) (.slice (some ⟨go15, 0, none⟩) x9_1.length co9) x9_1 from Kd.N_mono HX18.out (fun k_ hk => trivial))
   obtain ⟨ce18, hcl18, hM18, hcc18, hfr18⟩ := Kd.N_elem HX18.out [] (x32_1 : Int) (zT (by assumption)) (by have h_ : (x32_1 : Int) < ((x9_1.length : Int) : Int) := zT (by assumption); first | exact h_ | (have e_ := (Kd.N_reads' HO_9.out).1; omega) | simpa using h_)
   obtain ⟨ua18_0, uc18_0, rfl, ul18_0, ge18_0⟩ := Kd.FK_slice_open hM18
   have HP18 := (Kd.N_seg HX18.out (x32_1 : Int) (zT (by assumption)) (by have h_ : (x32_1 : Int) < ((x9_1.length : Int) : Int) := zT (by assumption); first | exact h_ | (have e_ := (Kd.N_reads' HO_9.out).1; omega) | simpa using h_) (seg := [(.slice Ae y547.length ce)]) (j := 0) hcl18 hcc18 (show 1 ≤ 1 from by decide) (x' := y547) (Kd.FK_slice_mk (Kd.R_reads' (Kd.R_mono (ok' := (fun k_ => ((fun _ => True)) k_ ∧ k_ ≠ go15)) (Kd.R_apart' (HO549.out) (Kd.N_typed HO_9.out) (by decide)) (fun k_ hk => ⟨trivial, fun e_ => (hk.2) (by rw [e_]; rfl)⟩))).2.1 (Kd.R_F (Kd.R_mono (ok' := (fun k_ => ((fun _ => True)) k_ ∧ k_ ≠ go15)) (Kd.R_apart' (HO549.out) (Kd.N_typed HO_9.out) (by decide)) (fun k_ hk => ⟨trivial, fun e_ => (hk.2) (by rw [e_]; rfl)⟩)))) (fun _ hk => hk)).1
   (try simp only [show ((Kd.slice 3 (Kd.int .i64))).sz = 1 from rfl, Nat.mul_one, Nat.add_zero] at HP18)
   rw [← Ny550.out] at HP18
   have HQ18 := zM HP18
   (try clear hcl18 hcc18 hfr18 HP18); (try clear hM18)
   refine hK.out _ _ ?_
   clear hK K
   refine norm_ (a' := ?_) ?_ ?_
   rotate_left
   ·show Act.put _ (some 69) _ = _
    simp only [Act.put, zS1, zS2, zS3, i64_w, i32_w]
    rfl
   refine pure_ (i := 11) (N := some 70) #[zt,zt,zt,zt,zt,zt,zt,zt,zt,zt,zt,zt,zf] rfl rfl (any_of HT_.out ze) (fun _ _ _ h => h) (Or.inl ⟨by rfl, zv⟩) za ?_
   refine last_ (i := 12) (N := none) #[zt,zt,zt,zt,zt,zt,zt,zt,zt,zt,zt,zt,zt] rfl rfl (one_of HT_.out ze) (by decide) (fun K hK => ?_)
   refine skip_ (w1 := ?_) (by rfl) rfl ?_ ?_
   rotate_left
   ·go_simp
    rfl
   refine hK.out _ _ ?_
   clear hK K
   refine done_ (done_of HT_.out ze) ?_
   try go_wp2
   (try simp only [← hl9_1])
   go_roundg k1
   case measure => have := HK1.out; omega
   case rel => exact ⟨(y550), (wrap64 (x32_1 + 1)), zs, H', ⟨zl1 HK1⟩, ⟨by (try simp only [hl9_1]); (with_reducible repeat (first | apply Kd.N_alloc | apply Kd.N_drewN | apply Kd.N_drew)); first | exact HQ18.out | (subst_vars; exact HQ18.out)⟩, ⟨fun ad' e j h1 h2 => by first | (have h_ := zT c11b0; have h3_ := zT c10b0; have hw_ : (wrap64 (x32_1 + 1)).toNat = x32_1.toNat + 1 := (by unfold wrap64; have := HLb.out; omega); rw [hw_] at h1; cases e; refine (World.cell?_setCell_other _ _ _ _ ?_).trans (HI.out _ rfl j (by omega) h2); intro e_; rw [add_plain] at e_; have e2 := congrArg Addr.off e_; simp only at e2; omega)⟩, ⟨by repeat (first | (with_reducible first | exact HB.out | apply zBa | apply zBn | apply zBd | refine zBs ?_ GB15.out) | exact HB.out)⟩⟩
def impl_RsOk.l0 : Nat → List Int → Int → Int → Option (Bool)
 | 0, _, _, _ => none
 | k + 1, x0, x11, x12 => if x12 < x11 then ((impl_value.f k x0 x12).bind fun t543 => (if t543 = 0 then (impl_RsOk.l0 k x0 x11 (wrap64 (x12 + 1))) else (some false))) else (some true)
def impl_RsOk.f (k : Nat) (l0 : List Int) (a1 : Int) : Option (Bool) := (impl_wordOk.f l0 a1).bind fun t542 => (if t542 = true then (impl_RsOk.l0 k l0 (wrap64 (2 * a1)) 0) else (some false))
theorem impl_RsOk.calls (k : Nat) (A0 : Option Addr) (c0 : Nat) (l0 : List Int) (a1 : Int) (r : Bool) (w : World) (hr0 : Kd.C (Kd.int .u8) w A0 l0.length l0) (hc0 : l0.length ≤ c0) (H : impl_RsOk.f k l0 a1 = some r) :
 Calls Try.prog 109 #[.slice A0 l0.length c0, .int .i64 a1] w fun e w' => e = .returned (.bool r) ∧ Drawn0 w w' := by
 have HR0 := zM hr0
 have HC0 := zM hc0
 clear hr0 hc0
 unfold impl_RsOk.f at H
 replace H := zP H
 obtain ⟨t542, A3, H⟩ := H
 by_cases c4 : t542 = true
 case neg =>
  replace c4 := Bool.eq_false_iff.mpr c4
  subst c4
  rw [if_neg zFT] at H
  obtain rfl := zI H
  go_enter Try.func109, Try.ntmps109
  go_wp2_with (first | ((with_reducible refine gate_callee (f := 105) rfl ?_); refine goesL_ (some 8) rfl rfl Try.func105 ze rfl #[.slice A0 l0.length c0, .int .i64 a1] rfl zg ?_; (with_reducible refine (impl_wordOk.calls _ _ l0 a1 false _ ?side1 ?side2 A3.out).mono ?_); (case side1 => exact zc HR0.out); (case side2 => exact HC0.out); rintro e w' ⟨rfl, ⟨nd, rfl⟩⟩; refine ⟨_, rfl, ?_⟩))
  go_ret
  exact ⟨zs, zd⟩
 subst c4
 rw [if_pos rfl] at H
 have H' := zM H
 clear H
 go_enter Try.func109, Try.ntmps109
 go_wp2_with (first | ((with_reducible refine gate_callee (f := 105) rfl ?_); refine goesL_ (some 8) rfl rfl Try.func105 ze rfl #[.slice A0 l0.length c0, .int .i64 a1] rfl zg ?_; (with_reducible refine (impl_wordOk.calls _ _ l0 a1 true _ ?side1 ?side2 A3.out).mono ?_); (case side1 => exact zc HR0.out); (case side2 => exact HC0.out); rintro e w' ⟨rfl, ⟨nd, rfl⟩⟩; refine ⟨_, rfl, ?_⟩))
 (try simp only [Act.put, zS1, zS2, zS3])
 go_loopg [12] k (fun kq v12 w' => ∃ (x12_1 : Int), v12 = .int .i64 x12_1 ∧ Aside0 (impl_RsOk.l0 kq l0 (wrap64 (2 * a1)) x12_1 = some r) ∧ Aside0 (kq ≤ k) ∧ Drawn0 w w')
 case atStart => exact ⟨(0), zs, H', ⟨Nat.le_refl _⟩, zd⟩
 case round =>
  clear H'
  try clear c1
  try clear p2
  try clear c4
  obtain ⟨x12_1, rfl, HA, HK1, ⟨m1, rfl⟩⟩ := hrel
  cases gk with
  | zero => exact absurd HA.out (by simp [impl_RsOk.l0])
  | succ k1 =>
   have H := HA.out
   clear HA
   simp only [impl_RsOk.l0] at H
   replace H := zI2 H
   rcases H with ⟨c5, H⟩ | ⟨c5, H⟩
   case inr =>
    have c5b0 := decide_eq_false c5
    clear c5
    obtain rfl := zI H
    go_wp2
    go_ret
    exact ⟨zs, zd⟩
   have c5b0 := zE c5
   clear c5
   replace H := zP H
   obtain ⟨t543, A6, H⟩ := H
   replace H := zI2 H
   rcases H with ⟨c7, H⟩ | ⟨c7, H⟩
   case inr =>
    have c7b0 : (t543 == 0) = false := beq_eq_false_iff_ne.mpr c7
    have c7b1 : (t543 != 0) = true := bne_iff_ne.mpr c7
    obtain rfl := zI H
    go_wp2_with (first | ((with_reducible refine gate_callee (f := 106) rfl ?_); refine goesL_ (some 17) rfl rfl Try.func106 ze rfl #[.slice A0 l0.length c0, .int .i64 x12_1] rfl zg ?_; (with_reducible refine (impl_value.calls k1 _ _ l0 x12_1 t543 _ ?side1 ?side2 A6.out).mono ?_); (case side1 => exact zc HR0.out); (case side2 => exact HC0.out); rintro e w' ⟨rfl, ⟨nd, rfl⟩⟩; refine ⟨_, rfl, ?_⟩))
    go_ret
    exact ⟨zs, zd⟩
   have c7b0 : (t543 == 0) = true := beq_iff_eq.mpr c7
   have c7b1 : (t543 != 0) = false := bne_eq_false_iff_eq.mpr c7
   clear c7
   have H' := zM H
   clear H
   go_wp2_with (first | ((with_reducible refine gate_callee (f := 106) rfl ?_); refine goesL_ (some 17) rfl rfl Try.func106 ze rfl #[.slice A0 l0.length c0, .int .i64 x12_1] rfl zg ?_; (with_reducible refine (impl_value.calls k1 _ _ l0 x12_1 t543 _ ?side1 ?side2 A6.out).mono ?_); (case side1 => exact zc HR0.out); (case side2 => exact HC0.out); rintro e w' ⟨rfl, ⟨nd, rfl⟩⟩; refine ⟨_, rfl, ?_⟩))
   go_roundg k1
   case measure => have := HK1.out; omega
   case rel => exact ⟨(wrap64 (x12_1 + 1)), zs, H', ⟨zl1 HK1⟩, zd⟩
end Go.Proofs.Ytapobpkeefeajaa.PFnClean
