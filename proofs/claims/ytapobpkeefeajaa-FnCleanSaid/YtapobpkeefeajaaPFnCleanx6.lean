-- A turned copy of the print's text.
import Derived.Test.YtapobpkeefeajaaPFnCleanx0
import Derived.Test.YtapobpkeefeajaaPFnCleanx1
import Derived.Test.YtapobpkeefeajaaPFnCleanx2
import Derived.Test.YtapobpkeefeajaaPFnCleanx3
import Derived.Test.YtapobpkeefeajaaPFnCleanx4
import Derived.Test.YtapobpkeefeajaaPFnCleanx5
namespace Go.Proofs.Ytapobpkeefeajaa.PFnClean
open Go.RowKit Go.Proofs.YtapobpkeefeajaaW.PrintWords Go.Proofs.YtapobpkeefeajaaW.PrintLast Go.Proofs.YtapobpkeefeajaaW.PrintMore
attribute [local go_sem] max2_int min2_int max_two min_two max_three min_three max_four min_four
set_option maxHeartbeats 8000000
set_option maxRecDepth 100000
set_option linter.unusedVariables false
set_option linter.unusedSimpArgs false
mutual
def spec_Send.j0 : Nat → List Int → List (S52) → Bool → Int → Int → Int → Int → Int → Int → Option ((List (S52)) × Bool)
 | 0, _, _, _, _, _, _, _, _, _ => none
 | k + 1, x1, x6, x25, x239000, x239001, x239002, x239003, x239004, x239005 => if x25 = true then (some (x6, false)) else ((spec_RsCode.f k x1 x239001).bind fun bt244 => ((spec_Unpack8.f k bt244.1 (wrap64 (8 * (bt244.1.length : Int)))).bind fun bt248 => ((spec_Weave.f k bt248.1 x239002).bind fun bt252 => ((spec_Stir.f k bt252.1 46080 x239003).bind fun bt256 => ((spec_Map.f k x239000 bt256.1).bind fun bt260 => (spec_Send.l0 k x6 bt260.1 0 x239000 x239001 x239002 x239003 x239004 x239005))))))
def spec_Send.l0 : Nat → List (S52) → List (S52) → Int → Int → Int → Int → Int → Int → Int → Option ((List (S52)) × Bool)
 | 0, _, _, _, _, _, _, _, _, _ => none
 | k + 1, x6, x11, x13, x239000, x239001, x239002, x239003, x239004, x239005 => if x13 < x239004 then (if x6.length < 8796093022208 then (spec_Send.l0 k (x6 ++ [(⟨wrap64 (32 * x239005), 0⟩ : S52)]) x11 (wrap64 (x13 + 1)) x239000 x239001 x239002 x239003 x239004 x239005) else (none)) else (spec_Send.l1 k x6 x11 0 x239000 x239001 x239002 x239003 x239004 x239005)
def spec_Send.l1 : Nat → List (S52) → List (S52) → Int → Int → Int → Int → Int → Int → Int → Option ((List (S52)) × Bool)
 | 0, _, _, _, _, _, _, _, _, _ => none
 | k + 1, x6, x11, x14, x239000, x239001, x239002, x239003, x239004, x239005 => if x14 < (x11.length : Int) then (spec_Send.l2 k x6 x11 x14 0 x239000 x239001 x239002 x239003 x239004 x239005) else (some (x6, true))
def spec_Send.l2 : Nat → List (S52) → List (S52) → Int → Int → Int → Int → Int → Int → Int → Int → Option ((List (S52)) × Bool)
 | 0, _, _, _, _, _, _, _, _, _, _ => none
 | k + 1, x6, x11, x14, x15, x239000, x239001, x239002, x239003, x239004, x239005 => if x15 < x239004 then (if 0 ≤ x14 then (if x14 < (x11.length : Int) then (if x6.length < 8796093022208 then (spec_Send.l2 k (x6 ++ [(⟨wrap64 (((rd_T52 x11 x14).f0) * x239005), wrap64 (((rd_T52 x11 x14).f1) * x239005)⟩ : S52)]) x11 x14 (wrap64 (x15 + 1)) x239000 x239001 x239002 x239003 x239004 x239005) else (none)) else (none)) else (none)) else (spec_Send.l1 k x6 x11 (wrap64 (x14 + 1)) x239000 x239001 x239002 x239003 x239004 x239005)
end
def spec_Send.f (k : Nat) (a0_0 : Int) (a0_1 : Int) (a0_2 : Int) (a0_3 : Int) (a0_4 : Int) (a0_5 : Int) (l1 : List Int) : Option ((List (S52)) × Bool) := (some (([] : List (S52)) : List (S52))).bind fun y239 => ((spec_ModemOk.f a0_0 a0_1 a0_2 a0_3 a0_4 a0_5).bind fun t242 => (if t242 = true then ((spec_l1In.f (l1.length : Int) 1 40).bind fun t243 => (spec_Send.j0 k l1 y239 (!t243) a0_0 a0_1 a0_2 a0_3 a0_4 a0_5)) else (spec_Send.j0 k l1 y239 true a0_0 a0_1 a0_2 a0_3 a0_4 a0_5)))
def spec_Send.T19 : Bool × List (List Nat × List Nat) := (true, [([], []), ([], []), ([], []), ([1, 2], [1, 2]), ([3], [3]), ([4], [4]), ([], []), ([6], [6]), ([5, 7], [5, 7]), ([], []), ([], []), ([9, 10], [9, 10]), ([11], [11]), ([12], [12]), ([], []), ([14], [14]), ([13, 15], [13, 15]), ([8, 16], [8, 16]), ([17], [17]), ([0, 18], [0, 18]), ([19, 19, 0, 1, 2, 3, 4, 5, 6, 7, 8, 9, 10, 11, 12, 13, 14, 15, 16, 17, 18, 19], [0, 19])])
def spec_Send.B19 : List Nat := [0, 0, 0, 6, 14, 30, 0, 64, 254, 0, 0, 1536, 3584, 7680, 0, 16384, 65024, 131070, 262142, 524287, 1048575]
theorem spec_Send.tab19 : rtab .any (opsOf Try.f7 19) = spec_Send.T19 := by kernel_rfl
theorem spec_Send.bits19 : waitsOk spec_Send.T19.2 spec_Send.B19 = true := by kernel_rfl
theorem spec_Send.calls (k : Nat) (a0_0 : Int) (a0_1 : Int) (a0_2 : Int) (a0_3 : Int) (a0_4 : Int) (a0_5 : Int) (A1 : Option Addr) (c1 : Nat) (l1 : List Int) (r1 : List (S52)) (r2 : Bool) (w : World) (hr1 : Kd.C (Kd.int .u8) w A1 l1.length l1) (hc1 : l1.length ≤ c1) (H : spec_Send.f k a0_0 a0_1 a0_2 a0_3 a0_4 a0_5 l1 = some (r1, r2)) :
 Calls Try.prog 7 #[.agg #[.int .i64 a0_0, .int .i64 a0_1, .int .i64 a0_2, .int .i64 a0_3, .int .i64 a0_4, .int .i64 a0_5], .slice A1 l1.length c1] w fun e w' => ∃ v0_ : Value, e = .returned (.tuple #[v0_, .bool r2]) ∧ Kd.R k52 52 w' w.heap.size (fun _ => True) v0_ r1 ∧ Below w.heap.size w w' := by
 have hu28 := Try.underlying28
 have hu52 := Try.underlying52
 have HR1 := zM hr1
 have HC1 := zM hc1
 clear hr1 hc1
 have HB := zM (Below.refl w.heap.size w)
 unfold spec_Send.f at H
 replace H := zY H
 obtain ⟨y239, Ny239, H⟩ := H
 have HC3 := zM H
 clear H
 go_enter Try.func7, Try.ntmps7
 go_upto_region 2 with (first | ((with_reducible refine gate_dst (N := 2) rfl ?_); (try (refine gate_guard (by rfl) ?_; dsimp only)); refine box_event ?hg (N := 2) ?hd (cs := #[.int .i64 a0_0, .int .i64 a0_1, .int .i64 a0_2, .int .i64 a0_3, .int .i64 a0_4, .int .i64 a0_5]) (t := 28) ?hr ?_; (case hd | hg => rfl); (case hr => exact zh); intro gb238 hg w4 hbox hb; have n0_ := zM (below_step zb hb); have n1_ := zM (hbox); have n2_ := zM ((zw hg (below_size zb))); have n3_ := zM n2_.out; clear HB; have HB := n0_; have BK238 := n1_; have GW238 := n2_; have GE238 := n3_; clear n0_ n1_ n2_ n3_; clear hb hbox hg) | ((with_reducible refine gate_dst (N := 16) rfl ?_); (try (refine gate_guard (by rfl) ?_; dsimp only)); refine Kd.R_lit k52 _ 52 ?hg (N := 16) ?hd (xs := ([] : List (S52))) (inner := []) (ok := fun _ => True) (okp := fun _ => True) ?hr ?hp (fun _ hk => hk) trivial (Below.refl _ _) (Nat.le_refl _) (by simp) ?_; (case hd | hg => rfl); (case hr => exact zh); (case hp => exact (Reps.none _ _)); intro v240 w5 ho6 hb hg_ hnew_; clear hg_ hnew_; (first | rw [← Ny239.out] at ho6 | simp only [Int.reduceToNat, ← Ny239.out] at ho6); refine zS3 (Kd.R_lower ho6 (below_size zb26)) (zNb (g := gb238) (o := .cells #[.int .i64 a0_0, .int .i64 a0_1, .int .i64 a0_2, .int .i64 a0_3, .int .i64 a0_4, .int .i64 a0_5] 28 (0, 0)) (zn BK238) hb) (below_step zb26 hb) ?_; clear BK238 HB; intro HO241 BK238 HB; clear hb ho6))
 (try simp only [Act.put, zS1, zS2, zS3])
 go_cut [25] (fun v25 wc => ∃ (kq : Nat) (x25_2 : Bool), v25 = .bool x25_2 ∧ Aside0 (spec_Send.j0 kq l1 y239 x25_2 a0_0 a0_1 a0_2 a0_3 a0_4 a0_5 = some (r1, r2)) ∧ Aside0 (kq ≤ k) ∧ Aside0 (Kd.R k52 52 wc w.heap.size (fun _ => True) v240 y239) ∧ Aside0 (wc.heap[gb238]? = some (.cells #[.int .i64 a0_0, .int .i64 a0_1, .int .i64 a0_2, .int .i64 a0_3, .int .i64 a0_4, .int .i64 a0_5] 28 (0, 0))) ∧ Aside0 (Below w.heap.size w wc))
 case first =>
  have H := HC3.out
  clear HC3
  replace H := zP H
  obtain ⟨t242, A7, H⟩ := H
  by_cases c8 : t242 = true
  case neg =>
   replace c8 := Bool.eq_false_iff.mpr c8
   subst c8
   rw [if_neg zFT] at H
   have H' := zM H
   clear H
   obtain ⟨hcz12_0, hcz12_1, hcz12_2, hcz12_3, hcz12_4, hcz12_5, hfz12_0, hfz12_1, hfz12_2, hfz12_3, hfz12_4, hfz12_5⟩ := zc6 BK238.out
   go_wp2_with (first | ((with_reducible refine gate_callee (f := 29) rfl ?_); refine goesL_ (some 18) rfl rfl Try.func29 ze rfl #[.agg #[.int .i64 a0_0, .int .i64 a0_1, .int .i64 a0_2, .int .i64 a0_3, .int .i64 a0_4, .int .i64 a0_5]] rfl zg ?_; (with_reducible refine (spec_ModemOk.calls a0_0 a0_1 a0_2 a0_3 a0_4 a0_5 false _ A7.out).mono ?_); rintro e w13 ⟨rfl, hb⟩; refine ⟨_, rfl, ?_⟩; refine zS3 (Kd.R_below (zr HO241) hb) (zNb (g := gb238) (o := .cells #[.int .i64 a0_0, .int .i64 a0_1, .int .i64 a0_2, .int .i64 a0_3, .int .i64 a0_4, .int .i64 a0_5] 28 (0, 0)) (zn BK238) hb) (below_step zb26 hb) ?_; clear HO241 BK238 HB; intro HO241 BK238 HB; (try clear hb); (try clear hb2); (try clear hk); (try clear hi)))
   go_meet
   case rel => exact ⟨_, (true), zs, H', ⟨zo⟩, ⟨zr HO241⟩, ⟨zn BK238⟩, ⟨zb26⟩⟩
  subst c8
  rw [if_pos rfl] at H
  replace H := zP H
  obtain ⟨t243, A9, H⟩ := H
  have H' := zM H
  clear H
  obtain ⟨hcz10_0, hcz10_1, hcz10_2, hcz10_3, hcz10_4, hcz10_5, hfz10_0, hfz10_1, hfz10_2, hfz10_3, hfz10_4, hfz10_5⟩ := zc6 BK238.out
  go_wp2_with (first | ((with_reducible refine gate_callee (f := 29) rfl ?_); refine goesL_ (some 18) rfl rfl Try.func29 ze rfl #[.agg #[.int .i64 a0_0, .int .i64 a0_1, .int .i64 a0_2, .int .i64 a0_3, .int .i64 a0_4, .int .i64 a0_5]] rfl zg ?_; (with_reducible refine (spec_ModemOk.calls a0_0 a0_1 a0_2 a0_3 a0_4 a0_5 true _ A7.out).mono ?_); rintro e w11 ⟨rfl, hb⟩; refine ⟨_, rfl, ?_⟩; refine zS3 (Kd.R_below (zr HO241) hb) (zNb (g := gb238) (o := .cells #[.int .i64 a0_0, .int .i64 a0_1, .int .i64 a0_2, .int .i64 a0_3, .int .i64 a0_4, .int .i64 a0_5] 28 (0, 0)) (zn BK238) hb) (below_step zb26 hb) ?_; clear HO241 BK238 HB; intro HO241 BK238 HB; (try clear hb); (try clear hb2); (try clear hk); (try clear hi)) | (go_at_call 30; (with_reducible refine (spec_l1In.calls (l1.length : Int) 1 40 t243 _ A9.out).mono ?_); rintro e w' ⟨rfl, ⟨nd, rfl⟩⟩))
  go_meet
  case rel => exact ⟨_, (!t243), zs, H', ⟨zo⟩, ⟨zr HO241⟩, ⟨zn BK238⟩, ⟨zb26⟩⟩
 case rest =>
  clear HC3
  try clear c1
  try clear c2
  try clear p2
  try clear c7
  try clear c8
  try clear hcz10_0
  try clear hcz10_1
  try clear hcz10_2
  try clear hcz10_3
  try clear hcz10_4
  try clear hcz10_5
  try clear hcz12_0
  try clear hcz12_1
  try clear hcz12_2
  try clear hcz12_3
  try clear hcz12_4
  try clear hcz12_5
  try clear hfz10_0
  try clear hfz10_1
  try clear hfz10_2
  try clear hfz10_3
  try clear hfz10_4
  try clear hfz10_5
  try clear hfz12_0
  try clear hfz12_1
  try clear hfz12_2
  try clear hfz12_3
  try clear hfz12_4
  try clear hfz12_5
  obtain ⟨kq, x25_2, rfl, HA, HJ2, HO_6, BK238, HB⟩ := hcut
  cases kq with
  | zero => exact absurd HA.out (by simp [spec_Send.j0])
  | succ kj2 =>
   have H := HA.out
   clear HA
   simp only [spec_Send.j0] at H
   by_cases c14 : x25_2 = true
   case pos =>
    subst c14
    rw [if_pos rfl] at H
    simp only [Option.some.injEq, Prod.mk.injEq] at H
    obtain ⟨rfl, rfl⟩ := H
    go_wp2
    go_ret2
    exact ⟨_, zq, zr HO_6, zb26⟩
   replace c14 := Bool.eq_false_iff.mpr c14
   subst c14
   rw [if_neg zFT] at H
   replace H := zP H
   obtain ⟨⟨t244, t245⟩, A15, H⟩ := H
   dsimp only at H
   replace H := zP H
   obtain ⟨⟨t248, t249⟩, A16, H⟩ := H
   dsimp only at H
   replace H := zP H
   obtain ⟨⟨t252, t253⟩, A17, H⟩ := H
   dsimp only at H
   replace H := zP H
   obtain ⟨⟨t256, t257⟩, A18, H⟩ := H
   dsimp only at H
   replace H := zP H
   obtain ⟨⟨t260, t261⟩, A19, H⟩ := H
   dsimp only at H
   have H' := zM H
   clear H
   obtain ⟨hcz20_0, hcz20_1, hcz20_2, hcz20_3, hcz20_4, hcz20_5, hfz20_0, hfz20_1, hfz20_2, hfz20_3, hfz20_4, hfz20_5⟩ := zc6 BK238.out
   go_wp2_with (first | ((with_reducible refine gate_callee (f := 31) rfl ?_); refine goesL_ (some 31) rfl rfl Try.func31 ze rfl #[.slice A1 l1.length c1, .int .i64 a0_1] rfl zg ?_; (with_reducible refine (spec_RsCode.calls kj2 _ _ l1 a0_1 t244 t245 _ ?side1 ?side2 A15.out).mono ?_); (case side1 => exact zc (Kd.C_below HR1.out HB.out)); (case side2 => exact HC1.out); rintro e w21 ⟨v246, rfl, ho0, hb⟩; refine ⟨_, rfl, ?_⟩; refine zS4 (Kd.R_below (zr HO_6) hb) (Kd.R_lower ho0 (below_size zb26)) (zNb (g := gb238) (o := .cells #[.int .i64 a0_0, .int .i64 a0_1, .int .i64 a0_2, .int .i64 a0_3, .int .i64 a0_4, .int .i64 a0_5] 28 (0, 0)) (zn BK238) hb) (below_step zb26 hb) ?_; clear HO_6 BK238 HB; intro HO_6 HO247 BK238 HB; (try clear hb); (try clear hb2); (try clear hk); (try clear hi); (try clear ho0); obtain ⟨Ao22, co22, eo22⟩ := Kd.R_slice HO247.out; subst eo22) | ((with_reducible refine gate_callee (f := 32) rfl ?_); refine goesL_ (some 39) rfl rfl Try.func32 ze rfl #[.slice Ao22 t244.length co22, .int .i64 (wrap64 (8 * (t244.length : Int)))] rfl zg ?_; (with_reducible refine (spec_Unpack8.calls kj2 _ _ t244 (wrap64 (8 * (t244.length : Int))) t248 t249 _ ?side1 ?side2 A16.out).mono ?_); (case side1 => exact zc (Kd.R_reads' HO247.out).2.2); (case side2 => exact (Kd.R_reads' HO247.out).2.1); rintro e w23 ⟨v250, rfl, ho0, hb⟩; refine ⟨_, rfl, ?_⟩; refine zS5 (Kd.R_below (zr HO_6) hb) (Kd.R_below (zr HO247) hb) (Kd.R_lower ho0 (below_size zb26)) (zNb (g := gb238) (o := .cells #[.int .i64 a0_0, .int .i64 a0_1, .int .i64 a0_2, .int .i64 a0_3, .int .i64 a0_4, .int .i64 a0_5] 28 (0, 0)) (zn BK238) hb) (below_step zb26 hb) ?_; clear HO_6 HO247 BK238 HB; intro HO_6 HO247 HO251 BK238 HB; (try clear hb); (try clear hb2); (try clear hk); (try clear hi); (try clear ho0); obtain ⟨hcz24_0, hcz24_1, hcz24_2, hcz24_3, hcz24_4, hcz24_5, hfz24_0, hfz24_1, hfz24_2, hfz24_3, hfz24_4, hfz24_5⟩ := zc6 BK238.out; obtain ⟨Ao25, co25, eo25⟩ := Kd.R_slice HO251.out; subst eo25) | ((with_reducible refine gate_callee (f := 33) rfl ?_); refine goesL_ (some 46) rfl rfl Try.func33 ze rfl #[.slice Ao25 t248.length co25, .int .i64 a0_2] rfl zg ?_; (with_reducible refine (spec_Weave.calls kj2 _ _ t248 a0_2 t252 t253 _ ?side1 ?side2 A17.out).mono ?_); (case side1 => exact zc (Kd.R_reads' HO251.out).2.2); (case side2 => exact (Kd.R_reads' HO251.out).2.1); rintro e w26 ⟨v254, rfl, ho0, hb⟩; refine ⟨_, rfl, ?_⟩; refine zS6 (Kd.R_below (zr HO_6) hb) (Kd.R_below (zr HO247) hb) (Kd.R_elder' (zr HO251) (Kd.R_base ho0) hb) (Kd.R_lower (Kd.R_new' ho0 (Kd.R_lt (zr HO251))) (below_size zb26)) (zNb (g := gb238) (o := .cells #[.int .i64 a0_0, .int .i64 a0_1, .int .i64 a0_2, .int .i64 a0_3, .int .i64 a0_4, .int .i64 a0_5] 28 (0, 0)) (zn BK238) hb) (below_step zb26 hb) ?_; clear HO_6 HO247 HO251 BK238 HB; intro HO_6 HO247 HO251 HO255 BK238 HB; (try clear hb); (try clear hb2); (try clear hk); (try clear hi); (try clear ho0); obtain ⟨hcz27_0, hcz27_1, hcz27_2, hcz27_3, hcz27_4, hcz27_5, hfz27_0, hfz27_1, hfz27_2, hfz27_3, hfz27_4, hfz27_5⟩ := zc6 BK238.out; obtain ⟨Ao28, co28, eo28⟩ := Kd.R_slice HO255.out; subst eo28) | ((with_reducible refine gate_callee (f := 34) rfl ?_); refine goesL_ (some 53) rfl rfl Try.func34 ze rfl #[.slice Ao28 t252.length co28, .int .i64 46080, .int .i64 a0_3] rfl zg ?_; (with_reducible refine (spec_Stir.calls kj2 _ _ t252 46080 a0_3 t256 t257 _ ?side1 ?side2 A18.out).mono ?_); (case side1 => exact zc (Kd.R_reads' HO255.out).2.2); (case side2 => exact (Kd.R_reads' HO255.out).2.1); rintro e w29 ⟨v258, rfl, ho0, hb⟩; refine ⟨_, rfl, ?_⟩; refine zS7 (Kd.R_below (zr HO_6) hb) (Kd.R_below (zr HO247) hb) (Kd.R_elder' (zr HO251) (Kd.R_base ho0) hb) (Kd.R_elder' (zr HO255) (Kd.R_base ho0) hb) (Kd.R_lower (Kd.R_new' (Kd.R_new' ho0 (Kd.R_lt (zr HO251))) (Kd.R_lt (zr HO255))) (below_size zb26)) (zNb (g := gb238) (o := .cells #[.int .i64 a0_0, .int .i64 a0_1, .int .i64 a0_2, .int .i64 a0_3, .int .i64 a0_4, .int .i64 a0_5] 28 (0, 0)) (zn BK238) hb) (below_step zb26 hb) ?_; clear HO_6 HO247 HO251 HO255 BK238 HB; intro HO_6 HO247 HO251 HO255 HO259 BK238 HB; (try clear hb); (try clear hb2); (try clear hk); (try clear hi); (try clear ho0); obtain ⟨hcz30_0, hcz30_1, hcz30_2, hcz30_3, hcz30_4, hcz30_5, hfz30_0, hfz30_1, hfz30_2, hfz30_3, hfz30_4, hfz30_5⟩ := zc6 BK238.out; obtain ⟨Ao31, co31, eo31⟩ := Kd.R_slice HO259.out; subst eo31) | ((with_reducible refine gate_callee (f := 35) rfl ?_); refine goesL_ (some 60) rfl rfl Try.func35 ze rfl #[.int .i64 a0_0, .slice Ao31 t256.length co31] rfl zg ?_; (with_reducible refine (spec_Map.calls kj2 a0_0 _ _ t256 t260 t261 _ ?side1 ?side2 A19.out).mono ?_); (case side1 => exact zc (Kd.R_reads' HO259.out).2.2); (case side2 => exact (Kd.R_reads' HO259.out).2.1); rintro e w32 ⟨v262, rfl, ho0, hb⟩; refine ⟨_, rfl, ?_⟩; refine zS8 (Kd.R_elder' (zr HO_6) (Kd.R_base ho0) hb) (Kd.R_below (zr HO247) hb) (Kd.R_below (zr HO251) hb) (Kd.R_below (zr HO255) hb) (Kd.R_below (zr HO259) hb) (Kd.R_lower (Kd.R_new' ho0 (Kd.R_lt (zr HO_6))) (below_size zb26)) (zNb (g := gb238) (o := .cells #[.int .i64 a0_0, .int .i64 a0_1, .int .i64 a0_2, .int .i64 a0_3, .int .i64 a0_4, .int .i64 a0_5] 28 (0, 0)) (zn BK238) hb) (below_step zb26 hb) ?_; clear HO_6 HO247 HO251 HO255 HO259 BK238 HB; intro HO_6 HO247 HO251 HO255 HO259 HO263 BK238 HB; (try clear hb); (try clear hb2); (try clear hk); (try clear hi); (try clear ho0)))
   (try simp only [Act.put, zS1, zS2, zS3])
   go_loopg [6, 13] kj2 (fun kq v6 v13 w' => ∃ (x6_2 : List (S52)) (x13_2 : Int), v13 = .int .i64 x13_2 ∧ Aside0 (spec_Send.l0 kq x6_2 t260 x13_2 a0_0 a0_1 a0_2 a0_3 a0_4 a0_5 = some (r1, r2)) ∧ Aside0 (kq ≤ kj2) ∧ Aside0 (Kd.R k52 52 w' w.heap.size (fun k_ => some k_ ≠ (v262 : Value).ownBlock) v6 x6_2) ∧ Aside0 (Kd.R k52 52 w' w.heap.size (fun k_ => some k_ ≠ (v6 : Value).ownBlock) v262 t260) ∧ Aside0 (w'.heap[gb238]? = some (.cells #[.int .i64 a0_0, .int .i64 a0_1, .int .i64 a0_2, .int .i64 a0_3, .int .i64 a0_4, .int .i64 a0_5] 28 (0, 0))) ∧ Aside0 (Below w.heap.size w w'))
   case atStart => exact ⟨(y239), (0), zs, H', ⟨Nat.le_refl _⟩, ⟨by (with_reducible repeat (first | apply zRa | apply zRn | apply zRd)); first | exact Kd.R_mono HO_6.out (fun _ hk => hk.2) | (subst_vars; exact Kd.R_mono HO_6.out (fun _ hk => hk.2))⟩, ⟨by (with_reducible repeat (first | apply zRa | apply zRn | apply zRd)); first | exact Kd.R_mono HO263.out (fun _ hk => hk.2) | (subst_vars; exact Kd.R_mono HO263.out (fun _ hk => hk.2))⟩, ⟨zn BK238⟩, ⟨zb26⟩⟩
   case round =>
    clear H'
    try clear c1
    try clear c2
    try clear p2
    try clear c3
    try clear p6
    try clear c7
    try clear c8
    try clear c14
    try clear c29
    try clear c31
    try clear c32
    try clear hcz10_0
    try clear hcz10_1
    try clear hcz10_2
    try clear hcz10_3
    try clear hcz10_4
    try clear hcz10_5
    try clear hcz12_0
    try clear hcz12_1
    try clear hcz12_2
    try clear hcz12_3
    try clear hcz12_4
    try clear hcz12_5
    try clear hcz20_0
    try clear hcz20_1
    try clear hcz20_2
    try clear hcz20_3
    try clear hcz20_4
    try clear hcz20_5
    try clear hcz24_0
    try clear hcz24_1
    try clear hcz24_2
    try clear hcz24_3
    try clear hcz24_4
    try clear hcz24_5
    try clear hcz27_0
    try clear hcz27_1
    try clear hcz27_2
    try clear hcz27_3
    try clear hcz27_4
    try clear hcz27_5
    try clear hcz30_0
    try clear hcz30_1
    try clear hcz30_2
    try clear hcz30_3
    try clear hcz30_4
    try clear hcz30_5
    try clear hfz10_0
    try clear hfz10_1
    try clear hfz10_2
    try clear hfz10_3
    try clear hfz10_4
    try clear hfz10_5
    try clear hfz12_0
    try clear hfz12_1
    try clear hfz12_2
    try clear hfz12_3
    try clear hfz12_4
    try clear hfz12_5
    try clear hfz20_0
    try clear hfz20_1
    try clear hfz20_2
    try clear hfz20_3
    try clear hfz20_4
    try clear hfz20_5
    try clear hfz24_0
    try clear hfz24_1
    try clear hfz24_2
    try clear hfz24_3
    try clear hfz24_4
    try clear hfz24_5
    try clear hfz27_0
    try clear hfz27_1
    try clear hfz27_2
    try clear hfz27_3
    try clear hfz27_4
    try clear hfz27_5
    try clear hfz30_0
    try clear hfz30_1
    try clear hfz30_2
    try clear hfz30_3
    try clear hfz30_4
    try clear hfz30_5
    try clear p2
    obtain ⟨x6_2, x13_2, rfl, HA, HK2, HO_6, HO_11, BK238, HB⟩ := hrel
    cases gk with
    | zero => exact absurd HA.out (by simp [spec_Send.l0])
    | succ k2 =>
     have H := HA.out
     clear HA
     simp only [spec_Send.l0] at H
     replace H := zI2 H
     rcases H with ⟨c33, H⟩ | ⟨c33, H⟩
     case inl =>
      have c33b0 := zE c33
      clear c33
      replace H := zIM H
      obtain ⟨LMc34, H⟩ := H
      obtain ⟨y264, hy264⟩ : ∃ y_ : List (S52), y_ = (x6_2 ++ [(⟨wrap64 (32 * a0_5), 0⟩ : S52)]) := ⟨_, rfl⟩
      rw [← hy264] at H
      have Ny264 := zM hy264
      clear hy264
      have H' := zM H
      clear H
      obtain ⟨hcz35_0, hcz35_1, hcz35_2, hcz35_3, hcz35_4, hcz35_5, hfz35_0, hfz35_1, hfz35_2, hfz35_3, hfz35_4, hfz35_5⟩ := zc6 BK238.out
      go_wp2_with (first | ((with_reducible refine gate_builtin (b := .append) (xs := #[.tmp 69, .tmp 74]) rfl ?_); (try (refine gate_guard (by rfl) ?_; dsimp only)); at_builtin; refine Kd.R_append k52 (w0 := w) w.heap.size rfl (.tmp 69) (.tmp 74) 25 52 (.agg #[(.int .i64 0), (.int .i64 0)]) 16 rfl Try.underlying25 info52 rfl (by decide) (by omega) u6 x6_2 (⟨wrap64 (32 * a0_5), 0⟩ : S52) [.int .i64 (wrap64 (32 * a0_5)), .int .i64 0] (fun k_ => some k_ ≠ (v262 : Value).ownBlock) (fun _ => False) rfl rfl ?aP (fun _ hk => hk.elim) ?aF ?aO ?aB ?aS ?aL ?_; (case aP => exact k52_mkM _ _ _ (⟨wrap64 (32 * a0_5), 0⟩ : S52)); (case aB => exact zb26); (case aF => exact (fun k_ hk => Kd.fresh' (Kd.R_lt (zr HO_11)) k_ hk)); (case aO => exact (zr HO_6)); (case aS => exact (below_size zb26)); (case aL => have := LMc34.out; omega); intro v265 w36 ho hb hg hat; (first | rw [← Ny264.out] at ho | simp only [Int.reduceToNat, ← Ny264.out] at ho); refine zS4 (Kd.R_after (ok := (fun _ => True)) (by (with_reducible repeat (first | apply zRa | apply zRn | apply zRd)); first | exact Kd.R_mono HO_11.out (fun _ hk => ⟨trivial, hk⟩) | (subst_vars; exact Kd.R_mono HO_11.out (fun _ hk => ⟨trivial, hk⟩))) hg hat) (blk_grown (g := gb238) (o := .cells #[.int .i64 a0_0, .int .i64 a0_1, .int .i64 a0_2, .int .i64 a0_3, .int .i64 a0_4, .int .i64 a0_5] 28 (0, 0)) (zn BK238) hg (Kd.R_ne HO_6.out BK238.out (by decide))) (hb) (ho) ?_; clear HO_11 BK238 HB HO_6; intro HO_11 BK238 HB HO266; clear ho hb hg hat))
      go_roundg k2
      case measure => have := HJ2.out; have := HK2.out; omega
      case rel => exact ⟨(y264), (wrap64 (x13_2 + 1)), zs, H', ⟨zl2 HJ2 HK2⟩, ⟨zr HO266⟩, ⟨by (with_reducible repeat (first | apply zRa | apply zRn | apply zRd)); first | exact Kd.R_mono HO_11.out (fun _ hk => hk.2) | (subst_vars; exact Kd.R_mono HO_11.out (fun _ hk => hk.2))⟩, ⟨zn BK238⟩, ⟨zb26⟩⟩
     have c33b0 := decide_eq_false c33
     clear c33
     have H' := zM H
     clear H
     obtain ⟨hcz37_0, hcz37_1, hcz37_2, hcz37_3, hcz37_4, hcz37_5, hfz37_0, hfz37_1, hfz37_2, hfz37_3, hfz37_4, hfz37_5⟩ := zc6 BK238.out
     go_wp2
     (try simp only [Act.put, zS1, zS2, zS3])
     go_loopg [6, 14] k2 (fun kq v6 v14 w' => ∃ (x6_3 : List (S52)) (x14_3 : Int), v14 = .int .i64 x14_3 ∧ Aside0 (spec_Send.l1 kq x6_3 t260 x14_3 a0_0 a0_1 a0_2 a0_3 a0_4 a0_5 = some (r1, r2)) ∧ Aside0 (kq ≤ k2) ∧ Aside0 (Kd.R k52 52 w' w.heap.size (fun k_ => some k_ ≠ (v262 : Value).ownBlock) v6 x6_3) ∧ Aside0 (Kd.R k52 52 w' w.heap.size (fun k_ => some k_ ≠ (v6 : Value).ownBlock) v262 t260) ∧ Aside0 (w'.heap[gb238]? = some (.cells #[.int .i64 a0_0, .int .i64 a0_1, .int .i64 a0_2, .int .i64 a0_3, .int .i64 a0_4, .int .i64 a0_5] 28 (0, 0))) ∧ Aside0 (Below w.heap.size w w'))
     case atStart => exact ⟨(x6_2), (0), zs, H', ⟨Nat.le_refl _⟩, ⟨zr HO_6⟩, ⟨zr HO_11⟩, ⟨zn BK238⟩, ⟨zb26⟩⟩
     case round =>
      clear H'
      try clear c1
      try clear c2
      try clear p2
      try clear c3
      try clear p6
      try clear c7
      try clear c8
      try clear c14
      try clear c29
      try clear c31
      try clear c32
      try clear c33
      try clear c33b0
      try clear c34
      try clear c35
      try clear hcz10_0
      try clear hcz10_1
      try clear hcz10_2
      try clear hcz10_3
      try clear hcz10_4
      try clear hcz10_5
      try clear hcz12_0
      try clear hcz12_1
      try clear hcz12_2
      try clear hcz12_3
      try clear hcz12_4
      try clear hcz12_5
      try clear hcz20_0
      try clear hcz20_1
      try clear hcz20_2
      try clear hcz20_3
      try clear hcz20_4
      try clear hcz20_5
      try clear hcz24_0
      try clear hcz24_1
      try clear hcz24_2
      try clear hcz24_3
      try clear hcz24_4
      try clear hcz24_5
      try clear hcz27_0
      try clear hcz27_1
      try clear hcz27_2
      try clear hcz27_3
      try clear hcz27_4
      try clear hcz27_5
      try clear hcz30_0
      try clear hcz30_1
      try clear hcz30_2
      try clear hcz30_3
      try clear hcz30_4
      try clear hcz30_5
      try clear hcz35_0
      try clear hcz35_1
      try clear hcz35_2
      try clear hcz35_3
      try clear hcz35_4
      try clear hcz35_5
      try clear hcz37_0
      try clear hcz37_1
      try clear hcz37_2
      try clear hcz37_3
      try clear hcz37_4
      try clear hcz37_5
      try clear hfz10_0
      try clear hfz10_1
      try clear hfz10_2
      try clear hfz10_3
      try clear hfz10_4
      try clear hfz10_5
      try clear hfz12_0
      try clear hfz12_1
      try clear hfz12_2
      try clear hfz12_3
      try clear hfz12_4
      try clear hfz12_5
      try clear hfz20_0
      try clear hfz20_1
      try clear hfz20_2
      try clear hfz20_3
      try clear hfz20_4
      try clear hfz20_5
      try clear hfz24_0
      try clear hfz24_1
      try clear hfz24_2
      try clear hfz24_3
      try clear hfz24_4
      try clear hfz24_5
      try clear hfz27_0
      try clear hfz27_1
      try clear hfz27_2
      try clear hfz27_3
      try clear hfz27_4
      try clear hfz27_5
      try clear hfz30_0
      try clear hfz30_1
      try clear hfz30_2
      try clear hfz30_3
      try clear hfz30_4
      try clear hfz30_5
      try clear hfz35_0
      try clear hfz35_1
      try clear hfz35_2
      try clear hfz35_3
      try clear hfz35_4
      try clear hfz35_5
      try clear hfz37_0
      try clear hfz37_1
      try clear hfz37_2
      try clear hfz37_3
      try clear hfz37_4
      try clear hfz37_5
      try clear p2
      try clear p6
      obtain ⟨x6_3, x14_3, rfl, HA, HK3, HO_6, HO_11, BK238, HB⟩ := hrel
      cases gk with
      | zero => exact absurd HA.out (by simp [spec_Send.l1])
      | succ k3 =>
       have H := HA.out
       clear HA
       simp only [spec_Send.l1] at H
       replace H := zI2 H
       rcases H with ⟨c38, H⟩ | ⟨c38, H⟩
       case inr =>
        have c38b0 := decide_eq_false c38
        clear c38
        simp only [Option.some.injEq, Prod.mk.injEq] at H
        obtain ⟨rfl, rfl⟩ := H
        obtain ⟨Ao48, co48, eo48⟩ := Kd.R_slice HO_11.out
        subst eo48
        go_wp2
        go_ret2
        exact ⟨_, zq, by (with_reducible repeat (first | apply zRa | apply zRn | apply zRd)); first | exact Kd.R_mono HO_6.out (fun _ hk => trivial) | (subst_vars; exact Kd.R_mono HO_6.out (fun _ hk => trivial)), zb26⟩
       have c38b0 := zE c38
       clear c38
       have H' := zM H
       clear H
       obtain ⟨Ao39, co39, eo39⟩ := Kd.R_slice HO_11.out
       subst eo39
       go_wp2
       (try simp only [Act.put, zS1, zS2, zS3])
       go_loopg [6, 15] k3 (fun kq v6 v15 w' => ∃ (x6_4 : List (S52)) (x15_4 : Int), v15 = .int .i64 x15_4 ∧ Aside0 (spec_Send.l2 kq x6_4 t260 x14_3 x15_4 a0_0 a0_1 a0_2 a0_3 a0_4 a0_5 = some (r1, r2)) ∧ Aside0 (kq ≤ k3) ∧ Aside0 (Kd.R k52 52 w' w.heap.size (fun k_ => some k_ ≠ ((.slice Ao39 t260.length co39) : Value).ownBlock) v6 x6_4) ∧ Aside0 (Kd.R k52 52 w' w.heap.size (fun k_ => some k_ ≠ (v6 : Value).ownBlock) (.slice Ao39 t260.length co39) t260) ∧ Aside0 (w'.heap[gb238]? = some (.cells #[.int .i64 a0_0, .int .i64 a0_1, .int .i64 a0_2, .int .i64 a0_3, .int .i64 a0_4, .int .i64 a0_5] 28 (0, 0))) ∧ Aside0 (Below w.heap.size w w'))
       case atStart => exact ⟨(x6_3), (0), zs, H', ⟨Nat.le_refl _⟩, ⟨zr HO_6⟩, ⟨zr HO_11⟩, ⟨zn BK238⟩, ⟨zb26⟩⟩
       case round =>
        clear H'
        try clear c1
        try clear c2
        try clear p2
        try clear c3
        try clear p6
        try clear c7
        try clear c8
        try clear c14
        try clear c29
        try clear c31
        try clear c32
        try clear c33
        try clear c33b0
        try clear c34
        try clear c35
        try clear c38
        try clear c38b0
        try clear hcz10_0
        try clear hcz10_1
        try clear hcz10_2
        try clear hcz10_3
        try clear hcz10_4
        try clear hcz10_5
        try clear hcz12_0
        try clear hcz12_1
        try clear hcz12_2
        try clear hcz12_3
        try clear hcz12_4
        try clear hcz12_5
        try clear hcz20_0
        try clear hcz20_1
        try clear hcz20_2
        try clear hcz20_3
        try clear hcz20_4
        try clear hcz20_5
        try clear hcz24_0
        try clear hcz24_1
        try clear hcz24_2
        try clear hcz24_3
        try clear hcz24_4
        try clear hcz24_5
        try clear hcz27_0
        try clear hcz27_1
        try clear hcz27_2
        try clear hcz27_3
        try clear hcz27_4
        try clear hcz27_5
        try clear hcz30_0
        try clear hcz30_1
        try clear hcz30_2
        try clear hcz30_3
        try clear hcz30_4
        try clear hcz30_5
        try clear hcz35_0
        try clear hcz35_1
        try clear hcz35_2
        try clear hcz35_3
        try clear hcz35_4
        try clear hcz35_5
        try clear hcz37_0
        try clear hcz37_1
        try clear hcz37_2
        try clear hcz37_3
        try clear hcz37_4
        try clear hcz37_5
        try clear hfz10_0
        try clear hfz10_1
        try clear hfz10_2
        try clear hfz10_3
        try clear hfz10_4
        try clear hfz10_5
        try clear hfz12_0
        try clear hfz12_1
        try clear hfz12_2
        try clear hfz12_3
        try clear hfz12_4
        try clear hfz12_5
        try clear hfz20_0
        try clear hfz20_1
        try clear hfz20_2
        try clear hfz20_3
        try clear hfz20_4
        try clear hfz20_5
        try clear hfz24_0
        try clear hfz24_1
        try clear hfz24_2
        try clear hfz24_3
        try clear hfz24_4
        try clear hfz24_5
        try clear hfz27_0
        try clear hfz27_1
        try clear hfz27_2
        try clear hfz27_3
        try clear hfz27_4
        try clear hfz27_5
        try clear hfz30_0
        try clear hfz30_1
        try clear hfz30_2
        try clear hfz30_3
        try clear hfz30_4
        try clear hfz30_5
        try clear hfz35_0
        try clear hfz35_1
        try clear hfz35_2
        try clear hfz35_3
        try clear hfz35_4
        try clear hfz35_5
        try clear hfz37_0
        try clear hfz37_1
        try clear hfz37_2
        try clear hfz37_3
        try clear hfz37_4
        try clear hfz37_5
        try clear p2
        try clear p6
        obtain ⟨x6_4, x15_4, rfl, HA, HK4, HO_6, HO_11, BK238, HB⟩ := hrel
        cases gk with
        | zero => exact absurd HA.out (by simp [spec_Send.l2])
        | succ k4 =>
         have H := HA.out
         clear HA
         simp only [spec_Send.l2] at H
         replace H := zI2 H
         rcases H with ⟨c40, H⟩ | ⟨c40, H⟩
         case inr =>
          have c40b0 := decide_eq_false c40
          clear c40
          have H' := zM H
          clear H
          obtain ⟨hcz47_0, hcz47_1, hcz47_2, hcz47_3, hcz47_4, hcz47_5, hfz47_0, hfz47_1, hfz47_2, hfz47_3, hfz47_4, hfz47_5⟩ := zc6 BK238.out
          go_wp2
          go_roundg k4
          case measure => have := HJ2.out; have := HK2.out; have := HK3.out; have := HK4.out; omega
          case rel => exact ⟨(x6_4), (wrap64 (x14_3 + 1)), zs, H', ⟨by have := HJ2.out; have := HK2.out; have := HK3.out; have := HK4.out; omega⟩, ⟨zr HO_6⟩, ⟨zr HO_11⟩, ⟨zn BK238⟩, ⟨zb26⟩⟩
         have c40b0 := zE c40
         clear c40
         replace H := zID H
         obtain ⟨c41b0, H⟩ := H
         replace H := zID H
         obtain ⟨c42b0, H⟩ := H
         replace H := zIM H
         obtain ⟨LMc43, H⟩ := H
         obtain ⟨y269, hy269⟩ : ∃ y_ : List (S52), y_ = (x6_4 ++ [(⟨wrap64 (((rd_T52 t260 x14_3).f0) * a0_5), wrap64 (((rd_T52 t260 x14_3).f1) * a0_5)⟩ : S52)]) := ⟨_, rfl⟩
         rw [← hy269] at H
         have Ny269 := zM hy269
         clear hy269
         have H' := zM H
         clear H
         obtain ⟨hcz44_0, hcz44_1, hcz44_2, hcz44_3, hcz44_4, hcz44_5, hfz44_0, hfz44_1, hfz44_2, hfz44_3, hfz44_4, hfz44_5⟩ := zc6 BK238.out
         try go_wp2
         refine zS4 (zRd HO_6.out) (zRd HO_11.out) (zNd BK238.out) (zBd HB.out) ?_
         clear HO_6 HO_11 BK238 HB
         intro HO_6 HO_11 BK238 HB
         have p267 : 0 ≤ (x14_3 : Int) := zT (by assumption)
         have q267 : x14_3 < (t260.length : Int) := zT (by assumption)
         obtain ⟨ad267, e267, hx267_0, hx267_1⟩ := at_T52 (Kd.R_reads' HO_11.out).2.2 x14_3 p267 q267
         cases e267
         replace p267 := eq_true p267
         replace q267 := eq_true q267
         have p268 : 0 ≤ (x14_3 : Int) := zT (by assumption)
         have q268 : x14_3 < (t260.length : Int) := zT (by assumption)
         obtain ⟨ad268, e268, hx268_0, hx268_1⟩ := at_T52 (Kd.R_reads' HO_11.out).2.2 x14_3 p268 q268
         obtain rfl : ad267 = ad268 := (by injection e268)
         replace p268 := eq_true p268
         replace q268 := eq_true q268
         refine start_ (n := 21) (S := fun w' => w'.cell? ⟨gb238, 0, none⟩ = some (.int .i64 a0_0) ∧ w'.cell? ⟨gb238, 1, none⟩ = some (.int .i64 a0_1) ∧ w'.cell? ⟨gb238, 2, none⟩ = some (.int .i64 a0_2) ∧ w'.cell? ⟨gb238, 3, none⟩ = some (.int .i64 a0_3) ∧ w'.cell? ⟨gb238, 4, none⟩ = some (.int .i64 a0_4) ∧ w'.cell? ⟨gb238, 5, none⟩ = some (.int .i64 a0_5) ∧ w'.cell? (ad267.add ((x14_3).toNat * 2)) = some (.int .i64 ((rd_T52 t260 x14_3).f0)) ∧ w'.cell? ⟨(ad267.add ((x14_3).toNat * 2)).block, (ad267.add ((x14_3).toNat * 2)).off + 1, none⟩ = some (.int .i64 ((rd_T52 t260 x14_3).f1)) ∧ w'.cell? (ad267.add ((x14_3).toNat * 2)) = some (.int .i64 ((rd_T52 t260 x14_3).f0)) ∧ w'.cell? ⟨(ad267.add ((x14_3).toNat * 2)).block, (ad267.add ((x14_3).toNat * 2)).off + 1, none⟩ = some (.int .i64 ((rd_T52 t260 x14_3).f1))) (ds := [18, 19]) #[zf,zf,zf,zf,zf,zf,zf,zf,zf,zf,zf,zf,zf,zf,zf,zf,zf,zf,zf,zf,zf] ze rfl rfl ⟨(blk_cell BK238.out 0).trans rfl, (blk_cell BK238.out 1).trans rfl, (blk_cell BK238.out 2).trans rfl, (blk_cell BK238.out 3).trans rfl, (blk_cell BK238.out 4).trans rfl, (blk_cell BK238.out 5).trans rfl, hx267_0, hx267_1, hx268_0, hx268_1⟩ (fun hHeld => ?_); refine with_tabW spec_Send.tab19 spec_Send.bits19 (fun HT_ HW_ => ?_)
         generalize wr.drew = w45 at HO_6 HO_11 BK238 HB hx267_0 hx267_1 hx268_0 hx268_1 hHeld ⊢
         refine pure_ (i := 0) (N := some 88) #[zt,zf,zf,zf,zf,zf,zf,zf,zf,zf,zf,zf,zf,zf,zf,zf,zf,zf,zf,zf,zf] rfl rfl (any_of HT_.out ze) (fun _ _ _ h => h) (Or.inl ⟨by rfl, zv⟩) za ?_
         refine pure_ (i := 1) (N := some 89) #[zt,zt,zf,zf,zf,zf,zf,zf,zf,zf,zf,zf,zf,zf,zf,zf,zf,zf,zf,zf,zf] rfl rfl (any_of HT_.out ze) (fun _ _ _ h => h) (Or.inl ⟨by rfl, zv⟩) za ?_
         refine pure_ (i := 2) (N := some 90) #[zt,zt,zt,zf,zf,zf,zf,zf,zf,zf,zf,zf,zf,zf,zf,zf,zf,zf,zf,zf,zf] rfl rfl (any_of HT_.out ze) (fun _ _ _ h => h) (Or.inl ⟨by rfl, zv⟩) za ?_
         refine pure_ (i := 3) (N := some 91) #[zt,zt,zt,zt,zf,zf,zf,zf,zf,zf,zf,zf,zf,zf,zf,zf,zf,zf,zf,zf,zf] rfl rfl (any_of HT_.out ze) (fun _ _ _ h => h) (Or.inl ⟨by rfl, zv⟩) za ?_
         refine pure_ (i := 4) (N := some 92) #[zt,zt,zt,zt,zt,zf,zf,zf,zf,zf,zf,zf,zf,zf,zf,zf,zf,zf,zf,zf,zf] rfl rfl (any_of HT_.out ze) (fun _ _ _ h => h) (Or.inl ⟨by rfl, zv⟩) za ?_
         refine pure_ (i := 6) (N := some 94) #[zt,zt,zt,zt,zt,zf,zt,zf,zf,zf,zf,zf,zf,zf,zf,zf,zf,zf,zf,zf,zf] rfl rfl (any_of HT_.out ze) (fun _ _ _ h => h) (Or.inl ⟨by rfl, zv⟩) za ?_
         refine pure_ (i := 9) (N := some 97) #[zt,zt,zt,zt,zt,zf,zt,zf,zf,zt,zf,zf,zf,zf,zf,zf,zf,zf,zf,zf,zf] rfl rfl (any_of HT_.out ze) (fun _ _ _ h => h) (Or.inl ⟨by rfl, zv⟩) za ?_
         refine pure_ (i := 10) (N := some 98) #[zt,zt,zt,zt,zt,zf,zt,zf,zf,zt,zt,zf,zf,zf,zf,zf,zf,zf,zf,zf,zf] rfl rfl (any_of HT_.out ze) (fun _ _ _ h => h) (Or.inl ⟨by rfl, zv⟩) za ?_
         refine pure_ (i := 11) (N := some 99) #[zt,zt,zt,zt,zt,zf,zt,zf,zf,zt,zt,zt,zf,zf,zf,zf,zf,zf,zf,zf,zf] rfl rfl (any_of HT_.out ze) (fun _ _ _ h => h) (Or.inl ⟨by rfl, zv⟩) za ?_
         refine pure_ (i := 12) (N := some 100) #[zt,zt,zt,zt,zt,zf,zt,zf,zf,zt,zt,zt,zt,zf,zf,zf,zf,zf,zf,zf,zf] rfl rfl (any_of HT_.out ze) (fun _ _ _ h => h) (Or.inl ⟨by rfl, zv⟩) za ?_
         refine pure_ (i := 14) (N := some 102) #[zt,zt,zt,zt,zt,zf,zt,zf,zf,zt,zt,zt,zt,zf,zt,zf,zf,zf,zf,zf,zf] rfl rfl (any_of HT_.out ze) (fun _ _ _ h => h) (Or.inl ⟨by rfl, zv⟩) za ?_
         refine take_ (i := 5) (N := some 93) #[zt,zt,zt,zt,zt,zt,zt,zf,zf,zt,zt,zt,zt,zf,zt,zf,zf,zf,zf,zf,zf] rfl rfl (take_ofW HT_.out HW_.out ze) (fun _ _ _ h => h) (Or.inl ⟨by rfl, zv10⟩) hHeld za ?_
         refine take_ (i := 7) (N := some 95) #[zt,zt,zt,zt,zt,zt,zt,zt,zf,zt,zt,zt,zt,zf,zt,zf,zf,zf,zf,zf,zf] rfl rfl (take_ofW HT_.out HW_.out ze) (fun _ _ _ h => h) (Or.inl ⟨by rfl, zv10⟩) hHeld za ?_
         refine pure_ (i := 8) (N := some 96) #[zt,zt,zt,zt,zt,zt,zt,zt,zt,zt,zt,zt,zt,zf,zt,zf,zf,zf,zf,zf,zf] rfl rfl (any_of HT_.out ze) (fun _ _ _ h => h) (Or.inl ⟨by rfl, zv⟩) za ?_
         refine take_ (i := 13) (N := some 101) #[zt,zt,zt,zt,zt,zt,zt,zt,zt,zt,zt,zt,zt,zt,zt,zf,zf,zf,zf,zf,zf] rfl rfl (take_ofW HT_.out HW_.out ze) (fun _ _ _ h => h) (Or.inl ⟨by rfl, zv10⟩) hHeld za ?_
         refine take_ (i := 15) (N := some 103) #[zt,zt,zt,zt,zt,zt,zt,zt,zt,zt,zt,zt,zt,zt,zt,zt,zf,zf,zf,zf,zf] rfl rfl (take_ofW HT_.out HW_.out ze) (fun _ _ _ h => h) (Or.inl ⟨by rfl, zv10⟩) hHeld za ?_
         refine pure_ (i := 16) (N := some 104) #[zt,zt,zt,zt,zt,zt,zt,zt,zt,zt,zt,zt,zt,zt,zt,zt,zt,zf,zf,zf,zf] rfl rfl (any_of HT_.out ze) (fun _ _ _ h => h) (Or.inl ⟨by rfl, zv⟩) za ?_
         refine pure_ (i := 17) (N := some 105) #[zt,zt,zt,zt,zt,zt,zt,zt,zt,zt,zt,zt,zt,zt,zt,zt,zt,zt,zf,zf,zf] rfl rfl (any_of HT_.out ze) (fun _ _ _ h => h) (Or.inl ⟨by rfl, zv⟩) za ?_
         refine last_ (i := 18) (N := some 106) #[zt,zt,zt,zt,zt,zt,zt,zt,zt,zt,zt,zt,zt,zt,zt,zt,zt,zt,zt,zf,zf] rfl rfl (one_of HT_.out ze) (by decide) (fun K hK => ?_)
         refine value_ (w1 := ?_) (v := ?_) (by rfl) rfl ?_ ?_
         rotate_left 2
         ·go_simp
          constructor
          ·rfl
          ·rfl
         refine hK.out _ _ ?_
         clear hK K
         refine norm_ (a' := ?_) ?_ ?_
         rotate_left
         ·show Act.put _ (some 106) _ = _
          simp only [Act.put, zS1, zS2, zS3, i64_w, i32_w]
          rfl
         refine last_ (i := 19) (N := some 107) #[zt,zt,zt,zt,zt,zt,zt,zt,zt,zt,zt,zt,zt,zt,zt,zt,zt,zt,zt,zt,zf] rfl rfl (one_of HT_.out ze) (by decide) (fun K hK => ?_)
         refine Kd.R_append_step k52 (w0 := w) w.heap.size (by rfl) (.tmp 88) (.tmp 106) 25 52 (.agg #[(.int .i64 0), (.int .i64 0)]) 16 rfl Try.underlying25 info52 rfl (by decide) (by omega) u6 x6_4 (⟨wrap64 (((rd_T52 t260 x14_3).f0) * a0_5), wrap64 (((rd_T52 t260 x14_3).f1) * a0_5)⟩ : S52) [.int .i64 (wrap64 (((rd_T52 t260 x14_3).f0) * a0_5)), .int .i64 (wrap64 (((rd_T52 t260 x14_3).f1) * a0_5))] (fun k_ => some k_ ≠ (.slice (some ad267) t260.length co39 : Value).ownBlock) (fun _ => False) rfl rfl ?aP (fun _ hk => hk.elim) ?aF ?aO ?aB ?aS ?aL ?_
         (case aP => exact k52_mkM _ _ _ (⟨wrap64 (((rd_T52 t260 x14_3).f0) * a0_5), wrap64 (((rd_T52 t260 x14_3).f1) * a0_5)⟩ : S52))
         (case aB => exact zb26)
         (case aF => exact (fun k_ hk => Kd.fresh' (Kd.R_lt (zr HO_11)) k_ hk))
         (case aO => exact (zr HO_6))
         (case aS => exact (below_size zb26))
         (case aL => have := LMc43.out; omega)
         intro v270 w46 ho hb hg hat
         (first | rw [← Ny269.out] at ho | simp only [Int.reduceToNat, ← Ny269.out] at ho)
         refine zS4 (Kd.R_after (ok := (fun _ => True)) (by (with_reducible repeat (first | apply zRa | apply zRn | apply zRd)); first | exact Kd.R_mono HO_11.out (fun _ hk => ⟨trivial, hk⟩) | (subst_vars; exact Kd.R_mono HO_11.out (fun _ hk => ⟨trivial, hk⟩))) hg hat) (blk_grown (g := gb238) (o := .cells #[.int .i64 a0_0, .int .i64 a0_1, .int .i64 a0_2, .int .i64 a0_3, .int .i64 a0_4, .int .i64 a0_5] 28 (0, 0)) (zn BK238) hg (Kd.R_ne HO_6.out BK238.out (by decide))) (hb) (ho) ?_
         clear HO_11 BK238 HB HO_6
         intro HO_11 BK238 HB HO271
         clear ho hb hg hat
         refine hK.out _ _ ?_
         clear hK K
         refine norm_ (a' := ?_) ?_ ?_
         rotate_left
         ·show Act.put _ (some 107) _ = _
          simp only [Act.put, zS1, zS2, zS3, i64_w, i32_w]
          rfl
         refine pure_ (i := 20) (N := some 6) #[zt,zt,zt,zt,zt,zt,zt,zt,zt,zt,zt,zt,zt,zt,zt,zt,zt,zt,zt,zt,zt] rfl rfl (any_of HT_.out ze) (fun _ _ _ h => h) (Or.inl ⟨by rfl, zv⟩) za ?_
         refine done_ (done_of HT_.out ze) ?_
         try go_wp2
         go_roundg k4
         case measure => have := HJ2.out; have := HK2.out; have := HK3.out; have := HK4.out; omega
         case rel => exact ⟨(y269), (wrap64 (x15_4 + 1)), zs, H', ⟨by have := HJ2.out; have := HK2.out; have := HK3.out; have := HK4.out; omega⟩, ⟨zr HO271⟩, ⟨by (with_reducible repeat (first | apply zRa | apply zRn | apply zRd)); first | exact Kd.R_mono HO_11.out (fun _ hk => hk.2) | (subst_vars; exact Kd.R_mono HO_11.out (fun _ hk => hk.2))⟩, ⟨zn BK238⟩, ⟨zb26⟩⟩
end Go.Proofs.Ytapobpkeefeajaa.PFnClean
