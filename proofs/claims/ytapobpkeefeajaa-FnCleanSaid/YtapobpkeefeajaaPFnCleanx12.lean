-- A turned copy of the print's text.
import Derived.Test.YtapobpkeefeajaaPFnCleanx0
import Derived.Test.YtapobpkeefeajaaPFnCleanx7
import Derived.Test.YtapobpkeefeajaaPFnCleanx8
import Derived.Test.YtapobpkeefeajaaPFnCleanx9
import Derived.Test.YtapobpkeefeajaaPFnCleanx10
import Derived.Test.YtapobpkeefeajaaPFnCleanx11
namespace Go.Proofs.Ytapobpkeefeajaa.PFnClean
open Go.RowKit Go.Proofs.YtapobpkeefeajaaW.PrintWords Go.Proofs.YtapobpkeefeajaaW.PrintLast Go.Proofs.YtapobpkeefeajaaW.PrintMore
attribute [local go_sem] max2_int min2_int max_two min_two max_three min_three max_four min_four
set_option maxHeartbeats 8000000
set_option maxRecDepth 100000
set_option linter.unusedVariables false
set_option linter.unusedSimpArgs false
mutual
def impl_Send.j0 : Nat → List Int → Bool → Int → Int → Int → Int → Int → Int → Option ((List (S52)) × Bool)
 | 0, _, _, _, _, _, _, _, _ => none
 | k + 1, x1, x23, x307000, x307001, x307002, x307003, x307004, x307005 => if x23 = true then (some (([] : List (S52)), false)) else ((impl_RsCode.f k x1 x307001).bind fun bt309 => ((impl_unpack8.f k bt309.1).bind fun t313 => ((impl_Weave.f k t313 x307002).bind fun bt316 => ((impl_Stir.f k bt316.1 46080 x307003).bind fun bt320 => ((impl_Map.f k x307000 bt320.1).bind fun bt324 => ((impl_Point_43.f (([(⟨wrap64 (32 * x307005), 0⟩ : S52)] : List (S52))) x307004).bind fun t331 => (impl_Send.l0 k t331 bt324.1 (bt324.1.length : Int) 0 x307000 x307001 x307002 x307003 x307004 x307005)))))))
def impl_Send.l0 : Nat → List (S52) → List (S52) → Int → Int → Int → Int → Int → Int → Int → Int → Option ((List (S52)) × Bool)
 | 0, _, _, _, _, _, _, _, _, _, _ => none
 | k + 1, x12, x51, x62, x63, x307000, x307001, x307002, x307003, x307004, x307005 => if x63 < x62 then (if 0 ≤ x63 then (if x63 < (x51.length : Int) then ((impl_Point_43.f (([(⟨wrap64 (((rd_T52 x51 x63).f0) * x307005), wrap64 (((rd_T52 x51 x63).f1) * x307005)⟩ : S52)] : List (S52))) x307004).bind fun t339 => (if x12.length + t339.length < 8796093022208 then (impl_Send.l0 k (x12 ++ t339) x51 x62 (wrap64 (x63 + 1)) x307000 x307001 x307002 x307003 x307004 x307005) else (none))) else (none)) else (none)) else (some (x12, true))
end
def impl_Send.f (k : Nat) (a0_0 : Int) (a0_1 : Int) (a0_2 : Int) (a0_3 : Int) (a0_4 : Int) (a0_5 : Int) (l1 : List Int) : Option ((List (S52)) × Bool) := (impl_ModemOk.f a0_0 a0_1 a0_2 a0_3 a0_4 a0_5).bind fun t307 => (if t307 = true then ((impl_sentOk.f (l1.length : Int)).bind fun t308 => (impl_Send.j0 k l1 (!t308) a0_0 a0_1 a0_2 a0_3 a0_4 a0_5)) else (impl_Send.j0 k l1 true a0_0 a0_1 a0_2 a0_3 a0_4 a0_5))
def impl_Send.T4 : Bool × List (List Nat × List Nat) := (true, [([], []), ([0], [0]), ([], []), ([2], [2]), ([1, 3, 1], [1, 3]), ([4], [4]), ([5], [5]), ([5], [5]), ([6, 4, 0, 1, 2, 3, 4, 5, 6], [6]), ([7, 8, 0, 1, 2, 3, 4, 5, 6, 7, 8], [7])])
def impl_Send.B4 : List Nat := [0, 1, 0, 4, 15, 31, 63, 63, 127, 511]
theorem impl_Send.tab4 : rtab .any (opsOf Try.f10 4) = impl_Send.T4 := by kernel_rfl
theorem impl_Send.bits4 : waitsOk impl_Send.T4.2 impl_Send.B4 = true := by kernel_rfl
theorem impl_Send.calls (k : Nat) (a0_0 : Int) (a0_1 : Int) (a0_2 : Int) (a0_3 : Int) (a0_4 : Int) (a0_5 : Int) (A1 : Option Addr) (c1 : Nat) (l1 : List Int) (r1 : List (S52)) (r2 : Bool) (w : World) (hr1 : Kd.C (Kd.int .u8) w A1 l1.length l1) (hc1 : l1.length ≤ c1) (H : impl_Send.f k a0_0 a0_1 a0_2 a0_3 a0_4 a0_5 l1 = some (r1, r2)) :
 Calls Try.prog 10 #[.agg #[.int .i64 a0_0, .int .i64 a0_1, .int .i64 a0_2, .int .i64 a0_3, .int .i64 a0_4, .int .i64 a0_5], .slice A1 l1.length c1] w fun e w' => ∃ v0_ : Value, e = .returned (.tuple #[v0_, .bool r2]) ∧ Kd.R k52 52 w' w.heap.size (fun _ => True) v0_ r1 ∧ Below w.heap.size w w' := by
 have hu28 := Try.underlying28
 have hu52 := Try.underlying52
 have HR1 := zM hr1
 have HC1 := zM hc1
 clear hr1 hc1
 have HB := zM (Below.refl w.heap.size w)
 unfold impl_Send.f at H
 have HC3 := zM H
 clear H
 go_enter Try.func10, Try.ntmps10
 go_upto_region 1 with (first | ((with_reducible refine gate_dst (N := 2) rfl ?_); (try (refine gate_guard (by rfl) ?_; dsimp only)); refine box_event ?hg (N := 2) ?hd (cs := #[.int .i64 a0_0, .int .i64 a0_1, .int .i64 a0_2, .int .i64 a0_3, .int .i64 a0_4, .int .i64 a0_5]) (t := 28) ?hr ?_; (case hd | hg => rfl); (case hr => exact zh); intro gb306 hg w4 hbox hb; have n0_ := zM (below_step zb hb); have n1_ := zM (hbox); have n2_ := zM ((zw hg (below_size zb))); have n3_ := zM n2_.out; clear HB; have HB := n0_; have BK306 := n1_; have GW306 := n2_; have GE306 := n3_; clear n0_ n1_ n2_ n3_; clear hb hbox hg))
 (try simp only [Act.put, zS1, zS2, zS3])
 go_cut [23] (fun v23 wc => ∃ (kq : Nat) (x23_2 : Bool), v23 = .bool x23_2 ∧ Aside0 (impl_Send.j0 kq l1 x23_2 a0_0 a0_1 a0_2 a0_3 a0_4 a0_5 = some (r1, r2)) ∧ Aside0 (kq ≤ k) ∧ Aside0 (wc.heap[gb306]? = some (.cells #[.int .i64 a0_0, .int .i64 a0_1, .int .i64 a0_2, .int .i64 a0_3, .int .i64 a0_4, .int .i64 a0_5] 28 (0, 0))) ∧ Aside0 (Below w.heap.size w wc))
 case first =>
  have H := HC3.out
  clear HC3
  replace H := zP H
  obtain ⟨t307, A5, H⟩ := H
  by_cases c6 : t307 = true
  case neg =>
   replace c6 := Bool.eq_false_iff.mpr c6
   subst c6
   rw [if_neg zFT] at H
   have H' := zM H
   clear H
   obtain ⟨hcz10_0, hcz10_1, hcz10_2, hcz10_3, hcz10_4, hcz10_5, hfz10_0, hfz10_1, hfz10_2, hfz10_3, hfz10_4, hfz10_5⟩ := zc6 BK306.out
   go_wp2_with (first | ((with_reducible refine gate_callee (f := 36) rfl ?_); refine goesL_ (some 16) rfl rfl Try.func36 ze rfl #[.agg #[.int .i64 a0_0, .int .i64 a0_1, .int .i64 a0_2, .int .i64 a0_3, .int .i64 a0_4, .int .i64 a0_5]] rfl zg ?_; (with_reducible refine (impl_ModemOk.calls a0_0 a0_1 a0_2 a0_3 a0_4 a0_5 false _ A5.out).mono ?_); rintro e w11 ⟨rfl, hb⟩; refine ⟨_, rfl, ?_⟩; refine zS2 (zNb (g := gb306) (o := .cells #[.int .i64 a0_0, .int .i64 a0_1, .int .i64 a0_2, .int .i64 a0_3, .int .i64 a0_4, .int .i64 a0_5] 28 (0, 0)) (zn BK306) hb) (below_step zb2 hb) ?_; clear BK306 HB; intro BK306 HB; (try clear hb); (try clear hb2); (try clear hk); (try clear hi)))
   go_meet
   case rel => exact ⟨_, (true), zs, H', ⟨zo⟩, ⟨zn BK306⟩, ⟨zb2⟩⟩
  subst c6
  rw [if_pos rfl] at H
  replace H := zP H
  obtain ⟨t308, A7, H⟩ := H
  have H' := zM H
  clear H
  obtain ⟨hcz8_0, hcz8_1, hcz8_2, hcz8_3, hcz8_4, hcz8_5, hfz8_0, hfz8_1, hfz8_2, hfz8_3, hfz8_4, hfz8_5⟩ := zc6 BK306.out
  go_wp2_with (first | ((with_reducible refine gate_callee (f := 36) rfl ?_); refine goesL_ (some 16) rfl rfl Try.func36 ze rfl #[.agg #[.int .i64 a0_0, .int .i64 a0_1, .int .i64 a0_2, .int .i64 a0_3, .int .i64 a0_4, .int .i64 a0_5]] rfl zg ?_; (with_reducible refine (impl_ModemOk.calls a0_0 a0_1 a0_2 a0_3 a0_4 a0_5 true _ A5.out).mono ?_); rintro e w9 ⟨rfl, hb⟩; refine ⟨_, rfl, ?_⟩; refine zS2 (zNb (g := gb306) (o := .cells #[.int .i64 a0_0, .int .i64 a0_1, .int .i64 a0_2, .int .i64 a0_3, .int .i64 a0_4, .int .i64 a0_5] 28 (0, 0)) (zn BK306) hb) (below_step zb2 hb) ?_; clear BK306 HB; intro BK306 HB; (try clear hb); (try clear hb2); (try clear hk); (try clear hi)) | (go_at_call 37; (with_reducible refine (impl_sentOk.calls (l1.length : Int) t308 _ A7.out).mono ?_); rintro e w' ⟨rfl, ⟨nd, rfl⟩⟩))
  go_meet
  case rel => exact ⟨_, (!t308), zs, H', ⟨zo⟩, ⟨zn BK306⟩, ⟨zb2⟩⟩
 case rest =>
  clear HC3
  try clear c1
  try clear p2
  try clear c3
  try clear c6
  try clear c10
  try clear hcz10_0
  try clear hcz10_1
  try clear hcz10_2
  try clear hcz10_3
  try clear hcz10_4
  try clear hcz10_5
  try clear hcz8_0
  try clear hcz8_1
  try clear hcz8_2
  try clear hcz8_3
  try clear hcz8_4
  try clear hcz8_5
  try clear hfz10_0
  try clear hfz10_1
  try clear hfz10_2
  try clear hfz10_3
  try clear hfz10_4
  try clear hfz10_5
  try clear hfz8_0
  try clear hfz8_1
  try clear hfz8_2
  try clear hfz8_3
  try clear hfz8_4
  try clear hfz8_5
  obtain ⟨kq, x23_2, rfl, HA, HJ2, BK306, HB⟩ := hcut
  cases kq with
  | zero => exact absurd HA.out (by simp [impl_Send.j0])
  | succ kj2 =>
   have H := HA.out
   clear HA
   simp only [impl_Send.j0] at H
   by_cases c12 : x23_2 = true
   case pos =>
    subst c12
    rw [if_pos rfl] at H
    simp only [Option.some.injEq, Prod.mk.injEq] at H
    obtain ⟨rfl, rfl⟩ := H
    go_wp2
    go_ret2
    exact ⟨_, zq, zz, zb2⟩
   replace c12 := Bool.eq_false_iff.mpr c12
   subst c12
   rw [if_neg zFT] at H
   replace H := zP H
   obtain ⟨⟨t309, t310⟩, A13, H⟩ := H
   dsimp only at H
   replace H := zP H
   obtain ⟨t313, A14, H⟩ := H
   replace H := zP H
   obtain ⟨⟨t316, t317⟩, A15, H⟩ := H
   dsimp only at H
   replace H := zP H
   obtain ⟨⟨t320, t321⟩, A16, H⟩ := H
   dsimp only at H
   replace H := zP H
   obtain ⟨⟨t324, t325⟩, A17, H⟩ := H
   dsimp only at H
   obtain ⟨y328, hy328⟩ : ∃ y_ : List (S52), y_ = (([(⟨wrap64 (32 * a0_5), 0⟩ : S52)] : List (S52))) := ⟨_, rfl⟩
   rw [← hy328] at H
   have Ny328 := zM hy328
   clear hy328
   replace H := zP H
   obtain ⟨t331, A18, H⟩ := H
   have H' := zM H
   clear H
   obtain ⟨hcz19_0, hcz19_1, hcz19_2, hcz19_3, hcz19_4, hcz19_5, hfz19_0, hfz19_1, hfz19_2, hfz19_3, hfz19_4, hfz19_5⟩ := zc6 BK306.out
   try go_wp2_with (first | ((with_reducible refine gate_callee (f := 38) rfl ?_); refine goesL_ (some 28) rfl rfl Try.func38 ze rfl #[.slice A1 l1.length c1, .int .i64 a0_1] rfl zg ?_; (with_reducible refine (impl_RsCode.calls kj2 _ _ l1 a0_1 t309 t310 _ ?side1 ?side2 A13.out).mono ?_); (case side1 => exact zc (Kd.C_below HR1.out HB.out)); (case side2 => exact HC1.out); rintro e w20 ⟨v311, rfl, ho0, hb⟩; refine ⟨_, rfl, ?_⟩; refine zS3 (Kd.R_lower ho0 (below_size zb2)) (zNb (g := gb306) (o := .cells #[.int .i64 a0_0, .int .i64 a0_1, .int .i64 a0_2, .int .i64 a0_3, .int .i64 a0_4, .int .i64 a0_5] 28 (0, 0)) (zn BK306) hb) (below_step zb2 hb) ?_; clear BK306 HB; intro HO312 BK306 HB; (try clear hb); (try clear hb2); (try clear hk); (try clear hi); (try clear ho0)))
   refine zS3 (zRd HO312.out) (zNd BK306.out) (zBd HB.out) ?_
   clear HO312 BK306 HB
   intro HO312 BK306 HB
   obtain ⟨Ao22, co22, eo22⟩ := Kd.R_slice HO312.out
   (first | subst eo22 | (injection eo22 with f1_ f2_ f3_; have f4_ := f1_.symm; have f5_ := f3_.symm; clear f1_ f2_ f3_; subst f4_; subst f5_))
   refine start_ (n := 10) (S := fun w' => w'.cell? ⟨gb306, 0, none⟩ = some (.int .i64 a0_0) ∧ w'.cell? ⟨gb306, 1, none⟩ = some (.int .i64 a0_1) ∧ w'.cell? ⟨gb306, 2, none⟩ = some (.int .i64 a0_2) ∧ w'.cell? ⟨gb306, 3, none⟩ = some (.int .i64 a0_3) ∧ w'.cell? ⟨gb306, 4, none⟩ = some (.int .i64 a0_4) ∧ w'.cell? ⟨gb306, 5, none⟩ = some (.int .i64 a0_5)) (ds := []) #[zf,zf,zf,zf,zf,zf,zf,zf,zf,zf] ze rfl rfl ⟨(blk_cell BK306.out 0).trans rfl, (blk_cell BK306.out 1).trans rfl, (blk_cell BK306.out 2).trans rfl, (blk_cell BK306.out 3).trans rfl, (blk_cell BK306.out 4).trans rfl, (blk_cell BK306.out 5).trans rfl⟩ (fun hHeld => ?_); refine with_tabW impl_Send.tab4 impl_Send.bits4 (fun HT_ HW_ => ?_)
   generalize w20.drew = w21 at HO312 BK306 HB hHeld ⊢
   refine pure_ (i := 0) (N := some 32) #[zt,zf,zf,zf,zf,zf,zf,zf,zf,zf] rfl rfl (any_of HT_.out ze) (fun _ _ _ h => h) (Or.inl ⟨by rfl, zv⟩) za ?_
   refine pure_ (i := 2) (N := some 34) #[zt,zf,zt,zf,zf,zf,zf,zf,zf,zf] rfl rfl (any_of HT_.out ze) (fun _ _ _ h => h) (Or.inl ⟨by rfl, zv⟩) za ?_
   refine take_ (i := 3) (N := some 35) #[zt,zf,zt,zt,zf,zf,zf,zf,zf,zf] rfl rfl (take_ofW HT_.out HW_.out ze) (fun _ _ _ h => h) (Or.inl ⟨by rfl, zv6⟩) hHeld za ?_
   refine one_ (i := 1) (N := some 33) #[zt,zt,zt,zt,zf,zf,zf,zf,zf,zf] rfl rfl (one_of HT_.out ze) (by decide) (fun K hK => ?_)
   refine goes_ Try.func40 ze rfl #[.slice Ao22 t309.length co22] (by rfl) rfl rfl zg ?_
   with_reducible refine (impl_unpack8.calls kj2 _ _ t309 t313 _ ?side1 ?side2 A14.out).mono ?_
   (case side1 => exact zc (Kd.R_reads' HO312.out).2.2)
   (case side2 => exact (Kd.R_reads' HO312.out).2.1)
   rintro e w23 ⟨v314, rfl, ho0, hb⟩
   refine ⟨_, rfl, ?_⟩
   refine zS4 (Kd.R_below (zr HO312) hb) (Kd.R_lower ho0 (below_size zb2)) (zNb (g := gb306) (o := .cells #[.int .i64 a0_0, .int .i64 a0_1, .int .i64 a0_2, .int .i64 a0_3, .int .i64 a0_4, .int .i64 a0_5] 28 (0, 0)) (zn BK306) hb) (below_step zb2 hb) ?_
   clear HO312 BK306 HB
   intro HO312 HO315 BK306 HB
   (try clear hb)
   (try clear hb2)
   (try clear hk)
   (try clear hi)
   (try clear ho0)
   obtain ⟨Ao24, co24, eo24⟩ := Kd.R_slice HO315.out
   (first | subst eo24 | (injection eo24 with f1_ f2_ f3_; have f4_ := f1_.symm; have f5_ := f3_.symm; clear f1_ f2_ f3_; subst f4_; subst f5_))
   refine hK.out _ _ ⟨(blk_cell BK306.out 0).trans rfl, (blk_cell BK306.out 1).trans rfl, (blk_cell BK306.out 2).trans rfl, (blk_cell BK306.out 3).trans rfl, (blk_cell BK306.out 4).trans rfl, (blk_cell BK306.out 5).trans rfl⟩ (fun hHeld => ?_)
   clear hK K
   refine norm_ (a' := ?_) ?_ ?_
   rotate_left
   ·show Act.put _ (some 33) _ = _
    simp only [Act.put, zS1, zS2, zS3, i64_w, i32_w]
    rfl
   refine one_ (i := 4) (N := some 36) #[zt,zt,zt,zt,zt,zf,zf,zf,zf,zf] rfl rfl (one_of HT_.out ze) (by decide) (fun K hK => ?_)
   refine goes_ Try.func39 ze rfl #[.slice Ao24 t313.length co24, .int .i64 a0_2] (by rfl) rfl rfl zg ?_
   with_reducible refine (impl_Weave.calls kj2 _ _ t313 a0_2 t316 t317 _ ?side1 ?side2 A15.out).mono ?_
   (case side1 => exact zc (Kd.R_reads' HO315.out).2.2)
   (case side2 => exact (Kd.R_reads' HO315.out).2.1)
   rintro e w25 ⟨v318, rfl, ho0, hb⟩
   refine ⟨_, rfl, ?_⟩
   refine zS5 (Kd.R_below (zr HO312) hb) (Kd.R_elder' (zr HO315) (Kd.R_base ho0) hb) (Kd.R_lower (Kd.R_new' ho0 (Kd.R_lt (zr HO315))) (below_size zb2)) (zNb (g := gb306) (o := .cells #[.int .i64 a0_0, .int .i64 a0_1, .int .i64 a0_2, .int .i64 a0_3, .int .i64 a0_4, .int .i64 a0_5] 28 (0, 0)) (zn BK306) hb) (below_step zb2 hb) ?_
   clear HO312 HO315 BK306 HB
   intro HO312 HO315 HO319 BK306 HB
   (try clear hb)
   (try clear hb2)
   (try clear hk)
   (try clear hi)
   (try clear ho0)
   refine hK.out _ _ ⟨(blk_cell BK306.out 0).trans rfl, (blk_cell BK306.out 1).trans rfl, (blk_cell BK306.out 2).trans rfl, (blk_cell BK306.out 3).trans rfl, (blk_cell BK306.out 4).trans rfl, (blk_cell BK306.out 5).trans rfl⟩ (fun hHeld => ?_)
   clear hK K
   refine norm_ (a' := ?_) ?_ ?_
   rotate_left
   ·show Act.put _ (some 36) _ = _
    simp only [Act.put, zS1, zS2, zS3, i64_w, i32_w]
    rfl
   refine pure_ (i := 5) (N := some 31) #[zt,zt,zt,zt,zt,zt,zf,zf,zf,zf] rfl rfl (any_of HT_.out ze) (fun _ _ _ h => h) (Or.inl ⟨by rfl, zv⟩) za ?_
   refine pure_ (i := 6) (N := some 37) #[zt,zt,zt,zt,zt,zt,zt,zf,zf,zf] rfl rfl (any_of HT_.out ze) (fun _ _ _ h => h) (Or.inl ⟨by rfl, zv⟩) za ?_
   refine pure_ (i := 7) (N := some 38) #[zt,zt,zt,zt,zt,zt,zt,zt,zf,zf] rfl rfl (any_of HT_.out ze) (fun _ _ _ h => h) (Or.inl ⟨by rfl, zv⟩) za ?_
   refine pure_ (i := 8) (N := some 8) #[zt,zt,zt,zt,zt,zt,zt,zt,zt,zf] rfl rfl (any_of HT_.out ze) (fun _ _ _ h => h) (Or.inl ⟨by rfl, zv⟩) za ?_
   refine pure_ (i := 9) (N := some 9) #[zt,zt,zt,zt,zt,zt,zt,zt,zt,zt] rfl rfl (any_of HT_.out ze) (fun _ _ _ h => h) (Or.inl ⟨by rfl, zv⟩) za ?_
   refine done_ (done_of HT_.out ze) ?_
   obtain ⟨hcz26_0, hcz26_1, hcz26_2, hcz26_3, hcz26_4, hcz26_5, hfz26_0, hfz26_1, hfz26_2, hfz26_3, hfz26_4, hfz26_5⟩ := zc6 BK306.out
   obtain ⟨Ao27, co27, eo27⟩ := Kd.R_slice HO319.out
   subst eo27
   try go_wp2_with (first | ((with_reducible refine gate_callee (f := 41) rfl ?_); refine goesL_ (some 43) rfl rfl Try.func41 ze rfl #[.slice Ao27 t316.length co27, .int .i64 46080, .int .i64 a0_3] rfl zg ?_; (with_reducible refine (impl_Stir.calls kj2 _ _ t316 46080 a0_3 t320 t321 _ ?side1 ?side2 A16.out).mono ?_); (case side1 => exact zc (Kd.R_reads' HO319.out).2.2); (case side2 => exact (Kd.R_reads' HO319.out).2.1); rintro e w28 ⟨v322, rfl, ho0, hb⟩; refine ⟨_, rfl, ?_⟩; refine zS6 (Kd.R_below (zr HO312) hb) (Kd.R_elder' (zr HO315) (Kd.R_base ho0) hb) (Kd.R_elder' (zr HO319) (Kd.R_base ho0) hb) (Kd.R_lower (Kd.R_new' (Kd.R_new' ho0 (Kd.R_lt (zr HO315))) (Kd.R_lt (zr HO319))) (below_size zb2)) (zNb (g := gb306) (o := .cells #[.int .i64 a0_0, .int .i64 a0_1, .int .i64 a0_2, .int .i64 a0_3, .int .i64 a0_4, .int .i64 a0_5] 28 (0, 0)) (zn BK306) hb) (below_step zb2 hb) ?_; clear HO312 HO315 HO319 BK306 HB; intro HO312 HO315 HO319 HO323 BK306 HB; (try clear hb); (try clear hb2); (try clear hk); (try clear hi); (try clear ho0); obtain ⟨hcz29_0, hcz29_1, hcz29_2, hcz29_3, hcz29_4, hcz29_5, hfz29_0, hfz29_1, hfz29_2, hfz29_3, hfz29_4, hfz29_5⟩ := zc6 BK306.out; obtain ⟨Ao30, co30, eo30⟩ := Kd.R_slice HO323.out; subst eo30) | ((with_reducible refine gate_callee (f := 42) rfl ?_); refine goesL_ (some 50) rfl rfl Try.func42 ze rfl #[.int .i64 a0_0, .slice Ao30 t320.length co30] rfl zg ?_; (with_reducible refine (impl_Map.calls kj2 a0_0 _ _ t320 t324 t325 _ ?side1 ?side2 A17.out).mono ?_); (case side1 => exact zc (Kd.R_reads' HO323.out).2.2); (case side2 => exact (Kd.R_reads' HO323.out).2.1); rintro e w31 ⟨v326, rfl, ho0, hb⟩; refine ⟨_, rfl, ?_⟩; refine zS7 (Kd.R_below (zr HO312) hb) (Kd.R_below (zr HO315) hb) (Kd.R_below (zr HO319) hb) (Kd.R_below (zr HO323) hb) (Kd.R_lower ho0 (below_size zb2)) (zNb (g := gb306) (o := .cells #[.int .i64 a0_0, .int .i64 a0_1, .int .i64 a0_2, .int .i64 a0_3, .int .i64 a0_4, .int .i64 a0_5] 28 (0, 0)) (zn BK306) hb) (below_step zb2 hb) ?_; clear HO312 HO315 HO319 HO323 BK306 HB; intro HO312 HO315 HO319 HO323 HO327 BK306 HB; (try clear hb); (try clear hb2); (try clear hk); (try clear hi); (try clear ho0); obtain ⟨hcz32_0, hcz32_1, hcz32_2, hcz32_3, hcz32_4, hcz32_5, hfz32_0, hfz32_1, hfz32_2, hfz32_3, hfz32_4, hfz32_5⟩ := zc6 BK306.out) | ((with_reducible refine gate_dst (N := 57) rfl ?_); (try (refine gate_guard (by rfl) ?_; dsimp only)); refine Kd.R_lit k52 _ 52 ?hg (N := 57) ?hd (xs := ([(⟨wrap64 (32 * a0_5), 0⟩ : S52)] : List (S52))) (inner := [.int .i64 (wrap64 (32 * a0_5)), .int .i64 0]) (ok := fun _ => True) (okp := fun _ => True) ?hr ?hp (fun _ hk => hk) trivial (Below.refl _ _) (Nat.le_refl _) (by simp) ?_; (case hd | hg => rfl); (case hr => exact zh); (case hp => exact (Reps.c2 (show Kd.M k52 _ _ _ (⟨wrap64 (32 * a0_5), 0⟩ : S52) [.int .i64 (wrap64 (32 * a0_5)), .int .i64 0] from (k52_mkM _ _ _ (⟨wrap64 (32 * a0_5), 0⟩ : S52) )) (Reps.none _ _))); intro v329 w33 ho34 hb hg_ hnew_; clear hg_ hnew_; (first | rw [← Ny328.out] at ho34 | simp only [Int.reduceToNat, ← Ny328.out] at ho34); refine zS8 (Kd.R_below (zr HO312) hb) (Kd.R_below (zr HO315) hb) (Kd.R_below (zr HO319) hb) (Kd.R_below (zr HO323) hb) (Kd.R_elder' (zr HO327) (Kd.R_base ho34) hb) (Kd.R_lower (Kd.R_new' ho34 (Kd.R_lt (zr HO327))) (below_size zb2)) (zNb (g := gb306) (o := .cells #[.int .i64 a0_0, .int .i64 a0_1, .int .i64 a0_2, .int .i64 a0_3, .int .i64 a0_4, .int .i64 a0_5] 28 (0, 0)) (zn BK306) hb) (below_step zb2 hb) ?_; clear HO312 HO315 HO319 HO323 HO327 BK306 HB; intro HO312 HO315 HO319 HO323 HO327 HO330 BK306 HB; clear hb ho34; obtain ⟨hcz35_0, hcz35_1, hcz35_2, hcz35_3, hcz35_4, hcz35_5, hfz35_0, hfz35_1, hfz35_2, hfz35_3, hfz35_4, hfz35_5⟩ := zc6 BK306.out; obtain ⟨Ao36, co36, eo36⟩ := Kd.R_slice HO330.out; subst eo36) | ((with_reducible refine gate_callee (f := 43) rfl ?_); refine goesL_ (some 60) rfl rfl Try.func43 ze rfl #[.slice Ao36 y328.length co36, .int .i64 a0_4] rfl zg ?_; (with_reducible refine (impl_Point_43.calls _ _ y328 a0_4 t331 _ ?side1 ?side2 A18.out).mono ?_); (case side1 => exact zc (Kd.R_reads' HO330.out).2.2); (case side2 => exact (Kd.R_reads' HO330.out).2.1); rintro e w37 ⟨v332, rfl, ho0, hb⟩; refine ⟨_, rfl, ?_⟩; refine zS9 (Kd.R_below (zr HO312) hb) (Kd.R_below (zr HO315) hb) (Kd.R_below (zr HO319) hb) (Kd.R_below (zr HO323) hb) (Kd.R_elder' (zr HO327) (Kd.R_base ho0) hb) (Kd.R_elder' (zr HO330) (Kd.R_base ho0) hb) (Kd.R_lower (Kd.R_new' (Kd.R_new' ho0 (Kd.R_lt (zr HO327))) (Kd.R_lt (zr HO330))) (below_size zb2)) (zNb (g := gb306) (o := .cells #[.int .i64 a0_0, .int .i64 a0_1, .int .i64 a0_2, .int .i64 a0_3, .int .i64 a0_4, .int .i64 a0_5] 28 (0, 0)) (zn BK306) hb) (below_step zb2 hb) ?_; clear HO312 HO315 HO319 HO323 HO327 HO330 BK306 HB; intro HO312 HO315 HO319 HO323 HO327 HO330 HO333 BK306 HB; (try clear hb); (try clear hb2); (try clear hk); (try clear hi); (try clear ho0); obtain ⟨Ao38, co38, eo38⟩ := Kd.R_slice HO327.out; subst eo38))
   (try simp only [Act.put, zS1, zS2, zS3])
   go_loopg [12, 63] kj2 (fun kq v12 v63 w' => ∃ (x12_2 : List (S52)) (x63_2 : Int), v63 = .int .i64 x63_2 ∧ Aside0 (impl_Send.l0 kq x12_2 t324 (t324.length : Int) x63_2 a0_0 a0_1 a0_2 a0_3 a0_4 a0_5 = some (r1, r2)) ∧ Aside0 (kq ≤ kj2) ∧ Aside0 (Kd.R k52 52 w' w.heap.size (fun k_ => some k_ ≠ ((.slice Ao38 t324.length co38) : Value).ownBlock) v12 x12_2) ∧ Aside0 (Kd.R k52 52 w' w.heap.size (fun k_ => some k_ ≠ (v12 : Value).ownBlock) (.slice Ao38 t324.length co38) t324) ∧ Aside0 (w'.heap[gb306]? = some (.cells #[.int .i64 a0_0, .int .i64 a0_1, .int .i64 a0_2, .int .i64 a0_3, .int .i64 a0_4, .int .i64 a0_5] 28 (0, 0))) ∧ Aside0 (Below w.heap.size w w'))
   case atStart => exact ⟨(t331), (0), zs, H', ⟨Nat.le_refl _⟩, ⟨by (with_reducible repeat (first | apply zRa | apply zRn | apply zRd)); first | exact Kd.R_mono HO333.out (fun _ hk => hk.1.2) | (subst_vars; exact Kd.R_mono HO333.out (fun _ hk => hk.1.2))⟩, ⟨by (with_reducible repeat (first | apply zRa | apply zRn | apply zRd)); first | exact Kd.R_mono HO327.out (fun _ hk => hk.2) | (subst_vars; exact Kd.R_mono HO327.out (fun _ hk => hk.2))⟩, ⟨zn BK306⟩, ⟨zb2⟩⟩
   case round =>
    clear H'
    try clear c1
    try clear c2
    try clear p2
    try clear c3
    try clear c4
    try clear c6
    try clear p6
    try clear c10
    try clear c12
    try clear c36
    try clear c38
    try clear hcz10_0
    try clear hcz10_1
    try clear hcz10_2
    try clear hcz10_3
    try clear hcz10_4
    try clear hcz10_5
    try clear hcz19_0
    try clear hcz19_1
    try clear hcz19_2
    try clear hcz19_3
    try clear hcz19_4
    try clear hcz19_5
    try clear hcz26_0
    try clear hcz26_1
    try clear hcz26_2
    try clear hcz26_3
    try clear hcz26_4
    try clear hcz26_5
    try clear hcz29_0
    try clear hcz29_1
    try clear hcz29_2
    try clear hcz29_3
    try clear hcz29_4
    try clear hcz29_5
    try clear hcz32_0
    try clear hcz32_1
    try clear hcz32_2
    try clear hcz32_3
    try clear hcz32_4
    try clear hcz32_5
    try clear hcz35_0
    try clear hcz35_1
    try clear hcz35_2
    try clear hcz35_3
    try clear hcz35_4
    try clear hcz35_5
    try clear hcz8_0
    try clear hcz8_1
    try clear hcz8_2
    try clear hcz8_3
    try clear hcz8_4
    try clear hcz8_5
    try clear hfz10_0
    try clear hfz10_1
    try clear hfz10_2
    try clear hfz10_3
    try clear hfz10_4
    try clear hfz10_5
    try clear hfz19_0
    try clear hfz19_1
    try clear hfz19_2
    try clear hfz19_3
    try clear hfz19_4
    try clear hfz19_5
    try clear hfz26_0
    try clear hfz26_1
    try clear hfz26_2
    try clear hfz26_3
    try clear hfz26_4
    try clear hfz26_5
    try clear hfz29_0
    try clear hfz29_1
    try clear hfz29_2
    try clear hfz29_3
    try clear hfz29_4
    try clear hfz29_5
    try clear hfz32_0
    try clear hfz32_1
    try clear hfz32_2
    try clear hfz32_3
    try clear hfz32_4
    try clear hfz32_5
    try clear hfz35_0
    try clear hfz35_1
    try clear hfz35_2
    try clear hfz35_3
    try clear hfz35_4
    try clear hfz35_5
    try clear hfz8_0
    try clear hfz8_1
    try clear hfz8_2
    try clear hfz8_3
    try clear hfz8_4
    try clear hfz8_5
    try clear p2
    obtain ⟨x12_2, x63_2, rfl, HA, HK2, HO_12, HO_51, BK306, HB⟩ := hrel
    cases gk with
    | zero => exact absurd HA.out (by simp [impl_Send.l0])
    | succ k2 =>
     have H := HA.out
     clear HA
     simp only [impl_Send.l0] at H
     replace H := zI2 H
     rcases H with ⟨c39, H⟩ | ⟨c39, H⟩
     case inr =>
      have c39b0 := decide_eq_false c39
      clear c39
      simp only [Option.some.injEq, Prod.mk.injEq] at H
      obtain ⟨rfl, rfl⟩ := H
      go_wp2
      go_ret2
      exact ⟨_, zq, by (with_reducible repeat (first | apply zRa | apply zRn | apply zRd)); first | exact Kd.R_mono HO_12.out (fun _ hk => trivial) | (subst_vars; exact Kd.R_mono HO_12.out (fun _ hk => trivial)), zb2⟩
     have c39b0 := zE c39
     clear c39
     replace H := zID H
     obtain ⟨c40b0, H⟩ := H
     replace H := zID H
     obtain ⟨c41b0, H⟩ := H
     obtain ⟨y336, hy336⟩ : ∃ y_ : List (S52), y_ = (([(⟨wrap64 (((rd_T52 t324 x63_2).f0) * a0_5), wrap64 (((rd_T52 t324 x63_2).f1) * a0_5)⟩ : S52)] : List (S52))) := ⟨_, rfl⟩
     rw [← hy336] at H
     have Ny336 := zM hy336
     clear hy336
     replace H := zP H
     obtain ⟨t339, A42, H⟩ := H
     replace H := zIM H
     obtain ⟨LMc43, H⟩ := H
     obtain ⟨y342, hy342⟩ : ∃ y_ : List (S52), y_ = (x12_2 ++ t339) := ⟨_, rfl⟩
     rw [← hy342] at H
     have Ny342 := zM hy342
     clear hy342
     have H' := zM H
     clear H
     have p334 : 0 ≤ (x63_2 : Int) := zT (by assumption)
     have q334 : x63_2 < (t324.length : Int) := zT (by assumption)
     obtain ⟨ad334, e334, hx334_0, hx334_1⟩ := at_T52 (Kd.R_reads' HO_51.out).2.2 x63_2 p334 q334
     cases e334
     replace p334 := eq_true p334
     replace q334 := eq_true q334
     go_wp2_with (first | ((with_reducible refine gate_dst (N := 14) rfl ?_); (try (refine gate_guard (by rfl) ?_; dsimp only)); refine box_event ?hg (N := 14) ?hd (cs := #[.int .i64 0, .int .i64 0]) (t := 52) ?hr ?_; (case hd | hg => rfl); (case hr => exact zh); intro gb335 hg w44 hbox hb; have n0_ := zM (Kd.R_below (Kd.R_elderB (zr HO_12) gb335 (Nat.le_of_eq hg.symm)) hb); have n1_ := zM (Kd.R_below (Kd.R_elderB (zr HO_51) gb335 (Nat.le_of_eq hg.symm)) hb); have n2_ := zM (zNb (g := gb306) (o := .cells #[.int .i64 a0_0, .int .i64 a0_1, .int .i64 a0_2, .int .i64 a0_3, .int .i64 a0_4, .int .i64 a0_5] 28 (0, 0)) (zn BK306) hb); have n3_ := zM (below_step zb2 hb); have n4_ := zM (hbox); have n5_ := zM ((zw hg (below_size zb2))); have n6_ := zM n5_.out; have n7_ := zM ((by rw [hg]; exact Nat.ne_of_lt (by simpa using blk_lt BK306.out) : gb306 ≠ gb335)); have n8_ := zM ((by rw [hg]; exact Nat.ne_of_gt (by simpa using blk_lt BK306.out) : gb335 ≠ gb306)); clear HO_12; clear HO_51; clear BK306; clear HB; have HO_12 := n0_; have HO_51 := n1_; have BK306 := n2_; have HB := n3_; have BK335 := n4_; have GW335 := n5_; have GE335 := n6_; have NB306_335 := n7_; have NB335_306 := n8_; clear n0_ n1_ n2_ n3_ n4_ n5_ n6_ n7_ n8_; clear hb hbox hg; have hnb45 := NB335_306.out; have hnc45 := NB306_335.out; obtain ⟨hcz46_0, hcz46_1, hfz46_0, hfz46_1⟩ := zc2 BK335.out; obtain ⟨hcz47_0, hcz47_1, hcz47_2, hcz47_3, hcz47_4, hcz47_5, hfz47_0, hfz47_1, hfz47_2, hfz47_3, hfz47_4, hfz47_5⟩ := zc6 BK306.out) | ((with_reducible refine gate_dst (N := 79) rfl ?_); (try (refine gate_guard (by rfl) ?_; dsimp only)); refine Kd.R_lit k52 _ 52 ?hg (N := 79) ?hd (xs := ([(⟨wrap64 (((rd_T52 t324 x63_2).f0) * a0_5), wrap64 (((rd_T52 t324 x63_2).f1) * a0_5)⟩ : S52)] : List (S52))) (inner := [.int .i64 (wrap64 (((rd_T52 t324 x63_2).f0) * a0_5)), .int .i64 (wrap64 (((rd_T52 t324 x63_2).f1) * a0_5))]) (ok := fun _ => True) (okp := fun _ => True) ?hr ?hp (fun _ hk => hk) trivial (Below.refl _ _) (Nat.le_refl _) (by simp) ?_; (case hd | hg => rfl); (case hr => exact zh); (case hp => exact (Reps.c2 (show Kd.M k52 _ _ _ (⟨wrap64 (((rd_T52 t324 x63_2).f0) * a0_5), wrap64 (((rd_T52 t324 x63_2).f1) * a0_5)⟩ : S52) [.int .i64 (wrap64 (((rd_T52 t324 x63_2).f0) * a0_5)), .int .i64 (wrap64 (((rd_T52 t324 x63_2).f1) * a0_5))] from (k52_mkM _ _ _ (⟨wrap64 (((rd_T52 t324 x63_2).f0) * a0_5), wrap64 (((rd_T52 t324 x63_2).f1) * a0_5)⟩ : S52) )) (Reps.none _ _))); intro v337 w48 ho49 hb hg_ hnew_; clear hg_ hnew_; (first | rw [← Ny336.out] at ho49 | simp only [Int.reduceToNat, ← Ny336.out] at ho49); refine zS6 (Kd.R_elder' (by (with_reducible repeat (first | apply zRa | apply zRn | apply zRd)); exact (Kd.R_mono (Kd.R_far (p := ⟨gb335, 1, none⟩) (Kd.R_far (p := ⟨gb335, 0, none⟩) (Kd.R_mono HO_12.out (fun k_ hk => (⟨hk, hk.2⟩ : _ ∧ k_ ≠ gb335))) (fun _ hk => hk.2) (.int .i64 ((rd_T52 t324 x63_2).f0))) (fun _ hk => hk.2) (.int .i64 ((rd_T52 t324 x63_2).f1))) (fun _ h_ => h_.1))) (Kd.R_base ho49) hb) (Kd.R_elder' (by (with_reducible repeat (first | apply zRa | apply zRn | apply zRd)); exact (Kd.R_mono (Kd.R_far (p := ⟨gb335, 1, none⟩) (Kd.R_far (p := ⟨gb335, 0, none⟩) (Kd.R_mono HO_51.out (fun k_ hk => (⟨hk, hk.2⟩ : _ ∧ k_ ≠ gb335))) (fun _ hk => hk.2) (.int .i64 ((rd_T52 t324 x63_2).f0))) (fun _ hk => hk.2) (.int .i64 ((rd_T52 t324 x63_2).f1))) (fun _ h_ => h_.1))) (Kd.R_base ho49) hb) (Kd.R_lower (Kd.R_newB (Kd.R_new' (Kd.R_new' ho49 (Kd.R_lt (by (with_reducible repeat (first | apply zRa | apply zRn | apply zRd)); exact (Kd.R_mono (Kd.R_far (p := ⟨gb335, 1, none⟩) (Kd.R_far (p := ⟨gb335, 0, none⟩) (Kd.R_mono HO_12.out (fun k_ hk => (⟨hk, hk.2⟩ : _ ∧ k_ ≠ gb335))) (fun _ hk => hk.2) (.int .i64 ((rd_T52 t324 x63_2).f0))) (fun _ hk => hk.2) (.int .i64 ((rd_T52 t324 x63_2).f1))) (fun _ h_ => h_.1))))) (Kd.R_lt (by (with_reducible repeat (first | apply zRa | apply zRn | apply zRd)); exact (Kd.R_mono (Kd.R_far (p := ⟨gb335, 1, none⟩) (Kd.R_far (p := ⟨gb335, 0, none⟩) (Kd.R_mono HO_51.out (fun k_ hk => (⟨hk, hk.2⟩ : _ ∧ k_ ≠ gb335))) (fun _ hk => hk.2) (.int .i64 ((rd_T52 t324 x63_2).f0))) (fun _ hk => hk.2) (.int .i64 ((rd_T52 t324 x63_2).f1))) (fun _ h_ => h_.1))))) (g := gb335) (o := .cells #[.int .i64 ((rd_T52 t324 x63_2).f0), .int .i64 ((rd_T52 t324 x63_2).f1)] 52 (0, 0)) (by (with_reducible repeat (first | apply zNn | apply zNd | apply zNa)); exact blk_put (blk_put (BK335.out) 0 _ rfl) 1 _ rfl)) (below_size zb3)) (zNb (g := gb306) (o := .cells #[.int .i64 a0_0, .int .i64 a0_1, .int .i64 a0_2, .int .i64 a0_3, .int .i64 a0_4, .int .i64 a0_5] 28 (0, 0)) (zn1 BK306) hb) (zNb (g := gb335) (o := .cells #[.int .i64 ((rd_T52 t324 x63_2).f0), .int .i64 ((rd_T52 t324 x63_2).f1)] 52 (0, 0)) (by (with_reducible repeat (first | apply zNn | apply zNd | apply zNa)); exact blk_put (blk_put (BK335.out) 0 _ rfl) 1 _ rfl) hb) (below_step zb3 hb) ?_; clear HO_12 HO_51 BK306 BK335 HB; intro HO_12 HO_51 HO338 BK306 BK335 HB; clear hb ho49; obtain ⟨hcz50_0, hcz50_1, hcz50_2, hcz50_3, hcz50_4, hcz50_5, hfz50_0, hfz50_1, hfz50_2, hfz50_3, hfz50_4, hfz50_5⟩ := zc6 BK306.out; obtain ⟨Ao51, co51, eo51⟩ := Kd.R_slice HO338.out; subst eo51) | ((with_reducible refine gate_callee (f := 43) rfl ?_); refine goesL_ (some 82) rfl rfl Try.func43 ze rfl #[.slice Ao51 y336.length co51, .int .i64 a0_4] rfl zg ?_; (with_reducible refine (impl_Point_43.calls _ _ y336 a0_4 t339 _ ?side1 ?side2 A42.out).mono ?_); (case side1 => exact zc (Kd.R_reads' HO338.out).2.2); (case side2 => exact (Kd.R_reads' HO338.out).2.1); rintro e w52 ⟨v340, rfl, ho0, hb⟩; refine ⟨_, rfl, ?_⟩; refine zS7 (Kd.R_elder' (zr HO_12) (Kd.R_base ho0) hb) (Kd.R_elder' (zr HO_51) (Kd.R_base ho0) hb) (Kd.R_elder' (zr HO338) (Kd.R_base ho0) hb) (Kd.R_lower (Kd.R_newB (Kd.R_new' (Kd.R_new' (Kd.R_new' ho0 (Kd.R_lt (zr HO_12))) (Kd.R_lt (zr HO_51))) (Kd.R_lt (zr HO338))) (g := gb335) (o := .cells #[.int .i64 ((rd_T52 t324 x63_2).f0), .int .i64 ((rd_T52 t324 x63_2).f1)] 52 (0, 0)) (zn BK335)) (below_size zb3)) (zNb (g := gb306) (o := .cells #[.int .i64 a0_0, .int .i64 a0_1, .int .i64 a0_2, .int .i64 a0_3, .int .i64 a0_4, .int .i64 a0_5] 28 (0, 0)) (zn BK306) hb) (zNb (g := gb335) (o := .cells #[.int .i64 ((rd_T52 t324 x63_2).f0), .int .i64 ((rd_T52 t324 x63_2).f1)] 52 (0, 0)) (zn BK335) hb) (below_step zb3 hb) ?_; clear HO_12 HO_51 HO338 BK306 BK335 HB; intro HO_12 HO_51 HO338 HO341 BK306 BK335 HB; (try clear hb); (try clear hb2); (try clear hk); (try clear hi); (try clear ho0); obtain ⟨Ao54, co54, eo54⟩ := Kd.R_slice HO341.out; subst eo54) | ((with_reducible refine gate_builtin (b := .append) (xs := #[.tmp 67, .tmp 82]) rfl ?_); (try (refine gate_guard (by rfl) ?_; dsimp only)); at_builtin; refine Kd.R_append_rows k52 (w0 := w) w.heap.size rfl (.tmp 67) (.tmp 82) 25 52 (.agg #[(.int .i64 0), (.int .i64 0)]) 16 rfl Try.underlying25 info52 rfl (by decide) (by omega) u12 x12_2 t339 _ _ _ (fun k_ => some k_ ≠ (.slice (some ad334) t324.length co38 : Value).ownBlock ∧ some k_ ≠ (.slice Ao51 y336.length co51 : Value).ownBlock ∧ some k_ ≠ (.slice Ao54 t339.length co54 : Value).ownBlock ∧ k_ ≠ gb335) (fun _ => False) rfl rfl ?aO ?aR (fun _ _ h => h) (fun _ h => h.elim) ?aF ?aB ?aS ?aL ?_; (case aR => exact zc (Kd.R_reads' HO341.out).2.2); (case aB => exact zb3); (case aF => exact (fun k_ hk => ⟨Kd.fresh' (Kd.R_lt (zr HO_51)) k_ hk, Kd.fresh' (Kd.R_lt (zr HO338)) k_ hk, Kd.fresh' (Kd.R_lt (zr HO341)) k_ hk, Kd.freshB (g := gb335) (o := .cells #[.int .i64 ((rd_T52 t324 x63_2).f0), .int .i64 ((rd_T52 t324 x63_2).f1)] 52 (0, 0)) (zn BK335) k_ hk⟩)); (case aO => exact (by (with_reducible repeat (first | apply zRa | apply zRn | apply zRd)); first | exact Kd.R_mono HO_12.out (fun _ hk => ⟨hk.1.1.1, ⟨hk.1.2, ⟨hk.2, hk.1.1.2⟩⟩⟩) | (subst_vars; exact Kd.R_mono HO_12.out (fun _ hk => ⟨hk.1.1.1, ⟨hk.1.2, ⟨hk.2, hk.1.1.2⟩⟩⟩)))); (case aS => exact (below_size zb3)); (case aL => have := LMc43.out; omega); intro v343 w53 ho hb hg hat; (first | rw [← Ny342.out] at ho | simp only [Int.reduceToNat, ← Ny342.out] at ho); refine zS7 (Kd.R_after (ok := (fun k_ => some k_ ≠ (.slice Ao51 y336.length co51 : Value).ownBlock ∧ some k_ ≠ (.slice Ao54 t339.length co54 : Value).ownBlock ∧ k_ ≠ gb335)) (by (with_reducible repeat (first | apply zRa | apply zRn | apply zRd)); first | exact Kd.R_mono HO_51.out (fun _ hk => ⟨⟨hk.1.2, ⟨hk.2, hk.1.1.2⟩⟩, hk.1.1.1⟩) | (subst_vars; exact Kd.R_mono HO_51.out (fun _ hk => ⟨⟨hk.1.2, ⟨hk.2, hk.1.1.2⟩⟩, hk.1.1.1⟩))) hg hat) (blk_grown (g := gb306) (o := .cells #[.int .i64 a0_0, .int .i64 a0_1, .int .i64 a0_2, .int .i64 a0_3, .int .i64 a0_4, .int .i64 a0_5] 28 (0, 0)) (zn BK306) hg (Kd.R_ne HO_12.out BK306.out (by decide))) (blk_grown (g := gb335) (o := .cells #[.int .i64 ((rd_T52 t324 x63_2).f0), .int .i64 ((rd_T52 t324 x63_2).f1)] 52 (0, 0)) (zn BK335) hg (Kd.R_away HO_12.out (fun _ hk => hk.1.1.2))) (Kd.R_after (ok := (fun k_ => some k_ ≠ (.slice (some ad334) t324.length co38 : Value).ownBlock ∧ some k_ ≠ (.slice Ao54 t339.length co54 : Value).ownBlock ∧ k_ ≠ gb335)) (by (with_reducible repeat (first | apply zRa | apply zRn | apply zRd)); first | exact Kd.R_mono HO338.out (fun _ hk => ⟨⟨hk.1.1.2, ⟨hk.2, hk.1.2⟩⟩, hk.1.1.1.2⟩) | (subst_vars; exact Kd.R_mono HO338.out (fun _ hk => ⟨⟨hk.1.1.2, ⟨hk.2, hk.1.2⟩⟩, hk.1.1.1.2⟩))) hg hat) (Kd.R_after (ok := (fun k_ => some k_ ≠ (.slice (some ad334) t324.length co38 : Value).ownBlock ∧ some k_ ≠ (.slice Ao51 y336.length co51 : Value).ownBlock ∧ k_ ≠ gb335)) (by (with_reducible repeat (first | apply zRa | apply zRn | apply zRd)); first | exact Kd.R_mono HO341.out (fun _ hk => ⟨⟨hk.1.1.2, ⟨hk.1.2, hk.2⟩⟩, hk.1.1.1.2⟩) | (subst_vars; exact Kd.R_mono HO341.out (fun _ hk => ⟨⟨hk.1.1.2, ⟨hk.1.2, hk.2⟩⟩, hk.1.1.1.2⟩))) hg hat) (hb) (ho) ?_; clear HO_51 BK306 BK335 HO338 HO341 HB HO_12; intro HO_51 BK306 BK335 HO338 HO341 HB HO344; clear ho hb hg hat))
     go_roundg k2
     case measure => have := HJ2.out; have := HK2.out; omega
     case rel => exact ⟨(y342), (wrap64 (x63_2 + 1)), zs, H', ⟨zl2 HJ2 HK2⟩, ⟨by (with_reducible repeat (first | apply zRa | apply zRn | apply zRd)); first | exact Kd.R_mono HO344.out (fun _ hk => hk.1) | (subst_vars; exact Kd.R_mono HO344.out (fun _ hk => hk.1))⟩, ⟨by (with_reducible repeat (first | apply zRa | apply zRn | apply zRd)); first | exact Kd.R_mono HO_51.out (fun _ hk => hk.2) | (subst_vars; exact Kd.R_mono HO_51.out (fun _ hk => hk.2))⟩, ⟨zn BK306⟩, ⟨zb3⟩⟩
def laws_big.f (l0 : List Int) : Option (Bool) := some (decide ((l0.length : Int) > 1048576))
theorem laws_big.calls (A0 : Option Addr) (c0 : Nat) (l0 : List Int) (r : Bool) (w : World) (hr0 : Kd.C (Kd.int .u8) w A0 l0.length l0) (hc0 : l0.length ≤ c0) (H : laws_big.f l0 = some r) :
 Calls Try.prog 16 #[.slice A0 l0.length c0] w fun e w' => e = .returned (.bool r) ∧ Drawn0 w w' := by
 have HR0 := zM hr0
 have HC0 := zM hc0
 clear hr0 hc0
 unfold laws_big.f at H
 obtain rfl := zI H
 go_enter Try.func16, Try.ntmps16
 go_wp2
 go_ret
 exact ⟨zs, zd⟩
/-- A state of type 99 at block g of W; what its slices lead to came in by w0. -/
def IsS99 (w0 W : World) (g : Nat) (f0 : List Int) (f1 : Int) (f2 : Int) : Prop := ∃ A0 c0, W.heap[g]? = some (.cells #[.slice A0 f0.length c0, .int .i64 f1, .int .i64 f2] 99 (0, 0)) ∧ w0.heap.size ≤ g ∧ Kd.C (Kd.int .u8) w0 A0 f0.length f0
theorem IsS99.grown {w0 W : World} {g : Nat} {f0 : List Int} {f1 : Int} {f2 : Int} {W1 : World} {row : Option Nat} (h : IsS99 w0 W g f0 f1 f2) (hw : W.grownBy W1 row) (hne : some g ≠ row) : IsS99 w0 W1 g f0 f1 f2 := by
 obtain ⟨A0, c0, hb, hg, hr0⟩ := h
 exact ⟨A0, c0, blk_grown hb hw hne, hg, hr0⟩
theorem IsS99.own_neN {w0 W : World} {g : Nat} {f0 : List Int} {f1 : Int} {f2 : Int} {α : Type} {d : Kd α} {e : Nat} {base : Nat} {ok : Nat → Prop} {v : Value} {xs : List α} (h : IsS99 w0 W g f0 f1 f2) (ho : Kd.N d e W base ok v xs) (ht : e ≠ 99) : some g ≠ v.ownBlock := by
 obtain ⟨A0, c0, hb, hg, hr0⟩ := h
 exact Kd.N_ne ho hb ht
theorem IsS99.fresh {w0 W : World} {g : Nat} {f0 : List Int} {f1 : Int} {f2 : Int} (h : IsS99 w0 W g f0 f1 f2) : ∀ k, W.heap.size ≤ k → k ≠ g := by
 obtain ⟨A0, c0, hb, hg, hr0⟩ := h
 exact Kd.freshB hb
theorem IsS99.kept {w0 W : World} {g : Nat} {f0 : List Int} {f1 : Int} {f2 : Int} {W1 : World} {S : Nat → Prop} (h : IsS99 w0 W g f0 f1 f2) (hk : Kept W W1 S) (hne : ¬ S g) : IsS99 w0 W1 g f0 f1 f2 := by
 obtain ⟨A0, c0, hb, hg, hr0⟩ := h
 exact ⟨A0, c0, blk_kept hb hk hne, hg, hr0⟩
theorem IsS99.below {w0 W : World} {g : Nat} {f0 : List Int} {f1 : Int} {f2 : Int} {W1 : World} (h : IsS99 w0 W g f0 f1 f2) (hw : Below W.heap.size W W1) : IsS99 w0 W1 g f0 f1 f2 := h.grown (grown_of_below hw none) (by simp)
theorem IsS99.alloc {w0 W : World} {g : Nat} {f0 : List Int} {f1 : Int} {f2 : Int} (h : IsS99 w0 W g f0 f1 f2) (o : Obj) : IsS99 w0 (W.alloc o) g f0 f1 f2 := h.below (zBa (Below.refl _ _) o)
theorem IsS99.drewN {w0 W : World} {g : Nat} {f0 : List Int} {f1 : Int} {f2 : Int} (h : IsS99 w0 W g f0 f1 f2) (m : Nat) : IsS99 w0 (W.drewN m) g f0 f1 f2 := h
theorem IsS99.drew {w0 W : World} {g : Nat} {f0 : List Int} {f1 : Int} {f2 : Int} (h : IsS99 w0 W g f0 f1 f2) : IsS99 w0 W.drew g f0 f1 f2 := h
theorem IsS99.at_ {w0 W : World} {g : Nat} {f0 : List Int} {f1 : Int} {f2 : Int} {w' : World} {m : Nat} (hq : W.drewN m = w') (h : IsS99 w0 W g f0 f1 f2) : IsS99 w0 w' g f0 f1 f2 := by subst hq; exact IsS99.drewN h m
theorem IsS99.apart {w0 W : World} {g : Nat} {f0 : List Int} {f1 : Int} {f2 : Int} {α : Type} {d : Kd α} {e : Nat} {base : Nat} {ok : Nat → Prop} {v : Value} {xs : List α} (h : IsS99 w0 W g f0 f1 f2) (ho : d.R e W base ok v xs) (ht : ∀ q, q ∈ e :: d.E → q ≠ 99) : d.R e W base (fun k => ok k ∧ k ≠ g) v xs := by
 obtain ⟨A0, c0, hb, hg, hr0⟩ := h
 exact Kd.R_types ho hb ht
theorem IsS99.own_ne {w0 W : World} {g : Nat} {f0 : List Int} {f1 : Int} {f2 : Int} {α : Type} {d : Kd α} {e : Nat} {base : Nat} {ok : Nat → Prop} {v : Value} {xs : List α} (h : IsS99 w0 W g f0 f1 f2) (ho : d.R e W base ok v xs) (ht : e ≠ 99) : some g ≠ v.ownBlock := by
 obtain ⟨A0, c0, hb, hg, hr0⟩ := h
 exact Kd.R_ne ho hb ht
theorem IsS99.apartQ {w0 W : World} {g : Nat} {f0 : List Int} {f1 : Int} {f2 : Int} {α : Type} {d : Kd α} {e : Nat} {base : Nat} {ok : Nat → Prop} {v : Value} {xs : List α} (h : IsS99 w0 W g f0 f1 f2) (ho : d.Q e W base ok v xs) (ht : ∀ q, q ∈ e :: d.E → q ≠ 99) : d.Q e W base (fun k => ok k ∧ k ≠ g) v xs := by
 obtain ⟨A0, c0, hb, hg, hr0⟩ := h
 exact Kd.Q_types ho hb ht
theorem IsS99.own_neQ {w0 W : World} {g : Nat} {f0 : List Int} {f1 : Int} {f2 : Int} {α : Type} {d : Kd α} {e : Nat} {base : Nat} {ok : Nat → Prop} {v : Value} {xs : List α} (h : IsS99 w0 W g f0 f1 f2) (ho : d.Q e W base ok v xs) (ht : e ≠ 99) : some g ≠ v.ownBlock := by
 obtain ⟨A0, c0, hb, hg, hr0⟩ := h
 exact Kd.Q_ne ho hb ht
theorem IsS99.apartS {w0 W : World} {g : Nat} {f0 : List Int} {f1 : Int} {f2 : Int} {α : Type} {d : Kd α} {e : Nat} {base : Nat} {ok : Nat → Prop} {v : Value} {xs : List α} (h : IsS99 w0 W g f0 f1 f2) (ho : d.S e W base ok v xs) (ht : ∀ q, q ∈ e :: d.E → q ≠ 99) : d.S e W base (fun k => ok k ∧ k ≠ g) v xs := by
 obtain ⟨A0, c0, hb, hg, hr0⟩ := h
 exact Kd.S_types ho hb ht
theorem IsS99.own_neS {w0 W : World} {g : Nat} {f0 : List Int} {f1 : Int} {f2 : Int} {α : Type} {d : Kd α} {e : Nat} {base : Nat} {ok : Nat → Prop} {v : Value} {xs : List α} (h : IsS99 w0 W g f0 f1 f2) (ho : d.S e W base ok v xs) (ht : e ≠ 99) : some g ≠ v.ownBlock := by
 obtain ⟨A0, c0, hb, hg, hr0⟩ := h
 exact Kd.S_ne ho hb ht
theorem IsS99.lt {w0 W : World} {g : Nat} {f0 : List Int} {f1 : Int} {f2 : Int} (h : IsS99 w0 W g f0 f1 f2) : g < W.heap.size := by
 obtain ⟨A0, c0, hb, hg, hr0⟩ := h
 exact blk_lt hb
theorem IsS99.ge {w0 W : World} {g : Nat} {f0 : List Int} {f1 : Int} {f2 : Int} (h : IsS99 w0 W g f0 f1 f2) : w0.heap.size ≤ g := by
 obtain ⟨A0, c0, hb, hg, hr0⟩ := h
 exact hg
theorem IsS99.ne_blk {w0 W : World} {g : Nat} {f0 : List Int} {f1 : Int} {f2 : Int} {a : Nat} {cs : Array Value} {t : TypeId} {fr : Nat × Nat} (h : IsS99 w0 W g f0 f1 f2) (hb2 : W.heap[a]? = some (.cells cs t fr)) (ht : t ≠ 99) : g ≠ a := by
 obtain ⟨A0, c0, hb, hg, hr0⟩ := h
 rintro rfl
 rw [hb] at hb2
 injection hb2 with hb2
 injection hb2 with _ ht2
 exact ht ht2.symm
theorem IsS99.far {w0 W : World} {g : Nat} {f0 : List Int} {f1 : Int} {f2 : Int} {p : Addr} (h : IsS99 w0 W g f0 f1 f2) (hne : g ≠ p.block) (u : Value) : IsS99 w0 (W.setCell p u) g f0 f1 f2 := by
 obtain ⟨A0, c0, hb, hg, hr0⟩ := h
 exact ⟨A0, c0, zNf hb hne u, hg, hr0⟩
theorem cellS99_0 {W : World} {g : Nat} {A0 : Option Addr} {c0 : Nat} {f0 : List Int} {f1 : Int} {f2 : Int} (h : W.heap[g]? = some (.cells #[.slice A0 f0.length c0, .int .i64 f1, .int .i64 f2] 99 (0, 0))) : W.cell? ⟨g, 0, none⟩ = some (.slice A0 f0.length c0) := (blk_cell h 0).trans rfl
theorem cellS99_1 {W : World} {g : Nat} {A0 : Option Addr} {c0 : Nat} {f0 : List Int} {f1 : Int} {f2 : Int} (h : W.heap[g]? = some (.cells #[.slice A0 f0.length c0, .int .i64 f1, .int .i64 f2] 99 (0, 0))) : W.cell? ⟨g, 1, none⟩ = some (.int .i64 f1) := (blk_cell h 1).trans rfl
theorem IsS99.set_1 {w0 W : World} {g : Nat} {f0 : List Int} {f1 : Int} {f2 : Int} (h : IsS99 w0 W g f0 f1 f2) (x : Int) : IsS99 w0 (W.setCell ⟨g, 1, none⟩ (.int .i64 x)) g f0 x f2 := by
 obtain ⟨A0, c0, hb, hg, hr0⟩ := h
 exact ⟨A0, c0, by simpa using blk_set hb 1 (.int .i64 x), hg, hr0⟩
theorem cellS99_2 {W : World} {g : Nat} {A0 : Option Addr} {c0 : Nat} {f0 : List Int} {f1 : Int} {f2 : Int} (h : W.heap[g]? = some (.cells #[.slice A0 f0.length c0, .int .i64 f1, .int .i64 f2] 99 (0, 0))) : W.cell? ⟨g, 2, none⟩ = some (.int .i64 f2) := (blk_cell h 2).trans rfl
theorem IsS99.set_2 {w0 W : World} {g : Nat} {f0 : List Int} {f1 : Int} {f2 : Int} (h : IsS99 w0 W g f0 f1 f2) (x : Int) : IsS99 w0 (W.setCell ⟨g, 2, none⟩ (.int .i64 x)) g f0 f1 x := by
 obtain ⟨A0, c0, hb, hg, hr0⟩ := h
 exact ⟨A0, c0, by simpa using blk_set hb 2 (.int .i64 x), hg, hr0⟩
theorem IsS99.new (w0 W : World) (A0 : Option Addr) (c0 : Nat) (f0 : List Int) (f1 : Int) (f2 : Int) (hB : Below w0.heap.size w0 W) (hr0 : Kd.C (Kd.int .u8) w0 A0 f0.length f0) : IsS99 w0 (W.alloc (.cells #[.slice A0 f0.length c0, .int .i64 f1, .int .i64 f2] 99)) W.heap.size f0 f1 f2 := ⟨A0, c0, by simpa using heap_alloc_new W _, hB.size, hr0⟩
def spec_l1New.l0 : Nat → List Int → Int → Int → Option (List Int × Int × Int)
 | 0, _, _, _ => none
 | k + 1, x0, x3, x4 => if x4 < (x0.length : Int) then (if x4 < 4000 then (if 0 ≤ x4 then (spec_l1New.l0 k x0 (Go.bits .and .i64 (wrap64 ((wrap64 ((wrap64 (x3 * 131)) + (wrap64 (rd x0 x4)))) + 7)) 1073741823) (wrap64 (x4 + 1))) else (none)) else (some (x0, 0, x3))) else (some (x0, 0, x3))
def spec_l1New.f (k : Nat) (l0 : List Int) : Option (List Int × Int × Int) := spec_l1New.l0 k l0 (wrap64 (71933 + (l0.length : Int))) 0
theorem spec_l1New.calls (k : Nat) (A0 : Option Addr) (c0 : Nat) (l0 : List Int) (r1 : List Int) (r2 : Int) (r3 : Int) (w0 w : World) (hB : Below w0.heap.size w0 w) (hr0 : Kd.C (Kd.int .u8) w0 A0 l0.length l0) (hc0 : l0.length ≤ c0) (H : spec_l1New.f k l0 = some (r1, r2, r3)) :
 Calls Try.prog 45 #[.slice A0 l0.length c0] w fun e w' => ∃ g_ : Nat, e = .returned (.pointer (some ⟨g_, 0, none⟩)) ∧ IsS99 w0 w' g_ r1 r2 r3 ∧ Below w0.heap.size w0 w' ∧ Below w.heap.size w w' := by
 have hu99 := Try.underlying99
 have HR0 := zM hr0
 have HC0 := zM hc0
 clear hr0 hc0
 have HBW := zM (Below.refl w.heap.size w)
 have HW0 := zM hB.size
 have HB := zM hB
 clear hB
 unfold spec_l1New.f at H
 have H' := zM H
 clear H
 go_enter Try.func45, Try.ntmps45
 go_wp2
 (try simp only [Act.put, zS1, zS2, zS3])
 go_loopg [3, 4] k (fun kq v3 v4 w' => ∃ (x3_1 : Int) (x4_1 : Int), v3 = .int .i64 x3_1 ∧ v4 = .int .i64 x4_1 ∧ Aside0 (spec_l1New.l0 kq l0 x3_1 x4_1 = some (r1, r2, r3)) ∧ Aside0 (kq ≤ k) ∧ Aside0 (Below w.heap.size w w') ∧ Aside0 (Below w0.heap.size w0 w'))
 case atStart => exact ⟨(wrap64 (71933 + (l0.length : Int))), (0), zs, zs, H', ⟨Nat.le_refl _⟩, ⟨by repeat (first | (with_reducible first | exact HBW.out | apply zBa | apply zBn | apply zBd) | exact HBW.out)⟩, ⟨zb⟩⟩
 case round =>
  clear H'
  obtain ⟨x3_1, x4_1, rfl, rfl, HA, HK1, HBW, HB⟩ := hrel
  cases gk with
  | zero => exact absurd HA.out (by simp [spec_l1New.l0])
  | succ k1 =>
   have H := HA.out
   clear HA
   simp only [spec_l1New.l0] at H
   replace H := zI2 H
   rcases H with ⟨c2, H⟩ | ⟨c2, H⟩
   case inr =>
    have c2b0 := decide_eq_false c2
    clear c2
    simp only [Option.some.injEq, Prod.mk.injEq] at H
    obtain ⟨rfl, rfl, rfl⟩ := H
    go_wp2_with (first | ((with_reducible refine gate_dst (N := 31) rfl ?_); refine box_event ?hg (N := 31) ?hd (cs := #[.slice A0 l0.length c0, .int .i64 0, .int .i64 x3_1]) (t := 99) ?hr ?_; (case hd | hg => rfl); (case hr => exact zh); intro gb347 hg w6 hbox hb; refine zS5 (below_step HBW.out hb) (below_step zb hb) (hbox) ((by rw [hg]; exact (below_size (by repeat (first | (with_reducible first | exact HBW.out | apply zBa | apply zBn | apply zBd) | exact HBW.out))) : w.heap.size ≤ gb347)) ((Nat.le_trans HW0.out (by rw [hg]; exact (below_size (by repeat (first | (with_reducible first | exact HBW.out | apply zBa | apply zBn | apply zBd) | exact HBW.out))) : w.heap.size ≤ gb347) : w0.heap.size ≤ gb347)) ?_; clear HBW HB; intro HBW HB BK347 GW347 GE347; clear hb hbox hg))
    go_ret
    exact ⟨_, rfl, (show IsS99 w0 _ gb347 l0 0 x3_1 from ⟨_, _, zn BK347, GE347.out, HR0.out⟩), zb4, by repeat (first | (with_reducible first | exact HBW.out | apply zBa | apply zBn | apply zBd | refine zBs ?_ GW347.out) | exact HBW.out)⟩
   have c2b0 := zE c2
   clear c2
   replace H := zI2 H
   rcases H with ⟨c3, H⟩ | ⟨c3, H⟩
   case inl =>
    have c3b0 := zE c3
    clear c3
    replace H := zID H
    obtain ⟨c4b0, H⟩ := H
    have H' := zM H
    clear H
    have p345 : 0 ≤ (x4_1 : Int) := zT (by assumption)
    have q345 : x4_1 < (l0.length : Int) := zT (by assumption)
    obtain ⟨ad345, e345, hx345_0⟩ := Kd.at_int HR0.out x4_1 p345 q345
    cases e345
    replace hx345_0 := pw_cell_below HB.out hx345_0
    replace p345 := eq_true p345
    replace q345 := eq_true q345
    go_wp2
    go_roundg k1
    case measure => have := HK1.out; omega
    case rel => exact ⟨(Go.bits .and .i64 (wrap64 ((wrap64 ((wrap64 (x3_1 * 131)) + (wrap64 (rd l0 x4_1)))) + 7)) 1073741823), (wrap64 (x4_1 + 1)), zs, zs, H', ⟨zl1 HK1⟩, ⟨by repeat (first | (with_reducible first | exact HBW.out | apply zBa | apply zBn | apply zBd) | exact HBW.out)⟩, ⟨zb⟩⟩
   have c3b0 := decide_eq_false c3
   clear c3
   simp only [Option.some.injEq, Prod.mk.injEq] at H
   obtain ⟨rfl, rfl, rfl⟩ := H
   go_wp2_with (first | ((with_reducible refine gate_dst (N := 31) rfl ?_); refine box_event ?hg (N := 31) ?hd (cs := #[.slice A0 l0.length c0, .int .i64 0, .int .i64 x3_1]) (t := 99) ?hr ?_; (case hd | hg => rfl); (case hr => exact zh); intro gb346 hg w5 hbox hb; refine zS5 (below_step HBW.out hb) (below_step zb hb) (hbox) ((by rw [hg]; exact (below_size (by repeat (first | (with_reducible first | exact HBW.out | apply zBa | apply zBn | apply zBd) | exact HBW.out))) : w.heap.size ≤ gb346)) ((Nat.le_trans HW0.out (by rw [hg]; exact (below_size (by repeat (first | (with_reducible first | exact HBW.out | apply zBa | apply zBn | apply zBd) | exact HBW.out))) : w.heap.size ≤ gb346) : w0.heap.size ≤ gb346)) ?_; clear HBW HB; intro HBW HB BK346 GW346 GE346; clear hb hbox hg))
   go_ret
   exact ⟨_, rfl, (show IsS99 w0 _ gb346 l0 0 x3_1 from ⟨_, _, zn BK346, GE346.out, HR0.out⟩), zb5, by repeat (first | (with_reducible first | exact HBW.out | apply zBa | apply zBn | apply zBd | refine zBs ?_ GW346.out) | exact HBW.out)⟩
def spec_l1Byte.f (s0_0 : List Int) (s0_1 : Int) (s0_2 : Int) : Option (Int × Int × Int) := if s0_1 < (s0_0.length : Int) then (if 0 ≤ s0_1 then (some (Go.bits .and .i64 (wrap64 ((Go.bits .and .i64 (Go.bits .xor .i64 ((wrap64 ((wrap64 (s0_2 * 6364136223846793005)) + 1442695040888963407)) / 8589934592) ((wrap64 ((wrap64 (s0_2 * 6364136223846793005)) + 1442695040888963407)) / 35184372088832)) 255) + (wrap64 (rd s0_0 s0_1)))) 255, wrap64 (s0_1 + 1), wrap64 ((wrap64 (s0_2 * 6364136223846793005)) + 1442695040888963407))) else (none)) else (some (Go.bits .and .i64 (Go.bits .xor .i64 ((wrap64 ((wrap64 (s0_2 * 6364136223846793005)) + 1442695040888963407)) / 8589934592) ((wrap64 ((wrap64 (s0_2 * 6364136223846793005)) + 1442695040888963407)) / 35184372088832)) 255, s0_1, wrap64 ((wrap64 (s0_2 * 6364136223846793005)) + 1442695040888963407)))
theorem spec_l1Byte.calls (g : Nat) (s0_0 : List Int) (s0_1 : Int) (s0_2 : Int) (r1 : Int) (r2 : Int) (r3 : Int) (w0 w : World) (hI : IsS99 w0 w g s0_0 s0_1 s0_2) (hB : Below w0.heap.size w0 w) (H : spec_l1Byte.f s0_0 s0_1 s0_2 = some (r1, r2, r3)) :
 Calls Try.prog 95 #[.pointer (some ⟨g, 0, none⟩)] w fun e w' => e = .returned (.int .i64 r1) ∧ IsS99 w0 w' g s0_0 r2 r3 ∧ Below w0.heap.size w0 w' ∧ KeepBut w w' g none := by
 have HI0 := zM hI
 have HK := zM (KeepBut.refl w g none)
 have HL := zM hB.size
 clear hI
 have HW0 := zM hB.size
 have HB := zM hB
 clear hB
 unfold spec_l1Byte.f at H
 replace H := zI2 H
 rcases H with ⟨c2, H⟩ | ⟨c2, H⟩
 case inr =>
  have c2b0 := decide_eq_false c2
  clear c2
  simp only [Option.some.injEq, Prod.mk.injEq] at H
  obtain ⟨rfl, rfl, rfl⟩ := H
  obtain ⟨ASz5_0, cSz5_0, HGz5, hgz5, HSz5_0⟩ := HI0.out
  have hcz5_0 := cellS99_0 HGz5
  have hcz5_1 := cellS99_1 HGz5
  have hcz5_2 := cellS99_2 HGz5
  have hfz5_1 := blk_frozen HGz5 1
  have hfz5_2 := blk_frozen HGz5 2
  clear HGz5 hgz5
  go_enter Try.func95, Try.ntmps95
  go_wp2
  repeat (go_quiet (fail); try go_wp2)
  go_ret
  exact ⟨zq, zi HI0, zb6, zk⟩
 have c2b0 := zE c2
 clear c2
 replace H := zID H
 obtain ⟨c3b0, H⟩ := H
 simp only [Option.some.injEq, Prod.mk.injEq] at H
 obtain ⟨rfl, rfl, rfl⟩ := H
 obtain ⟨ASz4_0, cSz4_0, HGz4, hgz4, HSz4_0⟩ := HI0.out
 have hcz4_0 := cellS99_0 HGz4
 have hcz4_1 := cellS99_1 HGz4
 have hcz4_2 := cellS99_2 HGz4
 have hfz4_1 := blk_frozen HGz4 1
 have hfz4_2 := blk_frozen HGz4 2
 clear HGz4 hgz4
 have p348 : 0 ≤ (s0_1 : Int) := zT (by assumption)
 have q348 : s0_1 < (s0_0.length : Int) := zT (by assumption)
 obtain ⟨ad348, e348, hx348_0⟩ := Kd.at_int HSz4_0 s0_1 p348 q348
 cases e348
 have hn348_0 : ad348.block ≠ g := Nat.ne_of_lt (Nat.lt_of_lt_of_le (by have := zW _ _ hx348_0; first | rwa [add_block] at this | exact this) (IsS99.ge HI0.out))
 replace hx348_0 := pw_cell_below HB.out hx348_0
 replace hx348_0 := (cell_far (p := ⟨g, 2, none⟩) (by first | (rw [add_block]; exact hn348_0) | (show (Addr.add _ _).block ≠ _; rw [add_block]; exact hn348_0) | exact hn348_0) (.int .i64 (wrap64 ((wrap64 (s0_2 * 6364136223846793005)) + 1442695040888963407)))).trans hx348_0
 (try have hy348_0 := fun (n_ : Nat) => (show (((w.drewN n_).setCell ⟨g, 2, none⟩ (.int .i64 (wrap64 ((wrap64 (s0_2 * 6364136223846793005)) + 1442695040888963407))))).cell? _ = some _ from hx348_0))
 clear hn348_0
 replace p348 := eq_true p348
 replace q348 := eq_true q348
 go_enter Try.func95, Try.ntmps95
 go_wp2
 repeat (go_quiet (fail); try go_wp2)
 go_ret
 exact ⟨zq, zi HI0, zb6, zk⟩
end Go.Proofs.Ytapobpkeefeajaa.PFnClean
