-- A turned copy of the print's text.
import Derived.Test.YtapobpkeefeajaaPFnModemx0
import Derived.Test.YtapobpkeefeajaaPFnModemx1
import Derived.Test.YtapobpkeefeajaaPFnModemx2
import Derived.Test.YtapobpkeefeajaaPFnModemx3
import Derived.Test.YtapobpkeefeajaaPFnModemx4
import Derived.Test.YtapobpkeefeajaaPFnModemx5
namespace Go.Proofs.Ytapobpkeefeajaa.PFnModem
open Go.RowKit Go.Proofs.YtapobpkeefeajaaW.PrintWords Go.Proofs.YtapobpkeefeajaaW.PrintLast Go.Proofs.YtapobpkeefeajaaW.PrintMore
attribute [local go_sem] max2_int min2_int max_two min_two max_three min_three max_four min_four
set_option maxHeartbeats 8000000
set_option maxRecDepth 100000
set_option linter.unusedVariables false
set_option linter.unusedSimpArgs false
mutual
def impl_Send.j0:Nat→List Int→Bool→Int→Int→Int→Int→Int→Int→Option ((List (S52))×Bool)
 |0,_,_,_,_,_,_,_,_=>none
 |k+1,x1,x23,x136000,x136001,x136002,x136003,x136004,x136005=>if x23=true then(some (([]:List (S52)),false)) else((impl_RsCode.f k x1 x136001).bind fun bt138=>((impl_unpack8.f k bt138.1).bind fun t142=>((impl_Weave.f k t142 x136002).bind fun bt145=>((impl_Stir.f k bt145.1 46080 x136003).bind fun bt149=>((impl_Map.f k x136000 bt149.1).bind fun bt153=>((impl_Point_43.f (([(⟨wrap64 (32*x136005),0⟩:S52)]:List (S52))) x136004).bind fun t160=>(impl_Send.l0 k t160 bt153.1 (bt153.1.length:Int) 0 x136000 x136001 x136002 x136003 x136004 x136005)))))))
def impl_Send.l0:Nat→List (S52)→List (S52)→Int→Int→Int→Int→Int→Int→Int→Int→Option ((List (S52))×Bool)
 |0,_,_,_,_,_,_,_,_,_,_=>none
 |k+1,x12,x51,x62,x63,x136000,x136001,x136002,x136003,x136004,x136005=>if x63<x62 then(if 0≤x63 then(if x63<(x51.length:Int) then((impl_Point_43.f (([(⟨wrap64 (((rd_T52 x51 x63).f0)*x136005),wrap64 (((rd_T52 x51 x63).f1)*x136005)⟩:S52)]:List (S52))) x136004).bind fun t168=>(if x12.length+t168.length<8796093022208 then(impl_Send.l0 k (x12++t168) x51 x62 (wrap64 (x63+1)) x136000 x136001 x136002 x136003 x136004 x136005) else(none))) else(none)) else(none)) else(some (x12,true))
end
def impl_Send.f (k:Nat) (a0_0:Int) (a0_1:Int) (a0_2:Int) (a0_3:Int) (a0_4:Int) (a0_5:Int) (l1:List Int):Option ((List (S52))×Bool):=(impl_ModemOk.f a0_0 a0_1 a0_2 a0_3 a0_4 a0_5).bind fun t136=>(if t136=true then((impl_sentOk.f (l1.length:Int)).bind fun t137=>(impl_Send.j0 k l1 (!t137) a0_0 a0_1 a0_2 a0_3 a0_4 a0_5)) else(impl_Send.j0 k l1 true a0_0 a0_1 a0_2 a0_3 a0_4 a0_5))
def impl_Send.T4:Bool×List (List Nat×List Nat):=(true,[([],[]),([0],[0]),([],[]),([2],[2]),([1,3,1],[1,3]),([4],[4]),([5],[5]),([5],[5]),([6,4,0,1,2,3,4,5,6],[6]),([7,8,0,1,2,3,4,5,6,7,8],[7])])
def impl_Send.B4:List Nat:=[0,1,0,4,15,31,63,63,127,511]
theorem impl_Send.tab4:rtab .any (opsOf Try.f10 4)=impl_Send.T4:=by kernel_rfl
theorem impl_Send.bits4:waitsOk impl_Send.T4.2 impl_Send.B4=true:=by kernel_rfl
theorem impl_Send.calls (k:Nat) (a0_0:Int) (a0_1:Int) (a0_2:Int) (a0_3:Int) (a0_4:Int) (a0_5:Int) (A1:Option Addr) (c1:Nat) (l1:List Int) (r1:List (S52)) (r2:Bool) (w:World) (hr1:Kd.C (Kd.int .u8) w A1 l1.length l1) (hc1:l1.length≤c1) (H:impl_Send.f k a0_0 a0_1 a0_2 a0_3 a0_4 a0_5 l1=some (r1,r2)):
 Calls Try.prog 10 #[.agg #[.int .i64 a0_0, .int .i64 a0_1, .int .i64 a0_2, .int .i64 a0_3, .int .i64 a0_4, .int .i64 a0_5], .slice A1 l1.length c1] w fun e w'=>∃v0_:Value,e= .returned (.tuple #[v0_, .bool r2])∧Kd.R k52 52 w' w.heap.size (fun _=>True) v0_ r1∧Below w.heap.size w w':=by
 have hu28:=Try.underlying28
 have hu52:=Try.underlying52
 have HR1:=zM hr1
 have HC1:=zM hc1
 clear hr1 hc1
 have HB:=zM (Below.refl w.heap.size w)
 unfold impl_Send.f at H
 have HC3:=zM H
 clear H
 go_enter Try.func10,Try.ntmps10
 go_upto_region 1 with(first|((with_reducible refine gate_dst (N:=2) rfl ?_);(try(refine gate_guard (by rfl) ?_;dsimp only));refine box_event ?hg (N:=2) ?hd (cs:= #[.int .i64 a0_0, .int .i64 a0_1, .int .i64 a0_2, .int .i64 a0_3, .int .i64 a0_4, .int .i64 a0_5]) (t:=28) ?hr ?_;(case hd|hg=>rfl);(case hr=>exact zh);intro gb135 hg w4 hbox hb;have n0_:=zM (below_step zb hb);have n1_:=zM (hbox);have n2_:=zM ((zw hg (below_size zb)));have n3_:=zM n2_.out;clear HB;have HB:=n0_;have BK135:=n1_;have GW135:=n2_;have GE135:=n3_;clear n0_ n1_ n2_ n3_;clear hb hbox hg))
 (try simp only[Act.put,zL1,zL2,zL3])
 go_cut [23] (fun v23 wc=>∃(kq:Nat) (x23_2:Bool),v23= .bool x23_2∧Aside0 (impl_Send.j0 kq l1 x23_2 a0_0 a0_1 a0_2 a0_3 a0_4 a0_5=some (r1,r2))∧Aside0 (kq≤k)∧Aside0 (wc.heap[gb135]? =some (.cells #[.int .i64 a0_0, .int .i64 a0_1, .int .i64 a0_2, .int .i64 a0_3, .int .i64 a0_4, .int .i64 a0_5] 28 (0,0)))∧Aside0 (Below w.heap.size w wc))
 case first=>
  have H:=HC3.out
  clear HC3
  replace H:=zP H
  obtain⟨t136,A5,H⟩:=H
  by_cases c6:t136=true
  case neg=>
   replace c6:=Bool.eq_false_iff.mpr c6
   subst c6
   rw[if_neg zFT] at H
   have H':=zM H
   clear H
   obtain⟨hcz10_0,hcz10_1,hcz10_2,hcz10_3,hcz10_4,hcz10_5,hfz10_0,hfz10_1,hfz10_2,hfz10_3,hfz10_4,hfz10_5⟩:=zc6 BK135.out
   go_wp2_with (first|((with_reducible refine gate_callee (f:=36) rfl ?_);refine goesL_ (some 16) rfl rfl Try.func36 ze rfl #[.agg #[.int .i64 a0_0, .int .i64 a0_1, .int .i64 a0_2, .int .i64 a0_3, .int .i64 a0_4, .int .i64 a0_5]] rfl zg ?_;(with_reducible refine(impl_ModemOk.calls a0_0 a0_1 a0_2 a0_3 a0_4 a0_5 false _ A5.out).mono ?_);rintro e w11 ⟨rfl,hb⟩;refine⟨_,rfl,?_⟩;refine zS2 (zNb (g:=gb135) (o:= .cells #[.int .i64 a0_0, .int .i64 a0_1, .int .i64 a0_2, .int .i64 a0_3, .int .i64 a0_4, .int .i64 a0_5] 28 (0,0)) (zn BK135) hb) (below_step zb17 hb) ?_;clear BK135 HB;intro BK135 HB;(try clear hb);(try clear hb2);(try clear hk);(try clear hi)))
   go_meet
   case rel=>exact⟨_,(true),zs,H',⟨zo⟩,⟨zn BK135⟩,⟨zb17⟩⟩
  subst c6
  rw[if_pos rfl] at H
  replace H:=zP H
  obtain⟨t137,A7,H⟩:=H
  have H':=zM H
  clear H
  obtain⟨hcz8_0,hcz8_1,hcz8_2,hcz8_3,hcz8_4,hcz8_5,hfz8_0,hfz8_1,hfz8_2,hfz8_3,hfz8_4,hfz8_5⟩:=zc6 BK135.out
  go_wp2_with (first|((with_reducible refine gate_callee (f:=36) rfl ?_);refine goesL_ (some 16) rfl rfl Try.func36 ze rfl #[.agg #[.int .i64 a0_0, .int .i64 a0_1, .int .i64 a0_2, .int .i64 a0_3, .int .i64 a0_4, .int .i64 a0_5]] rfl zg ?_;(with_reducible refine(impl_ModemOk.calls a0_0 a0_1 a0_2 a0_3 a0_4 a0_5 true _ A5.out).mono ?_);rintro e w9 ⟨rfl,hb⟩;refine⟨_,rfl,?_⟩;refine zS2 (zNb (g:=gb135) (o:= .cells #[.int .i64 a0_0, .int .i64 a0_1, .int .i64 a0_2, .int .i64 a0_3, .int .i64 a0_4, .int .i64 a0_5] 28 (0,0)) (zn BK135) hb) (below_step zb17 hb) ?_;clear BK135 HB;intro BK135 HB;(try clear hb);(try clear hb2);(try clear hk);(try clear hi))|(go_at_call 37;(with_reducible refine(impl_sentOk.calls (l1.length:Int) t137 _ A7.out).mono ?_);rintro e w' ⟨rfl,⟨nd,rfl⟩⟩))
  go_meet
  case rel=>exact⟨_,(!t137),zs,H',⟨zo⟩,⟨zn BK135⟩,⟨zb17⟩⟩
 case rest=>
  clear HC3
  obtain⟨kq,x23_2,rfl,HA,HJ2,BK135,HB⟩:=hcut
  cases kq with
  |zero=>exact absurd HA.out (by simp[impl_Send.j0])
  | succ kj2=>
   have H:=HA.out
   clear HA
   simp only[impl_Send.j0] at H
   by_cases c12:x23_2=true
   case pos=>
    subst c12
    rw[if_pos rfl] at H
    simp only[Option.some.injEq,Prod.mk.injEq] at H
    obtain⟨rfl,rfl⟩:=H
    go_wp2
    go_ret2
    exact⟨_,zq,zz,zb17⟩
   replace c12:=Bool.eq_false_iff.mpr c12
   subst c12
   rw[if_neg zFT] at H
   replace H:=zP H
   obtain⟨⟨t138,t139⟩,A13,H⟩:=H
   dsimp only at H
   replace H:=zP H
   obtain⟨t142,A14,H⟩:=H
   replace H:=zP H
   obtain⟨⟨t145,t146⟩,A15,H⟩:=H
   dsimp only at H
   replace H:=zP H
   obtain⟨⟨t149,t150⟩,A16,H⟩:=H
   dsimp only at H
   replace H:=zP H
   obtain⟨⟨t153,t154⟩,A17,H⟩:=H
   dsimp only at H
   obtain⟨y157,hy157⟩:∃y_:List (S52),y_=(([(⟨wrap64 (32*a0_5),0⟩:S52)]:List (S52))):=⟨_,rfl⟩
   rw[←hy157] at H
   have Ny157:=zM hy157
   clear hy157
   replace H:=zP H
   obtain⟨t160,A18,H⟩:=H
   have H':=zM H
   clear H
   obtain⟨hcz19_0,hcz19_1,hcz19_2,hcz19_3,hcz19_4,hcz19_5,hfz19_0,hfz19_1,hfz19_2,hfz19_3,hfz19_4,hfz19_5⟩:=zc6 BK135.out
   try go_wp2_with (first|((with_reducible refine gate_callee (f:=38) rfl ?_);refine goesL_ (some 28) rfl rfl Try.func38 ze rfl #[.slice A1 l1.length c1, .int .i64 a0_1] rfl zg ?_;(with_reducible refine(impl_RsCode.calls kj2 _ _ l1 a0_1 t138 t139 _ ?side1 ?side2 A13.out).mono ?_);(case side1=>exact zc (Kd.C_below HR1.out HB.out));(case side2=>exact HC1.out);rintro e w20 ⟨v140,rfl,ho0,hb⟩;refine⟨_,rfl,?_⟩;refine zS3 (Kd.R_lower ho0 (below_size zb17)) (zNb (g:=gb135) (o:= .cells #[.int .i64 a0_0, .int .i64 a0_1, .int .i64 a0_2, .int .i64 a0_3, .int .i64 a0_4, .int .i64 a0_5] 28 (0,0)) (zn BK135) hb) (below_step zb17 hb) ?_;clear BK135 HB;intro HO141 BK135 HB;(try clear hb);(try clear hb2);(try clear hk);(try clear hi);(try clear ho0)))
   refine zS3 (zRd HO141.out) (zNd BK135.out) (zBd HB.out) ?_
   clear HO141 BK135 HB
   intro HO141 BK135 HB
   obtain⟨Ao22,co22,eo22⟩:=Kd.R_slice HO141.out
   (first|subst eo22|(injection eo22 with f1_ f2_ f3_;have f4_:=f1_.symm;have f5_:=f3_.symm;clear f1_ f2_ f3_;subst f4_;subst f5_))
   refine start_ (n:=10) (S:=fun w'=>w'.cell? ⟨gb135,0,none⟩=some (.int .i64 a0_0)∧w'.cell? ⟨gb135,1,none⟩=some (.int .i64 a0_1)∧w'.cell? ⟨gb135,2,none⟩=some (.int .i64 a0_2)∧w'.cell? ⟨gb135,3,none⟩=some (.int .i64 a0_3)∧w'.cell? ⟨gb135,4,none⟩=some (.int .i64 a0_4)∧w'.cell? ⟨gb135,5,none⟩=some (.int .i64 a0_5)) (ds:=[]) #[zf,zf,zf,zf,zf,zf,zf,zf,zf,zf] ze rfl rfl ⟨(blk_cell BK135.out 0).trans rfl,(blk_cell BK135.out 1).trans rfl,(blk_cell BK135.out 2).trans rfl,(blk_cell BK135.out 3).trans rfl,(blk_cell BK135.out 4).trans rfl,(blk_cell BK135.out 5).trans rfl⟩ (fun hHeld=> ?_);refine with_tabW impl_Send.tab4 impl_Send.bits4 (fun HT_ HW_=> ?_)
   generalize w20.drew=w21 at HO141 BK135 HB hHeld ⊢
   refine zu 0 32 ?_
   refine zu 2 34 ?_
   refine zt6 3 35 ?_
   refine one_ (i:=1) (N:=some 33) #[zt,zt,zt,zt,zf,zf,zf,zf,zf,zf] rfl rfl (one_of HT_.out ze) (by decide) (fun K hK=> ?_)
   refine goes_ Try.func40 ze rfl #[.slice Ao22 t138.length co22] (by rfl) rfl rfl zg ?_
   with_reducible refine(impl_unpack8.calls kj2 _ _ t138 t142 _ ?side1 ?side2 A14.out).mono ?_
   (case side1=>exact zc (Kd.R_reads' HO141.out).2.2)
   (case side2=>exact(Kd.R_reads' HO141.out).2.1)
   rintro e w23 ⟨v143,rfl,ho0,hb⟩
   refine⟨_,rfl,?_⟩
   refine zS4 (Kd.R_below (zr HO141) hb) (Kd.R_lower ho0 (below_size zb17)) (zNb (g:=gb135) (o:= .cells #[.int .i64 a0_0, .int .i64 a0_1, .int .i64 a0_2, .int .i64 a0_3, .int .i64 a0_4, .int .i64 a0_5] 28 (0,0)) (zn BK135) hb) (below_step zb17 hb) ?_
   clear HO141 BK135 HB
   intro HO141 HO144 BK135 HB
   clear hb ho0
   obtain⟨Ao24,co24,eo24⟩:=Kd.R_slice HO144.out
   (first|subst eo24|(injection eo24 with f1_ f2_ f3_;have f4_:=f1_.symm;have f5_:=f3_.symm;clear f1_ f2_ f3_;subst f4_;subst f5_))
   refine hK.out _ _ ⟨(blk_cell BK135.out 0).trans rfl,(blk_cell BK135.out 1).trans rfl,(blk_cell BK135.out 2).trans rfl,(blk_cell BK135.out 3).trans rfl,(blk_cell BK135.out 4).trans rfl,(blk_cell BK135.out 5).trans rfl⟩ (fun hHeld=> ?_)
   clear hK K
   refine norm_ (a':= ?_) ?_ ?_
   rotate_left
   ·show Act.put _ (some 33) _=_
    simp only[Act.put,zL1,zL2,zL3,i64_w,i32_w]
    rfl
   refine one_ (i:=4) (N:=some 36) #[zt,zt,zt,zt,zt,zf,zf,zf,zf,zf] rfl rfl (one_of HT_.out ze) (by decide) (fun K hK=> ?_)
   refine goes_ Try.func39 ze rfl #[.slice Ao24 t142.length co24, .int .i64 a0_2] (by rfl) rfl rfl zg ?_
   with_reducible refine(impl_Weave.calls kj2 _ _ t142 a0_2 t145 t146 _ ?side1 ?side2 A15.out).mono ?_
   (case side1=>exact zc (Kd.R_reads' HO144.out).2.2)
   (case side2=>exact(Kd.R_reads' HO144.out).2.1)
   rintro e w25 ⟨v147,rfl,ho0,hb⟩
   refine⟨_,rfl,?_⟩
   refine zS5 (Kd.R_below (zr HO141) hb) (Kd.R_elder' (zr HO144) (Kd.R_base ho0) hb) (Kd.R_lower (Kd.R_new' ho0 (Kd.R_lt (zr HO144))) (below_size zb17)) (zNb (g:=gb135) (o:= .cells #[.int .i64 a0_0, .int .i64 a0_1, .int .i64 a0_2, .int .i64 a0_3, .int .i64 a0_4, .int .i64 a0_5] 28 (0,0)) (zn BK135) hb) (below_step zb17 hb) ?_
   clear HO141 HO144 BK135 HB
   intro HO141 HO144 HO148 BK135 HB
   clear hb ho0
   refine hK.out _ _ ⟨(blk_cell BK135.out 0).trans rfl,(blk_cell BK135.out 1).trans rfl,(blk_cell BK135.out 2).trans rfl,(blk_cell BK135.out 3).trans rfl,(blk_cell BK135.out 4).trans rfl,(blk_cell BK135.out 5).trans rfl⟩ (fun hHeld=> ?_)
   clear hK K
   refine norm_ (a':= ?_) ?_ ?_
   rotate_left
   ·show Act.put _ (some 36) _=_
    simp only[Act.put,zL1,zL2,zL3,i64_w,i32_w]
    rfl
   refine zu 5 31 ?_
   refine zu 6 37 ?_
   refine zu 7 38 ?_
   refine zu 8 8 ?_
   refine zu 9 9 ?_
   refine done_ (done_of HT_.out ze) ?_
   obtain⟨hcz26_0,hcz26_1,hcz26_2,hcz26_3,hcz26_4,hcz26_5,hfz26_0,hfz26_1,hfz26_2,hfz26_3,hfz26_4,hfz26_5⟩:=zc6 BK135.out
   obtain⟨Ao27,co27,eo27⟩:=Kd.R_slice HO148.out
   subst eo27
   try go_wp2_with (first|((with_reducible refine gate_callee (f:=41) rfl ?_);refine goesL_ (some 43) rfl rfl Try.func41 ze rfl #[.slice Ao27 t145.length co27, .int .i64 46080, .int .i64 a0_3] rfl zg ?_;(with_reducible refine(impl_Stir.calls kj2 _ _ t145 46080 a0_3 t149 t150 _ ?side1 ?side2 A16.out).mono ?_);(case side1=>exact zc (Kd.R_reads' HO148.out).2.2);(case side2=>exact(Kd.R_reads' HO148.out).2.1);rintro e w28 ⟨v151,rfl,ho0,hb⟩;refine⟨_,rfl,?_⟩;refine zS6 (Kd.R_below (zr HO141) hb) (Kd.R_elder' (zr HO144) (Kd.R_base ho0) hb) (Kd.R_elder' (zr HO148) (Kd.R_base ho0) hb) (Kd.R_lower (Kd.R_new' (Kd.R_new' ho0 (Kd.R_lt (zr HO144))) (Kd.R_lt (zr HO148))) (below_size zb17)) (zNb (g:=gb135) (o:= .cells #[.int .i64 a0_0, .int .i64 a0_1, .int .i64 a0_2, .int .i64 a0_3, .int .i64 a0_4, .int .i64 a0_5] 28 (0,0)) (zn BK135) hb) (below_step zb17 hb) ?_;clear HO141 HO144 HO148 BK135 HB;intro HO141 HO144 HO148 HO152 BK135 HB;(try clear hb);(try clear hb2);(try clear hk);(try clear hi);(try clear ho0);obtain⟨hcz29_0,hcz29_1,hcz29_2,hcz29_3,hcz29_4,hcz29_5,hfz29_0,hfz29_1,hfz29_2,hfz29_3,hfz29_4,hfz29_5⟩:=zc6 BK135.out;obtain⟨Ao30,co30,eo30⟩:=Kd.R_slice HO152.out;subst eo30)|((with_reducible refine gate_callee (f:=42) rfl ?_);refine goesL_ (some 50) rfl rfl Try.func42 ze rfl #[.int .i64 a0_0, .slice Ao30 t149.length co30] rfl zg ?_;(with_reducible refine(impl_Map.calls kj2 a0_0 _ _ t149 t153 t154 _ ?side1 ?side2 A17.out).mono ?_);(case side1=>exact zc (Kd.R_reads' HO152.out).2.2);(case side2=>exact(Kd.R_reads' HO152.out).2.1);rintro e w31 ⟨v155,rfl,ho0,hb⟩;refine⟨_,rfl,?_⟩;refine zS7 (Kd.R_below (zr HO141) hb) (Kd.R_below (zr HO144) hb) (Kd.R_below (zr HO148) hb) (Kd.R_below (zr HO152) hb) (Kd.R_lower ho0 (below_size zb17)) (zNb (g:=gb135) (o:= .cells #[.int .i64 a0_0, .int .i64 a0_1, .int .i64 a0_2, .int .i64 a0_3, .int .i64 a0_4, .int .i64 a0_5] 28 (0,0)) (zn BK135) hb) (below_step zb17 hb) ?_;clear HO141 HO144 HO148 HO152 BK135 HB;intro HO141 HO144 HO148 HO152 HO156 BK135 HB;(try clear hb);(try clear hb2);(try clear hk);(try clear hi);(try clear ho0);obtain⟨hcz32_0,hcz32_1,hcz32_2,hcz32_3,hcz32_4,hcz32_5,hfz32_0,hfz32_1,hfz32_2,hfz32_3,hfz32_4,hfz32_5⟩:=zc6 BK135.out)|((with_reducible refine gate_dst (N:=57) rfl ?_);(try(refine gate_guard (by rfl) ?_;dsimp only));refine Kd.R_lit k52 _ 52 ?hg (N:=57) ?hd (xs:=([(⟨wrap64 (32*a0_5),0⟩:S52)]:List (S52))) (inner:=[.int .i64 (wrap64 (32*a0_5)), .int .i64 0]) (ok:=fun _=>True) (okp:=fun _=>True) ?hr ?hp (fun _ hk=>hk) trivial (Below.refl _ _) (Nat.le_refl _) (by simp) ?_;(case hd|hg=>rfl);(case hr=>exact zh);(case hp=>exact(Reps.c2 (show Kd.M k52 _ _ _ (⟨wrap64 (32*a0_5),0⟩:S52) [.int .i64 (wrap64 (32*a0_5)), .int .i64 0] from(k52_mkM _ _ _ (⟨wrap64 (32*a0_5),0⟩:S52))) (Reps.none _ _)));intro v158 w33 ho34 hb hg_ hnew_;clear hg_ hnew_;(first|rw[←Ny157.out] at ho34|simp only[Int.reduceToNat,←Ny157.out] at ho34);refine zS8 (Kd.R_below (zr HO141) hb) (Kd.R_below (zr HO144) hb) (Kd.R_below (zr HO148) hb) (Kd.R_below (zr HO152) hb) (Kd.R_elder' (zr HO156) (Kd.R_base ho34) hb) (Kd.R_lower (Kd.R_new' ho34 (Kd.R_lt (zr HO156))) (below_size zb17)) (zNb (g:=gb135) (o:= .cells #[.int .i64 a0_0, .int .i64 a0_1, .int .i64 a0_2, .int .i64 a0_3, .int .i64 a0_4, .int .i64 a0_5] 28 (0,0)) (zn BK135) hb) (below_step zb17 hb) ?_;clear HO141 HO144 HO148 HO152 HO156 BK135 HB;intro HO141 HO144 HO148 HO152 HO156 HO159 BK135 HB;clear hb ho34;obtain⟨hcz35_0,hcz35_1,hcz35_2,hcz35_3,hcz35_4,hcz35_5,hfz35_0,hfz35_1,hfz35_2,hfz35_3,hfz35_4,hfz35_5⟩:=zc6 BK135.out;obtain⟨Ao36,co36,eo36⟩:=Kd.R_slice HO159.out;subst eo36)|((with_reducible refine gate_callee (f:=43) rfl ?_);refine goesL_ (some 60) rfl rfl Try.func43 ze rfl #[.slice Ao36 y157.length co36, .int .i64 a0_4] rfl zg ?_;(with_reducible refine(impl_Point_43.calls _ _ y157 a0_4 t160 _ ?side1 ?side2 A18.out).mono ?_);(case side1=>exact zc (Kd.R_reads' HO159.out).2.2);(case side2=>exact(Kd.R_reads' HO159.out).2.1);rintro e w37 ⟨v161,rfl,ho0,hb⟩;refine⟨_,rfl,?_⟩;refine zS9 (Kd.R_below (zr HO141) hb) (Kd.R_below (zr HO144) hb) (Kd.R_below (zr HO148) hb) (Kd.R_below (zr HO152) hb) (Kd.R_elder' (zr HO156) (Kd.R_base ho0) hb) (Kd.R_elder' (zr HO159) (Kd.R_base ho0) hb) (Kd.R_lower (Kd.R_new' (Kd.R_new' ho0 (Kd.R_lt (zr HO156))) (Kd.R_lt (zr HO159))) (below_size zb17)) (zNb (g:=gb135) (o:= .cells #[.int .i64 a0_0, .int .i64 a0_1, .int .i64 a0_2, .int .i64 a0_3, .int .i64 a0_4, .int .i64 a0_5] 28 (0,0)) (zn BK135) hb) (below_step zb17 hb) ?_;clear HO141 HO144 HO148 HO152 HO156 HO159 BK135 HB;intro HO141 HO144 HO148 HO152 HO156 HO159 HO162 BK135 HB;(try clear hb);(try clear hb2);(try clear hk);(try clear hi);(try clear ho0);obtain⟨Ao38,co38,eo38⟩:=Kd.R_slice HO156.out;subst eo38))
   (try simp only[Act.put,zL1,zL2,zL3])
   go_loopg [12,63] kj2 (fun kq v12 v63 w'=>∃(x12_2:List (S52)) (x63_2:Int),v63= .int .i64 x63_2∧Aside0 (impl_Send.l0 kq x12_2 t153 (t153.length:Int) x63_2 a0_0 a0_1 a0_2 a0_3 a0_4 a0_5=some (r1,r2))∧Aside0 (kq≤kj2)∧Aside0 (Kd.R k52 52 w' w.heap.size (fun k_=>some k_≠((.slice Ao38 t153.length co38):Value).ownBlock) v12 x12_2)∧Aside0 (Kd.R k52 52 w' w.heap.size (fun k_=>some k_≠(v12:Value).ownBlock) (.slice Ao38 t153.length co38) t153)∧Aside0 (w'.heap[gb135]? =some (.cells #[.int .i64 a0_0, .int .i64 a0_1, .int .i64 a0_2, .int .i64 a0_3, .int .i64 a0_4, .int .i64 a0_5] 28 (0,0)))∧Aside0 (Below w.heap.size w w'))
   case atStart=>exact⟨(t160),(0),zs,H',⟨Nat.le_refl _⟩,⟨by(with_reducible repeat(first|apply zRa|apply zRn|apply zRd));first|exact Kd.R_mono HO162.out (fun _ hk=>hk.1.2)|(subst_vars;exact Kd.R_mono HO162.out (fun _ hk=>hk.1.2))⟩,⟨by(with_reducible repeat(first|apply zRa|apply zRn|apply zRd));first|exact Kd.R_mono HO156.out (fun _ hk=>hk.2)|(subst_vars;exact Kd.R_mono HO156.out (fun _ hk=>hk.2))⟩,⟨zn BK135⟩,⟨zb17⟩⟩
   case round=>
    clear H'
    clear hcz19_0 hcz19_1 hcz19_2 hcz19_3 hcz19_4 hcz19_5 hcz26_0 hcz26_1 hcz26_2 hcz26_3 hcz26_4 hcz26_5 hcz29_0 hcz29_1 hcz29_2 hcz29_3 hcz29_4 hcz29_5 hcz32_0 hcz32_1 hcz32_2 hcz32_3 hcz32_4 hcz32_5 hcz35_0 hcz35_1 hcz35_2 hcz35_3 hcz35_4 hcz35_5 hfz19_0 hfz19_1 hfz19_2 hfz19_3 hfz19_4 hfz19_5 hfz26_0 hfz26_1 hfz26_2 hfz26_3 hfz26_4 hfz26_5 hfz29_0 hfz29_1 hfz29_2 hfz29_3 hfz29_4 hfz29_5 hfz32_0 hfz32_1 hfz32_2 hfz32_3 hfz32_4 hfz32_5 hfz35_0 hfz35_1 hfz35_2 hfz35_3 hfz35_4 hfz35_5
    obtain⟨x12_2,x63_2,rfl,HA,HK2,HO_12,HO_51,BK135,HB⟩:=hrel
    cases gk with
    |zero=>exact absurd HA.out (by simp[impl_Send.l0])
    | succ k2=>
     have H:=HA.out
     clear HA
     simp only[impl_Send.l0] at H
     replace H:=zI2 H
     rcases H with⟨c39,H⟩|⟨c39,H⟩
     case inr=>
      have c39b0:=decide_eq_false c39
      clear c39
      simp only[Option.some.injEq,Prod.mk.injEq] at H
      obtain⟨rfl,rfl⟩:=H
      go_wp2
      go_ret2
      exact⟨_,zq,by(with_reducible repeat(first|apply zRa|apply zRn|apply zRd));first|exact Kd.R_mono HO_12.out (fun _ hk=>trivial)|(subst_vars;exact Kd.R_mono HO_12.out (fun _ hk=>trivial)),zb17⟩
     have c39b0:=zE c39
     clear c39
     replace H:=zID H
     obtain⟨c40b0,H⟩:=H
     replace H:=zID H
     obtain⟨c41b0,H⟩:=H
     obtain⟨y165,hy165⟩:∃y_:List (S52),y_=(([(⟨wrap64 (((rd_T52 t153 x63_2).f0)*a0_5),wrap64 (((rd_T52 t153 x63_2).f1)*a0_5)⟩:S52)]:List (S52))):=⟨_,rfl⟩
     rw[←hy165] at H
     have Ny165:=zM hy165
     clear hy165
     replace H:=zP H
     obtain⟨t168,A42,H⟩:=H
     replace H:=zIM H
     obtain⟨LMc43,H⟩:=H
     obtain⟨y171,hy171⟩:∃y_:List (S52),y_=(x12_2++t168):=⟨_,rfl⟩
     rw[←hy171] at H
     have Ny171:=zM hy171
     clear hy171
     have H':=zM H
     clear H
     have p163:0≤(x63_2:Int):=zT (by assumption)
     have q163:x63_2<(t153.length:Int):=zT (by assumption)
     obtain⟨ad163,e163,hx163_0,hx163_1⟩:=at_T52 (Kd.R_reads' HO_51.out).2.2 x63_2 p163 q163
     cases e163
     replace p163:=eq_true p163
     replace q163:=eq_true q163
     go_wp2_with (first|((with_reducible refine gate_dst (N:=14) rfl ?_);(try(refine gate_guard (by rfl) ?_;dsimp only));refine box_event ?hg (N:=14) ?hd (cs:= #[.int .i64 0, .int .i64 0]) (t:=52) ?hr ?_;(case hd|hg=>rfl);(case hr=>exact zh);intro gb164 hg w44 hbox hb;have n0_:=zM (Kd.R_below (Kd.R_elderB (zr HO_12) gb164 (Nat.le_of_eq hg.symm)) hb);have n1_:=zM (Kd.R_below (Kd.R_elderB (zr HO_51) gb164 (Nat.le_of_eq hg.symm)) hb);have n2_:=zM (zNb (g:=gb135) (o:= .cells #[.int .i64 a0_0, .int .i64 a0_1, .int .i64 a0_2, .int .i64 a0_3, .int .i64 a0_4, .int .i64 a0_5] 28 (0,0)) (zn BK135) hb);have n3_:=zM (below_step zb17 hb);have n4_:=zM (hbox);have n5_:=zM ((zw hg (below_size zb17)));have n6_:=zM n5_.out;have n7_:=zM ((by rw[hg];exact Nat.ne_of_lt (by simpa using blk_lt BK135.out):gb135≠gb164));have n8_:=zM ((by rw[hg];exact Nat.ne_of_gt (by simpa using blk_lt BK135.out):gb164≠gb135));clear HO_12;clear HO_51;clear BK135;clear HB;have HO_12:=n0_;have HO_51:=n1_;have BK135:=n2_;have HB:=n3_;have BK164:=n4_;have GW164:=n5_;have GE164:=n6_;have NB135_164:=n7_;have NB164_135:=n8_;clear n0_ n1_ n2_ n3_ n4_ n5_ n6_ n7_ n8_;clear hb hbox hg;have hnb45:=NB164_135.out;have hnc45:=NB135_164.out;obtain⟨hcz46_0,hcz46_1,hfz46_0,hfz46_1⟩:=zc2 BK164.out;obtain⟨hcz47_0,hcz47_1,hcz47_2,hcz47_3,hcz47_4,hcz47_5,hfz47_0,hfz47_1,hfz47_2,hfz47_3,hfz47_4,hfz47_5⟩:=zc6 BK135.out)|((with_reducible refine gate_dst (N:=79) rfl ?_);(try(refine gate_guard (by rfl) ?_;dsimp only));refine Kd.R_lit k52 _ 52 ?hg (N:=79) ?hd (xs:=([(⟨wrap64 (((rd_T52 t153 x63_2).f0)*a0_5),wrap64 (((rd_T52 t153 x63_2).f1)*a0_5)⟩:S52)]:List (S52))) (inner:=[.int .i64 (wrap64 (((rd_T52 t153 x63_2).f0)*a0_5)), .int .i64 (wrap64 (((rd_T52 t153 x63_2).f1)*a0_5))]) (ok:=fun _=>True) (okp:=fun _=>True) ?hr ?hp (fun _ hk=>hk) trivial (Below.refl _ _) (Nat.le_refl _) (by simp) ?_;(case hd|hg=>rfl);(case hr=>exact zh);(case hp=>exact(Reps.c2 (show Kd.M k52 _ _ _ (⟨wrap64 (((rd_T52 t153 x63_2).f0)*a0_5),wrap64 (((rd_T52 t153 x63_2).f1)*a0_5)⟩:S52) [.int .i64 (wrap64 (((rd_T52 t153 x63_2).f0)*a0_5)), .int .i64 (wrap64 (((rd_T52 t153 x63_2).f1)*a0_5))] from(k52_mkM _ _ _ (⟨wrap64 (((rd_T52 t153 x63_2).f0)*a0_5),wrap64 (((rd_T52 t153 x63_2).f1)*a0_5)⟩:S52))) (Reps.none _ _)));intro v166 w48 ho49 hb hg_ hnew_;clear hg_ hnew_;(first|rw[←Ny165.out] at ho49|simp only[Int.reduceToNat,←Ny165.out] at ho49);refine zS6 (Kd.R_elder' (by(with_reducible repeat(first|apply zRa|apply zRn|apply zRd));exact(Kd.R_mono (Kd.R_far (p:=⟨gb164,1,none⟩) (Kd.R_far (p:=⟨gb164,0,none⟩) (Kd.R_mono HO_12.out (fun k_ hk=>(⟨hk,hk.2⟩:_∧k_≠gb164))) (fun _ hk=>hk.2) (.int .i64 ((rd_T52 t153 x63_2).f0))) (fun _ hk=>hk.2) (.int .i64 ((rd_T52 t153 x63_2).f1))) (fun _ h_=>h_.1))) (Kd.R_base ho49) hb) (Kd.R_elder' (by(with_reducible repeat(first|apply zRa|apply zRn|apply zRd));exact(Kd.R_mono (Kd.R_far (p:=⟨gb164,1,none⟩) (Kd.R_far (p:=⟨gb164,0,none⟩) (Kd.R_mono HO_51.out (fun k_ hk=>(⟨hk,hk.2⟩:_∧k_≠gb164))) (fun _ hk=>hk.2) (.int .i64 ((rd_T52 t153 x63_2).f0))) (fun _ hk=>hk.2) (.int .i64 ((rd_T52 t153 x63_2).f1))) (fun _ h_=>h_.1))) (Kd.R_base ho49) hb) (Kd.R_lower (Kd.R_newB (Kd.R_new' (Kd.R_new' ho49 (Kd.R_lt (by(with_reducible repeat(first|apply zRa|apply zRn|apply zRd));exact(Kd.R_mono (Kd.R_far (p:=⟨gb164,1,none⟩) (Kd.R_far (p:=⟨gb164,0,none⟩) (Kd.R_mono HO_12.out (fun k_ hk=>(⟨hk,hk.2⟩:_∧k_≠gb164))) (fun _ hk=>hk.2) (.int .i64 ((rd_T52 t153 x63_2).f0))) (fun _ hk=>hk.2) (.int .i64 ((rd_T52 t153 x63_2).f1))) (fun _ h_=>h_.1))))) (Kd.R_lt (by(with_reducible repeat(first|apply zRa|apply zRn|apply zRd));exact(Kd.R_mono (Kd.R_far (p:=⟨gb164,1,none⟩) (Kd.R_far (p:=⟨gb164,0,none⟩) (Kd.R_mono HO_51.out (fun k_ hk=>(⟨hk,hk.2⟩:_∧k_≠gb164))) (fun _ hk=>hk.2) (.int .i64 ((rd_T52 t153 x63_2).f0))) (fun _ hk=>hk.2) (.int .i64 ((rd_T52 t153 x63_2).f1))) (fun _ h_=>h_.1))))) (g:=gb164) (o:= .cells #[.int .i64 ((rd_T52 t153 x63_2).f0), .int .i64 ((rd_T52 t153 x63_2).f1)] 52 (0,0)) (by(with_reducible repeat(first|apply zNn|apply zNd|apply zNa));exact blk_put (blk_put (BK164.out) 0 _ rfl) 1 _ rfl)) (below_size zb18)) (zNb (g:=gb135) (o:= .cells #[.int .i64 a0_0, .int .i64 a0_1, .int .i64 a0_2, .int .i64 a0_3, .int .i64 a0_4, .int .i64 a0_5] 28 (0,0)) (zn2 BK135) hb) (zNb (g:=gb164) (o:= .cells #[.int .i64 ((rd_T52 t153 x63_2).f0), .int .i64 ((rd_T52 t153 x63_2).f1)] 52 (0,0)) (by(with_reducible repeat(first|apply zNn|apply zNd|apply zNa));exact blk_put (blk_put (BK164.out) 0 _ rfl) 1 _ rfl) hb) (below_step zb18 hb) ?_;clear HO_12 HO_51 BK135 BK164 HB;intro HO_12 HO_51 HO167 BK135 BK164 HB;clear hb ho49;obtain⟨hcz50_0,hcz50_1,hcz50_2,hcz50_3,hcz50_4,hcz50_5,hfz50_0,hfz50_1,hfz50_2,hfz50_3,hfz50_4,hfz50_5⟩:=zc6 BK135.out;obtain⟨Ao51,co51,eo51⟩:=Kd.R_slice HO167.out;subst eo51)|((with_reducible refine gate_callee (f:=43) rfl ?_);refine goesL_ (some 82) rfl rfl Try.func43 ze rfl #[.slice Ao51 y165.length co51, .int .i64 a0_4] rfl zg ?_;(with_reducible refine(impl_Point_43.calls _ _ y165 a0_4 t168 _ ?side1 ?side2 A42.out).mono ?_);(case side1=>exact zc (Kd.R_reads' HO167.out).2.2);(case side2=>exact(Kd.R_reads' HO167.out).2.1);rintro e w52 ⟨v169,rfl,ho0,hb⟩;refine⟨_,rfl,?_⟩;refine zS7 (Kd.R_elder' (zr HO_12) (Kd.R_base ho0) hb) (Kd.R_elder' (zr HO_51) (Kd.R_base ho0) hb) (Kd.R_elder' (zr HO167) (Kd.R_base ho0) hb) (Kd.R_lower (Kd.R_newB (Kd.R_new' (Kd.R_new' (Kd.R_new' ho0 (Kd.R_lt (zr HO_12))) (Kd.R_lt (zr HO_51))) (Kd.R_lt (zr HO167))) (g:=gb164) (o:= .cells #[.int .i64 ((rd_T52 t153 x63_2).f0), .int .i64 ((rd_T52 t153 x63_2).f1)] 52 (0,0)) (zn BK164)) (below_size zb18)) (zNb (g:=gb135) (o:= .cells #[.int .i64 a0_0, .int .i64 a0_1, .int .i64 a0_2, .int .i64 a0_3, .int .i64 a0_4, .int .i64 a0_5] 28 (0,0)) (zn BK135) hb) (zNb (g:=gb164) (o:= .cells #[.int .i64 ((rd_T52 t153 x63_2).f0), .int .i64 ((rd_T52 t153 x63_2).f1)] 52 (0,0)) (zn BK164) hb) (below_step zb18 hb) ?_;clear HO_12 HO_51 HO167 BK135 BK164 HB;intro HO_12 HO_51 HO167 HO170 BK135 BK164 HB;(try clear hb);(try clear hb2);(try clear hk);(try clear hi);(try clear ho0);obtain⟨Ao54,co54,eo54⟩:=Kd.R_slice HO170.out;subst eo54)|((with_reducible refine gate_builtin (b:= .append) (xs:= #[.tmp 67, .tmp 82]) rfl ?_);(try(refine gate_guard (by rfl) ?_;dsimp only));at_builtin;refine Kd.R_append_rows k52 (w0:=w) w.heap.size rfl (.tmp 67) (.tmp 82) 25 52 (.agg #[(.int .i64 0),(.int .i64 0)]) 16 rfl Try.underlying25 info52 rfl (by decide) (by omega) u12 x12_2 t168 _ _ _ (fun k_=>some k_≠(.slice (some ad163) t153.length co38:Value).ownBlock∧some k_≠(.slice Ao51 y165.length co51:Value).ownBlock∧some k_≠(.slice Ao54 t168.length co54:Value).ownBlock∧k_≠gb164) (fun _=>False) rfl rfl ?aO ?aR (fun _ _ h=>h) (fun _ h=>h.elim) ?aF ?aB ?aS ?aL ?_;(case aR=>exact zc (Kd.R_reads' HO170.out).2.2);(case aB=>exact zb18);(case aF=>exact(fun k_ hk=>⟨Kd.fresh' (Kd.R_lt (zr HO_51)) k_ hk,Kd.fresh' (Kd.R_lt (zr HO167)) k_ hk,Kd.fresh' (Kd.R_lt (zr HO170)) k_ hk,Kd.freshB (g:=gb164) (o:= .cells #[.int .i64 ((rd_T52 t153 x63_2).f0), .int .i64 ((rd_T52 t153 x63_2).f1)] 52 (0,0)) (zn BK164) k_ hk⟩));(case aO=>exact(by(with_reducible repeat(first|apply zRa|apply zRn|apply zRd));first|exact Kd.R_mono HO_12.out (fun _ hk=>⟨hk.1.1.1,⟨hk.1.2,⟨hk.2,hk.1.1.2⟩⟩⟩)|(subst_vars;exact Kd.R_mono HO_12.out (fun _ hk=>⟨hk.1.1.1,⟨hk.1.2,⟨hk.2,hk.1.1.2⟩⟩⟩))));(case aS=>exact(below_size zb18));(case aL=>have:=LMc43.out;omega);intro v172 w53 ho hb hg hat;(first|rw[←Ny171.out] at ho|simp only[Int.reduceToNat,←Ny171.out] at ho);refine zS7 (Kd.R_after (ok:=(fun k_=>some k_≠(.slice Ao51 y165.length co51:Value).ownBlock∧some k_≠(.slice Ao54 t168.length co54:Value).ownBlock∧k_≠gb164)) (by(with_reducible repeat(first|apply zRa|apply zRn|apply zRd));first|exact Kd.R_mono HO_51.out (fun _ hk=>⟨⟨hk.1.2,⟨hk.2,hk.1.1.2⟩⟩,hk.1.1.1⟩)|(subst_vars;exact Kd.R_mono HO_51.out (fun _ hk=>⟨⟨hk.1.2,⟨hk.2,hk.1.1.2⟩⟩,hk.1.1.1⟩))) hg hat) (blk_grown (g:=gb135) (o:= .cells #[.int .i64 a0_0, .int .i64 a0_1, .int .i64 a0_2, .int .i64 a0_3, .int .i64 a0_4, .int .i64 a0_5] 28 (0,0)) (zn BK135) hg (Kd.R_ne HO_12.out BK135.out (by decide))) (blk_grown (g:=gb164) (o:= .cells #[.int .i64 ((rd_T52 t153 x63_2).f0), .int .i64 ((rd_T52 t153 x63_2).f1)] 52 (0,0)) (zn BK164) hg (Kd.R_away HO_12.out (fun _ hk=>hk.1.1.2))) (Kd.R_after (ok:=(fun k_=>some k_≠(.slice (some ad163) t153.length co38:Value).ownBlock∧some k_≠(.slice Ao54 t168.length co54:Value).ownBlock∧k_≠gb164)) (by(with_reducible repeat(first|apply zRa|apply zRn|apply zRd));first|exact Kd.R_mono HO167.out (fun _ hk=>⟨⟨hk.1.1.2,⟨hk.2,hk.1.2⟩⟩,hk.1.1.1.2⟩)|(subst_vars;exact Kd.R_mono HO167.out (fun _ hk=>⟨⟨hk.1.1.2,⟨hk.2,hk.1.2⟩⟩,hk.1.1.1.2⟩))) hg hat) (Kd.R_after (ok:=(fun k_=>some k_≠(.slice (some ad163) t153.length co38:Value).ownBlock∧some k_≠(.slice Ao51 y165.length co51:Value).ownBlock∧k_≠gb164)) (by(with_reducible repeat(first|apply zRa|apply zRn|apply zRd));first|exact Kd.R_mono HO170.out (fun _ hk=>⟨⟨hk.1.1.2,⟨hk.1.2,hk.2⟩⟩,hk.1.1.1.2⟩)|(subst_vars;exact Kd.R_mono HO170.out (fun _ hk=>⟨⟨hk.1.1.2,⟨hk.1.2,hk.2⟩⟩,hk.1.1.1.2⟩))) hg hat) (hb) (ho) ?_;clear HO_51 BK135 BK164 HO167 HO170 HB HO_12;intro HO_51 BK135 BK164 HO167 HO170 HB HO173;clear ho hb hg hat))
     go_roundg k2
     case measure=>have:=HJ2.out;have:=HK2.out;omega
     case rel=>exact⟨(y171),(wrap64 (x63_2+1)),zs,H',⟨zl2 HJ2 HK2⟩,⟨by(with_reducible repeat(first|apply zRa|apply zRn|apply zRd));first|exact Kd.R_mono HO173.out (fun _ hk=>hk.1)|(subst_vars;exact Kd.R_mono HO173.out (fun _ hk=>hk.1))⟩,⟨by(with_reducible repeat(first|apply zRa|apply zRn|apply zRd));first|exact Kd.R_mono HO_51.out (fun _ hk=>hk.2)|(subst_vars;exact Kd.R_mono HO_51.out (fun _ hk=>hk.2))⟩,⟨zn BK135⟩,⟨zb18⟩⟩
def laws_big.f (l0:List Int):Option (Bool):=some (decide ((l0.length:Int)>1048576))
theorem laws_big.calls (A0:Option Addr) (c0:Nat) (l0:List Int) (r:Bool) (w:World) (hr0:Kd.C (Kd.int .u8) w A0 l0.length l0) (hc0:l0.length≤c0) (H:laws_big.f l0=some r):
 Calls Try.prog 16 #[.slice A0 l0.length c0] w fun e w'=>e= .returned (.bool r)∧Drawn0 w w':=by
 have HR0:=zM hr0
 have HC0:=zM hc0
 clear hr0 hc0
 unfold laws_big.f at H
 obtain rfl:=zI H
 go_enter Try.func16,Try.ntmps16
 go_wp2
 go_ret
 exact⟨zs,zd⟩
-- NOT PRINTED: function 54 (impl_Point_54)
-- NOT PRINTED: function 96 (impl_Point_96)
def impl_sample.f (a0:Int):Option (Bool):=if a0≥(-1000000000) then(some (decide (a0≤1000000000))) else(some false)
theorem impl_sample.calls (a0:Int) (r:Bool) (w:World) (H:impl_sample.f a0=some r):
 Calls Try.prog 104 #[.int .i64 a0] w fun e w'=>e= .returned (.bool r)∧Drawn0 w w':=by
 unfold impl_sample.f at H
 replace H:=zI2 H
 rcases H with⟨c2,H⟩|⟨c2,H⟩
 case inl=>
  have c2b0:decide ((-1000000000)≤a0)=true:=zE c2
  clear c2
  obtain rfl:=zI H
  go_enter Try.func104,Try.ntmps104
  go_wp2
  go_ret
  exact⟨zs,zd⟩
 have c2b0:decide ((-1000000000)≤a0)=false:=decide_eq_false c2
 clear c2
 obtain rfl:=zI H
 go_enter Try.func104,Try.ntmps104
 go_wp2
 go_ret
 exact⟨zs,zd⟩
def impl_pointOk.f (a0_0:Int) (a0_1:Int):Option (Bool):=(impl_sample.f a0_0).bind fun t175=>(if t175=true then((impl_sample.f a0_1).bind fun t176=>(some t176)) else(some false))
theorem impl_pointOk.calls (a0_0:Int) (a0_1:Int) (r:Bool) (w:World) (H:impl_pointOk.f a0_0 a0_1=some r):
 Calls Try.prog 98 #[.agg #[.int .i64 a0_0, .int .i64 a0_1]] w fun e w'=>e= .returned (.bool r)∧Below w.heap.size w w':=by
 have hu52:=Try.underlying52
 have HB:=zM (Below.refl w.heap.size w)
 unfold impl_pointOk.f at H
 replace H:=zP H
 obtain⟨t175,A2,H⟩:=H
 by_cases c3:t175=true
 case neg=>
  replace c3:=Bool.eq_false_iff.mpr c3
  subst c3
  rw[if_neg zFT] at H
  obtain rfl:=zI H
  go_enter Try.func98,Try.ntmps98
  go_wp2_with (first|((with_reducible refine gate_dst (N:=1) rfl ?_);refine box_event ?hg (N:=1) ?hd (cs:= #[.int .i64 a0_0, .int .i64 a0_1]) (t:=52) ?hr ?_;(case hd|hg=>rfl);(case hr=>exact zh);intro gb174 hg w7 hbox hb;have n0_:=zM (below_step zb hb);have n1_:=zM (hbox);have n2_:=zM ((zw hg (below_size zb)));have n3_:=zM n2_.out;clear HB;have HB:=n0_;have BK174:=n1_;have GW174:=n2_;have GE174:=n3_;clear n0_ n1_ n2_ n3_;clear hb hbox hg;obtain⟨hcz8_0,hcz8_1,hfz8_0,hfz8_1⟩:=zc2 BK174.out)|((with_reducible refine gate_callee (f:=104) rfl ?_);refine goesL_ (some 5) rfl rfl Try.func104 ze rfl #[.int .i64 a0_0] rfl zg ?_;(with_reducible refine(impl_sample.calls a0_0 false _ A2.out).mono ?_);rintro e w' ⟨rfl,⟨nd,rfl⟩⟩;refine⟨_,rfl,?_⟩))
  go_ret
  exact⟨zq,zb19⟩
 subst c3
 rw[if_pos rfl] at H
 replace H:=zP H
 obtain⟨t176,A4,H⟩:=H
 obtain rfl:=zI H
 go_enter Try.func98,Try.ntmps98
 go_wp2_with (first|((with_reducible refine gate_dst (N:=1) rfl ?_);refine box_event ?hg (N:=1) ?hd (cs:= #[.int .i64 a0_0, .int .i64 a0_1]) (t:=52) ?hr ?_;(case hd|hg=>rfl);(case hr=>exact zh);intro gb174 hg w5 hbox hb;have n0_:=zM (below_step zb hb);have n1_:=zM (hbox);have n2_:=zM ((zw hg (below_size zb)));have n3_:=zM n2_.out;clear HB;have HB:=n0_;have BK174:=n1_;have GW174:=n2_;have GE174:=n3_;clear n0_ n1_ n2_ n3_;clear hb hbox hg;obtain⟨hcz6_0,hcz6_1,hfz6_0,hfz6_1⟩:=zc2 BK174.out)|((with_reducible refine gate_callee (f:=104) rfl ?_);refine goesL_ (some 5) rfl rfl Try.func104 ze rfl #[.int .i64 a0_0] rfl zg ?_;(with_reducible refine(impl_sample.calls a0_0 true _ A2.out).mono ?_);rintro e w' ⟨rfl,⟨nd,rfl⟩⟩;refine⟨_,rfl,?_⟩)|(go_at_call 104;(with_reducible refine(impl_sample.calls a0_1 t176 _ A4.out).mono ?_);rintro e w' ⟨rfl,⟨nd,rfl⟩⟩))
 go_ret
 exact⟨zq,zb19⟩
def impl_burstOk_1.f (a0_0:Int) (a0_1:Int):Option (Bool):=(impl_pointOk.f a0_0 a0_1).bind fun t178=>(some (!t178))
theorem impl_burstOk_1.calls (a0_0:Int) (a0_1:Int) (r:Bool) (w:World) (H:impl_burstOk_1.f a0_0 a0_1=some r):
 Calls Try.prog 97 #[.agg #[.int .i64 a0_0, .int .i64 a0_1]] w fun e w'=>e= .returned (.bool r)∧Below w.heap.size w w':=by
 have hu52:=Try.underlying52
 have HB:=zM (Below.refl w.heap.size w)
 unfold impl_burstOk_1.f at H
 replace H:=zP H
 obtain⟨t178,A2,H⟩:=H
 obtain rfl:=zI H
 go_enter Try.func97,Try.ntmps97
 go_wp2_with (first|((with_reducible refine gate_dst (N:=1) rfl ?_);refine box_event ?hg (N:=1) ?hd (cs:= #[.int .i64 a0_0, .int .i64 a0_1]) (t:=52) ?hr ?_;(case hd|hg=>rfl);(case hr=>exact zh);intro gb177 hg w3 hbox hb;have n0_:=zM (below_step zb hb);have n1_:=zM (hbox);have n2_:=zM ((zw hg (below_size zb)));have n3_:=zM n2_.out;clear HB;have HB:=n0_;have BK177:=n1_;have GW177:=n2_;have GE177:=n3_;clear n0_ n1_ n2_ n3_;clear hb hbox hg;obtain⟨hcz4_0,hcz4_1,hfz4_0,hfz4_1⟩:=zc2 BK177.out)|((with_reducible refine gate_callee (f:=98) rfl ?_);refine goesL_ (some 4) rfl rfl Try.func98 ze rfl #[.agg #[.int .i64 a0_0, .int .i64 a0_1]] rfl zg ?_;(with_reducible refine(impl_pointOk.calls a0_0 a0_1 t178 _ A2.out).mono ?_);rintro e w5 ⟨rfl,hb⟩;refine⟨_,rfl,?_⟩;refine zS2 (zNb (g:=gb177) (o:= .cells #[.int .i64 a0_0, .int .i64 a0_1] 52 (0,0)) (zn BK177) hb) (below_step zb20 hb) ?_;clear BK177 HB;intro BK177 HB;(try clear hb);(try clear hb2);(try clear hk);(try clear hi)))
 go_ret
 exact⟨zq,zb20⟩
def ptB (x:S52):Bool:=(decide (-1000000000≤x.f0)&&decide (x.f0≤1000000000))&&(decide (-1000000000≤x.f1)&&decide (x.f1≤1000000000))
theorem ptB_sample (a:Int):impl_sample.f a=some (decide (-1000000000≤a)&&decide (a≤1000000000)):=by
 unfold impl_sample.f
 by_cases h:a≥ -1000000000
 case pos=>rw[if_pos h,show decide (-1000000000≤a)=true from zE h,Bool.true_and]
 rw[if_neg h,show decide (-1000000000≤a)=false from decide_eq_false h,Bool.false_and]
theorem ptB_eq (x:S52):impl_burstOk_1.f x.f0 x.f1=some (!ptB x):=by
 unfold impl_burstOk_1.f impl_pointOk.f ptB
 rw[ptB_sample,ptB_sample]
 simp only[Option.bind_some]
 cases(decide (-1000000000≤x.f0)&&decide (x.f0≤1000000000))<;>simp
theorem rdPt {xs:List S52} {i:Nat} (h:i<xs.length):xs.take (i+1)=xs.take i++[rd_T52 xs (i:Int)]:=by
 rw[show rd_T52 xs (i:Int)=xs[i] by simp[rd_T52,List.getD_eq_getElem?_getD,h]];exact(List.take_append_getElem h).symm
theorem memPt {xs:List S52} {i:Nat} (h:i<xs.length):rd_T52 xs (i:Int)∈xs:=by
 rw[show rd_T52 xs (i:Int)=xs[i] by simp[rd_T52,List.getD_eq_getElem?_getD,h]];exact List.getElem_mem h
set_option maxHeartbeats 4000000 in
theorem index_calls (A0:Option Addr) (c0:Nat) (l0:List S52) (w:World) (hr0:Kd.C k52 w A0 l0.length l0) (hc0:l0.length≤c0) (hm:l0.length≤9000000000000000000):
 Calls Try.prog 54 #[.slice A0 l0.length c0, .func (.func 97) #[] #[]] w fun e w'=>∃j:Int,e= .returned (.int .i64 j)∧decide (0≤j)= !(l0.all ptB)∧Below w.heap.size w w':=by
 have HR0:=zM hr0
 clear hr0
 go_enter Try.func54,Try.ntmps54
 go_wp2
 go_loopw [8] (fun v w'=>∃(x:Int),v= .int .i64 x∧Aside0 (Below w.heap.size w w')∧Aside0 ((l0.take x.toNat).all ptB=true)∧Aside0 (0≤x∧x≤(l0.length:Int))) (fun v _=>l0.length-(match v with| .int _ n=>n.toNat|_=>0))
 case atStart=>exact⟨0,rfl,⟨Below.refl _ _⟩,⟨by simp⟩,⟨by omega⟩⟩
 case round=>
  obtain⟨x,rfl,HB,HT,HI⟩:=hrel
  by_cases hi:x<(l0.length:Int)
  case neg=>
   have hlt:decide (x<(l0.length:Int))=false:=decide_eq_false hi
   have HQ:=zM hi
   clear hi
   go_wp2
   go_ret
   refine⟨_,rfl,?_,HB.out⟩
   have:=HT.out
   rw[List.take_of_length_le (zl2 HI HQ)] at this
   rw[this];rfl
  have hlt:decide (x<(l0.length:Int))=true:=zE hi
  obtain⟨ad,e1,hx0,hx1⟩:=at_T52 HR0.out x HI.out.1 hi
  subst e1
  replace hx0:=(HB.out.cell (zW w _ hx0)).trans hx0
  replace hx1:=(HB.out.cell (zW w _ hx1)).trans hx1
  have HP:=zM (ptB_eq (rd_T52 l0 x))
  have p1:=eq_true HI.out.1
  have q1:=eq_true hi
  have HQ:=zM hi
  have ht:l0.take (x+1).toNat=l0.take x.toNat++[rd_T52 l0 x]:=by
   have:=rdPt (xs:=l0) (i:=x.toNat) (zl1 HI)
   rw[Int.toNat_of_nonneg HI.out.1] at this
   rw[←this,show(x+1).toNat=x.toNat+1 by have:=HI.out;omega]
  have hm2:rd_T52 l0 x∈l0:=by
   have:=memPt (xs:=l0) (i:=x.toNat) (zl1 HI)
   rwa[Int.toNat_of_nonneg HI.out.1] at this
  have HM:=zM hm2
  have HTT:=zM ht
  have hw:wrap64 (x+1)=x+1:=by have:=HI.out;unfold wrap64;omega
  have HW:=zM hw
  clear hi hm2 ht hw
  cases hp:ptB (rd_T52 l0 x) with
  |true=>
   rw[hp] at HP
   go_wp2_with (go_at_call 97;(with_reducible refine(impl_burstOk_1.calls _ _ false _ HP.out).mono ?_);rintro e w3 ⟨rfl,hb3⟩)
   go_roundw
   case rel=>exact⟨x+1,by first|rfl|rw[HW.out],⟨below_step HB.out hb3⟩,⟨by rw[HTT.out,List.all_append,HT.out];simp[hp]⟩,⟨zl2 HI HQ⟩⟩
   case measure=>have:=HI.out;have:=HQ.out;have:=HW.out;first|(simp only[this];omega)|(simp;omega)|omega
  |false=>
   rw[hp] at HP
   go_wp2_with (go_at_call 97;(with_reducible refine(impl_burstOk_1.calls _ _ true _ HP.out).mono ?_);rintro e w3 ⟨rfl,hb3⟩)
   go_ret
   refine⟨_,rfl,?_,below_step HB.out hb3⟩
   rw[zE HI.out.1,eq_comm,Bool.not_eq_true',List.all_eq_false]
   exact⟨_,HM.out,by simp[hp]⟩
set_option maxHeartbeats 4000000 in
theorem contains_calls (A0:Option Addr) (c0:Nat) (l0:List S52) (w:World) (hr0:Kd.C k52 w A0 l0.length l0) (hc0:l0.length≤c0) (hm:l0.length≤9000000000000000000):
 Calls Try.prog 96 #[.slice A0 l0.length c0, .func (.func 97) #[] #[]] w fun e w'=>e= .returned (.bool (!(l0.all ptB)))∧Below w.heap.size w w':=by
 have HI:=zM (index_calls A0 c0 l0 w hr0 hc0 hm)
 clear hr0
 go_enter Try.func96,Try.ntmps96
 go_wp2_with (go_at_call 54;(with_reducible refine HI.out.mono ?_);rintro e w3 ⟨j,rfl,hj,hb⟩)
 go_ret
 exact⟨by first|rfl|rw[hj]|simp[hj],hb⟩
def impl_burstOk.f (l0:List S52):Option Bool:=some (decide ((l0.length:Int)≤4096)&&l0.all ptB)
set_option maxHeartbeats 4000000 in
theorem impl_burstOk.calls (A0:Option Addr) (c0:Nat) (l0:List S52) (r:Bool) (w:World) (hr0:Kd.C k52 w A0 l0.length l0) (hc0:l0.length≤c0) (h:impl_burstOk.f l0=some r):
 Calls Try.prog 52 #[.slice A0 l0.length c0] w fun e w'=>e= .returned (.bool r)∧Below w.heap.size w w':=by
 have hR:=zI h
 clear h
 cases h1:decide ((l0.length:Int)≤4096) with
 |false=>
  rw[h1,Bool.false_and] at hR
  subst hR
  clear hr0
  go_enter Try.func52,Try.ntmps52
  go_wp2
  go_ret
  exact⟨rfl,Below.refl _ _⟩
 |true=>
  rw[h1,Bool.true_and] at hR
  have hl:=zT h1
  have HI:=zM (contains_calls A0 c0 l0 w hr0 hc0 (by omega))
  clear hr0 hl
  subst hR
  go_enter Try.func52,Try.ntmps52
  go_wp2_with (go_at_call 96;(with_reducible refine HI.out.mono ?_);rintro e w3 ⟨rfl,hb⟩)
  go_ret
  exact⟨by first|rfl|simp,hb⟩
end Go.Proofs.Ytapobpkeefeajaa.PFnModem
