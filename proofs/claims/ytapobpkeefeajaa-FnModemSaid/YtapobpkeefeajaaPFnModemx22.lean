-- A turned copy of the print's text.
import Derived.Test.YtapobpkeefeajaaPFnModemx0
import Derived.Test.YtapobpkeefeajaaPFnModemx17
import Derived.Test.YtapobpkeefeajaaPFnModemx18
import Derived.Test.YtapobpkeefeajaaPFnModemx19
import Derived.Test.YtapobpkeefeajaaPFnModemx20
import Derived.Test.YtapobpkeefeajaaPFnModemx21
namespace Go.Proofs.Ytapobpkeefeajaa.PFnModem
open Go.RowKit Go.Proofs.YtapobpkeefeajaaW.PrintWords Go.Proofs.YtapobpkeefeajaaW.PrintLast Go.Proofs.YtapobpkeefeajaaW.PrintMore
attribute [local go_sem] max2_int min2_int max_two min_two max_three min_three max_four min_four
set_option maxHeartbeats 8000000
set_option maxRecDepth 100000
set_option linter.unusedVariables false
set_option linter.unusedSimpArgs false
mutual
def spec_Send.j0:Nat→List Int→List (S52)→Bool→Int→Int→Int→Int→Int→Int→Option ((List (S52))×Bool)
 |0,_,_,_,_,_,_,_,_,_=>none
 |k+1,x1,x6,x25,x398000,x398001,x398002,x398003,x398004,x398005=>if x25=true then(some (x6,false)) else((spec_RsCode.f k x1 x398001).bind fun bt403=>((spec_Unpack8.f k bt403.1 (wrap64 (8*(bt403.1.length:Int)))).bind fun bt407=>((spec_Weave.f k bt407.1 x398002).bind fun bt411=>((spec_Stir.f k bt411.1 46080 x398003).bind fun bt415=>((spec_Map.f k x398000 bt415.1).bind fun bt419=>(spec_Send.l0 k x6 bt419.1 0 x398000 x398001 x398002 x398003 x398004 x398005))))))
def spec_Send.l0:Nat→List (S52)→List (S52)→Int→Int→Int→Int→Int→Int→Int→Option ((List (S52))×Bool)
 |0,_,_,_,_,_,_,_,_,_=>none
 |k+1,x6,x11,x13,x398000,x398001,x398002,x398003,x398004,x398005=>if x13<x398004 then(if x6.length<8796093022208 then(spec_Send.l0 k (x6++[(⟨wrap64 (32*x398005),0⟩:S52)]) x11 (wrap64 (x13+1)) x398000 x398001 x398002 x398003 x398004 x398005) else(none)) else(spec_Send.l1 k x6 x11 0 x398000 x398001 x398002 x398003 x398004 x398005)
def spec_Send.l1:Nat→List (S52)→List (S52)→Int→Int→Int→Int→Int→Int→Int→Option ((List (S52))×Bool)
 |0,_,_,_,_,_,_,_,_,_=>none
 |k+1,x6,x11,x14,x398000,x398001,x398002,x398003,x398004,x398005=>if x14<(x11.length:Int) then(spec_Send.l2 k x6 x11 x14 0 x398000 x398001 x398002 x398003 x398004 x398005) else(some (x6,true))
def spec_Send.l2:Nat→List (S52)→List (S52)→Int→Int→Int→Int→Int→Int→Int→Int→Option ((List (S52))×Bool)
 |0,_,_,_,_,_,_,_,_,_,_=>none
 |k+1,x6,x11,x14,x15,x398000,x398001,x398002,x398003,x398004,x398005=>if x15<x398004 then(if 0≤x14 then(if x14<(x11.length:Int) then(if x6.length<8796093022208 then(spec_Send.l2 k (x6++[(⟨wrap64 (((rd_T52 x11 x14).f0)*x398005),wrap64 (((rd_T52 x11 x14).f1)*x398005)⟩:S52)]) x11 x14 (wrap64 (x15+1)) x398000 x398001 x398002 x398003 x398004 x398005) else(none)) else(none)) else(none)) else(spec_Send.l1 k x6 x11 (wrap64 (x14+1)) x398000 x398001 x398002 x398003 x398004 x398005)
end
def spec_Send.f (k:Nat) (a0_0:Int) (a0_1:Int) (a0_2:Int) (a0_3:Int) (a0_4:Int) (a0_5:Int) (l1:List Int):Option ((List (S52))×Bool):=(some (([]:List (S52)):List (S52))).bind fun y398=>((spec_ModemOk.f a0_0 a0_1 a0_2 a0_3 a0_4 a0_5).bind fun t401=>(if t401=true then((spec_l1In.f (l1.length:Int) 1 40).bind fun t402=>(spec_Send.j0 k l1 y398 (!t402) a0_0 a0_1 a0_2 a0_3 a0_4 a0_5)) else(spec_Send.j0 k l1 y398 true a0_0 a0_1 a0_2 a0_3 a0_4 a0_5)))
def spec_Send.T19:Bool×List (List Nat×List Nat):=(true,[([],[]),([],[]),([],[]),([1,2],[1,2]),([3],[3]),([4],[4]),([],[]),([6],[6]),([5,7],[5,7]),([],[]),([],[]),([9,10],[9,10]),([11],[11]),([12],[12]),([],[]),([14],[14]),([13,15],[13,15]),([8,16],[8,16]),([17],[17]),([0,18],[0,18]),([19,19,0,1,2,3,4,5,6,7,8,9,10,11,12,13,14,15,16,17,18,19],[0,19])])
def spec_Send.B19:List Nat:=[0,0,0,6,14,30,0,64,254,0,0,1536,3584,7680,0,16384,65024,131070,262142,524287,1048575]
theorem spec_Send.tab19:rtab .any (opsOf Try.f7 19)=spec_Send.T19:=by kernel_rfl
theorem spec_Send.bits19:waitsOk spec_Send.T19.2 spec_Send.B19=true:=by kernel_rfl
theorem spec_Send.calls (k:Nat) (a0_0:Int) (a0_1:Int) (a0_2:Int) (a0_3:Int) (a0_4:Int) (a0_5:Int) (A1:Option Addr) (c1:Nat) (l1:List Int) (r1:List (S52)) (r2:Bool) (w:World) (hr1:Kd.C (Kd.int .u8) w A1 l1.length l1) (hc1:l1.length≤c1) (H:spec_Send.f k a0_0 a0_1 a0_2 a0_3 a0_4 a0_5 l1=some (r1,r2)):
 Calls Try.prog 7 #[.agg #[.int .i64 a0_0, .int .i64 a0_1, .int .i64 a0_2, .int .i64 a0_3, .int .i64 a0_4, .int .i64 a0_5], .slice A1 l1.length c1] w fun e w'=>∃v0_:Value,e= .returned (.tuple #[v0_, .bool r2])∧Kd.R k52 52 w' w.heap.size (fun _=>True) v0_ r1∧Below w.heap.size w w':=by
 have hu28:=Try.underlying28
 have hu52:=Try.underlying52
 have HR1:=zM hr1
 have HC1:=zM hc1
 clear hr1 hc1
 have HB:=zM (Below.refl w.heap.size w)
 unfold spec_Send.f at H
 replace H:=zY H
 obtain⟨y398,Ny398,H⟩:=H
 have HC3:=zM H
 clear H
 go_enter Try.func7,Try.ntmps7
 go_upto_region 2 with(first|((with_reducible refine gate_dst (N:=2) rfl ?_);(try(refine gate_guard (by rfl) ?_;dsimp only));refine box_event ?hg (N:=2) ?hd (cs:= #[.int .i64 a0_0, .int .i64 a0_1, .int .i64 a0_2, .int .i64 a0_3, .int .i64 a0_4, .int .i64 a0_5]) (t:=28) ?hr ?_;(case hd|hg=>rfl);(case hr=>exact zh);intro gb397 hg w4 hbox hb;have n0_:=zM (below_step zb hb);have n1_:=zM (hbox);have n2_:=zM ((zw hg (below_size zb)));have n3_:=zM n2_.out;clear HB;have HB:=n0_;have BK397:=n1_;have GW397:=n2_;have GE397:=n3_;clear n0_ n1_ n2_ n3_;clear hb hbox hg)|((with_reducible refine gate_dst (N:=16) rfl ?_);(try(refine gate_guard (by rfl) ?_;dsimp only));refine Kd.R_lit k52 _ 52 ?hg (N:=16) ?hd (xs:=([]:List (S52))) (inner:=[]) (ok:=fun _=>True) (okp:=fun _=>True) ?hr ?hp (fun _ hk=>hk) trivial (Below.refl _ _) (Nat.le_refl _) (by simp) ?_;(case hd|hg=>rfl);(case hr=>exact zh);(case hp=>exact(Reps.none _ _));intro v399 w5 ho6 hb hg_ hnew_;clear hg_ hnew_;(first|rw[←Ny398.out] at ho6|simp only[Int.reduceToNat,←Ny398.out] at ho6);refine zS3 (Kd.R_lower ho6 (below_size zb7)) (zNb (g:=gb397) (o:= .cells #[.int .i64 a0_0, .int .i64 a0_1, .int .i64 a0_2, .int .i64 a0_3, .int .i64 a0_4, .int .i64 a0_5] 28 (0,0)) (zn BK397) hb) (below_step zb7 hb) ?_;clear BK397 HB;intro HO400 BK397 HB;clear hb ho6))
 (try simp only[Act.put,zL1,zL2,zL3])
 go_cut [25] (fun v25 wc=>∃(kq:Nat) (x25_2:Bool),v25= .bool x25_2∧Aside0 (spec_Send.j0 kq l1 y398 x25_2 a0_0 a0_1 a0_2 a0_3 a0_4 a0_5=some (r1,r2))∧Aside0 (kq≤k)∧Aside0 (Kd.R k52 52 wc w.heap.size (fun _=>True) v399 y398)∧Aside0 (wc.heap[gb397]? =some (.cells #[.int .i64 a0_0, .int .i64 a0_1, .int .i64 a0_2, .int .i64 a0_3, .int .i64 a0_4, .int .i64 a0_5] 28 (0,0)))∧Aside0 (Below w.heap.size w wc))
 case first=>
  have H:=HC3.out
  clear HC3
  replace H:=zP H
  obtain⟨t401,A7,H⟩:=H
  by_cases c8:t401=true
  case neg=>
   replace c8:=Bool.eq_false_iff.mpr c8
   subst c8
   rw[if_neg zFT] at H
   have H':=zM H
   clear H
   obtain⟨hcz12_0,hcz12_1,hcz12_2,hcz12_3,hcz12_4,hcz12_5,hfz12_0,hfz12_1,hfz12_2,hfz12_3,hfz12_4,hfz12_5⟩:=zc6 BK397.out
   go_wp2_with (first|((with_reducible refine gate_callee (f:=29) rfl ?_);refine goesL_ (some 18) rfl rfl Try.func29 ze rfl #[.agg #[.int .i64 a0_0, .int .i64 a0_1, .int .i64 a0_2, .int .i64 a0_3, .int .i64 a0_4, .int .i64 a0_5]] rfl zg ?_;(with_reducible refine(spec_ModemOk.calls a0_0 a0_1 a0_2 a0_3 a0_4 a0_5 false _ A7.out).mono ?_);rintro e w13 ⟨rfl,hb⟩;refine⟨_,rfl,?_⟩;refine zS3 (Kd.R_below (zr HO400) hb) (zNb (g:=gb397) (o:= .cells #[.int .i64 a0_0, .int .i64 a0_1, .int .i64 a0_2, .int .i64 a0_3, .int .i64 a0_4, .int .i64 a0_5] 28 (0,0)) (zn BK397) hb) (below_step zb7 hb) ?_;clear HO400 BK397 HB;intro HO400 BK397 HB;(try clear hb);(try clear hb2);(try clear hk);(try clear hi)))
   go_meet
   case rel=>exact⟨_,(true),zs,H',⟨zo⟩,⟨zr HO400⟩,⟨zn BK397⟩,⟨zb7⟩⟩
  subst c8
  rw[if_pos rfl] at H
  replace H:=zP H
  obtain⟨t402,A9,H⟩:=H
  have H':=zM H
  clear H
  obtain⟨hcz10_0,hcz10_1,hcz10_2,hcz10_3,hcz10_4,hcz10_5,hfz10_0,hfz10_1,hfz10_2,hfz10_3,hfz10_4,hfz10_5⟩:=zc6 BK397.out
  go_wp2_with (first|((with_reducible refine gate_callee (f:=29) rfl ?_);refine goesL_ (some 18) rfl rfl Try.func29 ze rfl #[.agg #[.int .i64 a0_0, .int .i64 a0_1, .int .i64 a0_2, .int .i64 a0_3, .int .i64 a0_4, .int .i64 a0_5]] rfl zg ?_;(with_reducible refine(spec_ModemOk.calls a0_0 a0_1 a0_2 a0_3 a0_4 a0_5 true _ A7.out).mono ?_);rintro e w11 ⟨rfl,hb⟩;refine⟨_,rfl,?_⟩;refine zS3 (Kd.R_below (zr HO400) hb) (zNb (g:=gb397) (o:= .cells #[.int .i64 a0_0, .int .i64 a0_1, .int .i64 a0_2, .int .i64 a0_3, .int .i64 a0_4, .int .i64 a0_5] 28 (0,0)) (zn BK397) hb) (below_step zb7 hb) ?_;clear HO400 BK397 HB;intro HO400 BK397 HB;(try clear hb);(try clear hb2);(try clear hk);(try clear hi))|(go_at_call 30;(with_reducible refine(spec_l1In.calls (l1.length:Int) 1 40 t402 _ A9.out).mono ?_);rintro e w' ⟨rfl,⟨nd,rfl⟩⟩))
  go_meet
  case rel=>exact⟨_,(!t402),zs,H',⟨zo⟩,⟨zr HO400⟩,⟨zn BK397⟩,⟨zb7⟩⟩
 case rest=>
  clear HC3
  obtain⟨kq,x25_2,rfl,HA,HJ2,HO_6,BK397,HB⟩:=hcut
  cases kq with
  |zero=>exact absurd HA.out (by simp[spec_Send.j0])
  | succ kj2=>
   have H:=HA.out
   clear HA
   simp only[spec_Send.j0] at H
   by_cases c14:x25_2=true
   case pos=>
    subst c14
    rw[if_pos rfl] at H
    simp only[Option.some.injEq,Prod.mk.injEq] at H
    obtain⟨rfl,rfl⟩:=H
    go_wp2
    go_ret2
    exact⟨_,zq,zr HO_6,zb7⟩
   replace c14:=Bool.eq_false_iff.mpr c14
   subst c14
   rw[if_neg zFT] at H
   replace H:=zP H
   obtain⟨⟨t403,t404⟩,A15,H⟩:=H
   dsimp only at H
   replace H:=zP H
   obtain⟨⟨t407,t408⟩,A16,H⟩:=H
   dsimp only at H
   replace H:=zP H
   obtain⟨⟨t411,t412⟩,A17,H⟩:=H
   dsimp only at H
   replace H:=zP H
   obtain⟨⟨t415,t416⟩,A18,H⟩:=H
   dsimp only at H
   replace H:=zP H
   obtain⟨⟨t419,t420⟩,A19,H⟩:=H
   dsimp only at H
   have H':=zM H
   clear H
   obtain⟨hcz20_0,hcz20_1,hcz20_2,hcz20_3,hcz20_4,hcz20_5,hfz20_0,hfz20_1,hfz20_2,hfz20_3,hfz20_4,hfz20_5⟩:=zc6 BK397.out
   go_wp2_with (first|((with_reducible refine gate_callee (f:=31) rfl ?_);refine goesL_ (some 31) rfl rfl Try.func31 ze rfl #[.slice A1 l1.length c1, .int .i64 a0_1] rfl zg ?_;(with_reducible refine(spec_RsCode.calls kj2 _ _ l1 a0_1 t403 t404 _ ?side1 ?side2 A15.out).mono ?_);(case side1=>exact zc (Kd.C_below HR1.out HB.out));(case side2=>exact HC1.out);rintro e w21 ⟨v405,rfl,ho0,hb⟩;refine⟨_,rfl,?_⟩;refine zS4 (Kd.R_below (zr HO_6) hb) (Kd.R_lower ho0 (below_size zb7)) (zNb (g:=gb397) (o:= .cells #[.int .i64 a0_0, .int .i64 a0_1, .int .i64 a0_2, .int .i64 a0_3, .int .i64 a0_4, .int .i64 a0_5] 28 (0,0)) (zn BK397) hb) (below_step zb7 hb) ?_;clear HO_6 BK397 HB;intro HO_6 HO406 BK397 HB;(try clear hb);(try clear hb2);(try clear hk);(try clear hi);(try clear ho0);obtain⟨Ao22,co22,eo22⟩:=Kd.R_slice HO406.out;subst eo22)|((with_reducible refine gate_callee (f:=32) rfl ?_);refine goesL_ (some 39) rfl rfl Try.func32 ze rfl #[.slice Ao22 t403.length co22, .int .i64 (wrap64 (8*(t403.length:Int)))] rfl zg ?_;(with_reducible refine(spec_Unpack8.calls kj2 _ _ t403 (wrap64 (8*(t403.length:Int))) t407 t408 _ ?side1 ?side2 A16.out).mono ?_);(case side1=>exact zc (Kd.R_reads' HO406.out).2.2);(case side2=>exact(Kd.R_reads' HO406.out).2.1);rintro e w23 ⟨v409,rfl,ho0,hb⟩;refine⟨_,rfl,?_⟩;refine zS5 (Kd.R_below (zr HO_6) hb) (Kd.R_below (zr HO406) hb) (Kd.R_lower ho0 (below_size zb7)) (zNb (g:=gb397) (o:= .cells #[.int .i64 a0_0, .int .i64 a0_1, .int .i64 a0_2, .int .i64 a0_3, .int .i64 a0_4, .int .i64 a0_5] 28 (0,0)) (zn BK397) hb) (below_step zb7 hb) ?_;clear HO_6 HO406 BK397 HB;intro HO_6 HO406 HO410 BK397 HB;(try clear hb);(try clear hb2);(try clear hk);(try clear hi);(try clear ho0);obtain⟨hcz24_0,hcz24_1,hcz24_2,hcz24_3,hcz24_4,hcz24_5,hfz24_0,hfz24_1,hfz24_2,hfz24_3,hfz24_4,hfz24_5⟩:=zc6 BK397.out;obtain⟨Ao25,co25,eo25⟩:=Kd.R_slice HO410.out;subst eo25)|((with_reducible refine gate_callee (f:=33) rfl ?_);refine goesL_ (some 46) rfl rfl Try.func33 ze rfl #[.slice Ao25 t407.length co25, .int .i64 a0_2] rfl zg ?_;(with_reducible refine(spec_Weave.calls kj2 _ _ t407 a0_2 t411 t412 _ ?side1 ?side2 A17.out).mono ?_);(case side1=>exact zc (Kd.R_reads' HO410.out).2.2);(case side2=>exact(Kd.R_reads' HO410.out).2.1);rintro e w26 ⟨v413,rfl,ho0,hb⟩;refine⟨_,rfl,?_⟩;refine zS6 (Kd.R_below (zr HO_6) hb) (Kd.R_below (zr HO406) hb) (Kd.R_elder' (zr HO410) (Kd.R_base ho0) hb) (Kd.R_lower (Kd.R_new' ho0 (Kd.R_lt (zr HO410))) (below_size zb7)) (zNb (g:=gb397) (o:= .cells #[.int .i64 a0_0, .int .i64 a0_1, .int .i64 a0_2, .int .i64 a0_3, .int .i64 a0_4, .int .i64 a0_5] 28 (0,0)) (zn BK397) hb) (below_step zb7 hb) ?_;clear HO_6 HO406 HO410 BK397 HB;intro HO_6 HO406 HO410 HO414 BK397 HB;(try clear hb);(try clear hb2);(try clear hk);(try clear hi);(try clear ho0);obtain⟨hcz27_0,hcz27_1,hcz27_2,hcz27_3,hcz27_4,hcz27_5,hfz27_0,hfz27_1,hfz27_2,hfz27_3,hfz27_4,hfz27_5⟩:=zc6 BK397.out;obtain⟨Ao28,co28,eo28⟩:=Kd.R_slice HO414.out;subst eo28)|((with_reducible refine gate_callee (f:=34) rfl ?_);refine goesL_ (some 53) rfl rfl Try.func34 ze rfl #[.slice Ao28 t411.length co28, .int .i64 46080, .int .i64 a0_3] rfl zg ?_;(with_reducible refine(spec_Stir.calls kj2 _ _ t411 46080 a0_3 t415 t416 _ ?side1 ?side2 A18.out).mono ?_);(case side1=>exact zc (Kd.R_reads' HO414.out).2.2);(case side2=>exact(Kd.R_reads' HO414.out).2.1);rintro e w29 ⟨v417,rfl,ho0,hb⟩;refine⟨_,rfl,?_⟩;refine zS7 (Kd.R_below (zr HO_6) hb) (Kd.R_below (zr HO406) hb) (Kd.R_elder' (zr HO410) (Kd.R_base ho0) hb) (Kd.R_elder' (zr HO414) (Kd.R_base ho0) hb) (Kd.R_lower (Kd.R_new' (Kd.R_new' ho0 (Kd.R_lt (zr HO410))) (Kd.R_lt (zr HO414))) (below_size zb7)) (zNb (g:=gb397) (o:= .cells #[.int .i64 a0_0, .int .i64 a0_1, .int .i64 a0_2, .int .i64 a0_3, .int .i64 a0_4, .int .i64 a0_5] 28 (0,0)) (zn BK397) hb) (below_step zb7 hb) ?_;clear HO_6 HO406 HO410 HO414 BK397 HB;intro HO_6 HO406 HO410 HO414 HO418 BK397 HB;(try clear hb);(try clear hb2);(try clear hk);(try clear hi);(try clear ho0);obtain⟨hcz30_0,hcz30_1,hcz30_2,hcz30_3,hcz30_4,hcz30_5,hfz30_0,hfz30_1,hfz30_2,hfz30_3,hfz30_4,hfz30_5⟩:=zc6 BK397.out;obtain⟨Ao31,co31,eo31⟩:=Kd.R_slice HO418.out;subst eo31)|((with_reducible refine gate_callee (f:=35) rfl ?_);refine goesL_ (some 60) rfl rfl Try.func35 ze rfl #[.int .i64 a0_0, .slice Ao31 t415.length co31] rfl zg ?_;(with_reducible refine(spec_Map.calls kj2 a0_0 _ _ t415 t419 t420 _ ?side1 ?side2 A19.out).mono ?_);(case side1=>exact zc (Kd.R_reads' HO418.out).2.2);(case side2=>exact(Kd.R_reads' HO418.out).2.1);rintro e w32 ⟨v421,rfl,ho0,hb⟩;refine⟨_,rfl,?_⟩;refine zS8 (Kd.R_elder' (zr HO_6) (Kd.R_base ho0) hb) (Kd.R_below (zr HO406) hb) (Kd.R_below (zr HO410) hb) (Kd.R_below (zr HO414) hb) (Kd.R_below (zr HO418) hb) (Kd.R_lower (Kd.R_new' ho0 (Kd.R_lt (zr HO_6))) (below_size zb7)) (zNb (g:=gb397) (o:= .cells #[.int .i64 a0_0, .int .i64 a0_1, .int .i64 a0_2, .int .i64 a0_3, .int .i64 a0_4, .int .i64 a0_5] 28 (0,0)) (zn BK397) hb) (below_step zb7 hb) ?_;clear HO_6 HO406 HO410 HO414 HO418 BK397 HB;intro HO_6 HO406 HO410 HO414 HO418 HO422 BK397 HB;(try clear hb);(try clear hb2);(try clear hk);(try clear hi);(try clear ho0)))
   (try simp only[Act.put,zL1,zL2,zL3])
   go_loopg [6,13] kj2 (fun kq v6 v13 w'=>∃(x6_2:List (S52)) (x13_2:Int),v13= .int .i64 x13_2∧Aside0 (spec_Send.l0 kq x6_2 t419 x13_2 a0_0 a0_1 a0_2 a0_3 a0_4 a0_5=some (r1,r2))∧Aside0 (kq≤kj2)∧Aside0 (Kd.R k52 52 w' w.heap.size (fun k_=>some k_≠(v421:Value).ownBlock) v6 x6_2)∧Aside0 (Kd.R k52 52 w' w.heap.size (fun k_=>some k_≠(v6:Value).ownBlock) v421 t419)∧Aside0 (w'.heap[gb397]? =some (.cells #[.int .i64 a0_0, .int .i64 a0_1, .int .i64 a0_2, .int .i64 a0_3, .int .i64 a0_4, .int .i64 a0_5] 28 (0,0)))∧Aside0 (Below w.heap.size w w'))
   case atStart=>exact⟨(y398),(0),zs,H',⟨Nat.le_refl _⟩,⟨by(with_reducible repeat(first|apply zRa|apply zRn|apply zRd));first|exact Kd.R_mono HO_6.out (fun _ hk=>hk.2)|(subst_vars;exact Kd.R_mono HO_6.out (fun _ hk=>hk.2))⟩,⟨by(with_reducible repeat(first|apply zRa|apply zRn|apply zRd));first|exact Kd.R_mono HO422.out (fun _ hk=>hk.2)|(subst_vars;exact Kd.R_mono HO422.out (fun _ hk=>hk.2))⟩,⟨zn BK397⟩,⟨zb7⟩⟩
   case round=>
    clear H'
    clear hcz20_0 hcz20_1 hcz20_2 hcz20_3 hcz20_4 hcz20_5 hcz24_0 hcz24_1 hcz24_2 hcz24_3 hcz24_4 hcz24_5 hcz27_0 hcz27_1 hcz27_2 hcz27_3 hcz27_4 hcz27_5 hcz30_0 hcz30_1 hcz30_2 hcz30_3 hcz30_4 hcz30_5 hfz20_0 hfz20_1 hfz20_2 hfz20_3 hfz20_4 hfz20_5 hfz24_0 hfz24_1 hfz24_2 hfz24_3 hfz24_4 hfz24_5 hfz27_0 hfz27_1 hfz27_2 hfz27_3 hfz27_4 hfz27_5 hfz30_0 hfz30_1 hfz30_2 hfz30_3 hfz30_4 hfz30_5
    obtain⟨x6_2,x13_2,rfl,HA,HK2,HO_6,HO_11,BK397,HB⟩:=hrel
    cases gk with
    |zero=>exact absurd HA.out (by simp[spec_Send.l0])
    | succ k2=>
     have H:=HA.out
     clear HA
     simp only[spec_Send.l0] at H
     replace H:=zI2 H
     rcases H with⟨c33,H⟩|⟨c33,H⟩
     case inl=>
      have c33b0:=zE c33
      clear c33
      replace H:=zIM H
      obtain⟨LMc34,H⟩:=H
      obtain⟨y423,hy423⟩:∃y_:List (S52),y_=(x6_2++[(⟨wrap64 (32*a0_5),0⟩:S52)]):=⟨_,rfl⟩
      rw[←hy423] at H
      have Ny423:=zM hy423
      clear hy423
      have H':=zM H
      clear H
      obtain⟨hcz35_0,hcz35_1,hcz35_2,hcz35_3,hcz35_4,hcz35_5,hfz35_0,hfz35_1,hfz35_2,hfz35_3,hfz35_4,hfz35_5⟩:=zc6 BK397.out
      go_wp2_with (first|((with_reducible refine gate_builtin (b:= .append) (xs:= #[.tmp 69, .tmp 74]) rfl ?_);(try(refine gate_guard (by rfl) ?_;dsimp only));at_builtin;refine Kd.R_append k52 (w0:=w) w.heap.size rfl (.tmp 69) (.tmp 74) 25 52 (.agg #[(.int .i64 0),(.int .i64 0)]) 16 rfl Try.underlying25 info52 rfl (by decide) (by omega) u6 x6_2 (⟨wrap64 (32*a0_5),0⟩:S52) [.int .i64 (wrap64 (32*a0_5)), .int .i64 0] (fun k_=>some k_≠(v421:Value).ownBlock) (fun _=>False) rfl rfl ?aP (fun _ hk=>hk.elim) ?aF ?aO ?aB ?aS ?aL ?_;(case aP=>exact k52_mkM _ _ _ (⟨wrap64 (32*a0_5),0⟩:S52));(case aB=>exact zb7);(case aF=>exact(fun k_ hk=>Kd.fresh' (Kd.R_lt (zr HO_11)) k_ hk));(case aO=>exact(zr HO_6));(case aS=>exact(below_size zb7));(case aL=>have:=LMc34.out;omega);intro v424 w36 ho hb hg hat;(first|rw[←Ny423.out] at ho|simp only[Int.reduceToNat,←Ny423.out] at ho);refine zS4 (Kd.R_after (ok:=(fun _=>True)) (by(with_reducible repeat(first|apply zRa|apply zRn|apply zRd));first|exact Kd.R_mono HO_11.out (fun _ hk=>⟨trivial,hk⟩)|(subst_vars;exact Kd.R_mono HO_11.out (fun _ hk=>⟨trivial,hk⟩))) hg hat) (blk_grown (g:=gb397) (o:= .cells #[.int .i64 a0_0, .int .i64 a0_1, .int .i64 a0_2, .int .i64 a0_3, .int .i64 a0_4, .int .i64 a0_5] 28 (0,0)) (zn BK397) hg (Kd.R_ne HO_6.out BK397.out (by decide))) (hb) (ho) ?_;clear HO_11 BK397 HB HO_6;intro HO_11 BK397 HB HO425;clear ho hb hg hat))
      go_roundg k2
      case measure=>have:=HJ2.out;have:=HK2.out;omega
      case rel=>exact⟨(y423),(wrap64 (x13_2+1)),zs,H',⟨zl2 HJ2 HK2⟩,⟨zr HO425⟩,⟨by(with_reducible repeat(first|apply zRa|apply zRn|apply zRd));first|exact Kd.R_mono HO_11.out (fun _ hk=>hk.2)|(subst_vars;exact Kd.R_mono HO_11.out (fun _ hk=>hk.2))⟩,⟨zn BK397⟩,⟨zb7⟩⟩
     have c33b0:=decide_eq_false c33
     clear c33
     have H':=zM H
     clear H
     obtain⟨hcz37_0,hcz37_1,hcz37_2,hcz37_3,hcz37_4,hcz37_5,hfz37_0,hfz37_1,hfz37_2,hfz37_3,hfz37_4,hfz37_5⟩:=zc6 BK397.out
     go_wp2
     (try simp only[Act.put,zL1,zL2,zL3])
     go_loopg [6,14] k2 (fun kq v6 v14 w'=>∃(x6_3:List (S52)) (x14_3:Int),v14= .int .i64 x14_3∧Aside0 (spec_Send.l1 kq x6_3 t419 x14_3 a0_0 a0_1 a0_2 a0_3 a0_4 a0_5=some (r1,r2))∧Aside0 (kq≤k2)∧Aside0 (Kd.R k52 52 w' w.heap.size (fun k_=>some k_≠(v421:Value).ownBlock) v6 x6_3)∧Aside0 (Kd.R k52 52 w' w.heap.size (fun k_=>some k_≠(v6:Value).ownBlock) v421 t419)∧Aside0 (w'.heap[gb397]? =some (.cells #[.int .i64 a0_0, .int .i64 a0_1, .int .i64 a0_2, .int .i64 a0_3, .int .i64 a0_4, .int .i64 a0_5] 28 (0,0)))∧Aside0 (Below w.heap.size w w'))
     case atStart=>exact⟨(x6_2),(0),zs,H',⟨Nat.le_refl _⟩,⟨zr HO_6⟩,⟨zr HO_11⟩,⟨zn BK397⟩,⟨zb7⟩⟩
     case round=>
      clear H'
      clear c33b0 hcz37_0 hcz37_1 hcz37_2 hcz37_3 hcz37_4 hcz37_5 hfz37_0 hfz37_1 hfz37_2 hfz37_3 hfz37_4 hfz37_5
      obtain⟨x6_3,x14_3,rfl,HA,HK3,HO_6,HO_11,BK397,HB⟩:=hrel
      cases gk with
      |zero=>exact absurd HA.out (by simp[spec_Send.l1])
      | succ k3=>
       have H:=HA.out
       clear HA
       simp only[spec_Send.l1] at H
       replace H:=zI2 H
       rcases H with⟨c38,H⟩|⟨c38,H⟩
       case inr=>
        have c38b0:=decide_eq_false c38
        clear c38
        simp only[Option.some.injEq,Prod.mk.injEq] at H
        obtain⟨rfl,rfl⟩:=H
        obtain⟨Ao48,co48,eo48⟩:=Kd.R_slice HO_11.out
        subst eo48
        go_wp2
        go_ret2
        exact⟨_,zq,by(with_reducible repeat(first|apply zRa|apply zRn|apply zRd));first|exact Kd.R_mono HO_6.out (fun _ hk=>trivial)|(subst_vars;exact Kd.R_mono HO_6.out (fun _ hk=>trivial)),zb7⟩
       have c38b0:=zE c38
       clear c38
       have H':=zM H
       clear H
       obtain⟨Ao39,co39,eo39⟩:=Kd.R_slice HO_11.out
       subst eo39
       go_wp2
       (try simp only[Act.put,zL1,zL2,zL3])
       go_loopg [6,15] k3 (fun kq v6 v15 w'=>∃(x6_4:List (S52)) (x15_4:Int),v15= .int .i64 x15_4∧Aside0 (spec_Send.l2 kq x6_4 t419 x14_3 x15_4 a0_0 a0_1 a0_2 a0_3 a0_4 a0_5=some (r1,r2))∧Aside0 (kq≤k3)∧Aside0 (Kd.R k52 52 w' w.heap.size (fun k_=>some k_≠((.slice Ao39 t419.length co39):Value).ownBlock) v6 x6_4)∧Aside0 (Kd.R k52 52 w' w.heap.size (fun k_=>some k_≠(v6:Value).ownBlock) (.slice Ao39 t419.length co39) t419)∧Aside0 (w'.heap[gb397]? =some (.cells #[.int .i64 a0_0, .int .i64 a0_1, .int .i64 a0_2, .int .i64 a0_3, .int .i64 a0_4, .int .i64 a0_5] 28 (0,0)))∧Aside0 (Below w.heap.size w w'))
       case atStart=>exact⟨(x6_3),(0),zs,H',⟨Nat.le_refl _⟩,⟨zr HO_6⟩,⟨zr HO_11⟩,⟨zn BK397⟩,⟨zb7⟩⟩
       case round=>
        clear H'
        clear c38b0
        obtain⟨x6_4,x15_4,rfl,HA,HK4,HO_6,HO_11,BK397,HB⟩:=hrel
        cases gk with
        |zero=>exact absurd HA.out (by simp[spec_Send.l2])
        | succ k4=>
         have H:=HA.out
         clear HA
         simp only[spec_Send.l2] at H
         replace H:=zI2 H
         rcases H with⟨c40,H⟩|⟨c40,H⟩
         case inr=>
          have c40b0:=decide_eq_false c40
          clear c40
          have H':=zM H
          clear H
          obtain⟨hcz47_0,hcz47_1,hcz47_2,hcz47_3,hcz47_4,hcz47_5,hfz47_0,hfz47_1,hfz47_2,hfz47_3,hfz47_4,hfz47_5⟩:=zc6 BK397.out
          go_wp2
          go_roundg k4
          case measure=>have:=HJ2.out;have:=HK2.out;have:=HK3.out;have:=HK4.out;omega
          case rel=>exact⟨(x6_4),(wrap64 (x14_3+1)),zs,H',⟨by have:=HJ2.out;have:=HK2.out;have:=HK3.out;have:=HK4.out;omega⟩,⟨zr HO_6⟩,⟨zr HO_11⟩,⟨zn BK397⟩,⟨zb7⟩⟩
         have c40b0:=zE c40
         clear c40
         replace H:=zID H
         obtain⟨c41b0,H⟩:=H
         replace H:=zID H
         obtain⟨c42b0,H⟩:=H
         replace H:=zIM H
         obtain⟨LMc43,H⟩:=H
         obtain⟨y428,hy428⟩:∃y_:List (S52),y_=(x6_4++[(⟨wrap64 (((rd_T52 t419 x14_3).f0)*a0_5),wrap64 (((rd_T52 t419 x14_3).f1)*a0_5)⟩:S52)]):=⟨_,rfl⟩
         rw[←hy428] at H
         have Ny428:=zM hy428
         clear hy428
         have H':=zM H
         clear H
         obtain⟨hcz44_0,hcz44_1,hcz44_2,hcz44_3,hcz44_4,hcz44_5,hfz44_0,hfz44_1,hfz44_2,hfz44_3,hfz44_4,hfz44_5⟩:=zc6 BK397.out
         try go_wp2
         refine zS4 (zRd HO_6.out) (zRd HO_11.out) (zNd BK397.out) (zBd HB.out) ?_
         clear HO_6 HO_11 BK397 HB
         intro HO_6 HO_11 BK397 HB
         have p426:0≤(x14_3:Int):=zT (by assumption)
         have q426:x14_3<(t419.length:Int):=zT (by assumption)
         obtain⟨ad426,e426,hx426_0,hx426_1⟩:=at_T52 (Kd.R_reads' HO_11.out).2.2 x14_3 p426 q426
         cases e426
         replace p426:=eq_true p426
         replace q426:=eq_true q426
         have p427:0≤(x14_3:Int):=zT (by assumption)
         have q427:x14_3<(t419.length:Int):=zT (by assumption)
         obtain⟨ad427,e427,hx427_0,hx427_1⟩:=at_T52 (Kd.R_reads' HO_11.out).2.2 x14_3 p427 q427
         obtain rfl:ad426=ad427:=(by injection e427)
         replace p427:=eq_true p427
         replace q427:=eq_true q427
         refine start_ (n:=21) (S:=fun w'=>w'.cell? ⟨gb397,0,none⟩=some (.int .i64 a0_0)∧w'.cell? ⟨gb397,1,none⟩=some (.int .i64 a0_1)∧w'.cell? ⟨gb397,2,none⟩=some (.int .i64 a0_2)∧w'.cell? ⟨gb397,3,none⟩=some (.int .i64 a0_3)∧w'.cell? ⟨gb397,4,none⟩=some (.int .i64 a0_4)∧w'.cell? ⟨gb397,5,none⟩=some (.int .i64 a0_5)∧w'.cell? (ad426.add ((x14_3).toNat*2))=some (.int .i64 ((rd_T52 t419 x14_3).f0))∧w'.cell? ⟨(ad426.add ((x14_3).toNat*2)).block,(ad426.add ((x14_3).toNat*2)).off+1,none⟩=some (.int .i64 ((rd_T52 t419 x14_3).f1))∧w'.cell? (ad426.add ((x14_3).toNat*2))=some (.int .i64 ((rd_T52 t419 x14_3).f0))∧w'.cell? ⟨(ad426.add ((x14_3).toNat*2)).block,(ad426.add ((x14_3).toNat*2)).off+1,none⟩=some (.int .i64 ((rd_T52 t419 x14_3).f1))) (ds:=[18,19]) #[zf,zf,zf,zf,zf,zf,zf,zf,zf,zf,zf,zf,zf,zf,zf,zf,zf,zf,zf,zf,zf] ze rfl rfl ⟨(blk_cell BK397.out 0).trans rfl,(blk_cell BK397.out 1).trans rfl,(blk_cell BK397.out 2).trans rfl,(blk_cell BK397.out 3).trans rfl,(blk_cell BK397.out 4).trans rfl,(blk_cell BK397.out 5).trans rfl,hx426_0,hx426_1,hx427_0,hx427_1⟩ (fun hHeld=> ?_);refine with_tabW spec_Send.tab19 spec_Send.bits19 (fun HT_ HW_=> ?_)
         generalize wr.drew=w45 at HO_6 HO_11 BK397 HB hx426_0 hx426_1 hx427_0 hx427_1 hHeld ⊢
         refine zu 0 88 ?_
         refine zu 1 89 ?_
         refine zu 2 90 ?_
         refine zu 3 91 ?_
         refine zu 4 92 ?_
         refine zu 6 94 ?_
         refine zu 9 97 ?_
         refine zu 10 98 ?_
         refine zu 11 99 ?_
         refine zu 12 100 ?_
         refine zu 14 102 ?_
         refine zt10 5 93 ?_
         refine zt10 7 95 ?_
         refine zu 8 96 ?_
         refine zt10 13 101 ?_
         refine zt10 15 103 ?_
         refine zu 16 104 ?_
         refine zu 17 105 ?_
         refine last_ (i:=18) (N:=some 106) #[zt,zt,zt,zt,zt,zt,zt,zt,zt,zt,zt,zt,zt,zt,zt,zt,zt,zt,zt,zf,zf] rfl rfl (one_of HT_.out ze) (by decide) (fun K hK=> ?_)
         refine value_ (w1:= ?_) (v:= ?_) (by rfl) rfl ?_ ?_
         rotate_left 2
         ·go_simp
          constructor
          ·rfl
          ·rfl
         refine hK.out _ _ ?_
         clear hK K
         refine norm_ (a':= ?_) ?_ ?_
         rotate_left
         ·show Act.put _ (some 106) _=_
          simp only[Act.put,zL1,zL2,zL3,i64_w,i32_w]
          rfl
         refine last_ (i:=19) (N:=some 107) #[zt,zt,zt,zt,zt,zt,zt,zt,zt,zt,zt,zt,zt,zt,zt,zt,zt,zt,zt,zt,zf] rfl rfl (one_of HT_.out ze) (by decide) (fun K hK=> ?_)
         refine Kd.R_append_step k52 (w0:=w) w.heap.size (by rfl) (.tmp 88) (.tmp 106) 25 52 (.agg #[(.int .i64 0),(.int .i64 0)]) 16 rfl Try.underlying25 info52 rfl (by decide) (by omega) u6 x6_4 (⟨wrap64 (((rd_T52 t419 x14_3).f0)*a0_5),wrap64 (((rd_T52 t419 x14_3).f1)*a0_5)⟩:S52) [.int .i64 (wrap64 (((rd_T52 t419 x14_3).f0)*a0_5)), .int .i64 (wrap64 (((rd_T52 t419 x14_3).f1)*a0_5))] (fun k_=>some k_≠(.slice (some ad426) t419.length co39:Value).ownBlock) (fun _=>False) rfl rfl ?aP (fun _ hk=>hk.elim) ?aF ?aO ?aB ?aS ?aL ?_
         (case aP=>exact k52_mkM _ _ _ (⟨wrap64 (((rd_T52 t419 x14_3).f0)*a0_5),wrap64 (((rd_T52 t419 x14_3).f1)*a0_5)⟩:S52))
         (case aB=>exact zb7)
         (case aF=>exact(fun k_ hk=>Kd.fresh' (Kd.R_lt (zr HO_11)) k_ hk))
         (case aO=>exact(zr HO_6))
         (case aS=>exact(below_size zb7))
         (case aL=>have:=LMc43.out;omega)
         intro v429 w46 ho hb hg hat
         (first|rw[←Ny428.out] at ho|simp only[Int.reduceToNat,←Ny428.out] at ho)
         refine zS4 (Kd.R_after (ok:=(fun _=>True)) (by(with_reducible repeat(first|apply zRa|apply zRn|apply zRd));first|exact Kd.R_mono HO_11.out (fun _ hk=>⟨trivial,hk⟩)|(subst_vars;exact Kd.R_mono HO_11.out (fun _ hk=>⟨trivial,hk⟩))) hg hat) (blk_grown (g:=gb397) (o:= .cells #[.int .i64 a0_0, .int .i64 a0_1, .int .i64 a0_2, .int .i64 a0_3, .int .i64 a0_4, .int .i64 a0_5] 28 (0,0)) (zn BK397) hg (Kd.R_ne HO_6.out BK397.out (by decide))) (hb) (ho) ?_
         clear HO_11 BK397 HB HO_6
         intro HO_11 BK397 HB HO430
         clear ho hb hg hat
         refine hK.out _ _ ?_
         clear hK K
         refine norm_ (a':= ?_) ?_ ?_
         rotate_left
         ·show Act.put _ (some 107) _=_
          simp only[Act.put,zL1,zL2,zL3,i64_w,i32_w]
          rfl
         refine zu 20 6 ?_
         refine done_ (done_of HT_.out ze) ?_
         try go_wp2
         go_roundg k4
         case measure=>have:=HJ2.out;have:=HK2.out;have:=HK3.out;have:=HK4.out;omega
         case rel=>exact⟨(y428),(wrap64 (x15_4+1)),zs,H',⟨by have:=HJ2.out;have:=HK2.out;have:=HK3.out;have:=HK4.out;omega⟩,⟨zr HO430⟩,⟨by(with_reducible repeat(first|apply zRa|apply zRn|apply zRd));first|exact Kd.R_mono HO_11.out (fun _ hk=>hk.2)|(subst_vars;exact Kd.R_mono HO_11.out (fun _ hk=>hk.2))⟩,⟨zn BK397⟩,⟨zb7⟩⟩
end Go.Proofs.Ytapobpkeefeajaa.PFnModem
