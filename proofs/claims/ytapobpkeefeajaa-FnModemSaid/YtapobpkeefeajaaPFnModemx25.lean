-- A turned copy of the print's text.
import Derived.Test.YtapobpkeefeajaaPFnModemx0
import Derived.Test.YtapobpkeefeajaaPFnModemx6
import Derived.Test.YtapobpkeefeajaaPFnModemx7
import Derived.Test.YtapobpkeefeajaaPFnModemx16
import Derived.Test.YtapobpkeefeajaaPFnModemx17
import Derived.Test.YtapobpkeefeajaaPFnModemx23
import Derived.Test.YtapobpkeefeajaaPFnModemx24
namespace Go.Proofs.Ytapobpkeefeajaa.PFnModem
open Go.RowKit Go.Proofs.YtapobpkeefeajaaW.PrintWords Go.Proofs.YtapobpkeefeajaaW.PrintLast Go.Proofs.YtapobpkeefeajaaW.PrintMore
attribute [local go_sem] max2_int min2_int max_two min_two max_three min_three max_four min_four
set_option maxHeartbeats 8000000
set_option maxRecDepth 100000
set_option linter.unusedVariables false
set_option linter.unusedSimpArgs false
mutual
def laws_FnModem.j0:Nat→List Int→List Int→Int→Int→List (S52)→List Int→List (S52)→Bool→Int→Int→Int→Int→Int→Int→Option (Bool)
 |0,_,_,_,_,_,_,_,_,_,_,_,_,_,_=>none
 |k+1,x0,x4,x5,x6,x7,x8,x9,x70,x570000,x570001,x570002,x570003,x570004,x570005=>if x70=true then(some false) else(laws_FnModem.l0 k x0 x4 x5 x6 x7 x8 x9 0 x570000 x570001 x570002 x570003 x570004 x570005)
def laws_FnModem.l0:Nat→List Int→List Int→Int→Int→List (S52)→List Int→List (S52)→Int→Int→Int→Int→Int→Int→Int→Option (Bool)
 |0,_,_,_,_,_,_,_,_,_,_,_,_,_,_=>none
 |k+1,x0,x4,x5,x6,x7,x8,x9,x15,x570000,x570001,x570002,x570003,x570004,x570005=>if x15<(x8.length:Int) then(laws_FnModem.l1 k x0 x4 x5 x6 x7 x8 x9 x15 0 x570000 x570001 x570002 x570003 x570004 x570005) else((impl_Air.f k x9 x5 x6 x7).bind fun bt578=>((impl_Hear.f k x570000 x570001 x570002 x570003 x570004 x570005 bt578.1 (x4.length:Int)).bind fun bt582=>(if bt578.2=true then(if bt582.2.2=true then((laws_sameBytes.f bt582.1 x4).bind fun t587=>(if t587=true then(some (decide (bt582.2.1≤x570001))) else(some false))) else(some false)) else(some false))))
def laws_FnModem.l1:Nat→List Int→List Int→Int→Int→List (S52)→List Int→List (S52)→Int→Int→Int→Int→Int→Int→Int→Int→Option (Bool)
 |0,_,_,_,_,_,_,_,_,_,_,_,_,_,_,_=>none
 |k+1,x0,x4,x5,x6,x7,x8,x9,x15,x16,x570000,x570001,x570002,x570003,x570004,x570005=>if x16<x570004 then(if 0≤x15 then(if x15<(x8.length:Int) then(if(wrap64 ((wrap64 (x5+(wrap64 ((rd x8 x15)*x570004))))+x16))<(x7.length:Int) then((laws_at.f x0 (wrap64 (x15+x16))).bind fun t589=>((laws_at.f x0 (wrap64 ((wrap64 (x15+x16))+1))).bind fun t590=>(if 0≤(wrap64 ((wrap64 (x5+(wrap64 ((rd x8 x15)*x570004))))+x16)) then(laws_FnModem.l1 k x0 x4 x5 x6 (x7.set ((wrap64 ((wrap64 (x5+(wrap64 ((rd x8 x15)*x570004))))+x16)):Int).toNat (⟨wrap64 ((wrap64 (t589*2000))-250000),wrap64 ((wrap64 (t590*2000))-250000)⟩:S52)) x8 x9 x15 (wrap64 (x16+1)) x570000 x570001 x570002 x570003 x570004 x570005) else(none)))) else(laws_FnModem.l1 k x0 x4 x5 x6 x7 x8 x9 x15 (wrap64 (x16+1)) x570000 x570001 x570002 x570003 x570004 x570005)) else(none)) else(none)) else(laws_FnModem.l0 k x0 x4 x5 x6 x7 x8 x9 (wrap64 (x15+1)) x570000 x570001 x570002 x570003 x570004 x570005)
end
def laws_FnModem.f (k:Nat) (l0:List Int):Option (Bool):=(laws_big.f l0).bind fun t551=>(if t551=true then(some true) else((spec_DrawWay.f k l0).bind fun bt552=>((impl_Send.f k bt552.1 bt552.2.1 bt552.2.2.1 bt552.2.2.2.1 bt552.2.2.2.2.1 bt552.2.2.2.2.2.1 bt552.2.2.2.2.2.2.1).bind fun bt570=>((impl_Budget.f bt552.1 bt552.2.1 bt552.2.2.1 bt552.2.2.2.1 bt552.2.2.2.2.1 bt552.2.2.2.2.2.1).bind fun bt574=>((spec_Budget.f bt552.1 bt552.2.1 bt552.2.2.1 bt552.2.2.2.1 bt552.2.2.2.2.1 bt552.2.2.2.2.2.1).bind fun bt576=>(if bt570.2=true then(if bt574.1=bt576.1 then(if bt574.2=bt576.2 then(laws_FnModem.j0 k l0 bt552.2.2.2.2.2.2.1 bt552.2.2.2.2.2.2.2.1 bt552.2.2.2.2.2.2.2.2.1 bt552.2.2.2.2.2.2.2.2.2.1 bt552.2.2.2.2.2.2.2.2.2.2 bt570.1 ((bt552.2.2.2.2.2.2.2.2.2.1.length:Int) != (wrap64 (bt552.2.2.2.2.2.2.2.1+(bt570.1.length:Int)))) bt552.1 bt552.2.1 bt552.2.2.1 bt552.2.2.2.1 bt552.2.2.2.2.1 bt552.2.2.2.2.2.1) else(laws_FnModem.j0 k l0 bt552.2.2.2.2.2.2.1 bt552.2.2.2.2.2.2.2.1 bt552.2.2.2.2.2.2.2.2.1 bt552.2.2.2.2.2.2.2.2.2.1 bt552.2.2.2.2.2.2.2.2.2.2 bt570.1 true bt552.1 bt552.2.1 bt552.2.2.1 bt552.2.2.2.1 bt552.2.2.2.2.1 bt552.2.2.2.2.2.1)) else(laws_FnModem.j0 k l0 bt552.2.2.2.2.2.2.1 bt552.2.2.2.2.2.2.2.1 bt552.2.2.2.2.2.2.2.2.1 bt552.2.2.2.2.2.2.2.2.2.1 bt552.2.2.2.2.2.2.2.2.2.2 bt570.1 true bt552.1 bt552.2.1 bt552.2.2.1 bt552.2.2.2.1 bt552.2.2.2.2.1 bt552.2.2.2.2.2.1)) else(laws_FnModem.j0 k l0 bt552.2.2.2.2.2.2.1 bt552.2.2.2.2.2.2.2.1 bt552.2.2.2.2.2.2.2.2.1 bt552.2.2.2.2.2.2.2.2.2.1 bt552.2.2.2.2.2.2.2.2.2.2 bt570.1 true bt552.1 bt552.2.1 bt552.2.2.1 bt552.2.2.2.1 bt552.2.2.2.2.1 bt552.2.2.2.2.2.1)))))))
theorem laws_FnModem.calls (k:Nat) (A0:Option Addr) (c0:Nat) (l0:List Int) (r:Bool) (w:World) (hr0:Kd.C (Kd.int .u8) w A0 l0.length l0) (hc0:l0.length≤c0) (hr_:r=true) (H:laws_FnModem.f k l0=some r):
 Calls Try.prog 6 #[.slice A0 l0.length c0] w fun e w'=>e= .returned (.bool r)∧Below w.heap.size w w':=by
 have hu28:=Try.underlying28
 have hu52:=Try.underlying52
 have HR0:=zM hr0
 have HC0:=zM hc0
 clear hr0 hc0
 have HB:=zM (Below.refl w.heap.size w)
 unfold laws_FnModem.f at H
 replace H:=zP H
 obtain⟨t551,A2,H⟩:=H
 by_cases c3:t551=true
 case pos=>
  subst c3
  rw[if_pos rfl] at H
  obtain rfl:=zI H
  go_enter Try.func6,Try.ntmps6
  go_wp2_with (first|(go_at_call 16;(with_reducible refine(laws_big.calls _ _ l0 true _ ?side1 ?side2 A2.out).mono ?_);(case side1=>exact zc HR0.out);(case side2=>exact HC0.out);rintro e w' ⟨rfl,⟨nd,rfl⟩⟩;(try first|exact⟨rfl,_,zD _ _ _⟩|exact⟨rfl,_,Eq.trans (zD _ _ _) (congrArg (World.drewN _) (Nat.add_assoc _ _ _))⟩)))
  repeat(go_quiet (first|(go_at_call 16;(with_reducible refine(laws_big.calls _ _ l0 true _ ?side1 ?side2 A2.out).mono ?_);(case side1=>exact zc HR0.out);(case side2=>exact HC0.out);rintro e w' ⟨rfl,⟨nd,rfl⟩⟩;(try first|exact⟨rfl,_,zD _ _ _⟩|exact⟨rfl,_,Eq.trans (zD _ _ _) (congrArg (World.drewN _) (Nat.add_assoc _ _ _))⟩)));try go_wp2_with (first|(go_at_call 16;(with_reducible refine(laws_big.calls _ _ l0 true _ ?side1 ?side2 A2.out).mono ?_);(case side1=>exact zc HR0.out);(case side2=>exact HC0.out);rintro e w' ⟨rfl,⟨nd,rfl⟩⟩;(try first|exact⟨rfl,_,zD _ _ _⟩|exact⟨rfl,_,Eq.trans (zD _ _ _) (congrArg (World.drewN _) (Nat.add_assoc _ _ _))⟩))))
  go_ret
  exact⟨zq,zb⟩
 replace c3:=Bool.eq_false_iff.mpr c3
 subst c3
 rw[if_neg zFT] at H
 replace H:=zP H
 obtain⟨⟨t552,t553,t554,t555,t556,t557,t558,t561,t562,t563,t566⟩,A4,H⟩:=H
 dsimp only at H
 replace H:=zP H
 obtain⟨⟨t570,t573⟩,A5,H⟩:=H
 dsimp only at H
 replace H:=zP H
 obtain⟨⟨t574,t575⟩,A6,H⟩:=H
 dsimp only at H
 replace H:=zP H
 obtain⟨⟨t576,t577⟩,A7,H⟩:=H
 dsimp only at H
 have HC8:=zM H
 clear H
 go_enter Try.func6,Try.ntmps6
 go_upto_region 7 with(first|(go_at_call 16;(with_reducible refine(laws_big.calls _ _ l0 false _ ?side1 ?side2 A2.out).mono ?_);(case side1=>exact zc HR0.out);(case side2=>exact HC0.out);rintro e w' ⟨rfl,⟨nd,rfl⟩⟩;(try first|exact⟨rfl,_,zD _ _ _⟩|exact⟨rfl,_,Eq.trans (zD _ _ _) (congrArg (World.drewN _) (Nat.add_assoc _ _ _))⟩))|(go_at_call 26;(with_reducible refine(spec_DrawWay.calls k _ _ l0 t552 t553 t554 t555 t556 t557 t558 t561 t562 t563 t566 _ ?side1 ?side2 A4.out).mono ?_);(case side1=>exact zc HR0.out);(case side2=>exact HC0.out);rintro e w9 ⟨v559,v564,v567,rfl,ho0,ho1,ho2,hb⟩;refine zS4 (Kd.R_lower ho0 (below_size zb)) (Kd.R_lower ho1 (below_size zb)) (Kd.R_lower ho2 (below_size zb)) (below_step zb hb) ?_;clear HB;intro HO560 HO565 HO568 HB;(try clear hb);(try clear hb2);(try clear hk);(try clear hi);(try clear ho0);(try clear ho1);(try clear ho2))|((with_reducible refine gate_dst (N:=3) rfl ?_);(try(refine gate_guard (by rfl) ?_;dsimp only));refine box_event ?hg (N:=3) ?hd (cs:= #[.int .i64 0, .int .i64 0, .int .i64 0, .int .i64 0, .int .i64 0, .int .i64 0]) (t:=28) ?hr ?_;(case hd|hg=>rfl);(case hr=>exact zh);intro gb569 hg w10 hbox hb;have n0_:=zM (Kd.R_below (zr HO560) hb);have n1_:=zM (Kd.R_below (zr HO565) hb);have n2_:=zM (Kd.R_below (zr HO568) hb);have n3_:=zM (below_step zb hb);have n4_:=zM (hbox);have n5_:=zM ((zw hg (below_size zb)));have n6_:=zM n5_.out;clear HO560;clear HO565;clear HO568;clear HB;have HO560:=n0_;have HO565:=n1_;have HO568:=n2_;have HB:=n3_;have BK569:=n4_;have GW569:=n5_;have GE569:=n6_;clear n0_ n1_ n2_ n3_ n4_ n5_ n6_;clear hb hbox hg;obtain⟨hcz11_0,hcz11_1,hcz11_2,hcz11_3,hcz11_4,hcz11_5,hfz11_0,hfz11_1,hfz11_2,hfz11_3,hfz11_4,hfz11_5⟩:=zc6 BK569.out;obtain⟨Ao12,co12,eo12⟩:=Kd.R_slice HO560.out;subst eo12)|(go_at_call 10;(with_reducible refine(impl_Send.calls k t552 t553 t554 t555 t556 t557 _ _ t558 t570 t573 _ ?side1 ?side2 A5.out).mono ?_);(case side1=>refine(Kd.R_reads' (e:=5) (base:=w.heap.size) (ok:=fun k_=>True) (n:=t558.length) (c:=co12) ?_).2.2;exact(by(with_reducible repeat(first|apply zRa|apply zRn|apply zRd));exact(Kd.R_mono (Kd.R_far (p:=⟨gb569,5,none⟩) (Kd.R_far (p:=⟨gb569,4,none⟩) (Kd.R_far (p:=⟨gb569,3,none⟩) (Kd.R_far (p:=⟨gb569,2,none⟩) (Kd.R_far (p:=⟨gb569,1,none⟩) (Kd.R_far (p:=⟨gb569,0,none⟩) (Kd.R_types HO560.out BK569.out (by decide)) (fun _ hk=>hk.2) (.int .i64 t552)) (fun _ hk=>hk.2) (.int .i64 t553)) (fun _ hk=>hk.2) (.int .i64 t554)) (fun _ hk=>hk.2) (.int .i64 t555)) (fun _ hk=>hk.2) (.int .i64 t556)) (fun _ hk=>hk.2) (.int .i64 t557)) (fun _ h_=>h_.1))));(case side2=>exact(Kd.R_reads' HO560.out).2.1);rintro e w13 ⟨v571,rfl,ho0,hb⟩;refine zS6 (Kd.R_below (by(with_reducible repeat(first|apply zRa|apply zRn|apply zRd));exact(Kd.R_mono (Kd.R_far (p:=⟨gb569,5,none⟩) (Kd.R_far (p:=⟨gb569,4,none⟩) (Kd.R_far (p:=⟨gb569,3,none⟩) (Kd.R_far (p:=⟨gb569,2,none⟩) (Kd.R_far (p:=⟨gb569,1,none⟩) (Kd.R_far (p:=⟨gb569,0,none⟩) (Kd.R_types HO560.out BK569.out (by decide)) (fun _ hk=>hk.2) (.int .i64 t552)) (fun _ hk=>hk.2) (.int .i64 t553)) (fun _ hk=>hk.2) (.int .i64 t554)) (fun _ hk=>hk.2) (.int .i64 t555)) (fun _ hk=>hk.2) (.int .i64 t556)) (fun _ hk=>hk.2) (.int .i64 t557)) (fun _ h_=>h_.1))) hb) (Kd.R_elder' (by(with_reducible repeat(first|apply zRa|apply zRn|apply zRd));exact(Kd.R_mono (Kd.R_far (p:=⟨gb569,5,none⟩) (Kd.R_far (p:=⟨gb569,4,none⟩) (Kd.R_far (p:=⟨gb569,3,none⟩) (Kd.R_far (p:=⟨gb569,2,none⟩) (Kd.R_far (p:=⟨gb569,1,none⟩) (Kd.R_far (p:=⟨gb569,0,none⟩) (Kd.R_types HO565.out BK569.out (by decide)) (fun _ hk=>hk.2) (.int .i64 t552)) (fun _ hk=>hk.2) (.int .i64 t553)) (fun _ hk=>hk.2) (.int .i64 t554)) (fun _ hk=>hk.2) (.int .i64 t555)) (fun _ hk=>hk.2) (.int .i64 t556)) (fun _ hk=>hk.2) (.int .i64 t557)) (fun _ h_=>h_.1))) (Kd.R_base ho0) hb) (Kd.R_below (by(with_reducible repeat(first|apply zRa|apply zRn|apply zRd));exact(Kd.R_mono (Kd.R_far (p:=⟨gb569,5,none⟩) (Kd.R_far (p:=⟨gb569,4,none⟩) (Kd.R_far (p:=⟨gb569,3,none⟩) (Kd.R_far (p:=⟨gb569,2,none⟩) (Kd.R_far (p:=⟨gb569,1,none⟩) (Kd.R_far (p:=⟨gb569,0,none⟩) (Kd.R_types HO568.out BK569.out (by decide)) (fun _ hk=>hk.2) (.int .i64 t552)) (fun _ hk=>hk.2) (.int .i64 t553)) (fun _ hk=>hk.2) (.int .i64 t554)) (fun _ hk=>hk.2) (.int .i64 t555)) (fun _ hk=>hk.2) (.int .i64 t556)) (fun _ hk=>hk.2) (.int .i64 t557)) (fun _ h_=>h_.1))) hb) (Kd.R_lower (Kd.R_new' ho0 (Kd.R_lt (by(with_reducible repeat(first|apply zRa|apply zRn|apply zRd));exact(Kd.R_mono (Kd.R_far (p:=⟨gb569,5,none⟩) (Kd.R_far (p:=⟨gb569,4,none⟩) (Kd.R_far (p:=⟨gb569,3,none⟩) (Kd.R_far (p:=⟨gb569,2,none⟩) (Kd.R_far (p:=⟨gb569,1,none⟩) (Kd.R_far (p:=⟨gb569,0,none⟩) (Kd.R_types HO565.out BK569.out (by decide)) (fun _ hk=>hk.2) (.int .i64 t552)) (fun _ hk=>hk.2) (.int .i64 t553)) (fun _ hk=>hk.2) (.int .i64 t554)) (fun _ hk=>hk.2) (.int .i64 t555)) (fun _ hk=>hk.2) (.int .i64 t556)) (fun _ hk=>hk.2) (.int .i64 t557)) (fun _ h_=>h_.1))))) (below_size zb16)) (zNb (g:=gb569) (o:= .cells #[.int .i64 t552, .int .i64 t553, .int .i64 t554, .int .i64 t555, .int .i64 t556, .int .i64 t557] 28 (0,0)) (by(with_reducible repeat(first|apply zNn|apply zNd|apply zNa));exact blk_put (blk_put (blk_put (blk_put (blk_put (blk_put (BK569.out) 0 _ rfl) 1 _ rfl) 2 _ rfl) 3 _ rfl) 4 _ rfl) 5 _ rfl) hb) (below_step zb16 hb) ?_;clear HO560 HO565 HO568 BK569 HB;intro HO560 HO565 HO568 HO572 BK569 HB;(try clear hb);(try clear hb2);(try clear hk);(try clear hi);(try clear ho0);obtain⟨hcz14_0,hcz14_1,hcz14_2,hcz14_3,hcz14_4,hcz14_5,hfz14_0,hfz14_1,hfz14_2,hfz14_3,hfz14_4,hfz14_5⟩:=zc6 BK569.out)|(go_at_call 27;(with_reducible refine(impl_Budget.calls t552 t553 t554 t555 t556 t557 t574 t575 _ A6.out).mono ?_);rintro e w15 ⟨rfl,hb⟩;refine zS6 (Kd.R_below (zr HO560) hb) (Kd.R_below (zr HO565) hb) (Kd.R_below (zr HO568) hb) (Kd.R_below (zr HO572) hb) (zNb (g:=gb569) (o:= .cells #[.int .i64 t552, .int .i64 t553, .int .i64 t554, .int .i64 t555, .int .i64 t556, .int .i64 t557] 28 (0,0)) (zn BK569) hb) (below_step zb16 hb) ?_;clear HO560 HO565 HO568 HO572 BK569 HB;intro HO560 HO565 HO568 HO572 BK569 HB;(try clear hb);(try clear hb2);(try clear hk);(try clear hi);obtain⟨hcz16_0,hcz16_1,hcz16_2,hcz16_3,hcz16_4,hcz16_5,hfz16_0,hfz16_1,hfz16_2,hfz16_3,hfz16_4,hfz16_5⟩:=zc6 BK569.out)|(go_at_call 28;(with_reducible refine(spec_Budget.calls t552 t553 t554 t555 t556 t557 t576 t577 _ A7.out).mono ?_);rintro e w17 ⟨rfl,hb⟩;refine zS6 (Kd.R_below (zr HO560) hb) (Kd.R_below (zr HO565) hb) (Kd.R_below (zr HO568) hb) (Kd.R_below (zr HO572) hb) (zNb (g:=gb569) (o:= .cells #[.int .i64 t552, .int .i64 t553, .int .i64 t554, .int .i64 t555, .int .i64 t556, .int .i64 t557] 28 (0,0)) (zn BK569) hb) (below_step zb16 hb) ?_;clear HO560 HO565 HO568 HO572 BK569 HB;intro HO560 HO565 HO568 HO572 BK569 HB;(try clear hb);(try clear hb2);(try clear hk);(try clear hi)))
 (try simp only[Act.put,zL1,zL2,zL3])
 go_cut [70] (fun v70 wc=>∃(kq:Nat) (x70_7:Bool),v70= .bool x70_7∧Aside0 (laws_FnModem.j0 kq l0 t558 t561 t562 t563 t566 t570 x70_7 t552 t553 t554 t555 t556 t557=some r)∧Aside0 (kq≤k)∧Aside0 (Kd.R (Kd.int .u8) 5 wc w.heap.size (fun _=>True) (.slice Ao12 t558.length co12) t558)∧Aside0 (Kd.R k52 52 wc w.heap.size (fun k_=>some k_≠(v571:Value).ownBlock) v564 t563)∧Aside0 (Kd.R (Kd.int .i64) 3 wc w.heap.size (fun _=>True) v567 t566)∧Aside0 (Kd.R k52 52 wc w.heap.size (fun k_=>some k_≠(v564:Value).ownBlock) v571 t570)∧Aside0 (wc.heap[gb569]? =some (.cells #[.int .i64 t552, .int .i64 t553, .int .i64 t554, .int .i64 t555, .int .i64 t556, .int .i64 t557] 28 (0,0)))∧Aside0 (Below w.heap.size w wc))
 case first=>
  have H:=HC8.out
  clear HC8
  by_cases c18:t573=true
  case neg=>
   replace c18:=Bool.eq_false_iff.mpr c18
   subst c18
   rw[if_neg zFT] at H
   have H':=zM H
   clear H
   go_wp2
   repeat(go_quiet (fail);try go_wp2)
   go_meet
   case rel=>exact⟨_,(true),zs,H',⟨zo⟩,⟨zr HO560⟩,⟨by(with_reducible repeat(first|apply zRa|apply zRn|apply zRd));first|exact Kd.R_mono HO565.out (fun _ hk=>hk.2)|(subst_vars;exact Kd.R_mono HO565.out (fun _ hk=>hk.2))⟩,⟨zr HO568⟩,⟨by(with_reducible repeat(first|apply zRa|apply zRn|apply zRd));first|exact Kd.R_mono HO572.out (fun _ hk=>hk.2)|(subst_vars;exact Kd.R_mono HO572.out (fun _ hk=>hk.2))⟩,⟨zn BK569⟩,⟨zb16⟩⟩
  subst c18
  rw[if_pos rfl] at H
  replace H:=zI2 H
  rcases H with⟨c19,H⟩|⟨c19,H⟩
  case inr=>
   have c19b0:(t574==t576)=false:=beq_eq_false_iff_ne.mpr c19
   have c19b1:(t574 != t576)=true:=bne_iff_ne.mpr c19
   (first|rw[c19b0]|(simp only[i64_w,i32_w];rw[c19b0])|skip)
   have H':=zM H
   clear H
   go_wp2
   repeat(go_quiet (fail);try go_wp2)
   go_meet
   case rel=>exact⟨_,(true),zs,H',⟨zo⟩,⟨zr HO560⟩,⟨by(with_reducible repeat(first|apply zRa|apply zRn|apply zRd));first|exact Kd.R_mono HO565.out (fun _ hk=>hk.2)|(subst_vars;exact Kd.R_mono HO565.out (fun _ hk=>hk.2))⟩,⟨zr HO568⟩,⟨by(with_reducible repeat(first|apply zRa|apply zRn|apply zRd));first|exact Kd.R_mono HO572.out (fun _ hk=>hk.2)|(subst_vars;exact Kd.R_mono HO572.out (fun _ hk=>hk.2))⟩,⟨zn BK569⟩,⟨zb16⟩⟩
  have c19b0:(t574==t576)=true:=beq_iff_eq.mpr c19
  have c19b1:(t574 != t576)=false:=bne_eq_false_iff_eq.mpr c19
  clear c19
  (first|rw[c19b0]|(simp only[i64_w,i32_w];rw[c19b0])|skip)
  replace H:=zI2 H
  rcases H with⟨c20,H⟩|⟨c20,H⟩
  case inr=>
   have c20b0:(t575==t577)=false:=beq_eq_false_iff_ne.mpr c20
   have c20b1:(t575 != t577)=true:=bne_iff_ne.mpr c20
   have H':=zM H
   clear H
   go_wp2
   repeat(go_quiet (fail);try go_wp2)
   go_meet
   case rel=>exact⟨_,(true),zs,H',⟨zo⟩,⟨zr HO560⟩,⟨by(with_reducible repeat(first|apply zRa|apply zRn|apply zRd));first|exact Kd.R_mono HO565.out (fun _ hk=>hk.2)|(subst_vars;exact Kd.R_mono HO565.out (fun _ hk=>hk.2))⟩,⟨zr HO568⟩,⟨by(with_reducible repeat(first|apply zRa|apply zRn|apply zRd));first|exact Kd.R_mono HO572.out (fun _ hk=>hk.2)|(subst_vars;exact Kd.R_mono HO572.out (fun _ hk=>hk.2))⟩,⟨zn BK569⟩,⟨zb16⟩⟩
  have c20b0:(t575==t577)=true:=beq_iff_eq.mpr c20
  have c20b1:(t575 != t577)=false:=bne_eq_false_iff_eq.mpr c20
  clear c20
  have H':=zM H
  clear H
  obtain⟨Ao21,co21,eo21⟩:=Kd.R_slice HO565.out
  subst eo21
  obtain⟨Ao22,co22,eo22⟩:=Kd.R_slice HO572.out
  subst eo22
  go_wp2
  repeat(go_quiet (fail);try go_wp2)
  go_meet
  case rel=>exact⟨_,(((t563.length:Int) != (wrap64 (t561+(t570.length:Int))))),zs,H',⟨zo⟩,⟨zr HO560⟩,⟨by(with_reducible repeat(first|apply zRa|apply zRn|apply zRd));first|exact Kd.R_mono HO565.out (fun _ hk=>hk.2)|(subst_vars;exact Kd.R_mono HO565.out (fun _ hk=>hk.2))⟩,⟨zr HO568⟩,⟨by(with_reducible repeat(first|apply zRa|apply zRn|apply zRd));first|exact Kd.R_mono HO572.out (fun _ hk=>hk.2)|(subst_vars;exact Kd.R_mono HO572.out (fun _ hk=>hk.2))⟩,⟨zn BK569⟩,⟨zb16⟩⟩
 case rest=>
  clear HC8
  clear hcz11_0 hcz11_1 hcz11_2 hcz11_3 hcz11_4 hcz11_5 hcz14_0 hcz14_1 hcz14_2 hcz14_3 hcz14_4 hcz14_5 hcz16_0 hcz16_1 hcz16_2 hcz16_3 hcz16_4 hcz16_5 hfz11_0 hfz11_1 hfz11_2 hfz11_3 hfz11_4 hfz11_5 hfz14_0 hfz14_1 hfz14_2 hfz14_3 hfz14_4 hfz14_5 hfz16_0 hfz16_1 hfz16_2 hfz16_3 hfz16_4 hfz16_5
  obtain⟨kq,x70_7,rfl,HA,HJ7,HO_4,HO_7,HO_8,HO_9,BK569,HB⟩:=hcut
  cases kq with
  |zero=>exact absurd HA.out (by simp[laws_FnModem.j0])
  | succ kj7=>
   have H:=HA.out
   clear HA
   simp only[laws_FnModem.j0] at H
   by_cases c23:x70_7=true
   case pos=>
    subst c23
    rw[if_pos rfl] at H
    exact absurd (zI H) (by rw[hr_];decide)
   replace c23:=Bool.eq_false_iff.mpr c23
   subst c23
   rw[if_neg zFT] at H
   have H':=zM H
   clear H
   go_wp2
   repeat(go_quiet (fail);try go_wp2)
   (try simp only[Act.put,zL1,zL2,zL3])
   go_loopg [15] kj7 (fun kq v15 w'=>∃(x7_2:List (S52)) (x15_2:Int),v15= .int .i64 x15_2∧Aside0 (laws_FnModem.l0 kq l0 t558 t561 t562 x7_2 t566 t570 x15_2 t552 t553 t554 t555 t556 t557=some r)∧Aside0 (kq≤kj7)∧Aside0 (Kd.R (Kd.int .u8) 5 w' w.heap.size (fun _=>True) (.slice Ao12 t558.length co12) t558)∧Aside0 (Kd.R k52 52 w' w.heap.size (fun k_=>some k_≠(v571:Value).ownBlock) v564 x7_2)∧Aside0 (Kd.R (Kd.int .i64) 3 w' w.heap.size (fun _=>True) v567 t566)∧Aside0 (Kd.R k52 52 w' w.heap.size (fun k_=>some k_≠(v564:Value).ownBlock) v571 t570)∧Aside0 (w'.heap[gb569]? =some (.cells #[.int .i64 t552, .int .i64 t553, .int .i64 t554, .int .i64 t555, .int .i64 t556, .int .i64 t557] 28 (0,0)))∧Aside0 (Below w.heap.size w w'))
   case atStart=>exact⟨(t563),(0),zs,H',⟨Nat.le_refl _⟩,⟨zr HO_4⟩,⟨zr HO_7⟩,⟨zr HO_8⟩,⟨zr HO_9⟩,⟨zn BK569⟩,⟨zb16⟩⟩
   case round=>
    clear H'
    obtain⟨x7_2,x15_2,rfl,HA,HK2,HO_4,HO_7,HO_8,HO_9,BK569,HB⟩:=hrel
    cases gk with
    |zero=>exact absurd HA.out (by simp[laws_FnModem.l0])
    | succ k2=>
     have H:=HA.out
     clear HA
     simp only[laws_FnModem.l0] at H
     replace H:=zI2 H
     rcases H with⟨c24,H⟩|⟨c24,H⟩
     case inr=>
      have c24b0:=decide_eq_false c24
      clear c24
      replace H:=zP H
      obtain⟨⟨t578,t579⟩,A42,H⟩:=H
      dsimp only at H
      replace H:=zP H
      obtain⟨⟨t582,t585,t586⟩,A43,H⟩:=H
      dsimp only at H
      by_cases c44:t579=true
      case neg=>
       replace c44:=Bool.eq_false_iff.mpr c44
       subst c44
       rw[if_neg zFT] at H
       exact absurd (zI H) (by rw[hr_];decide)
      subst c44
      rw[if_pos rfl] at H
      by_cases c45:t586=true
      case neg=>
       replace c45:=Bool.eq_false_iff.mpr c45
       subst c45
       rw[if_neg zFT] at H
       exact absurd (zI H) (by rw[hr_];decide)
      subst c45
      rw[if_pos rfl] at H
      replace H:=zP H
      obtain⟨t587,A46,H⟩:=H
      by_cases c47:t587=true
      case neg=>
       replace c47:=Bool.eq_false_iff.mpr c47
       subst c47
       rw[if_neg zFT] at H
       exact absurd (zI H) (by rw[hr_];decide)
      subst c47
      rw[if_pos rfl] at H
      obtain rfl:=zI H
      obtain⟨Ao48,co48,eo48⟩:=Kd.R_slice HO_8.out
      subst eo48
      obtain⟨Ao49,co49,eo49⟩:=Kd.R_slice HO_9.out
      subst eo49
      obtain⟨Ao50,co50,eo50⟩:=Kd.R_slice HO_7.out
      subst eo50
      go_wp2_with (first|(go_at_call 18;(with_reducible refine(impl_Air.calls k2 _ _ t570 t561 t562 _ _ x7_2 t578 true _ ?side1 ?side2 ?side3 ?side4 A42.out).mono ?_);(case side1=>exact zc (Kd.R_reads' HO_9.out).2.2);(case side2=>exact(Kd.R_reads' HO_9.out).2.1);(case side3=>exact zc (Kd.R_reads' HO_7.out).2.2);(case side4=>exact(Kd.R_reads' HO_7.out).2.1);rintro e w51 ⟨v580,rfl,ho0,hb⟩;refine zS7 (Kd.R_below (zr HO_4) hb) (Kd.R_elder' (zr HO_7) (Kd.R_base ho0) hb) (Kd.R_below (zr HO_8) hb) (Kd.R_elder' (zr HO_9) (Kd.R_base ho0) hb) (Kd.R_lower (Kd.R_new' (Kd.R_new' ho0 (Kd.R_lt (zr HO_7))) (Kd.R_lt (zr HO_9))) (below_size zb16)) (zNb (g:=gb569) (o:= .cells #[.int .i64 t552, .int .i64 t553, .int .i64 t554, .int .i64 t555, .int .i64 t556, .int .i64 t557] 28 (0,0)) (zn BK569) hb) (below_step zb16 hb) ?_;clear HO_4 HO_7 HO_8 HO_9 BK569 HB;intro HO_4 HO_7 HO_8 HO_9 HO581 BK569 HB;(try clear hb);(try clear hb2);(try clear hk);(try clear hi);(try clear ho0);obtain⟨hcz52_0,hcz52_1,hcz52_2,hcz52_3,hcz52_4,hcz52_5,hfz52_0,hfz52_1,hfz52_2,hfz52_3,hfz52_4,hfz52_5⟩:=zc6 BK569.out;obtain⟨Ao53,co53,eo53⟩:=Kd.R_slice HO581.out;subst eo53)|(go_at_call 20;(with_reducible refine(impl_Hear.calls k2 t552 t553 t554 t555 t556 t557 _ _ t578 (t558.length:Int) t582 t585 true _ ?side1 ?side2 A43.out).mono ?_);(case side1=>exact zc (Kd.R_reads' HO581.out).2.2);(case side2=>exact(Kd.R_reads' HO581.out).2.1);rintro e w54 ⟨Ah,ch,rfl,hCh,hLh,hb⟩;have HLh:=zM hLh;clear hLh;have n0_:=zM (Kd.R_below (zr HO_4) hb);have n1_:=zM (Kd.R_below (zr HO_7) hb);have n2_:=zM (Kd.R_below (zr HO_8) hb);have n3_:=zM (Kd.R_below (zr HO_9) hb);have n4_:=zM (Kd.R_below (zr HO581) hb);have n5_:=zM hCh;have n6_:=zM (zNb (g:=gb569) (o:= .cells #[.int .i64 t552, .int .i64 t553, .int .i64 t554, .int .i64 t555, .int .i64 t556, .int .i64 t557] 28 (0,0)) (zn BK569) hb);have n7_:=zM (below_step zb16 hb);clear HO_4;clear HO_7;clear HO_8;clear HO_9;clear HO581;clear BK569;clear HB;have HO_4:=n0_;have HO_7:=n1_;have HO_8:=n2_;have HO_9:=n3_;have HO581:=n4_;have HO584:=n5_;have BK569:=n6_;have HB:=n7_;clear n0_ n1_ n2_ n3_ n4_ n5_ n6_ n7_;(try clear hb);(try clear hb2);(try clear hk);(try clear hi);(try clear ho0);(try clear hCh))|(go_at_call 21;(with_reducible refine(laws_sameBytes.calls _ _ t582 _ _ t558 true _ ?side1 ?side2 ?side3 ?side4 A46.out).mono ?_);(case side1=>exact zc HO584.out);(case side2=>exact HLh.out);(case side3=>exact zc (Kd.R_reads' HO_4.out).2.2);(case side4=>exact(Kd.R_reads' HO_4.out).2.1);rintro e w' ⟨rfl,⟨nd,rfl⟩⟩;(try first|exact⟨rfl,_,zD _ _ _⟩|exact⟨rfl,_,Eq.trans (zD _ _ _) (congrArg (World.drewN _) (Nat.add_assoc _ _ _))⟩);obtain⟨hcz56_0,hcz56_1,hcz56_2,hcz56_3,hcz56_4,hcz56_5,hfz56_0,hfz56_1,hfz56_2,hfz56_3,hfz56_4,hfz56_5⟩:=zc6 BK569.out))
      go_ret
      exact⟨zq,zb16⟩
     have c24b0:=zE c24
     clear c24
     have H':=zM H
     clear H
     obtain⟨Ao25,co25,eo25⟩:=Kd.R_slice HO_8.out
     subst eo25
     go_wp2
     repeat(go_quiet (fail);try go_wp2)
     (try simp only[Act.put,zL1,zL2,zL3])
     go_loopg [16] k2 (fun kq v16 w'=>∃(x7_3:List (S52)) (x16_3:Int),v16= .int .i64 x16_3∧Aside0 (laws_FnModem.l1 kq l0 t558 t561 t562 x7_3 t566 t570 x15_2 x16_3 t552 t553 t554 t555 t556 t557=some r)∧Aside0 (kq≤k2)∧Aside0 (Kd.R (Kd.int .u8) 5 w' w.heap.size (fun _=>True) (.slice Ao12 t558.length co12) t558)∧Aside0 (Kd.R k52 52 w' w.heap.size (fun k_=>some k_≠(v571:Value).ownBlock) v564 x7_3)∧Aside0 (Kd.R (Kd.int .i64) 3 w' w.heap.size (fun _=>True) (.slice Ao25 t566.length co25) t566)∧Aside0 (Kd.R k52 52 w' w.heap.size (fun k_=>some k_≠(v564:Value).ownBlock) v571 t570)∧Aside0 (w'.heap[gb569]? =some (.cells #[.int .i64 t552, .int .i64 t553, .int .i64 t554, .int .i64 t555, .int .i64 t556, .int .i64 t557] 28 (0,0)))∧Aside0 (Below w.heap.size w w'))
     case atStart=>exact⟨(x7_2),(0),zs,H',⟨Nat.le_refl _⟩,⟨zr HO_4⟩,⟨zr HO_7⟩,⟨zr HO_8⟩,⟨zr HO_9⟩,⟨zn BK569⟩,⟨zb16⟩⟩
     case round=>
      clear H'
      clear c24b0
      obtain⟨x7_3,x16_3,rfl,HA,HK3,HO_4,HO_7,HO_8,HO_9,BK569,HB⟩:=hrel
      cases gk with
      |zero=>exact absurd HA.out (by simp[laws_FnModem.l1])
      | succ k3=>
       have H:=HA.out
       clear HA
       simp only[laws_FnModem.l1] at H
       replace H:=zI2 H
       rcases H with⟨c26,H⟩|⟨c26,H⟩
       case inr=>
        have c26b0:=decide_eq_false c26
        clear c26
        have H':=zM H
        clear H
        obtain⟨hcz41_0,hcz41_1,hcz41_2,hcz41_3,hcz41_4,hcz41_5,hfz41_0,hfz41_1,hfz41_2,hfz41_3,hfz41_4,hfz41_5⟩:=zc6 BK569.out
        go_wp2
        repeat(go_quiet (fail);try go_wp2)
        go_roundg k3
        case measure=>have:=HJ7.out;have:=HK2.out;have:=HK3.out;omega
        case rel=>exact⟨(x7_3),(wrap64 (x15_2+1)),zs,H',⟨by have:=HJ7.out;have:=HK2.out;have:=HK3.out;omega⟩,⟨zr HO_4⟩,⟨zr HO_7⟩,⟨zr HO_8⟩,⟨zr HO_9⟩,⟨zn BK569⟩,⟨zb16⟩⟩
       have c26b0:=zE c26
       clear c26
       replace H:=zID H
       obtain⟨c27b0,H⟩:=H
       replace H:=zID H
       obtain⟨c28b0,H⟩:=H
       replace H:=zI2 H
       rcases H with⟨c29,H⟩|⟨c29,H⟩
       case inr=>
        have c29b0:=decide_eq_false c29
        clear c29
        have H':=zM H
        clear H
        obtain⟨hcz39_0,hcz39_1,hcz39_2,hcz39_3,hcz39_4,hcz39_5,hfz39_0,hfz39_1,hfz39_2,hfz39_3,hfz39_4,hfz39_5⟩:=zc6 BK569.out
        have p588:0≤(x15_2:Int):=zT (by assumption)
        have q588:x15_2<(t566.length:Int):=zT (by assumption)
        obtain⟨ad588,e588,hx588_0⟩:=Kd.at_int (Kd.R_reads' HO_8.out).2.2 x15_2 p588 q588
        cases e588
        replace p588:=eq_true p588
        replace q588:=eq_true q588
        obtain⟨Ao40,co40,eo40⟩:=Kd.R_slice HO_7.out
        subst eo40
        go_wp2
        repeat(go_quiet (fail);try go_wp2)
        go_roundg k3
        case measure=>have:=HJ7.out;have:=HK2.out;have:=HK3.out;omega
        case rel=>exact⟨(x7_3),(wrap64 (x16_3+1)),zs,H',⟨by have:=HJ7.out;have:=HK2.out;have:=HK3.out;omega⟩,⟨zr HO_4⟩,⟨zr HO_7⟩,⟨zr HO_8⟩,⟨zr HO_9⟩,⟨zn BK569⟩,⟨zb16⟩⟩
       have c29b0:=zE c29
       clear c29
       replace H:=zP H
       obtain⟨t589,A30,H⟩:=H
       replace H:=zP H
       obtain⟨t590,A31,H⟩:=H
       obtain⟨ji32,hji32⟩:∃j_:Int,(wrap64 ((wrap64 (t561+(wrap64 ((rd t566 x15_2)*t556))))+x16_3))=j_:=⟨_,rfl⟩
       first|rw[hji32] at H|simp only[hji32] at H
       (try rw[hji32] at c29b0)
       (try rw[hji32] at A30)
       (try rw[hji32] at A31)
       have hji32w:(IntKind.i64.wrap ((wrap64 (t561+(wrap64 ((rd t566 x15_2)*t556))))+x16_3))=ji32:=(i64_w _).trans hji32
       replace H:=zID H
       obtain⟨c33b0,H⟩:=H
       obtain⟨y591,hy591⟩:∃y_:List (S52),y_=(x7_3.set ((ji32):Int).toNat (⟨wrap64 ((wrap64 (t589*2000))-250000),wrap64 ((wrap64 (t590*2000))-250000)⟩:S52)):=⟨_,rfl⟩
       rw[←hy591] at H
       have Ny591:=zM hy591
       clear hy591
       have H':=zM H
       clear H
       obtain⟨hcz35_0,hcz35_1,hcz35_2,hcz35_3,hcz35_4,hcz35_5,hfz35_0,hfz35_1,hfz35_2,hfz35_3,hfz35_4,hfz35_5⟩:=zc6 BK569.out
       have p588:0≤(x15_2:Int):=zT (by assumption)
       have q588:x15_2<(t566.length:Int):=zT (by assumption)
       obtain⟨ad588,e588,hx588_0⟩:=Kd.at_int (Kd.R_reads' HO_8.out).2.2 x15_2 p588 q588
       cases e588
       replace p588:=eq_true p588
       replace q588:=eq_true q588
       obtain⟨Ao36,co36,eo36⟩:=Kd.R_slice HO_7.out
       subst eo36
       go_wp2_with (first|(go_at_call 19;(with_reducible refine(laws_at.calls _ _ l0 (wrap64 (x15_2+x16_3)) t589 _ ?side1 ?side2 A30.out).mono ?_);(case side1=>exact zc (Kd.C_below HR0.out HB.out));(case side2=>exact HC0.out);rintro e w' ⟨rfl,⟨nd,rfl⟩⟩;(try first|exact⟨rfl,_,zD _ _ _⟩|exact⟨rfl,_,Eq.trans (zD _ _ _) (congrArg (World.drewN _) (Nat.add_assoc _ _ _))⟩))|(go_at_call 19;(with_reducible refine(laws_at.calls _ _ l0 (wrap64 ((wrap64 (x15_2+x16_3))+1)) t590 _ ?side1 ?side2 A31.out).mono ?_);(case side1=>exact zc (Kd.C_below HR0.out zb16));(case side2=>exact HC0.out);rintro e w' ⟨rfl,⟨nd,rfl⟩⟩;(try first|exact⟨rfl,_,zD _ _ _⟩|exact⟨rfl,_,Eq.trans (zD _ _ _) (congrArg (World.drewN _) (Nat.add_assoc _ _ _))⟩);have p34:0≤((ji32):Int):=zT (by assumption);have q34:((ji32):Int)<((x7_3.length:Int):Int):=zT (by assumption);obtain⟨go34,co34,eo34,gb34,gl34,cl34,HG34⟩:=Kd.R_form HO_7.out (by omega);(first|cases eo34|(injection eo34 with ea_ en_ ec_;(first|subst ea_|(injection ea_ with ea_;subst ea_));subst ec_;clear en_));have GB34:=zM gb34;have GG34:=zM HG34;clear gb34 gl34 HG34;obtain⟨ce34,hcl34,hM34,hcc34,hfr34⟩:=Kd.R_elem HO_7.out z52 ((ji32):Int) p34 q34;obtain rfl:=k52_openM hM34;have hx34_0:wr.cell? ⟨go34,((ji32):Int).toNat*2,none⟩=some (.int .i64 ((rd_T52 x7_3 (ji32)).f0)):=hcc34 0 _ rfl;have hx34_1:wr.cell? ⟨go34,((ji32):Int).toNat*2+1,none⟩=some (.int .i64 ((rd_T52 x7_3 (ji32)).f1)):=hcc34 1 _ rfl;have hf34_0:wr.frozen? ⟨go34,((ji32):Int).toNat*2,none⟩=false:=hfr34 0;have hf34_1:wr.frozen? ⟨go34,((ji32):Int).toNat*2+1,none⟩=false:=hfr34 1;(try clear hcl34 hcc34 hfr34);(try clear hM34);replace p34:=eq_true p34;replace q34:=eq_true q34;have HX37:=zM (show Kd.R k52 52 wr w.heap.size (fun k_=>some k_≠(v571:Value).ownBlock) (.slice (some ⟨go34,0,none⟩) x7_3.length co36) x7_3 from(zr HO_7));obtain⟨ce37,hcl37,hM37,hcc37,hfr37⟩:=Kd.R_elem HX37.out z52 ((ji32):Int) (zT (by assumption)) (by have h_:((ji32):Int)<((x7_3.length:Int):Int):=zT (by assumption);first|exact h_|(have e_:=(Kd.R_reads' HO_7.out).1;omega)|simpa using h_);obtain rfl:=k52_openM hM37;have HP37:=Kd.R_seg HX37.out ((ji32):Int) (zT (by assumption)) (by have h_:((ji32):Int)<((x7_3.length:Int):Int):=zT (by assumption);first|exact h_|(have e_:=(Kd.R_reads' HO_7.out).1;omega)|simpa using h_) (seg:=[.int .i64 (wrap64 ((wrap64 (t589*2000))-250000)), .int .i64 (wrap64 ((wrap64 (t590*2000))-250000))]) (j:=0) hcl37 hcc37 (show 2≤2 from by decide) (x':=(⟨wrap64 ((wrap64 (t589*2000))-250000),wrap64 ((wrap64 (t590*2000))-250000)⟩:S52)) (k52_mkM _ _ _ (⟨wrap64 ((wrap64 (t589*2000))-250000),wrap64 ((wrap64 (t590*2000))-250000)⟩:S52)) (fun _ hk=>hk);have hx37_0:=hcc37 0 _ rfl;(try simp only[show(k52).sz=2 from rfl,Nat.mul_one,Nat.add_zero] at hx37_0);have hf37_0:=hfr37 0;(try simp only[show(k52).sz=2 from rfl,Nat.mul_one,Nat.add_zero] at hf37_0);have hx37_1:=hcc37 1 _ rfl;(try simp only[show(k52).sz=2 from rfl,Nat.mul_one,Nat.add_zero] at hx37_1);have hf37_1:=hfr37 1;(try simp only[show(k52).sz=2 from rfl,Nat.mul_one,Nat.add_zero] at hf37_1);(try clear hcl37 hcc37 hfr37);(try clear hM37))|((with_reducible refine gate_store (t:=52) (p:=116) rfl ?_);(try(rw[drewN_self wr];generalize hq_:World.drewN wr _=wr;have n0_:=zM (Kd.R_at hq_ HO_4.out);have n1_:=zM (Kd.R_at hq_ HO_7.out);have n2_:=zM (Kd.R_at hq_ HO_8.out);have n3_:=zM (Kd.R_at hq_ HO_9.out);have n4_:=zM (blk_at hq_ BK569.out);have n5_:=zM (below_at hq_ HB.out);clear hq_ HO_4 HO_7 HO_8 HO_9 BK569 HB;have HO_4:=n0_;have HO_7:=n1_;have HO_8:=n2_;have HO_9:=n3_;have BK569:=n4_;have HB:=n5_;clear n0_ n1_ n2_ n3_ n4_ n5_;(try(have HX37:=zM (show Kd.R k52 52 wr w.heap.size (fun k_=>some k_≠(v571:Value).ownBlock) (.slice (some ⟨go34,0,none⟩) x7_3.length co36) x7_3 from(zr HO_7))));(try(obtain⟨ce37,hcl37,hM37,hcc37,hfr37⟩:=Kd.R_elem HX37.out z52 ((ji32):Int) (zT (by assumption)) (by have h_:((ji32):Int)<((x7_3.length:Int):Int):=zT (by assumption);first|exact h_|(have e_:=(Kd.R_reads' HO_7.out).1;omega)|simpa using h_)));(try(obtain rfl:=k52_openM hM37));(try(have HP37:=Kd.R_seg HX37.out ((ji32):Int) (zT (by assumption)) (by have h_:((ji32):Int)<((x7_3.length:Int):Int):=zT (by assumption);first|exact h_|(have e_:=(Kd.R_reads' HO_7.out).1;omega)|simpa using h_) (seg:=[.int .i64 (wrap64 ((wrap64 (t589*2000))-250000)), .int .i64 (wrap64 ((wrap64 (t590*2000))-250000))]) (j:=0) hcl37 hcc37 (show 2≤2 from by decide) (x':=(⟨wrap64 ((wrap64 (t589*2000))-250000),wrap64 ((wrap64 (t590*2000))-250000)⟩:S52)) (k52_mkM _ _ _ (⟨wrap64 ((wrap64 (t589*2000))-250000),wrap64 ((wrap64 (t590*2000))-250000)⟩:S52)) (fun _ hk=>hk)));(try(have hx37_0:=hcc37 0 _ rfl));(try(try simp only[show(k52).sz=2 from rfl,Nat.mul_one,Nat.add_zero] at hx37_0));(try(have hf37_0:=hfr37 0));(try(try simp only[show(k52).sz=2 from rfl,Nat.mul_one,Nat.add_zero] at hf37_0));(try(have hx37_1:=hcc37 1 _ rfl));(try(try simp only[show(k52).sz=2 from rfl,Nat.mul_one,Nat.add_zero] at hx37_1));(try(have hf37_1:=hfr37 1));(try(try simp only[show(k52).sz=2 from rfl,Nat.mul_one,Nat.add_zero] at hf37_1));(try(try clear hcl37 hcc37 hfr37);(try clear hM37))));refine store_event (t:=52) (p:=116) (v:= ?vo_w38) (w1:=((wr.setCell ⟨go34,((ji32):Int).toNat*2,none⟩ (.int .i64 (wrap64 ((wrap64 (t589*2000))-250000)))).setCell ⟨go34,((ji32):Int).toNat*2+1,none⟩ (.int .i64 (wrap64 ((wrap64 (t590*2000))-250000))))) ?hg ?ho ?hn ?hr ?_;(case ho=>rfl);(case hg=>rfl);(case hn=>rfl);(case hr=>exact zh);intro w38 hw;have hg:wr.grownBy w38 (some go34):=(by rw[hw];exact HP37.2);have hp_:Kd.R k52 52 w38 w.heap.size (fun k_=>some k_≠(v571:Value).ownBlock) (.slice (some ⟨go34,0,none⟩) x7_3.length co36) y591:=(by rw[hw,Ny591.out];exact HP37.1);clear HP37;refine zS6 (Kd.R_over' (v:=(.slice (some ⟨go34,0,none⟩) x7_3.length co36)) (zr HO_4) (Kd.R_typed HO_7.out) (by decide) hg) (hp_) (Kd.R_over' (v:=(.slice (some ⟨go34,0,none⟩) x7_3.length co36)) (zr HO_8) (Kd.R_typed HO_7.out) (by decide) hg) (Kd.R_after (v:=(.slice (some ⟨go34,0,none⟩) x7_3.length co36)) (v1:=(.slice (some ⟨go34,0,none⟩) x7_3.length co36)) (ok:=(fun _=>True)) (by(with_reducible repeat(first|apply zRa|apply zRn|apply zRd));first|exact Kd.R_mono HO_9.out (fun _ hk=>⟨trivial,hk⟩)|(subst_vars;exact Kd.R_mono HO_9.out (fun _ hk=>⟨trivial,hk⟩))) hg (.inl rfl)) (blk_grown (g:=gb569) (o:= .cells #[.int .i64 t552, .int .i64 t553, .int .i64 t554, .int .i64 t555, .int .i64 t556, .int .i64 t557] 28 (0,0)) (zn BK569) hg (Kd.R_ne HO_7.out BK569.out (by decide))) ((by rw[hw];exact zBs (zBs (HB.out) GB34.out) GB34.out:Below w.heap.size w w38)) ?_;clear HO_4 HO_7 HO_8 HO_9 BK569 HB;intro HO_4 HO_7 HO_8 HO_9 BK569 HB;clear hg hw hp_))
       repeat(go_quiet (first|(go_at_call 19;(with_reducible refine(laws_at.calls _ _ l0 (wrap64 (x15_2+x16_3)) t589 _ ?side1 ?side2 A30.out).mono ?_);(case side1=>exact zc (Kd.C_below HR0.out HB.out));(case side2=>exact HC0.out);rintro e w' ⟨rfl,⟨nd,rfl⟩⟩;(try first|exact⟨rfl,_,zD _ _ _⟩|exact⟨rfl,_,Eq.trans (zD _ _ _) (congrArg (World.drewN _) (Nat.add_assoc _ _ _))⟩))|(go_at_call 19;(with_reducible refine(laws_at.calls _ _ l0 (wrap64 ((wrap64 (x15_2+x16_3))+1)) t590 _ ?side1 ?side2 A31.out).mono ?_);(case side1=>exact zc (Kd.C_below HR0.out zb16));(case side2=>exact HC0.out);rintro e w' ⟨rfl,⟨nd,rfl⟩⟩;(try first|exact⟨rfl,_,zD _ _ _⟩|exact⟨rfl,_,Eq.trans (zD _ _ _) (congrArg (World.drewN _) (Nat.add_assoc _ _ _))⟩);have p34:0≤((ji32):Int):=zT (by assumption);have q34:((ji32):Int)<((x7_3.length:Int):Int):=zT (by assumption);obtain⟨go34,co34,eo34,gb34,gl34,cl34,HG34⟩:=Kd.R_form HO_7.out (by omega);(first|cases eo34|(injection eo34 with ea_ en_ ec_;(first|subst ea_|(injection ea_ with ea_;subst ea_));subst ec_;clear en_));have GB34:=zM gb34;have GG34:=zM HG34;clear gb34 gl34 HG34;obtain⟨ce34,hcl34,hM34,hcc34,hfr34⟩:=Kd.R_elem HO_7.out z52 ((ji32):Int) p34 q34;obtain rfl:=k52_openM hM34;have hx34_0:wr.cell? ⟨go34,((ji32):Int).toNat*2,none⟩=some (.int .i64 ((rd_T52 x7_3 (ji32)).f0)):=hcc34 0 _ rfl;have hx34_1:wr.cell? ⟨go34,((ji32):Int).toNat*2+1,none⟩=some (.int .i64 ((rd_T52 x7_3 (ji32)).f1)):=hcc34 1 _ rfl;have hf34_0:wr.frozen? ⟨go34,((ji32):Int).toNat*2,none⟩=false:=hfr34 0;have hf34_1:wr.frozen? ⟨go34,((ji32):Int).toNat*2+1,none⟩=false:=hfr34 1;(try clear hcl34 hcc34 hfr34);(try clear hM34);replace p34:=eq_true p34;replace q34:=eq_true q34;have HX37:=zM (show Kd.R k52 52 wr w.heap.size (fun k_=>some k_≠(v571:Value).ownBlock) (.slice (some ⟨go34,0,none⟩) x7_3.length co36) x7_3 from(zr HO_7));obtain⟨ce37,hcl37,hM37,hcc37,hfr37⟩:=Kd.R_elem HX37.out z52 ((ji32):Int) (zT (by assumption)) (by have h_:((ji32):Int)<((x7_3.length:Int):Int):=zT (by assumption);first|exact h_|(have e_:=(Kd.R_reads' HO_7.out).1;omega)|simpa using h_);obtain rfl:=k52_openM hM37;have HP37:=Kd.R_seg HX37.out ((ji32):Int) (zT (by assumption)) (by have h_:((ji32):Int)<((x7_3.length:Int):Int):=zT (by assumption);first|exact h_|(have e_:=(Kd.R_reads' HO_7.out).1;omega)|simpa using h_) (seg:=[.int .i64 (wrap64 ((wrap64 (t589*2000))-250000)), .int .i64 (wrap64 ((wrap64 (t590*2000))-250000))]) (j:=0) hcl37 hcc37 (show 2≤2 from by decide) (x':=(⟨wrap64 ((wrap64 (t589*2000))-250000),wrap64 ((wrap64 (t590*2000))-250000)⟩:S52)) (k52_mkM _ _ _ (⟨wrap64 ((wrap64 (t589*2000))-250000),wrap64 ((wrap64 (t590*2000))-250000)⟩:S52)) (fun _ hk=>hk);have hx37_0:=hcc37 0 _ rfl;(try simp only[show(k52).sz=2 from rfl,Nat.mul_one,Nat.add_zero] at hx37_0);have hf37_0:=hfr37 0;(try simp only[show(k52).sz=2 from rfl,Nat.mul_one,Nat.add_zero] at hf37_0);have hx37_1:=hcc37 1 _ rfl;(try simp only[show(k52).sz=2 from rfl,Nat.mul_one,Nat.add_zero] at hx37_1);have hf37_1:=hfr37 1;(try simp only[show(k52).sz=2 from rfl,Nat.mul_one,Nat.add_zero] at hf37_1);(try clear hcl37 hcc37 hfr37);(try clear hM37))|((with_reducible refine gate_store (t:=52) (p:=116) rfl ?_);(try(rw[drewN_self wr];generalize hq_:World.drewN wr _=wr;have n0_:=zM (Kd.R_at hq_ HO_4.out);have n1_:=zM (Kd.R_at hq_ HO_7.out);have n2_:=zM (Kd.R_at hq_ HO_8.out);have n3_:=zM (Kd.R_at hq_ HO_9.out);have n4_:=zM (blk_at hq_ BK569.out);have n5_:=zM (below_at hq_ HB.out);clear hq_ HO_4 HO_7 HO_8 HO_9 BK569 HB;have HO_4:=n0_;have HO_7:=n1_;have HO_8:=n2_;have HO_9:=n3_;have BK569:=n4_;have HB:=n5_;clear n0_ n1_ n2_ n3_ n4_ n5_;(try(have HX37:=zM (show Kd.R k52 52 wr w.heap.size (fun k_=>some k_≠(v571:Value).ownBlock) (.slice (some ⟨go34,0,none⟩) x7_3.length co36) x7_3 from(zr HO_7))));(try(obtain⟨ce37,hcl37,hM37,hcc37,hfr37⟩:=Kd.R_elem HX37.out z52 ((ji32):Int) (zT (by assumption)) (by have h_:((ji32):Int)<((x7_3.length:Int):Int):=zT (by assumption);first|exact h_|(have e_:=(Kd.R_reads' HO_7.out).1;omega)|simpa using h_)));(try(obtain rfl:=k52_openM hM37));(try(have HP37:=Kd.R_seg HX37.out ((ji32):Int) (zT (by assumption)) (by have h_:((ji32):Int)<((x7_3.length:Int):Int):=zT (by assumption);first|exact h_|(have e_:=(Kd.R_reads' HO_7.out).1;omega)|simpa using h_) (seg:=[.int .i64 (wrap64 ((wrap64 (t589*2000))-250000)), .int .i64 (wrap64 ((wrap64 (t590*2000))-250000))]) (j:=0) hcl37 hcc37 (show 2≤2 from by decide) (x':=(⟨wrap64 ((wrap64 (t589*2000))-250000),wrap64 ((wrap64 (t590*2000))-250000)⟩:S52)) (k52_mkM _ _ _ (⟨wrap64 ((wrap64 (t589*2000))-250000),wrap64 ((wrap64 (t590*2000))-250000)⟩:S52)) (fun _ hk=>hk)));(try(have hx37_0:=hcc37 0 _ rfl));(try(try simp only[show(k52).sz=2 from rfl,Nat.mul_one,Nat.add_zero] at hx37_0));(try(have hf37_0:=hfr37 0));(try(try simp only[show(k52).sz=2 from rfl,Nat.mul_one,Nat.add_zero] at hf37_0));(try(have hx37_1:=hcc37 1 _ rfl));(try(try simp only[show(k52).sz=2 from rfl,Nat.mul_one,Nat.add_zero] at hx37_1));(try(have hf37_1:=hfr37 1));(try(try simp only[show(k52).sz=2 from rfl,Nat.mul_one,Nat.add_zero] at hf37_1));(try(try clear hcl37 hcc37 hfr37);(try clear hM37))));refine store_event (t:=52) (p:=116) (v:= ?vo_w38) (w1:=((wr.setCell ⟨go34,((ji32):Int).toNat*2,none⟩ (.int .i64 (wrap64 ((wrap64 (t589*2000))-250000)))).setCell ⟨go34,((ji32):Int).toNat*2+1,none⟩ (.int .i64 (wrap64 ((wrap64 (t590*2000))-250000))))) ?hg ?ho ?hn ?hr ?_;(case ho=>rfl);(case hg=>rfl);(case hn=>rfl);(case hr=>exact zh);intro w38 hw;have hg:wr.grownBy w38 (some go34):=(by rw[hw];exact HP37.2);have hp_:Kd.R k52 52 w38 w.heap.size (fun k_=>some k_≠(v571:Value).ownBlock) (.slice (some ⟨go34,0,none⟩) x7_3.length co36) y591:=(by rw[hw,Ny591.out];exact HP37.1);clear HP37;refine zS6 (Kd.R_over' (v:=(.slice (some ⟨go34,0,none⟩) x7_3.length co36)) (zr HO_4) (Kd.R_typed HO_7.out) (by decide) hg) (hp_) (Kd.R_over' (v:=(.slice (some ⟨go34,0,none⟩) x7_3.length co36)) (zr HO_8) (Kd.R_typed HO_7.out) (by decide) hg) (Kd.R_after (v:=(.slice (some ⟨go34,0,none⟩) x7_3.length co36)) (v1:=(.slice (some ⟨go34,0,none⟩) x7_3.length co36)) (ok:=(fun _=>True)) (by(with_reducible repeat(first|apply zRa|apply zRn|apply zRd));first|exact Kd.R_mono HO_9.out (fun _ hk=>⟨trivial,hk⟩)|(subst_vars;exact Kd.R_mono HO_9.out (fun _ hk=>⟨trivial,hk⟩))) hg (.inl rfl)) (blk_grown (g:=gb569) (o:= .cells #[.int .i64 t552, .int .i64 t553, .int .i64 t554, .int .i64 t555, .int .i64 t556, .int .i64 t557] 28 (0,0)) (zn BK569) hg (Kd.R_ne HO_7.out BK569.out (by decide))) ((by rw[hw];exact zBs (zBs (HB.out) GB34.out) GB34.out:Below w.heap.size w w38)) ?_;clear HO_4 HO_7 HO_8 HO_9 BK569 HB;intro HO_4 HO_7 HO_8 HO_9 BK569 HB;clear hg hw hp_));try go_wp2_with (first|(go_at_call 19;(with_reducible refine(laws_at.calls _ _ l0 (wrap64 (x15_2+x16_3)) t589 _ ?side1 ?side2 A30.out).mono ?_);(case side1=>exact zc (Kd.C_below HR0.out HB.out));(case side2=>exact HC0.out);rintro e w' ⟨rfl,⟨nd,rfl⟩⟩;(try first|exact⟨rfl,_,zD _ _ _⟩|exact⟨rfl,_,Eq.trans (zD _ _ _) (congrArg (World.drewN _) (Nat.add_assoc _ _ _))⟩))|(go_at_call 19;(with_reducible refine(laws_at.calls _ _ l0 (wrap64 ((wrap64 (x15_2+x16_3))+1)) t590 _ ?side1 ?side2 A31.out).mono ?_);(case side1=>exact zc (Kd.C_below HR0.out zb16));(case side2=>exact HC0.out);rintro e w' ⟨rfl,⟨nd,rfl⟩⟩;(try first|exact⟨rfl,_,zD _ _ _⟩|exact⟨rfl,_,Eq.trans (zD _ _ _) (congrArg (World.drewN _) (Nat.add_assoc _ _ _))⟩);have p34:0≤((ji32):Int):=zT (by assumption);have q34:((ji32):Int)<((x7_3.length:Int):Int):=zT (by assumption);obtain⟨go34,co34,eo34,gb34,gl34,cl34,HG34⟩:=Kd.R_form HO_7.out (by omega);(first|cases eo34|(injection eo34 with ea_ en_ ec_;(first|subst ea_|(injection ea_ with ea_;subst ea_));subst ec_;clear en_));have GB34:=zM gb34;have GG34:=zM HG34;clear gb34 gl34 HG34;obtain⟨ce34,hcl34,hM34,hcc34,hfr34⟩:=Kd.R_elem HO_7.out z52 ((ji32):Int) p34 q34;obtain rfl:=k52_openM hM34;have hx34_0:wr.cell? ⟨go34,((ji32):Int).toNat*2,none⟩=some (.int .i64 ((rd_T52 x7_3 (ji32)).f0)):=hcc34 0 _ rfl;have hx34_1:wr.cell? ⟨go34,((ji32):Int).toNat*2+1,none⟩=some (.int .i64 ((rd_T52 x7_3 (ji32)).f1)):=hcc34 1 _ rfl;have hf34_0:wr.frozen? ⟨go34,((ji32):Int).toNat*2,none⟩=false:=hfr34 0;have hf34_1:wr.frozen? ⟨go34,((ji32):Int).toNat*2+1,none⟩=false:=hfr34 1;(try clear hcl34 hcc34 hfr34);(try clear hM34);replace p34:=eq_true p34;replace q34:=eq_true q34;have HX37:=zM (show Kd.R k52 52 wr w.heap.size (fun k_=>some k_≠(v571:Value).ownBlock) (.slice (some ⟨go34,0,none⟩) x7_3.length co36) x7_3 from(zr HO_7));obtain⟨ce37,hcl37,hM37,hcc37,hfr37⟩:=Kd.R_elem HX37.out z52 ((ji32):Int) (zT (by assumption)) (by have h_:((ji32):Int)<((x7_3.length:Int):Int):=zT (by assumption);first|exact h_|(have e_:=(Kd.R_reads' HO_7.out).1;omega)|simpa using h_);obtain rfl:=k52_openM hM37;have HP37:=Kd.R_seg HX37.out ((ji32):Int) (zT (by assumption)) (by have h_:((ji32):Int)<((x7_3.length:Int):Int):=zT (by assumption);first|exact h_|(have e_:=(Kd.R_reads' HO_7.out).1;omega)|simpa using h_) (seg:=[.int .i64 (wrap64 ((wrap64 (t589*2000))-250000)), .int .i64 (wrap64 ((wrap64 (t590*2000))-250000))]) (j:=0) hcl37 hcc37 (show 2≤2 from by decide) (x':=(⟨wrap64 ((wrap64 (t589*2000))-250000),wrap64 ((wrap64 (t590*2000))-250000)⟩:S52)) (k52_mkM _ _ _ (⟨wrap64 ((wrap64 (t589*2000))-250000),wrap64 ((wrap64 (t590*2000))-250000)⟩:S52)) (fun _ hk=>hk);have hx37_0:=hcc37 0 _ rfl;(try simp only[show(k52).sz=2 from rfl,Nat.mul_one,Nat.add_zero] at hx37_0);have hf37_0:=hfr37 0;(try simp only[show(k52).sz=2 from rfl,Nat.mul_one,Nat.add_zero] at hf37_0);have hx37_1:=hcc37 1 _ rfl;(try simp only[show(k52).sz=2 from rfl,Nat.mul_one,Nat.add_zero] at hx37_1);have hf37_1:=hfr37 1;(try simp only[show(k52).sz=2 from rfl,Nat.mul_one,Nat.add_zero] at hf37_1);(try clear hcl37 hcc37 hfr37);(try clear hM37))|((with_reducible refine gate_store (t:=52) (p:=116) rfl ?_);(try(rw[drewN_self wr];generalize hq_:World.drewN wr _=wr;have n0_:=zM (Kd.R_at hq_ HO_4.out);have n1_:=zM (Kd.R_at hq_ HO_7.out);have n2_:=zM (Kd.R_at hq_ HO_8.out);have n3_:=zM (Kd.R_at hq_ HO_9.out);have n4_:=zM (blk_at hq_ BK569.out);have n5_:=zM (below_at hq_ HB.out);clear hq_ HO_4 HO_7 HO_8 HO_9 BK569 HB;have HO_4:=n0_;have HO_7:=n1_;have HO_8:=n2_;have HO_9:=n3_;have BK569:=n4_;have HB:=n5_;clear n0_ n1_ n2_ n3_ n4_ n5_;(try(have HX37:=zM (show Kd.R k52 52 wr w.heap.size (fun k_=>some k_≠(v571:Value).ownBlock) (.slice (some ⟨go34,0,none⟩) x7_3.length co36) x7_3 from(zr HO_7))));(try(obtain⟨ce37,hcl37,hM37,hcc37,hfr37⟩:=Kd.R_elem HX37.out z52 ((ji32):Int) (zT (by assumption)) (by have h_:((ji32):Int)<((x7_3.length:Int):Int):=zT (by assumption);first|exact h_|(have e_:=(Kd.R_reads' HO_7.out).1;omega)|simpa using h_)));(try(obtain rfl:=k52_openM hM37));(try(have HP37:=Kd.R_seg HX37.out ((ji32):Int) (zT (by assumption)) (by have h_:((ji32):Int)<((x7_3.length:Int):Int):=zT (by assumption);first|exact h_|(have e_:=(Kd.R_reads' HO_7.out).1;omega)|simpa using h_) (seg:=[.int .i64 (wrap64 ((wrap64 (t589*2000))-250000)), .int .i64 (wrap64 ((wrap64 (t590*2000))-250000))]) (j:=0) hcl37 hcc37 (show 2≤2 from by decide) (x':=(⟨wrap64 ((wrap64 (t589*2000))-250000),wrap64 ((wrap64 (t590*2000))-250000)⟩:S52)) (k52_mkM _ _ _ (⟨wrap64 ((wrap64 (t589*2000))-250000),wrap64 ((wrap64 (t590*2000))-250000)⟩:S52)) (fun _ hk=>hk)));(try(have hx37_0:=hcc37 0 _ rfl));(try(try simp only[show(k52).sz=2 from rfl,Nat.mul_one,Nat.add_zero] at hx37_0));(try(have hf37_0:=hfr37 0));(try(try simp only[show(k52).sz=2 from rfl,Nat.mul_one,Nat.add_zero] at hf37_0));(try(have hx37_1:=hcc37 1 _ rfl));(try(try simp only[show(k52).sz=2 from rfl,Nat.mul_one,Nat.add_zero] at hx37_1));(try(have hf37_1:=hfr37 1));(try(try simp only[show(k52).sz=2 from rfl,Nat.mul_one,Nat.add_zero] at hf37_1));(try(try clear hcl37 hcc37 hfr37);(try clear hM37))));refine store_event (t:=52) (p:=116) (v:= ?vo_w38) (w1:=((wr.setCell ⟨go34,((ji32):Int).toNat*2,none⟩ (.int .i64 (wrap64 ((wrap64 (t589*2000))-250000)))).setCell ⟨go34,((ji32):Int).toNat*2+1,none⟩ (.int .i64 (wrap64 ((wrap64 (t590*2000))-250000))))) ?hg ?ho ?hn ?hr ?_;(case ho=>rfl);(case hg=>rfl);(case hn=>rfl);(case hr=>exact zh);intro w38 hw;have hg:wr.grownBy w38 (some go34):=(by rw[hw];exact HP37.2);have hp_:Kd.R k52 52 w38 w.heap.size (fun k_=>some k_≠(v571:Value).ownBlock) (.slice (some ⟨go34,0,none⟩) x7_3.length co36) y591:=(by rw[hw,Ny591.out];exact HP37.1);clear HP37;refine zS6 (Kd.R_over' (v:=(.slice (some ⟨go34,0,none⟩) x7_3.length co36)) (zr HO_4) (Kd.R_typed HO_7.out) (by decide) hg) (hp_) (Kd.R_over' (v:=(.slice (some ⟨go34,0,none⟩) x7_3.length co36)) (zr HO_8) (Kd.R_typed HO_7.out) (by decide) hg) (Kd.R_after (v:=(.slice (some ⟨go34,0,none⟩) x7_3.length co36)) (v1:=(.slice (some ⟨go34,0,none⟩) x7_3.length co36)) (ok:=(fun _=>True)) (by(with_reducible repeat(first|apply zRa|apply zRn|apply zRd));first|exact Kd.R_mono HO_9.out (fun _ hk=>⟨trivial,hk⟩)|(subst_vars;exact Kd.R_mono HO_9.out (fun _ hk=>⟨trivial,hk⟩))) hg (.inl rfl)) (blk_grown (g:=gb569) (o:= .cells #[.int .i64 t552, .int .i64 t553, .int .i64 t554, .int .i64 t555, .int .i64 t556, .int .i64 t557] 28 (0,0)) (zn BK569) hg (Kd.R_ne HO_7.out BK569.out (by decide))) ((by rw[hw];exact zBs (zBs (HB.out) GB34.out) GB34.out:Below w.heap.size w w38)) ?_;clear HO_4 HO_7 HO_8 HO_9 BK569 HB;intro HO_4 HO_7 HO_8 HO_9 BK569 HB;clear hg hw hp_)))
       go_roundg k3
       case measure=>have:=HJ7.out;have:=HK2.out;have:=HK3.out;omega
       case rel=>exact⟨(y591),(wrap64 (x16_3+1)),zs,H',⟨by have:=HJ7.out;have:=HK2.out;have:=HK3.out;omega⟩,⟨zr HO_4⟩,⟨zr HO_7⟩,⟨zr HO_8⟩,⟨by(with_reducible repeat(first|apply zRa|apply zRn|apply zRd));first|exact Kd.R_mono HO_9.out (fun _ hk=>hk.2)|(subst_vars;exact Kd.R_mono HO_9.out (fun _ hk=>hk.2))⟩,⟨zn BK569⟩,⟨zb16⟩⟩
/-- THE ONE PURE STATEMENT of laws_FnModem: yours. -/
def laws_FnModem.Pure:Prop:=∀(l0:List Int),l0.length≤maxLen→l0.length*1≤140737488351232→(∀x∈l0,(Lit.int .u8 x).wf=true)→∃k,laws_FnModem.f k l0=some true
theorem laws_FnModem.walk (P:laws_FnModem.Pure) (a0:Option Addr) (len0 cap0:Nat) (z0:List Int) (w:World) (w0:(a0=none∧len0=0∧cap0=0∧z0=[])∨∃x,a0=some x∧len0≤cap0∧cap0≤maxLen∧z0.length=cap0∧(∀i,i<z0.length→w.cell? (x.add i)=some (.int .u8 (z0.getD i 0)))∧∀n∈z0,(Lit.int .u8 n).wf=true) (y0:len0*1≤140737488351232):
 Calls Try.prog 6 #[.slice a0 len0 cap0] w fun e w'=>e= .returned (.bool true)∧Below w.heap.size w w':=by
 obtain⟨l0,rfl,hr0,hm0,hw0,hc0⟩:=ReadsInt.ofRowC w0
 obtain⟨k,h⟩:=P l0 hm0 y0 hw0
 refine(laws_FnModem.calls k _ _ l0 true w (Kd.C_of_reads (d:=(0:Int)) (h1:=fun _=>rfl) hr0) hc0 rfl h).mono ?_
 rintro e w' ⟨rfl,hd⟩
 exact⟨rfl,hd⟩
end Go.Proofs.Ytapobpkeefeajaa.PFnModem
