-- A turned copy of the print's text.
import Derived.Test.YtapobpkeefeajaaPFnExactHearx0
namespace Go.Proofs.Ytapobpkeefeajaa.PFnExactHear
open Go.RowKit Go.Proofs.YtapobpkeefeajaaW.PrintWords Go.Proofs.YtapobpkeefeajaaW.PrintLast Go.Proofs.YtapobpkeefeajaaW.PrintMore
attribute [local go_sem] max2_int min2_int max_two min_two max_three min_three max_four min_four
set_option maxHeartbeats 8000000
set_option maxRecDepth 100000
set_option linter.unusedVariables false
set_option linter.unusedSimpArgs false
def laws_szPointS.f (l0:List (S87)) (a1:Int):Option (Int):=if(wrap64 (a1-(l0.length:Int)))<0 then(some (-1)) else(some (wrap64 (a1-(l0.length:Int))))
theorem laws_szPointS.calls (A0:Option Addr) (c0:Nat) (l0:List (S87)) (a1:Int) (r:Int) (w:World) (hr0:Kd.C k87 w A0 l0.length l0) (hc0:l0.length≤c0) (H:laws_szPointS.f l0 a1=some r):
 Calls Try.prog 22 #[.slice A0 l0.length c0, .int .i64 a1] w fun e w'=>e= .returned (.int .i64 r)∧Drawn0 w w':=by
 have HR0:=zM hr0
 have HC0:=zM hc0
 clear hr0 hc0
 unfold laws_szPointS.f at H
 replace H:=zI2 H
 rcases H with⟨c3,H⟩|⟨c3,H⟩
 case inl=>
  have c3b0:=zE c3
  clear c3
  obtain rfl:=zI H
  go_enter Try.func22,Try.ntmps22
  go_wp2
  go_ret
  exact⟨zs,zd⟩
 have c3b0:=decide_eq_false c3
 clear c3
 obtain rfl:=zI H
 go_enter Try.func22,Try.ntmps22
 go_wp2
 go_ret
 exact⟨zs,zd⟩
def spec_l1In.f (a0:Int) (a1:Int) (a2:Int):Option (Bool):=if a0≥a1 then(some (decide (a0≤a2))) else(some false)
theorem spec_l1In.calls (a0:Int) (a1:Int) (a2:Int) (r:Bool) (w:World) (H:spec_l1In.f a0 a1 a2=some r):
 Calls Try.prog 30 #[.int .i64 a0, .int .i64 a1, .int .i64 a2] w fun e w'=>e= .returned (.bool r)∧Drawn0 w w':=by
 unfold spec_l1In.f at H
 replace H:=zI2 H
 rcases H with⟨c4,H⟩|⟨c4,H⟩
 case inl=>
  have c4b0:decide (a1≤a0)=true:=zE c4
  clear c4
  obtain rfl:=zI H
  go_enter Try.func30,Try.ntmps30
  go_wp2
  go_ret
  exact⟨zs,zd⟩
 have c4b0:decide (a1≤a0)=false:=decide_eq_false c4
 clear c4
 obtain rfl:=zI H
 go_enter Try.func30,Try.ntmps30
 go_wp2
 go_ret
 exact⟨zs,zd⟩
def spec_l13Width.f (a0:Int):Option (Bool):=if a0=2 then(some true) else(if a0=4 then(some true) else(if a0=6 then(some true) else(some (a0==8))))
theorem spec_l13Width.calls (a0:Int) (r:Bool) (w:World) (H:spec_l13Width.f a0=some r):
 Calls Try.prog 75 #[.int .i64 a0] w fun e w'=>e= .returned (.bool r)∧Drawn0 w w':=by
 unfold spec_l13Width.f at H
 replace H:=zI2 H
 rcases H with⟨c2,H⟩|⟨c2,H⟩
 case inl=>
  have c2b0:(a0==2)=true:=beq_iff_eq.mpr c2
  have c2b1:(a0 != 2)=false:=bne_eq_false_iff_eq.mpr c2
  clear c2
  obtain rfl:=zI H
  go_enter Try.func75,Try.ntmps75
  go_wp2
  go_ret
  exact⟨zs,zd⟩
 have c2b0:(a0==2)=false:=beq_eq_false_iff_ne.mpr c2
 have c2b1:(a0 != 2)=true:=bne_iff_ne.mpr c2
 replace H:=zI2 H
 rcases H with⟨c3,H⟩|⟨c3,H⟩
 case inl=>
  have c3b0:(a0==4)=true:=beq_iff_eq.mpr c3
  have c3b1:(a0 != 4)=false:=bne_eq_false_iff_eq.mpr c3
  clear c3
  obtain rfl:=zI H
  go_enter Try.func75,Try.ntmps75
  go_wp2
  go_ret
  exact⟨zs,zd⟩
 have c3b0:(a0==4)=false:=beq_eq_false_iff_ne.mpr c3
 have c3b1:(a0 != 4)=true:=bne_iff_ne.mpr c3
 replace H:=zI2 H
 rcases H with⟨c4,H⟩|⟨c4,H⟩
 case inr=>
  have c4b0:(a0==6)=false:=beq_eq_false_iff_ne.mpr c4
  have c4b1:(a0 != 6)=true:=bne_iff_ne.mpr c4
  obtain rfl:=zI H
  go_enter Try.func75,Try.ntmps75
  go_wp2
  go_ret
  exact⟨zs,zd⟩
 have c4b0:(a0==6)=true:=beq_iff_eq.mpr c4
 have c4b1:(a0 != 6)=false:=bne_eq_false_iff_eq.mpr c4
 clear c4
 obtain rfl:=zI H
 go_enter Try.func75,Try.ntmps75
 go_wp2
 go_ret
 exact⟨zs,zd⟩
def spec_l14Mend.f (a0:Int):Option (Bool):=(spec_l1In.f a0 1 8).bind fun t218=>(some t218)
theorem spec_l14Mend.calls (a0:Int) (r:Bool) (w:World) (H:spec_l14Mend.f a0=some r):
 Calls Try.prog 76 #[.int .i64 a0] w fun e w'=>e= .returned (.bool r)∧Drawn0 w w':=by
 unfold spec_l14Mend.f at H
 replace H:=zP H
 obtain⟨t218,A2,H⟩:=H
 obtain rfl:=zI H
 go_enter Try.func76,Try.ntmps76
 go_wp2_with (first|((with_reducible refine gate_callee (f:=30) rfl ?_);refine goesL_ (some 4) rfl rfl Try.func30 ze rfl #[.int .i64 a0, .int .i64 1, .int .i64 8] rfl zg ?_;(with_reducible refine(spec_l1In.calls a0 1 8 t218 _ A2.out).mono ?_);rintro e w' ⟨rfl,⟨nd,rfl⟩⟩;refine⟨_,rfl,?_⟩))
 go_ret
 exact⟨zs,zd⟩
def spec_ModemOk.f (a0_0:Int) (a0_1:Int) (a0_2:Int) (a0_3:Int) (a0_4:Int) (a0_5:Int):Option (Bool):=(spec_l13Width.f a0_0).bind fun t220=>(if t220=true then((spec_l14Mend.f a0_1).bind fun t221=>(if t221=true then((spec_l1In.f a0_2 1 64).bind fun t222=>(if t222=true then((spec_l1In.f a0_3 1 65535).bind fun t223=>(if t223=true then((spec_l1In.f a0_4 1 8).bind fun t224=>(if t224=true then((spec_l1In.f a0_5 1 10000).bind fun t225=>(some t225)) else(some false))) else(some false))) else(some false))) else(some false))) else(some false))
theorem spec_ModemOk.calls (a0_0:Int) (a0_1:Int) (a0_2:Int) (a0_3:Int) (a0_4:Int) (a0_5:Int) (r:Bool) (w:World) (H:spec_ModemOk.f a0_0 a0_1 a0_2 a0_3 a0_4 a0_5=some r):
 Calls Try.prog 29 #[.agg #[.int .i64 a0_0, .int .i64 a0_1, .int .i64 a0_2, .int .i64 a0_3, .int .i64 a0_4, .int .i64 a0_5]] w fun e w'=>e= .returned (.bool r)∧Below w.heap.size w w':=by
 have hu28:=Try.underlying28
 have HB:=zM (Below.refl w.heap.size w)
 unfold spec_ModemOk.f at H
 replace H:=zP H
 obtain⟨t220,A2,H⟩:=H
 by_cases c3:t220=true
 case neg=>
  replace c3:=Bool.eq_false_iff.mpr c3
  subst c3
  rw[if_neg zFT] at H
  obtain rfl:=zI H
  go_enter Try.func29,Try.ntmps29
  go_wp2_with (first|((with_reducible refine gate_dst (N:=1) rfl ?_);refine box_event ?hg (N:=1) ?hd (cs:= #[.int .i64 a0_0, .int .i64 a0_1, .int .i64 a0_2, .int .i64 a0_3, .int .i64 a0_4, .int .i64 a0_5]) (t:=28) ?hr ?_;(case hd|hg=>rfl);(case hr=>exact zh);intro gb219 hg w23 hbox hb;have n0_:=zM (below_step zb hb);have n1_:=zM (hbox);have n2_:=zM ((zw hg (below_size zb)));have n3_:=zM n2_.out;clear HB;have HB:=n0_;have BK219:=n1_;have GW219:=n2_;have GE219:=n3_;clear n0_ n1_ n2_ n3_;clear hb hbox hg;obtain⟨hcz24_0,hcz24_1,hcz24_2,hcz24_3,hcz24_4,hcz24_5,hfz24_0,hfz24_1,hfz24_2,hfz24_3,hfz24_4,hfz24_5⟩:=zc6 BK219.out)|((with_reducible refine gate_callee (f:=75) rfl ?_);refine goesL_ (some 5) rfl rfl Try.func75 ze rfl #[.int .i64 a0_0] rfl zg ?_;(with_reducible refine(spec_l13Width.calls a0_0 false _ A2.out).mono ?_);rintro e w' ⟨rfl,⟨nd,rfl⟩⟩;refine⟨_,rfl,?_⟩))
  go_ret
  exact⟨zq,zb10⟩
 subst c3
 rw[if_pos rfl] at H
 replace H:=zP H
 obtain⟨t221,A4,H⟩:=H
 by_cases c5:t221=true
 case neg=>
  replace c5:=Bool.eq_false_iff.mpr c5
  subst c5
  rw[if_neg zFT] at H
  obtain rfl:=zI H
  go_enter Try.func29,Try.ntmps29
  go_wp2_with (first|((with_reducible refine gate_dst (N:=1) rfl ?_);refine box_event ?hg (N:=1) ?hd (cs:= #[.int .i64 a0_0, .int .i64 a0_1, .int .i64 a0_2, .int .i64 a0_3, .int .i64 a0_4, .int .i64 a0_5]) (t:=28) ?hr ?_;(case hd|hg=>rfl);(case hr=>exact zh);intro gb219 hg w21 hbox hb;have n0_:=zM (below_step zb hb);have n1_:=zM (hbox);have n2_:=zM ((zw hg (below_size zb)));have n3_:=zM n2_.out;clear HB;have HB:=n0_;have BK219:=n1_;have GW219:=n2_;have GE219:=n3_;clear n0_ n1_ n2_ n3_;clear hb hbox hg;obtain⟨hcz22_0,hcz22_1,hcz22_2,hcz22_3,hcz22_4,hcz22_5,hfz22_0,hfz22_1,hfz22_2,hfz22_3,hfz22_4,hfz22_5⟩:=zc6 BK219.out)|((with_reducible refine gate_callee (f:=75) rfl ?_);refine goesL_ (some 5) rfl rfl Try.func75 ze rfl #[.int .i64 a0_0] rfl zg ?_;(with_reducible refine(spec_l13Width.calls a0_0 true _ A2.out).mono ?_);rintro e w' ⟨rfl,⟨nd,rfl⟩⟩;refine⟨_,rfl,?_⟩)|(go_at_call 76;(with_reducible refine(spec_l14Mend.calls a0_1 false _ A4.out).mono ?_);rintro e w' ⟨rfl,⟨nd,rfl⟩⟩))
  go_ret
  exact⟨zq,zb10⟩
 subst c5
 rw[if_pos rfl] at H
 replace H:=zP H
 obtain⟨t222,A6,H⟩:=H
 by_cases c7:t222=true
 case neg=>
  replace c7:=Bool.eq_false_iff.mpr c7
  subst c7
  rw[if_neg zFT] at H
  obtain rfl:=zI H
  go_enter Try.func29,Try.ntmps29
  go_wp2_with (first|((with_reducible refine gate_dst (N:=1) rfl ?_);refine box_event ?hg (N:=1) ?hd (cs:= #[.int .i64 a0_0, .int .i64 a0_1, .int .i64 a0_2, .int .i64 a0_3, .int .i64 a0_4, .int .i64 a0_5]) (t:=28) ?hr ?_;(case hd|hg=>rfl);(case hr=>exact zh);intro gb219 hg w19 hbox hb;have n0_:=zM (below_step zb hb);have n1_:=zM (hbox);have n2_:=zM ((zw hg (below_size zb)));have n3_:=zM n2_.out;clear HB;have HB:=n0_;have BK219:=n1_;have GW219:=n2_;have GE219:=n3_;clear n0_ n1_ n2_ n3_;clear hb hbox hg;obtain⟨hcz20_0,hcz20_1,hcz20_2,hcz20_3,hcz20_4,hcz20_5,hfz20_0,hfz20_1,hfz20_2,hfz20_3,hfz20_4,hfz20_5⟩:=zc6 BK219.out)|((with_reducible refine gate_callee (f:=75) rfl ?_);refine goesL_ (some 5) rfl rfl Try.func75 ze rfl #[.int .i64 a0_0] rfl zg ?_;(with_reducible refine(spec_l13Width.calls a0_0 true _ A2.out).mono ?_);rintro e w' ⟨rfl,⟨nd,rfl⟩⟩;refine⟨_,rfl,?_⟩)|(go_at_call 76;(with_reducible refine(spec_l14Mend.calls a0_1 true _ A4.out).mono ?_);rintro e w' ⟨rfl,⟨nd,rfl⟩⟩)|(go_at_call 30;(with_reducible refine(spec_l1In.calls a0_2 1 64 false _ A6.out).mono ?_);rintro e w' ⟨rfl,⟨nd,rfl⟩⟩))
  go_ret
  exact⟨zq,zb10⟩
 subst c7
 rw[if_pos rfl] at H
 replace H:=zP H
 obtain⟨t223,A8,H⟩:=H
 by_cases c9:t223=true
 case neg=>
  replace c9:=Bool.eq_false_iff.mpr c9
  subst c9
  rw[if_neg zFT] at H
  obtain rfl:=zI H
  go_enter Try.func29,Try.ntmps29
  go_wp2_with (first|((with_reducible refine gate_dst (N:=1) rfl ?_);refine box_event ?hg (N:=1) ?hd (cs:= #[.int .i64 a0_0, .int .i64 a0_1, .int .i64 a0_2, .int .i64 a0_3, .int .i64 a0_4, .int .i64 a0_5]) (t:=28) ?hr ?_;(case hd|hg=>rfl);(case hr=>exact zh);intro gb219 hg w17 hbox hb;have n0_:=zM (below_step zb hb);have n1_:=zM (hbox);have n2_:=zM ((zw hg (below_size zb)));have n3_:=zM n2_.out;clear HB;have HB:=n0_;have BK219:=n1_;have GW219:=n2_;have GE219:=n3_;clear n0_ n1_ n2_ n3_;clear hb hbox hg;obtain⟨hcz18_0,hcz18_1,hcz18_2,hcz18_3,hcz18_4,hcz18_5,hfz18_0,hfz18_1,hfz18_2,hfz18_3,hfz18_4,hfz18_5⟩:=zc6 BK219.out)|((with_reducible refine gate_callee (f:=75) rfl ?_);refine goesL_ (some 5) rfl rfl Try.func75 ze rfl #[.int .i64 a0_0] rfl zg ?_;(with_reducible refine(spec_l13Width.calls a0_0 true _ A2.out).mono ?_);rintro e w' ⟨rfl,⟨nd,rfl⟩⟩;refine⟨_,rfl,?_⟩)|(go_at_call 76;(with_reducible refine(spec_l14Mend.calls a0_1 true _ A4.out).mono ?_);rintro e w' ⟨rfl,⟨nd,rfl⟩⟩)|(go_at_call 30;(with_reducible refine(spec_l1In.calls a0_2 1 64 true _ A6.out).mono ?_);rintro e w' ⟨rfl,⟨nd,rfl⟩⟩)|(go_at_call 30;(with_reducible refine(spec_l1In.calls a0_3 1 65535 false _ A8.out).mono ?_);rintro e w' ⟨rfl,⟨nd,rfl⟩⟩))
  go_ret
  exact⟨zq,zb10⟩
 subst c9
 rw[if_pos rfl] at H
 replace H:=zP H
 obtain⟨t224,A10,H⟩:=H
 by_cases c11:t224=true
 case neg=>
  replace c11:=Bool.eq_false_iff.mpr c11
  subst c11
  rw[if_neg zFT] at H
  obtain rfl:=zI H
  go_enter Try.func29,Try.ntmps29
  go_wp2_with (first|((with_reducible refine gate_dst (N:=1) rfl ?_);refine box_event ?hg (N:=1) ?hd (cs:= #[.int .i64 a0_0, .int .i64 a0_1, .int .i64 a0_2, .int .i64 a0_3, .int .i64 a0_4, .int .i64 a0_5]) (t:=28) ?hr ?_;(case hd|hg=>rfl);(case hr=>exact zh);intro gb219 hg w15 hbox hb;have n0_:=zM (below_step zb hb);have n1_:=zM (hbox);have n2_:=zM ((zw hg (below_size zb)));have n3_:=zM n2_.out;clear HB;have HB:=n0_;have BK219:=n1_;have GW219:=n2_;have GE219:=n3_;clear n0_ n1_ n2_ n3_;clear hb hbox hg;obtain⟨hcz16_0,hcz16_1,hcz16_2,hcz16_3,hcz16_4,hcz16_5,hfz16_0,hfz16_1,hfz16_2,hfz16_3,hfz16_4,hfz16_5⟩:=zc6 BK219.out)|((with_reducible refine gate_callee (f:=75) rfl ?_);refine goesL_ (some 5) rfl rfl Try.func75 ze rfl #[.int .i64 a0_0] rfl zg ?_;(with_reducible refine(spec_l13Width.calls a0_0 true _ A2.out).mono ?_);rintro e w' ⟨rfl,⟨nd,rfl⟩⟩;refine⟨_,rfl,?_⟩)|(go_at_call 76;(with_reducible refine(spec_l14Mend.calls a0_1 true _ A4.out).mono ?_);rintro e w' ⟨rfl,⟨nd,rfl⟩⟩)|(go_at_call 30;(with_reducible refine(spec_l1In.calls a0_2 1 64 true _ A6.out).mono ?_);rintro e w' ⟨rfl,⟨nd,rfl⟩⟩)|(go_at_call 30;(with_reducible refine(spec_l1In.calls a0_3 1 65535 true _ A8.out).mono ?_);rintro e w' ⟨rfl,⟨nd,rfl⟩⟩)|(go_at_call 30;(with_reducible refine(spec_l1In.calls a0_4 1 8 false _ A10.out).mono ?_);rintro e w' ⟨rfl,⟨nd,rfl⟩⟩))
  go_ret
  exact⟨zq,zb10⟩
 subst c11
 rw[if_pos rfl] at H
 replace H:=zP H
 obtain⟨t225,A12,H⟩:=H
 obtain rfl:=zI H
 go_enter Try.func29,Try.ntmps29
 go_wp2_with (first|((with_reducible refine gate_dst (N:=1) rfl ?_);refine box_event ?hg (N:=1) ?hd (cs:= #[.int .i64 a0_0, .int .i64 a0_1, .int .i64 a0_2, .int .i64 a0_3, .int .i64 a0_4, .int .i64 a0_5]) (t:=28) ?hr ?_;(case hd|hg=>rfl);(case hr=>exact zh);intro gb219 hg w13 hbox hb;have n0_:=zM (below_step zb hb);have n1_:=zM (hbox);have n2_:=zM ((zw hg (below_size zb)));have n3_:=zM n2_.out;clear HB;have HB:=n0_;have BK219:=n1_;have GW219:=n2_;have GE219:=n3_;clear n0_ n1_ n2_ n3_;clear hb hbox hg;obtain⟨hcz14_0,hcz14_1,hcz14_2,hcz14_3,hcz14_4,hcz14_5,hfz14_0,hfz14_1,hfz14_2,hfz14_3,hfz14_4,hfz14_5⟩:=zc6 BK219.out)|((with_reducible refine gate_callee (f:=75) rfl ?_);refine goesL_ (some 5) rfl rfl Try.func75 ze rfl #[.int .i64 a0_0] rfl zg ?_;(with_reducible refine(spec_l13Width.calls a0_0 true _ A2.out).mono ?_);rintro e w' ⟨rfl,⟨nd,rfl⟩⟩;refine⟨_,rfl,?_⟩)|(go_at_call 76;(with_reducible refine(spec_l14Mend.calls a0_1 true _ A4.out).mono ?_);rintro e w' ⟨rfl,⟨nd,rfl⟩⟩)|(go_at_call 30;(with_reducible refine(spec_l1In.calls a0_2 1 64 true _ A6.out).mono ?_);rintro e w' ⟨rfl,⟨nd,rfl⟩⟩)|(go_at_call 30;(with_reducible refine(spec_l1In.calls a0_3 1 65535 true _ A8.out).mono ?_);rintro e w' ⟨rfl,⟨nd,rfl⟩⟩)|(go_at_call 30;(with_reducible refine(spec_l1In.calls a0_4 1 8 true _ A10.out).mono ?_);rintro e w' ⟨rfl,⟨nd,rfl⟩⟩)|(go_at_call 30;(with_reducible refine(spec_l1In.calls a0_5 1 10000 t225 _ A12.out).mono ?_);rintro e w' ⟨rfl,⟨nd,rfl⟩⟩))
 go_ret
 exact⟨zq,zb10⟩
def spec_BitsOk.l0:Nat→List Int→Int→Option (Bool)
 |0,_,_=>none
 |k+1,x0,x3=>if x3<(x0.length:Int) then(if 0≤x3 then((spec_l1In.f (rd x0 x3) 0 1).bind fun t227=>(if t227=true then(spec_BitsOk.l0 k x0 (wrap64 (x3+1))) else(some false))) else(none)) else(some (decide ((x0.length:Int)≤1024)))
def spec_BitsOk.f (k:Nat) (l0:List Int):Option (Bool):=spec_BitsOk.l0 k l0 0
theorem spec_BitsOk.calls (k:Nat) (A0:Option Addr) (c0:Nat) (l0:List Int) (r:Bool) (w:World) (hr0:Kd.C (Kd.int .i64) w A0 l0.length l0) (hc0:l0.length≤c0) (H:spec_BitsOk.f k l0=some r):
 Calls Try.prog 80 #[.slice A0 l0.length c0] w fun e w'=>e= .returned (.bool r)∧Drawn0 w w':=by
 have HR0:=zM hr0
 have HC0:=zM hc0
 clear hr0 hc0
 unfold spec_BitsOk.f at H
 have H':=zM H
 clear H
 go_enter Try.func80,Try.ntmps80
 go_wp2
 (try simp only[Act.put,zL1,zL2,zL3])
 go_loopg [3] k (fun kq v3 w'=>∃(x3_1:Int),v3= .int .i64 x3_1∧Aside0 (spec_BitsOk.l0 kq l0 x3_1=some r)∧Aside0 (kq≤k)∧Drawn0 w w')
 case atStart=>exact⟨(0),zs,H',⟨Nat.le_refl _⟩,zd⟩
 case round=>
  clear H'
  obtain⟨x3_1,rfl,HA,HK1,⟨m1,rfl⟩⟩:=hrel
  cases gk with
  |zero=>exact absurd HA.out (by simp[spec_BitsOk.l0])
  | succ k1=>
   have H:=HA.out
   clear HA
   simp only[spec_BitsOk.l0] at H
   replace H:=zI2 H
   rcases H with⟨c2,H⟩|⟨c2,H⟩
   case inr=>
    have c2b0:=decide_eq_false c2
    clear c2
    obtain rfl:=zI H
    go_wp2
    go_ret
    exact⟨zs,zd⟩
   have c2b0:=zE c2
   clear c2
   replace H:=zID H
   obtain⟨c3b0,H⟩:=H
   replace H:=zP H
   obtain⟨t227,A4,H⟩:=H
   by_cases c5:t227=true
   case neg=>
    replace c5:=Bool.eq_false_iff.mpr c5
    subst c5
    rw[if_neg zFT] at H
    obtain rfl:=zI H
    have p226:0≤(x3_1:Int):=zT (by assumption)
    have q226:x3_1<(l0.length:Int):=zT (by assumption)
    obtain⟨ad226,e226,hx226_0⟩:=Kd.at_int HR0.out x3_1 p226 q226
    cases e226
    replace p226:=eq_true p226
    replace q226:=eq_true q226
    go_wp2_with (first|((with_reducible refine gate_callee (f:=30) rfl ?_);refine goesL_ (some 14) rfl rfl Try.func30 ze rfl #[.int .i64 (rd l0 x3_1), .int .i64 0, .int .i64 1] rfl zg ?_;(with_reducible refine(spec_l1In.calls (rd l0 x3_1) 0 1 false _ A4.out).mono ?_);rintro e w' ⟨rfl,⟨nd,rfl⟩⟩;refine⟨_,rfl,?_⟩))
    go_ret
    exact⟨zs,zd⟩
   subst c5
   rw[if_pos rfl] at H
   have H':=zM H
   clear H
   have p226:0≤(x3_1:Int):=zT (by assumption)
   have q226:x3_1<(l0.length:Int):=zT (by assumption)
   obtain⟨ad226,e226,hx226_0⟩:=Kd.at_int HR0.out x3_1 p226 q226
   cases e226
   replace p226:=eq_true p226
   replace q226:=eq_true q226
   go_wp2_with (first|((with_reducible refine gate_callee (f:=30) rfl ?_);refine goesL_ (some 14) rfl rfl Try.func30 ze rfl #[.int .i64 (rd l0 x3_1), .int .i64 0, .int .i64 1] rfl zg ?_;(with_reducible refine(spec_l1In.calls (rd l0 x3_1) 0 1 true _ A4.out).mono ?_);rintro e w' ⟨rfl,⟨nd,rfl⟩⟩;refine⟨_,rfl,?_⟩))
   go_roundg k1
   case measure=>have:=HK1.out;omega
   case rel=>exact⟨(wrap64 (x3_1+1)),zs,H',⟨zl1 HK1⟩,zd⟩
mutual
def spec_Stir.j0:Nat→List Int→Int→Int→List Int→Bool→Option (List Int×Bool)
 |0,_,_,_,_,_=>none
 |k+1,x0,x1,x2,x8,x25=>if x25=true then(some (x8,false)) else(spec_Stir.l0 k x0 x1 x8 x2 0)
def spec_Stir.l0:Nat→List Int→Int→List Int→Int→Int→Option (List Int×Bool)
 |0,_,_,_,_,_=>none
 |k+1,x0,x1,x8,x9,x10=>if x10<(x0.length:Int) then(if 0≤x10 then(if x8.length<17592186044416 then((some (x8++[Go.bits .xor .i64 (rd x0 x10) (Int.tmod x9 2)]:List Int)).bind fun y235=>(if(Int.tmod x9 2)=1 then(spec_Stir.l0 k x0 x1 y235 (Go.bits .xor .i64 (wrap64 (Int.tdiv x9 2)) x1) (wrap64 (x10+1))) else(spec_Stir.l0 k x0 x1 y235 (wrap64 (Int.tdiv x9 2)) (wrap64 (x10+1))))) else(none)) else(none)) else(some (x8,true))
end
def spec_Stir.f (k:Nat) (l0:List Int) (a1:Int) (a2:Int):Option (List Int×Bool):=(some (([]:List Int):List Int)).bind fun y228=>((spec_BitsOk.f k l0).bind fun t231=>(if t231=true then((spec_l1In.f a1 1 65535).bind fun t232=>(if t232=true then((spec_l1In.f a2 1 65535).bind fun t233=>(spec_Stir.j0 k l0 a1 a2 y228 (!t233))) else(spec_Stir.j0 k l0 a1 a2 y228 true))) else(spec_Stir.j0 k l0 a1 a2 y228 true)))
theorem spec_Stir.calls (k:Nat) (A0:Option Addr) (c0:Nat) (l0:List Int) (a1:Int) (a2:Int) (r1:List Int) (r2:Bool) (w:World) (hr0:Kd.C (Kd.int .i64) w A0 l0.length l0) (hc0:l0.length≤c0) (H:spec_Stir.f k l0 a1 a2=some (r1,r2)):
 Calls Try.prog 34 #[.slice A0 l0.length c0, .int .i64 a1, .int .i64 a2] w fun e w'=>∃v0_:Value,e= .returned (.tuple #[v0_, .bool r2])∧Kd.R (Kd.int .i64) 3 w' w.heap.size (fun _=>True) v0_ r1∧Below w.heap.size w w':=by
 have HR0:=zM hr0
 have HC0:=zM hc0
 clear hr0 hc0
 have HB:=zM (Below.refl w.heap.size w)
 unfold spec_Stir.f at H
 replace H:=zY H
 obtain⟨y228,Ny228,H⟩:=H
 have HC4:=zM H
 clear H
 go_enter Try.func34,Try.ntmps34
 go_upto_region 2 with(first|((with_reducible refine gate_dst (N:=12) rfl ?_);refine Kd.R_lit (Kd.int .i64) _ 3 ?hg (N:=12) ?hd (xs:=([]:List Int)) (inner:=[]) (ok:=fun _=>True) (okp:=fun _=>True) ?hr ?hp (fun _ hk=>hk) trivial (Below.refl _ _) (Nat.le_refl _) (by simp) ?_;(case hd|hg=>rfl);(case hr=>exact zh);(case hp=>exact(Reps.none _ _));intro v229 w5 ho6 hb hg_ hnew_;clear hg_ hnew_;(first|rw[←Ny228.out] at ho6|simp only[Int.reduceToNat,←Ny228.out] at ho6);refine zS2 (Kd.R_lower ho6 (below_size zb)) (below_step zb hb) ?_;clear HB;intro HO230 HB;clear hb ho6))
 (try simp only[Act.put,zL1,zL2,zL3])
 go_cut [25] (fun v25 wc=>∃(kq:Nat) (x25_3:Bool),v25= .bool x25_3∧Aside0 (spec_Stir.j0 kq l0 a1 a2 y228 x25_3=some (r1,r2))∧Aside0 (kq≤k)∧Aside0 (Kd.R (Kd.int .i64) 3 wc w.heap.size (fun _=>True) v229 y228)∧Aside0 (Below w.heap.size w wc))
 case first=>
  have H:=HC4.out
  clear HC4
  replace H:=zP H
  obtain⟨t231,A7,H⟩:=H
  by_cases c8:t231=true
  case neg=>
   replace c8:=Bool.eq_false_iff.mpr c8
   subst c8
   rw[if_neg zFT] at H
   have H':=zM H
   clear H
   go_wp2_with (first|((with_reducible refine gate_callee (f:=80) rfl ?_);refine goesL_ (some 14) rfl rfl Try.func80 ze rfl #[.slice A0 l0.length c0] rfl zg ?_;(with_reducible refine(spec_BitsOk.calls k _ _ l0 false _ ?side1 ?side2 A7.out).mono ?_);(case side1=>exact zc (Kd.C_below HR0.out HB.out));(case side2=>exact HC0.out);rintro e w' ⟨rfl,⟨nd,rfl⟩⟩;refine⟨_,rfl,?_⟩))
   go_meet
   case rel=>exact⟨_,(true),zs,H',⟨zo⟩,⟨zr HO230⟩,⟨zb⟩⟩
  subst c8
  rw[if_pos rfl] at H
  replace H:=zP H
  obtain⟨t232,A9,H⟩:=H
  by_cases c10:t232=true
  case neg=>
   replace c10:=Bool.eq_false_iff.mpr c10
   subst c10
   rw[if_neg zFT] at H
   have H':=zM H
   clear H
   go_wp2_with (first|((with_reducible refine gate_callee (f:=80) rfl ?_);refine goesL_ (some 14) rfl rfl Try.func80 ze rfl #[.slice A0 l0.length c0] rfl zg ?_;(with_reducible refine(spec_BitsOk.calls k _ _ l0 true _ ?side1 ?side2 A7.out).mono ?_);(case side1=>exact zc (Kd.C_below HR0.out HB.out));(case side2=>exact HC0.out);rintro e w' ⟨rfl,⟨nd,rfl⟩⟩;refine⟨_,rfl,?_⟩)|(go_at_call 30;(with_reducible refine(spec_l1In.calls a1 1 65535 false _ A9.out).mono ?_);rintro e w' ⟨rfl,⟨nd,rfl⟩⟩))
   go_meet
   case rel=>exact⟨_,(true),zs,H',⟨zo⟩,⟨zr HO230⟩,⟨zb⟩⟩
  subst c10
  rw[if_pos rfl] at H
  replace H:=zP H
  obtain⟨t233,A11,H⟩:=H
  have H':=zM H
  clear H
  go_wp2_with (first|((with_reducible refine gate_callee (f:=80) rfl ?_);refine goesL_ (some 14) rfl rfl Try.func80 ze rfl #[.slice A0 l0.length c0] rfl zg ?_;(with_reducible refine(spec_BitsOk.calls k _ _ l0 true _ ?side1 ?side2 A7.out).mono ?_);(case side1=>exact zc (Kd.C_below HR0.out HB.out));(case side2=>exact HC0.out);rintro e w' ⟨rfl,⟨nd,rfl⟩⟩;refine⟨_,rfl,?_⟩)|(go_at_call 30;(with_reducible refine(spec_l1In.calls a1 1 65535 true _ A9.out).mono ?_);rintro e w' ⟨rfl,⟨nd,rfl⟩⟩)|(go_at_call 30;(with_reducible refine(spec_l1In.calls a2 1 65535 t233 _ A11.out).mono ?_);rintro e w' ⟨rfl,⟨nd,rfl⟩⟩))
  go_meet
  case rel=>exact⟨_,(!t233),zs,H',⟨zo⟩,⟨zr HO230⟩,⟨zb⟩⟩
 case rest=>
  clear HC4
  try clear c1
  try clear p2
  try clear c3
  try clear c8
  try clear c10
  obtain⟨kq,x25_3,rfl,HA,HJ3,HO_8,HB⟩:=hcut
  cases kq with
  |zero=>exact absurd HA.out (by simp[spec_Stir.j0])
  | succ kj3=>
   have H:=HA.out
   clear HA
   simp only[spec_Stir.j0] at H
   by_cases c12:x25_3=true
   case pos=>
    subst c12
    rw[if_pos rfl] at H
    simp only[Option.some.injEq,Prod.mk.injEq] at H
    obtain⟨rfl,rfl⟩:=H
    go_wp2
    go_ret2
    exact⟨_,zq,zr HO_8,zb⟩
   replace c12:=Bool.eq_false_iff.mpr c12
   subst c12
   rw[if_neg zFT] at H
   have H':=zM H
   clear H
   go_wp2
   (try simp only[Act.put,zL1,zL2,zL3])
   go_loopg [8,9,10] kj3 (fun kq v8 v9 v10 w'=>∃(x8_2:List Int) (x9_2:Int) (x10_2:Int),v9= .int .i64 x9_2∧v10= .int .i64 x10_2∧Aside0 (spec_Stir.l0 kq l0 a1 x8_2 x9_2 x10_2=some (r1,r2))∧Aside0 (kq≤kj3)∧Aside0 (Kd.R (Kd.int .i64) 3 w' w.heap.size (fun _=>True) v8 x8_2)∧Aside0 (Below w.heap.size w w'))
   case atStart=>exact⟨(y228),(a2),(0),zs,zs,H',⟨Nat.le_refl _⟩,⟨zr HO_8⟩,⟨zb⟩⟩
   case round=>
    clear H'
    try clear c1
    try clear p2
    try clear c3
    try clear c8
    try clear c10
    try clear c12
    try clear p2
    obtain⟨x8_2,x9_2,x10_2,rfl,rfl,HA,HK2,HO_8,HB⟩:=hrel
    cases gk with
    |zero=>exact absurd HA.out (by simp[spec_Stir.l0])
    | succ k2=>
     have H:=HA.out
     clear HA
     simp only[spec_Stir.l0] at H
     replace H:=zI2 H
     rcases H with⟨c13,H⟩|⟨c13,H⟩
     case inr=>
      have c13b0:=decide_eq_false c13
      clear c13
      simp only[Option.some.injEq,Prod.mk.injEq] at H
      obtain⟨rfl,rfl⟩:=H
      go_wp2
      go_ret2
      exact⟨_,zq,zr HO_8,zb⟩
     have c13b0:=zE c13
     clear c13
     replace H:=zID H
     obtain⟨c14b0,H⟩:=H
     replace H:=zIM H
     obtain⟨LMc15,H⟩:=H
     replace H:=zY H
     obtain⟨y235,Ny235,H⟩:=H
     replace H:=zI2 H
     rcases H with⟨c16,H⟩|⟨c16,H⟩
     case inr=>
      have c16b0:((Int.tmod x9_2 2)==1)=false:=beq_eq_false_iff_ne.mpr c16
      have c16b1:((Int.tmod x9_2 2) != 1)=true:=bne_iff_ne.mpr c16
      have H':=zM H
      clear H
      have p234:0≤(x10_2:Int):=zT (by assumption)
      have q234:x10_2<(l0.length:Int):=zT (by assumption)
      obtain⟨ad234,e234,hx234_0⟩:=Kd.at_int HR0.out x10_2 p234 q234
      cases e234
      replace hx234_0:=(HB.out.cell (zW w _ hx234_0)).trans hx234_0
      replace p234:=eq_true p234
      replace q234:=eq_true q234
      go_wp2_with (first|((with_reducible refine gate_builtin (b:= .append) (xs:= #[.tmp 36, .tmp 43]) rfl ?_);at_builtin;refine Kd.R_append (Kd.int .i64) (w0:=w) w.heap.size rfl (.tmp 36) (.tmp 43) 46 3 (.int .i64 0) 8 rfl Try.underlying46 info3 rfl (by decide) (by omega) u8 x8_2 (Go.bits .xor .i64 (rd l0 x10_2) (Int.tmod x9_2 2)) [.int .i64 (Go.bits .xor .i64 (rd l0 x10_2) (Int.tmod x9_2 2))] (fun _=>True) (fun _=>False) rfl rfl ?aP (fun _ hk=>hk.elim) ?aF ?aO ?aB ?aS ?aL ?_;(case aP=>exact rfl);(case aB=>exact zb);(case aF=>exact(fun _ _=>trivial));(case aO=>exact(zr HO_8));(case aS=>exact(below_size zb));(case aL=>have:=LMc15.out;omega);intro v236 w18 ho hb hg hat;(first|rw[←Ny235.out] at ho|simp only[Int.reduceToNat,←Ny235.out] at ho);refine zS2 (hb) (ho) ?_;clear HB HO_8;intro HB HO237;clear ho hb hg hat))
      go_roundg k2
      case measure=>have:=HJ3.out;have:=HK2.out;omega
      case rel=>exact⟨(y235),(wrap64 (Int.tdiv x9_2 2)),(wrap64 (x10_2+1)),zs,zs,H',⟨zl2 HJ3 HK2⟩,⟨zr HO237⟩,⟨zb⟩⟩
     have c16b0:((Int.tmod x9_2 2)==1)=true:=beq_iff_eq.mpr c16
     have c16b1:((Int.tmod x9_2 2) != 1)=false:=bne_eq_false_iff_eq.mpr c16
     clear c16
     have H':=zM H
     clear H
     have p234:0≤(x10_2:Int):=zT (by assumption)
     have q234:x10_2<(l0.length:Int):=zT (by assumption)
     obtain⟨ad234,e234,hx234_0⟩:=Kd.at_int HR0.out x10_2 p234 q234
     cases e234
     replace hx234_0:=(HB.out.cell (zW w _ hx234_0)).trans hx234_0
     replace p234:=eq_true p234
     replace q234:=eq_true q234
     go_wp2_with (first|((with_reducible refine gate_builtin (b:= .append) (xs:= #[.tmp 36, .tmp 43]) rfl ?_);at_builtin;refine Kd.R_append (Kd.int .i64) (w0:=w) w.heap.size rfl (.tmp 36) (.tmp 43) 46 3 (.int .i64 0) 8 rfl Try.underlying46 info3 rfl (by decide) (by omega) u8 x8_2 (Go.bits .xor .i64 (rd l0 x10_2) (Int.tmod x9_2 2)) [.int .i64 (Go.bits .xor .i64 (rd l0 x10_2) (Int.tmod x9_2 2))] (fun _=>True) (fun _=>False) rfl rfl ?aP (fun _ hk=>hk.elim) ?aF ?aO ?aB ?aS ?aL ?_;(case aP=>exact rfl);(case aB=>exact zb);(case aF=>exact(fun _ _=>trivial));(case aO=>exact(zr HO_8));(case aS=>exact(below_size zb));(case aL=>have:=LMc15.out;omega);intro v236 w17 ho hb hg hat;(first|rw[←Ny235.out] at ho|simp only[Int.reduceToNat,←Ny235.out] at ho);refine zS2 (hb) (ho) ?_;clear HB HO_8;intro HB HO237;clear ho hb hg hat))
     go_roundg k2
     case measure=>have:=HJ3.out;have:=HK2.out;omega
     case rel=>exact⟨(y235),(Go.bits .xor .i64 (wrap64 (Int.tdiv x9_2 2)) a1),(wrap64 (x10_2+1)),zs,zs,H',⟨zl2 HJ3 HK2⟩,⟨zr HO237⟩,⟨zb⟩⟩
def spec_l5Sample.f (a0:Int):Option (Bool):=(spec_l1In.f a0 (-1000000000) 1000000000).bind fun t238=>(some t238)
theorem spec_l5Sample.calls (a0:Int) (r:Bool) (w:World) (H:spec_l5Sample.f a0=some r):
 Calls Try.prog 110 #[.int .i64 a0] w fun e w'=>e= .returned (.bool r)∧Drawn0 w w':=by
 unfold spec_l5Sample.f at H
 replace H:=zP H
 obtain⟨t238,A2,H⟩:=H
 obtain rfl:=zI H
 go_enter Try.func110,Try.ntmps110
 go_wp2_with (first|((with_reducible refine gate_callee (f:=30) rfl ?_);refine goesL_ (some 4) rfl rfl Try.func30 ze rfl #[.int .i64 a0, .int .i64 (-1000000000), .int .i64 1000000000] rfl zg ?_;(with_reducible refine(spec_l1In.calls a0 (-1000000000) 1000000000 t238 _ A2.out).mono ?_);rintro e w' ⟨rfl,⟨nd,rfl⟩⟩;refine⟨_,rfl,?_⟩))
 go_ret
 exact⟨zs,zd⟩
def spec_l18Burst.l0:Nat→List (S52)→Int→Option (Bool)
 |0,_,_=>none
 |k+1,x0,x3=>if x3<(x0.length:Int) then(if 0≤x3 then((spec_l5Sample.f ((rd_T52 x0 x3).f0)).bind fun t240=>(if t240=true then((spec_l5Sample.f ((rd_T52 x0 x3).f1)).bind fun t242=>(if t242=true then(spec_l18Burst.l0 k x0 (wrap64 (x3+1))) else(some false))) else(some false))) else(none)) else(some (decide ((x0.length:Int)≤4096)))
def spec_l18Burst.f (k:Nat) (l0:List (S52)):Option (Bool):=spec_l18Burst.l0 k l0 0
theorem spec_l18Burst.calls (k:Nat) (A0:Option Addr) (c0:Nat) (l0:List (S52)) (r:Bool) (w:World) (hr0:Kd.C k52 w A0 l0.length l0) (hc0:l0.length≤c0) (H:spec_l18Burst.f k l0=some r):
 Calls Try.prog 63 #[.slice A0 l0.length c0] w fun e w'=>e= .returned (.bool r)∧Drawn0 w w':=by
 have HR0:=zM hr0
 have HC0:=zM hc0
 clear hr0 hc0
 unfold spec_l18Burst.f at H
 have H':=zM H
 clear H
 go_enter Try.func63,Try.ntmps63
 go_wp2
 (try simp only[Act.put,zL1,zL2,zL3])
 go_loopg [3] k (fun kq v3 w'=>∃(x3_1:Int),v3= .int .i64 x3_1∧Aside0 (spec_l18Burst.l0 kq l0 x3_1=some r)∧Aside0 (kq≤k)∧Drawn0 w w')
 case atStart=>exact⟨(0),zs,H',⟨Nat.le_refl _⟩,zd⟩
 case round=>
  clear H'
  obtain⟨x3_1,rfl,HA,HK1,⟨m1,rfl⟩⟩:=hrel
  cases gk with
  |zero=>exact absurd HA.out (by simp[spec_l18Burst.l0])
  | succ k1=>
   have H:=HA.out
   clear HA
   simp only[spec_l18Burst.l0] at H
   replace H:=zI2 H
   rcases H with⟨c2,H⟩|⟨c2,H⟩
   case inr=>
    have c2b0:=decide_eq_false c2
    clear c2
    obtain rfl:=zI H
    go_wp2
    go_ret
    exact⟨zs,zd⟩
   have c2b0:=zE c2
   clear c2
   replace H:=zID H
   obtain⟨c3b0,H⟩:=H
   replace H:=zP H
   obtain⟨t240,A4,H⟩:=H
   by_cases c5:t240=true
   case neg=>
    replace c5:=Bool.eq_false_iff.mpr c5
    subst c5
    rw[if_neg zFT] at H
    obtain rfl:=zI H
    have p239:0≤(x3_1:Int):=zT (by assumption)
    have q239:x3_1<(l0.length:Int):=zT (by assumption)
    obtain⟨ad239,e239,hx239_0,hx239_1⟩:=at_T52 HR0.out x3_1 p239 q239
    cases e239
    replace p239:=eq_true p239
    replace q239:=eq_true q239
    go_wp2_with (first|((with_reducible refine gate_callee (f:=110) rfl ?_);refine goesL_ (some 15) rfl rfl Try.func110 ze rfl #[.int .i64 ((rd_T52 l0 x3_1).f0)] rfl zg ?_;(with_reducible refine(spec_l5Sample.calls ((rd_T52 l0 x3_1).f0) false _ A4.out).mono ?_);rintro e w' ⟨rfl,⟨nd,rfl⟩⟩;refine⟨_,rfl,?_⟩))
    go_ret
    exact⟨zs,zd⟩
   subst c5
   rw[if_pos rfl] at H
   replace H:=zP H
   obtain⟨t242,A6,H⟩:=H
   by_cases c7:t242=true
   case neg=>
    replace c7:=Bool.eq_false_iff.mpr c7
    subst c7
    rw[if_neg zFT] at H
    obtain rfl:=zI H
    have p239:0≤(x3_1:Int):=zT (by assumption)
    have q239:x3_1<(l0.length:Int):=zT (by assumption)
    obtain⟨ad239,e239,hx239_0,hx239_1⟩:=at_T52 HR0.out x3_1 p239 q239
    cases e239
    replace p239:=eq_true p239
    replace q239:=eq_true q239
    go_wp2_with (first|((with_reducible refine gate_callee (f:=110) rfl ?_);refine goesL_ (some 15) rfl rfl Try.func110 ze rfl #[.int .i64 ((rd_T52 l0 x3_1).f0)] rfl zg ?_;(with_reducible refine(spec_l5Sample.calls ((rd_T52 l0 x3_1).f0) true _ A4.out).mono ?_);rintro e w' ⟨rfl,⟨nd,rfl⟩⟩;refine⟨_,rfl,?_⟩;have p241:0≤(x3_1:Int):=zT (by assumption);have q241:x3_1<(l0.length:Int):=zT (by assumption);obtain⟨ad241,e241,hx241_0,hx241_1⟩:=at_T52 HR0.out x3_1 p241 q241;obtain rfl:ad239=ad241:=(by injection e241);replace p241:=eq_true p241;replace q241:=eq_true q241)|(go_at_call 110;(with_reducible refine(spec_l5Sample.calls ((rd_T52 l0 x3_1).f1) false _ A6.out).mono ?_);rintro e w' ⟨rfl,⟨nd,rfl⟩⟩))
    go_ret
    exact⟨zs,zd⟩
   subst c7
   rw[if_pos rfl] at H
   have H':=zM H
   clear H
   have p239:0≤(x3_1:Int):=zT (by assumption)
   have q239:x3_1<(l0.length:Int):=zT (by assumption)
   obtain⟨ad239,e239,hx239_0,hx239_1⟩:=at_T52 HR0.out x3_1 p239 q239
   cases e239
   replace p239:=eq_true p239
   replace q239:=eq_true q239
   go_wp2_with (first|((with_reducible refine gate_callee (f:=110) rfl ?_);refine goesL_ (some 15) rfl rfl Try.func110 ze rfl #[.int .i64 ((rd_T52 l0 x3_1).f0)] rfl zg ?_;(with_reducible refine(spec_l5Sample.calls ((rd_T52 l0 x3_1).f0) true _ A4.out).mono ?_);rintro e w' ⟨rfl,⟨nd,rfl⟩⟩;refine⟨_,rfl,?_⟩;have p241:0≤(x3_1:Int):=zT (by assumption);have q241:x3_1<(l0.length:Int):=zT (by assumption);obtain⟨ad241,e241,hx241_0,hx241_1⟩:=at_T52 HR0.out x3_1 p241 q241;obtain rfl:ad239=ad241:=(by injection e241);replace p241:=eq_true p241;replace q241:=eq_true q241)|(go_at_call 110;(with_reducible refine(spec_l5Sample.calls ((rd_T52 l0 x3_1).f1) true _ A6.out).mono ?_);rintro e w' ⟨rfl,⟨nd,rfl⟩⟩))
   go_roundg k1
   case measure=>have:=HK1.out;omega
   case rel=>exact⟨(wrap64 (x3_1+1)),zs,H',⟨zl1 HK1⟩,zd⟩
def spec_l18Size.f (a0:Int):Option (Int):=if a0<0 then(some (wrap64 (-a0))) else(some a0)
theorem spec_l18Size.calls (a0:Int) (r:Int) (w:World) (H:spec_l18Size.f a0=some r):
 Calls Try.prog 66 #[.int .i64 a0] w fun e w'=>e= .returned (.int .i64 r)∧Drawn0 w w':=by
 unfold spec_l18Size.f at H
 replace H:=zI2 H
 rcases H with⟨c2,H⟩|⟨c2,H⟩
 case inl=>
  have c2b0:=zE c2
  clear c2
  obtain rfl:=zI H
  go_enter Try.func66,Try.ntmps66
  go_wp2
  go_ret
  exact⟨zs,zd⟩
 have c2b0:=decide_eq_false c2
 clear c2
 obtain rfl:=zI H
 go_enter Try.func66,Try.ntmps66
 go_wp2
 go_ret
 exact⟨zs,zd⟩
end Go.Proofs.Ytapobpkeefeajaa.PFnExactHear
