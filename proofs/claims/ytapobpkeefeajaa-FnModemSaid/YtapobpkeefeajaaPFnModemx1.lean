-- A turned copy of the print's text.
import Derived.Test.YtapobpkeefeajaaPFnModemx0
namespace Go.Proofs.Ytapobpkeefeajaa.PFnModem
open Go.RowKit Go.Proofs.YtapobpkeefeajaaW.PrintWords Go.Proofs.YtapobpkeefeajaaW.PrintLast Go.Proofs.YtapobpkeefeajaaW.PrintMore
attribute [local go_sem] max2_int min2_int max_two min_two max_three min_three max_four min_four
set_option maxHeartbeats 8000000
set_option maxRecDepth 100000
set_option linter.unusedVariables false
set_option linter.unusedSimpArgs false
def impl_isWidth.f (a0:Int):Option (Bool):=if a0=2 then(some true) else(if a0=4 then(some true) else(if a0=6 then(some true) else(some (a0==8))))
theorem impl_isWidth.calls (a0:Int) (r:Bool) (w:World) (H:impl_isWidth.f a0=some r):
 Calls Try.prog 82 #[.int .i64 a0] w fun e w'=>e= .returned (.bool r)∧Drawn0 w w':=by
 unfold impl_isWidth.f at H
 replace H:=zI2 H
 rcases H with⟨c2,H⟩|⟨c2,H⟩
 case inl=>
  have c2b0:(a0==2)=true:=beq_iff_eq.mpr c2
  have c2b1:(a0 != 2)=false:=bne_eq_false_iff_eq.mpr c2
  clear c2
  obtain rfl:=zI H
  go_enter Try.func82,Try.ntmps82
  go_wp2
  go_ret
  exact⟨zs,zd⟩
 have c2b0:(a0==2)=false:=beq_eq_false_iff_ne.mpr c2
 have c2b1:(a0 != 2)=true:=bne_iff_ne.mpr c2
 replace H:=zI2 H
 rcases H with⟨c3,H⟩|⟨c3,H⟩
 case inl=>
  have c3b0:(a0==4)=true:=beq_iff_eq.mpr c3
  have c3b1:(a0 != 4)=false:=bne_eq_false_iff_eq.mpr c3
  clear c3
  obtain rfl:=zI H
  go_enter Try.func82,Try.ntmps82
  go_wp2
  go_ret
  exact⟨zs,zd⟩
 have c3b0:(a0==4)=false:=beq_eq_false_iff_ne.mpr c3
 have c3b1:(a0 != 4)=true:=bne_iff_ne.mpr c3
 replace H:=zI2 H
 rcases H with⟨c4,H⟩|⟨c4,H⟩
 case inr=>
  have c4b0:(a0==6)=false:=beq_eq_false_iff_ne.mpr c4
  have c4b1:(a0 != 6)=true:=bne_iff_ne.mpr c4
  obtain rfl:=zI H
  go_enter Try.func82,Try.ntmps82
  go_wp2
  go_ret
  exact⟨zs,zd⟩
 have c4b0:(a0==6)=true:=beq_iff_eq.mpr c4
 have c4b1:(a0 != 6)=false:=bne_eq_false_iff_eq.mpr c4
 clear c4
 obtain rfl:=zI H
 go_enter Try.func82,Try.ntmps82
 go_wp2
 go_ret
 exact⟨zs,zd⟩
def impl_isMend.f (a0:Int):Option (Bool):=if a0≥1 then(some (decide (a0≤8))) else(some false)
theorem impl_isMend.calls (a0:Int) (r:Bool) (w:World) (H:impl_isMend.f a0=some r):
 Calls Try.prog 83 #[.int .i64 a0] w fun e w'=>e= .returned (.bool r)∧Drawn0 w w':=by
 unfold impl_isMend.f at H
 replace H:=zI2 H
 rcases H with⟨c2,H⟩|⟨c2,H⟩
 case inl=>
  have c2b0:decide (1≤a0)=true:=zE c2
  clear c2
  obtain rfl:=zI H
  go_enter Try.func83,Try.ntmps83
  go_wp2
  go_ret
  exact⟨zs,zd⟩
 have c2b0:decide (1≤a0)=false:=decide_eq_false c2
 clear c2
 obtain rfl:=zI H
 go_enter Try.func83,Try.ntmps83
 go_wp2
 go_ret
 exact⟨zs,zd⟩
def impl_is16.f (a0:Int) (a1:Int):Option (Bool):=if a0≥a1 then(some (decide (a0≤65535))) else(some false)
theorem impl_is16.calls (a0:Int) (a1:Int) (r:Bool) (w:World) (H:impl_is16.f a0 a1=some r):
 Calls Try.prog 84 #[.int .i64 a0, .int .i64 a1] w fun e w'=>e= .returned (.bool r)∧Drawn0 w w':=by
 unfold impl_is16.f at H
 replace H:=zI2 H
 rcases H with⟨c3,H⟩|⟨c3,H⟩
 case inl=>
  have c3b0:decide (a1≤a0)=true:=zE c3
  clear c3
  obtain rfl:=zI H
  go_enter Try.func84,Try.ntmps84
  go_wp2
  go_ret
  exact⟨zs,zd⟩
 have c3b0:decide (a1≤a0)=false:=decide_eq_false c3
 clear c3
 obtain rfl:=zI H
 go_enter Try.func84,Try.ntmps84
 go_wp2
 go_ret
 exact⟨zs,zd⟩
def impl_ModemOk.f (a0_0:Int) (a0_1:Int) (a0_2:Int) (a0_3:Int) (a0_4:Int) (a0_5:Int):Option (Bool):=(impl_isWidth.f a0_0).bind fun t102=>(if t102=true then((impl_isMend.f a0_1).bind fun t103=>(if t103=true then(if a0_2≥1 then(if a0_2≤64 then((impl_is16.f a0_3 1).bind fun t104=>(if t104=true then(if a0_4≥1 then(if a0_4≤8 then(if a0_5≥1 then(some (decide (a0_5≤10000))) else(some false)) else(some false)) else(some false)) else(some false))) else(some false)) else(some false)) else(some false))) else(some false))
theorem impl_ModemOk.calls (a0_0:Int) (a0_1:Int) (a0_2:Int) (a0_3:Int) (a0_4:Int) (a0_5:Int) (r:Bool) (w:World) (H:impl_ModemOk.f a0_0 a0_1 a0_2 a0_3 a0_4 a0_5=some r):
 Calls Try.prog 36 #[.agg #[.int .i64 a0_0, .int .i64 a0_1, .int .i64 a0_2, .int .i64 a0_3, .int .i64 a0_4, .int .i64 a0_5]] w fun e w'=>e= .returned (.bool r)∧Below w.heap.size w w':=by
 have hu28:=Try.underlying28
 have HB:=zM (Below.refl w.heap.size w)
 unfold impl_ModemOk.f at H
 replace H:=zP H
 obtain⟨t102,A2,H⟩:=H
 by_cases c3:t102=true
 case neg=>
  replace c3:=Bool.eq_false_iff.mpr c3
  subst c3
  rw[if_neg zFT] at H
  obtain rfl:=zI H
  go_enter Try.func36,Try.ntmps36
  go_wp2_with (first|((with_reducible refine gate_dst (N:=1) rfl ?_);refine box_event ?hg (N:=1) ?hd (cs:= #[.int .i64 a0_0, .int .i64 a0_1, .int .i64 a0_2, .int .i64 a0_3, .int .i64 a0_4, .int .i64 a0_5]) (t:=28) ?hr ?_;(case hd|hg=>rfl);(case hr=>exact zh);intro gb101 hg w29 hbox hb;have n0_:=zM (below_step zb hb);have n1_:=zM (hbox);have n2_:=zM ((zw hg (below_size zb)));have n3_:=zM n2_.out;clear HB;have HB:=n0_;have BK101:=n1_;have GW101:=n2_;have GE101:=n3_;clear n0_ n1_ n2_ n3_;clear hb hbox hg;obtain⟨hcz30_0,hcz30_1,hcz30_2,hcz30_3,hcz30_4,hcz30_5,hfz30_0,hfz30_1,hfz30_2,hfz30_3,hfz30_4,hfz30_5⟩:=zc6 BK101.out)|((with_reducible refine gate_callee (f:=82) rfl ?_);refine goesL_ (some 5) rfl rfl Try.func82 ze rfl #[.int .i64 a0_0] rfl zg ?_;(with_reducible refine(impl_isWidth.calls a0_0 false _ A2.out).mono ?_);rintro e w' ⟨rfl,⟨nd,rfl⟩⟩;refine⟨_,rfl,?_⟩))
  go_ret
  exact⟨zq,zb1⟩
 subst c3
 rw[if_pos rfl] at H
 replace H:=zP H
 obtain⟨t103,A4,H⟩:=H
 by_cases c5:t103=true
 case neg=>
  replace c5:=Bool.eq_false_iff.mpr c5
  subst c5
  rw[if_neg zFT] at H
  obtain rfl:=zI H
  go_enter Try.func36,Try.ntmps36
  go_wp2_with (first|((with_reducible refine gate_dst (N:=1) rfl ?_);refine box_event ?hg (N:=1) ?hd (cs:= #[.int .i64 a0_0, .int .i64 a0_1, .int .i64 a0_2, .int .i64 a0_3, .int .i64 a0_4, .int .i64 a0_5]) (t:=28) ?hr ?_;(case hd|hg=>rfl);(case hr=>exact zh);intro gb101 hg w27 hbox hb;have n0_:=zM (below_step zb hb);have n1_:=zM (hbox);have n2_:=zM ((zw hg (below_size zb)));have n3_:=zM n2_.out;clear HB;have HB:=n0_;have BK101:=n1_;have GW101:=n2_;have GE101:=n3_;clear n0_ n1_ n2_ n3_;clear hb hbox hg;obtain⟨hcz28_0,hcz28_1,hcz28_2,hcz28_3,hcz28_4,hcz28_5,hfz28_0,hfz28_1,hfz28_2,hfz28_3,hfz28_4,hfz28_5⟩:=zc6 BK101.out)|((with_reducible refine gate_callee (f:=82) rfl ?_);refine goesL_ (some 5) rfl rfl Try.func82 ze rfl #[.int .i64 a0_0] rfl zg ?_;(with_reducible refine(impl_isWidth.calls a0_0 true _ A2.out).mono ?_);rintro e w' ⟨rfl,⟨nd,rfl⟩⟩;refine⟨_,rfl,?_⟩)|(go_at_call 83;(with_reducible refine(impl_isMend.calls a0_1 false _ A4.out).mono ?_);rintro e w' ⟨rfl,⟨nd,rfl⟩⟩))
  go_ret
  exact⟨zq,zb1⟩
 subst c5
 rw[if_pos rfl] at H
 replace H:=zI2 H
 rcases H with⟨c6,H⟩|⟨c6,H⟩
 case inr=>
  have c6b0:decide (1≤a0_2)=false:=decide_eq_false c6
  clear c6
  obtain rfl:=zI H
  go_enter Try.func36,Try.ntmps36
  go_wp2_with (first|((with_reducible refine gate_dst (N:=1) rfl ?_);refine box_event ?hg (N:=1) ?hd (cs:= #[.int .i64 a0_0, .int .i64 a0_1, .int .i64 a0_2, .int .i64 a0_3, .int .i64 a0_4, .int .i64 a0_5]) (t:=28) ?hr ?_;(case hd|hg=>rfl);(case hr=>exact zh);intro gb101 hg w25 hbox hb;have n0_:=zM (below_step zb hb);have n1_:=zM (hbox);have n2_:=zM ((zw hg (below_size zb)));have n3_:=zM n2_.out;clear HB;have HB:=n0_;have BK101:=n1_;have GW101:=n2_;have GE101:=n3_;clear n0_ n1_ n2_ n3_;clear hb hbox hg;obtain⟨hcz26_0,hcz26_1,hcz26_2,hcz26_3,hcz26_4,hcz26_5,hfz26_0,hfz26_1,hfz26_2,hfz26_3,hfz26_4,hfz26_5⟩:=zc6 BK101.out)|((with_reducible refine gate_callee (f:=82) rfl ?_);refine goesL_ (some 5) rfl rfl Try.func82 ze rfl #[.int .i64 a0_0] rfl zg ?_;(with_reducible refine(impl_isWidth.calls a0_0 true _ A2.out).mono ?_);rintro e w' ⟨rfl,⟨nd,rfl⟩⟩;refine⟨_,rfl,?_⟩)|(go_at_call 83;(with_reducible refine(impl_isMend.calls a0_1 true _ A4.out).mono ?_);rintro e w' ⟨rfl,⟨nd,rfl⟩⟩))
  go_ret
  exact⟨zq,zb1⟩
 have c6b0:decide (1≤a0_2)=true:=zE c6
 clear c6
 replace H:=zI2 H
 rcases H with⟨c7,H⟩|⟨c7,H⟩
 case inr=>
  have c7b0:=decide_eq_false c7
  clear c7
  obtain rfl:=zI H
  go_enter Try.func36,Try.ntmps36
  go_wp2_with (first|((with_reducible refine gate_dst (N:=1) rfl ?_);refine box_event ?hg (N:=1) ?hd (cs:= #[.int .i64 a0_0, .int .i64 a0_1, .int .i64 a0_2, .int .i64 a0_3, .int .i64 a0_4, .int .i64 a0_5]) (t:=28) ?hr ?_;(case hd|hg=>rfl);(case hr=>exact zh);intro gb101 hg w23 hbox hb;have n0_:=zM (below_step zb hb);have n1_:=zM (hbox);have n2_:=zM ((zw hg (below_size zb)));have n3_:=zM n2_.out;clear HB;have HB:=n0_;have BK101:=n1_;have GW101:=n2_;have GE101:=n3_;clear n0_ n1_ n2_ n3_;clear hb hbox hg;obtain⟨hcz24_0,hcz24_1,hcz24_2,hcz24_3,hcz24_4,hcz24_5,hfz24_0,hfz24_1,hfz24_2,hfz24_3,hfz24_4,hfz24_5⟩:=zc6 BK101.out)|((with_reducible refine gate_callee (f:=82) rfl ?_);refine goesL_ (some 5) rfl rfl Try.func82 ze rfl #[.int .i64 a0_0] rfl zg ?_;(with_reducible refine(impl_isWidth.calls a0_0 true _ A2.out).mono ?_);rintro e w' ⟨rfl,⟨nd,rfl⟩⟩;refine⟨_,rfl,?_⟩)|(go_at_call 83;(with_reducible refine(impl_isMend.calls a0_1 true _ A4.out).mono ?_);rintro e w' ⟨rfl,⟨nd,rfl⟩⟩))
  go_ret
  exact⟨zq,zb1⟩
 have c7b0:=zE c7
 clear c7
 replace H:=zP H
 obtain⟨t104,A8,H⟩:=H
 by_cases c9:t104=true
 case neg=>
  replace c9:=Bool.eq_false_iff.mpr c9
  subst c9
  rw[if_neg zFT] at H
  obtain rfl:=zI H
  go_enter Try.func36,Try.ntmps36
  go_wp2_with (first|((with_reducible refine gate_dst (N:=1) rfl ?_);refine box_event ?hg (N:=1) ?hd (cs:= #[.int .i64 a0_0, .int .i64 a0_1, .int .i64 a0_2, .int .i64 a0_3, .int .i64 a0_4, .int .i64 a0_5]) (t:=28) ?hr ?_;(case hd|hg=>rfl);(case hr=>exact zh);intro gb101 hg w21 hbox hb;have n0_:=zM (below_step zb hb);have n1_:=zM (hbox);have n2_:=zM ((zw hg (below_size zb)));have n3_:=zM n2_.out;clear HB;have HB:=n0_;have BK101:=n1_;have GW101:=n2_;have GE101:=n3_;clear n0_ n1_ n2_ n3_;clear hb hbox hg;obtain⟨hcz22_0,hcz22_1,hcz22_2,hcz22_3,hcz22_4,hcz22_5,hfz22_0,hfz22_1,hfz22_2,hfz22_3,hfz22_4,hfz22_5⟩:=zc6 BK101.out)|((with_reducible refine gate_callee (f:=82) rfl ?_);refine goesL_ (some 5) rfl rfl Try.func82 ze rfl #[.int .i64 a0_0] rfl zg ?_;(with_reducible refine(impl_isWidth.calls a0_0 true _ A2.out).mono ?_);rintro e w' ⟨rfl,⟨nd,rfl⟩⟩;refine⟨_,rfl,?_⟩)|(go_at_call 83;(with_reducible refine(impl_isMend.calls a0_1 true _ A4.out).mono ?_);rintro e w' ⟨rfl,⟨nd,rfl⟩⟩)|(go_at_call 84;(with_reducible refine(impl_is16.calls a0_3 1 false _ A8.out).mono ?_);rintro e w' ⟨rfl,⟨nd,rfl⟩⟩))
  go_ret
  exact⟨zq,zb1⟩
 subst c9
 rw[if_pos rfl] at H
 replace H:=zI2 H
 rcases H with⟨c10,H⟩|⟨c10,H⟩
 case inr=>
  have c10b0:decide (1≤a0_4)=false:=decide_eq_false c10
  clear c10
  obtain rfl:=zI H
  go_enter Try.func36,Try.ntmps36
  go_wp2_with (first|((with_reducible refine gate_dst (N:=1) rfl ?_);refine box_event ?hg (N:=1) ?hd (cs:= #[.int .i64 a0_0, .int .i64 a0_1, .int .i64 a0_2, .int .i64 a0_3, .int .i64 a0_4, .int .i64 a0_5]) (t:=28) ?hr ?_;(case hd|hg=>rfl);(case hr=>exact zh);intro gb101 hg w19 hbox hb;have n0_:=zM (below_step zb hb);have n1_:=zM (hbox);have n2_:=zM ((zw hg (below_size zb)));have n3_:=zM n2_.out;clear HB;have HB:=n0_;have BK101:=n1_;have GW101:=n2_;have GE101:=n3_;clear n0_ n1_ n2_ n3_;clear hb hbox hg;obtain⟨hcz20_0,hcz20_1,hcz20_2,hcz20_3,hcz20_4,hcz20_5,hfz20_0,hfz20_1,hfz20_2,hfz20_3,hfz20_4,hfz20_5⟩:=zc6 BK101.out)|((with_reducible refine gate_callee (f:=82) rfl ?_);refine goesL_ (some 5) rfl rfl Try.func82 ze rfl #[.int .i64 a0_0] rfl zg ?_;(with_reducible refine(impl_isWidth.calls a0_0 true _ A2.out).mono ?_);rintro e w' ⟨rfl,⟨nd,rfl⟩⟩;refine⟨_,rfl,?_⟩)|(go_at_call 83;(with_reducible refine(impl_isMend.calls a0_1 true _ A4.out).mono ?_);rintro e w' ⟨rfl,⟨nd,rfl⟩⟩)|(go_at_call 84;(with_reducible refine(impl_is16.calls a0_3 1 true _ A8.out).mono ?_);rintro e w' ⟨rfl,⟨nd,rfl⟩⟩))
  go_ret
  exact⟨zq,zb1⟩
 have c10b0:decide (1≤a0_4)=true:=zE c10
 clear c10
 replace H:=zI2 H
 rcases H with⟨c11,H⟩|⟨c11,H⟩
 case inr=>
  have c11b0:=decide_eq_false c11
  clear c11
  obtain rfl:=zI H
  go_enter Try.func36,Try.ntmps36
  go_wp2_with (first|((with_reducible refine gate_dst (N:=1) rfl ?_);refine box_event ?hg (N:=1) ?hd (cs:= #[.int .i64 a0_0, .int .i64 a0_1, .int .i64 a0_2, .int .i64 a0_3, .int .i64 a0_4, .int .i64 a0_5]) (t:=28) ?hr ?_;(case hd|hg=>rfl);(case hr=>exact zh);intro gb101 hg w17 hbox hb;have n0_:=zM (below_step zb hb);have n1_:=zM (hbox);have n2_:=zM ((zw hg (below_size zb)));have n3_:=zM n2_.out;clear HB;have HB:=n0_;have BK101:=n1_;have GW101:=n2_;have GE101:=n3_;clear n0_ n1_ n2_ n3_;clear hb hbox hg;obtain⟨hcz18_0,hcz18_1,hcz18_2,hcz18_3,hcz18_4,hcz18_5,hfz18_0,hfz18_1,hfz18_2,hfz18_3,hfz18_4,hfz18_5⟩:=zc6 BK101.out)|((with_reducible refine gate_callee (f:=82) rfl ?_);refine goesL_ (some 5) rfl rfl Try.func82 ze rfl #[.int .i64 a0_0] rfl zg ?_;(with_reducible refine(impl_isWidth.calls a0_0 true _ A2.out).mono ?_);rintro e w' ⟨rfl,⟨nd,rfl⟩⟩;refine⟨_,rfl,?_⟩)|(go_at_call 83;(with_reducible refine(impl_isMend.calls a0_1 true _ A4.out).mono ?_);rintro e w' ⟨rfl,⟨nd,rfl⟩⟩)|(go_at_call 84;(with_reducible refine(impl_is16.calls a0_3 1 true _ A8.out).mono ?_);rintro e w' ⟨rfl,⟨nd,rfl⟩⟩))
  go_ret
  exact⟨zq,zb1⟩
 have c11b0:=zE c11
 clear c11
 replace H:=zI2 H
 rcases H with⟨c12,H⟩|⟨c12,H⟩
 case inl=>
  have c12b0:decide (1≤a0_5)=true:=zE c12
  clear c12
  obtain rfl:=zI H
  go_enter Try.func36,Try.ntmps36
  go_wp2_with (first|((with_reducible refine gate_dst (N:=1) rfl ?_);refine box_event ?hg (N:=1) ?hd (cs:= #[.int .i64 a0_0, .int .i64 a0_1, .int .i64 a0_2, .int .i64 a0_3, .int .i64 a0_4, .int .i64 a0_5]) (t:=28) ?hr ?_;(case hd|hg=>rfl);(case hr=>exact zh);intro gb101 hg w13 hbox hb;have n0_:=zM (below_step zb hb);have n1_:=zM (hbox);have n2_:=zM ((zw hg (below_size zb)));have n3_:=zM n2_.out;clear HB;have HB:=n0_;have BK101:=n1_;have GW101:=n2_;have GE101:=n3_;clear n0_ n1_ n2_ n3_;clear hb hbox hg;obtain⟨hcz14_0,hcz14_1,hcz14_2,hcz14_3,hcz14_4,hcz14_5,hfz14_0,hfz14_1,hfz14_2,hfz14_3,hfz14_4,hfz14_5⟩:=zc6 BK101.out)|((with_reducible refine gate_callee (f:=82) rfl ?_);refine goesL_ (some 5) rfl rfl Try.func82 ze rfl #[.int .i64 a0_0] rfl zg ?_;(with_reducible refine(impl_isWidth.calls a0_0 true _ A2.out).mono ?_);rintro e w' ⟨rfl,⟨nd,rfl⟩⟩;refine⟨_,rfl,?_⟩)|(go_at_call 83;(with_reducible refine(impl_isMend.calls a0_1 true _ A4.out).mono ?_);rintro e w' ⟨rfl,⟨nd,rfl⟩⟩)|(go_at_call 84;(with_reducible refine(impl_is16.calls a0_3 1 true _ A8.out).mono ?_);rintro e w' ⟨rfl,⟨nd,rfl⟩⟩))
  go_ret
  exact⟨zq,zb1⟩
 have c12b0:decide (1≤a0_5)=false:=decide_eq_false c12
 clear c12
 obtain rfl:=zI H
 go_enter Try.func36,Try.ntmps36
 go_wp2_with (first|((with_reducible refine gate_dst (N:=1) rfl ?_);refine box_event ?hg (N:=1) ?hd (cs:= #[.int .i64 a0_0, .int .i64 a0_1, .int .i64 a0_2, .int .i64 a0_3, .int .i64 a0_4, .int .i64 a0_5]) (t:=28) ?hr ?_;(case hd|hg=>rfl);(case hr=>exact zh);intro gb101 hg w15 hbox hb;have n0_:=zM (below_step zb hb);have n1_:=zM (hbox);have n2_:=zM ((zw hg (below_size zb)));have n3_:=zM n2_.out;clear HB;have HB:=n0_;have BK101:=n1_;have GW101:=n2_;have GE101:=n3_;clear n0_ n1_ n2_ n3_;clear hb hbox hg;obtain⟨hcz16_0,hcz16_1,hcz16_2,hcz16_3,hcz16_4,hcz16_5,hfz16_0,hfz16_1,hfz16_2,hfz16_3,hfz16_4,hfz16_5⟩:=zc6 BK101.out)|((with_reducible refine gate_callee (f:=82) rfl ?_);refine goesL_ (some 5) rfl rfl Try.func82 ze rfl #[.int .i64 a0_0] rfl zg ?_;(with_reducible refine(impl_isWidth.calls a0_0 true _ A2.out).mono ?_);rintro e w' ⟨rfl,⟨nd,rfl⟩⟩;refine⟨_,rfl,?_⟩)|(go_at_call 83;(with_reducible refine(impl_isMend.calls a0_1 true _ A4.out).mono ?_);rintro e w' ⟨rfl,⟨nd,rfl⟩⟩)|(go_at_call 84;(with_reducible refine(impl_is16.calls a0_3 1 true _ A8.out).mono ?_);rintro e w' ⟨rfl,⟨nd,rfl⟩⟩))
 go_ret
 exact⟨zq,zb1⟩
def impl_sentOk.f (a0:Int):Option (Bool):=if a0≥1 then(some (decide (a0≤40))) else(some false)
theorem impl_sentOk.calls (a0:Int) (r:Bool) (w:World) (H:impl_sentOk.f a0=some r):
 Calls Try.prog 37 #[.int .i64 a0] w fun e w'=>e= .returned (.bool r)∧Drawn0 w w':=by
 unfold impl_sentOk.f at H
 replace H:=zI2 H
 rcases H with⟨c2,H⟩|⟨c2,H⟩
 case inl=>
  have c2b0:decide (1≤a0)=true:=zE c2
  clear c2
  obtain rfl:=zI H
  go_enter Try.func37,Try.ntmps37
  go_wp2
  go_ret
  exact⟨zs,zd⟩
 have c2b0:decide (1≤a0)=false:=decide_eq_false c2
 clear c2
 obtain rfl:=zI H
 go_enter Try.func37,Try.ntmps37
 go_wp2
 go_ret
 exact⟨zs,zd⟩
def impl_isByte.f (a0:Int):Option (Bool):=if a0≥0 then(some (decide (a0≤255))) else(some false)
theorem impl_isByte.calls (a0:Int) (r:Bool) (w:World) (H:impl_isByte.f a0=some r):
 Calls Try.prog 119 #[.int .i64 a0] w fun e w'=>e= .returned (.bool r)∧Drawn0 w w':=by
 unfold impl_isByte.f at H
 replace H:=zI2 H
 rcases H with⟨c2,H⟩|⟨c2,H⟩
 case inl=>
  have c2b0:decide (0≤a0)=true:=zE c2
  clear c2
  obtain rfl:=zI H
  go_enter Try.func119,Try.ntmps119
  go_wp2
  go_ret
  exact⟨zs,zd⟩
 have c2b0:decide (0≤a0)=false:=decide_eq_false c2
 clear c2
 obtain rfl:=zI H
 go_enter Try.func119,Try.ntmps119
 go_wp2
 go_ret
 exact⟨zs,zd⟩
mutual
def impl_GfMul.j0:Nat→Int→Int→Bool→Option (Int)
 |0,_,_,_=>none
 |k+1,x0,x1,x13=>if x13=true then(some 0) else(impl_GfMul.l0 k x0 x1 0)
def impl_GfMul.l0:Nat→Int→Int→Int→Option (Int)
 |0,_,_,_=>none
 |k+1,x0,x1,x5=>if x1>0 then(if(Go.bits .and .i64 x1 1)=1 then(if(wrap64 (x0*2))>255 then(impl_GfMul.l0 k (Go.bits .xor .i64 (wrap64 (x0*2)) 285) (x1 / 2) (Go.bits .xor .i64 x5 x0)) else(impl_GfMul.l0 k (wrap64 (x0*2)) (x1 / 2) (Go.bits .xor .i64 x5 x0))) else(if(wrap64 (x0*2))>255 then(impl_GfMul.l0 k (Go.bits .xor .i64 (wrap64 (x0*2)) 285) (x1 / 2) x5) else(impl_GfMul.l0 k (wrap64 (x0*2)) (x1 / 2) x5))) else(some x5)
end
def impl_GfMul.f (k:Nat) (a0:Int) (a1:Int):Option (Int):=(impl_isByte.f a0).bind fun t105=>(if t105=true then((impl_isByte.f a1).bind fun t106=>(impl_GfMul.j0 k a0 a1 (!t106))) else(impl_GfMul.j0 k a0 a1 true))
theorem impl_GfMul.mono_l:∀k,(∀y0 y1 y2,LeO (impl_GfMul.j0 k y0 y1 y2) (impl_GfMul.j0 (k+1) y0 y1 y2))∧(∀y0 y1 y2,LeO (impl_GfMul.l0 k y0 y1 y2) (impl_GfMul.l0 (k+1) y0 y1 y2))
 |0=>⟨fun _ _ _ r h=>by simp[impl_GfMul.j0] at h,fun _ _ _ r h=>by simp[impl_GfMul.l0] at h⟩
 | k+1=>by
  obtain⟨ih0,ih1⟩:=impl_GfMul.mono_l k
  refine⟨?_,?_⟩
  ·intro y0 y1 y2
   unfold impl_GfMul.j0
   repeat' first
   |(with_reducible exact ih0 _ _ _)
   |(with_reducible exact ih1 _ _ _)
   |(with_reducible exact LeO.refl _)
   |(with_reducible exact LeO.none _)
   |(with_reducible refine LeO.ite ?_ ?_)
   |(with_reducible refine LeO.bind ?_ (fun _=> ?_))
  ·intro y0 y1 y2
   unfold impl_GfMul.l0
   repeat' first
   |(with_reducible exact ih0 _ _ _)
   |(with_reducible exact ih1 _ _ _)
   |(with_reducible exact LeO.refl _)
   |(with_reducible exact LeO.none _)
   |(with_reducible refine LeO.ite ?_ ?_)
   |(with_reducible refine LeO.bind ?_ (fun _=> ?_))
theorem impl_GfMul.mono:∀a0 a1 k,LeO (impl_GfMul.f k a0 a1) (impl_GfMul.f (k+1) a0 a1):=by
 intro a0 a1 k
 obtain⟨ih0,ih1⟩:=impl_GfMul.mono_l k
 unfold impl_GfMul.f
 repeat' first
  |(with_reducible exact ih0 _ _ _)
  |(with_reducible exact ih1 _ _ _)
  |(with_reducible exact LeO.refl _)
  |(with_reducible exact LeO.none _)
  |(with_reducible refine LeO.ite ?_ ?_)
  |(with_reducible refine LeO.bind ?_ (fun _=> ?_))
theorem impl_GfMul.calls (k:Nat) (a0:Int) (a1:Int) (r:Int) (w:World) (H:impl_GfMul.f k a0 a1=some r):
 Calls Try.prog 87 #[.int .i64 a0, .int .i64 a1] w fun e w'=>e= .returned (.int .i64 r)∧Drawn0 w w':=by
 unfold impl_GfMul.f at H
 have HC3:=zM H
 clear H
 go_enter Try.func87,Try.ntmps87
 go_upto_region 1 with(fail)
 go_cut [13] (fun v13 wc=>∃(kq:Nat) (x13_2:Bool),v13= .bool x13_2∧Aside0 (impl_GfMul.j0 kq a0 a1 x13_2=some r)∧Aside0 (kq≤k)∧Drawn0 w wc)
 case first=>
  have H:=HC3.out
  clear HC3
  replace H:=zP H
  obtain⟨t105,A4,H⟩:=H
  by_cases c5:t105=true
  case neg=>
   replace c5:=Bool.eq_false_iff.mpr c5
   subst c5
   rw[if_neg zFT] at H
   have H':=zM H
   clear H
   go_wp2_with (first|((with_reducible refine gate_callee (f:=119) rfl ?_);refine goesL_ (some 7) rfl rfl Try.func119 ze rfl #[.int .i64 a0] rfl zg ?_;(with_reducible refine(impl_isByte.calls a0 false _ A4.out).mono ?_);rintro e w' ⟨rfl,⟨nd,rfl⟩⟩;refine⟨_,rfl,?_⟩))
   go_meet
   case rel=>exact⟨_,(true),zs,H',⟨zo⟩,zd⟩
  subst c5
  rw[if_pos rfl] at H
  replace H:=zP H
  obtain⟨t106,A6,H⟩:=H
  have H':=zM H
  clear H
  go_wp2_with (first|((with_reducible refine gate_callee (f:=119) rfl ?_);refine goesL_ (some 7) rfl rfl Try.func119 ze rfl #[.int .i64 a0] rfl zg ?_;(with_reducible refine(impl_isByte.calls a0 true _ A4.out).mono ?_);rintro e w' ⟨rfl,⟨nd,rfl⟩⟩;refine⟨_,rfl,?_⟩)|(go_at_call 119;(with_reducible refine(impl_isByte.calls a1 t106 _ A6.out).mono ?_);rintro e w' ⟨rfl,⟨nd,rfl⟩⟩))
  go_meet
  case rel=>exact⟨_,(!t106),zs,H',⟨zo⟩,zd⟩
 case rest=>
  clear HC3
  obtain⟨kq,x13_2,rfl,HA,HJ2,⟨mc2,rfl⟩⟩:=hcut
  cases kq with
  |zero=>exact absurd HA.out (by simp[impl_GfMul.j0])
  | succ kj2=>
   have H:=HA.out
   clear HA
   simp only[impl_GfMul.j0] at H
   by_cases c7:x13_2=true
   case pos=>
    subst c7
    rw[if_pos rfl] at H
    obtain rfl:=zI H
    go_wp2
    go_ret
    exact⟨zs,zd⟩
   replace c7:=Bool.eq_false_iff.mpr c7
   subst c7
   rw[if_neg zFT] at H
   have H':=zM H
   clear H
   go_wp2
   (try simp only[Act.put,zL1,zL2,zL3])
   go_loopg [0,1,5] kj2 (fun kq v0 v1 v5 w'=>∃(x0_2:Int) (x1_2:Int) (x5_2:Int),v0= .int .i64 x0_2∧v1= .int .i64 x1_2∧v5= .int .i64 x5_2∧Aside0 (impl_GfMul.l0 kq x0_2 x1_2 x5_2=some r)∧Aside0 (kq≤kj2)∧Drawn0 w w')
   case atStart=>exact⟨(a0),(a1),(0),zs,zs,zs,H',⟨Nat.le_refl _⟩,zd⟩
   case round=>
    clear H'
    obtain⟨x0_2,x1_2,x5_2,rfl,rfl,rfl,HA,HK2,⟨m2,rfl⟩⟩:=hrel
    cases gk with
    |zero=>exact absurd HA.out (by simp[impl_GfMul.l0])
    | succ k2=>
     have H:=HA.out
     clear HA
     simp only[impl_GfMul.l0] at H
     replace H:=zI2 H
     rcases H with⟨c8,H⟩|⟨c8,H⟩
     case inr=>
      have c8b0:decide (0<x1_2)=false:=decide_eq_false c8
      clear c8
      obtain rfl:=zI H
      go_wp2
      go_ret
      exact⟨zs,zd⟩
     have c8b0:decide (0<x1_2)=true:=zE c8
     clear c8
     replace H:=zI2 H
     rcases H with⟨c9,H⟩|⟨c9,H⟩
     case inr=>
      have c9b0:((Go.bits .and .i64 x1_2 1)==1)=false:=beq_eq_false_iff_ne.mpr c9
      have c9b1:((Go.bits .and .i64 x1_2 1) != 1)=true:=bne_iff_ne.mpr c9
      replace H:=zI2 H
      rcases H with⟨c11,H⟩|⟨c11,H⟩
      case inr=>
       have c11b0:decide (255<(wrap64 (x0_2*2)))=false:=decide_eq_false c11
       clear c11
       have H':=zM H
       clear H
       go_wp2
       go_roundg k2
       case measure=>have:=HJ2.out;have:=HK2.out;omega
       case rel=>exact⟨(wrap64 (x0_2*2)),(x1_2 / 2),(x5_2),zs,zs,zs,H',⟨zl2 HJ2 HK2⟩,zd⟩
      have c11b0:decide (255<(wrap64 (x0_2*2)))=true:=zE c11
      clear c11
      have H':=zM H
      clear H
      go_wp2
      go_roundg k2
      case measure=>have:=HJ2.out;have:=HK2.out;omega
      case rel=>exact⟨(Go.bits .xor .i64 (wrap64 (x0_2*2)) 285),(x1_2 / 2),(x5_2),zs,zs,zs,H',⟨zl2 HJ2 HK2⟩,zd⟩
     have c9b0:((Go.bits .and .i64 x1_2 1)==1)=true:=beq_iff_eq.mpr c9
     have c9b1:((Go.bits .and .i64 x1_2 1) != 1)=false:=bne_eq_false_iff_eq.mpr c9
     clear c9
     replace H:=zI2 H
     rcases H with⟨c10,H⟩|⟨c10,H⟩
     case inr=>
      have c10b0:decide (255<(wrap64 (x0_2*2)))=false:=decide_eq_false c10
      clear c10
      have H':=zM H
      clear H
      go_wp2
      go_roundg k2
      case measure=>have:=HJ2.out;have:=HK2.out;omega
      case rel=>exact⟨(wrap64 (x0_2*2)),(x1_2 / 2),(Go.bits .xor .i64 x5_2 x0_2),zs,zs,zs,H',⟨zl2 HJ2 HK2⟩,zd⟩
     have c10b0:decide (255<(wrap64 (x0_2*2)))=true:=zE c10
     clear c10
     have H':=zM H
     clear H
     go_wp2
     go_roundg k2
     case measure=>have:=HJ2.out;have:=HK2.out;omega
     case rel=>exact⟨(Go.bits .xor .i64 (wrap64 (x0_2*2)) 285),(x1_2 / 2),(Go.bits .xor .i64 x5_2 x0_2),zs,zs,zs,H',⟨zl2 HJ2 HK2⟩,zd⟩
def impl_gfPow.l0:Nat→Int→Int→Int→Option (Int)
 |0,_,_,_=>none
 |k+1,x3,x5,x6=>if x6<x5 then((impl_GfMul.f k x3 2).bind fun t107=>(impl_gfPow.l0 k t107 x5 (wrap64 (x6+1)))) else(some x3)
def impl_gfPow.f (k:Nat) (a0:Int):Option (Int):=impl_gfPow.l0 k 1 (Int.tmod a0 255) 0
theorem impl_gfPow.mono_l:∀k,(∀y0 y1 y2,LeO (impl_gfPow.l0 k y0 y1 y2) (impl_gfPow.l0 (k+1) y0 y1 y2))
 |0=>fun _ _ _ r h=>by simp[impl_gfPow.l0] at h
 | k+1=>by
  have ih0:=impl_gfPow.mono_l k
  ·intro y0 y1 y2
   unfold impl_gfPow.l0
   repeat' first
   |(with_reducible exact ih0 _ _ _)
   |(with_reducible exact impl_GfMul.mono _ _ _)
   |(with_reducible exact LeO.refl _)
   |(with_reducible exact LeO.none _)
   |(with_reducible refine LeO.ite ?_ ?_)
   |(with_reducible refine LeO.bind ?_ (fun _=> ?_))
theorem impl_gfPow.mono:∀a0 k,LeO (impl_gfPow.f k a0) (impl_gfPow.f (k+1) a0):=by
 intro a0 k
 have ih0:=impl_gfPow.mono_l k
 unfold impl_gfPow.f
 repeat' first
  |(with_reducible exact ih0 _ _ _)
  |(with_reducible exact impl_GfMul.mono _ _ _)
  |(with_reducible exact LeO.refl _)
  |(with_reducible exact LeO.none _)
  |(with_reducible refine LeO.ite ?_ ?_)
  |(with_reducible refine LeO.bind ?_ (fun _=> ?_))
theorem impl_gfPow.calls (k:Nat) (a0:Int) (r:Int) (w:World) (H:impl_gfPow.f k a0=some r):
 Calls Try.prog 85 #[.int .i64 a0] w fun e w'=>e= .returned (.int .i64 r)∧Drawn0 w w':=by
 unfold impl_gfPow.f at H
 have H':=zM H
 clear H
 go_enter Try.func85,Try.ntmps85
 go_wp2
 (try simp only[Act.put,zL1,zL2,zL3])
 go_loopg [3,6] k (fun kq v3 v6 w'=>∃(x3_1:Int) (x6_1:Int),v3= .int .i64 x3_1∧v6= .int .i64 x6_1∧Aside0 (impl_gfPow.l0 kq x3_1 (Int.tmod a0 255) x6_1=some r)∧Aside0 (kq≤k)∧Drawn0 w w')
 case atStart=>exact⟨(1),(0),zs,zs,H',⟨Nat.le_refl _⟩,zd⟩
 case round=>
  clear H'
  obtain⟨x3_1,x6_1,rfl,rfl,HA,HK1,⟨m1,rfl⟩⟩:=hrel
  cases gk with
  |zero=>exact absurd HA.out (by simp[impl_gfPow.l0])
  | succ k1=>
   have H:=HA.out
   clear HA
   simp only[impl_gfPow.l0] at H
   replace H:=zI2 H
   rcases H with⟨c2,H⟩|⟨c2,H⟩
   case inr=>
    have c2b0:=decide_eq_false c2
    clear c2
    obtain rfl:=zI H
    go_wp2
    go_ret
    exact⟨zs,zd⟩
   have c2b0:=zE c2
   clear c2
   replace H:=zP H
   obtain⟨t107,A3,H⟩:=H
   have H':=zM H
   clear H
   go_wp2_with (first|((with_reducible refine gate_callee (f:=87) rfl ?_);refine goesL_ (some 9) rfl rfl Try.func87 ze rfl #[.int .i64 x3_1, .int .i64 2] rfl zg ?_;(with_reducible refine(impl_GfMul.calls k1 x3_1 2 t107 _ A3.out).mono ?_);rintro e w' ⟨rfl,⟨nd,rfl⟩⟩;refine⟨_,rfl,?_⟩))
   go_roundg k1
   case measure=>have:=HK1.out;omega
   case rel=>exact⟨(t107),(wrap64 (x6_1+1)),zs,zs,H',⟨zl1 HK1⟩,zd⟩
def slices_Clone_int_int.f (l0:List Int):Option (List Int):=if l0.length<17592186044416 then some l0 else none
set_option maxHeartbeats 4000000 in
theorem slices_Clone_int_int.calls (A0:Option Addr) (c0:Nat) (l0:List Int) (r:List Int) (w:World) (hr0:Kd.C (Kd.int .i64) w A0 l0.length l0) (hc0:l0.length≤c0) (h:slices_Clone_int_int.f l0=some r):
 Calls Try.prog 86 #[.slice A0 l0.length c0] w fun e w'=>∃v0_:Value,e= .returned (v0_)∧Kd.R (Kd.int .i64) 3 w' w.heap.size (fun _=>True) v0_ r∧Below w.heap.size w w':=by
 have HL:l0.length<17592186044416∧l0=r:=by
  unfold slices_Clone_int_int.f at h
  split at h
  ·exact⟨by assumption,zI h⟩
  ·cases h
 obtain⟨hl,rfl⟩:=HL
 have HL:=zM hl
 have HR:=zM hr0
 clear hl hr0 h
 have q22:∀(w:World) (a:Option Addr) (n c n' c':Nat),(binOp .eql 46 (.slice a n c) (.slice none n' c')).run Try.prog w= .ok (.bool a.isNone) w:=fun w a n c n' c'=>Lib.run_eql_slice_nil w _ _ a n c n' c' Try.underlying46
 cases A0 with
 | none=>
  have q:=fun(w:World) (n c n' c':Nat)=>q22 w none n c n' c'
  simp only[Option.isNone_none] at q
  go_enter Try.func86,Try.ntmps86
  go_wp2
  go_ret
  obtain rfl:l0=[]:=by
   cases l0 with
   |nil=>rfl
   |cons x xs=>obtain⟨ad,e,_⟩:=HR.out.2.2 (by simp);cases e
  exact⟨_,rfl,Kd.R_nil _ _ _ _ _,Below.refl _ _⟩
 |some ad=>
  have q:=fun(w:World) (n c n' c':Nat)=>q22 w (some ad) n c n' c'
  simp only[Option.isNone_some] at q
  clear q22
  have HB:=zM (Below.refl w.heap.size w)
  go_enter Try.func86,Try.ntmps86
  go_wp2_with (first|((with_reducible refine gate_dst (N:=5) rfl ?_);refine Kd.R_lit (Kd.int .i64) (w0:=w) w.heap.size 3 ?hg (N:=5) ?hd (xs:=([]:List Int)) (inner:=[]) (ok:=fun _=>True) (okp:=fun _=>True) ?hr ?hp (fun _ hk=>hk) trivial HB.out (Nat.le_refl _) (by simp) ?_;(case hd|hg=>rfl);(case hr=>exact zh);(case hp=>exact(Reps.none _ _));intro v1 w1 ho hb hg_ hnew_;have HO:=zM ho;have HB1:=zM hb;clear hg_ hnew_ ho hb)|((with_reducible refine gate_builtin (b:= .append) (xs:= #[.tmp 5, .tmp 6]) rfl ?_);at_builtin;refine Kd.R_append_rows (Kd.int .i64) (w0:=w) w.heap.size rfl (.tmp 5) (.tmp 6) 46 3 (.int .i64 0) 8 rfl Try.underlying46 info3 rfl (by decide) (by omega) v1 [] l0 _ _ _ (fun _=>True) (fun _=>False) rfl rfl ?aO ?aR (fun _ _ h=>h) (fun _ h=>h.elim) ?aF ?aB ?aS ?aL ?_;(case aR=>exact(Kd.C_below HR.out HB1.out));(case aB=>exact HB1.out);(case aF=>exact(fun _ _=>trivial));(case aO=>exact HO.out);(case aS=>exact HB1.out.size);(case aL=>have:=HL.out;simp only[List.length_nil];omega);intro v2 w2 ho hb hg hat;have HO2:=zM ho;have HB2:=zM hb;clear ho hb hg hat))
  go_ret
  exact⟨_,rfl,by simpa using HO2.out,HB2.out⟩
def slices_Clone_byte_byte.f (l0:List Int):Option (List Int):=if l0.length<17592186044416 then some l0 else none
set_option maxHeartbeats 4000000 in
theorem slices_Clone_byte_byte.calls (A0:Option Addr) (c0:Nat) (l0:List Int) (r:List Int) (w:World) (hr0:Kd.C (Kd.int .u8) w A0 l0.length l0) (hc0:l0.length≤c0) (h:slices_Clone_byte_byte.f l0=some r):
 Calls Try.prog 88 #[.slice A0 l0.length c0] w fun e w'=>∃v0_:Value,e= .returned (v0_)∧Kd.R (Kd.int .u8) 5 w' w.heap.size (fun _=>True) v0_ r∧Below w.heap.size w w':=by
 have HL:l0.length<17592186044416∧l0=r:=by
  unfold slices_Clone_byte_byte.f at h
  split at h
  ·exact⟨by assumption,zI h⟩
  ·cases h
 obtain⟨hl,rfl⟩:=HL
 have HL:=zM hl
 have HR:=zM hr0
 clear hl hr0 h
 have q22:∀(w:World) (a:Option Addr) (n c n' c':Nat),(binOp .eql 24 (.slice a n c) (.slice none n' c')).run Try.prog w= .ok (.bool a.isNone) w:=fun w a n c n' c'=>Lib.run_eql_slice_nil w _ _ a n c n' c' Try.underlying24
 cases A0 with
 | none=>
  have q:=fun(w:World) (n c n' c':Nat)=>q22 w none n c n' c'
  simp only[Option.isNone_none] at q
  go_enter Try.func88,Try.ntmps88
  go_wp2
  go_ret
  obtain rfl:l0=[]:=by
   cases l0 with
   |nil=>rfl
   |cons x xs=>obtain⟨ad,e,_⟩:=HR.out.2.2 (by simp);cases e
  exact⟨_,rfl,Kd.R_nil _ _ _ _ _,Below.refl _ _⟩
 |some ad=>
  have q:=fun(w:World) (n c n' c':Nat)=>q22 w (some ad) n c n' c'
  simp only[Option.isNone_some] at q
  clear q22
  have HB:=zM (Below.refl w.heap.size w)
  go_enter Try.func88,Try.ntmps88
  go_wp2_with (first|((with_reducible refine gate_dst (N:=5) rfl ?_);refine Kd.R_lit (Kd.int .u8) (w0:=w) w.heap.size 5 ?hg (N:=5) ?hd (xs:=([]:List Int)) (inner:=[]) (ok:=fun _=>True) (okp:=fun _=>True) ?hr ?hp (fun _ hk=>hk) trivial HB.out (Nat.le_refl _) (by simp) ?_;(case hd|hg=>rfl);(case hr=>exact zh);(case hp=>exact(Reps.none _ _));intro v1 w1 ho hb hg_ hnew_;have HO:=zM ho;have HB1:=zM hb;clear hg_ hnew_ ho hb)|((with_reducible refine gate_builtin (b:= .append) (xs:= #[.tmp 5, .tmp 6]) rfl ?_);at_builtin;refine Kd.R_append_rows (Kd.int .u8) (w0:=w) w.heap.size rfl (.tmp 5) (.tmp 6) 24 5 (.int .u8 0) 1 rfl Try.underlying24 info5 rfl (by decide) (by omega) v1 [] l0 _ _ _ (fun _=>True) (fun _=>False) rfl rfl ?aO ?aR (fun _ _ h=>h) (fun _ h=>h.elim) ?aF ?aB ?aS ?aL ?_;(case aR=>exact(Kd.C_below HR.out HB1.out));(case aB=>exact HB1.out);(case aF=>exact(fun _ _=>trivial));(case aO=>exact HO.out);(case aS=>exact HB1.out.size);(case aL=>have:=HL.out;simp only[List.length_nil];omega);intro v2 w2 ho hb hg hat;have HO2:=zM ho;have HB2:=zM hb;clear ho hb hg hat))
  go_ret
  exact⟨_,rfl,by simpa using HO2.out,HB2.out⟩
end Go.Proofs.Ytapobpkeefeajaa.PFnModem
