-- A turned copy of the print's text.
import Derived.Test.YtapobpkeefeajaaPFnExactHearx0
import Derived.Test.YtapobpkeefeajaaPFnExactHearx1
namespace Go.Proofs.Ytapobpkeefeajaa.PFnExactHear
open Go.RowKit Go.Proofs.YtapobpkeefeajaaW.PrintWords Go.Proofs.YtapobpkeefeajaaW.PrintLast Go.Proofs.YtapobpkeefeajaaW.PrintMore
attribute [local go_sem] max2_int min2_int max_two min_two max_three min_three max_four min_four
set_option maxHeartbeats 8000000
set_option maxRecDepth 100000
set_option linter.unusedVariables false
set_option linter.unusedSimpArgs false
def impl_isMend.f (a0:Int):Option (Bool):=if a0≥1 then(some (decide (a0≤8))) else(some false)
theorem impl_isMend.calls (a0:Int) (r:Bool) (w:World) (H:impl_isMend.f a0=some r):
 Calls Try.prog 83 #[.int .i64 a0] w fun e w'=>e= .returned (.bool r)∧Drawn0 w w':=by
 unfold impl_isMend.f at H
 replace H:=zI2 H
 rcases H with⟨c2,H⟩|⟨c2,H⟩
 case inl=>
  have c2b0:decide (1≤a0)=true:=zE c2
  clear c2
  obtain rfl:=zI H
  go_enter Try.func83,Try.ntmps83
  go_wp2
  go_ret
  exact⟨zs,zd⟩
 have c2b0:decide (1≤a0)=false:=decide_eq_false c2
 clear c2
 obtain rfl:=zI H
 go_enter Try.func83,Try.ntmps83
 go_wp2
 go_ret
 exact⟨zs,zd⟩
def impl_is16.f (a0:Int) (a1:Int):Option (Bool):=if a0≥a1 then(some (decide (a0≤65535))) else(some false)
theorem impl_is16.calls (a0:Int) (a1:Int) (r:Bool) (w:World) (H:impl_is16.f a0 a1=some r):
 Calls Try.prog 84 #[.int .i64 a0, .int .i64 a1] w fun e w'=>e= .returned (.bool r)∧Drawn0 w w':=by
 unfold impl_is16.f at H
 replace H:=zI2 H
 rcases H with⟨c3,H⟩|⟨c3,H⟩
 case inl=>
  have c3b0:decide (a1≤a0)=true:=zE c3
  clear c3
  obtain rfl:=zI H
  go_enter Try.func84,Try.ntmps84
  go_wp2
  go_ret
  exact⟨zs,zd⟩
 have c3b0:decide (a1≤a0)=false:=decide_eq_false c3
 clear c3
 obtain rfl:=zI H
 go_enter Try.func84,Try.ntmps84
 go_wp2
 go_ret
 exact⟨zs,zd⟩
def impl_ModemOk.f (a0_0:Int) (a0_1:Int) (a0_2:Int) (a0_3:Int) (a0_4:Int) (a0_5:Int):Option (Bool):=(impl_isWidth.f a0_0).bind fun t115=>(if t115=true then((impl_isMend.f a0_1).bind fun t116=>(if t116=true then(if a0_2≥1 then(if a0_2≤64 then((impl_is16.f a0_3 1).bind fun t117=>(if t117=true then(if a0_4≥1 then(if a0_4≤8 then(if a0_5≥1 then(some (decide (a0_5≤10000))) else(some false)) else(some false)) else(some false)) else(some false))) else(some false)) else(some false)) else(some false))) else(some false))
theorem impl_ModemOk.calls (a0_0:Int) (a0_1:Int) (a0_2:Int) (a0_3:Int) (a0_4:Int) (a0_5:Int) (r:Bool) (w:World) (H:impl_ModemOk.f a0_0 a0_1 a0_2 a0_3 a0_4 a0_5=some r):
 Calls Try.prog 36 #[.agg #[.int .i64 a0_0, .int .i64 a0_1, .int .i64 a0_2, .int .i64 a0_3, .int .i64 a0_4, .int .i64 a0_5]] w fun e w'=>e= .returned (.bool r)∧Below w.heap.size w w':=by
 have hu28:=Try.underlying28
 have HB:=zM (Below.refl w.heap.size w)
 unfold impl_ModemOk.f at H
 replace H:=zP H
 obtain⟨t115,A2,H⟩:=H
 by_cases c3:t115=true
 case neg=>
  replace c3:=Bool.eq_false_iff.mpr c3
  subst c3
  rw[if_neg zFT] at H
  obtain rfl:=zI H
  go_enter Try.func36,Try.ntmps36
  go_wp2_with (first|((with_reducible refine gate_dst (N:=1) rfl ?_);refine box_event ?hg (N:=1) ?hd (cs:= #[.int .i64 a0_0, .int .i64 a0_1, .int .i64 a0_2, .int .i64 a0_3, .int .i64 a0_4, .int .i64 a0_5]) (t:=28) ?hr ?_;(case hd|hg=>rfl);(case hr=>exact zh);intro gb114 hg w29 hbox hb;have n0_:=zM (below_step zb hb);have n1_:=zM (hbox);have n2_:=zM ((zw hg (below_size zb)));have n3_:=zM n2_.out;clear HB;have HB:=n0_;have BK114:=n1_;have GW114:=n2_;have GE114:=n3_;clear n0_ n1_ n2_ n3_;clear hb hbox hg;obtain⟨hcz30_0,hcz30_1,hcz30_2,hcz30_3,hcz30_4,hcz30_5,hfz30_0,hfz30_1,hfz30_2,hfz30_3,hfz30_4,hfz30_5⟩:=zc6 BK114.out)|((with_reducible refine gate_callee (f:=82) rfl ?_);refine goesL_ (some 5) rfl rfl Try.func82 ze rfl #[.int .i64 a0_0] rfl zg ?_;(with_reducible refine(impl_isWidth.calls a0_0 false _ A2.out).mono ?_);rintro e w' ⟨rfl,⟨nd,rfl⟩⟩;refine⟨_,rfl,?_⟩))
  go_ret
  exact⟨zq,zb16⟩
 subst c3
 rw[if_pos rfl] at H
 replace H:=zP H
 obtain⟨t116,A4,H⟩:=H
 by_cases c5:t116=true
 case neg=>
  replace c5:=Bool.eq_false_iff.mpr c5
  subst c5
  rw[if_neg zFT] at H
  obtain rfl:=zI H
  go_enter Try.func36,Try.ntmps36
  go_wp2_with (first|((with_reducible refine gate_dst (N:=1) rfl ?_);refine box_event ?hg (N:=1) ?hd (cs:= #[.int .i64 a0_0, .int .i64 a0_1, .int .i64 a0_2, .int .i64 a0_3, .int .i64 a0_4, .int .i64 a0_5]) (t:=28) ?hr ?_;(case hd|hg=>rfl);(case hr=>exact zh);intro gb114 hg w27 hbox hb;have n0_:=zM (below_step zb hb);have n1_:=zM (hbox);have n2_:=zM ((zw hg (below_size zb)));have n3_:=zM n2_.out;clear HB;have HB:=n0_;have BK114:=n1_;have GW114:=n2_;have GE114:=n3_;clear n0_ n1_ n2_ n3_;clear hb hbox hg;obtain⟨hcz28_0,hcz28_1,hcz28_2,hcz28_3,hcz28_4,hcz28_5,hfz28_0,hfz28_1,hfz28_2,hfz28_3,hfz28_4,hfz28_5⟩:=zc6 BK114.out)|((with_reducible refine gate_callee (f:=82) rfl ?_);refine goesL_ (some 5) rfl rfl Try.func82 ze rfl #[.int .i64 a0_0] rfl zg ?_;(with_reducible refine(impl_isWidth.calls a0_0 true _ A2.out).mono ?_);rintro e w' ⟨rfl,⟨nd,rfl⟩⟩;refine⟨_,rfl,?_⟩)|(go_at_call 83;(with_reducible refine(impl_isMend.calls a0_1 false _ A4.out).mono ?_);rintro e w' ⟨rfl,⟨nd,rfl⟩⟩))
  go_ret
  exact⟨zq,zb16⟩
 subst c5
 rw[if_pos rfl] at H
 replace H:=zI2 H
 rcases H with⟨c6,H⟩|⟨c6,H⟩
 case inr=>
  have c6b0:decide (1≤a0_2)=false:=decide_eq_false c6
  clear c6
  obtain rfl:=zI H
  go_enter Try.func36,Try.ntmps36
  go_wp2_with (first|((with_reducible refine gate_dst (N:=1) rfl ?_);refine box_event ?hg (N:=1) ?hd (cs:= #[.int .i64 a0_0, .int .i64 a0_1, .int .i64 a0_2, .int .i64 a0_3, .int .i64 a0_4, .int .i64 a0_5]) (t:=28) ?hr ?_;(case hd|hg=>rfl);(case hr=>exact zh);intro gb114 hg w25 hbox hb;have n0_:=zM (below_step zb hb);have n1_:=zM (hbox);have n2_:=zM ((zw hg (below_size zb)));have n3_:=zM n2_.out;clear HB;have HB:=n0_;have BK114:=n1_;have GW114:=n2_;have GE114:=n3_;clear n0_ n1_ n2_ n3_;clear hb hbox hg;obtain⟨hcz26_0,hcz26_1,hcz26_2,hcz26_3,hcz26_4,hcz26_5,hfz26_0,hfz26_1,hfz26_2,hfz26_3,hfz26_4,hfz26_5⟩:=zc6 BK114.out)|((with_reducible refine gate_callee (f:=82) rfl ?_);refine goesL_ (some 5) rfl rfl Try.func82 ze rfl #[.int .i64 a0_0] rfl zg ?_;(with_reducible refine(impl_isWidth.calls a0_0 true _ A2.out).mono ?_);rintro e w' ⟨rfl,⟨nd,rfl⟩⟩;refine⟨_,rfl,?_⟩)|(go_at_call 83;(with_reducible refine(impl_isMend.calls a0_1 true _ A4.out).mono ?_);rintro e w' ⟨rfl,⟨nd,rfl⟩⟩))
  go_ret
  exact⟨zq,zb16⟩
 have c6b0:decide (1≤a0_2)=true:=zE c6
 clear c6
 replace H:=zI2 H
 rcases H with⟨c7,H⟩|⟨c7,H⟩
 case inr=>
  have c7b0:=decide_eq_false c7
  clear c7
  obtain rfl:=zI H
  go_enter Try.func36,Try.ntmps36
  go_wp2_with (first|((with_reducible refine gate_dst (N:=1) rfl ?_);refine box_event ?hg (N:=1) ?hd (cs:= #[.int .i64 a0_0, .int .i64 a0_1, .int .i64 a0_2, .int .i64 a0_3, .int .i64 a0_4, .int .i64 a0_5]) (t:=28) ?hr ?_;(case hd|hg=>rfl);(case hr=>exact zh);intro gb114 hg w23 hbox hb;have n0_:=zM (below_step zb hb);have n1_:=zM (hbox);have n2_:=zM ((zw hg (below_size zb)));have n3_:=zM n2_.out;clear HB;have HB:=n0_;have BK114:=n1_;have GW114:=n2_;have GE114:=n3_;clear n0_ n1_ n2_ n3_;clear hb hbox hg;obtain⟨hcz24_0,hcz24_1,hcz24_2,hcz24_3,hcz24_4,hcz24_5,hfz24_0,hfz24_1,hfz24_2,hfz24_3,hfz24_4,hfz24_5⟩:=zc6 BK114.out)|((with_reducible refine gate_callee (f:=82) rfl ?_);refine goesL_ (some 5) rfl rfl Try.func82 ze rfl #[.int .i64 a0_0] rfl zg ?_;(with_reducible refine(impl_isWidth.calls a0_0 true _ A2.out).mono ?_);rintro e w' ⟨rfl,⟨nd,rfl⟩⟩;refine⟨_,rfl,?_⟩)|(go_at_call 83;(with_reducible refine(impl_isMend.calls a0_1 true _ A4.out).mono ?_);rintro e w' ⟨rfl,⟨nd,rfl⟩⟩))
  go_ret
  exact⟨zq,zb16⟩
 have c7b0:=zE c7
 clear c7
 replace H:=zP H
 obtain⟨t117,A8,H⟩:=H
 by_cases c9:t117=true
 case neg=>
  replace c9:=Bool.eq_false_iff.mpr c9
  subst c9
  rw[if_neg zFT] at H
  obtain rfl:=zI H
  go_enter Try.func36,Try.ntmps36
  go_wp2_with (first|((with_reducible refine gate_dst (N:=1) rfl ?_);refine box_event ?hg (N:=1) ?hd (cs:= #[.int .i64 a0_0, .int .i64 a0_1, .int .i64 a0_2, .int .i64 a0_3, .int .i64 a0_4, .int .i64 a0_5]) (t:=28) ?hr ?_;(case hd|hg=>rfl);(case hr=>exact zh);intro gb114 hg w21 hbox hb;have n0_:=zM (below_step zb hb);have n1_:=zM (hbox);have n2_:=zM ((zw hg (below_size zb)));have n3_:=zM n2_.out;clear HB;have HB:=n0_;have BK114:=n1_;have GW114:=n2_;have GE114:=n3_;clear n0_ n1_ n2_ n3_;clear hb hbox hg;obtain⟨hcz22_0,hcz22_1,hcz22_2,hcz22_3,hcz22_4,hcz22_5,hfz22_0,hfz22_1,hfz22_2,hfz22_3,hfz22_4,hfz22_5⟩:=zc6 BK114.out)|((with_reducible refine gate_callee (f:=82) rfl ?_);refine goesL_ (some 5) rfl rfl Try.func82 ze rfl #[.int .i64 a0_0] rfl zg ?_;(with_reducible refine(impl_isWidth.calls a0_0 true _ A2.out).mono ?_);rintro e w' ⟨rfl,⟨nd,rfl⟩⟩;refine⟨_,rfl,?_⟩)|(go_at_call 83;(with_reducible refine(impl_isMend.calls a0_1 true _ A4.out).mono ?_);rintro e w' ⟨rfl,⟨nd,rfl⟩⟩)|(go_at_call 84;(with_reducible refine(impl_is16.calls a0_3 1 false _ A8.out).mono ?_);rintro e w' ⟨rfl,⟨nd,rfl⟩⟩))
  go_ret
  exact⟨zq,zb16⟩
 subst c9
 rw[if_pos rfl] at H
 replace H:=zI2 H
 rcases H with⟨c10,H⟩|⟨c10,H⟩
 case inr=>
  have c10b0:decide (1≤a0_4)=false:=decide_eq_false c10
  clear c10
  obtain rfl:=zI H
  go_enter Try.func36,Try.ntmps36
  go_wp2_with (first|((with_reducible refine gate_dst (N:=1) rfl ?_);refine box_event ?hg (N:=1) ?hd (cs:= #[.int .i64 a0_0, .int .i64 a0_1, .int .i64 a0_2, .int .i64 a0_3, .int .i64 a0_4, .int .i64 a0_5]) (t:=28) ?hr ?_;(case hd|hg=>rfl);(case hr=>exact zh);intro gb114 hg w19 hbox hb;have n0_:=zM (below_step zb hb);have n1_:=zM (hbox);have n2_:=zM ((zw hg (below_size zb)));have n3_:=zM n2_.out;clear HB;have HB:=n0_;have BK114:=n1_;have GW114:=n2_;have GE114:=n3_;clear n0_ n1_ n2_ n3_;clear hb hbox hg;obtain⟨hcz20_0,hcz20_1,hcz20_2,hcz20_3,hcz20_4,hcz20_5,hfz20_0,hfz20_1,hfz20_2,hfz20_3,hfz20_4,hfz20_5⟩:=zc6 BK114.out)|((with_reducible refine gate_callee (f:=82) rfl ?_);refine goesL_ (some 5) rfl rfl Try.func82 ze rfl #[.int .i64 a0_0] rfl zg ?_;(with_reducible refine(impl_isWidth.calls a0_0 true _ A2.out).mono ?_);rintro e w' ⟨rfl,⟨nd,rfl⟩⟩;refine⟨_,rfl,?_⟩)|(go_at_call 83;(with_reducible refine(impl_isMend.calls a0_1 true _ A4.out).mono ?_);rintro e w' ⟨rfl,⟨nd,rfl⟩⟩)|(go_at_call 84;(with_reducible refine(impl_is16.calls a0_3 1 true _ A8.out).mono ?_);rintro e w' ⟨rfl,⟨nd,rfl⟩⟩))
  go_ret
  exact⟨zq,zb16⟩
 have c10b0:decide (1≤a0_4)=true:=zE c10
 clear c10
 replace H:=zI2 H
 rcases H with⟨c11,H⟩|⟨c11,H⟩
 case inr=>
  have c11b0:=decide_eq_false c11
  clear c11
  obtain rfl:=zI H
  go_enter Try.func36,Try.ntmps36
  go_wp2_with (first|((with_reducible refine gate_dst (N:=1) rfl ?_);refine box_event ?hg (N:=1) ?hd (cs:= #[.int .i64 a0_0, .int .i64 a0_1, .int .i64 a0_2, .int .i64 a0_3, .int .i64 a0_4, .int .i64 a0_5]) (t:=28) ?hr ?_;(case hd|hg=>rfl);(case hr=>exact zh);intro gb114 hg w17 hbox hb;have n0_:=zM (below_step zb hb);have n1_:=zM (hbox);have n2_:=zM ((zw hg (below_size zb)));have n3_:=zM n2_.out;clear HB;have HB:=n0_;have BK114:=n1_;have GW114:=n2_;have GE114:=n3_;clear n0_ n1_ n2_ n3_;clear hb hbox hg;obtain⟨hcz18_0,hcz18_1,hcz18_2,hcz18_3,hcz18_4,hcz18_5,hfz18_0,hfz18_1,hfz18_2,hfz18_3,hfz18_4,hfz18_5⟩:=zc6 BK114.out)|((with_reducible refine gate_callee (f:=82) rfl ?_);refine goesL_ (some 5) rfl rfl Try.func82 ze rfl #[.int .i64 a0_0] rfl zg ?_;(with_reducible refine(impl_isWidth.calls a0_0 true _ A2.out).mono ?_);rintro e w' ⟨rfl,⟨nd,rfl⟩⟩;refine⟨_,rfl,?_⟩)|(go_at_call 83;(with_reducible refine(impl_isMend.calls a0_1 true _ A4.out).mono ?_);rintro e w' ⟨rfl,⟨nd,rfl⟩⟩)|(go_at_call 84;(with_reducible refine(impl_is16.calls a0_3 1 true _ A8.out).mono ?_);rintro e w' ⟨rfl,⟨nd,rfl⟩⟩))
  go_ret
  exact⟨zq,zb16⟩
 have c11b0:=zE c11
 clear c11
 replace H:=zI2 H
 rcases H with⟨c12,H⟩|⟨c12,H⟩
 case inl=>
  have c12b0:decide (1≤a0_5)=true:=zE c12
  clear c12
  obtain rfl:=zI H
  go_enter Try.func36,Try.ntmps36
  go_wp2_with (first|((with_reducible refine gate_dst (N:=1) rfl ?_);refine box_event ?hg (N:=1) ?hd (cs:= #[.int .i64 a0_0, .int .i64 a0_1, .int .i64 a0_2, .int .i64 a0_3, .int .i64 a0_4, .int .i64 a0_5]) (t:=28) ?hr ?_;(case hd|hg=>rfl);(case hr=>exact zh);intro gb114 hg w13 hbox hb;have n0_:=zM (below_step zb hb);have n1_:=zM (hbox);have n2_:=zM ((zw hg (below_size zb)));have n3_:=zM n2_.out;clear HB;have HB:=n0_;have BK114:=n1_;have GW114:=n2_;have GE114:=n3_;clear n0_ n1_ n2_ n3_;clear hb hbox hg;obtain⟨hcz14_0,hcz14_1,hcz14_2,hcz14_3,hcz14_4,hcz14_5,hfz14_0,hfz14_1,hfz14_2,hfz14_3,hfz14_4,hfz14_5⟩:=zc6 BK114.out)|((with_reducible refine gate_callee (f:=82) rfl ?_);refine goesL_ (some 5) rfl rfl Try.func82 ze rfl #[.int .i64 a0_0] rfl zg ?_;(with_reducible refine(impl_isWidth.calls a0_0 true _ A2.out).mono ?_);rintro e w' ⟨rfl,⟨nd,rfl⟩⟩;refine⟨_,rfl,?_⟩)|(go_at_call 83;(with_reducible refine(impl_isMend.calls a0_1 true _ A4.out).mono ?_);rintro e w' ⟨rfl,⟨nd,rfl⟩⟩)|(go_at_call 84;(with_reducible refine(impl_is16.calls a0_3 1 true _ A8.out).mono ?_);rintro e w' ⟨rfl,⟨nd,rfl⟩⟩))
  go_ret
  exact⟨zq,zb16⟩
 have c12b0:decide (1≤a0_5)=false:=decide_eq_false c12
 clear c12
 obtain rfl:=zI H
 go_enter Try.func36,Try.ntmps36
 go_wp2_with (first|((with_reducible refine gate_dst (N:=1) rfl ?_);refine box_event ?hg (N:=1) ?hd (cs:= #[.int .i64 a0_0, .int .i64 a0_1, .int .i64 a0_2, .int .i64 a0_3, .int .i64 a0_4, .int .i64 a0_5]) (t:=28) ?hr ?_;(case hd|hg=>rfl);(case hr=>exact zh);intro gb114 hg w15 hbox hb;have n0_:=zM (below_step zb hb);have n1_:=zM (hbox);have n2_:=zM ((zw hg (below_size zb)));have n3_:=zM n2_.out;clear HB;have HB:=n0_;have BK114:=n1_;have GW114:=n2_;have GE114:=n3_;clear n0_ n1_ n2_ n3_;clear hb hbox hg;obtain⟨hcz16_0,hcz16_1,hcz16_2,hcz16_3,hcz16_4,hcz16_5,hfz16_0,hfz16_1,hfz16_2,hfz16_3,hfz16_4,hfz16_5⟩:=zc6 BK114.out)|((with_reducible refine gate_callee (f:=82) rfl ?_);refine goesL_ (some 5) rfl rfl Try.func82 ze rfl #[.int .i64 a0_0] rfl zg ?_;(with_reducible refine(impl_isWidth.calls a0_0 true _ A2.out).mono ?_);rintro e w' ⟨rfl,⟨nd,rfl⟩⟩;refine⟨_,rfl,?_⟩)|(go_at_call 83;(with_reducible refine(impl_isMend.calls a0_1 true _ A4.out).mono ?_);rintro e w' ⟨rfl,⟨nd,rfl⟩⟩)|(go_at_call 84;(with_reducible refine(impl_is16.calls a0_3 1 true _ A8.out).mono ?_);rintro e w' ⟨rfl,⟨nd,rfl⟩⟩))
 go_ret
 exact⟨zq,zb16⟩
def impl_sentOk.f (a0:Int):Option (Bool):=if a0≥1 then(some (decide (a0≤40))) else(some false)
theorem impl_sentOk.calls (a0:Int) (r:Bool) (w:World) (H:impl_sentOk.f a0=some r):
 Calls Try.prog 37 #[.int .i64 a0] w fun e w'=>e= .returned (.bool r)∧Drawn0 w w':=by
 unfold impl_sentOk.f at H
 replace H:=zI2 H
 rcases H with⟨c2,H⟩|⟨c2,H⟩
 case inl=>
  have c2b0:decide (1≤a0)=true:=zE c2
  clear c2
  obtain rfl:=zI H
  go_enter Try.func37,Try.ntmps37
  go_wp2
  go_ret
  exact⟨zs,zd⟩
 have c2b0:decide (1≤a0)=false:=decide_eq_false c2
 clear c2
 obtain rfl:=zI H
 go_enter Try.func37,Try.ntmps37
 go_wp2
 go_ret
 exact⟨zs,zd⟩
def impl_isBit.f (a0:Int):Option (Bool):=if a0=0 then(some true) else(some (a0==1))
theorem impl_isBit.calls (a0:Int) (r:Bool) (w:World) (H:impl_isBit.f a0=some r):
 Calls Try.prog 120 #[.int .i64 a0] w fun e w'=>e= .returned (.bool r)∧Drawn0 w w':=by
 unfold impl_isBit.f at H
 replace H:=zI2 H
 rcases H with⟨c2,H⟩|⟨c2,H⟩
 case inr=>
  have c2b0:(a0==0)=false:=beq_eq_false_iff_ne.mpr c2
  have c2b1:(a0 != 0)=true:=bne_iff_ne.mpr c2
  obtain rfl:=zI H
  go_enter Try.func120,Try.ntmps120
  go_wp2
  go_ret
  exact⟨zs,zd⟩
 have c2b0:(a0==0)=true:=beq_iff_eq.mpr c2
 have c2b1:(a0 != 0)=false:=bne_eq_false_iff_eq.mpr c2
 clear c2
 obtain rfl:=zI H
 go_enter Try.func120,Try.ntmps120
 go_wp2
 go_ret
 exact⟨zs,zd⟩
def impl_BitsOk.l0:Nat→List Int→List Int→Int→Int→Option (Bool)
 |0,_,_,_,_=>none
 |k+1,x0,x5,x6,x7=>if x7<x6 then(if 0≤x7 then(if x7<(x5.length:Int) then((impl_isBit.f (rd x5 x7)).bind fun t119=>(if t119=true then(impl_BitsOk.l0 k x0 x5 x6 (wrap64 (x7+1))) else(some false))) else(none)) else(none)) else(some (decide ((x0.length:Int)≤1024)))
def impl_BitsOk.f (k:Nat) (l0:List Int):Option (Bool):=impl_BitsOk.l0 k l0 l0 (l0.length:Int) 0
theorem impl_BitsOk.calls (k:Nat) (A0:Option Addr) (c0:Nat) (l0:List Int) (r:Bool) (w:World) (hr0:Kd.C (Kd.int .i64) w A0 l0.length l0) (hc0:l0.length≤c0) (H:impl_BitsOk.f k l0=some r):
 Calls Try.prog 91 #[.slice A0 l0.length c0] w fun e w'=>e= .returned (.bool r)∧Drawn0 w w':=by
 have HR0:=zM hr0
 have HC0:=zM hc0
 clear hr0 hc0
 unfold impl_BitsOk.f at H
 have H':=zM H
 clear H
 go_enter Try.func91,Try.ntmps91
 go_wp2
 (try simp only[Act.put,zL1,zL2,zL3])
 go_loopg [7] k (fun kq v7 w'=>∃(x7_1:Int),v7= .int .i64 x7_1∧Aside0 (impl_BitsOk.l0 kq l0 l0 (l0.length:Int) x7_1=some r)∧Aside0 (kq≤k)∧Drawn0 w w')
 case atStart=>exact⟨(0),zs,H',⟨Nat.le_refl _⟩,zd⟩
 case round=>
  clear H'
  obtain⟨x7_1,rfl,HA,HK1,⟨m1,rfl⟩⟩:=hrel
  cases gk with
  |zero=>exact absurd HA.out (by simp[impl_BitsOk.l0])
  | succ k1=>
   have H:=HA.out
   clear HA
   simp only[impl_BitsOk.l0] at H
   replace H:=zI2 H
   rcases H with⟨c2,H⟩|⟨c2,H⟩
   case inr=>
    have c2b0:=decide_eq_false c2
    clear c2
    obtain rfl:=zI H
    go_wp2
    go_ret
    exact⟨zs,zd⟩
   have c2b0:=zE c2
   clear c2
   replace H:=zID H
   obtain⟨c3b0,H⟩:=H
   replace H:=zID H
   obtain⟨c4b0,H⟩:=H
   replace H:=zP H
   obtain⟨t119,A5,H⟩:=H
   by_cases c6:t119=true
   case neg=>
    replace c6:=Bool.eq_false_iff.mpr c6
    subst c6
    rw[if_neg zFT] at H
    obtain rfl:=zI H
    have p118:0≤(x7_1:Int):=zT (by assumption)
    have q118:x7_1<(l0.length:Int):=zT (by assumption)
    obtain⟨ad118,e118,hx118_0⟩:=Kd.at_int HR0.out x7_1 p118 q118
    cases e118
    replace p118:=eq_true p118
    replace q118:=eq_true q118
    go_wp2_with (first|((with_reducible refine gate_callee (f:=120) rfl ?_);refine goesL_ (some 12) rfl rfl Try.func120 ze rfl #[.int .i64 (rd l0 x7_1)] rfl zg ?_;(with_reducible refine(impl_isBit.calls (rd l0 x7_1) false _ A5.out).mono ?_);rintro e w' ⟨rfl,⟨nd,rfl⟩⟩;refine⟨_,rfl,?_⟩))
    go_ret
    exact⟨zs,zd⟩
   subst c6
   rw[if_pos rfl] at H
   have H':=zM H
   clear H
   have p118:0≤(x7_1:Int):=zT (by assumption)
   have q118:x7_1<(l0.length:Int):=zT (by assumption)
   obtain⟨ad118,e118,hx118_0⟩:=Kd.at_int HR0.out x7_1 p118 q118
   cases e118
   replace p118:=eq_true p118
   replace q118:=eq_true q118
   go_wp2_with (first|((with_reducible refine gate_callee (f:=120) rfl ?_);refine goesL_ (some 12) rfl rfl Try.func120 ze rfl #[.int .i64 (rd l0 x7_1)] rfl zg ?_;(with_reducible refine(impl_isBit.calls (rd l0 x7_1) true _ A5.out).mono ?_);rintro e w' ⟨rfl,⟨nd,rfl⟩⟩;refine⟨_,rfl,?_⟩))
   go_roundg k1
   case measure=>have:=HK1.out;omega
   case rel=>exact⟨(wrap64 (x7_1+1)),zs,H',⟨zl1 HK1⟩,zd⟩
mutual
def impl_Stir.j0:Nat→List Int→Int→Int→Bool→Option (List Int×Bool)
 |0,_,_,_,_=>none
 |k+1,x0,x1,x2,x24=>if x24=true then(some (([]:List Int),false)) else(impl_Stir.l0 k x1 x2 ([]:List Int) x0 (x0.length:Int) 0)
def impl_Stir.l0:Nat→Int→Int→List Int→List Int→Int→Int→Option (List Int×Bool)
 |0,_,_,_,_,_,_=>none
 |k+1,x1,x2,x8,x25,x26,x27=>if x27<x26 then(if 0≤x27 then(if x27<(x25.length:Int) then(if x8.length<17592186044416 then((some (x8++[Go.bits .xor .i64 (rd x25 x27) (Go.bits .and .i64 x2 1)]:List Int)).bind fun y124=>(if(Go.bits .and .i64 x2 1)=1 then(impl_Stir.l0 k x1 (Go.bits .xor .i64 (x2 / 2) x1) y124 x25 x26 (wrap64 (x27+1))) else(impl_Stir.l0 k x1 (x2 / 2) y124 x25 x26 (wrap64 (x27+1))))) else(none)) else(none)) else(none)) else(some (x8,true))
end
def impl_Stir.f (k:Nat) (l0:List Int) (a1:Int) (a2:Int):Option (List Int×Bool):=(impl_BitsOk.f k l0).bind fun t120=>(if t120=true then((impl_is16.f a1 1).bind fun t121=>(if t121=true then((impl_is16.f a2 1).bind fun t122=>(impl_Stir.j0 k l0 a1 a2 (!t122))) else(impl_Stir.j0 k l0 a1 a2 true))) else(impl_Stir.j0 k l0 a1 a2 true))
theorem impl_Stir.calls (k:Nat) (A0:Option Addr) (c0:Nat) (l0:List Int) (a1:Int) (a2:Int) (r1:List Int) (r2:Bool) (w:World) (hr0:Kd.C (Kd.int .i64) w A0 l0.length l0) (hc0:l0.length≤c0) (H:impl_Stir.f k l0 a1 a2=some (r1,r2)):
 Calls Try.prog 41 #[.slice A0 l0.length c0, .int .i64 a1, .int .i64 a2] w fun e w'=>∃v0_:Value,e= .returned (.tuple #[v0_, .bool r2])∧Kd.R (Kd.int .i64) 3 w' w.heap.size (fun _=>True) v0_ r1∧Below w.heap.size w w':=by
 have HR0:=zM hr0
 have HC0:=zM hc0
 clear hr0 hc0
 have HB:=zM (Below.refl w.heap.size w)
 unfold impl_Stir.f at H
 have HC4:=zM H
 clear H
 go_enter Try.func41,Try.ntmps41
 go_upto_region 1 with(fail)
 go_cut [24] (fun v24 wc=>∃(kq:Nat) (x24_3:Bool),v24= .bool x24_3∧Aside0 (impl_Stir.j0 kq l0 a1 a2 x24_3=some (r1,r2))∧Aside0 (kq≤k)∧Aside0 (Below w.heap.size w wc))
 case first=>
  have H:=HC4.out
  clear HC4
  replace H:=zP H
  obtain⟨t120,A5,H⟩:=H
  by_cases c6:t120=true
  case neg=>
   replace c6:=Bool.eq_false_iff.mpr c6
   subst c6
   rw[if_neg zFT] at H
   have H':=zM H
   clear H
   go_wp2_with (first|((with_reducible refine gate_callee (f:=91) rfl ?_);refine goesL_ (some 13) rfl rfl Try.func91 ze rfl #[.slice A0 l0.length c0] rfl zg ?_;(with_reducible refine(impl_BitsOk.calls k _ _ l0 false _ ?side1 ?side2 A5.out).mono ?_);(case side1=>exact zc (Kd.C_below HR0.out HB.out));(case side2=>exact HC0.out);rintro e w' ⟨rfl,⟨nd,rfl⟩⟩;refine⟨_,rfl,?_⟩))
   go_meet
   case rel=>exact⟨_,(true),zs,H',⟨zo⟩,⟨zb⟩⟩
  subst c6
  rw[if_pos rfl] at H
  replace H:=zP H
  obtain⟨t121,A7,H⟩:=H
  by_cases c8:t121=true
  case neg=>
   replace c8:=Bool.eq_false_iff.mpr c8
   subst c8
   rw[if_neg zFT] at H
   have H':=zM H
   clear H
   go_wp2_with (first|((with_reducible refine gate_callee (f:=91) rfl ?_);refine goesL_ (some 13) rfl rfl Try.func91 ze rfl #[.slice A0 l0.length c0] rfl zg ?_;(with_reducible refine(impl_BitsOk.calls k _ _ l0 true _ ?side1 ?side2 A5.out).mono ?_);(case side1=>exact zc (Kd.C_below HR0.out HB.out));(case side2=>exact HC0.out);rintro e w' ⟨rfl,⟨nd,rfl⟩⟩;refine⟨_,rfl,?_⟩)|(go_at_call 84;(with_reducible refine(impl_is16.calls a1 1 false _ A7.out).mono ?_);rintro e w' ⟨rfl,⟨nd,rfl⟩⟩))
   go_meet
   case rel=>exact⟨_,(true),zs,H',⟨zo⟩,⟨zb⟩⟩
  subst c8
  rw[if_pos rfl] at H
  replace H:=zP H
  obtain⟨t122,A9,H⟩:=H
  have H':=zM H
  clear H
  go_wp2_with (first|((with_reducible refine gate_callee (f:=91) rfl ?_);refine goesL_ (some 13) rfl rfl Try.func91 ze rfl #[.slice A0 l0.length c0] rfl zg ?_;(with_reducible refine(impl_BitsOk.calls k _ _ l0 true _ ?side1 ?side2 A5.out).mono ?_);(case side1=>exact zc (Kd.C_below HR0.out HB.out));(case side2=>exact HC0.out);rintro e w' ⟨rfl,⟨nd,rfl⟩⟩;refine⟨_,rfl,?_⟩)|(go_at_call 84;(with_reducible refine(impl_is16.calls a1 1 true _ A7.out).mono ?_);rintro e w' ⟨rfl,⟨nd,rfl⟩⟩)|(go_at_call 84;(with_reducible refine(impl_is16.calls a2 1 t122 _ A9.out).mono ?_);rintro e w' ⟨rfl,⟨nd,rfl⟩⟩))
  go_meet
  case rel=>exact⟨_,(!t122),zs,H',⟨zo⟩,⟨zb⟩⟩
 case rest=>
  clear HC4
  try clear p2
  try clear c4
  try clear c6
  try clear c8
  try clear c9
  obtain⟨kq,x24_3,rfl,HA,HJ3,HB⟩:=hcut
  cases kq with
  |zero=>exact absurd HA.out (by simp[impl_Stir.j0])
  | succ kj3=>
   have H:=HA.out
   clear HA
   simp only[impl_Stir.j0] at H
   by_cases c10:x24_3=true
   case pos=>
    subst c10
    rw[if_pos rfl] at H
    simp only[Option.some.injEq,Prod.mk.injEq] at H
    obtain⟨rfl,rfl⟩:=H
    go_wp2
    go_ret2
    exact⟨_,zq,zz,zb⟩
   replace c10:=Bool.eq_false_iff.mpr c10
   subst c10
   rw[if_neg zFT] at H
   have H':=zM H
   clear H
   go_wp2
   (try simp only[Act.put,zL1,zL2,zL3])
   go_loopg [2,8,27] kj3 (fun kq v2 v8 v27 w'=>∃(x2_2:Int) (x8_2:List Int) (x27_2:Int),v2= .int .i64 x2_2∧v27= .int .i64 x27_2∧Aside0 (impl_Stir.l0 kq a1 x2_2 x8_2 l0 (l0.length:Int) x27_2=some (r1,r2))∧Aside0 (kq≤kj3)∧Aside0 (Kd.R (Kd.int .i64) 3 w' w.heap.size (fun _=>True) v8 x8_2)∧Aside0 (Below w.heap.size w w'))
   case atStart=>exact⟨(a2),(([]:List Int)),(0),zs,zs,H',⟨Nat.le_refl _⟩,⟨zz⟩,⟨zb⟩⟩
   case round=>
    clear H'
    try clear c1
    try clear p2
    try clear c4
    try clear c6
    try clear c8
    try clear c9
    try clear c10
    try clear p2
    obtain⟨x2_2,x8_2,x27_2,rfl,rfl,HA,HK2,HO_8,HB⟩:=hrel
    cases gk with
    |zero=>exact absurd HA.out (by simp[impl_Stir.l0])
    | succ k2=>
     have H:=HA.out
     clear HA
     simp only[impl_Stir.l0] at H
     replace H:=zI2 H
     rcases H with⟨c11,H⟩|⟨c11,H⟩
     case inr=>
      have c11b0:=decide_eq_false c11
      clear c11
      simp only[Option.some.injEq,Prod.mk.injEq] at H
      obtain⟨rfl,rfl⟩:=H
      go_wp2
      go_ret2
      exact⟨_,zq,zr HO_8,zb⟩
     have c11b0:=zE c11
     clear c11
     replace H:=zID H
     obtain⟨c12b0,H⟩:=H
     replace H:=zID H
     obtain⟨c13b0,H⟩:=H
     replace H:=zIM H
     obtain⟨LMc14,H⟩:=H
     replace H:=zY H
     obtain⟨y124,Ny124,H⟩:=H
     replace H:=zI2 H
     rcases H with⟨c15,H⟩|⟨c15,H⟩
     case inr=>
      have c15b0:((Go.bits .and .i64 x2_2 1)==1)=false:=beq_eq_false_iff_ne.mpr c15
      have c15b1:((Go.bits .and .i64 x2_2 1) != 1)=true:=bne_iff_ne.mpr c15
      have H':=zM H
      clear H
      have p123:0≤(x27_2:Int):=zT (by assumption)
      have q123:x27_2<(l0.length:Int):=zT (by assumption)
      obtain⟨ad123,e123,hx123_0⟩:=Kd.at_int HR0.out x27_2 p123 q123
      cases e123
      replace hx123_0:=(HB.out.cell (zW w _ hx123_0)).trans hx123_0
      replace p123:=eq_true p123
      replace q123:=eq_true q123
      go_wp2_with (first|((with_reducible refine gate_builtin (b:= .append) (xs:= #[.tmp 33, .tmp 37]) rfl ?_);at_builtin;refine Kd.R_append (Kd.int .i64) (w0:=w) w.heap.size rfl (.tmp 33) (.tmp 37) 46 3 (.int .i64 0) 8 rfl Try.underlying46 info3 rfl (by decide) (by omega) u8 x8_2 (Go.bits .xor .i64 (rd l0 x27_2) (Go.bits .and .i64 x2_2 1)) [.int .i64 (Go.bits .xor .i64 (rd l0 x27_2) (Go.bits .and .i64 x2_2 1))] (fun _=>True) (fun _=>False) rfl rfl ?aP (fun _ hk=>hk.elim) ?aF ?aO ?aB ?aS ?aL ?_;(case aP=>exact rfl);(case aB=>exact zb);(case aF=>exact(fun _ _=>trivial));(case aO=>exact(zr HO_8));(case aS=>exact(below_size zb));(case aL=>have:=LMc14.out;omega);intro v125 w17 ho hb hg hat;(first|rw[←Ny124.out] at ho|simp only[Int.reduceToNat,←Ny124.out] at ho);refine zS2 (hb) (ho) ?_;clear HB HO_8;intro HB HO126;clear ho hb hg hat))
      go_roundg k2
      case measure=>have:=HJ3.out;have:=HK2.out;omega
      case rel=>exact⟨(x2_2 / 2),(y124),(wrap64 (x27_2+1)),zs,zs,H',⟨zl2 HJ3 HK2⟩,⟨zr HO126⟩,⟨zb⟩⟩
     have c15b0:((Go.bits .and .i64 x2_2 1)==1)=true:=beq_iff_eq.mpr c15
     have c15b1:((Go.bits .and .i64 x2_2 1) != 1)=false:=bne_eq_false_iff_eq.mpr c15
     clear c15
     have H':=zM H
     clear H
     have p123:0≤(x27_2:Int):=zT (by assumption)
     have q123:x27_2<(l0.length:Int):=zT (by assumption)
     obtain⟨ad123,e123,hx123_0⟩:=Kd.at_int HR0.out x27_2 p123 q123
     cases e123
     replace hx123_0:=(HB.out.cell (zW w _ hx123_0)).trans hx123_0
     replace p123:=eq_true p123
     replace q123:=eq_true q123
     go_wp2_with (first|((with_reducible refine gate_builtin (b:= .append) (xs:= #[.tmp 33, .tmp 37]) rfl ?_);at_builtin;refine Kd.R_append (Kd.int .i64) (w0:=w) w.heap.size rfl (.tmp 33) (.tmp 37) 46 3 (.int .i64 0) 8 rfl Try.underlying46 info3 rfl (by decide) (by omega) u8 x8_2 (Go.bits .xor .i64 (rd l0 x27_2) (Go.bits .and .i64 x2_2 1)) [.int .i64 (Go.bits .xor .i64 (rd l0 x27_2) (Go.bits .and .i64 x2_2 1))] (fun _=>True) (fun _=>False) rfl rfl ?aP (fun _ hk=>hk.elim) ?aF ?aO ?aB ?aS ?aL ?_;(case aP=>exact rfl);(case aB=>exact zb);(case aF=>exact(fun _ _=>trivial));(case aO=>exact(zr HO_8));(case aS=>exact(below_size zb));(case aL=>have:=LMc14.out;omega);intro v125 w16 ho hb hg hat;(first|rw[←Ny124.out] at ho|simp only[Int.reduceToNat,←Ny124.out] at ho);refine zS2 (hb) (ho) ?_;clear HB HO_8;intro HB HO126;clear ho hb hg hat))
     go_roundg k2
     case measure=>have:=HJ3.out;have:=HK2.out;omega
     case rel=>exact⟨(Go.bits .xor .i64 (x2_2 / 2) a1),(y124),(wrap64 (x27_2+1)),zs,zs,H',⟨zl2 HJ3 HK2⟩,⟨zr HO126⟩,⟨zb⟩⟩
-- NOT PRINTED: function 54 (impl_Point_54)
-- NOT PRINTED: function 96 (impl_Point_96)
def impl_sample.f (a0:Int):Option (Bool):=if a0≥(-1000000000) then(some (decide (a0≤1000000000))) else(some false)
theorem impl_sample.calls (a0:Int) (r:Bool) (w:World) (H:impl_sample.f a0=some r):
 Calls Try.prog 104 #[.int .i64 a0] w fun e w'=>e= .returned (.bool r)∧Drawn0 w w':=by
 unfold impl_sample.f at H
 replace H:=zI2 H
 rcases H with⟨c2,H⟩|⟨c2,H⟩
 case inl=>
  have c2b0:decide ((-1000000000)≤a0)=true:=zE c2
  clear c2
  obtain rfl:=zI H
  go_enter Try.func104,Try.ntmps104
  go_wp2
  go_ret
  exact⟨zs,zd⟩
 have c2b0:decide ((-1000000000)≤a0)=false:=decide_eq_false c2
 clear c2
 obtain rfl:=zI H
 go_enter Try.func104,Try.ntmps104
 go_wp2
 go_ret
 exact⟨zs,zd⟩
def impl_pointOk.f (a0_0:Int) (a0_1:Int):Option (Bool):=(impl_sample.f a0_0).bind fun t128=>(if t128=true then((impl_sample.f a0_1).bind fun t129=>(some t129)) else(some false))
theorem impl_pointOk.calls (a0_0:Int) (a0_1:Int) (r:Bool) (w:World) (H:impl_pointOk.f a0_0 a0_1=some r):
 Calls Try.prog 98 #[.agg #[.int .i64 a0_0, .int .i64 a0_1]] w fun e w'=>e= .returned (.bool r)∧Below w.heap.size w w':=by
 have hu52:=Try.underlying52
 have HB:=zM (Below.refl w.heap.size w)
 unfold impl_pointOk.f at H
 replace H:=zP H
 obtain⟨t128,A2,H⟩:=H
 by_cases c3:t128=true
 case neg=>
  replace c3:=Bool.eq_false_iff.mpr c3
  subst c3
  rw[if_neg zFT] at H
  obtain rfl:=zI H
  go_enter Try.func98,Try.ntmps98
  go_wp2_with (first|((with_reducible refine gate_dst (N:=1) rfl ?_);refine box_event ?hg (N:=1) ?hd (cs:= #[.int .i64 a0_0, .int .i64 a0_1]) (t:=52) ?hr ?_;(case hd|hg=>rfl);(case hr=>exact zh);intro gb127 hg w7 hbox hb;have n0_:=zM (below_step zb hb);have n1_:=zM (hbox);have n2_:=zM ((zw hg (below_size zb)));have n3_:=zM n2_.out;clear HB;have HB:=n0_;have BK127:=n1_;have GW127:=n2_;have GE127:=n3_;clear n0_ n1_ n2_ n3_;clear hb hbox hg;obtain⟨hcz8_0,hcz8_1,hfz8_0,hfz8_1⟩:=zc2 BK127.out)|((with_reducible refine gate_callee (f:=104) rfl ?_);refine goesL_ (some 5) rfl rfl Try.func104 ze rfl #[.int .i64 a0_0] rfl zg ?_;(with_reducible refine(impl_sample.calls a0_0 false _ A2.out).mono ?_);rintro e w' ⟨rfl,⟨nd,rfl⟩⟩;refine⟨_,rfl,?_⟩))
  go_ret
  exact⟨zq,zb17⟩
 subst c3
 rw[if_pos rfl] at H
 replace H:=zP H
 obtain⟨t129,A4,H⟩:=H
 obtain rfl:=zI H
 go_enter Try.func98,Try.ntmps98
 go_wp2_with (first|((with_reducible refine gate_dst (N:=1) rfl ?_);refine box_event ?hg (N:=1) ?hd (cs:= #[.int .i64 a0_0, .int .i64 a0_1]) (t:=52) ?hr ?_;(case hd|hg=>rfl);(case hr=>exact zh);intro gb127 hg w5 hbox hb;have n0_:=zM (below_step zb hb);have n1_:=zM (hbox);have n2_:=zM ((zw hg (below_size zb)));have n3_:=zM n2_.out;clear HB;have HB:=n0_;have BK127:=n1_;have GW127:=n2_;have GE127:=n3_;clear n0_ n1_ n2_ n3_;clear hb hbox hg;obtain⟨hcz6_0,hcz6_1,hfz6_0,hfz6_1⟩:=zc2 BK127.out)|((with_reducible refine gate_callee (f:=104) rfl ?_);refine goesL_ (some 5) rfl rfl Try.func104 ze rfl #[.int .i64 a0_0] rfl zg ?_;(with_reducible refine(impl_sample.calls a0_0 true _ A2.out).mono ?_);rintro e w' ⟨rfl,⟨nd,rfl⟩⟩;refine⟨_,rfl,?_⟩)|(go_at_call 104;(with_reducible refine(impl_sample.calls a0_1 t129 _ A4.out).mono ?_);rintro e w' ⟨rfl,⟨nd,rfl⟩⟩))
 go_ret
 exact⟨zq,zb17⟩
def impl_burstOk_1.f (a0_0:Int) (a0_1:Int):Option (Bool):=(impl_pointOk.f a0_0 a0_1).bind fun t131=>(some (!t131))
theorem impl_burstOk_1.calls (a0_0:Int) (a0_1:Int) (r:Bool) (w:World) (H:impl_burstOk_1.f a0_0 a0_1=some r):
 Calls Try.prog 97 #[.agg #[.int .i64 a0_0, .int .i64 a0_1]] w fun e w'=>e= .returned (.bool r)∧Below w.heap.size w w':=by
 have hu52:=Try.underlying52
 have HB:=zM (Below.refl w.heap.size w)
 unfold impl_burstOk_1.f at H
 replace H:=zP H
 obtain⟨t131,A2,H⟩:=H
 obtain rfl:=zI H
 go_enter Try.func97,Try.ntmps97
 go_wp2_with (first|((with_reducible refine gate_dst (N:=1) rfl ?_);refine box_event ?hg (N:=1) ?hd (cs:= #[.int .i64 a0_0, .int .i64 a0_1]) (t:=52) ?hr ?_;(case hd|hg=>rfl);(case hr=>exact zh);intro gb130 hg w3 hbox hb;have n0_:=zM (below_step zb hb);have n1_:=zM (hbox);have n2_:=zM ((zw hg (below_size zb)));have n3_:=zM n2_.out;clear HB;have HB:=n0_;have BK130:=n1_;have GW130:=n2_;have GE130:=n3_;clear n0_ n1_ n2_ n3_;clear hb hbox hg;obtain⟨hcz4_0,hcz4_1,hfz4_0,hfz4_1⟩:=zc2 BK130.out)|((with_reducible refine gate_callee (f:=98) rfl ?_);refine goesL_ (some 4) rfl rfl Try.func98 ze rfl #[.agg #[.int .i64 a0_0, .int .i64 a0_1]] rfl zg ?_;(with_reducible refine(impl_pointOk.calls a0_0 a0_1 t131 _ A2.out).mono ?_);rintro e w5 ⟨rfl,hb⟩;refine⟨_,rfl,?_⟩;refine zS2 (zNb (g:=gb130) (o:= .cells #[.int .i64 a0_0, .int .i64 a0_1] 52 (0,0)) (zn BK130) hb) (below_step zb18 hb) ?_;clear BK130 HB;intro BK130 HB;(try clear hb);(try clear hb2);(try clear hk);(try clear hi)))
 go_ret
 exact⟨zq,zb18⟩
def ptB (x:S52):Bool:=(decide (-1000000000≤x.f0)&&decide (x.f0≤1000000000))&&(decide (-1000000000≤x.f1)&&decide (x.f1≤1000000000))
theorem ptB_sample (a:Int):impl_sample.f a=some (decide (-1000000000≤a)&&decide (a≤1000000000)):=by
 unfold impl_sample.f
 by_cases h:a≥ -1000000000
 case pos=>rw[if_pos h,show decide (-1000000000≤a)=true from zE h,Bool.true_and]
 rw[if_neg h,show decide (-1000000000≤a)=false from decide_eq_false h,Bool.false_and]
theorem ptB_eq (x:S52):impl_burstOk_1.f x.f0 x.f1=some (!ptB x):=by
 unfold impl_burstOk_1.f impl_pointOk.f ptB
 rw[ptB_sample,ptB_sample]
 simp only[Option.bind_some]
 cases(decide (-1000000000≤x.f0)&&decide (x.f0≤1000000000))<;>simp
theorem rdPt {xs:List S52} {i:Nat} (h:i<xs.length):xs.take (i+1)=xs.take i++[rd_T52 xs (i:Int)]:=by
 rw[show rd_T52 xs (i:Int)=xs[i] by simp[rd_T52,List.getD_eq_getElem?_getD,h]];exact(List.take_append_getElem h).symm
theorem memPt {xs:List S52} {i:Nat} (h:i<xs.length):rd_T52 xs (i:Int)∈xs:=by
 rw[show rd_T52 xs (i:Int)=xs[i] by simp[rd_T52,List.getD_eq_getElem?_getD,h]];exact List.getElem_mem h
set_option maxHeartbeats 4000000 in
theorem index_calls (A0:Option Addr) (c0:Nat) (l0:List S52) (w:World) (hr0:Kd.C k52 w A0 l0.length l0) (hc0:l0.length≤c0) (hm:l0.length≤9000000000000000000):
 Calls Try.prog 54 #[.slice A0 l0.length c0, .func (.func 97) #[] #[]] w fun e w'=>∃j:Int,e= .returned (.int .i64 j)∧decide (0≤j)= !(l0.all ptB)∧Below w.heap.size w w':=by
 have HR0:=zM hr0
 clear hr0
 go_enter Try.func54,Try.ntmps54
 go_wp2
 go_loopw [8] (fun v w'=>∃(x:Int),v= .int .i64 x∧Aside0 (Below w.heap.size w w')∧Aside0 ((l0.take x.toNat).all ptB=true)∧Aside0 (0≤x∧x≤(l0.length:Int))) (fun v _=>l0.length-(match v with| .int _ n=>n.toNat|_=>0))
 case atStart=>exact⟨0,rfl,⟨Below.refl _ _⟩,⟨by simp⟩,⟨by omega⟩⟩
 case round=>
  obtain⟨x,rfl,HB,HT,HI⟩:=hrel
  by_cases hi:x<(l0.length:Int)
  case neg=>
   have hlt:decide (x<(l0.length:Int))=false:=decide_eq_false hi
   have HQ:=zM hi
   clear hi
   go_wp2
   go_ret
   refine⟨_,rfl,?_,HB.out⟩
   have:=HT.out
   rw[List.take_of_length_le (zl2 HI HQ)] at this
   rw[this];rfl
  have hlt:decide (x<(l0.length:Int))=true:=zE hi
  obtain⟨ad,e1,hx0,hx1⟩:=at_T52 HR0.out x HI.out.1 hi
  subst e1
  replace hx0:=(HB.out.cell (zW w _ hx0)).trans hx0
  replace hx1:=(HB.out.cell (zW w _ hx1)).trans hx1
  have HP:=zM (ptB_eq (rd_T52 l0 x))
  have p1:=eq_true HI.out.1
  have q1:=eq_true hi
  have HQ:=zM hi
  have ht:l0.take (x+1).toNat=l0.take x.toNat++[rd_T52 l0 x]:=by
   have:=rdPt (xs:=l0) (i:=x.toNat) (zl1 HI)
   rw[Int.toNat_of_nonneg HI.out.1] at this
   rw[←this,show(x+1).toNat=x.toNat+1 by have:=HI.out;omega]
  have hm2:rd_T52 l0 x∈l0:=by
   have:=memPt (xs:=l0) (i:=x.toNat) (zl1 HI)
   rwa[Int.toNat_of_nonneg HI.out.1] at this
  have HM:=zM hm2
  have HTT:=zM ht
  have hw:wrap64 (x+1)=x+1:=by have:=HI.out;unfold wrap64;omega
  have HW:=zM hw
  clear hi hm2 ht hw
  cases hp:ptB (rd_T52 l0 x) with
  |true=>
   rw[hp] at HP
   go_wp2_with (go_at_call 97;(with_reducible refine(impl_burstOk_1.calls _ _ false _ HP.out).mono ?_);rintro e w3 ⟨rfl,hb3⟩)
   go_roundw
   case rel=>exact⟨x+1,by first|rfl|rw[HW.out],⟨below_step HB.out hb3⟩,⟨by rw[HTT.out,List.all_append,HT.out];simp[hp]⟩,⟨zl2 HI HQ⟩⟩
   case measure=>have:=HI.out;have:=HQ.out;have:=HW.out;first|(simp only[this];omega)|(simp;omega)|omega
  |false=>
   rw[hp] at HP
   go_wp2_with (go_at_call 97;(with_reducible refine(impl_burstOk_1.calls _ _ true _ HP.out).mono ?_);rintro e w3 ⟨rfl,hb3⟩)
   go_ret
   refine⟨_,rfl,?_,below_step HB.out hb3⟩
   rw[zE HI.out.1,eq_comm,Bool.not_eq_true',List.all_eq_false]
   exact⟨_,HM.out,by simp[hp]⟩
set_option maxHeartbeats 4000000 in
theorem contains_calls (A0:Option Addr) (c0:Nat) (l0:List S52) (w:World) (hr0:Kd.C k52 w A0 l0.length l0) (hc0:l0.length≤c0) (hm:l0.length≤9000000000000000000):
 Calls Try.prog 96 #[.slice A0 l0.length c0, .func (.func 97) #[] #[]] w fun e w'=>e= .returned (.bool (!(l0.all ptB)))∧Below w.heap.size w w':=by
 have HI:=zM (index_calls A0 c0 l0 w hr0 hc0 hm)
 clear hr0
 go_enter Try.func96,Try.ntmps96
 go_wp2_with (go_at_call 54;(with_reducible refine HI.out.mono ?_);rintro e w3 ⟨j,rfl,hj,hb⟩)
 go_ret
 exact⟨by first|rfl|rw[hj]|simp[hj],hb⟩
def impl_burstOk.f (l0:List S52):Option Bool:=some (decide ((l0.length:Int)≤4096)&&l0.all ptB)
set_option maxHeartbeats 4000000 in
theorem impl_burstOk.calls (A0:Option Addr) (c0:Nat) (l0:List S52) (r:Bool) (w:World) (hr0:Kd.C k52 w A0 l0.length l0) (hc0:l0.length≤c0) (h:impl_burstOk.f l0=some r):
 Calls Try.prog 52 #[.slice A0 l0.length c0] w fun e w'=>e= .returned (.bool r)∧Below w.heap.size w w':=by
 have hR:=zI h
 clear h
 cases h1:decide ((l0.length:Int)≤4096) with
 |false=>
  rw[h1,Bool.false_and] at hR
  subst hR
  clear hr0
  go_enter Try.func52,Try.ntmps52
  go_wp2
  go_ret
  exact⟨rfl,Below.refl _ _⟩
 |true=>
  rw[h1,Bool.true_and] at hR
  have hl:=zT h1
  have HI:=zM (contains_calls A0 c0 l0 w hr0 hc0 (by omega))
  clear hr0 hl
  subst hR
  go_enter Try.func52,Try.ntmps52
  go_wp2_with (go_at_call 96;(with_reducible refine HI.out.mono ?_);rintro e w3 ⟨rfl,hb⟩)
  go_ret
  exact⟨by first|rfl|simp,hb⟩
end Go.Proofs.Ytapobpkeefeajaa.PFnExactHear
