-- A turned copy of the print's text.
import Derived.Test.YtapobpkeefeajaaPFnModemx0
namespace Go.Proofs.Ytapobpkeefeajaa.PFnModem
open Go.RowKit Go.Proofs.YtapobpkeefeajaaW.PrintWords Go.Proofs.YtapobpkeefeajaaW.PrintLast Go.Proofs.YtapobpkeefeajaaW.PrintMore
attribute [local go_sem] max2_int min2_int max_two min_two max_three min_three max_four min_four
set_option maxHeartbeats 8000000
set_option maxRecDepth 100000
set_option linter.unusedVariables false
set_option linter.unusedSimpArgs false
def laws_sameBytes.f (l0:List Int) (l1:List Int):Option (Bool):=some ((strOfNums l0).toList==(strOfNums l1).toList)
theorem laws_sameBytes.calls (A0:Option Addr) (c0:Nat) (l0:List Int) (A1:Option Addr) (c1:Nat) (l1:List Int) (r:Bool) (w:World) (hr0:Kd.C (Kd.int .u8) w A0 l0.length l0) (hc0:l0.length≤c0) (hr1:Kd.C (Kd.int .u8) w A1 l1.length l1) (hc1:l1.length≤c1) (H:laws_sameBytes.f l0 l1=some r):
 Calls Try.prog 21 #[.slice A0 l0.length c0, .slice A1 l1.length c1] w fun e w'=>e= .returned (.bool r)∧Drawn0 w w':=by
 have HR0:=zM hr0
 have HC0:=zM hc0
 clear hr0 hc0
 have HR1:=zM hr1
 have HC1:=zM hc1
 clear hr1 hc1
 unfold laws_sameBytes.f at H
 obtain rfl:=zI H
 have hcv3:=Kd.C_string (P:=Try.prog) (A:=A0) (c:=c0) Try.underlying24 Try.underlying5 Try.underlying9 HR0.out
 (try have hcv3q:=fun n_=>Kd.C_string (P:=Try.prog) (A:=A0) (c:=c0) Try.underlying24 Try.underlying5 Try.underlying9 (zCn HR0.out n_))
 have hcv4:=Kd.C_string (P:=Try.prog) (A:=A1) (c:=c1) Try.underlying24 Try.underlying5 Try.underlying9 HR1.out
 (try have hcv4q:=fun n_=>Kd.C_string (P:=Try.prog) (A:=A1) (c:=c1) Try.underlying24 Try.underlying5 Try.underlying9 (zCn HR1.out n_))
 go_enter Try.func21,Try.ntmps21
 go_wp2
 go_ret
 exact⟨zs,zd⟩
def spec_l1In.f (a0:Int) (a1:Int) (a2:Int):Option (Bool):=if a0≥a1 then(some (decide (a0≤a2))) else(some false)
theorem spec_l1In.calls (a0:Int) (a1:Int) (a2:Int) (r:Bool) (w:World) (H:spec_l1In.f a0 a1 a2=some r):
 Calls Try.prog 30 #[.int .i64 a0, .int .i64 a1, .int .i64 a2] w fun e w'=>e= .returned (.bool r)∧Drawn0 w w':=by
 unfold spec_l1In.f at H
 replace H:=zI2 H
 rcases H with⟨c4,H⟩|⟨c4,H⟩
 case inl=>
  have c4b0:decide (a1≤a0)=true:=zE c4
  clear c4
  obtain rfl:=zI H
  go_enter Try.func30,Try.ntmps30
  go_wp2
  go_ret
  exact⟨zs,zd⟩
 have c4b0:decide (a1≤a0)=false:=decide_eq_false c4
 clear c4
 obtain rfl:=zI H
 go_enter Try.func30,Try.ntmps30
 go_wp2
 go_ret
 exact⟨zs,zd⟩
def spec_l13Width.f (a0:Int):Option (Bool):=if a0=2 then(some true) else(if a0=4 then(some true) else(if a0=6 then(some true) else(some (a0==8))))
theorem spec_l13Width.calls (a0:Int) (r:Bool) (w:World) (H:spec_l13Width.f a0=some r):
 Calls Try.prog 75 #[.int .i64 a0] w fun e w'=>e= .returned (.bool r)∧Drawn0 w w':=by
 unfold spec_l13Width.f at H
 replace H:=zI2 H
 rcases H with⟨c2,H⟩|⟨c2,H⟩
 case inl=>
  have c2b0:(a0==2)=true:=beq_iff_eq.mpr c2
  have c2b1:(a0 != 2)=false:=bne_eq_false_iff_eq.mpr c2
  clear c2
  obtain rfl:=zI H
  go_enter Try.func75,Try.ntmps75
  go_wp2
  go_ret
  exact⟨zs,zd⟩
 have c2b0:(a0==2)=false:=beq_eq_false_iff_ne.mpr c2
 have c2b1:(a0 != 2)=true:=bne_iff_ne.mpr c2
 replace H:=zI2 H
 rcases H with⟨c3,H⟩|⟨c3,H⟩
 case inl=>
  have c3b0:(a0==4)=true:=beq_iff_eq.mpr c3
  have c3b1:(a0 != 4)=false:=bne_eq_false_iff_eq.mpr c3
  clear c3
  obtain rfl:=zI H
  go_enter Try.func75,Try.ntmps75
  go_wp2
  go_ret
  exact⟨zs,zd⟩
 have c3b0:(a0==4)=false:=beq_eq_false_iff_ne.mpr c3
 have c3b1:(a0 != 4)=true:=bne_iff_ne.mpr c3
 replace H:=zI2 H
 rcases H with⟨c4,H⟩|⟨c4,H⟩
 case inr=>
  have c4b0:(a0==6)=false:=beq_eq_false_iff_ne.mpr c4
  have c4b1:(a0 != 6)=true:=bne_iff_ne.mpr c4
  obtain rfl:=zI H
  go_enter Try.func75,Try.ntmps75
  go_wp2
  go_ret
  exact⟨zs,zd⟩
 have c4b0:(a0==6)=true:=beq_iff_eq.mpr c4
 have c4b1:(a0 != 6)=false:=bne_eq_false_iff_eq.mpr c4
 clear c4
 obtain rfl:=zI H
 go_enter Try.func75,Try.ntmps75
 go_wp2
 go_ret
 exact⟨zs,zd⟩
def spec_l14Mend.f (a0:Int):Option (Bool):=(spec_l1In.f a0 1 8).bind fun t260=>(some t260)
theorem spec_l14Mend.calls (a0:Int) (r:Bool) (w:World) (H:spec_l14Mend.f a0=some r):
 Calls Try.prog 76 #[.int .i64 a0] w fun e w'=>e= .returned (.bool r)∧Drawn0 w w':=by
 unfold spec_l14Mend.f at H
 replace H:=zP H
 obtain⟨t260,A2,H⟩:=H
 obtain rfl:=zI H
 go_enter Try.func76,Try.ntmps76
 go_wp2_with (first|((with_reducible refine gate_callee (f:=30) rfl ?_);refine goesL_ (some 4) rfl rfl Try.func30 ze rfl #[.int .i64 a0, .int .i64 1, .int .i64 8] rfl zg ?_;(with_reducible refine(spec_l1In.calls a0 1 8 t260 _ A2.out).mono ?_);rintro e w' ⟨rfl,⟨nd,rfl⟩⟩;refine⟨_,rfl,?_⟩))
 go_ret
 exact⟨zs,zd⟩
def spec_ModemOk.f (a0_0:Int) (a0_1:Int) (a0_2:Int) (a0_3:Int) (a0_4:Int) (a0_5:Int):Option (Bool):=(spec_l13Width.f a0_0).bind fun t262=>(if t262=true then((spec_l14Mend.f a0_1).bind fun t263=>(if t263=true then((spec_l1In.f a0_2 1 64).bind fun t264=>(if t264=true then((spec_l1In.f a0_3 1 65535).bind fun t265=>(if t265=true then((spec_l1In.f a0_4 1 8).bind fun t266=>(if t266=true then((spec_l1In.f a0_5 1 10000).bind fun t267=>(some t267)) else(some false))) else(some false))) else(some false))) else(some false))) else(some false))
theorem spec_ModemOk.calls (a0_0:Int) (a0_1:Int) (a0_2:Int) (a0_3:Int) (a0_4:Int) (a0_5:Int) (r:Bool) (w:World) (H:spec_ModemOk.f a0_0 a0_1 a0_2 a0_3 a0_4 a0_5=some r):
 Calls Try.prog 29 #[.agg #[.int .i64 a0_0, .int .i64 a0_1, .int .i64 a0_2, .int .i64 a0_3, .int .i64 a0_4, .int .i64 a0_5]] w fun e w'=>e= .returned (.bool r)∧Below w.heap.size w w':=by
 have hu28:=Try.underlying28
 have HB:=zM (Below.refl w.heap.size w)
 unfold spec_ModemOk.f at H
 replace H:=zP H
 obtain⟨t262,A2,H⟩:=H
 by_cases c3:t262=true
 case neg=>
  replace c3:=Bool.eq_false_iff.mpr c3
  subst c3
  rw[if_neg zFT] at H
  obtain rfl:=zI H
  go_enter Try.func29,Try.ntmps29
  go_wp2_with (first|((with_reducible refine gate_dst (N:=1) rfl ?_);refine box_event ?hg (N:=1) ?hd (cs:= #[.int .i64 a0_0, .int .i64 a0_1, .int .i64 a0_2, .int .i64 a0_3, .int .i64 a0_4, .int .i64 a0_5]) (t:=28) ?hr ?_;(case hd|hg=>rfl);(case hr=>exact zh);intro gb261 hg w23 hbox hb;have n0_:=zM (below_step zb hb);have n1_:=zM (hbox);have n2_:=zM ((zw hg (below_size zb)));have n3_:=zM n2_.out;clear HB;have HB:=n0_;have BK261:=n1_;have GW261:=n2_;have GE261:=n3_;clear n0_ n1_ n2_ n3_;clear hb hbox hg;obtain⟨hcz24_0,hcz24_1,hcz24_2,hcz24_3,hcz24_4,hcz24_5,hfz24_0,hfz24_1,hfz24_2,hfz24_3,hfz24_4,hfz24_5⟩:=zc6 BK261.out)|((with_reducible refine gate_callee (f:=75) rfl ?_);refine goesL_ (some 5) rfl rfl Try.func75 ze rfl #[.int .i64 a0_0] rfl zg ?_;(with_reducible refine(spec_l13Width.calls a0_0 false _ A2.out).mono ?_);rintro e w' ⟨rfl,⟨nd,rfl⟩⟩;refine⟨_,rfl,?_⟩))
  go_ret
  exact⟨zq,zb6⟩
 subst c3
 rw[if_pos rfl] at H
 replace H:=zP H
 obtain⟨t263,A4,H⟩:=H
 by_cases c5:t263=true
 case neg=>
  replace c5:=Bool.eq_false_iff.mpr c5
  subst c5
  rw[if_neg zFT] at H
  obtain rfl:=zI H
  go_enter Try.func29,Try.ntmps29
  go_wp2_with (first|((with_reducible refine gate_dst (N:=1) rfl ?_);refine box_event ?hg (N:=1) ?hd (cs:= #[.int .i64 a0_0, .int .i64 a0_1, .int .i64 a0_2, .int .i64 a0_3, .int .i64 a0_4, .int .i64 a0_5]) (t:=28) ?hr ?_;(case hd|hg=>rfl);(case hr=>exact zh);intro gb261 hg w21 hbox hb;have n0_:=zM (below_step zb hb);have n1_:=zM (hbox);have n2_:=zM ((zw hg (below_size zb)));have n3_:=zM n2_.out;clear HB;have HB:=n0_;have BK261:=n1_;have GW261:=n2_;have GE261:=n3_;clear n0_ n1_ n2_ n3_;clear hb hbox hg;obtain⟨hcz22_0,hcz22_1,hcz22_2,hcz22_3,hcz22_4,hcz22_5,hfz22_0,hfz22_1,hfz22_2,hfz22_3,hfz22_4,hfz22_5⟩:=zc6 BK261.out)|((with_reducible refine gate_callee (f:=75) rfl ?_);refine goesL_ (some 5) rfl rfl Try.func75 ze rfl #[.int .i64 a0_0] rfl zg ?_;(with_reducible refine(spec_l13Width.calls a0_0 true _ A2.out).mono ?_);rintro e w' ⟨rfl,⟨nd,rfl⟩⟩;refine⟨_,rfl,?_⟩)|(go_at_call 76;(with_reducible refine(spec_l14Mend.calls a0_1 false _ A4.out).mono ?_);rintro e w' ⟨rfl,⟨nd,rfl⟩⟩))
  go_ret
  exact⟨zq,zb6⟩
 subst c5
 rw[if_pos rfl] at H
 replace H:=zP H
 obtain⟨t264,A6,H⟩:=H
 by_cases c7:t264=true
 case neg=>
  replace c7:=Bool.eq_false_iff.mpr c7
  subst c7
  rw[if_neg zFT] at H
  obtain rfl:=zI H
  go_enter Try.func29,Try.ntmps29
  go_wp2_with (first|((with_reducible refine gate_dst (N:=1) rfl ?_);refine box_event ?hg (N:=1) ?hd (cs:= #[.int .i64 a0_0, .int .i64 a0_1, .int .i64 a0_2, .int .i64 a0_3, .int .i64 a0_4, .int .i64 a0_5]) (t:=28) ?hr ?_;(case hd|hg=>rfl);(case hr=>exact zh);intro gb261 hg w19 hbox hb;have n0_:=zM (below_step zb hb);have n1_:=zM (hbox);have n2_:=zM ((zw hg (below_size zb)));have n3_:=zM n2_.out;clear HB;have HB:=n0_;have BK261:=n1_;have GW261:=n2_;have GE261:=n3_;clear n0_ n1_ n2_ n3_;clear hb hbox hg;obtain⟨hcz20_0,hcz20_1,hcz20_2,hcz20_3,hcz20_4,hcz20_5,hfz20_0,hfz20_1,hfz20_2,hfz20_3,hfz20_4,hfz20_5⟩:=zc6 BK261.out)|((with_reducible refine gate_callee (f:=75) rfl ?_);refine goesL_ (some 5) rfl rfl Try.func75 ze rfl #[.int .i64 a0_0] rfl zg ?_;(with_reducible refine(spec_l13Width.calls a0_0 true _ A2.out).mono ?_);rintro e w' ⟨rfl,⟨nd,rfl⟩⟩;refine⟨_,rfl,?_⟩)|(go_at_call 76;(with_reducible refine(spec_l14Mend.calls a0_1 true _ A4.out).mono ?_);rintro e w' ⟨rfl,⟨nd,rfl⟩⟩)|(go_at_call 30;(with_reducible refine(spec_l1In.calls a0_2 1 64 false _ A6.out).mono ?_);rintro e w' ⟨rfl,⟨nd,rfl⟩⟩))
  go_ret
  exact⟨zq,zb6⟩
 subst c7
 rw[if_pos rfl] at H
 replace H:=zP H
 obtain⟨t265,A8,H⟩:=H
 by_cases c9:t265=true
 case neg=>
  replace c9:=Bool.eq_false_iff.mpr c9
  subst c9
  rw[if_neg zFT] at H
  obtain rfl:=zI H
  go_enter Try.func29,Try.ntmps29
  go_wp2_with (first|((with_reducible refine gate_dst (N:=1) rfl ?_);refine box_event ?hg (N:=1) ?hd (cs:= #[.int .i64 a0_0, .int .i64 a0_1, .int .i64 a0_2, .int .i64 a0_3, .int .i64 a0_4, .int .i64 a0_5]) (t:=28) ?hr ?_;(case hd|hg=>rfl);(case hr=>exact zh);intro gb261 hg w17 hbox hb;have n0_:=zM (below_step zb hb);have n1_:=zM (hbox);have n2_:=zM ((zw hg (below_size zb)));have n3_:=zM n2_.out;clear HB;have HB:=n0_;have BK261:=n1_;have GW261:=n2_;have GE261:=n3_;clear n0_ n1_ n2_ n3_;clear hb hbox hg;obtain⟨hcz18_0,hcz18_1,hcz18_2,hcz18_3,hcz18_4,hcz18_5,hfz18_0,hfz18_1,hfz18_2,hfz18_3,hfz18_4,hfz18_5⟩:=zc6 BK261.out)|((with_reducible refine gate_callee (f:=75) rfl ?_);refine goesL_ (some 5) rfl rfl Try.func75 ze rfl #[.int .i64 a0_0] rfl zg ?_;(with_reducible refine(spec_l13Width.calls a0_0 true _ A2.out).mono ?_);rintro e w' ⟨rfl,⟨nd,rfl⟩⟩;refine⟨_,rfl,?_⟩)|(go_at_call 76;(with_reducible refine(spec_l14Mend.calls a0_1 true _ A4.out).mono ?_);rintro e w' ⟨rfl,⟨nd,rfl⟩⟩)|(go_at_call 30;(with_reducible refine(spec_l1In.calls a0_2 1 64 true _ A6.out).mono ?_);rintro e w' ⟨rfl,⟨nd,rfl⟩⟩)|(go_at_call 30;(with_reducible refine(spec_l1In.calls a0_3 1 65535 false _ A8.out).mono ?_);rintro e w' ⟨rfl,⟨nd,rfl⟩⟩))
  go_ret
  exact⟨zq,zb6⟩
 subst c9
 rw[if_pos rfl] at H
 replace H:=zP H
 obtain⟨t266,A10,H⟩:=H
 by_cases c11:t266=true
 case neg=>
  replace c11:=Bool.eq_false_iff.mpr c11
  subst c11
  rw[if_neg zFT] at H
  obtain rfl:=zI H
  go_enter Try.func29,Try.ntmps29
  go_wp2_with (first|((with_reducible refine gate_dst (N:=1) rfl ?_);refine box_event ?hg (N:=1) ?hd (cs:= #[.int .i64 a0_0, .int .i64 a0_1, .int .i64 a0_2, .int .i64 a0_3, .int .i64 a0_4, .int .i64 a0_5]) (t:=28) ?hr ?_;(case hd|hg=>rfl);(case hr=>exact zh);intro gb261 hg w15 hbox hb;have n0_:=zM (below_step zb hb);have n1_:=zM (hbox);have n2_:=zM ((zw hg (below_size zb)));have n3_:=zM n2_.out;clear HB;have HB:=n0_;have BK261:=n1_;have GW261:=n2_;have GE261:=n3_;clear n0_ n1_ n2_ n3_;clear hb hbox hg;obtain⟨hcz16_0,hcz16_1,hcz16_2,hcz16_3,hcz16_4,hcz16_5,hfz16_0,hfz16_1,hfz16_2,hfz16_3,hfz16_4,hfz16_5⟩:=zc6 BK261.out)|((with_reducible refine gate_callee (f:=75) rfl ?_);refine goesL_ (some 5) rfl rfl Try.func75 ze rfl #[.int .i64 a0_0] rfl zg ?_;(with_reducible refine(spec_l13Width.calls a0_0 true _ A2.out).mono ?_);rintro e w' ⟨rfl,⟨nd,rfl⟩⟩;refine⟨_,rfl,?_⟩)|(go_at_call 76;(with_reducible refine(spec_l14Mend.calls a0_1 true _ A4.out).mono ?_);rintro e w' ⟨rfl,⟨nd,rfl⟩⟩)|(go_at_call 30;(with_reducible refine(spec_l1In.calls a0_2 1 64 true _ A6.out).mono ?_);rintro e w' ⟨rfl,⟨nd,rfl⟩⟩)|(go_at_call 30;(with_reducible refine(spec_l1In.calls a0_3 1 65535 true _ A8.out).mono ?_);rintro e w' ⟨rfl,⟨nd,rfl⟩⟩)|(go_at_call 30;(with_reducible refine(spec_l1In.calls a0_4 1 8 false _ A10.out).mono ?_);rintro e w' ⟨rfl,⟨nd,rfl⟩⟩))
  go_ret
  exact⟨zq,zb6⟩
 subst c11
 rw[if_pos rfl] at H
 replace H:=zP H
 obtain⟨t267,A12,H⟩:=H
 obtain rfl:=zI H
 go_enter Try.func29,Try.ntmps29
 go_wp2_with (first|((with_reducible refine gate_dst (N:=1) rfl ?_);refine box_event ?hg (N:=1) ?hd (cs:= #[.int .i64 a0_0, .int .i64 a0_1, .int .i64 a0_2, .int .i64 a0_3, .int .i64 a0_4, .int .i64 a0_5]) (t:=28) ?hr ?_;(case hd|hg=>rfl);(case hr=>exact zh);intro gb261 hg w13 hbox hb;have n0_:=zM (below_step zb hb);have n1_:=zM (hbox);have n2_:=zM ((zw hg (below_size zb)));have n3_:=zM n2_.out;clear HB;have HB:=n0_;have BK261:=n1_;have GW261:=n2_;have GE261:=n3_;clear n0_ n1_ n2_ n3_;clear hb hbox hg;obtain⟨hcz14_0,hcz14_1,hcz14_2,hcz14_3,hcz14_4,hcz14_5,hfz14_0,hfz14_1,hfz14_2,hfz14_3,hfz14_4,hfz14_5⟩:=zc6 BK261.out)|((with_reducible refine gate_callee (f:=75) rfl ?_);refine goesL_ (some 5) rfl rfl Try.func75 ze rfl #[.int .i64 a0_0] rfl zg ?_;(with_reducible refine(spec_l13Width.calls a0_0 true _ A2.out).mono ?_);rintro e w' ⟨rfl,⟨nd,rfl⟩⟩;refine⟨_,rfl,?_⟩)|(go_at_call 76;(with_reducible refine(spec_l14Mend.calls a0_1 true _ A4.out).mono ?_);rintro e w' ⟨rfl,⟨nd,rfl⟩⟩)|(go_at_call 30;(with_reducible refine(spec_l1In.calls a0_2 1 64 true _ A6.out).mono ?_);rintro e w' ⟨rfl,⟨nd,rfl⟩⟩)|(go_at_call 30;(with_reducible refine(spec_l1In.calls a0_3 1 65535 true _ A8.out).mono ?_);rintro e w' ⟨rfl,⟨nd,rfl⟩⟩)|(go_at_call 30;(with_reducible refine(spec_l1In.calls a0_4 1 8 true _ A10.out).mono ?_);rintro e w' ⟨rfl,⟨nd,rfl⟩⟩)|(go_at_call 30;(with_reducible refine(spec_l1In.calls a0_5 1 10000 t267 _ A12.out).mono ?_);rintro e w' ⟨rfl,⟨nd,rfl⟩⟩))
 go_ret
 exact⟨zq,zb6⟩
def spec_l14Byte.f (a0:Int):Option (Bool):=(spec_l1In.f a0 0 255).bind fun t268=>(some t268)
theorem spec_l14Byte.calls (a0:Int) (r:Bool) (w:World) (H:spec_l14Byte.f a0=some r):
 Calls Try.prog 117 #[.int .i64 a0] w fun e w'=>e= .returned (.bool r)∧Drawn0 w w':=by
 unfold spec_l14Byte.f at H
 replace H:=zP H
 obtain⟨t268,A2,H⟩:=H
 obtain rfl:=zI H
 go_enter Try.func117,Try.ntmps117
 go_wp2_with (first|((with_reducible refine gate_callee (f:=30) rfl ?_);refine goesL_ (some 4) rfl rfl Try.func30 ze rfl #[.int .i64 a0, .int .i64 0, .int .i64 255] rfl zg ?_;(with_reducible refine(spec_l1In.calls a0 0 255 t268 _ A2.out).mono ?_);rintro e w' ⟨rfl,⟨nd,rfl⟩⟩;refine⟨_,rfl,?_⟩))
 go_ret
 exact⟨zs,zd⟩
mutual
def spec_GfMul.j0:Nat→Int→Int→Bool→Option (Int)
 |0,_,_,_=>none
 |k+1,x0,x1,x14=>if x14=true then(some 0) else(spec_GfMul.l0 k x0 x1 0 7)
def spec_GfMul.l0:Nat→Int→Int→Int→Int→Option (Int)
 |0,_,_,_,_=>none
 |k+1,x0,x1,x5,x6=>if x6≥0 then(if(wrap64 (2*x5))≥256 then(if 0≤(IntKind.u64.wrap (x6)) then(if(Int.tmod (shr .i64 x1 (IntKind.u64.wrap (x6))) 2)=1 then(spec_GfMul.l0 k x0 x1 (Go.bits .xor .i64 (Go.bits .xor .i64 (wrap64 (2*x5)) 285) x0) (wrap64 (x6-1))) else(spec_GfMul.l0 k x0 x1 (Go.bits .xor .i64 (wrap64 (2*x5)) 285) (wrap64 (x6-1)))) else(none)) else(if 0≤(IntKind.u64.wrap (x6)) then(if(Int.tmod (shr .i64 x1 (IntKind.u64.wrap (x6))) 2)=1 then(spec_GfMul.l0 k x0 x1 (Go.bits .xor .i64 (wrap64 (2*x5)) x0) (wrap64 (x6-1))) else(spec_GfMul.l0 k x0 x1 (wrap64 (2*x5)) (wrap64 (x6-1)))) else(none))) else(some x5)
end
def spec_GfMul.f (k:Nat) (a0:Int) (a1:Int):Option (Int):=(spec_l14Byte.f a0).bind fun t269=>(if t269=true then((spec_l14Byte.f a1).bind fun t270=>(spec_GfMul.j0 k a0 a1 (!t270))) else(spec_GfMul.j0 k a0 a1 true))
theorem spec_GfMul.calls (k:Nat) (a0:Int) (a1:Int) (r:Int) (w:World) (H:spec_GfMul.f k a0 a1=some r):
 Calls Try.prog 77 #[.int .i64 a0, .int .i64 a1] w fun e w'=>e= .returned (.int .i64 r)∧Drawn0 w w':=by
 unfold spec_GfMul.f at H
 have HC3:=zM H
 clear H
 go_enter Try.func77,Try.ntmps77
 go_upto_region 1 with(fail)
 go_cut [14] (fun v14 wc=>∃(kq:Nat) (x14_2:Bool),v14= .bool x14_2∧Aside0 (spec_GfMul.j0 kq a0 a1 x14_2=some r)∧Aside0 (kq≤k)∧Drawn0 w wc)
 case first=>
  have H:=HC3.out
  clear HC3
  replace H:=zP H
  obtain⟨t269,A4,H⟩:=H
  by_cases c5:t269=true
  case neg=>
   replace c5:=Bool.eq_false_iff.mpr c5
   subst c5
   rw[if_neg zFT] at H
   have H':=zM H
   clear H
   go_wp2_with (first|((with_reducible refine gate_callee (f:=117) rfl ?_);refine goesL_ (some 8) rfl rfl Try.func117 ze rfl #[.int .i64 a0] rfl zg ?_;(with_reducible refine(spec_l14Byte.calls a0 false _ A4.out).mono ?_);rintro e w' ⟨rfl,⟨nd,rfl⟩⟩;refine⟨_,rfl,?_⟩))
   go_meet
   case rel=>exact⟨_,(true),zs,H',⟨zo⟩,zd⟩
  subst c5
  rw[if_pos rfl] at H
  replace H:=zP H
  obtain⟨t270,A6,H⟩:=H
  have H':=zM H
  clear H
  go_wp2_with (first|((with_reducible refine gate_callee (f:=117) rfl ?_);refine goesL_ (some 8) rfl rfl Try.func117 ze rfl #[.int .i64 a0] rfl zg ?_;(with_reducible refine(spec_l14Byte.calls a0 true _ A4.out).mono ?_);rintro e w' ⟨rfl,⟨nd,rfl⟩⟩;refine⟨_,rfl,?_⟩)|(go_at_call 117;(with_reducible refine(spec_l14Byte.calls a1 t270 _ A6.out).mono ?_);rintro e w' ⟨rfl,⟨nd,rfl⟩⟩))
  go_meet
  case rel=>exact⟨_,(!t270),zs,H',⟨zo⟩,zd⟩
 case rest=>
  clear HC3
  obtain⟨kq,x14_2,rfl,HA,HJ2,⟨mc2,rfl⟩⟩:=hcut
  cases kq with
  |zero=>exact absurd HA.out (by simp[spec_GfMul.j0])
  | succ kj2=>
   have H:=HA.out
   clear HA
   simp only[spec_GfMul.j0] at H
   by_cases c7:x14_2=true
   case pos=>
    subst c7
    rw[if_pos rfl] at H
    obtain rfl:=zI H
    go_wp2
    go_ret
    exact⟨zs,zd⟩
   replace c7:=Bool.eq_false_iff.mpr c7
   subst c7
   rw[if_neg zFT] at H
   have H':=zM H
   clear H
   go_wp2
   (try simp only[Act.put,zL1,zL2,zL3])
   go_loopg [5,6] kj2 (fun kq v5 v6 w'=>∃(x5_2:Int) (x6_2:Int),v5= .int .i64 x5_2∧v6= .int .i64 x6_2∧Aside0 (spec_GfMul.l0 kq a0 a1 x5_2 x6_2=some r)∧Aside0 (kq≤kj2)∧Drawn0 w w')
   case atStart=>exact⟨(0),(7),zs,zs,H',⟨Nat.le_refl _⟩,zd⟩
   case round=>
    clear H'
    obtain⟨x5_2,x6_2,rfl,rfl,HA,HK2,⟨m2,rfl⟩⟩:=hrel
    cases gk with
    |zero=>exact absurd HA.out (by simp[spec_GfMul.l0])
    | succ k2=>
     have H:=HA.out
     clear HA
     simp only[spec_GfMul.l0] at H
     replace H:=zI2 H
     rcases H with⟨c8,H⟩|⟨c8,H⟩
     case inr=>
      have c8b0:decide (0≤x6_2)=false:=decide_eq_false c8
      clear c8
      obtain rfl:=zI H
      go_wp2
      go_ret
      exact⟨zs,zd⟩
     have c8b0:decide (0≤x6_2)=true:=zE c8
     clear c8
     replace H:=zI2 H
     rcases H with⟨c9,H⟩|⟨c9,H⟩
     case inr=>
      have c9b0:decide (256≤(wrap64 (2*x5_2)))=false:=decide_eq_false c9
      clear c9
      obtain⟨ji14,hji14⟩:∃j_:Int,(IntKind.u64.wrap (x6_2))=j_:=⟨_,rfl⟩
      first|rw[hji14] at H|simp only[hji14] at H
      replace H:=zIN H
      obtain⟨c15,H⟩:=H
      have c15b0:=eq_true c15
      have c15b1:decide (0≤(ji14))=true:=zE c15
      clear c15
      obtain⟨ji16,hji16⟩:∃j_:Int,(shr .i64 a1 (ji14))=j_:=⟨_,rfl⟩
      first|rw[hji16] at H|simp only[hji16] at H
      have hji16_:(a1 / 2^min (ji14).toNat 64)=ji16:=hji16
      have hji16z:(ji14)≤64→(a1 / 2^(ji14).toNat)=ji16:=shr_small hji16
      replace H:=zI2 H
      rcases H with⟨c17,H⟩|⟨c17,H⟩
      case inr=>
       have c17b0:((Int.tmod (ji16) 2)==1)=false:=beq_eq_false_iff_ne.mpr c17
       have c17b1:((Int.tmod (ji16) 2) != 1)=true:=bne_iff_ne.mpr c17
       have H':=zM H
       clear H
       go_wp2
       go_roundg k2
       case measure=>have:=HJ2.out;have:=HK2.out;omega
       case rel=>exact⟨(wrap64 (2*x5_2)),(wrap64 (x6_2-1)),zs,zs,H',⟨zl2 HJ2 HK2⟩,zd⟩
      have c17b0:((Int.tmod (ji16) 2)==1)=true:=beq_iff_eq.mpr c17
      have c17b1:((Int.tmod (ji16) 2) != 1)=false:=bne_eq_false_iff_eq.mpr c17
      clear c17
      have H':=zM H
      clear H
      go_wp2
      go_roundg k2
      case measure=>have:=HJ2.out;have:=HK2.out;omega
      case rel=>exact⟨(Go.bits .xor .i64 (wrap64 (2*x5_2)) a0),(wrap64 (x6_2-1)),zs,zs,H',⟨zl2 HJ2 HK2⟩,zd⟩
     have c9b0:decide (256≤(wrap64 (2*x5_2)))=true:=zE c9
     clear c9
     obtain⟨ji10,hji10⟩:∃j_:Int,(IntKind.u64.wrap (x6_2))=j_:=⟨_,rfl⟩
     first|rw[hji10] at H|simp only[hji10] at H
     replace H:=zIN H
     obtain⟨c11,H⟩:=H
     have c11b0:=eq_true c11
     have c11b1:decide (0≤(ji10))=true:=zE c11
     clear c11
     obtain⟨ji12,hji12⟩:∃j_:Int,(shr .i64 a1 (ji10))=j_:=⟨_,rfl⟩
     first|rw[hji12] at H|simp only[hji12] at H
     have hji12_:(a1 / 2^min (ji10).toNat 64)=ji12:=hji12
     have hji12z:(ji10)≤64→(a1 / 2^(ji10).toNat)=ji12:=shr_small hji12
     replace H:=zI2 H
     rcases H with⟨c13,H⟩|⟨c13,H⟩
     case inr=>
      have c13b0:((Int.tmod (ji12) 2)==1)=false:=beq_eq_false_iff_ne.mpr c13
      have c13b1:((Int.tmod (ji12) 2) != 1)=true:=bne_iff_ne.mpr c13
      have H':=zM H
      clear H
      go_wp2
      go_roundg k2
      case measure=>have:=HJ2.out;have:=HK2.out;omega
      case rel=>exact⟨(Go.bits .xor .i64 (wrap64 (2*x5_2)) 285),(wrap64 (x6_2-1)),zs,zs,H',⟨zl2 HJ2 HK2⟩,zd⟩
     have c13b0:((Int.tmod (ji12) 2)==1)=true:=beq_iff_eq.mpr c13
     have c13b1:((Int.tmod (ji12) 2) != 1)=false:=bne_eq_false_iff_eq.mpr c13
     clear c13
     have H':=zM H
     clear H
     go_wp2
     go_roundg k2
     case measure=>have:=HJ2.out;have:=HK2.out;omega
     case rel=>exact⟨(Go.bits .xor .i64 (Go.bits .xor .i64 (wrap64 (2*x5_2)) 285) a0),(wrap64 (x6_2-1)),zs,zs,H',⟨zl2 HJ2 HK2⟩,zd⟩
def spec_l14Pow.l0:Nat→Int→Int→Int→Option (Int)
 |0,_,_,_=>none
 |k+1,x0,x3,x4=>if x4<(Int.tmod x0 255) then((spec_GfMul.f k x3 2).bind fun t271=>(spec_l14Pow.l0 k x0 t271 (wrap64 (x4+1)))) else(some x3)
def spec_l14Pow.f (k:Nat) (a0:Int):Option (Int):=spec_l14Pow.l0 k a0 1 0
theorem spec_l14Pow.calls (k:Nat) (a0:Int) (r:Int) (w:World) (H:spec_l14Pow.f k a0=some r):
 Calls Try.prog 78 #[.int .i64 a0] w fun e w'=>e= .returned (.int .i64 r)∧Drawn0 w w':=by
 unfold spec_l14Pow.f at H
 have H':=zM H
 clear H
 go_enter Try.func78,Try.ntmps78
 go_wp2
 (try simp only[Act.put,zL1,zL2,zL3])
 go_loopg [3,4] k (fun kq v3 v4 w'=>∃(x3_1:Int) (x4_1:Int),v3= .int .i64 x3_1∧v4= .int .i64 x4_1∧Aside0 (spec_l14Pow.l0 kq a0 x3_1 x4_1=some r)∧Aside0 (kq≤k)∧Drawn0 w w')
 case atStart=>exact⟨(1),(0),zs,zs,H',⟨Nat.le_refl _⟩,zd⟩
 case round=>
  clear H'
  obtain⟨x3_1,x4_1,rfl,rfl,HA,HK1,⟨m1,rfl⟩⟩:=hrel
  cases gk with
  |zero=>exact absurd HA.out (by simp[spec_l14Pow.l0])
  | succ k1=>
   have H:=HA.out
   clear HA
   simp only[spec_l14Pow.l0] at H
   replace H:=zI2 H
   rcases H with⟨c2,H⟩|⟨c2,H⟩
   case inr=>
    have c2b0:=decide_eq_false c2
    clear c2
    obtain rfl:=zI H
    go_wp2
    go_ret
    exact⟨zs,zd⟩
   have c2b0:=zE c2
   clear c2
   replace H:=zP H
   obtain⟨t271,A3,H⟩:=H
   have H':=zM H
   clear H
   go_wp2_with (first|((with_reducible refine gate_callee (f:=77) rfl ?_);refine goesL_ (some 12) rfl rfl Try.func77 ze rfl #[.int .i64 x3_1, .int .i64 2] rfl zg ?_;(with_reducible refine(spec_GfMul.calls k1 x3_1 2 t271 _ A3.out).mono ?_);rintro e w' ⟨rfl,⟨nd,rfl⟩⟩;refine⟨_,rfl,?_⟩))
   go_roundg k1
   case measure=>have:=HK1.out;omega
   case rel=>exact⟨(t271),(wrap64 (x4_1+1)),zs,zs,H',⟨zl1 HK1⟩,zd⟩
end Go.Proofs.Ytapobpkeefeajaa.PFnModem
