-- A turned copy of the print's text.
import Derived.Test.YtapobpkeefeajaaPFnModemx0
import Derived.Test.YtapobpkeefeajaaPFnModemx1
import Derived.Test.YtapobpkeefeajaaPFnModemx22
import Derived.Test.YtapobpkeefeajaaPFnModemx23
namespace Go.Proofs.Ytapobpkeefeajaa.PFnModem
open Go.RowKit Go.Proofs.YtapobpkeefeajaaW.PrintWords Go.Proofs.YtapobpkeefeajaaW.PrintLast Go.Proofs.YtapobpkeefeajaaW.PrintMore
attribute [local go_sem] max2_int min2_int max_two min_two max_three min_three max_four min_four
set_option maxHeartbeats 8000000
set_option maxRecDepth 100000
set_option linter.unusedVariables false
set_option linter.unusedSimpArgs false
def spec_DrawWay.l0:Nat→List Int→Int→Int→List (S52)→Int→List Int→Int→Int→List Int→Int→Int→Int→Int→Int→Int→Int→Int→Option (Int×Int×Int×Int×Int×Int×List Int×Int×Int×(List (S52))×List Int)
 |0,_,_,_,_,_,_,_,_,_,_,_,_,_,_,_,_,_=>none
 |k+1,x10,x11,x12,x13,x15,x17,x18,x19,x482000,x482001,x482002,x504000,x504001,x504002,x504003,x504004,x504005=>if x19>0 then(if(wrap64 ((wrap64 (x18+1))*x504004))≤(x13.length:Int) then(if x17.length<17592186044416 then((spec_l1Below.f x482000 x482001 x482002 9).bind fun bt536=>(spec_DrawWay.l0 k x10 x11 x12 x13 x15 (x17++[x18]) (wrap64 ((wrap64 (x18+1))+bt536.1)) (wrap64 (x19-1)) x482000 bt536.2.1 bt536.2.2 x504000 x504001 x504002 x504003 x504004 x504005)) else(none)) else((spec_l18DrawNoise.f k x482000 x482001 x482002 (wrap64 (x11+(x13.length:Int))) x15).bind fun bt539=>(some (x504000,x504001,x504002,x504003,x504004,x504005,x10,x11,x12,bt539.1,x17)))) else((spec_l18DrawNoise.f k x482000 x482001 x482002 (wrap64 (x11+(x13.length:Int))) x15).bind fun bt544=>(some (x504000,x504001,x504002,x504003,x504004,x504005,x10,x11,x12,bt544.1,x17)))
def spec_DrawWay.f (k:Nat) (l0:List Int):Option (Int×Int×Int×Int×Int×Int×List Int×Int×Int×(List (S52))×List Int):=(spec_l1New.f k l0).bind fun bt478=>((spec_l1PickInt.f bt478.1 bt478.2.1 bt478.2.2 (([2,4,6,8]:List Int))).bind fun bt485=>((spec_l1Below.f bt478.1 bt485.2.1 bt485.2.2 8).bind fun bt488=>((spec_l1Below.f bt478.1 bt488.2.1 bt488.2.2 20).bind fun bt491=>((spec_l1Below.f bt478.1 bt491.2.1 bt491.2.2 65535).bind fun bt494=>((spec_l1Below.f bt478.1 bt494.2.1 bt494.2.2 4).bind fun bt497=>((spec_l1Below.f bt478.1 bt497.2.1 bt497.2.2 300).bind fun bt500=>((spec_l1Below.f bt478.1 bt500.2.1 bt500.2.2 12).bind fun bt504=>((spec_l14DrawBytes.f k bt478.1 bt504.2.1 bt504.2.2 (wrap64 (1+bt504.1))).bind fun bt507=>((spec_l1Below.f bt478.1 bt507.2.1 bt507.2.2 20).bind fun bt512=>((spec_l1Below.f bt478.1 bt512.2.1 bt512.2.2 4).bind fun bt515=>((spec_Send.f k bt485.1 (wrap64 (1+bt488.1)) (wrap64 (1+bt491.1)) (wrap64 (1+bt494.1)) (wrap64 (1+bt497.1)) (wrap64 (1+bt500.1)) bt507.1).bind fun bt518=>((spec_Budget.f bt485.1 (wrap64 (1+bt488.1)) (wrap64 (1+bt491.1)) (wrap64 (1+bt494.1)) (wrap64 (1+bt497.1)) (wrap64 (1+bt500.1))).bind fun bt522=>((spec_l1Below.f bt478.1 bt515.2.1 bt515.2.2 5).bind fun bt527=>((spec_l1Below.f bt478.1 bt527.2.1 bt527.2.2 (wrap64 (bt522.2+1))).bind fun bt530=>(spec_DrawWay.l0 k bt507.1 bt512.1 bt515.1 bt518.1 bt522.1 (([]:List Int)) (wrap64 (1+bt527.1)) bt530.1 bt478.1 bt530.2.1 bt530.2.2 bt485.1 (wrap64 (1+bt488.1)) (wrap64 (1+bt491.1)) (wrap64 (1+bt494.1)) (wrap64 (1+bt497.1)) (wrap64 (1+bt500.1)))))))))))))))))
def spec_DrawWay.T14:Bool×List (List Nat×List Nat):=(true,[([],[]),([],[]),([],[]),([],[]),([],[]),([],[]),([],[]),([6],[6]),([5,7],[5,7]),([],[]),([4,8,9],[4,8,9]),([],[]),([0,10,0],[0]),([1,12,0,1,12],[1]),([2,13,0,1,2,12,13],[2]),([3,14,0,1,2,3,12,13,14],[3]),([10,15,0,1,2,3,4,5,6,7,8,9,10,12,13,14,15],[10]),([11,16,0,1,2,3,4,5,6,7,8,9,10,11,12,13,14,15,16],[11])])
def spec_DrawWay.B14:List Nat:=[0,0,0,0,0,0,0,64,224,0,1008,0,2033,6131,14327,30719,63487,131071]
theorem spec_DrawWay.tab14:rtab .any (opsOf Try.f26 14)=spec_DrawWay.T14:=by kernel_rfl
theorem spec_DrawWay.bits14:waitsOk spec_DrawWay.T14.2 spec_DrawWay.B14=true:=by kernel_rfl
theorem spec_DrawWay.calls (k:Nat) (A0:Option Addr) (c0:Nat) (l0:List Int) (r1:Int) (r2:Int) (r3:Int) (r4:Int) (r5:Int) (r6:Int) (r7:List Int) (r8:Int) (r9:Int) (r10:List (S52)) (r11:List Int) (w:World) (hr0:Kd.C (Kd.int .u8) w A0 l0.length l0) (hc0:l0.length≤c0) (H:spec_DrawWay.f k l0=some (r1,r2,r3,r4,r5,r6,r7,r8,r9,r10,r11)):
 Calls Try.prog 26 #[.slice A0 l0.length c0] w fun e w'=>∃v6_ v9_ v10_:Value,e= .returned (.tuple #[.agg #[.int .i64 r1, .int .i64 r2, .int .i64 r3, .int .i64 r4, .int .i64 r5, .int .i64 r6],v6_, .int .i64 r8, .int .i64 r9,v9_,v10_])∧Kd.R (Kd.int .u8) 5 w' w.heap.size (fun _=>True) v6_ r7∧Kd.R k52 52 w' w.heap.size (fun _=>True) v9_ r10∧Kd.R (Kd.int .i64) 3 w' w.heap.size (fun _=>True) v10_ r11∧Below w.heap.size w w':=by
 have hu28:=Try.underlying28
 have HR0:=zM hr0
 have HC0:=zM hc0
 clear hr0 hc0
 have HB:=zM (Below.refl w.heap.size w)
 unfold spec_DrawWay.f at H
 replace H:=zP H
 obtain⟨⟨t478,t479,t480⟩,A2,H⟩:=H
 dsimp only at H
 obtain⟨y482,hy482⟩:∃y_:List Int,y_=(([2,4,6,8]:List Int)):=⟨_,rfl⟩
 rw[←hy482] at H
 have Ny482:=zM hy482
 clear hy482
 replace H:=zP H
 obtain⟨⟨t485,t486,t487⟩,A3,H⟩:=H
 dsimp only at H
 replace H:=zP H
 obtain⟨⟨t488,t489,t490⟩,A4,H⟩:=H
 dsimp only at H
 replace H:=zP H
 obtain⟨⟨t491,t492,t493⟩,A5,H⟩:=H
 dsimp only at H
 replace H:=zP H
 obtain⟨⟨t494,t495,t496⟩,A6,H⟩:=H
 dsimp only at H
 replace H:=zP H
 obtain⟨⟨t497,t498,t499⟩,A7,H⟩:=H
 dsimp only at H
 replace H:=zP H
 obtain⟨⟨t500,t501,t502⟩,A8,H⟩:=H
 dsimp only at H
 replace H:=zP H
 obtain⟨⟨t504,t505,t506⟩,A9,H⟩:=H
 dsimp only at H
 replace H:=zP H
 obtain⟨⟨t507,t510,t511⟩,A10,H⟩:=H
 dsimp only at H
 replace H:=zP H
 obtain⟨⟨t512,t513,t514⟩,A11,H⟩:=H
 dsimp only at H
 replace H:=zP H
 obtain⟨⟨t515,t516,t517⟩,A12,H⟩:=H
 dsimp only at H
 replace H:=zP H
 obtain⟨⟨t518,t521⟩,A13,H⟩:=H
 dsimp only at H
 replace H:=zP H
 obtain⟨⟨t522,t523⟩,A14,H⟩:=H
 dsimp only at H
 obtain⟨y524,hy524⟩:∃y_:List Int,y_=(([]:List Int)):=⟨_,rfl⟩
 replace H:((spec_l1Below.f t478 t516 t517 5).bind fun bt527=>((spec_l1Below.f t478 bt527.2.1 bt527.2.2 (wrap64 (t523+1))).bind fun bt530=>(spec_DrawWay.l0 k t507 t512 t515 t518 t522 y524 (wrap64 (1+bt527.1)) bt530.1 t478 bt530.2.1 bt530.2.2 t485 (wrap64 (1+t488)) (wrap64 (1+t491)) (wrap64 (1+t494)) (wrap64 (1+t497)) (wrap64 (1+t500)))))=some (r1,r2,r3,r4,r5,r6,r7,r8,r9,r10,r11):=zy hy524 H
 have Ny524:=zM hy524
 clear hy524
 replace H:=zP H
 obtain⟨⟨t527,t528,t529⟩,A15,H⟩:=H
 dsimp only at H
 replace H:=zP H
 obtain⟨⟨t530,t531,t532⟩,A16,H⟩:=H
 dsimp only at H
 have H':=zM H
 clear H
 go_enter Try.func26,Try.ntmps26
 go_wp2_with (first|((with_reducible refine gate_dst (N:=2) rfl ?_);(try(refine gate_guard (by rfl) ?_;dsimp only));refine box_event ?hg (N:=2) ?hd (cs:= #[.int .i64 0, .int .i64 0, .int .i64 0, .int .i64 0, .int .i64 0, .int .i64 0]) (t:=28) ?hr ?_;(case hd|hg=>rfl);(case hr=>exact zh);intro gb477 hg w17 hbox hb;have n0_:=zM (below_step zb hb);have n1_:=zM (hbox);have n2_:=zM ((zw hg (below_size zb)));have n3_:=zM n2_.out;clear HB;have HB:=n0_;have BK477:=n1_;have GW477:=n2_;have GE477:=n3_;clear n0_ n1_ n2_ n3_;clear hb hbox hg)|((with_reducible refine gate_callee (f:=45) rfl ?_);refine goesL_ (some 21) rfl rfl Try.func45 ze rfl #[.slice A0 l0.length c0] rfl zg ?_;(with_reducible refine(spec_l1New.calls k _ _ l0 t478 t479 t480 w _ ?side1 ?side2 ?side3 A2.out).mono ?_);(case side1=>exact zb15);(case side2=>exact HR0.out);(case side3=>exact HC0.out);rintro e w18 ⟨g481,rfl,hi,hb,hb2⟩;refine⟨_,rfl,?_⟩;refine zS5 (zNb (g:=gb477) (o:= .cells #[.int .i64 0, .int .i64 0, .int .i64 0, .int .i64 0, .int .i64 0, .int .i64 0] 28 (0,0)) (zn BK477) hb2) (hb) (hi) (IsS99.ne_blk hi (zNb (g:=gb477) (o:= .cells #[.int .i64 0, .int .i64 0, .int .i64 0, .int .i64 0, .int .i64 0, .int .i64 0] 28 (0,0)) (zn BK477) hb2) (by decide)) (Ne.symm (IsS99.ne_blk hi (zNb (g:=gb477) (o:= .cells #[.int .i64 0, .int .i64 0, .int .i64 0, .int .i64 0, .int .i64 0, .int .i64 0] 28 (0,0)) (zn BK477) hb2) (by decide))) ?_;clear BK477 HB;intro BK477 HB HI481 NB481_477 NB477_481;(try clear hb);(try clear hb2);(try clear hk);(try clear hi))|((with_reducible refine gate_dst (N:=23) rfl ?_);(try(refine gate_guard (by rfl) ?_;dsimp only));refine Kd.R_lit (Kd.int .i64) _ 3 ?hg (N:=23) ?hd (xs:=([2,4,6,8]:List Int)) (inner:=[.int .i64 2, .int .i64 4, .int .i64 6, .int .i64 8]) (ok:=fun _=>True) (okp:=fun _=>True) ?hr ?hp (fun _ hk=>hk) trivial (Below.refl _ _) (Nat.le_refl _) (by simp) ?_;(case hd|hg=>rfl);(case hr=>exact zh);(case hp=>exact(Reps.one (show Kd.M (Kd.int .i64) _ _ _ 2 [.int .i64 2] from rfl) (Reps.one (show Kd.M (Kd.int .i64) _ _ _ 4 [.int .i64 4] from rfl) (Reps.one (show Kd.M (Kd.int .i64) _ _ _ 6 [.int .i64 6] from rfl) (Reps.one (show Kd.M (Kd.int .i64) _ _ _ 8 [.int .i64 8] from rfl) (Reps.none _ _))))));intro v483 w19 ho20 hb hg_ hnew_;clear hg_ hnew_;(first|rw[←Ny482.out] at ho20|simp only[Int.reduceToNat,←Ny482.out] at ho20);refine zS4 (Kd.R_lower ho20 (below_size zb12)) (zNb (g:=gb477) (o:= .cells #[.int .i64 0, .int .i64 0, .int .i64 0, .int .i64 0, .int .i64 0, .int .i64 0] 28 (0,0)) (zn BK477) hb) (IsS99.below (zi1 HI481) hb) (below_step zb12 hb) ?_;clear BK477 HI481 HB;intro HO484 BK477 HI481 HB;clear hb ho20;obtain⟨Ao21,co21,eo21⟩:=Kd.R_slice HO484.out;subst eo21)|((with_reducible refine gate_callee (f:=50) rfl ?_);refine goesL_ (some 24) rfl rfl Try.func50 ze rfl #[.pointer (some ⟨g481,0,none⟩), .slice Ao21 y482.length co21] rfl zg ?_;(with_reducible refine(spec_l1PickInt.calls g481 t478 t479 t480 _ _ y482 t485 t486 t487 w _ ?side1 ?side2 ?side3 ?side4 ?side5 A3.out).mono ?_);(case side1=>exact zi1 HI481);(case side2=>exact zb12);(case side3=>exact zc (Kd.R_reads' HO484.out).2.2);(case side4=>exact(Kd.R_reads' HO484.out).2.1);(case side5=>exact far_slice (IsS99.own_ne HI481.out HO484.out (by decide)));rintro e w22 ⟨rfl,hi,hb,hk⟩;refine⟨_,rfl,?_⟩;refine zS4 (KeepBut.blk hk (g':=gb477) (o:= .cells #[.int .i64 0, .int .i64 0, .int .i64 0, .int .i64 0, .int .i64 0, .int .i64 0] 28 (0,0)) (zn BK477) NB477_481.out (by simp)) (Kd.R_mono (Kd.R_keep (IsS99.apart (show IsS99 w _ g481 t478 t479 t480 from zi1 HI481) (zr HO484) (by decide)) hk (fun _ h=>h.2)) (fun _ h=>h.1)) (hb) (hi) ?_;clear BK477 HO484 HB HI481;intro BK477 HO484 HB HI481;(try clear hb);(try clear hb2);(try clear hk);(try clear hi))|((with_reducible refine gate_callee (f:=47) rfl ?_);refine goesL_ (some 26) rfl rfl Try.func47 ze rfl #[.pointer (some ⟨g481,0,none⟩), .int .i64 8] rfl zg ?_;(with_reducible refine(spec_l1Below.calls g481 t478 t486 t487 8 t488 t489 t490 w _ ?side1 ?side2 A4.out).mono ?_);(case side1=>exact zi1 HI481);(case side2=>exact zb12);rintro e w23 ⟨rfl,hi,hb,hk⟩;refine⟨_,rfl,?_⟩;refine zS4 (KeepBut.blk hk (g':=gb477) (o:= .cells #[.int .i64 0, .int .i64 0, .int .i64 0, .int .i64 0, .int .i64 0, .int .i64 0] 28 (0,0)) (zn BK477) NB477_481.out (by simp)) (Kd.R_mono (Kd.R_keep (IsS99.apart (show IsS99 w _ g481 t478 t486 t487 from zi1 HI481) (zr HO484) (by decide)) hk (fun _ h=>h.2)) (fun _ h=>h.1)) (hb) (hi) ?_;clear BK477 HO484 HB HI481;intro BK477 HO484 HB HI481;(try clear hb);(try clear hb2);(try clear hk);(try clear hi))|((with_reducible refine gate_callee (f:=47) rfl ?_);refine goesL_ (some 29) rfl rfl Try.func47 ze rfl #[.pointer (some ⟨g481,0,none⟩), .int .i64 20] rfl zg ?_;(with_reducible refine(spec_l1Below.calls g481 t478 t489 t490 20 t491 t492 t493 w _ ?side1 ?side2 A5.out).mono ?_);(case side1=>exact zi1 HI481);(case side2=>exact zb12);rintro e w24 ⟨rfl,hi,hb,hk⟩;refine⟨_,rfl,?_⟩;refine zS4 (KeepBut.blk hk (g':=gb477) (o:= .cells #[.int .i64 0, .int .i64 0, .int .i64 0, .int .i64 0, .int .i64 0, .int .i64 0] 28 (0,0)) (zn BK477) NB477_481.out (by simp)) (Kd.R_mono (Kd.R_keep (IsS99.apart (show IsS99 w _ g481 t478 t489 t490 from zi1 HI481) (zr HO484) (by decide)) hk (fun _ h=>h.2)) (fun _ h=>h.1)) (hb) (hi) ?_;clear BK477 HO484 HB HI481;intro BK477 HO484 HB HI481;(try clear hb);(try clear hb2);(try clear hk);(try clear hi))|((with_reducible refine gate_callee (f:=47) rfl ?_);refine goesL_ (some 32) rfl rfl Try.func47 ze rfl #[.pointer (some ⟨g481,0,none⟩), .int .i64 65535] rfl zg ?_;(with_reducible refine(spec_l1Below.calls g481 t478 t492 t493 65535 t494 t495 t496 w _ ?side1 ?side2 A6.out).mono ?_);(case side1=>exact zi1 HI481);(case side2=>exact zb12);rintro e w25 ⟨rfl,hi,hb,hk⟩;refine⟨_,rfl,?_⟩;refine zS4 (KeepBut.blk hk (g':=gb477) (o:= .cells #[.int .i64 0, .int .i64 0, .int .i64 0, .int .i64 0, .int .i64 0, .int .i64 0] 28 (0,0)) (zn BK477) NB477_481.out (by simp)) (Kd.R_mono (Kd.R_keep (IsS99.apart (show IsS99 w _ g481 t478 t492 t493 from zi1 HI481) (zr HO484) (by decide)) hk (fun _ h=>h.2)) (fun _ h=>h.1)) (hb) (hi) ?_;clear BK477 HO484 HB HI481;intro BK477 HO484 HB HI481;(try clear hb);(try clear hb2);(try clear hk);(try clear hi))|((with_reducible refine gate_callee (f:=47) rfl ?_);refine goesL_ (some 35) rfl rfl Try.func47 ze rfl #[.pointer (some ⟨g481,0,none⟩), .int .i64 4] rfl zg ?_;(with_reducible refine(spec_l1Below.calls g481 t478 t495 t496 4 t497 t498 t499 w _ ?side1 ?side2 A7.out).mono ?_);(case side1=>exact zi1 HI481);(case side2=>exact zb12);rintro e w26 ⟨rfl,hi,hb,hk⟩;refine⟨_,rfl,?_⟩;refine zS4 (KeepBut.blk hk (g':=gb477) (o:= .cells #[.int .i64 0, .int .i64 0, .int .i64 0, .int .i64 0, .int .i64 0, .int .i64 0] 28 (0,0)) (zn BK477) NB477_481.out (by simp)) (Kd.R_mono (Kd.R_keep (IsS99.apart (show IsS99 w _ g481 t478 t495 t496 from zi1 HI481) (zr HO484) (by decide)) hk (fun _ h=>h.2)) (fun _ h=>h.1)) (hb) (hi) ?_;clear BK477 HO484 HB HI481;intro BK477 HO484 HB HI481;(try clear hb);(try clear hb2);(try clear hk);(try clear hi))|((with_reducible refine gate_callee (f:=47) rfl ?_);refine goesL_ (some 38) rfl rfl Try.func47 ze rfl #[.pointer (some ⟨g481,0,none⟩), .int .i64 300] rfl zg ?_;(with_reducible refine(spec_l1Below.calls g481 t478 t498 t499 300 t500 t501 t502 w _ ?side1 ?side2 A8.out).mono ?_);(case side1=>exact zi1 HI481);(case side2=>exact zb12);rintro e w27 ⟨rfl,hi,hb,hk⟩;refine⟨_,rfl,?_⟩;refine zS4 (KeepBut.blk hk (g':=gb477) (o:= .cells #[.int .i64 0, .int .i64 0, .int .i64 0, .int .i64 0, .int .i64 0, .int .i64 0] 28 (0,0)) (zn BK477) NB477_481.out (by simp)) (Kd.R_mono (Kd.R_keep (IsS99.apart (show IsS99 w _ g481 t478 t498 t499 from zi1 HI481) (zr HO484) (by decide)) hk (fun _ h=>h.2)) (fun _ h=>h.1)) (hb) (hi) ?_;clear BK477 HO484 HB HI481;intro BK477 HO484 HB HI481;(try clear hb);(try clear hb2);(try clear hk);(try clear hi))|((with_reducible refine gate_dst (N:=9) rfl ?_);(try(refine gate_guard (by rfl) ?_;dsimp only));refine box_event ?hg (N:=9) ?hd (cs:= #[.int .i64 0, .int .i64 0, .int .i64 0, .int .i64 0, .int .i64 0, .int .i64 0]) (t:=28) ?hr ?_;(case hd|hg=>rfl);(case hr=>exact zh);intro gb503 hg w28 hbox hb;have n0_:=zM (Kd.R_below (zr HO484) hb);have n1_:=zM (zNb (g:=gb477) (o:= .cells #[.int .i64 0, .int .i64 0, .int .i64 0, .int .i64 0, .int .i64 0, .int .i64 0] 28 (0,0)) (zn BK477) hb);have n2_:=zM (IsS99.below (zi1 HI481) hb);have n3_:=zM (below_step zb12 hb);have n4_:=zM (hbox);have n5_:=zM ((zw hg (below_size zb12)));have n6_:=zM n5_.out;have n7_:=zM ((by rw[hg];exact Nat.ne_of_lt (by simpa using blk_lt BK477.out):gb477≠gb503));have n8_:=zM ((by rw[hg];exact Nat.ne_of_gt (by simpa using blk_lt BK477.out):gb503≠gb477));have n9_:=zM ((by rw[hg];exact Nat.ne_of_lt (IsS99.lt (show IsS99 w _ g481 t478 t501 t502 from zi1 HI481)):g481≠gb503));have n10_:=zM ((by rw[hg];exact Nat.ne_of_gt (IsS99.lt (show IsS99 w _ g481 t478 t501 t502 from zi1 HI481)):gb503≠g481));clear HO484;clear BK477;clear HI481;clear HB;have HO484:=n0_;have BK477:=n1_;have HI481:=n2_;have HB:=n3_;have BK503:=n4_;have GW503:=n5_;have GE503:=n6_;have NB477_503:=n7_;have NB503_477:=n8_;have NB481_503:=n9_;have NB503_481:=n10_;clear n0_ n1_ n2_ n3_ n4_ n5_ n6_ n7_ n8_ n9_ n10_;clear hb hbox hg;have hnb29:=NB503_477.out;have hnc29:=NB477_503.out;have hnb30:=NB503_481.out;have hnc30:=NB481_503.out;obtain⟨hcz31_0,hcz31_1,hcz31_2,hcz31_3,hcz31_4,hcz31_5,hfz31_0,hfz31_1,hfz31_2,hfz31_3,hfz31_4,hfz31_5⟩:=zc6 BK503.out)|((with_reducible refine gate_callee (f:=47) rfl ?_);refine goesL_ (some 43) rfl rfl Try.func47 ze rfl #[.pointer (some ⟨g481,0,none⟩), .int .i64 12] rfl zg ?_;(with_reducible refine(spec_l1Below.calls g481 t478 t501 t502 12 t504 t505 t506 w _ ?side1 ?side2 A9.out).mono ?_);(case side1=>exact zi2 HI481);(case side2=>exact zb13);rintro e w32 ⟨rfl,hi,hb,hk⟩;refine⟨_,rfl,?_⟩;refine zS5 (KeepBut.blk hk (g':=gb477) (o:= .cells #[.int .i64 0, .int .i64 0, .int .i64 0, .int .i64 0, .int .i64 0, .int .i64 0] 28 (0,0)) (zn1 BK477) NB477_481.out (by simp)) (Kd.R_mono (Kd.R_keep (IsS99.apart (show IsS99 w _ g481 t478 t501 t502 from zi2 HI481) (by(with_reducible repeat(first|apply zRa|apply zRn|apply zRd));exact(Kd.R_mono (Kd.R_far (p:=⟨gb503,5,none⟩) (Kd.R_far (p:=⟨gb503,4,none⟩) (Kd.R_far (p:=⟨gb503,3,none⟩) (Kd.R_far (p:=⟨gb503,2,none⟩) (Kd.R_far (p:=⟨gb503,1,none⟩) (Kd.R_far (p:=⟨gb503,0,none⟩) (Kd.R_types HO484.out BK503.out (by decide)) (fun _ hk=>hk.2) (.int .i64 t485)) (fun _ hk=>hk.2) (.int .i64 (wrap64 (1+t488)))) (fun _ hk=>hk.2) (.int .i64 (wrap64 (1+t491)))) (fun _ hk=>hk.2) (.int .i64 (wrap64 (1+t494)))) (fun _ hk=>hk.2) (.int .i64 (wrap64 (1+t497)))) (fun _ hk=>hk.2) (.int .i64 (wrap64 (1+t500)))) (fun _ h_=>h_.1))) (by decide)) hk (fun _ h=>h.2)) (fun _ h=>h.1)) (KeepBut.blk hk (g':=gb503) (o:= .cells #[.int .i64 t485, .int .i64 (wrap64 (1+t488)), .int .i64 (wrap64 (1+t491)), .int .i64 (wrap64 (1+t494)), .int .i64 (wrap64 (1+t497)), .int .i64 (wrap64 (1+t500))] 28 (0,0)) (by(with_reducible repeat(first|apply zNn|apply zNd|apply zNa));exact blk_put (blk_put (blk_put (blk_put (blk_put (blk_put (BK503.out) 0 _ rfl) 1 _ rfl) 2 _ rfl) 3 _ rfl) 4 _ rfl) 5 _ rfl) NB503_481.out (by simp)) (hb) (hi) ?_;clear BK477 HO484 BK503 HB HI481;intro BK477 HO484 BK503 HB HI481;(try clear hb);(try clear hb2);(try clear hk);(try clear hi))|((with_reducible refine gate_callee (f:=51) rfl ?_);refine goesL_ (some 45) rfl rfl Try.func51 ze rfl #[.pointer (some ⟨g481,0,none⟩), .int .i64 (wrap64 (1+t504))] rfl zg ?_;(with_reducible refine(spec_l14DrawBytes.calls k g481 t478 t505 t506 (wrap64 (1+t504)) t507 t510 t511 w _ ?side1 ?side2 A10.out).mono ?_);(case side1=>exact zi2 HI481);(case side2=>exact zb13);rintro e w33 ⟨v508,rfl,ho0,hi,hb,hk⟩;refine⟨_,rfl,?_⟩;refine zS6 (KeepBut.blk hk (g':=gb477) (o:= .cells #[.int .i64 0, .int .i64 0, .int .i64 0, .int .i64 0, .int .i64 0, .int .i64 0] 28 (0,0)) (zn BK477) NB477_481.out (by simp)) (Kd.R_mono (Kd.R_keep (IsS99.apart (show IsS99 w _ g481 t478 t505 t506 from zi2 HI481) (zr HO484) (by decide)) hk (fun _ h=>h.2)) (fun _ h=>h.1)) (KeepBut.blk hk (g':=gb503) (o:= .cells #[.int .i64 t485, .int .i64 (wrap64 (1+t488)), .int .i64 (wrap64 (1+t491)), .int .i64 (wrap64 (1+t494)), .int .i64 (wrap64 (1+t497)), .int .i64 (wrap64 (1+t500))] 28 (0,0)) (zn BK503) NB503_481.out (by simp)) (Kd.R_lower ho0 (below_size zb13)) (hb) (hi) ?_;clear BK477 HO484 BK503 HB HI481;intro BK477 HO484 BK503 HO509 HB HI481;(try clear hb);(try clear hb2);(try clear hk);(try clear hi);(try clear ho0))|((with_reducible refine gate_callee (f:=47) rfl ?_);refine goesL_ (some 47) rfl rfl Try.func47 ze rfl #[.pointer (some ⟨g481,0,none⟩), .int .i64 20] rfl zg ?_;(with_reducible refine(spec_l1Below.calls g481 t478 t510 t511 20 t512 t513 t514 w _ ?side1 ?side2 A11.out).mono ?_);(case side1=>exact zi2 HI481);(case side2=>exact zb13);rintro e w34 ⟨rfl,hi,hb,hk⟩;refine⟨_,rfl,?_⟩;refine zS6 (KeepBut.blk hk (g':=gb477) (o:= .cells #[.int .i64 0, .int .i64 0, .int .i64 0, .int .i64 0, .int .i64 0, .int .i64 0] 28 (0,0)) (zn BK477) NB477_481.out (by simp)) (Kd.R_mono (Kd.R_keep (IsS99.apart (show IsS99 w _ g481 t478 t510 t511 from zi2 HI481) (zr HO484) (by decide)) hk (fun _ h=>h.2)) (fun _ h=>h.1)) (KeepBut.blk hk (g':=gb503) (o:= .cells #[.int .i64 t485, .int .i64 (wrap64 (1+t488)), .int .i64 (wrap64 (1+t491)), .int .i64 (wrap64 (1+t494)), .int .i64 (wrap64 (1+t497)), .int .i64 (wrap64 (1+t500))] 28 (0,0)) (zn BK503) NB503_481.out (by simp)) (Kd.R_mono (Kd.R_keep (IsS99.apart (show IsS99 w _ g481 t478 t510 t511 from zi2 HI481) (zr HO509) (by decide)) hk (fun _ h=>h.2)) (fun _ h=>h.1)) (hb) (hi) ?_;clear BK477 HO484 BK503 HO509 HB HI481;intro BK477 HO484 BK503 HO509 HB HI481;(try clear hb);(try clear hb2);(try clear hk);(try clear hi))|((with_reducible refine gate_callee (f:=47) rfl ?_);refine goesL_ (some 49) rfl rfl Try.func47 ze rfl #[.pointer (some ⟨g481,0,none⟩), .int .i64 4] rfl zg ?_;(with_reducible refine(spec_l1Below.calls g481 t478 t513 t514 4 t515 t516 t517 w _ ?side1 ?side2 A12.out).mono ?_);(case side1=>exact zi2 HI481);(case side2=>exact zb13);rintro e w35 ⟨rfl,hi,hb,hk⟩;refine⟨_,rfl,?_⟩;refine zS6 (KeepBut.blk hk (g':=gb477) (o:= .cells #[.int .i64 0, .int .i64 0, .int .i64 0, .int .i64 0, .int .i64 0, .int .i64 0] 28 (0,0)) (zn BK477) NB477_481.out (by simp)) (Kd.R_mono (Kd.R_keep (IsS99.apart (show IsS99 w _ g481 t478 t513 t514 from zi2 HI481) (zr HO484) (by decide)) hk (fun _ h=>h.2)) (fun _ h=>h.1)) (KeepBut.blk hk (g':=gb503) (o:= .cells #[.int .i64 t485, .int .i64 (wrap64 (1+t488)), .int .i64 (wrap64 (1+t491)), .int .i64 (wrap64 (1+t494)), .int .i64 (wrap64 (1+t497)), .int .i64 (wrap64 (1+t500))] 28 (0,0)) (zn BK503) NB503_481.out (by simp)) (Kd.R_mono (Kd.R_keep (IsS99.apart (show IsS99 w _ g481 t478 t513 t514 from zi2 HI481) (zr HO509) (by decide)) hk (fun _ h=>h.2)) (fun _ h=>h.1)) (hb) (hi) ?_;clear BK477 HO484 BK503 HO509 HB HI481;intro BK477 HO484 BK503 HO509 HB HI481;(try clear hb);(try clear hb2);(try clear hk);(try clear hi);obtain⟨hcz36_0,hcz36_1,hcz36_2,hcz36_3,hcz36_4,hcz36_5,hfz36_0,hfz36_1,hfz36_2,hfz36_3,hfz36_4,hfz36_5⟩:=zc6 BK503.out;obtain⟨Ao37,co37,eo37⟩:=Kd.R_slice HO509.out;subst eo37)|((with_reducible refine gate_callee (f:=7) rfl ?_);refine goesL_ (some 53) rfl rfl Try.func7 ze rfl #[.agg #[.int .i64 t485, .int .i64 (wrap64 (1+t488)), .int .i64 (wrap64 (1+t491)), .int .i64 (wrap64 (1+t494)), .int .i64 (wrap64 (1+t497)), .int .i64 (wrap64 (1+t500))], .slice Ao37 t507.length co37] rfl zg ?_;(with_reducible refine(spec_Send.calls k t485 (wrap64 (1+t488)) (wrap64 (1+t491)) (wrap64 (1+t494)) (wrap64 (1+t497)) (wrap64 (1+t500)) _ _ t507 t518 t521 _ ?side1 ?side2 A13.out).mono ?_);(case side1=>exact zc (Kd.R_reads' HO509.out).2.2);(case side2=>exact(Kd.R_reads' HO509.out).2.1);rintro e w38 ⟨v519,rfl,ho0,hb⟩;refine⟨_,rfl,?_⟩;refine zS7 (Kd.R_below (zr HO484) hb) (Kd.R_below (zr HO509) hb) (Kd.R_lower ho0 (below_size zb13)) (zNb (g:=gb477) (o:= .cells #[.int .i64 0, .int .i64 0, .int .i64 0, .int .i64 0, .int .i64 0, .int .i64 0] 28 (0,0)) (zn BK477) hb) (IsS99.below (zi2 HI481) hb) (zNb (g:=gb503) (o:= .cells #[.int .i64 t485, .int .i64 (wrap64 (1+t488)), .int .i64 (wrap64 (1+t491)), .int .i64 (wrap64 (1+t494)), .int .i64 (wrap64 (1+t497)), .int .i64 (wrap64 (1+t500))] 28 (0,0)) (zn BK503) hb) (below_step zb13 hb) ?_;clear HO484 HO509 BK477 HI481 BK503 HB;intro HO484 HO509 HO520 BK477 HI481 BK503 HB;(try clear hb);(try clear hb2);(try clear hk);(try clear hi);(try clear ho0);obtain⟨hcz39_0,hcz39_1,hcz39_2,hcz39_3,hcz39_4,hcz39_5,hfz39_0,hfz39_1,hfz39_2,hfz39_3,hfz39_4,hfz39_5⟩:=zc6 BK503.out)|((with_reducible refine gate_callee (f:=28) rfl ?_);refine goesL_ (some 58) rfl rfl Try.func28 ze rfl #[.agg #[.int .i64 t485, .int .i64 (wrap64 (1+t488)), .int .i64 (wrap64 (1+t491)), .int .i64 (wrap64 (1+t494)), .int .i64 (wrap64 (1+t497)), .int .i64 (wrap64 (1+t500))]] rfl zg ?_;(with_reducible refine(spec_Budget.calls t485 (wrap64 (1+t488)) (wrap64 (1+t491)) (wrap64 (1+t494)) (wrap64 (1+t497)) (wrap64 (1+t500)) t522 t523 _ A14.out).mono ?_);rintro e w40 ⟨rfl,hb⟩;refine⟨_,rfl,?_⟩;refine zS7 (Kd.R_below (zr HO484) hb) (Kd.R_below (zr HO509) hb) (Kd.R_below (zr HO520) hb) (zNb (g:=gb477) (o:= .cells #[.int .i64 0, .int .i64 0, .int .i64 0, .int .i64 0, .int .i64 0, .int .i64 0] 28 (0,0)) (zn BK477) hb) (IsS99.below (zi2 HI481) hb) (zNb (g:=gb503) (o:= .cells #[.int .i64 t485, .int .i64 (wrap64 (1+t488)), .int .i64 (wrap64 (1+t491)), .int .i64 (wrap64 (1+t494)), .int .i64 (wrap64 (1+t497)), .int .i64 (wrap64 (1+t500))] 28 (0,0)) (zn BK503) hb) (below_step zb13 hb) ?_;clear HO484 HO509 HO520 BK477 HI481 BK503 HB;intro HO484 HO509 HO520 BK477 HI481 BK503 HB;(try clear hb);(try clear hb2);(try clear hk);(try clear hi))|((with_reducible refine gate_dst (N:=61) rfl ?_);(try(refine gate_guard (by rfl) ?_;dsimp only));refine Kd.R_lit (Kd.int .i64) _ 3 ?hg (N:=61) ?hd (xs:=([]:List Int)) (inner:=[]) (ok:=fun _=>True) (okp:=fun _=>True) ?hr ?hp (fun _ hk=>hk) trivial (Below.refl _ _) (Nat.le_refl _) (by simp) ?_;(case hd|hg=>rfl);(case hr=>exact zh);(case hp=>exact(Reps.none _ _));intro v525 w41 ho42 hb hg_ hnew_;clear hg_ hnew_;(first|rw[←Ny524.out] at ho42|simp only[Int.reduceToNat,←Ny524.out] at ho42);refine zS8 (Kd.R_elder' (zr HO484) (Kd.R_base ho42) hb) (Kd.R_below (zr HO509) hb) (Kd.R_below (zr HO520) hb) (Kd.R_lower (Kd.R_new' ho42 (Kd.R_lt (zr HO484))) (below_size zb13)) (zNb (g:=gb477) (o:= .cells #[.int .i64 0, .int .i64 0, .int .i64 0, .int .i64 0, .int .i64 0, .int .i64 0] 28 (0,0)) (zn BK477) hb) (IsS99.below (zi2 HI481) hb) (zNb (g:=gb503) (o:= .cells #[.int .i64 t485, .int .i64 (wrap64 (1+t488)), .int .i64 (wrap64 (1+t491)), .int .i64 (wrap64 (1+t494)), .int .i64 (wrap64 (1+t497)), .int .i64 (wrap64 (1+t500))] 28 (0,0)) (zn BK503) hb) (below_step zb13 hb) ?_;clear HO484 HO509 HO520 BK477 HI481 BK503 HB;intro HO484 HO509 HO520 HO526 BK477 HI481 BK503 HB;clear hb ho42)|((with_reducible refine gate_callee (f:=47) rfl ?_);refine goesL_ (some 63) rfl rfl Try.func47 ze rfl #[.pointer (some ⟨g481,0,none⟩), .int .i64 5] rfl zg ?_;(with_reducible refine(spec_l1Below.calls g481 t478 t516 t517 5 t527 t528 t529 w _ ?side1 ?side2 A15.out).mono ?_);(case side1=>exact zi2 HI481);(case side2=>exact zb13);rintro e w43 ⟨rfl,hi,hb,hk⟩;refine⟨_,rfl,?_⟩;refine zS8 (KeepBut.blk hk (g':=gb477) (o:= .cells #[.int .i64 0, .int .i64 0, .int .i64 0, .int .i64 0, .int .i64 0, .int .i64 0] 28 (0,0)) (zn BK477) NB477_481.out (by simp)) (Kd.R_mono (Kd.R_keep (IsS99.apart (show IsS99 w _ g481 t478 t516 t517 from zi2 HI481) (zr HO484) (by decide)) hk (fun _ h=>h.2)) (fun _ h=>h.1)) (KeepBut.blk hk (g':=gb503) (o:= .cells #[.int .i64 t485, .int .i64 (wrap64 (1+t488)), .int .i64 (wrap64 (1+t491)), .int .i64 (wrap64 (1+t494)), .int .i64 (wrap64 (1+t497)), .int .i64 (wrap64 (1+t500))] 28 (0,0)) (zn BK503) NB503_481.out (by simp)) (Kd.R_mono (Kd.R_keep (IsS99.apart (show IsS99 w _ g481 t478 t516 t517 from zi2 HI481) (zr HO509) (by decide)) hk (fun _ h=>h.2)) (fun _ h=>h.1)) (Kd.R_mono (Kd.R_keep (IsS99.apart (show IsS99 w _ g481 t478 t516 t517 from zi2 HI481) (zr HO520) (by decide)) hk (fun _ h=>h.2)) (fun _ h=>h.1)) (Kd.R_mono (Kd.R_keep (IsS99.apart (show IsS99 w _ g481 t478 t516 t517 from zi2 HI481) (zr HO526) (by decide)) hk (fun _ h=>h.2)) (fun _ h=>h.1)) (hb) (hi) ?_;clear BK477 HO484 BK503 HO509 HO520 HO526 HB HI481;intro BK477 HO484 BK503 HO509 HO520 HO526 HB HI481;(try clear hb);(try clear hb2);(try clear hk);(try clear hi))|((with_reducible refine gate_callee (f:=47) rfl ?_);refine goesL_ (some 68) rfl rfl Try.func47 ze rfl #[.pointer (some ⟨g481,0,none⟩), .int .i64 (wrap64 (t523+1))] rfl zg ?_;(with_reducible refine(spec_l1Below.calls g481 t478 t528 t529 (wrap64 (t523+1)) t530 t531 t532 w _ ?side1 ?side2 A16.out).mono ?_);(case side1=>exact zi2 HI481);(case side2=>exact zb13);rintro e w44 ⟨rfl,hi,hb,hk⟩;refine⟨_,rfl,?_⟩;refine zS8 (KeepBut.blk hk (g':=gb477) (o:= .cells #[.int .i64 0, .int .i64 0, .int .i64 0, .int .i64 0, .int .i64 0, .int .i64 0] 28 (0,0)) (zn BK477) NB477_481.out (by simp)) (Kd.R_mono (Kd.R_keep (IsS99.apart (show IsS99 w _ g481 t478 t528 t529 from zi2 HI481) (zr HO484) (by decide)) hk (fun _ h=>h.2)) (fun _ h=>h.1)) (KeepBut.blk hk (g':=gb503) (o:= .cells #[.int .i64 t485, .int .i64 (wrap64 (1+t488)), .int .i64 (wrap64 (1+t491)), .int .i64 (wrap64 (1+t494)), .int .i64 (wrap64 (1+t497)), .int .i64 (wrap64 (1+t500))] 28 (0,0)) (zn BK503) NB503_481.out (by simp)) (Kd.R_mono (Kd.R_keep (IsS99.apart (show IsS99 w _ g481 t478 t528 t529 from zi2 HI481) (zr HO509) (by decide)) hk (fun _ h=>h.2)) (fun _ h=>h.1)) (Kd.R_mono (Kd.R_keep (IsS99.apart (show IsS99 w _ g481 t478 t528 t529 from zi2 HI481) (zr HO520) (by decide)) hk (fun _ h=>h.2)) (fun _ h=>h.1)) (Kd.R_mono (Kd.R_keep (IsS99.apart (show IsS99 w _ g481 t478 t528 t529 from zi2 HI481) (zr HO526) (by decide)) hk (fun _ h=>h.2)) (fun _ h=>h.1)) (hb) (hi) ?_;clear BK477 HO484 BK503 HO509 HO520 HO526 HB HI481;intro BK477 HO484 BK503 HO509 HO520 HO526 HB HI481;(try clear hb);(try clear hb2);(try clear hk);(try clear hi)))
 (try simp only[Act.put,zL1,zL2,zL3])
 go_loopg [17,18,19] k (fun kq v17 v18 v19 w'=>∃(x17_1:List Int) (x18_1:Int) (x19_1:Int) (x482001_1:Int) (x482002_1:Int),v18= .int .i64 x18_1∧v19= .int .i64 x19_1∧Aside0 (spec_DrawWay.l0 kq t507 t512 t515 t518 t522 x17_1 x18_1 x19_1 t478 x482001_1 x482002_1 t485 (wrap64 (1+t488)) (wrap64 (1+t491)) (wrap64 (1+t494)) (wrap64 (1+t497)) (wrap64 (1+t500))=some (r1,r2,r3,r4,r5,r6,r7,r8,r9,r10,r11))∧Aside0 (kq≤k)∧Aside0 (Kd.R (Kd.int .u8) 5 w' w.heap.size (fun _=>True) (.slice Ao37 t507.length co37) t507)∧Aside0 (Kd.R k52 52 w' w.heap.size (fun _=>True) v519 t518)∧Aside0 (Kd.R (Kd.int .i64) 3 w' w.heap.size (fun _=>True) v17 x17_1)∧Aside0 (w'.heap[gb477]? =some (.cells #[.int .i64 0, .int .i64 0, .int .i64 0, .int .i64 0, .int .i64 0, .int .i64 0] 28 (0,0)))∧Aside0 (w'.heap[gb503]? =some (.cells #[.int .i64 t485, .int .i64 (wrap64 (1+t488)), .int .i64 (wrap64 (1+t491)), .int .i64 (wrap64 (1+t494)), .int .i64 (wrap64 (1+t497)), .int .i64 (wrap64 (1+t500))] 28 (0,0)))∧Aside0 (IsS99 w w' g481 t478 x482001_1 x482002_1)∧Aside0 (Below w.heap.size w w'))
 case atStart=>exact⟨(y524),(wrap64 (1+t527)),(t530),(t531),(t532),zs,zs,H',⟨Nat.le_refl _⟩,⟨zr HO509⟩,⟨zr HO520⟩,⟨by(with_reducible repeat(first|apply zRa|apply zRn|apply zRd));first|exact Kd.R_mono HO526.out (fun _ hk=>trivial)|(subst_vars;exact Kd.R_mono HO526.out (fun _ hk=>trivial))⟩,⟨zn BK477⟩,⟨zn BK503⟩,⟨zi2 HI481⟩,⟨zb13⟩⟩
 case round=>
  clear H'
  clear hcz31_0 hcz31_1 hcz31_2 hcz31_3 hcz31_4 hcz31_5 hcz36_0 hcz36_1 hcz36_2 hcz36_3 hcz36_4 hcz36_5 hcz39_0 hcz39_1 hcz39_2 hcz39_3 hcz39_4 hcz39_5 hfz31_0 hfz31_1 hfz31_2 hfz31_3 hfz31_4 hfz31_5 hfz36_0 hfz36_1 hfz36_2 hfz36_3 hfz36_4 hfz36_5 hfz39_0 hfz39_1 hfz39_2 hfz39_3 hfz39_4 hfz39_5
  obtain⟨x17_1,x18_1,x19_1,x482001_1,x482002_1,rfl,rfl,HA,HK1,HO_10,HO_13,HO_17,BK477,BK503,HI481,HB⟩:=hrel
  cases gk with
  |zero=>exact absurd HA.out (by simp[spec_DrawWay.l0])
  | succ k1=>
   have H:=HA.out
   clear HA
   simp only[spec_DrawWay.l0] at H
   replace H:=zI2 H
   rcases H with⟨c45,H⟩|⟨c45,H⟩
   case inr=>
    have c45b0:decide (0<x19_1)=false:=decide_eq_false c45
    clear c45
    replace H:=zP H
    obtain⟨⟨t544,t547,t548⟩,A68,H⟩:=H
    dsimp only at H
    simp only[Option.some.injEq,Prod.mk.injEq] at H
    obtain⟨rfl,rfl,rfl,rfl,rfl,rfl,rfl,rfl,rfl,rfl,rfl⟩:=H
    try go_wp2
    refine zS7 (zRd HO_10.out) (zRd HO_13.out) (zRd HO_17.out) (zNd BK477.out) (zNd BK503.out) (IsS99.drew HI481.out) (zBd HB.out) ?_
    clear HO_10 HO_13 HO_17 BK477 BK503 HI481 HB
    intro HO_10 HO_13 HO_17 BK477 BK503 HI481 HB
    obtain⟨Ao70,co70,eo70⟩:=Kd.R_slice HO_13.out
    (first|subst eo70|(injection eo70 with f1_ f2_ f3_;have f4_:=f1_.symm;have f5_:=f3_.symm;clear f1_ f2_ f3_;subst f4_;subst f5_))
    refine start_ (n:=18) (S:=fun w'=>w'.cell? ⟨gb503,0,none⟩=some (.int .i64 t485)∧w'.cell? ⟨gb503,1,none⟩=some (.int .i64 (wrap64 (1+t488)))∧w'.cell? ⟨gb503,2,none⟩=some (.int .i64 (wrap64 (1+t491)))∧w'.cell? ⟨gb503,3,none⟩=some (.int .i64 (wrap64 (1+t494)))∧w'.cell? ⟨gb503,4,none⟩=some (.int .i64 (wrap64 (1+t497)))∧w'.cell? ⟨gb503,5,none⟩=some (.int .i64 (wrap64 (1+t500)))) (ds:=[]) #[zf,zf,zf,zf,zf,zf,zf,zf,zf,zf,zf,zf,zf,zf,zf,zf,zf,zf] ze rfl rfl ⟨(blk_cell BK503.out 0).trans rfl,(blk_cell BK503.out 1).trans rfl,(blk_cell BK503.out 2).trans rfl,(blk_cell BK503.out 3).trans rfl,(blk_cell BK503.out 4).trans rfl,(blk_cell BK503.out 5).trans rfl⟩ (fun hHeld=> ?_);refine with_tabW spec_DrawWay.tab14 spec_DrawWay.bits14 (fun HT_ HW_=> ?_)
    generalize wr.drew=w69 at HO_10 HO_13 HO_17 BK477 BK503 HI481 HB hHeld ⊢
    refine zu 1 93 ?_
    refine zu 2 94 ?_
    refine zu 3 95 ?_
    refine zu 4 96 ?_
    refine zu 5 97 ?_
    refine zu 6 98 ?_
    refine zu 7 99 ?_
    refine zu 8 100 ?_
    refine zu 9 101 ?_
    refine zu 11 103 ?_
    refine zt6 0 92 ?_
    refine one_ (i:=10) (N:=some 102) #[zt,zt,zt,zt,zt,zt,zt,zt,zt,zt,zt,zt,zf,zf,zf,zf,zf,zf] rfl rfl (one_of HT_.out ze) (by decide) (fun K hK=> ?_)
    refine goes_ Try.func74 ze rfl #[.pointer (some ⟨g481,0,none⟩), .int .i64 (wrap64 (t512+(t518.length:Int))), .int .i64 t522] (by rfl) rfl rfl zg ?_
    with_reducible refine(spec_l18DrawNoise.calls k1 g481 t478 x482001_1 x482002_1 (wrap64 (t512+(t518.length:Int))) t522 t544 t547 t548 w _ ?side1 ?side2 A68.out).mono ?_
    (case side1=>exact zi2 HI481)
    (case side2=>exact zb13)
    rintro e w71 ⟨v545,rfl,ho0,hi,hb,hk⟩
    refine⟨_,rfl,?_⟩
    refine zS8 (Kd.R_mono (Kd.R_keep (IsS99.apart (show IsS99 w _ g481 t478 x482001_1 x482002_1 from zi2 HI481) (zr HO_10) (by decide)) hk (fun _ h=>h.2)) (fun _ h=>h.1)) (Kd.R_mono (Kd.R_told (Kd.R_oldK (IsS99.apart (show IsS99 w _ g481 t478 x482001_1 x482002_1 from zi2 HI481) (zr HO_13) (by decide)) hk) (Kd.R_base ho0)) (fun _ h_=>h_.1)) (Kd.R_mono (Kd.R_keep (IsS99.apart (show IsS99 w _ g481 t478 x482001_1 x482002_1 from zi2 HI481) (zr HO_17) (by decide)) hk (fun _ h=>h.2)) (fun _ h=>h.1)) (KeepBut.blk hk (g':=gb477) (o:= .cells #[.int .i64 0, .int .i64 0, .int .i64 0, .int .i64 0, .int .i64 0, .int .i64 0] 28 (0,0)) (zn BK477) NB477_481.out (by simp)) (KeepBut.blk hk (g':=gb503) (o:= .cells #[.int .i64 t485, .int .i64 (wrap64 (1+t488)), .int .i64 (wrap64 (1+t491)), .int .i64 (wrap64 (1+t494)), .int .i64 (wrap64 (1+t497)), .int .i64 (wrap64 (1+t500))] 28 (0,0)) (zn BK503) NB503_481.out (by simp)) (Kd.R_lower (Kd.R_new' ho0 (Kd.R_lt (zr HO_13))) (below_size zb13)) (hb) (hi) ?_
    clear HO_10 HO_13 HO_17 BK477 BK503 HB HI481
    intro HO_10 HO_13 HO_17 BK477 BK503 HO546 HB HI481
    clear hb hk hi ho0
    refine hK.out _ _ ⟨(blk_cell BK503.out 0).trans rfl,(blk_cell BK503.out 1).trans rfl,(blk_cell BK503.out 2).trans rfl,(blk_cell BK503.out 3).trans rfl,(blk_cell BK503.out 4).trans rfl,(blk_cell BK503.out 5).trans rfl⟩ (fun hHeld=> ?_)
    clear hK K
    refine norm_ (a':= ?_) ?_ ?_
    rotate_left
    ·show Act.put _ (some 102) _=_
     simp only[Act.put,zL1,zL2,zL3,i64_w,i32_w]
     rfl
    refine one_ (i:=12) (N:=none) #[zt,zt,zt,zt,zt,zt,zt,zt,zt,zt,zt,zt,zt,zf,zf,zf,zf,zf] rfl rfl (one_of HT_.out ze) (by decide) (fun K hK=> ?_)
    have hs72:w71.cell? ⟨gb477,0,none⟩=some (.int .i64 0):=(blk_cell BK477.out 0).trans rfl
    have hfs72:=blk_frozen BK477.out 0
    have hns72_1:=NB503_477.out
    have hms72_1:=NB477_503.out
    have hs73:w71.cell? ⟨gb477,1,none⟩=some (.int .i64 0):=(blk_cell BK477.out 1).trans rfl
    have hfs73:=blk_frozen BK477.out 1
    have hns73_1:=NB503_477.out
    have hms73_1:=NB477_503.out
    have hs74:w71.cell? ⟨gb477,2,none⟩=some (.int .i64 0):=(blk_cell BK477.out 2).trans rfl
    have hfs74:=blk_frozen BK477.out 2
    have hns74_1:=NB503_477.out
    have hms74_1:=NB477_503.out
    have hs75:w71.cell? ⟨gb477,3,none⟩=some (.int .i64 0):=(blk_cell BK477.out 3).trans rfl
    have hfs75:=blk_frozen BK477.out 3
    have hns75_1:=NB503_477.out
    have hms75_1:=NB477_503.out
    have hs76:w71.cell? ⟨gb477,4,none⟩=some (.int .i64 0):=(blk_cell BK477.out 4).trans rfl
    have hfs76:=blk_frozen BK477.out 4
    have hns76_1:=NB503_477.out
    have hms76_1:=NB477_503.out
    have hs77:w71.cell? ⟨gb477,5,none⟩=some (.int .i64 0):=(blk_cell BK477.out 5).trans rfl
    have hfs77:=blk_frozen BK477.out 5
    have hns77_1:=NB503_477.out
    have hms77_1:=NB477_503.out
    refine skip_ (w1:= ?_) (by rfl) rfl ?_ ?_
    rotate_left
    ·go_simp
     rfl
    refine hK.out _ _ ⟨((cell_far (p:=⟨gb477,_,none⟩) NB503_477.out _).trans (((cell_far (p:=⟨gb477,_,none⟩) NB503_477.out _).trans (((cell_far (p:=⟨gb477,_,none⟩) NB503_477.out _).trans (((cell_far (p:=⟨gb477,_,none⟩) NB503_477.out _).trans (((cell_far (p:=⟨gb477,_,none⟩) NB503_477.out _).trans (((cell_far (p:=⟨gb477,_,none⟩) NB503_477.out _).trans (hHeld.1)))))))))))),((cell_far (p:=⟨gb477,_,none⟩) NB503_477.out _).trans (((cell_far (p:=⟨gb477,_,none⟩) NB503_477.out _).trans (((cell_far (p:=⟨gb477,_,none⟩) NB503_477.out _).trans (((cell_far (p:=⟨gb477,_,none⟩) NB503_477.out _).trans (((cell_far (p:=⟨gb477,_,none⟩) NB503_477.out _).trans (((cell_far (p:=⟨gb477,_,none⟩) NB503_477.out _).trans (hHeld.2.1)))))))))))),((cell_far (p:=⟨gb477,_,none⟩) NB503_477.out _).trans (((cell_far (p:=⟨gb477,_,none⟩) NB503_477.out _).trans (((cell_far (p:=⟨gb477,_,none⟩) NB503_477.out _).trans (((cell_far (p:=⟨gb477,_,none⟩) NB503_477.out _).trans (((cell_far (p:=⟨gb477,_,none⟩) NB503_477.out _).trans (((cell_far (p:=⟨gb477,_,none⟩) NB503_477.out _).trans (hHeld.2.2.1)))))))))))),((cell_far (p:=⟨gb477,_,none⟩) NB503_477.out _).trans (((cell_far (p:=⟨gb477,_,none⟩) NB503_477.out _).trans (((cell_far (p:=⟨gb477,_,none⟩) NB503_477.out _).trans (((cell_far (p:=⟨gb477,_,none⟩) NB503_477.out _).trans (((cell_far (p:=⟨gb477,_,none⟩) NB503_477.out _).trans (((cell_far (p:=⟨gb477,_,none⟩) NB503_477.out _).trans (hHeld.2.2.2.1)))))))))))),((cell_far (p:=⟨gb477,_,none⟩) NB503_477.out _).trans (((cell_far (p:=⟨gb477,_,none⟩) NB503_477.out _).trans (((cell_far (p:=⟨gb477,_,none⟩) NB503_477.out _).trans (((cell_far (p:=⟨gb477,_,none⟩) NB503_477.out _).trans (((cell_far (p:=⟨gb477,_,none⟩) NB503_477.out _).trans (((cell_far (p:=⟨gb477,_,none⟩) NB503_477.out _).trans (hHeld.2.2.2.2.1)))))))))))),((cell_far (p:=⟨gb477,_,none⟩) NB503_477.out _).trans (((cell_far (p:=⟨gb477,_,none⟩) NB503_477.out _).trans (((cell_far (p:=⟨gb477,_,none⟩) NB503_477.out _).trans (((cell_far (p:=⟨gb477,_,none⟩) NB503_477.out _).trans (((cell_far (p:=⟨gb477,_,none⟩) NB503_477.out _).trans (((cell_far (p:=⟨gb477,_,none⟩) NB503_477.out _).trans (hHeld.2.2.2.2.2))))))))))))⟩ (fun hHeld=> ?_)
    clear hK K
    refine zu 13 3 ?_
    refine zu 14 4 ?_
    refine zu 15 5 ?_
    refine zu 16 6 ?_
    refine zu 17 7 ?_
    refine done_ (done_of HT_.out ze) ?_
    try go_wp2
    refine bodyPost_ret (results_list (rs:=[.cell 2 28, .tmp 3, .tmp 4, .tmp 5, .tmp 6, .tmp 7]) rfl (by simp) (.cell gb477 28 #[.int .i64 t485, .int .i64 (wrap64 (1+t488)), .int .i64 (wrap64 (1+t491)), .int .i64 (wrap64 (1+t494)), .int .i64 (wrap64 (1+t497)), .int .i64 (wrap64 (1+t500))] (0,0) _ rfl (by(with_reducible repeat(first|apply zNn|apply zNd|apply zNa));exact blk_put (blk_put (blk_put (blk_put (blk_put (blk_put (BK477.out) 0 _ rfl) 1 _ rfl) 2 _ rfl) 3 _ rfl) 4 _ rfl) 5 _ rfl) Try.underlying28 rfl ze (.tmp (.tmp (.tmp (.tmp (.tmp .nil))))))) rfl ?_
    exact⟨_,_,_,zq,by(with_reducible repeat(first|apply zRa|apply zRn|apply zRd));exact Kd.R_mono (Kd.R_far (p:=⟨gb477,5,none⟩) (Kd.R_far (p:=⟨gb477,4,none⟩) (Kd.R_far (p:=⟨gb477,3,none⟩) (Kd.R_far (p:=⟨gb477,2,none⟩) (Kd.R_far (p:=⟨gb477,1,none⟩) (Kd.R_far (p:=⟨gb477,0,none⟩) (Kd.R_types HO_10.out BK477.out (by decide)) (fun _ hk=>hk.2) (.int .i64 t485)) (fun _ hk=>hk.2) (.int .i64 (wrap64 (1+t488)))) (fun _ hk=>hk.2) (.int .i64 (wrap64 (1+t491)))) (fun _ hk=>hk.2) (.int .i64 (wrap64 (1+t494)))) (fun _ hk=>hk.2) (.int .i64 (wrap64 (1+t497)))) (fun _ hk=>hk.2) (.int .i64 (wrap64 (1+t500)))) (fun _ hk=>trivial),by(with_reducible repeat(first|apply zRa|apply zRn|apply zRd));exact Kd.R_mono (Kd.R_far (p:=⟨gb477,5,none⟩) (Kd.R_far (p:=⟨gb477,4,none⟩) (Kd.R_far (p:=⟨gb477,3,none⟩) (Kd.R_far (p:=⟨gb477,2,none⟩) (Kd.R_far (p:=⟨gb477,1,none⟩) (Kd.R_far (p:=⟨gb477,0,none⟩) (Kd.R_types HO546.out BK477.out (by decide)) (fun _ hk=>hk.2) (.int .i64 t485)) (fun _ hk=>hk.2) (.int .i64 (wrap64 (1+t488)))) (fun _ hk=>hk.2) (.int .i64 (wrap64 (1+t491)))) (fun _ hk=>hk.2) (.int .i64 (wrap64 (1+t494)))) (fun _ hk=>hk.2) (.int .i64 (wrap64 (1+t497)))) (fun _ hk=>hk.2) (.int .i64 (wrap64 (1+t500)))) (fun _ hk=>trivial),by(with_reducible repeat(first|apply zRa|apply zRn|apply zRd));exact Kd.R_mono (Kd.R_far (p:=⟨gb477,5,none⟩) (Kd.R_far (p:=⟨gb477,4,none⟩) (Kd.R_far (p:=⟨gb477,3,none⟩) (Kd.R_far (p:=⟨gb477,2,none⟩) (Kd.R_far (p:=⟨gb477,1,none⟩) (Kd.R_far (p:=⟨gb477,0,none⟩) (Kd.R_types HO_17.out BK477.out (by decide)) (fun _ hk=>hk.2) (.int .i64 t485)) (fun _ hk=>hk.2) (.int .i64 (wrap64 (1+t488)))) (fun _ hk=>hk.2) (.int .i64 (wrap64 (1+t491)))) (fun _ hk=>hk.2) (.int .i64 (wrap64 (1+t494)))) (fun _ hk=>hk.2) (.int .i64 (wrap64 (1+t497)))) (fun _ hk=>hk.2) (.int .i64 (wrap64 (1+t500)))) (fun _ hk=>trivial),zb13⟩
   have c45b0:decide (0<x19_1)=true:=zE c45
   clear c45
   replace H:=zI2 H
   rcases H with⟨c46,H⟩|⟨c46,H⟩
   case inl=>
    have c46b0:=zE c46
    clear c46
    replace H:=zIM H
    obtain⟨LMc47,H⟩:=H
    obtain⟨y533,hy533⟩:∃y_:List Int,y_=(x17_1++[x18_1]):=⟨_,rfl⟩
    rw[←hy533] at H
    have Ny533:=zM hy533
    clear hy533
    replace H:=zP H
    obtain⟨⟨t536,t537,t538⟩,A48,H⟩:=H
    dsimp only at H
    have H':=zM H
    clear H
    have hnb49:=NB503_477.out
    have hnc49:=NB477_503.out
    have hnb50:=NB503_481.out
    have hnc50:=NB481_503.out
    obtain⟨hcz51_0,hcz51_1,hcz51_2,hcz51_3,hcz51_4,hcz51_5,hfz51_0,hfz51_1,hfz51_2,hfz51_3,hfz51_4,hfz51_5⟩:=zc6 BK503.out
    obtain⟨Ao52,co52,eo52⟩:=Kd.R_slice HO_13.out
    subst eo52
    go_wp2_with (first|((with_reducible refine gate_builtin (b:= .append) (xs:= #[.tmp 83, .tmp 85]) rfl ?_);(try(refine gate_guard (by rfl) ?_;dsimp only));at_builtin;refine Kd.R_append (Kd.int .i64) (w0:=w) w.heap.size rfl (.tmp 83) (.tmp 85) 46 3 (.int .i64 0) 8 rfl Try.underlying46 info3 rfl (by decide) (by omega) u17 x17_1 x18_1 [.int .i64 x18_1] (fun _=>True) (fun _=>False) rfl rfl ?aP (fun _ hk=>hk.elim) ?aF ?aO ?aB ?aS ?aL ?_;(case aP=>exact rfl);(case aB=>exact zb13);(case aF=>exact(fun _ _=>trivial));(case aO=>exact(zr HO_17));(case aS=>exact(below_size zb13));(case aL=>have:=LMc47.out;omega);intro v534 w53 ho hb hg hat;(first|rw[←Ny533.out] at ho|simp only[Int.reduceToNat,←Ny533.out] at ho);refine zS7 (Kd.R_over' (zr HO_10) (Kd.R_typed (zr HO_17)) (by decide) hg) (Kd.R_over' (zr HO_13) (Kd.R_typed (zr HO_17)) (by decide) hg) (blk_grown (g:=gb477) (o:= .cells #[.int .i64 0, .int .i64 0, .int .i64 0, .int .i64 0, .int .i64 0, .int .i64 0] 28 (0,0)) (zn BK477) hg (Kd.R_ne HO_17.out BK477.out (by decide))) (blk_grown (g:=gb503) (o:= .cells #[.int .i64 t485, .int .i64 (wrap64 (1+t488)), .int .i64 (wrap64 (1+t491)), .int .i64 (wrap64 (1+t494)), .int .i64 (wrap64 (1+t497)), .int .i64 (wrap64 (1+t500))] 28 (0,0)) (zn BK503) hg (Kd.R_ne HO_17.out BK503.out (by decide))) (IsS99.grown (zi2 HI481) hg (IsS99.own_ne HI481.out HO_17.out (by decide))) (hb) (ho) ?_;clear HO_10 HO_13 BK477 BK503 HI481 HB HO_17;intro HO_10 HO_13 BK477 BK503 HI481 HB HO535;clear ho hb hg hat)|((with_reducible refine gate_callee (f:=47) rfl ?_);refine goesL_ (some 90) rfl rfl Try.func47 ze rfl #[.pointer (some ⟨g481,0,none⟩), .int .i64 9] rfl zg ?_;(with_reducible refine(spec_l1Below.calls g481 t478 x482001_1 x482002_1 9 t536 t537 t538 w _ ?side1 ?side2 A48.out).mono ?_);(case side1=>exact zi2 HI481);(case side2=>exact zb13);rintro e w54 ⟨rfl,hi,hb,hk⟩;refine⟨_,rfl,?_⟩;refine zS7 (Kd.R_mono (Kd.R_keep (IsS99.apart (show IsS99 w _ g481 t478 x482001_1 x482002_1 from zi2 HI481) (zr HO_10) (by decide)) hk (fun _ h=>h.2)) (fun _ h=>h.1)) (Kd.R_mono (Kd.R_keep (IsS99.apart (show IsS99 w _ g481 t478 x482001_1 x482002_1 from zi2 HI481) (zr HO_13) (by decide)) hk (fun _ h=>h.2)) (fun _ h=>h.1)) (KeepBut.blk hk (g':=gb477) (o:= .cells #[.int .i64 0, .int .i64 0, .int .i64 0, .int .i64 0, .int .i64 0, .int .i64 0] 28 (0,0)) (zn BK477) NB477_481.out (by simp)) (KeepBut.blk hk (g':=gb503) (o:= .cells #[.int .i64 t485, .int .i64 (wrap64 (1+t488)), .int .i64 (wrap64 (1+t491)), .int .i64 (wrap64 (1+t494)), .int .i64 (wrap64 (1+t497)), .int .i64 (wrap64 (1+t500))] 28 (0,0)) (zn BK503) NB503_481.out (by simp)) (Kd.R_mono (Kd.R_keep (IsS99.apart (show IsS99 w _ g481 t478 x482001_1 x482002_1 from zi2 HI481) (zr HO535) (by decide)) hk (fun _ h=>h.2)) (fun _ h=>h.1)) (hb) (hi) ?_;clear HO_10 HO_13 BK477 BK503 HO535 HB HI481;intro HO_10 HO_13 BK477 BK503 HO535 HB HI481;(try clear hb);(try clear hb2);(try clear hk);(try clear hi)))
    go_roundg k1
    case measure=>have:=HK1.out;omega
    case rel=>exact⟨(y533),(wrap64 ((wrap64 (x18_1+1))+t536)),(wrap64 (x19_1-1)),(t537),(t538),zs,zs,H',⟨zl1 HK1⟩,⟨zr HO_10⟩,⟨zr HO_13⟩,⟨zr HO535⟩,⟨zn BK477⟩,⟨zn BK503⟩,⟨zi2 HI481⟩,⟨zb13⟩⟩
   have c46b0:=decide_eq_false c46
   clear c46
   replace H:=zP H
   obtain⟨⟨t539,t542,t543⟩,A55,H⟩:=H
   dsimp only at H
   simp only[Option.some.injEq,Prod.mk.injEq] at H
   obtain⟨rfl,rfl,rfl,rfl,rfl,rfl,rfl,rfl,rfl,rfl,rfl⟩:=H
   have hnb56:=NB503_477.out
   have hnc56:=NB477_503.out
   have hnb57:=NB503_481.out
   have hnc57:=NB481_503.out
   obtain⟨hcz58_0,hcz58_1,hcz58_2,hcz58_3,hcz58_4,hcz58_5,hfz58_0,hfz58_1,hfz58_2,hfz58_3,hfz58_4,hfz58_5⟩:=zc6 BK503.out
   obtain⟨Ao59,co59,eo59⟩:=Kd.R_slice HO_13.out
   subst eo59
   try go_wp2
   refine zS7 (zRd HO_10.out) (zRd HO_13.out) (zRd HO_17.out) (zNd BK477.out) (zNd BK503.out) (IsS99.drew HI481.out) (zBd HB.out) ?_
   clear HO_10 HO_13 HO_17 BK477 BK503 HI481 HB
   intro HO_10 HO_13 HO_17 BK477 BK503 HI481 HB
   refine start_ (n:=18) (S:=fun w'=>w'.cell? ⟨gb503,0,none⟩=some (.int .i64 t485)∧w'.cell? ⟨gb503,1,none⟩=some (.int .i64 (wrap64 (1+t488)))∧w'.cell? ⟨gb503,2,none⟩=some (.int .i64 (wrap64 (1+t491)))∧w'.cell? ⟨gb503,3,none⟩=some (.int .i64 (wrap64 (1+t494)))∧w'.cell? ⟨gb503,4,none⟩=some (.int .i64 (wrap64 (1+t497)))∧w'.cell? ⟨gb503,5,none⟩=some (.int .i64 (wrap64 (1+t500)))) (ds:=[]) #[zf,zf,zf,zf,zf,zf,zf,zf,zf,zf,zf,zf,zf,zf,zf,zf,zf,zf] ze rfl rfl ⟨(blk_cell BK503.out 0).trans rfl,(blk_cell BK503.out 1).trans rfl,(blk_cell BK503.out 2).trans rfl,(blk_cell BK503.out 3).trans rfl,(blk_cell BK503.out 4).trans rfl,(blk_cell BK503.out 5).trans rfl⟩ (fun hHeld=> ?_);refine with_tabW spec_DrawWay.tab14 spec_DrawWay.bits14 (fun HT_ HW_=> ?_)
   generalize wr.drew=w60 at HO_10 HO_13 HO_17 BK477 BK503 HI481 HB hHeld ⊢
   refine zu 1 93 ?_
   refine zu 2 94 ?_
   refine zu 3 95 ?_
   refine zu 4 96 ?_
   refine zu 5 97 ?_
   refine zu 6 98 ?_
   refine zu 7 99 ?_
   refine zu 8 100 ?_
   refine zu 9 101 ?_
   refine zu 11 103 ?_
   refine zt6 0 92 ?_
   refine one_ (i:=10) (N:=some 102) #[zt,zt,zt,zt,zt,zt,zt,zt,zt,zt,zt,zt,zf,zf,zf,zf,zf,zf] rfl rfl (one_of HT_.out ze) (by decide) (fun K hK=> ?_)
   refine goes_ Try.func74 ze rfl #[.pointer (some ⟨g481,0,none⟩), .int .i64 (wrap64 (t512+(t518.length:Int))), .int .i64 t522] (by rfl) rfl rfl zg ?_
   with_reducible refine(spec_l18DrawNoise.calls k1 g481 t478 x482001_1 x482002_1 (wrap64 (t512+(t518.length:Int))) t522 t539 t542 t543 w _ ?side1 ?side2 A55.out).mono ?_
   (case side1=>exact zi2 HI481)
   (case side2=>exact zb13)
   rintro e w61 ⟨v540,rfl,ho0,hi,hb,hk⟩
   refine⟨_,rfl,?_⟩
   refine zS8 (Kd.R_mono (Kd.R_keep (IsS99.apart (show IsS99 w _ g481 t478 x482001_1 x482002_1 from zi2 HI481) (zr HO_10) (by decide)) hk (fun _ h=>h.2)) (fun _ h=>h.1)) (Kd.R_mono (Kd.R_told (Kd.R_oldK (IsS99.apart (show IsS99 w _ g481 t478 x482001_1 x482002_1 from zi2 HI481) (zr HO_13) (by decide)) hk) (Kd.R_base ho0)) (fun _ h_=>h_.1)) (Kd.R_mono (Kd.R_keep (IsS99.apart (show IsS99 w _ g481 t478 x482001_1 x482002_1 from zi2 HI481) (zr HO_17) (by decide)) hk (fun _ h=>h.2)) (fun _ h=>h.1)) (KeepBut.blk hk (g':=gb477) (o:= .cells #[.int .i64 0, .int .i64 0, .int .i64 0, .int .i64 0, .int .i64 0, .int .i64 0] 28 (0,0)) (zn BK477) NB477_481.out (by simp)) (KeepBut.blk hk (g':=gb503) (o:= .cells #[.int .i64 t485, .int .i64 (wrap64 (1+t488)), .int .i64 (wrap64 (1+t491)), .int .i64 (wrap64 (1+t494)), .int .i64 (wrap64 (1+t497)), .int .i64 (wrap64 (1+t500))] 28 (0,0)) (zn BK503) NB503_481.out (by simp)) (Kd.R_lower (Kd.R_new' ho0 (Kd.R_lt (zr HO_13))) (below_size zb13)) (hb) (hi) ?_
   clear HO_10 HO_13 HO_17 BK477 BK503 HB HI481
   intro HO_10 HO_13 HO_17 BK477 BK503 HO541 HB HI481
   clear hb hk hi ho0
   refine hK.out _ _ ⟨(blk_cell BK503.out 0).trans rfl,(blk_cell BK503.out 1).trans rfl,(blk_cell BK503.out 2).trans rfl,(blk_cell BK503.out 3).trans rfl,(blk_cell BK503.out 4).trans rfl,(blk_cell BK503.out 5).trans rfl⟩ (fun hHeld=> ?_)
   clear hK K
   refine norm_ (a':= ?_) ?_ ?_
   rotate_left
   ·show Act.put _ (some 102) _=_
    simp only[Act.put,zL1,zL2,zL3,i64_w,i32_w]
    rfl
   refine one_ (i:=12) (N:=none) #[zt,zt,zt,zt,zt,zt,zt,zt,zt,zt,zt,zt,zt,zf,zf,zf,zf,zf] rfl rfl (one_of HT_.out ze) (by decide) (fun K hK=> ?_)
   have hs62:w61.cell? ⟨gb477,0,none⟩=some (.int .i64 0):=(blk_cell BK477.out 0).trans rfl
   have hfs62:=blk_frozen BK477.out 0
   have hns62_1:=NB503_477.out
   have hms62_1:=NB477_503.out
   have hs63:w61.cell? ⟨gb477,1,none⟩=some (.int .i64 0):=(blk_cell BK477.out 1).trans rfl
   have hfs63:=blk_frozen BK477.out 1
   have hns63_1:=NB503_477.out
   have hms63_1:=NB477_503.out
   have hs64:w61.cell? ⟨gb477,2,none⟩=some (.int .i64 0):=(blk_cell BK477.out 2).trans rfl
   have hfs64:=blk_frozen BK477.out 2
   have hns64_1:=NB503_477.out
   have hms64_1:=NB477_503.out
   have hs65:w61.cell? ⟨gb477,3,none⟩=some (.int .i64 0):=(blk_cell BK477.out 3).trans rfl
   have hfs65:=blk_frozen BK477.out 3
   have hns65_1:=NB503_477.out
   have hms65_1:=NB477_503.out
   have hs66:w61.cell? ⟨gb477,4,none⟩=some (.int .i64 0):=(blk_cell BK477.out 4).trans rfl
   have hfs66:=blk_frozen BK477.out 4
   have hns66_1:=NB503_477.out
   have hms66_1:=NB477_503.out
   have hs67:w61.cell? ⟨gb477,5,none⟩=some (.int .i64 0):=(blk_cell BK477.out 5).trans rfl
   have hfs67:=blk_frozen BK477.out 5
   have hns67_1:=NB503_477.out
   have hms67_1:=NB477_503.out
   refine skip_ (w1:= ?_) (by rfl) rfl ?_ ?_
   rotate_left
   ·go_simp
    rfl
   refine hK.out _ _ ⟨((cell_far (p:=⟨gb477,_,none⟩) NB503_477.out _).trans (((cell_far (p:=⟨gb477,_,none⟩) NB503_477.out _).trans (((cell_far (p:=⟨gb477,_,none⟩) NB503_477.out _).trans (((cell_far (p:=⟨gb477,_,none⟩) NB503_477.out _).trans (((cell_far (p:=⟨gb477,_,none⟩) NB503_477.out _).trans (((cell_far (p:=⟨gb477,_,none⟩) NB503_477.out _).trans (hHeld.1)))))))))))),((cell_far (p:=⟨gb477,_,none⟩) NB503_477.out _).trans (((cell_far (p:=⟨gb477,_,none⟩) NB503_477.out _).trans (((cell_far (p:=⟨gb477,_,none⟩) NB503_477.out _).trans (((cell_far (p:=⟨gb477,_,none⟩) NB503_477.out _).trans (((cell_far (p:=⟨gb477,_,none⟩) NB503_477.out _).trans (((cell_far (p:=⟨gb477,_,none⟩) NB503_477.out _).trans (hHeld.2.1)))))))))))),((cell_far (p:=⟨gb477,_,none⟩) NB503_477.out _).trans (((cell_far (p:=⟨gb477,_,none⟩) NB503_477.out _).trans (((cell_far (p:=⟨gb477,_,none⟩) NB503_477.out _).trans (((cell_far (p:=⟨gb477,_,none⟩) NB503_477.out _).trans (((cell_far (p:=⟨gb477,_,none⟩) NB503_477.out _).trans (((cell_far (p:=⟨gb477,_,none⟩) NB503_477.out _).trans (hHeld.2.2.1)))))))))))),((cell_far (p:=⟨gb477,_,none⟩) NB503_477.out _).trans (((cell_far (p:=⟨gb477,_,none⟩) NB503_477.out _).trans (((cell_far (p:=⟨gb477,_,none⟩) NB503_477.out _).trans (((cell_far (p:=⟨gb477,_,none⟩) NB503_477.out _).trans (((cell_far (p:=⟨gb477,_,none⟩) NB503_477.out _).trans (((cell_far (p:=⟨gb477,_,none⟩) NB503_477.out _).trans (hHeld.2.2.2.1)))))))))))),((cell_far (p:=⟨gb477,_,none⟩) NB503_477.out _).trans (((cell_far (p:=⟨gb477,_,none⟩) NB503_477.out _).trans (((cell_far (p:=⟨gb477,_,none⟩) NB503_477.out _).trans (((cell_far (p:=⟨gb477,_,none⟩) NB503_477.out _).trans (((cell_far (p:=⟨gb477,_,none⟩) NB503_477.out _).trans (((cell_far (p:=⟨gb477,_,none⟩) NB503_477.out _).trans (hHeld.2.2.2.2.1)))))))))))),((cell_far (p:=⟨gb477,_,none⟩) NB503_477.out _).trans (((cell_far (p:=⟨gb477,_,none⟩) NB503_477.out _).trans (((cell_far (p:=⟨gb477,_,none⟩) NB503_477.out _).trans (((cell_far (p:=⟨gb477,_,none⟩) NB503_477.out _).trans (((cell_far (p:=⟨gb477,_,none⟩) NB503_477.out _).trans (((cell_far (p:=⟨gb477,_,none⟩) NB503_477.out _).trans (hHeld.2.2.2.2.2))))))))))))⟩ (fun hHeld=> ?_)
   clear hK K
   refine zu 13 3 ?_
   refine zu 14 4 ?_
   refine zu 15 5 ?_
   refine zu 16 6 ?_
   refine zu 17 7 ?_
   refine done_ (done_of HT_.out ze) ?_
   try go_wp2
   refine bodyPost_ret (results_list (rs:=[.cell 2 28, .tmp 3, .tmp 4, .tmp 5, .tmp 6, .tmp 7]) rfl (by simp) (.cell gb477 28 #[.int .i64 t485, .int .i64 (wrap64 (1+t488)), .int .i64 (wrap64 (1+t491)), .int .i64 (wrap64 (1+t494)), .int .i64 (wrap64 (1+t497)), .int .i64 (wrap64 (1+t500))] (0,0) _ rfl (by(with_reducible repeat(first|apply zNn|apply zNd|apply zNa));exact blk_put (blk_put (blk_put (blk_put (blk_put (blk_put (BK477.out) 0 _ rfl) 1 _ rfl) 2 _ rfl) 3 _ rfl) 4 _ rfl) 5 _ rfl) Try.underlying28 rfl ze (.tmp (.tmp (.tmp (.tmp (.tmp .nil))))))) rfl ?_
   exact⟨_,_,_,zq,by(with_reducible repeat(first|apply zRa|apply zRn|apply zRd));exact Kd.R_mono (Kd.R_far (p:=⟨gb477,5,none⟩) (Kd.R_far (p:=⟨gb477,4,none⟩) (Kd.R_far (p:=⟨gb477,3,none⟩) (Kd.R_far (p:=⟨gb477,2,none⟩) (Kd.R_far (p:=⟨gb477,1,none⟩) (Kd.R_far (p:=⟨gb477,0,none⟩) (Kd.R_types HO_10.out BK477.out (by decide)) (fun _ hk=>hk.2) (.int .i64 t485)) (fun _ hk=>hk.2) (.int .i64 (wrap64 (1+t488)))) (fun _ hk=>hk.2) (.int .i64 (wrap64 (1+t491)))) (fun _ hk=>hk.2) (.int .i64 (wrap64 (1+t494)))) (fun _ hk=>hk.2) (.int .i64 (wrap64 (1+t497)))) (fun _ hk=>hk.2) (.int .i64 (wrap64 (1+t500)))) (fun _ hk=>trivial),by(with_reducible repeat(first|apply zRa|apply zRn|apply zRd));exact Kd.R_mono (Kd.R_far (p:=⟨gb477,5,none⟩) (Kd.R_far (p:=⟨gb477,4,none⟩) (Kd.R_far (p:=⟨gb477,3,none⟩) (Kd.R_far (p:=⟨gb477,2,none⟩) (Kd.R_far (p:=⟨gb477,1,none⟩) (Kd.R_far (p:=⟨gb477,0,none⟩) (Kd.R_types HO541.out BK477.out (by decide)) (fun _ hk=>hk.2) (.int .i64 t485)) (fun _ hk=>hk.2) (.int .i64 (wrap64 (1+t488)))) (fun _ hk=>hk.2) (.int .i64 (wrap64 (1+t491)))) (fun _ hk=>hk.2) (.int .i64 (wrap64 (1+t494)))) (fun _ hk=>hk.2) (.int .i64 (wrap64 (1+t497)))) (fun _ hk=>hk.2) (.int .i64 (wrap64 (1+t500)))) (fun _ hk=>trivial),by(with_reducible repeat(first|apply zRa|apply zRn|apply zRd));exact Kd.R_mono (Kd.R_far (p:=⟨gb477,5,none⟩) (Kd.R_far (p:=⟨gb477,4,none⟩) (Kd.R_far (p:=⟨gb477,3,none⟩) (Kd.R_far (p:=⟨gb477,2,none⟩) (Kd.R_far (p:=⟨gb477,1,none⟩) (Kd.R_far (p:=⟨gb477,0,none⟩) (Kd.R_types HO_17.out BK477.out (by decide)) (fun _ hk=>hk.2) (.int .i64 t485)) (fun _ hk=>hk.2) (.int .i64 (wrap64 (1+t488)))) (fun _ hk=>hk.2) (.int .i64 (wrap64 (1+t491)))) (fun _ hk=>hk.2) (.int .i64 (wrap64 (1+t494)))) (fun _ hk=>hk.2) (.int .i64 (wrap64 (1+t497)))) (fun _ hk=>hk.2) (.int .i64 (wrap64 (1+t500)))) (fun _ hk=>trivial),zb13⟩
def impl_Budget.f (a0_0:Int) (a0_1:Int) (a0_2:Int) (a0_3:Int) (a0_4:Int) (a0_5:Int):Option (Int×Int):=(impl_ModemOk.f a0_0 a0_1 a0_2 a0_3 a0_4 a0_5).bind fun t550=>(if t550=true then(if a0_0=0 then(none) else(some (wrap64 (Int.tdiv (wrap64 (a0_5-1)) 2),wrap64 (Int.tdiv a0_1 a0_0)))) else(some (0,0)))
theorem impl_Budget.calls (a0_0:Int) (a0_1:Int) (a0_2:Int) (a0_3:Int) (a0_4:Int) (a0_5:Int) (r1:Int) (r2:Int) (w:World) (H:impl_Budget.f a0_0 a0_1 a0_2 a0_3 a0_4 a0_5=some (r1,r2)):
 Calls Try.prog 27 #[.agg #[.int .i64 a0_0, .int .i64 a0_1, .int .i64 a0_2, .int .i64 a0_3, .int .i64 a0_4, .int .i64 a0_5]] w fun e w'=>e= .returned (.tuple #[.int .i64 r1, .int .i64 r2])∧Below w.heap.size w w':=by
 have hu28:=Try.underlying28
 have HB:=zM (Below.refl w.heap.size w)
 unfold impl_Budget.f at H
 replace H:=zP H
 obtain⟨t550,A2,H⟩:=H
 by_cases c3:t550=true
 case neg=>
  replace c3:=Bool.eq_false_iff.mpr c3
  subst c3
  rw[if_neg zFT] at H
  simp only[Option.some.injEq,Prod.mk.injEq] at H
  obtain⟨rfl,rfl⟩:=H
  go_enter Try.func27,Try.ntmps27
  go_wp2_with (first|((with_reducible refine gate_dst (N:=1) rfl ?_);refine box_event ?hg (N:=1) ?hd (cs:= #[.int .i64 a0_0, .int .i64 a0_1, .int .i64 a0_2, .int .i64 a0_3, .int .i64 a0_4, .int .i64 a0_5]) (t:=28) ?hr ?_;(case hd|hg=>rfl);(case hr=>exact zh);intro gb549 hg w9 hbox hb;have n0_:=zM (below_step zb hb);have n1_:=zM (hbox);have n2_:=zM ((zw hg (below_size zb)));have n3_:=zM n2_.out;clear HB;have HB:=n0_;have BK549:=n1_;have GW549:=n2_;have GE549:=n3_;clear n0_ n1_ n2_ n3_;clear hb hbox hg;obtain⟨hcz10_0,hcz10_1,hcz10_2,hcz10_3,hcz10_4,hcz10_5,hfz10_0,hfz10_1,hfz10_2,hfz10_3,hfz10_4,hfz10_5⟩:=zc6 BK549.out)|(go_at_call 36;(with_reducible refine(impl_ModemOk.calls a0_0 a0_1 a0_2 a0_3 a0_4 a0_5 false _ A2.out).mono ?_);rintro e w11 ⟨rfl,hb⟩;refine zS2 (zNb (g:=gb549) (o:= .cells #[.int .i64 a0_0, .int .i64 a0_1, .int .i64 a0_2, .int .i64 a0_3, .int .i64 a0_4, .int .i64 a0_5] 28 (0,0)) (zn BK549) hb) (below_step zb14 hb) ?_;clear BK549 HB;intro BK549 HB;(try clear hb);(try clear hb2);(try clear hk);(try clear hi)))
  repeat(go_quiet (first|((with_reducible refine gate_dst (N:=1) rfl ?_);refine box_event ?hg (N:=1) ?hd (cs:= #[.int .i64 a0_0, .int .i64 a0_1, .int .i64 a0_2, .int .i64 a0_3, .int .i64 a0_4, .int .i64 a0_5]) (t:=28) ?hr ?_;(case hd|hg=>rfl);(case hr=>exact zh);intro gb549 hg w9 hbox hb;have n0_:=zM (below_step zb hb);have n1_:=zM (hbox);have n2_:=zM ((zw hg (below_size zb)));have n3_:=zM n2_.out;clear HB;have HB:=n0_;have BK549:=n1_;have GW549:=n2_;have GE549:=n3_;clear n0_ n1_ n2_ n3_;clear hb hbox hg;obtain⟨hcz10_0,hcz10_1,hcz10_2,hcz10_3,hcz10_4,hcz10_5,hfz10_0,hfz10_1,hfz10_2,hfz10_3,hfz10_4,hfz10_5⟩:=zc6 BK549.out)|(go_at_call 36;(with_reducible refine(impl_ModemOk.calls a0_0 a0_1 a0_2 a0_3 a0_4 a0_5 false _ A2.out).mono ?_);rintro e w11 ⟨rfl,hb⟩;refine zS2 (zNb (g:=gb549) (o:= .cells #[.int .i64 a0_0, .int .i64 a0_1, .int .i64 a0_2, .int .i64 a0_3, .int .i64 a0_4, .int .i64 a0_5] 28 (0,0)) (zn BK549) hb) (below_step zb14 hb) ?_;clear BK549 HB;intro BK549 HB;(try clear hb);(try clear hb2);(try clear hk);(try clear hi)));try go_wp2_with (first|((with_reducible refine gate_dst (N:=1) rfl ?_);refine box_event ?hg (N:=1) ?hd (cs:= #[.int .i64 a0_0, .int .i64 a0_1, .int .i64 a0_2, .int .i64 a0_3, .int .i64 a0_4, .int .i64 a0_5]) (t:=28) ?hr ?_;(case hd|hg=>rfl);(case hr=>exact zh);intro gb549 hg w9 hbox hb;have n0_:=zM (below_step zb hb);have n1_:=zM (hbox);have n2_:=zM ((zw hg (below_size zb)));have n3_:=zM n2_.out;clear HB;have HB:=n0_;have BK549:=n1_;have GW549:=n2_;have GE549:=n3_;clear n0_ n1_ n2_ n3_;clear hb hbox hg;obtain⟨hcz10_0,hcz10_1,hcz10_2,hcz10_3,hcz10_4,hcz10_5,hfz10_0,hfz10_1,hfz10_2,hfz10_3,hfz10_4,hfz10_5⟩:=zc6 BK549.out)|(go_at_call 36;(with_reducible refine(impl_ModemOk.calls a0_0 a0_1 a0_2 a0_3 a0_4 a0_5 false _ A2.out).mono ?_);rintro e w11 ⟨rfl,hb⟩;refine zS2 (zNb (g:=gb549) (o:= .cells #[.int .i64 a0_0, .int .i64 a0_1, .int .i64 a0_2, .int .i64 a0_3, .int .i64 a0_4, .int .i64 a0_5] 28 (0,0)) (zn BK549) hb) (below_step zb14 hb) ?_;clear BK549 HB;intro BK549 HB;(try clear hb);(try clear hb2);(try clear hk);(try clear hi))))
  go_ret2
  exact⟨zq,zb14⟩
 subst c3
 rw[if_pos rfl] at H
 replace H:=zI2 H
 rcases H with⟨c4,H⟩|⟨c4,H⟩
 case inl=>
  exact absurd H (by simp)
 have c4b0:(a0_0==0)=false:=beq_eq_false_iff_ne.mpr c4
 have c4b1:(a0_0 != 0)=true:=bne_iff_ne.mpr c4
 simp only[Option.some.injEq,Prod.mk.injEq] at H
 obtain⟨rfl,rfl⟩:=H
 go_enter Try.func27,Try.ntmps27
 go_wp2_with (first|((with_reducible refine gate_dst (N:=1) rfl ?_);refine box_event ?hg (N:=1) ?hd (cs:= #[.int .i64 a0_0, .int .i64 a0_1, .int .i64 a0_2, .int .i64 a0_3, .int .i64 a0_4, .int .i64 a0_5]) (t:=28) ?hr ?_;(case hd|hg=>rfl);(case hr=>exact zh);intro gb549 hg w5 hbox hb;have n0_:=zM (below_step zb hb);have n1_:=zM (hbox);have n2_:=zM ((zw hg (below_size zb)));have n3_:=zM n2_.out;clear HB;have HB:=n0_;have BK549:=n1_;have GW549:=n2_;have GE549:=n3_;clear n0_ n1_ n2_ n3_;clear hb hbox hg;obtain⟨hcz6_0,hcz6_1,hcz6_2,hcz6_3,hcz6_4,hcz6_5,hfz6_0,hfz6_1,hfz6_2,hfz6_3,hfz6_4,hfz6_5⟩:=zc6 BK549.out)|(go_at_call 36;(with_reducible refine(impl_ModemOk.calls a0_0 a0_1 a0_2 a0_3 a0_4 a0_5 true _ A2.out).mono ?_);rintro e w7 ⟨rfl,hb⟩;refine zS2 (zNb (g:=gb549) (o:= .cells #[.int .i64 a0_0, .int .i64 a0_1, .int .i64 a0_2, .int .i64 a0_3, .int .i64 a0_4, .int .i64 a0_5] 28 (0,0)) (zn BK549) hb) (below_step zb14 hb) ?_;clear BK549 HB;intro BK549 HB;(try clear hb);(try clear hb2);(try clear hk);(try clear hi);obtain⟨hcz8_0,hcz8_1,hcz8_2,hcz8_3,hcz8_4,hcz8_5,hfz8_0,hfz8_1,hfz8_2,hfz8_3,hfz8_4,hfz8_5⟩:=zc6 BK549.out))
 repeat(go_quiet (first|((with_reducible refine gate_dst (N:=1) rfl ?_);refine box_event ?hg (N:=1) ?hd (cs:= #[.int .i64 a0_0, .int .i64 a0_1, .int .i64 a0_2, .int .i64 a0_3, .int .i64 a0_4, .int .i64 a0_5]) (t:=28) ?hr ?_;(case hd|hg=>rfl);(case hr=>exact zh);intro gb549 hg w5 hbox hb;have n0_:=zM (below_step zb hb);have n1_:=zM (hbox);have n2_:=zM ((zw hg (below_size zb)));have n3_:=zM n2_.out;clear HB;have HB:=n0_;have BK549:=n1_;have GW549:=n2_;have GE549:=n3_;clear n0_ n1_ n2_ n3_;clear hb hbox hg;obtain⟨hcz6_0,hcz6_1,hcz6_2,hcz6_3,hcz6_4,hcz6_5,hfz6_0,hfz6_1,hfz6_2,hfz6_3,hfz6_4,hfz6_5⟩:=zc6 BK549.out)|(go_at_call 36;(with_reducible refine(impl_ModemOk.calls a0_0 a0_1 a0_2 a0_3 a0_4 a0_5 true _ A2.out).mono ?_);rintro e w7 ⟨rfl,hb⟩;refine zS2 (zNb (g:=gb549) (o:= .cells #[.int .i64 a0_0, .int .i64 a0_1, .int .i64 a0_2, .int .i64 a0_3, .int .i64 a0_4, .int .i64 a0_5] 28 (0,0)) (zn BK549) hb) (below_step zb14 hb) ?_;clear BK549 HB;intro BK549 HB;(try clear hb);(try clear hb2);(try clear hk);(try clear hi);obtain⟨hcz8_0,hcz8_1,hcz8_2,hcz8_3,hcz8_4,hcz8_5,hfz8_0,hfz8_1,hfz8_2,hfz8_3,hfz8_4,hfz8_5⟩:=zc6 BK549.out));try go_wp2_with (first|((with_reducible refine gate_dst (N:=1) rfl ?_);refine box_event ?hg (N:=1) ?hd (cs:= #[.int .i64 a0_0, .int .i64 a0_1, .int .i64 a0_2, .int .i64 a0_3, .int .i64 a0_4, .int .i64 a0_5]) (t:=28) ?hr ?_;(case hd|hg=>rfl);(case hr=>exact zh);intro gb549 hg w5 hbox hb;have n0_:=zM (below_step zb hb);have n1_:=zM (hbox);have n2_:=zM ((zw hg (below_size zb)));have n3_:=zM n2_.out;clear HB;have HB:=n0_;have BK549:=n1_;have GW549:=n2_;have GE549:=n3_;clear n0_ n1_ n2_ n3_;clear hb hbox hg;obtain⟨hcz6_0,hcz6_1,hcz6_2,hcz6_3,hcz6_4,hcz6_5,hfz6_0,hfz6_1,hfz6_2,hfz6_3,hfz6_4,hfz6_5⟩:=zc6 BK549.out)|(go_at_call 36;(with_reducible refine(impl_ModemOk.calls a0_0 a0_1 a0_2 a0_3 a0_4 a0_5 true _ A2.out).mono ?_);rintro e w7 ⟨rfl,hb⟩;refine zS2 (zNb (g:=gb549) (o:= .cells #[.int .i64 a0_0, .int .i64 a0_1, .int .i64 a0_2, .int .i64 a0_3, .int .i64 a0_4, .int .i64 a0_5] 28 (0,0)) (zn BK549) hb) (below_step zb14 hb) ?_;clear BK549 HB;intro BK549 HB;(try clear hb);(try clear hb2);(try clear hk);(try clear hi);obtain⟨hcz8_0,hcz8_1,hcz8_2,hcz8_3,hcz8_4,hcz8_5,hfz8_0,hfz8_1,hfz8_2,hfz8_3,hfz8_4,hfz8_5⟩:=zc6 BK549.out)))
 go_ret2
 exact⟨zq,zb14⟩
end Go.Proofs.Ytapobpkeefeajaa.PFnModem
