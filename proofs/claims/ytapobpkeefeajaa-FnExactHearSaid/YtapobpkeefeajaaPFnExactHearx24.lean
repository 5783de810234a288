-- A turned copy of the print's text.
import Derived.Test.YtapobpkeefeajaaPFnExactHearx0
import Derived.Test.YtapobpkeefeajaaPFnExactHearx14
import Derived.Test.YtapobpkeefeajaaPFnExactHearx15
import Derived.Test.YtapobpkeefeajaaPFnExactHearx17
import Derived.Test.YtapobpkeefeajaaPFnExactHearx18
import Derived.Test.YtapobpkeefeajaaPFnExactHearx23
namespace Go.Proofs.Ytapobpkeefeajaa.PFnExactHear
open Go.RowKit Go.Proofs.YtapobpkeefeajaaW.PrintWords Go.Proofs.YtapobpkeefeajaaW.PrintLast Go.Proofs.YtapobpkeefeajaaW.PrintMore
attribute [local go_sem] max2_int min2_int max_two min_two max_three min_three max_four min_four
set_option maxHeartbeats 8000000
set_option maxRecDepth 100000
set_option linter.unusedVariables false
set_option linter.unusedSimpArgs false
mutual
def spec_Hear.j0:Nat→List (S52)→Int→List Int→Bool→Int→Int→Int→Int→Int→Int→Option (List Int×Int×Bool)
 |0,_,_,_,_,_,_,_,_,_,_=>none
 |k+1,x1,x2,x9,x38,x445000,x445001,x445002,x445003,x445004,x445005=>if x38=true then(some (x9,0,false)) else((spec_l18Begin.f k x445000 x445001 x445002 x445003 x445004 x445005 x1).bind fun t451=>(if x445000=0 then(none) else(if t451<0 then(spec_Hear.j1 k x1 x2 x9 t451 (wrap64 (8*(wrap64 (x2+(wrap64 (2*x445001)))))) (wrap64 (Int.tdiv (wrap64 ((wrap64 ((wrap64 (8*(wrap64 (x2+(wrap64 (2*x445001))))))+x445000))-1)) x445000)) true x445000 x445001 x445002 x445003 x445004 x445005) else(spec_Hear.j1 k x1 x2 x9 t451 (wrap64 (8*(wrap64 (x2+(wrap64 (2*x445001)))))) (wrap64 (Int.tdiv (wrap64 ((wrap64 ((wrap64 (8*(wrap64 (x2+(wrap64 (2*x445001))))))+x445000))-1)) x445000)) (decide ((wrap64 (t451+(wrap64 (x445004*(wrap64 ((wrap64 (Int.tdiv (wrap64 ((wrap64 ((wrap64 (8*(wrap64 (x2+(wrap64 (2*x445001))))))+x445000))-1)) x445000))+1))))))>(x1.length:Int))) x445000 x445001 x445002 x445003 x445004 x445005))))
def spec_Hear.j1:Nat→List (S52)→Int→List Int→Int→Int→Int→Bool→Int→Int→Int→Int→Int→Int→Option (List Int×Int×Bool)
 |0,_,_,_,_,_,_,_,_,_,_,_,_,_=>none
 |k+1,x1,x2,x9,x10,x11,x12,x70,x445000,x445001,x445002,x445003,x445004,x445005=>if x70=true then(some (x9,0,false)) else((spec_l18Sum.f k x1 x10 x445004).bind fun bt452=>((spec_l18Size.f bt452.1).bind fun t455=>((spec_l18Size.f bt452.2).bind fun t456=>(if t455≥t456 then(spec_Hear.j2 k x1 x2 x9 x10 x11 x12 0 (decide (bt452.1≤0)) x445000 x445001 x445002 x445003 x445004 x445005 bt452.1 bt452.2) else(spec_Hear.j2 k x1 x2 x9 x10 x11 x12 0 false x445000 x445001 x445002 x445003 x445004 x445005 bt452.1 bt452.2)))))
def spec_Hear.j4:Nat→List (S52)→Int→List Int→Int→Int→Int→Int→Int→Int→Int→Int→Int→Int→Option (List Int×Int×Bool)
 |0,_,_,_,_,_,_,_,_,_,_,_,_,_=>none
 |k+1,x1,x2,x9,x10,x11,x12,x14,x445000,x445001,x445002,x445003,x445004,x445005=>spec_Hear.l0 k x1 x2 x9 x10 x11 x12 x14 (([]:List (S52))) 1 x445000 x445001 x445002 x445003 x445004 x445005
def spec_Hear.l0:Nat→List (S52)→Int→List Int→Int→Int→Int→Int→List (S52)→Int→Int→Int→Int→Int→Int→Int→Option (List Int×Int×Bool)
 |0,_,_,_,_,_,_,_,_,_,_,_,_,_,_,_=>none
 |k+1,x1,x2,x9,x10,x11,x12,x14,x15,x16,x445000,x445001,x445002,x445003,x445004,x445005=>if x16≤x12 then((spec_l18Sum.f k x1 (wrap64 (x10+(wrap64 (x16*x445004)))) x445004).bind fun bt464=>((spec_l18Quarter.f k bt464.1 bt464.2 (Int.tmod (wrap64 (4-x14)) 4)).bind fun bt466=>((spec_RoundDiv.f k bt466.1 (wrap64 (x445004*x445005))).bind fun t469=>((spec_RoundDiv.f k bt466.2 (wrap64 (x445004*x445005))).bind fun t470=>(if x15.length<8796093022208 then(spec_Hear.l0 k x1 x2 x9 x10 x11 x12 x14 (x15++[(⟨t469,t470⟩:S52)]) (wrap64 (x16+1)) x445000 x445001 x445002 x445003 x445004 x445005) else(none)))))) else((spec_Decide.f k x445000 x15).bind fun bt474=>(if bt474.2=true then(if 0≤x11 then(if x11≤(bt474.1.length:Int) then((spec_Stir.f k (bt474.1.take (x11:Int).toNat) 46080 x445003).bind fun bt482=>((spec_Unweave.f k bt482.1 x445002).bind fun bt486=>((spec_Pack8.f k bt486.1).bind fun bt490=>((spec_RsMend.f k bt490.1 x445001).bind fun bt494=>(if bt494.2.2=true then(if 0≤x2 then(if x2≤(bt494.1.length:Int) then(some ((bt494.1.take (x2:Int).toNat),bt494.2.1,true)) else(none)) else(none)) else(some (x9,0,false))))))) else(none)) else(none)) else(some (x9,0,false))))
def spec_Hear.j2:Nat→List (S52)→Int→List Int→Int→Int→Int→Int→Bool→Int→Int→Int→Int→Int→Int→Int→Int→Option (List Int×Int×Bool)
 |0,_,_,_,_,_,_,_,_,_,_,_,_,_,_,_,_=>none
 |k+1,x1,x2,x9,x10,x11,x12,x14,x77,x445000,x445001,x445002,x445003,x445004,x445005,x455000,x455001=>if x77=true then(spec_Hear.j4 k x1 x2 x9 x10 x11 x12 2 x445000 x445001 x445002 x445003 x445004 x445005) else((spec_l18Size.f x455000).bind fun t457=>((spec_l18Size.f x455001).bind fun t458=>(if t457<t458 then(spec_Hear.j3 k x1 x2 x9 x10 x11 x12 x14 (decide (x455001>0)) x445000 x445001 x445002 x445003 x445004 x445005 x455000 x455001) else(spec_Hear.j3 k x1 x2 x9 x10 x11 x12 x14 false x445000 x445001 x445002 x445003 x445004 x445005 x455000 x455001))))
def spec_Hear.j3:Nat→List (S52)→Int→List Int→Int→Int→Int→Int→Bool→Int→Int→Int→Int→Int→Int→Int→Int→Option (List Int×Int×Bool)
 |0,_,_,_,_,_,_,_,_,_,_,_,_,_,_,_,_=>none
 |k+1,x1,x2,x9,x10,x11,x12,x14,x90,x445000,x445001,x445002,x445003,x445004,x445005,x455000,x455001=>if x90=true then(spec_Hear.j4 k x1 x2 x9 x10 x11 x12 1 x445000 x445001 x445002 x445003 x445004 x445005) else((spec_l18Size.f x455000).bind fun t459=>((spec_l18Size.f x455001).bind fun t460=>(if t459<t460 then(spec_Hear.j4 k x1 x2 x9 x10 x11 x12 3 x445000 x445001 x445002 x445003 x445004 x445005) else(spec_Hear.j4 k x1 x2 x9 x10 x11 x12 x14 x445000 x445001 x445002 x445003 x445004 x445005))))
end
def spec_Hear.f (k:Nat) (a0_0:Int) (a0_1:Int) (a0_2:Int) (a0_3:Int) (a0_4:Int) (a0_5:Int) (l1:List (S52)) (a2:Int):Option (List Int×Int×Bool):=(some (([]:List Int):List Int)).bind fun y445=>((spec_ModemOk.f a0_0 a0_1 a0_2 a0_3 a0_4 a0_5).bind fun t448=>(if t448=true then((spec_l18Burst.f k l1).bind fun t449=>(if t449=true then((spec_l1In.f a2 1 40).bind fun t450=>(spec_Hear.j0 k l1 a2 y445 (!t450) a0_0 a0_1 a0_2 a0_3 a0_4 a0_5)) else(spec_Hear.j0 k l1 a2 y445 true a0_0 a0_1 a0_2 a0_3 a0_4 a0_5))) else(spec_Hear.j0 k l1 a2 y445 true a0_0 a0_1 a0_2 a0_3 a0_4 a0_5)))
def spec_Hear.T11:Bool×List (List Nat×List Nat):=(true,[([],[]),([0],[0]),([1],[1]),([],[]),([3],[3]),([4,2],[4]),([2,5],[2,5]),([6,5],[6]),([7],[7]),([8,7],[7,8]),([9,7],[7,9]),([7,10],[7,10]),([11,7],[11])])
def spec_Hear.B11:List Nat:=[0,1,3,0,8,31,63,127,255,511,1023,2047,4095]
theorem spec_Hear.tab11:rtab .any (opsOf Try.f23 11)=spec_Hear.T11:=by kernel_rfl
theorem spec_Hear.bits11:waitsOk spec_Hear.T11.2 spec_Hear.B11=true:=by kernel_rfl
def spec_Hear.T13:Bool×List (List Nat×List Nat):=(true,[([],[]),([0],[0]),([1],[1]),([],[]),([3],[3]),([4,2],[4]),([2,5],[2,5]),([6,5],[6]),([7],[7]),([8,7],[7,8]),([9,7],[7,9]),([7,10],[7,10]),([11,7],[11])])
def spec_Hear.B13:List Nat:=[0,1,3,0,8,31,63,127,255,511,1023,2047,4095]
theorem spec_Hear.tab13:rtab .any (opsOf Try.f23 13)=spec_Hear.T13:=by kernel_rfl
theorem spec_Hear.bits13:waitsOk spec_Hear.T13.2 spec_Hear.B13=true:=by kernel_rfl
def spec_Hear.T15:Bool×List (List Nat×List Nat):=(true,[([],[]),([0],[0]),([1],[1]),([],[]),([3],[3]),([4,2],[4]),([2,5],[2,5]),([6,5],[6])])
def spec_Hear.B15:List Nat:=[0,1,3,0,8,31,63,127]
theorem spec_Hear.tab15:rtab .any (opsOf Try.f23 15)=spec_Hear.T15:=by kernel_rfl
theorem spec_Hear.bits15:waitsOk spec_Hear.T15.2 spec_Hear.B15=true:=by kernel_rfl
def spec_Hear.T22:Bool×List (List Nat×List Nat):=(true,[([],[]),([],[]),([1],[1]),([],[]),([3],[3]),([],[]),([5],[5]),([4,6],[4,6]),([2,7],[2,7]),([],[]),([9],[9]),([],[]),([11],[11]),([],[]),([13],[13]),([12,14],[12,14]),([10,15,8],[10,15]),([8,16],[8,16]),([17],[17]),([0,18,16],[0,18]),([19,19,0,1,2,3,4,5,6,7,8,9,10,11,12,13,14,15,16,17,18,19],[0,19])])
def spec_Hear.B22:List Nat:=[0,0,2,0,8,0,32,120,254,0,512,0,2048,0,8192,30720,65534,131070,262142,524287,1048575]
theorem spec_Hear.tab22:rtab .any (opsOf Try.f23 22)=spec_Hear.T22:=by kernel_rfl
theorem spec_Hear.bits22:waitsOk spec_Hear.T22.2 spec_Hear.B22=true:=by kernel_rfl
def spec_Hear.T26:Bool×List (List Nat×List Nat):=(true,[([],[]),([],[]),([0,1],[0,1]),([],[]),([3],[3]),([2,4],[2,4]),([5],[5]),([6],[6]),([6],[6]),([7,5,0,1,2,3,4,5,6,7],[0,7])])
def spec_Hear.B26:List Nat:=[0,0,3,0,8,31,63,127,127,255]
theorem spec_Hear.tab26:rtab .any (opsOf Try.f23 26)=spec_Hear.T26:=by kernel_rfl
theorem spec_Hear.bits26:waitsOk spec_Hear.T26.2 spec_Hear.B26=true:=by kernel_rfl
theorem spec_Hear.calls (k:Nat) (a0_0:Int) (a0_1:Int) (a0_2:Int) (a0_3:Int) (a0_4:Int) (a0_5:Int) (A1:Option Addr) (c1:Nat) (l1:List (S52)) (a2:Int) (r1:List Int) (r2:Int) (r3:Bool) (w:World) (hr1:Kd.C k52 w A1 l1.length l1) (hc1:l1.length≤c1) (H:spec_Hear.f k a0_0 a0_1 a0_2 a0_3 a0_4 a0_5 l1 a2=some (r1,r2,r3)):
 Calls Try.prog 23 #[.agg #[.int .i64 a0_0, .int .i64 a0_1, .int .i64 a0_2, .int .i64 a0_3, .int .i64 a0_4, .int .i64 a0_5], .slice A1 l1.length c1, .int .i64 a2] w fun e w'=>∃v0_:Value,e= .returned (.tuple #[v0_, .int .i64 r2, .bool r3])∧Kd.R (Kd.int .u8) 5 w' w.heap.size (fun _=>True) v0_ r1∧Below w.heap.size w w':=by
 have hu28:=Try.underlying28
 have hu52:=Try.underlying52
 have HR1:=zM hr1
 have HC1:=zM hc1
 clear hr1 hc1
 have HB:=zM (Below.refl w.heap.size w)
 unfold spec_Hear.f at H
 replace H:=zY H
 obtain⟨y445,Ny445,H⟩:=H
 have HC4:=zM H
 clear H
 go_enter Try.func23,Try.ntmps23
 go_upto_region 2 with(first|((with_reducible refine gate_dst (N:=3) rfl ?_);(try(refine gate_guard (by rfl) ?_;dsimp only));refine box_event ?hg (N:=3) ?hd (cs:= #[.int .i64 a0_0, .int .i64 a0_1, .int .i64 a0_2, .int .i64 a0_3, .int .i64 a0_4, .int .i64 a0_5]) (t:=28) ?hr ?_;(case hd|hg=>rfl);(case hr=>exact zh);intro gb444 hg w5 hbox hb;have n0_:=zM (below_step zb hb);have n1_:=zM (hbox);have n2_:=zM ((zw hg (below_size zb)));have n3_:=zM n2_.out;clear HB;have HB:=n0_;have BK444:=n1_;have GW444:=n2_;have GE444:=n3_;clear n0_ n1_ n2_ n3_;clear hb hbox hg)|((with_reducible refine gate_dst (N:=25) rfl ?_);(try(refine gate_guard (by rfl) ?_;dsimp only));refine Kd.R_lit (Kd.int .u8) _ 5 ?hg (N:=25) ?hd (xs:=([]:List Int)) (inner:=[]) (ok:=fun _=>True) (okp:=fun _=>True) ?hr ?hp (fun _ hk=>hk) trivial (Below.refl _ _) (Nat.le_refl _) (by simp) ?_;(case hd|hg=>rfl);(case hr=>exact zh);(case hp=>exact(Reps.none _ _));intro v446 w6 ho7 hb hg_ hnew_;clear hg_ hnew_;(first|rw[←Ny445.out] at ho7|simp only[Int.reduceToNat,←Ny445.out] at ho7);refine zS3 (Kd.R_lower ho7 (below_size zb19)) (zNb (g:=gb444) (o:= .cells #[.int .i64 a0_0, .int .i64 a0_1, .int .i64 a0_2, .int .i64 a0_3, .int .i64 a0_4, .int .i64 a0_5] 28 (0,0)) (zn BK444) hb) (below_step zb19 hb) ?_;clear BK444 HB;intro HO447 BK444 HB;clear hb ho7))
 (try simp only[Act.put,zL1,zL2,zL3])
 go_cut [38] (fun v38 wc=>∃(kq:Nat) (x38_3:Bool),v38= .bool x38_3∧Aside0 (spec_Hear.j0 kq l1 a2 y445 x38_3 a0_0 a0_1 a0_2 a0_3 a0_4 a0_5=some (r1,r2,r3))∧Aside0 (kq≤k)∧Aside0 (Kd.R (Kd.int .u8) 5 wc w.heap.size (fun _=>True) v446 y445)∧Aside0 (wc.heap[gb444]? =some (.cells #[.int .i64 a0_0, .int .i64 a0_1, .int .i64 a0_2, .int .i64 a0_3, .int .i64 a0_4, .int .i64 a0_5] 28 (0,0)))∧Aside0 (Below w.heap.size w wc))
 case first=>
  have H:=HC4.out
  clear HC4
  replace H:=zP H
  obtain⟨t448,A8,H⟩:=H
  by_cases c9:t448=true
  case neg=>
   replace c9:=Bool.eq_false_iff.mpr c9
   subst c9
   rw[if_neg zFT] at H
   have H':=zM H
   clear H
   obtain⟨hcz17_0,hcz17_1,hcz17_2,hcz17_3,hcz17_4,hcz17_5,hfz17_0,hfz17_1,hfz17_2,hfz17_3,hfz17_4,hfz17_5⟩:=zc6 BK444.out
   go_wp2_with (first|((with_reducible refine gate_callee (f:=29) rfl ?_);refine goesL_ (some 27) rfl rfl Try.func29 ze rfl #[.agg #[.int .i64 a0_0, .int .i64 a0_1, .int .i64 a0_2, .int .i64 a0_3, .int .i64 a0_4, .int .i64 a0_5]] rfl zg ?_;(with_reducible refine(spec_ModemOk.calls a0_0 a0_1 a0_2 a0_3 a0_4 a0_5 false _ A8.out).mono ?_);rintro e w18 ⟨rfl,hb⟩;refine⟨_,rfl,?_⟩;refine zS3 (Kd.R_below (zr HO447) hb) (zNb (g:=gb444) (o:= .cells #[.int .i64 a0_0, .int .i64 a0_1, .int .i64 a0_2, .int .i64 a0_3, .int .i64 a0_4, .int .i64 a0_5] 28 (0,0)) (zn BK444) hb) (below_step zb19 hb) ?_;clear HO447 BK444 HB;intro HO447 BK444 HB;(try clear hb);(try clear hb2);(try clear hk);(try clear hi)))
   go_meet
   case rel=>exact⟨_,(true),zs,H',⟨zo⟩,⟨zr HO447⟩,⟨zn BK444⟩,⟨zb19⟩⟩
  subst c9
  rw[if_pos rfl] at H
  replace H:=zP H
  obtain⟨t449,A10,H⟩:=H
  by_cases c11:t449=true
  case neg=>
   replace c11:=Bool.eq_false_iff.mpr c11
   subst c11
   rw[if_neg zFT] at H
   have H':=zM H
   clear H
   obtain⟨hcz15_0,hcz15_1,hcz15_2,hcz15_3,hcz15_4,hcz15_5,hfz15_0,hfz15_1,hfz15_2,hfz15_3,hfz15_4,hfz15_5⟩:=zc6 BK444.out
   go_wp2_with (first|((with_reducible refine gate_callee (f:=29) rfl ?_);refine goesL_ (some 27) rfl rfl Try.func29 ze rfl #[.agg #[.int .i64 a0_0, .int .i64 a0_1, .int .i64 a0_2, .int .i64 a0_3, .int .i64 a0_4, .int .i64 a0_5]] rfl zg ?_;(with_reducible refine(spec_ModemOk.calls a0_0 a0_1 a0_2 a0_3 a0_4 a0_5 true _ A8.out).mono ?_);rintro e w16 ⟨rfl,hb⟩;refine⟨_,rfl,?_⟩;refine zS3 (Kd.R_below (zr HO447) hb) (zNb (g:=gb444) (o:= .cells #[.int .i64 a0_0, .int .i64 a0_1, .int .i64 a0_2, .int .i64 a0_3, .int .i64 a0_4, .int .i64 a0_5] 28 (0,0)) (zn BK444) hb) (below_step zb19 hb) ?_;clear HO447 BK444 HB;intro HO447 BK444 HB;(try clear hb);(try clear hb2);(try clear hk);(try clear hi))|(go_at_call 63;(with_reducible refine(spec_l18Burst.calls k _ _ l1 false _ ?side1 ?side2 A10.out).mono ?_);(case side1=>exact zc (Kd.C_below HR1.out HB.out));(case side2=>exact HC1.out);rintro e w' ⟨rfl,⟨nd,rfl⟩⟩))
   go_meet
   case rel=>exact⟨_,(true),zs,H',⟨zo⟩,⟨zr HO447⟩,⟨zn BK444⟩,⟨zb19⟩⟩
  subst c11
  rw[if_pos rfl] at H
  replace H:=zP H
  obtain⟨t450,A12,H⟩:=H
  have H':=zM H
  clear H
  obtain⟨hcz13_0,hcz13_1,hcz13_2,hcz13_3,hcz13_4,hcz13_5,hfz13_0,hfz13_1,hfz13_2,hfz13_3,hfz13_4,hfz13_5⟩:=zc6 BK444.out
  go_wp2_with (first|((with_reducible refine gate_callee (f:=29) rfl ?_);refine goesL_ (some 27) rfl rfl Try.func29 ze rfl #[.agg #[.int .i64 a0_0, .int .i64 a0_1, .int .i64 a0_2, .int .i64 a0_3, .int .i64 a0_4, .int .i64 a0_5]] rfl zg ?_;(with_reducible refine(spec_ModemOk.calls a0_0 a0_1 a0_2 a0_3 a0_4 a0_5 true _ A8.out).mono ?_);rintro e w14 ⟨rfl,hb⟩;refine⟨_,rfl,?_⟩;refine zS3 (Kd.R_below (zr HO447) hb) (zNb (g:=gb444) (o:= .cells #[.int .i64 a0_0, .int .i64 a0_1, .int .i64 a0_2, .int .i64 a0_3, .int .i64 a0_4, .int .i64 a0_5] 28 (0,0)) (zn BK444) hb) (below_step zb19 hb) ?_;clear HO447 BK444 HB;intro HO447 BK444 HB;(try clear hb);(try clear hb2);(try clear hk);(try clear hi))|(go_at_call 63;(with_reducible refine(spec_l18Burst.calls k _ _ l1 true _ ?side1 ?side2 A10.out).mono ?_);(case side1=>exact zc (Kd.C_below HR1.out HB.out));(case side2=>exact HC1.out);rintro e w' ⟨rfl,⟨nd,rfl⟩⟩)|(go_at_call 30;(with_reducible refine(spec_l1In.calls a2 1 40 t450 _ A12.out).mono ?_);rintro e w' ⟨rfl,⟨nd,rfl⟩⟩))
  go_meet
  case rel=>exact⟨_,(!t450),zs,H',⟨zo⟩,⟨zr HO447⟩,⟨zn BK444⟩,⟨zb19⟩⟩
 case rest =>
  as_aux_lemma=>
  clear HC4
  try clear c1
  try clear c2
  try clear p2
  try clear c9
  try clear c11
  try clear hcz13_0
  try clear hcz13_1
  try clear hcz13_2
  try clear hcz13_3
  try clear hcz13_4
  try clear hcz13_5
  try clear hcz15_0
  try clear hcz15_1
  try clear hcz15_2
  try clear hcz15_3
  try clear hcz15_4
  try clear hcz15_5
  try clear hcz17_0
  try clear hcz17_1
  try clear hcz17_2
  try clear hcz17_3
  try clear hcz17_4
  try clear hcz17_5
  try clear hfz13_0
  try clear hfz13_1
  try clear hfz13_2
  try clear hfz13_3
  try clear hfz13_4
  try clear hfz13_5
  try clear hfz15_0
  try clear hfz15_1
  try clear hfz15_2
  try clear hfz15_3
  try clear hfz15_4
  try clear hfz15_5
  try clear hfz17_0
  try clear hfz17_1
  try clear hfz17_2
  try clear hfz17_3
  try clear hfz17_4
  try clear hfz17_5
  obtain⟨kq,x38_3,rfl,HA,HJ3,HO_9,BK444,HB⟩:=hcut
  cases kq with
  |zero=>exact absurd HA.out (by simp[spec_Hear.j0])
  | succ kj3=>
   have H:=HA.out
   clear HA
   simp only[spec_Hear.j0] at H
   by_cases c19:x38_3=true
   case pos=>
    subst c19
    rw[if_pos rfl] at H
    simp only[Option.some.injEq,Prod.mk.injEq] at H
    obtain⟨rfl,rfl,rfl⟩:=H
    go_wp2
    go_ret3
    exact⟨_,zq,zr HO_9,zb19⟩
   replace c19:=Bool.eq_false_iff.mpr c19
   subst c19
   rw[if_neg zFT] at H
   replace H:=zP H
   obtain⟨t451,A20,H⟩:=H
   replace H:=zI2 H
   rcases H with⟨c21,H⟩|⟨c21,H⟩
   case inl=>
    exact absurd H (by simp)
   have c21b0:(a0_0==0)=false:=beq_eq_false_iff_ne.mpr c21
   have c21b1:(a0_0 != 0)=true:=bne_iff_ne.mpr c21
   have HC22:=zM H
   clear H
   obtain⟨hcz23_0,hcz23_1,hcz23_2,hcz23_3,hcz23_4,hcz23_5,hfz23_0,hfz23_1,hfz23_2,hfz23_3,hfz23_4,hfz23_5⟩:=zc6 BK444.out
   go_upto_region 7 with(first|((with_reducible refine gate_callee (f:=64) rfl ?_);refine goesL_ (some 42) rfl rfl Try.func64 ze rfl #[.agg #[.int .i64 a0_0, .int .i64 a0_1, .int .i64 a0_2, .int .i64 a0_3, .int .i64 a0_4, .int .i64 a0_5], .slice A1 l1.length c1] rfl zg ?_;(with_reducible refine(spec_l18Begin.calls kj3 a0_0 a0_1 a0_2 a0_3 a0_4 a0_5 _ _ l1 t451 _ ?side1 ?side2 A20.out).mono ?_);(case side1=>exact zc (Kd.C_below HR1.out HB.out));(case side2=>exact HC1.out);rintro e w24 ⟨rfl,hb⟩;refine⟨_,rfl,?_⟩;refine zS3 (Kd.R_below (zr HO_9) hb) (zNb (g:=gb444) (o:= .cells #[.int .i64 a0_0, .int .i64 a0_1, .int .i64 a0_2, .int .i64 a0_3, .int .i64 a0_4, .int .i64 a0_5] 28 (0,0)) (zn BK444) hb) (below_step zb19 hb) ?_;clear HO_9 BK444 HB;intro HO_9 BK444 HB;(try clear hb);(try clear hb2);(try clear hk);(try clear hi);obtain⟨hcz25_0,hcz25_1,hcz25_2,hcz25_3,hcz25_4,hcz25_5,hfz25_0,hfz25_1,hfz25_2,hfz25_3,hfz25_4,hfz25_5⟩:=zc6 BK444.out))
   (try simp only[Act.put,zL1,zL2,zL3])
   go_cut [70] (fun v70 wc=>∃(kq:Nat) (x70_21:Bool),v70= .bool x70_21∧Aside0 (spec_Hear.j1 kq l1 a2 y445 t451 (wrap64 (8*(wrap64 (a2+(wrap64 (2*a0_1)))))) (wrap64 (Int.tdiv (wrap64 ((wrap64 ((wrap64 (8*(wrap64 (a2+(wrap64 (2*a0_1))))))+a0_0))-1)) a0_0)) x70_21 a0_0 a0_1 a0_2 a0_3 a0_4 a0_5=some (r1,r2,r3))∧Aside0 (kq≤kj3)∧Aside0 (Kd.R (Kd.int .u8) 5 wc w.heap.size (fun _=>True) v446 y445)∧Aside0 (wc.heap[gb444]? =some (.cells #[.int .i64 a0_0, .int .i64 a0_1, .int .i64 a0_2, .int .i64 a0_3, .int .i64 a0_4, .int .i64 a0_5] 28 (0,0)))∧Aside0 (Below w.heap.size w wc))
   case first=>
    have H:=HC22.out
    clear HC22
    replace H:=zI2 H
    rcases H with⟨c26,H⟩|⟨c26,H⟩
    case inl=>
     have c26b0:=zE c26
     clear c26
     (first|rw[c26b0]|(simp only[i64_w,i32_w];rw[c26b0])|skip)
     have H':=zM H
     clear H
     go_wp2
     go_meet
     case rel=>exact⟨_,(true),zs,H',⟨by have:=HJ3.out;first|omega|exact Nat.le_refl _⟩,⟨zr HO_9⟩,⟨zn BK444⟩,⟨zb19⟩⟩
    have c26b0:=decide_eq_false c26
    clear c26
    (first|rw[c26b0]|(simp only[i64_w,i32_w];rw[c26b0])|skip)
    have H':=zM H
    clear H
    obtain⟨hcz27_0,hcz27_1,hcz27_2,hcz27_3,hcz27_4,hcz27_5,hfz27_0,hfz27_1,hfz27_2,hfz27_3,hfz27_4,hfz27_5⟩:=zc6 BK444.out
    go_wp2
    go_meet
    case rel=>exact⟨_,(decide ((wrap64 (t451+(wrap64 (a0_4*(wrap64 ((wrap64 (Int.tdiv (wrap64 ((wrap64 ((wrap64 (8*(wrap64 (a2+(wrap64 (2*a0_1))))))+a0_0))-1)) a0_0))+1))))))>(l1.length:Int))),zs,H',⟨by have:=HJ3.out;first|omega|exact Nat.le_refl _⟩,⟨zr HO_9⟩,⟨zn BK444⟩,⟨zb19⟩⟩
   case rest=>
    as_aux_lemma=>
    clear HC22
    try clear c1
    try clear c2
    try clear p2
    try clear c6
    try clear p6
    try clear c9
    try clear c11
    try clear c19
    try clear c21
    try clear c21b0
    try clear c21b1
    try clear c23
    try clear c26
    try clear c26b0
    try clear hcz13_0
    try clear hcz13_1
    try clear hcz13_2
    try clear hcz13_3
    try clear hcz13_4
    try clear hcz13_5
    try clear hcz15_0
    try clear hcz15_1
    try clear hcz15_2
    try clear hcz15_3
    try clear hcz15_4
    try clear hcz15_5
    try clear hcz17_0
    try clear hcz17_1
    try clear hcz17_2
    try clear hcz17_3
    try clear hcz17_4
    try clear hcz17_5
    try clear hcz23_0
    try clear hcz23_1
    try clear hcz23_2
    try clear hcz23_3
    try clear hcz23_4
    try clear hcz23_5
    try clear hcz25_0
    try clear hcz25_1
    try clear hcz25_2
    try clear hcz25_3
    try clear hcz25_4
    try clear hcz25_5
    try clear hcz27_0
    try clear hcz27_1
    try clear hcz27_2
    try clear hcz27_3
    try clear hcz27_4
    try clear hcz27_5
    try clear hfz13_0
    try clear hfz13_1
    try clear hfz13_2
    try clear hfz13_3
    try clear hfz13_4
    try clear hfz13_5
    try clear hfz15_0
    try clear hfz15_1
    try clear hfz15_2
    try clear hfz15_3
    try clear hfz15_4
    try clear hfz15_5
    try clear hfz17_0
    try clear hfz17_1
    try clear hfz17_2
    try clear hfz17_3
    try clear hfz17_4
    try clear hfz17_5
    try clear hfz23_0
    try clear hfz23_1
    try clear hfz23_2
    try clear hfz23_3
    try clear hfz23_4
    try clear hfz23_5
    try clear hfz25_0
    try clear hfz25_1
    try clear hfz25_2
    try clear hfz25_3
    try clear hfz25_4
    try clear hfz25_5
    try clear hfz27_0
    try clear hfz27_1
    try clear hfz27_2
    try clear hfz27_3
    try clear hfz27_4
    try clear hfz27_5
    try clear p2
    obtain⟨kq,x70_21,rfl,HA,HJ21,HO_9,BK444,HB⟩:=hcut
    cases kq with
    |zero=>exact absurd HA.out (by simp[spec_Hear.j1])
    | succ kj21=>
     have H:=HA.out
     clear HA
     simp only[spec_Hear.j1] at H
     by_cases c28:x70_21=true
     case pos=>
      subst c28
      rw[if_pos rfl] at H
      simp only[Option.some.injEq,Prod.mk.injEq] at H
      obtain⟨rfl,rfl,rfl⟩:=H
      go_wp2
      go_ret3
      exact⟨_,zq,zr HO_9,zb19⟩
     replace c28:=Bool.eq_false_iff.mpr c28
     subst c28
     rw[if_neg zFT] at H
     replace H:=zP H
     obtain⟨⟨t452,t453⟩,A29,H⟩:=H
     dsimp only at H
     have HC30:=zM H
     clear H
     obtain⟨hcz31_0,hcz31_1,hcz31_2,hcz31_3,hcz31_4,hcz31_5,hfz31_0,hfz31_1,hfz31_2,hfz31_3,hfz31_4,hfz31_5⟩:=zc6 BK444.out
     go_upto_block 0 with(first|((with_reducible refine gate_callee (f:=65) rfl ?_);refine goesL_ (some 76) rfl rfl Try.func65 ze rfl #[.slice A1 l1.length c1, .int .i64 t451, .int .i64 a0_4] rfl zg ?_;(with_reducible refine(spec_l18Sum.calls kj21 _ _ l1 t451 a0_4 t452 t453 _ ?side1 ?side2 A29.out).mono ?_);(case side1=>exact zc (Kd.C_below HR1.out HB.out));(case side2=>exact HC1.out);rintro e w32 ⟨rfl,hb⟩;refine⟨_,rfl,?_⟩;refine zS3 (Kd.R_below (zr HO_9) hb) (zNb (g:=gb444) (o:= .cells #[.int .i64 a0_0, .int .i64 a0_1, .int .i64 a0_2, .int .i64 a0_3, .int .i64 a0_4, .int .i64 a0_5] 28 (0,0)) (zn BK444) hb) (below_step zb19 hb) ?_;clear HO_9 BK444 HB;intro HO_9 BK444 HB;(try clear hb);(try clear hb2);(try clear hk);(try clear hi))|((with_reducible refine gate_dst (N:=13) rfl ?_);(try(refine gate_guard (by rfl) ?_;dsimp only));refine box_event ?hg (N:=13) ?hd (cs:= #[.int .i64 0, .int .i64 0]) (t:=52) ?hr ?_;(case hd|hg=>rfl);(case hr=>exact zh);intro gb454 hg w33 hbox hb;have n0_:=zM (Kd.R_below (zr HO_9) hb);have n1_:=zM (zNb (g:=gb444) (o:= .cells #[.int .i64 a0_0, .int .i64 a0_1, .int .i64 a0_2, .int .i64 a0_3, .int .i64 a0_4, .int .i64 a0_5] 28 (0,0)) (zn BK444) hb);have n2_:=zM (below_step zb19 hb);have n3_:=zM (hbox);have n4_:=zM ((zw hg (below_size zb19)));have n5_:=zM n4_.out;have n6_:=zM ((by rw[hg];exact Nat.ne_of_lt (by simpa using blk_lt BK444.out):gb444≠gb454));have n7_:=zM ((by rw[hg];exact Nat.ne_of_gt (by simpa using blk_lt BK444.out):gb454≠gb444));clear HO_9;clear BK444;clear HB;have HO_9:=n0_;have BK444:=n1_;have HB:=n2_;have BK454:=n3_;have GW454:=n4_;have GE454:=n5_;have NB444_454:=n6_;have NB454_444:=n7_;clear n0_ n1_ n2_ n3_ n4_ n5_ n6_ n7_;clear hb hbox hg;have hnb34:=NB454_444.out;have hnc34:=NB444_454.out;obtain⟨hcz35_0,hcz35_1,hfz35_0,hfz35_1⟩:=zc2 BK454.out))
     (try simp only[Act.put,zL1,zL2,zL3])
     go_cut [14] (fun v14 wc=>∃(kq:Nat) (x14_29:Int),v14= .int .i64 x14_29∧Aside0 (spec_Hear.j4 kq l1 a2 y445 t451 (wrap64 (8*(wrap64 (a2+(wrap64 (2*a0_1)))))) (wrap64 (Int.tdiv (wrap64 ((wrap64 ((wrap64 (8*(wrap64 (a2+(wrap64 (2*a0_1))))))+a0_0))-1)) a0_0)) x14_29 a0_0 a0_1 a0_2 a0_3 a0_4 a0_5=some (r1,r2,r3))∧Aside0 (kq≤kj21)∧Aside0 (Kd.R (Kd.int .u8) 5 wc w.heap.size (fun _=>True) v446 y445)∧Aside0 (wc.heap[gb444]? =some (.cells #[.int .i64 a0_0, .int .i64 a0_1, .int .i64 a0_2, .int .i64 a0_3, .int .i64 a0_4, .int .i64 a0_5] 28 (0,0)))∧Aside0 (wc.heap[gb454]? =some (.cells #[.int .i64 t452, .int .i64 t453] 52 (0,0)))∧Aside0 (Below w.heap.size w wc))
     case first=>
      have H:=HC30.out
      clear HC30
      have HC36:=zM H
      clear H
      go_upto_region 11 with(fail)
      go_cut [77] (fun v77 wc=>∃(kq:Nat) (x77_35:Bool),v77= .bool x77_35∧Aside0 (spec_Hear.j2 kq l1 a2 y445 t451 (wrap64 (8*(wrap64 (a2+(wrap64 (2*a0_1)))))) (wrap64 (Int.tdiv (wrap64 ((wrap64 ((wrap64 (8*(wrap64 (a2+(wrap64 (2*a0_1))))))+a0_0))-1)) a0_0)) 0 x77_35 a0_0 a0_1 a0_2 a0_3 a0_4 a0_5 t452 t453=some (r1,r2,r3))∧Aside0 (kq≤kj21)∧Aside0 (Kd.R (Kd.int .u8) 5 wc w.heap.size (fun _=>True) v446 y445)∧Aside0 (wc.heap[gb444]? =some (.cells #[.int .i64 a0_0, .int .i64 a0_1, .int .i64 a0_2, .int .i64 a0_3, .int .i64 a0_4, .int .i64 a0_5] 28 (0,0)))∧Aside0 (wc.heap[gb454]? =some (.cells #[.int .i64 t452, .int .i64 t453] 52 (0,0)))∧Aside0 (Below w.heap.size w wc))
      case first=>
       have H:=HC36.out
       clear HC36
       replace H:=zP H
       obtain⟨t455,A37,H⟩:=H
       replace H:=zP H
       obtain⟨t456,A38,H⟩:=H
       replace H:=zI2 H
       rcases H with⟨c39,H⟩|⟨c39,H⟩
       case inr=>
        have c39b0:decide (t456≤t455)=false:=decide_eq_false c39
        clear c39
        (first|rw[c39b0]|(simp only[i64_w,i32_w];rw[c39b0])|skip)
        have H':=zM H
        clear H
        try go_wp2
        have n0_:Aside0 (Kd.R (Kd.int .u8) 5 ((w33.setCell ⟨gb454,0,none⟩ (.int .i64 t452)).setCell ⟨gb454,1,none⟩ (.int .i64 t453)) w.heap.size (fun _=>True) v446 y445):=⟨by(with_reducible repeat(first|apply zRa|apply zRn|apply zRd));exact Kd.R_mono (Kd.R_far (p:=⟨gb454,1,none⟩) (Kd.R_far (p:=⟨gb454,0,none⟩) (Kd.R_types HO_9.out BK454.out (by decide)) (fun _ hk=>hk.2) (.int .i64 t452)) (fun _ hk=>hk.2) (.int .i64 t453)) (fun _ hk=>trivial)⟩
        have n1_:Aside0 (((w33.setCell ⟨gb454,0,none⟩ (.int .i64 t452)).setCell ⟨gb454,1,none⟩ (.int .i64 t453)).heap[gb444]? =some (.cells #[.int .i64 a0_0, .int .i64 a0_1, .int .i64 a0_2, .int .i64 a0_3, .int .i64 a0_4, .int .i64 a0_5] 28 (0,0))):=⟨by(with_reducible repeat(first|apply zNn|apply zNd|apply zNa));refine zNf ?_ NB444_454.out _;(with_reducible repeat(first|apply zNn|apply zNd|apply zNa));refine zNf ?_ NB444_454.out _;(with_reducible repeat(first|apply zNn|apply zNd|apply zNa));exact BK444.out⟩
        have n2_:Aside0 (((w33.setCell ⟨gb454,0,none⟩ (.int .i64 t452)).setCell ⟨gb454,1,none⟩ (.int .i64 t453)).heap[gb454]? =some (.cells #[.int .i64 t452, .int .i64 t453] 52 (0,0))):=⟨by(with_reducible repeat(first|apply zNn|apply zNd|apply zNa));refine blk_put (cs:= #[.int .i64 t452, .int .i64 0]) ?_ 1 _ rfl;(with_reducible repeat(first|apply zNn|apply zNd|apply zNa));refine blk_put (cs:= #[.int .i64 0, .int .i64 0]) ?_ 0 _ rfl;(with_reducible repeat(first|apply zNn|apply zNd|apply zNa));exact BK454.out⟩
        have n3_:Aside0 (Below w.heap.size w ((w33.setCell ⟨gb454,0,none⟩ (.int .i64 t452)).setCell ⟨gb454,1,none⟩ (.int .i64 t453))):=⟨zb20⟩
        (try clear HO_9)
        (try clear BK444)
        (try clear BK454)
        (try clear HB)
        generalize ((w33.setCell ⟨gb454,0,none⟩ (.int .i64 t452)).setCell ⟨gb454,1,none⟩ (.int .i64 t453))=w42 at n0_ n1_ n2_ n3_ ⊢
        have HO_9:=n0_
        have BK444:=n1_
        have BK454:=n2_
        have HB:=n3_
        clear n0_ n1_ n2_ n3_
        refine zS4 (zRd HO_9.out) (zNd BK444.out) (zNd BK454.out) (zBd HB.out) ?_
        clear HO_9 BK444 BK454 HB
        intro HO_9 BK444 BK454 HB
        refine start_ (n:=13) (S:=fun w'=>w'.cell? ⟨gb454,0,none⟩=some (.int .i64 t452)∧w'.cell? ⟨gb454,1,none⟩=some (.int .i64 t453)) (ds:=[]) #[zf,zf,zf,zf,zf,zf,zf,zf,zf,zf,zf,zf,zf] ze rfl rfl ⟨(blk_cell BK454.out 0).trans rfl,(blk_cell BK454.out 1).trans rfl⟩ (fun hHeld=> ?_);refine with_tabW spec_Hear.tab11 spec_Hear.bits11 (fun HT_ HW_=> ?_)
        generalize w42.drew=w43 at HO_9 BK444 BK454 HB hHeld ⊢
        refine zu 0 78 ?_
        refine zu 3 81 ?_
        refine zt2 1 79 ?_
        refine zt2 4 82 ?_
        refine one_ (i:=2) (N:=some 80) #[zt,zt,zt,zt,zt,zf,zf,zf,zf,zf,zf,zf,zf] rfl rfl (one_of HT_.out ze) (by decide) (fun K hK=> ?_)
        refine goes_ Try.func66 ze rfl #[.int .i64 t452] (by rfl) rfl rfl zg ?_
        with_reducible refine(spec_l18Size.calls t452 t455 _ A37.out).mono ?_
        rintro e w' ⟨rfl,⟨nd,rfl⟩⟩
        refine⟨_,rfl,?_⟩
        refine hK.out _ _ ⟨(blk_cell BK454.out 0).trans rfl,(blk_cell BK454.out 1).trans rfl⟩ (fun hHeld=> ?_)
        clear hK K
        refine norm_ (a':= ?_) ?_ ?_
        rotate_left
        ·show Act.put _ (some 80) _=_
         simp only[Act.put,zL1,zL2,zL3,i64_w,i32_w]
         rfl
        refine one_ (i:=5) (N:=some 83) #[zt,zt,zt,zt,zt,zt,zf,zf,zf,zf,zf,zf,zf] rfl rfl (one_of HT_.out ze) (by decide) (fun K hK=> ?_)
        refine goes_ Try.func66 ze rfl #[.int .i64 t453] (by rfl) rfl rfl zg ?_
        with_reducible refine(spec_l18Size.calls t453 t456 _ A38.out).mono ?_
        rintro e w' ⟨rfl,⟨nd,rfl⟩⟩
        refine⟨_,rfl,?_⟩
        refine hK.out _ _ ⟨(blk_cell BK454.out 0).trans rfl,(blk_cell BK454.out 1).trans rfl⟩ (fun hHeld=> ?_)
        clear hK K
        refine norm_ (a':= ?_) ?_ ?_
        rotate_left
        ·show Act.put _ (some 83) _=_
         simp only[Act.put,zL1,zL2,zL3,i64_w,i32_w]
         rfl
        refine zu 6 84 ?_
        refine zu 7 85 ?_
        refine pure_ (i:=8) (N:=some 86) (v:=undef) (a':= ?_) #[zt,zt,zt,zt,zt,zt,zt,zt,zt,zf,zf,zf,zf] rfl rfl (any_of HT_.out ze) (fun _ _ _ h=>h) (Or.inr ⟨by rfl,rfl⟩) ?_ ?_
        rotate_left
        ·simp only[Act.put,zL1,zL2,zL3,i64_w,i32_w]
         rfl
        refine pure_ (i:=9) (N:=some 87) (v:=undef) (a':= ?_) #[zt,zt,zt,zt,zt,zt,zt,zt,zt,zt,zf,zf,zf] rfl rfl (any_of HT_.out ze) (fun _ _ _ h=>h) (Or.inr ⟨by rfl,rfl⟩) ?_ ?_
        rotate_left
        ·simp only[Act.put,zL1,zL2,zL3,i64_w,i32_w]
         rfl
        refine pure_ (i:=10) (N:=some 88) (v:=undef) (a':= ?_) #[zt,zt,zt,zt,zt,zt,zt,zt,zt,zt,zt,zf,zf] rfl rfl (any_of HT_.out ze) (fun _ _ _ h=>h) (Or.inr ⟨by rfl,rfl⟩) ?_ ?_
        rotate_left
        ·simp only[Act.put,zL1,zL2,zL3,i64_w,i32_w]
         rfl
        refine zu 11 89 ?_
        refine zu 12 77 ?_
        refine done_ (done_of HT_.out ze) ?_
        try go_wp2
        go_meet
        case rel=>exact⟨_,(false),zs,H',⟨by have:=HJ3.out;have:=HJ21.out;first|omega|exact Nat.le_refl _⟩,⟨zr HO_9⟩,⟨zn BK444⟩,⟨zn BK454⟩,⟨zb20⟩⟩
       have c39b0:decide (t456≤t455)=true:=zE c39
       clear c39
       (first|rw[c39b0]|(simp only[i64_w,i32_w];rw[c39b0])|skip)
       have H':=zM H
       clear H
       try go_wp2
       have n0_:Aside0 (Kd.R (Kd.int .u8) 5 ((w33.setCell ⟨gb454,0,none⟩ (.int .i64 t452)).setCell ⟨gb454,1,none⟩ (.int .i64 t453)) w.heap.size (fun _=>True) v446 y445):=⟨by(with_reducible repeat(first|apply zRa|apply zRn|apply zRd));exact Kd.R_mono (Kd.R_far (p:=⟨gb454,1,none⟩) (Kd.R_far (p:=⟨gb454,0,none⟩) (Kd.R_types HO_9.out BK454.out (by decide)) (fun _ hk=>hk.2) (.int .i64 t452)) (fun _ hk=>hk.2) (.int .i64 t453)) (fun _ hk=>trivial)⟩
       have n1_:Aside0 (((w33.setCell ⟨gb454,0,none⟩ (.int .i64 t452)).setCell ⟨gb454,1,none⟩ (.int .i64 t453)).heap[gb444]? =some (.cells #[.int .i64 a0_0, .int .i64 a0_1, .int .i64 a0_2, .int .i64 a0_3, .int .i64 a0_4, .int .i64 a0_5] 28 (0,0))):=⟨by(with_reducible repeat(first|apply zNn|apply zNd|apply zNa));refine zNf ?_ NB444_454.out _;(with_reducible repeat(first|apply zNn|apply zNd|apply zNa));refine zNf ?_ NB444_454.out _;(with_reducible repeat(first|apply zNn|apply zNd|apply zNa));exact BK444.out⟩
       have n2_:Aside0 (((w33.setCell ⟨gb454,0,none⟩ (.int .i64 t452)).setCell ⟨gb454,1,none⟩ (.int .i64 t453)).heap[gb454]? =some (.cells #[.int .i64 t452, .int .i64 t453] 52 (0,0))):=⟨by(with_reducible repeat(first|apply zNn|apply zNd|apply zNa));refine blk_put (cs:= #[.int .i64 t452, .int .i64 0]) ?_ 1 _ rfl;(with_reducible repeat(first|apply zNn|apply zNd|apply zNa));refine blk_put (cs:= #[.int .i64 0, .int .i64 0]) ?_ 0 _ rfl;(with_reducible repeat(first|apply zNn|apply zNd|apply zNa));exact BK454.out⟩
       have n3_:Aside0 (Below w.heap.size w ((w33.setCell ⟨gb454,0,none⟩ (.int .i64 t452)).setCell ⟨gb454,1,none⟩ (.int .i64 t453))):=⟨zb20⟩
       (try clear HO_9)
       (try clear BK444)
       (try clear BK454)
       (try clear HB)
       generalize ((w33.setCell ⟨gb454,0,none⟩ (.int .i64 t452)).setCell ⟨gb454,1,none⟩ (.int .i64 t453))=w40 at n0_ n1_ n2_ n3_ ⊢
       have HO_9:=n0_
       have BK444:=n1_
       have BK454:=n2_
       have HB:=n3_
       clear n0_ n1_ n2_ n3_
       refine zS4 (zRd HO_9.out) (zNd BK444.out) (zNd BK454.out) (zBd HB.out) ?_
       clear HO_9 BK444 BK454 HB
       intro HO_9 BK444 BK454 HB
       refine start_ (n:=13) (S:=fun w'=>w'.cell? ⟨gb454,0,none⟩=some (.int .i64 t452)∧w'.cell? ⟨gb454,1,none⟩=some (.int .i64 t453)) (ds:=[]) #[zf,zf,zf,zf,zf,zf,zf,zf,zf,zf,zf,zf,zf] ze rfl rfl ⟨(blk_cell BK454.out 0).trans rfl,(blk_cell BK454.out 1).trans rfl⟩ (fun hHeld=> ?_);refine with_tabW spec_Hear.tab11 spec_Hear.bits11 (fun HT_ HW_=> ?_)
       generalize w40.drew=w41 at HO_9 BK444 BK454 HB hHeld ⊢
       refine zu 0 78 ?_
       refine zu 3 81 ?_
       refine zt2 1 79 ?_
       refine zt2 4 82 ?_
       refine one_ (i:=2) (N:=some 80) #[zt,zt,zt,zt,zt,zf,zf,zf,zf,zf,zf,zf,zf] rfl rfl (one_of HT_.out ze) (by decide) (fun K hK=> ?_)
       refine goes_ Try.func66 ze rfl #[.int .i64 t452] (by rfl) rfl rfl zg ?_
       with_reducible refine(spec_l18Size.calls t452 t455 _ A37.out).mono ?_
       rintro e w' ⟨rfl,⟨nd,rfl⟩⟩
       refine⟨_,rfl,?_⟩
       refine hK.out _ _ ⟨(blk_cell BK454.out 0).trans rfl,(blk_cell BK454.out 1).trans rfl⟩ (fun hHeld=> ?_)
       clear hK K
       refine norm_ (a':= ?_) ?_ ?_
       rotate_left
       ·show Act.put _ (some 80) _=_
        simp only[Act.put,zL1,zL2,zL3,i64_w,i32_w]
        rfl
       refine one_ (i:=5) (N:=some 83) #[zt,zt,zt,zt,zt,zt,zf,zf,zf,zf,zf,zf,zf] rfl rfl (one_of HT_.out ze) (by decide) (fun K hK=> ?_)
       refine goes_ Try.func66 ze rfl #[.int .i64 t453] (by rfl) rfl rfl zg ?_
       with_reducible refine(spec_l18Size.calls t453 t456 _ A38.out).mono ?_
       rintro e w' ⟨rfl,⟨nd,rfl⟩⟩
       refine⟨_,rfl,?_⟩
       refine hK.out _ _ ⟨(blk_cell BK454.out 0).trans rfl,(blk_cell BK454.out 1).trans rfl⟩ (fun hHeld=> ?_)
       clear hK K
       refine norm_ (a':= ?_) ?_ ?_
       rotate_left
       ·show Act.put _ (some 83) _=_
        simp only[Act.put,zL1,zL2,zL3,i64_w,i32_w]
        rfl
       refine zu 6 84 ?_
       refine zu 7 85 ?_
       refine zu 8 86 ?_
       refine zt2 9 87 ?_
       refine zu 10 88 ?_
       refine zu 11 89 ?_
       refine zu 12 77 ?_
       refine done_ (done_of HT_.out ze) ?_
       try go_wp2
       go_meet
       case rel=>exact⟨_,(decide (t452≤0)),zs,H',⟨by have:=HJ3.out;have:=HJ21.out;first|omega|exact Nat.le_refl _⟩,⟨zr HO_9⟩,⟨zn BK444⟩,⟨zn BK454⟩,⟨zb20⟩⟩
      case rest=>
       as_aux_lemma=>
       clear HC36
       try clear c1
       try clear c2
       try clear p2
       try clear c3
       try clear c6
       try clear p6
       try clear c9
       try clear c11
       try clear c19
       try clear c21
       try clear c21b0
       try clear c21b1
       try clear c23
       try clear c26
       try clear c26b0
       try clear c28
       try clear c29
       try clear c34
       try clear c39
       try clear c39b0
       try clear hcz13_0
       try clear hcz13_1
       try clear hcz13_2
       try clear hcz13_3
       try clear hcz13_4
       try clear hcz13_5
       try clear hcz15_0
       try clear hcz15_1
       try clear hcz15_2
       try clear hcz15_3
       try clear hcz15_4
       try clear hcz15_5
       try clear hcz17_0
       try clear hcz17_1
       try clear hcz17_2
       try clear hcz17_3
       try clear hcz17_4
       try clear hcz17_5
       try clear hcz23_0
       try clear hcz23_1
       try clear hcz23_2
       try clear hcz23_3
       try clear hcz23_4
       try clear hcz23_5
       try clear hcz25_0
       try clear hcz25_1
       try clear hcz25_2
       try clear hcz25_3
       try clear hcz25_4
       try clear hcz25_5
       try clear hcz27_0
       try clear hcz27_1
       try clear hcz27_2
       try clear hcz27_3
       try clear hcz27_4
       try clear hcz27_5
       try clear hcz31_0
       try clear hcz31_1
       try clear hcz31_2
       try clear hcz31_3
       try clear hcz31_4
       try clear hcz31_5
       try clear hcz35_0
       try clear hcz35_1
       try clear hfz13_0
       try clear hfz13_1
       try clear hfz13_2
       try clear hfz13_3
       try clear hfz13_4
       try clear hfz13_5
       try clear hfz15_0
       try clear hfz15_1
       try clear hfz15_2
       try clear hfz15_3
       try clear hfz15_4
       try clear hfz15_5
       try clear hfz17_0
       try clear hfz17_1
       try clear hfz17_2
       try clear hfz17_3
       try clear hfz17_4
       try clear hfz17_5
       try clear hfz23_0
       try clear hfz23_1
       try clear hfz23_2
       try clear hfz23_3
       try clear hfz23_4
       try clear hfz23_5
       try clear hfz25_0
       try clear hfz25_1
       try clear hfz25_2
       try clear hfz25_3
       try clear hfz25_4
       try clear hfz25_5
       try clear hfz27_0
       try clear hfz27_1
       try clear hfz27_2
       try clear hfz27_3
       try clear hfz27_4
       try clear hfz27_5
       try clear hfz31_0
       try clear hfz31_1
       try clear hfz31_2
       try clear hfz31_3
       try clear hfz31_4
       try clear hfz31_5
       try clear hfz35_0
       try clear hfz35_1
       try clear p2
       try clear p6
       obtain⟨kq,x77_35,rfl,HA,HJ35,HO_9,BK444,BK454,HB⟩:=hcut
       cases kq with
       |zero=>exact absurd HA.out (by simp[spec_Hear.j2])
       | succ kj35=>
        have H:=HA.out
        clear HA
        simp only[spec_Hear.j2] at H
        by_cases c44:x77_35=true
        case pos=>
         subst c44
         rw[if_pos rfl] at H
         have H':=zM H
         clear H
         go_wp2
         go_meet
         case rel=>exact⟨_,(2),zs,H',⟨by have:=HJ3.out;have:=HJ21.out;have:=HJ35.out;first|omega|exact Nat.le_refl _⟩,⟨zr HO_9⟩,⟨zn BK444⟩,⟨zn BK454⟩,⟨zb20⟩⟩
        replace c44:=Bool.eq_false_iff.mpr c44
        subst c44
        rw[if_neg zFT] at H
        have HC45:=zM H
        clear H
        go_upto_region 13 with(fail)
        go_cut [90] (fun v90 wc=>∃(kq:Nat) (x90_44:Bool),v90= .bool x90_44∧Aside0 (spec_Hear.j3 kq l1 a2 y445 t451 (wrap64 (8*(wrap64 (a2+(wrap64 (2*a0_1)))))) (wrap64 (Int.tdiv (wrap64 ((wrap64 ((wrap64 (8*(wrap64 (a2+(wrap64 (2*a0_1))))))+a0_0))-1)) a0_0)) 0 x90_44 a0_0 a0_1 a0_2 a0_3 a0_4 a0_5 t452 t453=some (r1,r2,r3))∧Aside0 (kq≤kj35)∧Aside0 (Kd.R (Kd.int .u8) 5 wc w.heap.size (fun _=>True) v446 y445)∧Aside0 (wc.heap[gb444]? =some (.cells #[.int .i64 a0_0, .int .i64 a0_1, .int .i64 a0_2, .int .i64 a0_3, .int .i64 a0_4, .int .i64 a0_5] 28 (0,0)))∧Aside0 (wc.heap[gb454]? =some (.cells #[.int .i64 t452, .int .i64 t453] 52 (0,0)))∧Aside0 (Below w.heap.size w wc))
        case first=>
         have H:=HC45.out
         clear HC45
         replace H:=zP H
         obtain⟨t457,A46,H⟩:=H
         replace H:=zP H
         obtain⟨t458,A47,H⟩:=H
         by_cases c48:t457<t458
         case neg=>
          as_aux_lemma=>
          rw[if_neg c48] at H
          have c48b0:decide (t457<t458)=false:=decide_eq_false c48
          clear c48
          (first|rw[c48b0]|(simp only[i64_w,i32_w];rw[c48b0])|skip)
          have H':=zM H
          clear H
          try go_wp2
          refine zS4 (zRd HO_9.out) (zNd BK444.out) (zNd BK454.out) (zBd HB.out) ?_
          clear HO_9 BK444 BK454 HB
          intro HO_9 BK444 BK454 HB
          refine start_ (n:=13) (S:=fun w'=>w'.cell? ⟨gb454,0,none⟩=some (.int .i64 t452)∧w'.cell? ⟨gb454,1,none⟩=some (.int .i64 t453)) (ds:=[]) #[zf,zf,zf,zf,zf,zf,zf,zf,zf,zf,zf,zf,zf] ze rfl rfl ⟨(blk_cell BK454.out 0).trans rfl,(blk_cell BK454.out 1).trans rfl⟩ (fun hHeld=> ?_);refine with_tabW spec_Hear.tab13 spec_Hear.bits13 (fun HT_ HW_=> ?_)
          generalize wc.drew=w50 at HO_9 BK444 BK454 HB hHeld ⊢
          refine zu 0 91 ?_
          refine zu 3 94 ?_
          refine zt2 1 92 ?_
          refine zt2 4 95 ?_
          refine one_ (i:=2) (N:=some 93) #[zt,zt,zt,zt,zt,zf,zf,zf,zf,zf,zf,zf,zf] rfl rfl (one_of HT_.out ze) (by decide) (fun K hK=> ?_)
          refine goes_ Try.func66 ze rfl #[.int .i64 t452] (by rfl) rfl rfl zg ?_
          with_reducible refine(spec_l18Size.calls t452 t457 _ A46.out).mono ?_
          rintro e w' ⟨rfl,⟨nd,rfl⟩⟩
          refine⟨_,rfl,?_⟩
          refine hK.out _ _ ⟨(blk_cell BK454.out 0).trans rfl,(blk_cell BK454.out 1).trans rfl⟩ (fun hHeld=> ?_)
          clear hK K
          refine norm_ (a':= ?_) ?_ ?_
          rotate_left
          ·show Act.put _ (some 93) _=_
           simp only[Act.put,zL1,zL2,zL3,i64_w,i32_w]
           rfl
          refine one_ (i:=5) (N:=some 96) #[zt,zt,zt,zt,zt,zt,zf,zf,zf,zf,zf,zf,zf] rfl rfl (one_of HT_.out ze) (by decide) (fun K hK=> ?_)
          refine goes_ Try.func66 ze rfl #[.int .i64 t453] (by rfl) rfl rfl zg ?_
          with_reducible refine(spec_l18Size.calls t453 t458 _ A47.out).mono ?_
          rintro e w' ⟨rfl,⟨nd,rfl⟩⟩
          refine⟨_,rfl,?_⟩
          refine hK.out _ _ ⟨(blk_cell BK454.out 0).trans rfl,(blk_cell BK454.out 1).trans rfl⟩ (fun hHeld=> ?_)
          clear hK K
          refine norm_ (a':= ?_) ?_ ?_
          rotate_left
          ·show Act.put _ (some 96) _=_
           simp only[Act.put,zL1,zL2,zL3,i64_w,i32_w]
           rfl
          refine zu 6 97 ?_
          refine zu 7 98 ?_
          refine pure_ (i:=8) (N:=some 99) (v:=undef) (a':= ?_) #[zt,zt,zt,zt,zt,zt,zt,zt,zt,zf,zf,zf,zf] rfl rfl (any_of HT_.out ze) (fun _ _ _ h=>h) (Or.inr ⟨by rfl,rfl⟩) ?_ ?_
          rotate_left
          ·simp only[Act.put,zL1,zL2,zL3,i64_w,i32_w]
           rfl
          refine pure_ (i:=9) (N:=some 100) (v:=undef) (a':= ?_) #[zt,zt,zt,zt,zt,zt,zt,zt,zt,zt,zf,zf,zf] rfl rfl (any_of HT_.out ze) (fun _ _ _ h=>h) (Or.inr ⟨by rfl,rfl⟩) ?_ ?_
          rotate_left
          ·simp only[Act.put,zL1,zL2,zL3,i64_w,i32_w]
           rfl
          refine pure_ (i:=10) (N:=some 101) (v:=undef) (a':= ?_) #[zt,zt,zt,zt,zt,zt,zt,zt,zt,zt,zt,zf,zf] rfl rfl (any_of HT_.out ze) (fun _ _ _ h=>h) (Or.inr ⟨by rfl,rfl⟩) ?_ ?_
          rotate_left
          ·simp only[Act.put,zL1,zL2,zL3,i64_w,i32_w]
           rfl
          refine zu 11 102 ?_
          refine zu 12 90 ?_
          refine done_ (done_of HT_.out ze) ?_
          try go_wp2
          go_meet
          case rel=>exact⟨_,(false),zs,H',⟨by have:=HJ3.out;have:=HJ21.out;have:=HJ35.out;first|omega|exact Nat.le_refl _⟩,⟨zr HO_9⟩,⟨zn BK444⟩,⟨zn BK454⟩,⟨zb20⟩⟩
         as_aux_lemma=>
         rw[if_pos c48] at H
         have c48b0:decide (t457<t458)=true:=zE c48
         clear c48
         (first|rw[c48b0]|(simp only[i64_w,i32_w];rw[c48b0])|skip)
         have H':=zM H
         clear H
         try go_wp2
         refine zS4 (zRd HO_9.out) (zNd BK444.out) (zNd BK454.out) (zBd HB.out) ?_
         clear HO_9 BK444 BK454 HB
         intro HO_9 BK444 BK454 HB
         refine start_ (n:=13) (S:=fun w'=>w'.cell? ⟨gb454,0,none⟩=some (.int .i64 t452)∧w'.cell? ⟨gb454,1,none⟩=some (.int .i64 t453)) (ds:=[]) #[zf,zf,zf,zf,zf,zf,zf,zf,zf,zf,zf,zf,zf] ze rfl rfl ⟨(blk_cell BK454.out 0).trans rfl,(blk_cell BK454.out 1).trans rfl⟩ (fun hHeld=> ?_);refine with_tabW spec_Hear.tab13 spec_Hear.bits13 (fun HT_ HW_=> ?_)
         generalize wc.drew=w49 at HO_9 BK444 BK454 HB hHeld ⊢
         refine zu 0 91 ?_
         refine zu 3 94 ?_
         refine zt2 1 92 ?_
         refine zt2 4 95 ?_
         refine one_ (i:=2) (N:=some 93) #[zt,zt,zt,zt,zt,zf,zf,zf,zf,zf,zf,zf,zf] rfl rfl (one_of HT_.out ze) (by decide) (fun K hK=> ?_)
         refine goes_ Try.func66 ze rfl #[.int .i64 t452] (by rfl) rfl rfl zg ?_
         with_reducible refine(spec_l18Size.calls t452 t457 _ A46.out).mono ?_
         rintro e w' ⟨rfl,⟨nd,rfl⟩⟩
         refine⟨_,rfl,?_⟩
         refine hK.out _ _ ⟨(blk_cell BK454.out 0).trans rfl,(blk_cell BK454.out 1).trans rfl⟩ (fun hHeld=> ?_)
         clear hK K
         refine norm_ (a':= ?_) ?_ ?_
         rotate_left
         ·show Act.put _ (some 93) _=_
          simp only[Act.put,zL1,zL2,zL3,i64_w,i32_w]
          rfl
         refine one_ (i:=5) (N:=some 96) #[zt,zt,zt,zt,zt,zt,zf,zf,zf,zf,zf,zf,zf] rfl rfl (one_of HT_.out ze) (by decide) (fun K hK=> ?_)
         refine goes_ Try.func66 ze rfl #[.int .i64 t453] (by rfl) rfl rfl zg ?_
         with_reducible refine(spec_l18Size.calls t453 t458 _ A47.out).mono ?_
         rintro e w' ⟨rfl,⟨nd,rfl⟩⟩
         refine⟨_,rfl,?_⟩
         refine hK.out _ _ ⟨(blk_cell BK454.out 0).trans rfl,(blk_cell BK454.out 1).trans rfl⟩ (fun hHeld=> ?_)
         clear hK K
         refine norm_ (a':= ?_) ?_ ?_
         rotate_left
         ·show Act.put _ (some 96) _=_
          simp only[Act.put,zL1,zL2,zL3,i64_w,i32_w]
          rfl
         refine zu 6 97 ?_
         refine zu 7 98 ?_
         refine zu 8 99 ?_
         refine zt2 9 100 ?_
         refine zu 10 101 ?_
         refine zu 11 102 ?_
         refine zu 12 90 ?_
         refine done_ (done_of HT_.out ze) ?_
         try go_wp2
         go_meet
         case rel=>exact⟨_,(decide (t453>0)),zs,H',⟨by have:=HJ3.out;have:=HJ21.out;have:=HJ35.out;first|omega|exact Nat.le_refl _⟩,⟨zr HO_9⟩,⟨zn BK444⟩,⟨zn BK454⟩,⟨zb20⟩⟩
        case rest=>
         as_aux_lemma=>
         clear HC45
         try clear c1
         try clear c2
         try clear p2
         try clear c3
         try clear c4
         try clear c6
         try clear p6
         try clear c9
         try clear c11
         try clear c19
         try clear c21
         try clear c21b0
         try clear c21b1
         try clear c23
         try clear c26
         try clear c26b0
         try clear c28
         try clear c29
         try clear c34
         try clear c39
         try clear c39b0
         try clear c44
         try clear c48
         try clear c48b0
         try clear hcz13_0
         try clear hcz13_1
         try clear hcz13_2
         try clear hcz13_3
         try clear hcz13_4
         try clear hcz13_5
         try clear hcz15_0
         try clear hcz15_1
         try clear hcz15_2
         try clear hcz15_3
         try clear hcz15_4
         try clear hcz15_5
         try clear hcz17_0
         try clear hcz17_1
         try clear hcz17_2
         try clear hcz17_3
         try clear hcz17_4
         try clear hcz17_5
         try clear hcz23_0
         try clear hcz23_1
         try clear hcz23_2
         try clear hcz23_3
         try clear hcz23_4
         try clear hcz23_5
         try clear hcz25_0
         try clear hcz25_1
         try clear hcz25_2
         try clear hcz25_3
         try clear hcz25_4
         try clear hcz25_5
         try clear hcz27_0
         try clear hcz27_1
         try clear hcz27_2
         try clear hcz27_3
         try clear hcz27_4
         try clear hcz27_5
         try clear hcz31_0
         try clear hcz31_1
         try clear hcz31_2
         try clear hcz31_3
         try clear hcz31_4
         try clear hcz31_5
         try clear hcz35_0
         try clear hcz35_1
         try clear hfz13_0
         try clear hfz13_1
         try clear hfz13_2
         try clear hfz13_3
         try clear hfz13_4
         try clear hfz13_5
         try clear hfz15_0
         try clear hfz15_1
         try clear hfz15_2
         try clear hfz15_3
         try clear hfz15_4
         try clear hfz15_5
         try clear hfz17_0
         try clear hfz17_1
         try clear hfz17_2
         try clear hfz17_3
         try clear hfz17_4
         try clear hfz17_5
         try clear hfz23_0
         try clear hfz23_1
         try clear hfz23_2
         try clear hfz23_3
         try clear hfz23_4
         try clear hfz23_5
         try clear hfz25_0
         try clear hfz25_1
         try clear hfz25_2
         try clear hfz25_3
         try clear hfz25_4
         try clear hfz25_5
         try clear hfz27_0
         try clear hfz27_1
         try clear hfz27_2
         try clear hfz27_3
         try clear hfz27_4
         try clear hfz27_5
         try clear hfz31_0
         try clear hfz31_1
         try clear hfz31_2
         try clear hfz31_3
         try clear hfz31_4
         try clear hfz31_5
         try clear hfz35_0
         try clear hfz35_1
         try clear p2
         try clear p6
         obtain⟨kq,x90_44,rfl,HA,HJ44,HO_9,BK444,BK454,HB⟩:=hcut
         cases kq with
         |zero=>exact absurd HA.out (by simp[spec_Hear.j3])
         | succ kj44=>
          have H:=HA.out
          clear HA
          simp only[spec_Hear.j3] at H
          by_cases c51:x90_44=true
          case pos=>
           subst c51
           rw[if_pos rfl] at H
           have H':=zM H
           clear H
           go_wp2
           go_meet
           case rel=>exact⟨_,(1),zs,H',⟨by have:=HJ3.out;have:=HJ21.out;have:=HJ35.out;have:=HJ44.out;first|omega|exact Nat.le_refl _⟩,⟨zr HO_9⟩,⟨zn BK444⟩,⟨zn BK454⟩,⟨zb20⟩⟩
          replace c51:=Bool.eq_false_iff.mpr c51
          subst c51
          rw[if_neg zFT] at H
          replace H:=zP H
          obtain⟨t459,A52,H⟩:=H
          replace H:=zP H
          obtain⟨t460,A53,H⟩:=H
          replace H:=zI2 H
          rcases H with⟨c54,H⟩|⟨c54,H⟩
          case inl=>
           have c54b0:=zE c54
           clear c54
           have H':=zM H
           clear H
           try go_wp2
           refine zS4 (zRd HO_9.out) (zNd BK444.out) (zNd BK454.out) (zBd HB.out) ?_
           clear HO_9 BK444 BK454 HB
           intro HO_9 BK444 BK454 HB
           refine start_ (n:=8) (S:=fun w'=>w'.cell? ⟨gb454,0,none⟩=some (.int .i64 t452)∧w'.cell? ⟨gb454,1,none⟩=some (.int .i64 t453)) (ds:=[]) #[zf,zf,zf,zf,zf,zf,zf,zf] ze rfl rfl ⟨(blk_cell BK454.out 0).trans rfl,(blk_cell BK454.out 1).trans rfl⟩ (fun hHeld=> ?_);refine with_tabW spec_Hear.tab15 spec_Hear.bits15 (fun HT_ HW_=> ?_)
           generalize wc.drew=w55 at HO_9 BK444 BK454 HB hHeld ⊢
           refine zu 0 104 ?_
           refine zu 3 107 ?_
           refine zt2 1 105 ?_
           refine zt2 4 108 ?_
           refine one_ (i:=2) (N:=some 106) #[zt,zt,zt,zt,zt,zf,zf,zf] rfl rfl (one_of HT_.out ze) (by decide) (fun K hK=> ?_)
           refine goes_ Try.func66 ze rfl #[.int .i64 t452] (by rfl) rfl rfl zg ?_
           with_reducible refine(spec_l18Size.calls t452 t459 _ A52.out).mono ?_
           rintro e w' ⟨rfl,⟨nd,rfl⟩⟩
           refine⟨_,rfl,?_⟩
           refine hK.out _ _ ⟨(blk_cell BK454.out 0).trans rfl,(blk_cell BK454.out 1).trans rfl⟩ (fun hHeld=> ?_)
           clear hK K
           refine norm_ (a':= ?_) ?_ ?_
           rotate_left
           ·show Act.put _ (some 106) _=_
            simp only[Act.put,zL1,zL2,zL3,i64_w,i32_w]
            rfl
           refine one_ (i:=5) (N:=some 109) #[zt,zt,zt,zt,zt,zt,zf,zf] rfl rfl (one_of HT_.out ze) (by decide) (fun K hK=> ?_)
           refine goes_ Try.func66 ze rfl #[.int .i64 t453] (by rfl) rfl rfl zg ?_
           with_reducible refine(spec_l18Size.calls t453 t460 _ A53.out).mono ?_
           rintro e w' ⟨rfl,⟨nd,rfl⟩⟩
           refine⟨_,rfl,?_⟩
           refine hK.out _ _ ⟨(blk_cell BK454.out 0).trans rfl,(blk_cell BK454.out 1).trans rfl⟩ (fun hHeld=> ?_)
           clear hK K
           refine norm_ (a':= ?_) ?_ ?_
           rotate_left
           ·show Act.put _ (some 109) _=_
            simp only[Act.put,zL1,zL2,zL3,i64_w,i32_w]
            rfl
           refine zu 6 110 ?_
           refine zu 7 103 ?_
           refine done_ (done_of HT_.out ze) ?_
           try go_wp2
           go_meet
           case rel=>exact⟨_,(3),zs,H',⟨by have:=HJ3.out;have:=HJ21.out;have:=HJ35.out;have:=HJ44.out;first|omega|exact Nat.le_refl _⟩,⟨zr HO_9⟩,⟨zn BK444⟩,⟨zn BK454⟩,⟨zb20⟩⟩
          have c54b0:=decide_eq_false c54
          clear c54
          have H':=zM H
          clear H
          try go_wp2
          refine zS4 (zRd HO_9.out) (zNd BK444.out) (zNd BK454.out) (zBd HB.out) ?_
          clear HO_9 BK444 BK454 HB
          intro HO_9 BK444 BK454 HB
          refine start_ (n:=8) (S:=fun w'=>w'.cell? ⟨gb454,0,none⟩=some (.int .i64 t452)∧w'.cell? ⟨gb454,1,none⟩=some (.int .i64 t453)) (ds:=[]) #[zf,zf,zf,zf,zf,zf,zf,zf] ze rfl rfl ⟨(blk_cell BK454.out 0).trans rfl,(blk_cell BK454.out 1).trans rfl⟩ (fun hHeld=> ?_);refine with_tabW spec_Hear.tab15 spec_Hear.bits15 (fun HT_ HW_=> ?_)
          generalize wc.drew=w56 at HO_9 BK444 BK454 HB hHeld ⊢
          refine zu 0 104 ?_
          refine zu 3 107 ?_
          refine zt2 1 105 ?_
          refine zt2 4 108 ?_
          refine one_ (i:=2) (N:=some 106) #[zt,zt,zt,zt,zt,zf,zf,zf] rfl rfl (one_of HT_.out ze) (by decide) (fun K hK=> ?_)
          refine goes_ Try.func66 ze rfl #[.int .i64 t452] (by rfl) rfl rfl zg ?_
          with_reducible refine(spec_l18Size.calls t452 t459 _ A52.out).mono ?_
          rintro e w' ⟨rfl,⟨nd,rfl⟩⟩
          refine⟨_,rfl,?_⟩
          refine hK.out _ _ ⟨(blk_cell BK454.out 0).trans rfl,(blk_cell BK454.out 1).trans rfl⟩ (fun hHeld=> ?_)
          clear hK K
          refine norm_ (a':= ?_) ?_ ?_
          rotate_left
          ·show Act.put _ (some 106) _=_
           simp only[Act.put,zL1,zL2,zL3,i64_w,i32_w]
           rfl
          refine one_ (i:=5) (N:=some 109) #[zt,zt,zt,zt,zt,zt,zf,zf] rfl rfl (one_of HT_.out ze) (by decide) (fun K hK=> ?_)
          refine goes_ Try.func66 ze rfl #[.int .i64 t453] (by rfl) rfl rfl zg ?_
          with_reducible refine(spec_l18Size.calls t453 t460 _ A53.out).mono ?_
          rintro e w' ⟨rfl,⟨nd,rfl⟩⟩
          refine⟨_,rfl,?_⟩
          refine hK.out _ _ ⟨(blk_cell BK454.out 0).trans rfl,(blk_cell BK454.out 1).trans rfl⟩ (fun hHeld=> ?_)
          clear hK K
          refine norm_ (a':= ?_) ?_ ?_
          rotate_left
          ·show Act.put _ (some 109) _=_
           simp only[Act.put,zL1,zL2,zL3,i64_w,i32_w]
           rfl
          refine zu 6 110 ?_
          refine zu 7 103 ?_
          refine done_ (done_of HT_.out ze) ?_
          try go_wp2
          go_meet
          case rel=>exact⟨_,(0),zs,H',⟨by have:=HJ3.out;have:=HJ21.out;have:=HJ35.out;have:=HJ44.out;first|omega|exact Nat.le_refl _⟩,⟨zr HO_9⟩,⟨zn BK444⟩,⟨zn BK454⟩,⟨zb20⟩⟩
     case rest=>
      as_aux_lemma=>
      clear HC30
      try clear c1
      try clear c2
      try clear p2
      try clear c3
      try clear c4
      try clear c5
      try clear c6
      try clear p6
      try clear c9
      try clear c11
      try clear c19
      try clear c21
      try clear c21b0
      try clear c21b1
      try clear c23
      try clear c26
      try clear c26b0
      try clear c28
      try clear c29
      try clear c34
      try clear c39
      try clear c39b0
      try clear c44
      try clear c48
      try clear c48b0
      try clear c51
      try clear c54
      try clear c54b0
      try clear hcz13_0
      try clear hcz13_1
      try clear hcz13_2
      try clear hcz13_3
      try clear hcz13_4
      try clear hcz13_5
      try clear hcz15_0
      try clear hcz15_1
      try clear hcz15_2
      try clear hcz15_3
      try clear hcz15_4
      try clear hcz15_5
      try clear hcz17_0
      try clear hcz17_1
      try clear hcz17_2
      try clear hcz17_3
      try clear hcz17_4
      try clear hcz17_5
      try clear hcz23_0
      try clear hcz23_1
      try clear hcz23_2
      try clear hcz23_3
      try clear hcz23_4
      try clear hcz23_5
      try clear hcz25_0
      try clear hcz25_1
      try clear hcz25_2
      try clear hcz25_3
      try clear hcz25_4
      try clear hcz25_5
      try clear hcz27_0
      try clear hcz27_1
      try clear hcz27_2
      try clear hcz27_3
      try clear hcz27_4
      try clear hcz27_5
      try clear hcz31_0
      try clear hcz31_1
      try clear hcz31_2
      try clear hcz31_3
      try clear hcz31_4
      try clear hcz31_5
      try clear hcz35_0
      try clear hcz35_1
      try clear hfz13_0
      try clear hfz13_1
      try clear hfz13_2
      try clear hfz13_3
      try clear hfz13_4
      try clear hfz13_5
      try clear hfz15_0
      try clear hfz15_1
      try clear hfz15_2
      try clear hfz15_3
      try clear hfz15_4
      try clear hfz15_5
      try clear hfz17_0
      try clear hfz17_1
      try clear hfz17_2
      try clear hfz17_3
      try clear hfz17_4
      try clear hfz17_5
      try clear hfz23_0
      try clear hfz23_1
      try clear hfz23_2
      try clear hfz23_3
      try clear hfz23_4
      try clear hfz23_5
      try clear hfz25_0
      try clear hfz25_1
      try clear hfz25_2
      try clear hfz25_3
      try clear hfz25_4
      try clear hfz25_5
      try clear hfz27_0
      try clear hfz27_1
      try clear hfz27_2
      try clear hfz27_3
      try clear hfz27_4
      try clear hfz27_5
      try clear hfz31_0
      try clear hfz31_1
      try clear hfz31_2
      try clear hfz31_3
      try clear hfz31_4
      try clear hfz31_5
      try clear hfz35_0
      try clear hfz35_1
      try clear p2
      try clear p6
      obtain⟨kq,x14_29,rfl,HA,HJ29,HO_9,BK444,BK454,HB⟩:=hcut
      cases kq with
      |zero=>exact absurd HA.out (by simp[spec_Hear.j4])
      | succ kj29=>
       have H:=HA.out
       clear HA
       simp only[spec_Hear.j4] at H
       obtain⟨y461,hy461⟩:∃y_:List (S52),y_=(([]:List (S52))):=⟨_,rfl⟩
       rw[←hy461] at H
       have Ny461:=zM hy461
       clear hy461
       have H':=zM H
       clear H
       go_wp2_with (first|((with_reducible refine gate_dst (N:=111) rfl ?_);(try(refine gate_guard (by rfl) ?_;dsimp only));refine Kd.R_lit k52 _ 52 ?hg (N:=111) ?hd (xs:=([]:List (S52))) (inner:=[]) (ok:=fun _=>True) (okp:=fun _=>True) ?hr ?hp (fun _ hk=>hk) trivial (Below.refl _ _) (Nat.le_refl _) (by simp) ?_;(case hd|hg=>rfl);(case hr=>exact zh);(case hp=>exact(Reps.none _ _));intro v462 w57 ho58 hb hg_ hnew_;clear hg_ hnew_;(first|rw[←Ny461.out] at ho58|simp only[Int.reduceToNat,←Ny461.out] at ho58);refine zS5 (Kd.R_below (zr HO_9) hb) (Kd.R_lower (Kd.R_newB ho58 (g:=gb454) (o:= .cells #[.int .i64 t452, .int .i64 t453] 52 (0,0)) (zn BK454)) (below_size zb20)) (zNb (g:=gb444) (o:= .cells #[.int .i64 a0_0, .int .i64 a0_1, .int .i64 a0_2, .int .i64 a0_3, .int .i64 a0_4, .int .i64 a0_5] 28 (0,0)) (zn BK444) hb) (zNb (g:=gb454) (o:= .cells #[.int .i64 t452, .int .i64 t453] 52 (0,0)) (zn BK454) hb) (below_step zb20 hb) ?_;clear HO_9 BK444 BK454 HB;intro HO_9 HO463 BK444 BK454 HB;clear hb ho58))
       (try simp only[Act.put,zL1,zL2,zL3])
       go_loopg [15,16] kj29 (fun kq v15 v16 w'=>∃(x15_4:List (S52)) (x16_4:Int),v16= .int .i64 x16_4∧Aside0 (spec_Hear.l0 kq l1 a2 y445 t451 (wrap64 (8*(wrap64 (a2+(wrap64 (2*a0_1)))))) (wrap64 (Int.tdiv (wrap64 ((wrap64 ((wrap64 (8*(wrap64 (a2+(wrap64 (2*a0_1))))))+a0_0))-1)) a0_0)) x14_29 x15_4 x16_4 a0_0 a0_1 a0_2 a0_3 a0_4 a0_5=some (r1,r2,r3))∧Aside0 (kq≤kj29)∧Aside0 (Kd.R (Kd.int .u8) 5 w' w.heap.size (fun _=>True) v446 y445)∧Aside0 (Kd.R k52 52 w' w.heap.size (fun k_=>k_≠gb454) v15 x15_4)∧Aside0 (w'.heap[gb444]? =some (.cells #[.int .i64 a0_0, .int .i64 a0_1, .int .i64 a0_2, .int .i64 a0_3, .int .i64 a0_4, .int .i64 a0_5] 28 (0,0)))∧Aside0 (w'.heap[gb454]? =some (.cells #[.int .i64 t452, .int .i64 t453] 52 (0,0)))∧Aside0 (Below w.heap.size w w'))
       case atStart=>exact⟨(y461),(1),zs,H',⟨Nat.le_refl _⟩,⟨zr HO_9⟩,⟨by(with_reducible repeat(first|apply zRa|apply zRn|apply zRd));first|exact Kd.R_mono HO463.out (fun _ hk=>hk.2)|(subst_vars;exact Kd.R_mono HO463.out (fun _ hk=>hk.2))⟩,⟨zn BK444⟩,⟨zn BK454⟩,⟨zb20⟩⟩
       case round=>
        clear H'
        try clear c1
        try clear c2
        try clear p2
        try clear c3
        try clear c4
        try clear c5
        try clear c6
        try clear p6
        try clear c9
        try clear c11
        try clear c19
        try clear c21
        try clear c21b0
        try clear c21b1
        try clear c23
        try clear c26
        try clear c26b0
        try clear c28
        try clear c29
        try clear c34
        try clear c39
        try clear c39b0
        try clear c44
        try clear c48
        try clear c48b0
        try clear c51
        try clear c54
        try clear c54b0
        try clear hcz13_0
        try clear hcz13_1
        try clear hcz13_2
        try clear hcz13_3
        try clear hcz13_4
        try clear hcz13_5
        try clear hcz15_0
        try clear hcz15_1
        try clear hcz15_2
        try clear hcz15_3
        try clear hcz15_4
        try clear hcz15_5
        try clear hcz17_0
        try clear hcz17_1
        try clear hcz17_2
        try clear hcz17_3
        try clear hcz17_4
        try clear hcz17_5
        try clear hcz23_0
        try clear hcz23_1
        try clear hcz23_2
        try clear hcz23_3
        try clear hcz23_4
        try clear hcz23_5
        try clear hcz25_0
        try clear hcz25_1
        try clear hcz25_2
        try clear hcz25_3
        try clear hcz25_4
        try clear hcz25_5
        try clear hcz27_0
        try clear hcz27_1
        try clear hcz27_2
        try clear hcz27_3
        try clear hcz27_4
        try clear hcz27_5
        try clear hcz31_0
        try clear hcz31_1
        try clear hcz31_2
        try clear hcz31_3
        try clear hcz31_4
        try clear hcz31_5
        try clear hcz35_0
        try clear hcz35_1
        try clear hfz13_0
        try clear hfz13_1
        try clear hfz13_2
        try clear hfz13_3
        try clear hfz13_4
        try clear hfz13_5
        try clear hfz15_0
        try clear hfz15_1
        try clear hfz15_2
        try clear hfz15_3
        try clear hfz15_4
        try clear hfz15_5
        try clear hfz17_0
        try clear hfz17_1
        try clear hfz17_2
        try clear hfz17_3
        try clear hfz17_4
        try clear hfz17_5
        try clear hfz23_0
        try clear hfz23_1
        try clear hfz23_2
        try clear hfz23_3
        try clear hfz23_4
        try clear hfz23_5
        try clear hfz25_0
        try clear hfz25_1
        try clear hfz25_2
        try clear hfz25_3
        try clear hfz25_4
        try clear hfz25_5
        try clear hfz27_0
        try clear hfz27_1
        try clear hfz27_2
        try clear hfz27_3
        try clear hfz27_4
        try clear hfz27_5
        try clear hfz31_0
        try clear hfz31_1
        try clear hfz31_2
        try clear hfz31_3
        try clear hfz31_4
        try clear hfz31_5
        try clear hfz35_0
        try clear hfz35_1
        try clear p2
        try clear p6
        obtain⟨x15_4,x16_4,rfl,HA,HK4,HO_9,HO_15,BK444,BK454,HB⟩:=hrel
        cases gk with
        |zero=>exact absurd HA.out (by simp[spec_Hear.l0])
        | succ k4=>
         have H:=HA.out
         clear HA
         simp only[spec_Hear.l0] at H
         replace H:=zI2 H
         rcases H with⟨c59,H⟩|⟨c59,H⟩
         case inl=>
          have c59b0:=zE c59
          clear c59
          replace H:=zP H
          obtain⟨⟨t464,t465⟩,A60,H⟩:=H
          dsimp only at H
          replace H:=zP H
          obtain⟨⟨t466,t467⟩,A61,H⟩:=H
          dsimp only at H
          replace H:=zP H
          obtain⟨t469,A62,H⟩:=H
          replace H:=zP H
          obtain⟨t470,A63,H⟩:=H
          replace H:=zIM H
          obtain⟨LMc64,H⟩:=H
          obtain⟨y471,hy471⟩:∃y_:List (S52),y_=(x15_4++[(⟨t469,t470⟩:S52)]):=⟨_,rfl⟩
          rw[←hy471] at H
          have Ny471:=zM hy471
          clear hy471
          have H':=zM H
          clear H
          have hnb65:=NB444_454.out
          have hnc65:=NB454_444.out
          obtain⟨hcz66_0,hcz66_1,hcz66_2,hcz66_3,hcz66_4,hcz66_5,hfz66_0,hfz66_1,hfz66_2,hfz66_3,hfz66_4,hfz66_5⟩:=zc6 BK444.out
          try go_wp2_with (first|((with_reducible refine gate_callee (f:=65) rfl ?_);refine goesL_ (some 126) rfl rfl Try.func65 ze rfl #[.slice A1 l1.length c1, .int .i64 (wrap64 (t451+(wrap64 (x16_4*a0_4)))), .int .i64 a0_4] rfl zg ?_;(with_reducible refine(spec_l18Sum.calls k4 _ _ l1 (wrap64 (t451+(wrap64 (x16_4*a0_4)))) a0_4 t464 t465 _ ?side1 ?side2 A60.out).mono ?_);(case side1=>exact zc (Kd.C_below HR1.out HB.out));(case side2=>exact HC1.out);rintro e w67 ⟨rfl,hb⟩;refine⟨_,rfl,?_⟩;refine zS5 (Kd.R_below (zr HO_9) hb) (Kd.R_below (zr HO_15) hb) (zNb (g:=gb444) (o:= .cells #[.int .i64 a0_0, .int .i64 a0_1, .int .i64 a0_2, .int .i64 a0_3, .int .i64 a0_4, .int .i64 a0_5] 28 (0,0)) (zn BK444) hb) (zNb (g:=gb454) (o:= .cells #[.int .i64 t452, .int .i64 t453] 52 (0,0)) (zn BK454) hb) (below_step zb20 hb) ?_;clear HO_9 HO_15 BK444 BK454 HB;intro HO_9 HO_15 BK444 BK454 HB;(try clear hb);(try clear hb2);(try clear hk);(try clear hi))|((with_reducible refine gate_callee (f:=67) rfl ?_);refine goesL_ (some 130) rfl rfl Try.func67 ze rfl #[.agg #[.int .i64 t464, .int .i64 t465], .int .i64 (Int.tmod (wrap64 (4-x14_29)) 4)] rfl zg ?_;(with_reducible refine(spec_l18Quarter.calls k4 t464 t465 (Int.tmod (wrap64 (4-x14_29)) 4) t466 t467 _ A61.out).mono ?_);rintro e w68 ⟨rfl,hb⟩;refine⟨_,rfl,?_⟩;refine zS5 (Kd.R_below (zr HO_9) hb) (Kd.R_below (zr HO_15) hb) (zNb (g:=gb444) (o:= .cells #[.int .i64 a0_0, .int .i64 a0_1, .int .i64 a0_2, .int .i64 a0_3, .int .i64 a0_4, .int .i64 a0_5] 28 (0,0)) (zn BK444) hb) (zNb (g:=gb454) (o:= .cells #[.int .i64 t452, .int .i64 t453] 52 (0,0)) (zn BK454) hb) (below_step zb20 hb) ?_;clear HO_9 HO_15 BK444 BK454 HB;intro HO_9 HO_15 BK444 BK454 HB;(try clear hb);(try clear hb2);(try clear hk);(try clear hi))|((with_reducible refine gate_dst (N:=17) rfl ?_);(try(refine gate_guard (by rfl) ?_;dsimp only));refine box_event ?hg (N:=17) ?hd (cs:= #[.int .i64 0, .int .i64 0]) (t:=52) ?hr ?_;(case hd|hg=>rfl);(case hr=>exact zh);intro gb468 hg w69 hbox hb;have n0_:=zM (Kd.R_below (zr HO_9) hb);have n1_:=zM (Kd.R_below (Kd.R_elderB (zr HO_15) gb468 (Nat.le_of_eq hg.symm)) hb);have n2_:=zM (zNb (g:=gb444) (o:= .cells #[.int .i64 a0_0, .int .i64 a0_1, .int .i64 a0_2, .int .i64 a0_3, .int .i64 a0_4, .int .i64 a0_5] 28 (0,0)) (zn BK444) hb);have n3_:=zM (zNb (g:=gb454) (o:= .cells #[.int .i64 t452, .int .i64 t453] 52 (0,0)) (zn BK454) hb);have n4_:=zM (below_step zb20 hb);have n5_:=zM (hbox);have n6_:=zM ((zw hg (below_size zb20)));have n7_:=zM n6_.out;have n8_:=zM ((by rw[hg];exact Nat.ne_of_lt (by simpa using blk_lt BK444.out):gb444≠gb468));have n9_:=zM ((by rw[hg];exact Nat.ne_of_gt (by simpa using blk_lt BK444.out):gb468≠gb444));have n10_:=zM ((by rw[hg];exact Nat.ne_of_lt (by simpa using blk_lt BK454.out):gb454≠gb468));have n11_:=zM ((by rw[hg];exact Nat.ne_of_gt (by simpa using blk_lt BK454.out):gb468≠gb454));clear HO_9;clear HO_15;clear BK444;clear BK454;clear HB;have HO_9:=n0_;have HO_15:=n1_;have BK444:=n2_;have BK454:=n3_;have HB:=n4_;have BK468:=n5_;have GW468:=n6_;have GE468:=n7_;have NB444_468:=n8_;have NB468_444:=n9_;have NB454_468:=n10_;have NB468_454:=n11_;clear n0_ n1_ n2_ n3_ n4_ n5_ n6_ n7_ n8_ n9_ n10_ n11_;clear hb hbox hg;have hnb70:=NB468_444.out;have hnc70:=NB444_468.out;have hnb71:=NB468_454.out;have hnc71:=NB454_468.out;obtain⟨hcz72_0,hcz72_1,hfz72_0,hfz72_1⟩:=zc2 BK468.out))
          have n0_:Aside0 (Kd.R (Kd.int .u8) 5 ((w69.setCell ⟨gb468,0,none⟩ (.int .i64 t466)).setCell ⟨gb468,1,none⟩ (.int .i64 t467)) w.heap.size (fun _=>True) v446 y445):=⟨by(with_reducible repeat(first|apply zRa|apply zRn|apply zRd));exact Kd.R_mono (Kd.R_far (p:=⟨gb468,1,none⟩) (Kd.R_far (p:=⟨gb468,0,none⟩) (Kd.R_types HO_9.out BK468.out (by decide)) (fun _ hk=>hk.2) (.int .i64 t466)) (fun _ hk=>hk.2) (.int .i64 t467)) (fun _ hk=>trivial)⟩
          have n1_:Aside0 (Kd.R k52 52 ((w69.setCell ⟨gb468,0,none⟩ (.int .i64 t466)).setCell ⟨gb468,1,none⟩ (.int .i64 t467)) w.heap.size (fun k_=>k_≠gb454∧k_≠gb468) u15 x15_4):=⟨by(with_reducible repeat(first|apply zRa|apply zRn|apply zRd));exact Kd.R_mono (Kd.R_far (p:=⟨gb468,1,none⟩) (Kd.R_far (p:=⟨gb468,0,none⟩) (Kd.R_mono HO_15.out (fun k_ hk=>(⟨hk,hk.2⟩:_∧k_≠gb468))) (fun _ hk=>hk.2) (.int .i64 t466)) (fun _ hk=>hk.2) (.int .i64 t467)) (fun _ hk=>⟨hk.1.1,hk.1.2⟩)⟩
          have n2_:Aside0 (((w69.setCell ⟨gb468,0,none⟩ (.int .i64 t466)).setCell ⟨gb468,1,none⟩ (.int .i64 t467)).heap[gb444]? =some (.cells #[.int .i64 a0_0, .int .i64 a0_1, .int .i64 a0_2, .int .i64 a0_3, .int .i64 a0_4, .int .i64 a0_5] 28 (0,0))):=⟨by(with_reducible repeat(first|apply zNn|apply zNd|apply zNa));refine zNf ?_ NB444_468.out _;(with_reducible repeat(first|apply zNn|apply zNd|apply zNa));refine zNf ?_ NB444_468.out _;(with_reducible repeat(first|apply zNn|apply zNd|apply zNa));exact BK444.out⟩
          have n3_:Aside0 (((w69.setCell ⟨gb468,0,none⟩ (.int .i64 t466)).setCell ⟨gb468,1,none⟩ (.int .i64 t467)).heap[gb454]? =some (.cells #[.int .i64 t452, .int .i64 t453] 52 (0,0))):=⟨by(with_reducible repeat(first|apply zNn|apply zNd|apply zNa));refine zNf ?_ NB454_468.out _;(with_reducible repeat(first|apply zNn|apply zNd|apply zNa));refine zNf ?_ NB454_468.out _;(with_reducible repeat(first|apply zNn|apply zNd|apply zNa));exact BK454.out⟩
          have n4_:Aside0 (((w69.setCell ⟨gb468,0,none⟩ (.int .i64 t466)).setCell ⟨gb468,1,none⟩ (.int .i64 t467)).heap[gb468]? =some (.cells #[.int .i64 t466, .int .i64 t467] 52 (0,0))):=⟨by(with_reducible repeat(first|apply zNn|apply zNd|apply zNa));refine blk_put (cs:= #[.int .i64 t466, .int .i64 0]) ?_ 1 _ rfl;(with_reducible repeat(first|apply zNn|apply zNd|apply zNa));refine blk_put (cs:= #[.int .i64 0, .int .i64 0]) ?_ 0 _ rfl;(with_reducible repeat(first|apply zNn|apply zNd|apply zNa));exact BK468.out⟩
          have n5_:Aside0 (Below w.heap.size w ((w69.setCell ⟨gb468,0,none⟩ (.int .i64 t466)).setCell ⟨gb468,1,none⟩ (.int .i64 t467))):=⟨zb21⟩
          (try clear HO_9)
          (try clear HO_15)
          (try clear BK444)
          (try clear BK454)
          (try clear BK468)
          (try clear HB)
          generalize ((w69.setCell ⟨gb468,0,none⟩ (.int .i64 t466)).setCell ⟨gb468,1,none⟩ (.int .i64 t467))=w73 at n0_ n1_ n2_ n3_ n4_ n5_ ⊢
          have HO_9:=n0_
          have HO_15:=n1_
          have BK444:=n2_
          have BK454:=n3_
          have BK468:=n4_
          have HB:=n5_
          clear n0_ n1_ n2_ n3_ n4_ n5_
          refine zS6 (zRd HO_9.out) (zRd HO_15.out) (zNd BK444.out) (zNd BK454.out) (zNd BK468.out) (zBd HB.out) ?_
          clear HO_9 HO_15 BK444 BK454 BK468 HB
          intro HO_9 HO_15 BK444 BK454 BK468 HB
          refine start_ (n:=21) (S:=fun w'=>w'.cell? ⟨gb468,0,none⟩=some (.int .i64 t466)∧w'.cell? ⟨gb468,1,none⟩=some (.int .i64 t467)∧w'.cell? ⟨gb444,0,none⟩=some (.int .i64 a0_0)∧w'.cell? ⟨gb444,1,none⟩=some (.int .i64 a0_1)∧w'.cell? ⟨gb444,2,none⟩=some (.int .i64 a0_2)∧w'.cell? ⟨gb444,3,none⟩=some (.int .i64 a0_3)∧w'.cell? ⟨gb444,4,none⟩=some (.int .i64 a0_4)∧w'.cell? ⟨gb444,5,none⟩=some (.int .i64 a0_5)) (ds:=[]) #[zf,zf,zf,zf,zf,zf,zf,zf,zf,zf,zf,zf,zf,zf,zf,zf,zf,zf,zf,zf,zf] ze rfl rfl ⟨(blk_cell BK468.out 0).trans rfl,(blk_cell BK468.out 1).trans rfl,(blk_cell BK444.out 0).trans rfl,(blk_cell BK444.out 1).trans rfl,(blk_cell BK444.out 2).trans rfl,(blk_cell BK444.out 3).trans rfl,(blk_cell BK444.out 4).trans rfl,(blk_cell BK444.out 5).trans rfl⟩ (fun hHeld=> ?_);refine with_tabW spec_Hear.tab22 spec_Hear.bits22 (fun HT_ HW_=> ?_)
          generalize w73.drew=w74 at HO_9 HO_15 BK444 BK454 BK468 HB hHeld ⊢
          refine zu 0 131 ?_
          refine zu 1 132 ?_
          refine zu 3 134 ?_
          refine zu 5 136 ?_
          refine zu 9 140 ?_
          refine zu 11 142 ?_
          refine zu 13 144 ?_
          refine zt8 2 133 ?_
          refine zt8 4 135 ?_
          refine zt8 6 137 ?_
          refine zu 7 138 ?_
          refine zt8 10 141 ?_
          refine zt8 12 143 ?_
          refine zt8 14 145 ?_
          refine zu 15 146 ?_
          refine one_ (i:=8) (N:=some 139) #[zt,zt,zt,zt,zt,zt,zt,zt,zt,zt,zt,zt,zt,zt,zt,zt,zf,zf,zf,zf,zf] rfl rfl (one_of HT_.out ze) (by decide) (fun K hK=> ?_)
          refine goes_ Try.func68 ze rfl #[.int .i64 t466, .int .i64 (wrap64 (a0_4*a0_5))] (by rfl) rfl rfl zg ?_
          with_reducible refine(spec_RoundDiv.calls k4 t466 (wrap64 (a0_4*a0_5)) t469 _ A62.out).mono ?_
          rintro e w' ⟨rfl,⟨nd,rfl⟩⟩
          refine⟨_,rfl,?_⟩
          refine hK.out _ _ ⟨(blk_cell BK468.out 0).trans rfl,(blk_cell BK468.out 1).trans rfl,(blk_cell BK444.out 0).trans rfl,(blk_cell BK444.out 1).trans rfl,(blk_cell BK444.out 2).trans rfl,(blk_cell BK444.out 3).trans rfl,(blk_cell BK444.out 4).trans rfl,(blk_cell BK444.out 5).trans rfl⟩ (fun hHeld=> ?_)
          clear hK K
          refine norm_ (a':= ?_) ?_ ?_
          rotate_left
          ·show Act.put _ (some 139) _=_
           simp only[Act.put,zL1,zL2,zL3,i64_w,i32_w]
           rfl
          refine one_ (i:=16) (N:=some 147) #[zt,zt,zt,zt,zt,zt,zt,zt,zt,zt,zt,zt,zt,zt,zt,zt,zt,zf,zf,zf,zf] rfl rfl (one_of HT_.out ze) (by decide) (fun K hK=> ?_)
          refine goes_ Try.func68 ze rfl #[.int .i64 t467, .int .i64 (wrap64 (a0_4*a0_5))] (by rfl) rfl rfl zg ?_
          with_reducible refine(spec_RoundDiv.calls k4 t467 (wrap64 (a0_4*a0_5)) t470 _ A63.out).mono ?_
          rintro e w' ⟨rfl,⟨nd,rfl⟩⟩
          refine⟨_,rfl,?_⟩
          refine hK.out _ _ ⟨(blk_cell BK468.out 0).trans rfl,(blk_cell BK468.out 1).trans rfl,(blk_cell BK444.out 0).trans rfl,(blk_cell BK444.out 1).trans rfl,(blk_cell BK444.out 2).trans rfl,(blk_cell BK444.out 3).trans rfl,(blk_cell BK444.out 4).trans rfl,(blk_cell BK444.out 5).trans rfl⟩ (fun hHeld=> ?_)
          clear hK K
          refine norm_ (a':= ?_) ?_ ?_
          rotate_left
          ·show Act.put _ (some 147) _=_
           simp only[Act.put,zL1,zL2,zL3,i64_w,i32_w]
           rfl
          refine zu 17 148 ?_
          refine one_ (i:=18) (N:=some 149) #[zt,zt,zt,zt,zt,zt,zt,zt,zt,zt,zt,zt,zt,zt,zt,zt,zt,zt,zt,zf,zf] rfl rfl (one_of HT_.out ze) (by decide) (fun K hK=> ?_)
          refine value_ (w1:= ?_) (v:= ?_) (by rfl) rfl ?_ ?_
          rotate_left 2
          ·go_simp
           constructor
           ·rfl
           ·rfl
          refine hK.out _ _ ⟨(blk_cell (zNa BK468.out _) 0).trans rfl,(blk_cell (zNa BK468.out _) 1).trans rfl,(blk_cell (zNa BK444.out _) 0).trans rfl,(blk_cell (zNa BK444.out _) 1).trans rfl,(blk_cell (zNa BK444.out _) 2).trans rfl,(blk_cell (zNa BK444.out _) 3).trans rfl,(blk_cell (zNa BK444.out _) 4).trans rfl,(blk_cell (zNa BK444.out _) 5).trans rfl⟩ (fun hHeld=> ?_)
          clear hK K
          refine norm_ (a':= ?_) ?_ ?_
          rotate_left
          ·show Act.put _ (some 149) _=_
           simp only[Act.put,zL1,zL2,zL3,i64_w,i32_w]
           rfl
          refine one_ (i:=19) (N:=some 150) #[zt,zt,zt,zt,zt,zt,zt,zt,zt,zt,zt,zt,zt,zt,zt,zt,zt,zt,zt,zt,zf] rfl rfl (one_of HT_.out ze) (by decide) (fun K hK=> ?_)
          refine Kd.R_append_step k52 (w0:=w) w.heap.size (by rfl) (.tmp 131) (.tmp 149) 25 52 (.agg #[(.int .i64 0),(.int .i64 0)]) 16 rfl Try.underlying25 info52 rfl (by decide) (by omega) u15 x15_4 (⟨t469,t470⟩:S52) [.int .i64 t469, .int .i64 t470] (fun k_=>k_≠gb454∧k_≠gb468) (fun _=>False) rfl rfl ?aP (fun _ hk=>hk.elim) ?aF ?aO ?aB ?aS ?aL ?_
          (case aP=>exact k52_mkM _ _ _ (⟨t469,t470⟩:S52))
          (case aB=>exact zb21)
          (case aF=>exact(fun k_ hk=>⟨Kd.freshB (g:=gb454) (o:= .cells #[.int .i64 t452, .int .i64 t453] 52 (0,0)) (zn BK454) k_ hk,Kd.freshB (g:=gb468) (o:= .cells #[.int .i64 t466, .int .i64 t467] 52 (0,0)) (zn BK468) k_ hk⟩))
          (case aO=>exact(zr HO_15))
          (case aS=>exact(below_size zb21))
          (case aL=>have:=LMc64.out;omega)
          intro v472 w75 ho hb hg hat
          (first|rw[←Ny471.out] at ho|simp only[Int.reduceToNat,←Ny471.out] at ho)
          refine zS6 (Kd.R_over' (zr HO_9) (Kd.R_typed (zr HO_15)) (by decide) hg) (blk_grown (g:=gb444) (o:= .cells #[.int .i64 a0_0, .int .i64 a0_1, .int .i64 a0_2, .int .i64 a0_3, .int .i64 a0_4, .int .i64 a0_5] 28 (0,0)) (zn BK444) hg (Kd.R_ne HO_15.out BK444.out (by decide))) (blk_grown (g:=gb454) (o:= .cells #[.int .i64 t452, .int .i64 t453] 52 (0,0)) (zn BK454) hg (Kd.R_away HO_15.out (fun _ hk=>hk.1))) (blk_grown (g:=gb468) (o:= .cells #[.int .i64 t466, .int .i64 t467] 52 (0,0)) (zn BK468) hg (Kd.R_away HO_15.out (fun _ hk=>hk.2))) (hb) (ho) ?_
          clear HO_9 BK444 BK454 BK468 HB HO_15
          intro HO_9 BK444 BK454 BK468 HB HO473
          clear ho hb hg hat
          refine hK.out _ _ ⟨(blk_cell BK468.out 0).trans rfl,(blk_cell BK468.out 1).trans rfl,(blk_cell BK444.out 0).trans rfl,(blk_cell BK444.out 1).trans rfl,(blk_cell BK444.out 2).trans rfl,(blk_cell BK444.out 3).trans rfl,(blk_cell BK444.out 4).trans rfl,(blk_cell BK444.out 5).trans rfl⟩ (fun hHeld=> ?_)
          clear hK K
          refine norm_ (a':= ?_) ?_ ?_
          rotate_left
          ·show Act.put _ (some 150) _=_
           simp only[Act.put,zL1,zL2,zL3,i64_w,i32_w]
           rfl
          refine zu 20 15 ?_
          refine done_ (done_of HT_.out ze) ?_
          try go_wp2
          go_roundg k4
          case measure=>have:=HJ3.out;have:=HJ21.out;have:=HJ29.out;have:=HK4.out;omega
          case rel=>exact⟨(y471),(wrap64 (x16_4+1)),zs,H',⟨by have:=HJ3.out;have:=HJ21.out;have:=HJ29.out;have:=HK4.out;omega⟩,⟨zr HO_9⟩,⟨by(with_reducible repeat(first|apply zRa|apply zRn|apply zRd));first|exact Kd.R_mono HO473.out (fun _ hk=>hk.1)|(subst_vars;exact Kd.R_mono HO473.out (fun _ hk=>hk.1))⟩,⟨zn BK444⟩,⟨zn BK454⟩,⟨zb21⟩⟩
         have c59b0:=decide_eq_false c59
         clear c59
         replace H:=zP H
         obtain⟨⟨t474,t475⟩,A76,H⟩:=H
         dsimp only at H
         by_cases c77:t475=true
         case neg=>
          replace c77:=Bool.eq_false_iff.mpr c77
          subst c77
          rw[if_neg zFT] at H
          simp only[Option.some.injEq,Prod.mk.injEq] at H
          obtain⟨rfl,rfl,rfl⟩:=H
          have hnb122:=NB444_454.out
          have hnc122:=NB454_444.out
          obtain⟨hcz123_0,hcz123_1,hcz123_2,hcz123_3,hcz123_4,hcz123_5,hfz123_0,hfz123_1,hfz123_2,hfz123_3,hfz123_4,hfz123_5⟩:=zc6 BK444.out
          obtain⟨Ao124,co124,eo124⟩:=Kd.R_slice HO_15.out
          subst eo124
          go_wp2_with (first|((with_reducible refine gate_callee (f:=69) rfl ?_);refine goesL_ (some 155) rfl rfl Try.func69 ze rfl #[.int .i64 a0_0, .slice Ao124 x15_4.length co124] rfl zg ?_;(with_reducible refine(spec_Decide.calls k4 a0_0 _ _ x15_4 t474 false _ ?side1 ?side2 A76.out).mono ?_);(case side1=>exact zc (Kd.R_reads' HO_15.out).2.2);(case side2=>exact(Kd.R_reads' HO_15.out).2.1);rintro e w125 ⟨v476,rfl,ho0,hb⟩;refine⟨_,rfl,?_⟩;refine zS6 (Kd.R_below (zr HO_9) hb) (Kd.R_below (zr HO_15) hb) (Kd.R_lower ho0 (below_size zb20)) (zNb (g:=gb444) (o:= .cells #[.int .i64 a0_0, .int .i64 a0_1, .int .i64 a0_2, .int .i64 a0_3, .int .i64 a0_4, .int .i64 a0_5] 28 (0,0)) (zn BK444) hb) (zNb (g:=gb454) (o:= .cells #[.int .i64 t452, .int .i64 t453] 52 (0,0)) (zn BK454) hb) (below_step zb20 hb) ?_;clear HO_9 HO_15 BK444 BK454 HB;intro HO_9 HO_15 HO477 BK444 BK454 HB;(try clear hb);(try clear hb2);(try clear hk);(try clear hi);(try clear ho0)))
          go_ret3
          exact⟨_,zq,zr HO_9,zb20⟩
         subst c77
         rw[if_pos rfl] at H
         obtain⟨ji78,hji78⟩:∃j_:Int,(wrap64 (8*(wrap64 (a2+(wrap64 (2*a0_1))))))=j_:=⟨_,rfl⟩
         first|rw[hji78] at H|simp only[hji78] at H
         (try rw[hji78] at c59b0)
         (try rw[hji78] at A76)
         have hji78w:(IntKind.i64.wrap (8*(wrap64 (a2+(wrap64 (2*a0_1))))))=ji78:=(i64_w _).trans hji78
         replace H:=zIN H
         obtain⟨c79,H⟩:=H
         have c79b0:=eq_true c79
         have c79b1:decide (0≤(ji78))=true:=zE c79
         clear c79
         replace H:=zIN H
         obtain⟨c80,H⟩:=H
         have c80b0:=eq_true c80
         have c80b1:decide ((ji78)≤(t474.length:Int))=true:=zE c80
         clear c80
         obtain⟨y478,hy478⟩:∃y_:List Int,y_=(t474.take ((ji78):Int).toNat):=⟨_,rfl⟩
         rw[←hy478] at H
         have Ny478:=zM hy478
         clear hy478
         replace H:=zP H
         obtain⟨⟨t482,t483⟩,A81,H⟩:=H
         dsimp only at H
         replace H:=zP H
         obtain⟨⟨t486,t487⟩,A82,H⟩:=H
         dsimp only at H
         replace H:=zP H
         obtain⟨⟨t490,t491⟩,A83,H⟩:=H
         dsimp only at H
         replace H:=zP H
         obtain⟨⟨t494,t495,t496⟩,A84,H⟩:=H
         dsimp only at H
         by_cases c85:t496=true
         case neg=>
          replace c85:=Bool.eq_false_iff.mpr c85
          subst c85
          rw[if_neg zFT] at H
          simp only[Option.some.injEq,Prod.mk.injEq] at H
          obtain⟨rfl,rfl,rfl⟩:=H
          have hnb106:=NB444_454.out
          have hnc106:=NB454_444.out
          obtain⟨hcz107_0,hcz107_1,hcz107_2,hcz107_3,hcz107_4,hcz107_5,hfz107_0,hfz107_1,hfz107_2,hfz107_3,hfz107_4,hfz107_5⟩:=zc6 BK444.out
          obtain⟨Ao108,co108,eo108⟩:=Kd.R_slice HO_15.out
          subst eo108
          try go_wp2_with (first|((with_reducible refine gate_callee (f:=69) rfl ?_);refine goesL_ (some 155) rfl rfl Try.func69 ze rfl #[.int .i64 a0_0, .slice Ao108 x15_4.length co108] rfl zg ?_;(with_reducible refine(spec_Decide.calls k4 a0_0 _ _ x15_4 t474 true _ ?side1 ?side2 A76.out).mono ?_);(case side1=>exact zc (Kd.R_reads' HO_15.out).2.2);(case side2=>exact(Kd.R_reads' HO_15.out).2.1);rintro e w109 ⟨v476,rfl,ho0,hb⟩;refine⟨_,rfl,?_⟩;refine zS6 (Kd.R_below (zr HO_9) hb) (Kd.R_below (zr HO_15) hb) (Kd.R_lower ho0 (below_size zb20)) (zNb (g:=gb444) (o:= .cells #[.int .i64 a0_0, .int .i64 a0_1, .int .i64 a0_2, .int .i64 a0_3, .int .i64 a0_4, .int .i64 a0_5] 28 (0,0)) (zn BK444) hb) (zNb (g:=gb454) (o:= .cells #[.int .i64 t452, .int .i64 t453] 52 (0,0)) (zn BK454) hb) (below_step zb20 hb) ?_;clear HO_9 HO_15 BK444 BK454 HB;intro HO_9 HO_15 HO477 BK444 BK454 HB;(try clear hb);(try clear hb2);(try clear hk);(try clear hi);(try clear ho0)))
          refine zS6 (zRd HO_9.out) (zRd HO_15.out) (zRd HO477.out) (zNd BK444.out) (zNd BK454.out) (zBd HB.out) ?_
          clear HO_9 HO_15 HO477 BK444 BK454 HB
          intro HO_9 HO_15 HO477 BK444 BK454 HB
          obtain⟨Ao112,co112,eo112⟩:=Kd.R_slice HO477.out
          (first|subst eo112|(injection eo112 with f1_ f2_ f3_;have f4_:=f1_.symm;have f5_:=f3_.symm;clear f1_ f2_ f3_;subst f4_;subst f5_))
          have q111:((ji78):Int)≤((t474.length:Int):Int):=zT (by assumption)
          obtain⟨i0111,hi0111,_,hsz111,_⟩:=info_parts info3
          have hroom111:t474.length≤co112:=(Kd.R_reads' HO477.out).2.1
          have hC111:Kd.C (Kd.int .i64) _ Ao112 t474.length t474:=(Kd.R_reads' HO477.out).2.2
          have hcut111:=cut_to (P:=Try.prog) 46 3 .i64 Try.underlying46 hi0111 Ao112 t474.length co112 (ji78) (zT (by assumption)) q111 hroom111
          have hr111:=Kd.C_take (m:=((ji78):Int).toNat) hC111 (by omega)
          have hy111:y478.length=((ji78):Int).toNat:=(by rw[Ny478.out,List.length_take];omega)
          rw[←Ny478.out] at hr111
          rw[←hy111] at hcut111
          have HR481:=zM hr111
          have HC481:=zM (show y478.length≤co112 from by omega)
          clear hr111 hC111 hroom111 hi0111 hsz111
          have KY111:=zM hy111
          clear hy111
          have KL111:=zM (show((ji78):Int).toNat≤t474.length from by omega)
          replace q111:=eq_true q111
          refine start_ (n:=10) (S:=fun w'=>w'.cell? ⟨gb444,0,none⟩=some (.int .i64 a0_0)∧w'.cell? ⟨gb444,1,none⟩=some (.int .i64 a0_1)∧w'.cell? ⟨gb444,2,none⟩=some (.int .i64 a0_2)∧w'.cell? ⟨gb444,3,none⟩=some (.int .i64 a0_3)∧w'.cell? ⟨gb444,4,none⟩=some (.int .i64 a0_4)∧w'.cell? ⟨gb444,5,none⟩=some (.int .i64 a0_5)) (ds:=[]) #[zf,zf,zf,zf,zf,zf,zf,zf,zf,zf] ze rfl rfl ⟨(blk_cell BK444.out 0).trans rfl,(blk_cell BK444.out 1).trans rfl,(blk_cell BK444.out 2).trans rfl,(blk_cell BK444.out 3).trans rfl,(blk_cell BK444.out 4).trans rfl,(blk_cell BK444.out 5).trans rfl⟩ (fun hHeld=> ?_);refine with_tabW spec_Hear.tab26 spec_Hear.bits26 (fun HT_ HW_=> ?_)
          generalize w109.drew=w110 at HO_9 HO_15 HO477 BK444 BK454 HB HR481 hHeld ⊢
          refine zu 0 162 ?_
          refine zu 1 163 ?_
          refine zu 2 164 ?_
          refine zu 3 165 ?_
          refine zt6 4 166 ?_
          refine one_ (i:=5) (N:=some 167) #[zt,zt,zt,zt,zt,zt,zf,zf,zf,zf] rfl rfl (one_of HT_.out ze) (by decide) (fun K hK=> ?_)
          refine goes_ Try.func34 ze rfl #[.slice Ao112 y478.length co112, .int .i64 46080, .int .i64 a0_3] (by rfl) rfl rfl zg ?_
          with_reducible refine(spec_Stir.calls k4 _ _ y478 46080 a0_3 t482 t483 _ ?side1 ?side2 A81.out).mono ?_
          (case side1=>exact zc (zc HR481.out))
          (case side2=>exact HC481.out)
          rintro e w113 ⟨v484,rfl,ho0,hb⟩
          refine⟨_,rfl,?_⟩
          refine zS8 (Kd.R_below (zr HO_9) hb) (Kd.R_below (zr HO_15) hb) (Kd.R_elder' (zr HO477) (Kd.R_base ho0) hb) (Kd.R_lower (Kd.R_new' ho0 (Kd.R_lt (zr HO477))) (below_size zb20)) (zNb (g:=gb444) (o:= .cells #[.int .i64 a0_0, .int .i64 a0_1, .int .i64 a0_2, .int .i64 a0_3, .int .i64 a0_4, .int .i64 a0_5] 28 (0,0)) (zn BK444) hb) (zNb (g:=gb454) (o:= .cells #[.int .i64 t452, .int .i64 t453] 52 (0,0)) (zn BK454) hb) (Kd.C_below (zc HR481.out) hb) (below_step zb20 hb) ?_
          clear HO_9 HO_15 HO477 BK444 BK454 HR481 HB
          intro HO_9 HO_15 HO477 HO485 BK444 BK454 HR481 HB
          (try clear hb)
          (try clear hb2)
          (try clear hk)
          (try clear hi)
          (try clear ho0)
          refine hK.out _ _ ⟨(blk_cell BK444.out 0).trans rfl,(blk_cell BK444.out 1).trans rfl,(blk_cell BK444.out 2).trans rfl,(blk_cell BK444.out 3).trans rfl,(blk_cell BK444.out 4).trans rfl,(blk_cell BK444.out 5).trans rfl⟩ (fun hHeld=> ?_)
          clear hK K
          refine norm_ (a':= ?_) ?_ ?_
          rotate_left
          ·show Act.put _ (some 167) _=_
           simp only[Act.put,zL1,zL2,zL3,i64_w,i32_w]
           rfl
          refine zu 6 161 ?_
          refine zu 7 168 ?_
          refine zu 8 169 ?_
          refine zu 9 18 ?_
          refine done_ (done_of HT_.out ze) ?_
          obtain⟨hcz114_0,hcz114_1,hcz114_2,hcz114_3,hcz114_4,hcz114_5,hfz114_0,hfz114_1,hfz114_2,hfz114_3,hfz114_4,hfz114_5⟩:=zc6 BK444.out
          obtain⟨Ao115,co115,eo115⟩:=Kd.R_slice HO485.out
          subst eo115
          try go_wp2_with (first|((with_reducible refine gate_callee (f:=70) rfl ?_);refine goesL_ (some 174) rfl rfl Try.func70 ze rfl #[.slice Ao115 t482.length co115, .int .i64 a0_2] rfl zg ?_;(with_reducible refine(spec_Unweave.calls k4 _ _ t482 a0_2 t486 t487 _ ?side1 ?side2 A82.out).mono ?_);(case side1=>exact zc (Kd.R_reads' HO485.out).2.2);(case side2=>exact(Kd.R_reads' HO485.out).2.1);rintro e w116 ⟨v488,rfl,ho0,hb⟩;refine⟨_,rfl,?_⟩;refine zS9 (Kd.R_below (zr HO_9) hb) (Kd.R_below (zr HO_15) hb) (Kd.R_elder' (zr HO477) (Kd.R_base ho0) hb) (Kd.R_elder' (zr HO485) (Kd.R_base ho0) hb) (Kd.R_lower (Kd.R_new' (Kd.R_new' ho0 (Kd.R_lt (zr HO477))) (Kd.R_lt (zr HO485))) (below_size zb20)) (zNb (g:=gb444) (o:= .cells #[.int .i64 a0_0, .int .i64 a0_1, .int .i64 a0_2, .int .i64 a0_3, .int .i64 a0_4, .int .i64 a0_5] 28 (0,0)) (zn BK444) hb) (zNb (g:=gb454) (o:= .cells #[.int .i64 t452, .int .i64 t453] 52 (0,0)) (zn BK454) hb) (Kd.C_below (zc HR481.out) hb) (below_step zb20 hb) ?_;clear HO_9 HO_15 HO477 HO485 BK444 BK454 HR481 HB;intro HO_9 HO_15 HO477 HO485 HO489 BK444 BK454 HR481 HB;(try clear hb);(try clear hb2);(try clear hk);(try clear hi);(try clear ho0);obtain⟨Ao117,co117,eo117⟩:=Kd.R_slice HO489.out;subst eo117)|((with_reducible refine gate_callee (f:=71) rfl ?_);refine goesL_ (some 179) rfl rfl Try.func71 ze rfl #[.slice Ao117 t486.length co117] rfl zg ?_;(with_reducible refine(spec_Pack8.calls k4 _ _ t486 t490 t491 _ ?side1 ?side2 A83.out).mono ?_);(case side1=>exact zc (Kd.R_reads' HO489.out).2.2);(case side2=>exact(Kd.R_reads' HO489.out).2.1);rintro e w118 ⟨v492,rfl,ho0,hb⟩;refine⟨_,rfl,?_⟩;refine zS10 (Kd.R_elder' (zr HO_9) (Kd.R_base ho0) hb) (Kd.R_below (zr HO_15) hb) (Kd.R_below (zr HO477) hb) (Kd.R_below (zr HO485) hb) (Kd.R_below (zr HO489) hb) (Kd.R_lower (Kd.R_new' ho0 (Kd.R_lt (zr HO_9))) (below_size zb20)) (zNb (g:=gb444) (o:= .cells #[.int .i64 a0_0, .int .i64 a0_1, .int .i64 a0_2, .int .i64 a0_3, .int .i64 a0_4, .int .i64 a0_5] 28 (0,0)) (zn BK444) hb) (zNb (g:=gb454) (o:= .cells #[.int .i64 t452, .int .i64 t453] 52 (0,0)) (zn BK454) hb) (Kd.C_below (zc HR481.out) hb) (below_step zb20 hb) ?_;clear HO_9 HO_15 HO477 HO485 HO489 BK444 BK454 HR481 HB;intro HO_9 HO_15 HO477 HO485 HO489 HO493 BK444 BK454 HR481 HB;(try clear hb);(try clear hb2);(try clear hk);(try clear hi);(try clear ho0);obtain⟨hcz119_0,hcz119_1,hcz119_2,hcz119_3,hcz119_4,hcz119_5,hfz119_0,hfz119_1,hfz119_2,hfz119_3,hfz119_4,hfz119_5⟩:=zc6 BK444.out;obtain⟨Ao120,co120,eo120⟩:=Kd.R_slice HO493.out;subst eo120)|((with_reducible refine gate_callee (f:=72) rfl ?_);refine goesL_ (some 186) rfl rfl Try.func72 ze rfl #[.slice Ao120 t490.length co120, .int .i64 a0_1] rfl zg ?_;(with_reducible refine(spec_RsMend.calls k4 _ _ t490 a0_1 t494 t495 false _ ?side1 ?side2 A84.out).mono ?_);(case side1=>exact zc (Kd.R_reads' HO493.out).2.2);(case side2=>exact(Kd.R_reads' HO493.out).2.1);rintro e w121 ⟨v497,rfl,ho0,hb⟩;refine⟨_,rfl,?_⟩;refine zS11 (Kd.R_elder' (zr HO_9) (Kd.R_base ho0) hb) (Kd.R_below (zr HO_15) hb) (Kd.R_below (zr HO477) hb) (Kd.R_below (zr HO485) hb) (Kd.R_below (zr HO489) hb) (Kd.R_elder' (zr HO493) (Kd.R_base ho0) hb) (Kd.R_lower (Kd.R_new' (Kd.R_new' ho0 (Kd.R_lt (zr HO_9))) (Kd.R_lt (zr HO493))) (below_size zb20)) (zNb (g:=gb444) (o:= .cells #[.int .i64 a0_0, .int .i64 a0_1, .int .i64 a0_2, .int .i64 a0_3, .int .i64 a0_4, .int .i64 a0_5] 28 (0,0)) (zn BK444) hb) (zNb (g:=gb454) (o:= .cells #[.int .i64 t452, .int .i64 t453] 52 (0,0)) (zn BK454) hb) (Kd.C_below (zc HR481.out) hb) (below_step zb20 hb) ?_;clear HO_9 HO_15 HO477 HO485 HO489 HO493 BK444 BK454 HR481 HB;intro HO_9 HO_15 HO477 HO485 HO489 HO493 HO498 BK444 BK454 HR481 HB;(try clear hb);(try clear hb2);(try clear hk);(try clear hi);(try clear ho0)))
          go_ret3
          exact⟨_,by first|rfl|(simp[errW_none,errW_some]<;>rfl)|(simp only[←hji78];first|rfl|(simp[errW_none,errW_some]<;>rfl))|(simp[*,errW_none,errW_some]<;>rfl),by(with_reducible repeat(first|apply zRa|apply zRn|apply zRd));first|exact Kd.R_mono HO_9.out (fun _ hk=>trivial)|(subst_vars;exact Kd.R_mono HO_9.out (fun _ hk=>trivial)),zb20⟩
         subst c85
         rw[if_pos rfl] at H
         replace H:=zIN H
         obtain⟨c86,H⟩:=H
         have c86b0:=eq_true c86
         have c86b1:decide (0≤a2)=true:=zE c86
         clear c86
         replace H:=zIN H
         obtain⟨c87,H⟩:=H
         have c87b0:=eq_true c87
         have c87b1:decide (a2≤(t494.length:Int))=true:=zE c87
         clear c87
         obtain⟨y499,hy499⟩:∃y_:List Int,y_=(t494.take (a2:Int).toNat):=⟨_,rfl⟩
         rw[←hy499] at H
         have Ny499:=zM hy499
         clear hy499
         simp only[Option.some.injEq,Prod.mk.injEq] at H
         obtain⟨rfl,rfl,rfl⟩:=H
         have hnb88:=NB444_454.out
         have hnc88:=NB454_444.out
         obtain⟨hcz89_0,hcz89_1,hcz89_2,hcz89_3,hcz89_4,hcz89_5,hfz89_0,hfz89_1,hfz89_2,hfz89_3,hfz89_4,hfz89_5⟩:=zc6 BK444.out
         obtain⟨Ao90,co90,eo90⟩:=Kd.R_slice HO_15.out
         subst eo90
         try go_wp2_with (first|((with_reducible refine gate_callee (f:=69) rfl ?_);refine goesL_ (some 155) rfl rfl Try.func69 ze rfl #[.int .i64 a0_0, .slice Ao90 x15_4.length co90] rfl zg ?_;(with_reducible refine(spec_Decide.calls k4 a0_0 _ _ x15_4 t474 true _ ?side1 ?side2 A76.out).mono ?_);(case side1=>exact zc (Kd.R_reads' HO_15.out).2.2);(case side2=>exact(Kd.R_reads' HO_15.out).2.1);rintro e w91 ⟨v476,rfl,ho0,hb⟩;refine⟨_,rfl,?_⟩;refine zS6 (Kd.R_below (zr HO_9) hb) (Kd.R_below (zr HO_15) hb) (Kd.R_lower ho0 (below_size zb20)) (zNb (g:=gb444) (o:= .cells #[.int .i64 a0_0, .int .i64 a0_1, .int .i64 a0_2, .int .i64 a0_3, .int .i64 a0_4, .int .i64 a0_5] 28 (0,0)) (zn BK444) hb) (zNb (g:=gb454) (o:= .cells #[.int .i64 t452, .int .i64 t453] 52 (0,0)) (zn BK454) hb) (below_step zb20 hb) ?_;clear HO_9 HO_15 BK444 BK454 HB;intro HO_9 HO_15 HO477 BK444 BK454 HB;(try clear hb);(try clear hb2);(try clear hk);(try clear hi);(try clear ho0)))
         refine zS6 (zRd HO_9.out) (zRd HO_15.out) (zRd HO477.out) (zNd BK444.out) (zNd BK454.out) (zBd HB.out) ?_
         clear HO_9 HO_15 HO477 BK444 BK454 HB
         intro HO_9 HO_15 HO477 BK444 BK454 HB
         obtain⟨Ao94,co94,eo94⟩:=Kd.R_slice HO477.out
         (first|subst eo94|(injection eo94 with f1_ f2_ f3_;have f4_:=f1_.symm;have f5_:=f3_.symm;clear f1_ f2_ f3_;subst f4_;subst f5_))
         have q93:((ji78):Int)≤((t474.length:Int):Int):=zT (by assumption)
         obtain⟨i093,hi093,_,hsz93,_⟩:=info_parts info3
         have hroom93:t474.length≤co94:=(Kd.R_reads' HO477.out).2.1
         have hC93:Kd.C (Kd.int .i64) _ Ao94 t474.length t474:=(Kd.R_reads' HO477.out).2.2
         have hcut93:=cut_to (P:=Try.prog) 46 3 .i64 Try.underlying46 hi093 Ao94 t474.length co94 (ji78) (zT (by assumption)) q93 hroom93
         have hr93:=Kd.C_take (m:=((ji78):Int).toNat) hC93 (by omega)
         have hy93:y478.length=((ji78):Int).toNat:=(by rw[Ny478.out,List.length_take];omega)
         rw[←Ny478.out] at hr93
         rw[←hy93] at hcut93
         have HR481:=zM hr93
         have HC481:=zM (show y478.length≤co94 from by omega)
         clear hr93 hC93 hroom93 hi093 hsz93
         have KY93:=zM hy93
         clear hy93
         have KL93:=zM (show((ji78):Int).toNat≤t474.length from by omega)
         replace q93:=eq_true q93
         refine start_ (n:=10) (S:=fun w'=>w'.cell? ⟨gb444,0,none⟩=some (.int .i64 a0_0)∧w'.cell? ⟨gb444,1,none⟩=some (.int .i64 a0_1)∧w'.cell? ⟨gb444,2,none⟩=some (.int .i64 a0_2)∧w'.cell? ⟨gb444,3,none⟩=some (.int .i64 a0_3)∧w'.cell? ⟨gb444,4,none⟩=some (.int .i64 a0_4)∧w'.cell? ⟨gb444,5,none⟩=some (.int .i64 a0_5)) (ds:=[]) #[zf,zf,zf,zf,zf,zf,zf,zf,zf,zf] ze rfl rfl ⟨(blk_cell BK444.out 0).trans rfl,(blk_cell BK444.out 1).trans rfl,(blk_cell BK444.out 2).trans rfl,(blk_cell BK444.out 3).trans rfl,(blk_cell BK444.out 4).trans rfl,(blk_cell BK444.out 5).trans rfl⟩ (fun hHeld=> ?_);refine with_tabW spec_Hear.tab26 spec_Hear.bits26 (fun HT_ HW_=> ?_)
         generalize w91.drew=w92 at HO_9 HO_15 HO477 BK444 BK454 HB HR481 hHeld ⊢
         refine zu 0 162 ?_
         refine zu 1 163 ?_
         refine zu 2 164 ?_
         refine zu 3 165 ?_
         refine zt6 4 166 ?_
         refine one_ (i:=5) (N:=some 167) #[zt,zt,zt,zt,zt,zt,zf,zf,zf,zf] rfl rfl (one_of HT_.out ze) (by decide) (fun K hK=> ?_)
         refine goes_ Try.func34 ze rfl #[.slice Ao94 y478.length co94, .int .i64 46080, .int .i64 a0_3] (by rfl) rfl rfl zg ?_
         with_reducible refine(spec_Stir.calls k4 _ _ y478 46080 a0_3 t482 t483 _ ?side1 ?side2 A81.out).mono ?_
         (case side1=>exact zc (zc HR481.out))
         (case side2=>exact HC481.out)
         rintro e w95 ⟨v484,rfl,ho0,hb⟩
         refine⟨_,rfl,?_⟩
         refine zS8 (Kd.R_below (zr HO_9) hb) (Kd.R_below (zr HO_15) hb) (Kd.R_elder' (zr HO477) (Kd.R_base ho0) hb) (Kd.R_lower (Kd.R_new' ho0 (Kd.R_lt (zr HO477))) (below_size zb20)) (zNb (g:=gb444) (o:= .cells #[.int .i64 a0_0, .int .i64 a0_1, .int .i64 a0_2, .int .i64 a0_3, .int .i64 a0_4, .int .i64 a0_5] 28 (0,0)) (zn BK444) hb) (zNb (g:=gb454) (o:= .cells #[.int .i64 t452, .int .i64 t453] 52 (0,0)) (zn BK454) hb) (Kd.C_below (zc HR481.out) hb) (below_step zb20 hb) ?_
         clear HO_9 HO_15 HO477 BK444 BK454 HR481 HB
         intro HO_9 HO_15 HO477 HO485 BK444 BK454 HR481 HB
         (try clear hb)
         (try clear hb2)
         (try clear hk)
         (try clear hi)
         (try clear ho0)
         refine hK.out _ _ ⟨(blk_cell BK444.out 0).trans rfl,(blk_cell BK444.out 1).trans rfl,(blk_cell BK444.out 2).trans rfl,(blk_cell BK444.out 3).trans rfl,(blk_cell BK444.out 4).trans rfl,(blk_cell BK444.out 5).trans rfl⟩ (fun hHeld=> ?_)
         clear hK K
         refine norm_ (a':= ?_) ?_ ?_
         rotate_left
         ·show Act.put _ (some 167) _=_
          simp only[Act.put,zL1,zL2,zL3,i64_w,i32_w]
          rfl
         refine zu 6 161 ?_
         refine zu 7 168 ?_
         refine zu 8 169 ?_
         refine zu 9 18 ?_
         refine done_ (done_of HT_.out ze) ?_
         obtain⟨hcz96_0,hcz96_1,hcz96_2,hcz96_3,hcz96_4,hcz96_5,hfz96_0,hfz96_1,hfz96_2,hfz96_3,hfz96_4,hfz96_5⟩:=zc6 BK444.out
         obtain⟨Ao97,co97,eo97⟩:=Kd.R_slice HO485.out
         subst eo97
         try go_wp2_with (first|((with_reducible refine gate_callee (f:=70) rfl ?_);refine goesL_ (some 174) rfl rfl Try.func70 ze rfl #[.slice Ao97 t482.length co97, .int .i64 a0_2] rfl zg ?_;(with_reducible refine(spec_Unweave.calls k4 _ _ t482 a0_2 t486 t487 _ ?side1 ?side2 A82.out).mono ?_);(case side1=>exact zc (Kd.R_reads' HO485.out).2.2);(case side2=>exact(Kd.R_reads' HO485.out).2.1);rintro e w98 ⟨v488,rfl,ho0,hb⟩;refine⟨_,rfl,?_⟩;refine zS9 (Kd.R_below (zr HO_9) hb) (Kd.R_below (zr HO_15) hb) (Kd.R_elder' (zr HO477) (Kd.R_base ho0) hb) (Kd.R_elder' (zr HO485) (Kd.R_base ho0) hb) (Kd.R_lower (Kd.R_new' (Kd.R_new' ho0 (Kd.R_lt (zr HO477))) (Kd.R_lt (zr HO485))) (below_size zb20)) (zNb (g:=gb444) (o:= .cells #[.int .i64 a0_0, .int .i64 a0_1, .int .i64 a0_2, .int .i64 a0_3, .int .i64 a0_4, .int .i64 a0_5] 28 (0,0)) (zn BK444) hb) (zNb (g:=gb454) (o:= .cells #[.int .i64 t452, .int .i64 t453] 52 (0,0)) (zn BK454) hb) (Kd.C_below (zc HR481.out) hb) (below_step zb20 hb) ?_;clear HO_9 HO_15 HO477 HO485 BK444 BK454 HR481 HB;intro HO_9 HO_15 HO477 HO485 HO489 BK444 BK454 HR481 HB;(try clear hb);(try clear hb2);(try clear hk);(try clear hi);(try clear ho0);obtain⟨Ao99,co99,eo99⟩:=Kd.R_slice HO489.out;subst eo99)|((with_reducible refine gate_callee (f:=71) rfl ?_);refine goesL_ (some 179) rfl rfl Try.func71 ze rfl #[.slice Ao99 t486.length co99] rfl zg ?_;(with_reducible refine(spec_Pack8.calls k4 _ _ t486 t490 t491 _ ?side1 ?side2 A83.out).mono ?_);(case side1=>exact zc (Kd.R_reads' HO489.out).2.2);(case side2=>exact(Kd.R_reads' HO489.out).2.1);rintro e w100 ⟨v492,rfl,ho0,hb⟩;refine⟨_,rfl,?_⟩;refine zS10 (Kd.R_elder' (zr HO_9) (Kd.R_base ho0) hb) (Kd.R_below (zr HO_15) hb) (Kd.R_below (zr HO477) hb) (Kd.R_below (zr HO485) hb) (Kd.R_below (zr HO489) hb) (Kd.R_lower (Kd.R_new' ho0 (Kd.R_lt (zr HO_9))) (below_size zb20)) (zNb (g:=gb444) (o:= .cells #[.int .i64 a0_0, .int .i64 a0_1, .int .i64 a0_2, .int .i64 a0_3, .int .i64 a0_4, .int .i64 a0_5] 28 (0,0)) (zn BK444) hb) (zNb (g:=gb454) (o:= .cells #[.int .i64 t452, .int .i64 t453] 52 (0,0)) (zn BK454) hb) (Kd.C_below (zc HR481.out) hb) (below_step zb20 hb) ?_;clear HO_9 HO_15 HO477 HO485 HO489 BK444 BK454 HR481 HB;intro HO_9 HO_15 HO477 HO485 HO489 HO493 BK444 BK454 HR481 HB;(try clear hb);(try clear hb2);(try clear hk);(try clear hi);(try clear ho0);obtain⟨hcz101_0,hcz101_1,hcz101_2,hcz101_3,hcz101_4,hcz101_5,hfz101_0,hfz101_1,hfz101_2,hfz101_3,hfz101_4,hfz101_5⟩:=zc6 BK444.out;obtain⟨Ao102,co102,eo102⟩:=Kd.R_slice HO493.out;subst eo102)|((with_reducible refine gate_callee (f:=72) rfl ?_);refine goesL_ (some 186) rfl rfl Try.func72 ze rfl #[.slice Ao102 t490.length co102, .int .i64 a0_1] rfl zg ?_;(with_reducible refine(spec_RsMend.calls k4 _ _ t490 a0_1 t494 t495 true _ ?side1 ?side2 A84.out).mono ?_);(case side1=>exact zc (Kd.R_reads' HO493.out).2.2);(case side2=>exact(Kd.R_reads' HO493.out).2.1);rintro e w103 ⟨v497,rfl,ho0,hb⟩;refine⟨_,rfl,?_⟩;refine zS11 (Kd.R_elder' (zr HO_9) (Kd.R_base ho0) hb) (Kd.R_below (zr HO_15) hb) (Kd.R_below (zr HO477) hb) (Kd.R_below (zr HO485) hb) (Kd.R_below (zr HO489) hb) (Kd.R_elder' (zr HO493) (Kd.R_base ho0) hb) (Kd.R_lower (Kd.R_new' (Kd.R_new' ho0 (Kd.R_lt (zr HO_9))) (Kd.R_lt (zr HO493))) (below_size zb20)) (zNb (g:=gb444) (o:= .cells #[.int .i64 a0_0, .int .i64 a0_1, .int .i64 a0_2, .int .i64 a0_3, .int .i64 a0_4, .int .i64 a0_5] 28 (0,0)) (zn BK444) hb) (zNb (g:=gb454) (o:= .cells #[.int .i64 t452, .int .i64 t453] 52 (0,0)) (zn BK454) hb) (Kd.C_below (zc HR481.out) hb) (below_step zb20 hb) ?_;clear HO_9 HO_15 HO477 HO485 HO489 HO493 BK444 BK454 HR481 HB;intro HO_9 HO_15 HO477 HO485 HO489 HO493 HO498 BK444 BK454 HR481 HB;(try clear hb);(try clear hb2);(try clear hk);(try clear hi);(try clear ho0);obtain⟨Ao104,co104,eo104⟩:=Kd.R_slice HO498.out;subst eo104;have q105:(a2:Int)≤((t494.length:Int):Int):=zT (by assumption);obtain⟨i0105,hi0105,_,hsz105,_⟩:=info_parts info5;have hcut105:=cut_to (P:=Try.prog) 24 5 .i64 Try.underlying24 hi0105 Ao104 t494.length co104 a2 (zT (by assumption)) q105 (Kd.R_reads' HO498.out).2.1;have hr105:=Kd.R_take (m:=(a2:Int).toNat) HO498.out (by omega);have hy105:y499.length=(a2:Int).toNat:=(by rw[Ny499.out,List.length_take];omega);rw[←Ny499.out] at hr105;rw[←hy105] at hr105 hcut105;clear hy105 hi0105 hsz105 HO498;have HO501:=zM hr105;clear hr105;replace q105:=eq_true q105))
         go_ret3
         exact⟨_,by first|rfl|(simp[errW_none,errW_some]<;>rfl)|(simp only[←hji78];first|rfl|(simp[errW_none,errW_some]<;>rfl))|(simp[*,errW_none,errW_some]<;>rfl),by(with_reducible repeat(first|apply zRa|apply zRn|apply zRd));first|exact Kd.R_mono HO501.out (fun _ hk=>trivial)|(subst_vars;exact Kd.R_mono HO501.out (fun _ hk=>trivial)),zb20⟩
end Go.Proofs.Ytapobpkeefeajaa.PFnExactHear
