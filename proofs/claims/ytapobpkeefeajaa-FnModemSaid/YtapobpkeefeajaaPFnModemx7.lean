-- A turned copy of the print's text.
import Derived.Test.YtapobpkeefeajaaPFnModemx0
import Derived.Test.YtapobpkeefeajaaPFnModemx6
namespace Go.Proofs.Ytapobpkeefeajaa.PFnModem
open Go.RowKit Go.Proofs.YtapobpkeefeajaaW.PrintWords Go.Proofs.YtapobpkeefeajaaW.PrintLast Go.Proofs.YtapobpkeefeajaaW.PrintMore
attribute [local go_sem] max2_int min2_int max_two min_two max_three min_three max_four min_four
set_option maxHeartbeats 8000000
set_option maxRecDepth 100000
set_option linter.unusedVariables false
set_option linter.unusedSimpArgs false
def impl_turned.l0:Nat→Int→Int→Int→Int→Option (Int×Int)
 |0,_,_,_,_=>none
 |k+1,x5,x6,x180000,x180001=>if x6<x5 then(impl_turned.l0 k x5 (wrap64 (x6+1)) (wrap64 (-x180001)) x180000) else(some (x180000,x180001))
def impl_turned.f (k:Nat) (a0_0:Int) (a0_1:Int) (a1:Int):Option (Int×Int):=impl_turned.l0 k a1 0 a0_0 a0_1
theorem impl_turned.calls (k:Nat) (a0_0:Int) (a0_1:Int) (a1:Int) (r1:Int) (r2:Int) (w:World) (H:impl_turned.f k a0_0 a0_1 a1=some (r1,r2)):
 Calls Try.prog 53 #[.agg #[.int .i64 a0_0, .int .i64 a0_1], .int .i64 a1] w fun e w'=>e= .returned (.agg #[.int .i64 r1, .int .i64 r2])∧Below w.heap.size w w':=by
 have hu52:=Try.underlying52
 have HB:=zM (Below.refl w.heap.size w)
 unfold impl_turned.f at H
 have H':=zM H
 clear H
 go_enter Try.func53,Try.ntmps53
 go_wp2_with (first|((with_reducible refine gate_dst (N:=2) rfl ?_);refine box_event ?hg (N:=2) ?hd (cs:= #[.int .i64 a0_0, .int .i64 a0_1]) (t:=52) ?hr ?_;(case hd|hg=>rfl);(case hr=>exact zh);intro gb179 hg w3 hbox hb;have n0_:=zM (below_step zb hb);have n1_:=zM (hbox);have n2_:=zM ((zw hg (below_size zb)));have n3_:=zM n2_.out;clear HB;have HB:=n0_;have BK179:=n1_;have GW179:=n2_;have GE179:=n3_;clear n0_ n1_ n2_ n3_;clear hb hbox hg)|((with_reducible refine gate_dst (N:=4) rfl ?_);refine box_event ?hg (N:=4) ?hd (cs:= #[.int .i64 0, .int .i64 0]) (t:=52) ?hr ?_;(case hd|hg=>rfl);(case hr=>exact zh);intro gb180 hg w4 hbox hb;have n0_:=zM (zNb (g:=gb179) (o:= .cells #[.int .i64 a0_0, .int .i64 a0_1] 52 (0,0)) (zn BK179) hb);have n1_:=zM (below_step zb21 hb);have n2_:=zM (hbox);have n3_:=zM ((zw hg (below_size zb21)));have n4_:=zM n3_.out;have n5_:=zM ((by rw[hg];exact Nat.ne_of_lt (by simpa using blk_lt BK179.out):gb179≠gb180));have n6_:=zM ((by rw[hg];exact Nat.ne_of_gt (by simpa using blk_lt BK179.out):gb180≠gb179));clear BK179;clear HB;have BK179:=n0_;have HB:=n1_;have BK180:=n2_;have GW180:=n3_;have GE180:=n4_;have NB179_180:=n5_;have NB180_179:=n6_;clear n0_ n1_ n2_ n3_ n4_ n5_ n6_;clear hb hbox hg))
 (try simp only[Act.put,zL1,zL2,zL3])
 go_loopg [6] k (fun kq v6 w'=>∃(x6_1:Int) (x180000_1:Int) (x180001_1:Int),v6= .int .i64 x6_1∧Aside0 (impl_turned.l0 kq a1 x6_1 x180000_1 x180001_1=some (r1,r2))∧Aside0 (kq≤k)∧Aside0 (w'.heap[gb179]? =some (.cells #[.int .i64 x180000_1, .int .i64 x180001_1] 52 (0,0)))∧Aside0 (w'.heap[gb180]? =some (.cells #[.int .i64 0, .int .i64 0] 52 (0,0)))∧Aside0 (Below w.heap.size w w'))
 case atStart=>exact⟨(0),(a0_0),(a0_1),zs,H',⟨Nat.le_refl _⟩,⟨zn BK179⟩,⟨zn BK180⟩,⟨zb22⟩⟩
 case round=>
  clear H'
  obtain⟨x6_1,x180000_1,x180001_1,rfl,HA,HK1,BK179,BK180,HB⟩:=hrel
  cases gk with
  |zero=>exact absurd HA.out (by simp[impl_turned.l0])
  | succ k1=>
   have H:=HA.out
   clear HA
   simp only[impl_turned.l0] at H
   replace H:=zI2 H
   rcases H with⟨c5,H⟩|⟨c5,H⟩
   case inr=>
    have c5b0:=decide_eq_false c5
    clear c5
    simp only[Option.some.injEq,Prod.mk.injEq] at H
    obtain⟨rfl,rfl⟩:=H
    have hnb8:=NB179_180.out
    have hnc8:=NB180_179.out
    obtain⟨hcz9_0,hcz9_1,hfz9_0,hfz9_1⟩:=zc2 BK179.out
    obtain⟨hcz10_0,hcz10_1,hfz10_0,hfz10_1⟩:=zc2 BK180.out
    go_wp2
    refine bodyPost_ret (results_cell_row rfl _ _ gb180 52 #[.int .i64 x180000_1, .int .i64 x180001_1] (0,0) _ rfl (by(with_reducible repeat(first|apply zNn|apply zNd|apply zNa));exact blk_put (blk_put (BK180.out) 0 _ rfl) 1 _ rfl) Try.underlying52 rfl ze) rfl ?_
    exact⟨zq,zb22⟩
   have c5b0:=zE c5
   clear c5
   have H':=zM H
   clear H
   have hnb6:=NB179_180.out
   have hnc6:=NB180_179.out
   obtain⟨hcz7_0,hcz7_1,hfz7_0,hfz7_1⟩:=zc2 BK179.out
   go_wp2
   go_roundg k1
   case measure=>have:=HK1.out;omega
   case rel=>exact⟨(wrap64 (x6_1+1)),(wrap64 (-x180001_1)),(x180000_1),zs,H',⟨zl1 HK1⟩,⟨by(with_reducible repeat(first|apply zNn|apply zNd|apply zNa));refine blk_put (cs:= #[.int .i64 (wrap64 (-x180001_1)), .int .i64 x180001_1]) ?_ 1 _ rfl;(with_reducible repeat(first|apply zNn|apply zNd|apply zNa));refine blk_put (cs:= #[.int .i64 x180000_1, .int .i64 x180001_1]) ?_ 0 _ rfl;(with_reducible repeat(first|apply zNn|apply zNd|apply zNa));exact BK179.out⟩,⟨by(with_reducible repeat(first|apply zNn|apply zNd|apply zNa));refine zNf ?_ NB180_179.out _;(with_reducible repeat(first|apply zNn|apply zNd|apply zNa));refine zNf ?_ NB180_179.out _;(with_reducible repeat(first|apply zNn|apply zNd|apply zNa));exact BK180.out⟩,⟨zb22⟩⟩
mutual
def impl_Air.j0:Nat→List (S52)→Int→Int→List (S52)→Bool→Option ((List (S52))×Bool)
 |0,_,_,_,_,_=>none
 |k+1,x0,x1,x2,x3,x52=>if x52=true then(some (([]:List (S52)),false)) else(if 0≤x1 then(if(x1:Int).toNat≤17592186044416 then((some (List.replicate (x1:Int).toNat z52:List (S52))).bind fun y152=>(if y152.length+x0.length<8796093022208 then((some (y152++x0:List (S52))).bind fun y155=>(impl_Air.l0 k x2 x3 y155 (y155.length:Int) 0)) else(none))) else(none)) else(none))
def impl_Air.l0:Nat→Int→List (S52)→List (S52)→Int→Int→Option ((List (S52))×Bool)
 |0,_,_,_,_,_=>none
 |k+1,x2,x3,x56,x58,x59=>if x59<x58 then(if 0≤x59 then(if x59<(x56.length:Int) then((impl_turned.f k ((rd_T52 x56 x59).f0) ((rd_T52 x56 x59).f1) x2).bind fun bt160=>(if x59<(x3.length:Int) then(impl_Air.l0 k x2 x3 (x56.set (x59:Int).toNat (⟨wrap64 (bt160.1+((rd_T52 x3 x59).f0)),wrap64 (bt160.2+((rd_T52 x3 x59).f1))⟩:S52)) x58 (wrap64 (x59+1))) else(impl_Air.l0 k x2 x3 (x56.set (x59:Int).toNat (⟨bt160.1,bt160.2⟩:S52)) x58 (wrap64 (x59+1))))) else(none)) else(none)) else((impl_burstOk.f x56).bind fun t166=>(if t166=true then(some (x56,true)) else(some (([]:List (S52)),false))))
end
def impl_Air.f (k:Nat) (l0:List (S52)) (a1:Int) (a2:Int) (l3:List (S52)):Option ((List (S52))×Bool):=(impl_burstOk.f l0).bind fun t150=>(if t150=true then((impl_burstOk.f l3).bind fun t151=>(if t151=true then(if a1<0 then(impl_Air.j0 k l0 a1 a2 l3 true) else(if a1>200 then(impl_Air.j0 k l0 a1 a2 l3 true) else(if a2<0 then(impl_Air.j0 k l0 a1 a2 l3 true) else(if a2>3 then(impl_Air.j0 k l0 a1 a2 l3 true) else(if(wrap64 ((l0.length:Int)+a1))>4096 then(impl_Air.j0 k l0 a1 a2 l3 true) else(impl_Air.j0 k l0 a1 a2 l3 (decide ((l3.length:Int)>(wrap64 ((l0.length:Int)+a1)))))))))) else(impl_Air.j0 k l0 a1 a2 l3 true))) else(impl_Air.j0 k l0 a1 a2 l3 true))
def impl_Air.T9:Bool×List (List Nat×List Nat):=(true,[([],[]),([0],[0]),([],[]),([],[]),([2,3],[2,3]),([4],[4]),([5],[5]),([1,6],[1,6]),([0,1,2,3,4,5,6,7],[]),([8,7,0,1,2,3,4,5,6,7],[7,8])])
def impl_Air.B9:List Nat:=[0,1,0,0,12,28,60,127,255,511]
theorem impl_Air.tab9:rtab .any (opsOf Try.f18 9)=impl_Air.T9:=by kernel_rfl
theorem impl_Air.bits9:waitsOk impl_Air.T9.2 impl_Air.B9=true:=by kernel_rfl
def impl_Air.T10:Bool×List (List Nat×List Nat):=(true,[([],[]),([0],[0]),([],[]),([],[]),([2,3],[2,3]),([4],[4]),([5],[5]),([1,6],[1,6]),([0,1,2,3,4,5,6,7],[]),([8,7,0,1,2,3,4,5,6,7],[7,8])])
def impl_Air.B10:List Nat:=[0,1,0,0,12,28,60,127,255,511]
theorem impl_Air.tab10:rtab .any (opsOf Try.f18 10)=impl_Air.T10:=by kernel_rfl
theorem impl_Air.bits10:waitsOk impl_Air.T10.2 impl_Air.B10=true:=by kernel_rfl
theorem impl_Air.calls (k:Nat) (A0:Option Addr) (c0:Nat) (l0:List (S52)) (a1:Int) (a2:Int) (A3:Option Addr) (c3:Nat) (l3:List (S52)) (r1:List (S52)) (r2:Bool) (w:World) (hr0:Kd.C k52 w A0 l0.length l0) (hc0:l0.length≤c0) (hr3:Kd.C k52 w A3 l3.length l3) (hc3:l3.length≤c3) (H:impl_Air.f k l0 a1 a2 l3=some (r1,r2)):
 Calls Try.prog 18 #[.slice A0 l0.length c0, .int .i64 a1, .int .i64 a2, .slice A3 l3.length c3] w fun e w'=>∃v0_:Value,e= .returned (.tuple #[v0_, .bool r2])∧Kd.R k52 52 w' w.heap.size (fun _=>True) v0_ r1∧Below w.heap.size w w':=by
 have hu76:=Try.underlying52
 have HR0:=zM hr0
 have HC0:=zM hc0
 clear hr0 hc0
 have HR3:=zM hr3
 have HC3:=zM hc3
 clear hr3 hc3
 have HB:=zM (Below.refl w.heap.size w)
 unfold impl_Air.f at H
 have HC5:=zM H
 clear H
 go_enter Try.func18,Try.ntmps18
 go_upto_region 1 with(fail)
 go_cut [52] (fun v52 wc=>∃(kq:Nat) (x52_4:Bool),v52= .bool x52_4∧Aside0 (impl_Air.j0 kq l0 a1 a2 l3 x52_4=some (r1,r2))∧Aside0 (kq≤k)∧Aside0 (Below w.heap.size w wc))
 case first=>
  have H:=HC5.out
  clear HC5
  replace H:=zP H
  obtain⟨t150,A6,H⟩:=H
  by_cases c7:t150=true
  case neg=>
   replace c7:=Bool.eq_false_iff.mpr c7
   subst c7
   rw[if_neg zFT] at H
   have H':=zM H
   clear H
   go_wp2_with (first|((with_reducible refine gate_callee (f:=52) rfl ?_);refine goesL_ (some 14) rfl rfl Try.func52 ze rfl #[.slice A0 l0.length c0] rfl zg ?_;(with_reducible refine(impl_burstOk.calls _ _ l0 false _ ?side1 ?side2 A6.out).mono ?_);(case side1=>exact zc (Kd.C_below HR0.out HB.out));(case side2=>exact HC0.out);rintro e w29 ⟨rfl,hb⟩;refine⟨_,rfl,?_⟩;refine zS1 (below_step zb hb) ?_;clear HB;intro HB;(try clear hb);(try clear hb2);(try clear hk);(try clear hi)))
   go_meet
   case rel=>exact⟨_,(true),zs,H',⟨zo⟩,⟨zb⟩⟩
  subst c7
  rw[if_pos rfl] at H
  replace H:=zP H
  obtain⟨t151,A8,H⟩:=H
  by_cases c9:t151=true
  case neg=>
   replace c9:=Bool.eq_false_iff.mpr c9
   subst c9
   rw[if_neg zFT] at H
   have H':=zM H
   clear H
   go_wp2_with (first|((with_reducible refine gate_callee (f:=52) rfl ?_);refine goesL_ (some 14) rfl rfl Try.func52 ze rfl #[.slice A0 l0.length c0] rfl zg ?_;(with_reducible refine(impl_burstOk.calls _ _ l0 true _ ?side1 ?side2 A6.out).mono ?_);(case side1=>exact zc (Kd.C_below HR0.out HB.out));(case side2=>exact HC0.out);rintro e w27 ⟨rfl,hb⟩;refine⟨_,rfl,?_⟩;refine zS1 (below_step zb hb) ?_;clear HB;intro HB;(try clear hb);(try clear hb2);(try clear hk);(try clear hi))|(go_at_call 52;(with_reducible refine(impl_burstOk.calls _ _ l3 false _ ?side1 ?side2 A8.out).mono ?_);(case side1=>exact zc (Kd.C_below HR3.out HB.out));(case side2=>exact HC3.out);rintro e w28 ⟨rfl,hb⟩;refine zS1 (below_step zb hb) ?_;clear HB;intro HB;(try clear hb);(try clear hb2);(try clear hk);(try clear hi)))
   go_meet
   case rel=>exact⟨_,(true),zs,H',⟨zo⟩,⟨zb⟩⟩
  subst c9
  rw[if_pos rfl] at H
  replace H:=zI2 H
  rcases H with⟨c10,H⟩|⟨c10,H⟩
  case inl=>
   have c10b0:=zE c10
   clear c10
   (first|rw[c10b0]|(simp only[i64_w,i32_w];rw[c10b0])|skip)
   have H':=zM H
   clear H
   go_wp2_with (first|((with_reducible refine gate_callee (f:=52) rfl ?_);refine goesL_ (some 14) rfl rfl Try.func52 ze rfl #[.slice A0 l0.length c0] rfl zg ?_;(with_reducible refine(impl_burstOk.calls _ _ l0 true _ ?side1 ?side2 A6.out).mono ?_);(case side1=>exact zc (Kd.C_below HR0.out HB.out));(case side2=>exact HC0.out);rintro e w11 ⟨rfl,hb⟩;refine⟨_,rfl,?_⟩;refine zS1 (below_step zb hb) ?_;clear HB;intro HB;(try clear hb);(try clear hb2);(try clear hk);(try clear hi))|(go_at_call 52;(with_reducible refine(impl_burstOk.calls _ _ l3 true _ ?side1 ?side2 A8.out).mono ?_);(case side1=>exact zc (Kd.C_below HR3.out HB.out));(case side2=>exact HC3.out);rintro e w12 ⟨rfl,hb⟩;refine zS1 (below_step zb hb) ?_;clear HB;intro HB;(try clear hb);(try clear hb2);(try clear hk);(try clear hi)))
   go_meet
   case rel=>exact⟨_,(true),zs,H',⟨zo⟩,⟨zb⟩⟩
  have c10b0:=decide_eq_false c10
  clear c10
  (first|rw[c10b0]|(simp only[i64_w,i32_w];rw[c10b0])|skip)
  replace H:=zI2 H
  rcases H with⟨c13,H⟩|⟨c13,H⟩
  case inl=>
   have c13b0:decide (200<a1)=true:=zE c13
   clear c13
   have H':=zM H
   clear H
   go_wp2_with (first|((with_reducible refine gate_callee (f:=52) rfl ?_);refine goesL_ (some 14) rfl rfl Try.func52 ze rfl #[.slice A0 l0.length c0] rfl zg ?_;(with_reducible refine(impl_burstOk.calls _ _ l0 true _ ?side1 ?side2 A6.out).mono ?_);(case side1=>exact zc (Kd.C_below HR0.out HB.out));(case side2=>exact HC0.out);rintro e w14 ⟨rfl,hb⟩;refine⟨_,rfl,?_⟩;refine zS1 (below_step zb hb) ?_;clear HB;intro HB;(try clear hb);(try clear hb2);(try clear hk);(try clear hi))|(go_at_call 52;(with_reducible refine(impl_burstOk.calls _ _ l3 true _ ?side1 ?side2 A8.out).mono ?_);(case side1=>exact zc (Kd.C_below HR3.out HB.out));(case side2=>exact HC3.out);rintro e w15 ⟨rfl,hb⟩;refine zS1 (below_step zb hb) ?_;clear HB;intro HB;(try clear hb);(try clear hb2);(try clear hk);(try clear hi)))
   go_meet
   case rel=>exact⟨_,(true),zs,H',⟨zo⟩,⟨zb⟩⟩
  have c13b0:decide (200<a1)=false:=decide_eq_false c13
  clear c13
  replace H:=zI2 H
  rcases H with⟨c16,H⟩|⟨c16,H⟩
  case inl=>
   have c16b0:=zE c16
   clear c16
   have H':=zM H
   clear H
   go_wp2_with (first|((with_reducible refine gate_callee (f:=52) rfl ?_);refine goesL_ (some 14) rfl rfl Try.func52 ze rfl #[.slice A0 l0.length c0] rfl zg ?_;(with_reducible refine(impl_burstOk.calls _ _ l0 true _ ?side1 ?side2 A6.out).mono ?_);(case side1=>exact zc (Kd.C_below HR0.out HB.out));(case side2=>exact HC0.out);rintro e w17 ⟨rfl,hb⟩;refine⟨_,rfl,?_⟩;refine zS1 (below_step zb hb) ?_;clear HB;intro HB;(try clear hb);(try clear hb2);(try clear hk);(try clear hi))|(go_at_call 52;(with_reducible refine(impl_burstOk.calls _ _ l3 true _ ?side1 ?side2 A8.out).mono ?_);(case side1=>exact zc (Kd.C_below HR3.out HB.out));(case side2=>exact HC3.out);rintro e w18 ⟨rfl,hb⟩;refine zS1 (below_step zb hb) ?_;clear HB;intro HB;(try clear hb);(try clear hb2);(try clear hk);(try clear hi)))
   go_meet
   case rel=>exact⟨_,(true),zs,H',⟨zo⟩,⟨zb⟩⟩
  have c16b0:=decide_eq_false c16
  clear c16
  replace H:=zI2 H
  rcases H with⟨c19,H⟩|⟨c19,H⟩
  case inl=>
   have c19b0:decide (3<a2)=true:=zE c19
   clear c19
   have H':=zM H
   clear H
   go_wp2_with (first|((with_reducible refine gate_callee (f:=52) rfl ?_);refine goesL_ (some 14) rfl rfl Try.func52 ze rfl #[.slice A0 l0.length c0] rfl zg ?_;(with_reducible refine(impl_burstOk.calls _ _ l0 true _ ?side1 ?side2 A6.out).mono ?_);(case side1=>exact zc (Kd.C_below HR0.out HB.out));(case side2=>exact HC0.out);rintro e w20 ⟨rfl,hb⟩;refine⟨_,rfl,?_⟩;refine zS1 (below_step zb hb) ?_;clear HB;intro HB;(try clear hb);(try clear hb2);(try clear hk);(try clear hi))|(go_at_call 52;(with_reducible refine(impl_burstOk.calls _ _ l3 true _ ?side1 ?side2 A8.out).mono ?_);(case side1=>exact zc (Kd.C_below HR3.out HB.out));(case side2=>exact HC3.out);rintro e w21 ⟨rfl,hb⟩;refine zS1 (below_step zb hb) ?_;clear HB;intro HB;(try clear hb);(try clear hb2);(try clear hk);(try clear hi)))
   go_meet
   case rel=>exact⟨_,(true),zs,H',⟨zo⟩,⟨zb⟩⟩
  have c19b0:decide (3<a2)=false:=decide_eq_false c19
  clear c19
  replace H:=zI2 H
  rcases H with⟨c22,H⟩|⟨c22,H⟩
  case inl=>
   have c22b0:decide (4096<(wrap64 ((l0.length:Int)+a1)))=true:=zE c22
   clear c22
   have H':=zM H
   clear H
   go_wp2_with (first|((with_reducible refine gate_callee (f:=52) rfl ?_);refine goesL_ (some 14) rfl rfl Try.func52 ze rfl #[.slice A0 l0.length c0] rfl zg ?_;(with_reducible refine(impl_burstOk.calls _ _ l0 true _ ?side1 ?side2 A6.out).mono ?_);(case side1=>exact zc (Kd.C_below HR0.out HB.out));(case side2=>exact HC0.out);rintro e w23 ⟨rfl,hb⟩;refine⟨_,rfl,?_⟩;refine zS1 (below_step zb hb) ?_;clear HB;intro HB;(try clear hb);(try clear hb2);(try clear hk);(try clear hi))|(go_at_call 52;(with_reducible refine(impl_burstOk.calls _ _ l3 true _ ?side1 ?side2 A8.out).mono ?_);(case side1=>exact zc (Kd.C_below HR3.out HB.out));(case side2=>exact HC3.out);rintro e w24 ⟨rfl,hb⟩;refine zS1 (below_step zb hb) ?_;clear HB;intro HB;(try clear hb);(try clear hb2);(try clear hk);(try clear hi)))
   go_meet
   case rel=>exact⟨_,(true),zs,H',⟨zo⟩,⟨zb⟩⟩
  have c22b0:decide (4096<(wrap64 ((l0.length:Int)+a1)))=false:=decide_eq_false c22
  clear c22
  have H':=zM H
  clear H
  go_wp2_with (first|((with_reducible refine gate_callee (f:=52) rfl ?_);refine goesL_ (some 14) rfl rfl Try.func52 ze rfl #[.slice A0 l0.length c0] rfl zg ?_;(with_reducible refine(impl_burstOk.calls _ _ l0 true _ ?side1 ?side2 A6.out).mono ?_);(case side1=>exact zc (Kd.C_below HR0.out HB.out));(case side2=>exact HC0.out);rintro e w25 ⟨rfl,hb⟩;refine⟨_,rfl,?_⟩;refine zS1 (below_step zb hb) ?_;clear HB;intro HB;(try clear hb);(try clear hb2);(try clear hk);(try clear hi))|(go_at_call 52;(with_reducible refine(impl_burstOk.calls _ _ l3 true _ ?side1 ?side2 A8.out).mono ?_);(case side1=>exact zc (Kd.C_below HR3.out HB.out));(case side2=>exact HC3.out);rintro e w26 ⟨rfl,hb⟩;refine zS1 (below_step zb hb) ?_;clear HB;intro HB;(try clear hb);(try clear hb2);(try clear hk);(try clear hi)))
  go_meet
  case rel=>exact⟨_,(decide ((l3.length:Int)>(wrap64 ((l0.length:Int)+a1)))),zs,H',⟨zo⟩,⟨zb⟩⟩
 case rest=>
  clear HC5
  obtain⟨kq,x52_4,rfl,HA,HJ4,HB⟩:=hcut
  cases kq with
  |zero=>exact absurd HA.out (by simp[impl_Air.j0])
  | succ kj4=>
   have H:=HA.out
   clear HA
   simp only[impl_Air.j0] at H
   by_cases c30:x52_4=true
   case pos=>
    subst c30
    rw[if_pos rfl] at H
    simp only[Option.some.injEq,Prod.mk.injEq] at H
    obtain⟨rfl,rfl⟩:=H
    go_wp2
    go_ret2
    exact⟨_,zq,zz,zb⟩
   replace c30:=Bool.eq_false_iff.mpr c30
   subst c30
   rw[if_neg zFT] at H
   replace H:=zIN H
   obtain⟨c31,H⟩:=H
   have c31b0:=eq_true c31
   have c31b1:decide (0≤a1)=true:=zE c31
   clear c31
   replace H:=zIN H
   obtain⟨c32,H⟩:=H
   have c32b0:=eq_true c32
   have c32b1:decide ((a1:Int).toNat≤17592186044416)=true:=zE c32
   clear c32
   replace H:=zY H
   obtain⟨y152,Ny152,H⟩:=H
   replace H:=zIM H
   obtain⟨LMc33,H⟩:=H
   replace H:=zY H
   obtain⟨y155,Ny155,H⟩:=H
   have H':=zM H
   clear H
   go_wp2_with (first|((with_reducible refine gate_dst (N:=54) rfl ?_);(try(refine gate_guard (by rfl) ?_;dsimp only));refine Kd.R_make k52 _ 52 rfl (N:=54) rfl 25 _ _ rfl a1 rfl rfl Try.underlying25 (.agg #[(.int .i64 0),(.int .i64 0)]) 16 info52 rfl (by decide) (by omega) z52 (ok:=fun _=>True) (okp:=fun _=>True) (k52_mkM _ _ _ z52) (fun _ hk=>hk) trivial (zT (by assumption)) (Nat.le_trans (Nat.mul_le_mul_right _ (zT (by assumption):a1.toNat≤17592186044416)) (by omega)) (Below.refl _ _) (Nat.le_refl _) ?_;intro v153 w34 ho35 hb hg_ hnew_;clear hg_ hnew_;(first|rw[←Ny152.out] at ho35|simp only[Int.reduceToNat,←Ny152.out] at ho35);refine zS2 (Kd.R_lower ho35 (below_size zb)) (below_step zb hb) ?_;clear HB;intro HO154 HB;clear hb ho35)|((with_reducible refine gate_builtin (b:= .append) (xs:= #[.tmp 54, .tmp 55]) rfl ?_);(try(refine gate_guard (by rfl) ?_;dsimp only));at_builtin;refine Kd.R_append_rows k52 (w0:=w) w.heap.size rfl (.tmp 54) (.tmp 55) 25 52 (.agg #[(.int .i64 0),(.int .i64 0)]) 16 rfl Try.underlying25 info52 rfl (by decide) (by omega) v153 y152 l0 _ _ _ (fun _=>True) (fun _=>False) rfl rfl ?aO ?aR (fun _ _ h=>h) (fun _ h=>h.elim) ?aF ?aB ?aS ?aL ?_;(case aR=>exact zc (Kd.C_below HR0.out HB.out));(case aB=>exact zb);(case aF=>exact(fun _ _=>trivial));(case aO=>exact(zr HO154));(case aS=>exact(below_size zb));(case aL=>have:=LMc33.out;omega);intro v156 w36 ho hb hg hat;(first|rw[←Ny155.out] at ho|simp only[Int.reduceToNat,←Ny155.out] at ho);refine zS2 (hb) (ho) ?_;clear HB HO154;intro HB HO157;clear ho hb hg hat;obtain⟨Ao37,co37,eo37⟩:=Kd.R_slice HO157.out;subst eo37))
   (try simp only[Act.put,zL1,zL2,zL3])
   go_loopg [59] kj4 (fun kq v59 w'=>∃(x56_2:List (S52)) (x59_2:Int),v59= .int .i64 x59_2∧Aside0 (impl_Air.l0 kq a2 l3 x56_2 (y155.length:Int) x59_2=some (r1,r2))∧Aside0 (kq≤kj4)∧Aside0 (Kd.R k52 52 w' w.heap.size (fun _=>True) (.slice Ao37 y155.length co37) x56_2)∧Aside0 (Below w.heap.size w w'))
   case atStart=>exact⟨(y155),(0),zs,H',⟨Nat.le_refl _⟩,⟨zr HO157⟩,⟨zb⟩⟩
   case round=>
    clear H'
    clear c31b0 c31b1 c32b0 c32b1
    obtain⟨x56_2,x59_2,rfl,HA,HK2,HO_56,HB⟩:=hrel
    have hl56_2:=(Kd.R_reads' HO_56.out).1
    rw[hl56_2] at HO_56
    (try simp only[hl56_2])
    cases gk with
    |zero=>exact absurd HA.out (by simp[impl_Air.l0])
    | succ k2=>
     have H:=HA.out
     clear HA
     simp only[impl_Air.l0] at H
     replace H:=zI2 H
     rcases H with⟨c38,H⟩|⟨c38,H⟩
     case inr=>
      have c38b0:=decide_eq_false c38
      (try(have c38w_hl56_2:=c38b0;simp only[hl56_2] at c38w_hl56_2))
      clear c38
      replace H:=zP H
      obtain⟨t166,A67,H⟩:=H
      by_cases c68:t166=true
      case pos=>
       subst c68
       rw[if_pos rfl] at H
       simp only[Option.some.injEq,Prod.mk.injEq] at H
       obtain⟨rfl,rfl⟩:=H
       go_wp2_with (first|((with_reducible refine gate_callee (f:=52) rfl ?_);refine goesL_ (some 95) rfl rfl Try.func52 ze rfl #[.slice Ao37 x56_2.length co37] rfl zg ?_;(with_reducible refine(impl_burstOk.calls _ _ x56_2 true _ ?side1 ?side2 A67.out).mono ?_);(case side1=>exact zc (Kd.R_reads' HO_56.out).2.2);(case side2=>exact(Kd.R_reads' HO_56.out).2.1);rintro e w69 ⟨rfl,hb⟩;refine⟨_,rfl,?_⟩;refine zS2 (Kd.R_below (zr HO_56) hb) (below_step zb hb) ?_;clear HO_56 HB;intro HO_56 HB;(try clear hb);(try clear hb2);(try clear hk);(try clear hi)))
       go_ret2
       exact⟨_,zq,zr HO_56,zb⟩
      replace c68:=Bool.eq_false_iff.mpr c68
      subst c68
      rw[if_neg zFT] at H
      simp only[Option.some.injEq,Prod.mk.injEq] at H
      obtain⟨rfl,rfl⟩:=H
      go_wp2_with (first|((with_reducible refine gate_callee (f:=52) rfl ?_);refine goesL_ (some 95) rfl rfl Try.func52 ze rfl #[.slice Ao37 x56_2.length co37] rfl zg ?_;(with_reducible refine(impl_burstOk.calls _ _ x56_2 false _ ?side1 ?side2 A67.out).mono ?_);(case side1=>exact zc (Kd.R_reads' HO_56.out).2.2);(case side2=>exact(Kd.R_reads' HO_56.out).2.1);rintro e w70 ⟨rfl,hb⟩;refine⟨_,rfl,?_⟩;refine zS2 (Kd.R_below (zr HO_56) hb) (below_step zb hb) ?_;clear HO_56 HB;intro HO_56 HB;(try clear hb);(try clear hb2);(try clear hk);(try clear hi)))
      go_ret2
      exact⟨_,zq,zz,zb⟩
     have c38b0:=zE c38
     (try(have c38w_hl56_2:=c38b0;simp only[hl56_2] at c38w_hl56_2))
     clear c38
     replace H:=zIN H
     obtain⟨c39,H⟩:=H
     have c39b0:decide (0≤x59_2)=true:=zE c39
     (try(have c39w_hl56_2:=c39b0;simp only[hl56_2] at c39w_hl56_2))
     clear c39
     replace H:=zIN H
     obtain⟨c40,H⟩:=H
     have c40b0:decide (x59_2<(x56_2.length:Int))=true:=zE c40
     (try(have c40w_hl56_2:=c40b0;simp only[hl56_2] at c40w_hl56_2))
     clear c40
     replace H:=zP H
     obtain⟨⟨t160,t161⟩,A41,H⟩:=H
     dsimp only at H
     replace H:=zI2 H
     rcases H with⟨c42,H⟩|⟨c42,H⟩
     case inr=>
      have c42b0:=decide_eq_false c42
      (try(have c42w_hl56_2:=c42b0;simp only[hl56_2] at c42w_hl56_2))
      clear c42
      obtain⟨y165,hy165⟩:∃y_:List (S52),y_=(x56_2.set (x59_2:Int).toNat (⟨t160,t161⟩:S52)):=⟨_,rfl⟩
      rw[←hy165] at H
      have Ny165:=zM hy165
      clear hy165
      have H':=zM H
      clear H
      have p158:0≤(x59_2:Int):=zT (by assumption)
      have q158:x59_2<(x56_2.length:Int):=zT (by assumption)
      obtain⟨ad158,e158,hx158_0,hx158_1⟩:=at_T52 (Kd.R_reads' HO_56.out).2.2 x59_2 p158 q158
      cases e158
      replace p158:=eq_true p158
      replace q158:=eq_true q158
      go_wp2_with (first|((with_reducible refine gate_dst (N:=12) rfl ?_);(try(refine gate_guard (by rfl) ?_;dsimp only));refine box_event ?hg (N:=12) ?hd (cs:= #[.int .i64 0, .int .i64 0]) (t:=52) ?hr ?_;(case hd|hg=>rfl);(case hr=>exact zh);intro gb159 hg w59 hbox hb;have n0_:=zM (Kd.R_below (Kd.R_elderB (zr HO_56) gb159 (Nat.le_of_eq hg.symm)) hb);have n1_:=zM (below_step zb hb);have n2_:=zM (hbox);have n3_:=zM ((zw hg (below_size zb)));have n4_:=zM n3_.out;clear HO_56;clear HB;have HO_56:=n0_;have HB:=n1_;have BK159:=n2_;have GW159:=n3_;have GE159:=n4_;clear n0_ n1_ n2_ n3_ n4_;clear hb hbox hg;obtain⟨hcz60_0,hcz60_1,hfz60_0,hfz60_1⟩:=zc2 BK159.out)|((with_reducible refine gate_callee (f:=53) rfl ?_);refine goesL_ (some 66) rfl rfl Try.func53 ze rfl #[.agg #[.int .i64 ((rd_T52 x56_2 x59_2).f0), .int .i64 ((rd_T52 x56_2 x59_2).f1)], .int .i64 a2] rfl zg ?_;(with_reducible refine(impl_turned.calls k2 ((rd_T52 x56_2 x59_2).f0) ((rd_T52 x56_2 x59_2).f1) a2 t160 t161 _ A41.out).mono ?_);rintro e w61 ⟨rfl,hb⟩;refine⟨_,rfl,?_⟩;refine zS3 (Kd.R_below (by(with_reducible repeat(first|apply zRa|apply zRn|apply zRd));exact(Kd.R_mono (Kd.R_far (p:=⟨gb159,1,none⟩) (Kd.R_far (p:=⟨gb159,0,none⟩) (Kd.R_mono HO_56.out (fun k_ hk=>(⟨hk,hk.2⟩:_∧k_≠gb159))) (fun _ hk=>hk.2) (.int .i64 ((rd_T52 x56_2 x59_2).f0))) (fun _ hk=>hk.2) (.int .i64 ((rd_T52 x56_2 x59_2).f1))) (fun _ h_=>h_.1))) hb) (zNb (g:=gb159) (o:= .cells #[.int .i64 ((rd_T52 x56_2 x59_2).f0), .int .i64 ((rd_T52 x56_2 x59_2).f1)] 52 (0,0)) (by(with_reducible repeat(first|apply zNn|apply zNd|apply zNa));exact blk_put (blk_put (BK159.out) 0 _ rfl) 1 _ rfl) hb) (below_step zb23 hb) ?_;clear HO_56 BK159 HB;intro HO_56 BK159 HB;(try clear hb);(try clear hb2);(try clear hk);(try clear hi);obtain⟨hcz62_0,hcz62_1,hfz62_0,hfz62_1⟩:=zc2 BK159.out)|((with_reducible refine gate_store (t:=52) (p:=12) rfl ?_);refine store_event (t:=52) (p:=12) (v:= ?vo_w63) (w1:=((w61.setCell ⟨gb159,0,none⟩ (.int .i64 t160)).setCell ⟨gb159,1,none⟩ (.int .i64 t161))) ?hg ?ho ?hn ?hr ?_;(case ho=>rfl);(case hg=>rfl);(case hn=>rfl);(case hr=>exact zh);intro w63 hw;have n0_:Aside0 (Kd.R k52 52 w63 w.heap.size (fun k_=>k_≠gb159) (.slice (some ad158) x56_2.length co37) x56_2):=⟨(by rw[hw];exact(by(with_reducible repeat(first|apply zRa|apply zRn|apply zRd));exact Kd.R_mono (Kd.R_far (p:=⟨gb159,1,none⟩) (Kd.R_far (p:=⟨gb159,0,none⟩) (Kd.R_mono HO_56.out (fun k_ hk=>(⟨hk,hk.2⟩:_∧k_≠gb159))) (fun _ hk=>hk.2) (.int .i64 t160)) (fun _ hk=>hk.2) (.int .i64 t161)) (fun _ hk=>hk.1.2)))⟩;have n1_:Aside0 (w63.heap[gb159]? =some (.cells #[.int .i64 t160, .int .i64 t161] 52 (0,0))):=⟨(by rw[hw];exact(by(with_reducible repeat(first|apply zNn|apply zNd|apply zNa));exact blk_put (blk_put (BK159.out) 0 _ rfl) 1 _ rfl))⟩;have n2_:Aside0 (Below w.heap.size w w63):=⟨(by rw[hw];exact zb23)⟩;clear hw;clear HO_56;clear BK159;clear HB;have HO_56:=n0_;have BK159:=n1_;have HB:=n2_;clear n0_ n1_ n2_;obtain⟨hcz64_0,hcz64_1,hfz64_0,hfz64_1⟩:=zc2 BK159.out;have p58:0≤(x59_2:Int):=zT (by assumption);have q58:(x59_2:Int)<((x56_2.length:Int):Int):=zT (by assumption);obtain⟨go58,co58,eo58,gb58,gl58,cl58,HG58⟩:=Kd.R_form HO_56.out (by omega);(first|cases eo58|(injection eo58 with ea_ en_ ec_;(first|subst ea_|(injection ea_ with ea_;subst ea_));subst ec_;clear en_));have GB58:=zM gb58;have GG58:=zM HG58;clear gb58 gl58 HG58;(first|simp only[add_plain] at hx158_0|skip);(first|simp only[add_plain] at hx158_1|skip);obtain⟨ce58,hcl58,hM58,hcc58,hfr58⟩:=Kd.R_elem HO_56.out z52 (x59_2:Int) p58 q58;obtain rfl:=k52_openM hM58;have hx58_0:w63.cell? ⟨go58,(x59_2:Int).toNat*2,none⟩=some (.int .i64 ((rd_T52 x56_2 x59_2).f0)):=hcc58 0 _ rfl;have hx58_1:w63.cell? ⟨go58,(x59_2:Int).toNat*2+1,none⟩=some (.int .i64 ((rd_T52 x56_2 x59_2).f1)):=hcc58 1 _ rfl;have hf58_0:w63.frozen? ⟨go58,(x59_2:Int).toNat*2,none⟩=false:=hfr58 0;have hf58_1:w63.frozen? ⟨go58,(x59_2:Int).toNat*2+1,none⟩=false:=hfr58 1;(try clear hcl58 hcc58 hfr58);(try clear hM58);replace p58:=eq_true p58;replace q58:=eq_true q58;have HX65:=zM (show Kd.R k52 52 w63 w.heap.size (fun k_=>k_≠gb159) (.slice (some ⟨go58,0,none⟩) x56_2.length co37) x56_2 from(zr HO_56));obtain⟨ce65,hcl65,hM65,hcc65,hfr65⟩:=Kd.R_elem HX65.out z52 (x59_2:Int) (zT (by assumption)) (by have h_:(x59_2:Int)<((x56_2.length:Int):Int):=zT (by assumption);first|exact h_|(have e_:=(Kd.R_reads' HO_56.out).1;omega)|simpa using h_);obtain rfl:=k52_openM hM65;have HP65:=Kd.R_seg HX65.out (x59_2:Int) (zT (by assumption)) (by have h_:(x59_2:Int)<((x56_2.length:Int):Int):=zT (by assumption);first|exact h_|(have e_:=(Kd.R_reads' HO_56.out).1;omega)|simpa using h_) (seg:=[.int .i64 t160, .int .i64 t161]) (j:=0) hcl65 hcc65 (show 2≤2 from by decide) (x':=(⟨t160,t161⟩:S52)) (k52_mkM _ _ _ (⟨t160,t161⟩:S52)) (fun _ hk=>hk);have hx65_0:=hcc65 0 _ rfl;(try simp only[show(k52).sz=2 from rfl,Nat.mul_one,Nat.add_zero] at hx65_0);have hf65_0:=hfr65 0;(try simp only[show(k52).sz=2 from rfl,Nat.mul_one,Nat.add_zero] at hf65_0);have hx65_1:=hcc65 1 _ rfl;(try simp only[show(k52).sz=2 from rfl,Nat.mul_one,Nat.add_zero] at hx65_1);have hf65_1:=hfr65 1;(try simp only[show(k52).sz=2 from rfl,Nat.mul_one,Nat.add_zero] at hf65_1);(try clear hcl65 hcc65 hfr65);(try clear hM65))|((with_reducible refine gate_store (t:=52) (p:=92) rfl ?_);refine store_event (t:=52) (p:=92) (v:= ?vo_w66) (w1:=((w63.setCell ⟨go58,(x59_2:Int).toNat*2,none⟩ (.int .i64 t160)).setCell ⟨go58,(x59_2:Int).toNat*2+1,none⟩ (.int .i64 t161))) ?hg ?ho ?hn ?hr ?_;(case ho=>rfl);(case hg=>rfl);(case hn=>rfl);(case hr=>exact zh);intro w66 hw;have hg:w63.grownBy w66 (some go58):=(by rw[hw];exact HP65.2);have hp_:Kd.R k52 52 w66 w.heap.size (fun k_=>k_≠gb159) (.slice (some ⟨go58,0,none⟩) x56_2.length co37) y165:=(by rw[hw,Ny165.out];exact HP65.1);clear HP65;refine zS3 (hp_) (blk_grown (g:=gb159) (o:= .cells #[.int .i64 t160, .int .i64 t161] 52 (0,0)) (zn BK159) hg (Kd.R_away HO_56.out (fun _ hk=>hk))) ((by rw[hw];exact zBs (zBs (HB.out) GB58.out) GB58.out:Below w.heap.size w w66)) ?_;clear HO_56 BK159 HB;intro HO_56 BK159 HB;clear hg hw hp_))
      (try simp only[←hl56_2])
      go_roundg k2
      case measure=>have:=HJ4.out;have:=HK2.out;omega
      case rel=>exact⟨(y165),(wrap64 (x59_2+1)),zs,H',⟨zl2 HJ4 HK2⟩,⟨by(try simp only[hl56_2]);(with_reducible repeat(first|apply zRa|apply zRn|apply zRd));first|exact Kd.R_mono HO_56.out (fun _ hk=>trivial)|(subst_vars;exact Kd.R_mono HO_56.out (fun _ hk=>trivial))⟩,⟨zb23⟩⟩
     have c42b0:=zE c42
     (try(have c42w_hl56_2:=c42b0;simp only[hl56_2] at c42w_hl56_2))
     clear c42
     obtain⟨y164,hy164⟩:∃y_:List (S52),y_=(x56_2.set (x59_2:Int).toNat (⟨wrap64 (t160+((rd_T52 l3 x59_2).f0)),wrap64 (t161+((rd_T52 l3 x59_2).f1))⟩:S52)):=⟨_,rfl⟩
     rw[←hy164] at H
     have Ny164:=zM hy164
     clear hy164
     have H':=zM H
     clear H
     have p158:0≤(x59_2:Int):=zT (by assumption)
     have q158:x59_2<(x56_2.length:Int):=zT (by assumption)
     obtain⟨ad158,e158,hx158_0,hx158_1⟩:=at_T52 (Kd.R_reads' HO_56.out).2.2 x59_2 p158 q158
     cases e158
     replace p158:=eq_true p158
     replace q158:=eq_true q158
     try go_wp2_with (first|((with_reducible refine gate_dst (N:=12) rfl ?_);(try(refine gate_guard (by rfl) ?_;dsimp only));refine box_event ?hg (N:=12) ?hd (cs:= #[.int .i64 0, .int .i64 0]) (t:=52) ?hr ?_;(case hd|hg=>rfl);(case hr=>exact zh);intro gb159 hg w44 hbox hb;have n0_:=zM (Kd.R_below (Kd.R_elderB (zr HO_56) gb159 (Nat.le_of_eq hg.symm)) hb);have n1_:=zM (below_step zb hb);have n2_:=zM (hbox);have n3_:=zM ((zw hg (below_size zb)));have n4_:=zM n3_.out;clear HO_56;clear HB;have HO_56:=n0_;have HB:=n1_;have BK159:=n2_;have GW159:=n3_;have GE159:=n4_;clear n0_ n1_ n2_ n3_ n4_;clear hb hbox hg;obtain⟨hcz45_0,hcz45_1,hfz45_0,hfz45_1⟩:=zc2 BK159.out)|((with_reducible refine gate_callee (f:=53) rfl ?_);refine goesL_ (some 66) rfl rfl Try.func53 ze rfl #[.agg #[.int .i64 ((rd_T52 x56_2 x59_2).f0), .int .i64 ((rd_T52 x56_2 x59_2).f1)], .int .i64 a2] rfl zg ?_;(with_reducible refine(impl_turned.calls k2 ((rd_T52 x56_2 x59_2).f0) ((rd_T52 x56_2 x59_2).f1) a2 t160 t161 _ A41.out).mono ?_);rintro e w46 ⟨rfl,hb⟩;refine⟨_,rfl,?_⟩;refine zS3 (Kd.R_below (by(with_reducible repeat(first|apply zRa|apply zRn|apply zRd));exact(Kd.R_mono (Kd.R_far (p:=⟨gb159,1,none⟩) (Kd.R_far (p:=⟨gb159,0,none⟩) (Kd.R_mono HO_56.out (fun k_ hk=>(⟨hk,hk.2⟩:_∧k_≠gb159))) (fun _ hk=>hk.2) (.int .i64 ((rd_T52 x56_2 x59_2).f0))) (fun _ hk=>hk.2) (.int .i64 ((rd_T52 x56_2 x59_2).f1))) (fun _ h_=>h_.1))) hb) (zNb (g:=gb159) (o:= .cells #[.int .i64 ((rd_T52 x56_2 x59_2).f0), .int .i64 ((rd_T52 x56_2 x59_2).f1)] 52 (0,0)) (by(with_reducible repeat(first|apply zNn|apply zNd|apply zNa));exact blk_put (blk_put (BK159.out) 0 _ rfl) 1 _ rfl) hb) (below_step zb23 hb) ?_;clear HO_56 BK159 HB;intro HO_56 BK159 HB;(try clear hb);(try clear hb2);(try clear hk);(try clear hi);obtain⟨hcz47_0,hcz47_1,hfz47_0,hfz47_1⟩:=zc2 BK159.out))
     have n0_:Aside0 (Kd.R k52 52 ((w46.setCell ⟨gb159,0,none⟩ (.int .i64 t160)).setCell ⟨gb159,1,none⟩ (.int .i64 t161)) w.heap.size (fun k_=>k_≠gb159) (.slice (some ad158) x56_2.length co37) x56_2):=⟨by(with_reducible repeat(first|apply zRa|apply zRn|apply zRd));exact Kd.R_mono (Kd.R_far (p:=⟨gb159,1,none⟩) (Kd.R_far (p:=⟨gb159,0,none⟩) (Kd.R_mono HO_56.out (fun k_ hk=>(⟨hk,hk.2⟩:_∧k_≠gb159))) (fun _ hk=>hk.2) (.int .i64 t160)) (fun _ hk=>hk.2) (.int .i64 t161)) (fun _ hk=>hk.1.2)⟩
     have n1_:Aside0 (((w46.setCell ⟨gb159,0,none⟩ (.int .i64 t160)).setCell ⟨gb159,1,none⟩ (.int .i64 t161)).heap[gb159]? =some (.cells #[.int .i64 t160, .int .i64 t161] 52 (0,0))):=⟨by(with_reducible repeat(first|apply zNn|apply zNd|apply zNa));refine blk_put (cs:= #[.int .i64 t160, .int .i64 ((rd_T52 x56_2 x59_2).f1)]) ?_ 1 _ rfl;(with_reducible repeat(first|apply zNn|apply zNd|apply zNa));refine blk_put (cs:= #[.int .i64 ((rd_T52 x56_2 x59_2).f0), .int .i64 ((rd_T52 x56_2 x59_2).f1)]) ?_ 0 _ rfl;(with_reducible repeat(first|apply zNn|apply zNd|apply zNa));exact BK159.out⟩
     have n2_:Aside0 (Below w.heap.size w ((w46.setCell ⟨gb159,0,none⟩ (.int .i64 t160)).setCell ⟨gb159,1,none⟩ (.int .i64 t161))):=⟨zb23⟩
     clear HO_56 BK159 HB
     generalize ((w46.setCell ⟨gb159,0,none⟩ (.int .i64 t160)).setCell ⟨gb159,1,none⟩ (.int .i64 t161))=w48 at n0_ n1_ n2_ ⊢
     have HO_56:=n0_
     have BK159:=n1_
     have HB:=n2_
     clear n0_ n1_ n2_
     refine zS3 (zRd HO_56.out) (zNd BK159.out) (zBd HB.out) ?_
     clear HO_56 BK159 HB
     intro HO_56 BK159 HB
     have p162:0≤(x59_2:Int):=zT (by assumption)
     have q162:x59_2<(l3.length:Int):=zT (by assumption)
     obtain⟨ad162,e162,hx162_0,hx162_1⟩:=at_T52 HR3.out x59_2 p162 q162
     have hw162_1:=hx162_1
     have hw162_0:=hx162_0
     cases e162
     replace hx162_0:=(HB.out.cell (zW w _ hx162_0)).trans hx162_0
     replace hx162_1:=(HB.out.cell (zW w _ hx162_1)).trans hx162_1
     replace p162:=eq_true p162
     replace q162:=eq_true q162
     refine start_ (n:=10) (S:=fun w'=>w'.cell? ⟨gb159,0,none⟩=some (.int .i64 t160)∧w'.cell? ⟨gb159,1,none⟩=some (.int .i64 t161)∧w'.cell? (ad162.add ((x59_2).toNat*2))=some (.int .i64 ((rd_T52 l3 x59_2).f0))∧w'.cell? ⟨(ad162.add ((x59_2).toNat*2)).block,(ad162.add ((x59_2).toNat*2)).off+1,none⟩=some (.int .i64 ((rd_T52 l3 x59_2).f1))) (ds:=[9]) #[zf,zf,zf,zf,zf,zf,zf,zf,zf,zf] ze rfl rfl ⟨(blk_cell BK159.out 0).trans rfl,(blk_cell BK159.out 1).trans rfl,((HB.out.cell (zW w _ hw162_0)).trans hw162_0),((HB.out.cell (zW w _ hw162_1)).trans hw162_1)⟩ (fun hHeld=> ?_);refine with_tabW impl_Air.tab9 impl_Air.bits9 (fun HT_ HW_=> ?_)
     generalize w48.drew=w49 at HO_56 BK159 HB hx162_0 hx162_1 hHeld ⊢
     refine zu 0 71 ?_
     refine zu 2 73 ?_
     refine zu 3 74 ?_
     refine zu 4 75 ?_
     refine zu 5 76 ?_
     refine zt4 1 72 ?_
     refine zt4 6 77 ?_
     refine zu 7 78 ?_
     refine zu 8 79 ?_
     refine last_ (i:=9) (N:=none) #[zt,zt,zt,zt,zt,zt,zt,zt,zt,zt] rfl rfl (one_of HT_.out ze) (by decide) (fun K hK=> ?_)
     have hs50:w49.cell? ⟨gb159,0,none⟩=some (.int .i64 t160):=(blk_cell BK159.out 0).trans rfl
     have hfs50:=blk_frozen BK159.out 0
     refine skip_ (w1:= ?_) (by rfl) rfl ?_ ?_
     rotate_left
     ·go_simp
      rfl
     refine hK.out _ _ ?_
     clear hK K
     refine done_ (done_of HT_.out ze) ?_
     try go_wp2
     have n0_:Aside0 (Kd.R k52 52 (w49.setCell ⟨gb159,0,none⟩ (.int .i64 (wrap64 (t160+((rd_T52 l3 x59_2).f0))))) w.heap.size (fun k_=>k_≠gb159) (.slice (some ad158) x56_2.length co37) x56_2):=⟨by(with_reducible repeat(first|apply zRa|apply zRn|apply zRd));exact Kd.R_mono (Kd.R_far (p:=⟨gb159,0,none⟩) (Kd.R_mono HO_56.out (fun k_ hk=>(⟨hk,hk⟩:_∧k_≠gb159))) (fun _ hk=>hk.2) (.int .i64 (wrap64 (t160+((rd_T52 l3 x59_2).f0))))) (fun _ hk=>hk.1)⟩
     have n1_:Aside0 ((w49.setCell ⟨gb159,0,none⟩ (.int .i64 (wrap64 (t160+((rd_T52 l3 x59_2).f0))))).heap[gb159]? =some (.cells #[.int .i64 (wrap64 (t160+((rd_T52 l3 x59_2).f0))), .int .i64 t161] 52 (0,0))):=⟨by(with_reducible repeat(first|apply zNn|apply zNd|apply zNa));refine blk_put (cs:= #[.int .i64 t160, .int .i64 t161]) ?_ 0 _ rfl;(with_reducible repeat(first|apply zNn|apply zNd|apply zNa));exact BK159.out⟩
     have n2_:Aside0 (Below w.heap.size w (w49.setCell ⟨gb159,0,none⟩ (.int .i64 (wrap64 (t160+((rd_T52 l3 x59_2).f0)))))):=⟨zb23⟩
     clear HO_56 BK159 HB
     generalize (w49.setCell ⟨gb159,0,none⟩ (.int .i64 (wrap64 (t160+((rd_T52 l3 x59_2).f0)))))=w51 at n0_ n1_ n2_ ⊢
     have HO_56:=n0_
     have BK159:=n1_
     have HB:=n2_
     clear n0_ n1_ n2_
     refine zS3 (zRd HO_56.out) (zNd BK159.out) (zBd HB.out) ?_
     clear HO_56 BK159 HB
     intro HO_56 BK159 HB
     have p163:0≤(x59_2:Int):=zT (by assumption)
     have q163:x59_2<(l3.length:Int):=zT (by assumption)
     obtain⟨ad163,e163,hx163_0,hx163_1⟩:=at_T52 HR3.out x59_2 p163 q163
     have hw163_1:=hx163_1
     have hw163_0:=hx163_0
     obtain rfl:ad162=ad163:=(by injection e163)
     replace hx163_0:=(HB.out.cell (zW w _ hx163_0)).trans hx163_0
     replace hx163_1:=(HB.out.cell (zW w _ hx163_1)).trans hx163_1
     replace p163:=eq_true p163
     replace q163:=eq_true q163
     refine start_ (n:=10) (S:=fun w'=>w'.cell? ⟨gb159,0,none⟩=some (.int .i64 (wrap64 (t160+((rd_T52 l3 x59_2).f0))))∧w'.cell? ⟨gb159,1,none⟩=some (.int .i64 t161)∧w'.cell? (ad162.add ((x59_2).toNat*2))=some (.int .i64 ((rd_T52 l3 x59_2).f0))∧w'.cell? ⟨(ad162.add ((x59_2).toNat*2)).block,(ad162.add ((x59_2).toNat*2)).off+1,none⟩=some (.int .i64 ((rd_T52 l3 x59_2).f1))) (ds:=[9]) #[zf,zf,zf,zf,zf,zf,zf,zf,zf,zf] ze rfl rfl ⟨(blk_cell BK159.out 0).trans rfl,(blk_cell BK159.out 1).trans rfl,((HB.out.cell (zW w _ hw163_0)).trans hw163_0),((HB.out.cell (zW w _ hw163_1)).trans hw163_1)⟩ (fun hHeld=> ?_);refine with_tabW impl_Air.tab10 impl_Air.bits10 (fun HT_ HW_=> ?_)
     generalize w51.drew=w52 at HO_56 BK159 HB hx163_0 hx163_1 hHeld ⊢
     refine zu 0 80 ?_
     refine zu 2 82 ?_
     refine zu 3 83 ?_
     refine zu 4 84 ?_
     refine zu 5 85 ?_
     refine zt4 1 81 ?_
     refine zt4 6 86 ?_
     refine zu 7 87 ?_
     refine zu 8 88 ?_
     refine last_ (i:=9) (N:=none) #[zt,zt,zt,zt,zt,zt,zt,zt,zt,zt] rfl rfl (one_of HT_.out ze) (by decide) (fun K hK=> ?_)
     have hs53:w52.cell? ⟨gb159,1,none⟩=some (.int .i64 t161):=(blk_cell BK159.out 1).trans rfl
     have hfs53:=blk_frozen BK159.out 1
     refine skip_ (w1:= ?_) (by rfl) rfl ?_ ?_
     rotate_left
     ·go_simp
      rfl
     refine hK.out _ _ ?_
     clear hK K
     refine done_ (done_of HT_.out ze) ?_
     have n0_:Aside0 (Kd.R k52 52 (w52.setCell ⟨gb159,1,none⟩ (.int .i64 (wrap64 (t161+((rd_T52 l3 x59_2).f1))))) w.heap.size (fun k_=>k_≠gb159) (.slice (some ad158) x56_2.length co37) x56_2):=⟨by(with_reducible repeat(first|apply zRa|apply zRn|apply zRd));exact Kd.R_mono (Kd.R_far (p:=⟨gb159,1,none⟩) (Kd.R_mono HO_56.out (fun k_ hk=>(⟨hk,hk⟩:_∧k_≠gb159))) (fun _ hk=>hk.2) (.int .i64 (wrap64 (t161+((rd_T52 l3 x59_2).f1))))) (fun _ hk=>hk.1)⟩
     have n1_:Aside0 ((w52.setCell ⟨gb159,1,none⟩ (.int .i64 (wrap64 (t161+((rd_T52 l3 x59_2).f1))))).heap[gb159]? =some (.cells #[.int .i64 (wrap64 (t160+((rd_T52 l3 x59_2).f0))), .int .i64 (wrap64 (t161+((rd_T52 l3 x59_2).f1)))] 52 (0,0))):=⟨by(with_reducible repeat(first|apply zNn|apply zNd|apply zNa));refine blk_put (cs:= #[.int .i64 (wrap64 (t160+((rd_T52 l3 x59_2).f0))), .int .i64 t161]) ?_ 1 _ rfl;(with_reducible repeat(first|apply zNn|apply zNd|apply zNa));exact BK159.out⟩
     have n2_:Aside0 (Below w.heap.size w (w52.setCell ⟨gb159,1,none⟩ (.int .i64 (wrap64 (t161+((rd_T52 l3 x59_2).f1)))))):=⟨zb23⟩
     clear HO_56 BK159 HB
     generalize (w52.setCell ⟨gb159,1,none⟩ (.int .i64 (wrap64 (t161+((rd_T52 l3 x59_2).f1)))))=w54 at n0_ n1_ n2_ ⊢
     have HO_56:=n0_
     have BK159:=n1_
     have HB:=n2_
     clear n0_ n1_ n2_
     obtain⟨hcz55_0,hcz55_1,hfz55_0,hfz55_1⟩:=zc2 BK159.out
     have p43:0≤(x59_2:Int):=zT (by assumption)
     have q43:(x59_2:Int)<((x56_2.length:Int):Int):=zT (by assumption)
     obtain⟨go43,co43,eo43,gb43,gl43,cl43,HG43⟩:=Kd.R_form HO_56.out (by omega)
     (first|cases eo43|(injection eo43 with ea_ en_ ec_;(first|subst ea_|(injection ea_ with ea_;subst ea_));subst ec_;clear en_))
     have GB43:=zM gb43
     have GG43:=zM HG43
     clear gb43 gl43 HG43
     (first|simp only[add_plain] at hx158_0|skip)
     (first|simp only[add_plain] at hx158_1|skip)
     obtain⟨ce43,hcl43,hM43,hcc43,hfr43⟩:=Kd.R_elem HO_56.out z52 (x59_2:Int) p43 q43
     obtain rfl:=k52_openM hM43
     have hx43_0:w54.cell? ⟨go43,(x59_2:Int).toNat*2,none⟩=some (.int .i64 ((rd_T52 x56_2 x59_2).f0)):=hcc43 0 _ rfl
     have hx43_1:w54.cell? ⟨go43,(x59_2:Int).toNat*2+1,none⟩=some (.int .i64 ((rd_T52 x56_2 x59_2).f1)):=hcc43 1 _ rfl
     have hf43_0:w54.frozen? ⟨go43,(x59_2:Int).toNat*2,none⟩=false:=hfr43 0
     have hf43_1:w54.frozen? ⟨go43,(x59_2:Int).toNat*2+1,none⟩=false:=hfr43 1
     (try clear hcl43 hcc43 hfr43);(try clear hM43)
     replace p43:=eq_true p43
     replace q43:=eq_true q43
     have HX56:=zM (show Kd.R k52 52 w54 w.heap.size (fun k_=>k_≠gb159) (.slice (some ⟨go43,0,none⟩) x56_2.length co37) x56_2 from(zr HO_56))
     obtain⟨ce56,hcl56,hM56,hcc56,hfr56⟩:=Kd.R_elem HX56.out z52 (x59_2:Int) (zT (by assumption)) (by have h_:(x59_2:Int)<((x56_2.length:Int):Int):=zT (by assumption);first|exact h_|(have e_:=(Kd.R_reads' HO_56.out).1;omega)|simpa using h_)
     obtain rfl:=k52_openM hM56
     have HP56:=Kd.R_seg HX56.out (x59_2:Int) (zT (by assumption)) (by have h_:(x59_2:Int)<((x56_2.length:Int):Int):=zT (by assumption);first|exact h_|(have e_:=(Kd.R_reads' HO_56.out).1;omega)|simpa using h_) (seg:=[.int .i64 (wrap64 (t160+((rd_T52 l3 x59_2).f0))), .int .i64 (wrap64 (t161+((rd_T52 l3 x59_2).f1)))]) (j:=0) hcl56 hcc56 (show 2≤2 from by decide) (x':=(⟨wrap64 (t160+((rd_T52 l3 x59_2).f0)),wrap64 (t161+((rd_T52 l3 x59_2).f1))⟩:S52)) (k52_mkM _ _ _ (⟨wrap64 (t160+((rd_T52 l3 x59_2).f0)),wrap64 (t161+((rd_T52 l3 x59_2).f1))⟩:S52)) (fun _ hk=>hk)
     have hx56_0:=hcc56 0 _ rfl
     (try simp only[show(k52).sz=2 from rfl,Nat.mul_one,Nat.add_zero] at hx56_0)
     have hf56_0:=hfr56 0
     (try simp only[show(k52).sz=2 from rfl,Nat.mul_one,Nat.add_zero] at hf56_0)
     have hx56_1:=hcc56 1 _ rfl
     (try simp only[show(k52).sz=2 from rfl,Nat.mul_one,Nat.add_zero] at hx56_1)
     have hf56_1:=hfr56 1
     (try simp only[show(k52).sz=2 from rfl,Nat.mul_one,Nat.add_zero] at hf56_1)
     (try clear hcl56 hcc56 hfr56);(try clear hM56)
     try go_wp2_with (first|((with_reducible refine gate_store (t:=52) (p:=92) rfl ?_);refine store_event (t:=52) (p:=92) (v:= ?vo_w57) (w1:=((w54.setCell ⟨go43,(x59_2:Int).toNat*2,none⟩ (.int .i64 (wrap64 (t160+((rd_T52 l3 x59_2).f0))))).setCell ⟨go43,(x59_2:Int).toNat*2+1,none⟩ (.int .i64 (wrap64 (t161+((rd_T52 l3 x59_2).f1)))))) ?hg ?ho ?hn ?hr ?_;(case ho=>rfl);(case hg=>rfl);(case hn=>rfl);(case hr=>exact zh);intro w57 hw;have hg:w54.grownBy w57 (some go43):=(by rw[hw];exact HP56.2);have hp_:Kd.R k52 52 w57 w.heap.size (fun k_=>k_≠gb159) (.slice (some ⟨go43,0,none⟩) x56_2.length co37) y164:=(by rw[hw,Ny164.out];exact HP56.1);clear HP56;refine zS3 (hp_) (blk_grown (g:=gb159) (o:= .cells #[.int .i64 (wrap64 (t160+((rd_T52 l3 x59_2).f0))), .int .i64 (wrap64 (t161+((rd_T52 l3 x59_2).f1)))] 52 (0,0)) (zn BK159) hg (Kd.R_away HO_56.out (fun _ hk=>hk))) ((by rw[hw];exact zBs (zBs (HB.out) GB43.out) GB43.out:Below w.heap.size w w57)) ?_;clear HO_56 BK159 HB;intro HO_56 BK159 HB;clear hg hw hp_))
     (try simp only[←hl56_2])
     go_roundg k2
     case measure=>have:=HJ4.out;have:=HK2.out;omega
     case rel=>exact⟨(y164),(wrap64 (x59_2+1)),zs,H',⟨zl2 HJ4 HK2⟩,⟨by(try simp only[hl56_2]);(with_reducible repeat(first|apply zRa|apply zRn|apply zRd));first|exact Kd.R_mono HO_56.out (fun _ hk=>trivial)|(subst_vars;exact Kd.R_mono HO_56.out (fun _ hk=>trivial))⟩,⟨zb23⟩⟩
def laws_at.f (l0:List Int) (a1:Int):Option (Int):=if a1<(l0.length:Int) then(if 0≤a1 then(some (wrap64 (rd l0 a1))) else(none)) else(some (Int.tmod (wrap64 ((wrap64 (a1*7))+(l0.length:Int))) 256))
theorem laws_at.calls (A0:Option Addr) (c0:Nat) (l0:List Int) (a1:Int) (r:Int) (w:World) (hr0:Kd.C (Kd.int .u8) w A0 l0.length l0) (hc0:l0.length≤c0) (H:laws_at.f l0 a1=some r):
 Calls Try.prog 19 #[.slice A0 l0.length c0, .int .i64 a1] w fun e w'=>e= .returned (.int .i64 r)∧Drawn0 w w':=by
 have HR0:=zM hr0
 have HC0:=zM hc0
 clear hr0 hc0
 unfold laws_at.f at H
 replace H:=zI2 H
 rcases H with⟨c3,H⟩|⟨c3,H⟩
 case inr=>
  have c3b0:=decide_eq_false c3
  clear c3
  obtain rfl:=zI H
  go_enter Try.func19,Try.ntmps19
  go_wp2
  go_ret
  exact⟨zs,zd⟩
 have c3b0:=zE c3
 clear c3
 replace H:=zID H
 obtain⟨c4b0,H⟩:=H
 obtain rfl:=zI H
 have p181:0≤(a1:Int):=zT (by assumption)
 have q181:a1<(l0.length:Int):=zT (by assumption)
 obtain⟨ad181,e181,hx181_0⟩:=Kd.at_int HR0.out a1 p181 q181
 cases e181
 replace p181:=eq_true p181
 replace q181:=eq_true q181
 go_enter Try.func19,Try.ntmps19
 go_wp2
 go_ret
 exact⟨zs,zd⟩
def impl_size.f (a0:Int):Option (Int):=some (mx a0 (wrap64 (-a0)))
theorem impl_size.calls (a0:Int) (r:Int) (w:World) (H:impl_size.f a0=some r):
 Calls Try.prog 56 #[.int .i64 a0] w fun e w'=>e= .returned (.int .i64 r)∧Below w.heap.size w w':=by
 have HB:=zM (Below.refl w.heap.size w)
 unfold impl_size.f at H
 obtain⟨ji2,hji2⟩:∃j_:Int,(mx a0 (wrap64 (-a0)))=j_:=⟨_,rfl⟩
 first|rw[hji2] at H|simp only[hji2] at H
 have hji2_:(if a0<(wrap64 (-a0)) then(wrap64 (-a0)) else a0)=ji2:=hji2
 obtain rfl:=zI H
 go_enter Try.func56,Try.ntmps56
 go_wp2
 go_ret
 exact⟨by first|rfl|(simp[errW_none,errW_some]<;>rfl)|(simp only[←hji2];first|rfl|(simp[errW_none,errW_some]<;>rfl))|(simp[*,errW_none,errW_some]<;>rfl),zb⟩
end Go.Proofs.Ytapobpkeefeajaa.PFnModem
