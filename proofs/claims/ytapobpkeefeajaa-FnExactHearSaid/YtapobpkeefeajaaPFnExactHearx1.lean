-- A turned copy of the print's text.
import Derived.Test.YtapobpkeefeajaaPFnExactHearx0
namespace Go.Proofs.Ytapobpkeefeajaa.PFnExactHear
open Go.RowKit Go.Proofs.YtapobpkeefeajaaW.PrintWords Go.Proofs.YtapobpkeefeajaaW.PrintLast Go.Proofs.YtapobpkeefeajaaW.PrintMore
attribute [local go_sem] max2_int min2_int max_two min_two max_three min_three max_four min_four
set_option maxHeartbeats 8000000
set_option maxRecDepth 100000
set_option linter.unusedVariables false
set_option linter.unusedSimpArgs false
def laws_toModem.f (a0_0:Int) (a0_1:Int) (a0_2:Int) (a0_3:Int) (a0_4:Int) (a0_5:Int):Option (Int×Int×Int×Int×Int×Int):=some (a0_0,a0_1,a0_2,a0_3,a0_4,a0_5)
theorem laws_toModem.calls (a0_0:Int) (a0_1:Int) (a0_2:Int) (a0_3:Int) (a0_4:Int) (a0_5:Int) (r1:Int) (r2:Int) (r3:Int) (r4:Int) (r5:Int) (r6:Int) (w:World) (H:laws_toModem.f a0_0 a0_1 a0_2 a0_3 a0_4 a0_5=some (r1,r2,r3,r4,r5,r6)):
 Calls Try.prog 8 #[.agg #[.int .i64 a0_0, .int .i64 a0_1, .int .i64 a0_2, .int .i64 a0_3, .int .i64 a0_4, .int .i64 a0_5]] w fun e w'=>e= .returned (.agg #[.int .i64 r1, .int .i64 r2, .int .i64 r3, .int .i64 r4, .int .i64 r5, .int .i64 r6])∧Below w.heap.size w w':=by
 have hu23:=Try.underlying23
 have hu28:=Try.underlying28
 have HB:=zM (Below.refl w.heap.size w)
 unfold laws_toModem.f at H
 simp only[Option.some.injEq,Prod.mk.injEq] at H
 obtain⟨rfl,rfl,rfl,rfl,rfl,rfl⟩:=H
 go_enter Try.func8,Try.ntmps8
 go_wp2_with (first|((with_reducible refine gate_dst (N:=1) rfl ?_);refine box_event ?hg (N:=1) ?hd (cs:= #[.int .i64 a0_0, .int .i64 a0_1, .int .i64 a0_2, .int .i64 a0_3, .int .i64 a0_4, .int .i64 a0_5]) (t:=23) ?hr ?_;(case hd|hg=>rfl);(case hr=>exact zh);intro gb101 hg w2 hbox hb;have n0_:=zM (below_step zb hb);have n1_:=zM (hbox);have n2_:=zM ((zw hg (below_size zb)));have n3_:=zM n2_.out;clear HB;have HB:=n0_;have BK101:=n1_;have GW101:=n2_;have GE101:=n3_;clear n0_ n1_ n2_ n3_;clear hb hbox hg)|((with_reducible refine gate_dst (N:=2) rfl ?_);refine box_event ?hg (N:=2) ?hd (cs:= #[.int .i64 0, .int .i64 0, .int .i64 0, .int .i64 0, .int .i64 0, .int .i64 0]) (t:=28) ?hr ?_;(case hd|hg=>rfl);(case hr=>exact zh);intro gb102 hg w3 hbox hb;have n0_:=zM (zNb (g:=gb101) (o:= .cells #[.int .i64 a0_0, .int .i64 a0_1, .int .i64 a0_2, .int .i64 a0_3, .int .i64 a0_4, .int .i64 a0_5] 23 (0,0)) (zn BK101) hb);have n1_:=zM (below_step zb1 hb);have n2_:=zM (hbox);have n3_:=zM ((zw hg (below_size zb1)));have n4_:=zM n3_.out;have n5_:=zM ((by rw[hg];exact Nat.ne_of_lt (by simpa using blk_lt BK101.out):gb101≠gb102));have n6_:=zM ((by rw[hg];exact Nat.ne_of_gt (by simpa using blk_lt BK101.out):gb102≠gb101));clear BK101;clear HB;have BK101:=n0_;have HB:=n1_;have BK102:=n2_;have GW102:=n3_;have GE102:=n4_;have NB101_102:=n5_;have NB102_101:=n6_;clear n0_ n1_ n2_ n3_ n4_ n5_ n6_;clear hb hbox hg)|((with_reducible refine gate_dst (N:=3) rfl ?_);refine box_event ?hg (N:=3) ?hd (cs:= #[.int .i64 0, .int .i64 0, .int .i64 0, .int .i64 0, .int .i64 0, .int .i64 0]) (t:=28) ?hr ?_;(case hd|hg=>rfl);(case hr=>exact zh);intro gb103 hg w4 hbox hb;have n0_:=zM (zNb (g:=gb101) (o:= .cells #[.int .i64 a0_0, .int .i64 a0_1, .int .i64 a0_2, .int .i64 a0_3, .int .i64 a0_4, .int .i64 a0_5] 23 (0,0)) (zn BK101) hb);have n1_:=zM (zNb (g:=gb102) (o:= .cells #[.int .i64 0, .int .i64 0, .int .i64 0, .int .i64 0, .int .i64 0, .int .i64 0] 28 (0,0)) (zn BK102) hb);have n2_:=zM (below_step zb2 hb);have n3_:=zM (hbox);have n4_:=zM ((zw hg (below_size zb2)));have n5_:=zM n4_.out;have n6_:=zM ((by rw[hg];exact Nat.ne_of_lt (by simpa using blk_lt BK101.out):gb101≠gb103));have n7_:=zM ((by rw[hg];exact Nat.ne_of_gt (by simpa using blk_lt BK101.out):gb103≠gb101));have n8_:=zM ((by rw[hg];exact Nat.ne_of_lt (by simpa using blk_lt BK102.out):gb102≠gb103));have n9_:=zM ((by rw[hg];exact Nat.ne_of_gt (by simpa using blk_lt BK102.out):gb103≠gb102));clear BK101;clear BK102;clear HB;have BK101:=n0_;have BK102:=n1_;have HB:=n2_;have BK103:=n3_;have GW103:=n4_;have GE103:=n5_;have NB101_103:=n6_;have NB103_101:=n7_;have NB102_103:=n8_;have NB103_102:=n9_;clear n0_ n1_ n2_ n3_ n4_ n5_ n6_ n7_ n8_ n9_;clear hb hbox hg;have hnb5:=NB101_102.out;have hnc5:=NB102_101.out;have hnb6:=NB101_103.out;have hnc6:=NB103_101.out;obtain⟨hcz7_0,hcz7_1,hcz7_2,hcz7_3,hcz7_4,hcz7_5,hfz7_0,hfz7_1,hfz7_2,hfz7_3,hfz7_4,hfz7_5⟩:=zc6 BK101.out;have hnb8:=NB103_102.out;have hnc8:=NB102_103.out;obtain⟨hcz9_0,hcz9_1,hcz9_2,hcz9_3,hcz9_4,hcz9_5,hfz9_0,hfz9_1,hfz9_2,hfz9_3,hfz9_4,hfz9_5⟩:=zc6 BK103.out;obtain⟨hcz10_0,hcz10_1,hcz10_2,hcz10_3,hcz10_4,hcz10_5,hfz10_0,hfz10_1,hfz10_2,hfz10_3,hfz10_4,hfz10_5⟩:=zc6 BK102.out))
 refine bodyPost_ret (results_cell_row rfl _ _ gb102 28 #[.int .i64 a0_0, .int .i64 a0_1, .int .i64 a0_2, .int .i64 a0_3, .int .i64 a0_4, .int .i64 a0_5] (0,0) _ rfl (by(with_reducible repeat(first|apply zNn|apply zNd|apply zNa));exact blk_put (blk_put (blk_put (blk_put (blk_put (blk_put (zNf (zNf (zNf (zNf (zNf (zNf (BK102.out) NB102_103.out _) NB102_103.out _) NB102_103.out _) NB102_103.out _) NB102_103.out _) NB102_103.out _) 0 _ rfl) 1 _ rfl) 2 _ rfl) 3 _ rfl) 4 _ rfl) 5 _ rfl) Try.underlying28 rfl ze) rfl ?_
 exact⟨zq,zb3⟩
def laws_eqPoint.f (a0_0:Int) (a0_1:Int) (a1_0:Int) (a1_1:Int):Option (Bool):=if a0_0=a1_0 then(if a0_1=a1_1 then(some true) else(some false)) else(some false)
theorem laws_eqPoint.calls (a0_0:Int) (a0_1:Int) (a1_0:Int) (a1_1:Int) (r:Bool) (w:World) (H:laws_eqPoint.f a0_0 a0_1 a1_0 a1_1=some r):
 Calls Try.prog 44 #[.agg #[.int .i64 a0_0, .int .i64 a0_1], .agg #[.int .i64 a1_0, .int .i64 a1_1]] w fun e w'=>e= .returned (.bool r)∧Below w.heap.size w w':=by
 have hu52:=Try.underlying52
 have HB:=zM (Below.refl w.heap.size w)
 unfold laws_eqPoint.f at H
 replace H:=zI2 H
 rcases H with⟨c3,H⟩|⟨c3,H⟩
 case inr=>
  have c3b0:(a0_0==a1_0)=false:=beq_eq_false_iff_ne.mpr c3
  have c3b1:(a0_0 != a1_0)=true:=bne_iff_ne.mpr c3
  obtain rfl:=zI H
  go_enter Try.func44,Try.ntmps44
  go_wp2_with (first|((with_reducible refine gate_dst (N:=2) rfl ?_);refine box_event ?hg (N:=2) ?hd (cs:= #[.int .i64 a0_0, .int .i64 a0_1]) (t:=52) ?hr ?_;(case hd|hg=>rfl);(case hr=>exact zh);intro gb104 hg w15 hbox hb;have n0_:=zM (below_step zb hb);have n1_:=zM (hbox);have n2_:=zM ((zw hg (below_size zb)));have n3_:=zM n2_.out;clear HB;have HB:=n0_;have BK104:=n1_;have GW104:=n2_;have GE104:=n3_;clear n0_ n1_ n2_ n3_;clear hb hbox hg)|((with_reducible refine gate_dst (N:=3) rfl ?_);refine box_event ?hg (N:=3) ?hd (cs:= #[.int .i64 a1_0, .int .i64 a1_1]) (t:=52) ?hr ?_;(case hd|hg=>rfl);(case hr=>exact zh);intro gb105 hg w16 hbox hb;have n0_:=zM (zNb (g:=gb104) (o:= .cells #[.int .i64 a0_0, .int .i64 a0_1] 52 (0,0)) (zn BK104) hb);have n1_:=zM (below_step zb4 hb);have n2_:=zM (hbox);have n3_:=zM ((zw hg (below_size zb4)));have n4_:=zM n3_.out;have n5_:=zM ((by rw[hg];exact Nat.ne_of_lt (by simpa using blk_lt BK104.out):gb104≠gb105));have n6_:=zM ((by rw[hg];exact Nat.ne_of_gt (by simpa using blk_lt BK104.out):gb105≠gb104));clear BK104;clear HB;have BK104:=n0_;have HB:=n1_;have BK105:=n2_;have GW105:=n3_;have GE105:=n4_;have NB104_105:=n5_;have NB105_104:=n6_;clear n0_ n1_ n2_ n3_ n4_ n5_ n6_;clear hb hbox hg;have hnb17:=NB104_105.out;have hnc17:=NB105_104.out;obtain⟨hcz18_0,hcz18_1,hfz18_0,hfz18_1⟩:=zc2 BK104.out;obtain⟨hcz19_0,hcz19_1,hfz19_0,hfz19_1⟩:=zc2 BK105.out))
  go_ret
  exact⟨zq,zb5⟩
 have c3b0:(a0_0==a1_0)=true:=beq_iff_eq.mpr c3
 have c3b1:(a0_0 != a1_0)=false:=bne_eq_false_iff_eq.mpr c3
 clear c3
 replace H:=zI2 H
 rcases H with⟨c4,H⟩|⟨c4,H⟩
 case inl=>
  have c4b0:(a0_1==a1_1)=true:=beq_iff_eq.mpr c4
  have c4b1:(a0_1 != a1_1)=false:=bne_eq_false_iff_eq.mpr c4
  clear c4
  obtain rfl:=zI H
  go_enter Try.func44,Try.ntmps44
  go_wp2_with (first|((with_reducible refine gate_dst (N:=2) rfl ?_);refine box_event ?hg (N:=2) ?hd (cs:= #[.int .i64 a0_0, .int .i64 a0_1]) (t:=52) ?hr ?_;(case hd|hg=>rfl);(case hr=>exact zh);intro gb104 hg w5 hbox hb;have n0_:=zM (below_step zb hb);have n1_:=zM (hbox);have n2_:=zM ((zw hg (below_size zb)));have n3_:=zM n2_.out;clear HB;have HB:=n0_;have BK104:=n1_;have GW104:=n2_;have GE104:=n3_;clear n0_ n1_ n2_ n3_;clear hb hbox hg)|((with_reducible refine gate_dst (N:=3) rfl ?_);refine box_event ?hg (N:=3) ?hd (cs:= #[.int .i64 a1_0, .int .i64 a1_1]) (t:=52) ?hr ?_;(case hd|hg=>rfl);(case hr=>exact zh);intro gb105 hg w6 hbox hb;have n0_:=zM (zNb (g:=gb104) (o:= .cells #[.int .i64 a0_0, .int .i64 a0_1] 52 (0,0)) (zn BK104) hb);have n1_:=zM (below_step zb4 hb);have n2_:=zM (hbox);have n3_:=zM ((zw hg (below_size zb4)));have n4_:=zM n3_.out;have n5_:=zM ((by rw[hg];exact Nat.ne_of_lt (by simpa using blk_lt BK104.out):gb104≠gb105));have n6_:=zM ((by rw[hg];exact Nat.ne_of_gt (by simpa using blk_lt BK104.out):gb105≠gb104));clear BK104;clear HB;have BK104:=n0_;have HB:=n1_;have BK105:=n2_;have GW105:=n3_;have GE105:=n4_;have NB104_105:=n5_;have NB105_104:=n6_;clear n0_ n1_ n2_ n3_ n4_ n5_ n6_;clear hb hbox hg;have hnb7:=NB104_105.out;have hnc7:=NB105_104.out;obtain⟨hcz8_0,hcz8_1,hfz8_0,hfz8_1⟩:=zc2 BK104.out;obtain⟨hcz9_0,hcz9_1,hfz9_0,hfz9_1⟩:=zc2 BK105.out))
  go_ret
  exact⟨zq,zb5⟩
 have c4b0:(a0_1==a1_1)=false:=beq_eq_false_iff_ne.mpr c4
 have c4b1:(a0_1 != a1_1)=true:=bne_iff_ne.mpr c4
 obtain rfl:=zI H
 go_enter Try.func44,Try.ntmps44
 go_wp2_with (first|((with_reducible refine gate_dst (N:=2) rfl ?_);refine box_event ?hg (N:=2) ?hd (cs:= #[.int .i64 a0_0, .int .i64 a0_1]) (t:=52) ?hr ?_;(case hd|hg=>rfl);(case hr=>exact zh);intro gb104 hg w10 hbox hb;have n0_:=zM (below_step zb hb);have n1_:=zM (hbox);have n2_:=zM ((zw hg (below_size zb)));have n3_:=zM n2_.out;clear HB;have HB:=n0_;have BK104:=n1_;have GW104:=n2_;have GE104:=n3_;clear n0_ n1_ n2_ n3_;clear hb hbox hg)|((with_reducible refine gate_dst (N:=3) rfl ?_);refine box_event ?hg (N:=3) ?hd (cs:= #[.int .i64 a1_0, .int .i64 a1_1]) (t:=52) ?hr ?_;(case hd|hg=>rfl);(case hr=>exact zh);intro gb105 hg w11 hbox hb;have n0_:=zM (zNb (g:=gb104) (o:= .cells #[.int .i64 a0_0, .int .i64 a0_1] 52 (0,0)) (zn BK104) hb);have n1_:=zM (below_step zb4 hb);have n2_:=zM (hbox);have n3_:=zM ((zw hg (below_size zb4)));have n4_:=zM n3_.out;have n5_:=zM ((by rw[hg];exact Nat.ne_of_lt (by simpa using blk_lt BK104.out):gb104≠gb105));have n6_:=zM ((by rw[hg];exact Nat.ne_of_gt (by simpa using blk_lt BK104.out):gb105≠gb104));clear BK104;clear HB;have BK104:=n0_;have HB:=n1_;have BK105:=n2_;have GW105:=n3_;have GE105:=n4_;have NB104_105:=n5_;have NB105_104:=n6_;clear n0_ n1_ n2_ n3_ n4_ n5_ n6_;clear hb hbox hg;have hnb12:=NB104_105.out;have hnc12:=NB105_104.out;obtain⟨hcz13_0,hcz13_1,hfz13_0,hfz13_1⟩:=zc2 BK104.out;obtain⟨hcz14_0,hcz14_1,hfz14_0,hfz14_1⟩:=zc2 BK105.out))
 go_ret
 exact⟨zq,zb5⟩
def laws_eqPointS.l0:Nat→List (S52)→List (S52)→Int→Option (Bool)
 |0,_,_,_=>none
 |k+1,x0,x1,x5=>if x5<(x0.length:Int) then(if 0≤x5 then(if x5<(x1.length:Int) then((laws_eqPoint.f ((rd_T52 x0 x5).f0) ((rd_T52 x0 x5).f1) ((rd_T52 x1 x5).f0) ((rd_T52 x1 x5).f1)).bind fun t108=>(if t108=true then(laws_eqPointS.l0 k x0 x1 (wrap64 (x5+1))) else(some false))) else(none)) else(none)) else(some true)
def laws_eqPointS.f (k:Nat) (l0:List (S52)) (l1:List (S52)):Option (Bool):=if(l0.length:Int)=(l1.length:Int) then(laws_eqPointS.l0 k l0 l1 0) else(some false)
def laws_eqPointS.T6:Bool×List (List Nat×List Nat):=(true,[([],[]),([],[]),([0,1],[0,1]),([2],[2]),([],[]),([],[]),([4,5],[4,5]),([6],[6]),([3,7],[3,7]),([8],[8])])
def laws_eqPointS.B6:List Nat:=[0,0,3,7,0,0,48,112,255,511]
theorem laws_eqPointS.tab6:rtab .any (opsOf Try.f11 6)=laws_eqPointS.T6:=by kernel_rfl
theorem laws_eqPointS.bits6:waitsOk laws_eqPointS.T6.2 laws_eqPointS.B6=true:=by kernel_rfl
theorem laws_eqPointS.calls (k:Nat) (A0:Option Addr) (c0:Nat) (l0:List (S52)) (A1:Option Addr) (c1:Nat) (l1:List (S52)) (r:Bool) (w:World) (hr0:Kd.C k52 w A0 l0.length l0) (hc0:l0.length≤c0) (hr1:Kd.C k52 w A1 l1.length l1) (hc1:l1.length≤c1) (H:laws_eqPointS.f k l0 l1=some r):
 Calls Try.prog 11 #[.slice A0 l0.length c0, .slice A1 l1.length c1] w fun e w'=>e= .returned (.bool r)∧Below w.heap.size w w':=by
 have hu52:=Try.underlying52
 have HR0:=zM hr0
 have HC0:=zM hc0
 clear hr0 hc0
 have HR1:=zM hr1
 have HC1:=zM hc1
 clear hr1 hc1
 have HB:=zM (Below.refl w.heap.size w)
 unfold laws_eqPointS.f at H
 replace H:=zI2 H
 rcases H with⟨c3,H⟩|⟨c3,H⟩
 case inr=>
  have c3b0:((l0.length:Int)==(l1.length:Int))=false:=beq_eq_false_iff_ne.mpr c3
  have c3b1:((l0.length:Int) != (l1.length:Int))=true:=bne_iff_ne.mpr c3
  have c3b2:(l0.length==l1.length)=false:=by first|simpa using c3|(simp at c3 ⊢;omega)
  obtain rfl:=zI H
  go_enter Try.func11,Try.ntmps11
  go_wp2
  go_ret
  exact⟨zq,zb⟩
 have c3b0:((l0.length:Int)==(l1.length:Int))=true:=beq_iff_eq.mpr c3
 have c3b1:((l0.length:Int) != (l1.length:Int))=false:=bne_eq_false_iff_eq.mpr c3
 have c3b2:(l0.length==l1.length)=true:=by first|simpa using c3|(simp at c3 ⊢;omega)
 clear c3
 have H':=zM H
 clear H
 go_enter Try.func11,Try.ntmps11
 go_wp2
 (try simp only[Act.put,zL1,zL2,zL3])
 go_loopg [5] k (fun kq v5 w'=>∃(x5_1:Int),v5= .int .i64 x5_1∧Aside0 (laws_eqPointS.l0 kq l0 l1 x5_1=some r)∧Aside0 (kq≤k)∧Aside0 (Below w.heap.size w w'))
 case atStart=>exact⟨(0),zs,H',⟨Nat.le_refl _⟩,⟨zb⟩⟩
 case round=>
  clear H'
  try clear c1
  try clear p2
  try clear c3
  try clear c3b0
  try clear c3b1
  try clear c3b2
  obtain⟨x5_1,rfl,HA,HK1,HB⟩:=hrel
  cases gk with
  |zero=>exact absurd HA.out (by simp[laws_eqPointS.l0])
  | succ k1=>
   have H:=HA.out
   clear HA
   simp only[laws_eqPointS.l0] at H
   replace H:=zI2 H
   rcases H with⟨c4,H⟩|⟨c4,H⟩
   case inr=>
    have c4b0:=decide_eq_false c4
    clear c4
    obtain rfl:=zI H
    go_wp2
    go_ret
    exact⟨zq,zb⟩
   have c4b0:=zE c4
   clear c4
   replace H:=zID H
   obtain⟨c5b0,H⟩:=H
   replace H:=zID H
   obtain⟨c6b0,H⟩:=H
   replace H:=zP H
   obtain⟨t108,A7,H⟩:=H
   by_cases c8:t108=true
   case neg=>
    replace c8:=Bool.eq_false_iff.mpr c8
    subst c8
    rw[if_neg zFT] at H
    obtain rfl:=zI H
    try go_wp2
    refine zS1 (zBd HB.out) ?_
    clear HB
    intro HB
    have p106:0≤(x5_1:Int):=zT (by assumption)
    have q106:x5_1<(l0.length:Int):=zT (by assumption)
    obtain⟨ad106,e106,hx106_0,hx106_1⟩:=at_T52 HR0.out x5_1 p106 q106
    have hw106_1:=hx106_1
    have hw106_0:=hx106_0
    cases e106
    replace hx106_0:=(HB.out.cell (zW w _ hx106_0)).trans hx106_0
    replace hx106_1:=(HB.out.cell (zW w _ hx106_1)).trans hx106_1
    replace p106:=eq_true p106
    replace q106:=eq_true q106
    have p107:0≤(x5_1:Int):=zT (by assumption)
    have q107:x5_1<(l1.length:Int):=zT (by assumption)
    obtain⟨ad107,e107,hx107_0,hx107_1⟩:=at_T52 HR1.out x5_1 p107 q107
    have hw107_1:=hx107_1
    have hw107_0:=hx107_0
    cases e107
    replace hx107_0:=(HB.out.cell (zW w _ hx107_0)).trans hx107_0
    replace hx107_1:=(HB.out.cell (zW w _ hx107_1)).trans hx107_1
    replace p107:=eq_true p107
    replace q107:=eq_true q107
    refine start_ (n:=10) (S:=fun w'=>w'.cell? (ad106.add ((x5_1).toNat*2))=some (.int .i64 ((rd_T52 l0 x5_1).f0))∧w'.cell? ⟨(ad106.add ((x5_1).toNat*2)).block,(ad106.add ((x5_1).toNat*2)).off+1,none⟩=some (.int .i64 ((rd_T52 l0 x5_1).f1))∧w'.cell? (ad107.add ((x5_1).toNat*2))=some (.int .i64 ((rd_T52 l1 x5_1).f0))∧w'.cell? ⟨(ad107.add ((x5_1).toNat*2)).block,(ad107.add ((x5_1).toNat*2)).off+1,none⟩=some (.int .i64 ((rd_T52 l1 x5_1).f1))) (ds:=[]) #[zf,zf,zf,zf,zf,zf,zf,zf,zf,zf] ze rfl rfl ⟨((HB.out.cell (zW w _ hw106_0)).trans hw106_0),((HB.out.cell (zW w _ hw106_1)).trans hw106_1),((HB.out.cell (zW w _ hw107_0)).trans hw107_0),((HB.out.cell (zW w _ hw107_1)).trans hw107_1)⟩ (fun hHeld=> ?_);refine with_tabW laws_eqPointS.tab6 laws_eqPointS.bits6 (fun HT_ HW_=> ?_)
    generalize wr.drew=w11 at HB hx106_0 hx106_1 hx107_0 hx107_1 hHeld ⊢
    refine zu 0 17 ?_
    refine zu 1 18 ?_
    refine zu 2 19 ?_
    refine zu 4 21 ?_
    refine zu 5 22 ?_
    refine zu 6 23 ?_
    refine zt4 3 20 ?_
    refine zt4 7 24 ?_
    refine one_ (i:=8) (N:=some 25) #[zt,zt,zt,zt,zt,zt,zt,zt,zt,zf] rfl rfl (one_of HT_.out ze) (by decide) (fun K hK=> ?_)
    refine goes_ Try.func44 ze rfl #[.agg #[.int .i64 ((rd_T52 l0 x5_1).f0), .int .i64 ((rd_T52 l0 x5_1).f1)], .agg #[.int .i64 ((rd_T52 l1 x5_1).f0), .int .i64 ((rd_T52 l1 x5_1).f1)]] (by rfl) rfl rfl zg ?_
    with_reducible refine(laws_eqPoint.calls ((rd_T52 l0 x5_1).f0) ((rd_T52 l0 x5_1).f1) ((rd_T52 l1 x5_1).f0) ((rd_T52 l1 x5_1).f1) false _ A7.out).mono ?_
    rintro e w12 ⟨rfl,hb⟩
    refine⟨_,rfl,?_⟩
    refine zS1 (below_step zb hb) ?_
    clear HB
    intro HB
    (try clear hb)
    (try clear hb2)
    (try clear hk)
    (try clear hi)
    refine hK.out _ _ ⟨((HB.out.cell (zW w _ hw106_0)).trans hw106_0),((HB.out.cell (zW w _ hw106_1)).trans hw106_1),((HB.out.cell (zW w _ hw107_0)).trans hw107_0),((HB.out.cell (zW w _ hw107_1)).trans hw107_1)⟩ (fun hHeld=> ?_)
    clear hK K
    refine norm_ (a':= ?_) ?_ ?_
    rotate_left
    ·show Act.put _ (some 25) _=_
     simp only[Act.put,zL1,zL2,zL3,i64_w,i32_w]
     rfl
    refine zu 9 26 ?_
    refine done_ (done_of HT_.out ze) ?_
    try go_wp2
    go_ret
    exact⟨zq,zb⟩
   subst c8
   rw[if_pos rfl] at H
   have H':=zM H
   clear H
   try go_wp2
   refine zS1 (zBd HB.out) ?_
   clear HB
   intro HB
   have p106:0≤(x5_1:Int):=zT (by assumption)
   have q106:x5_1<(l0.length:Int):=zT (by assumption)
   obtain⟨ad106,e106,hx106_0,hx106_1⟩:=at_T52 HR0.out x5_1 p106 q106
   have hw106_1:=hx106_1
   have hw106_0:=hx106_0
   cases e106
   replace hx106_0:=(HB.out.cell (zW w _ hx106_0)).trans hx106_0
   replace hx106_1:=(HB.out.cell (zW w _ hx106_1)).trans hx106_1
   replace p106:=eq_true p106
   replace q106:=eq_true q106
   have p107:0≤(x5_1:Int):=zT (by assumption)
   have q107:x5_1<(l1.length:Int):=zT (by assumption)
   obtain⟨ad107,e107,hx107_0,hx107_1⟩:=at_T52 HR1.out x5_1 p107 q107
   have hw107_1:=hx107_1
   have hw107_0:=hx107_0
   cases e107
   replace hx107_0:=(HB.out.cell (zW w _ hx107_0)).trans hx107_0
   replace hx107_1:=(HB.out.cell (zW w _ hx107_1)).trans hx107_1
   replace p107:=eq_true p107
   replace q107:=eq_true q107
   refine start_ (n:=10) (S:=fun w'=>w'.cell? (ad106.add ((x5_1).toNat*2))=some (.int .i64 ((rd_T52 l0 x5_1).f0))∧w'.cell? ⟨(ad106.add ((x5_1).toNat*2)).block,(ad106.add ((x5_1).toNat*2)).off+1,none⟩=some (.int .i64 ((rd_T52 l0 x5_1).f1))∧w'.cell? (ad107.add ((x5_1).toNat*2))=some (.int .i64 ((rd_T52 l1 x5_1).f0))∧w'.cell? ⟨(ad107.add ((x5_1).toNat*2)).block,(ad107.add ((x5_1).toNat*2)).off+1,none⟩=some (.int .i64 ((rd_T52 l1 x5_1).f1))) (ds:=[]) #[zf,zf,zf,zf,zf,zf,zf,zf,zf,zf] ze rfl rfl ⟨((HB.out.cell (zW w _ hw106_0)).trans hw106_0),((HB.out.cell (zW w _ hw106_1)).trans hw106_1),((HB.out.cell (zW w _ hw107_0)).trans hw107_0),((HB.out.cell (zW w _ hw107_1)).trans hw107_1)⟩ (fun hHeld=> ?_);refine with_tabW laws_eqPointS.tab6 laws_eqPointS.bits6 (fun HT_ HW_=> ?_)
   generalize wr.drew=w9 at HB hx106_0 hx106_1 hx107_0 hx107_1 hHeld ⊢
   refine zu 0 17 ?_
   refine zu 1 18 ?_
   refine zu 2 19 ?_
   refine zu 4 21 ?_
   refine zu 5 22 ?_
   refine zu 6 23 ?_
   refine zt4 3 20 ?_
   refine zt4 7 24 ?_
   refine one_ (i:=8) (N:=some 25) #[zt,zt,zt,zt,zt,zt,zt,zt,zt,zf] rfl rfl (one_of HT_.out ze) (by decide) (fun K hK=> ?_)
   refine goes_ Try.func44 ze rfl #[.agg #[.int .i64 ((rd_T52 l0 x5_1).f0), .int .i64 ((rd_T52 l0 x5_1).f1)], .agg #[.int .i64 ((rd_T52 l1 x5_1).f0), .int .i64 ((rd_T52 l1 x5_1).f1)]] (by rfl) rfl rfl zg ?_
   with_reducible refine(laws_eqPoint.calls ((rd_T52 l0 x5_1).f0) ((rd_T52 l0 x5_1).f1) ((rd_T52 l1 x5_1).f0) ((rd_T52 l1 x5_1).f1) true _ A7.out).mono ?_
   rintro e w10 ⟨rfl,hb⟩
   refine⟨_,rfl,?_⟩
   refine zS1 (below_step zb hb) ?_
   clear HB
   intro HB
   (try clear hb)
   (try clear hb2)
   (try clear hk)
   (try clear hi)
   refine hK.out _ _ ⟨((HB.out.cell (zW w _ hw106_0)).trans hw106_0),((HB.out.cell (zW w _ hw106_1)).trans hw106_1),((HB.out.cell (zW w _ hw107_0)).trans hw107_0),((HB.out.cell (zW w _ hw107_1)).trans hw107_1)⟩ (fun hHeld=> ?_)
   clear hK K
   refine norm_ (a':= ?_) ?_ ?_
   rotate_left
   ·show Act.put _ (some 25) _=_
    simp only[Act.put,zL1,zL2,zL3,i64_w,i32_w]
    rfl
   refine zu 9 26 ?_
   refine done_ (done_of HT_.out ze) ?_
   try go_wp2
   go_roundg k1
   case measure=>have:=HK1.out;omega
   case rel=>exact⟨(wrap64 (x5_1+1)),zs,H',⟨zl1 HK1⟩,⟨zb⟩⟩
def laws_eqByteS.l0:Nat→List Int→List Int→Int→Option (Bool)
 |0,_,_,_=>none
 |k+1,x0,x1,x5=>if x5<(x0.length:Int) then(if 0≤x5 then(if x5<(x1.length:Int) then(if(rd x0 x5)=(rd x1 x5) then(laws_eqByteS.l0 k x0 x1 (wrap64 (x5+1))) else(some false)) else(none)) else(none)) else(some true)
def laws_eqByteS.f (k:Nat) (l0:List Int) (l1:List Int):Option (Bool):=if(l0.length:Int)=(l1.length:Int) then(laws_eqByteS.l0 k l0 l1 0) else(some false)
theorem laws_eqByteS.calls (k:Nat) (A0:Option Addr) (c0:Nat) (l0:List Int) (A1:Option Addr) (c1:Nat) (l1:List Int) (r:Bool) (w:World) (hr0:Kd.C (Kd.int .u8) w A0 l0.length l0) (hc0:l0.length≤c0) (hr1:Kd.C (Kd.int .u8) w A1 l1.length l1) (hc1:l1.length≤c1) (H:laws_eqByteS.f k l0 l1=some r):
 Calls Try.prog 12 #[.slice A0 l0.length c0, .slice A1 l1.length c1] w fun e w'=>e= .returned (.bool r)∧Drawn0 w w':=by
 have HR0:=zM hr0
 have HC0:=zM hc0
 clear hr0 hc0
 have HR1:=zM hr1
 have HC1:=zM hc1
 clear hr1 hc1
 unfold laws_eqByteS.f at H
 replace H:=zI2 H
 rcases H with⟨c3,H⟩|⟨c3,H⟩
 case inr=>
  have c3b0:((l0.length:Int)==(l1.length:Int))=false:=beq_eq_false_iff_ne.mpr c3
  have c3b1:((l0.length:Int) != (l1.length:Int))=true:=bne_iff_ne.mpr c3
  have c3b2:(l0.length==l1.length)=false:=by first|simpa using c3|(simp at c3 ⊢;omega)
  obtain rfl:=zI H
  go_enter Try.func12,Try.ntmps12
  go_wp2
  repeat(go_quiet (fail);try go_wp2)
  go_ret
  exact⟨zs,zd⟩
 have c3b0:((l0.length:Int)==(l1.length:Int))=true:=beq_iff_eq.mpr c3
 have c3b1:((l0.length:Int) != (l1.length:Int))=false:=bne_eq_false_iff_eq.mpr c3
 have c3b2:(l0.length==l1.length)=true:=by first|simpa using c3|(simp at c3 ⊢;omega)
 clear c3
 have H':=zM H
 clear H
 go_enter Try.func12,Try.ntmps12
 go_wp2
 repeat(go_quiet (fail);try go_wp2)
 (try simp only[Act.put,zL1,zL2,zL3])
 go_loopg [5] k (fun kq v5 w'=>∃(x5_1:Int),v5= .int .i64 x5_1∧Aside0 (laws_eqByteS.l0 kq l0 l1 x5_1=some r)∧Aside0 (kq≤k)∧Drawn0 w w')
 case atStart=>exact⟨(0),zs,H',⟨Nat.le_refl _⟩,zd⟩
 case round=>
  clear H'
  try clear c1
  try clear p2
  try clear c3
  try clear c3b0
  try clear c3b1
  try clear c3b2
  obtain⟨x5_1,rfl,HA,HK1,⟨m1,rfl⟩⟩:=hrel
  cases gk with
  |zero=>exact absurd HA.out (by simp[laws_eqByteS.l0])
  | succ k1=>
   have H:=HA.out
   clear HA
   simp only[laws_eqByteS.l0] at H
   replace H:=zI2 H
   rcases H with⟨c4,H⟩|⟨c4,H⟩
   case inr=>
    have c4b0:=decide_eq_false c4
    clear c4
    obtain rfl:=zI H
    go_wp2
    repeat(go_quiet (fail);try go_wp2)
    go_ret
    exact⟨zs,zd⟩
   have c4b0:=zE c4
   clear c4
   replace H:=zID H
   obtain⟨c5b0,H⟩:=H
   replace H:=zID H
   obtain⟨c6b0,H⟩:=H
   replace H:=zI2 H
   rcases H with⟨c7,H⟩|⟨c7,H⟩
   case inr=>
    have c7b0:((rd l0 x5_1)==(rd l1 x5_1))=false:=beq_eq_false_iff_ne.mpr c7
    have c7b1:((rd l0 x5_1) != (rd l1 x5_1))=true:=bne_iff_ne.mpr c7
    obtain rfl:=zI H
    have p109:0≤(x5_1:Int):=zT (by assumption)
    have q109:x5_1<(l0.length:Int):=zT (by assumption)
    obtain⟨ad109,e109,hx109_0⟩:=Kd.at_int HR0.out x5_1 p109 q109
    cases e109
    replace p109:=eq_true p109
    replace q109:=eq_true q109
    have p110:0≤(x5_1:Int):=zT (by assumption)
    have q110:x5_1<(l1.length:Int):=zT (by assumption)
    obtain⟨ad110,e110,hx110_0⟩:=Kd.at_int HR1.out x5_1 p110 q110
    cases e110
    replace p110:=eq_true p110
    replace q110:=eq_true q110
    go_wp2
    repeat(go_quiet (fail);try go_wp2)
    go_ret
    exact⟨zs,zd⟩
   have c7b0:((rd l0 x5_1)==(rd l1 x5_1))=true:=beq_iff_eq.mpr c7
   have c7b1:((rd l0 x5_1) != (rd l1 x5_1))=false:=bne_eq_false_iff_eq.mpr c7
   clear c7
   have H':=zM H
   clear H
   have p109:0≤(x5_1:Int):=zT (by assumption)
   have q109:x5_1<(l0.length:Int):=zT (by assumption)
   obtain⟨ad109,e109,hx109_0⟩:=Kd.at_int HR0.out x5_1 p109 q109
   cases e109
   replace p109:=eq_true p109
   replace q109:=eq_true q109
   have p110:0≤(x5_1:Int):=zT (by assumption)
   have q110:x5_1<(l1.length:Int):=zT (by assumption)
   obtain⟨ad110,e110,hx110_0⟩:=Kd.at_int HR1.out x5_1 p110 q110
   cases e110
   replace p110:=eq_true p110
   replace q110:=eq_true q110
   go_wp2
   repeat(go_quiet (fail);try go_wp2)
   go_roundg k1
   case measure=>have:=HK1.out;omega
   case rel=>exact⟨(wrap64 (x5_1+1)),zs,H',⟨zl1 HK1⟩,zd⟩
def laws_markByteS.l0:Nat→List Int→Int→Int→Option (Int×List Int)
 |0,_,_,_=>none
 |k+1,x0,x1,x5=>if x5<(x0.length:Int) then(if 0≤x5 then(laws_markByteS.l0 k (x0.set (x5:Int).toNat ((x1)%256)) (wrap64 (x1+1)) (wrap64 (x5+1))) else(none)) else(some (x1,x0))
def laws_markByteS.f (k:Nat) (l0:List Int) (a1:Int):Option (Int×List Int):=laws_markByteS.l0 k l0 a1 0
theorem laws_markByteS.calls (k:Nat) (P0_:Nat→Prop) (u9000_:Value) (l0:List Int) (a1:Int) (r1:Int) (r2:List Int) (w0 w:World) (hB:Below w0.heap.size w0 w) (ho0:Kd.R (Kd.int .u8) 5 w w0.heap.size P0_ u9000_ l0) (H:laws_markByteS.f k l0 a1=some (r1,r2)):
 Calls Try.prog 13 #[u9000_, .int .i64 a1] w fun e w'=>e= .returned (.int .i64 r1)∧Kd.R (Kd.int .u8) 5 w' w0.heap.size (fun k_=>(P0_ k_∨w.heap.size≤k_)) u9000_ r2∧Below w0.heap.size w0 w'∧Kept w w' (fun k_=>P0_ k_):=by
 have HO0:=zM (show Kd.R (Kd.int .u8) 5 w w0.heap.size (fun k_=>(P0_ k_∨w.heap.size≤k_)) u9000_ l0 from Kd.R_mono ho0 (fun k_ hk=>(.inl hk)))
 have HK:=zM (Kept.refl w (fun k_=>P0_ k_))
 have HW0:=zM hB.size
 have HB:=zM hB
 clear hB
 unfold laws_markByteS.f at H
 have H':=zM H
 clear H
 go_enter Try.func13,Try.ntmps13
 go_wp2
 (try simp only[Act.put,zL1,zL2,zL3])
 go_loopg [1,5] k (fun kq v1 v5 w'=>∃(x0_1:List Int) (x1_1:Int) (x5_1:Int),v1= .int .i64 x1_1∧v5= .int .i64 x5_1∧Aside0 (laws_markByteS.l0 kq x0_1 x1_1 x5_1=some (r1,r2))∧Aside0 (kq≤k)∧Aside0 (Kd.R (Kd.int .u8) 5 w' w0.heap.size (fun k_=>(P0_ k_∨w.heap.size≤k_)) u9000_ x0_1)∧Aside0 (Kept w w' (fun k_=>P0_ k_))∧Aside0 (Below w0.heap.size w0 w'))
 case atStart=>exact⟨(l0),(a1),(0),zs,zs,H',⟨Nat.le_refl _⟩,⟨zr HO0⟩,⟨by repeat(first|(with_reducible first|exact HK.out|apply Kept.alloc|apply Kept.drewN|apply Kept.drew)|exact HK.out)⟩,⟨zb⟩⟩
 case round=>
  clear H'
  try clear c1
  try clear p2
  obtain⟨x0_1,x1_1,x5_1,rfl,rfl,HA,HK1,HO_0,HK,HB⟩:=hrel
  cases gk with
  |zero=>exact absurd HA.out (by simp[laws_markByteS.l0])
  | succ k1=>
   have H:=HA.out
   clear HA
   simp only[laws_markByteS.l0] at H
   replace H:=zI2 H
   rcases H with⟨c3,H⟩|⟨c3,H⟩
   case inr=>
    have c3b0:=decide_eq_false c3
    clear c3
    simp only[Option.some.injEq,Prod.mk.injEq] at H
    obtain⟨rfl,rfl⟩:=H
    obtain⟨Ao9,co9,eo9⟩:=Kd.R_slice HO_0.out
    subst eo9
    go_wp2
    go_ret
    exact⟨zq,zr HO_0,zb,by repeat(first|(with_reducible first|exact HK.out|apply Kept.alloc|apply Kept.drewN|apply Kept.drew)|exact HK.out)⟩
   have c3b0:=zE c3
   clear c3
   replace H:=zID H
   obtain⟨c4b0,H⟩:=H
   obtain⟨y111,hy111⟩:∃y_:List Int,y_=(x0_1.set (x5_1:Int).toNat ((x1_1)%256)):=⟨_,rfl⟩
   rw[←hy111] at H
   have Ny111:=zM hy111
   clear hy111
   have H':=zM H
   clear H
   obtain⟨Ao6,co6,eo6⟩:=Kd.R_slice HO_0.out
   subst eo6
   have p5:0≤(x5_1:Int):=zT (by assumption)
   have q5:(x5_1:Int)<((x0_1.length:Int):Int):=zT (by assumption)
   obtain⟨go5,co5,eo5,gb5,gl5,cl5,HG5⟩:=Kd.R_form HO_0.out (by omega)
   (first|cases eo5|(injection eo5 with ea_ en_ ec_;(first|subst ea_|(injection ea_ with ea_;subst ea_));subst ec_;clear en_))
   have GB5:=zM gb5
   have GG5:=zM HG5
   clear gb5 gl5 HG5
   have HMgo5:=zM (show(P0_ go5∨w.heap.size≤go5) from(HO_0.out.1 _ rfl))
   obtain⟨hx5_0,hf5_0⟩:=Kd.R_celln 0 HO_0.out (x5_1:Int) p5 q5
   replace p5:=eq_true p5
   replace q5:=eq_true q5
   have HP7:=Kd.R_putg HO_0.out (x5_1:Int) ((x1_1)%256)
   go_wp2_with (first|((with_reducible refine gate_store (t:=5) (p:=16) rfl ?_);refine store_event (t:=5) (p:=16) (v:= ?vo_w8) (w1:=(wr.setCell ⟨go5,(x5_1:Int).toNat,none⟩ (.int .u8 ((x1_1)%256)))) ?hg ?ho ?hn ?hr ?_;(case ho=>rfl);(case hg=>rfl);(case hn=>rfl);(case hr=>exact zh);intro w8 hw;have hg:wr.grownBy w8 (some go5):=(by rw[hw];exact HP7.2);have hp_:Kd.R (Kd.int .u8) 5 w8 w0.heap.size (fun k_=>(P0_ k_∨w.heap.size≤k_)) (.slice (some ⟨go5,0,none⟩) x0_1.length co6) y111:=(by rw[hw,Ny111.out];exact HP7.1);clear HP7;refine zS3 (hp_) ((by rw[hw];exact zBs (HB.out) GB5.out:Below w0.heap.size w0 w8)) (Kept.of_grown (S:=(fun k_=>P0_ k_)) hg (by repeat(first|(with_reducible first|exact HK.out|apply Kept.alloc|apply Kept.drewN|apply Kept.drew)|exact HK.out)) (fun k_ e_=>(HO_0.out.1 k_ e_))) ?_;clear HO_0 HB HK;intro HO_0 HB HK;clear hg hw hp_))
   go_roundg k1
   case measure=>have:=HK1.out;omega
   case rel=>exact⟨(y111),(wrap64 (x1_1+1)),(wrap64 (x5_1+1)),zs,zs,H',⟨zl1 HK1⟩,⟨zr HO_0⟩,⟨by repeat(first|(with_reducible first|exact HK.out|apply Kept.alloc|apply Kept.drewN|apply Kept.drew)|exact HK.out)⟩,⟨zb⟩⟩
def laws_markPointS.l0:Nat→List (S52)→Int→Int→Option (Int×(List (S52)))
 |0,_,_,_=>none
 |k+1,x0,x1,x5=>if x5<(x0.length:Int) then(if 0≤x5 then((some (x0.set (x5:Int).toNat (⟨x1,(rd_T52 x0 x5).f1⟩:S52):List (S52))).bind fun y112=>(laws_markPointS.l0 k (y112.set (x5:Int).toNat (⟨(rd_T52 y112 x5).f0,wrap64 (x1+1)⟩:S52)) (wrap64 ((wrap64 (x1+1))+1)) (wrap64 (x5+1)))) else(none)) else(some (x1,x0))
def laws_markPointS.f (k:Nat) (l0:List (S52)) (a1:Int):Option (Int×(List (S52))):=laws_markPointS.l0 k l0 a1 0
theorem laws_markPointS.calls (k:Nat) (P0_:Nat→Prop) (u9000_:Value) (l0:List (S52)) (a1:Int) (r1:Int) (r2:List (S52)) (w0 w:World) (hB:Below w0.heap.size w0 w) (ho0:Kd.R k52 52 w w0.heap.size P0_ u9000_ l0) (H:laws_markPointS.f k l0 a1=some (r1,r2)):
 Calls Try.prog 14 #[u9000_, .int .i64 a1] w fun e w'=>e= .returned (.int .i64 r1)∧Kd.R k52 52 w' w0.heap.size (fun k_=>(P0_ k_∨w.heap.size≤k_)) u9000_ r2∧Below w0.heap.size w0 w'∧Kept w w' (fun k_=>P0_ k_):=by
 have HO0:=zM (show Kd.R k52 52 w w0.heap.size (fun k_=>(P0_ k_∨w.heap.size≤k_)) u9000_ l0 from Kd.R_mono ho0 (fun k_ hk=>(.inl hk)))
 have HK:=zM (Kept.refl w (fun k_=>P0_ k_))
 have HW0:=zM hB.size
 have HB:=zM hB
 clear hB
 unfold laws_markPointS.f at H
 have H':=zM H
 clear H
 go_enter Try.func14,Try.ntmps14
 go_wp2
 (try simp only[Act.put,zL1,zL2,zL3])
 go_loopg [1,5] k (fun kq v1 v5 w'=>∃(x0_1:List (S52)) (x1_1:Int) (x5_1:Int),v1= .int .i64 x1_1∧v5= .int .i64 x5_1∧Aside0 (laws_markPointS.l0 kq x0_1 x1_1 x5_1=some (r1,r2))∧Aside0 (kq≤k)∧Aside0 (Kd.R k52 52 w' w0.heap.size (fun k_=>(P0_ k_∨w.heap.size≤k_)) u9000_ x0_1)∧Aside0 (Kept w w' (fun k_=>P0_ k_))∧Aside0 (Below w0.heap.size w0 w'))
 case atStart=>exact⟨(l0),(a1),(0),zs,zs,H',⟨Nat.le_refl _⟩,⟨zr HO0⟩,⟨by repeat(first|(with_reducible first|exact HK.out|apply Kept.alloc|apply Kept.drewN|apply Kept.drew)|exact HK.out)⟩,⟨zb⟩⟩
 case round=>
  clear H'
  try clear c1
  try clear p2
  obtain⟨x0_1,x1_1,x5_1,rfl,rfl,HA,HK1,HO_0,HK,HB⟩:=hrel
  cases gk with
  |zero=>exact absurd HA.out (by simp[laws_markPointS.l0])
  | succ k1=>
   have H:=HA.out
   clear HA
   simp only[laws_markPointS.l0] at H
   replace H:=zI2 H
   rcases H with⟨c3,H⟩|⟨c3,H⟩
   case inr=>
    have c3b0:=decide_eq_false c3
    clear c3
    simp only[Option.some.injEq,Prod.mk.injEq] at H
    obtain⟨rfl,rfl⟩:=H
    obtain⟨Ao12,co12,eo12⟩:=Kd.R_slice HO_0.out
    subst eo12
    go_wp2
    go_ret
    exact⟨zq,zr HO_0,zb,by repeat(first|(with_reducible first|exact HK.out|apply Kept.alloc|apply Kept.drewN|apply Kept.drew)|exact HK.out)⟩
   have c3b0:=zE c3
   clear c3
   replace H:=zID H
   obtain⟨c4b0,H⟩:=H
   replace H:=zY H
   obtain⟨y112,Ny112,H⟩:=H
   obtain⟨y113,hy113⟩:∃y_:List (S52),y_=(y112.set (x5_1:Int).toNat (⟨(rd_T52 y112 x5_1).f0,wrap64 (x1_1+1)⟩:S52)):=⟨_,rfl⟩
   rw[←hy113] at H
   have Ny113:=zM hy113
   clear hy113
   have H':=zM H
   clear H
   obtain⟨Ao7,co7,eo7⟩:=Kd.R_slice HO_0.out
   subst eo7
   have p5:0≤(x5_1:Int):=zT (by assumption)
   have q5:(x5_1:Int)<((x0_1.length:Int):Int):=zT (by assumption)
   obtain⟨go5,co5,eo5,gb5,gl5,cl5,HG5⟩:=Kd.R_form HO_0.out (by omega)
   (first|cases eo5|(injection eo5 with ea_ en_ ec_;(first|subst ea_|(injection ea_ with ea_;subst ea_));subst ec_;clear en_))
   have GB5:=zM gb5
   have GG5:=zM HG5
   clear gb5 gl5 HG5
   have HMgo5:=zM (show(P0_ go5∨w.heap.size≤go5) from(HO_0.out.1 _ rfl))
   obtain⟨ce5,hcl5,hM5,hcc5,hfr5⟩:=Kd.R_elem HO_0.out z52 (x5_1:Int) p5 q5
   obtain rfl:=k52_openM hM5
   have hx5_0:wr.cell? ⟨go5,(x5_1:Int).toNat*2,none⟩=some (.int .i64 ((rd_T52 x0_1 x5_1).f0)):=hcc5 0 _ rfl
   have hx5_1:wr.cell? ⟨go5,(x5_1:Int).toNat*2+1,none⟩=some (.int .i64 ((rd_T52 x0_1 x5_1).f1)):=hcc5 1 _ rfl
   have hf5_0:wr.frozen? ⟨go5,(x5_1:Int).toNat*2,none⟩=false:=hfr5 0
   have hf5_1:wr.frozen? ⟨go5,(x5_1:Int).toNat*2+1,none⟩=false:=hfr5 1
   (try clear hcl5 hcc5 hfr5);(try clear hM5)
   replace p5:=eq_true p5
   replace q5:=eq_true q5
   have HX8:=zM (show Kd.R k52 52 wr w0.heap.size (fun k_=>(P0_ k_∨w.heap.size≤k_)) (.slice (some ⟨go5,0,none⟩) x0_1.length co7) x0_1 from(zr HO_0))
   obtain⟨ce8,hcl8,hM8,hcc8,hfr8⟩:=Kd.R_elem HX8.out z52 (x5_1:Int) (zT (by assumption)) (by have h_:(x5_1:Int)<((x0_1.length:Int):Int):=zT (by assumption);first|exact h_|(have e_:=(Kd.R_reads' HO_0.out).1;omega)|simpa using h_)
   obtain rfl:=k52_openM hM8
   have HP8:=Kd.R_seg HX8.out (x5_1:Int) (zT (by assumption)) (by have h_:(x5_1:Int)<((x0_1.length:Int):Int):=zT (by assumption);first|exact h_|(have e_:=(Kd.R_reads' HO_0.out).1;omega)|simpa using h_) (seg:=[.int .i64 x1_1]) (j:=0) hcl8 hcc8 (show 1≤2 from by decide) (x':=(⟨x1_1,(rd_T52 x0_1 x5_1).f1⟩:S52)) (k52_mkM _ _ _ (⟨x1_1,(rd_T52 x0_1 x5_1).f1⟩:S52)) (fun _ hk=>hk)
   have hx8_0:=hcc8 0 _ rfl
   (try simp only[show(k52).sz=2 from rfl,Nat.mul_one,Nat.add_zero] at hx8_0)
   have hf8_0:=hfr8 0
   (try simp only[show(k52).sz=2 from rfl,Nat.mul_one,Nat.add_zero] at hf8_0)
   (try clear hcl8 hcc8 hfr8);(try clear hM8)
   go_wp2_with (first|((with_reducible refine gate_store (t:=3) (p:=16) rfl ?_);refine store_event (t:=3) (p:=16) (v:= ?vo_w9) (w1:=(wr.setCell ⟨go5,(x5_1:Int).toNat*2,none⟩ (.int .i64 x1_1))) ?hg ?ho ?hn ?hr ?_;(case ho=>rfl);(case hg=>rfl);(case hn=>rfl);(case hr=>exact zh);intro w9 hw;have hg:wr.grownBy w9 (some go5):=(by rw[hw];exact HP8.2);have hp_:Kd.R k52 52 w9 w0.heap.size (fun k_=>(P0_ k_∨w.heap.size≤k_)) (.slice (some ⟨go5,0,none⟩) x0_1.length co7) y112:=(by rw[hw,Ny112.out];exact HP8.1);clear HP8;refine zS3 (hp_) ((by rw[hw];exact zBs (HB.out) GB5.out:Below w0.heap.size w0 w9)) (Kept.of_grown (S:=(fun k_=>P0_ k_)) hg (by repeat(first|(with_reducible first|exact HK.out|apply Kept.alloc|apply Kept.drewN|apply Kept.drew)|exact HK.out)) (fun k_ e_=>(HO_0.out.1 k_ e_))) ?_;clear HO_0 HB HK;intro HO_0 HB HK;clear hg hw hp_;have p6:0≤(x5_1:Int):=zT (by assumption);have q6:(x5_1:Int)<((x0_1.length:Int):Int):=zT (by assumption);obtain⟨ce6,hcl6,hM6,hcc6,hfr6⟩:=Kd.R_elem HO_0.out z52 (x5_1:Int) p6 q6;obtain rfl:=k52_openM hM6;have hx6_0:w9.cell? ⟨go5,(x5_1:Int).toNat*2,none⟩=some (.int .i64 ((rd_T52 y112 x5_1).f0)):=hcc6 0 _ rfl;have hx6_1:w9.cell? ⟨go5,(x5_1:Int).toNat*2+1,none⟩=some (.int .i64 ((rd_T52 y112 x5_1).f1)):=hcc6 1 _ rfl;have hf6_0:w9.frozen? ⟨go5,(x5_1:Int).toNat*2,none⟩=false:=hfr6 0;have hf6_1:w9.frozen? ⟨go5,(x5_1:Int).toNat*2+1,none⟩=false:=hfr6 1;(try clear hcl6 hcc6 hfr6);(try clear hM6);replace p6:=eq_true p6;replace q6:=eq_true q6;have HX10:=zM (show Kd.R k52 52 w9 w0.heap.size (fun k_=>(P0_ k_∨w.heap.size≤k_)) (.slice (some ⟨go5,0,none⟩) x0_1.length co7) y112 from(zr HO_0));obtain⟨ce10,hcl10,hM10,hcc10,hfr10⟩:=Kd.R_elem HX10.out z52 (x5_1:Int) (zT (by assumption)) (by have h_:(x5_1:Int)<((x0_1.length:Int):Int):=zT (by assumption);first|exact h_|(have e_:=(Kd.R_reads' HO_0.out).1;omega)|simpa using h_);obtain rfl:=k52_openM hM10;have HP10:=Kd.R_seg HX10.out (x5_1:Int) (zT (by assumption)) (by have h_:(x5_1:Int)<((x0_1.length:Int):Int):=zT (by assumption);first|exact h_|(have e_:=(Kd.R_reads' HO_0.out).1;omega)|simpa using h_) (seg:=[.int .i64 (wrap64 (x1_1+1))]) (j:=1) hcl10 hcc10 (show 2≤2 from by decide) (x':=(⟨(rd_T52 y112 x5_1).f0,wrap64 (x1_1+1)⟩:S52)) (k52_mkM _ _ _ (⟨(rd_T52 y112 x5_1).f0,wrap64 (x1_1+1)⟩:S52)) (fun _ hk=>hk);have hx10_1:=hcc10 1 _ rfl;(try simp only[show(k52).sz=2 from rfl,Nat.mul_one,Nat.add_zero] at hx10_1);have hf10_1:=hfr10 1;(try simp only[show(k52).sz=2 from rfl,Nat.mul_one,Nat.add_zero] at hf10_1);(try clear hcl10 hcc10 hfr10);(try clear hM10))|((with_reducible refine gate_store (t:=3) (p:=23) rfl ?_);refine store_event (t:=3) (p:=23) (v:= ?vo_w11) (w1:=(w9.setCell ⟨go5,(x5_1:Int).toNat*2+1,none⟩ (.int .i64 (wrap64 (x1_1+1))))) ?hg ?ho ?hn ?hr ?_;(case ho=>rfl);(case hg=>rfl);(case hn=>rfl);(case hr=>exact zh);intro w11 hw;have hg:w9.grownBy w11 (some go5):=(by rw[hw];exact HP10.2);have hp_:Kd.R k52 52 w11 w0.heap.size (fun k_=>(P0_ k_∨w.heap.size≤k_)) (.slice (some ⟨go5,0,none⟩) x0_1.length co7) y113:=(by rw[hw,Ny113.out];exact HP10.1);clear HP10;refine zS3 (hp_) ((by rw[hw];exact zBs (HB.out) GB5.out:Below w0.heap.size w0 w11)) (Kept.of_grown (S:=(fun k_=>P0_ k_)) hg (by repeat(first|(with_reducible first|exact HK.out|apply Kept.alloc|apply Kept.drewN|apply Kept.drew)|exact HK.out)) (fun k_ e_=>(HO_0.out.1 k_ e_))) ?_;clear HO_0 HB HK;intro HO_0 HB HK;clear hg hw hp_))
   go_roundg k1
   case measure=>have:=HK1.out;omega
   case rel=>exact⟨(y113),(wrap64 ((wrap64 (x1_1+1))+1)),(wrap64 (x5_1+1)),zs,zs,H',⟨zl1 HK1⟩,⟨zr HO_0⟩,⟨by repeat(first|(with_reducible first|exact HK.out|apply Kept.alloc|apply Kept.drewN|apply Kept.drew)|exact HK.out)⟩,⟨zb⟩⟩
def impl_isWidth.f (a0:Int):Option (Bool):=if a0=2 then(some true) else(if a0=4 then(some true) else(if a0=6 then(some true) else(some (a0==8))))
theorem impl_isWidth.calls (a0:Int) (r:Bool) (w:World) (H:impl_isWidth.f a0=some r):
 Calls Try.prog 82 #[.int .i64 a0] w fun e w'=>e= .returned (.bool r)∧Drawn0 w w':=by
 unfold impl_isWidth.f at H
 replace H:=zI2 H
 rcases H with⟨c2,H⟩|⟨c2,H⟩
 case inl=>
  have c2b0:(a0==2)=true:=beq_iff_eq.mpr c2
  have c2b1:(a0 != 2)=false:=bne_eq_false_iff_eq.mpr c2
  clear c2
  obtain rfl:=zI H
  go_enter Try.func82,Try.ntmps82
  go_wp2
  go_ret
  exact⟨zs,zd⟩
 have c2b0:(a0==2)=false:=beq_eq_false_iff_ne.mpr c2
 have c2b1:(a0 != 2)=true:=bne_iff_ne.mpr c2
 replace H:=zI2 H
 rcases H with⟨c3,H⟩|⟨c3,H⟩
 case inl=>
  have c3b0:(a0==4)=true:=beq_iff_eq.mpr c3
  have c3b1:(a0 != 4)=false:=bne_eq_false_iff_eq.mpr c3
  clear c3
  obtain rfl:=zI H
  go_enter Try.func82,Try.ntmps82
  go_wp2
  go_ret
  exact⟨zs,zd⟩
 have c3b0:(a0==4)=false:=beq_eq_false_iff_ne.mpr c3
 have c3b1:(a0 != 4)=true:=bne_iff_ne.mpr c3
 replace H:=zI2 H
 rcases H with⟨c4,H⟩|⟨c4,H⟩
 case inr=>
  have c4b0:(a0==6)=false:=beq_eq_false_iff_ne.mpr c4
  have c4b1:(a0 != 6)=true:=bne_iff_ne.mpr c4
  obtain rfl:=zI H
  go_enter Try.func82,Try.ntmps82
  go_wp2
  go_ret
  exact⟨zs,zd⟩
 have c4b0:(a0==6)=true:=beq_iff_eq.mpr c4
 have c4b1:(a0 != 6)=false:=bne_eq_false_iff_eq.mpr c4
 clear c4
 obtain rfl:=zI H
 go_enter Try.func82,Try.ntmps82
 go_wp2
 go_ret
 exact⟨zs,zd⟩
end Go.Proofs.Ytapobpkeefeajaa.PFnExactHear
