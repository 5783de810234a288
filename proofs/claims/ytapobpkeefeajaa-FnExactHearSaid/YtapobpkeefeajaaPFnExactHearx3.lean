-- A turned copy of the print's text.
import Derived.Test.YtapobpkeefeajaaPFnExactHearx0
namespace Go.Proofs.Ytapobpkeefeajaa.PFnExactHear
open Go.RowKit Go.Proofs.YtapobpkeefeajaaW.PrintWords Go.Proofs.YtapobpkeefeajaaW.PrintLast Go.Proofs.YtapobpkeefeajaaW.PrintMore
attribute [local go_sem] max2_int min2_int max_two min_two max_three min_three max_four min_four
set_option maxHeartbeats 8000000
set_option maxRecDepth 100000
set_option linter.unusedVariables false
set_option linter.unusedSimpArgs false
def impl_turned.l0:Nat→Int→Int→Int→Int→Option (Int×Int)
 |0,_,_,_,_=>none
 |k+1,x5,x6,x133000,x133001=>if x6<x5 then(impl_turned.l0 k x5 (wrap64 (x6+1)) (wrap64 (-x133001)) x133000) else(some (x133000,x133001))
def impl_turned.f (k:Nat) (a0_0:Int) (a0_1:Int) (a1:Int):Option (Int×Int):=impl_turned.l0 k a1 0 a0_0 a0_1
theorem impl_turned.calls (k:Nat) (a0_0:Int) (a0_1:Int) (a1:Int) (r1:Int) (r2:Int) (w:World) (H:impl_turned.f k a0_0 a0_1 a1=some (r1,r2)):
 Calls Try.prog 53 #[.agg #[.int .i64 a0_0, .int .i64 a0_1], .int .i64 a1] w fun e w'=>e= .returned (.agg #[.int .i64 r1, .int .i64 r2])∧Below w.heap.size w w':=by
 have hu52:=Try.underlying52
 have HB:=zM (Below.refl w.heap.size w)
 unfold impl_turned.f at H
 have H':=zM H
 clear H
 go_enter Try.func53,Try.ntmps53
 go_wp2_with (first|((with_reducible refine gate_dst (N:=2) rfl ?_);refine box_event ?hg (N:=2) ?hd (cs:= #[.int .i64 a0_0, .int .i64 a0_1]) (t:=52) ?hr ?_;(case hd|hg=>rfl);(case hr=>exact zh);intro gb132 hg w3 hbox hb;have n0_:=zM (below_step zb hb);have n1_:=zM (hbox);have n2_:=zM ((zw hg (below_size zb)));have n3_:=zM n2_.out;clear HB;have HB:=n0_;have BK132:=n1_;have GW132:=n2_;have GE132:=n3_;clear n0_ n1_ n2_ n3_;clear hb hbox hg)|((with_reducible refine gate_dst (N:=4) rfl ?_);refine box_event ?hg (N:=4) ?hd (cs:= #[.int .i64 0, .int .i64 0]) (t:=52) ?hr ?_;(case hd|hg=>rfl);(case hr=>exact zh);intro gb133 hg w4 hbox hb;have n0_:=zM (zNb (g:=gb132) (o:= .cells #[.int .i64 a0_0, .int .i64 a0_1] 52 (0,0)) (zn BK132) hb);have n1_:=zM (below_step zb26 hb);have n2_:=zM (hbox);have n3_:=zM ((zw hg (below_size zb26)));have n4_:=zM n3_.out;have n5_:=zM ((by rw[hg];exact Nat.ne_of_lt (by simpa using blk_lt BK132.out):gb132≠gb133));have n6_:=zM ((by rw[hg];exact Nat.ne_of_gt (by simpa using blk_lt BK132.out):gb133≠gb132));clear BK132;clear HB;have BK132:=n0_;have HB:=n1_;have BK133:=n2_;have GW133:=n3_;have GE133:=n4_;have NB132_133:=n5_;have NB133_132:=n6_;clear n0_ n1_ n2_ n3_ n4_ n5_ n6_;clear hb hbox hg))
 (try simp only[Act.put,zL1,zL2,zL3])
 go_loopg [6] k (fun kq v6 w'=>∃(x6_1:Int) (x133000_1:Int) (x133001_1:Int),v6= .int .i64 x6_1∧Aside0 (impl_turned.l0 kq a1 x6_1 x133000_1 x133001_1=some (r1,r2))∧Aside0 (kq≤k)∧Aside0 (w'.heap[gb132]? =some (.cells #[.int .i64 x133000_1, .int .i64 x133001_1] 52 (0,0)))∧Aside0 (w'.heap[gb133]? =some (.cells #[.int .i64 0, .int .i64 0] 52 (0,0)))∧Aside0 (Below w.heap.size w w'))
 case atStart=>exact⟨(0),(a0_0),(a0_1),zs,H',⟨Nat.le_refl _⟩,⟨zn BK132⟩,⟨zn BK133⟩,⟨zb27⟩⟩
 case round=>
  clear H'
  try clear p2
  obtain⟨x6_1,x133000_1,x133001_1,rfl,HA,HK1,BK132,BK133,HB⟩:=hrel
  cases gk with
  |zero=>exact absurd HA.out (by simp[impl_turned.l0])
  | succ k1=>
   have H:=HA.out
   clear HA
   simp only[impl_turned.l0] at H
   replace H:=zI2 H
   rcases H with⟨c5,H⟩|⟨c5,H⟩
   case inr=>
    have c5b0:=decide_eq_false c5
    clear c5
    simp only[Option.some.injEq,Prod.mk.injEq] at H
    obtain⟨rfl,rfl⟩:=H
    have hnb8:=NB132_133.out
    have hnc8:=NB133_132.out
    obtain⟨hcz9_0,hcz9_1,hfz9_0,hfz9_1⟩:=zc2 BK132.out
    obtain⟨hcz10_0,hcz10_1,hfz10_0,hfz10_1⟩:=zc2 BK133.out
    go_wp2
    refine bodyPost_ret (results_cell_row rfl _ _ gb133 52 #[.int .i64 x133000_1, .int .i64 x133001_1] (0,0) _ rfl (by(with_reducible repeat(first|apply zNn|apply zNd|apply zNa));exact blk_put (blk_put (BK133.out) 0 _ rfl) 1 _ rfl) Try.underlying52 rfl ze) rfl ?_
    exact⟨zq,zb27⟩
   have c5b0:=zE c5
   clear c5
   have H':=zM H
   clear H
   have hnb6:=NB132_133.out
   have hnc6:=NB133_132.out
   obtain⟨hcz7_0,hcz7_1,hfz7_0,hfz7_1⟩:=zc2 BK132.out
   go_wp2
   go_roundg k1
   case measure=>have:=HK1.out;omega
   case rel=>exact⟨(wrap64 (x6_1+1)),(wrap64 (-x133001_1)),(x133000_1),zs,H',⟨zl1 HK1⟩,⟨by(with_reducible repeat(first|apply zNn|apply zNd|apply zNa));refine blk_put (cs:= #[.int .i64 (wrap64 (-x133001_1)), .int .i64 x133001_1]) ?_ 1 _ rfl;(with_reducible repeat(first|apply zNn|apply zNd|apply zNa));refine blk_put (cs:= #[.int .i64 x133000_1, .int .i64 x133001_1]) ?_ 0 _ rfl;(with_reducible repeat(first|apply zNn|apply zNd|apply zNa));exact BK132.out⟩,⟨by(with_reducible repeat(first|apply zNn|apply zNd|apply zNa));refine zNf ?_ NB133_132.out _;(with_reducible repeat(first|apply zNn|apply zNd|apply zNa));refine zNf ?_ NB133_132.out _;(with_reducible repeat(first|apply zNn|apply zNd|apply zNa));exact BK133.out⟩,⟨zb27⟩⟩
def impl_size.f (a0:Int):Option (Int):=some (mx a0 (wrap64 (-a0)))
theorem impl_size.calls (a0:Int) (r:Int) (w:World) (H:impl_size.f a0=some r):
 Calls Try.prog 56 #[.int .i64 a0] w fun e w'=>e= .returned (.int .i64 r)∧Below w.heap.size w w':=by
 have HB:=zM (Below.refl w.heap.size w)
 unfold impl_size.f at H
 obtain⟨ji2,hji2⟩:∃j_:Int,(mx a0 (wrap64 (-a0)))=j_:=⟨_,rfl⟩
 first|rw[hji2] at H|simp only[hji2] at H
 have hji2_:(if a0<(wrap64 (-a0)) then(wrap64 (-a0)) else a0)=ji2:=hji2
 obtain rfl:=zI H
 go_enter Try.func56,Try.ntmps56
 go_wp2
 go_ret
 exact⟨by first|rfl|(simp[errW_none,errW_some]<;>rfl)|(simp only[←hji2];first|rfl|(simp[errW_none,errW_some]<;>rfl))|(simp[*,errW_none,errW_some]<;>rfl),zb⟩
def impl_sum.l0:Nat→List (S52)→Int→Int→Int→Int→Option (Int×Int)
 |0,_,_,_,_,_=>none
 |k+1,x6,x7,x8,x136000,x136001=>if x8<x7 then(if 0≤x8 then(if x8<(x6.length:Int) then(impl_sum.l0 k x6 x7 (wrap64 (x8+1)) (wrap64 (x136000+((rd_T52 x6 x8).f0))) (wrap64 (x136001+((rd_T52 x6 x8).f1)))) else(none)) else(none)) else(some (x136000,x136001))
def impl_sum.f (k:Nat) (l0:List (S52)):Option (Int×Int):=impl_sum.l0 k l0 (l0.length:Int) 0 0 0
theorem impl_sum.calls (k:Nat) (A0:Option Addr) (c0:Nat) (l0:List (S52)) (r1:Int) (r2:Int) (w:World) (hr0:Kd.C k52 w A0 l0.length l0) (hc0:l0.length≤c0) (H:impl_sum.f k l0=some (r1,r2)):
 Calls Try.prog 57 #[.slice A0 l0.length c0] w fun e w'=>e= .returned (.agg #[.int .i64 r1, .int .i64 r2])∧Below w.heap.size w w':=by
 have hu52:=Try.underlying52
 have HR0:=zM hr0
 have HC0:=zM hc0
 clear hr0 hc0
 have HB:=zM (Below.refl w.heap.size w)
 unfold impl_sum.f at H
 have H':=zM H
 clear H
 go_enter Try.func57,Try.ntmps57
 go_wp2_with (first|((with_reducible refine gate_dst (N:=2) rfl ?_);refine box_event ?hg (N:=2) ?hd (cs:= #[.int .i64 0, .int .i64 0]) (t:=52) ?hr ?_;(case hd|hg=>rfl);(case hr=>exact zh);intro gb134 hg w2 hbox hb;have n0_:=zM (below_step zb hb);have n1_:=zM (hbox);have n2_:=zM ((zw hg (below_size zb)));have n3_:=zM n2_.out;clear HB;have HB:=n0_;have BK134:=n1_;have GW134:=n2_;have GE134:=n3_;clear n0_ n1_ n2_ n3_;clear hb hbox hg)|((with_reducible refine gate_dst (N:=3) rfl ?_);refine box_event ?hg (N:=3) ?hd (cs:= #[.int .i64 0, .int .i64 0]) (t:=52) ?hr ?_;(case hd|hg=>rfl);(case hr=>exact zh);intro gb135 hg w3 hbox hb;have n0_:=zM (zNb (g:=gb134) (o:= .cells #[.int .i64 0, .int .i64 0] 52 (0,0)) (zn BK134) hb);have n1_:=zM (below_step zb28 hb);have n2_:=zM (hbox);have n3_:=zM ((zw hg (below_size zb28)));have n4_:=zM n3_.out;have n5_:=zM ((by rw[hg];exact Nat.ne_of_lt (by simpa using blk_lt BK134.out):gb134≠gb135));have n6_:=zM ((by rw[hg];exact Nat.ne_of_gt (by simpa using blk_lt BK134.out):gb135≠gb134));clear BK134;clear HB;have BK134:=n0_;have HB:=n1_;have BK135:=n2_;have GW135:=n3_;have GE135:=n4_;have NB134_135:=n5_;have NB135_134:=n6_;clear n0_ n1_ n2_ n3_ n4_ n5_ n6_;clear hb hbox hg))
 (try simp only[Act.put,zL1,zL2,zL3])
 go_loopg [8] k (fun kq v8 w'=>∃(x8_1:Int) (x136000_1:Int) (x136001_1:Int),v8= .int .i64 x8_1∧Aside0 (impl_sum.l0 kq l0 (l0.length:Int) x8_1 x136000_1 x136001_1=some (r1,r2))∧Aside0 (kq≤k)∧Aside0 (w'.heap[gb134]? =some (.cells #[.int .i64 0, .int .i64 0] 52 (0,0)))∧Aside0 (w'.heap[gb135]? =some (.cells #[.int .i64 x136000_1, .int .i64 x136001_1] 52 (0,0)))∧Aside0 (Below w.heap.size w w'))
 case atStart=>exact⟨(0),(0),(0),zs,H',⟨Nat.le_refl _⟩,⟨zn BK134⟩,⟨zn BK135⟩,⟨zb29⟩⟩
 case round=>
  clear H'
  try clear p2
  obtain⟨x8_1,x136000_1,x136001_1,rfl,HA,HK1,BK134,BK135,HB⟩:=hrel
  cases gk with
  |zero=>exact absurd HA.out (by simp[impl_sum.l0])
  | succ k1=>
   have H:=HA.out
   clear HA
   simp only[impl_sum.l0] at H
   replace H:=zI2 H
   rcases H with⟨c4,H⟩|⟨c4,H⟩
   case inr=>
    have c4b0:=decide_eq_false c4
    clear c4
    simp only[Option.some.injEq,Prod.mk.injEq] at H
    obtain⟨rfl,rfl⟩:=H
    have hnb13:=NB135_134.out
    have hnc13:=NB134_135.out
    obtain⟨hcz14_0,hcz14_1,hfz14_0,hfz14_1⟩:=zc2 BK135.out
    obtain⟨hcz15_0,hcz15_1,hfz15_0,hfz15_1⟩:=zc2 BK134.out
    go_wp2
    refine bodyPost_ret (results_cell_row rfl _ _ gb134 52 #[.int .i64 x136000_1, .int .i64 x136001_1] (0,0) _ rfl (by(with_reducible repeat(first|apply zNn|apply zNd|apply zNa));exact blk_put (blk_put (BK134.out) 0 _ rfl) 1 _ rfl) Try.underlying52 rfl ze) rfl ?_
    exact⟨zq,zb29⟩
   have c4b0:=zE c4
   clear c4
   replace H:=zID H
   obtain⟨c5b0,H⟩:=H
   replace H:=zID H
   obtain⟨c6b0,H⟩:=H
   have H':=zM H
   clear H
   have p136:0≤(x8_1:Int):=zT (by assumption)
   have q136:x8_1<(l0.length:Int):=zT (by assumption)
   obtain⟨ad136,e136,hx136_0,hx136_1⟩:=at_T52 HR0.out x8_1 p136 q136
   cases e136
   replace hx136_0:=(HB.out.cell (zW w _ hx136_0)).trans hx136_0
   replace hx136_1:=(HB.out.cell (zW w _ hx136_1)).trans hx136_1
   replace p136:=eq_true p136
   replace q136:=eq_true q136
   go_wp2_with (first|((with_reducible refine gate_dst (N:=5) rfl ?_);refine box_event ?hg (N:=5) ?hd (cs:= #[.int .i64 0, .int .i64 0]) (t:=52) ?hr ?_;(case hd|hg=>rfl);(case hr=>exact zh);intro gb137 hg w7 hbox hb;have n0_:=zM (zNb (g:=gb134) (o:= .cells #[.int .i64 0, .int .i64 0] 52 (0,0)) (zn BK134) hb);have n1_:=zM (zNb (g:=gb135) (o:= .cells #[.int .i64 x136000_1, .int .i64 x136001_1] 52 (0,0)) (zn BK135) hb);have n2_:=zM (below_step zb29 hb);have n3_:=zM (hbox);have n4_:=zM ((zw hg (below_size zb29)));have n5_:=zM n4_.out;have n6_:=zM ((by rw[hg];exact Nat.ne_of_lt (by simpa using blk_lt BK134.out):gb134≠gb137));have n7_:=zM ((by rw[hg];exact Nat.ne_of_gt (by simpa using blk_lt BK134.out):gb137≠gb134));have n8_:=zM ((by rw[hg];exact Nat.ne_of_lt (by simpa using blk_lt BK135.out):gb135≠gb137));have n9_:=zM ((by rw[hg];exact Nat.ne_of_gt (by simpa using blk_lt BK135.out):gb137≠gb135));clear BK134;clear BK135;clear HB;have BK134:=n0_;have BK135:=n1_;have HB:=n2_;have BK137:=n3_;have GW137:=n4_;have GE137:=n5_;have NB134_137:=n6_;have NB137_134:=n7_;have NB135_137:=n8_;have NB137_135:=n9_;clear n0_ n1_ n2_ n3_ n4_ n5_ n6_ n7_ n8_ n9_;clear hb hbox hg;have hnb8:=NB137_134.out;have hnc8:=NB134_137.out;have hnb9:=NB137_135.out;have hnc9:=NB135_137.out;obtain⟨hcz10_0,hcz10_1,hfz10_0,hfz10_1⟩:=zc2 BK137.out;have hnb11:=NB135_134.out;have hnc11:=NB134_135.out;obtain⟨hcz12_0,hcz12_1,hfz12_0,hfz12_1⟩:=zc2 BK135.out))
   go_roundg k1
   case measure=>have:=HK1.out;omega
   case rel=>exact⟨(wrap64 (x8_1+1)),(wrap64 (x136000_1+((rd_T52 l0 x8_1).f0))),(wrap64 (x136001_1+((rd_T52 l0 x8_1).f1))),zs,H',⟨zl1 HK1⟩,⟨by(with_reducible repeat(first|apply zNn|apply zNd|apply zNa));refine zNf ?_ NB134_135.out _;(with_reducible repeat(first|apply zNn|apply zNd|apply zNa));refine zNf ?_ NB134_135.out _;(with_reducible repeat(first|apply zNn|apply zNd|apply zNa));refine zNf ?_ NB134_137.out _;(with_reducible repeat(first|apply zNn|apply zNd|apply zNa));refine zNf ?_ NB134_137.out _;(with_reducible repeat(first|apply zNn|apply zNd|apply zNa));exact BK134.out⟩,⟨by(with_reducible repeat(first|apply zNn|apply zNd|apply zNa));refine blk_put (cs:= #[.int .i64 (wrap64 (x136000_1+((rd_T52 l0 x8_1).f0))), .int .i64 x136001_1]) ?_ 1 _ rfl;(with_reducible repeat(first|apply zNn|apply zNd|apply zNa));refine blk_put (cs:= #[.int .i64 x136000_1, .int .i64 x136001_1]) ?_ 0 _ rfl;(with_reducible repeat(first|apply zNn|apply zNd|apply zNa));refine zNf ?_ NB135_137.out _;(with_reducible repeat(first|apply zNn|apply zNd|apply zNa));refine zNf ?_ NB135_137.out _;(with_reducible repeat(first|apply zNn|apply zNd|apply zNa));exact BK135.out⟩,⟨zb30⟩⟩
def impl_big18.f (a0:Int):Option (Bool):=if a0≥(-4000000000000000000) then(some (decide (a0≤4000000000000000000))) else(some false)
theorem impl_big18.calls (a0:Int) (r:Bool) (w:World) (H:impl_big18.f a0=some r):
 Calls Try.prog 99 #[.int .i64 a0] w fun e w'=>e= .returned (.bool r)∧Drawn0 w w':=by
 unfold impl_big18.f at H
 replace H:=zI2 H
 rcases H with⟨c2,H⟩|⟨c2,H⟩
 case inl=>
  have c2b0:decide ((-4000000000000000000)≤a0)=true:=zE c2
  clear c2
  obtain rfl:=zI H
  go_enter Try.func99,Try.ntmps99
  go_wp2
  go_ret
  exact⟨zs,zd⟩
 have c2b0:decide ((-4000000000000000000)≤a0)=false:=decide_eq_false c2
 clear c2
 obtain rfl:=zI H
 go_enter Try.func99,Try.ntmps99
 go_wp2
 go_ret
 exact⟨zs,zd⟩
def impl_down.f (a0:Int) (a1:Int):Option (Int×Int):=if a1=0 then(none) else(if(Int.tmod a0 a1)<0 then(some (wrap64 ((wrap64 (Int.tdiv a0 a1))-1),wrap64 ((Int.tmod a0 a1)+a1))) else(some (wrap64 (Int.tdiv a0 a1),Int.tmod a0 a1)))
theorem impl_down.calls (a0:Int) (a1:Int) (r1:Int) (r2:Int) (w:World) (H:impl_down.f a0 a1=some (r1,r2)):
 Calls Try.prog 100 #[.int .i64 a0, .int .i64 a1] w fun e w'=>e= .returned (.tuple #[.int .i64 r1, .int .i64 r2])∧Drawn0 w w':=by
 unfold impl_down.f at H
 replace H:=zI2 H
 rcases H with⟨c3,H⟩|⟨c3,H⟩
 case inl=>
  exact absurd H (by simp)
 have c3b0:(a1==0)=false:=beq_eq_false_iff_ne.mpr c3
 have c3b1:(a1 != 0)=true:=bne_iff_ne.mpr c3
 replace H:=zI2 H
 rcases H with⟨c4,H⟩|⟨c4,H⟩
 case inl=>
  have c4b0:=zE c4
  clear c4
  simp only[Option.some.injEq,Prod.mk.injEq] at H
  obtain⟨rfl,rfl⟩:=H
  go_enter Try.func100,Try.ntmps100
  go_wp2
  repeat(go_quiet (fail);try go_wp2)
  go_ret2
  exact⟨zs,zd⟩
 have c4b0:=decide_eq_false c4
 clear c4
 simp only[Option.some.injEq,Prod.mk.injEq] at H
 obtain⟨rfl,rfl⟩:=H
 go_enter Try.func100,Try.ntmps100
 go_wp2
 repeat(go_quiet (fail);try go_wp2)
 go_ret2
 exact⟨zs,zd⟩
def impl_RoundDiv.j0:Nat→Int→Int→Bool→Option (Int)
 |0,_,_,_=>none
 |k+1,x0,x1,x17=>if x17=true then(some 0) else((impl_down.f x0 x1).bind fun bt139=>(if bt139.2≥(wrap64 (x1-bt139.2)) then(some (wrap64 (bt139.1+1))) else(some bt139.1)))
def impl_RoundDiv.f (k:Nat) (a0:Int) (a1:Int):Option (Int):=if a1<1 then(impl_RoundDiv.j0 k a0 a1 true) else(if a1>4000000000000000000 then(impl_RoundDiv.j0 k a0 a1 true) else((impl_big18.f a0).bind fun t138=>(impl_RoundDiv.j0 k a0 a1 (!t138))))
theorem impl_RoundDiv.calls (k:Nat) (a0:Int) (a1:Int) (r:Int) (w:World) (H:impl_RoundDiv.f k a0 a1=some r):
 Calls Try.prog 58 #[.int .i64 a0, .int .i64 a1] w fun e w'=>e= .returned (.int .i64 r)∧Drawn0 w w':=by
 unfold impl_RoundDiv.f at H
 have HC3:=zM H
 clear H
 go_enter Try.func58,Try.ntmps58
 go_upto_region 1 with(fail)
 go_cut [17] (fun v17 wc=>∃(kq:Nat) (x17_2:Bool),v17= .bool x17_2∧Aside0 (impl_RoundDiv.j0 kq a0 a1 x17_2=some r)∧Aside0 (kq≤k)∧Drawn0 w wc)
 case first=>
  have H:=HC3.out
  clear HC3
  replace H:=zI2 H
  rcases H with⟨c4,H⟩|⟨c4,H⟩
  case inl=>
   have c4b0:=zE c4
   clear c4
   (first|rw[c4b0]|(simp only[i64_w,i32_w];rw[c4b0])|skip)
   have H':=zM H
   clear H
   go_wp2
   go_meet
   case rel=>exact⟨_,(true),zs,H',⟨zo⟩,zd⟩
  have c4b0:=decide_eq_false c4
  clear c4
  (first|rw[c4b0]|(simp only[i64_w,i32_w];rw[c4b0])|skip)
  replace H:=zI2 H
  rcases H with⟨c5,H⟩|⟨c5,H⟩
  case inl=>
   have c5b0:decide (4000000000000000000<a1)=true:=zE c5
   clear c5
   have H':=zM H
   clear H
   go_wp2
   go_meet
   case rel=>exact⟨_,(true),zs,H',⟨zo⟩,zd⟩
  have c5b0:decide (4000000000000000000<a1)=false:=decide_eq_false c5
  clear c5
  replace H:=zP H
  obtain⟨t138,A6,H⟩:=H
  have H':=zM H
  clear H
  go_wp2_with (first|(go_at_call 99;(with_reducible refine(impl_big18.calls a0 t138 _ A6.out).mono ?_);rintro e w' ⟨rfl,⟨nd,rfl⟩⟩))
  go_meet
  case rel=>exact⟨_,(!t138),zs,H',⟨zo⟩,zd⟩
 case rest=>
  clear HC3
  try clear p2
  try clear c4
  try clear c4b0
  try clear c5
  try clear c5b0
  obtain⟨kq,x17_2,rfl,HA,HJ2,⟨mc2,rfl⟩⟩:=hcut
  cases kq with
  |zero=>exact absurd HA.out (by simp[impl_RoundDiv.j0])
  | succ kj2=>
   have H:=HA.out
   clear HA
   simp only[impl_RoundDiv.j0] at H
   by_cases c7:x17_2=true
   case pos=>
    subst c7
    rw[if_pos rfl] at H
    obtain rfl:=zI H
    go_wp2
    go_ret
    exact⟨zs,zd⟩
   replace c7:=Bool.eq_false_iff.mpr c7
   subst c7
   rw[if_neg zFT] at H
   replace H:=zP H
   obtain⟨⟨t139,t140⟩,A8,H⟩:=H
   dsimp only at H
   replace H:=zI2 H
   rcases H with⟨c9,H⟩|⟨c9,H⟩
   case inl=>
    have c9b0:decide ((wrap64 (a1-t140))≤t140)=true:=zE c9
    clear c9
    obtain rfl:=zI H
    go_wp2_with (first|((with_reducible refine gate_callee (f:=100) rfl ?_);refine goesL_ (some 21) rfl rfl Try.func100 ze rfl #[.int .i64 a0, .int .i64 a1] rfl zg ?_;(with_reducible refine(impl_down.calls a0 a1 t139 t140 _ A8.out).mono ?_);rintro e w' ⟨rfl,⟨nd,rfl⟩⟩;refine⟨_,rfl,?_⟩))
    go_ret
    exact⟨zs,zd⟩
   have c9b0:decide ((wrap64 (a1-t140))≤t140)=false:=decide_eq_false c9
   clear c9
   obtain rfl:=zI H
   go_wp2_with (first|((with_reducible refine gate_callee (f:=100) rfl ?_);refine goesL_ (some 21) rfl rfl Try.func100 ze rfl #[.int .i64 a0, .int .i64 a1] rfl zg ?_;(with_reducible refine(impl_down.calls a0 a1 t139 t140 _ A8.out).mono ?_);rintro e w' ⟨rfl,⟨nd,rfl⟩⟩;refine⟨_,rfl,?_⟩))
   go_ret
   exact⟨zs,zd⟩
end Go.Proofs.Ytapobpkeefeajaa.PFnExactHear
