-- A turned copy of the print's text.
import Derived.Test.YtapobpkeefeajaaPFnExactHearx0
namespace Go.Proofs.Ytapobpkeefeajaa.PFnExactHear
open Go.RowKit Go.Proofs.YtapobpkeefeajaaW.PrintWords Go.Proofs.YtapobpkeefeajaaW.PrintLast Go.Proofs.YtapobpkeefeajaaW.PrintMore
attribute [local go_sem] max2_int min2_int max_two min_two max_three min_three max_four min_four
set_option maxHeartbeats 8000000
set_option maxRecDepth 100000
set_option linter.unusedVariables false
set_option linter.unusedSimpArgs false
def laws_toPoint.f (a0_0:Int) (a0_1:Int):Option (Int×Int):=some (a0_0,a0_1)
theorem laws_toPoint.calls (a0_0:Int) (a0_1:Int) (r1:Int) (r2:Int) (w:World) (H:laws_toPoint.f a0_0 a0_1=some (r1,r2)):
 Calls Try.prog 73 #[.agg #[.int .i64 a0_0, .int .i64 a0_1]] w fun e w'=>e= .returned (.agg #[.int .i64 r1, .int .i64 r2])∧Below w.heap.size w w':=by
 have hu87:=Try.underlying87
 have hu52:=Try.underlying52
 have HB:=zM (Below.refl w.heap.size w)
 unfold laws_toPoint.f at H
 simp only[Option.some.injEq,Prod.mk.injEq] at H
 obtain⟨rfl,rfl⟩:=H
 go_enter Try.func73,Try.ntmps73
 go_wp2_with (first|((with_reducible refine gate_dst (N:=1) rfl ?_);refine box_event ?hg (N:=1) ?hd (cs:= #[.int .i64 a0_0, .int .i64 a0_1]) (t:=87) ?hr ?_;(case hd|hg=>rfl);(case hr=>exact zh);intro gb502 hg w2 hbox hb;have n0_:=zM (below_step zb hb);have n1_:=zM (hbox);have n2_:=zM ((zw hg (below_size zb)));have n3_:=zM n2_.out;clear HB;have HB:=n0_;have BK502:=n1_;have GW502:=n2_;have GE502:=n3_;clear n0_ n1_ n2_ n3_;clear hb hbox hg)|((with_reducible refine gate_dst (N:=2) rfl ?_);refine box_event ?hg (N:=2) ?hd (cs:= #[.int .i64 0, .int .i64 0]) (t:=52) ?hr ?_;(case hd|hg=>rfl);(case hr=>exact zh);intro gb503 hg w3 hbox hb;have n0_:=zM (zNb (g:=gb502) (o:= .cells #[.int .i64 a0_0, .int .i64 a0_1] 87 (0,0)) (zn BK502) hb);have n1_:=zM (below_step zb22 hb);have n2_:=zM (hbox);have n3_:=zM ((zw hg (below_size zb22)));have n4_:=zM n3_.out;have n5_:=zM ((by rw[hg];exact Nat.ne_of_lt (by simpa using blk_lt BK502.out):gb502≠gb503));have n6_:=zM ((by rw[hg];exact Nat.ne_of_gt (by simpa using blk_lt BK502.out):gb503≠gb502));clear BK502;clear HB;have BK502:=n0_;have HB:=n1_;have BK503:=n2_;have GW503:=n3_;have GE503:=n4_;have NB502_503:=n5_;have NB503_502:=n6_;clear n0_ n1_ n2_ n3_ n4_ n5_ n6_;clear hb hbox hg)|((with_reducible refine gate_dst (N:=3) rfl ?_);refine box_event ?hg (N:=3) ?hd (cs:= #[.int .i64 0, .int .i64 0]) (t:=52) ?hr ?_;(case hd|hg=>rfl);(case hr=>exact zh);intro gb504 hg w4 hbox hb;have n0_:=zM (zNb (g:=gb502) (o:= .cells #[.int .i64 a0_0, .int .i64 a0_1] 87 (0,0)) (zn BK502) hb);have n1_:=zM (zNb (g:=gb503) (o:= .cells #[.int .i64 0, .int .i64 0] 52 (0,0)) (zn BK503) hb);have n2_:=zM (below_step zb23 hb);have n3_:=zM (hbox);have n4_:=zM ((zw hg (below_size zb23)));have n5_:=zM n4_.out;have n6_:=zM ((by rw[hg];exact Nat.ne_of_lt (by simpa using blk_lt BK502.out):gb502≠gb504));have n7_:=zM ((by rw[hg];exact Nat.ne_of_gt (by simpa using blk_lt BK502.out):gb504≠gb502));have n8_:=zM ((by rw[hg];exact Nat.ne_of_lt (by simpa using blk_lt BK503.out):gb503≠gb504));have n9_:=zM ((by rw[hg];exact Nat.ne_of_gt (by simpa using blk_lt BK503.out):gb504≠gb503));clear BK502;clear BK503;clear HB;have BK502:=n0_;have BK503:=n1_;have HB:=n2_;have BK504:=n3_;have GW504:=n4_;have GE504:=n5_;have NB502_504:=n6_;have NB504_502:=n7_;have NB503_504:=n8_;have NB504_503:=n9_;clear n0_ n1_ n2_ n3_ n4_ n5_ n6_ n7_ n8_ n9_;clear hb hbox hg;have hnb5:=NB502_503.out;have hnc5:=NB503_502.out;have hnb6:=NB502_504.out;have hnc6:=NB504_502.out;obtain⟨hcz7_0,hcz7_1,hfz7_0,hfz7_1⟩:=zc2 BK502.out;have hnb8:=NB504_503.out;have hnc8:=NB503_504.out;obtain⟨hcz9_0,hcz9_1,hfz9_0,hfz9_1⟩:=zc2 BK504.out;obtain⟨hcz10_0,hcz10_1,hfz10_0,hfz10_1⟩:=zc2 BK503.out))
 refine bodyPost_ret (results_cell_row rfl _ _ gb503 52 #[.int .i64 a0_0, .int .i64 a0_1] (0,0) _ rfl (by(with_reducible repeat(first|apply zNn|apply zNd|apply zNa));exact blk_put (blk_put (zNf (zNf (BK503.out) NB503_504.out _) NB503_504.out _) 0 _ rfl) 1 _ rfl) Try.underlying52 rfl ze) rfl ?_
 exact⟨zq,zb24⟩
def laws_toPointS.l0:Nat→List (S87)→List (S52)→Int→Option ((List (S52)))
 |0,_,_,_=>none
 |k+1,x0,x3,x4=>if x4<(x0.length:Int) then(if 0≤x4 then((laws_toPoint.f ((rd_T87 x0 x4).f0) ((rd_T87 x0 x4).f1)).bind fun bt509=>(if x4<(x3.length:Int) then(laws_toPointS.l0 k x0 (x3.set (x4:Int).toNat (⟨bt509.1,bt509.2⟩:S52)) (wrap64 (x4+1))) else(none))) else(none)) else(some x3)
def laws_toPointS.f (k:Nat) (l0:List (S87)):Option ((List (S52))):=if 0≤(l0.length:Int) then(if((l0.length:Int):Int).toNat≤17592186044416 then(laws_toPointS.l0 k l0 (List.replicate ((l0.length:Int):Int).toNat z52) 0) else(none)) else(none)
theorem laws_toPointS.calls (k:Nat) (A0:Option Addr) (c0:Nat) (l0:List (S87)) (r:List (S52)) (w:World) (hr0:Kd.C k87 w A0 l0.length l0) (hc0:l0.length≤c0) (H:laws_toPointS.f k l0=some r):
 Calls Try.prog 24 #[.slice A0 l0.length c0] w fun e w'=>∃v0_:Value,e= .returned (v0_)∧Kd.R k52 52 w' w.heap.size (fun _=>True) v0_ r∧Below w.heap.size w w':=by
 have hu87:=Try.underlying87
 have hu52:=Try.underlying52
 have HR0:=zM hr0
 have HC0:=zM hc0
 clear hr0 hc0
 have HB:=zM (Below.refl w.heap.size w)
 unfold laws_toPointS.f at H
 replace H:=zIN H
 obtain⟨c2,H⟩:=H
 have c2b0:=eq_true c2
 have c2b1:decide (0≤(l0.length:Int))=true:=zE c2
 clear c2
 replace H:=zIN H
 obtain⟨c3,H⟩:=H
 have c3b0:=eq_true c3
 have c3b1:decide (((l0.length:Int):Int).toNat≤17592186044416)=true:=zE c3
 clear c3
 obtain⟨y505,hy505⟩:∃y_:List (S52),y_=(List.replicate ((l0.length:Int):Int).toNat z52):=⟨_,rfl⟩
 rw[←hy505] at H
 have Ny505:=zM hy505
 clear hy505
 have H':=zM H
 clear H
 go_enter Try.func24,Try.ntmps24
 go_wp2_with (first|((with_reducible refine gate_dst (N:=7) rfl ?_);refine Kd.R_make k52 _ 52 rfl (N:=7) rfl 25 _ _ rfl (l0.length:Int) rfl rfl Try.underlying25 (.agg #[(.int .i64 0),(.int .i64 0)]) 16 info52 rfl (by decide) (by omega) z52 (ok:=fun _=>True) (okp:=fun _=>True) (k52_mkM _ _ _ z52) (fun _ hk=>hk) trivial (zT (by assumption)) (Nat.le_trans (Nat.mul_le_mul_right _ (zT (by assumption):(l0.length:Int).toNat≤17592186044416)) (by omega)) (Below.refl _ _) (Nat.le_refl _) ?_;intro v506 w4 ho5 hb hg_ hnew_;clear hg_ hnew_;(first|rw[←Ny505.out] at ho5|simp only[Int.reduceToNat,←Ny505.out] at ho5);refine zS2 (Kd.R_lower ho5 (below_size zb)) (below_step zb hb) ?_;clear HB;intro HO507 HB;clear hb ho5))
 (try simp only[Act.put,zL1,zL2,zL3])
 go_loopg [4] k (fun kq v4 w'=>∃(x3_1:List (S52)) (x4_1:Int),v4= .int .i64 x4_1∧Aside0 (laws_toPointS.l0 kq l0 x3_1 x4_1=some r)∧Aside0 (kq≤k)∧Aside0 (Kd.R k52 52 w' w.heap.size (fun _=>True) v506 x3_1)∧Aside0 (Below w.heap.size w w'))
 case atStart=>exact⟨(y505),(0),zs,H',⟨Nat.le_refl _⟩,⟨zr HO507⟩,⟨zb⟩⟩
 case round=>
  clear H'
  try clear c2
  try clear c2b0
  try clear c2b1
  try clear p2
  try clear c3
  try clear c3b0
  try clear c3b1
  obtain⟨x3_1,x4_1,rfl,HA,HK1,HO_3,HB⟩:=hrel
  cases gk with
  |zero=>exact absurd HA.out (by simp[laws_toPointS.l0])
  | succ k1=>
   have H:=HA.out
   clear HA
   simp only[laws_toPointS.l0] at H
   replace H:=zI2 H
   rcases H with⟨c6,H⟩|⟨c6,H⟩
   case inr=>
    have c6b0:=decide_eq_false c6
    clear c6
    obtain rfl:=zI H
    go_wp2
    go_ret
    exact⟨_,zq,zr HO_3,zb⟩
   have c6b0:=zE c6
   clear c6
   replace H:=zID H
   obtain⟨c7b0,H⟩:=H
   replace H:=zP H
   obtain⟨⟨t509,t510⟩,A8,H⟩:=H
   dsimp only at H
   replace H:=zID H
   obtain⟨c9b0,H⟩:=H
   obtain⟨y511,hy511⟩:∃y_:List (S52),y_=(x3_1.set (x4_1:Int).toNat (⟨t509,t510⟩:S52)):=⟨_,rfl⟩
   rw[←hy511] at H
   have Ny511:=zM hy511
   clear hy511
   have H':=zM H
   clear H
   have p508:0≤(x4_1:Int):=zT (by assumption)
   have q508:x4_1<(l0.length:Int):=zT (by assumption)
   obtain⟨ad508,e508,hx508_0,hx508_1⟩:=at_T87 HR0.out x4_1 p508 q508
   cases e508
   replace hx508_0:=(HB.out.cell (zW w _ hx508_0)).trans hx508_0
   replace hx508_1:=(HB.out.cell (zW w _ hx508_1)).trans hx508_1
   replace p508:=eq_true p508
   replace q508:=eq_true q508
   go_wp2_with (first|((with_reducible refine gate_callee (f:=73) rfl ?_);refine goesL_ (some 20) rfl rfl Try.func73 ze rfl #[.agg #[.int .i64 ((rd_T87 l0 x4_1).f0), .int .i64 ((rd_T87 l0 x4_1).f1)]] rfl zg ?_;(with_reducible refine(laws_toPoint.calls ((rd_T87 l0 x4_1).f0) ((rd_T87 l0 x4_1).f1) t509 t510 _ A8.out).mono ?_);rintro e w11 ⟨rfl,hb⟩;refine⟨_,rfl,?_⟩;refine zS2 (Kd.R_below (zr HO_3) hb) (below_step zb hb) ?_;clear HO_3 HB;intro HO_3 HB;(try clear hb);(try clear hb2);(try clear hk);(try clear hi);have p10:0≤(x4_1:Int):=zT (by assumption);have q10:(x4_1:Int)<((x3_1.length:Int):Int):=zT (by assumption);obtain⟨go10,co10,eo10,gb10,gl10,cl10,HG10⟩:=Kd.R_form HO_3.out (by omega);(first|cases eo10|(injection eo10 with ea_ en_ ec_;(first|subst ea_|(injection ea_ with ea_;subst ea_));subst ec_;clear en_));have GB10:=zM gb10;have GG10:=zM HG10;clear gb10 gl10 HG10;obtain⟨ce10,hcl10,hM10,hcc10,hfr10⟩:=Kd.R_elem HO_3.out z52 (x4_1:Int) p10 q10;obtain rfl:=k52_openM hM10;have hx10_0:w11.cell? ⟨go10,(x4_1:Int).toNat*2,none⟩=some (.int .i64 ((rd_T52 x3_1 x4_1).f0)):=hcc10 0 _ rfl;have hx10_1:w11.cell? ⟨go10,(x4_1:Int).toNat*2+1,none⟩=some (.int .i64 ((rd_T52 x3_1 x4_1).f1)):=hcc10 1 _ rfl;have hf10_0:w11.frozen? ⟨go10,(x4_1:Int).toNat*2,none⟩=false:=hfr10 0;have hf10_1:w11.frozen? ⟨go10,(x4_1:Int).toNat*2+1,none⟩=false:=hfr10 1;(try clear hcl10 hcc10 hfr10);(try clear hM10);replace p10:=eq_true p10;replace q10:=eq_true q10;have HX12:=zM (show Kd.R k52 52 w11 w.heap.size (fun _=>True) (.slice (some ⟨go10,0,none⟩) x3_1.length co10) x3_1 from(zr HO_3));obtain⟨ce12,hcl12,hM12,hcc12,hfr12⟩:=Kd.R_elem HX12.out z52 (x4_1:Int) (zT (by assumption)) (by have h_:(x4_1:Int)<((x3_1.length:Int):Int):=zT (by assumption);first|exact h_|(have e_:=(Kd.R_reads' HO_3.out).1;omega)|simpa using h_);obtain rfl:=k52_openM hM12;have HP12:=Kd.R_seg HX12.out (x4_1:Int) (zT (by assumption)) (by have h_:(x4_1:Int)<((x3_1.length:Int):Int):=zT (by assumption);first|exact h_|(have e_:=(Kd.R_reads' HO_3.out).1;omega)|simpa using h_) (seg:=[.int .i64 t509, .int .i64 t510]) (j:=0) hcl12 hcc12 (show 2≤2 from by decide) (x':=(⟨t509,t510⟩:S52)) (k52_mkM _ _ _ (⟨t509,t510⟩:S52)) (fun _ hk=>hk);have hx12_0:=hcc12 0 _ rfl;(try simp only[show(k52).sz=2 from rfl,Nat.mul_one,Nat.add_zero] at hx12_0);have hf12_0:=hfr12 0;(try simp only[show(k52).sz=2 from rfl,Nat.mul_one,Nat.add_zero] at hf12_0);have hx12_1:=hcc12 1 _ rfl;(try simp only[show(k52).sz=2 from rfl,Nat.mul_one,Nat.add_zero] at hx12_1);have hf12_1:=hfr12 1;(try simp only[show(k52).sz=2 from rfl,Nat.mul_one,Nat.add_zero] at hf12_1);(try clear hcl12 hcc12 hfr12);(try clear hM12))|((with_reducible refine gate_store (t:=52) (p:=21) rfl ?_);refine store_event (t:=52) (p:=21) (v:= ?vo_w13) (w1:=((w11.setCell ⟨go10,(x4_1:Int).toNat*2,none⟩ (.int .i64 t509)).setCell ⟨go10,(x4_1:Int).toNat*2+1,none⟩ (.int .i64 t510))) ?hg ?ho ?hn ?hr ?_;(case ho=>rfl);(case hg=>rfl);(case hn=>rfl);(case hr=>exact zh);intro w13 hw;have hg:w11.grownBy w13 (some go10):=(by rw[hw];exact HP12.2);have hp_:Kd.R k52 52 w13 w.heap.size (fun _=>True) (.slice (some ⟨go10,0,none⟩) x3_1.length co10) y511:=(by rw[hw,Ny511.out];exact HP12.1);clear HP12;refine zS2 (hp_) ((by rw[hw];exact zBs (zBs (HB.out) GB10.out) GB10.out:Below w.heap.size w w13)) ?_;clear HO_3 HB;intro HO_3 HB;clear hg hw hp_))
   go_roundg k1
   case measure=>have:=HK1.out;omega
   case rel=>exact⟨(y511),(wrap64 (x4_1+1)),zs,H',⟨zl1 HK1⟩,⟨zr HO_3⟩,⟨zb⟩⟩
def laws_heldByteS.l0:Nat→List Int→Int→Int→Option (Int)
 |0,_,_,_=>none
 |k+1,x0,x1,x5=>if x5<(x0.length:Int) then(if 0≤x5 then(if(rd x0 x5)=((x1)%256) then(laws_heldByteS.l0 k x0 (wrap64 (x1+1)) (wrap64 (x5+1))) else(some (-1))) else(none)) else(some x1)
def laws_heldByteS.f (k:Nat) (l0:List Int) (a1:Int):Option (Int):=laws_heldByteS.l0 k l0 a1 0
theorem laws_heldByteS.calls (k:Nat) (A0:Option Addr) (c0:Nat) (l0:List Int) (a1:Int) (r:Int) (w:World) (hr0:Kd.C (Kd.int .u8) w A0 l0.length l0) (hc0:l0.length≤c0) (H:laws_heldByteS.f k l0 a1=some r):
 Calls Try.prog 25 #[.slice A0 l0.length c0, .int .i64 a1] w fun e w'=>e= .returned (.int .i64 r)∧Drawn0 w w':=by
 have HR0:=zM hr0
 have HC0:=zM hc0
 clear hr0 hc0
 unfold laws_heldByteS.f at H
 have H':=zM H
 clear H
 go_enter Try.func25,Try.ntmps25
 go_wp2
 (try simp only[Act.put,zL1,zL2,zL3])
 go_loopg [1,5] k (fun kq v1 v5 w'=>∃(x1_1:Int) (x5_1:Int),v1= .int .i64 x1_1∧v5= .int .i64 x5_1∧Aside0 (laws_heldByteS.l0 kq l0 x1_1 x5_1=some r)∧Aside0 (kq≤k)∧Drawn0 w w')
 case atStart=>exact⟨(a1),(0),zs,zs,H',⟨Nat.le_refl _⟩,zd⟩
 case round=>
  clear H'
  try clear c2
  try clear p2
  obtain⟨x1_1,x5_1,rfl,rfl,HA,HK1,⟨m1,rfl⟩⟩:=hrel
  cases gk with
  |zero=>exact absurd HA.out (by simp[laws_heldByteS.l0])
  | succ k1=>
   have H:=HA.out
   clear HA
   simp only[laws_heldByteS.l0] at H
   replace H:=zI2 H
   rcases H with⟨c3,H⟩|⟨c3,H⟩
   case inr=>
    have c3b0:=decide_eq_false c3
    clear c3
    obtain rfl:=zI H
    go_wp2
    go_ret
    exact⟨zs,zd⟩
   have c3b0:=zE c3
   clear c3
   replace H:=zID H
   obtain⟨c4b0,H⟩:=H
   replace H:=zI2 H
   rcases H with⟨c5,H⟩|⟨c5,H⟩
   case inr=>
    have c5b0:((rd l0 x5_1)==((x1_1)%256))=false:=beq_eq_false_iff_ne.mpr c5
    have c5b1:((rd l0 x5_1) != ((x1_1)%256))=true:=bne_iff_ne.mpr c5
    obtain rfl:=zI H
    have p512:0≤(x5_1:Int):=zT (by assumption)
    have q512:x5_1<(l0.length:Int):=zT (by assumption)
    obtain⟨ad512,e512,hx512_0⟩:=Kd.at_int HR0.out x5_1 p512 q512
    cases e512
    replace p512:=eq_true p512
    replace q512:=eq_true q512
    go_wp2
    go_ret
    exact⟨zs,zd⟩
   have c5b0:((rd l0 x5_1)==((x1_1)%256))=true:=beq_iff_eq.mpr c5
   have c5b1:((rd l0 x5_1) != ((x1_1)%256))=false:=bne_eq_false_iff_eq.mpr c5
   clear c5
   have H':=zM H
   clear H
   have p512:0≤(x5_1:Int):=zT (by assumption)
   have q512:x5_1<(l0.length:Int):=zT (by assumption)
   obtain⟨ad512,e512,hx512_0⟩:=Kd.at_int HR0.out x5_1 p512 q512
   cases e512
   replace p512:=eq_true p512
   replace q512:=eq_true q512
   go_wp2
   go_roundg k1
   case measure=>have:=HK1.out;omega
   case rel=>exact⟨(wrap64 (x1_1+1)),(wrap64 (x5_1+1)),zs,zs,H',⟨zl1 HK1⟩,zd⟩
end Go.Proofs.Ytapobpkeefeajaa.PFnExactHear
