-- A turned copy of the print's text.
import Derived.Test.YtapobpkeefeajaaPFnModemx0
import Derived.Test.YtapobpkeefeajaaPFnModemx1
import Derived.Test.YtapobpkeefeajaaPFnModemx3
namespace Go.Proofs.Ytapobpkeefeajaa.PFnModem
open Go.RowKit Go.Proofs.YtapobpkeefeajaaW.PrintWords Go.Proofs.YtapobpkeefeajaaW.PrintLast Go.Proofs.YtapobpkeefeajaaW.PrintMore
attribute [local go_sem] max2_int min2_int max_two min_two max_three min_three max_four min_four
set_option maxHeartbeats 8000000
set_option maxRecDepth 100000
set_option linter.unusedVariables false
set_option linter.unusedSimpArgs false
def impl_Unweave.l0:Nat→List Int→List Int→List Int→Int→Int→Option (List Int×Bool)
 |0,_,_,_,_,_=>none
 |k+1,x0,x6,x19,x20,x21=>if x21<x20 then(if 0≤x21 then(if x21<(x19.length:Int) then(if x21<(x0.length:Int) then(if 0≤(rd x19 x21) then(if(rd x19 x21)<(x6.length:Int) then(impl_Unweave.l0 k x0 (x6.set ((rd x19 x21):Int).toNat (rd x0 x21)) x19 x20 (wrap64 (x21+1))) else(none)) else(none)) else(none)) else(none)) else(none)) else(some (x6,true))
def impl_Unweave.f (k:Nat) (l0:List Int) (a1:Int):Option (List Int×Bool):=(impl_weaves.f l0 a1).bind fun t189=>(if t189=true then(if 0≤(l0.length:Int) then(if((l0.length:Int):Int).toNat≤35184372088832 then((impl_woven.f k (l0.length:Int) a1).bind fun t193=>(impl_Unweave.l0 k l0 (List.replicate ((l0.length:Int):Int).toNat 0) t193 (t193.length:Int) 0)) else(none)) else(none)) else(some (([]:List Int),false)))
theorem impl_Unweave.calls (k:Nat) (A0:Option Addr) (c0:Nat) (l0:List Int) (a1:Int) (r1:List Int) (r2:Bool) (w:World) (hr0:Kd.C (Kd.int .i64) w A0 l0.length l0) (hc0:l0.length≤c0) (H:impl_Unweave.f k l0 a1=some (r1,r2)):
 Calls Try.prog 60 #[.slice A0 l0.length c0, .int .i64 a1] w fun e w'=>∃v0_:Value,e= .returned (.tuple #[v0_, .bool r2])∧Kd.R (Kd.int .i64) 3 w' w.heap.size (fun _=>True) v0_ r1∧Below w.heap.size w w':=by
 have HR0:=zM hr0
 have HC0:=zM hc0
 clear hr0 hc0
 have HB:=zM (Below.refl w.heap.size w)
 unfold impl_Unweave.f at H
 replace H:=zP H
 obtain⟨t189,A3,H⟩:=H
 by_cases c4:t189=true
 case neg=>
  replace c4:=Bool.eq_false_iff.mpr c4
  subst c4
  rw[if_neg zFT] at H
  simp only[Option.some.injEq,Prod.mk.injEq] at H
  obtain⟨rfl,rfl⟩:=H
  go_enter Try.func60,Try.ntmps60
  go_wp2_with (first|((with_reducible refine gate_callee (f:=89) rfl ?_);refine goesL_ (some 11) rfl rfl Try.func89 ze rfl #[.slice A0 l0.length c0, .int .i64 a1] rfl zg ?_;(with_reducible refine(impl_weaves.calls _ _ l0 a1 false _ ?side1 ?side2 A3.out).mono ?_);(case side1=>exact zc HR0.out);(case side2=>exact HC0.out);rintro e w' ⟨rfl,⟨nd,rfl⟩⟩;refine⟨_,rfl,?_⟩))
  go_ret2
  exact⟨_,zq,zz,zb⟩
 subst c4
 rw[if_pos rfl] at H
 replace H:=zIN H
 obtain⟨c5,H⟩:=H
 have c5b0:=eq_true c5
 have c5b1:decide (0≤(l0.length:Int))=true:=zE c5
 clear c5
 replace H:=zIN H
 obtain⟨c6,H⟩:=H
 have c6b0:=eq_true c6
 have c6b1:decide (((l0.length:Int):Int).toNat≤35184372088832)=true:=zE c6
 clear c6
 obtain⟨y190,hy190⟩:∃y_:List Int,y_=(List.replicate ((l0.length:Int):Int).toNat 0):=⟨_,rfl⟩
 rw[←hy190] at H
 have Ny190:=zM hy190
 clear hy190
 replace H:=zP H
 obtain⟨t193,A7,H⟩:=H
 have H':=zM H
 clear H
 go_enter Try.func60,Try.ntmps60
 go_wp2_with (first|((with_reducible refine gate_callee (f:=89) rfl ?_);refine goesL_ (some 11) rfl rfl Try.func89 ze rfl #[.slice A0 l0.length c0, .int .i64 a1] rfl zg ?_;(with_reducible refine(impl_weaves.calls _ _ l0 a1 true _ ?side1 ?side2 A3.out).mono ?_);(case side1=>exact zc HR0.out);(case side2=>exact HC0.out);rintro e w' ⟨rfl,⟨nd,rfl⟩⟩;refine⟨_,rfl,?_⟩)|((with_reducible refine gate_dst (N:=15) rfl ?_);refine Kd.R_make (Kd.int .i64) _ 3 rfl (N:=15) rfl 46 _ _ rfl (l0.length:Int) rfl rfl Try.underlying46 (.int .i64 0) 8 info3 rfl (by decide) (by omega) 0 (ok:=fun _=>True) (okp:=fun _=>True) rfl (fun _ hk=>hk) trivial (zT (by assumption)) (Nat.le_trans (Nat.mul_le_mul_right _ (zT (by assumption):(l0.length:Int).toNat≤35184372088832)) (by omega)) (Below.refl _ _) (Nat.le_refl _) ?_;intro v191 w8 ho9 hb hg_ hnew_;clear hg_ hnew_;(first|rw[←Ny190.out] at ho9|simp only[Int.reduceToNat,←Ny190.out] at ho9);refine zS2 (Kd.R_lower ho9 (below_size zb)) (below_step zb hb) ?_;clear HB;intro HO192 HB;clear hb ho9)|((with_reducible refine gate_callee (f:=90) rfl ?_);refine goesL_ (some 19) rfl rfl Try.func90 ze rfl #[.int .i64 (l0.length:Int), .int .i64 a1] rfl zg ?_;(with_reducible refine(impl_woven.calls k (l0.length:Int) a1 t193 _ A7.out).mono ?_);rintro e w10 ⟨v194,rfl,ho0,hb⟩;refine⟨_,rfl,?_⟩;refine zS3 (Kd.R_elder' (zr HO192) (Kd.R_base ho0) hb) (Kd.R_lower (Kd.R_new' ho0 (Kd.R_lt (zr HO192))) (below_size zb)) (below_step zb hb) ?_;clear HO192 HB;intro HO192 HO195 HB;(try clear hb);(try clear hb2);(try clear hk);(try clear hi);(try clear ho0);obtain⟨Ao11,co11,eo11⟩:=Kd.R_slice HO195.out;subst eo11))
 (try simp only[Act.put,zL1,zL2,zL3])
 go_loopg [21] k (fun kq v21 w'=>∃(x6_1:List Int) (x21_1:Int),v21= .int .i64 x21_1∧Aside0 (impl_Unweave.l0 kq l0 x6_1 t193 (t193.length:Int) x21_1=some (r1,r2))∧Aside0 (kq≤k)∧Aside0 (Kd.R (Kd.int .i64) 3 w' w.heap.size (fun k_=>some k_≠((.slice Ao11 t193.length co11):Value).ownBlock) v191 x6_1)∧Aside0 (Kd.R (Kd.int .i64) 3 w' w.heap.size (fun k_=>some k_≠(v191:Value).ownBlock) (.slice Ao11 t193.length co11) t193)∧Aside0 (Below w.heap.size w w'))
 case atStart=>exact⟨(y190),(0),zs,H',⟨Nat.le_refl _⟩,⟨by(with_reducible repeat(first|apply zRa|apply zRn|apply zRd));first|exact Kd.R_mono HO192.out (fun _ hk=>hk.2)|(subst_vars;exact Kd.R_mono HO192.out (fun _ hk=>hk.2))⟩,⟨by(with_reducible repeat(first|apply zRa|apply zRn|apply zRd));first|exact Kd.R_mono HO195.out (fun _ hk=>hk.2)|(subst_vars;exact Kd.R_mono HO195.out (fun _ hk=>hk.2))⟩,⟨zb⟩⟩
 case round=>
  clear H'
  clear c5b0 c5b1 c6b0 c6b1
  obtain⟨x6_1,x21_1,rfl,HA,HK1,HO_6,HO_19,HB⟩:=hrel
  cases gk with
  |zero=>exact absurd HA.out (by simp[impl_Unweave.l0])
  | succ k1=>
   have H:=HA.out
   clear HA
   simp only[impl_Unweave.l0] at H
   replace H:=zI2 H
   rcases H with⟨c12,H⟩|⟨c12,H⟩
   case inr=>
    have c12b0:=decide_eq_false c12
    clear c12
    simp only[Option.some.injEq,Prod.mk.injEq] at H
    obtain⟨rfl,rfl⟩:=H
    go_wp2
    go_ret2
    exact⟨_,zq,by(with_reducible repeat(first|apply zRa|apply zRn|apply zRd));first|exact Kd.R_mono HO_6.out (fun _ hk=>trivial)|(subst_vars;exact Kd.R_mono HO_6.out (fun _ hk=>trivial)),zb⟩
   have c12b0:=zE c12
   clear c12
   replace H:=zID H
   obtain⟨c13b0,H⟩:=H
   replace H:=zID H
   obtain⟨c14b0,H⟩:=H
   replace H:=zID H
   obtain⟨c15b0,H⟩:=H
   replace H:=zID H
   obtain⟨c16b0,H⟩:=H
   replace H:=zID H
   obtain⟨c17b0,H⟩:=H
   obtain⟨y198,hy198⟩:∃y_:List Int,y_=(x6_1.set ((rd t193 x21_1):Int).toNat (rd l0 x21_1)):=⟨_,rfl⟩
   rw[←hy198] at H
   have Ny198:=zM hy198
   clear hy198
   have H':=zM H
   clear H
   have p196:0≤(x21_1:Int):=zT (by assumption)
   have q196:x21_1<(t193.length:Int):=zT (by assumption)
   obtain⟨ad196,e196,hx196_0⟩:=Kd.at_int (Kd.R_reads' HO_19.out).2.2 x21_1 p196 q196
   cases e196
   replace p196:=eq_true p196
   replace q196:=eq_true q196
   have p197:0≤(x21_1:Int):=zT (by assumption)
   have q197:x21_1<(l0.length:Int):=zT (by assumption)
   obtain⟨ad197,e197,hx197_0⟩:=Kd.at_int HR0.out x21_1 p197 q197
   cases e197
   replace hx197_0:=(HB.out.cell (zW w _ hx197_0)).trans hx197_0
   replace p197:=eq_true p197
   replace q197:=eq_true q197
   have p18:0≤((rd t193 x21_1):Int):=zT (by assumption)
   have q18:((rd t193 x21_1):Int)<((x6_1.length:Int):Int):=zT (by assumption)
   obtain⟨go18,co18,eo18,gb18,gl18,cl18,HG18⟩:=Kd.R_form HO_6.out (by omega)
   (first|cases eo18|(injection eo18 with ea_ en_ ec_;(first|subst ea_|(injection ea_ with ea_;subst ea_));subst ec_;clear en_))
   have GB18:=zM gb18
   have GG18:=zM HG18
   clear gb18 gl18 HG18
   obtain⟨hx18_0,hf18_0⟩:=Kd.R_celln 0 HO_6.out ((rd t193 x21_1):Int) p18 q18
   replace p18:=eq_true p18
   replace q18:=eq_true q18
   have HP19:=Kd.R_putg HO_6.out ((rd t193 x21_1):Int) (rd l0 x21_1)
   go_wp2_with (first|((with_reducible refine gate_store (t:=3) (p:=32) rfl ?_);refine store_event (t:=3) (p:=32) (v:= ?vo_w20) (w1:=(wr.setCell ⟨go18,((rd t193 x21_1):Int).toNat,none⟩ (.int .i64 (rd l0 x21_1)))) ?hg ?ho ?hn ?hr ?_;(case ho=>rfl);(case hg=>rfl);(case hn=>rfl);(case hr=>exact zh);intro w20 hw;have hg:wr.grownBy w20 (some go18):=(by rw[hw];exact HP19.2);have hp_:Kd.R (Kd.int .i64) 3 w20 w.heap.size (fun k_=>some k_≠(.slice (some ad196) t193.length co11:Value).ownBlock) (.slice (some ⟨go18,0,none⟩) x6_1.length co18) y198:=(by rw[hw,Ny198.out];exact HP19.1);clear HP19;refine zS3 (hp_) (Kd.R_after (v:=(.slice (some ⟨go18,0,none⟩) x6_1.length co18)) (v1:=(.slice (some ⟨go18,0,none⟩) x6_1.length co18)) (ok:=(fun _=>True)) (by(with_reducible repeat(first|apply zRa|apply zRn|apply zRd));first|exact Kd.R_mono HO_19.out (fun _ hk=>⟨trivial,hk⟩)|(subst_vars;exact Kd.R_mono HO_19.out (fun _ hk=>⟨trivial,hk⟩))) hg (.inl rfl)) ((by rw[hw];exact zBs (HB.out) GB18.out:Below w.heap.size w w20)) ?_;clear HO_6 HO_19 HB;intro HO_6 HO_19 HB;clear hg hw hp_))
   go_roundg k1
   case measure=>have:=HK1.out;omega
   case rel=>exact⟨(y198),(wrap64 (x21_1+1)),zs,H',⟨zl1 HK1⟩,⟨zr HO_6⟩,⟨by(with_reducible repeat(first|apply zRa|apply zRn|apply zRd));first|exact Kd.R_mono HO_19.out (fun _ hk=>hk.2)|(subst_vars;exact Kd.R_mono HO_19.out (fun _ hk=>hk.2))⟩,⟨zb⟩⟩
def impl_wordOk.f (l0:List Int) (a1:Int):Option (Bool):=(impl_isMend.f a1).bind fun t199=>(if t199=true then(if(l0.length:Int)>(wrap64 (2*a1)) then(some (decide ((l0.length:Int)≤255))) else(some false)) else(some false))
theorem impl_wordOk.calls (A0:Option Addr) (c0:Nat) (l0:List Int) (a1:Int) (r:Bool) (w:World) (hr0:Kd.C (Kd.int .u8) w A0 l0.length l0) (hc0:l0.length≤c0) (H:impl_wordOk.f l0 a1=some r):
 Calls Try.prog 105 #[.slice A0 l0.length c0, .int .i64 a1] w fun e w'=>e= .returned (.bool r)∧Drawn0 w w':=by
 have HR0:=zM hr0
 have HC0:=zM hc0
 clear hr0 hc0
 unfold impl_wordOk.f at H
 replace H:=zP H
 obtain⟨t199,A3,H⟩:=H
 by_cases c4:t199=true
 case neg=>
  replace c4:=Bool.eq_false_iff.mpr c4
  subst c4
  rw[if_neg zFT] at H
  obtain rfl:=zI H
  go_enter Try.func105,Try.ntmps105
  go_wp2_with (first|((with_reducible refine gate_callee (f:=83) rfl ?_);refine goesL_ (some 6) rfl rfl Try.func83 ze rfl #[.int .i64 a1] rfl zg ?_;(with_reducible refine(impl_isMend.calls a1 false _ A3.out).mono ?_);rintro e w' ⟨rfl,⟨nd,rfl⟩⟩;refine⟨_,rfl,?_⟩))
  go_ret
  exact⟨zs,zd⟩
 subst c4
 rw[if_pos rfl] at H
 replace H:=zI2 H
 rcases H with⟨c5,H⟩|⟨c5,H⟩
 case inl=>
  have c5b0:decide ((wrap64 (2*a1))<(l0.length:Int))=true:=zE c5
  clear c5
  obtain rfl:=zI H
  go_enter Try.func105,Try.ntmps105
  go_wp2_with (first|((with_reducible refine gate_callee (f:=83) rfl ?_);refine goesL_ (some 6) rfl rfl Try.func83 ze rfl #[.int .i64 a1] rfl zg ?_;(with_reducible refine(impl_isMend.calls a1 true _ A3.out).mono ?_);rintro e w' ⟨rfl,⟨nd,rfl⟩⟩;refine⟨_,rfl,?_⟩))
  go_ret
  exact⟨zs,zd⟩
 have c5b0:decide ((wrap64 (2*a1))<(l0.length:Int))=false:=decide_eq_false c5
 clear c5
 obtain rfl:=zI H
 go_enter Try.func105,Try.ntmps105
 go_wp2_with (first|((with_reducible refine gate_callee (f:=83) rfl ?_);refine goesL_ (some 6) rfl rfl Try.func83 ze rfl #[.int .i64 a1] rfl zg ?_;(with_reducible refine(impl_isMend.calls a1 true _ A3.out).mono ?_);rintro e w' ⟨rfl,⟨nd,rfl⟩⟩;refine⟨_,rfl,?_⟩))
 go_ret
 exact⟨zs,zd⟩
def impl_value.l0:Nat→Int→Int→List Int→Int→Int→Option (Int)
 |0,_,_,_,_,_=>none
 |k+1,x5,x6,x11,x12,x13=>if x13<x12 then(if 0≤x13 then(if x13<(x11.length:Int) then((impl_GfMul.f k x6 x5).bind fun t202=>(impl_value.l0 k x5 (Go.bits .xor .i64 t202 (wrap64 (rd x11 x13))) x11 x12 (wrap64 (x13+1)))) else(none)) else(none)) else(some x6)
def impl_value.f (k:Nat) (l0:List Int) (a1:Int):Option (Int):=(impl_gfPow.f k a1).bind fun t200=>(impl_value.l0 k t200 0 l0 (l0.length:Int) 0)
theorem impl_value.mono_l:∀k,(∀y0 y1 y2 y3 y4,LeO (impl_value.l0 k y0 y1 y2 y3 y4) (impl_value.l0 (k+1) y0 y1 y2 y3 y4))
 |0=>fun _ _ _ _ _ r h=>by simp[impl_value.l0] at h
 | k+1=>by
  have ih0:=impl_value.mono_l k
  ·intro y0 y1 y2 y3 y4
   unfold impl_value.l0
   repeat' first
   |(with_reducible exact ih0 _ _ _ _ _)
   |(with_reducible exact impl_GfMul.mono _ _ _)
   |(with_reducible exact impl_gfPow.mono _ _)
   |(with_reducible exact LeO.refl _)
   |(with_reducible exact LeO.none _)
   |(with_reducible refine LeO.ite ?_ ?_)
   |(with_reducible refine LeO.bind ?_ (fun _=> ?_))
theorem impl_value.mono:∀a0 a1 k,LeO (impl_value.f k a0 a1) (impl_value.f (k+1) a0 a1):=by
 intro a0 a1 k
 have ih0:=impl_value.mono_l k
 unfold impl_value.f
 repeat' first
  |(with_reducible exact ih0 _ _ _ _ _)
  |(with_reducible exact impl_GfMul.mono _ _ _)
  |(with_reducible exact impl_gfPow.mono _ _)
  |(with_reducible exact LeO.refl _)
  |(with_reducible exact LeO.none _)
  |(with_reducible refine LeO.ite ?_ ?_)
  |(with_reducible refine LeO.bind ?_ (fun _=> ?_))
theorem impl_value.calls (k:Nat) (A0:Option Addr) (c0:Nat) (l0:List Int) (a1:Int) (r:Int) (w:World) (hr0:Kd.C (Kd.int .u8) w A0 l0.length l0) (hc0:l0.length≤c0) (H:impl_value.f k l0 a1=some r):
 Calls Try.prog 106 #[.slice A0 l0.length c0, .int .i64 a1] w fun e w'=>e= .returned (.int .i64 r)∧Drawn0 w w':=by
 have HR0:=zM hr0
 have HC0:=zM hc0
 clear hr0 hc0
 unfold impl_value.f at H
 replace H:=zP H
 obtain⟨t200,A3,H⟩:=H
 have H':=zM H
 clear H
 go_enter Try.func106,Try.ntmps106
 go_wp2_with (first|((with_reducible refine gate_callee (f:=85) rfl ?_);refine goesL_ (some 10) rfl rfl Try.func85 ze rfl #[.int .i64 a1] rfl zg ?_;(with_reducible refine(impl_gfPow.calls k a1 t200 _ A3.out).mono ?_);rintro e w' ⟨rfl,⟨nd,rfl⟩⟩;refine⟨_,rfl,?_⟩))
 (try simp only[Act.put,zL1,zL2,zL3])
 go_loopg [6,13] k (fun kq v6 v13 w'=>∃(x6_1:Int) (x13_1:Int),v6= .int .i64 x6_1∧v13= .int .i64 x13_1∧Aside0 (impl_value.l0 kq t200 x6_1 l0 (l0.length:Int) x13_1=some r)∧Aside0 (kq≤k)∧Drawn0 w w')
 case atStart=>exact⟨(0),(0),zs,zs,H',⟨Nat.le_refl _⟩,zd⟩
 case round=>
  clear H'
  obtain⟨x6_1,x13_1,rfl,rfl,HA,HK1,⟨m1,rfl⟩⟩:=hrel
  cases gk with
  |zero=>exact absurd HA.out (by simp[impl_value.l0])
  | succ k1=>
   have H:=HA.out
   clear HA
   simp only[impl_value.l0] at H
   replace H:=zI2 H
   rcases H with⟨c4,H⟩|⟨c4,H⟩
   case inr=>
    have c4b0:=decide_eq_false c4
    clear c4
    obtain rfl:=zI H
    go_wp2
    go_ret
    exact⟨zs,zd⟩
   have c4b0:=zE c4
   clear c4
   replace H:=zID H
   obtain⟨c5b0,H⟩:=H
   replace H:=zID H
   obtain⟨c6b0,H⟩:=H
   replace H:=zP H
   obtain⟨t202,A7,H⟩:=H
   have H':=zM H
   clear H
   have p201:0≤(x13_1:Int):=zT (by assumption)
   have q201:x13_1<(l0.length:Int):=zT (by assumption)
   obtain⟨ad201,e201,hx201_0⟩:=Kd.at_int HR0.out x13_1 p201 q201
   cases e201
   replace p201:=eq_true p201
   replace q201:=eq_true q201
   go_wp2_with (first|((with_reducible refine gate_callee (f:=87) rfl ?_);refine goesL_ (some 19) rfl rfl Try.func87 ze rfl #[.int .i64 x6_1, .int .i64 t200] rfl zg ?_;(with_reducible refine(impl_GfMul.calls k1 x6_1 t200 t202 _ A7.out).mono ?_);rintro e w' ⟨rfl,⟨nd,rfl⟩⟩;refine⟨_,rfl,?_⟩))
   go_roundg k1
   case measure=>have:=HK1.out;omega
   case rel=>exact⟨(Go.bits .xor .i64 t202 (wrap64 (rd l0 x13_1))),(wrap64 (x13_1+1)),zs,zs,H',⟨zl1 HK1⟩,zd⟩
def impl_GfInv.l0:Nat→Int→Int→Int→Option (Int)
 |0,_,_,_=>none
 |k+1,x0,x3,x7=>if x7<254 then((impl_GfMul.f k x3 x0).bind fun t204=>(impl_GfInv.l0 k x0 t204 (wrap64 (x7+1)))) else(if x0=0 then(some 0) else(some x3))
def impl_GfInv.f (k:Nat) (a0:Int):Option (Int):=(impl_isByte.f a0).bind fun t203=>(if t203=true then(impl_GfInv.l0 k a0 1 0) else(some 0))
theorem impl_GfInv.mono_l:∀k,(∀y0 y1 y2,LeO (impl_GfInv.l0 k y0 y1 y2) (impl_GfInv.l0 (k+1) y0 y1 y2))
 |0=>fun _ _ _ r h=>by simp[impl_GfInv.l0] at h
 | k+1=>by
  have ih0:=impl_GfInv.mono_l k
  ·intro y0 y1 y2
   unfold impl_GfInv.l0
   repeat' first
   |(with_reducible exact ih0 _ _ _)
   |(with_reducible exact impl_GfMul.mono _ _ _)
   |(with_reducible exact LeO.refl _)
   |(with_reducible exact LeO.none _)
   |(with_reducible refine LeO.ite ?_ ?_)
   |(with_reducible refine LeO.bind ?_ (fun _=> ?_))
theorem impl_GfInv.mono:∀a0 k,LeO (impl_GfInv.f k a0) (impl_GfInv.f (k+1) a0):=by
 intro a0 k
 have ih0:=impl_GfInv.mono_l k
 unfold impl_GfInv.f
 repeat' first
  |(with_reducible exact ih0 _ _ _)
  |(with_reducible exact impl_GfMul.mono _ _ _)
  |(with_reducible exact LeO.refl _)
  |(with_reducible exact LeO.none _)
  |(with_reducible refine LeO.ite ?_ ?_)
  |(with_reducible refine LeO.bind ?_ (fun _=> ?_))
theorem impl_GfInv.calls (k:Nat) (a0:Int) (r:Int) (w:World) (H:impl_GfInv.f k a0=some r):
 Calls Try.prog 123 #[.int .i64 a0] w fun e w'=>e= .returned (.int .i64 r)∧Drawn0 w w':=by
 unfold impl_GfInv.f at H
 replace H:=zP H
 obtain⟨t203,A2,H⟩:=H
 by_cases c3:t203=true
 case neg=>
  replace c3:=Bool.eq_false_iff.mpr c3
  subst c3
  rw[if_neg zFT] at H
  obtain rfl:=zI H
  go_enter Try.func123,Try.ntmps123
  go_wp2_with (first|((with_reducible refine gate_callee (f:=119) rfl ?_);refine goesL_ (some 5) rfl rfl Try.func119 ze rfl #[.int .i64 a0] rfl zg ?_;(with_reducible refine(impl_isByte.calls a0 false _ A2.out).mono ?_);rintro e w' ⟨rfl,⟨nd,rfl⟩⟩;refine⟨_,rfl,?_⟩))
  go_ret
  exact⟨zs,zd⟩
 subst c3
 rw[if_pos rfl] at H
 have H':=zM H
 clear H
 go_enter Try.func123,Try.ntmps123
 go_wp2_with (first|((with_reducible refine gate_callee (f:=119) rfl ?_);refine goesL_ (some 5) rfl rfl Try.func119 ze rfl #[.int .i64 a0] rfl zg ?_;(with_reducible refine(impl_isByte.calls a0 true _ A2.out).mono ?_);rintro e w' ⟨rfl,⟨nd,rfl⟩⟩;refine⟨_,rfl,?_⟩))
 (try simp only[Act.put,zL1,zL2,zL3])
 go_loopg [3,7] k (fun kq v3 v7 w'=>∃(x3_1:Int) (x7_1:Int),v3= .int .i64 x3_1∧v7= .int .i64 x7_1∧Aside0 (impl_GfInv.l0 kq a0 x3_1 x7_1=some r)∧Aside0 (kq≤k)∧Drawn0 w w')
 case atStart=>exact⟨(1),(0),zs,zs,H',⟨Nat.le_refl _⟩,zd⟩
 case round=>
  clear H'
  obtain⟨x3_1,x7_1,rfl,rfl,HA,HK1,⟨m1,rfl⟩⟩:=hrel
  cases gk with
  |zero=>exact absurd HA.out (by simp[impl_GfInv.l0])
  | succ k1=>
   have H:=HA.out
   clear HA
   simp only[impl_GfInv.l0] at H
   replace H:=zI2 H
   rcases H with⟨c4,H⟩|⟨c4,H⟩
   case inr=>
    have c4b0:=decide_eq_false c4
    clear c4
    replace H:=zI2 H
    rcases H with⟨c6,H⟩|⟨c6,H⟩
    case inr=>
     have c6b0:(a0==0)=false:=beq_eq_false_iff_ne.mpr c6
     have c6b1:(a0 != 0)=true:=bne_iff_ne.mpr c6
     obtain rfl:=zI H
     go_wp2
     go_ret
     exact⟨zs,zd⟩
    have c6b0:(a0==0)=true:=beq_iff_eq.mpr c6
    have c6b1:(a0 != 0)=false:=bne_eq_false_iff_eq.mpr c6
    clear c6
    obtain rfl:=zI H
    go_wp2
    go_ret
    exact⟨zs,zd⟩
   have c4b0:=zE c4
   clear c4
   replace H:=zP H
   obtain⟨t204,A5,H⟩:=H
   have H':=zM H
   clear H
   go_wp2_with (first|((with_reducible refine gate_callee (f:=87) rfl ?_);refine goesL_ (some 11) rfl rfl Try.func87 ze rfl #[.int .i64 x3_1, .int .i64 a0] rfl zg ?_;(with_reducible refine(impl_GfMul.calls k1 x3_1 a0 t204 _ A5.out).mono ?_);rintro e w' ⟨rfl,⟨nd,rfl⟩⟩;refine⟨_,rfl,?_⟩))
   go_roundg k1
   case measure=>have:=HK1.out;omega
   case rel=>exact⟨(t204),(wrap64 (x7_1+1)),zs,zs,H',⟨zl1 HK1⟩,zd⟩
end Go.Proofs.Ytapobpkeefeajaa.PFnModem
