-- A turned copy of the print's text.
import Derived.Test.YtapobpkeefeajaaPFnExactHearx0
import Derived.Test.YtapobpkeefeajaaPFnExactHearx14
import Derived.Test.YtapobpkeefeajaaPFnExactHearx17
namespace Go.Proofs.Ytapobpkeefeajaa.PFnExactHear
open Go.RowKit Go.Proofs.YtapobpkeefeajaaW.PrintWords Go.Proofs.YtapobpkeefeajaaW.PrintLast Go.Proofs.YtapobpkeefeajaaW.PrintMore
attribute [local go_sem] max2_int min2_int max_two min_two max_three min_three max_four min_four
set_option maxHeartbeats 8000000
set_option maxRecDepth 100000
set_option linter.unusedVariables false
set_option linter.unusedSimpArgs false
mutual
def spec_Unweave.j0:Nat→List Int→Int→Bool→Option (List Int×Bool)
 |0,_,_,_=>none
 |k+1,x0,x1,x16=>if x16=true then(some ((([]:List Int)),false)) else(if 0≤(x0.length:Int) then(if((x0.length:Int):Int).toNat≤35184372088832 then((spec_l13Order.f k (x0.length:Int) x1).bind fun t304=>(spec_Unweave.l0 k x0 (List.replicate ((x0.length:Int):Int).toNat 0) t304 0)) else(none)) else(none))
def spec_Unweave.l0:Nat→List Int→List Int→List Int→Int→Option (List Int×Bool)
 |0,_,_,_,_=>none
 |k+1,x0,x6,x7,x8=>if x8<(x7.length:Int) then(if 0≤x8 then(if x8<(x0.length:Int) then(if 0≤(rd x7 x8) then(if(rd x7 x8)<(x6.length:Int) then(spec_Unweave.l0 k x0 (x6.set ((rd x7 x8):Int).toNat (rd x0 x8)) x7 (wrap64 (x8+1))) else(none)) else(none)) else(none)) else(none)) else(some (x6,true))
end
def spec_Unweave.f (k:Nat) (l0:List Int) (a1:Int):Option (List Int×Bool):=if(l0.length:Int)>1024 then(spec_Unweave.j0 k l0 a1 true) else((spec_l1In.f a1 1 64).bind fun t297=>(spec_Unweave.j0 k l0 a1 (!t297)))
def spec_Unweave.T8:Bool×List (List Nat×List Nat):=(true,[([],[]),([],[]),([],[]),([1,2],[1,2]),([3],[3]),([],[]),([],[]),([5,6],[5,6]),([7],[7]),([0,4,0,1,2,3,4,5,6,7,8],[0,4]),([9,8,0,1,2,3,4,5,6,7,8],[8,9])])
def spec_Unweave.B8:List Nat:=[0,0,0,6,14,0,0,96,224,511,1023]
theorem spec_Unweave.tab8:rtab .any (opsOf Try.f70 8)=spec_Unweave.T8:=by kernel_rfl
theorem spec_Unweave.bits8:waitsOk spec_Unweave.T8.2 spec_Unweave.B8=true:=by kernel_rfl
theorem spec_Unweave.calls (k:Nat) (A0:Option Addr) (c0:Nat) (l0:List Int) (a1:Int) (r1:List Int) (r2:Bool) (w:World) (hr0:Kd.C (Kd.int .i64) w A0 l0.length l0) (hc0:l0.length≤c0) (H:spec_Unweave.f k l0 a1=some (r1,r2)):
 Calls Try.prog 70 #[.slice A0 l0.length c0, .int .i64 a1] w fun e w'=>∃v0_:Value,e= .returned (.tuple #[v0_, .bool r2])∧Kd.R (Kd.int .i64) 3 w' w.heap.size (fun _=>True) v0_ r1∧Below w.heap.size w w':=by
 have HR0:=zM hr0
 have HC0:=zM hc0
 clear hr0 hc0
 have HB:=zM (Below.refl w.heap.size w)
 unfold spec_Unweave.f at H
 have HC3:=zM H
 clear H
 go_enter Try.func70,Try.ntmps70
 go_upto_region 1 with(fail)
 go_cut [16] (fun v16 wc=>∃(kq:Nat) (x16_2:Bool),v16= .bool x16_2∧Aside0 (spec_Unweave.j0 kq l0 a1 x16_2=some (r1,r2))∧Aside0 (kq≤k)∧Aside0 (Below w.heap.size w wc))
 case first=>
  have H:=HC3.out
  clear HC3
  replace H:=zI2 H
  rcases H with⟨c4,H⟩|⟨c4,H⟩
  case inl=>
   have c4b0:decide (1024<(l0.length:Int))=true:=zE c4
   have c4b1:decide (1024<l0.length)=true:=zE (by omega)
   clear c4
   (first|rw[c4b0]|(simp only[i64_w,i32_w];rw[c4b0])|skip)
   have H':=zM H
   clear H
   go_wp2
   go_meet
   case rel=>exact⟨_,(true),zs,H',⟨zo⟩,⟨zb⟩⟩
  have c4b0:decide (1024<(l0.length:Int))=false:=decide_eq_false c4
  have c4b1:decide (1024<l0.length)=false:=decide_eq_false (by omega)
  clear c4
  (first|rw[c4b0]|(simp only[i64_w,i32_w];rw[c4b0])|skip)
  replace H:=zP H
  obtain⟨t297,A5,H⟩:=H
  have H':=zM H
  clear H
  go_wp2_with (first|(go_at_call 30;(with_reducible refine(spec_l1In.calls a1 1 64 t297 _ A5.out).mono ?_);rintro e w' ⟨rfl,⟨nd,rfl⟩⟩))
  go_meet
  case rel=>exact⟨_,(!t297),zs,H',⟨zo⟩,⟨zb⟩⟩
 case rest=>
  clear HC3
  try clear p2
  try clear c4
  try clear c4b0
  try clear c4b1
  obtain⟨kq,x16_2,rfl,HA,HJ2,HB⟩:=hcut
  cases kq with
  |zero=>exact absurd HA.out (by simp[spec_Unweave.j0])
  | succ kj2=>
   have H:=HA.out
   clear HA
   simp only[spec_Unweave.j0] at H
   by_cases c6:x16_2=true
   case pos=>
    subst c6
    rw[if_pos rfl] at H
    obtain⟨y298,hy298⟩:∃y_:List Int,y_=(([]:List Int)):=⟨_,rfl⟩
    replace H:(some (y298,false))=some (r1,r2):=zy hy298 H
    have Ny298:=zM hy298
    clear hy298
    simp only[Option.some.injEq,Prod.mk.injEq] at H
    obtain⟨rfl,rfl⟩:=H
    go_wp2_with (first|((with_reducible refine gate_dst (N:=17) rfl ?_);refine Kd.R_lit (Kd.int .i64) _ 3 ?hg (N:=17) ?hd (xs:=([]:List Int)) (inner:=[]) (ok:=fun _=>True) (okp:=fun _=>True) ?hr ?hp (fun _ hk=>hk) trivial (Below.refl _ _) (Nat.le_refl _) (by simp) ?_;(case hd|hg=>rfl);(case hr=>exact zh);(case hp=>exact(Reps.none _ _));intro v299 w7 ho8 hb hg_ hnew_;clear hg_ hnew_;(first|rw[←Ny298.out] at ho8|simp only[Int.reduceToNat,←Ny298.out] at ho8);refine zS2 (Kd.R_lower ho8 (below_size zb)) (below_step zb hb) ?_;clear HB;intro HO300 HB;clear hb ho8))
    go_ret2
    exact⟨_,zq,zr HO300,zb⟩
   replace c6:=Bool.eq_false_iff.mpr c6
   subst c6
   rw[if_neg zFT] at H
   replace H:=zIN H
   obtain⟨c9,H⟩:=H
   have c9b0:=eq_true c9
   have c9b1:decide (0≤(l0.length:Int))=true:=zE c9
   clear c9
   replace H:=zIN H
   obtain⟨c10,H⟩:=H
   have c10b0:=eq_true c10
   have c10b1:decide (((l0.length:Int):Int).toNat≤35184372088832)=true:=zE c10
   clear c10
   obtain⟨y301,hy301⟩:∃y_:List Int,y_=(List.replicate ((l0.length:Int):Int).toNat 0):=⟨_,rfl⟩
   rw[←hy301] at H
   have Ny301:=zM hy301
   clear hy301
   replace H:=zP H
   obtain⟨t304,A11,H⟩:=H
   have H':=zM H
   clear H
   go_wp2_with (first|((with_reducible refine gate_dst (N:=20) rfl ?_);refine Kd.R_make (Kd.int .i64) _ 3 rfl (N:=20) rfl 46 _ _ rfl (l0.length:Int) rfl rfl Try.underlying46 (.int .i64 0) 8 info3 rfl (by decide) (by omega) 0 (ok:=fun _=>True) (okp:=fun _=>True) rfl (fun _ hk=>hk) trivial (zT (by assumption)) (Nat.le_trans (Nat.mul_le_mul_right _ (zT (by assumption):(l0.length:Int).toNat≤35184372088832)) (by omega)) (Below.refl _ _) (Nat.le_refl _) ?_;intro v302 w12 ho13 hb hg_ hnew_;clear hg_ hnew_;(first|rw[←Ny301.out] at ho13|simp only[Int.reduceToNat,←Ny301.out] at ho13);refine zS2 (Kd.R_lower ho13 (below_size zb)) (below_step zb hb) ?_;clear HB;intro HO303 HB;clear hb ho13)|((with_reducible refine gate_callee (f:=79) rfl ?_);refine goesL_ (some 24) rfl rfl Try.func79 ze rfl #[.int .i64 (l0.length:Int), .int .i64 a1] rfl zg ?_;(with_reducible refine(spec_l13Order.calls kj2 (l0.length:Int) a1 t304 _ A11.out).mono ?_);rintro e w14 ⟨v305,rfl,ho0,hb⟩;refine⟨_,rfl,?_⟩;refine zS3 (Kd.R_elder' (zr HO303) (Kd.R_base ho0) hb) (Kd.R_lower (Kd.R_new' ho0 (Kd.R_lt (zr HO303))) (below_size zb)) (below_step zb hb) ?_;clear HO303 HB;intro HO303 HO306 HB;(try clear hb);(try clear hb2);(try clear hk);(try clear hi);(try clear ho0)))
   (try simp only[Act.put,zL1,zL2,zL3])
   go_loopg [8] kj2 (fun kq v8 w'=>∃(x6_2:List Int) (x8_2:Int),v8= .int .i64 x8_2∧Aside0 (spec_Unweave.l0 kq l0 x6_2 t304 x8_2=some (r1,r2))∧Aside0 (kq≤kj2)∧Aside0 (Kd.R (Kd.int .i64) 3 w' w.heap.size (fun k_=>some k_≠(v305:Value).ownBlock) v302 x6_2)∧Aside0 (Kd.R (Kd.int .i64) 3 w' w.heap.size (fun k_=>some k_≠(v302:Value).ownBlock) v305 t304)∧Aside0 (Below w.heap.size w w'))
   case atStart=>exact⟨(y301),(0),zs,H',⟨Nat.le_refl _⟩,⟨by(with_reducible repeat(first|apply zRa|apply zRn|apply zRd));first|exact Kd.R_mono HO303.out (fun _ hk=>hk.2)|(subst_vars;exact Kd.R_mono HO303.out (fun _ hk=>hk.2))⟩,⟨by(with_reducible repeat(first|apply zRa|apply zRn|apply zRd));first|exact Kd.R_mono HO306.out (fun _ hk=>hk.2)|(subst_vars;exact Kd.R_mono HO306.out (fun _ hk=>hk.2))⟩,⟨zb⟩⟩
   case round=>
    clear H'
    try clear c1
    try clear p2
    try clear c4
    try clear c4b0
    try clear c4b1
    try clear c6
    try clear c7
    try clear c9
    try clear c9b0
    try clear c9b1
    try clear c10
    try clear c10b0
    try clear c10b1
    try clear p2
    obtain⟨x6_2,x8_2,rfl,HA,HK2,HO_6,HO_7,HB⟩:=hrel
    cases gk with
    |zero=>exact absurd HA.out (by simp[spec_Unweave.l0])
    | succ k2=>
     have H:=HA.out
     clear HA
     simp only[spec_Unweave.l0] at H
     replace H:=zI2 H
     rcases H with⟨c15,H⟩|⟨c15,H⟩
     case inr=>
      have c15b0:=decide_eq_false c15
      clear c15
      simp only[Option.some.injEq,Prod.mk.injEq] at H
      obtain⟨rfl,rfl⟩:=H
      obtain⟨Ao24,co24,eo24⟩:=Kd.R_slice HO_7.out
      subst eo24
      go_wp2
      go_ret2
      exact⟨_,zq,by(with_reducible repeat(first|apply zRa|apply zRn|apply zRd));first|exact Kd.R_mono HO_6.out (fun _ hk=>trivial)|(subst_vars;exact Kd.R_mono HO_6.out (fun _ hk=>trivial)),zb⟩
     have c15b0:=zE c15
     clear c15
     replace H:=zID H
     obtain⟨c16b0,H⟩:=H
     replace H:=zID H
     obtain⟨c17b0,H⟩:=H
     replace H:=zID H
     obtain⟨c18b0,H⟩:=H
     replace H:=zID H
     obtain⟨c19b0,H⟩:=H
     obtain⟨y309,hy309⟩:∃y_:List Int,y_=(x6_2.set ((rd t304 x8_2):Int).toNat (rd l0 x8_2)):=⟨_,rfl⟩
     rw[←hy309] at H
     have Ny309:=zM hy309
     clear hy309
     have H':=zM H
     clear H
     obtain⟨Ao21,co21,eo21⟩:=Kd.R_slice HO_7.out
     subst eo21
     try go_wp2
     refine zS3 (zRd HO_6.out) (zRd HO_7.out) (zBd HB.out) ?_
     clear HO_6 HO_7 HB
     intro HO_6 HO_7 HB
     have p307:0≤(x8_2:Int):=zT (by assumption)
     have q307:x8_2<(t304.length:Int):=zT (by assumption)
     obtain⟨ad307,e307,hx307_0⟩:=Kd.at_int (Kd.R_reads' HO_7.out).2.2 x8_2 p307 q307
     cases e307
     replace p307:=eq_true p307
     replace q307:=eq_true q307
     have p308:0≤(x8_2:Int):=zT (by assumption)
     have q308:x8_2<(l0.length:Int):=zT (by assumption)
     obtain⟨ad308,e308,hx308_0⟩:=Kd.at_int HR0.out x8_2 p308 q308
     have hw308_0:=hx308_0
     cases e308
     replace hx308_0:=(HB.out.cell (zW w _ hx308_0)).trans hx308_0
     replace p308:=eq_true p308
     replace q308:=eq_true q308
     have p20:0≤((rd t304 x8_2):Int):=zT (by assumption)
     have q20:((rd t304 x8_2):Int)<((x6_2.length:Int):Int):=zT (by assumption)
     obtain⟨go20,co20,eo20,gb20,gl20,cl20,HG20⟩:=Kd.R_form HO_6.out (by omega)
     (first|cases eo20|(injection eo20 with ea_ en_ ec_;(first|subst ea_|(injection ea_ with ea_;subst ea_));subst ec_;clear en_))
     have GB20:=zM gb20
     have GG20:=zM HG20
     clear gb20 gl20 HG20
     obtain⟨hx20_0,hf20_0⟩:=Kd.R_celln 0 HO_6.out ((rd t304 x8_2):Int) p20 q20
     replace p20:=eq_true p20
     replace q20:=eq_true q20
     have HP23:=Kd.R_putn HO_6.out ((rd t304 x8_2):Int) (rd l0 x8_2)
     rw[←Ny309.out] at HP23
     have HQ23:=zM HP23
     clear HP23
     refine start_ (n:=11) (S:=fun w'=>w'.cell? (ad307.add (x8_2).toNat)=some (.int .i64 (rd t304 x8_2))∧w'.cell? (ad308.add (x8_2).toNat)=some (.int .i64 (rd l0 x8_2))) (ds:=[10]) #[zf,zf,zf,zf,zf,zf,zf,zf,zf,zf,zf] ze rfl rfl ⟨hx307_0,((HB.out.cell (zW w _ hw308_0)).trans hw308_0)⟩ (fun hHeld=> ?_);refine with_tabW spec_Unweave.tab8 spec_Unweave.bits8 (fun HT_ HW_=> ?_)
     generalize wr.drew=w22 at HO_6 HO_7 HB GG20 HQ23 hf20_0 hx20_0 hx307_0 hx308_0 hHeld ⊢
     refine zu 0 31 ?_
     refine zu 1 32 ?_
     refine zu 2 33 ?_
     refine zu 3 34 ?_
     refine zu 5 36 ?_
     refine zu 6 37 ?_
     refine zu 7 38 ?_
     refine zt2 4 35 ?_
     refine zt2 8 39 ?_
     refine zu 9 40 ?_
     refine last_ (i:=10) (N:=none) #[zt,zt,zt,zt,zt,zt,zt,zt,zt,zt,zt] rfl rfl (one_of HT_.out ze) (by decide) (fun K hK=> ?_)
     refine skip_ (w1:= ?_) (by rfl) rfl ?_ ?_
     rotate_left
     ·go_simp
      rfl
     refine hK.out _ _ ?_
     clear hK K
     refine done_ (done_of HT_.out ze) ?_
     try go_wp2
     go_roundg k2
     case measure=>have:=HJ2.out;have:=HK2.out;omega
     case rel=>exact⟨(y309),(wrap64 (x8_2+1)),zs,H',⟨zl2 HJ2 HK2⟩,⟨zr HQ23⟩,⟨by(with_reducible repeat(first|apply zRa|apply zRn|apply zRd));exact Kd.R_mono (Kd.R_far (p:=⟨go20,((rd t304 x8_2):Int).toNat,none⟩) (Kd.R_mono HO_7.out (fun k_ hk=>(⟨hk,fun e_=>hk (by rw[e_];rfl)⟩:_∧k_≠go20))) (fun _ hk=>hk.2) (.int .i64 (rd l0 x8_2))) (fun _ hk=>hk.1)⟩,⟨by repeat(first|(with_reducible first|exact HB.out|apply zBa|apply zBn|apply zBd|refine zBs ?_ GB20.out)|exact HB.out)⟩⟩
def spec_Pack8.l0:Nat→List Int→List Int→Int→Option (List Int×Bool)
 |0,_,_,_=>none
 |k+1,x0,x4,x5=>if x5<(x0.length:Int) then(if 0≤(wrap64 (Int.tdiv x5 8)) then(if(wrap64 (Int.tdiv x5 8))<(x4.length:Int) then(if 0≤x5 then(if 0≤(IntKind.u64.wrap (wrap64 (7-(Int.tmod x5 8)))) then(spec_Pack8.l0 k x0 (x4.set ((wrap64 (Int.tdiv x5 8)):Int).toNat (Go.bits .or .u8 (rd x4 (wrap64 (Int.tdiv x5 8))) ((shl .i64 (rd x0 x5) (IntKind.u64.wrap (wrap64 (7-(Int.tmod x5 8)))))%256))) (wrap64 (x5+1))) else(none)) else(none)) else(none)) else(none)) else(some (x4,true))
def spec_Pack8.f (k:Nat) (l0:List Int):Option (List Int×Bool):=(spec_BitsOk.f k l0).bind fun t310=>(if t310=true then(if 0≤(wrap64 (Int.tdiv (wrap64 ((l0.length:Int)+7)) 8)) then(if(wrap64 (Int.tdiv (wrap64 ((l0.length:Int)+7)) 8):Int).toNat≤281474976710656 then(spec_Pack8.l0 k l0 (List.replicate (wrap64 (Int.tdiv (wrap64 ((l0.length:Int)+7)) 8):Int).toNat 0) 0) else(none)) else(none)) else(some ((([]:List Int)),false)))
def spec_Pack8.T7:Bool×List (List Nat×List Nat):=(true,[([],[]),([],[]),([1],[1]),([],[]),([],[]),([4],[4]),([3,5],[3,5]),([6],[6]),([],[]),([],[]),([8,9],[8,9]),([10],[10]),([],[]),([12],[12]),([13],[13]),([14],[14]),([11,15],[11,15]),([16],[16]),([7,17],[7,17]),([0,2,0,1,2,3,4,5,6,7,8,9,10,11,12,13,14,15,16,17,18],[0,2]),([19,18,0,1,2,3,4,5,6,7,8,9,10,11,12,13,14,15,16,17,18],[18,19])])
def spec_Pack8.B7:List Nat:=[0,0,2,0,0,16,56,120,0,0,768,1792,0,4096,12288,28672,65280,130816,262136,524287,1048575]
theorem spec_Pack8.tab7:rtab .any (opsOf Try.f71 7)=spec_Pack8.T7:=by kernel_rfl
theorem spec_Pack8.bits7:waitsOk spec_Pack8.T7.2 spec_Pack8.B7=true:=by kernel_rfl
theorem spec_Pack8.calls (k:Nat) (A0:Option Addr) (c0:Nat) (l0:List Int) (r1:List Int) (r2:Bool) (w:World) (hr0:Kd.C (Kd.int .i64) w A0 l0.length l0) (hc0:l0.length≤c0) (H:spec_Pack8.f k l0=some (r1,r2)):
 Calls Try.prog 71 #[.slice A0 l0.length c0] w fun e w'=>∃v0_:Value,e= .returned (.tuple #[v0_, .bool r2])∧Kd.R (Kd.int .u8) 5 w' w.heap.size (fun _=>True) v0_ r1∧Below w.heap.size w w':=by
 have HR0:=zM hr0
 have HC0:=zM hc0
 clear hr0 hc0
 have HB:=zM (Below.refl w.heap.size w)
 unfold spec_Pack8.f at H
 replace H:=zP H
 obtain⟨t310,A2,H⟩:=H
 by_cases c3:t310=true
 case neg=>
  replace c3:=Bool.eq_false_iff.mpr c3
  subst c3
  rw[if_neg zFT] at H
  obtain⟨y311,hy311⟩:∃y_:List Int,y_=(([]:List Int)):=⟨_,rfl⟩
  replace H:(some (y311,false))=some (r1,r2):=zy hy311 H
  have Ny311:=zM hy311
  clear hy311
  simp only[Option.some.injEq,Prod.mk.injEq] at H
  obtain⟨rfl,rfl⟩:=H
  go_enter Try.func71,Try.ntmps71
  go_wp2_with (first|((with_reducible refine gate_callee (f:=80) rfl ?_);refine goesL_ (some 7) rfl rfl Try.func80 ze rfl #[.slice A0 l0.length c0] rfl zg ?_;(with_reducible refine(spec_BitsOk.calls k _ _ l0 false _ ?side1 ?side2 A2.out).mono ?_);(case side1=>exact zc HR0.out);(case side2=>exact HC0.out);rintro e w' ⟨rfl,⟨nd,rfl⟩⟩;refine⟨_,rfl,?_⟩)|((with_reducible refine gate_dst (N:=9) rfl ?_);refine Kd.R_lit (Kd.int .u8) _ 5 ?hg (N:=9) ?hd (xs:=([]:List Int)) (inner:=[]) (ok:=fun _=>True) (okp:=fun _=>True) ?hr ?hp (fun _ hk=>hk) trivial (Below.refl _ _) (Nat.le_refl _) (by simp) ?_;(case hd|hg=>rfl);(case hr=>exact zh);(case hp=>exact(Reps.none _ _));intro v312 w21 ho22 hb hg_ hnew_;clear hg_ hnew_;(first|rw[←Ny311.out] at ho22|simp only[Int.reduceToNat,←Ny311.out] at ho22);refine zS2 (Kd.R_lower ho22 (below_size zb)) (below_step zb hb) ?_;clear HB;intro HO313 HB;clear hb ho22))
  go_ret2
  exact⟨_,zq,zr HO313,zb⟩
 subst c3
 rw[if_pos rfl] at H
 obtain⟨ji4,hji4⟩:∃j_:Int,(wrap64 (Int.tdiv (wrap64 ((l0.length:Int)+7)) 8))=j_:=⟨_,rfl⟩
 first|rw[hji4] at H|simp only[hji4] at H
 (try rw[hji4] at A2)
 have hji4w:(IntKind.i64.wrap (Int.tdiv (wrap64 ((l0.length:Int)+7)) 8))=ji4:=(i64_w _).trans hji4
 replace H:=zIN H
 obtain⟨c5,H⟩:=H
 have c5b0:=eq_true c5
 have c5b1:decide (0≤(ji4))=true:=zE c5
 clear c5
 replace H:=zIN H
 obtain⟨c6,H⟩:=H
 have c6b0:=eq_true c6
 have c6b1:decide ((ji4:Int).toNat≤281474976710656)=true:=zE c6
 clear c6
 obtain⟨y314,hy314⟩:∃y_:List Int,y_=(List.replicate (ji4:Int).toNat 0):=⟨_,rfl⟩
 rw[←hy314] at H
 have Ny314:=zM hy314
 clear hy314
 have H':=zM H
 clear H
 go_enter Try.func71,Try.ntmps71
 go_wp2_with (first|((with_reducible refine gate_callee (f:=80) rfl ?_);refine goesL_ (some 7) rfl rfl Try.func80 ze rfl #[.slice A0 l0.length c0] rfl zg ?_;(with_reducible refine(spec_BitsOk.calls k _ _ l0 true _ ?side1 ?side2 A2.out).mono ?_);(case side1=>exact zc HR0.out);(case side2=>exact HC0.out);rintro e w' ⟨rfl,⟨nd,rfl⟩⟩;refine⟨_,rfl,?_⟩)|((with_reducible refine gate_dst (N:=14) rfl ?_);refine Kd.R_make (Kd.int .u8) _ 5 rfl (N:=14) rfl 24 _ _ rfl ji4 rfl rfl Try.underlying24 (.int .u8 0) 1 info5 rfl (by decide) (by omega) 0 (ok:=fun _=>True) (okp:=fun _=>True) rfl (fun _ hk=>hk) trivial (zT (by assumption)) (Nat.le_trans (Nat.mul_le_mul_right _ (zT (by assumption):ji4.toNat≤281474976710656)) (by omega)) (Below.refl _ _) (Nat.le_refl _) ?_;intro v315 w7 ho8 hb hg_ hnew_;clear hg_ hnew_;(first|rw[←Ny314.out] at ho8|simp only[Int.reduceToNat,←Ny314.out] at ho8);refine zS2 (Kd.R_lower ho8 (below_size zb)) (below_step zb hb) ?_;clear HB;intro HO316 HB;clear hb ho8))
 (try simp only[Act.put,zL1,zL2,zL3])
 go_loopg [5] k (fun kq v5 w'=>∃(x4_1:List Int) (x5_1:Int),v5= .int .i64 x5_1∧Aside0 (spec_Pack8.l0 kq l0 x4_1 x5_1=some (r1,r2))∧Aside0 (kq≤k)∧Aside0 (Kd.R (Kd.int .u8) 5 w' w.heap.size (fun _=>True) v315 x4_1)∧Aside0 (Below w.heap.size w w'))
 case atStart=>exact⟨(y314),(0),zs,H',⟨Nat.le_refl _⟩,⟨zr HO316⟩,⟨zb⟩⟩
 case round=>
  clear H'
  try clear p2
  try clear c3
  try clear c5
  try clear c5b0
  try clear c5b1
  try clear c6
  try clear c6b0
  try clear c6b1
  try clear p6
  try clear c7
  try clear c8
  obtain⟨x4_1,x5_1,rfl,HA,HK1,HO_4,HB⟩:=hrel
  cases gk with
  |zero=>exact absurd HA.out (by simp[spec_Pack8.l0])
  | succ k1=>
   have H:=HA.out
   clear HA
   simp only[spec_Pack8.l0] at H
   replace H:=zI2 H
   rcases H with⟨c9,H⟩|⟨c9,H⟩
   case inr=>
    have c9b0:=decide_eq_false c9
    clear c9
    simp only[Option.some.injEq,Prod.mk.injEq] at H
    obtain⟨rfl,rfl⟩:=H
    go_wp2
    go_ret2
    exact⟨_,by first|rfl|(simp[errW_none,errW_some]<;>rfl)|(simp only[←hji4];first|rfl|(simp[errW_none,errW_some]<;>rfl))|(simp[*,errW_none,errW_some]<;>rfl),zr HO_4,zb⟩
   have c9b0:=zE c9
   clear c9
   obtain⟨ji10,hji10⟩:∃j_:Int,(wrap64 (Int.tdiv x5_1 8))=j_:=⟨_,rfl⟩
   first|rw[hji10] at H|simp only[hji10] at H
   have hji10w:(IntKind.i64.wrap (Int.tdiv x5_1 8))=ji10:=(i64_w _).trans hji10
   replace H:=zID H
   obtain⟨c11b0,H⟩:=H
   replace H:=zID H
   obtain⟨c12b0,H⟩:=H
   replace H:=zID H
   obtain⟨c13b0,H⟩:=H
   obtain⟨ji14,hji14⟩:∃j_:Int,(IntKind.u64.wrap (wrap64 (7-(Int.tmod x5_1 8))))=j_:=⟨_,rfl⟩
   first|rw[hji14] at H|simp only[hji14] at H
   replace H:=zIN H
   obtain⟨c15,H⟩:=H
   have c15b0:=eq_true c15
   have c15b1:decide (0≤(ji14))=true:=zE c15
   clear c15
   obtain⟨ji16,hji16⟩:∃j_:Int,(shl .i64 (rd l0 x5_1) (ji14))=j_:=⟨_,rfl⟩
   first|rw[hji16] at H|simp only[hji16] at H
   have hji16_:(IntKind.i64.wrap ((rd l0 x5_1)*2^min (ji14).toNat 64))=ji16:=hji16
   have hji16z:(ji14)≤64→(IntKind.i64.wrap ((rd l0 x5_1)*2^(ji14).toNat))=ji16:=shl_small hji16
   have hji16y:(wrap64 ((rd l0 x5_1)*2^min (ji14).toNat 64))=ji16:=(i64_w _).symm.trans hji16_
   have hji16x:(ji14)≤64→(wrap64 ((rd l0 x5_1)*2^(ji14).toNat))=ji16:=fun h_=>(i64_w _).symm.trans (hji16z h_)
   obtain⟨y319,hy319⟩:∃y_:List Int,y_=(x4_1.set ((ji10):Int).toNat (Go.bits .or .u8 (rd x4_1 (ji10)) ((ji16)%256))):=⟨_,rfl⟩
   rw[←hy319] at H
   have Ny319:=zM hy319
   clear hy319
   have H':=zM H
   clear H
   try go_wp2
   refine zS2 (zRd HO_4.out) (zBd HB.out) ?_
   clear HO_4 HB
   intro HO_4 HB
   obtain⟨Ao19,co19,eo19⟩:=Kd.R_slice HO_4.out
   (first|subst eo19|(injection eo19 with f1_ f2_ f3_;have f4_:=f1_.symm;have f5_:=f3_.symm;clear f1_ f2_ f3_;subst f4_;subst f5_))
   have p317:0≤((ji10):Int):=zT (by assumption)
   have q317:(ji10)<(x4_1.length:Int):=zT (by assumption)
   obtain⟨ad317,e317,hx317_0⟩:=Kd.at_int (Kd.R_reads' HO_4.out).2.2 (ji10) p317 q317
   cases e317
   replace p317:=eq_true p317
   replace q317:=eq_true q317
   have p318:0≤(x5_1:Int):=zT (by assumption)
   have q318:x5_1<(l0.length:Int):=zT (by assumption)
   obtain⟨ad318,e318,hx318_0⟩:=Kd.at_int HR0.out x5_1 p318 q318
   have hw318_0:=hx318_0
   cases e318
   replace hx318_0:=(HB.out.cell (zW w _ hx318_0)).trans hx318_0
   replace p318:=eq_true p318
   replace q318:=eq_true q318
   have p17:0≤((ji10):Int):=zT (by assumption)
   have q17:((ji10):Int)<((x4_1.length:Int):Int):=zT (by assumption)
   obtain⟨go17,co17,eo17,gb17,gl17,cl17,HG17⟩:=Kd.R_form HO_4.out (by omega)
   (first|cases eo17|(injection eo17 with ea_ en_ ec_;(first|subst ea_|(injection ea_ with ea_;subst ea_));subst ec_;clear en_))
   have GB17:=zM gb17
   have GG17:=zM HG17
   clear gb17 gl17 HG17
   (first|simp only[add_plain] at hx317_0|skip)
   obtain⟨hx17_0,hf17_0⟩:=Kd.R_celln 0 HO_4.out ((ji10):Int) p17 q17
   replace p17:=eq_true p17
   replace q17:=eq_true q17
   have HP20:=Kd.R_putn HO_4.out ((ji10):Int) (Go.bits .or .u8 (rd x4_1 (ji10)) ((ji16)%256))
   rw[←Ny319.out] at HP20
   have HQ20:=zM HP20
   clear HP20
   refine start_ (n:=21) (S:=fun w'=>w'.cell? ⟨go17,((ji10)).toNat,none⟩=some (.int .u8 (rd x4_1 (ji10)))∧w'.cell? (ad318.add (x5_1).toNat)=some (.int .i64 (rd l0 x5_1))) (ds:=[20]) #[zf,zf,zf,zf,zf,zf,zf,zf,zf,zf,zf,zf,zf,zf,zf,zf,zf,zf,zf,zf,zf] ze rfl rfl ⟨hx317_0,((HB.out.cell (zW w _ hw318_0)).trans hw318_0)⟩ (fun hHeld=> ?_);refine with_tabW spec_Pack8.tab7 spec_Pack8.bits7 (fun HT_ HW_=> ?_)
   generalize wr.drew=w18 at HO_4 HB GG17 HQ20 hf17_0 hx17_0 hx317_0 hx318_0 hHeld ⊢
   refine zu 0 21 ?_
   refine zu 1 22 ?_
   refine zu 2 23 ?_
   refine zu 3 24 ?_
   refine zu 4 25 ?_
   refine zu 5 26 ?_
   refine zu 6 27 ?_
   refine zu 8 29 ?_
   refine zu 9 30 ?_
   refine zu 10 31 ?_
   refine zu 12 33 ?_
   refine zu 13 34 ?_
   refine zu 14 35 ?_
   refine zu 15 36 ?_
   refine zt2 7 28 ?_
   refine zt2 11 32 ?_
   refine zu 16 37 ?_
   refine zu 17 38 ?_
   refine zu 18 39 ?_
   refine zu 19 40 ?_
   refine last_ (i:=20) (N:=none) #[zt,zt,zt,zt,zt,zt,zt,zt,zt,zt,zt,zt,zt,zt,zt,zt,zt,zt,zt,zt,zt] rfl rfl (one_of HT_.out ze) (by decide) (fun K hK=> ?_)
   refine skip_ (w1:= ?_) (by rfl) rfl ?_ ?_
   rotate_left
   ·go_simp
    rfl
   refine hK.out _ _ ?_
   clear hK K
   refine done_ (done_of HT_.out ze) ?_
   try go_wp2
   go_roundg k1
   case measure=>have:=HK1.out;omega
   case rel=>exact⟨(y319),(wrap64 (x5_1+1)),zs,H',⟨zl1 HK1⟩,⟨zr HQ20⟩,⟨by repeat(first|(with_reducible first|exact HB.out|apply zBa|apply zBn|apply zBd|refine zBs ?_ GB17.out)|exact HB.out)⟩⟩
def spec_l14Word.f (l0:List Int) (a1:Int):Option (Bool):=(spec_l14Mend.f a1).bind fun t320=>(if t320=true then((spec_l1In.f (l0.length:Int) (wrap64 ((wrap64 (2*a1))+1)) 255).bind fun t321=>(some t321)) else(some false))
theorem spec_l14Word.calls (A0:Option Addr) (c0:Nat) (l0:List Int) (a1:Int) (r:Bool) (w:World) (hr0:Kd.C (Kd.int .u8) w A0 l0.length l0) (hc0:l0.length≤c0) (H:spec_l14Word.f l0 a1=some r):
 Calls Try.prog 113 #[.slice A0 l0.length c0, .int .i64 a1] w fun e w'=>e= .returned (.bool r)∧Drawn0 w w':=by
 have HR0:=zM hr0
 have HC0:=zM hc0
 clear hr0 hc0
 unfold spec_l14Word.f at H
 replace H:=zP H
 obtain⟨t320,A3,H⟩:=H
 by_cases c4:t320=true
 case neg=>
  replace c4:=Bool.eq_false_iff.mpr c4
  subst c4
  rw[if_neg zFT] at H
  obtain rfl:=zI H
  go_enter Try.func113,Try.ntmps113
  go_wp2_with (first|((with_reducible refine gate_callee (f:=76) rfl ?_);refine goesL_ (some 6) rfl rfl Try.func76 ze rfl #[.int .i64 a1] rfl zg ?_;(with_reducible refine(spec_l14Mend.calls a1 false _ A3.out).mono ?_);rintro e w' ⟨rfl,⟨nd,rfl⟩⟩;refine⟨_,rfl,?_⟩))
  go_ret
  exact⟨zs,zd⟩
 subst c4
 rw[if_pos rfl] at H
 replace H:=zP H
 obtain⟨t321,A5,H⟩:=H
 obtain rfl:=zI H
 go_enter Try.func113,Try.ntmps113
 go_wp2_with (first|((with_reducible refine gate_callee (f:=76) rfl ?_);refine goesL_ (some 6) rfl rfl Try.func76 ze rfl #[.int .i64 a1] rfl zg ?_;(with_reducible refine(spec_l14Mend.calls a1 true _ A3.out).mono ?_);rintro e w' ⟨rfl,⟨nd,rfl⟩⟩;refine⟨_,rfl,?_⟩)|(go_at_call 30;(with_reducible refine(spec_l1In.calls (l0.length:Int) (wrap64 ((wrap64 (2*a1))+1)) 255 t321 _ A5.out).mono ?_);rintro e w' ⟨rfl,⟨nd,rfl⟩⟩))
 go_ret
 exact⟨zs,zd⟩
def spec_l14Byte.f (a0:Int):Option (Bool):=(spec_l1In.f a0 0 255).bind fun t322=>(some t322)
theorem spec_l14Byte.calls (a0:Int) (r:Bool) (w:World) (H:spec_l14Byte.f a0=some r):
 Calls Try.prog 117 #[.int .i64 a0] w fun e w'=>e= .returned (.bool r)∧Drawn0 w w':=by
 unfold spec_l14Byte.f at H
 replace H:=zP H
 obtain⟨t322,A2,H⟩:=H
 obtain rfl:=zI H
 go_enter Try.func117,Try.ntmps117
 go_wp2_with (first|((with_reducible refine gate_callee (f:=30) rfl ?_);refine goesL_ (some 4) rfl rfl Try.func30 ze rfl #[.int .i64 a0, .int .i64 0, .int .i64 255] rfl zg ?_;(with_reducible refine(spec_l1In.calls a0 0 255 t322 _ A2.out).mono ?_);rintro e w' ⟨rfl,⟨nd,rfl⟩⟩;refine⟨_,rfl,?_⟩))
 go_ret
 exact⟨zs,zd⟩
end Go.Proofs.Ytapobpkeefeajaa.PFnExactHear
