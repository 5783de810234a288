-- A turned copy of the print's text.
import Derived.Test.YtapobpkeefeajaaPFnExactHearx0
import Derived.Test.YtapobpkeefeajaaPFnExactHearx2
import Derived.Test.YtapobpkeefeajaaPFnExactHearx4
namespace Go.Proofs.Ytapobpkeefeajaa.PFnExactHear
open Go.RowKit Go.Proofs.YtapobpkeefeajaaW.PrintWords Go.Proofs.YtapobpkeefeajaaW.PrintLast Go.Proofs.YtapobpkeefeajaaW.PrintMore
attribute [local go_sem] max2_int min2_int max_two min_two max_three min_three max_four min_four
set_option maxHeartbeats 8000000
set_option maxRecDepth 100000
set_option linter.unusedVariables false
set_option linter.unusedSimpArgs false
mutual
def impl_woven.l0:Nat→Int→Int→Int→List Int→Int→Int→Option (List Int)
 |0,_,_,_,_,_,_=>none
 |k+1,x0,x1,x5,x6,x16,x17=>if x17<x16 then(impl_woven.l1 k x0 x1 x5 x6 x17 x16 x17 x1 0) else(some x6)
def impl_woven.l1:Nat→Int→Int→Int→List Int→Int→Int→Int→Int→Int→Option (List Int)
 |0,_,_,_,_,_,_,_,_,_=>none
 |k+1,x0,x1,x5,x6,x7,x16,x17,x20,x21=>if x21<x20 then(if(wrap64 ((wrap64 (x21*x5))+x7))<x0 then(if x6.length<17592186044416 then(impl_woven.l1 k x0 x1 x5 (x6++[wrap64 ((wrap64 (x21*x5))+x7)]) x7 x16 x17 x20 (wrap64 (x21+1))) else(none)) else(impl_woven.l1 k x0 x1 x5 x6 x7 x16 x17 x20 (wrap64 (x21+1)))) else(impl_woven.l0 k x0 x1 x5 x6 x16 (wrap64 (x17+1)))
end
def impl_woven.f (k:Nat) (a0:Int) (a1:Int):Option (List Int):=if a1=0 then(none) else(impl_woven.l0 k a0 a1 (wrap64 (Int.tdiv (wrap64 ((wrap64 (a0+a1))-1)) a1)) ([]:List Int) (wrap64 (Int.tdiv (wrap64 ((wrap64 (a0+a1))-1)) a1)) 0)
theorem impl_woven.calls (k:Nat) (a0:Int) (a1:Int) (r:List Int) (w:World) (H:impl_woven.f k a0 a1=some r):
 Calls Try.prog 90 #[.int .i64 a0, .int .i64 a1] w fun e w'=>∃v0_:Value,e= .returned (v0_)∧Kd.R (Kd.int .i64) 3 w' w.heap.size (fun _=>True) v0_ r∧Below w.heap.size w w':=by
 have HB:=zM (Below.refl w.heap.size w)
 unfold impl_woven.f at H
 replace H:=zI2 H
 rcases H with⟨c3,H⟩|⟨c3,H⟩
 case inl=>
  exact absurd H (by simp)
 have c3b0:(a1==0)=false:=beq_eq_false_iff_ne.mpr c3
 have c3b1:(a1 != 0)=true:=bne_iff_ne.mpr c3
 have H':=zM H
 clear H
 go_enter Try.func90,Try.ntmps90
 go_wp2
 (try simp only[Act.put,zL1,zL2,zL3])
 go_loopg [6,17] k (fun kq v6 v17 w'=>∃(x6_1:List Int) (x17_1:Int),v17= .int .i64 x17_1∧Aside0 (impl_woven.l0 kq a0 a1 (wrap64 (Int.tdiv (wrap64 ((wrap64 (a0+a1))-1)) a1)) x6_1 (wrap64 (Int.tdiv (wrap64 ((wrap64 (a0+a1))-1)) a1)) x17_1=some r)∧Aside0 (kq≤k)∧Aside0 (Kd.R (Kd.int .i64) 3 w' w.heap.size (fun _=>True) v6 x6_1)∧Aside0 (Below w.heap.size w w'))
 case atStart=>exact⟨(([]:List Int)),(0),zs,H',⟨Nat.le_refl _⟩,⟨zz⟩,⟨zb⟩⟩
 case round=>
  clear H'
  try clear p2
  try clear c3
  try clear c3b0
  try clear c3b1
  obtain⟨x6_1,x17_1,rfl,HA,HK1,HO_6,HB⟩:=hrel
  cases gk with
  |zero=>exact absurd HA.out (by simp[impl_woven.l0])
  | succ k1=>
   have H:=HA.out
   clear HA
   simp only[impl_woven.l0] at H
   replace H:=zI2 H
   rcases H with⟨c4,H⟩|⟨c4,H⟩
   case inr=>
    have c4b0:=decide_eq_false c4
    clear c4
    obtain rfl:=zI H
    go_wp2
    go_ret
    exact⟨_,zq,zr HO_6,zb⟩
   have c4b0:=zE c4
   clear c4
   have H':=zM H
   clear H
   go_wp2
   (try simp only[Act.put,zL1,zL2,zL3])
   go_loopg [6,21] k1 (fun kq v6 v21 w'=>∃(x6_2:List Int) (x21_2:Int),v21= .int .i64 x21_2∧Aside0 (impl_woven.l1 kq a0 a1 (wrap64 (Int.tdiv (wrap64 ((wrap64 (a0+a1))-1)) a1)) x6_2 x17_1 (wrap64 (Int.tdiv (wrap64 ((wrap64 (a0+a1))-1)) a1)) x17_1 a1 x21_2=some r)∧Aside0 (kq≤k1)∧Aside0 (Kd.R (Kd.int .i64) 3 w' w.heap.size (fun _=>True) v6 x6_2)∧Aside0 (Below w.heap.size w w'))
   case atStart=>exact⟨(x6_1),(0),zs,H',⟨Nat.le_refl _⟩,⟨zr HO_6⟩,⟨zb⟩⟩
   case round=>
    clear H'
    try clear p2
    try clear c3
    try clear c3b0
    try clear c3b1
    try clear c4
    try clear c4b0
    try clear p2
    obtain⟨x6_2,x21_2,rfl,HA,HK2,HO_6,HB⟩:=hrel
    cases gk with
    |zero=>exact absurd HA.out (by simp[impl_woven.l1])
    | succ k2=>
     have H:=HA.out
     clear HA
     simp only[impl_woven.l1] at H
     replace H:=zI2 H
     rcases H with⟨c5,H⟩|⟨c5,H⟩
     case inr=>
      have c5b0:=decide_eq_false c5
      clear c5
      have H':=zM H
      clear H
      go_wp2
      go_roundg k2
      case measure=>have:=HK1.out;have:=HK2.out;omega
      case rel=>exact⟨(x6_2),(wrap64 (x17_1+1)),zs,H',⟨zl2 HK1 HK2⟩,⟨zr HO_6⟩,⟨zb⟩⟩
     have c5b0:=zE c5
     clear c5
     replace H:=zI2 H
     rcases H with⟨c6,H⟩|⟨c6,H⟩
     case inr=>
      have c6b0:=decide_eq_false c6
      clear c6
      have H':=zM H
      clear H
      go_wp2
      go_roundg k2
      case measure=>have:=HK1.out;have:=HK2.out;omega
      case rel=>exact⟨(x6_2),(wrap64 (x21_2+1)),zs,H',⟨zl2 HK1 HK2⟩,⟨zr HO_6⟩,⟨zb⟩⟩
     have c6b0:=zE c6
     clear c6
     replace H:=zIM H
     obtain⟨LMc7,H⟩:=H
     obtain⟨y141,hy141⟩:∃y_:List Int,y_=(x6_2++[wrap64 ((wrap64 (x21_2*(wrap64 (Int.tdiv (wrap64 ((wrap64 (a0+a1))-1)) a1))))+x17_1)]):=⟨_,rfl⟩
     rw[←hy141] at H
     have Ny141:=zM hy141
     clear hy141
     have H':=zM H
     clear H
     go_wp2_with (first|((with_reducible refine gate_builtin (b:= .append) (xs:= #[.tmp 32, .tmp 34]) rfl ?_);at_builtin;refine Kd.R_append (Kd.int .i64) (w0:=w) w.heap.size rfl (.tmp 32) (.tmp 34) 46 3 (.int .i64 0) 8 rfl Try.underlying46 info3 rfl (by decide) (by omega) u6 x6_2 (wrap64 ((wrap64 (x21_2*(wrap64 (Int.tdiv (wrap64 ((wrap64 (a0+a1))-1)) a1))))+x17_1)) [.int .i64 (wrap64 ((wrap64 (x21_2*(wrap64 (Int.tdiv (wrap64 ((wrap64 (a0+a1))-1)) a1))))+x17_1))] (fun _=>True) (fun _=>False) rfl rfl ?aP (fun _ hk=>hk.elim) ?aF ?aO ?aB ?aS ?aL ?_;(case aP=>exact rfl);(case aB=>exact zb);(case aF=>exact(fun _ _=>trivial));(case aO=>exact(zr HO_6));(case aS=>exact(below_size zb));(case aL=>have:=LMc7.out;omega);intro v142 w8 ho hb hg hat;(first|rw[←Ny141.out] at ho|simp only[Int.reduceToNat,←Ny141.out] at ho);refine zS2 (hb) (ho) ?_;clear HB HO_6;intro HB HO143;clear ho hb hg hat))
     go_roundg k2
     case measure=>have:=HK1.out;have:=HK2.out;omega
     case rel=>exact⟨(y141),(wrap64 (x21_2+1)),zs,H',⟨zl2 HK1 HK2⟩,⟨zr HO143⟩,⟨zb⟩⟩
def impl_Unweave.l0:Nat→List Int→List Int→List Int→Int→Int→Option (List Int×Bool)
 |0,_,_,_,_,_=>none
 |k+1,x0,x6,x19,x20,x21=>if x21<x20 then(if 0≤x21 then(if x21<(x19.length:Int) then(if x21<(x0.length:Int) then(if 0≤(rd x19 x21) then(if(rd x19 x21)<(x6.length:Int) then(impl_Unweave.l0 k x0 (x6.set ((rd x19 x21):Int).toNat (rd x0 x21)) x19 x20 (wrap64 (x21+1))) else(none)) else(none)) else(none)) else(none)) else(none)) else(some (x6,true))
def impl_Unweave.f (k:Nat) (l0:List Int) (a1:Int):Option (List Int×Bool):=(impl_weaves.f l0 a1).bind fun t144=>(if t144=true then(if 0≤(l0.length:Int) then(if((l0.length:Int):Int).toNat≤35184372088832 then((impl_woven.f k (l0.length:Int) a1).bind fun t148=>(impl_Unweave.l0 k l0 (List.replicate ((l0.length:Int):Int).toNat 0) t148 (t148.length:Int) 0)) else(none)) else(none)) else(some (([]:List Int),false)))
theorem impl_Unweave.calls (k:Nat) (A0:Option Addr) (c0:Nat) (l0:List Int) (a1:Int) (r1:List Int) (r2:Bool) (w:World) (hr0:Kd.C (Kd.int .i64) w A0 l0.length l0) (hc0:l0.length≤c0) (H:impl_Unweave.f k l0 a1=some (r1,r2)):
 Calls Try.prog 60 #[.slice A0 l0.length c0, .int .i64 a1] w fun e w'=>∃v0_:Value,e= .returned (.tuple #[v0_, .bool r2])∧Kd.R (Kd.int .i64) 3 w' w.heap.size (fun _=>True) v0_ r1∧Below w.heap.size w w':=by
 have HR0:=zM hr0
 have HC0:=zM hc0
 clear hr0 hc0
 have HB:=zM (Below.refl w.heap.size w)
 unfold impl_Unweave.f at H
 replace H:=zP H
 obtain⟨t144,A3,H⟩:=H
 by_cases c4:t144=true
 case neg=>
  replace c4:=Bool.eq_false_iff.mpr c4
  subst c4
  rw[if_neg zFT] at H
  simp only[Option.some.injEq,Prod.mk.injEq] at H
  obtain⟨rfl,rfl⟩:=H
  go_enter Try.func60,Try.ntmps60
  go_wp2_with (first|((with_reducible refine gate_callee (f:=89) rfl ?_);refine goesL_ (some 11) rfl rfl Try.func89 ze rfl #[.slice A0 l0.length c0, .int .i64 a1] rfl zg ?_;(with_reducible refine(impl_weaves.calls _ _ l0 a1 false _ ?side1 ?side2 A3.out).mono ?_);(case side1=>exact zc HR0.out);(case side2=>exact HC0.out);rintro e w' ⟨rfl,⟨nd,rfl⟩⟩;refine⟨_,rfl,?_⟩))
  go_ret2
  exact⟨_,zq,zz,zb⟩
 subst c4
 rw[if_pos rfl] at H
 replace H:=zIN H
 obtain⟨c5,H⟩:=H
 have c5b0:=eq_true c5
 have c5b1:decide (0≤(l0.length:Int))=true:=zE c5
 clear c5
 replace H:=zIN H
 obtain⟨c6,H⟩:=H
 have c6b0:=eq_true c6
 have c6b1:decide (((l0.length:Int):Int).toNat≤35184372088832)=true:=zE c6
 clear c6
 obtain⟨y145,hy145⟩:∃y_:List Int,y_=(List.replicate ((l0.length:Int):Int).toNat 0):=⟨_,rfl⟩
 rw[←hy145] at H
 have Ny145:=zM hy145
 clear hy145
 replace H:=zP H
 obtain⟨t148,A7,H⟩:=H
 have H':=zM H
 clear H
 go_enter Try.func60,Try.ntmps60
 go_wp2_with (first|((with_reducible refine gate_callee (f:=89) rfl ?_);refine goesL_ (some 11) rfl rfl Try.func89 ze rfl #[.slice A0 l0.length c0, .int .i64 a1] rfl zg ?_;(with_reducible refine(impl_weaves.calls _ _ l0 a1 true _ ?side1 ?side2 A3.out).mono ?_);(case side1=>exact zc HR0.out);(case side2=>exact HC0.out);rintro e w' ⟨rfl,⟨nd,rfl⟩⟩;refine⟨_,rfl,?_⟩)|((with_reducible refine gate_dst (N:=15) rfl ?_);refine Kd.R_make (Kd.int .i64) _ 3 rfl (N:=15) rfl 46 _ _ rfl (l0.length:Int) rfl rfl Try.underlying46 (.int .i64 0) 8 info3 rfl (by decide) (by omega) 0 (ok:=fun _=>True) (okp:=fun _=>True) rfl (fun _ hk=>hk) trivial (zT (by assumption)) (Nat.le_trans (Nat.mul_le_mul_right _ (zT (by assumption):(l0.length:Int).toNat≤35184372088832)) (by omega)) (Below.refl _ _) (Nat.le_refl _) ?_;intro v146 w8 ho9 hb hg_ hnew_;clear hg_ hnew_;(first|rw[←Ny145.out] at ho9|simp only[Int.reduceToNat,←Ny145.out] at ho9);refine zS2 (Kd.R_lower ho9 (below_size zb)) (below_step zb hb) ?_;clear HB;intro HO147 HB;clear hb ho9)|((with_reducible refine gate_callee (f:=90) rfl ?_);refine goesL_ (some 19) rfl rfl Try.func90 ze rfl #[.int .i64 (l0.length:Int), .int .i64 a1] rfl zg ?_;(with_reducible refine(impl_woven.calls k (l0.length:Int) a1 t148 _ A7.out).mono ?_);rintro e w10 ⟨v149,rfl,ho0,hb⟩;refine⟨_,rfl,?_⟩;refine zS3 (Kd.R_elder' (zr HO147) (Kd.R_base ho0) hb) (Kd.R_lower (Kd.R_new' ho0 (Kd.R_lt (zr HO147))) (below_size zb)) (below_step zb hb) ?_;clear HO147 HB;intro HO147 HO150 HB;(try clear hb);(try clear hb2);(try clear hk);(try clear hi);(try clear ho0);obtain⟨Ao11,co11,eo11⟩:=Kd.R_slice HO150.out;subst eo11))
 (try simp only[Act.put,zL1,zL2,zL3])
 go_loopg [21] k (fun kq v21 w'=>∃(x6_1:List Int) (x21_1:Int),v21= .int .i64 x21_1∧Aside0 (impl_Unweave.l0 kq l0 x6_1 t148 (t148.length:Int) x21_1=some (r1,r2))∧Aside0 (kq≤k)∧Aside0 (Kd.R (Kd.int .i64) 3 w' w.heap.size (fun k_=>some k_≠((.slice Ao11 t148.length co11):Value).ownBlock) v146 x6_1)∧Aside0 (Kd.R (Kd.int .i64) 3 w' w.heap.size (fun k_=>some k_≠(v146:Value).ownBlock) (.slice Ao11 t148.length co11) t148)∧Aside0 (Below w.heap.size w w'))
 case atStart=>exact⟨(y145),(0),zs,H',⟨Nat.le_refl _⟩,⟨by(with_reducible repeat(first|apply zRa|apply zRn|apply zRd));first|exact Kd.R_mono HO147.out (fun _ hk=>hk.2)|(subst_vars;exact Kd.R_mono HO147.out (fun _ hk=>hk.2))⟩,⟨by(with_reducible repeat(first|apply zRa|apply zRn|apply zRd));first|exact Kd.R_mono HO150.out (fun _ hk=>hk.2)|(subst_vars;exact Kd.R_mono HO150.out (fun _ hk=>hk.2))⟩,⟨zb⟩⟩
 case round=>
  clear H'
  try clear p2
  try clear c4
  try clear c5
  try clear c5b0
  try clear c5b1
  try clear c6
  try clear c6b0
  try clear c6b1
  try clear c8
  try clear c9
  obtain⟨x6_1,x21_1,rfl,HA,HK1,HO_6,HO_19,HB⟩:=hrel
  cases gk with
  |zero=>exact absurd HA.out (by simp[impl_Unweave.l0])
  | succ k1=>
   have H:=HA.out
   clear HA
   simp only[impl_Unweave.l0] at H
   replace H:=zI2 H
   rcases H with⟨c12,H⟩|⟨c12,H⟩
   case inr=>
    have c12b0:=decide_eq_false c12
    clear c12
    simp only[Option.some.injEq,Prod.mk.injEq] at H
    obtain⟨rfl,rfl⟩:=H
    go_wp2
    go_ret2
    exact⟨_,zq,by(with_reducible repeat(first|apply zRa|apply zRn|apply zRd));first|exact Kd.R_mono HO_6.out (fun _ hk=>trivial)|(subst_vars;exact Kd.R_mono HO_6.out (fun _ hk=>trivial)),zb⟩
   have c12b0:=zE c12
   clear c12
   replace H:=zID H
   obtain⟨c13b0,H⟩:=H
   replace H:=zID H
   obtain⟨c14b0,H⟩:=H
   replace H:=zID H
   obtain⟨c15b0,H⟩:=H
   replace H:=zID H
   obtain⟨c16b0,H⟩:=H
   replace H:=zID H
   obtain⟨c17b0,H⟩:=H
   obtain⟨y153,hy153⟩:∃y_:List Int,y_=(x6_1.set ((rd t148 x21_1):Int).toNat (rd l0 x21_1)):=⟨_,rfl⟩
   rw[←hy153] at H
   have Ny153:=zM hy153
   clear hy153
   have H':=zM H
   clear H
   have p151:0≤(x21_1:Int):=zT (by assumption)
   have q151:x21_1<(t148.length:Int):=zT (by assumption)
   obtain⟨ad151,e151,hx151_0⟩:=Kd.at_int (Kd.R_reads' HO_19.out).2.2 x21_1 p151 q151
   cases e151
   replace p151:=eq_true p151
   replace q151:=eq_true q151
   have p152:0≤(x21_1:Int):=zT (by assumption)
   have q152:x21_1<(l0.length:Int):=zT (by assumption)
   obtain⟨ad152,e152,hx152_0⟩:=Kd.at_int HR0.out x21_1 p152 q152
   cases e152
   replace hx152_0:=(HB.out.cell (zW w _ hx152_0)).trans hx152_0
   replace p152:=eq_true p152
   replace q152:=eq_true q152
   have p18:0≤((rd t148 x21_1):Int):=zT (by assumption)
   have q18:((rd t148 x21_1):Int)<((x6_1.length:Int):Int):=zT (by assumption)
   obtain⟨go18,co18,eo18,gb18,gl18,cl18,HG18⟩:=Kd.R_form HO_6.out (by omega)
   (first|cases eo18|(injection eo18 with ea_ en_ ec_;(first|subst ea_|(injection ea_ with ea_;subst ea_));subst ec_;clear en_))
   have GB18:=zM gb18
   have GG18:=zM HG18
   clear gb18 gl18 HG18
   obtain⟨hx18_0,hf18_0⟩:=Kd.R_celln 0 HO_6.out ((rd t148 x21_1):Int) p18 q18
   replace p18:=eq_true p18
   replace q18:=eq_true q18
   have HP19:=Kd.R_putg HO_6.out ((rd t148 x21_1):Int) (rd l0 x21_1)
   go_wp2_with (first|((with_reducible refine gate_store (t:=3) (p:=32) rfl ?_);refine store_event (t:=3) (p:=32) (v:= ?vo_w20) (w1:=(wr.setCell ⟨go18,((rd t148 x21_1):Int).toNat,none⟩ (.int .i64 (rd l0 x21_1)))) ?hg ?ho ?hn ?hr ?_;(case ho=>rfl);(case hg=>rfl);(case hn=>rfl);(case hr=>exact zh);intro w20 hw;have hg:wr.grownBy w20 (some go18):=(by rw[hw];exact HP19.2);have hp_:Kd.R (Kd.int .i64) 3 w20 w.heap.size (fun k_=>some k_≠(.slice (some ad151) t148.length co11:Value).ownBlock) (.slice (some ⟨go18,0,none⟩) x6_1.length co18) y153:=(by rw[hw,Ny153.out];exact HP19.1);clear HP19;refine zS3 (hp_) (Kd.R_after (v:=(.slice (some ⟨go18,0,none⟩) x6_1.length co18)) (v1:=(.slice (some ⟨go18,0,none⟩) x6_1.length co18)) (ok:=(fun _=>True)) (by(with_reducible repeat(first|apply zRa|apply zRn|apply zRd));first|exact Kd.R_mono HO_19.out (fun _ hk=>⟨trivial,hk⟩)|(subst_vars;exact Kd.R_mono HO_19.out (fun _ hk=>⟨trivial,hk⟩))) hg (.inl rfl)) ((by rw[hw];exact zBs (HB.out) GB18.out:Below w.heap.size w w20)) ?_;clear HO_6 HO_19 HB;intro HO_6 HO_19 HB;clear hg hw hp_))
   go_roundg k1
   case measure=>have:=HK1.out;omega
   case rel=>exact⟨(y153),(wrap64 (x21_1+1)),zs,H',⟨zl1 HK1⟩,⟨zr HO_6⟩,⟨by(with_reducible repeat(first|apply zRa|apply zRn|apply zRd));first|exact Kd.R_mono HO_19.out (fun _ hk=>hk.2)|(subst_vars;exact Kd.R_mono HO_19.out (fun _ hk=>hk.2))⟩,⟨zb⟩⟩
def impl_isByte.f (a0:Int):Option (Bool):=if a0≥0 then(some (decide (a0≤255))) else(some false)
theorem impl_isByte.calls (a0:Int) (r:Bool) (w:World) (H:impl_isByte.f a0=some r):
 Calls Try.prog 119 #[.int .i64 a0] w fun e w'=>e= .returned (.bool r)∧Drawn0 w w':=by
 unfold impl_isByte.f at H
 replace H:=zI2 H
 rcases H with⟨c2,H⟩|⟨c2,H⟩
 case inl=>
  have c2b0:decide (0≤a0)=true:=zE c2
  clear c2
  obtain rfl:=zI H
  go_enter Try.func119,Try.ntmps119
  go_wp2
  go_ret
  exact⟨zs,zd⟩
 have c2b0:decide (0≤a0)=false:=decide_eq_false c2
 clear c2
 obtain rfl:=zI H
 go_enter Try.func119,Try.ntmps119
 go_wp2
 go_ret
 exact⟨zs,zd⟩
mutual
def impl_GfMul.j0:Nat→Int→Int→Bool→Option (Int)
 |0,_,_,_=>none
 |k+1,x0,x1,x13=>if x13=true then(some 0) else(impl_GfMul.l0 k x0 x1 0)
def impl_GfMul.l0:Nat→Int→Int→Int→Option (Int)
 |0,_,_,_=>none
 |k+1,x0,x1,x5=>if x1>0 then(if(Go.bits .and .i64 x1 1)=1 then(if(wrap64 (x0*2))>255 then(impl_GfMul.l0 k (Go.bits .xor .i64 (wrap64 (x0*2)) 285) (x1 / 2) (Go.bits .xor .i64 x5 x0)) else(impl_GfMul.l0 k (wrap64 (x0*2)) (x1 / 2) (Go.bits .xor .i64 x5 x0))) else(if(wrap64 (x0*2))>255 then(impl_GfMul.l0 k (Go.bits .xor .i64 (wrap64 (x0*2)) 285) (x1 / 2) x5) else(impl_GfMul.l0 k (wrap64 (x0*2)) (x1 / 2) x5))) else(some x5)
end
def impl_GfMul.f (k:Nat) (a0:Int) (a1:Int):Option (Int):=(impl_isByte.f a0).bind fun t154=>(if t154=true then((impl_isByte.f a1).bind fun t155=>(impl_GfMul.j0 k a0 a1 (!t155))) else(impl_GfMul.j0 k a0 a1 true))
theorem impl_GfMul.mono_l:∀k,(∀y0 y1 y2,LeO (impl_GfMul.j0 k y0 y1 y2) (impl_GfMul.j0 (k+1) y0 y1 y2))∧(∀y0 y1 y2,LeO (impl_GfMul.l0 k y0 y1 y2) (impl_GfMul.l0 (k+1) y0 y1 y2))
 |0=>⟨fun _ _ _ r h=>by simp[impl_GfMul.j0] at h,fun _ _ _ r h=>by simp[impl_GfMul.l0] at h⟩
 | k+1=>by
  obtain⟨ih0,ih1⟩:=impl_GfMul.mono_l k
  refine⟨?_,?_⟩
  ·intro y0 y1 y2
   unfold impl_GfMul.j0
   repeat' first
   |(with_reducible exact ih0 _ _ _)
   |(with_reducible exact ih1 _ _ _)
   |(with_reducible exact LeO.refl _)
   |(with_reducible exact LeO.none _)
   |(with_reducible refine LeO.ite ?_ ?_)
   |(with_reducible refine LeO.bind ?_ (fun _=> ?_))
  ·intro y0 y1 y2
   unfold impl_GfMul.l0
   repeat' first
   |(with_reducible exact ih0 _ _ _)
   |(with_reducible exact ih1 _ _ _)
   |(with_reducible exact LeO.refl _)
   |(with_reducible exact LeO.none _)
   |(with_reducible refine LeO.ite ?_ ?_)
   |(with_reducible refine LeO.bind ?_ (fun _=> ?_))
theorem impl_GfMul.mono:∀a0 a1 k,LeO (impl_GfMul.f k a0 a1) (impl_GfMul.f (k+1) a0 a1):=by
 intro a0 a1 k
 obtain⟨ih0,ih1⟩:=impl_GfMul.mono_l k
 unfold impl_GfMul.f
 repeat' first
  |(with_reducible exact ih0 _ _ _)
  |(with_reducible exact ih1 _ _ _)
  |(with_reducible exact LeO.refl _)
  |(with_reducible exact LeO.none _)
  |(with_reducible refine LeO.ite ?_ ?_)
  |(with_reducible refine LeO.bind ?_ (fun _=> ?_))
theorem impl_GfMul.calls (k:Nat) (a0:Int) (a1:Int) (r:Int) (w:World) (H:impl_GfMul.f k a0 a1=some r):
 Calls Try.prog 87 #[.int .i64 a0, .int .i64 a1] w fun e w'=>e= .returned (.int .i64 r)∧Drawn0 w w':=by
 unfold impl_GfMul.f at H
 have HC3:=zM H
 clear H
 go_enter Try.func87,Try.ntmps87
 go_upto_region 1 with(fail)
 go_cut [13] (fun v13 wc=>∃(kq:Nat) (x13_2:Bool),v13= .bool x13_2∧Aside0 (impl_GfMul.j0 kq a0 a1 x13_2=some r)∧Aside0 (kq≤k)∧Drawn0 w wc)
 case first=>
  have H:=HC3.out
  clear HC3
  replace H:=zP H
  obtain⟨t154,A4,H⟩:=H
  by_cases c5:t154=true
  case neg=>
   replace c5:=Bool.eq_false_iff.mpr c5
   subst c5
   rw[if_neg zFT] at H
   have H':=zM H
   clear H
   go_wp2_with (first|((with_reducible refine gate_callee (f:=119) rfl ?_);refine goesL_ (some 7) rfl rfl Try.func119 ze rfl #[.int .i64 a0] rfl zg ?_;(with_reducible refine(impl_isByte.calls a0 false _ A4.out).mono ?_);rintro e w' ⟨rfl,⟨nd,rfl⟩⟩;refine⟨_,rfl,?_⟩))
   go_meet
   case rel=>exact⟨_,(true),zs,H',⟨zo⟩,zd⟩
  subst c5
  rw[if_pos rfl] at H
  replace H:=zP H
  obtain⟨t155,A6,H⟩:=H
  have H':=zM H
  clear H
  go_wp2_with (first|((with_reducible refine gate_callee (f:=119) rfl ?_);refine goesL_ (some 7) rfl rfl Try.func119 ze rfl #[.int .i64 a0] rfl zg ?_;(with_reducible refine(impl_isByte.calls a0 true _ A4.out).mono ?_);rintro e w' ⟨rfl,⟨nd,rfl⟩⟩;refine⟨_,rfl,?_⟩)|(go_at_call 119;(with_reducible refine(impl_isByte.calls a1 t155 _ A6.out).mono ?_);rintro e w' ⟨rfl,⟨nd,rfl⟩⟩))
  go_meet
  case rel=>exact⟨_,(!t155),zs,H',⟨zo⟩,zd⟩
 case rest=>
  clear HC3
  try clear c1
  try clear p2
  try clear c5
  obtain⟨kq,x13_2,rfl,HA,HJ2,⟨mc2,rfl⟩⟩:=hcut
  cases kq with
  |zero=>exact absurd HA.out (by simp[impl_GfMul.j0])
  | succ kj2=>
   have H:=HA.out
   clear HA
   simp only[impl_GfMul.j0] at H
   by_cases c7:x13_2=true
   case pos=>
    subst c7
    rw[if_pos rfl] at H
    obtain rfl:=zI H
    go_wp2
    go_ret
    exact⟨zs,zd⟩
   replace c7:=Bool.eq_false_iff.mpr c7
   subst c7
   rw[if_neg zFT] at H
   have H':=zM H
   clear H
   go_wp2
   (try simp only[Act.put,zL1,zL2,zL3])
   go_loopg [0,1,5] kj2 (fun kq v0 v1 v5 w'=>∃(x0_2:Int) (x1_2:Int) (x5_2:Int),v0= .int .i64 x0_2∧v1= .int .i64 x1_2∧v5= .int .i64 x5_2∧Aside0 (impl_GfMul.l0 kq x0_2 x1_2 x5_2=some r)∧Aside0 (kq≤kj2)∧Drawn0 w w')
   case atStart=>exact⟨(a0),(a1),(0),zs,zs,zs,H',⟨Nat.le_refl _⟩,zd⟩
   case round=>
    clear H'
    try clear c1
    try clear c2
    try clear p2
    try clear c5
    try clear c7
    try clear p2
    obtain⟨x0_2,x1_2,x5_2,rfl,rfl,rfl,HA,HK2,⟨m2,rfl⟩⟩:=hrel
    cases gk with
    |zero=>exact absurd HA.out (by simp[impl_GfMul.l0])
    | succ k2=>
     have H:=HA.out
     clear HA
     simp only[impl_GfMul.l0] at H
     replace H:=zI2 H
     rcases H with⟨c8,H⟩|⟨c8,H⟩
     case inr=>
      have c8b0:decide (0<x1_2)=false:=decide_eq_false c8
      clear c8
      obtain rfl:=zI H
      go_wp2
      go_ret
      exact⟨zs,zd⟩
     have c8b0:decide (0<x1_2)=true:=zE c8
     clear c8
     replace H:=zI2 H
     rcases H with⟨c9,H⟩|⟨c9,H⟩
     case inr=>
      have c9b0:((Go.bits .and .i64 x1_2 1)==1)=false:=beq_eq_false_iff_ne.mpr c9
      have c9b1:((Go.bits .and .i64 x1_2 1) != 1)=true:=bne_iff_ne.mpr c9
      replace H:=zI2 H
      rcases H with⟨c11,H⟩|⟨c11,H⟩
      case inr=>
       have c11b0:decide (255<(wrap64 (x0_2*2)))=false:=decide_eq_false c11
       clear c11
       have H':=zM H
       clear H
       go_wp2
       go_roundg k2
       case measure=>have:=HJ2.out;have:=HK2.out;omega
       case rel=>exact⟨(wrap64 (x0_2*2)),(x1_2 / 2),(x5_2),zs,zs,zs,H',⟨zl2 HJ2 HK2⟩,zd⟩
      have c11b0:decide (255<(wrap64 (x0_2*2)))=true:=zE c11
      clear c11
      have H':=zM H
      clear H
      go_wp2
      go_roundg k2
      case measure=>have:=HJ2.out;have:=HK2.out;omega
      case rel=>exact⟨(Go.bits .xor .i64 (wrap64 (x0_2*2)) 285),(x1_2 / 2),(x5_2),zs,zs,zs,H',⟨zl2 HJ2 HK2⟩,zd⟩
     have c9b0:((Go.bits .and .i64 x1_2 1)==1)=true:=beq_iff_eq.mpr c9
     have c9b1:((Go.bits .and .i64 x1_2 1) != 1)=false:=bne_eq_false_iff_eq.mpr c9
     clear c9
     replace H:=zI2 H
     rcases H with⟨c10,H⟩|⟨c10,H⟩
     case inr=>
      have c10b0:decide (255<(wrap64 (x0_2*2)))=false:=decide_eq_false c10
      clear c10
      have H':=zM H
      clear H
      go_wp2
      go_roundg k2
      case measure=>have:=HJ2.out;have:=HK2.out;omega
      case rel=>exact⟨(wrap64 (x0_2*2)),(x1_2 / 2),(Go.bits .xor .i64 x5_2 x0_2),zs,zs,zs,H',⟨zl2 HJ2 HK2⟩,zd⟩
     have c10b0:decide (255<(wrap64 (x0_2*2)))=true:=zE c10
     clear c10
     have H':=zM H
     clear H
     go_wp2
     go_roundg k2
     case measure=>have:=HJ2.out;have:=HK2.out;omega
     case rel=>exact⟨(Go.bits .xor .i64 (wrap64 (x0_2*2)) 285),(x1_2 / 2),(Go.bits .xor .i64 x5_2 x0_2),zs,zs,zs,H',⟨zl2 HJ2 HK2⟩,zd⟩
def impl_gfPow.l0:Nat→Int→Int→Int→Option (Int)
 |0,_,_,_=>none
 |k+1,x3,x5,x6=>if x6<x5 then((impl_GfMul.f k x3 2).bind fun t156=>(impl_gfPow.l0 k t156 x5 (wrap64 (x6+1)))) else(some x3)
def impl_gfPow.f (k:Nat) (a0:Int):Option (Int):=impl_gfPow.l0 k 1 (Int.tmod a0 255) 0
theorem impl_gfPow.mono_l:∀k,(∀y0 y1 y2,LeO (impl_gfPow.l0 k y0 y1 y2) (impl_gfPow.l0 (k+1) y0 y1 y2))
 |0=>fun _ _ _ r h=>by simp[impl_gfPow.l0] at h
 | k+1=>by
  have ih0:=impl_gfPow.mono_l k
  ·intro y0 y1 y2
   unfold impl_gfPow.l0
   repeat' first
   |(with_reducible exact ih0 _ _ _)
   |(with_reducible exact impl_GfMul.mono _ _ _)
   |(with_reducible exact LeO.refl _)
   |(with_reducible exact LeO.none _)
   |(with_reducible refine LeO.ite ?_ ?_)
   |(with_reducible refine LeO.bind ?_ (fun _=> ?_))
theorem impl_gfPow.mono:∀a0 k,LeO (impl_gfPow.f k a0) (impl_gfPow.f (k+1) a0):=by
 intro a0 k
 have ih0:=impl_gfPow.mono_l k
 unfold impl_gfPow.f
 repeat' first
  |(with_reducible exact ih0 _ _ _)
  |(with_reducible exact impl_GfMul.mono _ _ _)
  |(with_reducible exact LeO.refl _)
  |(with_reducible exact LeO.none _)
  |(with_reducible refine LeO.ite ?_ ?_)
  |(with_reducible refine LeO.bind ?_ (fun _=> ?_))
theorem impl_gfPow.calls (k:Nat) (a0:Int) (r:Int) (w:World) (H:impl_gfPow.f k a0=some r):
 Calls Try.prog 85 #[.int .i64 a0] w fun e w'=>e= .returned (.int .i64 r)∧Drawn0 w w':=by
 unfold impl_gfPow.f at H
 have H':=zM H
 clear H
 go_enter Try.func85,Try.ntmps85
 go_wp2
 (try simp only[Act.put,zL1,zL2,zL3])
 go_loopg [3,6] k (fun kq v3 v6 w'=>∃(x3_1:Int) (x6_1:Int),v3= .int .i64 x3_1∧v6= .int .i64 x6_1∧Aside0 (impl_gfPow.l0 kq x3_1 (Int.tmod a0 255) x6_1=some r)∧Aside0 (kq≤k)∧Drawn0 w w')
 case atStart=>exact⟨(1),(0),zs,zs,H',⟨Nat.le_refl _⟩,zd⟩
 case round=>
  clear H'
  obtain⟨x3_1,x6_1,rfl,rfl,HA,HK1,⟨m1,rfl⟩⟩:=hrel
  cases gk with
  |zero=>exact absurd HA.out (by simp[impl_gfPow.l0])
  | succ k1=>
   have H:=HA.out
   clear HA
   simp only[impl_gfPow.l0] at H
   replace H:=zI2 H
   rcases H with⟨c2,H⟩|⟨c2,H⟩
   case inr=>
    have c2b0:=decide_eq_false c2
    clear c2
    obtain rfl:=zI H
    go_wp2
    go_ret
    exact⟨zs,zd⟩
   have c2b0:=zE c2
   clear c2
   replace H:=zP H
   obtain⟨t156,A3,H⟩:=H
   have H':=zM H
   clear H
   go_wp2_with (first|((with_reducible refine gate_callee (f:=87) rfl ?_);refine goesL_ (some 9) rfl rfl Try.func87 ze rfl #[.int .i64 x3_1, .int .i64 2] rfl zg ?_;(with_reducible refine(impl_GfMul.calls k1 x3_1 2 t156 _ A3.out).mono ?_);rintro e w' ⟨rfl,⟨nd,rfl⟩⟩;refine⟨_,rfl,?_⟩))
   go_roundg k1
   case measure=>have:=HK1.out;omega
   case rel=>exact⟨(t156),(wrap64 (x6_1+1)),zs,zs,H',⟨zl1 HK1⟩,zd⟩
def impl_wordOk.f (l0:List Int) (a1:Int):Option (Bool):=(impl_isMend.f a1).bind fun t157=>(if t157=true then(if(l0.length:Int)>(wrap64 (2*a1)) then(some (decide ((l0.length:Int)≤255))) else(some false)) else(some false))
theorem impl_wordOk.calls (A0:Option Addr) (c0:Nat) (l0:List Int) (a1:Int) (r:Bool) (w:World) (hr0:Kd.C (Kd.int .u8) w A0 l0.length l0) (hc0:l0.length≤c0) (H:impl_wordOk.f l0 a1=some r):
 Calls Try.prog 105 #[.slice A0 l0.length c0, .int .i64 a1] w fun e w'=>e= .returned (.bool r)∧Drawn0 w w':=by
 have HR0:=zM hr0
 have HC0:=zM hc0
 clear hr0 hc0
 unfold impl_wordOk.f at H
 replace H:=zP H
 obtain⟨t157,A3,H⟩:=H
 by_cases c4:t157=true
 case neg=>
  replace c4:=Bool.eq_false_iff.mpr c4
  subst c4
  rw[if_neg zFT] at H
  obtain rfl:=zI H
  go_enter Try.func105,Try.ntmps105
  go_wp2_with (first|((with_reducible refine gate_callee (f:=83) rfl ?_);refine goesL_ (some 6) rfl rfl Try.func83 ze rfl #[.int .i64 a1] rfl zg ?_;(with_reducible refine(impl_isMend.calls a1 false _ A3.out).mono ?_);rintro e w' ⟨rfl,⟨nd,rfl⟩⟩;refine⟨_,rfl,?_⟩))
  go_ret
  exact⟨zs,zd⟩
 subst c4
 rw[if_pos rfl] at H
 replace H:=zI2 H
 rcases H with⟨c5,H⟩|⟨c5,H⟩
 case inl=>
  have c5b0:decide ((wrap64 (2*a1))<(l0.length:Int))=true:=zE c5
  clear c5
  obtain rfl:=zI H
  go_enter Try.func105,Try.ntmps105
  go_wp2_with (first|((with_reducible refine gate_callee (f:=83) rfl ?_);refine goesL_ (some 6) rfl rfl Try.func83 ze rfl #[.int .i64 a1] rfl zg ?_;(with_reducible refine(impl_isMend.calls a1 true _ A3.out).mono ?_);rintro e w' ⟨rfl,⟨nd,rfl⟩⟩;refine⟨_,rfl,?_⟩))
  go_ret
  exact⟨zs,zd⟩
 have c5b0:decide ((wrap64 (2*a1))<(l0.length:Int))=false:=decide_eq_false c5
 clear c5
 obtain rfl:=zI H
 go_enter Try.func105,Try.ntmps105
 go_wp2_with (first|((with_reducible refine gate_callee (f:=83) rfl ?_);refine goesL_ (some 6) rfl rfl Try.func83 ze rfl #[.int .i64 a1] rfl zg ?_;(with_reducible refine(impl_isMend.calls a1 true _ A3.out).mono ?_);rintro e w' ⟨rfl,⟨nd,rfl⟩⟩;refine⟨_,rfl,?_⟩))
 go_ret
 exact⟨zs,zd⟩
def impl_value.l0:Nat→Int→Int→List Int→Int→Int→Option (Int)
 |0,_,_,_,_,_=>none
 |k+1,x5,x6,x11,x12,x13=>if x13<x12 then(if 0≤x13 then(if x13<(x11.length:Int) then((impl_GfMul.f k x6 x5).bind fun t160=>(impl_value.l0 k x5 (Go.bits .xor .i64 t160 (wrap64 (rd x11 x13))) x11 x12 (wrap64 (x13+1)))) else(none)) else(none)) else(some x6)
def impl_value.f (k:Nat) (l0:List Int) (a1:Int):Option (Int):=(impl_gfPow.f k a1).bind fun t158=>(impl_value.l0 k t158 0 l0 (l0.length:Int) 0)
theorem impl_value.mono_l:∀k,(∀y0 y1 y2 y3 y4,LeO (impl_value.l0 k y0 y1 y2 y3 y4) (impl_value.l0 (k+1) y0 y1 y2 y3 y4))
 |0=>fun _ _ _ _ _ r h=>by simp[impl_value.l0] at h
 | k+1=>by
  have ih0:=impl_value.mono_l k
  ·intro y0 y1 y2 y3 y4
   unfold impl_value.l0
   repeat' first
   |(with_reducible exact ih0 _ _ _ _ _)
   |(with_reducible exact impl_GfMul.mono _ _ _)
   |(with_reducible exact impl_gfPow.mono _ _)
   |(with_reducible exact LeO.refl _)
   |(with_reducible exact LeO.none _)
   |(with_reducible refine LeO.ite ?_ ?_)
   |(with_reducible refine LeO.bind ?_ (fun _=> ?_))
theorem impl_value.mono:∀a0 a1 k,LeO (impl_value.f k a0 a1) (impl_value.f (k+1) a0 a1):=by
 intro a0 a1 k
 have ih0:=impl_value.mono_l k
 unfold impl_value.f
 repeat' first
  |(with_reducible exact ih0 _ _ _ _ _)
  |(with_reducible exact impl_GfMul.mono _ _ _)
  |(with_reducible exact impl_gfPow.mono _ _)
  |(with_reducible exact LeO.refl _)
  |(with_reducible exact LeO.none _)
  |(with_reducible refine LeO.ite ?_ ?_)
  |(with_reducible refine LeO.bind ?_ (fun _=> ?_))
theorem impl_value.calls (k:Nat) (A0:Option Addr) (c0:Nat) (l0:List Int) (a1:Int) (r:Int) (w:World) (hr0:Kd.C (Kd.int .u8) w A0 l0.length l0) (hc0:l0.length≤c0) (H:impl_value.f k l0 a1=some r):
 Calls Try.prog 106 #[.slice A0 l0.length c0, .int .i64 a1] w fun e w'=>e= .returned (.int .i64 r)∧Drawn0 w w':=by
 have HR0:=zM hr0
 have HC0:=zM hc0
 clear hr0 hc0
 unfold impl_value.f at H
 replace H:=zP H
 obtain⟨t158,A3,H⟩:=H
 have H':=zM H
 clear H
 go_enter Try.func106,Try.ntmps106
 go_wp2_with (first|((with_reducible refine gate_callee (f:=85) rfl ?_);refine goesL_ (some 10) rfl rfl Try.func85 ze rfl #[.int .i64 a1] rfl zg ?_;(with_reducible refine(impl_gfPow.calls k a1 t158 _ A3.out).mono ?_);rintro e w' ⟨rfl,⟨nd,rfl⟩⟩;refine⟨_,rfl,?_⟩))
 (try simp only[Act.put,zL1,zL2,zL3])
 go_loopg [6,13] k (fun kq v6 v13 w'=>∃(x6_1:Int) (x13_1:Int),v6= .int .i64 x6_1∧v13= .int .i64 x13_1∧Aside0 (impl_value.l0 kq t158 x6_1 l0 (l0.length:Int) x13_1=some r)∧Aside0 (kq≤k)∧Drawn0 w w')
 case atStart=>exact⟨(0),(0),zs,zs,H',⟨Nat.le_refl _⟩,zd⟩
 case round=>
  clear H'
  try clear c1
  try clear p2
  obtain⟨x6_1,x13_1,rfl,rfl,HA,HK1,⟨m1,rfl⟩⟩:=hrel
  cases gk with
  |zero=>exact absurd HA.out (by simp[impl_value.l0])
  | succ k1=>
   have H:=HA.out
   clear HA
   simp only[impl_value.l0] at H
   replace H:=zI2 H
   rcases H with⟨c4,H⟩|⟨c4,H⟩
   case inr=>
    have c4b0:=decide_eq_false c4
    clear c4
    obtain rfl:=zI H
    go_wp2
    go_ret
    exact⟨zs,zd⟩
   have c4b0:=zE c4
   clear c4
   replace H:=zID H
   obtain⟨c5b0,H⟩:=H
   replace H:=zID H
   obtain⟨c6b0,H⟩:=H
   replace H:=zP H
   obtain⟨t160,A7,H⟩:=H
   have H':=zM H
   clear H
   have p159:0≤(x13_1:Int):=zT (by assumption)
   have q159:x13_1<(l0.length:Int):=zT (by assumption)
   obtain⟨ad159,e159,hx159_0⟩:=Kd.at_int HR0.out x13_1 p159 q159
   cases e159
   replace p159:=eq_true p159
   replace q159:=eq_true q159
   go_wp2_with (first|((with_reducible refine gate_callee (f:=87) rfl ?_);refine goesL_ (some 19) rfl rfl Try.func87 ze rfl #[.int .i64 x6_1, .int .i64 t158] rfl zg ?_;(with_reducible refine(impl_GfMul.calls k1 x6_1 t158 t160 _ A7.out).mono ?_);rintro e w' ⟨rfl,⟨nd,rfl⟩⟩;refine⟨_,rfl,?_⟩))
   go_roundg k1
   case measure=>have:=HK1.out;omega
   case rel=>exact⟨(Go.bits .xor .i64 t160 (wrap64 (rd l0 x13_1))),(wrap64 (x13_1+1)),zs,zs,H',⟨zl1 HK1⟩,zd⟩
def slices_Clone_int_int.f (l0:List Int):Option (List Int):=if l0.length<17592186044416 then some l0 else none
set_option maxHeartbeats 4000000 in
theorem slices_Clone_int_int.calls (A0:Option Addr) (c0:Nat) (l0:List Int) (r:List Int) (w:World) (hr0:Kd.C (Kd.int .i64) w A0 l0.length l0) (hc0:l0.length≤c0) (h:slices_Clone_int_int.f l0=some r):
 Calls Try.prog 86 #[.slice A0 l0.length c0] w fun e w'=>∃v0_:Value,e= .returned (v0_)∧Kd.R (Kd.int .i64) 3 w' w.heap.size (fun _=>True) v0_ r∧Below w.heap.size w w':=by
 have HL:l0.length<17592186044416∧l0=r:=by
  unfold slices_Clone_int_int.f at h
  split at h
  ·exact⟨by assumption,zI h⟩
  ·cases h
 obtain⟨hl,rfl⟩:=HL
 have HL:=zM hl
 have HR:=zM hr0
 clear hl hr0 h
 have q22:∀(w:World) (a:Option Addr) (n c n' c':Nat),(binOp .eql 46 (.slice a n c) (.slice none n' c')).run Try.prog w= .ok (.bool a.isNone) w:=fun w a n c n' c'=>Lib.run_eql_slice_nil w _ _ a n c n' c' Try.underlying46
 cases A0 with
 | none=>
  have q:=fun(w:World) (n c n' c':Nat)=>q22 w none n c n' c'
  simp only[Option.isNone_none] at q
  go_enter Try.func86,Try.ntmps86
  go_wp2
  go_ret
  obtain rfl:l0=[]:=by
   cases l0 with
   |nil=>rfl
   |cons x xs=>obtain⟨ad,e,_⟩:=HR.out.2.2 (by simp);cases e
  exact⟨_,rfl,Kd.R_nil _ _ _ _ _,Below.refl _ _⟩
 |some ad=>
  have q:=fun(w:World) (n c n' c':Nat)=>q22 w (some ad) n c n' c'
  simp only[Option.isNone_some] at q
  clear q22
  have HB:=zM (Below.refl w.heap.size w)
  go_enter Try.func86,Try.ntmps86
  go_wp2_with (first|((with_reducible refine gate_dst (N:=5) rfl ?_);refine Kd.R_lit (Kd.int .i64) (w0:=w) w.heap.size 3 ?hg (N:=5) ?hd (xs:=([]:List Int)) (inner:=[]) (ok:=fun _=>True) (okp:=fun _=>True) ?hr ?hp (fun _ hk=>hk) trivial HB.out (Nat.le_refl _) (by simp) ?_;(case hd|hg=>rfl);(case hr=>exact zh);(case hp=>exact(Reps.none _ _));intro v1 w1 ho hb hg_ hnew_;have HO:=zM ho;have HB1:=zM hb;clear hg_ hnew_ ho hb)|((with_reducible refine gate_builtin (b:= .append) (xs:= #[.tmp 5, .tmp 6]) rfl ?_);at_builtin;refine Kd.R_append_rows (Kd.int .i64) (w0:=w) w.heap.size rfl (.tmp 5) (.tmp 6) 46 3 (.int .i64 0) 8 rfl Try.underlying46 info3 rfl (by decide) (by omega) v1 [] l0 _ _ _ (fun _=>True) (fun _=>False) rfl rfl ?aO ?aR (fun _ _ h=>h) (fun _ h=>h.elim) ?aF ?aB ?aS ?aL ?_;(case aR=>exact(Kd.C_below HR.out HB1.out));(case aB=>exact HB1.out);(case aF=>exact(fun _ _=>trivial));(case aO=>exact HO.out);(case aS=>exact HB1.out.size);(case aL=>have:=HL.out;simp only[List.length_nil];omega);intro v2 w2 ho hb hg hat;have HO2:=zM ho;have HB2:=zM hb;clear ho hb hg hat))
  go_ret
  exact⟨_,rfl,by simpa using HO2.out,HB2.out⟩
end Go.Proofs.Ytapobpkeefeajaa.PFnExactHear
