-- A turned copy of the print's text.
import Derived.Test.YtapobpkeefeajaaPFnExactHearx0
import Derived.Test.YtapobpkeefeajaaPFnExactHearx19
import Derived.Test.YtapobpkeefeajaaPFnExactHearx20
namespace Go.Proofs.Ytapobpkeefeajaa.PFnExactHear
open Go.RowKit Go.Proofs.YtapobpkeefeajaaW.PrintWords Go.Proofs.YtapobpkeefeajaaW.PrintLast Go.Proofs.YtapobpkeefeajaaW.PrintMore
attribute [local go_sem] max2_int min2_int max_two min_two max_three min_three max_four min_four
set_option maxHeartbeats 8000000
set_option maxRecDepth 100000
set_option linter.unusedVariables false
set_option linter.unusedSimpArgs false
mutual
def spec_l14Put.l0:Nat→List Int→List Int→List Int→Int→List Int→List (List Int)→Int→Option (List Int×Bool)
 |0,_,_,_,_,_,_,_=>none
 |k+1,x0,x1,x2,x3,x10,x11,x12=>if x12<(x2.length:Int) then(spec_l14Put.l1 k x0 x1 x2 x3 x10 x11 x12 (([]:List Int)) 0) else((spec_l14Solve.f k x11).bind fun bt397=>(if bt397.2=true then(spec_l14Put.l2 k x2 x3 x10 bt397.1 0) else(some ((([]:List Int)),false))))
def spec_l14Put.l1:Nat→List Int→List Int→List Int→Int→List Int→List (List Int)→Int→List Int→Int→Option (List Int×Bool)
 |0,_,_,_,_,_,_,_,_,_=>none
 |k+1,x0,x1,x2,x3,x10,x11,x12,x13,x14=>if x14<(x2.length:Int) then(if 0≤x14 then((spec_l14Pow.f k (wrap64 (x12*(wrap64 ((wrap64 ((x0.length:Int)-1))-(rd x2 x14)))))).bind fun t386=>(if x13.length<17592186044416 then(spec_l14Put.l1 k x0 x1 x2 x3 x10 x11 x12 (x13++[t386]) (wrap64 (x14+1))) else(none))) else(none)) else(if 0≤x12 then(if x12<(x1.length:Int) then(if x13.length<17592186044416 then(if x11.length<5864062014805 then(spec_l14Put.l0 k x0 x1 x2 x3 x10 (x11++[(x13++[rd x1 x12])]) (wrap64 (x12+1))) else(none)) else(none)) else(none)) else(none))
def spec_l14Put.l2:Nat→List Int→Int→List Int→List Int→Int→Option (List Int×Bool)
 |0,_,_,_,_,_=>none
 |k+1,x2,x3,x10,x15,x17=>if x17<(x2.length:Int) then(if 0≤x17 then(if 0≤(rd x2 x17) then(if(rd x2 x17)<(x10.length:Int) then(if x17<(x15.length:Int) then(spec_l14Put.l2 k x2 x3 (x10.set ((rd x2 x17):Int).toNat (Go.bits .xor .u8 (rd x10 (rd x2 x17)) ((rd x15 x17)%256))) x15 (wrap64 (x17+1))) else(none)) else(none)) else(none)) else(none)) else((spec_l14Signs.f k x10 x3).bind fun bt409=>(some (x10,bt409.2)))
end
def spec_l14Put.f (k:Nat) (l0:List Int) (l1:List Int) (l2:List Int) (a3:Int):Option (List Int×Bool):=(some (([]:List Int):List Int)).bind fun y373=>(if y373.length+l0.length<140737488355328 then((some (y373++l0:List Int)).bind fun y376=>(if(l2.length:Int)>0 then(spec_l14Put.l0 k l0 l1 l2 a3 y376 (([]:List (List Int))) 0) else((spec_l14Signs.f k y376 a3).bind fun bt413=>(some (y376,bt413.2))))) else(none))
def spec_l14Put.T19:Bool×List (List Nat×List Nat):=(true,[([],[]),([],[]),([],[]),([1,2],[1,2]),([3],[3]),([],[]),([],[]),([],[]),([6,7],[6,7]),([8],[8]),([5,9],[5,9]),([10],[10]),([],[]),([],[]),([12,13],[12,13]),([14],[14]),([15],[15]),([11,16],[11,16]),([0,4,0,1,2,3,4,5,6,7,8,9,10,11,12,13,14,15,16,17],[0,4]),([18,17,0,1,2,3,4,5,6,7,8,9,10,11,12,13,14,15,16,17],[17,18])])
def spec_l14Put.B19:List Nat:=[0,0,0,6,14,0,0,0,192,448,992,2016,0,0,12288,28672,61440,131040,262143,524287]
theorem spec_l14Put.tab19:rtab .any (opsOf Try.f116 19)=spec_l14Put.T19:=by kernel_rfl
theorem spec_l14Put.bits19:waitsOk spec_l14Put.T19.2 spec_l14Put.B19=true:=by kernel_rfl
theorem spec_l14Put.calls (k:Nat) (A0:Option Addr) (c0:Nat) (l0:List Int) (A1:Option Addr) (c1:Nat) (l1:List Int) (A2:Option Addr) (c2:Nat) (l2:List Int) (a3:Int) (r1:List Int) (r2:Bool) (w:World) (hr0:Kd.C (Kd.int .u8) w A0 l0.length l0) (hc0:l0.length≤c0) (hr1:Kd.C (Kd.int .i64) w A1 l1.length l1) (hc1:l1.length≤c1) (hr2:Kd.C (Kd.int .i64) w A2 l2.length l2) (hc2:l2.length≤c2) (H:spec_l14Put.f k l0 l1 l2 a3=some (r1,r2)):
 Calls Try.prog 116 #[.slice A0 l0.length c0, .slice A1 l1.length c1, .slice A2 l2.length c2, .int .i64 a3] w fun e w'=>∃v0_:Value,e= .returned (.tuple #[v0_, .bool r2])∧Kd.R (Kd.int .u8) 5 w' w.heap.size (fun _=>True) v0_ r1∧Below w.heap.size w w':=by
 have HR0:=zM hr0
 have HC0:=zM hc0
 clear hr0 hc0
 have HR1:=zM hr1
 have HC1:=zM hc1
 clear hr1 hc1
 have HR2:=zM hr2
 have HC2:=zM hc2
 clear hr2 hc2
 have HB:=zM (Below.refl w.heap.size w)
 unfold spec_l14Put.f at H
 replace H:=zY H
 obtain⟨y373,Ny373,H⟩:=H
 replace H:=zIM H
 obtain⟨LMc5,H⟩:=H
 replace H:=zY H
 obtain⟨y376,Ny376,H⟩:=H
 replace H:=zI2 H
 rcases H with⟨c6,H⟩|⟨c6,H⟩
 case inr=>
  have c6b0:decide (0<(l2.length:Int))=false:=decide_eq_false c6
  have c6b1:decide (0<l2.length)=false:=decide_eq_false (by omega)
  clear c6
  replace H:=zP H
  obtain⟨⟨t413,t414⟩,A48,H⟩:=H
  dsimp only at H
  simp only[Option.some.injEq,Prod.mk.injEq] at H
  obtain⟨rfl,rfl⟩:=H
  go_enter Try.func116,Try.ntmps116
  go_wp2_with (first|((with_reducible refine gate_dst (N:=20) rfl ?_);refine Kd.R_lit (Kd.int .u8) _ 5 ?hg (N:=20) ?hd (xs:=([]:List Int)) (inner:=[]) (ok:=fun _=>True) (okp:=fun _=>True) ?hr ?hp (fun _ hk=>hk) trivial (Below.refl _ _) (Nat.le_refl _) (by simp) ?_;(case hd|hg=>rfl);(case hr=>exact zh);(case hp=>exact(Reps.none _ _));intro v374 w49 ho50 hb hg_ hnew_;clear hg_ hnew_;(first|rw[←Ny373.out] at ho50|simp only[Int.reduceToNat,←Ny373.out] at ho50);refine zS2 (Kd.R_lower ho50 (below_size zb)) (below_step zb hb) ?_;clear HB;intro HO375 HB;clear hb ho50)|((with_reducible refine gate_builtin (b:= .append) (xs:= #[.tmp 20, .tmp 21]) rfl ?_);at_builtin;refine Kd.R_append_rows (Kd.int .u8) (w0:=w) w.heap.size rfl (.tmp 20) (.tmp 21) 24 5 (.int .u8 0) 1 rfl Try.underlying24 info5 rfl (by decide) (by omega) v374 y373 l0 _ _ _ (fun _=>True) (fun _=>False) rfl rfl ?aO ?aR (fun _ _ h=>h) (fun _ h=>h.elim) ?aF ?aB ?aS ?aL ?_;(case aR=>exact zc (Kd.C_below HR0.out HB.out));(case aB=>exact zb);(case aF=>exact(fun _ _=>trivial));(case aO=>exact(zr HO375));(case aS=>exact(below_size zb));(case aL=>have:=LMc5.out;omega);intro v377 w51 ho hb hg hat;(first|rw[←Ny376.out] at ho|simp only[Int.reduceToNat,←Ny376.out] at ho);refine zS2 (hb) (ho) ?_;clear HB HO375;intro HB HO378;clear ho hb hg hat;obtain⟨Ao52,co52,eo52⟩:=Kd.R_slice HO378.out;subst eo52)|((with_reducible refine gate_callee (f:=114) rfl ?_);refine goesL_ (some 100) rfl rfl Try.func114 ze rfl #[.slice Ao52 y376.length co52, .int .i64 a3] rfl zg ?_;(with_reducible refine(spec_l14Signs.calls k _ _ y376 a3 t413 t414 _ ?side1 ?side2 A48.out).mono ?_);(case side1=>exact zc (Kd.R_reads' HO378.out).2.2);(case side2=>exact(Kd.R_reads' HO378.out).2.1);rintro e w53 ⟨v415,rfl,ho0,hb⟩;refine⟨_,rfl,?_⟩;refine zS3 (Kd.R_below (zr HO378) hb) (Kd.R_lower ho0 (below_size zb)) (below_step zb hb) ?_;clear HO378 HB;intro HO378 HO416 HB;(try clear hb);(try clear hb2);(try clear hk);(try clear hi);(try clear ho0)))
  go_ret2
  exact⟨_,zq,zr HO378,zb⟩
 have c6b0:decide (0<(l2.length:Int))=true:=zE c6
 have c6b1:decide (0<l2.length)=true:=zE (by omega)
 clear c6
 obtain⟨y379,hy379⟩:∃y_:List (List Int),y_=(([]:List (List Int))):=⟨_,rfl⟩
 rw[←hy379] at H
 have Ny379:=zM hy379
 clear hy379
 have H':=zM H
 clear H
 go_enter Try.func116,Try.ntmps116
 go_wp2_with (first|((with_reducible refine gate_dst (N:=20) rfl ?_);refine Kd.R_lit (Kd.int .u8) _ 5 ?hg (N:=20) ?hd (xs:=([]:List Int)) (inner:=[]) (ok:=fun _=>True) (okp:=fun _=>True) ?hr ?hp (fun _ hk=>hk) trivial (Below.refl _ _) (Nat.le_refl _) (by simp) ?_;(case hd|hg=>rfl);(case hr=>exact zh);(case hp=>exact(Reps.none _ _));intro v374 w7 ho8 hb hg_ hnew_;clear hg_ hnew_;(first|rw[←Ny373.out] at ho8|simp only[Int.reduceToNat,←Ny373.out] at ho8);refine zS2 (Kd.R_lower ho8 (below_size zb)) (below_step zb hb) ?_;clear HB;intro HO375 HB;clear hb ho8)|((with_reducible refine gate_builtin (b:= .append) (xs:= #[.tmp 20, .tmp 21]) rfl ?_);at_builtin;refine Kd.R_append_rows (Kd.int .u8) (w0:=w) w.heap.size rfl (.tmp 20) (.tmp 21) 24 5 (.int .u8 0) 1 rfl Try.underlying24 info5 rfl (by decide) (by omega) v374 y373 l0 _ _ _ (fun _=>True) (fun _=>False) rfl rfl ?aO ?aR (fun _ _ h=>h) (fun _ h=>h.elim) ?aF ?aB ?aS ?aL ?_;(case aR=>exact zc (Kd.C_below HR0.out HB.out));(case aB=>exact zb);(case aF=>exact(fun _ _=>trivial));(case aO=>exact(zr HO375));(case aS=>exact(below_size zb));(case aL=>have:=LMc5.out;omega);intro v377 w9 ho hb hg hat;(first|rw[←Ny376.out] at ho|simp only[Int.reduceToNat,←Ny376.out] at ho);refine zS2 (hb) (ho) ?_;clear HB HO375;intro HB HO378;clear ho hb hg hat)|((with_reducible refine gate_dst (N:=26) rfl ?_);refine Kd.S_lit (Kd.slice 3 (Kd.int .i64)) _ 46 ?hg (N:=26) ?hd (xs:=([]:List (List Int))) (inner:=[]) (ok:=fun _=>True) (okp:=fun _=>True) ?hr ?hp (fun _ hk=>hk) trivial (Below.refl _ _) (Nat.le_refl _) (by simp) ?_;(case hd|hg=>rfl);(case hr=>exact zh);(case hp=>exact(Reps.none _ _));intro v380 w10 ho11 hb hg_ hnew_;clear hg_ hnew_;(first|rw[←Ny379.out] at ho11|simp only[Int.reduceToNat,←Ny379.out] at ho11);refine zS3 (Kd.R_below (zr HO378) hb) (Kd.S_lower ho11 (below_size zb)) (below_step zb hb) ?_;clear HO378 HB;intro HO378 HO381 HB;clear hb ho11))
 (try simp only[Act.put,zL1,zL2,zL3])
 go_loopg [11,12] k (fun kq v11 v12 w'=>∃(x11_1:List (List Int)) (x12_1:Int),v12= .int .i64 x12_1∧Aside0 (spec_l14Put.l0 kq l0 l1 l2 a3 y376 x11_1 x12_1=some (r1,r2))∧Aside0 (kq≤k)∧Aside0 (Kd.R (Kd.int .u8) 5 w' w.heap.size (fun _=>True) v377 y376)∧Aside0 (Kd.S (Kd.slice 3 (Kd.int .i64)) 46 w' w.heap.size (fun _=>True) v11 x11_1)∧Aside0 (Below w.heap.size w w'))
 case atStart=>exact⟨(y379),(0),zs,H',⟨Nat.le_refl _⟩,⟨zr HO378⟩,⟨by(with_reducible repeat(first|apply Kd.S_alloc|apply Kd.S_drewN|apply Kd.S_drew));first|exact HO381.out|(subst_vars;exact HO381.out)⟩,⟨zb⟩⟩
 case round=>
  clear H'
  try clear c1
  try clear c2
  try clear p2
  try clear c5
  try clear c6
  try clear c6b0
  try clear c6b1
  try clear c11
  obtain⟨x11_1,x12_1,rfl,HA,HK1,HO_10,HO_11,HB⟩:=hrel
  cases gk with
  |zero=>exact absurd HA.out (by simp[spec_l14Put.l0])
  | succ k1=>
   have H:=HA.out
   clear HA
   simp only[spec_l14Put.l0] at H
   replace H:=zI2 H
   rcases H with⟨c12,H⟩|⟨c12,H⟩
   case inl=>
    have c12b0:=zE c12
    clear c12
    obtain⟨y382,hy382⟩:∃y_:List Int,y_=(([]:List Int)):=⟨_,rfl⟩
    replace H:(spec_l14Put.l1 k1 l0 l1 l2 a3 y376 x11_1 x12_1 y382 0)=some (r1,r2):=zy hy382 H
    have Ny382:=zM hy382
    clear hy382
    have H':=zM H
    clear H
    go_wp2_with (first|((with_reducible refine gate_dst (N:=33) rfl ?_);refine Kd.R_lit (Kd.int .i64) _ 3 ?hg (N:=33) ?hd (xs:=([]:List Int)) (inner:=[]) (ok:=fun _=>True) (okp:=fun _=>True) ?hr ?hp (fun _ hk=>hk) trivial (Below.refl _ _) (Nat.le_refl _) (by simp) ?_;(case hd|hg=>rfl);(case hr=>exact zh);(case hp=>exact(Reps.none _ _));intro v383 w13 ho14 hb hg_ hnew_;clear hg_ hnew_;(first|rw[←Ny382.out] at ho14|simp only[Int.reduceToNat,←Ny382.out] at ho14);refine zS4 (Kd.R_below (zr HO_10) hb) (Kd.S_elder' (by(with_reducible repeat(first|apply Kd.S_alloc|apply Kd.S_drewN|apply Kd.S_drew));first|exact HO_11.out|(subst_vars;exact HO_11.out)) (Kd.R_base ho14) hb) (Kd.R_lower ho14 (below_size zb)) (below_step zb hb) ?_;clear HO_10 HO_11 HB;intro HO_10 HO_11 HO384 HB;clear hb ho14))
    (try simp only[Act.put,zL1,zL2,zL3])
    go_loopg [13,14] k1 (fun kq v13 v14 w'=>∃(x13_2:List Int) (x14_2:Int),v14= .int .i64 x14_2∧Aside0 (spec_l14Put.l1 kq l0 l1 l2 a3 y376 x11_1 x12_1 x13_2 x14_2=some (r1,r2))∧Aside0 (kq≤k1)∧Aside0 (Kd.R (Kd.int .u8) 5 w' w.heap.size (fun _=>True) v377 y376)∧Aside0 (Kd.S (Kd.slice 3 (Kd.int .i64)) 46 w' w.heap.size (fun k_=>some k_≠(v13:Value).ownBlock) u11 x11_1)∧Aside0 (Kd.R (Kd.int .i64) 3 w' w.heap.size (fun _=>True) v13 x13_2)∧Aside0 (Below w.heap.size w w'))
    case atStart=>exact⟨(y382),(0),zs,H',⟨Nat.le_refl _⟩,⟨zr HO_10⟩,⟨by(with_reducible repeat(first|apply Kd.S_alloc|apply Kd.S_drewN|apply Kd.S_drew));first|exact Kd.S_mono HO_11.out (fun _ hk=>hk.2)|(subst_vars;exact Kd.S_mono HO_11.out (fun _ hk=>hk.2))⟩,⟨zr HO384⟩,⟨zb⟩⟩
    case round=>
     clear H'
     try clear c1
     try clear c2
     try clear p2
     try clear c5
     try clear c6
     try clear c6b0
     try clear c6b1
     try clear c11
     try clear c12
     try clear c12b0
     try clear p2
     obtain⟨x13_2,x14_2,rfl,HA,HK2,HO_10,HO_11,HO_13,HB⟩:=hrel
     cases gk with
     |zero=>exact absurd HA.out (by simp[spec_l14Put.l1])
     | succ k2=>
      have H:=HA.out
      clear HA
      simp only[spec_l14Put.l1] at H
      replace H:=zI2 H
      rcases H with⟨c15,H⟩|⟨c15,H⟩
      case inl=>
       have c15b0:=zE c15
       clear c15
       replace H:=zID H
       obtain⟨c16b0,H⟩:=H
       replace H:=zP H
       obtain⟨t386,A17,H⟩:=H
       replace H:=zIM H
       obtain⟨LMc18,H⟩:=H
       obtain⟨y387,hy387⟩:∃y_:List Int,y_=(x13_2++[t386]):=⟨_,rfl⟩
       rw[←hy387] at H
       have Ny387:=zM hy387
       clear hy387
       have H':=zM H
       clear H
       have p385:0≤(x14_2:Int):=zT (by assumption)
       have q385:x14_2<(l2.length:Int):=zT (by assumption)
       obtain⟨ad385,e385,hx385_0⟩:=Kd.at_int HR2.out x14_2 p385 q385
       cases e385
       replace hx385_0:=(HB.out.cell (zW w _ hx385_0)).trans hx385_0
       replace p385:=eq_true p385
       replace q385:=eq_true q385
       go_wp2_with (first|((with_reducible refine gate_callee (f:=78) rfl ?_);refine goesL_ (some 51) rfl rfl Try.func78 ze rfl #[.int .i64 (wrap64 (x12_1*(wrap64 ((wrap64 ((l0.length:Int)-1))-(rd l2 x14_2)))))] rfl zg ?_;(with_reducible refine(spec_l14Pow.calls k2 (wrap64 (x12_1*(wrap64 ((wrap64 ((l0.length:Int)-1))-(rd l2 x14_2))))) t386 _ A17.out).mono ?_);rintro e w' ⟨rfl,⟨nd,rfl⟩⟩;refine⟨_,rfl,?_⟩)|((with_reducible refine gate_builtin (b:= .append) (xs:= #[.tmp 40, .tmp 52]) rfl ?_);at_builtin;refine Kd.R_append (Kd.int .i64) (w0:=w) w.heap.size rfl (.tmp 40) (.tmp 52) 46 3 (.int .i64 0) 8 rfl Try.underlying46 info3 rfl (by decide) (by omega) u13 x13_2 t386 [.int .i64 t386] (fun _=>True) (fun _=>False) rfl rfl ?aP (fun _ hk=>hk.elim) ?aF ?aO ?aB ?aS ?aL ?_;(case aP=>exact rfl);(case aB=>exact zb);(case aF=>exact(fun _ _=>trivial));(case aO=>exact(zr HO_13));(case aS=>exact(below_size zb));(case aL=>have:=LMc18.out;omega);intro v388 w19 ho hb hg hat;(first|rw[←Ny387.out] at ho|simp only[Int.reduceToNat,←Ny387.out] at ho);refine zS4 (Kd.R_over' (zr HO_10) (Kd.R_typed (zr HO_13)) (by decide) hg) (Kd.S_after (ok:=(fun _=>True)) (by(with_reducible repeat(first|apply Kd.S_alloc|apply Kd.S_drewN|apply Kd.S_drew));first|exact Kd.S_mono HO_11.out (fun _ hk=>⟨trivial,hk⟩)|(subst_vars;exact Kd.S_mono HO_11.out (fun _ hk=>⟨trivial,hk⟩))) hg hat) (hb) (ho) ?_;clear HO_10 HO_11 HB HO_13;intro HO_10 HO_11 HB HO389;clear ho hb hg hat))
       go_roundg k2
       case measure=>have:=HK1.out;have:=HK2.out;omega
       case rel=>exact⟨(y387),(wrap64 (x14_2+1)),zs,H',⟨zl2 HK1 HK2⟩,⟨zr HO_10⟩,⟨by(with_reducible repeat(first|apply Kd.S_alloc|apply Kd.S_drewN|apply Kd.S_drew));first|exact Kd.S_mono HO_11.out (fun _ hk=>hk.2)|(subst_vars;exact Kd.S_mono HO_11.out (fun _ hk=>hk.2))⟩,⟨zr HO389⟩,⟨zb⟩⟩
      have c15b0:=decide_eq_false c15
      clear c15
      replace H:=zID H
      obtain⟨c20b0,H⟩:=H
      replace H:=zID H
      obtain⟨c21b0,H⟩:=H
      replace H:=zIM H
      obtain⟨LMc22,H⟩:=H
      obtain⟨y391,hy391⟩:∃y_:List Int,y_=(x13_2++[rd l1 x12_1]):=⟨_,rfl⟩
      rw[←hy391] at H
      have Ny391:=zM hy391
      clear hy391
      replace H:=zIM H
      obtain⟨LMc23,H⟩:=H
      obtain⟨y394,hy394⟩:∃y_:List (List Int),y_=(x11_1++[y391]):=⟨_,rfl⟩
      rw[←hy394] at H
      have Ny394:=zM hy394
      clear hy394
      have H':=zM H
      clear H
      have p390:0≤(x12_1:Int):=zT (by assumption)
      have q390:x12_1<(l1.length:Int):=zT (by assumption)
      obtain⟨ad390,e390,hx390_0⟩:=Kd.at_int HR1.out x12_1 p390 q390
      cases e390
      replace hx390_0:=(HB.out.cell (zW w _ hx390_0)).trans hx390_0
      replace p390:=eq_true p390
      replace q390:=eq_true q390
      go_wp2_with (first|((with_reducible refine gate_builtin (b:= .append) (xs:= #[.tmp 55, .tmp 60]) rfl ?_);at_builtin;refine Kd.R_append (Kd.int .i64) (w0:=w) w.heap.size rfl (.tmp 55) (.tmp 60) 46 3 (.int .i64 0) 8 rfl Try.underlying46 info3 rfl (by decide) (by omega) u13 x13_2 (rd l1 x12_1) [.int .i64 (rd l1 x12_1)] (fun _=>True) (fun _=>False) rfl rfl ?aP (fun _ hk=>hk.elim) ?aF ?aO ?aB ?aS ?aL ?_;(case aP=>exact rfl);(case aB=>exact zb);(case aF=>exact(fun _ _=>trivial));(case aO=>exact(zr HO_13));(case aS=>exact(below_size zb));(case aL=>have:=LMc22.out;omega);intro v392 w24 ho hb hg hat;(first|rw[←Ny391.out] at ho|simp only[Int.reduceToNat,←Ny391.out] at ho);refine zS4 (Kd.R_over' (zr HO_10) (Kd.R_typed (zr HO_13)) (by decide) hg) (Kd.S_after (ok:=(fun _=>True)) (by(with_reducible repeat(first|apply Kd.S_alloc|apply Kd.S_drewN|apply Kd.S_drew));first|exact Kd.S_mono HO_11.out (fun _ hk=>⟨trivial,hk⟩)|(subst_vars;exact Kd.S_mono HO_11.out (fun _ hk=>⟨trivial,hk⟩))) hg hat) (hb) (ho) ?_;clear HO_10 HO_11 HB HO_13;intro HO_10 HO_11 HB HO393;clear ho hb hg hat;obtain⟨Ao26,co26,eo26⟩:=Kd.R_slice HO393.out;subst eo26)|((with_reducible refine gate_builtin (b:= .append) (xs:= #[.tmp 54, .tmp 62]) rfl ?_);at_builtin;refine Kd.S_append (Kd.slice 3 (Kd.int .i64)) (w0:=w) w.heap.size rfl (.tmp 54) (.tmp 62) 114 46 (.slice none 0 0) 24 rfl Try.underlying114 info46 rfl (by decide) (by omega) u11 x11_1 y391 [.slice Ao26 y391.length co26] (fun _=>True) (fun k_=>some k_=(.slice Ao26 y391.length co26:Value).ownBlock) rfl rfl ?aP (fun k_ hk_=>((Kd.R_mono (ok':=fun k_=>((fun _=>True)) k_∧some k_≠(u11:Value).ownBlock) (Kd.R_apart' (HO393.out) (Kd.S_typed HO_11.out) (by decide)) (fun k_ hk=>⟨trivial,hk.2⟩))).1 k_ hk_.symm) ?aF ?aO ?aB ?aS ?aL ?_;(case aP=>exact Kd.M_row (Kd.R_mono (Kd.R_tight rfl (Kd.R_mono (ok':=fun k_=>((fun _=>True)) k_∧some k_≠(u11:Value).ownBlock) (Kd.R_apart' (HO393.out) (Kd.S_typed HO_11.out) (by decide)) (fun k_ hk=>⟨trivial,hk.2⟩))) (fun _ h_=>h_)));(case aB=>exact zb);(case aF=>exact(fun _ _=>trivial));(case aO=>exact(by(with_reducible repeat(first|apply Kd.S_alloc|apply Kd.S_drewN|apply Kd.S_drew));exact Kd.S_mono HO_11.out (fun k_ hk=>⟨trivial,fun e_=>hk.2 e_⟩)));(case aS=>exact(below_size zb));(case aL=>have:=LMc23.out;omega);intro v395 w25 ho hb hg hat;(first|rw[←Ny394.out] at ho|simp only[Int.reduceToNat,←Ny394.out] at ho);refine zS3 (Kd.R_over' (zr HO_10) (Kd.S_typed (by(with_reducible repeat(first|apply Kd.S_alloc|apply Kd.S_drewN|apply Kd.S_drew));first|exact HO_11.out|(subst_vars;exact HO_11.out))) (by decide) hg) (hb) (ho) ?_;clear HO_10 HB HO_11 HO393;intro HO_10 HB HO396;clear ho hb hg hat))
      go_roundg k2
      case measure=>have:=HK1.out;have:=HK2.out;omega
      case rel=>exact⟨(y394),(wrap64 (x12_1+1)),zs,H',⟨zl2 HK1 HK2⟩,⟨zr HO_10⟩,⟨by(with_reducible repeat(first|apply Kd.S_alloc|apply Kd.S_drewN|apply Kd.S_drew));first|exact HO396.out|(subst_vars;exact HO396.out)⟩,⟨zb⟩⟩
   have c12b0:=decide_eq_false c12
   clear c12
   replace H:=zP H
   obtain⟨⟨t397,t400⟩,A27,H⟩:=H
   dsimp only at H
   by_cases c28:t400=true
   case neg=>
    replace c28:=Bool.eq_false_iff.mpr c28
    subst c28
    rw[if_neg zFT] at H
    obtain⟨y401,hy401⟩:∃y_:List Int,y_=(([]:List Int)):=⟨_,rfl⟩
    replace H:(some (y401,false))=some (r1,r2):=zy hy401 H
    have Ny401:=zM hy401
    clear hy401
    simp only[Option.some.injEq,Prod.mk.injEq] at H
    obtain⟨rfl,rfl⟩:=H
    obtain⟨Ao44,co44,eo44⟩:=Kd.S_slice HO_11.out
    subst eo44
    go_wp2_with (first|((with_reducible refine gate_callee (f:=125) rfl ?_);refine goesL_ (some 66) rfl rfl Try.func125 ze rfl #[.slice Ao44 x11_1.length co44] rfl zg ?_;(with_reducible refine(spec_l14Solve.calls k1 (fun k_=>(True∧some k_≠(v377:Value).ownBlock)) (.slice Ao44 x11_1.length co44) x11_1 t397 false w _ ?side1 ?side2 A27.out).mono ?_);(case side1=>exact zb);(case side2=>exact Kd.S_apart' (HO_11.out) (Kd.R_typed HO_10.out) (by decide));rintro e w45 ⟨v398,rfl,ho0,hb,hkp⟩;refine⟨_,rfl,?_⟩;refine zS3 (Kd.R_mono (ok':=fun k_=>True) (Kd.R_keptB ((Kd.R_mono (ok':=fun k_=>True∧¬((True∧some k_≠(v377:Value).ownBlock))) (Kd.R_tight2 rfl HO_10.out) (fun k_ hk=>⟨hk.2,fun hs_=>(hs_.2) hk.1⟩))) hkp (fun k_ hk_ hs_=>(hk_.2) hs_)) (fun k_ hk_=>trivial)) (Kd.R_mono (ok':=fun k_=>True) ho0 (fun k_ hk_=>trivial)) (hb) ?_;clear HO_10 HB HO_11;intro HO_10 HO399 HB;(try clear hb);(try clear hkp);(try clear ho0))|((with_reducible refine gate_dst (N:=71) rfl ?_);refine Kd.R_lit (Kd.int .u8) _ 5 ?hg (N:=71) ?hd (xs:=([]:List Int)) (inner:=[]) (ok:=fun _=>True) (okp:=fun _=>True) ?hr ?hp (fun _ hk=>hk) trivial (Below.refl _ _) (Nat.le_refl _) (by simp) ?_;(case hd|hg=>rfl);(case hr=>exact zh);(case hp=>exact(Reps.none _ _));intro v402 w46 ho47 hb hg_ hnew_;clear hg_ hnew_;(first|rw[←Ny401.out] at ho47|simp only[Int.reduceToNat,←Ny401.out] at ho47);refine zS4 (Kd.R_elder' (zr HO_10) (Kd.R_base ho47) hb) (Kd.R_below (zr HO399) hb) (Kd.R_lower (Kd.R_new' ho47 (Kd.R_lt (zr HO_10))) (below_size zb)) (below_step zb hb) ?_;clear HO_10 HO399 HB;intro HO_10 HO399 HO403 HB;clear hb ho47))
    go_ret2
    exact⟨_,zq,by(with_reducible repeat(first|apply zRa|apply zRn|apply zRd));first|exact Kd.R_mono HO403.out (fun _ hk=>trivial)|(subst_vars;exact Kd.R_mono HO403.out (fun _ hk=>trivial)),zb⟩
   subst c28
   rw[if_pos rfl] at H
   have H':=zM H
   clear H
   obtain⟨Ao29,co29,eo29⟩:=Kd.S_slice HO_11.out
   subst eo29
   go_wp2_with (first|((with_reducible refine gate_callee (f:=125) rfl ?_);refine goesL_ (some 66) rfl rfl Try.func125 ze rfl #[.slice Ao29 x11_1.length co29] rfl zg ?_;(with_reducible refine(spec_l14Solve.calls k1 (fun k_=>(True∧some k_≠(v377:Value).ownBlock)) (.slice Ao29 x11_1.length co29) x11_1 t397 true w _ ?side1 ?side2 A27.out).mono ?_);(case side1=>exact zb);(case side2=>exact Kd.S_apart' (HO_11.out) (Kd.R_typed HO_10.out) (by decide));rintro e w30 ⟨v398,rfl,ho0,hb,hkp⟩;refine⟨_,rfl,?_⟩;refine zS3 (Kd.R_mono (ok':=fun k_=>True) (Kd.R_keptB ((Kd.R_mono (ok':=fun k_=>True∧¬((True∧some k_≠(v377:Value).ownBlock))) (Kd.R_tight2 rfl HO_10.out) (fun k_ hk=>⟨hk.2,fun hs_=>(hs_.2) hk.1⟩))) hkp (fun k_ hk_ hs_=>(hk_.2) hs_)) (fun k_ hk_=>trivial)) (Kd.R_mono (ok':=fun k_=>True) ho0 (fun k_ hk_=>trivial)) (hb) ?_;clear HO_10 HB HO_11;intro HO_10 HO399 HB;(try clear hb);(try clear hkp);(try clear ho0)))
   (try simp only[Act.put,zL1,zL2,zL3])
   go_loopg [17] k1 (fun kq v17 w'=>∃(x10_2:List Int) (x17_2:Int),v17= .int .i64 x17_2∧Aside0 (spec_l14Put.l2 kq l2 a3 x10_2 t397 x17_2=some (r1,r2))∧Aside0 (kq≤k1)∧Aside0 (Kd.R (Kd.int .u8) 5 w' w.heap.size (fun _=>True) v377 x10_2)∧Aside0 (Kd.R (Kd.int .i64) 3 w' w.heap.size (fun _=>True) v398 t397)∧Aside0 (Below w.heap.size w w'))
   case atStart=>exact⟨(y376),(0),zs,H',⟨Nat.le_refl _⟩,⟨zr HO_10⟩,⟨zr HO399⟩,⟨zb⟩⟩
   case round=>
    clear H'
    try clear c1
    try clear c2
    try clear p2
    try clear p3
    try clear q3
    try clear hx3
    try clear c5
    try clear c6
    try clear c6b0
    try clear c6b1
    try clear p6
    try clear c7
    try clear c11
    try clear c12
    try clear c12b0
    try clear c15
    try clear c15b0
    try clear c16
    try clear c16b0
    try clear c18
    try clear c20
    try clear c20b0
    try clear c21
    try clear c21b0
    try clear c22
    try clear c23
    try clear c28
    try clear hx385_0
    try clear hx390_0
    try clear p2
    try clear p385
    try clear p390
    try clear q385
    try clear q390
    obtain⟨x10_2,x17_2,rfl,HA,HK2,HO_10,HO_15,HB⟩:=hrel
    cases gk with
    |zero=>exact absurd HA.out (by simp[spec_l14Put.l2])
    | succ k2=>
     have H:=HA.out
     clear HA
     simp only[spec_l14Put.l2] at H
     replace H:=zI2 H
     rcases H with⟨c31,H⟩|⟨c31,H⟩
     case inr=>
      have c31b0:=decide_eq_false c31
      clear c31
      replace H:=zP H
      obtain⟨⟨t409,t410⟩,A41,H⟩:=H
      dsimp only at H
      simp only[Option.some.injEq,Prod.mk.injEq] at H
      obtain⟨rfl,rfl⟩:=H
      obtain⟨Ao42,co42,eo42⟩:=Kd.R_slice HO_10.out
      subst eo42
      go_wp2_with (first|((with_reducible refine gate_callee (f:=114) rfl ?_);refine goesL_ (some 100) rfl rfl Try.func114 ze rfl #[.slice Ao42 x10_2.length co42, .int .i64 a3] rfl zg ?_;(with_reducible refine(spec_l14Signs.calls k2 _ _ x10_2 a3 t409 t410 _ ?side1 ?side2 A41.out).mono ?_);(case side1=>exact zc (Kd.R_reads' HO_10.out).2.2);(case side2=>exact(Kd.R_reads' HO_10.out).2.1);rintro e w43 ⟨v411,rfl,ho0,hb⟩;refine⟨_,rfl,?_⟩;refine zS4 (Kd.R_below (zr HO_10) hb) (Kd.R_elder' (zr HO_15) (Kd.R_base ho0) hb) (Kd.R_lower (Kd.R_new' ho0 (Kd.R_lt (zr HO_15))) (below_size zb)) (below_step zb hb) ?_;clear HO_10 HO_15 HB;intro HO_10 HO_15 HO412 HB;(try clear hb);(try clear hb2);(try clear hk);(try clear hi);(try clear ho0)))
      go_ret2
      exact⟨_,zq,zr HO_10,zb⟩
     have c31b0:=zE c31
     clear c31
     replace H:=zID H
     obtain⟨c32b0,H⟩:=H
     replace H:=zID H
     obtain⟨c33b0,H⟩:=H
     replace H:=zID H
     obtain⟨c34b0,H⟩:=H
     replace H:=zID H
     obtain⟨c35b0,H⟩:=H
     obtain⟨y408,hy408⟩:∃y_:List Int,y_=(x10_2.set ((rd l2 x17_2):Int).toNat (Go.bits .xor .u8 (rd x10_2 (rd l2 x17_2)) ((rd t397 x17_2)%256))):=⟨_,rfl⟩
     rw[←hy408] at H
     have Ny408:=zM hy408
     clear hy408
     have H':=zM H
     clear H
     try go_wp2
     refine zS3 (zRd HO_10.out) (zRd HO_15.out) (zBd HB.out) ?_
     clear HO_10 HO_15 HB
     intro HO_10 HO_15 HB
     have p404:0≤(x17_2:Int):=zT (by assumption)
     have q404:x17_2<(l2.length:Int):=zT (by assumption)
     obtain⟨ad404,e404,hx404_0⟩:=Kd.at_int HR2.out x17_2 p404 q404
     have hw404_0:=hx404_0
     cases e404
     replace hx404_0:=(HB.out.cell (zW w _ hx404_0)).trans hx404_0
     replace p404:=eq_true p404
     replace q404:=eq_true q404
     have p405:0≤(x17_2:Int):=zT (by assumption)
     have q405:x17_2<(l2.length:Int):=zT (by assumption)
     obtain⟨ad405,e405,hx405_0⟩:=Kd.at_int HR2.out x17_2 p405 q405
     have hw405_0:=hx405_0
     obtain rfl:ad404=ad405:=(by injection e405)
     replace hx405_0:=(HB.out.cell (zW w _ hx405_0)).trans hx405_0
     replace p405:=eq_true p405
     replace q405:=eq_true q405
     obtain⟨Ao38,co38,eo38⟩:=Kd.R_slice HO_10.out
     (first|subst eo38|(injection eo38 with f1_ f2_ f3_;have f4_:=f1_.symm;have f5_:=f3_.symm;clear f1_ f2_ f3_;subst f4_;subst f5_))
     have p406:0≤((rd l2 x17_2):Int):=zT (by assumption)
     have q406:(rd l2 x17_2)<(x10_2.length:Int):=zT (by assumption)
     obtain⟨ad406,e406,hx406_0⟩:=Kd.at_int (Kd.R_reads' HO_10.out).2.2 (rd l2 x17_2) p406 q406
     cases e406
     replace p406:=eq_true p406
     replace q406:=eq_true q406
     obtain⟨Ao39,co39,eo39⟩:=Kd.R_slice HO_15.out
     (first|subst eo39|(injection eo39 with f1_ f2_ f3_;have f4_:=f1_.symm;have f5_:=f3_.symm;clear f1_ f2_ f3_;subst f4_;subst f5_))
     have p407:0≤(x17_2:Int):=zT (by assumption)
     have q407:x17_2<(t397.length:Int):=zT (by assumption)
     obtain⟨ad407,e407,hx407_0⟩:=Kd.at_int (Kd.R_reads' HO_15.out).2.2 x17_2 p407 q407
     cases e407
     replace p407:=eq_true p407
     replace q407:=eq_true q407
     have p36:0≤((rd l2 x17_2):Int):=zT (by assumption)
     have q36:((rd l2 x17_2):Int)<((x10_2.length:Int):Int):=zT (by assumption)
     obtain⟨go36,co36,eo36,gb36,gl36,cl36,HG36⟩:=Kd.R_form HO_10.out (by omega)
     (first|cases eo36|(injection eo36 with ea_ en_ ec_;(first|subst ea_|(injection ea_ with ea_;subst ea_));subst ec_;clear en_))
     have GB36:=zM gb36
     have GG36:=zM HG36
     clear gb36 gl36 HG36
     (first|simp only[add_plain] at hx406_0|skip)
     obtain⟨hx36_0,hf36_0⟩:=Kd.R_celln 0 HO_10.out ((rd l2 x17_2):Int) p36 q36
     replace p36:=eq_true p36
     replace q36:=eq_true q36
     have HP40:=Kd.R_putn HO_10.out ((rd l2 x17_2):Int) (Go.bits .xor .u8 (rd x10_2 (rd l2 x17_2)) ((rd t397 x17_2)%256))
     rw[←Ny408.out] at HP40
     have HQ40:=zM HP40
     clear HP40
     refine start_ (n:=20) (S:=fun w'=>w'.cell? (ad404.add (x17_2).toNat)=some (.int .i64 (rd l2 x17_2))∧w'.cell? (ad404.add (x17_2).toNat)=some (.int .i64 (rd l2 x17_2))∧w'.cell? ⟨go36,((rd l2 x17_2)).toNat,none⟩=some (.int .u8 (rd x10_2 (rd l2 x17_2)))∧w'.cell? (ad407.add (x17_2).toNat)=some (.int .i64 (rd t397 x17_2))) (ds:=[19]) #[zf,zf,zf,zf,zf,zf,zf,zf,zf,zf,zf,zf,zf,zf,zf,zf,zf,zf,zf,zf] ze rfl rfl ⟨((HB.out.cell (zW w _ hw404_0)).trans hw404_0),((HB.out.cell (zW w _ hw405_0)).trans hw405_0),hx406_0,hx407_0⟩ (fun hHeld=> ?_);refine with_tabW spec_l14Put.tab19 spec_l14Put.bits19 (fun HT_ HW_=> ?_)
     generalize wr.drew=w37 at HO_10 HO_15 HB GG36 HQ40 hf36_0 hx36_0 hx404_0 hx405_0 hx406_0 hx407_0 hHeld ⊢
     refine zu 0 78 ?_
     refine zu 1 79 ?_
     refine zu 2 80 ?_
     refine zu 3 81 ?_
     refine zu 5 83 ?_
     refine zu 6 84 ?_
     refine zu 7 85 ?_
     refine zu 8 86 ?_
     refine zu 12 90 ?_
     refine zu 13 91 ?_
     refine zu 14 92 ?_
     refine zt4 4 82 ?_
     refine zt4 9 87 ?_
     refine zu 10 88 ?_
     refine zt4 11 89 ?_
     refine zt4 15 93 ?_
     refine zu 16 94 ?_
     refine zu 17 95 ?_
     refine zu 18 96 ?_
     refine last_ (i:=19) (N:=none) #[zt,zt,zt,zt,zt,zt,zt,zt,zt,zt,zt,zt,zt,zt,zt,zt,zt,zt,zt,zt] rfl rfl (one_of HT_.out ze) (by decide) (fun K hK=> ?_)
     refine skip_ (w1:= ?_) (by rfl) rfl ?_ ?_
     rotate_left
     ·go_simp
      rfl
     refine hK.out _ _ ?_
     clear hK K
     refine done_ (done_of HT_.out ze) ?_
     try go_wp2
     go_roundg k2
     case measure=>have:=HK1.out;have:=HK2.out;omega
     case rel=>exact⟨(y408),(wrap64 (x17_2+1)),zs,H',⟨zl2 HK1 HK2⟩,⟨zr HQ40⟩,⟨by(with_reducible repeat(first|apply zRa|apply zRn|apply zRd));exact Kd.R_mono (Kd.R_far (p:=⟨go36,((rd l2 x17_2):Int).toNat,none⟩) (Kd.R_types HO_15.out GG36.out (by decide)) (fun _ hk=>hk.2) (.int .u8 (Go.bits .xor .u8 (rd x10_2 (rd l2 x17_2)) ((rd t397 x17_2)%256)))) (fun _ hk=>trivial)⟩,⟨by repeat(first|(with_reducible first|exact HB.out|apply zBa|apply zBn|apply zBd|refine zBs ?_ GB36.out)|exact HB.out)⟩⟩
end Go.Proofs.Ytapobpkeefeajaa.PFnExactHear
