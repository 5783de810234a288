-- A turned copy of the print's text.
import Derived.Test.YtapobpkeefeajaaPFnExactHearx0
import Derived.Test.YtapobpkeefeajaaPFnExactHearx5
import Derived.Test.YtapobpkeefeajaaPFnExactHearx6
namespace Go.Proofs.Ytapobpkeefeajaa.PFnExactHear
open Go.RowKit Go.Proofs.YtapobpkeefeajaaW.PrintWords Go.Proofs.YtapobpkeefeajaaW.PrintLast Go.Proofs.YtapobpkeefeajaaW.PrintMore
attribute [local go_sem] max2_int min2_int max_two min_two max_three min_three max_four min_four
set_option maxHeartbeats 8000000
set_option maxRecDepth 100000
set_option linter.unusedVariables false
set_option linter.unusedSimpArgs false
mutual
def impl_locator.l0:Nat→List Int→List Int→List Int→Int→Int→Int→Int→Int→Option (List Int)
 |0,_,_,_,_,_,_,_,_=>none
 |k+1,x0,x3,x4,x5,x6,x7,x18,x19=>if x19<x18 then(if 0≤x19 then(if x19<(x0.length:Int) then(impl_locator.l1 k x0 x3 x4 x5 x6 x7 x19 (rd x0 x19) 1 x18 x19) else(none)) else(none)) else(impl_locator.l4 k x3)
def impl_locator.j2:Nat→List Int→List Int→List Int→Int→Int→Int→Int→Int→Int→Int→Option (List Int)
 |0,_,_,_,_,_,_,_,_,_,_=>none
 |k+1,x0,x3,x4,x5,x6,x7,x8,x9,x18,x19=>if x9=0 then(impl_locator.l0 k x0 x3 x4 x5 (wrap64 (x6+1)) x7 x18 (wrap64 (x19+1))) else((slices_Clone_int_int.f x3).bind fun t173=>((impl_GfInv.f k x7).bind fun t176=>((impl_GfMul.f k x9 t176).bind fun t177=>(impl_locator.l2 k x0 x3 x4 x5 x6 x7 x8 x9 t173 t177 x18 x19))))
def impl_locator.l2:Nat→List Int→List Int→List Int→Int→Int→Int→Int→Int→List Int→Int→Int→Int→Option (List Int)
 |0,_,_,_,_,_,_,_,_,_,_,_,_=>none
 |k+1,x0,x3,x4,x5,x6,x7,x8,x9,x11,x12,x18,x19=>if(x3.length:Int)<(wrap64 ((x4.length:Int)+x6)) then(if x3.length<17592186044416 then(impl_locator.l2 k x0 (x3++[0]) x4 x5 x6 x7 x8 x9 x11 x12 x18 x19) else(none)) else(impl_locator.l3 k x0 x3 x4 x5 x6 x7 x8 x9 x11 x12 x18 x19 (x4.length:Int) 0)
def impl_locator.l3:Nat→List Int→List Int→List Int→Int→Int→Int→Int→Int→List Int→Int→Int→Int→Int→Int→Option (List Int)
 |0,_,_,_,_,_,_,_,_,_,_,_,_,_,_=>none
 |k+1,x0,x3,x4,x5,x6,x7,x8,x9,x11,x12,x18,x19,x71,x72=>if x72<x71 then(if 0≤x72 then(if x72<(x4.length:Int) then(if 0≤(wrap64 (x72+x6)) then(if(wrap64 (x72+x6))<(x3.length:Int) then((impl_GfMul.f k x12 (rd x4 x72)).bind fun t183=>(impl_locator.l3 k x0 (x3.set ((wrap64 (x72+x6)):Int).toNat (Go.bits .xor .i64 (rd x3 (wrap64 (x72+x6))) t183)) x4 x5 x6 x7 x8 x9 x11 x12 x18 x19 x71 (wrap64 (x72+1)))) else(none)) else(none)) else(none)) else(none)) else(if(wrap64 (2*x5))≤x8 then(impl_locator.l0 k x0 x3 x11 (wrap64 ((wrap64 (x8+1))-x5)) 1 x9 x18 (wrap64 (x19+1))) else(impl_locator.l0 k x0 x3 x4 x5 (wrap64 (x6+1)) x7 x18 (wrap64 (x19+1))))
def impl_locator.l1:Nat→List Int→List Int→List Int→Int→Int→Int→Int→Int→Int→Int→Int→Option (List Int)
 |0,_,_,_,_,_,_,_,_,_,_,_=>none
 |k+1,x0,x3,x4,x5,x6,x7,x8,x9,x10,x18,x19=>if x10≤x5 then(if x10<(x3.length:Int) then(if 0≤x10 then(if 0≤(wrap64 (x8-x10)) then(if(wrap64 (x8-x10))<(x0.length:Int) then((impl_GfMul.f k (rd x3 x10) (rd x0 (wrap64 (x8-x10)))).bind fun t172=>(impl_locator.l1 k x0 x3 x4 x5 x6 x7 x8 (Go.bits .xor .i64 x9 t172) (wrap64 (x10+1)) x18 x19)) else(none)) else(none)) else(none)) else(impl_locator.j2 k x0 x3 x4 x5 x6 x7 x8 x9 x18 x19)) else(impl_locator.j2 k x0 x3 x4 x5 x6 x7 x8 x9 x18 x19)
def impl_locator.l4:Nat→List Int→Option (List Int)
 |0,_=>none
 |k+1,x3=>if(x3.length:Int)>0 then(if 0≤(wrap64 ((x3.length:Int)-1)) then(if(wrap64 ((x3.length:Int)-1))<(x3.length:Int) then(if(rd x3 (wrap64 ((x3.length:Int)-1)))=0 then(if(wrap64 ((x3.length:Int)-1))≤(x3.length:Int) then(impl_locator.l4 k (x3.take ((wrap64 ((x3.length:Int)-1)):Int).toNat)) else(none)) else(some x3)) else(none)) else(none)) else(some x3)
end
def impl_locator.f (k:Nat) (l0:List Int):Option (List Int):=impl_locator.l0 k l0 (([1]:List Int)) (([1]:List Int)) 0 1 1 (l0.length:Int) 0
def impl_locator.T10:Bool×List (List Nat×List Nat):=(true,[([],[]),([],[]),([],[]),([1,2],[1,2]),([3],[3]),([],[]),([],[]),([],[]),([6,7],[6,7]),([5,8],[5,8]),([9],[9]),([4,10],[4,10]),([0,11],[0,11]),([12,11,0,1,2,3,4,5,6,7,8,9,10,11,12],[0,12])])
def impl_locator.B10:List Nat:=[0,0,0,6,14,0,0,0,192,480,992,2046,4095,8191]
theorem impl_locator.tab10:rtab .any (opsOf Try.f107 10)=impl_locator.T10:=by kernel_rfl
theorem impl_locator.bits10:waitsOk impl_locator.T10.2 impl_locator.B10=true:=by kernel_rfl
def impl_locator.T20:Bool×List (List Nat×List Nat):=(true,[([],[]),([],[]),([],[]),([1,2],[1,2]),([0,3],[0,3]),([4],[4]),([],[]),([],[]),([6,7],[6,7]),([5,8],[5,8]),([0,3,0,1,2,3,4,5,6,7,8,9],[0,3]),([10,9,8,0,1,2,3,4,5,6,7,8,9],[9,10])])
def impl_locator.B20:List Nat:=[0,0,0,6,15,31,0,0,192,511,1023,2047]
theorem impl_locator.tab20:rtab .any (opsOf Try.f107 20)=impl_locator.T20:=by kernel_rfl
theorem impl_locator.bits20:waitsOk impl_locator.T20.2 impl_locator.B20=true:=by kernel_rfl
theorem impl_locator.calls (k:Nat) (A0:Option Addr) (c0:Nat) (l0:List Int) (r:List Int) (w:World) (hr0:Kd.C (Kd.int .i64) w A0 l0.length l0) (hc0:l0.length≤c0) (H:impl_locator.f k l0=some r):
 Calls Try.prog 107 #[.slice A0 l0.length c0] w fun e w'=>∃v0_:Value,e= .returned (v0_)∧Kd.R (Kd.int .i64) 3 w' w.heap.size (fun _=>True) v0_ r∧Below w.heap.size w w':=by
 have HR0:=zM hr0
 have HC0:=zM hc0
 clear hr0 hc0
 have HB:=zM (Below.refl w.heap.size w)
 unfold impl_locator.f at H
 obtain⟨y163,hy163⟩:∃y_:List Int,y_=(([1]:List Int)):=⟨_,rfl⟩
 replace H:(impl_locator.l0 k l0 y163 (([1]:List Int)) 0 1 1 (l0.length:Int) 0)=some r:=zy hy163 H
 have Ny163:=zM hy163
 clear hy163
 obtain⟨y166,hy166⟩:∃y_:List Int,y_=(([1]:List Int)):=⟨_,rfl⟩
 replace H:(impl_locator.l0 k l0 y163 y166 0 1 1 (l0.length:Int) 0)=some r:=zy hy166 H
 have Ny166:=zM hy166
 clear hy166
 have H':=zM H
 clear H
 go_enter Try.func107,Try.ntmps107
 go_wp2_with (first|((with_reducible refine gate_dst (N:=15) rfl ?_);(try(refine gate_guard (by rfl) ?_;dsimp only));refine Kd.R_lit (Kd.int .i64) _ 3 ?hg (N:=15) ?hd (xs:=([1]:List Int)) (inner:=[.int .i64 1]) (ok:=fun _=>True) (okp:=fun _=>True) ?hr ?hp (fun _ hk=>hk) trivial (Below.refl _ _) (Nat.le_refl _) (by simp) ?_;(case hd|hg=>rfl);(case hr=>exact zh);(case hp=>exact(Reps.one (show Kd.M (Kd.int .i64) _ _ _ 1 [.int .i64 1] from rfl) (Reps.none _ _)));intro v164 w2 ho3 hb hg_ hnew_;clear hg_ hnew_;(first|rw[←Ny163.out] at ho3|simp only[Int.reduceToNat,←Ny163.out] at ho3);refine zS2 (Kd.R_lower ho3 (below_size zb)) (below_step zb hb) ?_;clear HB;intro HO165 HB;clear hb ho3)|((with_reducible refine gate_dst (N:=16) rfl ?_);(try(refine gate_guard (by rfl) ?_;dsimp only));refine Kd.R_lit (Kd.int .i64) _ 3 ?hg (N:=16) ?hd (xs:=([1]:List Int)) (inner:=[.int .i64 1]) (ok:=fun _=>True) (okp:=fun _=>True) ?hr ?hp (fun _ hk=>hk) trivial (Below.refl _ _) (Nat.le_refl _) (by simp) ?_;(case hd|hg=>rfl);(case hr=>exact zh);(case hp=>exact(Reps.one (show Kd.M (Kd.int .i64) _ _ _ 1 [.int .i64 1] from rfl) (Reps.none _ _)));intro v167 w4 ho5 hb hg_ hnew_;clear hg_ hnew_;(first|rw[←Ny166.out] at ho5|simp only[Int.reduceToNat,←Ny166.out] at ho5);refine zS3 (Kd.R_elder' (zr HO165) (Kd.R_base ho5) hb) (Kd.R_lower (Kd.R_new' ho5 (Kd.R_lt (zr HO165))) (below_size zb)) (below_step zb hb) ?_;clear HO165 HB;intro HO165 HO168 HB;clear hb ho5))
 (try simp only[Act.put,zL1,zL2,zL3])
 go_loopg [3,4,5,6,7,19] k (fun kq v3 v4 v5 v6 v7 v19 w'=>∃(x3_1:List Int) (x4_1:List Int) (x5_1:Int) (x6_1:Int) (x7_1:Int) (x19_1:Int),v5= .int .i64 x5_1∧v6= .int .i64 x6_1∧v7= .int .i64 x7_1∧v19= .int .i64 x19_1∧Aside0 (impl_locator.l0 kq l0 x3_1 x4_1 x5_1 x6_1 x7_1 (l0.length:Int) x19_1=some r)∧Aside0 (kq≤k)∧Aside0 (Kd.R (Kd.int .i64) 3 w' w.heap.size (fun k_=>some k_≠(v4:Value).ownBlock) v3 x3_1)∧Aside0 (Kd.R (Kd.int .i64) 3 w' w.heap.size (fun k_=>some k_≠(v3:Value).ownBlock) v4 x4_1)∧Aside0 (Below w.heap.size w w'))
 case atStart=>exact⟨(y163),(y166),(0),(1),(1),(0),zs,zs,zs,zs,H',⟨Nat.le_refl _⟩,⟨by(with_reducible repeat(first|apply zRa|apply zRn|apply zRd));first|exact Kd.R_mono HO165.out (fun _ hk=>hk.2)|(subst_vars;exact Kd.R_mono HO165.out (fun _ hk=>hk.2))⟩,⟨by(with_reducible repeat(first|apply zRa|apply zRn|apply zRd));first|exact Kd.R_mono HO168.out (fun _ hk=>hk.2)|(subst_vars;exact Kd.R_mono HO168.out (fun _ hk=>hk.2))⟩,⟨zb⟩⟩
 case round=>
  clear H'
  try clear c1
  try clear p2
  obtain⟨x3_1,x4_1,x5_1,x6_1,x7_1,x19_1,rfl,rfl,rfl,rfl,HA,HK1,HO_3,HO_4,HB⟩:=hrel
  cases gk with
  |zero=>exact absurd HA.out (by simp[impl_locator.l0])
  | succ k1=>
   have H:=HA.out
   clear HA
   simp only[impl_locator.l0] at H
   replace H:=zI2 H
   rcases H with⟨c6,H⟩|⟨c6,H⟩
   case inr=>
    have c6b0:=decide_eq_false c6
    clear c6
    have H':=zM H
    clear H
    go_wp2
    (try simp only[Act.put,zL1,zL2,zL3])
    go_loopg [3] k1 (fun kq v3 w'=>∃(x3_2:List Int),Aside0 (impl_locator.l4 kq x3_2=some r)∧Aside0 (kq≤k1)∧Aside0 (Kd.R (Kd.int .i64) 3 w' w.heap.size (fun _=>True) v3 x3_2)∧Aside0 (Below w.heap.size w w'))
    case atStart=>exact⟨(x3_1),H',⟨Nat.le_refl _⟩,⟨by(with_reducible repeat(first|apply zRa|apply zRn|apply zRd));first|exact Kd.R_mono HO_3.out (fun _ hk=>trivial)|(subst_vars;exact Kd.R_mono HO_3.out (fun _ hk=>trivial))⟩,⟨zb⟩⟩
    case round=>
     clear H'
     try clear c1
     try clear p1
     try clear q1
     try clear hx1
     try clear c2
     try clear p2
     try clear c3
     try clear c4
     try clear p4
     try clear q4
     try clear hx4
     try clear hf4
     try clear c6
     try clear c6b0
     try clear p6
     try clear c7
     try clear c7b0
     try clear c8
     try clear c8b0
     try clear c10
     try clear c10b0
     try clear c11
     try clear c11b0
     try clear c12
     try clear c12b0
     try clear c14
     try clear c14b0
     try clear c15
     try clear c15b0
     try clear p16
     try clear q16
     try clear hx16
     try clear p17
     try clear q17
     try clear hx17
     try clear p18
     try clear q18
     try clear hx18
     try clear c20
     try clear c20b0
     try clear c20b1
     try clear c26
     try clear c26b0
     try clear c27
     try clear c33
     try clear c33b0
     try clear c34
     try clear c34b0
     try clear c35
     try clear c35b0
     try clear c37
     try clear c37b0
     try clear c38
     try clear c38b0
     try clear p40
     try clear q40
     try clear hx40
     try clear hf40
     try clear c43
     try clear c43b0
     try clear hx169_0
     try clear hx170_0
     try clear hx171_0
     try clear hx181_0
     try clear hx182_0
     try clear hx40_0
     try clear p1
     try clear p16
     try clear p169
     try clear p17
     try clear p170
     try clear p171
     try clear p181
     try clear p182
     try clear p2
     try clear p40
     try clear p6
     try clear q1
     try clear q16
     try clear q169
     try clear q17
     try clear q170
     try clear q171
     try clear q181
     try clear q182
     try clear q40
     obtain⟨x3_2,HA,HK2,HO_3,HB⟩:=hrel
     cases gk with
     |zero=>exact absurd HA.out (by simp[impl_locator.l4])
     | succ k2=>
      have H:=HA.out
      clear HA
      simp only[impl_locator.l4] at H
      replace H:=zI2 H
      rcases H with⟨c44,H⟩|⟨c44,H⟩
      case inr=>
       have c44b0:decide (0<(x3_2.length:Int))=false:=decide_eq_false c44
       have c44b1:decide (0<x3_2.length)=false:=decide_eq_false (by omega)
       clear c44
       obtain rfl:=zI H
       obtain⟨Ao53,co53,eo53⟩:=Kd.R_slice HO_3.out
       subst eo53
       go_wp2
       go_ret
       exact⟨_,zq,zr HO_3,zb⟩
      have c44b0:decide (0<(x3_2.length:Int))=true:=zE c44
      have c44b1:decide (0<x3_2.length)=true:=zE (by omega)
      clear c44
      obtain⟨ji45,hji45⟩:∃j_:Int,(wrap64 ((x3_2.length:Int)-1))=j_:=⟨_,rfl⟩
      first|rw[hji45] at H|simp only[hji45] at H
      have hji45w:(IntKind.i64.wrap ((x3_2.length:Int)-1))=ji45:=(i64_w _).trans hji45
      replace H:=zID H
      obtain⟨c46b0,H⟩:=H
      replace H:=zID H
      obtain⟨c47b0,H⟩:=H
      replace H:=zI2 H
      rcases H with⟨c48,H⟩|⟨c48,H⟩
      case inr=>
       have c48b0:((rd x3_2 (ji45))==0)=false:=beq_eq_false_iff_ne.mpr c48
       have c48b1:((rd x3_2 (ji45)) != 0)=true:=bne_iff_ne.mpr c48
       obtain rfl:=zI H
       obtain⟨Ao52,co52,eo52⟩:=Kd.R_slice HO_3.out
       subst eo52
       have p185:0≤((ji45):Int):=zT (by assumption)
       have q185:(ji45)<(x3_2.length:Int):=zT (by assumption)
       obtain⟨ad185,e185,hx185_0⟩:=Kd.at_int (Kd.R_reads' HO_3.out).2.2 (ji45) p185 q185
       cases e185
       replace p185:=eq_true p185
       replace q185:=eq_true q185
       go_wp2
       go_ret
       exact⟨_,by first|rfl|(simp[errW_none,errW_some]<;>rfl)|(simp only[←hji45];first|rfl|(simp[errW_none,errW_some]<;>rfl))|(simp[*,errW_none,errW_some]<;>rfl),zr HO_3,zb⟩
      have c48b0:((rd x3_2 (ji45))==0)=true:=beq_iff_eq.mpr c48
      have c48b1:((rd x3_2 (ji45)) != 0)=false:=bne_eq_false_iff_eq.mpr c48
      clear c48
      replace H:=zIN H
      obtain⟨c49,H⟩:=H
      have c49b0:=eq_true c49
      have c49b1:decide ((ji45)≤(x3_2.length:Int))=true:=zE c49
      clear c49
      obtain⟨y186,hy186⟩:∃y_:List Int,y_=(x3_2.take ((ji45):Int).toNat):=⟨_,rfl⟩
      rw[←hy186] at H
      have Ny186:=zM hy186
      clear hy186
      have H':=zM H
      clear H
      obtain⟨Ao50,co50,eo50⟩:=Kd.R_slice HO_3.out
      subst eo50
      have p185:0≤((ji45):Int):=zT (by assumption)
      have q185:(ji45)<(x3_2.length:Int):=zT (by assumption)
      obtain⟨ad185,e185,hx185_0⟩:=Kd.at_int (Kd.R_reads' HO_3.out).2.2 (ji45) p185 q185
      cases e185
      replace p185:=eq_true p185
      replace q185:=eq_true q185
      have q51:((ji45):Int)≤((x3_2.length:Int):Int):=zT (by assumption)
      obtain⟨i051,hi051,_,hsz51,_⟩:=info_parts info3
      have hcut51:=cut_to (P:=Try.prog) 46 3 .i64 Try.underlying46 hi051 (some ad185) x3_2.length co50 (ji45) (zT (by assumption)) q51 (Kd.R_reads' HO_3.out).2.1
      have hr51:=Kd.R_take (m:=((ji45):Int).toNat) HO_3.out (by omega)
      have hy51:y186.length=((ji45):Int).toNat:=(by rw[Ny186.out,List.length_take];omega)
      rw[←Ny186.out] at hr51
      rw[←hy51] at hr51 hcut51
      clear hy51 hi051 hsz51 HO_3
      have HO188:=zM hr51
      clear hr51
      replace q51:=eq_true q51
      go_wp2
      go_roundg k2
      case measure=>have:=HK1.out;have:=HK2.out;omega
      case rel=>exact⟨(y186),H',⟨zl2 HK1 HK2⟩,⟨zr HO188⟩,⟨zb⟩⟩
   have c6b0:=zE c6
   clear c6
   replace H:=zID H
   obtain⟨c7b0,H⟩:=H
   replace H:=zID H
   obtain⟨c8b0,H⟩:=H
   have HC9:=zM H
   clear H
   have p169:0≤(x19_1:Int):=zT (by assumption)
   have q169:x19_1<(l0.length:Int):=zT (by assumption)
   obtain⟨ad169,e169,hx169_0⟩:=Kd.at_int HR0.out x19_1 p169 q169
   cases e169
   replace hx169_0:=(HB.out.cell (zW w _ hx169_0)).trans hx169_0
   replace p169:=eq_true p169
   replace q169:=eq_true q169
   go_upto_block 2 with(fail)
   go_cut [9] (fun v9 wc=>∃(kq:Nat) (x9_8:Int),v9= .int .i64 x9_8∧Aside0 (impl_locator.j2 kq l0 x3_1 x4_1 x5_1 x6_1 x7_1 x19_1 x9_8 (l0.length:Int) x19_1=some r)∧Aside0 (kq≤k1)∧Aside0 (Kd.R (Kd.int .i64) 3 wc w.heap.size (fun k_=>some k_≠(u4:Value).ownBlock) u3 x3_1)∧Aside0 (Kd.R (Kd.int .i64) 3 wc w.heap.size (fun k_=>some k_≠(u3:Value).ownBlock) u4 x4_1)∧Aside0 (Below w.heap.size w wc))
   case first=>
    have H:=HC9.out
    clear HC9
    have H':=zM H
    clear H
    go_wp2
    (try simp only[Act.put,zL1,zL2,zL3])
    go_loopg [9,10] k1 (fun kq v9 v10 w'=>∃(x9_2:Int) (x10_2:Int),v9= .int .i64 x9_2∧v10= .int .i64 x10_2∧Aside0 (impl_locator.l1 kq l0 x3_1 x4_1 x5_1 x6_1 x7_1 x19_1 x9_2 x10_2 (l0.length:Int) x19_1=some r)∧Aside0 (kq≤k1)∧Aside0 (Kd.R (Kd.int .i64) 3 w' w.heap.size (fun k_=>some k_≠(u4:Value).ownBlock) u3 x3_1)∧Aside0 (Kd.R (Kd.int .i64) 3 w' w.heap.size (fun k_=>some k_≠(u3:Value).ownBlock) u4 x4_1)∧Aside0 (Below w.heap.size w w'))
    case atStart=>exact⟨(rd l0 x19_1),(1),zs,zs,H',⟨Nat.le_refl _⟩,⟨zr HO_3⟩,⟨zr HO_4⟩,⟨zb⟩⟩
    case round=>
     clear H'
     try clear c1
     try clear p1
     try clear q1
     try clear hx1
     try clear p2
     try clear c6
     try clear c6b0
     try clear c7
     try clear c7b0
     try clear c8
     try clear c8b0
     try clear hx169_0
     try clear p169
     try clear p2
     try clear q169
     obtain⟨x9_2,x10_2,rfl,rfl,HA,HK2,HO_3,HO_4,HB⟩:=hrel
     cases gk with
     |zero=>exact absurd HA.out (by simp[impl_locator.l1])
     | succ k2=>
      have H:=HA.out
      clear HA
      simp only[impl_locator.l1] at H
      replace H:=zI2 H
      rcases H with⟨c10,H⟩|⟨c10,H⟩
      case inr=>
       have c10b0:=decide_eq_false c10
       clear c10
       (first|rw[c10b0]|(simp only[i64_w,i32_w];rw[c10b0])|skip)
       have H':=zM H
       clear H
       go_wp2
       go_meet
       case rel=>exact⟨_,(x9_2),zs,H',⟨by have:=HK1.out;have:=HK2.out;first|omega|exact Nat.le_refl _⟩,⟨zr HO_3⟩,⟨zr HO_4⟩,⟨zb⟩⟩
      have c10b0:=zE c10
      clear c10
      (first|rw[c10b0]|(simp only[i64_w,i32_w];rw[c10b0])|skip)
      replace H:=zI2 H
      rcases H with⟨c11,H⟩|⟨c11,H⟩
      case inr=>
       have c11b0:=decide_eq_false c11
       clear c11
       have H':=zM H
       clear H
       obtain⟨Ao19,co19,eo19⟩:=Kd.R_slice HO_3.out
       subst eo19
       go_wp2
       go_meet
       case rel=>exact⟨_,(x9_2),zs,H',⟨by have:=HK1.out;have:=HK2.out;first|omega|exact Nat.le_refl _⟩,⟨zr HO_3⟩,⟨zr HO_4⟩,⟨zb⟩⟩
      have c11b0:=zE c11
      clear c11
      replace H:=zID H
      obtain⟨c12b0,H⟩:=H
      obtain⟨ji13,hji13⟩:∃j_:Int,(wrap64 (x19_1-x10_2))=j_:=⟨_,rfl⟩
      first|rw[hji13] at H|simp only[hji13] at H
      have hji13w:(IntKind.i64.wrap (x19_1-x10_2))=ji13:=(i64_w _).trans hji13
      replace H:=zID H
      obtain⟨c14b0,H⟩:=H
      replace H:=zID H
      obtain⟨c15b0,H⟩:=H
      replace H:=zP H
      obtain⟨t172,A16,H⟩:=H
      have H':=zM H
      clear H
      obtain⟨Ao17,co17,eo17⟩:=Kd.R_slice HO_3.out
      subst eo17
      try go_wp2
      refine zS3 (zRd HO_3.out) (zRd HO_4.out) (zBd HB.out) ?_
      clear HO_3 HO_4 HB
      intro HO_3 HO_4 HB
      have p170:0≤(x10_2:Int):=zT (by assumption)
      have q170:x10_2<(x3_1.length:Int):=zT (by assumption)
      obtain⟨ad170,e170,hx170_0⟩:=Kd.at_int (Kd.R_reads' HO_3.out).2.2 x10_2 p170 q170
      cases e170
      replace p170:=eq_true p170
      replace q170:=eq_true q170
      have p171:0≤((ji13):Int):=zT (by assumption)
      have q171:(ji13)<(l0.length:Int):=zT (by assumption)
      obtain⟨ad171,e171,hx171_0⟩:=Kd.at_int HR0.out (ji13) p171 q171
      have hw171_0:=hx171_0
      obtain rfl:ad169=ad171:=(by injection e171)
      replace hx171_0:=(HB.out.cell (zW w _ hx171_0)).trans hx171_0
      replace p171:=eq_true p171
      replace q171:=eq_true q171
      refine start_ (n:=14) (S:=fun w'=>w'.cell? (ad170.add (x10_2).toNat)=some (.int .i64 (rd x3_1 x10_2))∧w'.cell? (ad169.add ((ji13)).toNat)=some (.int .i64 (rd l0 (ji13)))) (ds:=[]) #[zf,zf,zf,zf,zf,zf,zf,zf,zf,zf,zf,zf,zf,zf] ze rfl rfl ⟨hx170_0,((HB.out.cell (zW w _ hw171_0)).trans hw171_0)⟩ (fun hHeld=> ?_);refine with_tabW impl_locator.tab10 impl_locator.bits10 (fun HT_ HW_=> ?_)
      generalize wr.drew=w18 at HO_3 HO_4 HB hx170_0 hx171_0 hHeld ⊢
      refine zu 0 37 ?_
      refine zu 1 38 ?_
      refine zu 2 39 ?_
      refine zu 3 40 ?_
      refine zu 5 42 ?_
      refine zu 6 43 ?_
      refine zu 7 44 ?_
      refine zu 8 45 ?_
      refine zu 9 46 ?_
      refine zt2 4 41 ?_
      refine zt2 10 47 ?_
      refine one_ (i:=11) (N:=some 48) #[zt,zt,zt,zt,zt,zt,zt,zt,zt,zt,zt,zt,zf,zf] rfl rfl (one_of HT_.out ze) (by decide) (fun K hK=> ?_)
      refine goes_ Try.func87 ze rfl #[.int .i64 (rd x3_1 x10_2), .int .i64 (rd l0 (ji13))] (by rfl) rfl rfl (by(try simp only[List.map_toArray,List.map_cons,List.map_nil]);first|done|(simp only[hji13];rfl)|rfl|(simp only[List.length_drop,List.length_take];rfl)) ?_
      with_reducible refine(impl_GfMul.calls k2 (rd x3_1 x10_2) (rd l0 (ji13)) t172 _ A16.out).mono ?_
      rintro e w' ⟨rfl,⟨nd,rfl⟩⟩
      refine⟨_,rfl,?_⟩
      refine hK.out _ _ ⟨hHeld.1,((HB.out.cell (zW w _ hw171_0)).trans hw171_0)⟩ (fun hHeld=> ?_)
      clear hK K
      refine norm_ (a':= ?_) ?_ ?_
      rotate_left
      ·show Act.put _ (some 48) _=_
       simp only[Act.put,zL1,zL2,zL3,i64_w,i32_w]
       rfl
      refine zu 12 49 ?_
      refine zu 13 9 ?_
      refine done_ (done_of HT_.out ze) ?_
      try go_wp2
      go_roundg k2
      case measure=>have:=HK1.out;have:=HK2.out;omega
      case rel=>exact⟨(Go.bits .xor .i64 x9_2 t172),(wrap64 (x10_2+1)),zs,zs,H',⟨zl2 HK1 HK2⟩,⟨zr HO_3⟩,⟨zr HO_4⟩,⟨zb⟩⟩
   case rest=>
    clear HC9
    try clear c1
    try clear p1
    try clear q1
    try clear hx1
    try clear p2
    try clear c6
    try clear c6b0
    try clear p6
    try clear c7
    try clear c7b0
    try clear c8
    try clear c8b0
    try clear c10
    try clear c10b0
    try clear c11
    try clear c11b0
    try clear c12
    try clear c12b0
    try clear c14
    try clear c14b0
    try clear c15
    try clear c15b0
    try clear p16
    try clear q16
    try clear hx16
    try clear p17
    try clear q17
    try clear hx17
    try clear hx169_0
    try clear hx170_0
    try clear hx171_0
    try clear p1
    try clear p169
    try clear p170
    try clear p171
    try clear p2
    try clear q1
    try clear q169
    try clear q170
    try clear q171
    obtain⟨kq,x9_8,rfl,HA,HJ8,HO_3,HO_4,HB⟩:=hcut
    cases kq with
    |zero=>exact absurd HA.out (by simp[impl_locator.j2])
    | succ kj8=>
     have H:=HA.out
     clear HA
     simp only[impl_locator.j2] at H
     replace H:=zI2 H
     rcases H with⟨c20,H⟩|⟨c20,H⟩
     case inl=>
      have c20b0:(x9_8==0)=true:=beq_iff_eq.mpr c20
      have c20b1:(x9_8 != 0)=false:=bne_eq_false_iff_eq.mpr c20
      clear c20
      have H':=zM H
      clear H
      go_wp2
      go_roundg kj8
      case measure=>have:=HK1.out;have:=HJ8.out;omega
      case rel=>exact⟨(x3_1),(x4_1),(x5_1),(wrap64 (x6_1+1)),(x7_1),(wrap64 (x19_1+1)),zs,zs,zs,zs,H',⟨zl2 HK1 HJ8⟩,⟨zr HO_3⟩,⟨zr HO_4⟩,⟨zb⟩⟩
     have c20b0:(x9_8==0)=false:=beq_eq_false_iff_ne.mpr c20
     have c20b1:(x9_8 != 0)=true:=bne_iff_ne.mpr c20
     replace H:=zP H
     obtain⟨t173,A21,H⟩:=H
     replace H:=zP H
     obtain⟨t176,A22,H⟩:=H
     replace H:=zP H
     obtain⟨t177,A23,H⟩:=H
     have H':=zM H
     clear H
     obtain⟨Ao24,co24,eo24⟩:=Kd.R_slice HO_3.out
     subst eo24
     go_wp2_with (first|((with_reducible refine gate_callee (f:=86) rfl ?_);refine goesL_ (some 55) rfl rfl Try.func86 ze rfl #[.slice Ao24 x3_1.length co24] rfl zg ?_;(with_reducible refine(slices_Clone_int_int.calls _ _ x3_1 t173 _ ?side1 ?side2 A21.out).mono ?_);(case side1=>exact zc (Kd.R_reads' HO_3.out).2.2);(case side2=>exact(Kd.R_reads' HO_3.out).2.1);rintro e w25 ⟨v174,rfl,ho0,hb⟩;refine⟨_,rfl,?_⟩;refine zS4 (Kd.R_elder' (zr HO_3) (Kd.R_base ho0) hb) (Kd.R_elder' (zr HO_4) (Kd.R_base ho0) hb) (Kd.R_lower (Kd.R_new' (Kd.R_new' ho0 (Kd.R_lt (zr HO_3))) (Kd.R_lt (zr HO_4))) (below_size zb)) (below_step zb hb) ?_;clear HO_3 HO_4 HB;intro HO_3 HO_4 HO175 HB;(try clear hb);(try clear hb2);(try clear hk);(try clear hi);(try clear ho0))|((with_reducible refine gate_callee (f:=123) rfl ?_);refine goesL_ (some 58) rfl rfl Try.func123 ze rfl #[.int .i64 x7_1] rfl zg ?_;(with_reducible refine(impl_GfInv.calls kj8 x7_1 t176 _ A22.out).mono ?_);rintro e w' ⟨rfl,⟨nd,rfl⟩⟩;refine⟨_,rfl,?_⟩)|((with_reducible refine gate_callee (f:=87) rfl ?_);refine goesL_ (some 59) rfl rfl Try.func87 ze rfl #[.int .i64 x9_8, .int .i64 t176] rfl zg ?_;(with_reducible refine(impl_GfMul.calls kj8 x9_8 t176 t177 _ A23.out).mono ?_);rintro e w' ⟨rfl,⟨nd,rfl⟩⟩;refine⟨_,rfl,?_⟩))
     (try simp only[Act.put,zL1,zL2,zL3])
     go_loopg [3] kj8 (fun kq v3 w'=>∃(x3_3:List Int),Aside0 (impl_locator.l2 kq l0 x3_3 x4_1 x5_1 x6_1 x7_1 x19_1 x9_8 t173 t177 (l0.length:Int) x19_1=some r)∧Aside0 (kq≤kj8)∧Aside0 (Kd.R (Kd.int .i64) 3 w' w.heap.size (fun k_=>some k_≠(u4:Value).ownBlock∧some k_≠(v174:Value).ownBlock) v3 x3_3)∧Aside0 (Kd.R (Kd.int .i64) 3 w' w.heap.size (fun k_=>some k_≠(v3:Value).ownBlock∧some k_≠(v174:Value).ownBlock) u4 x4_1)∧Aside0 (Kd.R (Kd.int .i64) 3 w' w.heap.size (fun k_=>some k_≠(v3:Value).ownBlock∧some k_≠(u4:Value).ownBlock) v174 t173)∧Aside0 (Below w.heap.size w w'))
     case atStart=>exact⟨(x3_1),H',⟨Nat.le_refl _⟩,⟨zr HO_3⟩,⟨zr HO_4⟩,⟨by(with_reducible repeat(first|apply zRa|apply zRn|apply zRd));first|exact Kd.R_mono HO175.out (fun _ hk=>⟨hk.1.2,hk.2⟩)|(subst_vars;exact Kd.R_mono HO175.out (fun _ hk=>⟨hk.1.2,hk.2⟩))⟩,⟨zb⟩⟩
     case round=>
      clear H'
      try clear c1
      try clear p1
      try clear q1
      try clear hx1
      try clear c2
      try clear p2
      try clear c6
      try clear c6b0
      try clear p6
      try clear c7
      try clear c7b0
      try clear c8
      try clear c8b0
      try clear c10
      try clear c10b0
      try clear c11
      try clear c11b0
      try clear c12
      try clear c12b0
      try clear c14
      try clear c14b0
      try clear c15
      try clear c15b0
      try clear p16
      try clear q16
      try clear hx16
      try clear p17
      try clear q17
      try clear hx17
      try clear c20
      try clear c20b0
      try clear c20b1
      try clear hx169_0
      try clear hx170_0
      try clear hx171_0
      try clear p1
      try clear p16
      try clear p169
      try clear p17
      try clear p170
      try clear p171
      try clear p2
      try clear p6
      try clear q1
      try clear q16
      try clear q169
      try clear q17
      try clear q170
      try clear q171
      obtain⟨x3_3,HA,HK3,HO_3,HO_4,HO_11,HB⟩:=hrel
      cases gk with
      |zero=>exact absurd HA.out (by simp[impl_locator.l2])
      | succ k3=>
       have H:=HA.out
       clear HA
       simp only[impl_locator.l2] at H
       replace H:=zI2 H
       rcases H with⟨c26,H⟩|⟨c26,H⟩
       case inl=>
        have c26b0:=zE c26
        clear c26
        replace H:=zIM H
        obtain⟨LMc27,H⟩:=H
        obtain⟨y178,hy178⟩:∃y_:List Int,y_=(x3_3++[0]):=⟨_,rfl⟩
        replace H:(impl_locator.l2 k3 l0 y178 x4_1 x5_1 x6_1 x7_1 x19_1 x9_8 t173 t177 (l0.length:Int) x19_1)=some r:=zy hy178 H
        have Ny178:=zM hy178
        clear hy178
        have H':=zM H
        clear H
        obtain⟨Ao28,co28,eo28⟩:=Kd.R_slice HO_3.out
        subst eo28
        obtain⟨Ao29,co29,eo29⟩:=Kd.R_slice HO_4.out
        subst eo29
        go_wp2_with (first|((with_reducible refine gate_builtin (b:= .append) (xs:= #[.tmp 67, .tmp 68]) rfl ?_);(try(refine gate_guard (by rfl) ?_;dsimp only));at_builtin;refine Kd.R_append (Kd.int .i64) (w0:=w) w.heap.size rfl (.tmp 67) (.tmp 68) 46 3 (.int .i64 0) 8 rfl Try.underlying46 info3 rfl (by decide) (by omega) (.slice Ao28 x3_3.length co28) x3_3 0 [.int .i64 0] (fun k_=>some k_≠(.slice Ao29 x4_1.length co29:Value).ownBlock∧some k_≠(v174:Value).ownBlock) (fun _=>False) rfl rfl ?aP (fun _ hk=>hk.elim) ?aF ?aO ?aB ?aS ?aL ?_;(case aP=>exact rfl);(case aB=>exact zb);(case aF=>exact(fun k_ hk=>⟨Kd.fresh' (Kd.R_lt (zr HO_4)) k_ hk,Kd.fresh' (Kd.R_lt (zr HO_11)) k_ hk⟩));(case aO=>exact(zr HO_3));(case aS=>exact(below_size zb));(case aL=>have:=LMc27.out;omega);intro v179 w30 ho hb hg hat;(first|rw[←Ny178.out] at ho|simp only[Int.reduceToNat,←Ny178.out] at ho);refine zS4 (Kd.R_after (ok:=(fun k_=>some k_≠(v174:Value).ownBlock)) (by(with_reducible repeat(first|apply zRa|apply zRn|apply zRd));first|exact Kd.R_mono HO_4.out (fun _ hk=>⟨hk.2,hk.1⟩)|(subst_vars;exact Kd.R_mono HO_4.out (fun _ hk=>⟨hk.2,hk.1⟩))) hg hat) (Kd.R_after (ok:=(fun k_=>some k_≠(.slice Ao29 x4_1.length co29:Value).ownBlock)) (by(with_reducible repeat(first|apply zRa|apply zRn|apply zRd));first|exact Kd.R_mono HO_11.out (fun _ hk=>⟨hk.2,hk.1⟩)|(subst_vars;exact Kd.R_mono HO_11.out (fun _ hk=>⟨hk.2,hk.1⟩))) hg hat) (hb) (ho) ?_;clear HO_4 HO_11 HB HO_3;intro HO_4 HO_11 HB HO180;clear ho hb hg hat))
        go_roundg k3
        case measure=>have:=HK1.out;have:=HJ8.out;have:=HK3.out;omega
        case rel=>exact⟨(y178),H',⟨by have:=HK1.out;have:=HJ8.out;have:=HK3.out;omega⟩,⟨zr HO180⟩,⟨by(with_reducible repeat(first|apply zRa|apply zRn|apply zRd));first|exact Kd.R_mono HO_4.out (fun _ hk=>⟨hk.2,hk.1⟩)|(subst_vars;exact Kd.R_mono HO_4.out (fun _ hk=>⟨hk.2,hk.1⟩))⟩,⟨by(with_reducible repeat(first|apply zRa|apply zRn|apply zRd));first|exact Kd.R_mono HO_11.out (fun _ hk=>⟨hk.2,hk.1⟩)|(subst_vars;exact Kd.R_mono HO_11.out (fun _ hk=>⟨hk.2,hk.1⟩))⟩,⟨zb⟩⟩
       have c26b0:=decide_eq_false c26
       clear c26
       have H':=zM H
       clear H
       obtain⟨Ao31,co31,eo31⟩:=Kd.R_slice HO_3.out
       subst eo31
       obtain⟨Ao32,co32,eo32⟩:=Kd.R_slice HO_4.out
       subst eo32
       go_wp2
       (try simp only[Act.put,zL1,zL2,zL3])
       go_loopg [72] k3 (fun kq v72 w'=>∃(x3_4:List Int) (x72_4:Int),v72= .int .i64 x72_4∧Aside0 (impl_locator.l3 kq l0 x3_4 x4_1 x5_1 x6_1 x7_1 x19_1 x9_8 t173 t177 (l0.length:Int) x19_1 (x4_1.length:Int) x72_4=some r)∧Aside0 (kq≤k3)∧Aside0 (Kd.R (Kd.int .i64) 3 w' w.heap.size (fun k_=>some k_≠((.slice Ao32 x4_1.length co32):Value).ownBlock∧some k_≠(v174:Value).ownBlock) (.slice Ao31 x3_3.length co31) x3_4)∧Aside0 (Kd.R (Kd.int .i64) 3 w' w.heap.size (fun k_=>some k_≠((.slice Ao31 x3_3.length co31):Value).ownBlock∧some k_≠(v174:Value).ownBlock) (.slice Ao32 x4_1.length co32) x4_1)∧Aside0 (Kd.R (Kd.int .i64) 3 w' w.heap.size (fun k_=>some k_≠((.slice Ao31 x3_3.length co31):Value).ownBlock∧some k_≠((.slice Ao32 x4_1.length co32):Value).ownBlock) v174 t173)∧Aside0 (Below w.heap.size w w'))
       case atStart=>exact⟨(x3_3),(0),zs,H',⟨Nat.le_refl _⟩,⟨zr HO_3⟩,⟨zr HO_4⟩,⟨zr HO_11⟩,⟨zb⟩⟩
       case round=>
        clear H'
        try clear c1
        try clear p1
        try clear q1
        try clear hx1
        try clear c2
        try clear p2
        try clear c6
        try clear c6b0
        try clear p6
        try clear c7
        try clear c7b0
        try clear c8
        try clear c8b0
        try clear c10
        try clear c10b0
        try clear c11
        try clear c11b0
        try clear c12
        try clear c12b0
        try clear c14
        try clear c14b0
        try clear c15
        try clear c15b0
        try clear p16
        try clear q16
        try clear hx16
        try clear p17
        try clear q17
        try clear hx17
        try clear c20
        try clear c20b0
        try clear c20b1
        try clear c26
        try clear c26b0
        try clear c27
        try clear hx169_0
        try clear hx170_0
        try clear hx171_0
        try clear p1
        try clear p16
        try clear p169
        try clear p17
        try clear p170
        try clear p171
        try clear p2
        try clear p6
        try clear q1
        try clear q16
        try clear q169
        try clear q17
        try clear q170
        try clear q171
        obtain⟨x3_4,x72_4,rfl,HA,HK4,HO_3,HO_4,HO_11,HB⟩:=hrel
        have hl3_4:=(Kd.R_reads' HO_3.out).1
        rw[hl3_4] at HO_3
        (try simp only[hl3_4])
        (try simp only[hl3_4] at HO_4)
        (try simp only[hl3_4] at HO_11)
        cases gk with
        |zero=>exact absurd HA.out (by simp[impl_locator.l3])
        | succ k4=>
         have H:=HA.out
         clear HA
         simp only[impl_locator.l3] at H
         replace H:=zI2 H
         rcases H with⟨c33,H⟩|⟨c33,H⟩
         case inr=>
          have c33b0:=decide_eq_false c33
          (try(have c33w_hl3_4:=c33b0;simp only[hl3_4] at c33w_hl3_4))
          clear c33
          replace H:=zI2 H
          rcases H with⟨c43,H⟩|⟨c43,H⟩
          case inr=>
           have c43b0:=decide_eq_false c43
           (try(have c43w_hl3_4:=c43b0;simp only[hl3_4] at c43w_hl3_4))
           clear c43
           have H':=zM H
           clear H
           go_wp2
           (try simp only[←hl3_4])
           go_roundg k4
           case measure=>have:=HK1.out;have:=HJ8.out;have:=HK3.out;have:=HK4.out;omega
           case rel=>exact⟨(x3_4),(x4_1),(x5_1),(wrap64 (x6_1+1)),(x7_1),(wrap64 (x19_1+1)),zs,zs,zs,zs,H',⟨by have:=HK1.out;have:=HJ8.out;have:=HK3.out;have:=HK4.out;omega⟩,⟨by(try simp only[hl3_4]);(with_reducible repeat(first|apply zRa|apply zRn|apply zRd));first|exact Kd.R_mono HO_3.out (fun _ hk=>hk.1)|(subst_vars;exact Kd.R_mono HO_3.out (fun _ hk=>hk.1))⟩,⟨by(try simp only[hl3_4]);(with_reducible repeat(first|apply zRa|apply zRn|apply zRd));first|exact Kd.R_mono HO_4.out (fun _ hk=>hk.1)|(subst_vars;exact Kd.R_mono HO_4.out (fun _ hk=>hk.1))⟩,⟨zb⟩⟩
          have c43b0:=zE c43
          (try(have c43w_hl3_4:=c43b0;simp only[hl3_4] at c43w_hl3_4))
          clear c43
          have H':=zM H
          clear H
          go_wp2
          (try simp only[←hl3_4])
          go_roundg k4
          case measure=>have:=HK1.out;have:=HJ8.out;have:=HK3.out;have:=HK4.out;omega
          case rel=>exact⟨(x3_4),(t173),(wrap64 ((wrap64 (x19_1+1))-x5_1)),(1),(x9_8),(wrap64 (x19_1+1)),zs,zs,zs,zs,H',⟨by have:=HK1.out;have:=HJ8.out;have:=HK3.out;have:=HK4.out;omega⟩,⟨by(try simp only[hl3_4]);(with_reducible repeat(first|apply zRa|apply zRn|apply zRd));first|exact Kd.R_mono HO_3.out (fun _ hk=>hk.2)|(subst_vars;exact Kd.R_mono HO_3.out (fun _ hk=>hk.2))⟩,⟨by(try simp only[hl3_4]);(with_reducible repeat(first|apply zRa|apply zRn|apply zRd));first|exact Kd.R_mono HO_11.out (fun _ hk=>hk.1)|(subst_vars;exact Kd.R_mono HO_11.out (fun _ hk=>hk.1))⟩,⟨zb⟩⟩
         have c33b0:=zE c33
         (try(have c33w_hl3_4:=c33b0;simp only[hl3_4] at c33w_hl3_4))
         clear c33
         replace H:=zIN H
         obtain⟨c34,H⟩:=H
         have c34b0:decide (0≤x72_4)=true:=zE c34
         (try(have c34w_hl3_4:=c34b0;simp only[hl3_4] at c34w_hl3_4))
         clear c34
         replace H:=zIN H
         obtain⟨c35,H⟩:=H
         have c35b0:decide (x72_4<(x4_1.length:Int))=true:=zE c35
         (try(have c35w_hl3_4:=c35b0;simp only[hl3_4] at c35w_hl3_4))
         clear c35
         obtain⟨ji36,hji36⟩:∃j_:Int,(wrap64 (x72_4+x6_1))=j_:=⟨_,rfl⟩
         first|rw[hji36] at H|simp only[hji36] at H
         have hji36w:(IntKind.i64.wrap (x72_4+x6_1))=ji36:=(i64_w _).trans hji36
         replace H:=zIN H
         obtain⟨c37,H⟩:=H
         have c37b0:decide (0≤(ji36))=true:=zE c37
         (try(have c37w_hl3_4:=c37b0;simp only[hl3_4] at c37w_hl3_4))
         clear c37
         replace H:=zIN H
         obtain⟨c38,H⟩:=H
         have c38b0:decide ((ji36)<(x3_4.length:Int))=true:=zE c38
         (try(have c38w_hl3_4:=c38b0;simp only[hl3_4] at c38w_hl3_4))
         clear c38
         replace H:=zP H
         obtain⟨t183,A39,H⟩:=H
         obtain⟨y184,hy184⟩:∃y_:List Int,y_=(x3_4.set ((ji36):Int).toNat (Go.bits .xor .i64 (rd x3_4 (ji36)) t183)):=⟨_,rfl⟩
         rw[←hy184] at H
         have Ny184:=zM hy184
         clear hy184
         have H':=zM H
         clear H
         have p181:0≤(x72_4:Int):=zT (by assumption)
         have q181:x72_4<(x4_1.length:Int):=zT (by assumption)
         obtain⟨ad181,e181,hx181_0⟩:=Kd.at_int (Kd.R_reads' HO_4.out).2.2 x72_4 p181 q181
         cases e181
         replace p181:=eq_true p181
         replace q181:=eq_true q181
         try go_wp2
         refine zS4 (zRd HO_3.out) (zRd HO_4.out) (zRd HO_11.out) (zBd HB.out) ?_
         clear HO_3 HO_4 HO_11 HB
         intro HO_3 HO_4 HO_11 HB
         have p182:0≤((ji36):Int):=zT (by assumption)
         have q182:(ji36)<(x3_4.length:Int):=zT (by assumption)
         obtain⟨ad182,e182,hx182_0⟩:=Kd.at_int (Kd.R_reads' HO_3.out).2.2 (ji36) p182 q182
         cases e182
         replace p182:=eq_true p182
         replace q182:=eq_true q182
         refine start_ (n:=12) (S:=fun w'=>w'.cell? (ad182.add ((ji36)).toNat)=some (.int .i64 (rd x3_4 (ji36)))) (ds:=[11]) #[zf,zf,zf,zf,zf,zf,zf,zf,zf,zf,zf,zf] ze rfl rfl (hx182_0) (fun hHeld=> ?_);refine with_tabW impl_locator.tab20 impl_locator.bits20 (fun HT_ HW_=> ?_)
         generalize wr.drew=w41 at HO_3 HO_4 HO_11 HB hx182_0 hHeld ⊢
         refine zu 0 77 ?_
         refine zu 1 78 ?_
         refine zu 2 79 ?_
         refine zu 3 80 ?_
         refine zu 4 81 ?_
         refine zu 6 83 ?_
         refine zu 7 84 ?_
         refine take_ (i:=5) (N:=some 82) (v:= ?_) (a':= ?_) #[zt,zt,zt,zt,zt,zt,zt,zt,zf,zf,zf,zf] rfl rfl (take_ofW HT_.out HW_.out ze) (fun _ _ _ h=>h) (Or.inl ⟨by rfl,?_⟩) hHeld ?_ ?_
         rotate_left
         ·intro w' s0
          go_simp
          with_reducible rfl
         rotate_left
         ·simp only[Act.put,zL1,zL2,zL3,i64_w,i32_w]
          rfl
         refine one_ (i:=8) (N:=some 85) #[zt,zt,zt,zt,zt,zt,zt,zt,zt,zf,zf,zf] rfl rfl (one_of HT_.out ze) (by decide) (fun K hK=> ?_)
         refine goes_ Try.func87 ze rfl #[.int .i64 t177, .int .i64 (rd x4_1 x72_4)] (by rfl) rfl rfl zg ?_
         with_reducible refine(impl_GfMul.calls k4 t177 (rd x4_1 x72_4) t183 _ A39.out).mono ?_
         rintro e w' ⟨rfl,⟨nd,rfl⟩⟩
         refine⟨_,rfl,?_⟩
         have p40:0≤((ji36):Int):=zT (by assumption)
         have q40:((ji36):Int)<((x3_4.length:Int):Int):=zT (by assumption)
         obtain⟨go40,co40,eo40,gb40,gl40,cl40,HG40⟩:=Kd.R_form HO_3.out (by omega)
         (first|cases eo40|(injection eo40 with ea_ en_ ec_;(first|subst ea_|(injection ea_ with ea_;subst ea_));subst ec_;clear en_))
         have GB40:=zM gb40
         have GG40:=zM HG40
         clear gb40 gl40 HG40
         (first|simp only[add_plain] at hx182_0|skip)
         obtain⟨hx40_0,hf40_0⟩:=Kd.R_celln 0 HO_3.out ((ji36):Int) p40 q40
         replace p40:=eq_true p40
         replace q40:=eq_true q40
         have HP42:=Kd.R_putn HO_3.out ((ji36):Int) (Go.bits .xor .i64 (rd x3_4 (ji36)) t183)
         rw[←Ny184.out] at HP42
         have HQ42:=zM HP42
         clear HP42
         refine hK.out _ _ (hHeld) (fun hHeld=> ?_)
         clear hK K
         refine norm_ (a':= ?_) ?_ ?_
         rotate_left
         ·show Act.put _ (some 85) _=_
          simp only[Act.put,zL1,zL2,zL3,i64_w,i32_w]
          rfl
         refine zu 9 86 ?_
         refine zu 10 87 ?_
         refine last_ (i:=11) (N:=none) #[zt,zt,zt,zt,zt,zt,zt,zt,zt,zt,zt,zt] rfl rfl (one_of HT_.out ze) (by decide) (fun K hK=> ?_)
         refine skip_ (w1:= ?_) (by rfl) rfl ?_ ?_
         rotate_left
         ·go_simp
          rfl
         refine hK.out _ _ ?_
         clear hK K
         refine done_ (done_of HT_.out ze) ?_
         try go_wp2
         (try simp only[←hl3_4])
         go_roundg k4
         case measure=>have:=HK1.out;have:=HJ8.out;have:=HK3.out;have:=HK4.out;omega
         case rel=>exact⟨(y184),(wrap64 (x72_4+1)),zs,H',⟨by have:=HK1.out;have:=HJ8.out;have:=HK3.out;have:=HK4.out;omega⟩,⟨by(try simp only[hl3_4]);(with_reducible repeat(first|apply zRa|apply zRn|apply zRd));first|exact HQ42.out|(subst_vars;exact HQ42.out)⟩,⟨by(try simp only[hl3_4]);(with_reducible repeat(first|apply zRa|apply zRn|apply zRd));exact Kd.R_mono (Kd.R_far (p:=⟨go40,((ji36):Int).toNat,none⟩) (Kd.R_mono HO_4.out (fun k_ hk=>(⟨hk,fun e_=>hk.1 (by rw[e_];rfl)⟩:_∧k_≠go40))) (fun _ hk=>hk.2) (.int .i64 (Go.bits .xor .i64 (rd x3_4 (ji36)) t183))) (fun _ hk=>⟨hk.1.1,hk.1.2⟩)⟩,⟨by(try simp only[hl3_4]);(with_reducible repeat(first|apply zRa|apply zRn|apply zRd));exact Kd.R_mono (Kd.R_far (p:=⟨go40,((ji36):Int).toNat,none⟩) (Kd.R_mono HO_11.out (fun k_ hk=>(⟨hk,fun e_=>hk.1 (by rw[e_];rfl)⟩:_∧k_≠go40))) (fun _ hk=>hk.2) (.int .i64 (Go.bits .xor .i64 (rd x3_4 (ji36)) t183))) (fun _ hk=>⟨hk.1.1,hk.1.2⟩)⟩,⟨by repeat(first|(with_reducible first|exact HB.out|apply zBa|apply zBn|apply zBd|refine zBs ?_ GB40.out)|exact HB.out)⟩⟩
end Go.Proofs.Ytapobpkeefeajaa.PFnExactHear
