-- A turned copy of the print's text.
import Derived.Test.YtapobpkeefeajaaPFnModemx0
import Derived.Test.YtapobpkeefeajaaPFnModemx1
namespace Go.Proofs.Ytapobpkeefeajaa.PFnModem
open Go.RowKit Go.Proofs.YtapobpkeefeajaaW.PrintWords Go.Proofs.YtapobpkeefeajaaW.PrintLast Go.Proofs.YtapobpkeefeajaaW.PrintMore
attribute [local go_sem] max2_int min2_int max_two min_two max_three min_three max_four min_four
set_option maxHeartbeats 8000000
set_option maxRecDepth 100000
set_option linter.unusedVariables false
set_option linter.unusedSimpArgs false
mutual
def impl_RsCode.j0:Nat→List Int→Int→Bool→Option (List Int×Bool)
 |0,_,_,_=>none
 |k+1,x0,x1,x37=>if x37=true then(some (([]:List Int),false)) else(impl_RsCode.l0 k x0 x1 (([1]:List Int)) (wrap64 (2*x1)) 0)
def impl_RsCode.l0:Nat→List Int→Int→List Int→Int→Int→Option (List Int×Bool)
 |0,_,_,_,_,_=>none
 |k+1,x0,x1,x6,x40,x41=>if x41<x40 then((impl_gfPow.f k x41).bind fun t291=>((slices_Clone_int_int.f x6).bind fun t292=>(if t292.length<17592186044416 then(impl_RsCode.l1 k x0 x1 x6 t291 (t292++[0]) x40 x41 (x6.length:Int) 0) else(none)))) else(if 0≤(wrap64 ((x0.length:Int)+(wrap64 (2*x1)))) then(if(wrap64 ((x0.length:Int)+(wrap64 (2*x1))):Int).toNat≤35184372088832 then(impl_RsCode.l2 k x0 x6 (List.replicate (wrap64 ((x0.length:Int)+(wrap64 (2*x1))):Int).toNat 0) x0 (x0.length:Int) 0) else(none)) else(none))
def impl_RsCode.l1:Nat→List Int→Int→List Int→Int→List Int→Int→Int→Int→Int→Option (List Int×Bool)
 |0,_,_,_,_,_,_,_,_,_=>none
 |k+1,x0,x1,x6,x8,x9,x40,x41,x51,x52=>if x52<x51 then(if 0≤x52 then(if x52<(x6.length:Int) then(if 0≤(wrap64 (x52+1)) then(if(wrap64 (x52+1))<(x9.length:Int) then((impl_GfMul.f k (rd x6 x52) x8).bind fun t300=>(impl_RsCode.l1 k x0 x1 x6 x8 (x9.set ((wrap64 (x52+1)):Int).toNat (Go.bits .xor .i64 (rd x9 (wrap64 (x52+1))) t300)) x40 x41 x51 (wrap64 (x52+1)))) else(none)) else(none)) else(none)) else(none)) else(impl_RsCode.l0 k x0 x1 x9 x40 (wrap64 (x41+1)))
def impl_RsCode.l2:Nat→List Int→List Int→List Int→List Int→Int→Int→Option (List Int×Bool)
 |0,_,_,_,_,_,_=>none
 |k+1,x0,x6,x12,x76,x77,x78=>if x78<x77 then(if 0≤x78 then(if x78<(x76.length:Int) then(if x78<(x12.length:Int) then(impl_RsCode.l2 k x0 x6 (x12.set (x78:Int).toNat (wrap64 (rd x76 x78))) x76 x77 (wrap64 (x78+1))) else(none)) else(none)) else(none)) else(impl_RsCode.l3 k x0 x6 x12 (x0.length:Int) 0)
def impl_RsCode.l3:Nat→List Int→List Int→List Int→Int→Int→Option (List Int×Bool)
 |0,_,_,_,_,_=>none
 |k+1,x0,x6,x12,x90,x91=>if x91<x90 then(if 0≤x91 then(if x91<(x12.length:Int) then(impl_RsCode.l4 k x0 x6 x12 x91 (rd x12 x91) x90 x91 (x6.length:Int) 0) else(none)) else(none)) else((slices_Clone_byte_byte.f x0).bind fun t312=>(if 0≤(x0.length:Int) then(if(x0.length:Int)≤(x12.length:Int) then((some (x12.drop ((x0.length:Int):Int).toNat:List Int)).bind fun y315=>(impl_RsCode.l5 k t312 y315 (y315.length:Int) 0)) else(none)) else(none)))
def impl_RsCode.l4:Nat→List Int→List Int→List Int→Int→Int→Int→Int→Int→Int→Option (List Int×Bool)
 |0,_,_,_,_,_,_,_,_,_=>none
 |k+1,x0,x6,x12,x15,x16,x90,x91,x99,x100=>if x100<x99 then(if 0≤x100 then(if x100<(x6.length:Int) then(if 0≤(wrap64 (x15+x100)) then(if(wrap64 (x15+x100))<(x12.length:Int) then((impl_GfMul.f k (rd x6 x100) x16).bind fun t310=>(impl_RsCode.l4 k x0 x6 (x12.set ((wrap64 (x15+x100)):Int).toNat (Go.bits .xor .i64 (rd x12 (wrap64 (x15+x100))) t310)) x15 x16 x90 x91 x99 (wrap64 (x100+1)))) else(none)) else(none)) else(none)) else(none)) else(impl_RsCode.l3 k x0 x6 x12 x90 (wrap64 (x91+1)))
def impl_RsCode.l5:Nat→List Int→List Int→Int→Int→Option (List Int×Bool)
 |0,_,_,_,_=>none
 |k+1,x19,x123,x124,x125=>if x125<x124 then(if 0≤x125 then(if x125<(x123.length:Int) then(if x19.length<140737488355328 then(impl_RsCode.l5 k (x19++[(rd x123 x125)%256]) x123 x124 (wrap64 (x125+1))) else(none)) else(none)) else(none)) else(some (x19,true))
end
def impl_RsCode.f (k:Nat) (l0:List Int) (a1:Int):Option (List Int×Bool):=(impl_isMend.f a1).bind fun t287=>(if t287=true then(if(l0.length:Int)<1 then(impl_RsCode.j0 k l0 a1 true) else(impl_RsCode.j0 k l0 a1 (decide ((l0.length:Int)>(wrap64 (255-(wrap64 (2*a1)))))))) else(impl_RsCode.j0 k l0 a1 true))
def impl_RsCode.T12:Bool×List (List Nat×List Nat):=(true,[([],[]),([],[]),([1],[1]),([0,2],[0,2]),([3],[3]),([],[]),([],[]),([5,6],[5,6]),([4,7],[4,7]),([0,2,0,1,2,3,4,5,6,7,8],[0,2]),([9,8,7,0,1,2,3,4,5,6,7,8],[8,9])])
def impl_RsCode.B12:List Nat:=[0,0,2,7,15,0,0,96,255,511,1023]
theorem impl_RsCode.tab12:rtab .any (opsOf Try.f38 12)=impl_RsCode.T12:=by kernel_rfl
theorem impl_RsCode.bits12:waitsOk impl_RsCode.T12.2 impl_RsCode.B12=true:=by kernel_rfl
def impl_RsCode.T29:Bool×List (List Nat×List Nat):=(true,[([],[]),([],[]),([],[]),([1,2],[1,2]),([0,3],[0,3]),([4],[4]),([],[]),([],[]),([6,7],[6,7]),([5,8],[5,8]),([0,3,0,1,2,3,4,5,6,7,8,9],[0,3]),([10,9,8,0,1,2,3,4,5,6,7,8,9],[9,10])])
def impl_RsCode.B29:List Nat:=[0,0,0,6,15,31,0,0,192,511,1023,2047]
theorem impl_RsCode.tab29:rtab .any (opsOf Try.f38 29)=impl_RsCode.T29:=by kernel_rfl
theorem impl_RsCode.bits29:waitsOk impl_RsCode.T29.2 impl_RsCode.B29=true:=by kernel_rfl
theorem impl_RsCode.calls (k:Nat) (A0:Option Addr) (c0:Nat) (l0:List Int) (a1:Int) (r1:List Int) (r2:Bool) (w:World) (hr0:Kd.C (Kd.int .u8) w A0 l0.length l0) (hc0:l0.length≤c0) (H:impl_RsCode.f k l0 a1=some (r1,r2)):
 Calls Try.prog 38 #[.slice A0 l0.length c0, .int .i64 a1] w fun e w'=>∃v0_:Value,e= .returned (.tuple #[v0_, .bool r2])∧Kd.R (Kd.int .u8) 5 w' w.heap.size (fun _=>True) v0_ r1∧Below w.heap.size w w':=by
 have HR0:=zM hr0
 have HC0:=zM hc0
 clear hr0 hc0
 have HB:=zM (Below.refl w.heap.size w)
 unfold impl_RsCode.f at H
 have HC3:=zM H
 clear H
 go_enter Try.func38,Try.ntmps38
 go_upto_region 1 with(fail)
 go_cut [37] (fun v37 wc=>∃(kq:Nat) (x37_2:Bool),v37= .bool x37_2∧Aside0 (impl_RsCode.j0 kq l0 a1 x37_2=some (r1,r2))∧Aside0 (kq≤k)∧Aside0 (Below w.heap.size w wc))
 case first=>
  have H:=HC3.out
  clear HC3
  replace H:=zP H
  obtain⟨t287,A4,H⟩:=H
  by_cases c5:t287=true
  case neg=>
   replace c5:=Bool.eq_false_iff.mpr c5
   subst c5
   rw[if_neg zFT] at H
   have H':=zM H
   clear H
   go_wp2_with (first|((with_reducible refine gate_callee (f:=83) rfl ?_);refine goesL_ (some 23) rfl rfl Try.func83 ze rfl #[.int .i64 a1] rfl zg ?_;(with_reducible refine(impl_isMend.calls a1 false _ A4.out).mono ?_);rintro e w' ⟨rfl,⟨nd,rfl⟩⟩;refine⟨_,rfl,?_⟩))
   go_meet
   case rel=>exact⟨_,(true),zs,H',⟨zo⟩,⟨zb⟩⟩
  subst c5
  rw[if_pos rfl] at H
  replace H:=zI2 H
  rcases H with⟨c6,H⟩|⟨c6,H⟩
  case inl=>
   have c6b0:=zE c6
   have c6b1:decide (l0.length<1)=true:=zE (by omega)
   clear c6
   (first|rw[c6b0]|(simp only[i64_w,i32_w];rw[c6b0])|skip)
   have H':=zM H
   clear H
   go_wp2_with (first|((with_reducible refine gate_callee (f:=83) rfl ?_);refine goesL_ (some 23) rfl rfl Try.func83 ze rfl #[.int .i64 a1] rfl zg ?_;(with_reducible refine(impl_isMend.calls a1 true _ A4.out).mono ?_);rintro e w' ⟨rfl,⟨nd,rfl⟩⟩;refine⟨_,rfl,?_⟩))
   go_meet
   case rel=>exact⟨_,(true),zs,H',⟨zo⟩,⟨zb⟩⟩
  have c6b0:=decide_eq_false c6
  have c6b1:decide (l0.length<1)=false:=decide_eq_false (by omega)
  clear c6
  (first|rw[c6b0]|(simp only[i64_w,i32_w];rw[c6b0])|skip)
  have H':=zM H
  clear H
  go_wp2_with (first|((with_reducible refine gate_callee (f:=83) rfl ?_);refine goesL_ (some 23) rfl rfl Try.func83 ze rfl #[.int .i64 a1] rfl zg ?_;(with_reducible refine(impl_isMend.calls a1 true _ A4.out).mono ?_);rintro e w' ⟨rfl,⟨nd,rfl⟩⟩;refine⟨_,rfl,?_⟩))
  go_meet
  case rel=>exact⟨_,(decide ((l0.length:Int)>(wrap64 (255-(wrap64 (2*a1)))))),zs,H',⟨zo⟩,⟨zb⟩⟩
 case rest =>
  clear HC3
  obtain⟨kq,x37_2,rfl,HA,HJ2,HB⟩:=hcut
  cases kq with
  |zero=>exact absurd HA.out (by simp[impl_RsCode.j0])
  | succ kj2 =>
   have H:=HA.out
   clear HA
   simp only[impl_RsCode.j0] at H
   by_cases c7:x37_2=true
   case pos=>
    subst c7
    rw[if_pos rfl] at H
    simp only[Option.some.injEq,Prod.mk.injEq] at H
    obtain⟨rfl,rfl⟩:=H
    go_wp2
    go_ret2
    exact⟨_,zq,zz,zb⟩
   replace c7:=Bool.eq_false_iff.mpr c7
   subst c7
   rw[if_neg zFT] at H
   obtain⟨y288,hy288⟩:∃y_:List Int,y_=(([1]:List Int)):=⟨_,rfl⟩
   replace H:(impl_RsCode.l0 kj2 l0 a1 y288 (wrap64 (2*a1)) 0)=some (r1,r2):=zy hy288 H
   have Ny288:=zM hy288
   clear hy288
   have H':=zM H
   clear H
   go_wp2_with (first|((with_reducible refine gate_dst (N:=38) rfl ?_);(try(refine gate_guard (by rfl) ?_;dsimp only));refine Kd.R_lit (Kd.int .i64) _ 3 ?hg (N:=38) ?hd (xs:=([1]:List Int)) (inner:=[.int .i64 1]) (ok:=fun _=>True) (okp:=fun _=>True) ?hr ?hp (fun _ hk=>hk) trivial (Below.refl _ _) (Nat.le_refl _) (by simp) ?_;(case hd|hg=>rfl);(case hr=>exact zh);(case hp=>exact(Reps.one (show Kd.M (Kd.int .i64) _ _ _ 1 [.int .i64 1] from rfl) (Reps.none _ _)));intro v289 w8 ho9 hb hg_ hnew_;clear hg_ hnew_;(first|rw[←Ny288.out] at ho9|simp only[Int.reduceToNat,←Ny288.out] at ho9);refine zS2 (Kd.R_lower ho9 (below_size zb)) (below_step zb hb) ?_;clear HB;intro HO290 HB;clear hb ho9))
   (try simp only[Act.put,zL1,zL2,zL3])
   go_loopg [6,41] kj2 (fun kq v6 v41 w'=>∃(x6_2:List Int) (x41_2:Int),v41= .int .i64 x41_2∧Aside0 (impl_RsCode.l0 kq l0 a1 x6_2 (wrap64 (2*a1)) x41_2=some (r1,r2))∧Aside0 (kq≤kj2)∧Aside0 (Kd.R (Kd.int .i64) 3 w' w.heap.size (fun _=>True) v6 x6_2)∧Aside0 (Below w.heap.size w w'))
   case atStart=>exact⟨(y288),(0),zs,H',⟨Nat.le_refl _⟩,⟨zr HO290⟩,⟨zb⟩⟩
   case round=>
    clear H'
    obtain⟨x6_2,x41_2,rfl,HA,HK2,HO_6,HB⟩:=hrel
    cases gk with
    |zero=>exact absurd HA.out (by simp[impl_RsCode.l0])
    | succ k2=>
     have H:=HA.out
     clear HA
     simp only[impl_RsCode.l0] at H
     replace H:=zI2 H
     rcases H with⟨c10,H⟩|⟨c10,H⟩
     case inl=>
      have c10b0:=zE c10
      clear c10
      replace H:=zP H
      obtain⟨t291,A11,H⟩:=H
      replace H:=zP H
      obtain⟨t292,A12,H⟩:=H
      replace H:=zIM H
      obtain⟨LMc13,H⟩:=H
      obtain⟨y295,hy295⟩:∃y_:List Int,y_=(t292++[0]):=⟨_,rfl⟩
      replace H:(impl_RsCode.l1 k2 l0 a1 x6_2 t291 y295 (wrap64 (2*a1)) x41_2 (x6_2.length:Int) 0)=some (r1,r2):=zy hy295 H
      have Ny295:=zM hy295
      clear hy295
      have H':=zM H
      clear H
      go_wp2_with (first|((with_reducible refine gate_callee (f:=85) rfl ?_);refine goesL_ (some 45) rfl rfl Try.func85 ze rfl #[.int .i64 x41_2] rfl zg ?_;(with_reducible refine(impl_gfPow.calls k2 x41_2 t291 _ A11.out).mono ?_);rintro e w' ⟨rfl,⟨nd,rfl⟩⟩;refine⟨_,rfl,?_⟩;obtain⟨Ao14,co14,eo14⟩:=Kd.R_slice HO_6.out;subst eo14)|((with_reducible refine gate_callee (f:=86) rfl ?_);refine goesL_ (some 47) rfl rfl Try.func86 ze rfl #[.slice Ao14 x6_2.length co14] rfl zg ?_;(with_reducible refine(slices_Clone_int_int.calls _ _ x6_2 t292 _ ?side1 ?side2 A12.out).mono ?_);(case side1=>exact zc (Kd.R_reads' HO_6.out).2.2);(case side2=>exact(Kd.R_reads' HO_6.out).2.1);rintro e w15 ⟨v293,rfl,ho0,hb⟩;refine⟨_,rfl,?_⟩;refine zS3 (Kd.R_elder' (zr HO_6) (Kd.R_base ho0) hb) (Kd.R_lower (Kd.R_new' ho0 (Kd.R_lt (zr HO_6))) (below_size zb)) (below_step zb hb) ?_;clear HO_6 HB;intro HO_6 HO294 HB;(try clear hb);(try clear hb2);(try clear hk);(try clear hi);(try clear ho0))|((with_reducible refine gate_builtin (b:= .append) (xs:= #[.tmp 47, .tmp 48]) rfl ?_);(try(refine gate_guard (by rfl) ?_;dsimp only));at_builtin;refine Kd.R_append (Kd.int .i64) (w0:=w) w.heap.size rfl (.tmp 47) (.tmp 48) 46 3 (.int .i64 0) 8 rfl Try.underlying46 info3 rfl (by decide) (by omega) v293 t292 0 [.int .i64 0] (fun k_=>some k_≠(.slice Ao14 x6_2.length co14:Value).ownBlock) (fun _=>False) rfl rfl ?aP (fun _ hk=>hk.elim) ?aF ?aO ?aB ?aS ?aL ?_;(case aP=>exact rfl);(case aB=>exact zb);(case aF=>exact(fun k_ hk=>Kd.fresh' (Kd.R_lt (zr HO_6)) k_ hk));(case aO=>exact(by(with_reducible repeat(first|apply zRa|apply zRn|apply zRd));first|exact Kd.R_mono HO294.out (fun _ hk=>hk.2)|(subst_vars;exact Kd.R_mono HO294.out (fun _ hk=>hk.2))));(case aS=>exact(below_size zb));(case aL=>have:=LMc13.out;omega);intro v296 w16 ho hb hg hat;(first|rw[←Ny295.out] at ho|simp only[Int.reduceToNat,←Ny295.out] at ho);refine zS3 (Kd.R_after (ok:=(fun _=>True)) (zr HO_6) hg hat) (hb) (ho) ?_;clear HO_6 HB HO294;intro HO_6 HB HO297;clear ho hb hg hat))
      (try simp only[Act.put,zL1,zL2,zL3])
      go_loopg [52] k2 (fun kq v52 w'=>∃(x9_3:List Int) (x52_3:Int),v52= .int .i64 x52_3∧Aside0 (impl_RsCode.l1 kq l0 a1 x6_2 t291 x9_3 (wrap64 (2*a1)) x41_2 (x6_2.length:Int) x52_3=some (r1,r2))∧Aside0 (kq≤k2)∧Aside0 (Kd.R (Kd.int .i64) 3 w' w.heap.size (fun k_=>some k_≠(v296:Value).ownBlock) (.slice Ao14 x6_2.length co14) x6_2)∧Aside0 (Kd.R (Kd.int .i64) 3 w' w.heap.size (fun k_=>some k_≠((.slice Ao14 x6_2.length co14):Value).ownBlock) v296 x9_3)∧Aside0 (Below w.heap.size w w'))
      case atStart=>exact⟨(y295),(0),zs,H',⟨Nat.le_refl _⟩,⟨by(with_reducible repeat(first|apply zRa|apply zRn|apply zRd));first|exact Kd.R_mono HO_6.out (fun _ hk=>hk.2)|(subst_vars;exact Kd.R_mono HO_6.out (fun _ hk=>hk.2))⟩,⟨zr HO297⟩,⟨zb⟩⟩
      case round=>
       clear H'
       clear c10b0
       obtain⟨x9_3,x52_3,rfl,HA,HK3,HO_6,HO_9,HB⟩:=hrel
       cases gk with
       |zero=>exact absurd HA.out (by simp[impl_RsCode.l1])
       | succ k3=>
        have H:=HA.out
        clear HA
        simp only[impl_RsCode.l1] at H
        replace H:=zI2 H
        rcases H with⟨c17,H⟩|⟨c17,H⟩
        case inr=>
         have c17b0:=decide_eq_false c17
         clear c17
         have H':=zM H
         clear H
         go_wp2
         go_roundg k3
         case measure=>have:=HJ2.out;have:=HK2.out;have:=HK3.out;omega
         case rel=>exact⟨(x9_3),(wrap64 (x41_2+1)),zs,H',⟨by have:=HJ2.out;have:=HK2.out;have:=HK3.out;omega⟩,⟨by(with_reducible repeat(first|apply zRa|apply zRn|apply zRd));first|exact Kd.R_mono HO_9.out (fun _ hk=>trivial)|(subst_vars;exact Kd.R_mono HO_9.out (fun _ hk=>trivial))⟩,⟨zb⟩⟩
        have c17b0:=zE c17
        clear c17
        replace H:=zID H
        obtain⟨c18b0,H⟩:=H
        replace H:=zID H
        obtain⟨c19b0,H⟩:=H
        obtain⟨ji20,hji20⟩:∃j_:Int,(wrap64 (x52_3+1))=j_:=⟨_,rfl⟩
        first|rw[hji20] at H|simp only[hji20] at H
        have hji20w:(IntKind.i64.wrap (x52_3+1))=ji20:=(i64_w _).trans hji20
        replace H:=zID H
        obtain⟨c21b0,H⟩:=H
        replace H:=zID H
        obtain⟨c22b0,H⟩:=H
        replace H:=zP H
        obtain⟨t300,A23,H⟩:=H
        obtain⟨y301,hy301⟩:∃y_:List Int,y_=(x9_3.set ((ji20):Int).toNat (Go.bits .xor .i64 (rd x9_3 (ji20)) t300)):=⟨_,rfl⟩
        rw[←hy301] at H
        have Ny301:=zM hy301
        clear hy301
        have H':=zM H
        clear H
        have p298:0≤(x52_3:Int):=zT (by assumption)
        have q298:x52_3<(x6_2.length:Int):=zT (by assumption)
        obtain⟨ad298,e298,hx298_0⟩:=Kd.at_int (Kd.R_reads' HO_6.out).2.2 x52_3 p298 q298
        cases e298
        replace p298:=eq_true p298
        replace q298:=eq_true q298
        try go_wp2
        refine zS3 (zRd HO_6.out) (zRd HO_9.out) (zBd HB.out) ?_
        clear HO_6 HO_9 HB
        intro HO_6 HO_9 HB
        obtain⟨Ao26,co26,eo26⟩:=Kd.R_slice HO_9.out
        (first|subst eo26|(injection eo26 with f1_ f2_ f3_;have f4_:=f1_.symm;have f5_:=f3_.symm;clear f1_ f2_ f3_;subst f4_;subst f5_))
        have p299:0≤((ji20):Int):=zT (by assumption)
        have q299:(ji20)<(x9_3.length:Int):=zT (by assumption)
        obtain⟨ad299,e299,hx299_0⟩:=Kd.at_int (Kd.R_reads' HO_9.out).2.2 (ji20) p299 q299
        cases e299
        replace p299:=eq_true p299
        replace q299:=eq_true q299
        refine start_ (n:=11) (S:=fun w'=>w'.cell? (ad299.add ((ji20)).toNat)=some (.int .i64 (rd x9_3 (ji20)))) (ds:=[10]) #[zf,zf,zf,zf,zf,zf,zf,zf,zf,zf,zf] ze rfl rfl (hx299_0) (fun hHeld=> ?_);refine with_tabW impl_RsCode.tab12 impl_RsCode.bits12 (fun HT_ HW_=> ?_)
        generalize wr.drew=w25 at HO_6 HO_9 HB hx299_0 hHeld ⊢
        refine zu 0 57 ?_
        refine zu 1 58 ?_
        refine zu 2 59 ?_
        refine zu 3 60 ?_
        refine zu 5 62 ?_
        refine zu 6 63 ?_
        refine take_ (i:=4) (N:=some 61) (v:= ?_) (a':= ?_) #[zt,zt,zt,zt,zt,zt,zt,zf,zf,zf,zf] rfl rfl (take_ofW HT_.out HW_.out ze) (fun _ _ _ h=>h) (Or.inl ⟨by rfl,?_⟩) hHeld ?_ ?_
        rotate_left
        ·intro w' s0
         go_simp
         with_reducible rfl
        rotate_left
        ·simp only[Act.put,zL1,zL2,zL3,i64_w,i32_w]
         rfl
        refine one_ (i:=7) (N:=some 64) #[zt,zt,zt,zt,zt,zt,zt,zt,zf,zf,zf] rfl rfl (one_of HT_.out ze) (by decide) (fun K hK=> ?_)
        refine goes_ Try.func87 ze rfl #[.int .i64 (rd x6_2 x52_3), .int .i64 t291] (by rfl) rfl rfl zg ?_
        with_reducible refine(impl_GfMul.calls k3 (rd x6_2 x52_3) t291 t300 _ A23.out).mono ?_
        rintro e w' ⟨rfl,⟨nd,rfl⟩⟩
        refine⟨_,rfl,?_⟩
        have p24:0≤((ji20):Int):=zT (by assumption)
        have q24:((ji20):Int)<((x9_3.length:Int):Int):=zT (by assumption)
        obtain⟨go24,co24,eo24,gb24,gl24,cl24,HG24⟩:=Kd.R_form HO_9.out (by omega)
        (first|cases eo24|(injection eo24 with ea_ en_ ec_;(first|subst ea_|(injection ea_ with ea_;subst ea_));subst ec_;clear en_))
        have GB24:=zM gb24
        have GG24:=zM HG24
        clear gb24 gl24 HG24
        (first|simp only[add_plain] at hx299_0|skip)
        obtain⟨hx24_0,hf24_0⟩:=Kd.R_celln 0 HO_9.out ((ji20):Int) p24 q24
        replace p24:=eq_true p24
        replace q24:=eq_true q24
        have HP27:=Kd.R_putn HO_9.out ((ji20):Int) (Go.bits .xor .i64 (rd x9_3 (ji20)) t300)
        rw[←Ny301.out] at HP27
        have HQ27:=zM HP27
        clear HP27
        refine hK.out _ _ (hHeld) (fun hHeld=> ?_)
        clear hK K
        refine norm_ (a':= ?_) ?_ ?_
        rotate_left
        ·show Act.put _ (some 64) _=_
         simp only[Act.put,zL1,zL2,zL3,i64_w,i32_w]
         rfl
        refine zu 8 65 ?_
        refine zu 9 66 ?_
        refine last_ (i:=10) (N:=none) #[zt,zt,zt,zt,zt,zt,zt,zt,zt,zt,zt] rfl rfl (one_of HT_.out ze) (by decide) (fun K hK=> ?_)
        refine skip_ (w1:= ?_) (by rfl) rfl ?_ ?_
        rotate_left
        ·go_simp
         rfl
        refine hK.out _ _ ?_
        clear hK K
        refine done_ (done_of HT_.out ze) ?_
        try go_wp2
        go_roundg k3
        case measure=>have:=HJ2.out;have:=HK2.out;have:=HK3.out;omega
        case rel=>exact⟨(y301),(ji20),(by first|rfl|(simp;done)|(simp only[←hji20]<;>(first|rfl|simp))|(simp[*];done)),H',⟨by have:=HJ2.out;have:=HK2.out;have:=HK3.out;omega⟩,⟨by(with_reducible repeat(first|apply zRa|apply zRn|apply zRd));exact Kd.R_mono (Kd.R_far (p:=⟨go24,((ji20):Int).toNat,none⟩) (Kd.R_mono HO_6.out (fun k_ hk=>(⟨hk,fun e_=>hk (by rw[e_];rfl)⟩:_∧k_≠go24))) (fun _ hk=>hk.2) (.int .i64 (Go.bits .xor .i64 (rd x9_3 (ji20)) t300))) (fun _ hk=>hk.1)⟩,⟨zr HQ27⟩,⟨by repeat(first|(with_reducible first|exact HB.out|apply zBa|apply zBn|apply zBd|refine zBs ?_ GB24.out)|exact HB.out)⟩⟩
     have c10b0:=decide_eq_false c10
     clear c10
     obtain⟨ji28,hji28⟩:∃j_:Int,(wrap64 ((l0.length:Int)+(wrap64 (2*a1))))=j_:=⟨_,rfl⟩
     first|rw[hji28] at H|simp only[hji28] at H
     have hji28w:(IntKind.i64.wrap ((l0.length:Int)+(wrap64 (2*a1))))=ji28:=(i64_w _).trans hji28
     replace H:=zIN H
     obtain⟨c29,H⟩:=H
     have c29b0:=eq_true c29
     have c29b1:decide (0≤(ji28))=true:=zE c29
     clear c29
     replace H:=zIN H
     obtain⟨c30,H⟩:=H
     have c30b0:=eq_true c30
     have c30b1:decide ((ji28:Int).toNat≤35184372088832)=true:=zE c30
     clear c30
     obtain⟨y302,hy302⟩:∃y_:List Int,y_=(List.replicate (ji28:Int).toNat 0):=⟨_,rfl⟩
     rw[←hy302] at H
     have Ny302:=zM hy302
     clear hy302
     have H':=zM H
     clear H
     go_wp2_with (first|((with_reducible refine gate_dst (N:=75) rfl ?_);(try(refine gate_guard (by rfl) ?_;dsimp only));refine Kd.R_make (Kd.int .i64) _ 3 rfl (N:=75) rfl 46 _ _ rfl ji28 rfl rfl Try.underlying46 (.int .i64 0) 8 info3 rfl (by decide) (by omega) 0 (ok:=fun _=>True) (okp:=fun _=>True) rfl (fun _ hk=>hk) trivial (zT (by assumption)) (Nat.le_trans (Nat.mul_le_mul_right _ (zT (by assumption):ji28.toNat≤35184372088832)) (by omega)) (Below.refl _ _) (Nat.le_refl _) ?_;intro v303 w31 ho32 hb hg_ hnew_;clear hg_ hnew_;(first|rw[←Ny302.out] at ho32|simp only[Int.reduceToNat,←Ny302.out] at ho32);refine zS3 (Kd.R_elder' (zr HO_6) (Kd.R_base ho32) hb) (Kd.R_lower (Kd.R_new' ho32 (Kd.R_lt (zr HO_6))) (below_size zb)) (below_step zb hb) ?_;clear HO_6 HB;intro HO_6 HO304 HB;clear hb ho32))
     (try simp only[Act.put,zL1,zL2,zL3])
     go_loopg [78] k2 (fun kq v78 w'=>∃(x12_3:List Int) (x78_3:Int),v78= .int .i64 x78_3∧Aside0 (impl_RsCode.l2 kq l0 x6_2 x12_3 l0 (l0.length:Int) x78_3=some (r1,r2))∧Aside0 (kq≤k2)∧Aside0 (Kd.R (Kd.int .i64) 3 w' w.heap.size (fun k_=>some k_≠(v303:Value).ownBlock) u6 x6_2)∧Aside0 (Kd.R (Kd.int .i64) 3 w' w.heap.size (fun k_=>some k_≠(u6:Value).ownBlock) v303 x12_3)∧Aside0 (Below w.heap.size w w'))
     case atStart=>exact⟨(y302),(0),zs,H',⟨Nat.le_refl _⟩,⟨by(with_reducible repeat(first|apply zRa|apply zRn|apply zRd));first|exact Kd.R_mono HO_6.out (fun _ hk=>hk.2)|(subst_vars;exact Kd.R_mono HO_6.out (fun _ hk=>hk.2))⟩,⟨by(with_reducible repeat(first|apply zRa|apply zRn|apply zRd));first|exact Kd.R_mono HO304.out (fun _ hk=>hk.2)|(subst_vars;exact Kd.R_mono HO304.out (fun _ hk=>hk.2))⟩,⟨zb⟩⟩
     case round=>
      clear H'
      clear c10b0 c29b0 c29b1 c30b0 c30b1
      obtain⟨x12_3,x78_3,rfl,HA,HK3,HO_6,HO_12,HB⟩:=hrel
      cases gk with
      |zero=>exact absurd HA.out (by simp[impl_RsCode.l2])
      | succ k3=>
       have H:=HA.out
       clear HA
       simp only[impl_RsCode.l2] at H
       replace H:=zI2 H
       rcases H with⟨c33,H⟩|⟨c33,H⟩
       case inl=>
        have c33b0:=zE c33
        clear c33
        replace H:=zID H
        obtain⟨c34b0,H⟩:=H
        replace H:=zID H
        obtain⟨c35b0,H⟩:=H
        replace H:=zID H
        obtain⟨c36b0,H⟩:=H
        obtain⟨y306,hy306⟩:∃y_:List Int,y_=(x12_3.set (x78_3:Int).toNat (wrap64 (rd l0 x78_3))):=⟨_,rfl⟩
        rw[←hy306] at H
        have Ny306:=zM hy306
        clear hy306
        have H':=zM H
        clear H
        have p305:0≤(x78_3:Int):=zT (by assumption)
        have q305:x78_3<(l0.length:Int):=zT (by assumption)
        obtain⟨ad305,e305,hx305_0⟩:=Kd.at_int HR0.out x78_3 p305 q305
        cases e305
        replace hx305_0:=(HB.out.cell (zW w _ hx305_0)).trans hx305_0
        replace p305:=eq_true p305
        replace q305:=eq_true q305
        have p37:0≤(x78_3:Int):=zT (by assumption)
        have q37:(x78_3:Int)<((x12_3.length:Int):Int):=zT (by assumption)
        obtain⟨go37,co37,eo37,gb37,gl37,cl37,HG37⟩:=Kd.R_form HO_12.out (by omega)
        (first|cases eo37|(injection eo37 with ea_ en_ ec_;(first|subst ea_|(injection ea_ with ea_;subst ea_));subst ec_;clear en_))
        have GB37:=zM gb37
        have GG37:=zM HG37
        clear gb37 gl37 HG37
        obtain⟨hx37_0,hf37_0⟩:=Kd.R_celln 0 HO_12.out (x78_3:Int) p37 q37
        replace p37:=eq_true p37
        replace q37:=eq_true q37
        have HP38:=Kd.R_putg HO_12.out (x78_3:Int) (wrap64 (rd l0 x78_3))
        go_wp2_with (first|((with_reducible refine gate_store (t:=3) (p:=87) rfl ?_);refine store_event (t:=3) (p:=87) (v:= ?vo_w39) (w1:=(wr.setCell ⟨go37,(x78_3:Int).toNat,none⟩ (.int .i64 (wrap64 (rd l0 x78_3))))) ?hg ?ho ?hn ?hr ?_;(case ho=>rfl);(case hg=>rfl);(case hn=>rfl);(case hr=>exact zh);intro w39 hw;have hg:wr.grownBy w39 (some go37):=(by rw[hw];exact HP38.2);have hp_:Kd.R (Kd.int .i64) 3 w39 w.heap.size (fun k_=>some k_≠(u6:Value).ownBlock) (.slice (some ⟨go37,0,none⟩) x12_3.length co37) y306:=(by rw[hw,Ny306.out];exact HP38.1);clear HP38;refine zS3 (Kd.R_after (v:=(.slice (some ⟨go37,0,none⟩) x12_3.length co37)) (v1:=(.slice (some ⟨go37,0,none⟩) x12_3.length co37)) (ok:=(fun _=>True)) (by(with_reducible repeat(first|apply zRa|apply zRn|apply zRd));first|exact Kd.R_mono HO_6.out (fun _ hk=>⟨trivial,hk⟩)|(subst_vars;exact Kd.R_mono HO_6.out (fun _ hk=>⟨trivial,hk⟩))) hg (.inl rfl)) (hp_) ((by rw[hw];exact zBs (HB.out) GB37.out:Below w.heap.size w w39)) ?_;clear HO_6 HO_12 HB;intro HO_6 HO_12 HB;clear hg hw hp_))
        go_roundg k3
        case measure=>have:=HJ2.out;have:=HK2.out;have:=HK3.out;omega
        case rel=>exact⟨(y306),(wrap64 (x78_3+1)),zs,H',⟨by have:=HJ2.out;have:=HK2.out;have:=HK3.out;omega⟩,⟨by(with_reducible repeat(first|apply zRa|apply zRn|apply zRd));first|exact Kd.R_mono HO_6.out (fun _ hk=>hk.2)|(subst_vars;exact Kd.R_mono HO_6.out (fun _ hk=>hk.2))⟩,⟨zr HO_12⟩,⟨zb⟩⟩
       have c33b0:=decide_eq_false c33
       clear c33
       have H':=zM H
       clear H
       go_wp2
       (try simp only[Act.put,zL1,zL2,zL3])
       go_loopg [91] k3 (fun kq v91 w'=>∃(x12_4:List Int) (x91_4:Int),v91= .int .i64 x91_4∧Aside0 (impl_RsCode.l3 kq l0 x6_2 x12_4 (l0.length:Int) x91_4=some (r1,r2))∧Aside0 (kq≤k3)∧Aside0 (Kd.R (Kd.int .i64) 3 w' w.heap.size (fun k_=>some k_≠(v303:Value).ownBlock) u6 x6_2)∧Aside0 (Kd.R (Kd.int .i64) 3 w' w.heap.size (fun k_=>some k_≠(u6:Value).ownBlock) v303 x12_4)∧Aside0 (Below w.heap.size w w'))
       case atStart=>exact⟨(x12_3),(0),zs,H',⟨Nat.le_refl _⟩,⟨zr HO_6⟩,⟨zr HO_12⟩,⟨zb⟩⟩
       case round=>
        clear H'
        clear c33b0
        obtain⟨x12_4,x91_4,rfl,HA,HK4,HO_6,HO_12,HB⟩:=hrel
        cases gk with
        |zero=>exact absurd HA.out (by simp[impl_RsCode.l3])
        | succ k4=>
         have H:=HA.out
         clear HA
         simp only[impl_RsCode.l3] at H
         replace H:=zI2 H
         rcases H with⟨c40,H⟩|⟨c40,H⟩
         case inr=>
          have c40b0:=decide_eq_false c40
          clear c40
          replace H:=zP H
          obtain⟨t312,A55,H⟩:=H
          replace H:=zIN H
          obtain⟨c56,H⟩:=H
          have c56b0:=eq_true c56
          have c56b1:decide (0≤(l0.length:Int))=true:=zE c56
          clear c56
          replace H:=zIN H
          obtain⟨c57,H⟩:=H
          have c57b0:=eq_true c57
          have c57b1:decide ((l0.length:Int)≤(x12_4.length:Int))=true:=zE c57
          clear c57
          obtain⟨y315,hy315⟩:∃y_:List Int,y_=(x12_4.drop ((l0.length:Int):Int).toNat):=⟨_,rfl⟩
          rw[←hy315] at H
          have Ny315:=zM hy315
          clear hy315
          have H':=zM H
          clear H
          go_wp2_with (first|((with_reducible refine gate_callee (f:=88) rfl ?_);refine goesL_ (some 119) rfl rfl Try.func88 ze rfl #[.slice A0 l0.length c0] rfl zg ?_;(with_reducible refine(slices_Clone_byte_byte.calls _ _ l0 t312 _ ?side1 ?side2 A55.out).mono ?_);(case side1=>exact zc (Kd.C_below HR0.out HB.out));(case side2=>exact HC0.out);rintro e w58 ⟨v313,rfl,ho0,hb⟩;refine⟨_,rfl,?_⟩;refine zS4 (Kd.R_below (zr HO_6) hb) (Kd.R_below (zr HO_12) hb) (Kd.R_lower ho0 (below_size zb)) (below_step zb hb) ?_;clear HO_6 HO_12 HB;intro HO_6 HO_12 HO314 HB;(try clear hb);(try clear hb2);(try clear hk);(try clear hi);(try clear ho0);obtain⟨Ao60,co60,eo60⟩:=Kd.R_slice HO_12.out;subst eo60;have q59:((l0.length:Int):Int)≤((x12_4.length:Int):Int):=zT (by assumption);obtain⟨i059,hi059,_,hsz59,_⟩:=info_parts info3;have hroom59:x12_4.length≤co60:=(Kd.R_reads' HO_12.out).2.1;have hC59:Kd.C (Kd.int .i64) _ Ao60 x12_4.length x12_4:=(Kd.R_reads' HO_12.out).2.2;have q059:(0:Int)≤((l0.length:Int):Int):=zT (by assumption);have hcut59:=cut_from (P:=Try.prog) 46 3 .i64 Try.underlying46 hi059 1 hsz59 Ao60 x12_4.length co60 (l0.length:Int) q059 q59;have hr59:=Kd.C_drop (m:=((l0.length:Int):Int).toNat) (c:=co60) hC59 (by omega) hroom59;obtain⟨A59,hA59⟩:∃A1,A1=(if co60=((l0.length:Int):Int).toNat then Ao60 else(Ao60:Option Addr).map (·.add (((l0.length:Int):Int).toNat*1))):=⟨_,rfl⟩;obtain⟨c59,hc59⟩:∃c1,c1=co60-((l0.length:Int):Int).toNat:=⟨_,rfl⟩;have hy59:y315.length=x12_4.length-((l0.length:Int):Int).toNat:=(by rw[Ny315.out,List.length_drop]<;>omega);rw[show(x12_4).drop ((l0.length:Int):Int).toNat=y315 from Ny315.out.symm] at hr59;replace hr59:Kd.C (Kd.int .i64) _ A59 y315.length y315:=(by rw[hA59];exact hr59);rw[←hy59,←hA59,←hc59] at hcut59;have HR318:=zM hr59;have HC318:=zM (show y315.length≤c59 from by rw[hy59,hc59];exact Nat.sub_le_sub_right hroom59 _);clear hr59 hC59 hroom59 hi059 hsz59 hc59;have KY59:=zM hy59;have KA59:=zM hA59;clear hy59 hA59;have KL59:=zM (show((l0.length:Int):Int).toNat≤x12_4.length from by omega);replace q59:=eq_true q59))
          (try simp only[Act.put,zL1,zL2,zL3])
          go_loopg [19,125] k4 (fun kq v19 v125 w'=>∃(x19_5:List Int) (x125_5:Int),v125= .int .i64 x125_5∧Aside0 (impl_RsCode.l5 kq x19_5 y315 (y315.length:Int) x125_5=some (r1,r2))∧Aside0 (kq≤k4)∧Aside0 (Kd.R (Kd.int .u8) 5 w' w.heap.size (fun _=>True) v19 x19_5)∧Aside0 (Kd.R (Kd.int .i64) 3 w' w.heap.size (fun _=>True) (.slice Ao60 x12_4.length co60) x12_4)∧Aside0 (Below w.heap.size w w'))
          case atStart=>exact⟨(t312),(0),zs,H',⟨Nat.le_refl _⟩,⟨zr HO314⟩,⟨Kd.R_mono HO_12.out (fun _ _=>trivial)⟩,⟨zb⟩⟩
          case round=>
           clear H'
           clear c40b0 c56b0 c56b1 c57b0 c57b1 q59 q059
           obtain⟨x19_5,x125_5,rfl,HA,HK5,HO_19,HO_12,HB⟩:=hrel
           cases gk with
           |zero=>exact absurd HA.out (by simp[impl_RsCode.l5])
           | succ k5=>
            have H:=HA.out
            clear HA
            simp only[impl_RsCode.l5] at H
            replace H:=zI2 H
            rcases H with⟨c61,H⟩|⟨c61,H⟩
            case inr=>
             have c61b0:=decide_eq_false c61
             clear c61
             simp only[Option.some.injEq,Prod.mk.injEq] at H
             obtain⟨rfl,rfl⟩:=H
             go_wp2
             go_ret2
             exact⟨_,by first|rfl|(simp[errW_none,errW_some]<;>rfl)|(simp only[←hji28];first|rfl|(simp[errW_none,errW_some]<;>rfl))|(simp[*,errW_none,errW_some]<;>rfl),zr HO_19,zb⟩
            have c61b0:=zE c61
            clear c61
            replace H:=zID H
            obtain⟨c62b0,H⟩:=H
            replace H:=zID H
            obtain⟨c63b0,H⟩:=H
            replace H:=zIM H
            obtain⟨LMc64,H⟩:=H
            obtain⟨y320,hy320⟩:∃y_:List Int,y_=(x19_5++[(rd y315 x125_5)%256]):=⟨_,rfl⟩
            rw[←hy320] at H
            have Ny320:=zM hy320
            clear hy320
            have H':=zM H
            clear H
            have p319:0≤(x125_5:Int):=zT (by assumption)
            have q319:x125_5<(y315.length:Int):=zT (by assumption)
            have hr59:=Kd.C_drop (m:=((l0.length:Int):Int).toNat) (c:=co60) (Kd.R_reads' HO_12.out).2.2 (zl1 KL59) (Kd.R_reads' HO_12.out).2.1
            rw[show(x12_4).drop ((l0.length:Int):Int).toNat=y315 from Ny315.out.symm] at hr59
            replace hr59:Kd.C (Kd.int .i64) _ A59 y315.length y315:=(by rw[KA59.out];exact hr59)
            clear HR318
            have HR318:=zM hr59
            clear hr59
            obtain⟨ad319,e319,hx319_0⟩:=Kd.at_int HR318.out x125_5 p319 q319
            cases e319
            replace p319:=eq_true p319
            replace q319:=eq_true q319
            go_wp2_with (first|((with_reducible refine gate_builtin (b:= .append) (xs:= #[.tmp 129, .tmp 132]) rfl ?_);(try(refine gate_guard (by rfl) ?_;dsimp only));at_builtin;refine Kd.R_append (Kd.int .u8) (w0:=w) w.heap.size rfl (.tmp 129) (.tmp 132) 24 5 (.int .u8 0) 1 rfl Try.underlying24 info5 rfl (by decide) (by omega) u19 x19_5 ((rd y315 x125_5)%256) [.int .u8 ((rd y315 x125_5)%256)] (fun _=>True) (fun _=>False) rfl rfl ?aP (fun _ hk=>hk.elim) ?aF ?aO ?aB ?aS ?aL ?_;(case aP=>exact rfl);(case aB=>exact zb);(case aF=>exact(fun _ _=>trivial));(case aO=>exact(zr HO_19));(case aS=>exact(below_size zb));(case aL=>have:=LMc64.out;omega);intro v321 w65 ho hb hg hat;(first|rw[←Ny320.out] at ho|simp only[Int.reduceToNat,←Ny320.out] at ho);have n0_:=zM (hb);have n1_:=zM (ho);have n2_:=zM (Kd.R_drop (Kd.R_after (v:=u19) (v1:=v321) (ok:=fun _=>True) (Kd.R_mono (Kd.R_apartR HO_12.out HO_19.out (by decide)) (fun _ hk=>⟨trivial,hk.2⟩)) hg hat));clear HB;clear HO_12;clear HO_19;have HO_12:=n2_;clear n2_;have HB:=n0_;have HO322:=n1_;clear n0_ n1_;clear ho hb hg hat))
            go_roundg k5
            case measure=>have:=HJ2.out;have:=HK2.out;have:=HK3.out;have:=HK4.out;have:=HK5.out;omega
            case rel=>exact⟨(y320),(wrap64 (x125_5+1)),zs,H',⟨by have:=HJ2.out;have:=HK2.out;have:=HK3.out;have:=HK4.out;have:=HK5.out;omega⟩,⟨zr HO322⟩,⟨HO_12.out⟩,⟨zb⟩⟩
         have c40b0:=zE c40
         clear c40
         replace H:=zID H
         obtain⟨c41b0,H⟩:=H
         replace H:=zID H
         obtain⟨c42b0,H⟩:=H
         have H':=zM H
         clear H
         obtain⟨Ao43,co43,eo43⟩:=Kd.R_slice HO_12.out
         subst eo43
         have p307:0≤(x91_4:Int):=zT (by assumption)
         have q307:x91_4<(x12_4.length:Int):=zT (by assumption)
         obtain⟨ad307,e307,hx307_0⟩:=Kd.at_int (Kd.R_reads' HO_12.out).2.2 x91_4 p307 q307
         cases e307
         replace p307:=eq_true p307
         replace q307:=eq_true q307
         obtain⟨Ao44,co44,eo44⟩:=Kd.R_slice HO_6.out
         subst eo44
         go_wp2
         (try simp only[Act.put,zL1,zL2,zL3])
         go_loopg [100] k4 (fun kq v100 w'=>∃(x12_5:List Int) (x100_5:Int),v100= .int .i64 x100_5∧Aside0 (impl_RsCode.l4 kq l0 x6_2 x12_5 x91_4 (rd x12_4 x91_4) (l0.length:Int) x91_4 (x6_2.length:Int) x100_5=some (r1,r2))∧Aside0 (kq≤k4)∧Aside0 (Kd.R (Kd.int .i64) 3 w' w.heap.size (fun k_=>some k_≠((.slice (some ad307) x12_4.length co43):Value).ownBlock) (.slice Ao44 x6_2.length co44) x6_2)∧Aside0 (Kd.R (Kd.int .i64) 3 w' w.heap.size (fun k_=>some k_≠((.slice Ao44 x6_2.length co44):Value).ownBlock) (.slice (some ad307) x12_4.length co43) x12_5)∧Aside0 (Below w.heap.size w w'))
         case atStart=>exact⟨(x12_4),(0),zs,H',⟨Nat.le_refl _⟩,⟨zr HO_6⟩,⟨zr HO_12⟩,⟨zb⟩⟩
         case round=>
          clear H'
          clear c40b0 c41b0 c42b0 hx307_0 p307 q307
          obtain⟨x12_5,x100_5,rfl,HA,HK5,HO_6,HO_12,HB⟩:=hrel
          have hl12_5:=(Kd.R_reads' HO_12.out).1
          rw[hl12_5] at HO_12
          (try simp only[hl12_5])
          (try simp only[hl12_5] at HO_6)
          cases gk with
          |zero=>exact absurd HA.out (by simp[impl_RsCode.l4])
          | succ k5=>
           have H:=HA.out
           clear HA
           simp only[impl_RsCode.l4] at H
           replace H:=zI2 H
           rcases H with⟨c45,H⟩|⟨c45,H⟩
           case inr=>
            have c45b0:=decide_eq_false c45
            (try(have c45w_hl12_5:=c45b0;simp only[hl12_5] at c45w_hl12_5))
            clear c45
            have H':=zM H
            clear H
            go_wp2
            (try simp only[←hl12_5])
            go_roundg k5
            case measure=>have:=HJ2.out;have:=HK2.out;have:=HK3.out;have:=HK4.out;have:=HK5.out;omega
            case rel=>exact⟨(x12_5),(wrap64 (x91_4+1)),zs,H',⟨by have:=HJ2.out;have:=HK2.out;have:=HK3.out;have:=HK4.out;have:=HK5.out;omega⟩,⟨by(try simp only[hl12_5]);(with_reducible repeat(first|apply zRa|apply zRn|apply zRd));first|exact HO_6.out|(subst_vars;exact HO_6.out)⟩,⟨by(try simp only[hl12_5]);(with_reducible repeat(first|apply zRa|apply zRn|apply zRd));first|exact HO_12.out|(subst_vars;exact HO_12.out)⟩,⟨zb⟩⟩
           have c45b0:=zE c45
           (try(have c45w_hl12_5:=c45b0;simp only[hl12_5] at c45w_hl12_5))
           clear c45
           replace H:=zIN H
           obtain⟨c46,H⟩:=H
           have c46b0:decide (0≤x100_5)=true:=zE c46
           (try(have c46w_hl12_5:=c46b0;simp only[hl12_5] at c46w_hl12_5))
           clear c46
           replace H:=zIN H
           obtain⟨c47,H⟩:=H
           have c47b0:decide (x100_5<(x6_2.length:Int))=true:=zE c47
           (try(have c47w_hl12_5:=c47b0;simp only[hl12_5] at c47w_hl12_5))
           clear c47
           obtain⟨ji48,hji48⟩:∃j_:Int,(wrap64 (x91_4+x100_5))=j_:=⟨_,rfl⟩
           first|rw[hji48] at H|simp only[hji48] at H
           have hji48w:(IntKind.i64.wrap (x91_4+x100_5))=ji48:=(i64_w _).trans hji48
           replace H:=zIN H
           obtain⟨c49,H⟩:=H
           have c49b0:decide (0≤(ji48))=true:=zE c49
           (try(have c49w_hl12_5:=c49b0;simp only[hl12_5] at c49w_hl12_5))
           clear c49
           replace H:=zIN H
           obtain⟨c50,H⟩:=H
           have c50b0:decide ((ji48)<(x12_5.length:Int))=true:=zE c50
           (try(have c50w_hl12_5:=c50b0;simp only[hl12_5] at c50w_hl12_5))
           clear c50
           replace H:=zP H
           obtain⟨t310,A51,H⟩:=H
           obtain⟨y311,hy311⟩:∃y_:List Int,y_=(x12_5.set ((ji48):Int).toNat (Go.bits .xor .i64 (rd x12_5 (ji48)) t310)):=⟨_,rfl⟩
           rw[←hy311] at H
           have Ny311:=zM hy311
           clear hy311
           have H':=zM H
           clear H
           have p308:0≤(x100_5:Int):=zT (by assumption)
           have q308:x100_5<(x6_2.length:Int):=zT (by assumption)
           obtain⟨ad308,e308,hx308_0⟩:=Kd.at_int (Kd.R_reads' HO_6.out).2.2 x100_5 p308 q308
           cases e308
           replace p308:=eq_true p308
           replace q308:=eq_true q308
           try go_wp2
           refine zS3 (zRd HO_6.out) (zRd HO_12.out) (zBd HB.out) ?_
           clear HO_6 HO_12 HB
           intro HO_6 HO_12 HB
           have p309:0≤((ji48):Int):=zT (by assumption)
           have q309:(ji48)<(x12_5.length:Int):=zT (by assumption)
           obtain⟨ad309,e309,hx309_0⟩:=Kd.at_int (Kd.R_reads' HO_12.out).2.2 (ji48) p309 q309
           obtain rfl:ad307=ad309:=(by injection e309)
           replace p309:=eq_true p309
           replace q309:=eq_true q309
           refine start_ (n:=12) (S:=fun w'=>w'.cell? (ad307.add ((ji48)).toNat)=some (.int .i64 (rd x12_5 (ji48)))) (ds:=[11]) #[zf,zf,zf,zf,zf,zf,zf,zf,zf,zf,zf,zf] ze rfl rfl (hx309_0) (fun hHeld=> ?_);refine with_tabW impl_RsCode.tab29 impl_RsCode.bits29 (fun HT_ HW_=> ?_)
           generalize wr.drew=w53 at HO_6 HO_12 HB hx309_0 hHeld ⊢
           refine zu 0 105 ?_
           refine zu 1 106 ?_
           refine zu 2 107 ?_
           refine zu 3 108 ?_
           refine zu 4 109 ?_
           refine zu 6 111 ?_
           refine zu 7 112 ?_
           refine take_ (i:=5) (N:=some 110) (v:= ?_) (a':= ?_) #[zt,zt,zt,zt,zt,zt,zt,zt,zf,zf,zf,zf] rfl rfl (take_ofW HT_.out HW_.out ze) (fun _ _ _ h=>h) (Or.inl ⟨by rfl,?_⟩) hHeld ?_ ?_
           rotate_left
           ·intro w' s0
            go_simp
            with_reducible rfl
           rotate_left
           ·simp only[Act.put,zL1,zL2,zL3,i64_w,i32_w]
            rfl
           refine one_ (i:=8) (N:=some 113) #[zt,zt,zt,zt,zt,zt,zt,zt,zt,zf,zf,zf] rfl rfl (one_of HT_.out ze) (by decide) (fun K hK=> ?_)
           refine goes_ Try.func87 ze rfl #[.int .i64 (rd x6_2 x100_5), .int .i64 (rd x12_4 x91_4)] (by rfl) rfl rfl zg ?_
           with_reducible refine(impl_GfMul.calls k5 (rd x6_2 x100_5) (rd x12_4 x91_4) t310 _ A51.out).mono ?_
           rintro e w' ⟨rfl,⟨nd,rfl⟩⟩
           refine⟨_,rfl,?_⟩
           have p52:0≤((ji48):Int):=zT (by assumption)
           have q52:((ji48):Int)<((x12_5.length:Int):Int):=zT (by assumption)
           obtain⟨go52,co52,eo52,gb52,gl52,cl52,HG52⟩:=Kd.R_form HO_12.out (by omega)
           (first|cases eo52|(injection eo52 with ea_ en_ ec_;(first|subst ea_|(injection ea_ with ea_;subst ea_));subst ec_;clear en_))
           have GB52:=zM gb52
           have GG52:=zM HG52
           clear gb52 gl52 HG52
           (first|simp only[add_plain] at hx307_0|skip)
           (first|simp only[add_plain] at hx309_0|skip)
           obtain⟨hx52_0,hf52_0⟩:=Kd.R_celln 0 HO_12.out ((ji48):Int) p52 q52
           replace p52:=eq_true p52
           replace q52:=eq_true q52
           have HP54:=Kd.R_putn HO_12.out ((ji48):Int) (Go.bits .xor .i64 (rd x12_5 (ji48)) t310)
           rw[←Ny311.out] at HP54
           have HQ54:=zM HP54
           clear HP54
           refine hK.out _ _ (hHeld) (fun hHeld=> ?_)
           clear hK K
           refine norm_ (a':= ?_) ?_ ?_
           rotate_left
           ·show Act.put _ (some 113) _=_
            simp only[Act.put,zL1,zL2,zL3,i64_w,i32_w]
            rfl
           refine zu 9 114 ?_
           refine zu 10 115 ?_
           refine last_ (i:=11) (N:=none) #[zt,zt,zt,zt,zt,zt,zt,zt,zt,zt,zt,zt] rfl rfl (one_of HT_.out ze) (by decide) (fun K hK=> ?_)
           refine skip_ (w1:= ?_) (by rfl) rfl ?_ ?_
           rotate_left
           ·go_simp
            rfl
           refine hK.out _ _ ?_
           clear hK K
           refine done_ (done_of HT_.out ze) ?_
           try go_wp2
           (try simp only[←hl12_5])
           rw[show(⟨go52,(x91_4).toNat,none⟩:Addr)=(⟨go52,0,none⟩:Addr).add (x91_4).toNat from(by rw[add_plain])]
           go_roundg k5
           case measure=>have:=HJ2.out;have:=HK2.out;have:=HK3.out;have:=HK4.out;have:=HK5.out;omega
           case rel=>exact⟨(y311),(wrap64 (x100_5+1)),zs,H',⟨by have:=HJ2.out;have:=HK2.out;have:=HK3.out;have:=HK4.out;have:=HK5.out;omega⟩,⟨by(try simp only[hl12_5]);(with_reducible repeat(first|apply zRa|apply zRn|apply zRd));exact Kd.R_mono (Kd.R_far (p:=⟨go52,((ji48):Int).toNat,none⟩) (Kd.R_mono HO_6.out (fun k_ hk=>(⟨hk,fun e_=>hk (by rw[e_];rfl)⟩:_∧k_≠go52))) (fun _ hk=>hk.2) (.int .i64 (Go.bits .xor .i64 (rd x12_5 (ji48)) t310))) (fun _ hk=>hk.1)⟩,⟨by(try simp only[hl12_5]);(with_reducible repeat(first|apply zRa|apply zRn|apply zRd));first|exact HQ54.out|(subst_vars;exact HQ54.out)⟩,⟨by repeat(first|(with_reducible first|exact HB.out|apply zBa|apply zBn|apply zBd|refine zBs ?_ GB52.out)|exact HB.out)⟩⟩
end Go.Proofs.Ytapobpkeefeajaa.PFnModem
