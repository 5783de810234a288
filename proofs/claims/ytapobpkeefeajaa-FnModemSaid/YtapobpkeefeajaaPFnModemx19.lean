-- A turned copy of the print's text.
import Derived.Test.YtapobpkeefeajaaPFnModemx0
import Derived.Test.YtapobpkeefeajaaPFnModemx17
namespace Go.Proofs.Ytapobpkeefeajaa.PFnModem
open Go.RowKit Go.Proofs.YtapobpkeefeajaaW.PrintWords Go.Proofs.YtapobpkeefeajaaW.PrintLast Go.Proofs.YtapobpkeefeajaaW.PrintMore
attribute [local go_sem] max2_int min2_int max_two min_two max_three min_three max_four min_four
set_option maxHeartbeats 8000000
set_option maxRecDepth 100000
set_option linter.unusedVariables false
set_option linter.unusedSimpArgs false
mutual
def spec_Unpack8.j0:Nat→List Int→Int→List Int→Bool→Option (List Int×Bool)
 |0,_,_,_,_=>none
 |k+1,x0,x1,x6,x20=>if x20=true then(some (x6,false)) else(spec_Unpack8.l0 k x0 x1 x6 0)
def spec_Unpack8.l0:Nat→List Int→Int→List Int→Int→Option (List Int×Bool)
 |0,_,_,_,_=>none
 |k+1,x0,x1,x6,x7=>if x7<(wrap64 (8*(x0.length:Int))) then(if 0≤(wrap64 (Int.tdiv x7 8)) then(if(wrap64 (Int.tdiv x7 8))<(x0.length:Int) then(if 0≤(IntKind.u64.wrap (wrap64 (7-(Int.tmod x7 8)))) then(if x7≥x1 then(spec_Unpack8.j2 k x0 x1 x6 x7 (Int.tmod (wrap64 (shr .u8 (rd x0 (wrap64 (Int.tdiv x7 8))) (IntKind.u64.wrap (wrap64 (7-(Int.tmod x7 8)))))) 2) ((Int.tmod (wrap64 (shr .u8 (rd x0 (wrap64 (Int.tdiv x7 8))) (IntKind.u64.wrap (wrap64 (7-(Int.tmod x7 8)))))) 2)==1)) else(spec_Unpack8.j2 k x0 x1 x6 x7 (Int.tmod (wrap64 (shr .u8 (rd x0 (wrap64 (Int.tdiv x7 8))) (IntKind.u64.wrap (wrap64 (7-(Int.tmod x7 8)))))) 2) false)) else(none)) else(none)) else(none)) else(some (x6,true))
def spec_Unpack8.j2:Nat→List Int→Int→List Int→Int→Int→Bool→Option (List Int×Bool)
 |0,_,_,_,_,_,_=>none
 |k+1,x0,x1,x6,x7,x8,x47=>if x47=true then(some ((([]:List Int)),false)) else(if x7<x1 then(if x6.length<17592186044416 then(spec_Unpack8.l0 k x0 x1 (x6++[x8]) (wrap64 (x7+1))) else(none)) else(spec_Unpack8.l0 k x0 x1 x6 (wrap64 (x7+1))))
end
def spec_Unpack8.f (k:Nat) (l0:List Int) (a1:Int):Option (List Int×Bool):=(some (([]:List Int):List Int)).bind fun y326=>((spec_l1In.f a1 0 1024).bind fun t329=>(if t329=true then(spec_Unpack8.j0 k l0 a1 y326 ((l0.length:Int) != (wrap64 (Int.tdiv (wrap64 (a1+7)) 8)))) else(spec_Unpack8.j0 k l0 a1 y326 true)))
theorem spec_Unpack8.calls (k:Nat) (A0:Option Addr) (c0:Nat) (l0:List Int) (a1:Int) (r1:List Int) (r2:Bool) (w:World) (hr0:Kd.C (Kd.int .u8) w A0 l0.length l0) (hc0:l0.length≤c0) (H:spec_Unpack8.f k l0 a1=some (r1,r2)):
 Calls Try.prog 32 #[.slice A0 l0.length c0, .int .i64 a1] w fun e w'=>∃v0_:Value,e= .returned (.tuple #[v0_, .bool r2])∧Kd.R (Kd.int .i64) 3 w' w.heap.size (fun _=>True) v0_ r1∧Below w.heap.size w w':=by
 have HR0:=zM hr0
 have HC0:=zM hc0
 clear hr0 hc0
 have HB:=zM (Below.refl w.heap.size w)
 unfold spec_Unpack8.f at H
 replace H:=zY H
 obtain⟨y326,Ny326,H⟩:=H
 have HC3:=zM H
 clear H
 go_enter Try.func32,Try.ntmps32
 go_upto_region 2 with(first|((with_reducible refine gate_dst (N:=9) rfl ?_);(try(refine gate_guard (by rfl) ?_;dsimp only));refine Kd.R_lit (Kd.int .i64) _ 3 ?hg (N:=9) ?hd (xs:=([]:List Int)) (inner:=[]) (ok:=fun _=>True) (okp:=fun _=>True) ?hr ?hp (fun _ hk=>hk) trivial (Below.refl _ _) (Nat.le_refl _) (by simp) ?_;(case hd|hg=>rfl);(case hr=>exact zh);(case hp=>exact(Reps.none _ _));intro v327 w4 ho5 hb hg_ hnew_;clear hg_ hnew_;(first|rw[←Ny326.out] at ho5|simp only[Int.reduceToNat,←Ny326.out] at ho5);refine zS2 (Kd.R_lower ho5 (below_size zb)) (below_step zb hb) ?_;clear HB;intro HO328 HB;clear hb ho5))
 (try simp only[Act.put,zL1,zL2,zL3])
 go_cut [20] (fun v20 wc=>∃(kq:Nat) (x20_2:Bool),v20= .bool x20_2∧Aside0 (spec_Unpack8.j0 kq l0 a1 y326 x20_2=some (r1,r2))∧Aside0 (kq≤k)∧Aside0 (Kd.R (Kd.int .i64) 3 wc w.heap.size (fun _=>True) v327 y326)∧Aside0 (Below w.heap.size w wc))
 case first=>
  have H:=HC3.out
  clear HC3
  replace H:=zP H
  obtain⟨t329,A6,H⟩:=H
  by_cases c7:t329=true
  case neg=>
   replace c7:=Bool.eq_false_iff.mpr c7
   subst c7
   rw[if_neg zFT] at H
   have H':=zM H
   clear H
   go_wp2_with (first|((with_reducible refine gate_callee (f:=30) rfl ?_);refine goesL_ (some 11) rfl rfl Try.func30 ze rfl #[.int .i64 a1, .int .i64 0, .int .i64 1024] rfl zg ?_;(with_reducible refine(spec_l1In.calls a1 0 1024 false _ A6.out).mono ?_);rintro e w' ⟨rfl,⟨nd,rfl⟩⟩;refine⟨_,rfl,?_⟩))
   go_meet
   case rel=>exact⟨_,(true),zs,H',⟨zo⟩,⟨zr HO328⟩,⟨zb⟩⟩
  subst c7
  rw[if_pos rfl] at H
  have H':=zM H
  clear H
  go_wp2_with (first|((with_reducible refine gate_callee (f:=30) rfl ?_);refine goesL_ (some 11) rfl rfl Try.func30 ze rfl #[.int .i64 a1, .int .i64 0, .int .i64 1024] rfl zg ?_;(with_reducible refine(spec_l1In.calls a1 0 1024 true _ A6.out).mono ?_);rintro e w' ⟨rfl,⟨nd,rfl⟩⟩;refine⟨_,rfl,?_⟩))
  go_meet
  case rel=>exact⟨_,(((l0.length:Int) != (wrap64 (Int.tdiv (wrap64 (a1+7)) 8)))),zs,H',⟨zo⟩,⟨zr HO328⟩,⟨zb⟩⟩
 case rest=>
  clear HC3
  obtain⟨kq,x20_2,rfl,HA,HJ2,HO_6,HB⟩:=hcut
  cases kq with
  |zero=>exact absurd HA.out (by simp[spec_Unpack8.j0])
  | succ kj2=>
   have H:=HA.out
   clear HA
   simp only[spec_Unpack8.j0] at H
   by_cases c8:x20_2=true
   case pos=>
    subst c8
    rw[if_pos rfl] at H
    simp only[Option.some.injEq,Prod.mk.injEq] at H
    obtain⟨rfl,rfl⟩:=H
    go_wp2
    go_ret2
    exact⟨_,zq,zr HO_6,zb⟩
   replace c8:=Bool.eq_false_iff.mpr c8
   subst c8
   rw[if_neg zFT] at H
   have H':=zM H
   clear H
   go_wp2
   (try simp only[Act.put,zL1,zL2,zL3])
   go_loopg [6,7] kj2 (fun kq v6 v7 w'=>∃(x6_2:List Int) (x7_2:Int),v7= .int .i64 x7_2∧Aside0 (spec_Unpack8.l0 kq l0 a1 x6_2 x7_2=some (r1,r2))∧Aside0 (kq≤kj2)∧Aside0 (Kd.R (Kd.int .i64) 3 w' w.heap.size (fun _=>True) v6 x6_2)∧Aside0 (Below w.heap.size w w'))
   case atStart=>exact⟨(y326),(0),zs,H',⟨Nat.le_refl _⟩,⟨zr HO_6⟩,⟨zb⟩⟩
   case round=>
    clear H'
    obtain⟨x6_2,x7_2,rfl,HA,HK2,HO_6,HB⟩:=hrel
    cases gk with
    |zero=>exact absurd HA.out (by simp[spec_Unpack8.l0])
    | succ k2=>
     have H:=HA.out
     clear HA
     simp only[spec_Unpack8.l0] at H
     replace H:=zI2 H
     rcases H with⟨c9,H⟩|⟨c9,H⟩
     case inr=>
      have c9b0:=decide_eq_false c9
      clear c9
      simp only[Option.some.injEq,Prod.mk.injEq] at H
      obtain⟨rfl,rfl⟩:=H
      go_wp2
      go_ret2
      exact⟨_,zq,zr HO_6,zb⟩
     have c9b0:=zE c9
     clear c9
     obtain⟨ji10,hji10⟩:∃j_:Int,(wrap64 (Int.tdiv x7_2 8))=j_:=⟨_,rfl⟩
     first|rw[hji10] at H|simp only[hji10] at H
     have hji10w:(IntKind.i64.wrap (Int.tdiv x7_2 8))=ji10:=(i64_w _).trans hji10
     replace H:=zID H
     obtain⟨c11b0,H⟩:=H
     replace H:=zID H
     obtain⟨c12b0,H⟩:=H
     obtain⟨ji13,hji13⟩:∃j_:Int,(IntKind.u64.wrap (wrap64 (7-(Int.tmod x7_2 8))))=j_:=⟨_,rfl⟩
     first|rw[hji13] at H|simp only[hji13] at H
     replace H:=zIN H
     obtain⟨c14,H⟩:=H
     have c14b0:=eq_true c14
     have c14b1:decide (0≤(ji13))=true:=zE c14
     clear c14
     obtain⟨ji15,hji15⟩:∃j_:Int,(shr .u8 (rd l0 (ji10)) (ji13))=j_:=⟨_,rfl⟩
     first|rw[hji15] at H|simp only[hji15] at H
     have hji15_:((rd l0 (ji10)) / 2^min (ji13).toNat 8)=ji15:=hji15
     have hji15z:(ji13)≤8→((rd l0 (ji10)) / 2^(ji13).toNat)=ji15:=shr_small hji15
     have HC16:=zM H
     clear H
     have p330:0≤((ji10):Int):=zT (by assumption)
     have q330:(ji10)<(l0.length:Int):=zT (by assumption)
     obtain⟨ad330,e330,hx330_0⟩:=Kd.at_int HR0.out (ji10) p330 q330
     cases e330
     replace hx330_0:=(HB.out.cell (zW w _ hx330_0)).trans hx330_0
     replace p330:=eq_true p330
     replace q330:=eq_true q330
     go_upto_region 8 with(fail)
     go_cut [47] (fun v47 wc=>∃(kq:Nat) (x47_15:Bool),v47= .bool x47_15∧Aside0 (spec_Unpack8.j2 kq l0 a1 x6_2 x7_2 (Int.tmod (wrap64 (ji15)) 2) x47_15=some (r1,r2))∧Aside0 (kq≤k2)∧Aside0 (Kd.R (Kd.int .i64) 3 wc w.heap.size (fun _=>True) u6 x6_2)∧Aside0 (Below w.heap.size w wc))
     case first=>
      have H:=HC16.out
      clear HC16
      replace H:=zI2 H
      rcases H with⟨c17,H⟩|⟨c17,H⟩
      case inr=>
       have c17b0:decide (a1≤x7_2)=false:=decide_eq_false c17
       clear c17
       (first|rw[c17b0]|(simp only[i64_w,i32_w];rw[c17b0])|skip)
       have H':=zM H
       clear H
       go_wp2
       go_meet
       case rel=>exact⟨_,(false),zs,H',⟨by have:=HJ2.out;have:=HK2.out;first|omega|exact Nat.le_refl _⟩,⟨zr HO_6⟩,⟨zb⟩⟩
      have c17b0:decide (a1≤x7_2)=true:=zE c17
      clear c17
      (first|rw[c17b0]|(simp only[i64_w,i32_w];rw[c17b0])|skip)
      have H':=zM H
      clear H
      go_wp2
      go_meet
      case rel=>exact⟨_,(((Int.tmod (wrap64 (ji15)) 2)==1)),(by first|rfl|(simp;done)|(simp only[←hji15]<;>(first|rfl|simp))|(simp[*];done)),H',⟨by have:=HJ2.out;have:=HK2.out;first|omega|exact Nat.le_refl _⟩,⟨zr HO_6⟩,⟨zb⟩⟩
     case rest=>
      clear HC16
      clear c9b0 c11b0 c12b0 c14b0 c14b1 hx330_0 p330 q330
      obtain⟨kq,x47_15,rfl,HA,HJ15,HO_6,HB⟩:=hcut
      cases kq with
      |zero=>exact absurd HA.out (by simp[spec_Unpack8.j2])
      | succ kj15=>
       have H:=HA.out
       clear HA
       simp only[spec_Unpack8.j2] at H
       by_cases c18:x47_15=true
       case pos=>
        subst c18
        rw[if_pos rfl] at H
        obtain⟨y331,hy331⟩:∃y_:List Int,y_=(([]:List Int)):=⟨_,rfl⟩
        replace H:(some (y331,false))=some (r1,r2):=zy hy331 H
        have Ny331:=zM hy331
        clear hy331
        simp only[Option.some.injEq,Prod.mk.injEq] at H
        obtain⟨rfl,rfl⟩:=H
        go_wp2_with (first|((with_reducible refine gate_dst (N:=48) rfl ?_);(try(refine gate_guard (by rfl) ?_;dsimp only));refine Kd.R_lit (Kd.int .i64) _ 3 ?hg (N:=48) ?hd (xs:=([]:List Int)) (inner:=[]) (ok:=fun _=>True) (okp:=fun _=>True) ?hr ?hp (fun _ hk=>hk) trivial (Below.refl _ _) (Nat.le_refl _) (by simp) ?_;(case hd|hg=>rfl);(case hr=>exact zh);(case hp=>exact(Reps.none _ _));intro v332 w19 ho20 hb hg_ hnew_;clear hg_ hnew_;(first|rw[←Ny331.out] at ho20|simp only[Int.reduceToNat,←Ny331.out] at ho20);refine zS3 (Kd.R_elder' (zr HO_6) (Kd.R_base ho20) hb) (Kd.R_lower (Kd.R_new' ho20 (Kd.R_lt (zr HO_6))) (below_size zb)) (below_step zb hb) ?_;clear HO_6 HB;intro HO_6 HO333 HB;clear hb ho20))
        go_ret2
        exact⟨_,by first|rfl|(simp[errW_none,errW_some]<;>rfl)|(simp only[←hji10,←hji13,←hji15];first|rfl|(simp[errW_none,errW_some]<;>rfl))|(simp[*,errW_none,errW_some]<;>rfl),by(with_reducible repeat(first|apply zRa|apply zRn|apply zRd));first|exact Kd.R_mono HO333.out (fun _ hk=>trivial)|(subst_vars;exact Kd.R_mono HO333.out (fun _ hk=>trivial)),zb⟩
       replace c18:=Bool.eq_false_iff.mpr c18
       subst c18
       rw[if_neg zFT] at H
       replace H:=zI2 H
       rcases H with⟨c21,H⟩|⟨c21,H⟩
       case inr=>
        have c21b0:=decide_eq_false c21
        clear c21
        have H':=zM H
        clear H
        go_wp2
        go_roundg kj15
        case measure=>have:=HJ2.out;have:=HK2.out;have:=HJ15.out;omega
        case rel=>exact⟨(x6_2),(wrap64 (x7_2+1)),zs,H',⟨by have:=HJ2.out;have:=HK2.out;have:=HJ15.out;omega⟩,⟨zr HO_6⟩,⟨zb⟩⟩
       have c21b0:=zE c21
       clear c21
       replace H:=zIM H
       obtain⟨LMc22,H⟩:=H
       obtain⟨y334,hy334⟩:∃y_:List Int,y_=(x6_2++[(Int.tmod (wrap64 (ji15)) 2)]):=⟨_,rfl⟩
       rw[←hy334] at H
       have Ny334:=zM hy334
       clear hy334
       have H':=zM H
       clear H
       go_wp2_with (first|((with_reducible refine gate_builtin (b:= .append) (xs:= #[.tmp 52, .tmp 54]) rfl ?_);(try(refine gate_guard (by rfl) ?_;dsimp only));at_builtin;refine Kd.R_append (Kd.int .i64) (w0:=w) w.heap.size rfl (.tmp 52) (.tmp 54) 46 3 (.int .i64 0) 8 rfl Try.underlying46 info3 rfl (by decide) (by omega) u6 x6_2 (Int.tmod (wrap64 (ji15)) 2) [.int .i64 (Int.tmod (wrap64 (ji15)) 2)] (fun _=>True) (fun _=>False) rfl rfl ?aP (fun _ hk=>hk.elim) ?aF ?aO ?aB ?aS ?aL ?_;(case aP=>exact rfl);(case aB=>exact zb);(case aF=>exact(fun _ _=>trivial));(case aO=>exact(zr HO_6));(case aS=>exact(below_size zb));(case aL=>have:=LMc22.out;omega);intro v335 w23 ho hb hg hat;(first|rw[←Ny334.out] at ho|simp only[Int.reduceToNat,←Ny334.out] at ho);refine zS2 (hb) (ho) ?_;clear HB HO_6;intro HB HO336;clear ho hb hg hat))
       go_roundg kj15
       case measure=>have:=HJ2.out;have:=HK2.out;have:=HJ15.out;omega
       case rel=>exact⟨(y334),(wrap64 (x7_2+1)),zs,H',⟨by have:=HJ2.out;have:=HK2.out;have:=HJ15.out;omega⟩,⟨zr HO336⟩,⟨zb⟩⟩
mutual
def spec_l13Order.l0:Nat→Int→Int→Int→List Int→Int→Option (List Int)
 |0,_,_,_,_,_=>none
 |k+1,x0,x1,x5,x6,x7=>if x7<x5 then(spec_l13Order.l1 k x0 x1 x5 x6 x7 0) else(some x6)
def spec_l13Order.l1:Nat→Int→Int→Int→List Int→Int→Int→Option (List Int)
 |0,_,_,_,_,_,_=>none
 |k+1,x0,x1,x5,x6,x7,x8=>if x8<x1 then(if(wrap64 ((wrap64 (x8*x5))+x7))<x0 then(if x6.length<17592186044416 then(spec_l13Order.l1 k x0 x1 x5 (x6++[wrap64 ((wrap64 (x8*x5))+x7)]) x7 (wrap64 (x8+1))) else(none)) else(spec_l13Order.l1 k x0 x1 x5 x6 x7 (wrap64 (x8+1)))) else(spec_l13Order.l0 k x0 x1 x5 x6 (wrap64 (x7+1)))
end
def spec_l13Order.f (k:Nat) (a0:Int) (a1:Int):Option (List Int):=if a1=0 then(none) else(spec_l13Order.l0 k a0 a1 (wrap64 (Int.tdiv (wrap64 ((wrap64 (a0+a1))-1)) a1)) (([]:List Int)) 0)
theorem spec_l13Order.calls (k:Nat) (a0:Int) (a1:Int) (r:List Int) (w:World) (H:spec_l13Order.f k a0 a1=some r):
 Calls Try.prog 79 #[.int .i64 a0, .int .i64 a1] w fun e w'=>∃v0_:Value,e= .returned (v0_)∧Kd.R (Kd.int .i64) 3 w' w.heap.size (fun _=>True) v0_ r∧Below w.heap.size w w':=by
 have HB:=zM (Below.refl w.heap.size w)
 unfold spec_l13Order.f at H
 replace H:=zI2 H
 rcases H with⟨c3,H⟩|⟨c3,H⟩
 case inl=>
  exact absurd H (by simp)
 have c3b0:(a1==0)=false:=beq_eq_false_iff_ne.mpr c3
 have c3b1:(a1 != 0)=true:=bne_iff_ne.mpr c3
 obtain⟨y337,hy337⟩:∃y_:List Int,y_=(([]:List Int)):=⟨_,rfl⟩
 replace H:(spec_l13Order.l0 k a0 a1 (wrap64 (Int.tdiv (wrap64 ((wrap64 (a0+a1))-1)) a1)) y337 0)=some r:=zy hy337 H
 have Ny337:=zM hy337
 clear hy337
 have H':=zM H
 clear H
 go_enter Try.func79,Try.ntmps79
 go_wp2_with (first|((with_reducible refine gate_dst (N:=15) rfl ?_);refine Kd.R_lit (Kd.int .i64) _ 3 ?hg (N:=15) ?hd (xs:=([]:List Int)) (inner:=[]) (ok:=fun _=>True) (okp:=fun _=>True) ?hr ?hp (fun _ hk=>hk) trivial (Below.refl _ _) (Nat.le_refl _) (by simp) ?_;(case hd|hg=>rfl);(case hr=>exact zh);(case hp=>exact(Reps.none _ _));intro v338 w4 ho5 hb hg_ hnew_;clear hg_ hnew_;(first|rw[←Ny337.out] at ho5|simp only[Int.reduceToNat,←Ny337.out] at ho5);refine zS2 (Kd.R_lower ho5 (below_size zb)) (below_step zb hb) ?_;clear HB;intro HO339 HB;clear hb ho5))
 (try simp only[Act.put,zL1,zL2,zL3])
 go_loopg [6,7] k (fun kq v6 v7 w'=>∃(x6_1:List Int) (x7_1:Int),v7= .int .i64 x7_1∧Aside0 (spec_l13Order.l0 kq a0 a1 (wrap64 (Int.tdiv (wrap64 ((wrap64 (a0+a1))-1)) a1)) x6_1 x7_1=some r)∧Aside0 (kq≤k)∧Aside0 (Kd.R (Kd.int .i64) 3 w' w.heap.size (fun _=>True) v6 x6_1)∧Aside0 (Below w.heap.size w w'))
 case atStart=>exact⟨(y337),(0),zs,H',⟨Nat.le_refl _⟩,⟨zr HO339⟩,⟨zb⟩⟩
 case round=>
  clear H'
  clear c3 c3b0 c3b1
  obtain⟨x6_1,x7_1,rfl,HA,HK1,HO_6,HB⟩:=hrel
  cases gk with
  |zero=>exact absurd HA.out (by simp[spec_l13Order.l0])
  | succ k1=>
   have H:=HA.out
   clear HA
   simp only[spec_l13Order.l0] at H
   replace H:=zI2 H
   rcases H with⟨c6,H⟩|⟨c6,H⟩
   case inr=>
    have c6b0:=decide_eq_false c6
    clear c6
    obtain rfl:=zI H
    go_wp2
    go_ret
    exact⟨_,zq,zr HO_6,zb⟩
   have c6b0:=zE c6
   clear c6
   have H':=zM H
   clear H
   go_wp2
   (try simp only[Act.put,zL1,zL2,zL3])
   go_loopg [6,8] k1 (fun kq v6 v8 w'=>∃(x6_2:List Int) (x8_2:Int),v8= .int .i64 x8_2∧Aside0 (spec_l13Order.l1 kq a0 a1 (wrap64 (Int.tdiv (wrap64 ((wrap64 (a0+a1))-1)) a1)) x6_2 x7_1 x8_2=some r)∧Aside0 (kq≤k1)∧Aside0 (Kd.R (Kd.int .i64) 3 w' w.heap.size (fun _=>True) v6 x6_2)∧Aside0 (Below w.heap.size w w'))
   case atStart=>exact⟨(x6_1),(0),zs,H',⟨Nat.le_refl _⟩,⟨zr HO_6⟩,⟨zb⟩⟩
   case round=>
    clear H'
    clear c6b0
    obtain⟨x6_2,x8_2,rfl,HA,HK2,HO_6,HB⟩:=hrel
    cases gk with
    |zero=>exact absurd HA.out (by simp[spec_l13Order.l1])
    | succ k2=>
     have H:=HA.out
     clear HA
     simp only[spec_l13Order.l1] at H
     replace H:=zI2 H
     rcases H with⟨c7,H⟩|⟨c7,H⟩
     case inr=>
      have c7b0:=decide_eq_false c7
      clear c7
      have H':=zM H
      clear H
      go_wp2
      go_roundg k2
      case measure=>have:=HK1.out;have:=HK2.out;omega
      case rel=>exact⟨(x6_2),(wrap64 (x7_1+1)),zs,H',⟨zl2 HK1 HK2⟩,⟨zr HO_6⟩,⟨zb⟩⟩
     have c7b0:=zE c7
     clear c7
     replace H:=zI2 H
     rcases H with⟨c8,H⟩|⟨c8,H⟩
     case inr=>
      have c8b0:=decide_eq_false c8
      clear c8
      have H':=zM H
      clear H
      go_wp2
      go_roundg k2
      case measure=>have:=HK1.out;have:=HK2.out;omega
      case rel=>exact⟨(x6_2),(wrap64 (x8_2+1)),zs,H',⟨zl2 HK1 HK2⟩,⟨zr HO_6⟩,⟨zb⟩⟩
     have c8b0:=zE c8
     clear c8
     replace H:=zIM H
     obtain⟨LMc9,H⟩:=H
     obtain⟨y340,hy340⟩:∃y_:List Int,y_=(x6_2++[wrap64 ((wrap64 (x8_2*(wrap64 (Int.tdiv (wrap64 ((wrap64 (a0+a1))-1)) a1))))+x7_1)]):=⟨_,rfl⟩
     rw[←hy340] at H
     have Ny340:=zM hy340
     clear hy340
     have H':=zM H
     clear H
     go_wp2_with (first|((with_reducible refine gate_builtin (b:= .append) (xs:= #[.tmp 33, .tmp 39]) rfl ?_);at_builtin;refine Kd.R_append (Kd.int .i64) (w0:=w) w.heap.size rfl (.tmp 33) (.tmp 39) 46 3 (.int .i64 0) 8 rfl Try.underlying46 info3 rfl (by decide) (by omega) u6 x6_2 (wrap64 ((wrap64 (x8_2*(wrap64 (Int.tdiv (wrap64 ((wrap64 (a0+a1))-1)) a1))))+x7_1)) [.int .i64 (wrap64 ((wrap64 (x8_2*(wrap64 (Int.tdiv (wrap64 ((wrap64 (a0+a1))-1)) a1))))+x7_1))] (fun _=>True) (fun _=>False) rfl rfl ?aP (fun _ hk=>hk.elim) ?aF ?aO ?aB ?aS ?aL ?_;(case aP=>exact rfl);(case aB=>exact zb);(case aF=>exact(fun _ _=>trivial));(case aO=>exact(zr HO_6));(case aS=>exact(below_size zb));(case aL=>have:=LMc9.out;omega);intro v341 w10 ho hb hg hat;(first|rw[←Ny340.out] at ho|simp only[Int.reduceToNat,←Ny340.out] at ho);refine zS2 (hb) (ho) ?_;clear HB HO_6;intro HB HO342;clear ho hb hg hat))
     go_roundg k2
     case measure=>have:=HK1.out;have:=HK2.out;omega
     case rel=>exact⟨(y340),(wrap64 (x8_2+1)),zs,H',⟨zl2 HK1 HK2⟩,⟨zr HO342⟩,⟨zb⟩⟩
mutual
def spec_Weave.j0:Nat→List Int→Int→List Int→Bool→Option (List Int×Bool)
 |0,_,_,_,_=>none
 |k+1,x0,x1,x6,x17=>if x17=true then(some (x6,false)) else((spec_l13Order.f k (x0.length:Int) x1).bind fun t347=>(spec_Weave.l0 k x0 x6 t347 0))
def spec_Weave.l0:Nat→List Int→List Int→List Int→Int→Option (List Int×Bool)
 |0,_,_,_,_=>none
 |k+1,x0,x6,x7,x8=>if x8<(x7.length:Int) then(if 0≤x8 then(if 0≤(rd x7 x8) then(if(rd x7 x8)<(x0.length:Int) then(if x6.length<17592186044416 then(spec_Weave.l0 k x0 (x6++[rd x0 (rd x7 x8)]) x7 (wrap64 (x8+1))) else(none)) else(none)) else(none)) else(none)) else(some (x6,true))
end
def spec_Weave.f (k:Nat) (l0:List Int) (a1:Int):Option (List Int×Bool):=(some (([]:List Int):List Int)).bind fun y343=>(if(l0.length:Int)>1024 then(spec_Weave.j0 k l0 a1 y343 true) else((spec_l1In.f a1 1 64).bind fun t346=>(spec_Weave.j0 k l0 a1 y343 (!t346))))
theorem spec_Weave.calls (k:Nat) (A0:Option Addr) (c0:Nat) (l0:List Int) (a1:Int) (r1:List Int) (r2:Bool) (w:World) (hr0:Kd.C (Kd.int .i64) w A0 l0.length l0) (hc0:l0.length≤c0) (H:spec_Weave.f k l0 a1=some (r1,r2)):
 Calls Try.prog 33 #[.slice A0 l0.length c0, .int .i64 a1] w fun e w'=>∃v0_:Value,e= .returned (.tuple #[v0_, .bool r2])∧Kd.R (Kd.int .i64) 3 w' w.heap.size (fun _=>True) v0_ r1∧Below w.heap.size w w':=by
 have HR0:=zM hr0
 have HC0:=zM hc0
 clear hr0 hc0
 have HB:=zM (Below.refl w.heap.size w)
 unfold spec_Weave.f at H
 replace H:=zY H
 obtain⟨y343,Ny343,H⟩:=H
 have HC3:=zM H
 clear H
 go_enter Try.func33,Try.ntmps33
 go_upto_region 2 with(first|((with_reducible refine gate_dst (N:=9) rfl ?_);refine Kd.R_lit (Kd.int .i64) _ 3 ?hg (N:=9) ?hd (xs:=([]:List Int)) (inner:=[]) (ok:=fun _=>True) (okp:=fun _=>True) ?hr ?hp (fun _ hk=>hk) trivial (Below.refl _ _) (Nat.le_refl _) (by simp) ?_;(case hd|hg=>rfl);(case hr=>exact zh);(case hp=>exact(Reps.none _ _));intro v344 w4 ho5 hb hg_ hnew_;clear hg_ hnew_;(first|rw[←Ny343.out] at ho5|simp only[Int.reduceToNat,←Ny343.out] at ho5);refine zS2 (Kd.R_lower ho5 (below_size zb)) (below_step zb hb) ?_;clear HB;intro HO345 HB;clear hb ho5))
 (try simp only[Act.put,zL1,zL2,zL3])
 go_cut [17] (fun v17 wc=>∃(kq:Nat) (x17_2:Bool),v17= .bool x17_2∧Aside0 (spec_Weave.j0 kq l0 a1 y343 x17_2=some (r1,r2))∧Aside0 (kq≤k)∧Aside0 (Kd.R (Kd.int .i64) 3 wc w.heap.size (fun _=>True) v344 y343)∧Aside0 (Below w.heap.size w wc))
 case first=>
  have H:=HC3.out
  clear HC3
  replace H:=zI2 H
  rcases H with⟨c6,H⟩|⟨c6,H⟩
  case inl=>
   have c6b0:decide (1024<(l0.length:Int))=true:=zE c6
   have c6b1:decide (1024<l0.length)=true:=zE (by omega)
   clear c6
   (first|rw[c6b0]|(simp only[i64_w,i32_w];rw[c6b0])|skip)
   have H':=zM H
   clear H
   go_wp2
   go_meet
   case rel=>exact⟨_,(true),zs,H',⟨zo⟩,⟨zr HO345⟩,⟨zb⟩⟩
  have c6b0:decide (1024<(l0.length:Int))=false:=decide_eq_false c6
  have c6b1:decide (1024<l0.length)=false:=decide_eq_false (by omega)
  clear c6
  (first|rw[c6b0]|(simp only[i64_w,i32_w];rw[c6b0])|skip)
  replace H:=zP H
  obtain⟨t346,A7,H⟩:=H
  have H':=zM H
  clear H
  go_wp2_with (first|(go_at_call 30;(with_reducible refine(spec_l1In.calls a1 1 64 t346 _ A7.out).mono ?_);rintro e w' ⟨rfl,⟨nd,rfl⟩⟩))
  go_meet
  case rel=>exact⟨_,(!t346),zs,H',⟨zo⟩,⟨zr HO345⟩,⟨zb⟩⟩
 case rest=>
  clear HC3
  obtain⟨kq,x17_2,rfl,HA,HJ2,HO_6,HB⟩:=hcut
  cases kq with
  |zero=>exact absurd HA.out (by simp[spec_Weave.j0])
  | succ kj2=>
   have H:=HA.out
   clear HA
   simp only[spec_Weave.j0] at H
   by_cases c8:x17_2=true
   case pos=>
    subst c8
    rw[if_pos rfl] at H
    simp only[Option.some.injEq,Prod.mk.injEq] at H
    obtain⟨rfl,rfl⟩:=H
    go_wp2
    go_ret2
    exact⟨_,zq,zr HO_6,zb⟩
   replace c8:=Bool.eq_false_iff.mpr c8
   subst c8
   rw[if_neg zFT] at H
   replace H:=zP H
   obtain⟨t347,A9,H⟩:=H
   have H':=zM H
   clear H
   go_wp2_with (first|((with_reducible refine gate_callee (f:=79) rfl ?_);refine goesL_ (some 22) rfl rfl Try.func79 ze rfl #[.int .i64 (l0.length:Int), .int .i64 a1] rfl zg ?_;(with_reducible refine(spec_l13Order.calls kj2 (l0.length:Int) a1 t347 _ A9.out).mono ?_);rintro e w10 ⟨v348,rfl,ho0,hb⟩;refine⟨_,rfl,?_⟩;refine zS3 (Kd.R_elder' (zr HO_6) (Kd.R_base ho0) hb) (Kd.R_lower (Kd.R_new' ho0 (Kd.R_lt (zr HO_6))) (below_size zb)) (below_step zb hb) ?_;clear HO_6 HB;intro HO_6 HO349 HB;(try clear hb);(try clear hb2);(try clear hk);(try clear hi);(try clear ho0)))
   (try simp only[Act.put,zL1,zL2,zL3])
   go_loopg [6,8] kj2 (fun kq v6 v8 w'=>∃(x6_2:List Int) (x8_2:Int),v8= .int .i64 x8_2∧Aside0 (spec_Weave.l0 kq l0 x6_2 t347 x8_2=some (r1,r2))∧Aside0 (kq≤kj2)∧Aside0 (Kd.R (Kd.int .i64) 3 w' w.heap.size (fun k_=>some k_≠(v348:Value).ownBlock) v6 x6_2)∧Aside0 (Kd.R (Kd.int .i64) 3 w' w.heap.size (fun k_=>some k_≠(v6:Value).ownBlock) v348 t347)∧Aside0 (Below w.heap.size w w'))
   case atStart=>exact⟨(y343),(0),zs,H',⟨Nat.le_refl _⟩,⟨by(with_reducible repeat(first|apply zRa|apply zRn|apply zRd));first|exact Kd.R_mono HO_6.out (fun _ hk=>hk.2)|(subst_vars;exact Kd.R_mono HO_6.out (fun _ hk=>hk.2))⟩,⟨by(with_reducible repeat(first|apply zRa|apply zRn|apply zRd));first|exact Kd.R_mono HO349.out (fun _ hk=>hk.2)|(subst_vars;exact Kd.R_mono HO349.out (fun _ hk=>hk.2))⟩,⟨zb⟩⟩
   case round=>
    clear H'
    obtain⟨x6_2,x8_2,rfl,HA,HK2,HO_6,HO_7,HB⟩:=hrel
    cases gk with
    |zero=>exact absurd HA.out (by simp[spec_Weave.l0])
    | succ k2=>
     have H:=HA.out
     clear HA
     simp only[spec_Weave.l0] at H
     replace H:=zI2 H
     rcases H with⟨c11,H⟩|⟨c11,H⟩
     case inr=>
      have c11b0:=decide_eq_false c11
      clear c11
      simp only[Option.some.injEq,Prod.mk.injEq] at H
      obtain⟨rfl,rfl⟩:=H
      obtain⟨Ao18,co18,eo18⟩:=Kd.R_slice HO_7.out
      subst eo18
      go_wp2
      go_ret2
      exact⟨_,zq,by(with_reducible repeat(first|apply zRa|apply zRn|apply zRd));first|exact Kd.R_mono HO_6.out (fun _ hk=>trivial)|(subst_vars;exact Kd.R_mono HO_6.out (fun _ hk=>trivial)),zb⟩
     have c11b0:=zE c11
     clear c11
     replace H:=zID H
     obtain⟨c12b0,H⟩:=H
     replace H:=zID H
     obtain⟨c13b0,H⟩:=H
     replace H:=zID H
     obtain⟨c14b0,H⟩:=H
     replace H:=zIM H
     obtain⟨LMc15,H⟩:=H
     obtain⟨y352,hy352⟩:∃y_:List Int,y_=(x6_2++[rd l0 (rd t347 x8_2)]):=⟨_,rfl⟩
     rw[←hy352] at H
     have Ny352:=zM hy352
     clear hy352
     have H':=zM H
     clear H
     obtain⟨Ao16,co16,eo16⟩:=Kd.R_slice HO_7.out
     subst eo16
     have p350:0≤(x8_2:Int):=zT (by assumption)
     have q350:x8_2<(t347.length:Int):=zT (by assumption)
     obtain⟨ad350,e350,hx350_0⟩:=Kd.at_int (Kd.R_reads' HO_7.out).2.2 x8_2 p350 q350
     cases e350
     replace p350:=eq_true p350
     replace q350:=eq_true q350
     have p351:0≤((rd t347 x8_2):Int):=zT (by assumption)
     have q351:(rd t347 x8_2)<(l0.length:Int):=zT (by assumption)
     obtain⟨ad351,e351,hx351_0⟩:=Kd.at_int HR0.out (rd t347 x8_2) p351 q351
     cases e351
     replace hx351_0:=(HB.out.cell (zW w _ hx351_0)).trans hx351_0
     replace p351:=eq_true p351
     replace q351:=eq_true q351
     go_wp2_with (first|((with_reducible refine gate_builtin (b:= .append) (xs:= #[.tmp 29, .tmp 37]) rfl ?_);at_builtin;refine Kd.R_append (Kd.int .i64) (w0:=w) w.heap.size rfl (.tmp 29) (.tmp 37) 46 3 (.int .i64 0) 8 rfl Try.underlying46 info3 rfl (by decide) (by omega) u6 x6_2 (rd l0 (rd t347 x8_2)) [.int .i64 (rd l0 (rd t347 x8_2))] (fun k_=>some k_≠(.slice (some ad350) t347.length co16:Value).ownBlock) (fun _=>False) rfl rfl ?aP (fun _ hk=>hk.elim) ?aF ?aO ?aB ?aS ?aL ?_;(case aP=>exact rfl);(case aB=>exact zb);(case aF=>exact(fun k_ hk=>Kd.fresh' (Kd.R_lt (zr HO_7)) k_ hk));(case aO=>exact(zr HO_6));(case aS=>exact(below_size zb));(case aL=>have:=LMc15.out;omega);intro v353 w17 ho hb hg hat;(first|rw[←Ny352.out] at ho|simp only[Int.reduceToNat,←Ny352.out] at ho);refine zS3 (Kd.R_after (ok:=(fun _=>True)) (by(with_reducible repeat(first|apply zRa|apply zRn|apply zRd));first|exact Kd.R_mono HO_7.out (fun _ hk=>⟨trivial,hk⟩)|(subst_vars;exact Kd.R_mono HO_7.out (fun _ hk=>⟨trivial,hk⟩))) hg hat) (hb) (ho) ?_;clear HO_7 HB HO_6;intro HO_7 HB HO354;clear ho hb hg hat))
     go_roundg k2
     case measure=>have:=HJ2.out;have:=HK2.out;omega
     case rel=>exact⟨(y352),(wrap64 (x8_2+1)),zs,H',⟨zl2 HJ2 HK2⟩,⟨zr HO354⟩,⟨by(with_reducible repeat(first|apply zRa|apply zRn|apply zRd));first|exact Kd.R_mono HO_7.out (fun _ hk=>hk.2)|(subst_vars;exact Kd.R_mono HO_7.out (fun _ hk=>hk.2))⟩,⟨zb⟩⟩
def spec_BitsOk.l0:Nat→List Int→Int→Option (Bool)
 |0,_,_=>none
 |k+1,x0,x3=>if x3<(x0.length:Int) then(if 0≤x3 then((spec_l1In.f (rd x0 x3) 0 1).bind fun t356=>(if t356=true then(spec_BitsOk.l0 k x0 (wrap64 (x3+1))) else(some false))) else(none)) else(some (decide ((x0.length:Int)≤1024)))
def spec_BitsOk.f (k:Nat) (l0:List Int):Option (Bool):=spec_BitsOk.l0 k l0 0
theorem spec_BitsOk.calls (k:Nat) (A0:Option Addr) (c0:Nat) (l0:List Int) (r:Bool) (w:World) (hr0:Kd.C (Kd.int .i64) w A0 l0.length l0) (hc0:l0.length≤c0) (H:spec_BitsOk.f k l0=some r):
 Calls Try.prog 80 #[.slice A0 l0.length c0] w fun e w'=>e= .returned (.bool r)∧Drawn0 w w':=by
 have HR0:=zM hr0
 have HC0:=zM hc0
 clear hr0 hc0
 unfold spec_BitsOk.f at H
 have H':=zM H
 clear H
 go_enter Try.func80,Try.ntmps80
 go_wp2
 (try simp only[Act.put,zL1,zL2,zL3])
 go_loopg [3] k (fun kq v3 w'=>∃(x3_1:Int),v3= .int .i64 x3_1∧Aside0 (spec_BitsOk.l0 kq l0 x3_1=some r)∧Aside0 (kq≤k)∧Drawn0 w w')
 case atStart=>exact⟨(0),zs,H',⟨Nat.le_refl _⟩,zd⟩
 case round=>
  clear H'
  obtain⟨x3_1,rfl,HA,HK1,⟨m1,rfl⟩⟩:=hrel
  cases gk with
  |zero=>exact absurd HA.out (by simp[spec_BitsOk.l0])
  | succ k1=>
   have H:=HA.out
   clear HA
   simp only[spec_BitsOk.l0] at H
   replace H:=zI2 H
   rcases H with⟨c2,H⟩|⟨c2,H⟩
   case inr=>
    have c2b0:=decide_eq_false c2
    clear c2
    obtain rfl:=zI H
    go_wp2
    go_ret
    exact⟨zs,zd⟩
   have c2b0:=zE c2
   clear c2
   replace H:=zID H
   obtain⟨c3b0,H⟩:=H
   replace H:=zP H
   obtain⟨t356,A4,H⟩:=H
   by_cases c5:t356=true
   case neg=>
    replace c5:=Bool.eq_false_iff.mpr c5
    subst c5
    rw[if_neg zFT] at H
    obtain rfl:=zI H
    have p355:0≤(x3_1:Int):=zT (by assumption)
    have q355:x3_1<(l0.length:Int):=zT (by assumption)
    obtain⟨ad355,e355,hx355_0⟩:=Kd.at_int HR0.out x3_1 p355 q355
    cases e355
    replace p355:=eq_true p355
    replace q355:=eq_true q355
    go_wp2_with (first|((with_reducible refine gate_callee (f:=30) rfl ?_);refine goesL_ (some 14) rfl rfl Try.func30 ze rfl #[.int .i64 (rd l0 x3_1), .int .i64 0, .int .i64 1] rfl zg ?_;(with_reducible refine(spec_l1In.calls (rd l0 x3_1) 0 1 false _ A4.out).mono ?_);rintro e w' ⟨rfl,⟨nd,rfl⟩⟩;refine⟨_,rfl,?_⟩))
    go_ret
    exact⟨zs,zd⟩
   subst c5
   rw[if_pos rfl] at H
   have H':=zM H
   clear H
   have p355:0≤(x3_1:Int):=zT (by assumption)
   have q355:x3_1<(l0.length:Int):=zT (by assumption)
   obtain⟨ad355,e355,hx355_0⟩:=Kd.at_int HR0.out x3_1 p355 q355
   cases e355
   replace p355:=eq_true p355
   replace q355:=eq_true q355
   go_wp2_with (first|((with_reducible refine gate_callee (f:=30) rfl ?_);refine goesL_ (some 14) rfl rfl Try.func30 ze rfl #[.int .i64 (rd l0 x3_1), .int .i64 0, .int .i64 1] rfl zg ?_;(with_reducible refine(spec_l1In.calls (rd l0 x3_1) 0 1 true _ A4.out).mono ?_);rintro e w' ⟨rfl,⟨nd,rfl⟩⟩;refine⟨_,rfl,?_⟩))
   go_roundg k1
   case measure=>have:=HK1.out;omega
   case rel=>exact⟨(wrap64 (x3_1+1)),zs,H',⟨zl1 HK1⟩,zd⟩
end Go.Proofs.Ytapobpkeefeajaa.PFnModem
