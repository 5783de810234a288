-- A turned copy of the print's text.
import Derived.Test.YtapobpkeefeajaaPFnModemx0
import Derived.Test.YtapobpkeefeajaaPFnModemx17
namespace Go.Proofs.Ytapobpkeefeajaa.PFnModem
open Go.RowKit Go.Proofs.YtapobpkeefeajaaW.PrintWords Go.Proofs.YtapobpkeefeajaaW.PrintLast Go.Proofs.YtapobpkeefeajaaW.PrintMore
attribute [local go_sem] max2_int min2_int max_two min_two max_three min_three max_four min_four
set_option maxHeartbeats 8000000
set_option maxRecDepth 100000
set_option linter.unusedVariables false
set_option linter.unusedSimpArgs false
mutual
def spec_RsCode.j0:Nat→List Int→Int→Bool→Option (List Int×Bool)
 |0,_,_,_=>none
 |k+1,x0,x1,x27=>if x27=true then(some ((([]:List Int)),false)) else(spec_RsCode.l0 k x0 x1 (([1]:List Int)) 0)
def spec_RsCode.l0:Nat→List Int→Int→List Int→Int→Option (List Int×Bool)
 |0,_,_,_,_=>none
 |k+1,x0,x1,x6,x7=>if x7<(wrap64 (2*x1)) then((some (([]:List Int):List Int)).bind fun y280=>(if y280.length+x6.length<17592186044416 then((some (y280++x6:List Int)).bind fun y283=>(if y283.length<17592186044416 then(spec_RsCode.l1 k x0 x1 x6 x7 (y283++[0]) 0) else(none))) else(none))) else(if 0≤(wrap64 (2*x1)) then(if(wrap64 (2*x1):Int).toNat≤35184372088832 then(spec_RsCode.l2 k x0 x6 (List.replicate (wrap64 (2*x1):Int).toNat 0) 0) else(none)) else(none))
def spec_RsCode.l1:Nat→List Int→Int→List Int→Int→List Int→Int→Option (List Int×Bool)
 |0,_,_,_,_,_,_=>none
 |k+1,x0,x1,x6,x7,x8,x9=>if x9<(x6.length:Int) then(if 0≤(wrap64 (x9+1)) then(if(wrap64 (x9+1))<(x8.length:Int) then(if 0≤x9 then((spec_l14Pow.f k x7).bind fun t291=>((spec_GfMul.f k (rd x6 x9) t291).bind fun t292=>(spec_RsCode.l1 k x0 x1 x6 x7 (x8.set ((wrap64 (x9+1)):Int).toNat (Go.bits .xor .i64 (rd x8 (wrap64 (x9+1))) t292)) (wrap64 (x9+1))))) else(none)) else(none)) else(none)) else(spec_RsCode.l0 k x0 x1 x8 (wrap64 (x7+1)))
def spec_RsCode.l2:Nat→List Int→List Int→List Int→Int→Option (List Int×Bool)
 |0,_,_,_,_=>none
 |k+1,x0,x6,x10,x11=>if x11<(x0.length:Int) then(if 0<(x10.length:Int) then(if 0≤x11 then((some (([]:List Int):List Int)).bind fun y299=>(if 1≤(x10.length:Int) then((some (x10.drop 1:List Int)).bind fun y302=>(if y299.length+y302.length<17592186044416 then((some (y299++y302:List Int)).bind fun y306=>(if y306.length<17592186044416 then(spec_RsCode.l3 k x0 x6 (y306++[0]) x11 (Go.bits .xor .i64 (rd x10 0) (wrap64 (rd x0 x11))) 0) else(none))) else(none))) else(none))) else(none)) else(none)) else((some (([]:List Int):List Int)).bind fun y316=>(if y316.length+x0.length<140737488355328 then(spec_RsCode.l4 k x10 (y316++x0) 0) else(none)))
def spec_RsCode.l3:Nat→List Int→List Int→List Int→Int→Int→Int→Option (List Int×Bool)
 |0,_,_,_,_,_,_=>none
 |k+1,x0,x6,x10,x11,x12,x13=>if x13<(x10.length:Int) then(if 0≤x13 then(if 0≤(wrap64 (x13+1)) then(if(wrap64 (x13+1))<(x6.length:Int) then((spec_GfMul.f k x12 (rd x6 (wrap64 (x13+1)))).bind fun t314=>(spec_RsCode.l3 k x0 x6 (x10.set (x13:Int).toNat (Go.bits .xor .i64 (rd x10 x13) t314)) x11 x12 (wrap64 (x13+1)))) else(none)) else(none)) else(none)) else(spec_RsCode.l2 k x0 x6 x10 (wrap64 (x11+1)))
def spec_RsCode.l4:Nat→List Int→List Int→Int→Option (List Int×Bool)
 |0,_,_,_=>none
 |k+1,x10,x14,x15=>if x15<(x10.length:Int) then(if 0≤x15 then(if x14.length<140737488355328 then(spec_RsCode.l4 k x10 (x14++[(rd x10 x15)%256]) (wrap64 (x15+1))) else(none)) else(none)) else(some (x14,true))
end
def spec_RsCode.f (k:Nat) (l0:List Int) (a1:Int):Option (List Int×Bool):=(spec_l14Mend.f a1).bind fun t272=>(if t272=true then((spec_l1In.f (l0.length:Int) 1 (wrap64 (255-(wrap64 (2*a1))))).bind fun t273=>(spec_RsCode.j0 k l0 a1 (!t273))) else(spec_RsCode.j0 k l0 a1 true))
def spec_RsCode.T11:Bool×List (List Nat×List Nat):=(true,[([],[]),([],[]),([1],[1]),([],[]),([],[]),([4],[4]),([3,5],[3,5]),([6],[6]),([],[]),([],[]),([8,9],[8,9]),([10],[10]),([],[]),([12],[12]),([11,13,13],[11,13]),([7,14],[7,14]),([0,2,0,1,2,3,4,5,6,7,8,9,10,11,12,13,14,15],[0,2]),([16,15,14,0,1,2,3,4,5,6,7,8,9,10,11,12,13,14,15],[15,16])])
def spec_RsCode.B11:List Nat:=[0,0,2,0,0,16,56,120,0,0,768,1792,0,4096,16128,32760,65535,131071]
theorem spec_RsCode.tab11:rtab .any (opsOf Try.f31 11)=spec_RsCode.T11:=by kernel_rfl
theorem spec_RsCode.bits11:waitsOk spec_RsCode.T11.2 spec_RsCode.B11=true:=by kernel_rfl
def spec_RsCode.T17:Bool×List (List Nat×List Nat):=(true,[([],[]),([0],[0]),([1],[1]),([],[]),([],[]),([3,4],[3,4]),([5],[5]),([6],[6]),([2,7],[2,7]),([8,0,1,2,3,4,5,6,7,8],[8])])
def spec_RsCode.B17:List Nat:=[0,1,3,0,0,24,56,120,255,511]
theorem spec_RsCode.tab17:rtab .any (opsOf Try.f31 17)=spec_RsCode.T17:=by kernel_rfl
theorem spec_RsCode.bits17:waitsOk spec_RsCode.T17.2 spec_RsCode.B17=true:=by kernel_rfl
def spec_RsCode.T22:Bool×List (List Nat×List Nat):=(true,[([],[]),([],[]),([],[]),([],[]),([2,3],[2,3]),([4],[4]),([],[]),([],[]),([],[]),([8],[8]),([7,9],[7,9]),([10],[10]),([6,11],[6,11]),([5,12],[5,12]),([0,1,0,1,2,3,4,5,6,7,8,9,10,11,12,13],[0,1]),([14,13,12,0,1,2,3,4,5,6,7,8,9,10,11,12,13],[13,14])])
def spec_RsCode.B22:List Nat:=[0,0,0,0,12,28,0,0,0,256,896,1920,4032,8188,16383,32767]
theorem spec_RsCode.tab22:rtab .any (opsOf Try.f31 22)=spec_RsCode.T22:=by kernel_rfl
theorem spec_RsCode.bits22:waitsOk spec_RsCode.T22.2 spec_RsCode.B22=true:=by kernel_rfl
theorem spec_RsCode.calls (k:Nat) (A0:Option Addr) (c0:Nat) (l0:List Int) (a1:Int) (r1:List Int) (r2:Bool) (w:World) (hr0:Kd.C (Kd.int .u8) w A0 l0.length l0) (hc0:l0.length≤c0) (H:spec_RsCode.f k l0 a1=some (r1,r2)):
 Calls Try.prog 31 #[.slice A0 l0.length c0, .int .i64 a1] w fun e w'=>∃v0_:Value,e= .returned (.tuple #[v0_, .bool r2])∧Kd.R (Kd.int .u8) 5 w' w.heap.size (fun _=>True) v0_ r1∧Below w.heap.size w w':=by
 have HR0:=zM hr0
 have HC0:=zM hc0
 clear hr0 hc0
 have HB:=zM (Below.refl w.heap.size w)
 unfold spec_RsCode.f at H
 have HC3:=zM H
 clear H
 go_enter Try.func31,Try.ntmps31
 go_upto_region 1 with(fail)
 go_cut [27] (fun v27 wc=>∃(kq:Nat) (x27_2:Bool),v27= .bool x27_2∧Aside0 (spec_RsCode.j0 kq l0 a1 x27_2=some (r1,r2))∧Aside0 (kq≤k)∧Aside0 (Below w.heap.size w wc))
 case first=>
  have H:=HC3.out
  clear HC3
  replace H:=zP H
  obtain⟨t272,A4,H⟩:=H
  by_cases c5:t272=true
  case neg=>
   replace c5:=Bool.eq_false_iff.mpr c5
   subst c5
   rw[if_neg zFT] at H
   have H':=zM H
   clear H
   go_wp2_with (first|((with_reducible refine gate_callee (f:=76) rfl ?_);refine goesL_ (some 17) rfl rfl Try.func76 ze rfl #[.int .i64 a1] rfl zg ?_;(with_reducible refine(spec_l14Mend.calls a1 false _ A4.out).mono ?_);rintro e w' ⟨rfl,⟨nd,rfl⟩⟩;refine⟨_,rfl,?_⟩))
   go_meet
   case rel=>exact⟨_,(true),zs,H',⟨zo⟩,⟨zb⟩⟩
  subst c5
  rw[if_pos rfl] at H
  replace H:=zP H
  obtain⟨t273,A6,H⟩:=H
  have H':=zM H
  clear H
  go_wp2_with (first|((with_reducible refine gate_callee (f:=76) rfl ?_);refine goesL_ (some 17) rfl rfl Try.func76 ze rfl #[.int .i64 a1] rfl zg ?_;(with_reducible refine(spec_l14Mend.calls a1 true _ A4.out).mono ?_);rintro e w' ⟨rfl,⟨nd,rfl⟩⟩;refine⟨_,rfl,?_⟩)|(go_at_call 30;(with_reducible refine(spec_l1In.calls (l0.length:Int) 1 (wrap64 (255-(wrap64 (2*a1)))) t273 _ A6.out).mono ?_);rintro e w' ⟨rfl,⟨nd,rfl⟩⟩))
  go_meet
  case rel=>exact⟨_,(!t273),zs,H',⟨zo⟩,⟨zb⟩⟩
 case rest =>
  clear HC3
  obtain⟨kq,x27_2,rfl,HA,HJ2,HB⟩:=hcut
  cases kq with
  |zero=>exact absurd HA.out (by simp[spec_RsCode.j0])
  | succ kj2=>
   have H:=HA.out
   clear HA
   simp only[spec_RsCode.j0] at H
   by_cases c7:x27_2=true
   case pos=>
    subst c7
    rw[if_pos rfl] at H
    obtain⟨y274,hy274⟩:∃y_:List Int,y_=(([]:List Int)):=⟨_,rfl⟩
    replace H:(some (y274,false))=some (r1,r2):=zy hy274 H
    have Ny274:=zM hy274
    clear hy274
    simp only[Option.some.injEq,Prod.mk.injEq] at H
    obtain⟨rfl,rfl⟩:=H
    go_wp2_with (first|((with_reducible refine gate_dst (N:=28) rfl ?_);(try(refine gate_guard (by rfl) ?_;dsimp only));refine Kd.R_lit (Kd.int .u8) _ 5 ?hg (N:=28) ?hd (xs:=([]:List Int)) (inner:=[]) (ok:=fun _=>True) (okp:=fun _=>True) ?hr ?hp (fun _ hk=>hk) trivial (Below.refl _ _) (Nat.le_refl _) (by simp) ?_;(case hd|hg=>rfl);(case hr=>exact zh);(case hp=>exact(Reps.none _ _));intro v275 w8 ho9 hb hg_ hnew_;clear hg_ hnew_;(first|rw[←Ny274.out] at ho9|simp only[Int.reduceToNat,←Ny274.out] at ho9);refine zS2 (Kd.R_lower ho9 (below_size zb)) (below_step zb hb) ?_;clear HB;intro HO276 HB;clear hb ho9))
    go_ret2
    exact⟨_,zq,zr HO276,zb⟩
   replace c7:=Bool.eq_false_iff.mpr c7
   subst c7
   rw[if_neg zFT] at H
   obtain⟨y277,hy277⟩:∃y_:List Int,y_=(([1]:List Int)):=⟨_,rfl⟩
   replace H:(spec_RsCode.l0 kj2 l0 a1 y277 0)=some (r1,r2):=zy hy277 H
   have Ny277:=zM hy277
   clear hy277
   have H':=zM H
   clear H
   go_wp2_with (first|((with_reducible refine gate_dst (N:=29) rfl ?_);(try(refine gate_guard (by rfl) ?_;dsimp only));refine Kd.R_lit (Kd.int .i64) _ 3 ?hg (N:=29) ?hd (xs:=([1]:List Int)) (inner:=[.int .i64 1]) (ok:=fun _=>True) (okp:=fun _=>True) ?hr ?hp (fun _ hk=>hk) trivial (Below.refl _ _) (Nat.le_refl _) (by simp) ?_;(case hd|hg=>rfl);(case hr=>exact zh);(case hp=>exact(Reps.one (show Kd.M (Kd.int .i64) _ _ _ 1 [.int .i64 1] from rfl) (Reps.none _ _)));intro v278 w10 ho11 hb hg_ hnew_;clear hg_ hnew_;(first|rw[←Ny277.out] at ho11|simp only[Int.reduceToNat,←Ny277.out] at ho11);refine zS2 (Kd.R_lower ho11 (below_size zb)) (below_step zb hb) ?_;clear HB;intro HO279 HB;clear hb ho11))
   (try simp only[Act.put,zL1,zL2,zL3])
   go_loopg [6,7] kj2 (fun kq v6 v7 w'=>∃(x6_2:List Int) (x7_2:Int),v7= .int .i64 x7_2∧Aside0 (spec_RsCode.l0 kq l0 a1 x6_2 x7_2=some (r1,r2))∧Aside0 (kq≤kj2)∧Aside0 (Kd.R (Kd.int .i64) 3 w' w.heap.size (fun _=>True) v6 x6_2)∧Aside0 (Below w.heap.size w w'))
   case atStart=>exact⟨(y277),(0),zs,H',⟨Nat.le_refl _⟩,⟨zr HO279⟩,⟨zb⟩⟩
   case round=>
    clear H'
    obtain⟨x6_2,x7_2,rfl,HA,HK2,HO_6,HB⟩:=hrel
    cases gk with
    |zero=>exact absurd HA.out (by simp[spec_RsCode.l0])
    | succ k2=>
     have H:=HA.out
     clear HA
     simp only[spec_RsCode.l0] at H
     replace H:=zI2 H
     rcases H with⟨c12,H⟩|⟨c12,H⟩
     case inl=>
      have c12b0:=zE c12
      clear c12
      obtain⟨y280,hy280⟩:∃y_:List Int,y_=(([]:List Int)):=⟨_,rfl⟩
      replace H:(if y280.length+x6_2.length<17592186044416 then((some (y280++x6_2:List Int)).bind fun y283=>(if y283.length<17592186044416 then(spec_RsCode.l1 k2 l0 a1 x6_2 x7_2 (y283++[0]) 0) else(none))) else(none))=some (r1,r2):=zy hy280 H
      have Ny280:=zM hy280
      clear hy280
      replace H:=zIM H
      obtain⟨LMc13,H⟩:=H
      obtain⟨y283,hy283⟩:∃y_:List Int,y_=(y280++x6_2):=⟨_,rfl⟩
      rw[←hy283] at H
      have Ny283:=zM hy283
      clear hy283
      replace H:=zIM H
      obtain⟨LMc14,H⟩:=H
      obtain⟨y286,hy286⟩:∃y_:List Int,y_=(y283++[0]):=⟨_,rfl⟩
      replace H:(spec_RsCode.l1 k2 l0 a1 x6_2 x7_2 y286 0)=some (r1,r2):=zy hy286 H
      have Ny286:=zM hy286
      clear hy286
      have H':=zM H
      clear H
      go_wp2_with (first|((with_reducible refine gate_dst (N:=36) rfl ?_);(try(refine gate_guard (by rfl) ?_;dsimp only));refine Kd.R_lit (Kd.int .i64) _ 3 ?hg (N:=36) ?hd (xs:=([]:List Int)) (inner:=[]) (ok:=fun _=>True) (okp:=fun _=>True) ?hr ?hp (fun _ hk=>hk) trivial (Below.refl _ _) (Nat.le_refl _) (by simp) ?_;(case hd|hg=>rfl);(case hr=>exact zh);(case hp=>exact(Reps.none _ _));intro v281 w15 ho16 hb hg_ hnew_;clear hg_ hnew_;(first|rw[←Ny280.out] at ho16|simp only[Int.reduceToNat,←Ny280.out] at ho16);refine zS3 (Kd.R_elder' (zr HO_6) (Kd.R_base ho16) hb) (Kd.R_lower (Kd.R_new' ho16 (Kd.R_lt (zr HO_6))) (below_size zb)) (below_step zb hb) ?_;clear HO_6 HB;intro HO_6 HO282 HB;clear hb ho16;obtain⟨Ao18,co18,eo18⟩:=Kd.R_slice HO_6.out;subst eo18)|((with_reducible refine gate_builtin (b:= .append) (xs:= #[.tmp 36, .tmp 37]) rfl ?_);(try(refine gate_guard (by rfl) ?_;dsimp only));at_builtin;refine Kd.R_append_rows (Kd.int .i64) (w0:=w) w.heap.size rfl (.tmp 36) (.tmp 37) 46 3 (.int .i64 0) 8 rfl Try.underlying46 info3 rfl (by decide) (by omega) v281 y280 x6_2 _ _ _ (fun k_=>some k_≠(.slice Ao18 x6_2.length co18:Value).ownBlock) (fun _=>False) rfl rfl ?aO ?aR (fun _ _ h=>h) (fun _ h=>h.elim) ?aF ?aB ?aS ?aL ?_;(case aR=>exact zc (Kd.R_reads' HO_6.out).2.2);(case aB=>exact zb);(case aF=>exact(fun k_ hk=>Kd.fresh' (Kd.R_lt (zr HO_6)) k_ hk));(case aO=>exact(by(with_reducible repeat(first|apply zRa|apply zRn|apply zRd));first|exact Kd.R_mono HO282.out (fun _ hk=>hk.2)|(subst_vars;exact Kd.R_mono HO282.out (fun _ hk=>hk.2))));(case aS=>exact(below_size zb));(case aL=>have:=LMc13.out;omega);intro v284 w17 ho hb hg hat;(first|rw[←Ny283.out] at ho|simp only[Int.reduceToNat,←Ny283.out] at ho);refine zS3 (Kd.R_after (ok:=(fun _=>True)) (zr HO_6) hg hat) (hb) (ho) ?_;clear HO_6 HB HO282;intro HO_6 HB HO285;clear ho hb hg hat)|((with_reducible refine gate_builtin (b:= .append) (xs:= #[.tmp 38, .tmp 39]) rfl ?_);(try(refine gate_guard (by rfl) ?_;dsimp only));at_builtin;refine Kd.R_append (Kd.int .i64) (w0:=w) w.heap.size rfl (.tmp 38) (.tmp 39) 46 3 (.int .i64 0) 8 rfl Try.underlying46 info3 rfl (by decide) (by omega) v284 y283 0 [.int .i64 0] (fun k_=>some k_≠(.slice Ao18 x6_2.length co18:Value).ownBlock) (fun _=>False) rfl rfl ?aP (fun _ hk=>hk.elim) ?aF ?aO ?aB ?aS ?aL ?_;(case aP=>exact rfl);(case aB=>exact zb);(case aF=>exact(fun k_ hk=>Kd.fresh' (Kd.R_lt (zr HO_6)) k_ hk));(case aO=>exact(zr HO285));(case aS=>exact(below_size zb));(case aL=>have:=LMc14.out;omega);intro v287 w19 ho hb hg hat;(first|rw[←Ny286.out] at ho|simp only[Int.reduceToNat,←Ny286.out] at ho);refine zS3 (Kd.R_after (ok:=(fun _=>True)) (zr HO_6) hg hat) (hb) (ho) ?_;clear HO_6 HB HO285;intro HO_6 HB HO288;clear ho hb hg hat))
      (try simp only[Act.put,zL1,zL2,zL3])
      go_loopg [9] k2 (fun kq v9 w'=>∃(x8_3:List Int) (x9_3:Int),v9= .int .i64 x9_3∧Aside0 (spec_RsCode.l1 kq l0 a1 x6_2 x7_2 x8_3 x9_3=some (r1,r2))∧Aside0 (kq≤k2)∧Aside0 (Kd.R (Kd.int .i64) 3 w' w.heap.size (fun k_=>some k_≠(v287:Value).ownBlock) (.slice Ao18 x6_2.length co18) x6_2)∧Aside0 (Kd.R (Kd.int .i64) 3 w' w.heap.size (fun k_=>some k_≠((.slice Ao18 x6_2.length co18):Value).ownBlock) v287 x8_3)∧Aside0 (Below w.heap.size w w'))
      case atStart=>exact⟨(y286),(0),zs,H',⟨Nat.le_refl _⟩,⟨by(with_reducible repeat(first|apply zRa|apply zRn|apply zRd));first|exact Kd.R_mono HO_6.out (fun _ hk=>hk.2)|(subst_vars;exact Kd.R_mono HO_6.out (fun _ hk=>hk.2))⟩,⟨zr HO288⟩,⟨zb⟩⟩
      case round=>
       clear H'
       clear c12b0
       obtain⟨x8_3,x9_3,rfl,HA,HK3,HO_6,HO_8,HB⟩:=hrel
       cases gk with
       |zero=>exact absurd HA.out (by simp[spec_RsCode.l1])
       | succ k3=>
        have H:=HA.out
        clear HA
        simp only[spec_RsCode.l1] at H
        replace H:=zI2 H
        rcases H with⟨c20,H⟩|⟨c20,H⟩
        case inr=>
         have c20b0:=decide_eq_false c20
         clear c20
         have H':=zM H
         clear H
         go_wp2
         go_roundg k3
         case measure=>have:=HJ2.out;have:=HK2.out;have:=HK3.out;omega
         case rel=>exact⟨(x8_3),(wrap64 (x7_2+1)),zs,H',⟨by have:=HJ2.out;have:=HK2.out;have:=HK3.out;omega⟩,⟨by(with_reducible repeat(first|apply zRa|apply zRn|apply zRd));first|exact Kd.R_mono HO_8.out (fun _ hk=>trivial)|(subst_vars;exact Kd.R_mono HO_8.out (fun _ hk=>trivial))⟩,⟨zb⟩⟩
        have c20b0:=zE c20
        clear c20
        obtain⟨ji21,hji21⟩:∃j_:Int,(wrap64 (x9_3+1))=j_:=⟨_,rfl⟩
        first|rw[hji21] at H|simp only[hji21] at H
        have hji21w:(IntKind.i64.wrap (x9_3+1))=ji21:=(i64_w _).trans hji21
        replace H:=zID H
        obtain⟨c22b0,H⟩:=H
        replace H:=zID H
        obtain⟨c23b0,H⟩:=H
        replace H:=zID H
        obtain⟨c24b0,H⟩:=H
        replace H:=zP H
        obtain⟨t291,A25,H⟩:=H
        replace H:=zP H
        obtain⟨t292,A26,H⟩:=H
        obtain⟨y293,hy293⟩:∃y_:List Int,y_=(x8_3.set ((ji21):Int).toNat (Go.bits .xor .i64 (rd x8_3 (ji21)) t292)):=⟨_,rfl⟩
        rw[←hy293] at H
        have Ny293:=zM hy293
        clear hy293
        have H':=zM H
        clear H
        try go_wp2
        refine zS3 (zRd HO_6.out) (zRd HO_8.out) (zBd HB.out) ?_
        clear HO_6 HO_8 HB
        intro HO_6 HO_8 HB
        obtain⟨Ao29,co29,eo29⟩:=Kd.R_slice HO_8.out
        (first|subst eo29|(injection eo29 with f1_ f2_ f3_;have f4_:=f1_.symm;have f5_:=f3_.symm;clear f1_ f2_ f3_;subst f4_;subst f5_))
        have p289:0≤((ji21):Int):=zT (by assumption)
        have q289:(ji21)<(x8_3.length:Int):=zT (by assumption)
        obtain⟨ad289,e289,hx289_0⟩:=Kd.at_int (Kd.R_reads' HO_8.out).2.2 (ji21) p289 q289
        cases e289
        replace p289:=eq_true p289
        replace q289:=eq_true q289
        have p290:0≤(x9_3:Int):=zT (by assumption)
        have q290:x9_3<(x6_2.length:Int):=zT (by assumption)
        obtain⟨ad290,e290,hx290_0⟩:=Kd.at_int (Kd.R_reads' HO_6.out).2.2 x9_3 p290 q290
        cases e290
        replace p290:=eq_true p290
        replace q290:=eq_true q290
        refine start_ (n:=18) (S:=fun w'=>w'.cell? (ad289.add ((ji21)).toNat)=some (.int .i64 (rd x8_3 (ji21)))∧w'.cell? (ad290.add (x9_3).toNat)=some (.int .i64 (rd x6_2 x9_3))) (ds:=[17]) #[zf,zf,zf,zf,zf,zf,zf,zf,zf,zf,zf,zf,zf,zf,zf,zf,zf,zf] ze rfl rfl ⟨hx289_0,hx290_0⟩ (fun hHeld=> ?_);refine with_tabW spec_RsCode.tab11 spec_RsCode.bits11 (fun HT_ HW_=> ?_)
        generalize wr.drew=w28 at HO_6 HO_8 HB hx289_0 hx290_0 hHeld ⊢
        refine zu 0 47 ?_
        refine zu 1 48 ?_
        refine zu 2 49 ?_
        refine zu 3 50 ?_
        refine zu 4 51 ?_
        refine zu 5 52 ?_
        refine zu 6 53 ?_
        refine zu 8 55 ?_
        refine zu 9 56 ?_
        refine zu 10 57 ?_
        refine zu 12 59 ?_
        refine zt2 7 54 ?_
        refine zt2 11 58 ?_
        refine one_ (i:=13) (N:=some 60) #[zt,zt,zt,zt,zt,zt,zt,zt,zt,zt,zt,zt,zt,zt,zf,zf,zf,zf] rfl rfl (one_of HT_.out ze) (by decide) (fun K hK=> ?_)
        refine goes_ Try.func78 ze rfl #[.int .i64 x7_2] (by rfl) rfl rfl zg ?_
        with_reducible refine(spec_l14Pow.calls k3 x7_2 t291 _ A25.out).mono ?_
        rintro e w' ⟨rfl,⟨nd,rfl⟩⟩
        refine⟨_,rfl,?_⟩
        refine hK.out _ _ ⟨hHeld.1,hHeld.2⟩ (fun hHeld=> ?_)
        clear hK K
        refine norm_ (a':= ?_) ?_ ?_
        rotate_left
        ·show Act.put _ (some 60) _=_
         simp only[Act.put,zL1,zL2,zL3,i64_w,i32_w]
         rfl
        refine one_ (i:=14) (N:=some 61) #[zt,zt,zt,zt,zt,zt,zt,zt,zt,zt,zt,zt,zt,zt,zt,zf,zf,zf] rfl rfl (one_of HT_.out ze) (by decide) (fun K hK=> ?_)
        refine goes_ Try.func77 ze rfl #[.int .i64 (rd x6_2 x9_3), .int .i64 t291] (by rfl) rfl rfl zg ?_
        with_reducible refine(spec_GfMul.calls k3 (rd x6_2 x9_3) t291 t292 _ A26.out).mono ?_
        rintro e w' ⟨rfl,⟨nd,rfl⟩⟩
        refine⟨_,rfl,?_⟩
        have p27:0≤((ji21):Int):=zT (by assumption)
        have q27:((ji21):Int)<((x8_3.length:Int):Int):=zT (by assumption)
        obtain⟨go27,co27,eo27,gb27,gl27,cl27,HG27⟩:=Kd.R_form HO_8.out (by omega)
        (first|cases eo27|(injection eo27 with ea_ en_ ec_;(first|subst ea_|(injection ea_ with ea_;subst ea_));subst ec_;clear en_))
        have GB27:=zM gb27
        have GG27:=zM HG27
        clear gb27 gl27 HG27
        (first|simp only[add_plain] at hx289_0|skip)
        obtain⟨hx27_0,hf27_0⟩:=Kd.R_celln 0 HO_8.out ((ji21):Int) p27 q27
        replace p27:=eq_true p27
        replace q27:=eq_true q27
        have HP30:=Kd.R_putn HO_8.out ((ji21):Int) (Go.bits .xor .i64 (rd x8_3 (ji21)) t292)
        rw[←Ny293.out] at HP30
        have HQ30:=zM HP30
        clear HP30
        refine hK.out _ _ ⟨hHeld.1,hHeld.2⟩ (fun hHeld=> ?_)
        clear hK K
        refine norm_ (a':= ?_) ?_ ?_
        rotate_left
        ·show Act.put _ (some 61) _=_
         simp only[Act.put,zL1,zL2,zL3,i64_w,i32_w]
         rfl
        refine zu 15 62 ?_
        refine zu 16 63 ?_
        refine last_ (i:=17) (N:=none) #[zt,zt,zt,zt,zt,zt,zt,zt,zt,zt,zt,zt,zt,zt,zt,zt,zt,zt] rfl rfl (one_of HT_.out ze) (by decide) (fun K hK=> ?_)
        refine skip_ (w1:= ?_) (by rfl) rfl ?_ ?_
        rotate_left
        ·go_simp
         rfl
        refine hK.out _ _ ?_
        clear hK K
        refine done_ (done_of HT_.out ze) ?_
        try go_wp2
        go_roundg k3
        case measure=>have:=HJ2.out;have:=HK2.out;have:=HK3.out;omega
        case rel=>exact⟨(y293),(ji21),(by first|rfl|(simp;done)|(simp only[←hji21]<;>(first|rfl|simp))|(simp[*];done)),H',⟨by have:=HJ2.out;have:=HK2.out;have:=HK3.out;omega⟩,⟨by(with_reducible repeat(first|apply zRa|apply zRn|apply zRd));exact Kd.R_mono (Kd.R_far (p:=⟨go27,((ji21):Int).toNat,none⟩) (Kd.R_mono HO_6.out (fun k_ hk=>(⟨hk,fun e_=>hk (by rw[e_];rfl)⟩:_∧k_≠go27))) (fun _ hk=>hk.2) (.int .i64 (Go.bits .xor .i64 (rd x8_3 (ji21)) t292))) (fun _ hk=>hk.1)⟩,⟨zr HQ30⟩,⟨by repeat(first|(with_reducible first|exact HB.out|apply zBa|apply zBn|apply zBd|refine zBs ?_ GB27.out)|exact HB.out)⟩⟩
     have c12b0:=decide_eq_false c12
     clear c12
     obtain⟨ji31,hji31⟩:∃j_:Int,(wrap64 (2*a1))=j_:=⟨_,rfl⟩
     first|rw[hji31] at H|simp only[hji31] at H
     (try rw[hji31] at c12b0)
     have hji31w:(IntKind.i64.wrap (2*a1))=ji31:=(i64_w _).trans hji31
     replace H:=zIN H
     obtain⟨c32,H⟩:=H
     have c32b0:=eq_true c32
     have c32b1:decide (0≤(ji31))=true:=zE c32
     clear c32
     replace H:=zIN H
     obtain⟨c33,H⟩:=H
     have c33b0:=eq_true c33
     have c33b1:decide ((ji31:Int).toNat≤35184372088832)=true:=zE c33
     clear c33
     obtain⟨y294,hy294⟩:∃y_:List Int,y_=(List.replicate (ji31:Int).toNat 0):=⟨_,rfl⟩
     rw[←hy294] at H
     have Ny294:=zM hy294
     clear hy294
     have H':=zM H
     clear H
     go_wp2_with (first|((with_reducible refine gate_dst (N:=67) rfl ?_);(try(refine gate_guard (by rfl) ?_;dsimp only));refine Kd.R_make (Kd.int .i64) _ 3 rfl (N:=67) rfl 46 _ _ rfl ji31 rfl rfl Try.underlying46 (.int .i64 0) 8 info3 rfl (by decide) (by omega) 0 (ok:=fun _=>True) (okp:=fun _=>True) rfl (fun _ hk=>hk) trivial (zT (by assumption)) (Nat.le_trans (Nat.mul_le_mul_right _ (zT (by assumption):ji31.toNat≤35184372088832)) (by omega)) (Below.refl _ _) (Nat.le_refl _) ?_;intro v295 w34 ho35 hb hg_ hnew_;clear hg_ hnew_;(first|rw[←Ny294.out] at ho35|simp only[Int.reduceToNat,←Ny294.out] at ho35);refine zS3 (Kd.R_elder' (zr HO_6) (Kd.R_base ho35) hb) (Kd.R_lower (Kd.R_new' ho35 (Kd.R_lt (zr HO_6))) (below_size zb)) (below_step zb hb) ?_;clear HO_6 HB;intro HO_6 HO296 HB;clear hb ho35))
     (try simp only[Act.put,zL1,zL2,zL3])
     go_loopg [10,11] k2 (fun kq v10 v11 w'=>∃(x6_3:List Int) (x10_3:List Int) (x11_3:Int),v11= .int .i64 x11_3∧Aside0 (spec_RsCode.l2 kq l0 x6_3 x10_3 x11_3=some (r1,r2))∧Aside0 (kq≤k2)∧Aside0 (Kd.R (Kd.int .i64) 3 w' w.heap.size (fun k_=>some k_≠(v10:Value).ownBlock) u6 x6_3)∧Aside0 (Kd.R (Kd.int .i64) 3 w' w.heap.size (fun k_=>some k_≠(u6:Value).ownBlock) v10 x10_3)∧Aside0 (Below w.heap.size w w'))
     case atStart=>exact⟨(x6_2),(y294),(0),zs,H',⟨Nat.le_refl _⟩,⟨by(with_reducible repeat(first|apply zRa|apply zRn|apply zRd));first|exact Kd.R_mono HO_6.out (fun _ hk=>hk.2)|(subst_vars;exact Kd.R_mono HO_6.out (fun _ hk=>hk.2))⟩,⟨by(with_reducible repeat(first|apply zRa|apply zRn|apply zRd));first|exact Kd.R_mono HO296.out (fun _ hk=>hk.2)|(subst_vars;exact Kd.R_mono HO296.out (fun _ hk=>hk.2))⟩,⟨zb⟩⟩
     case round=>
      clear H'
      clear c12b0 c32b0 c32b1 c33b0 c33b1
      obtain⟨x6_3,x10_3,x11_3,rfl,HA,HK3,HO_6,HO_10,HB⟩:=hrel
      cases gk with
      |zero=>exact absurd HA.out (by simp[spec_RsCode.l2])
      | succ k3=>
       have H:=HA.out
       clear HA
       simp only[spec_RsCode.l2] at H
       replace H:=zI2 H
       rcases H with⟨c36,H⟩|⟨c36,H⟩
       case inr=>
        have c36b0:=decide_eq_false c36
        clear c36
        obtain⟨y316,hy316⟩:∃y_:List Int,y_=(([]:List Int)):=⟨_,rfl⟩
        replace H:(if y316.length+l0.length<140737488355328 then(spec_RsCode.l4 k3 x10_3 (y316++l0) 0) else(none))=some (r1,r2):=zy hy316 H
        have Ny316:=zM hy316
        clear hy316
        replace H:=zIM H
        obtain⟨LMc61,H⟩:=H
        obtain⟨y319,hy319⟩:∃y_:List Int,y_=(y316++l0):=⟨_,rfl⟩
        rw[←hy319] at H
        have Ny319:=zM hy319
        clear hy319
        have H':=zM H
        clear H
        go_wp2_with (first|((with_reducible refine gate_dst (N:=110) rfl ?_);(try(refine gate_guard (by rfl) ?_;dsimp only));refine Kd.R_lit (Kd.int .u8) _ 5 ?hg (N:=110) ?hd (xs:=([]:List Int)) (inner:=[]) (ok:=fun _=>True) (okp:=fun _=>True) ?hr ?hp (fun _ hk=>hk) trivial (Below.refl _ _) (Nat.le_refl _) (by simp) ?_;(case hd|hg=>rfl);(case hr=>exact zh);(case hp=>exact(Reps.none _ _));intro v317 w62 ho63 hb hg_ hnew_;clear hg_ hnew_;(first|rw[←Ny316.out] at ho63|simp only[Int.reduceToNat,←Ny316.out] at ho63);refine zS4 (Kd.R_below (zr HO_6) hb) (Kd.R_below (zr HO_10) hb) (Kd.R_lower ho63 (below_size zb)) (below_step zb hb) ?_;clear HO_6 HO_10 HB;intro HO_6 HO_10 HO318 HB;clear hb ho63)|((with_reducible refine gate_builtin (b:= .append) (xs:= #[.tmp 110, .tmp 111]) rfl ?_);(try(refine gate_guard (by rfl) ?_;dsimp only));at_builtin;refine Kd.R_append_rows (Kd.int .u8) (w0:=w) w.heap.size rfl (.tmp 110) (.tmp 111) 24 5 (.int .u8 0) 1 rfl Try.underlying24 info5 rfl (by decide) (by omega) v317 y316 l0 _ _ _ (fun _=>True) (fun _=>False) rfl rfl ?aO ?aR (fun _ _ h=>h) (fun _ h=>h.elim) ?aF ?aB ?aS ?aL ?_;(case aR=>exact zc (Kd.C_below HR0.out HB.out));(case aB=>exact zb);(case aF=>exact(fun _ _=>trivial));(case aO=>exact(zr HO318));(case aS=>exact(below_size zb));(case aL=>have:=LMc61.out;omega);intro v320 w64 ho hb hg hat;(first|rw[←Ny319.out] at ho|simp only[Int.reduceToNat,←Ny319.out] at ho);refine zS4 (Kd.R_over' (zr HO_6) (Kd.R_typed (zr HO318)) (by decide) hg) (Kd.R_over' (zr HO_10) (Kd.R_typed (zr HO318)) (by decide) hg) (hb) (ho) ?_;clear HO_6 HO_10 HB HO318;intro HO_6 HO_10 HB HO321;clear ho hb hg hat))
        (try simp only[Act.put,zL1,zL2,zL3])
        go_loopg [14,15] k3 (fun kq v14 v15 w'=>∃(x14_4:List Int) (x15_4:Int),v15= .int .i64 x15_4∧Aside0 (spec_RsCode.l4 kq x10_3 x14_4 x15_4=some (r1,r2))∧Aside0 (kq≤k3)∧Aside0 (Kd.R (Kd.int .i64) 3 w' w.heap.size (fun _=>True) u10 x10_3)∧Aside0 (Kd.R (Kd.int .u8) 5 w' w.heap.size (fun _=>True) v14 x14_4)∧Aside0 (Below w.heap.size w w'))
        case atStart=>exact⟨(y319),(0),zs,H',⟨Nat.le_refl _⟩,⟨by(with_reducible repeat(first|apply zRa|apply zRn|apply zRd));first|exact Kd.R_mono HO_10.out (fun _ hk=>trivial)|(subst_vars;exact Kd.R_mono HO_10.out (fun _ hk=>trivial))⟩,⟨zr HO321⟩,⟨zb⟩⟩
        case round=>
         clear H'
         clear c36b0
         obtain⟨x14_4,x15_4,rfl,HA,HK4,HO_10,HO_14,HB⟩:=hrel
         cases gk with
         |zero=>exact absurd HA.out (by simp[spec_RsCode.l4])
         | succ k4=>
          have H:=HA.out
          clear HA
          simp only[spec_RsCode.l4] at H
          replace H:=zI2 H
          rcases H with⟨c65,H⟩|⟨c65,H⟩
          case inr=>
           have c65b0:=decide_eq_false c65
           clear c65
           simp only[Option.some.injEq,Prod.mk.injEq] at H
           obtain⟨rfl,rfl⟩:=H
           obtain⟨Ao70,co70,eo70⟩:=Kd.R_slice HO_10.out
           subst eo70
           go_wp2
           go_ret2
           exact⟨_,by first|rfl|(simp[errW_none,errW_some]<;>rfl)|(simp only[←hji31];first|rfl|(simp[errW_none,errW_some]<;>rfl))|(simp[*,errW_none,errW_some]<;>rfl),zr HO_14,zb⟩
          have c65b0:=zE c65
          clear c65
          replace H:=zID H
          obtain⟨c66b0,H⟩:=H
          replace H:=zIM H
          obtain⟨LMc67,H⟩:=H
          obtain⟨y323,hy323⟩:∃y_:List Int,y_=(x14_4++[(rd x10_3 x15_4)%256]):=⟨_,rfl⟩
          rw[←hy323] at H
          have Ny323:=zM hy323
          clear hy323
          have H':=zM H
          clear H
          obtain⟨Ao68,co68,eo68⟩:=Kd.R_slice HO_10.out
          subst eo68
          have p322:0≤(x15_4:Int):=zT (by assumption)
          have q322:x15_4<(x10_3.length:Int):=zT (by assumption)
          obtain⟨ad322,e322,hx322_0⟩:=Kd.at_int (Kd.R_reads' HO_10.out).2.2 x15_4 p322 q322
          cases e322
          replace p322:=eq_true p322
          replace q322:=eq_true q322
          go_wp2_with (first|((with_reducible refine gate_builtin (b:= .append) (xs:= #[.tmp 119, .tmp 125]) rfl ?_);(try(refine gate_guard (by rfl) ?_;dsimp only));at_builtin;refine Kd.R_append (Kd.int .u8) (w0:=w) w.heap.size rfl (.tmp 119) (.tmp 125) 24 5 (.int .u8 0) 1 rfl Try.underlying24 info5 rfl (by decide) (by omega) u14 x14_4 ((rd x10_3 x15_4)%256) [.int .u8 ((rd x10_3 x15_4)%256)] (fun _=>True) (fun _=>False) rfl rfl ?aP (fun _ hk=>hk.elim) ?aF ?aO ?aB ?aS ?aL ?_;(case aP=>exact rfl);(case aB=>exact zb);(case aF=>exact(fun _ _=>trivial));(case aO=>exact(zr HO_14));(case aS=>exact(below_size zb));(case aL=>have:=LMc67.out;omega);intro v324 w69 ho hb hg hat;(first|rw[←Ny323.out] at ho|simp only[Int.reduceToNat,←Ny323.out] at ho);refine zS3 (Kd.R_over' (zr HO_10) (Kd.R_typed (zr HO_14)) (by decide) hg) (hb) (ho) ?_;clear HO_10 HB HO_14;intro HO_10 HB HO325;clear ho hb hg hat))
          go_roundg k4
          case measure=>have:=HJ2.out;have:=HK2.out;have:=HK3.out;have:=HK4.out;omega
          case rel=>exact⟨(y323),(wrap64 (x15_4+1)),zs,H',⟨by have:=HJ2.out;have:=HK2.out;have:=HK3.out;have:=HK4.out;omega⟩,⟨zr HO_10⟩,⟨zr HO325⟩,⟨zb⟩⟩
       have c36b0:=zE c36
       clear c36
       replace H:=zIN H
       obtain⟨c37,H⟩:=H
       have c37b0:decide (0<(x10_3.length:Int))=true:=zE c37
       have c37b1:decide (0<x10_3.length)=true:=zE (by omega)
       clear c37
       replace H:=zID H
       obtain⟨c38b0,H⟩:=H
       replace H:=zY H
       obtain⟨y299,Ny299,H⟩:=H
       replace H:=zIN H
       obtain⟨c39,H⟩:=H
       have c39b0:=eq_true c39
       have c39b1:decide (1≤(x10_3.length:Int))=true:=zE c39
       clear c39
       replace H:=zY H
       obtain⟨y302,Ny302,H⟩:=H
       replace H:=zIM H
       obtain⟨LMc40,H⟩:=H
       replace H:=zY H
       obtain⟨y306,Ny306,H⟩:=H
       replace H:=zIM H
       obtain⟨LMc41,H⟩:=H
       obtain⟨y309,hy309⟩:∃y_:List Int,y_=(y306++[0]):=⟨_,rfl⟩
       replace H:(spec_RsCode.l3 k3 l0 x6_3 y309 x11_3 (Go.bits .xor .i64 (rd x10_3 0) (wrap64 (rd l0 x11_3))) 0)=some (r1,r2):=zy hy309 H
       have Ny309:=zM hy309
       clear hy309
       have H':=zM H
       clear H
       try go_wp2
       refine zS3 (zRd HO_6.out) (zRd HO_10.out) (zBd HB.out) ?_
       clear HO_6 HO_10 HB
       intro HO_6 HO_10 HB
       obtain⟨Ao43,co43,eo43⟩:=Kd.R_slice HO_10.out
       (first|subst eo43|(injection eo43 with f1_ f2_ f3_;have f4_:=f1_.symm;have f5_:=f3_.symm;clear f1_ f2_ f3_;subst f4_;subst f5_))
       have p297:0≤(0:Int):=(by omega)
       have q297:0<(x10_3.length:Int):=zT (by assumption)
       obtain⟨ad297,e297,hx297_0⟩:=Kd.at_int (Kd.R_reads' HO_10.out).2.2 0 p297 q297
       cases e297
       have qi297:(0<x10_3.length)=True:=eq_true (by omega)
       (try rw[show((0:Int)).toNat=0 from rfl] at hx297_0)
       (try rw[Addr.add_zero'] at hx297_0)
       replace p297:=eq_true p297
       replace q297:=eq_true q297
       have p298:0≤(x11_3:Int):=zT (by assumption)
       have q298:x11_3<(l0.length:Int):=zT (by assumption)
       obtain⟨ad298,e298,hx298_0⟩:=Kd.at_int HR0.out x11_3 p298 q298
       have hw298_0:=hx298_0
       cases e298
       replace hx298_0:=(HB.out.cell (zW w _ hx298_0)).trans hx298_0
       replace p298:=eq_true p298
       replace q298:=eq_true q298
       refine start_ (n:=10) (S:=fun w'=>w'.cell? ad297=some (.int .i64 (rd x10_3 0))∧w'.cell? (ad298.add (x11_3).toNat)=some (.int .u8 (rd l0 x11_3))) (ds:=[]) #[zf,zf,zf,zf,zf,zf,zf,zf,zf,zf] ze rfl rfl ⟨hx297_0,((HB.out.cell (zW w _ hw298_0)).trans hw298_0)⟩ (fun hHeld=> ?_);refine with_tabW spec_RsCode.tab17 spec_RsCode.bits17 (fun HT_ HW_=> ?_)
       generalize wr.drew=w42 at HO_6 HO_10 HB hx297_0 hx298_0 hHeld ⊢
       refine zu 0 74 ?_
       refine zu 1 75 ?_
       refine zu 3 77 ?_
       refine zu 4 78 ?_
       refine zu 5 79 ?_
       refine zt2 2 76 ?_
       refine zt2 6 80 ?_
       refine zu 7 81 ?_
       refine zu 8 82 ?_
       refine zu 9 12 ?_
       refine done_ (done_of HT_.out ze) ?_
       try go_wp2_with (first|((with_reducible refine gate_dst (N:=83) rfl ?_);(try(refine gate_guard (by rfl) ?_;dsimp only));refine Kd.R_lit (Kd.int .i64) _ 3 ?hg (N:=83) ?hd (xs:=([]:List Int)) (inner:=[]) (ok:=fun _=>True) (okp:=fun _=>True) ?hr ?hp (fun _ hk=>hk) trivial (Below.refl _ _) (Nat.le_refl _) (by simp) ?_;(case hd|hg=>rfl);(case hr=>exact zh);(case hp=>exact(Reps.none _ _));intro v300 w44 ho45 hb hg_ hnew_;clear hg_ hnew_;(first|rw[←Ny299.out] at ho45|simp only[Int.reduceToNat,←Ny299.out] at ho45);refine zS4 (Kd.R_elder' (zr HO_6) (Kd.R_base ho45) hb) (Kd.R_elder' (zr HO_10) (Kd.R_base ho45) hb) (Kd.R_lower (Kd.R_new' (Kd.R_new' ho45 (Kd.R_lt (zr HO_6))) (Kd.R_lt (zr HO_10))) (below_size zb)) (below_step zb hb) ?_;clear HO_6 HO_10 HB;intro HO_6 HO_10 HO301 HB;clear hb ho45;have q46:(1:Int)≤((x10_3.length:Int):Int):=zT (by assumption);obtain⟨i046,hi046,_,hsz46,_⟩:=info_parts info3;have hroom46:x10_3.length≤co43:=(Kd.R_reads' HO_10.out).2.1;have hC46:Kd.C (Kd.int .i64) _ (some ad297) x10_3.length x10_3:=(Kd.R_reads' HO_10.out).2.2;have hcut46:=cut_from (P:=Try.prog) 46 3 .i64 Try.underlying46 hi046 1 hsz46 (some ad297) x10_3.length co43 1 (by omega) q46;have hr46:=Kd.C_drop (m:=(1:Int).toNat) (c:=co43) hC46 (by omega) hroom46;obtain⟨A46,hA46⟩:∃A1,A1=(if co43=(1:Int).toNat then(some ad297) else((some ad297):Option Addr).map (·.add ((1:Int).toNat*1))):=⟨_,rfl⟩;obtain⟨c46,hc46⟩:∃c1,c1=co43-(1:Int).toNat:=⟨_,rfl⟩;have hy46:y302.length=x10_3.length-(1:Int).toNat:=(by rw[Ny302.out,List.length_drop]<;>omega);rw[show(x10_3).drop (1:Int).toNat=y302 from Ny302.out.symm] at hr46;replace hr46:Kd.C (Kd.int .i64) _ A46 y302.length y302:=(by rw[hA46];exact hr46);rw[←hy46,←hA46,←hc46] at hcut46;have HR305:=zM hr46;have HC305:=zM (show y302.length≤c46 from by rw[hy46,hc46];exact Nat.sub_le_sub_right hroom46 _);clear hr46 hC46 hroom46 hi046 hsz46 hc46;have KY46:=zM hy46;have KA46:=zM hA46;clear hy46 hA46;have KL46:=zM (show 1≤x10_3.length from by omega);replace q46:=eq_true q46)|((with_reducible refine gate_builtin (b:= .append) (xs:= #[.tmp 83, .tmp 85]) rfl ?_);(try(refine gate_guard (by rfl) ?_;dsimp only));at_builtin;refine Kd.R_append_rows (Kd.int .i64) (w0:=w) w.heap.size rfl (.tmp 83) (.tmp 85) 46 3 (.int .i64 0) 8 rfl Try.underlying46 info3 rfl (by decide) (by omega) v300 y299 y302 _ _ _ (fun k_=>some k_≠(u6:Value).ownBlock∧some k_≠(.slice (some ad297) x10_3.length co43:Value).ownBlock) (fun _=>False) rfl rfl ?aO ?aR (fun _ _ h=>h) (fun _ h=>h.elim) ?aF ?aB ?aS ?aL ?_;(case aR=>exact zc (zc HR305.out));(case aB=>exact zb);(case aF=>exact(fun k_ hk=>⟨Kd.fresh' (Kd.R_lt (zr HO_6)) k_ hk,Kd.fresh' (Kd.R_lt (zr HO_10)) k_ hk⟩));(case aO=>exact(by(with_reducible repeat(first|apply zRa|apply zRn|apply zRd));first|exact Kd.R_mono HO301.out (fun _ hk=>⟨hk.1.2,hk.2⟩)|(subst_vars;exact Kd.R_mono HO301.out (fun _ hk=>⟨hk.1.2,hk.2⟩))));(case aS=>exact(below_size zb));(case aL=>have:=LMc40.out;omega);intro v307 w47 ho hb hg hat;(first|rw[←Ny306.out] at ho|simp only[Int.reduceToNat,←Ny306.out] at ho);refine zS5 (Kd.R_after (ok:=(fun k_=>some k_≠(.slice (some ad297) x10_3.length co43:Value).ownBlock)) (zr HO_6) hg hat) (Kd.R_after (ok:=(fun k_=>some k_≠(u6:Value).ownBlock)) (zr HO_10) hg hat) (hb) ((show Kd.C (Kd.int .i64) w47 A46 y302.length y302 from by rw[Ny302.out,KA46.out];exact Kd.C_drop (m:=1) (c:=co43) ((Kd.R_reads' (Kd.R_after (ok:=(fun k_=>some k_≠(u6:Value).ownBlock)) (zr HO_10) hg hat)).2.2) KL46.out ((Kd.R_reads' (Kd.R_after (ok:=(fun k_=>some k_≠(u6:Value).ownBlock)) (zr HO_10) hg hat)).2.1))) (ho) ?_;clear HO_6 HO_10 HB HR305 HO301;intro HO_6 HO_10 HB HR305 HO308;clear ho hb hg hat)|((with_reducible refine gate_builtin (b:= .append) (xs:= #[.tmp 86, .tmp 87]) rfl ?_);(try(refine gate_guard (by rfl) ?_;dsimp only));at_builtin;refine Kd.R_append (Kd.int .i64) (w0:=w) w.heap.size rfl (.tmp 86) (.tmp 87) 46 3 (.int .i64 0) 8 rfl Try.underlying46 info3 rfl (by decide) (by omega) v307 y306 0 [.int .i64 0] (fun k_=>some k_≠(u6:Value).ownBlock∧some k_≠(.slice (some ad297) x10_3.length co43:Value).ownBlock) (fun _=>False) rfl rfl ?aP (fun _ hk=>hk.elim) ?aF ?aO ?aB ?aS ?aL ?_;(case aP=>exact rfl);(case aB=>exact zb);(case aF=>exact(fun k_ hk=>⟨Kd.fresh' (Kd.R_lt (zr HO_6)) k_ hk,Kd.fresh' (Kd.R_lt (zr HO_10)) k_ hk⟩));(case aO=>exact(zr HO308));(case aS=>exact(below_size zb));(case aL=>have:=LMc41.out;omega);intro v310 w48 ho hb hg hat;(first|rw[←Ny309.out] at ho|simp only[Int.reduceToNat,←Ny309.out] at ho);refine zS5 (Kd.R_after (ok:=(fun k_=>some k_≠(.slice (some ad297) x10_3.length co43:Value).ownBlock)) (zr HO_6) hg hat) (Kd.R_after (ok:=(fun k_=>some k_≠(u6:Value).ownBlock)) (zr HO_10) hg hat) (hb) ((show Kd.C (Kd.int .i64) w48 A46 y302.length y302 from by rw[Ny302.out,KA46.out];exact Kd.C_drop (m:=1) (c:=co43) ((Kd.R_reads' (Kd.R_after (ok:=(fun k_=>some k_≠(u6:Value).ownBlock)) (zr HO_10) hg hat)).2.2) KL46.out ((Kd.R_reads' (Kd.R_after (ok:=(fun k_=>some k_≠(u6:Value).ownBlock)) (zr HO_10) hg hat)).2.1))) (ho) ?_;clear HO_6 HO_10 HB HR305 HO308;intro HO_6 HO_10 HB HR305 HO311;clear ho hb hg hat))
       (try simp only[Act.put,zL1,zL2,zL3])
       go_loopg [13] k3 (fun kq v13 w'=>∃(x10_4:List Int) (x13_4:Int),v13= .int .i64 x13_4∧Aside0 (spec_RsCode.l3 kq l0 x6_3 x10_4 x11_3 (Go.bits .xor .i64 (rd x10_3 0) (wrap64 (rd l0 x11_3))) x13_4=some (r1,r2))∧Aside0 (kq≤k3)∧Aside0 (Kd.R (Kd.int .i64) 3 w' w.heap.size (fun k_=>some k_≠(v310:Value).ownBlock) u6 x6_3)∧Aside0 (Kd.R (Kd.int .i64) 3 w' w.heap.size (fun k_=>some k_≠(u6:Value).ownBlock) v310 x10_4)∧Aside0 (Below w.heap.size w w'))
       case atStart=>exact⟨(y309),(0),zs,H',⟨Nat.le_refl _⟩,⟨by(with_reducible repeat(first|apply zRa|apply zRn|apply zRd));first|exact Kd.R_mono HO_6.out (fun _ hk=>hk.2)|(subst_vars;exact Kd.R_mono HO_6.out (fun _ hk=>hk.2))⟩,⟨by(with_reducible repeat(first|apply zRa|apply zRn|apply zRd));first|exact Kd.R_mono HO311.out (fun _ hk=>hk.1)|(subst_vars;exact Kd.R_mono HO311.out (fun _ hk=>hk.1))⟩,⟨zb⟩⟩
       case round=>
        clear H'
        clear c36b0 c37b0 c37b1 c38b0 c39b0 c39b1 q46 hx297_0 hx298_0 p297 p298 q297 q298
        obtain⟨x10_4,x13_4,rfl,HA,HK4,HO_6,HO_10,HB⟩:=hrel
        cases gk with
        |zero=>exact absurd HA.out (by simp[spec_RsCode.l3])
        | succ k4=>
         have H:=HA.out
         clear HA
         simp only[spec_RsCode.l3] at H
         replace H:=zI2 H
         rcases H with⟨c49,H⟩|⟨c49,H⟩
         case inr=>
          have c49b0:=decide_eq_false c49
          clear c49
          have H':=zM H
          clear H
          obtain⟨Ao60,co60,eo60⟩:=Kd.R_slice HO_10.out
          subst eo60
          go_wp2
          go_roundg k4
          case measure=>have:=HJ2.out;have:=HK2.out;have:=HK3.out;have:=HK4.out;omega
          case rel=>exact⟨(x6_3),(x10_4),(wrap64 (x11_3+1)),zs,H',⟨by have:=HJ2.out;have:=HK2.out;have:=HK3.out;have:=HK4.out;omega⟩,⟨zr HO_6⟩,⟨zr HO_10⟩,⟨zb⟩⟩
         have c49b0:=zE c49
         clear c49
         replace H:=zID H
         obtain⟨c50b0,H⟩:=H
         obtain⟨ji51,hji51⟩:∃j_:Int,(wrap64 (x13_4+1))=j_:=⟨_,rfl⟩
         first|rw[hji51] at H|simp only[hji51] at H
         have hji51w:(IntKind.i64.wrap (x13_4+1))=ji51:=(i64_w _).trans hji51
         replace H:=zID H
         obtain⟨c52b0,H⟩:=H
         replace H:=zID H
         obtain⟨c53b0,H⟩:=H
         replace H:=zP H
         obtain⟨t314,A54,H⟩:=H
         obtain⟨y315,hy315⟩:∃y_:List Int,y_=(x10_4.set (x13_4:Int).toNat (Go.bits .xor .i64 (rd x10_4 x13_4) t314)):=⟨_,rfl⟩
         rw[←hy315] at H
         have Ny315:=zM hy315
         clear hy315
         have H':=zM H
         clear H
         obtain⟨Ao56,co56,eo56⟩:=Kd.R_slice HO_10.out
         subst eo56
         try go_wp2
         refine zS3 (zRd HO_6.out) (zRd HO_10.out) (zBd HB.out) ?_
         clear HO_6 HO_10 HB
         intro HO_6 HO_10 HB
         have p312:0≤(x13_4:Int):=zT (by assumption)
         have q312:x13_4<(x10_4.length:Int):=zT (by assumption)
         obtain⟨ad312,e312,hx312_0⟩:=Kd.at_int (Kd.R_reads' HO_10.out).2.2 x13_4 p312 q312
         cases e312
         replace p312:=eq_true p312
         replace q312:=eq_true q312
         obtain⟨Ao58,co58,eo58⟩:=Kd.R_slice HO_6.out
         (first|subst eo58|(injection eo58 with f1_ f2_ f3_;have f4_:=f1_.symm;have f5_:=f3_.symm;clear f1_ f2_ f3_;subst f4_;subst f5_))
         have p313:0≤((ji51):Int):=zT (by assumption)
         have q313:(ji51)<(x6_3.length:Int):=zT (by assumption)
         obtain⟨ad313,e313,hx313_0⟩:=Kd.at_int (Kd.R_reads' HO_6.out).2.2 (ji51) p313 q313
         cases e313
         replace p313:=eq_true p313
         replace q313:=eq_true q313
         refine start_ (n:=16) (S:=fun w'=>w'.cell? (ad312.add (x13_4).toNat)=some (.int .i64 (rd x10_4 x13_4))∧w'.cell? (ad313.add ((ji51)).toNat)=some (.int .i64 (rd x6_3 (ji51)))) (ds:=[15]) #[zf,zf,zf,zf,zf,zf,zf,zf,zf,zf,zf,zf,zf,zf,zf,zf] ze rfl rfl ⟨hx312_0,hx313_0⟩ (fun hHeld=> ?_);refine with_tabW spec_RsCode.tab22 spec_RsCode.bits22 (fun HT_ HW_=> ?_)
         generalize wr.drew=w57 at HO_6 HO_10 HB hx312_0 hx313_0 hHeld ⊢
         refine zu 0 95 ?_
         refine zu 1 96 ?_
         refine zu 2 97 ?_
         refine zu 3 98 ?_
         refine zu 4 99 ?_
         refine zu 6 101 ?_
         refine zu 7 102 ?_
         refine zu 8 103 ?_
         refine zu 9 104 ?_
         refine zu 10 105 ?_
         refine zt2 5 100 ?_
         refine zt2 11 106 ?_
         refine one_ (i:=12) (N:=some 107) #[zt,zt,zt,zt,zt,zt,zt,zt,zt,zt,zt,zt,zt,zf,zf,zf] rfl rfl (one_of HT_.out ze) (by decide) (fun K hK=> ?_)
         refine goes_ Try.func77 ze rfl #[.int .i64 (Go.bits .xor .i64 (rd x10_3 0) (wrap64 (rd l0 x11_3))), .int .i64 (rd x6_3 (ji51))] (by rfl) rfl rfl (by(try simp only[List.map_toArray,List.map_cons,List.map_nil]);first|done|(simp only[hji51];rfl)|rfl|(simp only[List.length_drop,List.length_take];rfl)) ?_
         with_reducible refine(spec_GfMul.calls k4 (Go.bits .xor .i64 (rd x10_3 0) (wrap64 (rd l0 x11_3))) (rd x6_3 (ji51)) t314 _ A54.out).mono ?_
         rintro e w' ⟨rfl,⟨nd,rfl⟩⟩
         refine⟨_,rfl,?_⟩
         have p55:0≤(x13_4:Int):=zT (by assumption)
         have q55:(x13_4:Int)<((x10_4.length:Int):Int):=zT (by assumption)
         obtain⟨go55,co55,eo55,gb55,gl55,cl55,HG55⟩:=Kd.R_form HO_10.out (by omega)
         (first|cases eo55|(injection eo55 with ea_ en_ ec_;(first|subst ea_|(injection ea_ with ea_;subst ea_));subst ec_;clear en_))
         have GB55:=zM gb55
         have GG55:=zM HG55
         clear gb55 gl55 HG55
         (first|simp only[add_plain] at hx312_0|skip)
         obtain⟨hx55_0,hf55_0⟩:=Kd.R_celln 0 HO_10.out (x13_4:Int) p55 q55
         replace p55:=eq_true p55
         replace q55:=eq_true q55
         have HP59:=Kd.R_putn HO_10.out (x13_4:Int) (Go.bits .xor .i64 (rd x10_4 x13_4) t314)
         rw[←Ny315.out] at HP59
         have HQ59:=zM HP59
         clear HP59
         refine hK.out _ _ ⟨hHeld.1,hHeld.2⟩ (fun hHeld=> ?_)
         clear hK K
         refine norm_ (a':= ?_) ?_ ?_
         rotate_left
         ·show Act.put _ (some 107) _=_
          simp only[Act.put,zL1,zL2,zL3,i64_w,i32_w]
          rfl
         refine zu 13 108 ?_
         refine zu 14 109 ?_
         refine last_ (i:=15) (N:=none) #[zt,zt,zt,zt,zt,zt,zt,zt,zt,zt,zt,zt,zt,zt,zt,zt] rfl rfl (one_of HT_.out ze) (by decide) (fun K hK=> ?_)
         refine skip_ (w1:= ?_) (by rfl) rfl ?_ ?_
         rotate_left
         ·go_simp
          rfl
         refine hK.out _ _ ?_
         clear hK K
         refine done_ (done_of HT_.out ze) ?_
         try go_wp2
         go_roundg k4
         case measure=>have:=HJ2.out;have:=HK2.out;have:=HK3.out;have:=HK4.out;omega
         case rel=>exact⟨(y315),(ji51),(by first|rfl|(simp;done)|(simp only[←hji51]<;>(first|rfl|simp))|(simp[*];done)),H',⟨by have:=HJ2.out;have:=HK2.out;have:=HK3.out;have:=HK4.out;omega⟩,⟨by(with_reducible repeat(first|apply zRa|apply zRn|apply zRd));exact Kd.R_mono (Kd.R_far (p:=⟨go55,(x13_4:Int).toNat,none⟩) (Kd.R_mono HO_6.out (fun k_ hk=>(⟨hk,fun e_=>hk (by rw[e_];rfl)⟩:_∧k_≠go55))) (fun _ hk=>hk.2) (.int .i64 (Go.bits .xor .i64 (rd x10_4 x13_4) t314))) (fun _ hk=>hk.1)⟩,⟨zr HQ59⟩,⟨by repeat(first|(with_reducible first|exact HB.out|apply zBa|apply zBn|apply zBd|refine zBs ?_ GB55.out)|exact HB.out)⟩⟩
end Go.Proofs.Ytapobpkeefeajaa.PFnModem
