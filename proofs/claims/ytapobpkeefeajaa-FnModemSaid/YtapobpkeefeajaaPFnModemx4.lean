-- A turned copy of the print's text.
import Derived.Test.YtapobpkeefeajaaPFnModemx0
import Derived.Test.YtapobpkeefeajaaPFnModemx1
import Derived.Test.YtapobpkeefeajaaPFnModemx3
namespace Go.Proofs.Ytapobpkeefeajaa.PFnModem
open Go.RowKit Go.Proofs.YtapobpkeefeajaaW.PrintWords Go.Proofs.YtapobpkeefeajaaW.PrintLast Go.Proofs.YtapobpkeefeajaaW.PrintMore
attribute [local go_sem] max2_int min2_int max_two min_two max_three min_three max_four min_four
set_option maxHeartbeats 8000000
set_option maxRecDepth 100000
set_option linter.unusedVariables false
set_option linter.unusedSimpArgs false
mutual
def impl_Stir.j0:Nat→List Int→Int→Int→Bool→Option (List Int×Bool)
 |0,_,_,_,_=>none
 |k+1,x0,x1,x2,x24=>if x24=true then(some (([]:List Int),false)) else(impl_Stir.l0 k x1 x2 ([]:List Int) x0 (x0.length:Int) 0)
def impl_Stir.l0:Nat→Int→Int→List Int→List Int→Int→Int→Option (List Int×Bool)
 |0,_,_,_,_,_,_=>none
 |k+1,x1,x2,x8,x25,x26,x27=>if x27<x26 then(if 0≤x27 then(if x27<(x25.length:Int) then(if x8.length<17592186044416 then((some (x8++[Go.bits .xor .i64 (rd x25 x27) (Go.bits .and .i64 x2 1)]:List Int)).bind fun y130=>(if(Go.bits .and .i64 x2 1)=1 then(impl_Stir.l0 k x1 (Go.bits .xor .i64 (x2 / 2) x1) y130 x25 x26 (wrap64 (x27+1))) else(impl_Stir.l0 k x1 (x2 / 2) y130 x25 x26 (wrap64 (x27+1))))) else(none)) else(none)) else(none)) else(some (x8,true))
end
def impl_Stir.f (k:Nat) (l0:List Int) (a1:Int) (a2:Int):Option (List Int×Bool):=(impl_BitsOk.f k l0).bind fun t126=>(if t126=true then((impl_is16.f a1 1).bind fun t127=>(if t127=true then((impl_is16.f a2 1).bind fun t128=>(impl_Stir.j0 k l0 a1 a2 (!t128))) else(impl_Stir.j0 k l0 a1 a2 true))) else(impl_Stir.j0 k l0 a1 a2 true))
theorem impl_Stir.calls (k:Nat) (A0:Option Addr) (c0:Nat) (l0:List Int) (a1:Int) (a2:Int) (r1:List Int) (r2:Bool) (w:World) (hr0:Kd.C (Kd.int .i64) w A0 l0.length l0) (hc0:l0.length≤c0) (H:impl_Stir.f k l0 a1 a2=some (r1,r2)):
 Calls Try.prog 41 #[.slice A0 l0.length c0, .int .i64 a1, .int .i64 a2] w fun e w'=>∃v0_:Value,e= .returned (.tuple #[v0_, .bool r2])∧Kd.R (Kd.int .i64) 3 w' w.heap.size (fun _=>True) v0_ r1∧Below w.heap.size w w':=by
 have HR0:=zM hr0
 have HC0:=zM hc0
 clear hr0 hc0
 have HB:=zM (Below.refl w.heap.size w)
 unfold impl_Stir.f at H
 have HC4:=zM H
 clear H
 go_enter Try.func41,Try.ntmps41
 go_upto_region 1 with(fail)
 go_cut [24] (fun v24 wc=>∃(kq:Nat) (x24_3:Bool),v24= .bool x24_3∧Aside0 (impl_Stir.j0 kq l0 a1 a2 x24_3=some (r1,r2))∧Aside0 (kq≤k)∧Aside0 (Below w.heap.size w wc))
 case first=>
  have H:=HC4.out
  clear HC4
  replace H:=zP H
  obtain⟨t126,A5,H⟩:=H
  by_cases c6:t126=true
  case neg=>
   replace c6:=Bool.eq_false_iff.mpr c6
   subst c6
   rw[if_neg zFT] at H
   have H':=zM H
   clear H
   go_wp2_with (first|((with_reducible refine gate_callee (f:=91) rfl ?_);refine goesL_ (some 13) rfl rfl Try.func91 ze rfl #[.slice A0 l0.length c0] rfl zg ?_;(with_reducible refine(impl_BitsOk.calls k _ _ l0 false _ ?side1 ?side2 A5.out).mono ?_);(case side1=>exact zc (Kd.C_below HR0.out HB.out));(case side2=>exact HC0.out);rintro e w' ⟨rfl,⟨nd,rfl⟩⟩;refine⟨_,rfl,?_⟩))
   go_meet
   case rel=>exact⟨_,(true),zs,H',⟨zo⟩,⟨zb⟩⟩
  subst c6
  rw[if_pos rfl] at H
  replace H:=zP H
  obtain⟨t127,A7,H⟩:=H
  by_cases c8:t127=true
  case neg=>
   replace c8:=Bool.eq_false_iff.mpr c8
   subst c8
   rw[if_neg zFT] at H
   have H':=zM H
   clear H
   go_wp2_with (first|((with_reducible refine gate_callee (f:=91) rfl ?_);refine goesL_ (some 13) rfl rfl Try.func91 ze rfl #[.slice A0 l0.length c0] rfl zg ?_;(with_reducible refine(impl_BitsOk.calls k _ _ l0 true _ ?side1 ?side2 A5.out).mono ?_);(case side1=>exact zc (Kd.C_below HR0.out HB.out));(case side2=>exact HC0.out);rintro e w' ⟨rfl,⟨nd,rfl⟩⟩;refine⟨_,rfl,?_⟩)|(go_at_call 84;(with_reducible refine(impl_is16.calls a1 1 false _ A7.out).mono ?_);rintro e w' ⟨rfl,⟨nd,rfl⟩⟩))
   go_meet
   case rel=>exact⟨_,(true),zs,H',⟨zo⟩,⟨zb⟩⟩
  subst c8
  rw[if_pos rfl] at H
  replace H:=zP H
  obtain⟨t128,A9,H⟩:=H
  have H':=zM H
  clear H
  go_wp2_with (first|((with_reducible refine gate_callee (f:=91) rfl ?_);refine goesL_ (some 13) rfl rfl Try.func91 ze rfl #[.slice A0 l0.length c0] rfl zg ?_;(with_reducible refine(impl_BitsOk.calls k _ _ l0 true _ ?side1 ?side2 A5.out).mono ?_);(case side1=>exact zc (Kd.C_below HR0.out HB.out));(case side2=>exact HC0.out);rintro e w' ⟨rfl,⟨nd,rfl⟩⟩;refine⟨_,rfl,?_⟩)|(go_at_call 84;(with_reducible refine(impl_is16.calls a1 1 true _ A7.out).mono ?_);rintro e w' ⟨rfl,⟨nd,rfl⟩⟩)|(go_at_call 84;(with_reducible refine(impl_is16.calls a2 1 t128 _ A9.out).mono ?_);rintro e w' ⟨rfl,⟨nd,rfl⟩⟩))
  go_meet
  case rel=>exact⟨_,(!t128),zs,H',⟨zo⟩,⟨zb⟩⟩
 case rest=>
  clear HC4
  obtain⟨kq,x24_3,rfl,HA,HJ3,HB⟩:=hcut
  cases kq with
  |zero=>exact absurd HA.out (by simp[impl_Stir.j0])
  | succ kj3=>
   have H:=HA.out
   clear HA
   simp only[impl_Stir.j0] at H
   by_cases c10:x24_3=true
   case pos=>
    subst c10
    rw[if_pos rfl] at H
    simp only[Option.some.injEq,Prod.mk.injEq] at H
    obtain⟨rfl,rfl⟩:=H
    go_wp2
    go_ret2
    exact⟨_,zq,zz,zb⟩
   replace c10:=Bool.eq_false_iff.mpr c10
   subst c10
   rw[if_neg zFT] at H
   have H':=zM H
   clear H
   go_wp2
   (try simp only[Act.put,zL1,zL2,zL3])
   go_loopg [2,8,27] kj3 (fun kq v2 v8 v27 w'=>∃(x2_2:Int) (x8_2:List Int) (x27_2:Int),v2= .int .i64 x2_2∧v27= .int .i64 x27_2∧Aside0 (impl_Stir.l0 kq a1 x2_2 x8_2 l0 (l0.length:Int) x27_2=some (r1,r2))∧Aside0 (kq≤kj3)∧Aside0 (Kd.R (Kd.int .i64) 3 w' w.heap.size (fun _=>True) v8 x8_2)∧Aside0 (Below w.heap.size w w'))
   case atStart=>exact⟨(a2),(([]:List Int)),(0),zs,zs,H',⟨Nat.le_refl _⟩,⟨zz⟩,⟨zb⟩⟩
   case round=>
    clear H'
    obtain⟨x2_2,x8_2,x27_2,rfl,rfl,HA,HK2,HO_8,HB⟩:=hrel
    cases gk with
    |zero=>exact absurd HA.out (by simp[impl_Stir.l0])
    | succ k2=>
     have H:=HA.out
     clear HA
     simp only[impl_Stir.l0] at H
     replace H:=zI2 H
     rcases H with⟨c11,H⟩|⟨c11,H⟩
     case inr=>
      have c11b0:=decide_eq_false c11
      clear c11
      simp only[Option.some.injEq,Prod.mk.injEq] at H
      obtain⟨rfl,rfl⟩:=H
      go_wp2
      go_ret2
      exact⟨_,zq,zr HO_8,zb⟩
     have c11b0:=zE c11
     clear c11
     replace H:=zID H
     obtain⟨c12b0,H⟩:=H
     replace H:=zID H
     obtain⟨c13b0,H⟩:=H
     replace H:=zIM H
     obtain⟨LMc14,H⟩:=H
     replace H:=zY H
     obtain⟨y130,Ny130,H⟩:=H
     replace H:=zI2 H
     rcases H with⟨c15,H⟩|⟨c15,H⟩
     case inr=>
      have c15b0:((Go.bits .and .i64 x2_2 1)==1)=false:=beq_eq_false_iff_ne.mpr c15
      have c15b1:((Go.bits .and .i64 x2_2 1) != 1)=true:=bne_iff_ne.mpr c15
      have H':=zM H
      clear H
      have p129:0≤(x27_2:Int):=zT (by assumption)
      have q129:x27_2<(l0.length:Int):=zT (by assumption)
      obtain⟨ad129,e129,hx129_0⟩:=Kd.at_int HR0.out x27_2 p129 q129
      cases e129
      replace hx129_0:=(HB.out.cell (zW w _ hx129_0)).trans hx129_0
      replace p129:=eq_true p129
      replace q129:=eq_true q129
      go_wp2_with (first|((with_reducible refine gate_builtin (b:= .append) (xs:= #[.tmp 33, .tmp 37]) rfl ?_);at_builtin;refine Kd.R_append (Kd.int .i64) (w0:=w) w.heap.size rfl (.tmp 33) (.tmp 37) 46 3 (.int .i64 0) 8 rfl Try.underlying46 info3 rfl (by decide) (by omega) u8 x8_2 (Go.bits .xor .i64 (rd l0 x27_2) (Go.bits .and .i64 x2_2 1)) [.int .i64 (Go.bits .xor .i64 (rd l0 x27_2) (Go.bits .and .i64 x2_2 1))] (fun _=>True) (fun _=>False) rfl rfl ?aP (fun _ hk=>hk.elim) ?aF ?aO ?aB ?aS ?aL ?_;(case aP=>exact rfl);(case aB=>exact zb);(case aF=>exact(fun _ _=>trivial));(case aO=>exact(zr HO_8));(case aS=>exact(below_size zb));(case aL=>have:=LMc14.out;omega);intro v131 w17 ho hb hg hat;(first|rw[←Ny130.out] at ho|simp only[Int.reduceToNat,←Ny130.out] at ho);refine zS2 (hb) (ho) ?_;clear HB HO_8;intro HB HO132;clear ho hb hg hat))
      go_roundg k2
      case measure=>have:=HJ3.out;have:=HK2.out;omega
      case rel=>exact⟨(x2_2 / 2),(y130),(wrap64 (x27_2+1)),zs,zs,H',⟨zl2 HJ3 HK2⟩,⟨zr HO132⟩,⟨zb⟩⟩
     have c15b0:((Go.bits .and .i64 x2_2 1)==1)=true:=beq_iff_eq.mpr c15
     have c15b1:((Go.bits .and .i64 x2_2 1) != 1)=false:=bne_eq_false_iff_eq.mpr c15
     clear c15
     have H':=zM H
     clear H
     have p129:0≤(x27_2:Int):=zT (by assumption)
     have q129:x27_2<(l0.length:Int):=zT (by assumption)
     obtain⟨ad129,e129,hx129_0⟩:=Kd.at_int HR0.out x27_2 p129 q129
     cases e129
     replace hx129_0:=(HB.out.cell (zW w _ hx129_0)).trans hx129_0
     replace p129:=eq_true p129
     replace q129:=eq_true q129
     go_wp2_with (first|((with_reducible refine gate_builtin (b:= .append) (xs:= #[.tmp 33, .tmp 37]) rfl ?_);at_builtin;refine Kd.R_append (Kd.int .i64) (w0:=w) w.heap.size rfl (.tmp 33) (.tmp 37) 46 3 (.int .i64 0) 8 rfl Try.underlying46 info3 rfl (by decide) (by omega) u8 x8_2 (Go.bits .xor .i64 (rd l0 x27_2) (Go.bits .and .i64 x2_2 1)) [.int .i64 (Go.bits .xor .i64 (rd l0 x27_2) (Go.bits .and .i64 x2_2 1))] (fun _=>True) (fun _=>False) rfl rfl ?aP (fun _ hk=>hk.elim) ?aF ?aO ?aB ?aS ?aL ?_;(case aP=>exact rfl);(case aB=>exact zb);(case aF=>exact(fun _ _=>trivial));(case aO=>exact(zr HO_8));(case aS=>exact(below_size zb));(case aL=>have:=LMc14.out;omega);intro v131 w16 ho hb hg hat;(first|rw[←Ny130.out] at ho|simp only[Int.reduceToNat,←Ny130.out] at ho);refine zS2 (hb) (ho) ?_;clear HB HO_8;intro HB HO132;clear ho hb hg hat))
     go_roundg k2
     case measure=>have:=HJ3.out;have:=HK2.out;omega
     case rel=>exact⟨(Go.bits .xor .i64 (x2_2 / 2) a1),(y130),(wrap64 (x27_2+1)),zs,zs,H',⟨zl2 HJ3 HK2⟩,⟨zr HO132⟩,⟨zb⟩⟩
def impl_unGray.l0:Nat→Int→Int→Option (Int)
 |0,_,_=>none
 |k+1,x0,x3=>if x3<64 then(if 0≤x3 then(impl_unGray.l0 k (Go.bits .xor .i64 x0 (shr .i64 x0 x3)) (wrap64 (x3*2))) else(none)) else(some x0)
def impl_unGray.f (k:Nat) (a0:Int):Option (Int):=impl_unGray.l0 k a0 1
theorem impl_unGray.mono_l:∀k,(∀y0 y1,LeO (impl_unGray.l0 k y0 y1) (impl_unGray.l0 (k+1) y0 y1))
 |0=>fun _ _ r h=>by simp[impl_unGray.l0] at h
 | k+1=>by
  have ih0:=impl_unGray.mono_l k
  ·intro y0 y1
   unfold impl_unGray.l0
   repeat' first
   |(with_reducible exact ih0 _ _)
   |(with_reducible exact LeO.refl _)
   |(with_reducible exact LeO.none _)
   |(with_reducible refine LeO.ite ?_ ?_)
   |(with_reducible refine LeO.bind ?_ (fun _=> ?_))
theorem impl_unGray.mono:∀a0 k,LeO (impl_unGray.f k a0) (impl_unGray.f (k+1) a0):=by
 intro a0 k
 have ih0:=impl_unGray.mono_l k
 unfold impl_unGray.f
 repeat' first
  |(with_reducible exact ih0 _ _)
  |(with_reducible exact LeO.refl _)
  |(with_reducible exact LeO.none _)
  |(with_reducible refine LeO.ite ?_ ?_)
  |(with_reducible refine LeO.bind ?_ (fun _=> ?_))
theorem impl_unGray.calls (k:Nat) (a0:Int) (r:Int) (w:World) (H:impl_unGray.f k a0=some r):
 Calls Try.prog 93 #[.int .i64 a0] w fun e w'=>e= .returned (.int .i64 r)∧Drawn0 w w':=by
 unfold impl_unGray.f at H
 have H':=zM H
 clear H
 go_enter Try.func93,Try.ntmps93
 go_wp2
 (try simp only[Act.put,zL1,zL2,zL3])
 go_loopg [0,3] k (fun kq v0 v3 w'=>∃(x0_1:Int) (x3_1:Int),v0= .int .i64 x0_1∧v3= .int .i64 x3_1∧Aside0 (impl_unGray.l0 kq x0_1 x3_1=some r)∧Aside0 (kq≤k)∧Drawn0 w w')
 case atStart=>exact⟨(a0),(1),zs,zs,H',⟨Nat.le_refl _⟩,zd⟩
 case round=>
  clear H'
  obtain⟨x0_1,x3_1,rfl,rfl,HA,HK1,⟨m1,rfl⟩⟩:=hrel
  cases gk with
  |zero=>exact absurd HA.out (by simp[impl_unGray.l0])
  | succ k1=>
   have H:=HA.out
   clear HA
   simp only[impl_unGray.l0] at H
   replace H:=zI2 H
   rcases H with⟨c2,H⟩|⟨c2,H⟩
   case inr=>
    have c2b0:=decide_eq_false c2
    clear c2
    obtain rfl:=zI H
    go_wp2
    go_ret
    exact⟨zs,zd⟩
   have c2b0:=zE c2
   clear c2
   replace H:=zIN H
   obtain⟨c3,H⟩:=H
   have c3b0:=eq_true c3
   have c3b1:decide (0≤x3_1)=true:=zE c3
   clear c3
   obtain⟨ji4,hji4⟩:∃j_:Int,(shr .i64 x0_1 x3_1)=j_:=⟨_,rfl⟩
   first|rw[hji4] at H|simp only[hji4] at H
   have hji4_:(x0_1 / 2^min x3_1.toNat 64)=ji4:=hji4
   have hji4z:x3_1≤64→(x0_1 / 2^x3_1.toNat)=ji4:=shr_small hji4
   have H':=zM H
   clear H
   go_wp2
   go_roundg k1
   case measure=>have:=HK1.out;omega
   case rel=>exact⟨(Go.bits .xor .i64 x0_1 (ji4)),(wrap64 (x3_1*2)),(by first|rfl|(simp;done)|(simp only[←hji4]<;>(first|rfl|simp))|(simp[*];done)),zs,H',⟨zl1 HK1⟩,zd⟩
def impl_level.l0:Nat→Int→Int→List Int→Int→Int→Option (Int)
 |0,_,_,_,_,_=>none
 |k+1,x0,x1,x2,x5,x6=>if x6<(wrap64 (x0+x1)) then(if x6<(x2.length:Int) then(if 0≤x6 then(impl_level.l0 k x0 x1 x2 (wrap64 ((wrap64 (x5*2))+(rd x2 x6))) (wrap64 (x6+1))) else(none)) else(impl_level.l0 k x0 x1 x2 (wrap64 (x5*2)) (wrap64 (x6+1)))) else((impl_unGray.f k x5).bind fun t281=>(if 0≤x1 then(some (wrap64 ((wrap64 (2*t281))-(wrap64 ((shl .i64 1 x1)-1))))) else(none)))
def impl_level.f (k:Nat) (a0:Int) (a1:Int) (l2:List Int):Option (Int):=impl_level.l0 k a0 a1 l2 0 a0
theorem impl_level.calls (k:Nat) (a0:Int) (a1:Int) (A2:Option Addr) (c2:Nat) (l2:List Int) (r:Int) (w:World) (hr2:Kd.C (Kd.int .i64) w A2 l2.length l2) (hc2:l2.length≤c2) (gh gl:Nat) (hgh:w.cell? ⟨gh,0,none⟩=some (.int .i64 a1)) (hgl:w.cell? ⟨gl,0,none⟩=some (.slice A2 l2.length c2)) (H:impl_level.f k a0 a1 l2=some r):
 Calls Try.prog 92 #[.int .i64 a0, .pointer (some ⟨gh,0,none⟩), .pointer (some ⟨gl,0,none⟩)] w fun e w'=>e= .returned (.int .i64 r)∧Drawn0 w w':=by
 have HR2:=zM hr2
 have HC2:=zM hc2
 clear hr2 hc2
 unfold impl_level.f at H
 have H':=zM H
 clear H
 go_enter Try.func92,Try.ntmps92
 go_wp2
 repeat(go_quiet (fail);try go_wp2)
 (try simp only[Act.put,zL1,zL2,zL3])
 go_loopg [5,6] k (fun kq v5 v6 w'=>∃(x5_1:Int) (x6_1:Int),v5= .int .i64 x5_1∧v6= .int .i64 x6_1∧Aside0 (impl_level.l0 kq a0 a1 l2 x5_1 x6_1=some r)∧Aside0 (kq≤k)∧Drawn0 w w')
 case atStart=>exact⟨(0),(a0),zs,zs,H',⟨Nat.le_refl _⟩,zd⟩
 case round=>
  clear H'
  obtain⟨x5_1,x6_1,rfl,rfl,HA,HK1,⟨m1,rfl⟩⟩:=hrel
  cases gk with
  |zero=>exact absurd HA.out (by simp[impl_level.l0])
  | succ k1=>
   have H:=HA.out
   clear HA
   simp only[impl_level.l0] at H
   replace H:=zI2 H
   rcases H with⟨c4,H⟩|⟨c4,H⟩
   case inl=>
    have c4b0:=zE c4
    clear c4
    replace H:=zI2 H
    rcases H with⟨c5,H⟩|⟨c5,H⟩
    case inr=>
     have c5b0:=decide_eq_false c5
     clear c5
     have H':=zM H
     clear H
     go_wp2
     repeat(go_quiet (fail);try go_wp2)
     go_roundg k1
     case measure=>have:=HK1.out;omega
     case rel=>exact⟨(wrap64 (x5_1*2)),(wrap64 (x6_1+1)),zs,zs,H',⟨zl1 HK1⟩,zd⟩
    have c5b0:=zE c5
    clear c5
    replace H:=zID H
    obtain⟨c6b0,H⟩:=H
    have H':=zM H
    clear H
    have p280:0≤(x6_1:Int):=zT (by assumption)
    have q280:x6_1<(l2.length:Int):=zT (by assumption)
    obtain⟨ad280,e280,hx280_0⟩:=Kd.at_int HR2.out x6_1 p280 q280
    cases e280
    replace p280:=eq_true p280
    replace q280:=eq_true q280
    go_wp2
    repeat(go_quiet (fail);try go_wp2)
    go_roundg k1
    case measure=>have:=HK1.out;omega
    case rel=>exact⟨(wrap64 ((wrap64 (x5_1*2))+(rd l2 x6_1))),(wrap64 (x6_1+1)),zs,zs,H',⟨zl1 HK1⟩,zd⟩
   have c4b0:=decide_eq_false c4
   clear c4
   replace H:=zP H
   obtain⟨t281,A7,H⟩:=H
   replace H:=zIN H
   obtain⟨c8,H⟩:=H
   have c8b0:=eq_true c8
   have c8b1:decide (0≤a1)=true:=zE c8
   clear c8
   obtain⟨ji9,hji9⟩:∃j_:Int,(shl .i64 1 a1)=j_:=⟨_,rfl⟩
   first|rw[hji9] at H|simp only[hji9] at H
   (try rw[hji9] at A7)
   have hji9_:(IntKind.i64.wrap (1*2^min a1.toNat 64))=ji9:=hji9
   have hji9z:a1≤64→(IntKind.i64.wrap (1*2^a1.toNat))=ji9:=shl_small hji9
   have hji9u:(IntKind.i64.wrap (2^min a1.toNat 64))=ji9:=by have h_:=hji9_;rw[Int.one_mul] at h_;exact h_
   have hji9v:a1≤64→(IntKind.i64.wrap (2^a1.toNat))=ji9:=fun hle_=>by have h_:=hji9z hle_;rw[Int.one_mul] at h_;exact h_
   have hji9y:(wrap64 (1*2^min a1.toNat 64))=ji9:=(i64_w _).symm.trans hji9_
   have hji9x:a1≤64→(wrap64 (1*2^a1.toNat))=ji9:=fun h_=>(i64_w _).symm.trans (hji9z h_)
   obtain rfl:=zI H
   go_wp2_with (first|(go_at_call 93;(with_reducible refine(impl_unGray.calls k1 x5_1 t281 _ A7.out).mono ?_);rintro e w' ⟨rfl,⟨nd,rfl⟩⟩;(try first|exact⟨rfl,_,zD _ _ _⟩|exact⟨rfl,_,Eq.trans (zD _ _ _) (congrArg (World.drewN _) (Nat.add_assoc _ _ _))⟩)))
   repeat(go_quiet (first|(go_at_call 93;(with_reducible refine(impl_unGray.calls k1 x5_1 t281 _ A7.out).mono ?_);rintro e w' ⟨rfl,⟨nd,rfl⟩⟩;(try first|exact⟨rfl,_,zD _ _ _⟩|exact⟨rfl,_,Eq.trans (zD _ _ _) (congrArg (World.drewN _) (Nat.add_assoc _ _ _))⟩)));try go_wp2_with (first|(go_at_call 93;(with_reducible refine(impl_unGray.calls k1 x5_1 t281 _ A7.out).mono ?_);rintro e w' ⟨rfl,⟨nd,rfl⟩⟩;(try first|exact⟨rfl,_,zD _ _ _⟩|exact⟨rfl,_,Eq.trans (zD _ _ _) (congrArg (World.drewN _) (Nat.add_assoc _ _ _))⟩))))
   go_ret
   exact⟨by first|rfl|(simp;done)|(simp only[←hji9]<;>(first|rfl|simp))|(simp[*];done),zd⟩
theorem mp_bx {ws wc:World} {g:Nat} {v:Value} (hB:Below ws.heap.size ws wc) (h:ws.cell? ⟨g,0,none⟩=some v):wc.cell? ⟨g,0,none⟩=some v:=(hB.cell (zW ws _ h)).trans h
theorem mp_exit {β:Type} {e:β} {F:Value→β} {w ws w':World} {r1:List S52} (hb:Below w.heap.size w ws) (h:∃v0_:Value,e=F v0_∧Kd.R k52 52 w' ws.heap.size (fun _=>True) v0_ r1∧Below ws.heap.size ws w'):
 ∃v0_:Value,e=F v0_∧Kd.R k52 52 w' w.heap.size (fun _=>True) v0_ r1∧Below w.heap.size w w':=by
 obtain⟨v,h1,h2,h3⟩:=h
 exact⟨v,h1,Kd.R_lower h2 (below_size hb),below_step hb h3⟩
mutual
def impl_Map.j0:Nat→Int→List Int→Bool→Option ((List (S52))×Bool)
 |0,_,_,_=>none
 |k+1,x0,x3,x17=>if x17=true then(some (([]:List (S52)),false)) else(impl_Map.l0 k x0 x3 (wrap64 (Int.tdiv x0 2)) ([]:List (S52)) 0)
def impl_Map.l0:Nat→Int→List Int→Int→List (S52)→Int→Option ((List (S52))×Bool)
 |0,_,_,_,_,_=>none
 |k+1,x0,x3,x6,x8,x9=>if x9<(x3.length:Int) then((impl_level.f k x9 x6 x3).bind fun t352=>((impl_level.f k (wrap64 (x9+x6)) x6 x3).bind fun t353=>(if x8.length<8796093022208 then(impl_Map.l0 k x0 x3 x6 (x8++[(⟨t352,t353⟩:S52)]) (wrap64 (x9+x0))) else(none)))) else(some (x8,true))
end
def impl_Map.f (k:Nat) (a0:Int) (l1:List Int):Option ((List (S52))×Bool):=(impl_BitsOk.f k l1).bind fun t350=>(if t350=true then((impl_isWidth.f a0).bind fun t351=>(impl_Map.j0 k a0 l1 (!t351))) else(impl_Map.j0 k a0 l1 true))
def impl_Map.T9:Bool×List (List Nat×List Nat):=(true,[([],[]),([],[]),([],[]),([1,2],[1,2]),([],[]),([],[]),([],[]),([5,6],[5,6]),([4,7,3],[4,7]),([3,8],[3,8]),([9],[9]),([0,10,8],[0,10]),([11,11,0,1,2,3,4,5,6,7,8,9,10,11],[0,11])])
def impl_Map.B9:List Nat:=[0,0,0,6,0,0,0,96,254,510,1022,2047,4095]
theorem impl_Map.tab9:rtab .any (opsOf Try.f42 9)=impl_Map.T9:=by kernel_rfl
theorem impl_Map.bits9:waitsOk impl_Map.T9.2 impl_Map.B9=true:=by kernel_rfl
theorem impl_Map.calls (k:Nat) (a0:Int) (A1:Option Addr) (c1:Nat) (l1:List Int) (r1:List (S52)) (r2:Bool) (w:World) (hr1:Kd.C (Kd.int .i64) w A1 l1.length l1) (hc1:l1.length≤c1) (H:impl_Map.f k a0 l1=some (r1,r2)):
 Calls Try.prog 42 #[.int .i64 a0, .slice A1 l1.length c1] w fun e w'=>∃v0_:Value,e= .returned (.tuple #[v0_, .bool r2])∧Kd.R k52 52 w' w.heap.size (fun _=>True) v0_ r1∧Below w.heap.size w w':=by
 have hu52:=Try.underlying52
 have HR1:=zM hr1
 have HC1:=zM hc1
 clear hr1 hc1
 have HB:=zM (Below.refl w.heap.size w)
 unfold impl_Map.f at H
 have HC3:=zM H
 clear H
 go_enter Try.func42,Try.ntmps42
 clear HB
 go_upto_region 1 with(first|((with_reducible refine gate_dst (N:=3) rfl ?_);refine box_event ?hg (N:=3) ?hd (cs:= #[.slice A1 l1.length c1]) (t:=46) ?hr ?_;(case hd|hg=>rfl);(case hr=>exact zh);intro gl hg ws hbox hb;have HB:=zM hb;have hcl:ws.cell? ⟨gl,0,none⟩=some (.slice A1 l1.length c1):=(blk_cell hbox 0).trans rfl;clear hbox hb hg))
 have HBz:=HB
 clear HB
 have HB:=zM (Below.refl ws.heap.size ws)
 have n_:=zM (Kd.C_below HR1.out HBz.out)
 clear HR1
 have HR1:=n_
 clear n_
 have CL:=zM hcl
 go_cut [17] (fun v17 wc=>∃(kq:Nat) (x17_2:Bool),v17= .bool x17_2∧Aside0 (impl_Map.j0 kq a0 l1 x17_2=some (r1,r2))∧Aside0 (kq≤k)∧Aside0 (Below ws.heap.size ws wc))
 case first=>
  have H:=HC3.out
  clear HC3
  replace H:=zP H
  obtain⟨t350,A4,H⟩:=H
  by_cases c5:t350=true
  case neg=>
   replace c5:=Bool.eq_false_iff.mpr c5
   subst c5
   rw[if_neg zFT] at H
   have H':=zM H
   clear H
   go_wp2_with (first|((with_reducible refine gate_callee (f:=91) rfl ?_);refine goesL_ (some 11) rfl rfl Try.func91 ze rfl #[.slice A1 l1.length c1] rfl zg ?_;(with_reducible refine(impl_BitsOk.calls k _ _ l1 false _ ?side1 ?side2 A4.out).mono ?_);(case side1=>exact zc (Kd.C_below HR1.out HB.out));(case side2=>exact HC1.out);rintro e w' ⟨rfl,⟨nd,rfl⟩⟩;refine⟨_,rfl,?_⟩))
   go_meet
   case rel=>exact⟨_,(true),zs,H',⟨zo⟩,⟨zb⟩⟩
  subst c5
  rw[if_pos rfl] at H
  replace H:=zP H
  obtain⟨t351,A6,H⟩:=H
  have H':=zM H
  clear H
  go_wp2_with (first|((with_reducible refine gate_callee (f:=91) rfl ?_);refine goesL_ (some 11) rfl rfl Try.func91 ze rfl #[.slice A1 l1.length c1] rfl zg ?_;(with_reducible refine(impl_BitsOk.calls k _ _ l1 true _ ?side1 ?side2 A4.out).mono ?_);(case side1=>exact zc (Kd.C_below HR1.out HB.out));(case side2=>exact HC1.out);rintro e w' ⟨rfl,⟨nd,rfl⟩⟩;refine⟨_,rfl,?_⟩)|(go_at_call 82;(with_reducible refine(impl_isWidth.calls a0 t351 _ A6.out).mono ?_);rintro e w' ⟨rfl,⟨nd,rfl⟩⟩))
  go_meet
  case rel=>exact⟨_,(!t351),zs,H',⟨zo⟩,⟨zb⟩⟩
 case rest=>
  clear HC3
  skip
  obtain⟨kq,x17_2,rfl,HA,HJ2,HB⟩:=hcut
  clear hcl
  have hcl:=mp_bx HB.out CL.out
  cases kq with
  |zero=>exact absurd HA.out (by simp[impl_Map.j0])
  | succ kj2=>
   have H:=HA.out
   clear HA
   simp only[impl_Map.j0] at H
   by_cases c7:x17_2=true
   case pos=>
    subst c7
    rw[if_pos rfl] at H
    simp only[Option.some.injEq,Prod.mk.injEq] at H
    obtain⟨rfl,rfl⟩:=H
    go_wp2
    go_ret2
    refine mp_exit HBz.out ?_
    exact⟨_,zq,zz,zb⟩
   replace c7:=Bool.eq_false_iff.mpr c7
   subst c7
   rw[if_neg zFT] at H
   have H':=zM H
   clear H
   go_wp2_with (first|((with_reducible refine gate_dst (N:=6) rfl ?_);refine box_event ?hg (N:=6) ?hd (cs:= #[.int .i64 0]) (t:=3) ?hr ?_;(case hd|hg=>rfl);(case hr=>exact zh);intro gh hg wg hbox hb;have GH:=zM (by rw[hg];exact below_size HB.out:ws.heap.size≤gh);have n0_:=zM (below_step HB.out hb);have BH:=zM hbox;clear HB;have HB:=n0_;clear n0_ hbox hb hg hcl;have hcl:=mp_bx HB.out CL.out;have hx6:wg.cell? ⟨gh,0,none⟩=some (.int .i64 0):=(blk_cell BH.out 0).trans rfl;have hf6:=blk_frozen BH.out 0)|((with_reducible refine gate_store (t:=3) (p:=6) rfl ?_);refine store_event (t:=3) (p:=6) (v:= ?vo_6) (w1:=(wg.setCell ⟨gh,0,none⟩ (.int .i64 (wrap64 (Int.tdiv a0 2))))) ?hg ?ho ?hn ?hr ?_;(case ho=>rfl);(case hg=>rfl);(case hn=>rfl);(case hr=>exact zh);intro wh hw;have n0_:Aside0 (Below ws.heap.size ws wh):=⟨by rw[hw];exact zBs HB.out GH.out⟩;have n1_:Aside0 (wh.heap[gh]? =some (.cells #[.int .i64 (wrap64 (Int.tdiv a0 2))] 3 (0,0))):=⟨by rw[hw];exact blk_put (cs:= #[.int .i64 0]) BH.out 0 _ rfl⟩;clear hw HB BH hx6 hf6 hcl;have HB:=n0_;have BH:=n1_;clear n0_ n1_;have hch:wh.cell? ⟨gh,0,none⟩=some (.int .i64 (wrap64 (Int.tdiv a0 2))):=(blk_cell BH.out 0).trans rfl))
   have HBy:=HB
   clear HB
   have HB:=zM (Below.refl wh.heap.size wh)
   have n_:=zM (Kd.C_below HR1.out HBy.out)
   clear HR1
   have HR1:=n_
   clear n_ BH
   have CL2:=zM (mp_bx HBy.out CL.out)
   have CH:=zM hch
   clear hch
   (try simp only[Act.put,zL1,zL2,zL3])
   go_loopg [8,9] kj2 (fun kq v8 v9 w'=>∃(x8_2:List (S52)) (x9_2:Int),v9= .int .i64 x9_2∧Aside0 (impl_Map.l0 kq a0 l1 (wrap64 (Int.tdiv a0 2)) x8_2 x9_2=some (r1,r2))∧Aside0 (kq≤kj2)∧Aside0 (Kd.R k52 52 w' wh.heap.size (fun _=>True) v8 x8_2)∧Aside0 (Below wh.heap.size wh w'))
   case atStart=>exact⟨(([]:List (S52))),(0),zs,H',⟨Nat.le_refl _⟩,⟨zz⟩,⟨zb⟩⟩
   case round=>
    clear H'
    skip
    obtain⟨x8_2,x9_2,rfl,HA,HK2,HO_8,HB⟩:=hrel
    have hcl:=mp_bx HB.out CL2.out
    cases gk with
    |zero=>exact absurd HA.out (by simp[impl_Map.l0])
    | succ k2=>
     have H:=HA.out
     clear HA
     simp only[impl_Map.l0] at H
     replace H:=zI2 H
     rcases H with⟨c8,H⟩|⟨c8,H⟩
     case inr=>
      have c8b0:=decide_eq_false c8
      clear c8
      simp only[Option.some.injEq,Prod.mk.injEq] at H
      obtain⟨rfl,rfl⟩:=H
      go_wp2
      go_ret2
      refine mp_exit HBz.out ?_
      refine mp_exit HBy.out ?_
      exact⟨_,zq,zr HO_8,zb⟩
     have c8b0:=zE c8
     clear c8
     replace H:=zP H
     obtain⟨t352,A9,H⟩:=H
     replace H:=zP H
     obtain⟨t353,A10,H⟩:=H
     replace H:=zIM H
     obtain⟨LMc11,H⟩:=H
     obtain⟨y354,hy354⟩:∃y_:List (S52),y_=(x8_2++[(⟨t352,t353⟩:S52)]):=⟨_,rfl⟩
     rw[←hy354] at H
     have Ny354:=zM hy354
     clear hy354
     have H':=zM H
     clear H
     try go_wp2
     refine zS2 (zRd HO_8.out) (zBd HB.out) ?_
     clear HO_8 HB
     intro HO_8 HB
     refine start_ (n:=13) (S:=fun w'=>w'.cell? ⟨gh,0,none⟩=some (.int .i64 (wrap64 (Int.tdiv a0 2)))) (ds:=[]) #[zf,zf,zf,zf,zf,zf,zf,zf,zf,zf,zf,zf,zf] ze rfl rfl (mp_bx HB.out CH.out) (fun hHeld=> ?_);refine with_tabW impl_Map.tab9 impl_Map.bits9 (fun HT_ HW_=> ?_)
     generalize wr.drew=w12 at HO_8 HB hHeld ⊢
     refine zu 0 28 ?_
     refine zu 1 29 ?_
     refine zu 2 30 ?_
     refine zu 4 32 ?_
     refine zu 5 33 ?_
     refine take_ (i:=6) (N:=some 34) (v:= ?_) (a':= ?_) #[zt,zt,zt,zf,zt,zt,zt,zf,zf,zf,zf,zf,zf] rfl rfl (take_ofW HT_.out HW_.out ze) (fun _ _ _ h=>h) (Or.inl ⟨by rfl,?_⟩) hHeld ?_ ?_
     rotate_left
     ·intro w' s0
      go_simp
      with_reducible rfl
     rotate_left
     ·simp only[Act.put,zL1,zL2,zL3,i64_w,i32_w]
      rfl
     refine zu 7 35 ?_
     refine one_ (i:=3) (N:=some 31) #[zt,zt,zt,zt,zt,zt,zt,zt,zf,zf,zf,zf,zf] rfl rfl (one_of HT_.out ze) (by decide) (fun K hK=> ?_)
     refine call_ 92 #[.int .i64 x9_2, .pointer (some ⟨gh,0,none⟩), .pointer (some ⟨gl,0,none⟩)] (by rfl) rfl (by go_simp) ?_
     with_reducible refine(impl_level.calls k2 x9_2 (wrap64 (Int.tdiv a0 2)) _ _ l1 t352 _ ?side1 ?side2 gh gl (mp_bx zb CH.out) (mp_bx zb CL2.out) A9.out).mono ?_
     (case side1=>exact zc (Kd.C_below HR1.out HB.out))
     (case side2=>exact HC1.out)
     rintro e w' ⟨rfl,⟨nd,rfl⟩⟩
     refine⟨_,rfl,?_⟩
     refine hK.out _ _ (mp_bx zb CH.out) (fun hHeld=> ?_)
     clear hK K
     refine norm_ (a':= ?_) ?_ ?_
     rotate_left
     ·show Act.put _ (some 31) _=_
      simp only[Act.put,zL1,zL2,zL3,i64_w,i32_w]
      rfl
     refine one_ (i:=8) (N:=some 36) #[zt,zt,zt,zt,zt,zt,zt,zt,zt,zf,zf,zf,zf] rfl rfl (one_of HT_.out ze) (by decide) (fun K hK=> ?_)
     refine call_ 92 #[.int .i64 (wrap64 (x9_2+(wrap64 (Int.tdiv a0 2)))), .pointer (some ⟨gh,0,none⟩), .pointer (some ⟨gl,0,none⟩)] (by rfl) rfl (by go_simp) ?_
     with_reducible refine(impl_level.calls k2 (wrap64 (x9_2+(wrap64 (Int.tdiv a0 2)))) (wrap64 (Int.tdiv a0 2)) _ _ l1 t353 _ ?side1 ?side2 gh gl (mp_bx zb CH.out) (mp_bx zb CL2.out) A10.out).mono ?_
     (case side1=>exact zc (Kd.C_below HR1.out zb))
     (case side2=>exact HC1.out)
     rintro e w' ⟨rfl,⟨nd,rfl⟩⟩
     refine⟨_,rfl,?_⟩
     refine hK.out _ _ (mp_bx zb CH.out) (fun hHeld=> ?_)
     clear hK K
     refine norm_ (a':= ?_) ?_ ?_
     rotate_left
     ·show Act.put _ (some 36) _=_
      simp only[Act.put,zL1,zL2,zL3,i64_w,i32_w]
      rfl
     refine zu 9 37 ?_
     refine one_ (i:=10) (N:=some 38) #[zt,zt,zt,zt,zt,zt,zt,zt,zt,zt,zt,zf,zf] rfl rfl (one_of HT_.out ze) (by decide) (fun K hK=> ?_)
     refine value_ (w1:= ?_) (v:= ?_) (by rfl) rfl ?_ ?_
     rotate_left 2
     ·go_simp
      constructor
      ·rfl
      ·rfl
     refine hK.out _ _ (mp_bx zb CH.out) (fun hHeld=> ?_)
     clear hK K
     refine norm_ (a':= ?_) ?_ ?_
     rotate_left
     ·show Act.put _ (some 38) _=_
      simp only[Act.put,zL1,zL2,zL3,i64_w,i32_w]
      rfl
     refine one_ (i:=11) (N:=some 39) #[zt,zt,zt,zt,zt,zt,zt,zt,zt,zt,zt,zt,zf] rfl rfl (one_of HT_.out ze) (by decide) (fun K hK=> ?_)
     refine Kd.R_append_step k52 (w0:=wh) wh.heap.size (by rfl) (.tmp 28) (.tmp 38) 25 52 (.agg #[(.int .i64 0),(.int .i64 0)]) 16 rfl Try.underlying25 info52 rfl (by decide) (by omega) u8 x8_2 (⟨t352,t353⟩:S52) [.int .i64 t352, .int .i64 t353] (fun _=>True) (fun _=>False) rfl rfl ?aP (fun _ hk=>hk.elim) ?aF ?aO ?aB ?aS ?aL ?_
     (case aP=>exact k52_mkM _ _ _ (⟨t352,t353⟩:S52))
     (case aB=>exact zb)
     (case aF=>exact(fun _ _=>trivial))
     (case aO=>exact(zr HO_8))
     (case aS=>exact(below_size zb))
     (case aL=>have:=LMc11.out;omega)
     intro v355 w13 ho hb hg hat
     (first|rw[←Ny354.out] at ho|simp only[Int.reduceToNat,←Ny354.out] at ho)
     refine zS2 (hb) (ho) ?_
     clear HB HO_8
     intro HB HO356
     clear ho hb hg hat
     refine hK.out _ _ (mp_bx zb CH.out) (fun hHeld=> ?_)
     clear hK K
     refine norm_ (a':= ?_) ?_ ?_
     rotate_left
     ·show Act.put _ (some 39) _=_
      simp only[Act.put,zL1,zL2,zL3,i64_w,i32_w]
      rfl
     refine zu 12 8 ?_
     refine done_ (done_of HT_.out ze) ?_
     try go_wp2
     go_roundg k2
     case measure=>have:=HJ2.out;have:=HK2.out;omega
     case rel=>exact⟨(y354),(wrap64 (x9_2+a0)),zs,H',⟨zl2 HJ2 HK2⟩,⟨zr HO356⟩,⟨zb⟩⟩
def bits_Mul32.f (a0:Int) (a1:Int):Option (Int×Int):=some (((IntKind.u64.wrap ((IntKind.u64.wrap (a0))*(IntKind.u64.wrap (a1)))) / 4294967296)%4294967296,(IntKind.u64.wrap ((IntKind.u64.wrap (a0))*(IntKind.u64.wrap (a1))))%4294967296)
theorem bits_Mul32.calls (a0:Int) (a1:Int) (r1:Int) (r2:Int) (w:World) (H:bits_Mul32.f a0 a1=some (r1,r2)):
 Calls Try.prog 121 #[.int .u32 a0, .int .u32 a1] w fun e w'=>e= .returned (.tuple #[.int .u32 r1, .int .u32 r2])∧Drawn0 w w':=by
 unfold bits_Mul32.f at H
 simp only[Option.some.injEq,Prod.mk.injEq] at H
 obtain⟨rfl,rfl⟩:=H
 go_enter Try.func121,Try.ntmps121
 go_wp2
 go_ret2
 exact⟨zs,zd⟩
end Go.Proofs.Ytapobpkeefeajaa.PFnModem
