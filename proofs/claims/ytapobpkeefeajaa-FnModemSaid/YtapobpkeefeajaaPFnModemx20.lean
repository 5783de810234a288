-- A turned copy of the print's text.
import Derived.Test.YtapobpkeefeajaaPFnModemx0
import Derived.Test.YtapobpkeefeajaaPFnModemx17
import Derived.Test.YtapobpkeefeajaaPFnModemx19
namespace Go.Proofs.Ytapobpkeefeajaa.PFnModem
open Go.RowKit Go.Proofs.YtapobpkeefeajaaW.PrintWords Go.Proofs.YtapobpkeefeajaaW.PrintLast Go.Proofs.YtapobpkeefeajaaW.PrintMore
attribute [local go_sem] max2_int min2_int max_two min_two max_three min_three max_four min_four
set_option maxHeartbeats 8000000
set_option maxRecDepth 100000
set_option linter.unusedVariables false
set_option linter.unusedSimpArgs false
mutual
def spec_Stir.j0:Nat→List Int→Int→Int→List Int→Bool→Option (List Int×Bool)
 |0,_,_,_,_,_=>none
 |k+1,x0,x1,x2,x8,x25=>if x25=true then(some (x8,false)) else(spec_Stir.l0 k x0 x1 x8 x2 0)
def spec_Stir.l0:Nat→List Int→Int→List Int→Int→Int→Option (List Int×Bool)
 |0,_,_,_,_,_=>none
 |k+1,x0,x1,x8,x9,x10=>if x10<(x0.length:Int) then(if 0≤x10 then(if x8.length<17592186044416 then((some (x8++[Go.bits .xor .i64 (rd x0 x10) (Int.tmod x9 2)]:List Int)).bind fun y364=>(if(Int.tmod x9 2)=1 then(spec_Stir.l0 k x0 x1 y364 (Go.bits .xor .i64 (wrap64 (Int.tdiv x9 2)) x1) (wrap64 (x10+1))) else(spec_Stir.l0 k x0 x1 y364 (wrap64 (Int.tdiv x9 2)) (wrap64 (x10+1))))) else(none)) else(none)) else(some (x8,true))
end
def spec_Stir.f (k:Nat) (l0:List Int) (a1:Int) (a2:Int):Option (List Int×Bool):=(some (([]:List Int):List Int)).bind fun y357=>((spec_BitsOk.f k l0).bind fun t360=>(if t360=true then((spec_l1In.f a1 1 65535).bind fun t361=>(if t361=true then((spec_l1In.f a2 1 65535).bind fun t362=>(spec_Stir.j0 k l0 a1 a2 y357 (!t362))) else(spec_Stir.j0 k l0 a1 a2 y357 true))) else(spec_Stir.j0 k l0 a1 a2 y357 true)))
theorem spec_Stir.calls (k:Nat) (A0:Option Addr) (c0:Nat) (l0:List Int) (a1:Int) (a2:Int) (r1:List Int) (r2:Bool) (w:World) (hr0:Kd.C (Kd.int .i64) w A0 l0.length l0) (hc0:l0.length≤c0) (H:spec_Stir.f k l0 a1 a2=some (r1,r2)):
 Calls Try.prog 34 #[.slice A0 l0.length c0, .int .i64 a1, .int .i64 a2] w fun e w'=>∃v0_:Value,e= .returned (.tuple #[v0_, .bool r2])∧Kd.R (Kd.int .i64) 3 w' w.heap.size (fun _=>True) v0_ r1∧Below w.heap.size w w':=by
 have HR0:=zM hr0
 have HC0:=zM hc0
 clear hr0 hc0
 have HB:=zM (Below.refl w.heap.size w)
 unfold spec_Stir.f at H
 replace H:=zY H
 obtain⟨y357,Ny357,H⟩:=H
 have HC4:=zM H
 clear H
 go_enter Try.func34,Try.ntmps34
 go_upto_region 2 with(first|((with_reducible refine gate_dst (N:=12) rfl ?_);refine Kd.R_lit (Kd.int .i64) _ 3 ?hg (N:=12) ?hd (xs:=([]:List Int)) (inner:=[]) (ok:=fun _=>True) (okp:=fun _=>True) ?hr ?hp (fun _ hk=>hk) trivial (Below.refl _ _) (Nat.le_refl _) (by simp) ?_;(case hd|hg=>rfl);(case hr=>exact zh);(case hp=>exact(Reps.none _ _));intro v358 w5 ho6 hb hg_ hnew_;clear hg_ hnew_;(first|rw[←Ny357.out] at ho6|simp only[Int.reduceToNat,←Ny357.out] at ho6);refine zS2 (Kd.R_lower ho6 (below_size zb)) (below_step zb hb) ?_;clear HB;intro HO359 HB;clear hb ho6))
 (try simp only[Act.put,zL1,zL2,zL3])
 go_cut [25] (fun v25 wc=>∃(kq:Nat) (x25_3:Bool),v25= .bool x25_3∧Aside0 (spec_Stir.j0 kq l0 a1 a2 y357 x25_3=some (r1,r2))∧Aside0 (kq≤k)∧Aside0 (Kd.R (Kd.int .i64) 3 wc w.heap.size (fun _=>True) v358 y357)∧Aside0 (Below w.heap.size w wc))
 case first=>
  have H:=HC4.out
  clear HC4
  replace H:=zP H
  obtain⟨t360,A7,H⟩:=H
  by_cases c8:t360=true
  case neg=>
   replace c8:=Bool.eq_false_iff.mpr c8
   subst c8
   rw[if_neg zFT] at H
   have H':=zM H
   clear H
   go_wp2_with (first|((with_reducible refine gate_callee (f:=80) rfl ?_);refine goesL_ (some 14) rfl rfl Try.func80 ze rfl #[.slice A0 l0.length c0] rfl zg ?_;(with_reducible refine(spec_BitsOk.calls k _ _ l0 false _ ?side1 ?side2 A7.out).mono ?_);(case side1=>exact zc (Kd.C_below HR0.out HB.out));(case side2=>exact HC0.out);rintro e w' ⟨rfl,⟨nd,rfl⟩⟩;refine⟨_,rfl,?_⟩))
   go_meet
   case rel=>exact⟨_,(true),zs,H',⟨zo⟩,⟨zr HO359⟩,⟨zb⟩⟩
  subst c8
  rw[if_pos rfl] at H
  replace H:=zP H
  obtain⟨t361,A9,H⟩:=H
  by_cases c10:t361=true
  case neg=>
   replace c10:=Bool.eq_false_iff.mpr c10
   subst c10
   rw[if_neg zFT] at H
   have H':=zM H
   clear H
   go_wp2_with (first|((with_reducible refine gate_callee (f:=80) rfl ?_);refine goesL_ (some 14) rfl rfl Try.func80 ze rfl #[.slice A0 l0.length c0] rfl zg ?_;(with_reducible refine(spec_BitsOk.calls k _ _ l0 true _ ?side1 ?side2 A7.out).mono ?_);(case side1=>exact zc (Kd.C_below HR0.out HB.out));(case side2=>exact HC0.out);rintro e w' ⟨rfl,⟨nd,rfl⟩⟩;refine⟨_,rfl,?_⟩)|(go_at_call 30;(with_reducible refine(spec_l1In.calls a1 1 65535 false _ A9.out).mono ?_);rintro e w' ⟨rfl,⟨nd,rfl⟩⟩))
   go_meet
   case rel=>exact⟨_,(true),zs,H',⟨zo⟩,⟨zr HO359⟩,⟨zb⟩⟩
  subst c10
  rw[if_pos rfl] at H
  replace H:=zP H
  obtain⟨t362,A11,H⟩:=H
  have H':=zM H
  clear H
  go_wp2_with (first|((with_reducible refine gate_callee (f:=80) rfl ?_);refine goesL_ (some 14) rfl rfl Try.func80 ze rfl #[.slice A0 l0.length c0] rfl zg ?_;(with_reducible refine(spec_BitsOk.calls k _ _ l0 true _ ?side1 ?side2 A7.out).mono ?_);(case side1=>exact zc (Kd.C_below HR0.out HB.out));(case side2=>exact HC0.out);rintro e w' ⟨rfl,⟨nd,rfl⟩⟩;refine⟨_,rfl,?_⟩)|(go_at_call 30;(with_reducible refine(spec_l1In.calls a1 1 65535 true _ A9.out).mono ?_);rintro e w' ⟨rfl,⟨nd,rfl⟩⟩)|(go_at_call 30;(with_reducible refine(spec_l1In.calls a2 1 65535 t362 _ A11.out).mono ?_);rintro e w' ⟨rfl,⟨nd,rfl⟩⟩))
  go_meet
  case rel=>exact⟨_,(!t362),zs,H',⟨zo⟩,⟨zr HO359⟩,⟨zb⟩⟩
 case rest=>
  clear HC4
  obtain⟨kq,x25_3,rfl,HA,HJ3,HO_8,HB⟩:=hcut
  cases kq with
  |zero=>exact absurd HA.out (by simp[spec_Stir.j0])
  | succ kj3=>
   have H:=HA.out
   clear HA
   simp only[spec_Stir.j0] at H
   by_cases c12:x25_3=true
   case pos=>
    subst c12
    rw[if_pos rfl] at H
    simp only[Option.some.injEq,Prod.mk.injEq] at H
    obtain⟨rfl,rfl⟩:=H
    go_wp2
    go_ret2
    exact⟨_,zq,zr HO_8,zb⟩
   replace c12:=Bool.eq_false_iff.mpr c12
   subst c12
   rw[if_neg zFT] at H
   have H':=zM H
   clear H
   go_wp2
   (try simp only[Act.put,zL1,zL2,zL3])
   go_loopg [8,9,10] kj3 (fun kq v8 v9 v10 w'=>∃(x8_2:List Int) (x9_2:Int) (x10_2:Int),v9= .int .i64 x9_2∧v10= .int .i64 x10_2∧Aside0 (spec_Stir.l0 kq l0 a1 x8_2 x9_2 x10_2=some (r1,r2))∧Aside0 (kq≤kj3)∧Aside0 (Kd.R (Kd.int .i64) 3 w' w.heap.size (fun _=>True) v8 x8_2)∧Aside0 (Below w.heap.size w w'))
   case atStart=>exact⟨(y357),(a2),(0),zs,zs,H',⟨Nat.le_refl _⟩,⟨zr HO_8⟩,⟨zb⟩⟩
   case round=>
    clear H'
    obtain⟨x8_2,x9_2,x10_2,rfl,rfl,HA,HK2,HO_8,HB⟩:=hrel
    cases gk with
    |zero=>exact absurd HA.out (by simp[spec_Stir.l0])
    | succ k2=>
     have H:=HA.out
     clear HA
     simp only[spec_Stir.l0] at H
     replace H:=zI2 H
     rcases H with⟨c13,H⟩|⟨c13,H⟩
     case inr=>
      have c13b0:=decide_eq_false c13
      clear c13
      simp only[Option.some.injEq,Prod.mk.injEq] at H
      obtain⟨rfl,rfl⟩:=H
      go_wp2
      go_ret2
      exact⟨_,zq,zr HO_8,zb⟩
     have c13b0:=zE c13
     clear c13
     replace H:=zID H
     obtain⟨c14b0,H⟩:=H
     replace H:=zIM H
     obtain⟨LMc15,H⟩:=H
     replace H:=zY H
     obtain⟨y364,Ny364,H⟩:=H
     replace H:=zI2 H
     rcases H with⟨c16,H⟩|⟨c16,H⟩
     case inr=>
      have c16b0:((Int.tmod x9_2 2)==1)=false:=beq_eq_false_iff_ne.mpr c16
      have c16b1:((Int.tmod x9_2 2) != 1)=true:=bne_iff_ne.mpr c16
      have H':=zM H
      clear H
      have p363:0≤(x10_2:Int):=zT (by assumption)
      have q363:x10_2<(l0.length:Int):=zT (by assumption)
      obtain⟨ad363,e363,hx363_0⟩:=Kd.at_int HR0.out x10_2 p363 q363
      cases e363
      replace hx363_0:=(HB.out.cell (zW w _ hx363_0)).trans hx363_0
      replace p363:=eq_true p363
      replace q363:=eq_true q363
      go_wp2_with (first|((with_reducible refine gate_builtin (b:= .append) (xs:= #[.tmp 36, .tmp 43]) rfl ?_);at_builtin;refine Kd.R_append (Kd.int .i64) (w0:=w) w.heap.size rfl (.tmp 36) (.tmp 43) 46 3 (.int .i64 0) 8 rfl Try.underlying46 info3 rfl (by decide) (by omega) u8 x8_2 (Go.bits .xor .i64 (rd l0 x10_2) (Int.tmod x9_2 2)) [.int .i64 (Go.bits .xor .i64 (rd l0 x10_2) (Int.tmod x9_2 2))] (fun _=>True) (fun _=>False) rfl rfl ?aP (fun _ hk=>hk.elim) ?aF ?aO ?aB ?aS ?aL ?_;(case aP=>exact rfl);(case aB=>exact zb);(case aF=>exact(fun _ _=>trivial));(case aO=>exact(zr HO_8));(case aS=>exact(below_size zb));(case aL=>have:=LMc15.out;omega);intro v365 w18 ho hb hg hat;(first|rw[←Ny364.out] at ho|simp only[Int.reduceToNat,←Ny364.out] at ho);refine zS2 (hb) (ho) ?_;clear HB HO_8;intro HB HO366;clear ho hb hg hat))
      go_roundg k2
      case measure=>have:=HJ3.out;have:=HK2.out;omega
      case rel=>exact⟨(y364),(wrap64 (Int.tdiv x9_2 2)),(wrap64 (x10_2+1)),zs,zs,H',⟨zl2 HJ3 HK2⟩,⟨zr HO366⟩,⟨zb⟩⟩
     have c16b0:((Int.tmod x9_2 2)==1)=true:=beq_iff_eq.mpr c16
     have c16b1:((Int.tmod x9_2 2) != 1)=false:=bne_eq_false_iff_eq.mpr c16
     clear c16
     have H':=zM H
     clear H
     have p363:0≤(x10_2:Int):=zT (by assumption)
     have q363:x10_2<(l0.length:Int):=zT (by assumption)
     obtain⟨ad363,e363,hx363_0⟩:=Kd.at_int HR0.out x10_2 p363 q363
     cases e363
     replace hx363_0:=(HB.out.cell (zW w _ hx363_0)).trans hx363_0
     replace p363:=eq_true p363
     replace q363:=eq_true q363
     go_wp2_with (first|((with_reducible refine gate_builtin (b:= .append) (xs:= #[.tmp 36, .tmp 43]) rfl ?_);at_builtin;refine Kd.R_append (Kd.int .i64) (w0:=w) w.heap.size rfl (.tmp 36) (.tmp 43) 46 3 (.int .i64 0) 8 rfl Try.underlying46 info3 rfl (by decide) (by omega) u8 x8_2 (Go.bits .xor .i64 (rd l0 x10_2) (Int.tmod x9_2 2)) [.int .i64 (Go.bits .xor .i64 (rd l0 x10_2) (Int.tmod x9_2 2))] (fun _=>True) (fun _=>False) rfl rfl ?aP (fun _ hk=>hk.elim) ?aF ?aO ?aB ?aS ?aL ?_;(case aP=>exact rfl);(case aB=>exact zb);(case aF=>exact(fun _ _=>trivial));(case aO=>exact(zr HO_8));(case aS=>exact(below_size zb));(case aL=>have:=LMc15.out;omega);intro v365 w17 ho hb hg hat;(first|rw[←Ny364.out] at ho|simp only[Int.reduceToNat,←Ny364.out] at ho);refine zS2 (hb) (ho) ?_;clear HB HO_8;intro HB HO366;clear ho hb hg hat))
     go_roundg k2
     case measure=>have:=HJ3.out;have:=HK2.out;omega
     case rel=>exact⟨(y364),(Go.bits .xor .i64 (wrap64 (Int.tdiv x9_2 2)) a1),(wrap64 (x10_2+1)),zs,zs,H',⟨zl2 HJ3 HK2⟩,⟨zr HO366⟩,⟨zb⟩⟩
def spec_UnGray.l0:Nat→Int→Int→Option (Int)
 |0,_,_=>none
 |k+1,x0,x3=>if x0>0 then(spec_UnGray.l0 k (wrap64 (Int.tdiv x0 2)) (Go.bits .xor .i64 x3 x0)) else(some x3)
def spec_UnGray.f (k:Nat) (a0:Int):Option (Int):=(spec_l1In.f a0 0 4000000000000000000).bind fun t367=>(if t367=true then(spec_UnGray.l0 k a0 0) else(some 0))
theorem spec_UnGray.mono_l:∀k,(∀y0 y1,LeO (spec_UnGray.l0 k y0 y1) (spec_UnGray.l0 (k+1) y0 y1))
 |0=>fun _ _ r h=>by simp[spec_UnGray.l0] at h
 | k+1=>by
  have ih0:=spec_UnGray.mono_l k
  ·intro y0 y1
   unfold spec_UnGray.l0
   repeat' first
   |(with_reducible exact ih0 _ _)
   |(with_reducible exact LeO.refl _)
   |(with_reducible exact LeO.none _)
   |(with_reducible refine LeO.ite ?_ ?_)
   |(with_reducible refine LeO.bind ?_ (fun _=> ?_))
theorem spec_UnGray.mono:∀a0 k,LeO (spec_UnGray.f k a0) (spec_UnGray.f (k+1) a0):=by
 intro a0 k
 have ih0:=spec_UnGray.mono_l k
 unfold spec_UnGray.f
 repeat' first
  |(with_reducible exact ih0 _ _)
  |(with_reducible exact LeO.refl _)
  |(with_reducible exact LeO.none _)
  |(with_reducible refine LeO.ite ?_ ?_)
  |(with_reducible refine LeO.bind ?_ (fun _=> ?_))
theorem spec_UnGray.calls (k:Nat) (a0:Int) (r:Int) (w:World) (H:spec_UnGray.f k a0=some r):
 Calls Try.prog 118 #[.int .i64 a0] w fun e w'=>e= .returned (.int .i64 r)∧Drawn0 w w':=by
 unfold spec_UnGray.f at H
 replace H:=zP H
 obtain⟨t367,A2,H⟩:=H
 by_cases c3:t367=true
 case neg=>
  replace c3:=Bool.eq_false_iff.mpr c3
  subst c3
  rw[if_neg zFT] at H
  obtain rfl:=zI H
  go_enter Try.func118,Try.ntmps118
  go_wp2_with (first|((with_reducible refine gate_callee (f:=30) rfl ?_);refine goesL_ (some 5) rfl rfl Try.func30 ze rfl #[.int .i64 a0, .int .i64 0, .int .i64 4000000000000000000] rfl zg ?_;(with_reducible refine(spec_l1In.calls a0 0 4000000000000000000 false _ A2.out).mono ?_);rintro e w' ⟨rfl,⟨nd,rfl⟩⟩;refine⟨_,rfl,?_⟩))
  go_ret
  exact⟨zs,zd⟩
 subst c3
 rw[if_pos rfl] at H
 have H':=zM H
 clear H
 go_enter Try.func118,Try.ntmps118
 go_wp2_with (first|((with_reducible refine gate_callee (f:=30) rfl ?_);refine goesL_ (some 5) rfl rfl Try.func30 ze rfl #[.int .i64 a0, .int .i64 0, .int .i64 4000000000000000000] rfl zg ?_;(with_reducible refine(spec_l1In.calls a0 0 4000000000000000000 true _ A2.out).mono ?_);rintro e w' ⟨rfl,⟨nd,rfl⟩⟩;refine⟨_,rfl,?_⟩))
 (try simp only[Act.put,zL1,zL2,zL3])
 go_loopg [0,3] k (fun kq v0 v3 w'=>∃(x0_1:Int) (x3_1:Int),v0= .int .i64 x0_1∧v3= .int .i64 x3_1∧Aside0 (spec_UnGray.l0 kq x0_1 x3_1=some r)∧Aside0 (kq≤k)∧Drawn0 w w')
 case atStart=>exact⟨(a0),(0),zs,zs,H',⟨Nat.le_refl _⟩,zd⟩
 case round=>
  clear H'
  obtain⟨x0_1,x3_1,rfl,rfl,HA,HK1,⟨m1,rfl⟩⟩:=hrel
  cases gk with
  |zero=>exact absurd HA.out (by simp[spec_UnGray.l0])
  | succ k1=>
   have H:=HA.out
   clear HA
   simp only[spec_UnGray.l0] at H
   replace H:=zI2 H
   rcases H with⟨c4,H⟩|⟨c4,H⟩
   case inr=>
    have c4b0:decide (0<x0_1)=false:=decide_eq_false c4
    clear c4
    obtain rfl:=zI H
    go_wp2
    go_ret
    exact⟨zs,zd⟩
   have c4b0:decide (0<x0_1)=true:=zE c4
   clear c4
   have H':=zM H
   clear H
   go_wp2
   go_roundg k1
   case measure=>have:=HK1.out;omega
   case rel=>exact⟨(wrap64 (Int.tdiv x0_1 2)),(Go.bits .xor .i64 x3_1 x0_1),zs,zs,H',⟨zl1 HK1⟩,zd⟩
def spec_l13Level.l0:Nat→List Int→Int→Int→Option (Int)
 |0,_,_,_=>none
 |k+1,x0,x3,x4=>if x4<(x0.length:Int) then(if 0≤x4 then(spec_l13Level.l0 k x0 (wrap64 ((wrap64 (2*x3))+(rd x0 x4))) (wrap64 (x4+1))) else(none)) else((spec_UnGray.f k x3).bind fun t369=>(if 0≤(IntKind.u64.wrap ((x0.length:Int))) then(some (wrap64 ((wrap64 (2*t369))-(wrap64 ((shl .i64 1 (IntKind.u64.wrap ((x0.length:Int))))-1))))) else(none)))
def spec_l13Level.f (k:Nat) (l0:List Int):Option (Int):=spec_l13Level.l0 k l0 0 0
theorem spec_l13Level.calls (k:Nat) (A0:Option Addr) (c0:Nat) (l0:List Int) (r:Int) (w:World) (hr0:Kd.C (Kd.int .i64) w A0 l0.length l0) (hc0:l0.length≤c0) (H:spec_l13Level.f k l0=some r):
 Calls Try.prog 81 #[.slice A0 l0.length c0] w fun e w'=>e= .returned (.int .i64 r)∧Drawn0 w w':=by
 have HR0:=zM hr0
 have HC0:=zM hc0
 clear hr0 hc0
 unfold spec_l13Level.f at H
 have H':=zM H
 clear H
 go_enter Try.func81,Try.ntmps81
 go_wp2
 (try simp only[Act.put,zL1,zL2,zL3])
 go_loopg [3,4] k (fun kq v3 v4 w'=>∃(x3_1:Int) (x4_1:Int),v3= .int .i64 x3_1∧v4= .int .i64 x4_1∧Aside0 (spec_l13Level.l0 kq l0 x3_1 x4_1=some r)∧Aside0 (kq≤k)∧Drawn0 w w')
 case atStart=>exact⟨(0),(0),zs,zs,H',⟨Nat.le_refl _⟩,zd⟩
 case round=>
  clear H'
  obtain⟨x3_1,x4_1,rfl,rfl,HA,HK1,⟨m1,rfl⟩⟩:=hrel
  cases gk with
  |zero=>exact absurd HA.out (by simp[spec_l13Level.l0])
  | succ k1=>
   have H:=HA.out
   clear HA
   simp only[spec_l13Level.l0] at H
   replace H:=zI2 H
   rcases H with⟨c2,H⟩|⟨c2,H⟩
   case inl=>
    have c2b0:=zE c2
    clear c2
    replace H:=zID H
    obtain⟨c3b0,H⟩:=H
    have H':=zM H
    clear H
    have p368:0≤(x4_1:Int):=zT (by assumption)
    have q368:x4_1<(l0.length:Int):=zT (by assumption)
    obtain⟨ad368,e368,hx368_0⟩:=Kd.at_int HR0.out x4_1 p368 q368
    cases e368
    replace p368:=eq_true p368
    replace q368:=eq_true q368
    go_wp2
    go_roundg k1
    case measure=>have:=HK1.out;omega
    case rel=>exact⟨(wrap64 ((wrap64 (2*x3_1))+(rd l0 x4_1))),(wrap64 (x4_1+1)),zs,zs,H',⟨zl1 HK1⟩,zd⟩
   have c2b0:=decide_eq_false c2
   clear c2
   replace H:=zP H
   obtain⟨t369,A4,H⟩:=H
   obtain⟨ji5,hji5⟩:∃j_:Int,(IntKind.u64.wrap ((l0.length:Int)))=j_:=⟨_,rfl⟩
   first|rw[hji5] at H|simp only[hji5] at H
   (try rw[hji5] at A4)
   replace H:=zIN H
   obtain⟨c6,H⟩:=H
   have c6b0:=eq_true c6
   have c6b1:decide (0≤(ji5))=true:=zE c6
   clear c6
   obtain⟨ji7,hji7⟩:∃j_:Int,(shl .i64 1 (ji5))=j_:=⟨_,rfl⟩
   first|rw[hji7] at H|simp only[hji7] at H
   (try rw[hji7] at A4)
   have hji7_:(IntKind.i64.wrap (1*2^min (ji5).toNat 64))=ji7:=hji7
   have hji7z:(ji5)≤64→(IntKind.i64.wrap (1*2^(ji5).toNat))=ji7:=shl_small hji7
   have hji7u:(IntKind.i64.wrap (2^min (ji5).toNat 64))=ji7:=by have h_:=hji7_;rw[Int.one_mul] at h_;exact h_
   have hji7v:(ji5)≤64→(IntKind.i64.wrap (2^(ji5).toNat))=ji7:=fun hle_=>by have h_:=hji7z hle_;rw[Int.one_mul] at h_;exact h_
   have hji7y:(wrap64 (1*2^min (ji5).toNat 64))=ji7:=(i64_w _).symm.trans hji7_
   have hji7x:(ji5)≤64→(wrap64 (1*2^(ji5).toNat))=ji7:=fun h_=>(i64_w _).symm.trans (hji7z h_)
   obtain rfl:=zI H
   go_wp2_with (first|((with_reducible refine gate_callee (f:=118) rfl ?_);refine goesL_ (some 19) rfl rfl Try.func118 ze rfl #[.int .i64 x3_1] rfl zg ?_;(with_reducible refine(spec_UnGray.calls k1 x3_1 t369 _ A4.out).mono ?_);rintro e w' ⟨rfl,⟨nd,rfl⟩⟩;refine⟨_,rfl,?_⟩))
   go_ret
   exact⟨by first|rfl|(simp;done)|(simp only[←hji5,←hji7]<;>(first|rfl|simp))|(simp[*];done),zd⟩
end Go.Proofs.Ytapobpkeefeajaa.PFnModem
