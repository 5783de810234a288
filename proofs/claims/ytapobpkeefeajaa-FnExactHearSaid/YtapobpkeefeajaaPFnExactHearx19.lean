-- A turned copy of the print's text.
import Derived.Test.YtapobpkeefeajaaPFnExactHearx0
import Derived.Test.YtapobpkeefeajaaPFnExactHearx18
namespace Go.Proofs.Ytapobpkeefeajaa.PFnExactHear
open Go.RowKit Go.Proofs.YtapobpkeefeajaaW.PrintWords Go.Proofs.YtapobpkeefeajaaW.PrintLast Go.Proofs.YtapobpkeefeajaaW.PrintMore
attribute [local go_sem] max2_int min2_int max_two min_two max_three min_three max_four min_four
set_option maxHeartbeats 8000000
set_option maxRecDepth 100000
set_option linter.unusedVariables false
set_option linter.unusedSimpArgs false
mutual
def spec_GfMul.j0:Nat→Int→Int→Bool→Option (Int)
 |0,_,_,_=>none
 |k+1,x0,x1,x14=>if x14=true then(some 0) else(spec_GfMul.l0 k x0 x1 0 7)
def spec_GfMul.l0:Nat→Int→Int→Int→Int→Option (Int)
 |0,_,_,_,_=>none
 |k+1,x0,x1,x5,x6=>if x6≥0 then(if(wrap64 (2*x5))≥256 then(if 0≤(IntKind.u64.wrap (x6)) then(if(Int.tmod (shr .i64 x1 (IntKind.u64.wrap (x6))) 2)=1 then(spec_GfMul.l0 k x0 x1 (Go.bits .xor .i64 (Go.bits .xor .i64 (wrap64 (2*x5)) 285) x0) (wrap64 (x6-1))) else(spec_GfMul.l0 k x0 x1 (Go.bits .xor .i64 (wrap64 (2*x5)) 285) (wrap64 (x6-1)))) else(none)) else(if 0≤(IntKind.u64.wrap (x6)) then(if(Int.tmod (shr .i64 x1 (IntKind.u64.wrap (x6))) 2)=1 then(spec_GfMul.l0 k x0 x1 (Go.bits .xor .i64 (wrap64 (2*x5)) x0) (wrap64 (x6-1))) else(spec_GfMul.l0 k x0 x1 (wrap64 (2*x5)) (wrap64 (x6-1)))) else(none))) else(some x5)
end
def spec_GfMul.f (k:Nat) (a0:Int) (a1:Int):Option (Int):=(spec_l14Byte.f a0).bind fun t323=>(if t323=true then((spec_l14Byte.f a1).bind fun t324=>(spec_GfMul.j0 k a0 a1 (!t324))) else(spec_GfMul.j0 k a0 a1 true))
theorem spec_GfMul.mono_l:∀k,(∀y0 y1 y2,LeO (spec_GfMul.j0 k y0 y1 y2) (spec_GfMul.j0 (k+1) y0 y1 y2))∧(∀y0 y1 y2 y3,LeO (spec_GfMul.l0 k y0 y1 y2 y3) (spec_GfMul.l0 (k+1) y0 y1 y2 y3))
 |0=>⟨fun _ _ _ r h=>by simp[spec_GfMul.j0] at h,fun _ _ _ _ r h=>by simp[spec_GfMul.l0] at h⟩
 | k+1=>by
  obtain⟨ih0,ih1⟩:=spec_GfMul.mono_l k
  refine⟨?_,?_⟩
  ·intro y0 y1 y2
   unfold spec_GfMul.j0
   repeat' first
   |(with_reducible exact ih0 _ _ _)
   |(with_reducible exact ih1 _ _ _ _)
   |(with_reducible exact LeO.refl _)
   |(with_reducible exact LeO.none _)
   |(with_reducible refine LeO.ite ?_ ?_)
   |(with_reducible refine LeO.bind ?_ (fun _=> ?_))
  ·intro y0 y1 y2 y3
   unfold spec_GfMul.l0
   repeat' first
   |(with_reducible exact ih0 _ _ _)
   |(with_reducible exact ih1 _ _ _ _)
   |(with_reducible exact LeO.refl _)
   |(with_reducible exact LeO.none _)
   |(with_reducible refine LeO.ite ?_ ?_)
   |(with_reducible refine LeO.bind ?_ (fun _=> ?_))
theorem spec_GfMul.mono:∀a0 a1 k,LeO (spec_GfMul.f k a0 a1) (spec_GfMul.f (k+1) a0 a1):=by
 intro a0 a1 k
 obtain⟨ih0,ih1⟩:=spec_GfMul.mono_l k
 unfold spec_GfMul.f
 repeat' first
  |(with_reducible exact ih0 _ _ _)
  |(with_reducible exact ih1 _ _ _ _)
  |(with_reducible exact LeO.refl _)
  |(with_reducible exact LeO.none _)
  |(with_reducible refine LeO.ite ?_ ?_)
  |(with_reducible refine LeO.bind ?_ (fun _=> ?_))
theorem spec_GfMul.calls (k:Nat) (a0:Int) (a1:Int) (r:Int) (w:World) (H:spec_GfMul.f k a0 a1=some r):
 Calls Try.prog 77 #[.int .i64 a0, .int .i64 a1] w fun e w'=>e= .returned (.int .i64 r)∧Drawn0 w w':=by
 unfold spec_GfMul.f at H
 have HC3:=zM H
 clear H
 go_enter Try.func77,Try.ntmps77
 go_upto_region 1 with(fail)
 go_cut [14] (fun v14 wc=>∃(kq:Nat) (x14_2:Bool),v14= .bool x14_2∧Aside0 (spec_GfMul.j0 kq a0 a1 x14_2=some r)∧Aside0 (kq≤k)∧Drawn0 w wc)
 case first=>
  have H:=HC3.out
  clear HC3
  replace H:=zP H
  obtain⟨t323,A4,H⟩:=H
  by_cases c5:t323=true
  case neg=>
   replace c5:=Bool.eq_false_iff.mpr c5
   subst c5
   rw[if_neg zFT] at H
   have H':=zM H
   clear H
   go_wp2_with (first|((with_reducible refine gate_callee (f:=117) rfl ?_);refine goesL_ (some 8) rfl rfl Try.func117 ze rfl #[.int .i64 a0] rfl zg ?_;(with_reducible refine(spec_l14Byte.calls a0 false _ A4.out).mono ?_);rintro e w' ⟨rfl,⟨nd,rfl⟩⟩;refine⟨_,rfl,?_⟩))
   go_meet
   case rel=>exact⟨_,(true),zs,H',⟨zo⟩,zd⟩
  subst c5
  rw[if_pos rfl] at H
  replace H:=zP H
  obtain⟨t324,A6,H⟩:=H
  have H':=zM H
  clear H
  go_wp2_with (first|((with_reducible refine gate_callee (f:=117) rfl ?_);refine goesL_ (some 8) rfl rfl Try.func117 ze rfl #[.int .i64 a0] rfl zg ?_;(with_reducible refine(spec_l14Byte.calls a0 true _ A4.out).mono ?_);rintro e w' ⟨rfl,⟨nd,rfl⟩⟩;refine⟨_,rfl,?_⟩)|(go_at_call 117;(with_reducible refine(spec_l14Byte.calls a1 t324 _ A6.out).mono ?_);rintro e w' ⟨rfl,⟨nd,rfl⟩⟩))
  go_meet
  case rel=>exact⟨_,(!t324),zs,H',⟨zo⟩,zd⟩
 case rest=>
  clear HC3
  try clear c1
  try clear p2
  try clear c5
  obtain⟨kq,x14_2,rfl,HA,HJ2,⟨mc2,rfl⟩⟩:=hcut
  cases kq with
  |zero=>exact absurd HA.out (by simp[spec_GfMul.j0])
  | succ kj2=>
   have H:=HA.out
   clear HA
   simp only[spec_GfMul.j0] at H
   by_cases c7:x14_2=true
   case pos=>
    subst c7
    rw[if_pos rfl] at H
    obtain rfl:=zI H
    go_wp2
    go_ret
    exact⟨zs,zd⟩
   replace c7:=Bool.eq_false_iff.mpr c7
   subst c7
   rw[if_neg zFT] at H
   have H':=zM H
   clear H
   go_wp2
   (try simp only[Act.put,zL1,zL2,zL3])
   go_loopg [5,6] kj2 (fun kq v5 v6 w'=>∃(x5_2:Int) (x6_2:Int),v5= .int .i64 x5_2∧v6= .int .i64 x6_2∧Aside0 (spec_GfMul.l0 kq a0 a1 x5_2 x6_2=some r)∧Aside0 (kq≤kj2)∧Drawn0 w w')
   case atStart=>exact⟨(0),(7),zs,zs,H',⟨Nat.le_refl _⟩,zd⟩
   case round=>
    clear H'
    try clear c1
    try clear c2
    try clear p2
    try clear c5
    try clear c7
    try clear p2
    obtain⟨x5_2,x6_2,rfl,rfl,HA,HK2,⟨m2,rfl⟩⟩:=hrel
    cases gk with
    |zero=>exact absurd HA.out (by simp[spec_GfMul.l0])
    | succ k2=>
     have H:=HA.out
     clear HA
     simp only[spec_GfMul.l0] at H
     replace H:=zI2 H
     rcases H with⟨c8,H⟩|⟨c8,H⟩
     case inr=>
      have c8b0:decide (0≤x6_2)=false:=decide_eq_false c8
      clear c8
      obtain rfl:=zI H
      go_wp2
      go_ret
      exact⟨zs,zd⟩
     have c8b0:decide (0≤x6_2)=true:=zE c8
     clear c8
     replace H:=zI2 H
     rcases H with⟨c9,H⟩|⟨c9,H⟩
     case inr=>
      have c9b0:decide (256≤(wrap64 (2*x5_2)))=false:=decide_eq_false c9
      clear c9
      obtain⟨ji14,hji14⟩:∃j_:Int,(IntKind.u64.wrap (x6_2))=j_:=⟨_,rfl⟩
      first|rw[hji14] at H|simp only[hji14] at H
      replace H:=zIN H
      obtain⟨c15,H⟩:=H
      have c15b0:=eq_true c15
      have c15b1:decide (0≤(ji14))=true:=zE c15
      clear c15
      obtain⟨ji16,hji16⟩:∃j_:Int,(shr .i64 a1 (ji14))=j_:=⟨_,rfl⟩
      first|rw[hji16] at H|simp only[hji16] at H
      have hji16_:(a1 / 2^min (ji14).toNat 64)=ji16:=hji16
      have hji16z:(ji14)≤64→(a1 / 2^(ji14).toNat)=ji16:=shr_small hji16
      replace H:=zI2 H
      rcases H with⟨c17,H⟩|⟨c17,H⟩
      case inr=>
       have c17b0:((Int.tmod (ji16) 2)==1)=false:=beq_eq_false_iff_ne.mpr c17
       have c17b1:((Int.tmod (ji16) 2) != 1)=true:=bne_iff_ne.mpr c17
       have H':=zM H
       clear H
       go_wp2
       go_roundg k2
       case measure=>have:=HJ2.out;have:=HK2.out;omega
       case rel=>exact⟨(wrap64 (2*x5_2)),(wrap64 (x6_2-1)),zs,zs,H',⟨zl2 HJ2 HK2⟩,zd⟩
      have c17b0:((Int.tmod (ji16) 2)==1)=true:=beq_iff_eq.mpr c17
      have c17b1:((Int.tmod (ji16) 2) != 1)=false:=bne_eq_false_iff_eq.mpr c17
      clear c17
      have H':=zM H
      clear H
      go_wp2
      go_roundg k2
      case measure=>have:=HJ2.out;have:=HK2.out;omega
      case rel=>exact⟨(Go.bits .xor .i64 (wrap64 (2*x5_2)) a0),(wrap64 (x6_2-1)),zs,zs,H',⟨zl2 HJ2 HK2⟩,zd⟩
     have c9b0:decide (256≤(wrap64 (2*x5_2)))=true:=zE c9
     clear c9
     obtain⟨ji10,hji10⟩:∃j_:Int,(IntKind.u64.wrap (x6_2))=j_:=⟨_,rfl⟩
     first|rw[hji10] at H|simp only[hji10] at H
     replace H:=zIN H
     obtain⟨c11,H⟩:=H
     have c11b0:=eq_true c11
     have c11b1:decide (0≤(ji10))=true:=zE c11
     clear c11
     obtain⟨ji12,hji12⟩:∃j_:Int,(shr .i64 a1 (ji10))=j_:=⟨_,rfl⟩
     first|rw[hji12] at H|simp only[hji12] at H
     have hji12_:(a1 / 2^min (ji10).toNat 64)=ji12:=hji12
     have hji12z:(ji10)≤64→(a1 / 2^(ji10).toNat)=ji12:=shr_small hji12
     replace H:=zI2 H
     rcases H with⟨c13,H⟩|⟨c13,H⟩
     case inr=>
      have c13b0:((Int.tmod (ji12) 2)==1)=false:=beq_eq_false_iff_ne.mpr c13
      have c13b1:((Int.tmod (ji12) 2) != 1)=true:=bne_iff_ne.mpr c13
      have H':=zM H
      clear H
      go_wp2
      go_roundg k2
      case measure=>have:=HJ2.out;have:=HK2.out;omega
      case rel=>exact⟨(Go.bits .xor .i64 (wrap64 (2*x5_2)) 285),(wrap64 (x6_2-1)),zs,zs,H',⟨zl2 HJ2 HK2⟩,zd⟩
     have c13b0:((Int.tmod (ji12) 2)==1)=true:=beq_iff_eq.mpr c13
     have c13b1:((Int.tmod (ji12) 2) != 1)=false:=bne_eq_false_iff_eq.mpr c13
     clear c13
     have H':=zM H
     clear H
     go_wp2
     go_roundg k2
     case measure=>have:=HJ2.out;have:=HK2.out;omega
     case rel=>exact⟨(Go.bits .xor .i64 (Go.bits .xor .i64 (wrap64 (2*x5_2)) 285) a0),(wrap64 (x6_2-1)),zs,zs,H',⟨zl2 HJ2 HK2⟩,zd⟩
def spec_l14Pow.l0:Nat→Int→Int→Int→Option (Int)
 |0,_,_,_=>none
 |k+1,x0,x3,x4=>if x4<(Int.tmod x0 255) then((spec_GfMul.f k x3 2).bind fun t325=>(spec_l14Pow.l0 k x0 t325 (wrap64 (x4+1)))) else(some x3)
def spec_l14Pow.f (k:Nat) (a0:Int):Option (Int):=spec_l14Pow.l0 k a0 1 0
theorem spec_l14Pow.calls (k:Nat) (a0:Int) (r:Int) (w:World) (H:spec_l14Pow.f k a0=some r):
 Calls Try.prog 78 #[.int .i64 a0] w fun e w'=>e= .returned (.int .i64 r)∧Drawn0 w w':=by
 unfold spec_l14Pow.f at H
 have H':=zM H
 clear H
 go_enter Try.func78,Try.ntmps78
 go_wp2
 (try simp only[Act.put,zL1,zL2,zL3])
 go_loopg [3,4] k (fun kq v3 v4 w'=>∃(x3_1:Int) (x4_1:Int),v3= .int .i64 x3_1∧v4= .int .i64 x4_1∧Aside0 (spec_l14Pow.l0 kq a0 x3_1 x4_1=some r)∧Aside0 (kq≤k)∧Drawn0 w w')
 case atStart=>exact⟨(1),(0),zs,zs,H',⟨Nat.le_refl _⟩,zd⟩
 case round=>
  clear H'
  obtain⟨x3_1,x4_1,rfl,rfl,HA,HK1,⟨m1,rfl⟩⟩:=hrel
  cases gk with
  |zero=>exact absurd HA.out (by simp[spec_l14Pow.l0])
  | succ k1=>
   have H:=HA.out
   clear HA
   simp only[spec_l14Pow.l0] at H
   replace H:=zI2 H
   rcases H with⟨c2,H⟩|⟨c2,H⟩
   case inr=>
    have c2b0:=decide_eq_false c2
    clear c2
    obtain rfl:=zI H
    go_wp2
    go_ret
    exact⟨zs,zd⟩
   have c2b0:=zE c2
   clear c2
   replace H:=zP H
   obtain⟨t325,A3,H⟩:=H
   have H':=zM H
   clear H
   go_wp2_with (first|((with_reducible refine gate_callee (f:=77) rfl ?_);refine goesL_ (some 12) rfl rfl Try.func77 ze rfl #[.int .i64 x3_1, .int .i64 2] rfl zg ?_;(with_reducible refine(spec_GfMul.calls k1 x3_1 2 t325 _ A3.out).mono ?_);rintro e w' ⟨rfl,⟨nd,rfl⟩⟩;refine⟨_,rfl,?_⟩))
   go_roundg k1
   case measure=>have:=HK1.out;omega
   case rel=>exact⟨(t325),(wrap64 (x4_1+1)),zs,zs,H',⟨zl1 HK1⟩,zd⟩
mutual
def spec_l14Signs.l0:Nat→List Int→Int→List Int→Bool→Int→Option (List Int×Bool)
 |0,_,_,_,_,_=>none
 |k+1,x0,x1,x6,x7,x8=>if x8<(wrap64 (2*x1)) then((spec_l14Pow.f k x8).bind fun t329=>(spec_l14Signs.l1 k x0 x1 x6 x7 x8 t329 0 0)) else(some (x6,x7))
def spec_l14Signs.l1:Nat→List Int→Int→List Int→Bool→Int→Int→Int→Int→Option (List Int×Bool)
 |0,_,_,_,_,_,_,_,_=>none
 |k+1,x0,x1,x6,x7,x8,x9,x10,x11=>if x11<(x0.length:Int) then((spec_GfMul.f k x10 x9).bind fun t330=>(if 0≤x11 then(spec_l14Signs.l1 k x0 x1 x6 x7 x8 x9 (Go.bits .xor .i64 t330 (wrap64 (rd x0 x11))) (wrap64 (x11+1))) else(none))) else(if x7=true then(if x6.length<17592186044416 then(spec_l14Signs.l0 k x0 x1 (x6++[x10]) (x10==0) (wrap64 (x8+1))) else(none)) else(if x6.length<17592186044416 then(spec_l14Signs.l0 k x0 x1 (x6++[x10]) false (wrap64 (x8+1))) else(none)))
end
def spec_l14Signs.f (k:Nat) (l0:List Int) (a1:Int):Option (List Int×Bool):=spec_l14Signs.l0 k l0 a1 (([]:List Int)) true 0
theorem spec_l14Signs.calls (k:Nat) (A0:Option Addr) (c0:Nat) (l0:List Int) (a1:Int) (r1:List Int) (r2:Bool) (w:World) (hr0:Kd.C (Kd.int .u8) w A0 l0.length l0) (hc0:l0.length≤c0) (H:spec_l14Signs.f k l0 a1=some (r1,r2)):
 Calls Try.prog 114 #[.slice A0 l0.length c0, .int .i64 a1] w fun e w'=>∃v0_:Value,e= .returned (.tuple #[v0_, .bool r2])∧Kd.R (Kd.int .i64) 3 w' w.heap.size (fun _=>True) v0_ r1∧Below w.heap.size w w':=by
 have HR0:=zM hr0
 have HC0:=zM hc0
 clear hr0 hc0
 have HB:=zM (Below.refl w.heap.size w)
 unfold spec_l14Signs.f at H
 obtain⟨y326,hy326⟩:∃y_:List Int,y_=(([]:List Int)):=⟨_,rfl⟩
 replace H:(spec_l14Signs.l0 k l0 a1 y326 true 0)=some (r1,r2):=zy hy326 H
 have Ny326:=zM hy326
 clear hy326
 have H':=zM H
 clear H
 go_enter Try.func114,Try.ntmps114
 go_wp2_with (first|((with_reducible refine gate_dst (N:=12) rfl ?_);refine Kd.R_lit (Kd.int .i64) _ 3 ?hg (N:=12) ?hd (xs:=([]:List Int)) (inner:=[]) (ok:=fun _=>True) (okp:=fun _=>True) ?hr ?hp (fun _ hk=>hk) trivial (Below.refl _ _) (Nat.le_refl _) (by simp) ?_;(case hd|hg=>rfl);(case hr=>exact zh);(case hp=>exact(Reps.none _ _));intro v327 w3 ho4 hb hg_ hnew_;clear hg_ hnew_;(first|rw[←Ny326.out] at ho4|simp only[Int.reduceToNat,←Ny326.out] at ho4);refine zS2 (Kd.R_lower ho4 (below_size zb)) (below_step zb hb) ?_;clear HB;intro HO328 HB;clear hb ho4))
 repeat(go_quiet (first|((with_reducible refine gate_dst (N:=12) rfl ?_);refine Kd.R_lit (Kd.int .i64) _ 3 ?hg (N:=12) ?hd (xs:=([]:List Int)) (inner:=[]) (ok:=fun _=>True) (okp:=fun _=>True) ?hr ?hp (fun _ hk=>hk) trivial (Below.refl _ _) (Nat.le_refl _) (by simp) ?_;(case hd|hg=>rfl);(case hr=>exact zh);(case hp=>exact(Reps.none _ _));intro v327 w3 ho4 hb hg_ hnew_;clear hg_ hnew_;(first|rw[←Ny326.out] at ho4|simp only[Int.reduceToNat,←Ny326.out] at ho4);refine zS2 (Kd.R_lower ho4 (below_size zb)) (below_step zb hb) ?_;clear HB;intro HO328 HB;clear hb ho4));try go_wp2_with (first|((with_reducible refine gate_dst (N:=12) rfl ?_);refine Kd.R_lit (Kd.int .i64) _ 3 ?hg (N:=12) ?hd (xs:=([]:List Int)) (inner:=[]) (ok:=fun _=>True) (okp:=fun _=>True) ?hr ?hp (fun _ hk=>hk) trivial (Below.refl _ _) (Nat.le_refl _) (by simp) ?_;(case hd|hg=>rfl);(case hr=>exact zh);(case hp=>exact(Reps.none _ _));intro v327 w3 ho4 hb hg_ hnew_;clear hg_ hnew_;(first|rw[←Ny326.out] at ho4|simp only[Int.reduceToNat,←Ny326.out] at ho4);refine zS2 (Kd.R_lower ho4 (below_size zb)) (below_step zb hb) ?_;clear HB;intro HO328 HB;clear hb ho4)))
 (try simp only[Act.put,zL1,zL2,zL3])
 go_loopg [6,7,8] k (fun kq v6 v7 v8 w'=>∃(x6_1:List Int) (x7_1:Bool) (x8_1:Int),v7= .bool x7_1∧v8= .int .i64 x8_1∧Aside0 (spec_l14Signs.l0 kq l0 a1 x6_1 x7_1 x8_1=some (r1,r2))∧Aside0 (kq≤k)∧Aside0 (Kd.R (Kd.int .i64) 3 w' w.heap.size (fun _=>True) v6 x6_1)∧Aside0 (Below w.heap.size w w'))
 case atStart=>exact⟨(y326),(true),(0),zs,zs,H',⟨Nat.le_refl _⟩,⟨zr HO328⟩,⟨zb⟩⟩
 case round=>
  clear H'
  try clear c1
  try clear p2
  obtain⟨x6_1,x7_1,x8_1,rfl,rfl,HA,HK1,HO_6,HB⟩:=hrel
  cases gk with
  |zero=>exact absurd HA.out (by simp[spec_l14Signs.l0])
  | succ k1=>
   have H:=HA.out
   clear HA
   simp only[spec_l14Signs.l0] at H
   replace H:=zI2 H
   rcases H with⟨c5,H⟩|⟨c5,H⟩
   case inr=>
    have c5b0:=decide_eq_false c5
    clear c5
    simp only[Option.some.injEq,Prod.mk.injEq] at H
    obtain⟨rfl,rfl⟩:=H
    go_wp2
    repeat(go_quiet (fail);try go_wp2)
    go_ret2
    exact⟨_,zq,zr HO_6,zb⟩
   have c5b0:=zE c5
   clear c5
   replace H:=zP H
   obtain⟨t329,A6,H⟩:=H
   have H':=zM H
   clear H
   go_wp2_with (first|(go_at_call 78;(with_reducible refine(spec_l14Pow.calls k1 x8_1 t329 _ A6.out).mono ?_);rintro e w' ⟨rfl,⟨nd,rfl⟩⟩;(try first|exact⟨rfl,_,zD _ _ _⟩|exact⟨rfl,_,Eq.trans (zD _ _ _) (congrArg (World.drewN _) (Nat.add_assoc _ _ _))⟩)))
   repeat(go_quiet (first|(go_at_call 78;(with_reducible refine(spec_l14Pow.calls k1 x8_1 t329 _ A6.out).mono ?_);rintro e w' ⟨rfl,⟨nd,rfl⟩⟩;(try first|exact⟨rfl,_,zD _ _ _⟩|exact⟨rfl,_,Eq.trans (zD _ _ _) (congrArg (World.drewN _) (Nat.add_assoc _ _ _))⟩)));try go_wp2_with (first|(go_at_call 78;(with_reducible refine(spec_l14Pow.calls k1 x8_1 t329 _ A6.out).mono ?_);rintro e w' ⟨rfl,⟨nd,rfl⟩⟩;(try first|exact⟨rfl,_,zD _ _ _⟩|exact⟨rfl,_,Eq.trans (zD _ _ _) (congrArg (World.drewN _) (Nat.add_assoc _ _ _))⟩))))
   (try simp only[Act.put,zL1,zL2,zL3])
   go_loopg [10,11] k1 (fun kq v10 v11 w'=>∃(x10_2:Int) (x11_2:Int),v10= .int .i64 x10_2∧v11= .int .i64 x11_2∧Aside0 (spec_l14Signs.l1 kq l0 a1 x6_1 x7_1 x8_1 t329 x10_2 x11_2=some (r1,r2))∧Aside0 (kq≤k1)∧Aside0 (Kd.R (Kd.int .i64) 3 w' w.heap.size (fun _=>True) u6 x6_1)∧Aside0 (Below w.heap.size w w'))
   case atStart=>exact⟨(0),(0),zs,zs,H',⟨Nat.le_refl _⟩,⟨zr HO_6⟩,⟨zb⟩⟩
   case round=>
    clear H'
    try clear c1
    try clear p2
    try clear c5
    try clear c5b0
    try clear p6
    try clear p2
    obtain⟨x10_2,x11_2,rfl,rfl,HA,HK2,HO_6,HB⟩:=hrel
    cases gk with
    |zero=>exact absurd HA.out (by simp[spec_l14Signs.l1])
    | succ k2=>
     have H:=HA.out
     clear HA
     simp only[spec_l14Signs.l1] at H
     replace H:=zI2 H
     rcases H with⟨c7,H⟩|⟨c7,H⟩
     case inl=>
      have c7b0:=zE c7
      clear c7
      replace H:=zP H
      obtain⟨t330,A8,H⟩:=H
      replace H:=zID H
      obtain⟨c9b0,H⟩:=H
      have H':=zM H
      clear H
      go_wp2_with (first|(go_at_call 77;(with_reducible refine(spec_GfMul.calls k2 x10_2 t329 t330 _ A8.out).mono ?_);rintro e w' ⟨rfl,⟨nd,rfl⟩⟩;(try first|exact⟨rfl,_,zD _ _ _⟩|exact⟨rfl,_,Eq.trans (zD _ _ _) (congrArg (World.drewN _) (Nat.add_assoc _ _ _))⟩);have p331:0≤(x11_2:Int):=zT (by assumption);have q331:x11_2<(l0.length:Int):=zT (by assumption);obtain⟨ad331,e331,hx331_0⟩:=Kd.at_int HR0.out x11_2 p331 q331;cases e331;replace hx331_0:=(HB.out.cell (zW w _ hx331_0)).trans hx331_0;replace p331:=eq_true p331;replace q331:=eq_true q331))
      repeat(go_quiet (first|(go_at_call 77;(with_reducible refine(spec_GfMul.calls k2 x10_2 t329 t330 _ A8.out).mono ?_);rintro e w' ⟨rfl,⟨nd,rfl⟩⟩;(try first|exact⟨rfl,_,zD _ _ _⟩|exact⟨rfl,_,Eq.trans (zD _ _ _) (congrArg (World.drewN _) (Nat.add_assoc _ _ _))⟩);have p331:0≤(x11_2:Int):=zT (by assumption);have q331:x11_2<(l0.length:Int):=zT (by assumption);obtain⟨ad331,e331,hx331_0⟩:=Kd.at_int HR0.out x11_2 p331 q331;cases e331;replace hx331_0:=(HB.out.cell (zW w _ hx331_0)).trans hx331_0;replace p331:=eq_true p331;replace q331:=eq_true q331));try go_wp2_with (first|(go_at_call 77;(with_reducible refine(spec_GfMul.calls k2 x10_2 t329 t330 _ A8.out).mono ?_);rintro e w' ⟨rfl,⟨nd,rfl⟩⟩;(try first|exact⟨rfl,_,zD _ _ _⟩|exact⟨rfl,_,Eq.trans (zD _ _ _) (congrArg (World.drewN _) (Nat.add_assoc _ _ _))⟩);have p331:0≤(x11_2:Int):=zT (by assumption);have q331:x11_2<(l0.length:Int):=zT (by assumption);obtain⟨ad331,e331,hx331_0⟩:=Kd.at_int HR0.out x11_2 p331 q331;cases e331;replace hx331_0:=(HB.out.cell (zW w _ hx331_0)).trans hx331_0;replace p331:=eq_true p331;replace q331:=eq_true q331)))
      go_roundg k2
      case measure=>have:=HK1.out;have:=HK2.out;omega
      case rel=>exact⟨(Go.bits .xor .i64 t330 (wrap64 (rd l0 x11_2))),(wrap64 (x11_2+1)),(by first|rfl|(simp only[i64_w];done)|(simp only[i64_w];rfl)|(simp;done)|(simp[*];done)),zs,H',⟨zl2 HK1 HK2⟩,⟨zr HO_6⟩,⟨zb⟩⟩
     have c7b0:=decide_eq_false c7
     clear c7
     by_cases c10:x7_1=true
     case pos=>
      subst c10
      rw[if_pos rfl] at H
      replace H:=zIM H
      obtain⟨LMc11,H⟩:=H
      obtain⟨y332,hy332⟩:∃y_:List Int,y_=(x6_1++[x10_2]):=⟨_,rfl⟩
      replace H:(spec_l14Signs.l0 k2 l0 a1 y332 (x10_2==0) (wrap64 (x8_1+1)))=some (r1,r2):=zy hy332 H
      have Ny332:=zM hy332
      clear hy332
      have H':=zM H
      clear H
      go_wp2_with (first|((with_reducible refine gate_builtin (b:= .append) (xs:= #[.tmp 41, .tmp 43]) rfl ?_);at_builtin;refine Kd.R_append (Kd.int .i64) (w0:=w) w.heap.size rfl (.tmp 41) (.tmp 43) 46 3 (.int .i64 0) 8 rfl Try.underlying46 info3 rfl (by decide) (by omega) u6 x6_1 x10_2 [.int .i64 x10_2] (fun _=>True) (fun _=>False) rfl rfl ?aP (fun _ hk=>hk.elim) ?aF ?aO ?aB ?aS ?aL ?_;(case aP=>exact rfl);(case aB=>exact zb);(case aF=>exact(fun _ _=>trivial));(case aO=>exact(zr HO_6));(case aS=>exact(below_size zb));(case aL=>have:=LMc11.out;omega);intro v333 w12 ho hb hg hat;(first|rw[←Ny332.out] at ho|simp only[Int.reduceToNat,←Ny332.out] at ho);refine zS2 (hb) (ho) ?_;clear HB HO_6;intro HB HO334;clear ho hb hg hat))
      repeat(go_quiet (first|((with_reducible refine gate_builtin (b:= .append) (xs:= #[.tmp 41, .tmp 43]) rfl ?_);at_builtin;refine Kd.R_append (Kd.int .i64) (w0:=w) w.heap.size rfl (.tmp 41) (.tmp 43) 46 3 (.int .i64 0) 8 rfl Try.underlying46 info3 rfl (by decide) (by omega) u6 x6_1 x10_2 [.int .i64 x10_2] (fun _=>True) (fun _=>False) rfl rfl ?aP (fun _ hk=>hk.elim) ?aF ?aO ?aB ?aS ?aL ?_;(case aP=>exact rfl);(case aB=>exact zb);(case aF=>exact(fun _ _=>trivial));(case aO=>exact(zr HO_6));(case aS=>exact(below_size zb));(case aL=>have:=LMc11.out;omega);intro v333 w12 ho hb hg hat;(first|rw[←Ny332.out] at ho|simp only[Int.reduceToNat,←Ny332.out] at ho);refine zS2 (hb) (ho) ?_;clear HB HO_6;intro HB HO334;clear ho hb hg hat));try go_wp2_with (first|((with_reducible refine gate_builtin (b:= .append) (xs:= #[.tmp 41, .tmp 43]) rfl ?_);at_builtin;refine Kd.R_append (Kd.int .i64) (w0:=w) w.heap.size rfl (.tmp 41) (.tmp 43) 46 3 (.int .i64 0) 8 rfl Try.underlying46 info3 rfl (by decide) (by omega) u6 x6_1 x10_2 [.int .i64 x10_2] (fun _=>True) (fun _=>False) rfl rfl ?aP (fun _ hk=>hk.elim) ?aF ?aO ?aB ?aS ?aL ?_;(case aP=>exact rfl);(case aB=>exact zb);(case aF=>exact(fun _ _=>trivial));(case aO=>exact(zr HO_6));(case aS=>exact(below_size zb));(case aL=>have:=LMc11.out;omega);intro v333 w12 ho hb hg hat;(first|rw[←Ny332.out] at ho|simp only[Int.reduceToNat,←Ny332.out] at ho);refine zS2 (hb) (ho) ?_;clear HB HO_6;intro HB HO334;clear ho hb hg hat)))
      go_roundg k2
      case measure=>have:=HK1.out;have:=HK2.out;omega
      case rel=>exact⟨(y332),((x10_2==0)),(wrap64 (x8_1+1)),zs,zs,H',⟨zl2 HK1 HK2⟩,⟨zr HO334⟩,⟨zb⟩⟩
     replace c10:=Bool.eq_false_iff.mpr c10
     subst c10
     rw[if_neg zFT] at H
     replace H:=zIM H
     obtain⟨LMc13,H⟩:=H
     obtain⟨y335,hy335⟩:∃y_:List Int,y_=(x6_1++[x10_2]):=⟨_,rfl⟩
     replace H:(spec_l14Signs.l0 k2 l0 a1 y335 false (wrap64 (x8_1+1)))=some (r1,r2):=zy hy335 H
     have Ny335:=zM hy335
     clear hy335
     have H':=zM H
     clear H
     go_wp2_with (first|((with_reducible refine gate_builtin (b:= .append) (xs:= #[.tmp 41, .tmp 43]) rfl ?_);at_builtin;refine Kd.R_append (Kd.int .i64) (w0:=w) w.heap.size rfl (.tmp 41) (.tmp 43) 46 3 (.int .i64 0) 8 rfl Try.underlying46 info3 rfl (by decide) (by omega) u6 x6_1 x10_2 [.int .i64 x10_2] (fun _=>True) (fun _=>False) rfl rfl ?aP (fun _ hk=>hk.elim) ?aF ?aO ?aB ?aS ?aL ?_;(case aP=>exact rfl);(case aB=>exact zb);(case aF=>exact(fun _ _=>trivial));(case aO=>exact(zr HO_6));(case aS=>exact(below_size zb));(case aL=>have:=LMc13.out;omega);intro v336 w14 ho hb hg hat;(first|rw[←Ny335.out] at ho|simp only[Int.reduceToNat,←Ny335.out] at ho);refine zS2 (hb) (ho) ?_;clear HB HO_6;intro HB HO337;clear ho hb hg hat))
     repeat(go_quiet (first|((with_reducible refine gate_builtin (b:= .append) (xs:= #[.tmp 41, .tmp 43]) rfl ?_);at_builtin;refine Kd.R_append (Kd.int .i64) (w0:=w) w.heap.size rfl (.tmp 41) (.tmp 43) 46 3 (.int .i64 0) 8 rfl Try.underlying46 info3 rfl (by decide) (by omega) u6 x6_1 x10_2 [.int .i64 x10_2] (fun _=>True) (fun _=>False) rfl rfl ?aP (fun _ hk=>hk.elim) ?aF ?aO ?aB ?aS ?aL ?_;(case aP=>exact rfl);(case aB=>exact zb);(case aF=>exact(fun _ _=>trivial));(case aO=>exact(zr HO_6));(case aS=>exact(below_size zb));(case aL=>have:=LMc13.out;omega);intro v336 w14 ho hb hg hat;(first|rw[←Ny335.out] at ho|simp only[Int.reduceToNat,←Ny335.out] at ho);refine zS2 (hb) (ho) ?_;clear HB HO_6;intro HB HO337;clear ho hb hg hat));try go_wp2_with (first|((with_reducible refine gate_builtin (b:= .append) (xs:= #[.tmp 41, .tmp 43]) rfl ?_);at_builtin;refine Kd.R_append (Kd.int .i64) (w0:=w) w.heap.size rfl (.tmp 41) (.tmp 43) 46 3 (.int .i64 0) 8 rfl Try.underlying46 info3 rfl (by decide) (by omega) u6 x6_1 x10_2 [.int .i64 x10_2] (fun _=>True) (fun _=>False) rfl rfl ?aP (fun _ hk=>hk.elim) ?aF ?aO ?aB ?aS ?aL ?_;(case aP=>exact rfl);(case aB=>exact zb);(case aF=>exact(fun _ _=>trivial));(case aO=>exact(zr HO_6));(case aS=>exact(below_size zb));(case aL=>have:=LMc13.out;omega);intro v336 w14 ho hb hg hat;(first|rw[←Ny335.out] at ho|simp only[Int.reduceToNat,←Ny335.out] at ho);refine zS2 (hb) (ho) ?_;clear HB HO_6;intro HB HO337;clear ho hb hg hat)))
     go_roundg k2
     case measure=>have:=HK1.out;have:=HK2.out;omega
     case rel=>exact⟨(y335),(false),(wrap64 (x8_1+1)),zs,zs,H',⟨zl2 HK1 HK2⟩,⟨zr HO337⟩,⟨zb⟩⟩
mutual
def spec_GfInv.j0:Nat→Int→Bool→Option (Int)
 |0,_,_=>none
 |k+1,x0,x10=>if x10=true then(some 0) else(spec_GfInv.l0 k x0 1)
def spec_GfInv.l0:Nat→Int→Int→Option (Int)
 |0,_,_=>none
 |k+1,x0,x3=>(spec_GfMul.f k x0 x3).bind fun t339=>(if t339=1 then(some x3) else(spec_GfInv.l0 k x0 (wrap64 (x3+1))))
end
def spec_GfInv.f (k:Nat) (a0:Int):Option (Int):=(spec_l14Byte.f a0).bind fun t338=>(if t338=true then(spec_GfInv.j0 k a0 (a0==0)) else(spec_GfInv.j0 k a0 true))
theorem spec_GfInv.mono_l:∀k,(∀y0 y1,LeO (spec_GfInv.j0 k y0 y1) (spec_GfInv.j0 (k+1) y0 y1))∧(∀y0 y1,LeO (spec_GfInv.l0 k y0 y1) (spec_GfInv.l0 (k+1) y0 y1))
 |0=>⟨fun _ _ r h=>by simp[spec_GfInv.j0] at h,fun _ _ r h=>by simp[spec_GfInv.l0] at h⟩
 | k+1=>by
  obtain⟨ih0,ih1⟩:=spec_GfInv.mono_l k
  refine⟨?_,?_⟩
  ·intro y0 y1
   unfold spec_GfInv.j0
   repeat' first
   |(with_reducible exact ih0 _ _)
   |(with_reducible exact ih1 _ _)
   |(with_reducible exact spec_GfMul.mono _ _ _)
   |(with_reducible exact LeO.refl _)
   |(with_reducible exact LeO.none _)
   |(with_reducible refine LeO.ite ?_ ?_)
   |(with_reducible refine LeO.bind ?_ (fun _=> ?_))
  ·intro y0 y1
   unfold spec_GfInv.l0
   repeat' first
   |(with_reducible exact ih0 _ _)
   |(with_reducible exact ih1 _ _)
   |(with_reducible exact spec_GfMul.mono _ _ _)
   |(with_reducible exact LeO.refl _)
   |(with_reducible exact LeO.none _)
   |(with_reducible refine LeO.ite ?_ ?_)
   |(with_reducible refine LeO.bind ?_ (fun _=> ?_))
theorem spec_GfInv.mono:∀a0 k,LeO (spec_GfInv.f k a0) (spec_GfInv.f (k+1) a0):=by
 intro a0 k
 obtain⟨ih0,ih1⟩:=spec_GfInv.mono_l k
 unfold spec_GfInv.f
 repeat' first
  |(with_reducible exact ih0 _ _)
  |(with_reducible exact ih1 _ _)
  |(with_reducible exact spec_GfMul.mono _ _ _)
  |(with_reducible exact LeO.refl _)
  |(with_reducible exact LeO.none _)
  |(with_reducible refine LeO.ite ?_ ?_)
  |(with_reducible refine LeO.bind ?_ (fun _=> ?_))
theorem spec_GfInv.calls (k:Nat) (a0:Int) (r:Int) (w:World) (H:spec_GfInv.f k a0=some r):
 Calls Try.prog 126 #[.int .i64 a0] w fun e w'=>e= .returned (.int .i64 r)∧Drawn0 w w':=by
 unfold spec_GfInv.f at H
 have HC2:=zM H
 clear H
 go_enter Try.func126,Try.ntmps126
 go_upto_region 1 with(fail)
 go_cut [10] (fun v10 wc=>∃(kq:Nat) (x10_1:Bool),v10= .bool x10_1∧Aside0 (spec_GfInv.j0 kq a0 x10_1=some r)∧Aside0 (kq≤k)∧Drawn0 w wc)
 case first=>
  have H:=HC2.out
  clear HC2
  replace H:=zP H
  obtain⟨t338,A3,H⟩:=H
  by_cases c4:t338=true
  case pos=>
   subst c4
   rw[if_pos rfl] at H
   have H':=zM H
   clear H
   go_wp2_with (first|((with_reducible refine gate_callee (f:=117) rfl ?_);refine goesL_ (some 5) rfl rfl Try.func117 ze rfl #[.int .i64 a0] rfl zg ?_;(with_reducible refine(spec_l14Byte.calls a0 true _ A3.out).mono ?_);rintro e w' ⟨rfl,⟨nd,rfl⟩⟩;refine⟨_,rfl,?_⟩))
   go_meet
   case rel=>exact⟨_,((a0==0)),zs,H',⟨zo⟩,zd⟩
  replace c4:=Bool.eq_false_iff.mpr c4
  subst c4
  rw[if_neg zFT] at H
  have H':=zM H
  clear H
  go_wp2_with (first|((with_reducible refine gate_callee (f:=117) rfl ?_);refine goesL_ (some 5) rfl rfl Try.func117 ze rfl #[.int .i64 a0] rfl zg ?_;(with_reducible refine(spec_l14Byte.calls a0 false _ A3.out).mono ?_);rintro e w' ⟨rfl,⟨nd,rfl⟩⟩;refine⟨_,rfl,?_⟩))
  go_meet
  case rel=>exact⟨_,(true),zs,H',⟨zo⟩,zd⟩
 case rest=>
  clear HC2
  try clear c1
  try clear p2
  try clear c4
  obtain⟨kq,x10_1,rfl,HA,HJ1,⟨mc1,rfl⟩⟩:=hcut
  cases kq with
  |zero=>exact absurd HA.out (by simp[spec_GfInv.j0])
  | succ kj1=>
   have H:=HA.out
   clear HA
   simp only[spec_GfInv.j0] at H
   by_cases c5:x10_1=true
   case pos=>
    subst c5
    rw[if_pos rfl] at H
    obtain rfl:=zI H
    go_wp2
    go_ret
    exact⟨zs,zd⟩
   replace c5:=Bool.eq_false_iff.mpr c5
   subst c5
   rw[if_neg zFT] at H
   have H':=zM H
   clear H
   go_wp2
   (try simp only[Act.put,zL1,zL2,zL3])
   go_loopg [3] kj1 (fun kq v3 w'=>∃(x3_2:Int),v3= .int .i64 x3_2∧Aside0 (spec_GfInv.l0 kq a0 x3_2=some r)∧Aside0 (kq≤kj1)∧Drawn0 w w')
   case atStart=>exact⟨(1),zs,H',⟨Nat.le_refl _⟩,zd⟩
   case round=>
    clear H'
    try clear c1
    try clear p2
    try clear c4
    try clear c5
    try clear p2
    obtain⟨x3_2,rfl,HA,HK2,⟨m2,rfl⟩⟩:=hrel
    cases gk with
    |zero=>exact absurd HA.out (by simp[spec_GfInv.l0])
    | succ k2=>
     have H:=HA.out
     clear HA
     simp only[spec_GfInv.l0] at H
     replace H:=zP H
     obtain⟨t339,A6,H⟩:=H
     replace H:=zI2 H
     rcases H with⟨c7,H⟩|⟨c7,H⟩
     case inl=>
      have c7b0:(t339==1)=true:=beq_iff_eq.mpr c7
      have c7b1:(t339 != 1)=false:=bne_eq_false_iff_eq.mpr c7
      clear c7
      obtain rfl:=zI H
      go_wp2_with (first|((with_reducible refine gate_callee (f:=77) rfl ?_);refine goesL_ (some 13) rfl rfl Try.func77 ze rfl #[.int .i64 a0, .int .i64 x3_2] rfl zg ?_;(with_reducible refine(spec_GfMul.calls k2 a0 x3_2 t339 _ A6.out).mono ?_);rintro e w' ⟨rfl,⟨nd,rfl⟩⟩;refine⟨_,rfl,?_⟩))
      go_ret
      exact⟨zs,zd⟩
     have c7b0:(t339==1)=false:=beq_eq_false_iff_ne.mpr c7
     have c7b1:(t339 != 1)=true:=bne_iff_ne.mpr c7
     have H':=zM H
     clear H
     go_wp2_with (first|((with_reducible refine gate_callee (f:=77) rfl ?_);refine goesL_ (some 13) rfl rfl Try.func77 ze rfl #[.int .i64 a0, .int .i64 x3_2] rfl zg ?_;(with_reducible refine(spec_GfMul.calls k2 a0 x3_2 t339 _ A6.out).mono ?_);rintro e w' ⟨rfl,⟨nd,rfl⟩⟩;refine⟨_,rfl,?_⟩))
     go_roundg k2
     case measure=>have:=HJ1.out;have:=HK2.out;omega
     case rel=>exact⟨(wrap64 (x3_2+1)),zs,H',⟨zl2 HJ1 HK2⟩,zd⟩
end Go.Proofs.Ytapobpkeefeajaa.PFnExactHear
