-- A turned copy of the print's text.
import Derived.Test.YtapobpkeefeajaaPFnExactHearx0
import Derived.Test.YtapobpkeefeajaaPFnExactHearx14
import Derived.Test.YtapobpkeefeajaaPFnExactHearx16
namespace Go.Proofs.Ytapobpkeefeajaa.PFnExactHear
open Go.RowKit Go.Proofs.YtapobpkeefeajaaW.PrintWords Go.Proofs.YtapobpkeefeajaaW.PrintLast Go.Proofs.YtapobpkeefeajaaW.PrintMore
attribute [local go_sem] max2_int min2_int max_two min_two max_three min_three max_four min_four
set_option maxHeartbeats 8000000
set_option maxRecDepth 100000
set_option linter.unusedVariables false
set_option linter.unusedSimpArgs false
mutual
def spec_Decide.j0:Nat→Int→List (S52)→List Int→Bool→Option (List Int×Bool)
 |0,_,_,_,_=>none
 |k+1,x0,x1,x6,x18=>if x18=true then(some (x6,false)) else(spec_Decide.l0 k x0 x1 x6 0)
def spec_Decide.l0:Nat→Int→List (S52)→List Int→Int→Option (List Int×Bool)
 |0,_,_,_,_=>none
 |k+1,x0,x1,x6,x7=>if x7<(x1.length:Int) then(if 0≤x7 then((spec_l5Sample.f ((rd_T52 x1 x7).f0)).bind fun t271=>(if t271=true then((spec_l5Sample.f ((rd_T52 x1 x7).f1)).bind fun t273=>(spec_Decide.j2 k x0 x1 x6 x7 (!t273))) else(spec_Decide.j2 k x0 x1 x6 x7 true))) else(none)) else(some (x6,true))
def spec_Decide.j2:Nat→Int→List (S52)→List Int→Int→Bool→Option (List Int×Bool)
 |0,_,_,_,_,_=>none
 |k+1,x0,x1,x6,x7,x41=>if x41=true then(some ((([]:List Int)),false)) else(if 0≤x7 then(if x7<(x1.length:Int) then((spec_l13Bits.f k (wrap64 (Int.tdiv x0 2)) ((rd_T52 x1 x7).f0)).bind fun t278=>(if x6.length+t278.length<17592186044416 then((some (x6++t278:List Int)).bind fun y281=>((spec_l13Bits.f k (wrap64 (Int.tdiv x0 2)) ((rd_T52 x1 x7).f1)).bind fun t285=>(if y281.length+t285.length<17592186044416 then(spec_Decide.l0 k x0 x1 (y281++t285) (wrap64 (x7+1))) else(none)))) else(none))) else(none)) else(none))
end
def spec_Decide.f (k:Nat) (a0:Int) (l1:List (S52)):Option (List Int×Bool):=(some (([]:List Int):List Int)).bind fun y266=>((spec_l13Width.f a0).bind fun t269=>(if t269=true then(spec_Decide.j0 k a0 l1 y266 (decide ((wrap64 ((l1.length:Int)*a0))>1024))) else(spec_Decide.j0 k a0 l1 y266 true)))
def spec_Decide.T9:Bool×List (List Nat×List Nat):=(true,[([],[]),([],[]),([1],[1]),([],[]),([],[]),([3,4],[3,4]),([5],[5]),([6],[6]),([2,7],[2,7]),([0,8,8],[0,8]),([],[]),([10],[10]),([],[]),([],[]),([12,13],[12,13]),([14],[14]),([15],[15]),([11,16,9],[11,16]),([9,17,17],[9,17]),([18,18,0,1,2,3,4,5,6,7,8,9,10,11,12,13,14,15,16,17,18],[0,18])])
def spec_Decide.B9:List Nat:=[0,0,2,0,0,24,56,120,254,511,0,1024,0,0,12288,28672,61440,131071,262143,524287]
theorem spec_Decide.tab9:rtab .any (opsOf Try.f69 9)=spec_Decide.T9:=by kernel_rfl
theorem spec_Decide.bits9:waitsOk spec_Decide.T9.2 spec_Decide.B9=true:=by kernel_rfl
theorem spec_Decide.calls (k:Nat) (a0:Int) (A1:Option Addr) (c1:Nat) (l1:List (S52)) (r1:List Int) (r2:Bool) (w:World) (hr1:Kd.C k52 w A1 l1.length l1) (hc1:l1.length≤c1) (H:spec_Decide.f k a0 l1=some (r1,r2)):
 Calls Try.prog 69 #[.int .i64 a0, .slice A1 l1.length c1] w fun e w'=>∃v0_:Value,e= .returned (.tuple #[v0_, .bool r2])∧Kd.R (Kd.int .i64) 3 w' w.heap.size (fun _=>True) v0_ r1∧Below w.heap.size w w':=by
 have HR1:=zM hr1
 have HC1:=zM hc1
 clear hr1 hc1
 have HB:=zM (Below.refl w.heap.size w)
 unfold spec_Decide.f at H
 replace H:=zY H
 obtain⟨y266,Ny266,H⟩:=H
 have HC3:=zM H
 clear H
 go_enter Try.func69,Try.ntmps69
 go_upto_region 2 with(first|((with_reducible refine gate_dst (N:=8) rfl ?_);(try(refine gate_guard (by rfl) ?_;dsimp only));refine Kd.R_lit (Kd.int .i64) _ 3 ?hg (N:=8) ?hd (xs:=([]:List Int)) (inner:=[]) (ok:=fun _=>True) (okp:=fun _=>True) ?hr ?hp (fun _ hk=>hk) trivial (Below.refl _ _) (Nat.le_refl _) (by simp) ?_;(case hd|hg=>rfl);(case hr=>exact zh);(case hp=>exact(Reps.none _ _));intro v267 w4 ho5 hb hg_ hnew_;clear hg_ hnew_;(first|rw[←Ny266.out] at ho5|simp only[Int.reduceToNat,←Ny266.out] at ho5);refine zS2 (Kd.R_lower ho5 (below_size zb)) (below_step zb hb) ?_;clear HB;intro HO268 HB;clear hb ho5))
 (try simp only[Act.put,zL1,zL2,zL3])
 go_cut [18] (fun v18 wc=>∃(kq:Nat) (x18_2:Bool),v18= .bool x18_2∧Aside0 (spec_Decide.j0 kq a0 l1 y266 x18_2=some (r1,r2))∧Aside0 (kq≤k)∧Aside0 (Kd.R (Kd.int .i64) 3 wc w.heap.size (fun _=>True) v267 y266)∧Aside0 (Below w.heap.size w wc))
 case first=>
  have H:=HC3.out
  clear HC3
  replace H:=zP H
  obtain⟨t269,A6,H⟩:=H
  by_cases c7:t269=true
  case neg=>
   replace c7:=Bool.eq_false_iff.mpr c7
   subst c7
   rw[if_neg zFT] at H
   have H':=zM H
   clear H
   go_wp2_with (first|((with_reducible refine gate_callee (f:=75) rfl ?_);refine goesL_ (some 10) rfl rfl Try.func75 ze rfl #[.int .i64 a0] rfl zg ?_;(with_reducible refine(spec_l13Width.calls a0 false _ A6.out).mono ?_);rintro e w' ⟨rfl,⟨nd,rfl⟩⟩;refine⟨_,rfl,?_⟩))
   go_meet
   case rel=>exact⟨_,(true),zs,H',⟨zo⟩,⟨zr HO268⟩,⟨zb⟩⟩
  subst c7
  rw[if_pos rfl] at H
  have H':=zM H
  clear H
  go_wp2_with (first|((with_reducible refine gate_callee (f:=75) rfl ?_);refine goesL_ (some 10) rfl rfl Try.func75 ze rfl #[.int .i64 a0] rfl zg ?_;(with_reducible refine(spec_l13Width.calls a0 true _ A6.out).mono ?_);rintro e w' ⟨rfl,⟨nd,rfl⟩⟩;refine⟨_,rfl,?_⟩))
  go_meet
  case rel=>exact⟨_,(decide ((wrap64 ((l1.length:Int)*a0))>1024)),zs,H',⟨zo⟩,⟨zr HO268⟩,⟨zb⟩⟩
 case rest=>
  clear HC3
  try clear c1
  try clear p2
  try clear c6
  try clear p6
  try clear c7
  obtain⟨kq,x18_2,rfl,HA,HJ2,HO_6,HB⟩:=hcut
  cases kq with
  |zero=>exact absurd HA.out (by simp[spec_Decide.j0])
  | succ kj2=>
   have H:=HA.out
   clear HA
   simp only[spec_Decide.j0] at H
   by_cases c8:x18_2=true
   case pos=>
    subst c8
    rw[if_pos rfl] at H
    simp only[Option.some.injEq,Prod.mk.injEq] at H
    obtain⟨rfl,rfl⟩:=H
    go_wp2
    go_ret2
    exact⟨_,zq,zr HO_6,zb⟩
   replace c8:=Bool.eq_false_iff.mpr c8
   subst c8
   rw[if_neg zFT] at H
   have H':=zM H
   clear H
   go_wp2
   (try simp only[Act.put,zL1,zL2,zL3])
   go_loopg [6,7] kj2 (fun kq v6 v7 w'=>∃(x6_2:List Int) (x7_2:Int),v7= .int .i64 x7_2∧Aside0 (spec_Decide.l0 kq a0 l1 x6_2 x7_2=some (r1,r2))∧Aside0 (kq≤kj2)∧Aside0 (Kd.R (Kd.int .i64) 3 w' w.heap.size (fun _=>True) v6 x6_2)∧Aside0 (Below w.heap.size w w'))
   case atStart=>exact⟨(y266),(0),zs,H',⟨Nat.le_refl _⟩,⟨zr HO_6⟩,⟨zb⟩⟩
   case round=>
    clear H'
    try clear c1
    try clear p2
    try clear c6
    try clear p6
    try clear c7
    try clear c8
    try clear p2
    try clear p6
    obtain⟨x6_2,x7_2,rfl,HA,HK2,HO_6,HB⟩:=hrel
    cases gk with
    |zero=>exact absurd HA.out (by simp[spec_Decide.l0])
    | succ k2=>
     have H:=HA.out
     clear HA
     simp only[spec_Decide.l0] at H
     replace H:=zI2 H
     rcases H with⟨c9,H⟩|⟨c9,H⟩
     case inr=>
      have c9b0:=decide_eq_false c9
      clear c9
      simp only[Option.some.injEq,Prod.mk.injEq] at H
      obtain⟨rfl,rfl⟩:=H
      go_wp2
      go_ret2
      exact⟨_,zq,zr HO_6,zb⟩
     have c9b0:=zE c9
     clear c9
     have HC10:=zM H
     clear H
     go_upto_region 7 with(fail)
     go_cut [41] (fun v41 wc=>∃(kq:Nat) (x41_9:Bool),v41= .bool x41_9∧Aside0 (spec_Decide.j2 kq a0 l1 x6_2 x7_2 x41_9=some (r1,r2))∧Aside0 (kq≤k2)∧Aside0 (Kd.R (Kd.int .i64) 3 wc w.heap.size (fun _=>True) u6 x6_2)∧Aside0 (Below w.heap.size w wc))
     case first=>
      have H:=HC10.out
      clear HC10
      replace H:=zID H
      obtain⟨c11b0,H⟩:=H
      (first|rw[c11b0]|(simp only[i64_w,i32_w];rw[c11b0])|skip)
      replace H:=zP H
      obtain⟨t271,A12,H⟩:=H
      by_cases c13:t271=true
      case neg=>
       replace c13:=Bool.eq_false_iff.mpr c13
       subst c13
       rw[if_neg zFT] at H
       have H':=zM H
       clear H
       have p270:0≤(x7_2:Int):=zT (by assumption)
       have q270:x7_2<(l1.length:Int):=zT (by assumption)
       obtain⟨ad270,e270,hx270_0,hx270_1⟩:=at_T52 HR1.out x7_2 p270 q270
       cases e270
       replace hx270_0:=(HB.out.cell (zW w _ hx270_0)).trans hx270_0
       replace hx270_1:=(HB.out.cell (zW w _ hx270_1)).trans hx270_1
       replace p270:=eq_true p270
       replace q270:=eq_true q270
       go_wp2_with (first|((with_reducible refine gate_callee (f:=110) rfl ?_);refine goesL_ (some 31) rfl rfl Try.func110 ze rfl #[.int .i64 ((rd_T52 l1 x7_2).f0)] rfl zg ?_;(with_reducible refine(spec_l5Sample.calls ((rd_T52 l1 x7_2).f0) false _ A12.out).mono ?_);rintro e w' ⟨rfl,⟨nd,rfl⟩⟩;refine⟨_,rfl,?_⟩))
       go_meet
       case rel=>exact⟨_,(true),zs,H',⟨by have:=HJ2.out;have:=HK2.out;first|omega|exact Nat.le_refl _⟩,⟨zr HO_6⟩,⟨zb⟩⟩
      subst c13
      rw[if_pos rfl] at H
      replace H:=zP H
      obtain⟨t273,A14,H⟩:=H
      have H':=zM H
      clear H
      have p270:0≤(x7_2:Int):=zT (by assumption)
      have q270:x7_2<(l1.length:Int):=zT (by assumption)
      obtain⟨ad270,e270,hx270_0,hx270_1⟩:=at_T52 HR1.out x7_2 p270 q270
      cases e270
      replace hx270_0:=(HB.out.cell (zW w _ hx270_0)).trans hx270_0
      replace hx270_1:=(HB.out.cell (zW w _ hx270_1)).trans hx270_1
      replace p270:=eq_true p270
      replace q270:=eq_true q270
      go_wp2_with (first|((with_reducible refine gate_callee (f:=110) rfl ?_);refine goesL_ (some 31) rfl rfl Try.func110 ze rfl #[.int .i64 ((rd_T52 l1 x7_2).f0)] rfl zg ?_;(with_reducible refine(spec_l5Sample.calls ((rd_T52 l1 x7_2).f0) true _ A12.out).mono ?_);rintro e w' ⟨rfl,⟨nd,rfl⟩⟩;refine⟨_,rfl,?_⟩;have p272:0≤(x7_2:Int):=zT (by assumption);have q272:x7_2<(l1.length:Int):=zT (by assumption);obtain⟨ad272,e272,hx272_0,hx272_1⟩:=at_T52 HR1.out x7_2 p272 q272;obtain rfl:ad270=ad272:=(by injection e272);replace hx272_0:=(HB.out.cell (zW w _ hx272_0)).trans hx272_0;replace hx272_1:=(HB.out.cell (zW w _ hx272_1)).trans hx272_1;replace p272:=eq_true p272;replace q272:=eq_true q272)|(go_at_call 110;(with_reducible refine(spec_l5Sample.calls ((rd_T52 l1 x7_2).f1) t273 _ A14.out).mono ?_);rintro e w' ⟨rfl,⟨nd,rfl⟩⟩))
      go_meet
      case rel=>exact⟨_,(!t273),zs,H',⟨by have:=HJ2.out;have:=HK2.out;first|omega|exact Nat.le_refl _⟩,⟨zr HO_6⟩,⟨zb⟩⟩
     case rest=>
      clear HC10
      try clear c1
      try clear p2
      try clear q2
      try clear hx2
      try clear c6
      try clear p6
      try clear c7
      try clear c8
      try clear c9
      try clear c9b0
      try clear c11
      try clear c11b0
      try clear c13
      try clear hx270_0
      try clear hx270_1
      try clear hx272_0
      try clear hx272_1
      try clear p2
      try clear p270
      try clear p272
      try clear p6
      try clear q270
      try clear q272
      obtain⟨kq,x41_9,rfl,HA,HJ9,HO_6,HB⟩:=hcut
      cases kq with
      |zero=>exact absurd HA.out (by simp[spec_Decide.j2])
      | succ kj9=>
       have H:=HA.out
       clear HA
       simp only[spec_Decide.j2] at H
       by_cases c15:x41_9=true
       case pos=>
        subst c15
        rw[if_pos rfl] at H
        obtain⟨y274,hy274⟩:∃y_:List Int,y_=(([]:List Int)):=⟨_,rfl⟩
        replace H:(some (y274,false))=some (r1,r2):=zy hy274 H
        have Ny274:=zM hy274
        clear hy274
        simp only[Option.some.injEq,Prod.mk.injEq] at H
        obtain⟨rfl,rfl⟩:=H
        go_wp2_with (first|((with_reducible refine gate_dst (N:=42) rfl ?_);(try(refine gate_guard (by rfl) ?_;dsimp only));refine Kd.R_lit (Kd.int .i64) _ 3 ?hg (N:=42) ?hd (xs:=([]:List Int)) (inner:=[]) (ok:=fun _=>True) (okp:=fun _=>True) ?hr ?hp (fun _ hk=>hk) trivial (Below.refl _ _) (Nat.le_refl _) (by simp) ?_;(case hd|hg=>rfl);(case hr=>exact zh);(case hp=>exact(Reps.none _ _));intro v275 w16 ho17 hb hg_ hnew_;clear hg_ hnew_;(first|rw[←Ny274.out] at ho17|simp only[Int.reduceToNat,←Ny274.out] at ho17);refine zS3 (Kd.R_elder' (zr HO_6) (Kd.R_base ho17) hb) (Kd.R_lower (Kd.R_new' ho17 (Kd.R_lt (zr HO_6))) (below_size zb)) (below_step zb hb) ?_;clear HO_6 HB;intro HO_6 HO276 HB;clear hb ho17))
        go_ret2
        exact⟨_,zq,by(with_reducible repeat(first|apply zRa|apply zRn|apply zRd));first|exact Kd.R_mono HO276.out (fun _ hk=>trivial)|(subst_vars;exact Kd.R_mono HO276.out (fun _ hk=>trivial)),zb⟩
       replace c15:=Bool.eq_false_iff.mpr c15
       subst c15
       rw[if_neg zFT] at H
       replace H:=zID H
       obtain⟨c18b0,H⟩:=H
       replace H:=zID H
       obtain⟨c19b0,H⟩:=H
       replace H:=zP H
       obtain⟨t278,A20,H⟩:=H
       replace H:=zIM H
       obtain⟨LMc21,H⟩:=H
       replace H:=zY H
       obtain⟨y281,Ny281,H⟩:=H
       replace H:=zP H
       obtain⟨t285,A22,H⟩:=H
       replace H:=zIM H
       obtain⟨LMc23,H⟩:=H
       obtain⟨y288,hy288⟩:∃y_:List Int,y_=(y281++t285):=⟨_,rfl⟩
       rw[←hy288] at H
       have Ny288:=zM hy288
       clear hy288
       have H':=zM H
       clear H
       try go_wp2
       refine zS2 (zRd HO_6.out) (zBd HB.out) ?_
       clear HO_6 HB
       intro HO_6 HB
       have p277:0≤(x7_2:Int):=zT (by assumption)
       have q277:x7_2<(l1.length:Int):=zT (by assumption)
       obtain⟨ad277,e277,hx277_0,hx277_1⟩:=at_T52 HR1.out x7_2 p277 q277
       have hw277_1:=hx277_1
       have hw277_0:=hx277_0
       cases e277
       replace hx277_0:=(HB.out.cell (zW w _ hx277_0)).trans hx277_0
       replace hx277_1:=(HB.out.cell (zW w _ hx277_1)).trans hx277_1
       replace p277:=eq_true p277
       replace q277:=eq_true q277
       have p284:0≤(x7_2:Int):=zT (by assumption)
       have q284:x7_2<(l1.length:Int):=zT (by assumption)
       obtain⟨ad284,e284,hx284_0,hx284_1⟩:=at_T52 HR1.out x7_2 p284 q284
       have hw284_1:=hx284_1
       have hw284_0:=hx284_0
       obtain rfl:ad277=ad284:=(by injection e284)
       replace hx284_0:=(HB.out.cell (zW w _ hx284_0)).trans hx284_0
       replace hx284_1:=(HB.out.cell (zW w _ hx284_1)).trans hx284_1
       replace p284:=eq_true p284
       replace q284:=eq_true q284
       refine start_ (n:=20) (S:=fun w'=>w'.cell? (ad277.add ((x7_2).toNat*2))=some (.int .i64 ((rd_T52 l1 x7_2).f0))∧w'.cell? ⟨(ad277.add ((x7_2).toNat*2)).block,(ad277.add ((x7_2).toNat*2)).off+1,none⟩=some (.int .i64 ((rd_T52 l1 x7_2).f1))∧w'.cell? (ad277.add ((x7_2).toNat*2))=some (.int .i64 ((rd_T52 l1 x7_2).f0))∧w'.cell? ⟨(ad277.add ((x7_2).toNat*2)).block,(ad277.add ((x7_2).toNat*2)).off+1,none⟩=some (.int .i64 ((rd_T52 l1 x7_2).f1))) (ds:=[]) #[zf,zf,zf,zf,zf,zf,zf,zf,zf,zf,zf,zf,zf,zf,zf,zf,zf,zf,zf,zf] ze rfl rfl ⟨((HB.out.cell (zW w _ hw277_0)).trans hw277_0),((HB.out.cell (zW w _ hw277_1)).trans hw277_1),((HB.out.cell (zW w _ hw284_0)).trans hw284_0),((HB.out.cell (zW w _ hw284_1)).trans hw284_1)⟩ (fun hHeld=> ?_);refine with_tabW spec_Decide.tab9 spec_Decide.bits9 (fun HT_ HW_=> ?_)
       generalize wc.drew=w24 at HO_6 HB hx277_0 hx277_1 hx284_0 hx284_1 hHeld ⊢
       refine zu 0 43 ?_
       refine zu 1 44 ?_
       refine zu 2 45 ?_
       refine zu 3 46 ?_
       refine zu 4 47 ?_
       refine zu 5 48 ?_
       refine zu 6 49 ?_
       refine zu 10 53 ?_
       refine zu 11 54 ?_
       refine zu 12 55 ?_
       refine zu 13 56 ?_
       refine zu 14 57 ?_
       refine zu 15 58 ?_
       refine zt4 7 50 ?_
       refine zt4 16 59 ?_
       refine one_ (i:=8) (N:=some 51) #[zt,zt,zt,zt,zt,zt,zt,zt,zt,zf,zt,zt,zt,zt,zt,zt,zt,zf,zf,zf] rfl rfl (one_of HT_.out ze) (by decide) (fun K hK=> ?_)
       refine goes_ Try.func112 ze rfl #[.int .i64 (wrap64 (Int.tdiv a0 2)), .int .i64 ((rd_T52 l1 x7_2).f0)] (by rfl) rfl rfl zg ?_
       with_reducible refine(spec_l13Bits.calls kj9 (wrap64 (Int.tdiv a0 2)) ((rd_T52 l1 x7_2).f0) t278 _ A20.out).mono ?_
       rintro e w25 ⟨v279,rfl,ho0,hb⟩
       refine⟨_,rfl,?_⟩
       refine zS3 (Kd.R_elder' (zr HO_6) (Kd.R_base ho0) hb) (Kd.R_lower (Kd.R_new' ho0 (Kd.R_lt (zr HO_6))) (below_size zb)) (below_step zb hb) ?_
       clear HO_6 HB
       intro HO_6 HO280 HB
       (try clear hb)
       (try clear hb2)
       (try clear hk)
       (try clear hi)
       (try clear ho0)
       obtain⟨Ao27,co27,eo27⟩:=Kd.R_slice HO280.out
       (first|subst eo27|(injection eo27 with f1_ f2_ f3_;have f4_:=f1_.symm;have f5_:=f3_.symm;clear f1_ f2_ f3_;subst f4_;subst f5_))
       refine hK.out _ _ ⟨((HB.out.cell (zW w _ hw277_0)).trans hw277_0),((HB.out.cell (zW w _ hw277_1)).trans hw277_1),((HB.out.cell (zW w _ hw284_0)).trans hw284_0),((HB.out.cell (zW w _ hw284_1)).trans hw284_1)⟩ (fun hHeld=> ?_)
       clear hK K
       refine norm_ (a':= ?_) ?_ ?_
       rotate_left
       ·show Act.put _ (some 51) _=_
        simp only[Act.put,zL1,zL2,zL3,i64_w,i32_w]
        rfl
       refine one_ (i:=9) (N:=some 52) #[zt,zt,zt,zt,zt,zt,zt,zt,zt,zt,zt,zt,zt,zt,zt,zt,zt,zf,zf,zf] rfl rfl (one_of HT_.out ze) (by decide) (fun K hK=> ?_)
       refine Kd.R_append_rows_step (Kd.int .i64) (w0:=w) w.heap.size (by rfl) (.tmp 43) (.tmp 51) 46 3 (.int .i64 0) 8 rfl Try.underlying46 info3 rfl (by decide) (by omega) u6 x6_2 t278 _ _ _ (fun k_=>some k_≠(.slice Ao27 t278.length co27:Value).ownBlock) (fun _=>False) rfl rfl ?aO ?aR (fun _ _ h=>h) (fun _ h=>h.elim) ?aF ?aB ?aS ?aL ?_
       (case aR=>exact zc (Kd.R_reads' HO280.out).2.2)
       (case aB=>exact zb)
       (case aF=>exact(fun k_ hk=>Kd.fresh' (Kd.R_lt (zr HO280)) k_ hk))
       (case aO=>exact(by(with_reducible repeat(first|apply zRa|apply zRn|apply zRd));first|exact Kd.R_mono HO_6.out (fun _ hk=>hk.2)|(subst_vars;exact Kd.R_mono HO_6.out (fun _ hk=>hk.2))))
       (case aS=>exact(below_size zb))
       (case aL=>have:=LMc21.out;omega)
       intro v282 w26 ho hb hg hat
       (first|rw[←Ny281.out] at ho|simp only[Int.reduceToNat,←Ny281.out] at ho)
       refine zS3 (Kd.R_after (ok:=(fun _=>True)) (zr HO280) hg hat) (hb) (ho) ?_
       clear HO280 HB HO_6
       intro HO280 HB HO283
       clear ho hb hg hat
       refine hK.out _ _ ⟨((HB.out.cell (zW w _ hw277_0)).trans hw277_0),((HB.out.cell (zW w _ hw277_1)).trans hw277_1),((HB.out.cell (zW w _ hw284_0)).trans hw284_0),((HB.out.cell (zW w _ hw284_1)).trans hw284_1)⟩ (fun hHeld=> ?_)
       clear hK K
       refine norm_ (a':= ?_) ?_ ?_
       rotate_left
       ·show Act.put _ (some 52) _=_
        simp only[Act.put,zL1,zL2,zL3,i64_w,i32_w]
        rfl
       refine one_ (i:=17) (N:=some 60) #[zt,zt,zt,zt,zt,zt,zt,zt,zt,zt,zt,zt,zt,zt,zt,zt,zt,zt,zf,zf] rfl rfl (one_of HT_.out ze) (by decide) (fun K hK=> ?_)
       refine goes_ Try.func112 ze rfl #[.int .i64 (wrap64 (Int.tdiv a0 2)), .int .i64 ((rd_T52 l1 x7_2).f1)] (by rfl) rfl rfl zg ?_
       with_reducible refine(spec_l13Bits.calls kj9 (wrap64 (Int.tdiv a0 2)) ((rd_T52 l1 x7_2).f1) t285 _ A22.out).mono ?_
       rintro e w28 ⟨v286,rfl,ho0,hb⟩
       refine⟨_,rfl,?_⟩
       refine zS4 (Kd.R_elder' (zr HO280) (Kd.R_base ho0) hb) (Kd.R_elder' (zr HO283) (Kd.R_base ho0) hb) (Kd.R_lower (Kd.R_new' (Kd.R_new' ho0 (Kd.R_lt (zr HO280))) (Kd.R_lt (zr HO283))) (below_size zb)) (below_step zb hb) ?_
       clear HO280 HO283 HB
       intro HO280 HO283 HO287 HB
       (try clear hb)
       (try clear hb2)
       (try clear hk)
       (try clear hi)
       (try clear ho0)
       obtain⟨Ao30,co30,eo30⟩:=Kd.R_slice HO287.out
       (first|subst eo30|(injection eo30 with f1_ f2_ f3_;have f4_:=f1_.symm;have f5_:=f3_.symm;clear f1_ f2_ f3_;subst f4_;subst f5_))
       refine hK.out _ _ ⟨((HB.out.cell (zW w _ hw277_0)).trans hw277_0),((HB.out.cell (zW w _ hw277_1)).trans hw277_1),((HB.out.cell (zW w _ hw284_0)).trans hw284_0),((HB.out.cell (zW w _ hw284_1)).trans hw284_1)⟩ (fun hHeld=> ?_)
       clear hK K
       refine norm_ (a':= ?_) ?_ ?_
       rotate_left
       ·show Act.put _ (some 60) _=_
        simp only[Act.put,zL1,zL2,zL3,i64_w,i32_w]
        rfl
       refine one_ (i:=18) (N:=some 61) #[zt,zt,zt,zt,zt,zt,zt,zt,zt,zt,zt,zt,zt,zt,zt,zt,zt,zt,zt,zf] rfl rfl (one_of HT_.out ze) (by decide) (fun K hK=> ?_)
       refine Kd.R_append_rows_step (Kd.int .i64) (w0:=w) w.heap.size (by rfl) (.tmp 52) (.tmp 60) 46 3 (.int .i64 0) 8 rfl Try.underlying46 info3 rfl (by decide) (by omega) v282 y281 t285 _ _ _ (fun k_=>some k_≠(.slice Ao27 t278.length co27:Value).ownBlock∧some k_≠(.slice Ao30 t285.length co30:Value).ownBlock) (fun _=>False) rfl rfl ?aO ?aR (fun _ _ h=>h) (fun _ h=>h.elim) ?aF ?aB ?aS ?aL ?_
       (case aR=>exact zc (Kd.R_reads' HO287.out).2.2)
       (case aB=>exact zb)
       (case aF=>exact(fun k_ hk=>⟨Kd.fresh' (Kd.R_lt (zr HO280)) k_ hk,Kd.fresh' (Kd.R_lt (zr HO287)) k_ hk⟩))
       (case aO=>exact(zr HO283))
       (case aS=>exact(below_size zb))
       (case aL=>have:=LMc23.out;omega)
       intro v289 w29 ho hb hg hat
       (first|rw[←Ny288.out] at ho|simp only[Int.reduceToNat,←Ny288.out] at ho)
       refine zS4 (Kd.R_after (ok:=(fun k_=>some k_≠(.slice Ao30 t285.length co30:Value).ownBlock)) (by(with_reducible repeat(first|apply zRa|apply zRn|apply zRd));first|exact Kd.R_mono HO280.out (fun _ hk=>⟨hk.2,hk.1.2⟩)|(subst_vars;exact Kd.R_mono HO280.out (fun _ hk=>⟨hk.2,hk.1.2⟩))) hg hat) (Kd.R_after (ok:=(fun k_=>some k_≠(.slice Ao27 t278.length co27:Value).ownBlock)) (by(with_reducible repeat(first|apply zRa|apply zRn|apply zRd));first|exact Kd.R_mono HO287.out (fun _ hk=>⟨hk.1.2,hk.2⟩)|(subst_vars;exact Kd.R_mono HO287.out (fun _ hk=>⟨hk.1.2,hk.2⟩))) hg hat) (hb) (ho) ?_
       clear HO280 HO287 HB HO283
       intro HO280 HO287 HB HO290
       clear ho hb hg hat
       refine hK.out _ _ ⟨((HB.out.cell (zW w _ hw277_0)).trans hw277_0),((HB.out.cell (zW w _ hw277_1)).trans hw277_1),((HB.out.cell (zW w _ hw284_0)).trans hw284_0),((HB.out.cell (zW w _ hw284_1)).trans hw284_1)⟩ (fun hHeld=> ?_)
       clear hK K
       refine norm_ (a':= ?_) ?_ ?_
       rotate_left
       ·show Act.put _ (some 61) _=_
        simp only[Act.put,zL1,zL2,zL3,i64_w,i32_w]
        rfl
       refine zu 19 6 ?_
       refine done_ (done_of HT_.out ze) ?_
       try go_wp2
       go_roundg kj9
       case measure=>have:=HJ2.out;have:=HK2.out;have:=HJ9.out;omega
       case rel=>exact⟨(y288),(wrap64 (x7_2+1)),zs,H',⟨by have:=HJ2.out;have:=HK2.out;have:=HJ9.out;omega⟩,⟨by(with_reducible repeat(first|apply zRa|apply zRn|apply zRd));first|exact Kd.R_mono HO290.out (fun _ hk=>trivial)|(subst_vars;exact Kd.R_mono HO290.out (fun _ hk=>trivial))⟩,⟨zb⟩⟩
mutual
def spec_l13Order.l0:Nat→Int→Int→Int→List Int→Int→Option (List Int)
 |0,_,_,_,_,_=>none
 |k+1,x0,x1,x5,x6,x7=>if x7<x5 then(spec_l13Order.l1 k x0 x1 x5 x6 x7 0) else(some x6)
def spec_l13Order.l1:Nat→Int→Int→Int→List Int→Int→Int→Option (List Int)
 |0,_,_,_,_,_,_=>none
 |k+1,x0,x1,x5,x6,x7,x8=>if x8<x1 then(if(wrap64 ((wrap64 (x8*x5))+x7))<x0 then(if x6.length<17592186044416 then(spec_l13Order.l1 k x0 x1 x5 (x6++[wrap64 ((wrap64 (x8*x5))+x7)]) x7 (wrap64 (x8+1))) else(none)) else(spec_l13Order.l1 k x0 x1 x5 x6 x7 (wrap64 (x8+1)))) else(spec_l13Order.l0 k x0 x1 x5 x6 (wrap64 (x7+1)))
end
def spec_l13Order.f (k:Nat) (a0:Int) (a1:Int):Option (List Int):=if a1=0 then(none) else(spec_l13Order.l0 k a0 a1 (wrap64 (Int.tdiv (wrap64 ((wrap64 (a0+a1))-1)) a1)) (([]:List Int)) 0)
theorem spec_l13Order.calls (k:Nat) (a0:Int) (a1:Int) (r:List Int) (w:World) (H:spec_l13Order.f k a0 a1=some r):
 Calls Try.prog 79 #[.int .i64 a0, .int .i64 a1] w fun e w'=>∃v0_:Value,e= .returned (v0_)∧Kd.R (Kd.int .i64) 3 w' w.heap.size (fun _=>True) v0_ r∧Below w.heap.size w w':=by
 have HB:=zM (Below.refl w.heap.size w)
 unfold spec_l13Order.f at H
 replace H:=zI2 H
 rcases H with⟨c3,H⟩|⟨c3,H⟩
 case inl=>
  exact absurd H (by simp)
 have c3b0:(a1==0)=false:=beq_eq_false_iff_ne.mpr c3
 have c3b1:(a1 != 0)=true:=bne_iff_ne.mpr c3
 obtain⟨y291,hy291⟩:∃y_:List Int,y_=(([]:List Int)):=⟨_,rfl⟩
 replace H:(spec_l13Order.l0 k a0 a1 (wrap64 (Int.tdiv (wrap64 ((wrap64 (a0+a1))-1)) a1)) y291 0)=some r:=zy hy291 H
 have Ny291:=zM hy291
 clear hy291
 have H':=zM H
 clear H
 go_enter Try.func79,Try.ntmps79
 go_wp2_with (first|((with_reducible refine gate_dst (N:=15) rfl ?_);refine Kd.R_lit (Kd.int .i64) _ 3 ?hg (N:=15) ?hd (xs:=([]:List Int)) (inner:=[]) (ok:=fun _=>True) (okp:=fun _=>True) ?hr ?hp (fun _ hk=>hk) trivial (Below.refl _ _) (Nat.le_refl _) (by simp) ?_;(case hd|hg=>rfl);(case hr=>exact zh);(case hp=>exact(Reps.none _ _));intro v292 w4 ho5 hb hg_ hnew_;clear hg_ hnew_;(first|rw[←Ny291.out] at ho5|simp only[Int.reduceToNat,←Ny291.out] at ho5);refine zS2 (Kd.R_lower ho5 (below_size zb)) (below_step zb hb) ?_;clear HB;intro HO293 HB;clear hb ho5))
 (try simp only[Act.put,zL1,zL2,zL3])
 go_loopg [6,7] k (fun kq v6 v7 w'=>∃(x6_1:List Int) (x7_1:Int),v7= .int .i64 x7_1∧Aside0 (spec_l13Order.l0 kq a0 a1 (wrap64 (Int.tdiv (wrap64 ((wrap64 (a0+a1))-1)) a1)) x6_1 x7_1=some r)∧Aside0 (kq≤k)∧Aside0 (Kd.R (Kd.int .i64) 3 w' w.heap.size (fun _=>True) v6 x6_1)∧Aside0 (Below w.heap.size w w'))
 case atStart=>exact⟨(y291),(0),zs,H',⟨Nat.le_refl _⟩,⟨zr HO293⟩,⟨zb⟩⟩
 case round=>
  clear H'
  try clear p2
  try clear c3
  try clear c3b0
  try clear c3b1
  obtain⟨x6_1,x7_1,rfl,HA,HK1,HO_6,HB⟩:=hrel
  cases gk with
  |zero=>exact absurd HA.out (by simp[spec_l13Order.l0])
  | succ k1=>
   have H:=HA.out
   clear HA
   simp only[spec_l13Order.l0] at H
   replace H:=zI2 H
   rcases H with⟨c6,H⟩|⟨c6,H⟩
   case inr=>
    have c6b0:=decide_eq_false c6
    clear c6
    obtain rfl:=zI H
    go_wp2
    go_ret
    exact⟨_,zq,zr HO_6,zb⟩
   have c6b0:=zE c6
   clear c6
   have H':=zM H
   clear H
   go_wp2
   (try simp only[Act.put,zL1,zL2,zL3])
   go_loopg [6,8] k1 (fun kq v6 v8 w'=>∃(x6_2:List Int) (x8_2:Int),v8= .int .i64 x8_2∧Aside0 (spec_l13Order.l1 kq a0 a1 (wrap64 (Int.tdiv (wrap64 ((wrap64 (a0+a1))-1)) a1)) x6_2 x7_1 x8_2=some r)∧Aside0 (kq≤k1)∧Aside0 (Kd.R (Kd.int .i64) 3 w' w.heap.size (fun _=>True) v6 x6_2)∧Aside0 (Below w.heap.size w w'))
   case atStart=>exact⟨(x6_1),(0),zs,H',⟨Nat.le_refl _⟩,⟨zr HO_6⟩,⟨zb⟩⟩
   case round=>
    clear H'
    try clear p2
    try clear c3
    try clear c3b0
    try clear c3b1
    try clear c6
    try clear c6b0
    try clear p6
    try clear p2
    obtain⟨x6_2,x8_2,rfl,HA,HK2,HO_6,HB⟩:=hrel
    cases gk with
    |zero=>exact absurd HA.out (by simp[spec_l13Order.l1])
    | succ k2=>
     have H:=HA.out
     clear HA
     simp only[spec_l13Order.l1] at H
     replace H:=zI2 H
     rcases H with⟨c7,H⟩|⟨c7,H⟩
     case inr=>
      have c7b0:=decide_eq_false c7
      clear c7
      have H':=zM H
      clear H
      go_wp2
      go_roundg k2
      case measure=>have:=HK1.out;have:=HK2.out;omega
      case rel=>exact⟨(x6_2),(wrap64 (x7_1+1)),zs,H',⟨zl2 HK1 HK2⟩,⟨zr HO_6⟩,⟨zb⟩⟩
     have c7b0:=zE c7
     clear c7
     replace H:=zI2 H
     rcases H with⟨c8,H⟩|⟨c8,H⟩
     case inr=>
      have c8b0:=decide_eq_false c8
      clear c8
      have H':=zM H
      clear H
      go_wp2
      go_roundg k2
      case measure=>have:=HK1.out;have:=HK2.out;omega
      case rel=>exact⟨(x6_2),(wrap64 (x8_2+1)),zs,H',⟨zl2 HK1 HK2⟩,⟨zr HO_6⟩,⟨zb⟩⟩
     have c8b0:=zE c8
     clear c8
     replace H:=zIM H
     obtain⟨LMc9,H⟩:=H
     obtain⟨y294,hy294⟩:∃y_:List Int,y_=(x6_2++[wrap64 ((wrap64 (x8_2*(wrap64 (Int.tdiv (wrap64 ((wrap64 (a0+a1))-1)) a1))))+x7_1)]):=⟨_,rfl⟩
     rw[←hy294] at H
     have Ny294:=zM hy294
     clear hy294
     have H':=zM H
     clear H
     go_wp2_with (first|((with_reducible refine gate_builtin (b:= .append) (xs:= #[.tmp 33, .tmp 39]) rfl ?_);at_builtin;refine Kd.R_append (Kd.int .i64) (w0:=w) w.heap.size rfl (.tmp 33) (.tmp 39) 46 3 (.int .i64 0) 8 rfl Try.underlying46 info3 rfl (by decide) (by omega) u6 x6_2 (wrap64 ((wrap64 (x8_2*(wrap64 (Int.tdiv (wrap64 ((wrap64 (a0+a1))-1)) a1))))+x7_1)) [.int .i64 (wrap64 ((wrap64 (x8_2*(wrap64 (Int.tdiv (wrap64 ((wrap64 (a0+a1))-1)) a1))))+x7_1))] (fun _=>True) (fun _=>False) rfl rfl ?aP (fun _ hk=>hk.elim) ?aF ?aO ?aB ?aS ?aL ?_;(case aP=>exact rfl);(case aB=>exact zb);(case aF=>exact(fun _ _=>trivial));(case aO=>exact(zr HO_6));(case aS=>exact(below_size zb));(case aL=>have:=LMc9.out;omega);intro v295 w10 ho hb hg hat;(first|rw[←Ny294.out] at ho|simp only[Int.reduceToNat,←Ny294.out] at ho);refine zS2 (hb) (ho) ?_;clear HB HO_6;intro HB HO296;clear ho hb hg hat))
     go_roundg k2
     case measure=>have:=HK1.out;have:=HK2.out;omega
     case rel=>exact⟨(y294),(wrap64 (x8_2+1)),zs,H',⟨zl2 HK1 HK2⟩,⟨zr HO296⟩,⟨zb⟩⟩
end Go.Proofs.Ytapobpkeefeajaa.PFnExactHear
