-- A turned copy of the print's text.
import Derived.Test.YtapobpkeefeajaaPFnExactHearx0
import Derived.Test.YtapobpkeefeajaaPFnExactHearx15
namespace Go.Proofs.Ytapobpkeefeajaa.PFnExactHear
open Go.RowKit Go.Proofs.YtapobpkeefeajaaW.PrintWords Go.Proofs.YtapobpkeefeajaaW.PrintLast Go.Proofs.YtapobpkeefeajaaW.PrintMore
attribute [local go_sem] max2_int min2_int max_two min_two max_three min_three max_four min_four
set_option maxHeartbeats 8000000
set_option maxRecDepth 100000
set_option linter.unusedVariables false
set_option linter.unusedSimpArgs false
mutual
def spec_l13Bits.j0:Nat→Int→Int→Int→Option (List Int)
 |0,_,_,_=>none
 |k+1,x0,x5,x6=>if x6>x5 then(spec_l13Bits.j1 k x0 x5) else(spec_l13Bits.j1 k x0 x6)
def spec_l13Bits.j1:Nat→Int→Int→Option (List Int)
 |0,_,_=>none
 |k+1,x0,x6=>(spec_Gray.f x6).bind fun t259=>(spec_l13Bits.l0 k t259 (([]:List Int)) (wrap64 (x0-1)))
def spec_l13Bits.l0:Nat→Int→List Int→Int→Option (List Int)
 |0,_,_,_=>none
 |k+1,x7,x8,x9=>if x9≥0 then(if 0≤(IntKind.u64.wrap (x9)) then(if x8.length<17592186044416 then(spec_l13Bits.l0 k x7 (x8++[Int.tmod (shr .i64 x7 (IntKind.u64.wrap (x9))) 2]) (wrap64 (x9-1))) else(none)) else(none)) else(some x8)
end
def spec_l13Bits.f (k:Nat) (a0:Int) (a1:Int):Option (List Int):=if 0≤(IntKind.u64.wrap (a0)) then((spec_RoundDiv.f k (wrap64 (a1+(wrap64 ((shl .i64 1 (IntKind.u64.wrap (a0)))-1)))) 2).bind fun t258=>(if t258<0 then(spec_l13Bits.j0 k a0 (wrap64 ((shl .i64 1 (IntKind.u64.wrap (a0)))-1)) 0) else(spec_l13Bits.j0 k a0 (wrap64 ((shl .i64 1 (IntKind.u64.wrap (a0)))-1)) t258))) else(none)
theorem spec_l13Bits.calls (k:Nat) (a0:Int) (a1:Int) (r:List Int) (w:World) (H:spec_l13Bits.f k a0 a1=some r):
 Calls Try.prog 112 #[.int .i64 a0, .int .i64 a1] w fun e w'=>∃v0_:Value,e= .returned (v0_)∧Kd.R (Kd.int .i64) 3 w' w.heap.size (fun _=>True) v0_ r∧Below w.heap.size w w':=by
 have HB:=zM (Below.refl w.heap.size w)
 unfold spec_l13Bits.f at H
 obtain⟨ji3,hji3⟩:∃j_:Int,(IntKind.u64.wrap (a0))=j_:=⟨_,rfl⟩
 first|rw[hji3] at H|simp only[hji3] at H
 replace H:=zIN H
 obtain⟨c4,H⟩:=H
 have c4b0:=eq_true c4
 have c4b1:decide (0≤(ji3))=true:=zE c4
 clear c4
 obtain⟨ji5,hji5⟩:∃j_:Int,(shl .i64 1 (ji3))=j_:=⟨_,rfl⟩
 first|rw[hji5] at H|simp only[hji5] at H
 have hji5_:(IntKind.i64.wrap (1*2^min (ji3).toNat 64))=ji5:=hji5
 have hji5z:(ji3)≤64→(IntKind.i64.wrap (1*2^(ji3).toNat))=ji5:=shl_small hji5
 have hji5u:(IntKind.i64.wrap (2^min (ji3).toNat 64))=ji5:=by have h_:=hji5_;rw[Int.one_mul] at h_;exact h_
 have hji5v:(ji3)≤64→(IntKind.i64.wrap (2^(ji3).toNat))=ji5:=fun hle_=>by have h_:=hji5z hle_;rw[Int.one_mul] at h_;exact h_
 have hji5y:(wrap64 (1*2^min (ji3).toNat 64))=ji5:=(i64_w _).symm.trans hji5_
 have hji5x:(ji3)≤64→(wrap64 (1*2^(ji3).toNat))=ji5:=fun h_=>(i64_w _).symm.trans (hji5z h_)
 replace H:=zP H
 obtain⟨t258,A6,H⟩:=H
 have HC7:=zM H
 clear H
 go_enter Try.func112,Try.ntmps112
 go_upto_if 19 with(first|((with_reducible refine gate_callee (f:=68) rfl ?_);refine goesL_ (some 17) rfl rfl Try.func68 ze rfl #[.int .i64 (wrap64 (a1+(wrap64 ((ji5)-1)))), .int .i64 2] rfl (by(try simp only[List.map_toArray,List.map_cons,List.map_nil]);first|done|(simp only[hji5];rfl)|rfl|(simp only[List.length_drop,List.length_take];rfl)) ?_;(with_reducible refine(spec_RoundDiv.calls k (wrap64 (a1+(wrap64 ((ji5)-1)))) 2 t258 _ A6.out).mono ?_);rintro e w' ⟨rfl,⟨nd,rfl⟩⟩;refine⟨_,rfl,?_⟩))
 (try simp only[Act.put,zL1,zL2,zL3])
 go_cut [6] (fun v6 wc=>∃(kq:Nat) (x6_6:Int),v6= .int .i64 x6_6∧Aside0 (spec_l13Bits.j0 kq a0 (wrap64 ((ji5)-1)) x6_6=some r)∧Aside0 (kq≤k)∧Aside0 (Below w.heap.size w wc))
 case first=>
  have H:=HC7.out
  clear HC7
  replace H:=zI2 H
  rcases H with⟨c8,H⟩|⟨c8,H⟩
  case inl=>
   have c8b0:=zE c8
   clear c8
   (first|rw[c8b0]|(simp only[i64_w,i32_w];rw[c8b0])|skip)
   have H':=zM H
   clear H
   go_wp2
   go_meet
   case rel=>exact⟨_,(0),zs,H',⟨zo⟩,⟨zb⟩⟩
  have c8b0:=decide_eq_false c8
  clear c8
  (first|rw[c8b0]|(simp only[i64_w,i32_w];rw[c8b0])|skip)
  have H':=zM H
  clear H
  go_wp2
  go_meet
  case rel=>exact⟨_,(t258),zs,H',⟨zo⟩,⟨zb⟩⟩
 case rest=>
  clear HC7
  try clear c1
  try clear p2
  try clear c4
  try clear c4b0
  try clear c4b1
  try clear c6
  try clear p6
  try clear c8
  try clear c8b0
  obtain⟨kq,x6_6,rfl,HA,HJ6,HB⟩:=hcut
  cases kq with
  |zero=>exact absurd HA.out (by simp[spec_l13Bits.j0])
  | succ kj6=>
   have H:=HA.out
   clear HA
   simp only[spec_l13Bits.j0] at H
   have HC9:=zM H
   clear H
   go_upto_if 22 with(fail)
   go_cut [6] (fun v6 wc=>∃(kq:Nat) (x6_8:Int),v6= .int .i64 x6_8∧Aside0 (spec_l13Bits.j1 kq a0 x6_8=some r)∧Aside0 (kq≤kj6)∧Aside0 (Below w.heap.size w wc))
   case first=>
    have H:=HC9.out
    clear HC9
    replace H:=zI2 H
    rcases H with⟨c10,H⟩|⟨c10,H⟩
    case inr=>
     have c10b0:decide ((wrap64 ((ji5)-1))<x6_6)=false:=decide_eq_false c10
     clear c10
     (first|rw[c10b0]|(simp only[i64_w,i32_w];rw[c10b0])|skip)
     have H':=zM H
     clear H
     go_wp2
     go_meet
     case rel=>exact⟨_,(x6_6),zs,H',⟨by have:=HJ6.out;first|omega|exact Nat.le_refl _⟩,⟨zb⟩⟩
    have c10b0:decide ((wrap64 ((ji5)-1))<x6_6)=true:=zE c10
    clear c10
    (first|rw[c10b0]|(simp only[i64_w,i32_w];rw[c10b0])|skip)
    have H':=zM H
    clear H
    go_wp2
    go_meet
    case rel=>exact⟨_,((wrap64 ((ji5)-1))),(by first|rfl|(simp;done)|(simp only[←hji5]<;>(first|rfl|simp))|(simp[*];done)),H',⟨by have:=HJ6.out;first|omega|exact Nat.le_refl _⟩,⟨zb⟩⟩
   case rest=>
    clear HC9
    try clear c1
    try clear p2
    try clear c4
    try clear c4b0
    try clear c4b1
    try clear c6
    try clear p6
    try clear c8
    try clear c8b0
    try clear c10
    try clear c10b0
    try clear p2
    try clear p6
    obtain⟨kq,x6_8,rfl,HA,HJ8,HB⟩:=hcut
    cases kq with
    |zero=>exact absurd HA.out (by simp[spec_l13Bits.j1])
    | succ kj8=>
     have H:=HA.out
     clear HA
     simp only[spec_l13Bits.j1] at H
     replace H:=zP H
     obtain⟨t259,A11,H⟩:=H
     obtain⟨y260,hy260⟩:∃y_:List Int,y_=(([]:List Int)):=⟨_,rfl⟩
     replace H:(spec_l13Bits.l0 kj8 t259 y260 (wrap64 (a0-1)))=some r:=zy hy260 H
     have Ny260:=zM hy260
     clear hy260
     have H':=zM H
     clear H
     go_wp2_with (first|((with_reducible refine gate_callee (f:=124) rfl ?_);refine goesL_ (some 25) rfl rfl Try.func124 ze rfl #[.int .i64 x6_8] rfl zg ?_;(with_reducible refine(spec_Gray.calls x6_8 t259 _ A11.out).mono ?_);rintro e w' ⟨rfl,⟨nd,rfl⟩⟩;refine⟨_,rfl,?_⟩)|((with_reducible refine gate_dst (N:=26) rfl ?_);refine Kd.R_lit (Kd.int .i64) _ 3 ?hg (N:=26) ?hd (xs:=([]:List Int)) (inner:=[]) (ok:=fun _=>True) (okp:=fun _=>True) ?hr ?hp (fun _ hk=>hk) trivial (Below.refl _ _) (Nat.le_refl _) (by simp) ?_;(case hd|hg=>rfl);(case hr=>exact zh);(case hp=>exact(Reps.none _ _));intro v261 w12 ho13 hb hg_ hnew_;clear hg_ hnew_;(first|rw[←Ny260.out] at ho13|simp only[Int.reduceToNat,←Ny260.out] at ho13);refine zS2 (Kd.R_lower ho13 (below_size zb)) (below_step zb hb) ?_;clear HB;intro HO262 HB;clear hb ho13))
     (try simp only[Act.put,zL1,zL2,zL3])
     go_loopg [8,9] kj8 (fun kq v8 v9 w'=>∃(x8_3:List Int) (x9_3:Int),v9= .int .i64 x9_3∧Aside0 (spec_l13Bits.l0 kq t259 x8_3 x9_3=some r)∧Aside0 (kq≤kj8)∧Aside0 (Kd.R (Kd.int .i64) 3 w' w.heap.size (fun _=>True) v8 x8_3)∧Aside0 (Below w.heap.size w w'))
     case atStart=>exact⟨(y260),(wrap64 (a0-1)),zs,H',⟨Nat.le_refl _⟩,⟨zr HO262⟩,⟨zb⟩⟩
     case round=>
      clear H'
      try clear c1
      try clear p2
      try clear c4
      try clear c4b0
      try clear c4b1
      try clear c6
      try clear p6
      try clear c8
      try clear c8b0
      try clear c10
      try clear c10b0
      try clear c11
      try clear c12
      try clear p2
      try clear p6
      obtain⟨x8_3,x9_3,rfl,HA,HK3,HO_8,HB⟩:=hrel
      cases gk with
      |zero=>exact absurd HA.out (by simp[spec_l13Bits.l0])
      | succ k3=>
       have H:=HA.out
       clear HA
       simp only[spec_l13Bits.l0] at H
       replace H:=zI2 H
       rcases H with⟨c14,H⟩|⟨c14,H⟩
       case inr=>
        have c14b0:decide (0≤x9_3)=false:=decide_eq_false c14
        clear c14
        obtain rfl:=zI H
        go_wp2
        go_ret
        exact⟨_,by first|rfl|(simp[errW_none,errW_some]<;>rfl)|(simp only[←hji3,←hji5];first|rfl|(simp[errW_none,errW_some]<;>rfl))|(simp[*,errW_none,errW_some]<;>rfl),zr HO_8,zb⟩
       have c14b0:decide (0≤x9_3)=true:=zE c14
       clear c14
       obtain⟨ji15,hji15⟩:∃j_:Int,(IntKind.u64.wrap (x9_3))=j_:=⟨_,rfl⟩
       first|rw[hji15] at H|simp only[hji15] at H
       replace H:=zIN H
       obtain⟨c16,H⟩:=H
       have c16b0:=eq_true c16
       have c16b1:decide (0≤(ji15))=true:=zE c16
       clear c16
       obtain⟨ji17,hji17⟩:∃j_:Int,(shr .i64 t259 (ji15))=j_:=⟨_,rfl⟩
       first|rw[hji17] at H|simp only[hji17] at H
       have hji17_:(t259 / 2^min (ji15).toNat 64)=ji17:=hji17
       have hji17z:(ji15)≤64→(t259 / 2^(ji15).toNat)=ji17:=shr_small hji17
       replace H:=zIM H
       obtain⟨LMc18,H⟩:=H
       obtain⟨y263,hy263⟩:∃y_:List Int,y_=(x8_3++[Int.tmod (ji17) 2]):=⟨_,rfl⟩
       rw[←hy263] at H
       have Ny263:=zM hy263
       clear hy263
       have H':=zM H
       clear H
       go_wp2_with (first|((with_reducible refine gate_builtin (b:= .append) (xs:= #[.tmp 33, .tmp 39]) rfl ?_);at_builtin;refine Kd.R_append (Kd.int .i64) (w0:=w) w.heap.size rfl (.tmp 33) (.tmp 39) 46 3 (.int .i64 0) 8 rfl Try.underlying46 info3 rfl (by decide) (by omega) u8 x8_3 (Int.tmod (ji17) 2) [.int .i64 (Int.tmod (ji17) 2)] (fun _=>True) (fun _=>False) rfl rfl ?aP (fun _ hk=>hk.elim) ?aF ?aO ?aB ?aS ?aL ?_;(case aP=>exact rfl);(case aB=>exact zb);(case aF=>exact(fun _ _=>trivial));(case aO=>exact(zr HO_8));(case aS=>exact(below_size zb));(case aL=>have:=LMc18.out;omega);intro v264 w19 ho hb hg hat;(first|rw[←Ny263.out] at ho|simp only[Int.reduceToNat,←Ny263.out] at ho);refine zS2 (hb) (ho) ?_;clear HB HO_8;intro HB HO265;clear ho hb hg hat))
       go_roundg k3
       case measure=>have:=HJ6.out;have:=HJ8.out;have:=HK3.out;omega
       case rel=>exact⟨(y263),(wrap64 (x9_3-1)),zs,H',⟨by have:=HJ6.out;have:=HJ8.out;have:=HK3.out;omega⟩,⟨zr HO265⟩,⟨zb⟩⟩
end Go.Proofs.Ytapobpkeefeajaa.PFnExactHear
