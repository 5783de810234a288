-- A turned copy of the print's text.
import Derived.Test.YtapobpkeefeajaaPFnExactHearx0
import Derived.Test.YtapobpkeefeajaaPFnExactHearx5
import Derived.Test.YtapobpkeefeajaaPFnExactHearx7
import Derived.Test.YtapobpkeefeajaaPFnExactHearx9
import Derived.Test.YtapobpkeefeajaaPFnExactHearx10
namespace Go.Proofs.Ytapobpkeefeajaa.PFnExactHear
open Go.RowKit Go.Proofs.YtapobpkeefeajaaW.PrintWords Go.Proofs.YtapobpkeefeajaaW.PrintLast Go.Proofs.YtapobpkeefeajaaW.PrintMore
attribute [local go_sem] max2_int min2_int max_two min_two max_three min_three max_four min_four
set_option maxHeartbeats 8000000
set_option maxRecDepth 100000
set_option linter.unusedVariables false
set_option linter.unusedSimpArgs false
mutual
def impl_RsMend.l0:Nat→List Int→Int→List Int→Int→Int→Option (List Int×Int×Bool)
 |0,_,_,_,_,_=>none
 |k+1,x0,x1,x7,x24,x25=>if x25<x24 then((impl_value.f k x0 x25).bind fun t192=>(if x7.length<17592186044416 then(impl_RsMend.l0 k x0 x1 (x7++[t192]) x24 (wrap64 (x25+1))) else(none))) else((impl_locator.f k x7).bind fun t196=>(impl_RsMend.l1 k x0 x1 t196 ([]:List Int) (x0.length:Int) 0))
def impl_RsMend.l1:Nat→List Int→Int→List Int→List Int→Int→Int→Option (List Int×Int×Bool)
 |0,_,_,_,_,_,_=>none
 |k+1,x0,x1,x9,x10,x38,x39=>if x39<x38 then((impl_gfPow.f k (wrap64 (255-(Int.tmod (wrap64 ((wrap64 ((x0.length:Int)-1))-x39)) 255)))).bind fun t199=>(impl_RsMend.l2 k x0 x1 x9 x10 x39 t199 0 (wrap64 ((x9.length:Int)-1)) x38 x39)) else(if(x10.length:Int)>x1 then(impl_RsMend.j3 k x0 x1 x10 true) else(impl_RsMend.j3 k x0 x1 x10 ((x10.length:Int) != (wrap64 ((x9.length:Int)-1)))))
def impl_RsMend.l2:Nat→List Int→Int→List Int→List Int→Int→Int→Int→Int→Int→Int→Option (List Int×Int×Bool)
 |0,_,_,_,_,_,_,_,_,_,_=>none
 |k+1,x0,x1,x9,x10,x11,x12,x13,x14,x38,x39=>if x14≥0 then((impl_GfMul.f k x13 x12).bind fun t200=>(if 0≤x14 then(if x14<(x9.length:Int) then(impl_RsMend.l2 k x0 x1 x9 x10 x11 x12 (Go.bits .xor .i64 t200 (rd x9 x14)) (wrap64 (x14-1)) x38 x39) else(none)) else(none))) else(if x13=0 then(if x10.length<17592186044416 then(impl_RsMend.l1 k x0 x1 x9 (x10++[x11]) x38 (wrap64 (x39+1))) else(none)) else(impl_RsMend.l1 k x0 x1 x9 x10 x38 (wrap64 (x39+1))))
def impl_RsMend.j3:Nat→List Int→Int→List Int→Bool→Option (List Int×Int×Bool)
 |0,_,_,_,_=>none
 |k+1,x0,x1,x10,x83=>if x83=true then(some (([]:List Int),0,false)) else((impl_fill.f k x0 x10 x1).bind fun bt205=>(if bt205.2=true then((impl_RsOk.f k bt205.1 x1).bind fun t209=>(impl_RsMend.j4 k x0 bt205.1 (!t209))) else(impl_RsMend.j4 k x0 bt205.1 true)))
def impl_RsMend.j4:Nat→List Int→List Int→Bool→Option (List Int×Int×Bool)
 |0,_,_,_=>none
 |k+1,x0,x15,x98=>if x98=true then(some (([]:List Int),0,false)) else(impl_RsMend.l3 k x0 x15 0 (x15.length:Int) 0)
def impl_RsMend.l3:Nat→List Int→List Int→Int→Int→Int→Option (List Int×Int×Bool)
 |0,_,_,_,_,_=>none
 |k+1,x0,x15,x17,x100,x101=>if x101<x100 then(if 0≤x101 then(if x101<(x15.length:Int) then(if x101<(x0.length:Int) then(if(rd x15 x101)=(rd x0 x101) then(impl_RsMend.l3 k x0 x15 x17 x100 (wrap64 (x101+1))) else(impl_RsMend.l3 k x0 x15 (wrap64 (x17+1)) x100 (wrap64 (x101+1)))) else(none)) else(none)) else(none)) else(some (x15,x17,true))
end
def impl_RsMend.f (k:Nat) (l0:List Int) (a1:Int):Option (List Int×Int×Bool):=(impl_wordOk.f l0 a1).bind fun t191=>(if t191=true then(impl_RsMend.l0 k l0 a1 ([]:List Int) (wrap64 (2*a1)) 0) else(some (([]:List Int),0,false)))
theorem impl_RsMend.calls (k:Nat) (A0:Option Addr) (c0:Nat) (l0:List Int) (a1:Int) (r1:List Int) (r2:Int) (r3:Bool) (w:World) (hr0:Kd.C (Kd.int .u8) w A0 l0.length l0) (hc0:l0.length≤c0) (H:impl_RsMend.f k l0 a1=some (r1,r2,r3)):
 Calls Try.prog 61 #[.slice A0 l0.length c0, .int .i64 a1] w fun e w'=>∃v0_:Value,e= .returned (.tuple #[v0_, .int .i64 r2, .bool r3])∧Kd.R (Kd.int .u8) 5 w' w.heap.size (fun _=>True) v0_ r1∧Below w.heap.size w w':=by
 have HR0:=zM hr0
 have HC0:=zM hc0
 clear hr0 hc0
 have HB:=zM (Below.refl w.heap.size w)
 unfold impl_RsMend.f at H
 replace H:=zP H
 obtain⟨t191,A3,H⟩:=H
 by_cases c4:t191=true
 case neg=>
  replace c4:=Bool.eq_false_iff.mpr c4
  subst c4
  rw[if_neg zFT] at H
  simp only[Option.some.injEq,Prod.mk.injEq] at H
  obtain⟨rfl,rfl,rfl⟩:=H
  go_enter Try.func61,Try.ntmps61
  go_wp2_with (first|(go_at_call 105;(with_reducible refine(impl_wordOk.calls _ _ l0 a1 false _ ?side1 ?side2 A3.out).mono ?_);(case side1=>exact zc HR0.out);(case side2=>exact HC0.out);rintro e w' ⟨rfl,⟨nd,rfl⟩⟩;(try first|exact⟨rfl,_,zD _ _ _⟩|exact⟨rfl,_,Eq.trans (zD _ _ _) (congrArg (World.drewN _) (Nat.add_assoc _ _ _))⟩)))
  repeat(go_quiet (first|(go_at_call 105;(with_reducible refine(impl_wordOk.calls _ _ l0 a1 false _ ?side1 ?side2 A3.out).mono ?_);(case side1=>exact zc HR0.out);(case side2=>exact HC0.out);rintro e w' ⟨rfl,⟨nd,rfl⟩⟩;(try first|exact⟨rfl,_,zD _ _ _⟩|exact⟨rfl,_,Eq.trans (zD _ _ _) (congrArg (World.drewN _) (Nat.add_assoc _ _ _))⟩)));try go_wp2_with (first|(go_at_call 105;(with_reducible refine(impl_wordOk.calls _ _ l0 a1 false _ ?side1 ?side2 A3.out).mono ?_);(case side1=>exact zc HR0.out);(case side2=>exact HC0.out);rintro e w' ⟨rfl,⟨nd,rfl⟩⟩;(try first|exact⟨rfl,_,zD _ _ _⟩|exact⟨rfl,_,Eq.trans (zD _ _ _) (congrArg (World.drewN _) (Nat.add_assoc _ _ _))⟩))))
  go_ret3
  exact⟨_,zq,zz,zb⟩
 subst c4
 rw[if_pos rfl] at H
 have H':=zM H
 clear H
 go_enter Try.func61,Try.ntmps61
 go_wp2_with (first|(go_at_call 105;(with_reducible refine(impl_wordOk.calls _ _ l0 a1 true _ ?side1 ?side2 A3.out).mono ?_);(case side1=>exact zc HR0.out);(case side2=>exact HC0.out);rintro e w' ⟨rfl,⟨nd,rfl⟩⟩;(try first|exact⟨rfl,_,zD _ _ _⟩|exact⟨rfl,_,Eq.trans (zD _ _ _) (congrArg (World.drewN _) (Nat.add_assoc _ _ _))⟩)))
 repeat(go_quiet (first|(go_at_call 105;(with_reducible refine(impl_wordOk.calls _ _ l0 a1 true _ ?side1 ?side2 A3.out).mono ?_);(case side1=>exact zc HR0.out);(case side2=>exact HC0.out);rintro e w' ⟨rfl,⟨nd,rfl⟩⟩;(try first|exact⟨rfl,_,zD _ _ _⟩|exact⟨rfl,_,Eq.trans (zD _ _ _) (congrArg (World.drewN _) (Nat.add_assoc _ _ _))⟩)));try go_wp2_with (first|(go_at_call 105;(with_reducible refine(impl_wordOk.calls _ _ l0 a1 true _ ?side1 ?side2 A3.out).mono ?_);(case side1=>exact zc HR0.out);(case side2=>exact HC0.out);rintro e w' ⟨rfl,⟨nd,rfl⟩⟩;(try first|exact⟨rfl,_,zD _ _ _⟩|exact⟨rfl,_,Eq.trans (zD _ _ _) (congrArg (World.drewN _) (Nat.add_assoc _ _ _))⟩))))
 (try simp only[Act.put,zL1,zL2,zL3])
 go_loopg [7,25] k (fun kq v7 v25 w'=>∃(x7_1:List Int) (x25_1:Int),v25= .int .i64 x25_1∧Aside0 (impl_RsMend.l0 kq l0 a1 x7_1 (wrap64 (2*a1)) x25_1=some (r1,r2,r3))∧Aside0 (kq≤k)∧Aside0 (Kd.R (Kd.int .i64) 3 w' w.heap.size (fun _=>True) v7 x7_1)∧Aside0 (Below w.heap.size w w'))
 case atStart=>exact⟨(([]:List Int)),(0),zs,H',⟨Nat.le_refl _⟩,⟨zz⟩,⟨zb⟩⟩
 case round =>
  clear H'
  try clear p2
  try clear c4
  obtain⟨x7_1,x25_1,rfl,HA,HK1,HO_7,HB⟩:=hrel
  cases gk with
  |zero=>exact absurd HA.out (by simp[impl_RsMend.l0])
  | succ k1 =>
   have H:=HA.out
   clear HA
   simp only[impl_RsMend.l0] at H
   replace H:=zI2 H
   rcases H with⟨c5,H⟩|⟨c5,H⟩
   case inl=>
    have c5b0:=zE c5
    clear c5
    replace H:=zP H
    obtain⟨t192,A6,H⟩:=H
    replace H:=zIM H
    obtain⟨LMc7,H⟩:=H
    obtain⟨y193,hy193⟩:∃y_:List Int,y_=(x7_1++[t192]):=⟨_,rfl⟩
    rw[←hy193] at H
    have Ny193:=zM hy193
    clear hy193
    have H':=zM H
    clear H
    go_wp2_with (first|(go_at_call 106;(with_reducible refine(impl_value.calls k1 _ _ l0 x25_1 t192 _ ?side1 ?side2 A6.out).mono ?_);(case side1=>exact zc (Kd.C_below HR0.out HB.out));(case side2=>exact HC0.out);rintro e w' ⟨rfl,⟨nd,rfl⟩⟩;(try first|exact⟨rfl,_,zD _ _ _⟩|exact⟨rfl,_,Eq.trans (zD _ _ _) (congrArg (World.drewN _) (Nat.add_assoc _ _ _))⟩))|((with_reducible refine gate_builtin (b:= .append) (xs:= #[.tmp 28, .tmp 32]) rfl ?_);(try(refine gate_guard (by rfl) ?_;dsimp only));at_builtin;refine Kd.R_append (Kd.int .i64) (w0:=w) w.heap.size rfl (.tmp 28) (.tmp 32) 46 3 (.int .i64 0) 8 rfl Try.underlying46 info3 rfl (by decide) (by omega) u7 x7_1 t192 [.int .i64 t192] (fun _=>True) (fun _=>False) rfl rfl ?aP (fun _ hk=>hk.elim) ?aF ?aO ?aB ?aS ?aL ?_;(case aP=>exact rfl);(case aB=>exact zb);(case aF=>exact(fun _ _=>trivial));(case aO=>exact(zr HO_7));(case aS=>exact(below_size zb));(case aL=>have:=LMc7.out;omega);intro v194 w8 ho hb hg hat;(first|rw[←Ny193.out] at ho|simp only[Int.reduceToNat,←Ny193.out] at ho);refine zS2 (hb) (ho) ?_;clear HB HO_7;intro HB HO195;clear ho hb hg hat))
    repeat(go_quiet (first|(go_at_call 106;(with_reducible refine(impl_value.calls k1 _ _ l0 x25_1 t192 _ ?side1 ?side2 A6.out).mono ?_);(case side1=>exact zc (Kd.C_below HR0.out HB.out));(case side2=>exact HC0.out);rintro e w' ⟨rfl,⟨nd,rfl⟩⟩;(try first|exact⟨rfl,_,zD _ _ _⟩|exact⟨rfl,_,Eq.trans (zD _ _ _) (congrArg (World.drewN _) (Nat.add_assoc _ _ _))⟩))|((with_reducible refine gate_builtin (b:= .append) (xs:= #[.tmp 28, .tmp 32]) rfl ?_);(try(refine gate_guard (by rfl) ?_;dsimp only));at_builtin;refine Kd.R_append (Kd.int .i64) (w0:=w) w.heap.size rfl (.tmp 28) (.tmp 32) 46 3 (.int .i64 0) 8 rfl Try.underlying46 info3 rfl (by decide) (by omega) u7 x7_1 t192 [.int .i64 t192] (fun _=>True) (fun _=>False) rfl rfl ?aP (fun _ hk=>hk.elim) ?aF ?aO ?aB ?aS ?aL ?_;(case aP=>exact rfl);(case aB=>exact zb);(case aF=>exact(fun _ _=>trivial));(case aO=>exact(zr HO_7));(case aS=>exact(below_size zb));(case aL=>have:=LMc7.out;omega);intro v194 w8 ho hb hg hat;(first|rw[←Ny193.out] at ho|simp only[Int.reduceToNat,←Ny193.out] at ho);refine zS2 (hb) (ho) ?_;clear HB HO_7;intro HB HO195;clear ho hb hg hat));try go_wp2_with (first|(go_at_call 106;(with_reducible refine(impl_value.calls k1 _ _ l0 x25_1 t192 _ ?side1 ?side2 A6.out).mono ?_);(case side1=>exact zc (Kd.C_below HR0.out HB.out));(case side2=>exact HC0.out);rintro e w' ⟨rfl,⟨nd,rfl⟩⟩;(try first|exact⟨rfl,_,zD _ _ _⟩|exact⟨rfl,_,Eq.trans (zD _ _ _) (congrArg (World.drewN _) (Nat.add_assoc _ _ _))⟩))|((with_reducible refine gate_builtin (b:= .append) (xs:= #[.tmp 28, .tmp 32]) rfl ?_);(try(refine gate_guard (by rfl) ?_;dsimp only));at_builtin;refine Kd.R_append (Kd.int .i64) (w0:=w) w.heap.size rfl (.tmp 28) (.tmp 32) 46 3 (.int .i64 0) 8 rfl Try.underlying46 info3 rfl (by decide) (by omega) u7 x7_1 t192 [.int .i64 t192] (fun _=>True) (fun _=>False) rfl rfl ?aP (fun _ hk=>hk.elim) ?aF ?aO ?aB ?aS ?aL ?_;(case aP=>exact rfl);(case aB=>exact zb);(case aF=>exact(fun _ _=>trivial));(case aO=>exact(zr HO_7));(case aS=>exact(below_size zb));(case aL=>have:=LMc7.out;omega);intro v194 w8 ho hb hg hat;(first|rw[←Ny193.out] at ho|simp only[Int.reduceToNat,←Ny193.out] at ho);refine zS2 (hb) (ho) ?_;clear HB HO_7;intro HB HO195;clear ho hb hg hat)))
    go_roundg k1
    case measure=>have:=HK1.out;omega
    case rel=>exact⟨(y193),(wrap64 (x25_1+1)),zs,H',⟨zl1 HK1⟩,⟨zr HO195⟩,⟨zb⟩⟩
   have c5b0:=decide_eq_false c5
   clear c5
   replace H:=zP H
   obtain⟨t196,A9,H⟩:=H
   have H':=zM H
   clear H
   obtain⟨Ao10,co10,eo10⟩:=Kd.R_slice HO_7.out
   subst eo10
   go_wp2_with (first|(go_at_call 107;(with_reducible refine(impl_locator.calls k1 _ _ x7_1 t196 _ ?side1 ?side2 A9.out).mono ?_);(case side1=>exact zc (Kd.R_reads' HO_7.out).2.2);(case side2=>exact(Kd.R_reads' HO_7.out).2.1);rintro e w11 ⟨v197,rfl,ho0,hb⟩;refine zS3 (Kd.R_elder' (zr HO_7) (Kd.R_base ho0) hb) (Kd.R_lower (Kd.R_new' ho0 (Kd.R_lt (zr HO_7))) (below_size zb)) (below_step zb hb) ?_;clear HO_7 HB;intro HO_7 HO198 HB;(try clear hb);(try clear hb2);(try clear hk);(try clear hi);(try clear ho0)))
   repeat(go_quiet (first|(go_at_call 107;(with_reducible refine(impl_locator.calls k1 _ _ x7_1 t196 _ ?side1 ?side2 A9.out).mono ?_);(case side1=>exact zc (Kd.R_reads' HO_7.out).2.2);(case side2=>exact(Kd.R_reads' HO_7.out).2.1);rintro e w11 ⟨v197,rfl,ho0,hb⟩;refine zS3 (Kd.R_elder' (zr HO_7) (Kd.R_base ho0) hb) (Kd.R_lower (Kd.R_new' ho0 (Kd.R_lt (zr HO_7))) (below_size zb)) (below_step zb hb) ?_;clear HO_7 HB;intro HO_7 HO198 HB;(try clear hb);(try clear hb2);(try clear hk);(try clear hi);(try clear ho0)));try go_wp2_with (first|(go_at_call 107;(with_reducible refine(impl_locator.calls k1 _ _ x7_1 t196 _ ?side1 ?side2 A9.out).mono ?_);(case side1=>exact zc (Kd.R_reads' HO_7.out).2.2);(case side2=>exact(Kd.R_reads' HO_7.out).2.1);rintro e w11 ⟨v197,rfl,ho0,hb⟩;refine zS3 (Kd.R_elder' (zr HO_7) (Kd.R_base ho0) hb) (Kd.R_lower (Kd.R_new' ho0 (Kd.R_lt (zr HO_7))) (below_size zb)) (below_step zb hb) ?_;clear HO_7 HB;intro HO_7 HO198 HB;(try clear hb);(try clear hb2);(try clear hk);(try clear hi);(try clear ho0))))
   (try simp only[Act.put,zL1,zL2,zL3])
   go_loopg [10,39] k1 (fun kq v10 v39 w'=>∃(x10_2:List Int) (x39_2:Int),v39= .int .i64 x39_2∧Aside0 (impl_RsMend.l1 kq l0 a1 t196 x10_2 (l0.length:Int) x39_2=some (r1,r2,r3))∧Aside0 (kq≤k1)∧Aside0 (Kd.R (Kd.int .i64) 3 w' w.heap.size (fun k_=>some k_≠(v10:Value).ownBlock) v197 t196)∧Aside0 (Kd.R (Kd.int .i64) 3 w' w.heap.size (fun k_=>some k_≠(v197:Value).ownBlock) v10 x10_2)∧Aside0 (Below w.heap.size w w'))
   case atStart=>exact⟨(([]:List Int)),(0),zs,H',⟨Nat.le_refl _⟩,⟨by(with_reducible repeat(first|apply zRa|apply zRn|apply zRd));first|exact Kd.R_mono HO198.out (fun _ hk=>(by simp[Value.ownBlock]))|(subst_vars;exact Kd.R_mono HO198.out (fun _ hk=>(by simp[Value.ownBlock])))⟩,⟨zz⟩,⟨zb⟩⟩
   case round=>
    clear H'
    try clear p2
    try clear c4
    try clear c5
    try clear c5b0
    try clear c6
    try clear p6
    try clear c7
    try clear p2
    obtain⟨x10_2,x39_2,rfl,HA,HK2,HO_9,HO_10,HB⟩:=hrel
    cases gk with
    |zero=>exact absurd HA.out (by simp[impl_RsMend.l1])
    | succ k2=>
     have H:=HA.out
     clear HA
     simp only[impl_RsMend.l1] at H
     replace H:=zI2 H
     rcases H with⟨c12,H⟩|⟨c12,H⟩
     case inl=>
      have c12b0:=zE c12
      clear c12
      replace H:=zP H
      obtain⟨t199,A13,H⟩:=H
      have H':=zM H
      clear H
      go_wp2_with (first|(go_at_call 85;(with_reducible refine(impl_gfPow.calls k2 (wrap64 (255-(Int.tmod (wrap64 ((wrap64 ((l0.length:Int)-1))-x39_2)) 255))) t199 _ A13.out).mono ?_);rintro e w' ⟨rfl,⟨nd,rfl⟩⟩;(try first|exact⟨rfl,_,zD _ _ _⟩|exact⟨rfl,_,Eq.trans (zD _ _ _) (congrArg (World.drewN _) (Nat.add_assoc _ _ _))⟩);obtain⟨Ao14,co14,eo14⟩:=Kd.R_slice HO_9.out;subst eo14))
      repeat(go_quiet (first|(go_at_call 85;(with_reducible refine(impl_gfPow.calls k2 (wrap64 (255-(Int.tmod (wrap64 ((wrap64 ((l0.length:Int)-1))-x39_2)) 255))) t199 _ A13.out).mono ?_);rintro e w' ⟨rfl,⟨nd,rfl⟩⟩;(try first|exact⟨rfl,_,zD _ _ _⟩|exact⟨rfl,_,Eq.trans (zD _ _ _) (congrArg (World.drewN _) (Nat.add_assoc _ _ _))⟩);obtain⟨Ao14,co14,eo14⟩:=Kd.R_slice HO_9.out;subst eo14));try go_wp2_with (first|(go_at_call 85;(with_reducible refine(impl_gfPow.calls k2 (wrap64 (255-(Int.tmod (wrap64 ((wrap64 ((l0.length:Int)-1))-x39_2)) 255))) t199 _ A13.out).mono ?_);rintro e w' ⟨rfl,⟨nd,rfl⟩⟩;(try first|exact⟨rfl,_,zD _ _ _⟩|exact⟨rfl,_,Eq.trans (zD _ _ _) (congrArg (World.drewN _) (Nat.add_assoc _ _ _))⟩);obtain⟨Ao14,co14,eo14⟩:=Kd.R_slice HO_9.out;subst eo14)))
      (try simp only[Act.put,zL1,zL2,zL3])
      go_loopg [13,14] k2 (fun kq v13 v14 w'=>∃(x13_3:Int) (x14_3:Int),v13= .int .i64 x13_3∧v14= .int .i64 x14_3∧Aside0 (impl_RsMend.l2 kq l0 a1 t196 x10_2 x39_2 t199 x13_3 x14_3 (l0.length:Int) x39_2=some (r1,r2,r3))∧Aside0 (kq≤k2)∧Aside0 (Kd.R (Kd.int .i64) 3 w' w.heap.size (fun k_=>some k_≠(u10:Value).ownBlock) (.slice Ao14 t196.length co14) t196)∧Aside0 (Kd.R (Kd.int .i64) 3 w' w.heap.size (fun k_=>some k_≠((.slice Ao14 t196.length co14):Value).ownBlock) u10 x10_2)∧Aside0 (Below w.heap.size w w'))
      case atStart=>exact⟨(0),(wrap64 ((t196.length:Int)-1)),zs,zs,H',⟨Nat.le_refl _⟩,⟨zr HO_9⟩,⟨zr HO_10⟩,⟨zb⟩⟩
      case round=>
       clear H'
       try clear c1
       try clear p2
       try clear c4
       try clear c5
       try clear c5b0
       try clear c6
       try clear p6
       try clear c7
       try clear c12
       try clear c12b0
       try clear p2
       try clear p6
       obtain⟨x13_3,x14_3,rfl,rfl,HA,HK3,HO_9,HO_10,HB⟩:=hrel
       cases gk with
       |zero=>exact absurd HA.out (by simp[impl_RsMend.l2])
       | succ k3=>
        have H:=HA.out
        clear HA
        simp only[impl_RsMend.l2] at H
        replace H:=zI2 H
        rcases H with⟨c15,H⟩|⟨c15,H⟩
        case inl=>
         have c15b0:decide (0≤x14_3)=true:=zE c15
         clear c15
         replace H:=zP H
         obtain⟨t200,A16,H⟩:=H
         replace H:=zID H
         obtain⟨c17b0,H⟩:=H
         replace H:=zID H
         obtain⟨c18b0,H⟩:=H
         have H':=zM H
         clear H
         go_wp2_with (first|(go_at_call 87;(with_reducible refine(impl_GfMul.calls k3 x13_3 t199 t200 _ A16.out).mono ?_);rintro e w' ⟨rfl,⟨nd,rfl⟩⟩;(try first|exact⟨rfl,_,zD _ _ _⟩|exact⟨rfl,_,Eq.trans (zD _ _ _) (congrArg (World.drewN _) (Nat.add_assoc _ _ _))⟩);have p201:0≤(x14_3:Int):=zT (by assumption);have q201:x14_3<(t196.length:Int):=zT (by assumption);obtain⟨ad201,e201,hx201_0⟩:=Kd.at_int (Kd.R_reads' HO_9.out).2.2 x14_3 p201 q201;cases e201;replace p201:=eq_true p201;replace q201:=eq_true q201))
         repeat(go_quiet (first|(go_at_call 87;(with_reducible refine(impl_GfMul.calls k3 x13_3 t199 t200 _ A16.out).mono ?_);rintro e w' ⟨rfl,⟨nd,rfl⟩⟩;(try first|exact⟨rfl,_,zD _ _ _⟩|exact⟨rfl,_,Eq.trans (zD _ _ _) (congrArg (World.drewN _) (Nat.add_assoc _ _ _))⟩);have p201:0≤(x14_3:Int):=zT (by assumption);have q201:x14_3<(t196.length:Int):=zT (by assumption);obtain⟨ad201,e201,hx201_0⟩:=Kd.at_int (Kd.R_reads' HO_9.out).2.2 x14_3 p201 q201;cases e201;replace p201:=eq_true p201;replace q201:=eq_true q201));try go_wp2_with (first|(go_at_call 87;(with_reducible refine(impl_GfMul.calls k3 x13_3 t199 t200 _ A16.out).mono ?_);rintro e w' ⟨rfl,⟨nd,rfl⟩⟩;(try first|exact⟨rfl,_,zD _ _ _⟩|exact⟨rfl,_,Eq.trans (zD _ _ _) (congrArg (World.drewN _) (Nat.add_assoc _ _ _))⟩);have p201:0≤(x14_3:Int):=zT (by assumption);have q201:x14_3<(t196.length:Int):=zT (by assumption);obtain⟨ad201,e201,hx201_0⟩:=Kd.at_int (Kd.R_reads' HO_9.out).2.2 x14_3 p201 q201;cases e201;replace p201:=eq_true p201;replace q201:=eq_true q201)))
         go_roundg k3
         case measure=>have:=HK1.out;have:=HK2.out;have:=HK3.out;omega
         case rel=>exact⟨(Go.bits .xor .i64 t200 (rd t196 x14_3)),(wrap64 (x14_3-1)),zs,zs,H',⟨by have:=HK1.out;have:=HK2.out;have:=HK3.out;omega⟩,⟨zr HO_9⟩,⟨zr HO_10⟩,⟨zb⟩⟩
        have c15b0:decide (0≤x14_3)=false:=decide_eq_false c15
        clear c15
        replace H:=zI2 H
        rcases H with⟨c19,H⟩|⟨c19,H⟩
        case inr=>
         have c19b0:(x13_3==0)=false:=beq_eq_false_iff_ne.mpr c19
         have c19b1:(x13_3 != 0)=true:=bne_iff_ne.mpr c19
         have H':=zM H
         clear H
         go_wp2
         repeat(go_quiet (fail);try go_wp2)
         go_roundg k3
         case measure=>have:=HK1.out;have:=HK2.out;have:=HK3.out;omega
         case rel=>exact⟨(x10_2),(wrap64 (x39_2+1)),zs,H',⟨by have:=HK1.out;have:=HK2.out;have:=HK3.out;omega⟩,⟨zr HO_9⟩,⟨zr HO_10⟩,⟨zb⟩⟩
        have c19b0:(x13_3==0)=true:=beq_iff_eq.mpr c19
        have c19b1:(x13_3 != 0)=false:=bne_eq_false_iff_eq.mpr c19
        clear c19
        replace H:=zIM H
        obtain⟨LMc20,H⟩:=H
        obtain⟨y202,hy202⟩:∃y_:List Int,y_=(x10_2++[x39_2]):=⟨_,rfl⟩
        rw[←hy202] at H
        have Ny202:=zM hy202
        clear hy202
        have H':=zM H
        clear H
        go_wp2_with (first|((with_reducible refine gate_builtin (b:= .append) (xs:= #[.tmp 67, .tmp 69]) rfl ?_);(try(refine gate_guard (by rfl) ?_;dsimp only));at_builtin;refine Kd.R_append (Kd.int .i64) (w0:=w) w.heap.size rfl (.tmp 67) (.tmp 69) 46 3 (.int .i64 0) 8 rfl Try.underlying46 info3 rfl (by decide) (by omega) u10 x10_2 x39_2 [.int .i64 x39_2] (fun k_=>some k_≠(.slice Ao14 t196.length co14:Value).ownBlock) (fun _=>False) rfl rfl ?aP (fun _ hk=>hk.elim) ?aF ?aO ?aB ?aS ?aL ?_;(case aP=>exact rfl);(case aB=>exact zb);(case aF=>exact(fun k_ hk=>Kd.fresh' (Kd.R_lt (zr HO_9)) k_ hk));(case aO=>exact(zr HO_10));(case aS=>exact(below_size zb));(case aL=>have:=LMc20.out;omega);intro v203 w21 ho hb hg hat;(first|rw[←Ny202.out] at ho|simp only[Int.reduceToNat,←Ny202.out] at ho);refine zS3 (Kd.R_after (ok:=(fun _=>True)) (by(with_reducible repeat(first|apply zRa|apply zRn|apply zRd));first|exact Kd.R_mono HO_9.out (fun _ hk=>⟨trivial,hk⟩)|(subst_vars;exact Kd.R_mono HO_9.out (fun _ hk=>⟨trivial,hk⟩))) hg hat) (hb) (ho) ?_;clear HO_9 HB HO_10;intro HO_9 HB HO204;clear ho hb hg hat))
        repeat(go_quiet (first|((with_reducible refine gate_builtin (b:= .append) (xs:= #[.tmp 67, .tmp 69]) rfl ?_);(try(refine gate_guard (by rfl) ?_;dsimp only));at_builtin;refine Kd.R_append (Kd.int .i64) (w0:=w) w.heap.size rfl (.tmp 67) (.tmp 69) 46 3 (.int .i64 0) 8 rfl Try.underlying46 info3 rfl (by decide) (by omega) u10 x10_2 x39_2 [.int .i64 x39_2] (fun k_=>some k_≠(.slice Ao14 t196.length co14:Value).ownBlock) (fun _=>False) rfl rfl ?aP (fun _ hk=>hk.elim) ?aF ?aO ?aB ?aS ?aL ?_;(case aP=>exact rfl);(case aB=>exact zb);(case aF=>exact(fun k_ hk=>Kd.fresh' (Kd.R_lt (zr HO_9)) k_ hk));(case aO=>exact(zr HO_10));(case aS=>exact(below_size zb));(case aL=>have:=LMc20.out;omega);intro v203 w21 ho hb hg hat;(first|rw[←Ny202.out] at ho|simp only[Int.reduceToNat,←Ny202.out] at ho);refine zS3 (Kd.R_after (ok:=(fun _=>True)) (by(with_reducible repeat(first|apply zRa|apply zRn|apply zRd));first|exact Kd.R_mono HO_9.out (fun _ hk=>⟨trivial,hk⟩)|(subst_vars;exact Kd.R_mono HO_9.out (fun _ hk=>⟨trivial,hk⟩))) hg hat) (hb) (ho) ?_;clear HO_9 HB HO_10;intro HO_9 HB HO204;clear ho hb hg hat));try go_wp2_with (first|((with_reducible refine gate_builtin (b:= .append) (xs:= #[.tmp 67, .tmp 69]) rfl ?_);(try(refine gate_guard (by rfl) ?_;dsimp only));at_builtin;refine Kd.R_append (Kd.int .i64) (w0:=w) w.heap.size rfl (.tmp 67) (.tmp 69) 46 3 (.int .i64 0) 8 rfl Try.underlying46 info3 rfl (by decide) (by omega) u10 x10_2 x39_2 [.int .i64 x39_2] (fun k_=>some k_≠(.slice Ao14 t196.length co14:Value).ownBlock) (fun _=>False) rfl rfl ?aP (fun _ hk=>hk.elim) ?aF ?aO ?aB ?aS ?aL ?_;(case aP=>exact rfl);(case aB=>exact zb);(case aF=>exact(fun k_ hk=>Kd.fresh' (Kd.R_lt (zr HO_9)) k_ hk));(case aO=>exact(zr HO_10));(case aS=>exact(below_size zb));(case aL=>have:=LMc20.out;omega);intro v203 w21 ho hb hg hat;(first|rw[←Ny202.out] at ho|simp only[Int.reduceToNat,←Ny202.out] at ho);refine zS3 (Kd.R_after (ok:=(fun _=>True)) (by(with_reducible repeat(first|apply zRa|apply zRn|apply zRd));first|exact Kd.R_mono HO_9.out (fun _ hk=>⟨trivial,hk⟩)|(subst_vars;exact Kd.R_mono HO_9.out (fun _ hk=>⟨trivial,hk⟩))) hg hat) (hb) (ho) ?_;clear HO_9 HB HO_10;intro HO_9 HB HO204;clear ho hb hg hat)))
        go_roundg k3
        case measure=>have:=HK1.out;have:=HK2.out;have:=HK3.out;omega
        case rel=>exact⟨(y202),(wrap64 (x39_2+1)),zs,H',⟨by have:=HK1.out;have:=HK2.out;have:=HK3.out;omega⟩,⟨by(with_reducible repeat(first|apply zRa|apply zRn|apply zRd));first|exact Kd.R_mono HO_9.out (fun _ hk=>hk.2)|(subst_vars;exact Kd.R_mono HO_9.out (fun _ hk=>hk.2))⟩,⟨zr HO204⟩,⟨zb⟩⟩
     have c12b0:=decide_eq_false c12
     clear c12
     have HC22:=zM H
     clear H
     go_upto_region 23 with(fail)
     repeat(go_quiet (fail);go_upto_region 23 with(fail))
     go_cut [83] (fun v83 wc=>∃(kq:Nat) (x83_21:Bool),v83= .bool x83_21∧Aside0 (impl_RsMend.j3 kq l0 a1 x10_2 x83_21=some (r1,r2,r3))∧Aside0 (kq≤k2)∧Aside0 (Kd.R (Kd.int .i64) 3 wc w.heap.size (fun _=>True) u10 x10_2)∧Aside0 (Below w.heap.size w wc))
     case first=>
      have H:=HC22.out
      clear HC22
      replace H:=zI2 H
      rcases H with⟨c23,H⟩|⟨c23,H⟩
      case inl=>
       have c23b0:decide (a1<(x10_2.length:Int))=true:=zE c23
       clear c23
       (first|rw[c23b0]|(simp only[i64_w,i32_w];rw[c23b0])|skip)
       have H':=zM H
       clear H
       obtain⟨Ao24,co24,eo24⟩:=Kd.R_slice HO_10.out
       subst eo24
       go_wp2
       repeat(go_quiet (fail);try go_wp2)
       go_meet
       case rel=>exact⟨_,(true),zs,H',⟨by have:=HK1.out;have:=HK2.out;first|omega|exact Nat.le_refl _⟩,⟨by(with_reducible repeat(first|apply zRa|apply zRn|apply zRd));first|exact Kd.R_mono HO_10.out (fun _ hk=>trivial)|(subst_vars;exact Kd.R_mono HO_10.out (fun _ hk=>trivial))⟩,⟨zb⟩⟩
      have c23b0:decide (a1<(x10_2.length:Int))=false:=decide_eq_false c23
      clear c23
      (first|rw[c23b0]|(simp only[i64_w,i32_w];rw[c23b0])|skip)
      have H':=zM H
      clear H
      obtain⟨Ao25,co25,eo25⟩:=Kd.R_slice HO_10.out
      subst eo25
      obtain⟨Ao26,co26,eo26⟩:=Kd.R_slice HO_9.out
      subst eo26
      go_wp2
      repeat(go_quiet (fail);try go_wp2)
      go_meet
      case rel=>exact⟨_,(((x10_2.length:Int) != (wrap64 ((t196.length:Int)-1)))),zs,H',⟨by have:=HK1.out;have:=HK2.out;first|omega|exact Nat.le_refl _⟩,⟨by(with_reducible repeat(first|apply zRa|apply zRn|apply zRd));first|exact Kd.R_mono HO_10.out (fun _ hk=>trivial)|(subst_vars;exact Kd.R_mono HO_10.out (fun _ hk=>trivial))⟩,⟨zb⟩⟩
     case rest=>
      clear HC22
      try clear c1
      try clear c2
      try clear p2
      try clear q2
      try clear hx2
      try clear c4
      try clear c5
      try clear c5b0
      try clear c6
      try clear p6
      try clear c7
      try clear c12
      try clear c12b0
      try clear c15
      try clear c15b0
      try clear c17
      try clear c17b0
      try clear c18
      try clear c18b0
      try clear c19
      try clear c19b0
      try clear c19b1
      try clear c20
      try clear p20
      try clear q20
      try clear hx20
      try clear c23
      try clear c23b0
      try clear hx201_0
      try clear p2
      try clear p201
      try clear p6
      try clear q201
      obtain⟨kq,x83_21,rfl,HA,HJ21,HO_10,HB⟩:=hcut
      cases kq with
      |zero=>exact absurd HA.out (by simp[impl_RsMend.j3])
      | succ kj21=>
       have H:=HA.out
       clear HA
       simp only[impl_RsMend.j3] at H
       by_cases c27:x83_21=true
       case pos=>
        subst c27
        rw[if_pos rfl] at H
        simp only[Option.some.injEq,Prod.mk.injEq] at H
        obtain⟨rfl,rfl,rfl⟩:=H
        go_wp2
        repeat(go_quiet (fail);try go_wp2)
        go_ret3
        exact⟨_,zq,zz,zb⟩
       replace c27:=Bool.eq_false_iff.mpr c27
       subst c27
       rw[if_neg zFT] at H
       replace H:=zP H
       obtain⟨⟨t205,t206⟩,A28,H⟩:=H
       dsimp only at H
       have HC29:=zM H
       clear H
       obtain⟨Ao30,co30,eo30⟩:=Kd.R_slice HO_10.out
       subst eo30
       go_upto_region 26 with(first|(go_at_call 108;(with_reducible refine(impl_fill.calls kj21 _ _ l0 _ _ x10_2 a1 t205 t206 _ ?side1 ?side2 ?side3 ?side4 A28.out).mono ?_);(case side1=>exact zc (Kd.C_below HR0.out HB.out));(case side2=>exact HC0.out);(case side3=>exact zc (Kd.R_reads' HO_10.out).2.2);(case side4=>exact(Kd.R_reads' HO_10.out).2.1);rintro e w31 ⟨v207,rfl,ho0,hb⟩;refine zS3 (Kd.R_below (zr HO_10) hb) (Kd.R_lower ho0 (below_size zb)) (below_step zb hb) ?_;clear HO_10 HB;intro HO_10 HO208 HB;(try clear hb);(try clear hb2);(try clear hk);(try clear hi);(try clear ho0)))
       repeat(go_quiet (first|(go_at_call 108;(with_reducible refine(impl_fill.calls kj21 _ _ l0 _ _ x10_2 a1 t205 t206 _ ?side1 ?side2 ?side3 ?side4 A28.out).mono ?_);(case side1=>exact zc (Kd.C_below HR0.out HB.out));(case side2=>exact HC0.out);(case side3=>exact zc (Kd.R_reads' HO_10.out).2.2);(case side4=>exact(Kd.R_reads' HO_10.out).2.1);rintro e w31 ⟨v207,rfl,ho0,hb⟩;refine zS3 (Kd.R_below (zr HO_10) hb) (Kd.R_lower ho0 (below_size zb)) (below_step zb hb) ?_;clear HO_10 HB;intro HO_10 HO208 HB;(try clear hb);(try clear hb2);(try clear hk);(try clear hi);(try clear ho0)));go_upto_region 26 with(first|(go_at_call 108;(with_reducible refine(impl_fill.calls kj21 _ _ l0 _ _ x10_2 a1 t205 t206 _ ?side1 ?side2 ?side3 ?side4 A28.out).mono ?_);(case side1=>exact zc (Kd.C_below HR0.out HB.out));(case side2=>exact HC0.out);(case side3=>exact zc (Kd.R_reads' HO_10.out).2.2);(case side4=>exact(Kd.R_reads' HO_10.out).2.1);rintro e w31 ⟨v207,rfl,ho0,hb⟩;refine zS3 (Kd.R_below (zr HO_10) hb) (Kd.R_lower ho0 (below_size zb)) (below_step zb hb) ?_;clear HO_10 HB;intro HO_10 HO208 HB;(try clear hb);(try clear hb2);(try clear hk);(try clear hi);(try clear ho0))))
       (try simp only[Act.put,zL1,zL2,zL3])
       go_cut [98] (fun v98 wc=>∃(kq:Nat) (x98_28:Bool),v98= .bool x98_28∧Aside0 (impl_RsMend.j4 kq l0 t205 x98_28=some (r1,r2,r3))∧Aside0 (kq≤kj21)∧Aside0 (Kd.R (Kd.int .u8) 5 wc w.heap.size (fun _=>True) v207 t205)∧Aside0 (Below w.heap.size w wc))
       case first=>
        have H:=HC29.out
        clear HC29
        by_cases c32:t206=true
        case neg=>
         replace c32:=Bool.eq_false_iff.mpr c32
         subst c32
         rw[if_neg zFT] at H
         have H':=zM H
         clear H
         go_wp2
         repeat(go_quiet (fail);try go_wp2)
         go_meet
         case rel=>exact⟨_,(true),zs,H',⟨by have:=HK1.out;have:=HK2.out;have:=HJ21.out;first|omega|exact Nat.le_refl _⟩,⟨zr HO208⟩,⟨zb⟩⟩
        subst c32
        rw[if_pos rfl] at H
        replace H:=zP H
        obtain⟨t209,A33,H⟩:=H
        have H':=zM H
        clear H
        obtain⟨Ao34,co34,eo34⟩:=Kd.R_slice HO208.out
        subst eo34
        go_wp2_with (first|(go_at_call 109;(with_reducible refine(impl_RsOk.calls kj21 _ _ t205 a1 t209 _ ?side1 ?side2 A33.out).mono ?_);(case side1=>exact zc (Kd.R_reads' HO208.out).2.2);(case side2=>exact(Kd.R_reads' HO208.out).2.1);rintro e w' ⟨rfl,⟨nd,rfl⟩⟩;(try first|exact⟨rfl,_,zD _ _ _⟩|exact⟨rfl,_,Eq.trans (zD _ _ _) (congrArg (World.drewN _) (Nat.add_assoc _ _ _))⟩)))
        repeat(go_quiet (first|(go_at_call 109;(with_reducible refine(impl_RsOk.calls kj21 _ _ t205 a1 t209 _ ?side1 ?side2 A33.out).mono ?_);(case side1=>exact zc (Kd.R_reads' HO208.out).2.2);(case side2=>exact(Kd.R_reads' HO208.out).2.1);rintro e w' ⟨rfl,⟨nd,rfl⟩⟩;(try first|exact⟨rfl,_,zD _ _ _⟩|exact⟨rfl,_,Eq.trans (zD _ _ _) (congrArg (World.drewN _) (Nat.add_assoc _ _ _))⟩)));try go_wp2_with (first|(go_at_call 109;(with_reducible refine(impl_RsOk.calls kj21 _ _ t205 a1 t209 _ ?side1 ?side2 A33.out).mono ?_);(case side1=>exact zc (Kd.R_reads' HO208.out).2.2);(case side2=>exact(Kd.R_reads' HO208.out).2.1);rintro e w' ⟨rfl,⟨nd,rfl⟩⟩;(try first|exact⟨rfl,_,zD _ _ _⟩|exact⟨rfl,_,Eq.trans (zD _ _ _) (congrArg (World.drewN _) (Nat.add_assoc _ _ _))⟩))))
        go_meet
        case rel=>exact⟨_,(!t209),zs,H',⟨by have:=HK1.out;have:=HK2.out;have:=HJ21.out;first|omega|exact Nat.le_refl _⟩,⟨zr HO208⟩,⟨zb⟩⟩
       case rest=>
        clear HC29
        try clear c1
        try clear c2
        try clear p2
        try clear q2
        try clear hx2
        try clear c3
        try clear c4
        try clear c5
        try clear c5b0
        try clear c6
        try clear p6
        try clear c7
        try clear c12
        try clear c12b0
        try clear c15
        try clear c15b0
        try clear c17
        try clear c17b0
        try clear c18
        try clear c18b0
        try clear c19
        try clear c19b0
        try clear c19b1
        try clear c20
        try clear p20
        try clear q20
        try clear hx20
        try clear c23
        try clear c23b0
        try clear c27
        try clear c32
        try clear hx201_0
        try clear p2
        try clear p20
        try clear p201
        try clear p6
        try clear q2
        try clear q20
        try clear q201
        obtain⟨kq,x98_28,rfl,HA,HJ28,HO_15,HB⟩:=hcut
        cases kq with
        |zero=>exact absurd HA.out (by simp[impl_RsMend.j4])
        | succ kj28=>
         have H:=HA.out
         clear HA
         simp only[impl_RsMend.j4] at H
         by_cases c35:x98_28=true
         case pos=>
          subst c35
          rw[if_pos rfl] at H
          simp only[Option.some.injEq,Prod.mk.injEq] at H
          obtain⟨rfl,rfl,rfl⟩:=H
          go_wp2
          repeat(go_quiet (fail);try go_wp2)
          go_ret3
          exact⟨_,zq,zz,zb⟩
         replace c35:=Bool.eq_false_iff.mpr c35
         subst c35
         rw[if_neg zFT] at H
         have H':=zM H
         clear H
         obtain⟨Ao36,co36,eo36⟩:=Kd.R_slice HO_15.out
         subst eo36
         go_wp2
         repeat(go_quiet (fail);try go_wp2)
         (try simp only[Act.put,zL1,zL2,zL3])
         go_loopg [17,101] kj28 (fun kq v17 v101 w'=>∃(x17_5:Int) (x101_5:Int),v17= .int .i64 x17_5∧v101= .int .i64 x101_5∧Aside0 (impl_RsMend.l3 kq l0 t205 x17_5 (t205.length:Int) x101_5=some (r1,r2,r3))∧Aside0 (kq≤kj28)∧Aside0 (Kd.R (Kd.int .u8) 5 w' w.heap.size (fun _=>True) (.slice Ao36 t205.length co36) t205)∧Aside0 (Below w.heap.size w w'))
         case atStart=>exact⟨(0),(0),zs,zs,H',⟨Nat.le_refl _⟩,⟨zr HO_15⟩,⟨zb⟩⟩
         case round=>
          clear H'
          try clear c1
          try clear c2
          try clear p2
          try clear q2
          try clear hx2
          try clear c3
          try clear c4
          try clear c5
          try clear c5b0
          try clear c6
          try clear p6
          try clear c7
          try clear c12
          try clear c12b0
          try clear c15
          try clear c15b0
          try clear c17
          try clear c17b0
          try clear c18
          try clear c18b0
          try clear c19
          try clear c19b0
          try clear c19b1
          try clear c20
          try clear p20
          try clear q20
          try clear hx20
          try clear c23
          try clear c23b0
          try clear c27
          try clear c32
          try clear c35
          try clear hx201_0
          try clear p2
          try clear p20
          try clear p201
          try clear p6
          try clear q2
          try clear q20
          try clear q201
          obtain⟨x17_5,x101_5,rfl,rfl,HA,HK5,HO_15,HB⟩:=hrel
          cases gk with
          |zero=>exact absurd HA.out (by simp[impl_RsMend.l3])
          | succ k5=>
           have H:=HA.out
           clear HA
           simp only[impl_RsMend.l3] at H
           replace H:=zI2 H
           rcases H with⟨c37,H⟩|⟨c37,H⟩
           case inr=>
            have c37b0:=decide_eq_false c37
            clear c37
            simp only[Option.some.injEq,Prod.mk.injEq] at H
            obtain⟨rfl,rfl,rfl⟩:=H
            go_wp2
            repeat(go_quiet (fail);try go_wp2)
            go_ret3
            exact⟨_,zq,zr HO_15,zb⟩
           have c37b0:=zE c37
           clear c37
           replace H:=zID H
           obtain⟨c38b0,H⟩:=H
           replace H:=zID H
           obtain⟨c39b0,H⟩:=H
           replace H:=zID H
           obtain⟨c40b0,H⟩:=H
           replace H:=zI2 H
           rcases H with⟨c41,H⟩|⟨c41,H⟩
           case inl=>
            have c41b0:((rd t205 x101_5)==(rd l0 x101_5))=true:=beq_iff_eq.mpr c41
            have c41b1:((rd t205 x101_5) != (rd l0 x101_5))=false:=bne_eq_false_iff_eq.mpr c41
            clear c41
            have H':=zM H
            clear H
            have p210:0≤(x101_5:Int):=zT (by assumption)
            have q210:x101_5<(t205.length:Int):=zT (by assumption)
            obtain⟨ad210,e210,hx210_0⟩:=Kd.at_int (Kd.R_reads' HO_15.out).2.2 x101_5 p210 q210
            cases e210
            replace p210:=eq_true p210
            replace q210:=eq_true q210
            have p211:0≤(x101_5:Int):=zT (by assumption)
            have q211:x101_5<(l0.length:Int):=zT (by assumption)
            obtain⟨ad211,e211,hx211_0⟩:=Kd.at_int HR0.out x101_5 p211 q211
            cases e211
            replace hx211_0:=(HB.out.cell (zW w _ hx211_0)).trans hx211_0
            replace p211:=eq_true p211
            replace q211:=eq_true q211
            go_wp2
            repeat(go_quiet (fail);try go_wp2)
            go_roundg k5
            case measure=>have:=HK1.out;have:=HK2.out;have:=HJ21.out;have:=HJ28.out;have:=HK5.out;omega
            case rel=>exact⟨(x17_5),(wrap64 (x101_5+1)),zs,zs,H',⟨by have:=HK1.out;have:=HK2.out;have:=HJ21.out;have:=HJ28.out;have:=HK5.out;omega⟩,⟨zr HO_15⟩,⟨zb⟩⟩
           have c41b0:((rd t205 x101_5)==(rd l0 x101_5))=false:=beq_eq_false_iff_ne.mpr c41
           have c41b1:((rd t205 x101_5) != (rd l0 x101_5))=true:=bne_iff_ne.mpr c41
           have H':=zM H
           clear H
           have p210:0≤(x101_5:Int):=zT (by assumption)
           have q210:x101_5<(t205.length:Int):=zT (by assumption)
           obtain⟨ad210,e210,hx210_0⟩:=Kd.at_int (Kd.R_reads' HO_15.out).2.2 x101_5 p210 q210
           cases e210
           replace p210:=eq_true p210
           replace q210:=eq_true q210
           have p211:0≤(x101_5:Int):=zT (by assumption)
           have q211:x101_5<(l0.length:Int):=zT (by assumption)
           obtain⟨ad211,e211,hx211_0⟩:=Kd.at_int HR0.out x101_5 p211 q211
           cases e211
           replace hx211_0:=(HB.out.cell (zW w _ hx211_0)).trans hx211_0
           replace p211:=eq_true p211
           replace q211:=eq_true q211
           go_wp2
           repeat(go_quiet (fail);try go_wp2)
           go_roundg k5
           case measure=>have:=HK1.out;have:=HK2.out;have:=HJ21.out;have:=HJ28.out;have:=HK5.out;omega
           case rel=>exact⟨(wrap64 (x17_5+1)),(wrap64 (x101_5+1)),zs,zs,H',⟨by have:=HK1.out;have:=HK2.out;have:=HJ21.out;have:=HJ28.out;have:=HK5.out;omega⟩,⟨zr HO_15⟩,⟨zb⟩⟩
end Go.Proofs.Ytapobpkeefeajaa.PFnExactHear
