-- A turned copy of the print's text.
import Derived.Test.YtapobpkeefeajaaPFnModemx0
namespace Go.Proofs.Ytapobpkeefeajaa.PFnModem
open Go.RowKit Go.Proofs.YtapobpkeefeajaaW.PrintWords Go.Proofs.YtapobpkeefeajaaW.PrintLast Go.Proofs.YtapobpkeefeajaaW.PrintMore
attribute [local go_sem] max2_int min2_int max_two min_two max_three min_three max_four min_four
set_option maxHeartbeats 8000000
set_option maxRecDepth 100000
set_option linter.unusedVariables false
set_option linter.unusedSimpArgs false
def impl_weaves.f (l0:List Int) (a1:Int):Option (Bool):=if(l0.length:Int)≤1024 then(if a1≥1 then(some (decide (a1≤64))) else(some false)) else(some false)
theorem impl_weaves.calls (A0:Option Addr) (c0:Nat) (l0:List Int) (a1:Int) (r:Bool) (w:World) (hr0:Kd.C (Kd.int .i64) w A0 l0.length l0) (hc0:l0.length≤c0) (H:impl_weaves.f l0 a1=some r):
 Calls Try.prog 89 #[.slice A0 l0.length c0, .int .i64 a1] w fun e w'=>e= .returned (.bool r)∧Drawn0 w w':=by
 have HR0:=zM hr0
 have HC0:=zM hc0
 clear hr0 hc0
 unfold impl_weaves.f at H
 replace H:=zI2 H
 rcases H with⟨c3,H⟩|⟨c3,H⟩
 case inr=>
  have c3b0:=decide_eq_false c3
  have c3b1:decide (l0.length≤1024)=false:=decide_eq_false (by omega)
  clear c3
  obtain rfl:=zI H
  go_enter Try.func89,Try.ntmps89
  go_wp2
  go_ret
  exact⟨zs,zd⟩
 have c3b0:=zE c3
 have c3b1:decide (l0.length≤1024)=true:=zE (by omega)
 clear c3
 replace H:=zI2 H
 rcases H with⟨c4,H⟩|⟨c4,H⟩
 case inl=>
  have c4b0:decide (1≤a1)=true:=zE c4
  clear c4
  obtain rfl:=zI H
  go_enter Try.func89,Try.ntmps89
  go_wp2
  go_ret
  exact⟨zs,zd⟩
 have c4b0:decide (1≤a1)=false:=decide_eq_false c4
 clear c4
 obtain rfl:=zI H
 go_enter Try.func89,Try.ntmps89
 go_wp2
 go_ret
 exact⟨zs,zd⟩
mutual
def impl_woven.l0:Nat→Int→Int→Int→List Int→Int→Int→Option (List Int)
 |0,_,_,_,_,_,_=>none
 |k+1,x0,x1,x5,x6,x16,x17=>if x17<x16 then(impl_woven.l1 k x0 x1 x5 x6 x17 x16 x17 x1 0) else(some x6)
def impl_woven.l1:Nat→Int→Int→Int→List Int→Int→Int→Int→Int→Int→Option (List Int)
 |0,_,_,_,_,_,_,_,_,_=>none
 |k+1,x0,x1,x5,x6,x7,x16,x17,x20,x21=>if x21<x20 then(if(wrap64 ((wrap64 (x21*x5))+x7))<x0 then(if x6.length<17592186044416 then(impl_woven.l1 k x0 x1 x5 (x6++[wrap64 ((wrap64 (x21*x5))+x7)]) x7 x16 x17 x20 (wrap64 (x21+1))) else(none)) else(impl_woven.l1 k x0 x1 x5 x6 x7 x16 x17 x20 (wrap64 (x21+1)))) else(impl_woven.l0 k x0 x1 x5 x6 x16 (wrap64 (x17+1)))
end
def impl_woven.f (k:Nat) (a0:Int) (a1:Int):Option (List Int):=if a1=0 then(none) else(impl_woven.l0 k a0 a1 (wrap64 (Int.tdiv (wrap64 ((wrap64 (a0+a1))-1)) a1)) ([]:List Int) (wrap64 (Int.tdiv (wrap64 ((wrap64 (a0+a1))-1)) a1)) 0)
theorem impl_woven.calls (k:Nat) (a0:Int) (a1:Int) (r:List Int) (w:World) (H:impl_woven.f k a0 a1=some r):
 Calls Try.prog 90 #[.int .i64 a0, .int .i64 a1] w fun e w'=>∃v0_:Value,e= .returned (v0_)∧Kd.R (Kd.int .i64) 3 w' w.heap.size (fun _=>True) v0_ r∧Below w.heap.size w w':=by
 have HB:=zM (Below.refl w.heap.size w)
 unfold impl_woven.f at H
 replace H:=zI2 H
 rcases H with⟨c3,H⟩|⟨c3,H⟩
 case inl=>
  exact absurd H (by simp)
 have c3b0:(a1==0)=false:=beq_eq_false_iff_ne.mpr c3
 have c3b1:(a1 != 0)=true:=bne_iff_ne.mpr c3
 have H':=zM H
 clear H
 go_enter Try.func90,Try.ntmps90
 go_wp2
 (try simp only[Act.put,zL1,zL2,zL3])
 go_loopg [6,17] k (fun kq v6 v17 w'=>∃(x6_1:List Int) (x17_1:Int),v17= .int .i64 x17_1∧Aside0 (impl_woven.l0 kq a0 a1 (wrap64 (Int.tdiv (wrap64 ((wrap64 (a0+a1))-1)) a1)) x6_1 (wrap64 (Int.tdiv (wrap64 ((wrap64 (a0+a1))-1)) a1)) x17_1=some r)∧Aside0 (kq≤k)∧Aside0 (Kd.R (Kd.int .i64) 3 w' w.heap.size (fun _=>True) v6 x6_1)∧Aside0 (Below w.heap.size w w'))
 case atStart=>exact⟨(([]:List Int)),(0),zs,H',⟨Nat.le_refl _⟩,⟨zz⟩,⟨zb⟩⟩
 case round=>
  clear H'
  clear c3 c3b0 c3b1
  obtain⟨x6_1,x17_1,rfl,HA,HK1,HO_6,HB⟩:=hrel
  cases gk with
  |zero=>exact absurd HA.out (by simp[impl_woven.l0])
  | succ k1=>
   have H:=HA.out
   clear HA
   simp only[impl_woven.l0] at H
   replace H:=zI2 H
   rcases H with⟨c4,H⟩|⟨c4,H⟩
   case inr=>
    have c4b0:=decide_eq_false c4
    clear c4
    obtain rfl:=zI H
    go_wp2
    go_ret
    exact⟨_,zq,zr HO_6,zb⟩
   have c4b0:=zE c4
   clear c4
   have H':=zM H
   clear H
   go_wp2
   (try simp only[Act.put,zL1,zL2,zL3])
   go_loopg [6,21] k1 (fun kq v6 v21 w'=>∃(x6_2:List Int) (x21_2:Int),v21= .int .i64 x21_2∧Aside0 (impl_woven.l1 kq a0 a1 (wrap64 (Int.tdiv (wrap64 ((wrap64 (a0+a1))-1)) a1)) x6_2 x17_1 (wrap64 (Int.tdiv (wrap64 ((wrap64 (a0+a1))-1)) a1)) x17_1 a1 x21_2=some r)∧Aside0 (kq≤k1)∧Aside0 (Kd.R (Kd.int .i64) 3 w' w.heap.size (fun _=>True) v6 x6_2)∧Aside0 (Below w.heap.size w w'))
   case atStart=>exact⟨(x6_1),(0),zs,H',⟨Nat.le_refl _⟩,⟨zr HO_6⟩,⟨zb⟩⟩
   case round=>
    clear H'
    clear c4b0
    obtain⟨x6_2,x21_2,rfl,HA,HK2,HO_6,HB⟩:=hrel
    cases gk with
    |zero=>exact absurd HA.out (by simp[impl_woven.l1])
    | succ k2=>
     have H:=HA.out
     clear HA
     simp only[impl_woven.l1] at H
     replace H:=zI2 H
     rcases H with⟨c5,H⟩|⟨c5,H⟩
     case inr=>
      have c5b0:=decide_eq_false c5
      clear c5
      have H':=zM H
      clear H
      go_wp2
      go_roundg k2
      case measure=>have:=HK1.out;have:=HK2.out;omega
      case rel=>exact⟨(x6_2),(wrap64 (x17_1+1)),zs,H',⟨zl2 HK1 HK2⟩,⟨zr HO_6⟩,⟨zb⟩⟩
     have c5b0:=zE c5
     clear c5
     replace H:=zI2 H
     rcases H with⟨c6,H⟩|⟨c6,H⟩
     case inr=>
      have c6b0:=decide_eq_false c6
      clear c6
      have H':=zM H
      clear H
      go_wp2
      go_roundg k2
      case measure=>have:=HK1.out;have:=HK2.out;omega
      case rel=>exact⟨(x6_2),(wrap64 (x21_2+1)),zs,H',⟨zl2 HK1 HK2⟩,⟨zr HO_6⟩,⟨zb⟩⟩
     have c6b0:=zE c6
     clear c6
     replace H:=zIM H
     obtain⟨LMc7,H⟩:=H
     obtain⟨y108,hy108⟩:∃y_:List Int,y_=(x6_2++[wrap64 ((wrap64 (x21_2*(wrap64 (Int.tdiv (wrap64 ((wrap64 (a0+a1))-1)) a1))))+x17_1)]):=⟨_,rfl⟩
     rw[←hy108] at H
     have Ny108:=zM hy108
     clear hy108
     have H':=zM H
     clear H
     go_wp2_with (first|((with_reducible refine gate_builtin (b:= .append) (xs:= #[.tmp 32, .tmp 34]) rfl ?_);at_builtin;refine Kd.R_append (Kd.int .i64) (w0:=w) w.heap.size rfl (.tmp 32) (.tmp 34) 46 3 (.int .i64 0) 8 rfl Try.underlying46 info3 rfl (by decide) (by omega) u6 x6_2 (wrap64 ((wrap64 (x21_2*(wrap64 (Int.tdiv (wrap64 ((wrap64 (a0+a1))-1)) a1))))+x17_1)) [.int .i64 (wrap64 ((wrap64 (x21_2*(wrap64 (Int.tdiv (wrap64 ((wrap64 (a0+a1))-1)) a1))))+x17_1))] (fun _=>True) (fun _=>False) rfl rfl ?aP (fun _ hk=>hk.elim) ?aF ?aO ?aB ?aS ?aL ?_;(case aP=>exact rfl);(case aB=>exact zb);(case aF=>exact(fun _ _=>trivial));(case aO=>exact(zr HO_6));(case aS=>exact(below_size zb));(case aL=>have:=LMc7.out;omega);intro v109 w8 ho hb hg hat;(first|rw[←Ny108.out] at ho|simp only[Int.reduceToNat,←Ny108.out] at ho);refine zS2 (hb) (ho) ?_;clear HB HO_6;intro HB HO110;clear ho hb hg hat))
     go_roundg k2
     case measure=>have:=HK1.out;have:=HK2.out;omega
     case rel=>exact⟨(y108),(wrap64 (x21_2+1)),zs,H',⟨zl2 HK1 HK2⟩,⟨zr HO110⟩,⟨zb⟩⟩
def impl_Weave.l0:Nat→List Int→List Int→List Int→Int→Int→Option (List Int×Bool)
 |0,_,_,_,_,_=>none
 |k+1,x0,x6,x16,x17,x18=>if x18<x17 then(if 0≤x18 then(if x18<(x16.length:Int) then(if 0≤(rd x16 x18) then(if(rd x16 x18)<(x0.length:Int) then(if x6.length<17592186044416 then(impl_Weave.l0 k x0 (x6++[rd x0 (rd x16 x18)]) x16 x17 (wrap64 (x18+1))) else(none)) else(none)) else(none)) else(none)) else(none)) else(some (x6,true))
def impl_Weave.f (k:Nat) (l0:List Int) (a1:Int):Option (List Int×Bool):=(impl_weaves.f l0 a1).bind fun t111=>(if t111=true then((impl_woven.f k (l0.length:Int) a1).bind fun t112=>(impl_Weave.l0 k l0 ([]:List Int) t112 (t112.length:Int) 0)) else(some (([]:List Int),false)))
theorem impl_Weave.calls (k:Nat) (A0:Option Addr) (c0:Nat) (l0:List Int) (a1:Int) (r1:List Int) (r2:Bool) (w:World) (hr0:Kd.C (Kd.int .i64) w A0 l0.length l0) (hc0:l0.length≤c0) (H:impl_Weave.f k l0 a1=some (r1,r2)):
 Calls Try.prog 39 #[.slice A0 l0.length c0, .int .i64 a1] w fun e w'=>∃v0_:Value,e= .returned (.tuple #[v0_, .bool r2])∧Kd.R (Kd.int .i64) 3 w' w.heap.size (fun _=>True) v0_ r1∧Below w.heap.size w w':=by
 have HR0:=zM hr0
 have HC0:=zM hc0
 clear hr0 hc0
 have HB:=zM (Below.refl w.heap.size w)
 unfold impl_Weave.f at H
 replace H:=zP H
 obtain⟨t111,A3,H⟩:=H
 by_cases c4:t111=true
 case neg=>
  replace c4:=Bool.eq_false_iff.mpr c4
  subst c4
  rw[if_neg zFT] at H
  simp only[Option.some.injEq,Prod.mk.injEq] at H
  obtain⟨rfl,rfl⟩:=H
  go_enter Try.func39,Try.ntmps39
  go_wp2_with (first|((with_reducible refine gate_callee (f:=89) rfl ?_);refine goesL_ (some 11) rfl rfl Try.func89 ze rfl #[.slice A0 l0.length c0, .int .i64 a1] rfl zg ?_;(with_reducible refine(impl_weaves.calls _ _ l0 a1 false _ ?side1 ?side2 A3.out).mono ?_);(case side1=>exact zc HR0.out);(case side2=>exact HC0.out);rintro e w' ⟨rfl,⟨nd,rfl⟩⟩;refine⟨_,rfl,?_⟩))
  go_ret2
  exact⟨_,zq,zz,zb⟩
 subst c4
 rw[if_pos rfl] at H
 replace H:=zP H
 obtain⟨t112,A5,H⟩:=H
 have H':=zM H
 clear H
 go_enter Try.func39,Try.ntmps39
 go_wp2_with (first|((with_reducible refine gate_callee (f:=89) rfl ?_);refine goesL_ (some 11) rfl rfl Try.func89 ze rfl #[.slice A0 l0.length c0, .int .i64 a1] rfl zg ?_;(with_reducible refine(impl_weaves.calls _ _ l0 a1 true _ ?side1 ?side2 A3.out).mono ?_);(case side1=>exact zc HR0.out);(case side2=>exact HC0.out);rintro e w' ⟨rfl,⟨nd,rfl⟩⟩;refine⟨_,rfl,?_⟩)|((with_reducible refine gate_callee (f:=90) rfl ?_);refine goesL_ (some 16) rfl rfl Try.func90 ze rfl #[.int .i64 (l0.length:Int), .int .i64 a1] rfl zg ?_;(with_reducible refine(impl_woven.calls k (l0.length:Int) a1 t112 _ A5.out).mono ?_);rintro e w6 ⟨v113,rfl,ho0,hb⟩;refine⟨_,rfl,?_⟩;refine zS2 (Kd.R_lower ho0 (below_size zb)) (below_step zb hb) ?_;clear HB;intro HO114 HB;(try clear hb);(try clear hb2);(try clear hk);(try clear hi);(try clear ho0);obtain⟨Ao7,co7,eo7⟩:=Kd.R_slice HO114.out;subst eo7))
 (try simp only[Act.put,zL1,zL2,zL3])
 go_loopg [6,18] k (fun kq v6 v18 w'=>∃(x6_1:List Int) (x18_1:Int),v18= .int .i64 x18_1∧Aside0 (impl_Weave.l0 kq l0 x6_1 t112 (t112.length:Int) x18_1=some (r1,r2))∧Aside0 (kq≤k)∧Aside0 (Kd.R (Kd.int .i64) 3 w' w.heap.size (fun k_=>some k_≠((.slice Ao7 t112.length co7):Value).ownBlock) v6 x6_1)∧Aside0 (Kd.R (Kd.int .i64) 3 w' w.heap.size (fun k_=>some k_≠(v6:Value).ownBlock) (.slice Ao7 t112.length co7) t112)∧Aside0 (Below w.heap.size w w'))
 case atStart=>exact⟨(([]:List Int)),(0),zs,H',⟨Nat.le_refl _⟩,⟨zz⟩,⟨by(with_reducible repeat(first|apply zRa|apply zRn|apply zRd));first|exact Kd.R_mono HO114.out (fun _ hk=>(by simp[Value.ownBlock]))|(subst_vars;exact Kd.R_mono HO114.out (fun _ hk=>(by simp[Value.ownBlock])))⟩,⟨zb⟩⟩
 case round=>
  clear H'
  obtain⟨x6_1,x18_1,rfl,HA,HK1,HO_6,HO_16,HB⟩:=hrel
  cases gk with
  |zero=>exact absurd HA.out (by simp[impl_Weave.l0])
  | succ k1=>
   have H:=HA.out
   clear HA
   simp only[impl_Weave.l0] at H
   replace H:=zI2 H
   rcases H with⟨c8,H⟩|⟨c8,H⟩
   case inr=>
    have c8b0:=decide_eq_false c8
    clear c8
    simp only[Option.some.injEq,Prod.mk.injEq] at H
    obtain⟨rfl,rfl⟩:=H
    go_wp2
    go_ret2
    exact⟨_,zq,by(with_reducible repeat(first|apply zRa|apply zRn|apply zRd));first|exact Kd.R_mono HO_6.out (fun _ hk=>trivial)|(subst_vars;exact Kd.R_mono HO_6.out (fun _ hk=>trivial)),zb⟩
   have c8b0:=zE c8
   clear c8
   replace H:=zID H
   obtain⟨c9b0,H⟩:=H
   replace H:=zID H
   obtain⟨c10b0,H⟩:=H
   replace H:=zID H
   obtain⟨c11b0,H⟩:=H
   replace H:=zID H
   obtain⟨c12b0,H⟩:=H
   replace H:=zIM H
   obtain⟨LMc13,H⟩:=H
   obtain⟨y117,hy117⟩:∃y_:List Int,y_=(x6_1++[rd l0 (rd t112 x18_1)]):=⟨_,rfl⟩
   rw[←hy117] at H
   have Ny117:=zM hy117
   clear hy117
   have H':=zM H
   clear H
   have p115:0≤(x18_1:Int):=zT (by assumption)
   have q115:x18_1<(t112.length:Int):=zT (by assumption)
   obtain⟨ad115,e115,hx115_0⟩:=Kd.at_int (Kd.R_reads' HO_16.out).2.2 x18_1 p115 q115
   cases e115
   replace p115:=eq_true p115
   replace q115:=eq_true q115
   have p116:0≤((rd t112 x18_1):Int):=zT (by assumption)
   have q116:(rd t112 x18_1)<(l0.length:Int):=zT (by assumption)
   obtain⟨ad116,e116,hx116_0⟩:=Kd.at_int HR0.out (rd t112 x18_1) p116 q116
   cases e116
   replace hx116_0:=(HB.out.cell (zW w _ hx116_0)).trans hx116_0
   replace p116:=eq_true p116
   replace q116:=eq_true q116
   go_wp2_with (first|((with_reducible refine gate_builtin (b:= .append) (xs:= #[.tmp 22, .tmp 27]) rfl ?_);at_builtin;refine Kd.R_append (Kd.int .i64) (w0:=w) w.heap.size rfl (.tmp 22) (.tmp 27) 46 3 (.int .i64 0) 8 rfl Try.underlying46 info3 rfl (by decide) (by omega) u6 x6_1 (rd l0 (rd t112 x18_1)) [.int .i64 (rd l0 (rd t112 x18_1))] (fun k_=>some k_≠(.slice (some ad115) t112.length co7:Value).ownBlock) (fun _=>False) rfl rfl ?aP (fun _ hk=>hk.elim) ?aF ?aO ?aB ?aS ?aL ?_;(case aP=>exact rfl);(case aB=>exact zb);(case aF=>exact(fun k_ hk=>Kd.fresh' (Kd.R_lt (zr HO_16)) k_ hk));(case aO=>exact(zr HO_6));(case aS=>exact(below_size zb));(case aL=>have:=LMc13.out;omega);intro v118 w14 ho hb hg hat;(first|rw[←Ny117.out] at ho|simp only[Int.reduceToNat,←Ny117.out] at ho);refine zS3 (Kd.R_after (ok:=(fun _=>True)) (by(with_reducible repeat(first|apply zRa|apply zRn|apply zRd));first|exact Kd.R_mono HO_16.out (fun _ hk=>⟨trivial,hk⟩)|(subst_vars;exact Kd.R_mono HO_16.out (fun _ hk=>⟨trivial,hk⟩))) hg hat) (hb) (ho) ?_;clear HO_16 HB HO_6;intro HO_16 HB HO119;clear ho hb hg hat))
   go_roundg k1
   case measure=>have:=HK1.out;omega
   case rel=>exact⟨(y117),(wrap64 (x18_1+1)),zs,H',⟨zl1 HK1⟩,⟨zr HO119⟩,⟨by(with_reducible repeat(first|apply zRa|apply zRn|apply zRd));first|exact Kd.R_mono HO_16.out (fun _ hk=>hk.2)|(subst_vars;exact Kd.R_mono HO_16.out (fun _ hk=>hk.2))⟩,⟨zb⟩⟩
mutual
def impl_unpack8.l0:Nat→List Int→List Int→Int→Int→Option (List Int)
 |0,_,_,_,_=>none
 |k+1,x3,x7,x8,x9=>if x9<x8 then(if 0≤x9 then(if x9<(x7.length:Int) then(impl_unpack8.l1 k x3 (rd x7 x9) 7 x7 x8 x9) else(none)) else(none)) else(some x3)
def impl_unpack8.l1:Nat→List Int→Int→Int→List Int→Int→Int→Option (List Int)
 |0,_,_,_,_,_,_=>none
 |k+1,x3,x5,x6,x7,x8,x9=>if x6≥0 then(if 0≤x6 then(if x3.length<17592186044416 then(impl_unpack8.l1 k (x3++[wrap64 (Go.bits .and .u8 (shr .u8 x5 x6) 1)]) x5 (wrap64 (x6-1)) x7 x8 x9) else(none)) else(none)) else(impl_unpack8.l0 k x3 x7 x8 (wrap64 (x9+1)))
end
def impl_unpack8.f (k:Nat) (l0:List Int):Option (List Int):=impl_unpack8.l0 k ([]:List Int) l0 (l0.length:Int) 0
theorem impl_unpack8.calls (k:Nat) (A0:Option Addr) (c0:Nat) (l0:List Int) (r:List Int) (w:World) (hr0:Kd.C (Kd.int .u8) w A0 l0.length l0) (hc0:l0.length≤c0) (H:impl_unpack8.f k l0=some r):
 Calls Try.prog 40 #[.slice A0 l0.length c0] w fun e w'=>∃v0_:Value,e= .returned (v0_)∧Kd.R (Kd.int .i64) 3 w' w.heap.size (fun _=>True) v0_ r∧Below w.heap.size w w':=by
 have HR0:=zM hr0
 have HC0:=zM hc0
 clear hr0 hc0
 have HB:=zM (Below.refl w.heap.size w)
 unfold impl_unpack8.f at H
 have H':=zM H
 clear H
 go_enter Try.func40,Try.ntmps40
 go_wp2
 (try simp only[Act.put,zL1,zL2,zL3])
 go_loopg [3,9] k (fun kq v3 v9 w'=>∃(x3_1:List Int) (x9_1:Int),v9= .int .i64 x9_1∧Aside0 (impl_unpack8.l0 kq x3_1 l0 (l0.length:Int) x9_1=some r)∧Aside0 (kq≤k)∧Aside0 (Kd.R (Kd.int .i64) 3 w' w.heap.size (fun _=>True) v3 x3_1)∧Aside0 (Below w.heap.size w w'))
 case atStart=>exact⟨(([]:List Int)),(0),zs,H',⟨Nat.le_refl _⟩,⟨zz⟩,⟨zb⟩⟩
 case round=>
  clear H'
  obtain⟨x3_1,x9_1,rfl,HA,HK1,HO_3,HB⟩:=hrel
  cases gk with
  |zero=>exact absurd HA.out (by simp[impl_unpack8.l0])
  | succ k1=>
   have H:=HA.out
   clear HA
   simp only[impl_unpack8.l0] at H
   replace H:=zI2 H
   rcases H with⟨c2,H⟩|⟨c2,H⟩
   case inr=>
    have c2b0:=decide_eq_false c2
    clear c2
    obtain rfl:=zI H
    go_wp2
    go_ret
    exact⟨_,zq,zr HO_3,zb⟩
   have c2b0:=zE c2
   clear c2
   replace H:=zID H
   obtain⟨c3b0,H⟩:=H
   replace H:=zID H
   obtain⟨c4b0,H⟩:=H
   have H':=zM H
   clear H
   have p120:0≤(x9_1:Int):=zT (by assumption)
   have q120:x9_1<(l0.length:Int):=zT (by assumption)
   obtain⟨ad120,e120,hx120_0⟩:=Kd.at_int HR0.out x9_1 p120 q120
   cases e120
   replace hx120_0:=(HB.out.cell (zW w _ hx120_0)).trans hx120_0
   replace p120:=eq_true p120
   replace q120:=eq_true q120
   go_wp2
   (try simp only[Act.put,zL1,zL2,zL3])
   go_loopg [3,6] k1 (fun kq v3 v6 w'=>∃(x3_2:List Int) (x6_2:Int),v6= .int .i64 x6_2∧Aside0 (impl_unpack8.l1 kq x3_2 (rd l0 x9_1) x6_2 l0 (l0.length:Int) x9_1=some r)∧Aside0 (kq≤k1)∧Aside0 (Kd.R (Kd.int .i64) 3 w' w.heap.size (fun _=>True) v3 x3_2)∧Aside0 (Below w.heap.size w w'))
   case atStart=>exact⟨(x3_1),(7),zs,H',⟨Nat.le_refl _⟩,⟨zr HO_3⟩,⟨zb⟩⟩
   case round=>
    clear H'
    clear c2b0 c3b0 c4b0 hx120_0 p120 q120
    obtain⟨x3_2,x6_2,rfl,HA,HK2,HO_3,HB⟩:=hrel
    cases gk with
    |zero=>exact absurd HA.out (by simp[impl_unpack8.l1])
    | succ k2=>
     have H:=HA.out
     clear HA
     simp only[impl_unpack8.l1] at H
     replace H:=zI2 H
     rcases H with⟨c5,H⟩|⟨c5,H⟩
     case inr=>
      have c5b0:decide (0≤x6_2)=false:=decide_eq_false c5
      clear c5
      have H':=zM H
      clear H
      go_wp2
      go_roundg k2
      case measure=>have:=HK1.out;have:=HK2.out;omega
      case rel=>exact⟨(x3_2),(wrap64 (x9_1+1)),zs,H',⟨zl2 HK1 HK2⟩,⟨zr HO_3⟩,⟨zb⟩⟩
     have c5b0:decide (0≤x6_2)=true:=zE c5
     clear c5
     replace H:=zIN H
     obtain⟨c6,H⟩:=H
     have c6b0:=eq_true c6
     have c6b1:decide (0≤x6_2)=true:=zE c6
     clear c6
     obtain⟨ji7,hji7⟩:∃j_:Int,(shr .u8 (rd l0 x9_1) x6_2)=j_:=⟨_,rfl⟩
     first|rw[hji7] at H|simp only[hji7] at H
     have hji7_:((rd l0 x9_1) / 2^min x6_2.toNat 8)=ji7:=hji7
     have hji7z:x6_2≤8→((rd l0 x9_1) / 2^x6_2.toNat)=ji7:=shr_small hji7
     replace H:=zIM H
     obtain⟨LMc8,H⟩:=H
     obtain⟨y121,hy121⟩:∃y_:List Int,y_=(x3_2++[wrap64 (Go.bits .and .u8 (ji7) 1)]):=⟨_,rfl⟩
     rw[←hy121] at H
     have Ny121:=zM hy121
     clear hy121
     have H':=zM H
     clear H
     go_wp2_with (first|((with_reducible refine gate_builtin (b:= .append) (xs:= #[.tmp 17, .tmp 23]) rfl ?_);at_builtin;refine Kd.R_append (Kd.int .i64) (w0:=w) w.heap.size rfl (.tmp 17) (.tmp 23) 46 3 (.int .i64 0) 8 rfl Try.underlying46 info3 rfl (by decide) (by omega) u3 x3_2 (wrap64 (Go.bits .and .u8 (ji7) 1)) [.int .i64 (wrap64 (Go.bits .and .u8 (ji7) 1))] (fun _=>True) (fun _=>False) rfl rfl ?aP (fun _ hk=>hk.elim) ?aF ?aO ?aB ?aS ?aL ?_;(case aP=>exact rfl);(case aB=>exact zb);(case aF=>exact(fun _ _=>trivial));(case aO=>exact(zr HO_3));(case aS=>exact(below_size zb));(case aL=>have:=LMc8.out;omega);intro v122 w9 ho hb hg hat;(first|rw[←Ny121.out] at ho|simp only[Int.reduceToNat,←Ny121.out] at ho);refine zS2 (hb) (ho) ?_;clear HB HO_3;intro HB HO123;clear ho hb hg hat))
     go_roundg k2
     case measure=>have:=HK1.out;have:=HK2.out;omega
     case rel=>exact⟨(y121),(wrap64 (x6_2-1)),zs,H',⟨zl2 HK1 HK2⟩,⟨zr HO123⟩,⟨zb⟩⟩
def impl_isBit.f (a0:Int):Option (Bool):=if a0=0 then(some true) else(some (a0==1))
theorem impl_isBit.calls (a0:Int) (r:Bool) (w:World) (H:impl_isBit.f a0=some r):
 Calls Try.prog 120 #[.int .i64 a0] w fun e w'=>e= .returned (.bool r)∧Drawn0 w w':=by
 unfold impl_isBit.f at H
 replace H:=zI2 H
 rcases H with⟨c2,H⟩|⟨c2,H⟩
 case inr=>
  have c2b0:(a0==0)=false:=beq_eq_false_iff_ne.mpr c2
  have c2b1:(a0 != 0)=true:=bne_iff_ne.mpr c2
  obtain rfl:=zI H
  go_enter Try.func120,Try.ntmps120
  go_wp2
  go_ret
  exact⟨zs,zd⟩
 have c2b0:(a0==0)=true:=beq_iff_eq.mpr c2
 have c2b1:(a0 != 0)=false:=bne_eq_false_iff_eq.mpr c2
 clear c2
 obtain rfl:=zI H
 go_enter Try.func120,Try.ntmps120
 go_wp2
 go_ret
 exact⟨zs,zd⟩
def impl_BitsOk.l0:Nat→List Int→List Int→Int→Int→Option (Bool)
 |0,_,_,_,_=>none
 |k+1,x0,x5,x6,x7=>if x7<x6 then(if 0≤x7 then(if x7<(x5.length:Int) then((impl_isBit.f (rd x5 x7)).bind fun t125=>(if t125=true then(impl_BitsOk.l0 k x0 x5 x6 (wrap64 (x7+1))) else(some false))) else(none)) else(none)) else(some (decide ((x0.length:Int)≤1024)))
def impl_BitsOk.f (k:Nat) (l0:List Int):Option (Bool):=impl_BitsOk.l0 k l0 l0 (l0.length:Int) 0
theorem impl_BitsOk.calls (k:Nat) (A0:Option Addr) (c0:Nat) (l0:List Int) (r:Bool) (w:World) (hr0:Kd.C (Kd.int .i64) w A0 l0.length l0) (hc0:l0.length≤c0) (H:impl_BitsOk.f k l0=some r):
 Calls Try.prog 91 #[.slice A0 l0.length c0] w fun e w'=>e= .returned (.bool r)∧Drawn0 w w':=by
 have HR0:=zM hr0
 have HC0:=zM hc0
 clear hr0 hc0
 unfold impl_BitsOk.f at H
 have H':=zM H
 clear H
 go_enter Try.func91,Try.ntmps91
 go_wp2
 (try simp only[Act.put,zL1,zL2,zL3])
 go_loopg [7] k (fun kq v7 w'=>∃(x7_1:Int),v7= .int .i64 x7_1∧Aside0 (impl_BitsOk.l0 kq l0 l0 (l0.length:Int) x7_1=some r)∧Aside0 (kq≤k)∧Drawn0 w w')
 case atStart=>exact⟨(0),zs,H',⟨Nat.le_refl _⟩,zd⟩
 case round=>
  clear H'
  obtain⟨x7_1,rfl,HA,HK1,⟨m1,rfl⟩⟩:=hrel
  cases gk with
  |zero=>exact absurd HA.out (by simp[impl_BitsOk.l0])
  | succ k1=>
   have H:=HA.out
   clear HA
   simp only[impl_BitsOk.l0] at H
   replace H:=zI2 H
   rcases H with⟨c2,H⟩|⟨c2,H⟩
   case inr=>
    have c2b0:=decide_eq_false c2
    clear c2
    obtain rfl:=zI H
    go_wp2
    go_ret
    exact⟨zs,zd⟩
   have c2b0:=zE c2
   clear c2
   replace H:=zID H
   obtain⟨c3b0,H⟩:=H
   replace H:=zID H
   obtain⟨c4b0,H⟩:=H
   replace H:=zP H
   obtain⟨t125,A5,H⟩:=H
   by_cases c6:t125=true
   case neg=>
    replace c6:=Bool.eq_false_iff.mpr c6
    subst c6
    rw[if_neg zFT] at H
    obtain rfl:=zI H
    have p124:0≤(x7_1:Int):=zT (by assumption)
    have q124:x7_1<(l0.length:Int):=zT (by assumption)
    obtain⟨ad124,e124,hx124_0⟩:=Kd.at_int HR0.out x7_1 p124 q124
    cases e124
    replace p124:=eq_true p124
    replace q124:=eq_true q124
    go_wp2_with (first|((with_reducible refine gate_callee (f:=120) rfl ?_);refine goesL_ (some 12) rfl rfl Try.func120 ze rfl #[.int .i64 (rd l0 x7_1)] rfl zg ?_;(with_reducible refine(impl_isBit.calls (rd l0 x7_1) false _ A5.out).mono ?_);rintro e w' ⟨rfl,⟨nd,rfl⟩⟩;refine⟨_,rfl,?_⟩))
    go_ret
    exact⟨zs,zd⟩
   subst c6
   rw[if_pos rfl] at H
   have H':=zM H
   clear H
   have p124:0≤(x7_1:Int):=zT (by assumption)
   have q124:x7_1<(l0.length:Int):=zT (by assumption)
   obtain⟨ad124,e124,hx124_0⟩:=Kd.at_int HR0.out x7_1 p124 q124
   cases e124
   replace p124:=eq_true p124
   replace q124:=eq_true q124
   go_wp2_with (first|((with_reducible refine gate_callee (f:=120) rfl ?_);refine goesL_ (some 12) rfl rfl Try.func120 ze rfl #[.int .i64 (rd l0 x7_1)] rfl zg ?_;(with_reducible refine(impl_isBit.calls (rd l0 x7_1) true _ A5.out).mono ?_);rintro e w' ⟨rfl,⟨nd,rfl⟩⟩;refine⟨_,rfl,?_⟩))
   go_roundg k1
   case measure=>have:=HK1.out;omega
   case rel=>exact⟨(wrap64 (x7_1+1)),zs,H',⟨zl1 HK1⟩,zd⟩
end Go.Proofs.Ytapobpkeefeajaa.PFnModem
