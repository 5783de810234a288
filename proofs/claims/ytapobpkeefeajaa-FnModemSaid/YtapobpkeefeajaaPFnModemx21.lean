-- A turned copy of the print's text.
import Derived.Test.YtapobpkeefeajaaPFnModemx0
import Derived.Test.YtapobpkeefeajaaPFnModemx17
import Derived.Test.YtapobpkeefeajaaPFnModemx19
import Derived.Test.YtapobpkeefeajaaPFnModemx20
namespace Go.Proofs.Ytapobpkeefeajaa.PFnModem
open Go.RowKit Go.Proofs.YtapobpkeefeajaaW.PrintWords Go.Proofs.YtapobpkeefeajaaW.PrintLast Go.Proofs.YtapobpkeefeajaaW.PrintMore
attribute [local go_sem] max2_int min2_int max_two min_two max_three min_three max_four min_four
set_option maxHeartbeats 8000000
set_option maxRecDepth 100000
set_option linter.unusedVariables false
set_option linter.unusedSimpArgs false
mutual
def spec_Map.j0:Nat→Int→List Int→List (S52)→Bool→Option ((List (S52))×Bool)
 |0,_,_,_,_=>none
 |k+1,x0,x1,x6,x18=>if x18=true then(some (x6,false)) else((some (([]:List Int):List Int)).bind fun y375=>(if y375.length+x1.length<17592186044416 then(spec_Map.l0 k x0 x6 (y375++x1)) else(none)))
def spec_Map.l0:Nat→Int→List (S52)→List Int→Option ((List (S52))×Bool)
 |0,_,_,_=>none
 |k+1,x0,x6,x7=>if x0=0 then(none) else(if((x7.length:Int)%x0)=0 then(spec_Map.l1 k x0 x6 x7 (wrap64 (Int.tdiv x0 2)) 0) else(if x7.length<17592186044416 then(spec_Map.l0 k x0 x6 (x7++[0])) else(none)))
def spec_Map.l1:Nat→Int→List (S52)→List Int→Int→Int→Option ((List (S52))×Bool)
 |0,_,_,_,_,_=>none
 |k+1,x0,x6,x7,x8,x9=>if x9<(x7.length:Int) then(if 0≤x9 then(if x9≤(wrap64 (x9+x8)) then(if(wrap64 (x9+x8))≤(x7.length:Int) then((spec_l13Level.f k ((x7.take ((wrap64 (x9+x8)):Int).toNat).drop (x9:Int).toNat)).bind fun t388=>(if 0≤(wrap64 (x9+x8)) then(if(wrap64 (x9+x8))≤(wrap64 (x9+x0)) then(if(wrap64 (x9+x0))≤(x7.length:Int) then((spec_l13Level.f k ((x7.take ((wrap64 (x9+x0)):Int).toNat).drop ((wrap64 (x9+x8)):Int).toNat)).bind fun t393=>(if x6.length<8796093022208 then(spec_Map.l1 k x0 (x6++[(⟨t388,t393⟩:S52)]) x7 x8 (wrap64 (x9+x0))) else(none))) else(none)) else(none)) else(none))) else(none)) else(none)) else(none)) else(some (x6,true))
end
def spec_Map.f (k:Nat) (a0:Int) (l1:List Int):Option ((List (S52))×Bool):=(some (([]:List (S52)):List (S52))).bind fun y370=>((spec_BitsOk.f k l1).bind fun t373=>(if t373=true then((spec_l13Width.f a0).bind fun t374=>(spec_Map.j0 k a0 l1 y370 (!t374))) else(spec_Map.j0 k a0 l1 y370 true)))
def spec_Map.T11:Bool×List (List Nat×List Nat):=(true,[([],[]),([],[]),([],[]),([],[]),([],[]),([3,4],[3,4]),([1,2,5],[1,2,5]),([6],[6]),([],[]),([],[]),([],[]),([9,10],[9,10]),([],[]),([],[]),([12,13],[12,13]),([8,11,14],[8,11,14]),([15,7],[15]),([7,16],[7,16]),([17],[17]),([0,18,16],[0,18]),([19,19,0,1,2,3,4,5,6,7,8,9,10,11,12,13,14,15,16,17,18,19],[0,19])])
def spec_Map.B11:List Nat:=[0,0,0,0,0,24,62,126,0,0,0,1536,0,0,12288,32512,65534,131070,262142,524287,1048575]
theorem spec_Map.tab11:rtab .any (opsOf Try.f35 11)=spec_Map.T11:=by kernel_rfl
theorem spec_Map.bits11:waitsOk spec_Map.T11.2 spec_Map.B11=true:=by kernel_rfl
theorem spec_Map.calls (k:Nat) (a0:Int) (A1:Option Addr) (c1:Nat) (l1:List Int) (r1:List (S52)) (r2:Bool) (w:World) (hr1:Kd.C (Kd.int .i64) w A1 l1.length l1) (hc1:l1.length≤c1) (H:spec_Map.f k a0 l1=some (r1,r2)):
 Calls Try.prog 35 #[.int .i64 a0, .slice A1 l1.length c1] w fun e w'=>∃v0_:Value,e= .returned (.tuple #[v0_, .bool r2])∧Kd.R k52 52 w' w.heap.size (fun _=>True) v0_ r1∧Below w.heap.size w w':=by
 have hu52:=Try.underlying52
 have HR1:=zM hr1
 have HC1:=zM hc1
 clear hr1 hc1
 have HB:=zM (Below.refl w.heap.size w)
 unfold spec_Map.f at H
 replace H:=zY H
 obtain⟨y370,Ny370,H⟩:=H
 have HC3:=zM H
 clear H
 go_enter Try.func35,Try.ntmps35
 go_upto_region 2 with(first|((with_reducible refine gate_dst (N:=10) rfl ?_);refine Kd.R_lit k52 _ 52 ?hg (N:=10) ?hd (xs:=([]:List (S52))) (inner:=[]) (ok:=fun _=>True) (okp:=fun _=>True) ?hr ?hp (fun _ hk=>hk) trivial (Below.refl _ _) (Nat.le_refl _) (by simp) ?_;(case hd|hg=>rfl);(case hr=>exact zh);(case hp=>exact(Reps.none _ _));intro v371 w4 ho5 hb hg_ hnew_;clear hg_ hnew_;(first|rw[←Ny370.out] at ho5|simp only[Int.reduceToNat,←Ny370.out] at ho5);refine zS2 (Kd.R_lower ho5 (below_size zb)) (below_step zb hb) ?_;clear HB;intro HO372 HB;clear hb ho5))
 (try simp only[Act.put,zL1,zL2,zL3])
 go_cut [18] (fun v18 wc=>∃(kq:Nat) (x18_2:Bool),v18= .bool x18_2∧Aside0 (spec_Map.j0 kq a0 l1 y370 x18_2=some (r1,r2))∧Aside0 (kq≤k)∧Aside0 (Kd.R k52 52 wc w.heap.size (fun _=>True) v371 y370)∧Aside0 (Below w.heap.size w wc))
 case first=>
  have H:=HC3.out
  clear HC3
  replace H:=zP H
  obtain⟨t373,A6,H⟩:=H
  by_cases c7:t373=true
  case neg=>
   replace c7:=Bool.eq_false_iff.mpr c7
   subst c7
   rw[if_neg zFT] at H
   have H':=zM H
   clear H
   go_wp2_with (first|((with_reducible refine gate_callee (f:=80) rfl ?_);refine goesL_ (some 12) rfl rfl Try.func80 ze rfl #[.slice A1 l1.length c1] rfl zg ?_;(with_reducible refine(spec_BitsOk.calls k _ _ l1 false _ ?side1 ?side2 A6.out).mono ?_);(case side1=>exact zc (Kd.C_below HR1.out HB.out));(case side2=>exact HC1.out);rintro e w' ⟨rfl,⟨nd,rfl⟩⟩;refine⟨_,rfl,?_⟩))
   go_meet
   case rel=>exact⟨_,(true),zs,H',⟨zo⟩,⟨zr HO372⟩,⟨zb⟩⟩
  subst c7
  rw[if_pos rfl] at H
  replace H:=zP H
  obtain⟨t374,A8,H⟩:=H
  have H':=zM H
  clear H
  go_wp2_with (first|((with_reducible refine gate_callee (f:=80) rfl ?_);refine goesL_ (some 12) rfl rfl Try.func80 ze rfl #[.slice A1 l1.length c1] rfl zg ?_;(with_reducible refine(spec_BitsOk.calls k _ _ l1 true _ ?side1 ?side2 A6.out).mono ?_);(case side1=>exact zc (Kd.C_below HR1.out HB.out));(case side2=>exact HC1.out);rintro e w' ⟨rfl,⟨nd,rfl⟩⟩;refine⟨_,rfl,?_⟩)|(go_at_call 75;(with_reducible refine(spec_l13Width.calls a0 t374 _ A8.out).mono ?_);rintro e w' ⟨rfl,⟨nd,rfl⟩⟩))
  go_meet
  case rel=>exact⟨_,(!t374),zs,H',⟨zo⟩,⟨zr HO372⟩,⟨zb⟩⟩
 case rest=>
  clear HC3
  obtain⟨kq,x18_2,rfl,HA,HJ2,HO_6,HB⟩:=hcut
  cases kq with
  |zero=>exact absurd HA.out (by simp[spec_Map.j0])
  | succ kj2=>
   have H:=HA.out
   clear HA
   simp only[spec_Map.j0] at H
   by_cases c9:x18_2=true
   case pos=>
    subst c9
    rw[if_pos rfl] at H
    simp only[Option.some.injEq,Prod.mk.injEq] at H
    obtain⟨rfl,rfl⟩:=H
    go_wp2
    go_ret2
    exact⟨_,zq,zr HO_6,zb⟩
   replace c9:=Bool.eq_false_iff.mpr c9
   subst c9
   rw[if_neg zFT] at H
   replace H:=zY H
   obtain⟨y375,Ny375,H⟩:=H
   replace H:=zIM H
   obtain⟨LMc10,H⟩:=H
   obtain⟨y378,hy378⟩:∃y_:List Int,y_=(y375++l1):=⟨_,rfl⟩
   rw[←hy378] at H
   have Ny378:=zM hy378
   clear hy378
   have H':=zM H
   clear H
   go_wp2_with (first|((with_reducible refine gate_dst (N:=20) rfl ?_);refine Kd.R_lit (Kd.int .i64) _ 3 ?hg (N:=20) ?hd (xs:=([]:List Int)) (inner:=[]) (ok:=fun _=>True) (okp:=fun _=>True) ?hr ?hp (fun _ hk=>hk) trivial (Below.refl _ _) (Nat.le_refl _) (by simp) ?_;(case hd|hg=>rfl);(case hr=>exact zh);(case hp=>exact(Reps.none _ _));intro v376 w11 ho12 hb hg_ hnew_;clear hg_ hnew_;(first|rw[←Ny375.out] at ho12|simp only[Int.reduceToNat,←Ny375.out] at ho12);refine zS3 (Kd.R_below (zr HO_6) hb) (Kd.R_lower ho12 (below_size zb)) (below_step zb hb) ?_;clear HO_6 HB;intro HO_6 HO377 HB;clear hb ho12)|((with_reducible refine gate_builtin (b:= .append) (xs:= #[.tmp 20, .tmp 21]) rfl ?_);at_builtin;refine Kd.R_append_rows (Kd.int .i64) (w0:=w) w.heap.size rfl (.tmp 20) (.tmp 21) 46 3 (.int .i64 0) 8 rfl Try.underlying46 info3 rfl (by decide) (by omega) v376 y375 l1 _ _ _ (fun _=>True) (fun _=>False) rfl rfl ?aO ?aR (fun _ _ h=>h) (fun _ h=>h.elim) ?aF ?aB ?aS ?aL ?_;(case aR=>exact zc (Kd.C_below HR1.out HB.out));(case aB=>exact zb);(case aF=>exact(fun _ _=>trivial));(case aO=>exact(zr HO377));(case aS=>exact(below_size zb));(case aL=>have:=LMc10.out;omega);intro v379 w13 ho hb hg hat;(first|rw[←Ny378.out] at ho|simp only[Int.reduceToNat,←Ny378.out] at ho);refine zS3 (Kd.R_over' (zr HO_6) (Kd.R_typed (zr HO377)) (by decide) hg) (hb) (ho) ?_;clear HO_6 HB HO377;intro HO_6 HB HO380;clear ho hb hg hat))
   (try simp only[Act.put,zL1,zL2,zL3])
   go_loopg [7] kj2 (fun kq v7 w'=>∃(x7_2:List Int),Aside0 (spec_Map.l0 kq a0 y370 x7_2=some (r1,r2))∧Aside0 (kq≤kj2)∧Aside0 (Kd.R k52 52 w' w.heap.size (fun _=>True) v371 y370)∧Aside0 (Kd.R (Kd.int .i64) 3 w' w.heap.size (fun _=>True) v7 x7_2)∧Aside0 (Below w.heap.size w w'))
   case atStart=>exact⟨(y378),H',⟨Nat.le_refl _⟩,⟨zr HO_6⟩,⟨zr HO380⟩,⟨zb⟩⟩
   case round=>
    clear H'
    obtain⟨x7_2,HA,HK2,HO_6,HO_7,HB⟩:=hrel
    cases gk with
    |zero=>exact absurd HA.out (by simp[spec_Map.l0])
    | succ k2=>
     have H:=HA.out
     clear HA
     simp only[spec_Map.l0] at H
     replace H:=zI2 H
     rcases H with⟨c14,H⟩|⟨c14,H⟩
     case inl=>
      exact absurd H (by simp)
     have c14b0:(a0==0)=false:=beq_eq_false_iff_ne.mpr c14
     have c14b1:(a0 != 0)=true:=bne_iff_ne.mpr c14
     replace H:=zI2 H
     rcases H with⟨c15,H⟩|⟨c15,H⟩
     case inr=>
      have c15b0:(((x7_2.length:Int)%a0)==0)=false:=beq_eq_false_iff_ne.mpr c15
      have c15b1:(((x7_2.length:Int)%a0) != 0)=true:=bne_iff_ne.mpr c15
      replace H:=zIM H
      obtain⟨LMc32,H⟩:=H
      obtain⟨y381,hy381⟩:∃y_:List Int,y_=(x7_2++[0]):=⟨_,rfl⟩
      replace H:(spec_Map.l0 k2 a0 y370 y381)=some (r1,r2):=zy hy381 H
      have Ny381:=zM hy381
      clear hy381
      have H':=zM H
      clear H
      obtain⟨Ao33,co33,eo33⟩:=Kd.R_slice HO_7.out
      subst eo33
      go_wp2_with (first|((with_reducible refine gate_builtin (b:= .append) (xs:= #[.tmp 28, .tmp 29]) rfl ?_);at_builtin;refine Kd.R_append (Kd.int .i64) (w0:=w) w.heap.size rfl (.tmp 28) (.tmp 29) 46 3 (.int .i64 0) 8 rfl Try.underlying46 info3 rfl (by decide) (by omega) (.slice Ao33 x7_2.length co33) x7_2 0 [.int .i64 0] (fun _=>True) (fun _=>False) rfl rfl ?aP (fun _ hk=>hk.elim) ?aF ?aO ?aB ?aS ?aL ?_;(case aP=>exact rfl);(case aB=>exact zb);(case aF=>exact(fun _ _=>trivial));(case aO=>exact(zr HO_7));(case aS=>exact(below_size zb));(case aL=>have:=LMc32.out;omega);intro v382 w34 ho hb hg hat;(first|rw[←Ny381.out] at ho|simp only[Int.reduceToNat,←Ny381.out] at ho);refine zS3 (Kd.R_over' (zr HO_6) (Kd.R_typed (zr HO_7)) (by decide) hg) (hb) (ho) ?_;clear HO_6 HB HO_7;intro HO_6 HB HO383;clear ho hb hg hat))
      go_roundg k2
      case measure=>have:=HJ2.out;have:=HK2.out;omega
      case rel=>exact⟨(y381),H',⟨zl2 HJ2 HK2⟩,⟨zr HO_6⟩,⟨zr HO383⟩,⟨zb⟩⟩
     have c15b0:(((x7_2.length:Int)%a0)==0)=true:=beq_iff_eq.mpr c15
     have c15b1:(((x7_2.length:Int)%a0) != 0)=false:=bne_eq_false_iff_eq.mpr c15
     clear c15
     have H':=zM H
     clear H
     obtain⟨Ao16,co16,eo16⟩:=Kd.R_slice HO_7.out
     subst eo16
     go_wp2
     (try simp only[Act.put,zL1,zL2,zL3])
     go_loopg [6,9] k2 (fun kq v6 v9 w'=>∃(x6_3:List (S52)) (x9_3:Int),v9= .int .i64 x9_3∧Aside0 (spec_Map.l1 kq a0 x6_3 x7_2 (wrap64 (Int.tdiv a0 2)) x9_3=some (r1,r2))∧Aside0 (kq≤k2)∧Aside0 (Kd.R k52 52 w' w.heap.size (fun _=>True) v6 x6_3)∧Aside0 (Kd.R (Kd.int .i64) 3 w' w.heap.size (fun _=>True) (.slice Ao16 x7_2.length co16) x7_2)∧Aside0 (Below w.heap.size w w'))
     case atStart=>exact⟨(y370),(0),zs,H',⟨Nat.le_refl _⟩,⟨zr HO_6⟩,⟨zr HO_7⟩,⟨zb⟩⟩
     case round=>
      clear H'
      clear c14 c14b0 c14b1 c15b0 c15b1
      obtain⟨x6_3,x9_3,rfl,HA,HK3,HO_6,HO_7,HB⟩:=hrel
      cases gk with
      |zero=>exact absurd HA.out (by simp[spec_Map.l1])
      | succ k3=>
       have H:=HA.out
       clear HA
       simp only[spec_Map.l1] at H
       replace H:=zI2 H
       rcases H with⟨c17,H⟩|⟨c17,H⟩
       case inr=>
        have c17b0:=decide_eq_false c17
        clear c17
        simp only[Option.some.injEq,Prod.mk.injEq] at H
        obtain⟨rfl,rfl⟩:=H
        go_wp2
        go_ret2
        exact⟨_,zq,zr HO_6,zb⟩
       have c17b0:=zE c17
       clear c17
       replace H:=zIN H
       obtain⟨c18,H⟩:=H
       have c18b0:=eq_true c18
       have c18b1:decide (0≤x9_3)=true:=zE c18
       clear c18
       replace H:=zIN H
       obtain⟨c19,H⟩:=H
       have c19b0:=eq_true c19
       have c19b1:decide (x9_3≤(wrap64 (x9_3+(wrap64 (Int.tdiv a0 2)))))=true:=zE c19
       replace H:=zIN H
       obtain⟨c20,H⟩:=H
       have c20b0:=eq_true c20
       have c20b1:decide ((wrap64 (x9_3+(wrap64 (Int.tdiv a0 2))))≤(x7_2.length:Int))=true:=zE c20
       obtain⟨y384,hy384⟩:∃y_:List Int,y_=((x7_2.take ((wrap64 (x9_3+(wrap64 (Int.tdiv a0 2)))):Int).toNat).drop (x9_3:Int).toNat):=⟨_,rfl⟩
       rw[←hy384] at H
       have Ny384:=zM hy384
       clear hy384
       replace H:=zP H
       obtain⟨t388,A21,H⟩:=H
       obtain⟨ji22,hji22⟩:∃j_:Int,(wrap64 (x9_3+(wrap64 (Int.tdiv a0 2))))=j_:=⟨_,rfl⟩
       first|rw[hji22] at H|simp only[hji22] at H
       (try rw[hji22] at c19b0)
       (try rw[hji22] at c19b1)
       (try rw[hji22] at c19)
       (try rw[hji22] at c20b0)
       (try rw[hji22] at c20b1)
       (try rw[hji22] at c20)
       (try rw[hji22] at Ny384)
       (try rw[hji22] at A21)
       have hji22w:(IntKind.i64.wrap (x9_3+(wrap64 (Int.tdiv a0 2))))=ji22:=(i64_w _).trans hji22
       replace H:=zIN H
       obtain⟨c23,H⟩:=H
       have c23b0:=eq_true c23
       have c23b1:decide (0≤(ji22))=true:=zE c23
       clear c23
       replace H:=zIN H
       obtain⟨c24,H⟩:=H
       have c24b0:=eq_true c24
       have c24b1:decide ((ji22)≤(wrap64 (x9_3+a0)))=true:=zE c24
       replace H:=zIN H
       obtain⟨c25,H⟩:=H
       have c25b0:=eq_true c25
       have c25b1:decide ((wrap64 (x9_3+a0))≤(x7_2.length:Int))=true:=zE c25
       obtain⟨y389,hy389⟩:∃y_:List Int,y_=((x7_2.take ((wrap64 (x9_3+a0)):Int).toNat).drop ((ji22):Int).toNat):=⟨_,rfl⟩
       rw[←hy389] at H
       have Ny389:=zM hy389
       clear hy389
       replace H:=zP H
       obtain⟨t393,A26,H⟩:=H
       replace H:=zIM H
       obtain⟨LMc27,H⟩:=H
       obtain⟨y394,hy394⟩:∃y_:List (S52),y_=(x6_3++[(⟨t388,t393⟩:S52)]):=⟨_,rfl⟩
       rw[←hy394] at H
       have Ny394:=zM hy394
       clear hy394
       have H':=zM H
       clear H
       try go_wp2
       refine zS3 (zRd HO_6.out) (zRd HO_7.out) (zBd HB.out) ?_
       clear HO_6 HO_7 HB
       intro HO_6 HO_7 HB
       have q29:((ji22):Int)≤((x7_2.length:Int):Int):=zT (by assumption)
       obtain⟨i029,hi029,_,hsz29,_⟩:=info_parts info3
       have hroom29:x7_2.length≤co16:=(Kd.R_reads' HO_7.out).2.1
       have hC29:Kd.C (Kd.int .i64) _ Ao16 x7_2.length x7_2:=(Kd.R_reads' HO_7.out).2.2
       have ql29:(x9_3:Int)≤((ji22):Int):=zT (by assumption)
       have q029:(0:Int)≤(x9_3:Int):=zT (by assumption)
       have hcut29:=cut_mid (P:=Try.prog) 46 3 .i64 .i64 Try.underlying46 hi029 1 hsz29 Ao16 x7_2.length co16 x9_3 (ji22) q029 ql29 q29 hroom29
       have hr29:=Kd.C_mid (lo:=(x9_3:Int).toNat) (hi:=((ji22):Int).toNat) (c:=co16) hC29 (by omega) (by omega) hroom29
       obtain⟨A29,hA29⟩:∃A1,A1=(if co16=(x9_3:Int).toNat then Ao16 else(Ao16:Option Addr).map (·.add ((x9_3:Int).toNat*1))):=⟨_,rfl⟩
       obtain⟨c29,hc29⟩:∃c1,c1=co16-(x9_3:Int).toNat:=⟨_,rfl⟩
       have hy29:y384.length=((ji22):Int).toNat-(x9_3:Int).toNat:=(by rw[Ny384.out,List.length_drop,List.length_take]<;>omega)
       rw[show((x7_2).take ((ji22):Int).toNat).drop (x9_3:Int).toNat=y384 from Ny384.out.symm] at hr29
       replace hr29:Kd.C (Kd.int .i64) _ A29 y384.length y384:=(by rw[hA29];exact hr29)
       rw[←hy29,←hA29,←hc29] at hcut29
       have HR387:=zM hr29
       have HC387:=zM (show y384.length≤c29 from by rw[hy29,hc29];exact Nat.sub_le_sub_right (Nat.le_trans (by omega) hroom29) _)
       clear hr29 hC29 hroom29 hi029 hsz29 hc29
       have KY29:=zM hy29
       have KA29:=zM hA29
       clear hy29 hA29
       have KL29:=zM (show((ji22):Int).toNat≤x7_2.length from by omega)
       have KM29:=zM (show(x9_3:Int).toNat≤((ji22):Int).toNat from by omega)
       replace q29:=eq_true q29
       have q30:((wrap64 (x9_3+a0)):Int)≤((x7_2.length:Int):Int):=zT (by assumption)
       obtain⟨i030,hi030,_,hsz30,_⟩:=info_parts info3
       have hroom30:x7_2.length≤co16:=(Kd.R_reads' HO_7.out).2.1
       have hC30:Kd.C (Kd.int .i64) _ Ao16 x7_2.length x7_2:=(Kd.R_reads' HO_7.out).2.2
       have ql30:((ji22):Int)≤((wrap64 (x9_3+a0)):Int):=zT (by assumption)
       have q030:(0:Int)≤((ji22):Int):=zT (by assumption)
       have hcut30:=cut_mid (P:=Try.prog) 46 3 .i64 .i64 Try.underlying46 hi030 1 hsz30 Ao16 x7_2.length co16 (ji22) (wrap64 (x9_3+a0)) q030 ql30 q30 hroom30
       have hr30:=Kd.C_mid (lo:=((ji22):Int).toNat) (hi:=((wrap64 (x9_3+a0)):Int).toNat) (c:=co16) hC30 (by omega) (by omega) hroom30
       obtain⟨A30,hA30⟩:∃A1,A1=(if co16=((ji22):Int).toNat then Ao16 else(Ao16:Option Addr).map (·.add (((ji22):Int).toNat*1))):=⟨_,rfl⟩
       obtain⟨c30,hc30⟩:∃c1,c1=co16-((ji22):Int).toNat:=⟨_,rfl⟩
       have hy30:y389.length=((wrap64 (x9_3+a0)):Int).toNat-((ji22):Int).toNat:=(by rw[Ny389.out,List.length_drop,List.length_take]<;>omega)
       rw[show((x7_2).take ((wrap64 (x9_3+a0)):Int).toNat).drop ((ji22):Int).toNat=y389 from Ny389.out.symm] at hr30
       replace hr30:Kd.C (Kd.int .i64) _ A30 y389.length y389:=(by rw[hA30];exact hr30)
       rw[←hy30,←hA30,←hc30] at hcut30
       have HR392:=zM hr30
       have HC392:=zM (show y389.length≤c30 from by rw[hy30,hc30];exact Nat.sub_le_sub_right (Nat.le_trans (by omega) hroom30) _)
       clear hr30 hC30 hroom30 hi030 hsz30 hc30
       have KY30:=zM hy30
       have KA30:=zM hA30
       clear hy30 hA30
       have KL30:=zM (show((wrap64 (x9_3+a0)):Int).toNat≤x7_2.length from by omega)
       have KM30:=zM (show((ji22):Int).toNat≤((wrap64 (x9_3+a0)):Int).toNat from by omega)
       replace q30:=eq_true q30
       refine start_ (n:=21) (S:=fun w'=>True) (ds:=[]) #[zf,zf,zf,zf,zf,zf,zf,zf,zf,zf,zf,zf,zf,zf,zf,zf,zf,zf,zf,zf,zf] ze rfl rfl trivial (fun hHeld=> ?_);refine with_tabW spec_Map.tab11 spec_Map.bits11 (fun HT_ HW_=> ?_)
       generalize wr.drew=w28 at HO_6 HO_7 HB HR387 HR392 hHeld ⊢
       refine zu 0 40 ?_
       refine zu 1 41 ?_
       refine zu 2 42 ?_
       refine zu 3 43 ?_
       refine zu 4 44 ?_
       refine zu 5 45 ?_
       refine zu 6 46 ?_
       refine zu 8 48 ?_
       refine zu 9 49 ?_
       refine zu 10 50 ?_
       refine zu 11 51 ?_
       refine zu 12 52 ?_
       refine zu 13 53 ?_
       refine zu 14 54 ?_
       refine zu 15 55 ?_
       refine one_ (i:=7) (N:=some 47) #[zt,zt,zt,zt,zt,zt,zt,zt,zt,zt,zt,zt,zt,zt,zt,zt,zf,zf,zf,zf,zf] rfl rfl (one_of HT_.out ze) (by decide) (fun K hK=> ?_)
       refine goes_ Try.func81 ze rfl #[.slice A29 y384.length c29] (by rfl) rfl rfl zg ?_
       with_reducible refine(spec_l13Level.calls k3 _ _ y384 t388 _ ?side1 ?side2 A21.out).mono ?_
       (case side1=>exact zc (zc HR387.out))
       (case side2=>exact HC387.out)
       rintro e w' ⟨rfl,⟨nd,rfl⟩⟩
       refine⟨_,rfl,?_⟩
       refine hK.out _ _ trivial (fun hHeld=> ?_)
       clear hK K
       refine norm_ (a':= ?_) ?_ ?_
       rotate_left
       ·show Act.put _ (some 47) _=_
        simp only[Act.put,zL1,zL2,zL3,i64_w,i32_w]
        rfl
       refine one_ (i:=16) (N:=some 56) #[zt,zt,zt,zt,zt,zt,zt,zt,zt,zt,zt,zt,zt,zt,zt,zt,zt,zf,zf,zf,zf] rfl rfl (one_of HT_.out ze) (by decide) (fun K hK=> ?_)
       refine goes_ Try.func81 ze rfl #[.slice A30 y389.length c30] (by rfl) rfl rfl zg ?_
       with_reducible refine(spec_l13Level.calls k3 _ _ y389 t393 _ ?side1 ?side2 A26.out).mono ?_
       (case side1=>exact zc (zc HR392.out))
       (case side2=>exact HC392.out)
       rintro e w' ⟨rfl,⟨nd,rfl⟩⟩
       refine⟨_,rfl,?_⟩
       refine hK.out _ _ trivial (fun hHeld=> ?_)
       clear hK K
       refine norm_ (a':= ?_) ?_ ?_
       rotate_left
       ·show Act.put _ (some 56) _=_
        simp only[Act.put,zL1,zL2,zL3,i64_w,i32_w]
        rfl
       refine zu 17 57 ?_
       refine one_ (i:=18) (N:=some 58) #[zt,zt,zt,zt,zt,zt,zt,zt,zt,zt,zt,zt,zt,zt,zt,zt,zt,zt,zt,zf,zf] rfl rfl (one_of HT_.out ze) (by decide) (fun K hK=> ?_)
       refine value_ (w1:= ?_) (v:= ?_) (by rfl) rfl ?_ ?_
       rotate_left 2
       ·go_simp
        constructor
        ·rfl
        ·rfl
       refine hK.out _ _ trivial (fun hHeld=> ?_)
       clear hK K
       refine norm_ (a':= ?_) ?_ ?_
       rotate_left
       ·show Act.put _ (some 58) _=_
        simp only[Act.put,zL1,zL2,zL3,i64_w,i32_w]
        rfl
       refine one_ (i:=19) (N:=some 59) #[zt,zt,zt,zt,zt,zt,zt,zt,zt,zt,zt,zt,zt,zt,zt,zt,zt,zt,zt,zt,zf] rfl rfl (one_of HT_.out ze) (by decide) (fun K hK=> ?_)
       refine Kd.R_append_step k52 (w0:=w) w.heap.size (by rfl) (.tmp 40) (.tmp 58) 25 52 (.agg #[(.int .i64 0),(.int .i64 0)]) 16 rfl Try.underlying25 info52 rfl (by decide) (by omega) u6 x6_3 (⟨t388,t393⟩:S52) [.int .i64 t388, .int .i64 t393] (fun _=>True) (fun _=>False) rfl rfl ?aP (fun _ hk=>hk.elim) ?aF ?aO ?aB ?aS ?aL ?_
       (case aP=>exact k52_mkM _ _ _ (⟨t388,t393⟩:S52))
       (case aB=>exact zb)
       (case aF=>exact(fun _ _=>trivial))
       (case aO=>exact(zr HO_6))
       (case aS=>exact(below_size zb))
       (case aL=>have:=LMc27.out;omega)
       intro v395 w31 ho hb hg hat
       (first|rw[←Ny394.out] at ho|simp only[Int.reduceToNat,←Ny394.out] at ho)
       refine zS5 (Kd.R_over' (zr HO_7) (Kd.R_typed (zr HO_6)) (by decide) hg) (hb) ((show Kd.C (Kd.int .i64) w31 A29 y384.length y384 from by rw[Ny384.out,KA29.out];exact Kd.C_mid (lo:=(x9_3:Int).toNat) (hi:=((ji22):Int).toNat) (c:=co16) ((Kd.R_reads' (Kd.R_over' (zr HO_7) (Kd.R_typed (zr HO_6)) (by decide) hg)).2.2) KM29.out KL29.out ((Kd.R_reads' (Kd.R_over' (zr HO_7) (Kd.R_typed (zr HO_6)) (by decide) hg)).2.1))) ((show Kd.C (Kd.int .i64) w31 A30 y389.length y389 from by rw[Ny389.out,KA30.out];exact Kd.C_mid (lo:=((ji22):Int).toNat) (hi:=((wrap64 (x9_3+a0)):Int).toNat) (c:=co16) ((Kd.R_reads' (Kd.R_over' (zr HO_7) (Kd.R_typed (zr HO_6)) (by decide) hg)).2.2) KM30.out KL30.out ((Kd.R_reads' (Kd.R_over' (zr HO_7) (Kd.R_typed (zr HO_6)) (by decide) hg)).2.1))) (ho) ?_
       clear HO_7 HB HR387 HR392 HO_6
       intro HO_7 HB HR387 HR392 HO396
       clear ho hb hg hat
       refine hK.out _ _ trivial (fun hHeld=> ?_)
       clear hK K
       refine norm_ (a':= ?_) ?_ ?_
       rotate_left
       ·show Act.put _ (some 59) _=_
        simp only[Act.put,zL1,zL2,zL3,i64_w,i32_w]
        rfl
       refine zu 20 6 ?_
       refine done_ (done_of HT_.out ze) ?_
       try go_wp2
       go_roundg k3
       case measure=>have:=HJ2.out;have:=HK2.out;have:=HK3.out;omega
       case rel=>exact⟨(y394),(wrap64 (x9_3+a0)),zs,H',⟨by have:=HJ2.out;have:=HK2.out;have:=HK3.out;omega⟩,⟨zr HO396⟩,⟨zr HO_7⟩,⟨zb⟩⟩
end Go.Proofs.Ytapobpkeefeajaa.PFnModem
