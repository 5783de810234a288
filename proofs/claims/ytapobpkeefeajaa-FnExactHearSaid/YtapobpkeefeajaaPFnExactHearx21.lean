-- A turned copy of the print's text.
import Derived.Test.YtapobpkeefeajaaPFnExactHearx0
import Derived.Test.YtapobpkeefeajaaPFnExactHearx19
import Derived.Test.YtapobpkeefeajaaPFnExactHearx20
namespace Go.Proofs.Ytapobpkeefeajaa.PFnExactHear
open Go.RowKit Go.Proofs.YtapobpkeefeajaaW.PrintWords Go.Proofs.YtapobpkeefeajaaW.PrintLast Go.Proofs.YtapobpkeefeajaaW.PrintMore
attribute [local go_sem] max2_int min2_int max_two min_two max_three min_three max_four min_four
set_option maxHeartbeats 8000000
set_option maxRecDepth 100000
set_option linter.unusedVariables false
set_option linter.unusedSimpArgs false
mutual
def spec_l14Places.l0:Nat→List Int→Int→Int→List (List Int)→Int→Option (List Int×Bool)
 |0,_,_,_,_,_=>none
 |k+1,x0,x1,x2,x8,x9=>if x9<x1 then(spec_l14Places.l1 k x0 x1 x2 x8 x9 (([]:List Int)) 0) else((spec_l14Solve.f k x8).bind fun bt357=>(if bt357.2=true then(spec_l14Places.l2 k x1 x2 bt357.1 (([]:List Int)) 0) else(some ((([]:List Int)),false))))
def spec_l14Places.l1:Nat→List Int→Int→Int→List (List Int)→Int→List Int→Int→Option (List Int×Bool)
 |0,_,_,_,_,_,_,_=>none
 |k+1,x0,x1,x2,x8,x9,x10,x11=>if x11<x1 then(if 0≤(wrap64 (x9+x11)) then(if(wrap64 (x9+x11))<(x0.length:Int) then(if x10.length<17592186044416 then(spec_l14Places.l1 k x0 x1 x2 x8 x9 (x10++[rd x0 (wrap64 (x9+x11))]) (wrap64 (x11+1))) else(none)) else(none)) else(none)) else(if 0≤(wrap64 (x9+x1)) then(if(wrap64 (x9+x1))<(x0.length:Int) then(if x10.length<17592186044416 then(if x8.length<5864062014805 then(spec_l14Places.l0 k x0 x1 x2 (x8++[(x10++[rd x0 (wrap64 (x9+x1))])]) (wrap64 (x9+1))) else(none)) else(none)) else(none)) else(none))
def spec_l14Places.l2:Nat→Int→Int→List Int→List Int→Int→Option (List Int×Bool)
 |0,_,_,_,_,_=>none
 |k+1,x1,x2,x12,x14,x15=>if x15<x2 then((spec_l14Pow.f k (wrap64 ((wrap64 (x2-1))-x15))).bind fun t367=>(spec_l14Places.l3 k x1 x2 x12 x14 x15 t367 1 (wrap64 (x1-1)))) else(some (x14,((x14.length:Int)==x1)))
def spec_l14Places.l3:Nat→Int→Int→List Int→List Int→Int→Int→Int→Int→Option (List Int×Bool)
 |0,_,_,_,_,_,_,_,_=>none
 |k+1,x1,x2,x12,x14,x15,x16,x17,x18=>if x18≥0 then((spec_GfMul.f k x17 x16).bind fun t368=>(if 0≤x18 then(if x18<(x12.length:Int) then(spec_l14Places.l3 k x1 x2 x12 x14 x15 x16 (Go.bits .xor .i64 t368 (rd x12 x18)) (wrap64 (x18-1))) else(none)) else(none))) else(if x17=0 then(if x14.length<17592186044416 then(spec_l14Places.l2 k x1 x2 x12 (x14++[x15]) (wrap64 (x15+1))) else(none)) else(spec_l14Places.l2 k x1 x2 x12 x14 (wrap64 (x15+1))))
end
def spec_l14Places.f (k:Nat) (l0:List Int) (a1:Int) (a2:Int):Option (List Int×Bool):=spec_l14Places.l0 k l0 a1 a2 (([]:List (List Int))) 0
theorem spec_l14Places.calls (k:Nat) (A0:Option Addr) (c0:Nat) (l0:List Int) (a1:Int) (a2:Int) (r1:List Int) (r2:Bool) (w:World) (hr0:Kd.C (Kd.int .i64) w A0 l0.length l0) (hc0:l0.length≤c0) (H:spec_l14Places.f k l0 a1 a2=some (r1,r2)):
 Calls Try.prog 115 #[.slice A0 l0.length c0, .int .i64 a1, .int .i64 a2] w fun e w'=>∃v0_:Value,e= .returned (.tuple #[v0_, .bool r2])∧Kd.R (Kd.int .i64) 3 w' w.heap.size (fun _=>True) v0_ r1∧Below w.heap.size w w':=by
 have HR0:=zM hr0
 have HC0:=zM hc0
 clear hr0 hc0
 have HB:=zM (Below.refl w.heap.size w)
 unfold spec_l14Places.f at H
 obtain⟨y340,hy340⟩:∃y_:List (List Int),y_=(([]:List (List Int))):=⟨_,rfl⟩
 rw[←hy340] at H
 have Ny340:=zM hy340
 clear hy340
 have H':=zM H
 clear H
 go_enter Try.func115,Try.ntmps115
 go_wp2_with (first|((with_reducible refine gate_dst (N:=19) rfl ?_);refine Kd.S_lit (Kd.slice 3 (Kd.int .i64)) _ 46 ?hg (N:=19) ?hd (xs:=([]:List (List Int))) (inner:=[]) (ok:=fun _=>True) (okp:=fun _=>True) ?hr ?hp (fun _ hk=>hk) trivial (Below.refl _ _) (Nat.le_refl _) (by simp) ?_;(case hd|hg=>rfl);(case hr=>exact zh);(case hp=>exact(Reps.none _ _));intro v341 w4 ho5 hb hg_ hnew_;clear hg_ hnew_;(first|rw[←Ny340.out] at ho5|simp only[Int.reduceToNat,←Ny340.out] at ho5);refine zS2 (Kd.S_lower ho5 (below_size zb)) (below_step zb hb) ?_;clear HB;intro HO342 HB;clear hb ho5))
 repeat(go_quiet (first|((with_reducible refine gate_dst (N:=19) rfl ?_);refine Kd.S_lit (Kd.slice 3 (Kd.int .i64)) _ 46 ?hg (N:=19) ?hd (xs:=([]:List (List Int))) (inner:=[]) (ok:=fun _=>True) (okp:=fun _=>True) ?hr ?hp (fun _ hk=>hk) trivial (Below.refl _ _) (Nat.le_refl _) (by simp) ?_;(case hd|hg=>rfl);(case hr=>exact zh);(case hp=>exact(Reps.none _ _));intro v341 w4 ho5 hb hg_ hnew_;clear hg_ hnew_;(first|rw[←Ny340.out] at ho5|simp only[Int.reduceToNat,←Ny340.out] at ho5);refine zS2 (Kd.S_lower ho5 (below_size zb)) (below_step zb hb) ?_;clear HB;intro HO342 HB;clear hb ho5));try go_wp2_with (first|((with_reducible refine gate_dst (N:=19) rfl ?_);refine Kd.S_lit (Kd.slice 3 (Kd.int .i64)) _ 46 ?hg (N:=19) ?hd (xs:=([]:List (List Int))) (inner:=[]) (ok:=fun _=>True) (okp:=fun _=>True) ?hr ?hp (fun _ hk=>hk) trivial (Below.refl _ _) (Nat.le_refl _) (by simp) ?_;(case hd|hg=>rfl);(case hr=>exact zh);(case hp=>exact(Reps.none _ _));intro v341 w4 ho5 hb hg_ hnew_;clear hg_ hnew_;(first|rw[←Ny340.out] at ho5|simp only[Int.reduceToNat,←Ny340.out] at ho5);refine zS2 (Kd.S_lower ho5 (below_size zb)) (below_step zb hb) ?_;clear HB;intro HO342 HB;clear hb ho5)))
 (try simp only[Act.put,zL1,zL2,zL3])
 go_loopg [8,9] k (fun kq v8 v9 w'=>∃(x8_1:List (List Int)) (x9_1:Int),v9= .int .i64 x9_1∧Aside0 (spec_l14Places.l0 kq l0 a1 a2 x8_1 x9_1=some (r1,r2))∧Aside0 (kq≤k)∧Aside0 (Kd.S (Kd.slice 3 (Kd.int .i64)) 46 w' w.heap.size (fun _=>True) v8 x8_1)∧Aside0 (Below w.heap.size w w'))
 case atStart=>exact⟨(y340),(0),zs,H',⟨Nat.le_refl _⟩,⟨by(with_reducible repeat(first|apply Kd.S_alloc|apply Kd.S_drewN|apply Kd.S_drew));first|exact HO342.out|(subst_vars;exact HO342.out)⟩,⟨zb⟩⟩
 case round=>
  clear H'
  try clear c1
  try clear p2
  obtain⟨x8_1,x9_1,rfl,HA,HK1,HO_8,HB⟩:=hrel
  cases gk with
  |zero=>exact absurd HA.out (by simp[spec_l14Places.l0])
  | succ k1=>
   have H:=HA.out
   clear HA
   simp only[spec_l14Places.l0] at H
   replace H:=zI2 H
   rcases H with⟨c6,H⟩|⟨c6,H⟩
   case inl=>
    have c6b0:=zE c6
    clear c6
    obtain⟨y343,hy343⟩:∃y_:List Int,y_=(([]:List Int)):=⟨_,rfl⟩
    replace H:(spec_l14Places.l1 k1 l0 a1 a2 x8_1 x9_1 y343 0)=some (r1,r2):=zy hy343 H
    have Ny343:=zM hy343
    clear hy343
    have H':=zM H
    clear H
    go_wp2_with (first|((with_reducible refine gate_dst (N:=25) rfl ?_);refine Kd.R_lit (Kd.int .i64) _ 3 ?hg (N:=25) ?hd (xs:=([]:List Int)) (inner:=[]) (ok:=fun _=>True) (okp:=fun _=>True) ?hr ?hp (fun _ hk=>hk) trivial (Below.refl _ _) (Nat.le_refl _) (by simp) ?_;(case hd|hg=>rfl);(case hr=>exact zh);(case hp=>exact(Reps.none _ _));intro v344 w7 ho8 hb hg_ hnew_;clear hg_ hnew_;(first|rw[←Ny343.out] at ho8|simp only[Int.reduceToNat,←Ny343.out] at ho8);refine zS3 (Kd.S_elder' (by(with_reducible repeat(first|apply Kd.S_alloc|apply Kd.S_drewN|apply Kd.S_drew));first|exact HO_8.out|(subst_vars;exact HO_8.out)) (Kd.R_base ho8) hb) (Kd.R_lower ho8 (below_size zb)) (below_step zb hb) ?_;clear HO_8 HB;intro HO_8 HO345 HB;clear hb ho8))
    repeat(go_quiet (first|((with_reducible refine gate_dst (N:=25) rfl ?_);refine Kd.R_lit (Kd.int .i64) _ 3 ?hg (N:=25) ?hd (xs:=([]:List Int)) (inner:=[]) (ok:=fun _=>True) (okp:=fun _=>True) ?hr ?hp (fun _ hk=>hk) trivial (Below.refl _ _) (Nat.le_refl _) (by simp) ?_;(case hd|hg=>rfl);(case hr=>exact zh);(case hp=>exact(Reps.none _ _));intro v344 w7 ho8 hb hg_ hnew_;clear hg_ hnew_;(first|rw[←Ny343.out] at ho8|simp only[Int.reduceToNat,←Ny343.out] at ho8);refine zS3 (Kd.S_elder' (by(with_reducible repeat(first|apply Kd.S_alloc|apply Kd.S_drewN|apply Kd.S_drew));first|exact HO_8.out|(subst_vars;exact HO_8.out)) (Kd.R_base ho8) hb) (Kd.R_lower ho8 (below_size zb)) (below_step zb hb) ?_;clear HO_8 HB;intro HO_8 HO345 HB;clear hb ho8));try go_wp2_with (first|((with_reducible refine gate_dst (N:=25) rfl ?_);refine Kd.R_lit (Kd.int .i64) _ 3 ?hg (N:=25) ?hd (xs:=([]:List Int)) (inner:=[]) (ok:=fun _=>True) (okp:=fun _=>True) ?hr ?hp (fun _ hk=>hk) trivial (Below.refl _ _) (Nat.le_refl _) (by simp) ?_;(case hd|hg=>rfl);(case hr=>exact zh);(case hp=>exact(Reps.none _ _));intro v344 w7 ho8 hb hg_ hnew_;clear hg_ hnew_;(first|rw[←Ny343.out] at ho8|simp only[Int.reduceToNat,←Ny343.out] at ho8);refine zS3 (Kd.S_elder' (by(with_reducible repeat(first|apply Kd.S_alloc|apply Kd.S_drewN|apply Kd.S_drew));first|exact HO_8.out|(subst_vars;exact HO_8.out)) (Kd.R_base ho8) hb) (Kd.R_lower ho8 (below_size zb)) (below_step zb hb) ?_;clear HO_8 HB;intro HO_8 HO345 HB;clear hb ho8)))
    (try simp only[Act.put,zL1,zL2,zL3])
    go_loopg [10,11] k1 (fun kq v10 v11 w'=>∃(x10_2:List Int) (x11_2:Int),v11= .int .i64 x11_2∧Aside0 (spec_l14Places.l1 kq l0 a1 a2 x8_1 x9_1 x10_2 x11_2=some (r1,r2))∧Aside0 (kq≤k1)∧Aside0 (Kd.S (Kd.slice 3 (Kd.int .i64)) 46 w' w.heap.size (fun k_=>some k_≠(v10:Value).ownBlock) u8 x8_1)∧Aside0 (Kd.R (Kd.int .i64) 3 w' w.heap.size (fun _=>True) v10 x10_2)∧Aside0 (Below w.heap.size w w'))
    case atStart=>exact⟨(y343),(0),zs,H',⟨Nat.le_refl _⟩,⟨by(with_reducible repeat(first|apply Kd.S_alloc|apply Kd.S_drewN|apply Kd.S_drew));first|exact Kd.S_mono HO_8.out (fun _ hk=>hk.2)|(subst_vars;exact Kd.S_mono HO_8.out (fun _ hk=>hk.2))⟩,⟨zr HO345⟩,⟨zb⟩⟩
    case round=>
     clear H'
     try clear c1
     try clear p2
     try clear c6
     try clear c6b0
     try clear p2
     obtain⟨x10_2,x11_2,rfl,HA,HK2,HO_8,HO_10,HB⟩:=hrel
     cases gk with
     |zero=>exact absurd HA.out (by simp[spec_l14Places.l1])
     | succ k2=>
      have H:=HA.out
      clear HA
      simp only[spec_l14Places.l1] at H
      replace H:=zI2 H
      rcases H with⟨c9,H⟩|⟨c9,H⟩
      case inl=>
       have c9b0:=zE c9
       clear c9
       obtain⟨ji10,hji10⟩:∃j_:Int,(wrap64 (x9_1+x11_2))=j_:=⟨_,rfl⟩
       first|rw[hji10] at H|simp only[hji10] at H
       have hji10w:(IntKind.i64.wrap (x9_1+x11_2))=ji10:=(i64_w _).trans hji10
       replace H:=zID H
       obtain⟨c11b0,H⟩:=H
       replace H:=zID H
       obtain⟨c12b0,H⟩:=H
       replace H:=zIM H
       obtain⟨LMc13,H⟩:=H
       obtain⟨y347,hy347⟩:∃y_:List Int,y_=(x10_2++[rd l0 (ji10)]):=⟨_,rfl⟩
       rw[←hy347] at H
       have Ny347:=zM hy347
       clear hy347
       have H':=zM H
       clear H
       have p346:0≤((ji10):Int):=zT (by assumption)
       have q346:(ji10)<(l0.length:Int):=zT (by assumption)
       obtain⟨ad346,e346,hx346_0⟩:=Kd.at_int HR0.out (ji10) p346 q346
       cases e346
       replace hx346_0:=(HB.out.cell (zW w _ hx346_0)).trans hx346_0
       replace p346:=eq_true p346
       replace q346:=eq_true q346
       go_wp2_with (first|((with_reducible refine gate_builtin (b:= .append) (xs:= #[.tmp 31, .tmp 38]) rfl ?_);at_builtin;refine Kd.R_append (Kd.int .i64) (w0:=w) w.heap.size rfl (.tmp 31) (.tmp 38) 46 3 (.int .i64 0) 8 rfl Try.underlying46 info3 rfl (by decide) (by omega) u10 x10_2 (rd l0 (ji10)) [.int .i64 (rd l0 (ji10))] (fun _=>True) (fun _=>False) rfl rfl ?aP (fun _ hk=>hk.elim) ?aF ?aO ?aB ?aS ?aL ?_;(case aP=>exact rfl);(case aB=>exact zb);(case aF=>exact(fun _ _=>trivial));(case aO=>exact(zr HO_10));(case aS=>exact(below_size zb));(case aL=>have:=LMc13.out;omega);intro v348 w14 ho hb hg hat;(first|rw[←Ny347.out] at ho|simp only[Int.reduceToNat,←Ny347.out] at ho);refine zS3 (Kd.S_after (ok:=(fun _=>True)) (by(with_reducible repeat(first|apply Kd.S_alloc|apply Kd.S_drewN|apply Kd.S_drew));first|exact Kd.S_mono HO_8.out (fun _ hk=>⟨trivial,hk⟩)|(subst_vars;exact Kd.S_mono HO_8.out (fun _ hk=>⟨trivial,hk⟩))) hg hat) (hb) (ho) ?_;clear HO_8 HB HO_10;intro HO_8 HB HO349;clear ho hb hg hat))
       repeat(go_quiet (first|((with_reducible refine gate_builtin (b:= .append) (xs:= #[.tmp 31, .tmp 38]) rfl ?_);at_builtin;refine Kd.R_append (Kd.int .i64) (w0:=w) w.heap.size rfl (.tmp 31) (.tmp 38) 46 3 (.int .i64 0) 8 rfl Try.underlying46 info3 rfl (by decide) (by omega) u10 x10_2 (rd l0 (ji10)) [.int .i64 (rd l0 (ji10))] (fun _=>True) (fun _=>False) rfl rfl ?aP (fun _ hk=>hk.elim) ?aF ?aO ?aB ?aS ?aL ?_;(case aP=>exact rfl);(case aB=>exact zb);(case aF=>exact(fun _ _=>trivial));(case aO=>exact(zr HO_10));(case aS=>exact(below_size zb));(case aL=>have:=LMc13.out;omega);intro v348 w14 ho hb hg hat;(first|rw[←Ny347.out] at ho|simp only[Int.reduceToNat,←Ny347.out] at ho);refine zS3 (Kd.S_after (ok:=(fun _=>True)) (by(with_reducible repeat(first|apply Kd.S_alloc|apply Kd.S_drewN|apply Kd.S_drew));first|exact Kd.S_mono HO_8.out (fun _ hk=>⟨trivial,hk⟩)|(subst_vars;exact Kd.S_mono HO_8.out (fun _ hk=>⟨trivial,hk⟩))) hg hat) (hb) (ho) ?_;clear HO_8 HB HO_10;intro HO_8 HB HO349;clear ho hb hg hat));try go_wp2_with (first|((with_reducible refine gate_builtin (b:= .append) (xs:= #[.tmp 31, .tmp 38]) rfl ?_);at_builtin;refine Kd.R_append (Kd.int .i64) (w0:=w) w.heap.size rfl (.tmp 31) (.tmp 38) 46 3 (.int .i64 0) 8 rfl Try.underlying46 info3 rfl (by decide) (by omega) u10 x10_2 (rd l0 (ji10)) [.int .i64 (rd l0 (ji10))] (fun _=>True) (fun _=>False) rfl rfl ?aP (fun _ hk=>hk.elim) ?aF ?aO ?aB ?aS ?aL ?_;(case aP=>exact rfl);(case aB=>exact zb);(case aF=>exact(fun _ _=>trivial));(case aO=>exact(zr HO_10));(case aS=>exact(below_size zb));(case aL=>have:=LMc13.out;omega);intro v348 w14 ho hb hg hat;(first|rw[←Ny347.out] at ho|simp only[Int.reduceToNat,←Ny347.out] at ho);refine zS3 (Kd.S_after (ok:=(fun _=>True)) (by(with_reducible repeat(first|apply Kd.S_alloc|apply Kd.S_drewN|apply Kd.S_drew));first|exact Kd.S_mono HO_8.out (fun _ hk=>⟨trivial,hk⟩)|(subst_vars;exact Kd.S_mono HO_8.out (fun _ hk=>⟨trivial,hk⟩))) hg hat) (hb) (ho) ?_;clear HO_8 HB HO_10;intro HO_8 HB HO349;clear ho hb hg hat)))
       go_roundg k2
       case measure=>have:=HK1.out;have:=HK2.out;omega
       case rel=>exact⟨(y347),(wrap64 (x11_2+1)),zs,H',⟨zl2 HK1 HK2⟩,⟨by(with_reducible repeat(first|apply Kd.S_alloc|apply Kd.S_drewN|apply Kd.S_drew));first|exact Kd.S_mono HO_8.out (fun _ hk=>hk.2)|(subst_vars;exact Kd.S_mono HO_8.out (fun _ hk=>hk.2))⟩,⟨zr HO349⟩,⟨zb⟩⟩
      have c9b0:=decide_eq_false c9
      clear c9
      obtain⟨ji15,hji15⟩:∃j_:Int,(wrap64 (x9_1+a1))=j_:=⟨_,rfl⟩
      first|rw[hji15] at H|simp only[hji15] at H
      have hji15w:(IntKind.i64.wrap (x9_1+a1))=ji15:=(i64_w _).trans hji15
      replace H:=zID H
      obtain⟨c16b0,H⟩:=H
      replace H:=zID H
      obtain⟨c17b0,H⟩:=H
      replace H:=zIM H
      obtain⟨LMc18,H⟩:=H
      obtain⟨y351,hy351⟩:∃y_:List Int,y_=(x10_2++[rd l0 (ji15)]):=⟨_,rfl⟩
      rw[←hy351] at H
      have Ny351:=zM hy351
      clear hy351
      replace H:=zIM H
      obtain⟨LMc19,H⟩:=H
      obtain⟨y354,hy354⟩:∃y_:List (List Int),y_=(x8_1++[y351]):=⟨_,rfl⟩
      rw[←hy354] at H
      have Ny354:=zM hy354
      clear hy354
      have H':=zM H
      clear H
      have p350:0≤((ji15):Int):=zT (by assumption)
      have q350:(ji15)<(l0.length:Int):=zT (by assumption)
      obtain⟨ad350,e350,hx350_0⟩:=Kd.at_int HR0.out (ji15) p350 q350
      cases e350
      replace hx350_0:=(HB.out.cell (zW w _ hx350_0)).trans hx350_0
      replace p350:=eq_true p350
      replace q350:=eq_true q350
      go_wp2_with (first|((with_reducible refine gate_builtin (b:= .append) (xs:= #[.tmp 41, .tmp 48]) rfl ?_);at_builtin;refine Kd.R_append (Kd.int .i64) (w0:=w) w.heap.size rfl (.tmp 41) (.tmp 48) 46 3 (.int .i64 0) 8 rfl Try.underlying46 info3 rfl (by decide) (by omega) u10 x10_2 (rd l0 (ji15)) [.int .i64 (rd l0 (ji15))] (fun _=>True) (fun _=>False) rfl rfl ?aP (fun _ hk=>hk.elim) ?aF ?aO ?aB ?aS ?aL ?_;(case aP=>exact rfl);(case aB=>exact zb);(case aF=>exact(fun _ _=>trivial));(case aO=>exact(zr HO_10));(case aS=>exact(below_size zb));(case aL=>have:=LMc18.out;omega);intro v352 w20 ho hb hg hat;(first|rw[←Ny351.out] at ho|simp only[Int.reduceToNat,←Ny351.out] at ho);refine zS3 (Kd.S_after (ok:=(fun _=>True)) (by(with_reducible repeat(first|apply Kd.S_alloc|apply Kd.S_drewN|apply Kd.S_drew));first|exact Kd.S_mono HO_8.out (fun _ hk=>⟨trivial,hk⟩)|(subst_vars;exact Kd.S_mono HO_8.out (fun _ hk=>⟨trivial,hk⟩))) hg hat) (hb) (ho) ?_;clear HO_8 HB HO_10;intro HO_8 HB HO353;clear ho hb hg hat;obtain⟨Ao22,co22,eo22⟩:=Kd.R_slice HO353.out;subst eo22)|((with_reducible refine gate_builtin (b:= .append) (xs:= #[.tmp 40, .tmp 50]) rfl ?_);at_builtin;refine Kd.S_append (Kd.slice 3 (Kd.int .i64)) (w0:=w) w.heap.size rfl (.tmp 40) (.tmp 50) 114 46 (.slice none 0 0) 24 rfl Try.underlying114 info46 rfl (by decide) (by omega) u8 x8_1 y351 [.slice Ao22 y351.length co22] (fun _=>True) (fun k_=>some k_=(.slice Ao22 y351.length co22:Value).ownBlock) rfl rfl ?aP (fun k_ hk_=>((Kd.R_mono (ok':=fun k_=>((fun _=>True)) k_∧some k_≠(u8:Value).ownBlock) (Kd.R_apart' (HO353.out) (Kd.S_typed HO_8.out) (by decide)) (fun k_ hk=>⟨trivial,hk.2⟩))).1 k_ hk_.symm) ?aF ?aO ?aB ?aS ?aL ?_;(case aP=>exact Kd.M_row (Kd.R_mono (Kd.R_tight rfl (Kd.R_mono (ok':=fun k_=>((fun _=>True)) k_∧some k_≠(u8:Value).ownBlock) (Kd.R_apart' (HO353.out) (Kd.S_typed HO_8.out) (by decide)) (fun k_ hk=>⟨trivial,hk.2⟩))) (fun _ h_=>h_)));(case aB=>exact zb);(case aF=>exact(fun _ _=>trivial));(case aO=>exact(by(with_reducible repeat(first|apply Kd.S_alloc|apply Kd.S_drewN|apply Kd.S_drew));exact Kd.S_mono HO_8.out (fun k_ hk=>⟨trivial,fun e_=>hk.2 e_⟩)));(case aS=>exact(below_size zb));(case aL=>have:=LMc19.out;omega);intro v355 w21 ho hb hg hat;(first|rw[←Ny354.out] at ho|simp only[Int.reduceToNat,←Ny354.out] at ho);refine zS2 (hb) (ho) ?_;clear HB HO_8 HO353;intro HB HO356;clear ho hb hg hat))
      repeat(go_quiet (first|((with_reducible refine gate_builtin (b:= .append) (xs:= #[.tmp 41, .tmp 48]) rfl ?_);at_builtin;refine Kd.R_append (Kd.int .i64) (w0:=w) w.heap.size rfl (.tmp 41) (.tmp 48) 46 3 (.int .i64 0) 8 rfl Try.underlying46 info3 rfl (by decide) (by omega) u10 x10_2 (rd l0 (ji15)) [.int .i64 (rd l0 (ji15))] (fun _=>True) (fun _=>False) rfl rfl ?aP (fun _ hk=>hk.elim) ?aF ?aO ?aB ?aS ?aL ?_;(case aP=>exact rfl);(case aB=>exact zb);(case aF=>exact(fun _ _=>trivial));(case aO=>exact(zr HO_10));(case aS=>exact(below_size zb));(case aL=>have:=LMc18.out;omega);intro v352 w20 ho hb hg hat;(first|rw[←Ny351.out] at ho|simp only[Int.reduceToNat,←Ny351.out] at ho);refine zS3 (Kd.S_after (ok:=(fun _=>True)) (by(with_reducible repeat(first|apply Kd.S_alloc|apply Kd.S_drewN|apply Kd.S_drew));first|exact Kd.S_mono HO_8.out (fun _ hk=>⟨trivial,hk⟩)|(subst_vars;exact Kd.S_mono HO_8.out (fun _ hk=>⟨trivial,hk⟩))) hg hat) (hb) (ho) ?_;clear HO_8 HB HO_10;intro HO_8 HB HO353;clear ho hb hg hat;obtain⟨Ao22,co22,eo22⟩:=Kd.R_slice HO353.out;subst eo22)|((with_reducible refine gate_builtin (b:= .append) (xs:= #[.tmp 40, .tmp 50]) rfl ?_);at_builtin;refine Kd.S_append (Kd.slice 3 (Kd.int .i64)) (w0:=w) w.heap.size rfl (.tmp 40) (.tmp 50) 114 46 (.slice none 0 0) 24 rfl Try.underlying114 info46 rfl (by decide) (by omega) u8 x8_1 y351 [.slice Ao22 y351.length co22] (fun _=>True) (fun k_=>some k_=(.slice Ao22 y351.length co22:Value).ownBlock) rfl rfl ?aP (fun k_ hk_=>((Kd.R_mono (ok':=fun k_=>((fun _=>True)) k_∧some k_≠(u8:Value).ownBlock) (Kd.R_apart' (HO353.out) (Kd.S_typed HO_8.out) (by decide)) (fun k_ hk=>⟨trivial,hk.2⟩))).1 k_ hk_.symm) ?aF ?aO ?aB ?aS ?aL ?_;(case aP=>exact Kd.M_row (Kd.R_mono (Kd.R_tight rfl (Kd.R_mono (ok':=fun k_=>((fun _=>True)) k_∧some k_≠(u8:Value).ownBlock) (Kd.R_apart' (HO353.out) (Kd.S_typed HO_8.out) (by decide)) (fun k_ hk=>⟨trivial,hk.2⟩))) (fun _ h_=>h_)));(case aB=>exact zb);(case aF=>exact(fun _ _=>trivial));(case aO=>exact(by(with_reducible repeat(first|apply Kd.S_alloc|apply Kd.S_drewN|apply Kd.S_drew));exact Kd.S_mono HO_8.out (fun k_ hk=>⟨trivial,fun e_=>hk.2 e_⟩)));(case aS=>exact(below_size zb));(case aL=>have:=LMc19.out;omega);intro v355 w21 ho hb hg hat;(first|rw[←Ny354.out] at ho|simp only[Int.reduceToNat,←Ny354.out] at ho);refine zS2 (hb) (ho) ?_;clear HB HO_8 HO353;intro HB HO356;clear ho hb hg hat));try go_wp2_with (first|((with_reducible refine gate_builtin (b:= .append) (xs:= #[.tmp 41, .tmp 48]) rfl ?_);at_builtin;refine Kd.R_append (Kd.int .i64) (w0:=w) w.heap.size rfl (.tmp 41) (.tmp 48) 46 3 (.int .i64 0) 8 rfl Try.underlying46 info3 rfl (by decide) (by omega) u10 x10_2 (rd l0 (ji15)) [.int .i64 (rd l0 (ji15))] (fun _=>True) (fun _=>False) rfl rfl ?aP (fun _ hk=>hk.elim) ?aF ?aO ?aB ?aS ?aL ?_;(case aP=>exact rfl);(case aB=>exact zb);(case aF=>exact(fun _ _=>trivial));(case aO=>exact(zr HO_10));(case aS=>exact(below_size zb));(case aL=>have:=LMc18.out;omega);intro v352 w20 ho hb hg hat;(first|rw[←Ny351.out] at ho|simp only[Int.reduceToNat,←Ny351.out] at ho);refine zS3 (Kd.S_after (ok:=(fun _=>True)) (by(with_reducible repeat(first|apply Kd.S_alloc|apply Kd.S_drewN|apply Kd.S_drew));first|exact Kd.S_mono HO_8.out (fun _ hk=>⟨trivial,hk⟩)|(subst_vars;exact Kd.S_mono HO_8.out (fun _ hk=>⟨trivial,hk⟩))) hg hat) (hb) (ho) ?_;clear HO_8 HB HO_10;intro HO_8 HB HO353;clear ho hb hg hat;obtain⟨Ao22,co22,eo22⟩:=Kd.R_slice HO353.out;subst eo22)|((with_reducible refine gate_builtin (b:= .append) (xs:= #[.tmp 40, .tmp 50]) rfl ?_);at_builtin;refine Kd.S_append (Kd.slice 3 (Kd.int .i64)) (w0:=w) w.heap.size rfl (.tmp 40) (.tmp 50) 114 46 (.slice none 0 0) 24 rfl Try.underlying114 info46 rfl (by decide) (by omega) u8 x8_1 y351 [.slice Ao22 y351.length co22] (fun _=>True) (fun k_=>some k_=(.slice Ao22 y351.length co22:Value).ownBlock) rfl rfl ?aP (fun k_ hk_=>((Kd.R_mono (ok':=fun k_=>((fun _=>True)) k_∧some k_≠(u8:Value).ownBlock) (Kd.R_apart' (HO353.out) (Kd.S_typed HO_8.out) (by decide)) (fun k_ hk=>⟨trivial,hk.2⟩))).1 k_ hk_.symm) ?aF ?aO ?aB ?aS ?aL ?_;(case aP=>exact Kd.M_row (Kd.R_mono (Kd.R_tight rfl (Kd.R_mono (ok':=fun k_=>((fun _=>True)) k_∧some k_≠(u8:Value).ownBlock) (Kd.R_apart' (HO353.out) (Kd.S_typed HO_8.out) (by decide)) (fun k_ hk=>⟨trivial,hk.2⟩))) (fun _ h_=>h_)));(case aB=>exact zb);(case aF=>exact(fun _ _=>trivial));(case aO=>exact(by(with_reducible repeat(first|apply Kd.S_alloc|apply Kd.S_drewN|apply Kd.S_drew));exact Kd.S_mono HO_8.out (fun k_ hk=>⟨trivial,fun e_=>hk.2 e_⟩)));(case aS=>exact(below_size zb));(case aL=>have:=LMc19.out;omega);intro v355 w21 ho hb hg hat;(first|rw[←Ny354.out] at ho|simp only[Int.reduceToNat,←Ny354.out] at ho);refine zS2 (hb) (ho) ?_;clear HB HO_8 HO353;intro HB HO356;clear ho hb hg hat)))
      go_roundg k2
      case measure=>have:=HK1.out;have:=HK2.out;omega
      case rel=>exact⟨(y354),(wrap64 (x9_1+1)),zs,H',⟨zl2 HK1 HK2⟩,⟨by(with_reducible repeat(first|apply Kd.S_alloc|apply Kd.S_drewN|apply Kd.S_drew));first|exact HO356.out|(subst_vars;exact HO356.out)⟩,⟨zb⟩⟩
   have c6b0:=decide_eq_false c6
   clear c6
   replace H:=zP H
   obtain⟨⟨t357,t360⟩,A23,H⟩:=H
   dsimp only at H
   by_cases c24:t360=true
   case neg=>
    replace c24:=Bool.eq_false_iff.mpr c24
    subst c24
    rw[if_neg zFT] at H
    obtain⟨y361,hy361⟩:∃y_:List Int,y_=(([]:List Int)):=⟨_,rfl⟩
    replace H:(some (y361,false))=some (r1,r2):=zy hy361 H
    have Ny361:=zM hy361
    clear hy361
    simp only[Option.some.injEq,Prod.mk.injEq] at H
    obtain⟨rfl,rfl⟩:=H
    obtain⟨Ao40,co40,eo40⟩:=Kd.S_slice HO_8.out
    subst eo40
    go_wp2_with (first|(go_at_call 125;(with_reducible refine(spec_l14Solve.calls k1 (fun k_=>True) (.slice Ao40 x8_1.length co40) x8_1 t357 false w _ ?side1 ?side2 A23.out).mono ?_);(case side1=>exact zb);(case side2=>exact HO_8.out);rintro e w41 ⟨v358,rfl,ho0,hb,hkp⟩;refine zS2 (Kd.R_mono (ok':=fun k_=>True) ho0 (fun k_ hk_=>trivial)) (hb) ?_;clear HB HO_8;intro HO359 HB;(try clear hb);(try clear hkp);(try clear ho0))|((with_reducible refine gate_dst (N:=59) rfl ?_);refine Kd.R_lit (Kd.int .i64) _ 3 ?hg (N:=59) ?hd (xs:=([]:List Int)) (inner:=[]) (ok:=fun _=>True) (okp:=fun _=>True) ?hr ?hp (fun _ hk=>hk) trivial (Below.refl _ _) (Nat.le_refl _) (by simp) ?_;(case hd|hg=>rfl);(case hr=>exact zh);(case hp=>exact(Reps.none _ _));intro v362 w42 ho43 hb hg_ hnew_;clear hg_ hnew_;(first|rw[←Ny361.out] at ho43|simp only[Int.reduceToNat,←Ny361.out] at ho43);refine zS3 (Kd.R_elder' (zr HO359) (Kd.R_base ho43) hb) (Kd.R_lower (Kd.R_new' ho43 (Kd.R_lt (zr HO359))) (below_size zb)) (below_step zb hb) ?_;clear HO359 HB;intro HO359 HO363 HB;clear hb ho43))
    repeat(go_quiet (first|(go_at_call 125;(with_reducible refine(spec_l14Solve.calls k1 (fun k_=>True) (.slice Ao40 x8_1.length co40) x8_1 t357 false w _ ?side1 ?side2 A23.out).mono ?_);(case side1=>exact zb);(case side2=>exact HO_8.out);rintro e w41 ⟨v358,rfl,ho0,hb,hkp⟩;refine zS2 (Kd.R_mono (ok':=fun k_=>True) ho0 (fun k_ hk_=>trivial)) (hb) ?_;clear HB HO_8;intro HO359 HB;(try clear hb);(try clear hkp);(try clear ho0))|((with_reducible refine gate_dst (N:=59) rfl ?_);refine Kd.R_lit (Kd.int .i64) _ 3 ?hg (N:=59) ?hd (xs:=([]:List Int)) (inner:=[]) (ok:=fun _=>True) (okp:=fun _=>True) ?hr ?hp (fun _ hk=>hk) trivial (Below.refl _ _) (Nat.le_refl _) (by simp) ?_;(case hd|hg=>rfl);(case hr=>exact zh);(case hp=>exact(Reps.none _ _));intro v362 w42 ho43 hb hg_ hnew_;clear hg_ hnew_;(first|rw[←Ny361.out] at ho43|simp only[Int.reduceToNat,←Ny361.out] at ho43);refine zS3 (Kd.R_elder' (zr HO359) (Kd.R_base ho43) hb) (Kd.R_lower (Kd.R_new' ho43 (Kd.R_lt (zr HO359))) (below_size zb)) (below_step zb hb) ?_;clear HO359 HB;intro HO359 HO363 HB;clear hb ho43));try go_wp2_with (first|(go_at_call 125;(with_reducible refine(spec_l14Solve.calls k1 (fun k_=>True) (.slice Ao40 x8_1.length co40) x8_1 t357 false w _ ?side1 ?side2 A23.out).mono ?_);(case side1=>exact zb);(case side2=>exact HO_8.out);rintro e w41 ⟨v358,rfl,ho0,hb,hkp⟩;refine zS2 (Kd.R_mono (ok':=fun k_=>True) ho0 (fun k_ hk_=>trivial)) (hb) ?_;clear HB HO_8;intro HO359 HB;(try clear hb);(try clear hkp);(try clear ho0))|((with_reducible refine gate_dst (N:=59) rfl ?_);refine Kd.R_lit (Kd.int .i64) _ 3 ?hg (N:=59) ?hd (xs:=([]:List Int)) (inner:=[]) (ok:=fun _=>True) (okp:=fun _=>True) ?hr ?hp (fun _ hk=>hk) trivial (Below.refl _ _) (Nat.le_refl _) (by simp) ?_;(case hd|hg=>rfl);(case hr=>exact zh);(case hp=>exact(Reps.none _ _));intro v362 w42 ho43 hb hg_ hnew_;clear hg_ hnew_;(first|rw[←Ny361.out] at ho43|simp only[Int.reduceToNat,←Ny361.out] at ho43);refine zS3 (Kd.R_elder' (zr HO359) (Kd.R_base ho43) hb) (Kd.R_lower (Kd.R_new' ho43 (Kd.R_lt (zr HO359))) (below_size zb)) (below_step zb hb) ?_;clear HO359 HB;intro HO359 HO363 HB;clear hb ho43)))
    go_ret2
    exact⟨_,zq,by(with_reducible repeat(first|apply zRa|apply zRn|apply zRd));first|exact Kd.R_mono HO363.out (fun _ hk=>trivial)|(subst_vars;exact Kd.R_mono HO363.out (fun _ hk=>trivial)),zb⟩
   subst c24
   rw[if_pos rfl] at H
   obtain⟨y364,hy364⟩:∃y_:List Int,y_=(([]:List Int)):=⟨_,rfl⟩
   replace H:(spec_l14Places.l2 k1 a1 a2 t357 y364 0)=some (r1,r2):=zy hy364 H
   have Ny364:=zM hy364
   clear hy364
   have H':=zM H
   clear H
   obtain⟨Ao25,co25,eo25⟩:=Kd.S_slice HO_8.out
   subst eo25
   go_wp2_with (first|(go_at_call 125;(with_reducible refine(spec_l14Solve.calls k1 (fun k_=>True) (.slice Ao25 x8_1.length co25) x8_1 t357 true w _ ?side1 ?side2 A23.out).mono ?_);(case side1=>exact zb);(case side2=>exact HO_8.out);rintro e w26 ⟨v358,rfl,ho0,hb,hkp⟩;refine zS2 (Kd.R_mono (ok':=fun k_=>True) ho0 (fun k_ hk_=>trivial)) (hb) ?_;clear HB HO_8;intro HO359 HB;(try clear hb);(try clear hkp);(try clear ho0))|((with_reducible refine gate_dst (N:=60) rfl ?_);refine Kd.R_lit (Kd.int .i64) _ 3 ?hg (N:=60) ?hd (xs:=([]:List Int)) (inner:=[]) (ok:=fun _=>True) (okp:=fun _=>True) ?hr ?hp (fun _ hk=>hk) trivial (Below.refl _ _) (Nat.le_refl _) (by simp) ?_;(case hd|hg=>rfl);(case hr=>exact zh);(case hp=>exact(Reps.none _ _));intro v365 w27 ho28 hb hg_ hnew_;clear hg_ hnew_;(first|rw[←Ny364.out] at ho28|simp only[Int.reduceToNat,←Ny364.out] at ho28);refine zS3 (Kd.R_elder' (zr HO359) (Kd.R_base ho28) hb) (Kd.R_lower (Kd.R_new' ho28 (Kd.R_lt (zr HO359))) (below_size zb)) (below_step zb hb) ?_;clear HO359 HB;intro HO359 HO366 HB;clear hb ho28))
   repeat(go_quiet (first|(go_at_call 125;(with_reducible refine(spec_l14Solve.calls k1 (fun k_=>True) (.slice Ao25 x8_1.length co25) x8_1 t357 true w _ ?side1 ?side2 A23.out).mono ?_);(case side1=>exact zb);(case side2=>exact HO_8.out);rintro e w26 ⟨v358,rfl,ho0,hb,hkp⟩;refine zS2 (Kd.R_mono (ok':=fun k_=>True) ho0 (fun k_ hk_=>trivial)) (hb) ?_;clear HB HO_8;intro HO359 HB;(try clear hb);(try clear hkp);(try clear ho0))|((with_reducible refine gate_dst (N:=60) rfl ?_);refine Kd.R_lit (Kd.int .i64) _ 3 ?hg (N:=60) ?hd (xs:=([]:List Int)) (inner:=[]) (ok:=fun _=>True) (okp:=fun _=>True) ?hr ?hp (fun _ hk=>hk) trivial (Below.refl _ _) (Nat.le_refl _) (by simp) ?_;(case hd|hg=>rfl);(case hr=>exact zh);(case hp=>exact(Reps.none _ _));intro v365 w27 ho28 hb hg_ hnew_;clear hg_ hnew_;(first|rw[←Ny364.out] at ho28|simp only[Int.reduceToNat,←Ny364.out] at ho28);refine zS3 (Kd.R_elder' (zr HO359) (Kd.R_base ho28) hb) (Kd.R_lower (Kd.R_new' ho28 (Kd.R_lt (zr HO359))) (below_size zb)) (below_step zb hb) ?_;clear HO359 HB;intro HO359 HO366 HB;clear hb ho28));try go_wp2_with (first|(go_at_call 125;(with_reducible refine(spec_l14Solve.calls k1 (fun k_=>True) (.slice Ao25 x8_1.length co25) x8_1 t357 true w _ ?side1 ?side2 A23.out).mono ?_);(case side1=>exact zb);(case side2=>exact HO_8.out);rintro e w26 ⟨v358,rfl,ho0,hb,hkp⟩;refine zS2 (Kd.R_mono (ok':=fun k_=>True) ho0 (fun k_ hk_=>trivial)) (hb) ?_;clear HB HO_8;intro HO359 HB;(try clear hb);(try clear hkp);(try clear ho0))|((with_reducible refine gate_dst (N:=60) rfl ?_);refine Kd.R_lit (Kd.int .i64) _ 3 ?hg (N:=60) ?hd (xs:=([]:List Int)) (inner:=[]) (ok:=fun _=>True) (okp:=fun _=>True) ?hr ?hp (fun _ hk=>hk) trivial (Below.refl _ _) (Nat.le_refl _) (by simp) ?_;(case hd|hg=>rfl);(case hr=>exact zh);(case hp=>exact(Reps.none _ _));intro v365 w27 ho28 hb hg_ hnew_;clear hg_ hnew_;(first|rw[←Ny364.out] at ho28|simp only[Int.reduceToNat,←Ny364.out] at ho28);refine zS3 (Kd.R_elder' (zr HO359) (Kd.R_base ho28) hb) (Kd.R_lower (Kd.R_new' ho28 (Kd.R_lt (zr HO359))) (below_size zb)) (below_step zb hb) ?_;clear HO359 HB;intro HO359 HO366 HB;clear hb ho28)))
   (try simp only[Act.put,zL1,zL2,zL3])
   go_loopg [14,15] k1 (fun kq v14 v15 w'=>∃(x14_2:List Int) (x15_2:Int),v15= .int .i64 x15_2∧Aside0 (spec_l14Places.l2 kq a1 a2 t357 x14_2 x15_2=some (r1,r2))∧Aside0 (kq≤k1)∧Aside0 (Kd.R (Kd.int .i64) 3 w' w.heap.size (fun k_=>some k_≠(v14:Value).ownBlock) v358 t357)∧Aside0 (Kd.R (Kd.int .i64) 3 w' w.heap.size (fun k_=>some k_≠(v358:Value).ownBlock) v14 x14_2)∧Aside0 (Below w.heap.size w w'))
   case atStart=>exact⟨(y364),(0),zs,H',⟨Nat.le_refl _⟩,⟨by(with_reducible repeat(first|apply zRa|apply zRn|apply zRd));first|exact Kd.R_mono HO359.out (fun _ hk=>hk.2)|(subst_vars;exact Kd.R_mono HO359.out (fun _ hk=>hk.2))⟩,⟨by(with_reducible repeat(first|apply zRa|apply zRn|apply zRd));first|exact Kd.R_mono HO366.out (fun _ hk=>hk.2)|(subst_vars;exact Kd.R_mono HO366.out (fun _ hk=>hk.2))⟩,⟨zb⟩⟩
   case round=>
    clear H'
    try clear c1
    try clear c2
    try clear p2
    try clear p3
    try clear q3
    try clear hx3
    try clear c6
    try clear c6b0
    try clear p6
    try clear c9
    try clear c9b0
    try clear c11
    try clear c11b0
    try clear c12
    try clear c12b0
    try clear c13
    try clear c16
    try clear c16b0
    try clear c17
    try clear c17b0
    try clear c18
    try clear c19
    try clear c24
    try clear hx346_0
    try clear hx350_0
    try clear p2
    try clear p346
    try clear p350
    try clear q346
    try clear q350
    obtain⟨x14_2,x15_2,rfl,HA,HK2,HO_12,HO_14,HB⟩:=hrel
    cases gk with
    |zero=>exact absurd HA.out (by simp[spec_l14Places.l2])
    | succ k2=>
     have H:=HA.out
     clear HA
     simp only[spec_l14Places.l2] at H
     replace H:=zI2 H
     rcases H with⟨c29,H⟩|⟨c29,H⟩
     case inr=>
      have c29b0:=decide_eq_false c29
      clear c29
      simp only[Option.some.injEq,Prod.mk.injEq] at H
      obtain⟨rfl,rfl⟩:=H
      obtain⟨Ao39,co39,eo39⟩:=Kd.R_slice HO_14.out
      subst eo39
      go_wp2
      repeat(go_quiet (fail);try go_wp2)
      go_ret2
      exact⟨_,zq,by(with_reducible repeat(first|apply zRa|apply zRn|apply zRd));first|exact Kd.R_mono HO_14.out (fun _ hk=>trivial)|(subst_vars;exact Kd.R_mono HO_14.out (fun _ hk=>trivial)),zb⟩
     have c29b0:=zE c29
     clear c29
     replace H:=zP H
     obtain⟨t367,A30,H⟩:=H
     have H':=zM H
     clear H
     go_wp2_with (first|(go_at_call 78;(with_reducible refine(spec_l14Pow.calls k2 (wrap64 ((wrap64 (a2-1))-x15_2)) t367 _ A30.out).mono ?_);rintro e w' ⟨rfl,⟨nd,rfl⟩⟩;(try first|exact⟨rfl,_,zD _ _ _⟩|exact⟨rfl,_,Eq.trans (zD _ _ _) (congrArg (World.drewN _) (Nat.add_assoc _ _ _))⟩)))
     repeat(go_quiet (first|(go_at_call 78;(with_reducible refine(spec_l14Pow.calls k2 (wrap64 ((wrap64 (a2-1))-x15_2)) t367 _ A30.out).mono ?_);rintro e w' ⟨rfl,⟨nd,rfl⟩⟩;(try first|exact⟨rfl,_,zD _ _ _⟩|exact⟨rfl,_,Eq.trans (zD _ _ _) (congrArg (World.drewN _) (Nat.add_assoc _ _ _))⟩)));try go_wp2_with (first|(go_at_call 78;(with_reducible refine(spec_l14Pow.calls k2 (wrap64 ((wrap64 (a2-1))-x15_2)) t367 _ A30.out).mono ?_);rintro e w' ⟨rfl,⟨nd,rfl⟩⟩;(try first|exact⟨rfl,_,zD _ _ _⟩|exact⟨rfl,_,Eq.trans (zD _ _ _) (congrArg (World.drewN _) (Nat.add_assoc _ _ _))⟩))))
     (try simp only[Act.put,zL1,zL2,zL3])
     go_loopg [17,18] k2 (fun kq v17 v18 w'=>∃(x17_3:Int) (x18_3:Int),v17= .int .i64 x17_3∧v18= .int .i64 x18_3∧Aside0 (spec_l14Places.l3 kq a1 a2 t357 x14_2 x15_2 t367 x17_3 x18_3=some (r1,r2))∧Aside0 (kq≤k2)∧Aside0 (Kd.R (Kd.int .i64) 3 w' w.heap.size (fun k_=>some k_≠(u14:Value).ownBlock) v358 t357)∧Aside0 (Kd.R (Kd.int .i64) 3 w' w.heap.size (fun k_=>some k_≠(v358:Value).ownBlock) u14 x14_2)∧Aside0 (Below w.heap.size w w'))
     case atStart=>exact⟨(1),(wrap64 (a1-1)),zs,zs,H',⟨Nat.le_refl _⟩,⟨zr HO_12⟩,⟨zr HO_14⟩,⟨zb⟩⟩
     case round=>
      clear H'
      try clear c1
      try clear c2
      try clear p2
      try clear p3
      try clear q3
      try clear hx3
      try clear c6
      try clear c6b0
      try clear p6
      try clear c9
      try clear c9b0
      try clear c11
      try clear c11b0
      try clear c12
      try clear c12b0
      try clear c13
      try clear c16
      try clear c16b0
      try clear c17
      try clear c17b0
      try clear c18
      try clear c19
      try clear c24
      try clear c29
      try clear c29b0
      try clear hx346_0
      try clear hx350_0
      try clear p2
      try clear p3
      try clear p346
      try clear p350
      try clear p6
      try clear q3
      try clear q346
      try clear q350
      obtain⟨x17_3,x18_3,rfl,rfl,HA,HK3,HO_12,HO_14,HB⟩:=hrel
      cases gk with
      |zero=>exact absurd HA.out (by simp[spec_l14Places.l3])
      | succ k3=>
       have H:=HA.out
       clear HA
       simp only[spec_l14Places.l3] at H
       replace H:=zI2 H
       rcases H with⟨c31,H⟩|⟨c31,H⟩
       case inl=>
        have c31b0:decide (0≤x18_3)=true:=zE c31
        clear c31
        replace H:=zP H
        obtain⟨t368,A32,H⟩:=H
        replace H:=zID H
        obtain⟨c33b0,H⟩:=H
        replace H:=zID H
        obtain⟨c34b0,H⟩:=H
        have H':=zM H
        clear H
        go_wp2_with (first|(go_at_call 77;(with_reducible refine(spec_GfMul.calls k3 x17_3 t367 t368 _ A32.out).mono ?_);rintro e w' ⟨rfl,⟨nd,rfl⟩⟩;(try first|exact⟨rfl,_,zD _ _ _⟩|exact⟨rfl,_,Eq.trans (zD _ _ _) (congrArg (World.drewN _) (Nat.add_assoc _ _ _))⟩);obtain⟨Ao35,co35,eo35⟩:=Kd.R_slice HO_12.out;subst eo35;have p369:0≤(x18_3:Int):=zT (by assumption);have q369:x18_3<(t357.length:Int):=zT (by assumption);obtain⟨ad369,e369,hx369_0⟩:=Kd.at_int (Kd.R_reads' HO_12.out).2.2 x18_3 p369 q369;cases e369;replace p369:=eq_true p369;replace q369:=eq_true q369))
        repeat(go_quiet (first|(go_at_call 77;(with_reducible refine(spec_GfMul.calls k3 x17_3 t367 t368 _ A32.out).mono ?_);rintro e w' ⟨rfl,⟨nd,rfl⟩⟩;(try first|exact⟨rfl,_,zD _ _ _⟩|exact⟨rfl,_,Eq.trans (zD _ _ _) (congrArg (World.drewN _) (Nat.add_assoc _ _ _))⟩);obtain⟨Ao35,co35,eo35⟩:=Kd.R_slice HO_12.out;subst eo35;have p369:0≤(x18_3:Int):=zT (by assumption);have q369:x18_3<(t357.length:Int):=zT (by assumption);obtain⟨ad369,e369,hx369_0⟩:=Kd.at_int (Kd.R_reads' HO_12.out).2.2 x18_3 p369 q369;cases e369;replace p369:=eq_true p369;replace q369:=eq_true q369));try go_wp2_with (first|(go_at_call 77;(with_reducible refine(spec_GfMul.calls k3 x17_3 t367 t368 _ A32.out).mono ?_);rintro e w' ⟨rfl,⟨nd,rfl⟩⟩;(try first|exact⟨rfl,_,zD _ _ _⟩|exact⟨rfl,_,Eq.trans (zD _ _ _) (congrArg (World.drewN _) (Nat.add_assoc _ _ _))⟩);obtain⟨Ao35,co35,eo35⟩:=Kd.R_slice HO_12.out;subst eo35;have p369:0≤(x18_3:Int):=zT (by assumption);have q369:x18_3<(t357.length:Int):=zT (by assumption);obtain⟨ad369,e369,hx369_0⟩:=Kd.at_int (Kd.R_reads' HO_12.out).2.2 x18_3 p369 q369;cases e369;replace p369:=eq_true p369;replace q369:=eq_true q369)))
        go_roundg k3
        case measure=>have:=HK1.out;have:=HK2.out;have:=HK3.out;omega
        case rel=>exact⟨(Go.bits .xor .i64 t368 (rd t357 x18_3)),(wrap64 (x18_3-1)),zs,zs,H',⟨by have:=HK1.out;have:=HK2.out;have:=HK3.out;omega⟩,⟨zr HO_12⟩,⟨zr HO_14⟩,⟨zb⟩⟩
       have c31b0:decide (0≤x18_3)=false:=decide_eq_false c31
       clear c31
       replace H:=zI2 H
       rcases H with⟨c36,H⟩|⟨c36,H⟩
       case inr=>
        have c36b0:(x17_3==0)=false:=beq_eq_false_iff_ne.mpr c36
        have c36b1:(x17_3 != 0)=true:=bne_iff_ne.mpr c36
        have H':=zM H
        clear H
        go_wp2
        repeat(go_quiet (fail);try go_wp2)
        go_roundg k3
        case measure=>have:=HK1.out;have:=HK2.out;have:=HK3.out;omega
        case rel=>exact⟨(x14_2),(wrap64 (x15_2+1)),zs,H',⟨by have:=HK1.out;have:=HK2.out;have:=HK3.out;omega⟩,⟨zr HO_12⟩,⟨zr HO_14⟩,⟨zb⟩⟩
       have c36b0:(x17_3==0)=true:=beq_iff_eq.mpr c36
       have c36b1:(x17_3 != 0)=false:=bne_eq_false_iff_eq.mpr c36
       clear c36
       replace H:=zIM H
       obtain⟨LMc37,H⟩:=H
       obtain⟨y370,hy370⟩:∃y_:List Int,y_=(x14_2++[x15_2]):=⟨_,rfl⟩
       rw[←hy370] at H
       have Ny370:=zM hy370
       clear hy370
       have H':=zM H
       clear H
       go_wp2_with (first|((with_reducible refine gate_builtin (b:= .append) (xs:= #[.tmp 87, .tmp 89]) rfl ?_);at_builtin;refine Kd.R_append (Kd.int .i64) (w0:=w) w.heap.size rfl (.tmp 87) (.tmp 89) 46 3 (.int .i64 0) 8 rfl Try.underlying46 info3 rfl (by decide) (by omega) u14 x14_2 x15_2 [.int .i64 x15_2] (fun k_=>some k_≠(v358:Value).ownBlock) (fun _=>False) rfl rfl ?aP (fun _ hk=>hk.elim) ?aF ?aO ?aB ?aS ?aL ?_;(case aP=>exact rfl);(case aB=>exact zb);(case aF=>exact(fun k_ hk=>Kd.fresh' (Kd.R_lt (zr HO_12)) k_ hk));(case aO=>exact(zr HO_14));(case aS=>exact(below_size zb));(case aL=>have:=LMc37.out;omega);intro v371 w38 ho hb hg hat;(first|rw[←Ny370.out] at ho|simp only[Int.reduceToNat,←Ny370.out] at ho);refine zS3 (Kd.R_after (ok:=(fun _=>True)) (by(with_reducible repeat(first|apply zRa|apply zRn|apply zRd));first|exact Kd.R_mono HO_12.out (fun _ hk=>⟨trivial,hk⟩)|(subst_vars;exact Kd.R_mono HO_12.out (fun _ hk=>⟨trivial,hk⟩))) hg hat) (hb) (ho) ?_;clear HO_12 HB HO_14;intro HO_12 HB HO372;clear ho hb hg hat))
       repeat(go_quiet (first|((with_reducible refine gate_builtin (b:= .append) (xs:= #[.tmp 87, .tmp 89]) rfl ?_);at_builtin;refine Kd.R_append (Kd.int .i64) (w0:=w) w.heap.size rfl (.tmp 87) (.tmp 89) 46 3 (.int .i64 0) 8 rfl Try.underlying46 info3 rfl (by decide) (by omega) u14 x14_2 x15_2 [.int .i64 x15_2] (fun k_=>some k_≠(v358:Value).ownBlock) (fun _=>False) rfl rfl ?aP (fun _ hk=>hk.elim) ?aF ?aO ?aB ?aS ?aL ?_;(case aP=>exact rfl);(case aB=>exact zb);(case aF=>exact(fun k_ hk=>Kd.fresh' (Kd.R_lt (zr HO_12)) k_ hk));(case aO=>exact(zr HO_14));(case aS=>exact(below_size zb));(case aL=>have:=LMc37.out;omega);intro v371 w38 ho hb hg hat;(first|rw[←Ny370.out] at ho|simp only[Int.reduceToNat,←Ny370.out] at ho);refine zS3 (Kd.R_after (ok:=(fun _=>True)) (by(with_reducible repeat(first|apply zRa|apply zRn|apply zRd));first|exact Kd.R_mono HO_12.out (fun _ hk=>⟨trivial,hk⟩)|(subst_vars;exact Kd.R_mono HO_12.out (fun _ hk=>⟨trivial,hk⟩))) hg hat) (hb) (ho) ?_;clear HO_12 HB HO_14;intro HO_12 HB HO372;clear ho hb hg hat));try go_wp2_with (first|((with_reducible refine gate_builtin (b:= .append) (xs:= #[.tmp 87, .tmp 89]) rfl ?_);at_builtin;refine Kd.R_append (Kd.int .i64) (w0:=w) w.heap.size rfl (.tmp 87) (.tmp 89) 46 3 (.int .i64 0) 8 rfl Try.underlying46 info3 rfl (by decide) (by omega) u14 x14_2 x15_2 [.int .i64 x15_2] (fun k_=>some k_≠(v358:Value).ownBlock) (fun _=>False) rfl rfl ?aP (fun _ hk=>hk.elim) ?aF ?aO ?aB ?aS ?aL ?_;(case aP=>exact rfl);(case aB=>exact zb);(case aF=>exact(fun k_ hk=>Kd.fresh' (Kd.R_lt (zr HO_12)) k_ hk));(case aO=>exact(zr HO_14));(case aS=>exact(below_size zb));(case aL=>have:=LMc37.out;omega);intro v371 w38 ho hb hg hat;(first|rw[←Ny370.out] at ho|simp only[Int.reduceToNat,←Ny370.out] at ho);refine zS3 (Kd.R_after (ok:=(fun _=>True)) (by(with_reducible repeat(first|apply zRa|apply zRn|apply zRd));first|exact Kd.R_mono HO_12.out (fun _ hk=>⟨trivial,hk⟩)|(subst_vars;exact Kd.R_mono HO_12.out (fun _ hk=>⟨trivial,hk⟩))) hg hat) (hb) (ho) ?_;clear HO_12 HB HO_14;intro HO_12 HB HO372;clear ho hb hg hat)))
       go_roundg k3
       case measure=>have:=HK1.out;have:=HK2.out;have:=HK3.out;omega
       case rel=>exact⟨(y370),(wrap64 (x15_2+1)),zs,H',⟨by have:=HK1.out;have:=HK2.out;have:=HK3.out;omega⟩,⟨by(with_reducible repeat(first|apply zRa|apply zRn|apply zRd));first|exact Kd.R_mono HO_12.out (fun _ hk=>hk.2)|(subst_vars;exact Kd.R_mono HO_12.out (fun _ hk=>hk.2))⟩,⟨zr HO372⟩,⟨zb⟩⟩
end Go.Proofs.Ytapobpkeefeajaa.PFnExactHear
