-- A turned copy of the print's text.
import Derived.Test.YtapobpkeefeajaaPFnExactHearx0
namespace Go.Proofs.Ytapobpkeefeajaa.PFnExactHear
open Go.RowKit Go.Proofs.YtapobpkeefeajaaW.PrintWords Go.Proofs.YtapobpkeefeajaaW.PrintLast Go.Proofs.YtapobpkeefeajaaW.PrintMore
attribute [local go_sem] max2_int min2_int max_two min_two max_three min_three max_four min_four
set_option maxHeartbeats 8000000
set_option maxRecDepth 100000
set_option linter.unusedVariables false
set_option linter.unusedSimpArgs false
def impl_pack8.l0:Nat→List Int→List Int→Int→Int→Option (List Int)
 |0,_,_,_,_=>none
 |k+1,x3,x11,x12,x13=>if x13<x12 then(if 0≤x13 then(if x13<(x11.length:Int) then(if 0≤(wrap64 (Int.tdiv x13 8)) then(if(wrap64 (Int.tdiv x13 8))<(x3.length:Int) then(if 0≤(wrap64 (7-(Int.tmod x13 8))) then(impl_pack8.l0 k (x3.set ((wrap64 (Int.tdiv x13 8)):Int).toNat (Go.bits .or .u8 (rd x3 (wrap64 (Int.tdiv x13 8))) (shl .u8 ((rd x11 x13)%256) (wrap64 (7-(Int.tmod x13 8)))))) x11 x12 (wrap64 (x13+1))) else(none)) else(none)) else(none)) else(none)) else(none)) else(some x3)
def impl_pack8.f (k:Nat) (l0:List Int):Option (List Int):=if 0≤(wrap64 (Int.tdiv (wrap64 ((l0.length:Int)+7)) 8)) then(if(wrap64 (Int.tdiv (wrap64 ((l0.length:Int)+7)) 8):Int).toNat≤281474976710656 then(impl_pack8.l0 k (List.replicate (wrap64 (Int.tdiv (wrap64 ((l0.length:Int)+7)) 8):Int).toNat 0) l0 (l0.length:Int) 0) else(none)) else(none)
def impl_pack8.T5:Bool×List (List Nat×List Nat):=(true,[([],[]),([],[]),([1],[1]),([0,2],[0,2]),([3],[3]),([],[]),([5],[5]),([],[]),([7],[7]),([8],[8]),([6,9],[6,9]),([4,10],[4,10]),([0,2,0,1,2,3,4,5,6,7,8,9,10,11],[0,2]),([12,11,0,1,2,3,4,5,6,7,8,9,10,11],[11,12])])
def impl_pack8.B5:List Nat:=[0,0,2,7,15,0,32,0,128,384,992,2047,4095,8191]
theorem impl_pack8.tab5:rtab .any (opsOf Try.f62 5)=impl_pack8.T5:=by kernel_rfl
theorem impl_pack8.bits5:waitsOk impl_pack8.T5.2 impl_pack8.B5=true:=by kernel_rfl
theorem impl_pack8.calls (k:Nat) (A0:Option Addr) (c0:Nat) (l0:List Int) (r:List Int) (w:World) (hr0:Kd.C (Kd.int .i64) w A0 l0.length l0) (hc0:l0.length≤c0) (H:impl_pack8.f k l0=some r):
 Calls Try.prog 62 #[.slice A0 l0.length c0] w fun e w'=>∃v0_:Value,e= .returned (v0_)∧Kd.R (Kd.int .u8) 5 w' w.heap.size (fun _=>True) v0_ r∧Below w.heap.size w w':=by
 have HR0:=zM hr0
 have HC0:=zM hc0
 clear hr0 hc0
 have HB:=zM (Below.refl w.heap.size w)
 unfold impl_pack8.f at H
 obtain⟨ji2,hji2⟩:∃j_:Int,(wrap64 (Int.tdiv (wrap64 ((l0.length:Int)+7)) 8))=j_:=⟨_,rfl⟩
 first|rw[hji2] at H|simp only[hji2] at H
 have hji2w:(IntKind.i64.wrap (Int.tdiv (wrap64 ((l0.length:Int)+7)) 8))=ji2:=(i64_w _).trans hji2
 replace H:=zIN H
 obtain⟨c3,H⟩:=H
 have c3b0:=eq_true c3
 have c3b1:decide (0≤(ji2))=true:=zE c3
 clear c3
 replace H:=zIN H
 obtain⟨c4,H⟩:=H
 have c4b0:=eq_true c4
 have c4b1:decide ((ji2:Int).toNat≤281474976710656)=true:=zE c4
 clear c4
 obtain⟨y212,hy212⟩:∃y_:List Int,y_=(List.replicate (ji2:Int).toNat 0):=⟨_,rfl⟩
 rw[←hy212] at H
 have Ny212:=zM hy212
 clear hy212
 have H':=zM H
 clear H
 go_enter Try.func62,Try.ntmps62
 go_wp2_with (first|((with_reducible refine gate_dst (N:=10) rfl ?_);refine Kd.R_make (Kd.int .u8) _ 5 rfl (N:=10) rfl 24 _ _ rfl ji2 rfl rfl Try.underlying24 (.int .u8 0) 1 info5 rfl (by decide) (by omega) 0 (ok:=fun _=>True) (okp:=fun _=>True) rfl (fun _ hk=>hk) trivial (zT (by assumption)) (Nat.le_trans (Nat.mul_le_mul_right _ (zT (by assumption):ji2.toNat≤281474976710656)) (by omega)) (Below.refl _ _) (Nat.le_refl _) ?_;intro v213 w5 ho6 hb hg_ hnew_;clear hg_ hnew_;(first|rw[←Ny212.out] at ho6|simp only[Int.reduceToNat,←Ny212.out] at ho6);refine zS2 (Kd.R_lower ho6 (below_size zb)) (below_step zb hb) ?_;clear HB;intro HO214 HB;clear hb ho6))
 (try simp only[Act.put,zL1,zL2,zL3])
 go_loopg [13] k (fun kq v13 w'=>∃(x3_1:List Int) (x13_1:Int),v13= .int .i64 x13_1∧Aside0 (impl_pack8.l0 kq x3_1 l0 (l0.length:Int) x13_1=some r)∧Aside0 (kq≤k)∧Aside0 (Kd.R (Kd.int .u8) 5 w' w.heap.size (fun _=>True) v213 x3_1)∧Aside0 (Below w.heap.size w w'))
 case atStart=>exact⟨(y212),(0),zs,H',⟨Nat.le_refl _⟩,⟨zr HO214⟩,⟨zb⟩⟩
 case round=>
  clear H'
  try clear p2
  try clear c3
  try clear c3b0
  try clear c3b1
  try clear c4
  try clear c4b0
  try clear c4b1
  try clear c6
  try clear p6
  obtain⟨x3_1,x13_1,rfl,HA,HK1,HO_3,HB⟩:=hrel
  cases gk with
  |zero=>exact absurd HA.out (by simp[impl_pack8.l0])
  | succ k1=>
   have H:=HA.out
   clear HA
   simp only[impl_pack8.l0] at H
   replace H:=zI2 H
   rcases H with⟨c7,H⟩|⟨c7,H⟩
   case inr=>
    have c7b0:=decide_eq_false c7
    clear c7
    obtain rfl:=zI H
    go_wp2
    go_ret
    exact⟨_,by first|rfl|(simp[errW_none,errW_some]<;>rfl)|(simp only[←hji2];first|rfl|(simp[errW_none,errW_some]<;>rfl))|(simp[*,errW_none,errW_some]<;>rfl),zr HO_3,zb⟩
   have c7b0:=zE c7
   clear c7
   replace H:=zID H
   obtain⟨c8b0,H⟩:=H
   replace H:=zID H
   obtain⟨c9b0,H⟩:=H
   obtain⟨ji10,hji10⟩:∃j_:Int,(wrap64 (Int.tdiv x13_1 8))=j_:=⟨_,rfl⟩
   first|rw[hji10] at H|simp only[hji10] at H
   have hji10w:(IntKind.i64.wrap (Int.tdiv x13_1 8))=ji10:=(i64_w _).trans hji10
   replace H:=zID H
   obtain⟨c11b0,H⟩:=H
   replace H:=zID H
   obtain⟨c12b0,H⟩:=H
   obtain⟨ji13,hji13⟩:∃j_:Int,(wrap64 (7-(Int.tmod x13_1 8)))=j_:=⟨_,rfl⟩
   first|rw[hji13] at H|simp only[hji13] at H
   have hji13w:(IntKind.i64.wrap (7-(Int.tmod x13_1 8)))=ji13:=(i64_w _).trans hji13
   replace H:=zIN H
   obtain⟨c14,H⟩:=H
   have c14b0:=eq_true c14
   have c14b1:decide (0≤(ji13))=true:=zE c14
   clear c14
   obtain⟨ji15,hji15⟩:∃j_:Int,(shl .u8 ((rd l0 x13_1)%256) (ji13))=j_:=⟨_,rfl⟩
   first|rw[hji15] at H|simp only[hji15] at H
   have hji15_:(IntKind.u8.wrap (((rd l0 x13_1)%256)*2^min (ji13).toNat 8))=ji15:=hji15
   have hji15z:(ji13)≤8→(IntKind.u8.wrap (((rd l0 x13_1)%256)*2^(ji13).toNat))=ji15:=shl_small hji15
   obtain⟨y217,hy217⟩:∃y_:List Int,y_=(x3_1.set ((ji10):Int).toNat (Go.bits .or .u8 (rd x3_1 (ji10)) (ji15))):=⟨_,rfl⟩
   rw[←hy217] at H
   have Ny217:=zM hy217
   clear hy217
   have H':=zM H
   clear H
   have p215:0≤(x13_1:Int):=zT (by assumption)
   have q215:x13_1<(l0.length:Int):=zT (by assumption)
   obtain⟨ad215,e215,hx215_0⟩:=Kd.at_int HR0.out x13_1 p215 q215
   cases e215
   replace hx215_0:=(HB.out.cell (zW w _ hx215_0)).trans hx215_0
   replace p215:=eq_true p215
   replace q215:=eq_true q215
   try go_wp2
   refine zS2 (zRd HO_3.out) (zBd HB.out) ?_
   clear HO_3 HB
   intro HO_3 HB
   obtain⟨Ao18,co18,eo18⟩:=Kd.R_slice HO_3.out
   (first|subst eo18|(injection eo18 with f1_ f2_ f3_;have f4_:=f1_.symm;have f5_:=f3_.symm;clear f1_ f2_ f3_;subst f4_;subst f5_))
   have p216:0≤((ji10):Int):=zT (by assumption)
   have q216:(ji10)<(x3_1.length:Int):=zT (by assumption)
   obtain⟨ad216,e216,hx216_0⟩:=Kd.at_int (Kd.R_reads' HO_3.out).2.2 (ji10) p216 q216
   cases e216
   replace p216:=eq_true p216
   replace q216:=eq_true q216
   have p16:0≤((ji10):Int):=zT (by assumption)
   have q16:((ji10):Int)<((x3_1.length:Int):Int):=zT (by assumption)
   obtain⟨go16,co16,eo16,gb16,gl16,cl16,HG16⟩:=Kd.R_form HO_3.out (by omega)
   (first|cases eo16|(injection eo16 with ea_ en_ ec_;(first|subst ea_|(injection ea_ with ea_;subst ea_));subst ec_;clear en_))
   have GB16:=zM gb16
   have GG16:=zM HG16
   clear gb16 gl16 HG16
   (first|simp only[add_plain] at hx216_0|skip)
   obtain⟨hx16_0,hf16_0⟩:=Kd.R_celln 0 HO_3.out ((ji10):Int) p16 q16
   replace p16:=eq_true p16
   replace q16:=eq_true q16
   have HP19:=Kd.R_putn HO_3.out ((ji10):Int) (Go.bits .or .u8 (rd x3_1 (ji10)) (ji15))
   rw[←Ny217.out] at HP19
   have HQ19:=zM HP19
   clear HP19
   refine start_ (n:=14) (S:=fun w'=>w'.cell? ⟨go16,((ji10)).toNat,none⟩=some (.int .u8 (rd x3_1 (ji10)))) (ds:=[13]) #[zf,zf,zf,zf,zf,zf,zf,zf,zf,zf,zf,zf,zf,zf] ze rfl rfl (hx216_0) (fun hHeld=> ?_);refine with_tabW impl_pack8.tab5 impl_pack8.bits5 (fun HT_ HW_=> ?_)
   generalize wr.drew=w17 at HO_3 HB GG16 HQ19 hf16_0 hx16_0 hx216_0 hHeld ⊢
   refine zu 0 18 ?_
   refine zu 1 19 ?_
   refine zu 2 20 ?_
   refine zu 3 21 ?_
   refine zu 5 23 ?_
   refine zu 6 24 ?_
   refine zu 7 25 ?_
   refine zu 8 26 ?_
   refine zu 9 27 ?_
   refine zu 10 28 ?_
   refine take_ (i:=4) (N:=some 22) (v:= ?_) (a':= ?_) #[zt,zt,zt,zt,zt,zt,zt,zt,zt,zt,zt,zf,zf,zf] rfl rfl (take_ofW HT_.out HW_.out ze) (fun _ _ _ h=>h) (Or.inl ⟨by rfl,?_⟩) hHeld ?_ ?_
   rotate_left
   ·intro w' s0
    go_simp
    with_reducible rfl
   rotate_left
   ·simp only[Act.put,zL1,zL2,zL3,i64_w,i32_w]
    rfl
   refine zu 11 29 ?_
   refine zu 12 30 ?_
   refine last_ (i:=13) (N:=none) #[zt,zt,zt,zt,zt,zt,zt,zt,zt,zt,zt,zt,zt,zt] rfl rfl (one_of HT_.out ze) (by decide) (fun K hK=> ?_)
   refine skip_ (w1:= ?_) (by rfl) rfl ?_ ?_
   rotate_left
   ·go_simp
    rfl
   refine hK.out _ _ ?_
   clear hK K
   refine done_ (done_of HT_.out ze) ?_
   try go_wp2
   go_roundg k1
   case measure=>have:=HK1.out;omega
   case rel=>exact⟨(y217),(wrap64 (x13_1+1)),zs,H',⟨zl1 HK1⟩,⟨zr HQ19⟩,⟨by repeat(first|(with_reducible first|exact HB.out|apply zBa|apply zBn|apply zBd|refine zBs ?_ GB16.out)|exact HB.out)⟩⟩
end Go.Proofs.Ytapobpkeefeajaa.PFnExactHear
