-- A turned copy of the print's text.
import Derived.Test.YtapobpkeefeajaaPFnExactHearx0
import Derived.Test.YtapobpkeefeajaaPFnExactHearx2
import Derived.Test.YtapobpkeefeajaaPFnExactHearx3
import Derived.Test.YtapobpkeefeajaaPFnExactHearx4
import Derived.Test.YtapobpkeefeajaaPFnExactHearx5
import Derived.Test.YtapobpkeefeajaaPFnExactHearx11
import Derived.Test.YtapobpkeefeajaaPFnExactHearx12
namespace Go.Proofs.Ytapobpkeefeajaa.PFnExactHear
open Go.RowKit Go.Proofs.YtapobpkeefeajaaW.PrintWords Go.Proofs.YtapobpkeefeajaaW.PrintLast Go.Proofs.YtapobpkeefeajaaW.PrintMore
attribute [local go_sem] max2_int min2_int max_two min_two max_three min_three max_four min_four
set_option maxHeartbeats 8000000
set_option maxRecDepth 100000
set_option linter.unusedVariables false
set_option linter.unusedSimpArgs false
theorem hr_bx {ws wc:World} {p:Addr} {v:Value} (hB:Below ws.heap.size ws wc) (h:ws.cell? p=some v):wc.cell? p=some v:=(hB.cell (zW ws _ h)).trans h
def impl_Hear_1.f (a0_0:Int) (a0_1:Int) (a1:Int):Option (Bool):=(impl_size.f a0_0).bind fun t511=>(if t511>(wrap64 (16*a1)) then(some true) else((impl_size.f a0_1).bind fun t512=>(some (decide (t512>(wrap64 (16*a1)))))))
def impl_Hear_1.T1:Bool×List (List Nat×List Nat):=(true,[([],[]),([0],[0]),([1],[1]),([],[]),([3],[3]),([4],[4]),([2,5],[2,5]),([6,2],[6]),([7],[7]),([8,7],[7,8]),([9,7,7],[7,9]),([7],[7]),([11,7],[7,11]),([12,7],[7,12]),([10,13,7],[7,10,13]),([7,14],[7,14]),([15,10,0,1,2,3,4,5,6,7,8,9,10,11,12,13,14,15],[15])])
def impl_Hear_1.B1:List Nat:=[0,1,3,0,8,24,63,127,255,511,1023,255,2303,6399,16383,32767,65535]
theorem impl_Hear_1.tab1:rtab .any (opsOf Try.f55 1)=impl_Hear_1.T1:=by kernel_rfl
theorem impl_Hear_1.bits1:waitsOk impl_Hear_1.T1.2 impl_Hear_1.B1=true:=by kernel_rfl
theorem impl_Hear_1.calls (a0_0:Int) (a0_1:Int) (a1:Int) (r:Bool) (gm:Nat) (w:World) (hgm:w.cell? ⟨gm,5,none⟩=some (.int .i64 a1)) (H:impl_Hear_1.f a0_0 a0_1 a1=some r):
 Calls Try.prog 55 #[.agg #[.int .i64 a0_0, .int .i64 a0_1], .pointer (some ⟨gm,0,none⟩)] w fun e w'=>e= .returned (.bool r)∧Below w.heap.size w w':=by
 have GM:=zM hgm
 clear hgm
 have hu52:=Try.underlying52
 have HB:=zM (Below.refl w.heap.size w)
 unfold impl_Hear_1.f at H
 replace H:=zP H
 obtain⟨t511,A3,H⟩:=H
 replace H:=zI2 H
 rcases H with⟨c4,H⟩|⟨c4,H⟩
 case inl=>
  have c4b0:decide ((wrap64 (16*a1))<t511)=true:=zE c4
  clear c4
  obtain rfl:=zI H
  go_enter Try.func55,Try.ntmps55
  try go_wp2_with (first|((with_reducible refine gate_dst (N:=2) rfl ?_);refine box_event ?hg (N:=2) ?hd (cs:= #[.int .i64 a0_0, .int .i64 a0_1]) (t:=52) ?hr ?_;(case hd|hg=>rfl);(case hr=>exact zh);intro gb510 hg w5 hbox hb;have n0_:=zM (below_step zb hb);have n1_:=zM (hbox);have n2_:=zM ((zw hg (below_size zb)));have n3_:=zM n2_.out;clear HB;have HB:=n0_;have BK510:=n1_;have GW510:=n2_;have GE510:=n3_;clear n0_ n1_ n2_ n3_;clear hb hbox hg))
  refine zS2 (zNd BK510.out) (zBd HB.out) ?_
  clear BK510 HB
  intro BK510 HB
  refine start_ (n:=17) (S:=fun w'=>w'.cell? ⟨gb510,0,none⟩=some (.int .i64 a0_0)∧w'.cell? ⟨gb510,1,none⟩=some (.int .i64 a0_1)∧w'.cell? ⟨gm,5,none⟩=some (.int .i64 a1)) (ds:=[]) #[zf,zf,zf,zf,zf,zf,zf,zf,zf,zf,zf,zf,zf,zf,zf,zf,zf] ze rfl rfl ⟨(blk_cell BK510.out 0).trans rfl,(blk_cell BK510.out 1).trans rfl,hr_bx zb6 GM.out⟩ (fun hHeld=> ?_);refine with_tabW impl_Hear_1.tab1 impl_Hear_1.bits1 (fun HT_ HW_=> ?_)
  generalize w5.drew=w6 at BK510 HB hHeld ⊢
  refine zu 0 4 ?_
  refine zu 3 7 ?_
  refine zt3 4 8 ?_
  refine zu 5 9 ?_
  refine zt3 1 5 ?_
  refine one_ (i:=2) (N:=some 6) #[zt,zt,zt,zt,zt,zt,zf,zf,zf,zf,zf,zf,zf,zf,zf,zf,zf] rfl rfl (one_of HT_.out ze) (by decide) (fun K hK=> ?_)
  refine goes_ Try.func56 ze rfl #[.int .i64 a0_0] (by rfl) rfl rfl zg ?_
  with_reducible refine(impl_size.calls a0_0 t511 _ A3.out).mono ?_
  rintro e w7 ⟨rfl,hb⟩
  refine⟨_,rfl,?_⟩
  refine zS2 (zNb (g:=gb510) (o:= .cells #[.int .i64 a0_0, .int .i64 a0_1] 52 (0,0)) (zn BK510) hb) (below_step zb6 hb) ?_
  clear BK510 HB
  intro BK510 HB
  (try clear hb)
  (try clear hb2)
  (try clear hk)
  (try clear hi)
  refine hK.out _ _ ⟨(blk_cell BK510.out 0).trans rfl,(blk_cell BK510.out 1).trans rfl,hr_bx zb6 GM.out⟩ (fun hHeld=> ?_)
  clear hK K
  refine norm_ (a':= ?_) ?_ ?_
  rotate_left
  ·show Act.put _ (some 6) _=_
   simp only[Act.put,zL1,zL2,zL3,i64_w,i32_w]
   rfl
  refine zu 6 10 ?_
  refine zu 7 11 ?_
  refine pure_ (i:=8) (N:=some 12) (v:=undef) (a':= ?_) #[zt,zt,zt,zt,zt,zt,zt,zt,zt,zf,zf,zf,zf,zf,zf,zf,zf] rfl rfl (any_of HT_.out ze) (fun _ _ _ h=>h) (Or.inr ⟨by rfl,rfl⟩) ?_ ?_
  rotate_left
  ·simp only[Act.put,zL1,zL2,zL3,i64_w,i32_w]
   rfl
  refine pure_ (i:=9) (N:=some 13) (v:=undef) (a':= ?_) #[zt,zt,zt,zt,zt,zt,zt,zt,zt,zt,zf,zf,zf,zf,zf,zf,zf] rfl rfl (any_of HT_.out ze) (fun _ _ _ h=>h) (Or.inr ⟨by rfl,rfl⟩) ?_ ?_
  rotate_left
  ·simp only[Act.put,zL1,zL2,zL3,i64_w,i32_w]
   rfl
  refine pure_ (i:=10) (N:=some 14) (v:=undef) (a':= ?_) #[zt,zt,zt,zt,zt,zt,zt,zt,zt,zt,zt,zf,zf,zf,zf,zf,zf] rfl rfl (any_of HT_.out ze) (fun _ _ _ h=>h) (Or.inr ⟨by rfl,rfl⟩) ?_ ?_
  rotate_left
  ·simp only[Act.put,zL1,zL2,zL3,i64_w,i32_w]
   rfl
  refine pure_ (i:=11) (N:=some 15) (v:=undef) (a':= ?_) #[zt,zt,zt,zt,zt,zt,zt,zt,zt,zt,zt,zt,zf,zf,zf,zf,zf] rfl rfl (any_of HT_.out ze) (fun _ _ _ h=>h) (Or.inr ⟨by rfl,rfl⟩) ?_ ?_
  rotate_left
  ·simp only[Act.put,zL1,zL2,zL3,i64_w,i32_w]
   rfl
  refine pure_ (i:=12) (N:=some 16) (v:=undef) (a':= ?_) #[zt,zt,zt,zt,zt,zt,zt,zt,zt,zt,zt,zt,zt,zf,zf,zf,zf] rfl rfl (any_of HT_.out ze) (fun _ _ _ h=>h) (Or.inr ⟨by rfl,rfl⟩) ?_ ?_
  rotate_left
  ·simp only[Act.put,zL1,zL2,zL3,i64_w,i32_w]
   rfl
  refine pure_ (i:=13) (N:=some 17) (v:=undef) (a':= ?_) #[zt,zt,zt,zt,zt,zt,zt,zt,zt,zt,zt,zt,zt,zt,zf,zf,zf] rfl rfl (any_of HT_.out ze) (fun _ _ _ h=>h) (Or.inr ⟨by rfl,rfl⟩) ?_ ?_
  rotate_left
  ·simp only[Act.put,zL1,zL2,zL3,i64_w,i32_w]
   rfl
  refine pure_ (i:=14) (N:=some 18) (v:=undef) (a':= ?_) #[zt,zt,zt,zt,zt,zt,zt,zt,zt,zt,zt,zt,zt,zt,zt,zf,zf] rfl rfl (any_of HT_.out ze) (fun _ _ _ h=>h) (Or.inr ⟨by rfl,rfl⟩) ?_ ?_
  rotate_left
  ·simp only[Act.put,zL1,zL2,zL3,i64_w,i32_w]
   rfl
  refine zu 15 19 ?_
  refine zu 16 3 ?_
  refine done_ (done_of HT_.out ze) ?_
  try go_wp2
  go_ret
  exact⟨zq,zb6⟩
 have c4b0:decide ((wrap64 (16*a1))<t511)=false:=decide_eq_false c4
 clear c4
 replace H:=zP H
 obtain⟨t512,A8,H⟩:=H
 obtain rfl:=zI H
 go_enter Try.func55,Try.ntmps55
 try go_wp2_with (first|((with_reducible refine gate_dst (N:=2) rfl ?_);refine box_event ?hg (N:=2) ?hd (cs:= #[.int .i64 a0_0, .int .i64 a0_1]) (t:=52) ?hr ?_;(case hd|hg=>rfl);(case hr=>exact zh);intro gb510 hg w9 hbox hb;have n0_:=zM (below_step zb hb);have n1_:=zM (hbox);have n2_:=zM ((zw hg (below_size zb)));have n3_:=zM n2_.out;clear HB;have HB:=n0_;have BK510:=n1_;have GW510:=n2_;have GE510:=n3_;clear n0_ n1_ n2_ n3_;clear hb hbox hg))
 refine zS2 (zNd BK510.out) (zBd HB.out) ?_
 clear BK510 HB
 intro BK510 HB
 refine start_ (n:=17) (S:=fun w'=>w'.cell? ⟨gb510,0,none⟩=some (.int .i64 a0_0)∧w'.cell? ⟨gb510,1,none⟩=some (.int .i64 a0_1)∧w'.cell? ⟨gm,5,none⟩=some (.int .i64 a1)) (ds:=[]) #[zf,zf,zf,zf,zf,zf,zf,zf,zf,zf,zf,zf,zf,zf,zf,zf,zf] ze rfl rfl ⟨(blk_cell BK510.out 0).trans rfl,(blk_cell BK510.out 1).trans rfl,hr_bx zb6 GM.out⟩ (fun hHeld=> ?_);refine with_tabW impl_Hear_1.tab1 impl_Hear_1.bits1 (fun HT_ HW_=> ?_)
 generalize w9.drew=w10 at BK510 HB hHeld ⊢
 refine zu 0 4 ?_
 refine zu 3 7 ?_
 refine zt3 4 8 ?_
 refine zu 5 9 ?_
 refine zt3 1 5 ?_
 refine one_ (i:=2) (N:=some 6) #[zt,zt,zt,zt,zt,zt,zf,zf,zf,zf,zf,zf,zf,zf,zf,zf,zf] rfl rfl (one_of HT_.out ze) (by decide) (fun K hK=> ?_)
 refine goes_ Try.func56 ze rfl #[.int .i64 a0_0] (by rfl) rfl rfl zg ?_
 with_reducible refine(impl_size.calls a0_0 t511 _ A3.out).mono ?_
 rintro e w11 ⟨rfl,hb⟩
 refine⟨_,rfl,?_⟩
 refine zS2 (zNb (g:=gb510) (o:= .cells #[.int .i64 a0_0, .int .i64 a0_1] 52 (0,0)) (zn BK510) hb) (below_step zb6 hb) ?_
 clear BK510 HB
 intro BK510 HB
 (try clear hb)
 (try clear hb2)
 (try clear hk)
 (try clear hi)
 refine hK.out _ _ ⟨(blk_cell BK510.out 0).trans rfl,(blk_cell BK510.out 1).trans rfl,hr_bx zb6 GM.out⟩ (fun hHeld=> ?_)
 clear hK K
 refine norm_ (a':= ?_) ?_ ?_
 rotate_left
 ·show Act.put _ (some 6) _=_
  simp only[Act.put,zL1,zL2,zL3,i64_w,i32_w]
  rfl
 refine zu 6 10 ?_
 refine zu 7 11 ?_
 refine zu 8 12 ?_
 refine zu 11 15 ?_
 refine zt3 12 16 ?_
 refine zu 13 17 ?_
 refine zt3 9 13 ?_
 refine one_ (i:=10) (N:=some 14) #[zt,zt,zt,zt,zt,zt,zt,zt,zt,zt,zt,zt,zt,zt,zf,zf,zf] rfl rfl (one_of HT_.out ze) (by decide) (fun K hK=> ?_)
 refine goes_ Try.func56 ze rfl #[.int .i64 a0_1] (by rfl) rfl rfl zg ?_
 with_reducible refine(impl_size.calls a0_1 t512 _ A8.out).mono ?_
 rintro e w12 ⟨rfl,hb⟩
 refine⟨_,rfl,?_⟩
 refine zS2 (zNb (g:=gb510) (o:= .cells #[.int .i64 a0_0, .int .i64 a0_1] 52 (0,0)) (zn BK510) hb) (below_step zb6 hb) ?_
 clear BK510 HB
 intro BK510 HB
 (try clear hb)
 (try clear hb2)
 (try clear hk)
 (try clear hi)
 refine hK.out _ _ ⟨(blk_cell BK510.out 0).trans rfl,(blk_cell BK510.out 1).trans rfl,hr_bx zb6 GM.out⟩ (fun hHeld=> ?_)
 clear hK K
 refine norm_ (a':= ?_) ?_ ?_
 rotate_left
 ·show Act.put _ (some 14) _=_
  simp only[Act.put,zL1,zL2,zL3,i64_w,i32_w]
  rfl
 refine zu 14 18 ?_
 refine zu 15 19 ?_
 refine zu 16 3 ?_
 refine done_ (done_of HT_.out ze) ?_
 try go_wp2
 go_ret
 exact⟨zq,zb6⟩
theorem hr_size (a:Int):∃b,impl_size.f a=some b:=by
 unfold impl_size.f
 exact⟨_,rfl⟩
def hrFar (si:Int) (p:S52):Bool:=impl_Hear_1.f p.f0 p.f1 si==some true
theorem hrFar_eq (si:Int) (p:S52):impl_Hear_1.f p.f0 p.f1 si=some (hrFar si p):=by
 obtain⟨b0,h0⟩:=hr_size p.f0
 obtain⟨b1,h1⟩:=hr_size p.f1
 have e:impl_Hear_1.f p.f0 p.f1 si=some (decide (b0>wrap64 (16*si))||decide (b1>wrap64 (16*si))):=by
  unfold impl_Hear_1.f
  rw[h0,h1]
  simp only[Option.bind_some]
  by_cases hb:b0>wrap64 (16*si)
  case pos=>rw[if_pos hb,zE hb];rfl
  rw[if_neg hb,decide_eq_false hb];rfl
 unfold hrFar
 rw[e]
 cases(decide (b0>wrap64 (16*si))||decide (b1>wrap64 (16*si)))<;>rfl
/-- The first place of a list where something is far, or -1. -/
def hrIdx (si:Int):List S52→Int→Int
 |[],_=> -1
 |p::xs,i=>if hrFar si p=true then i else hrIdx si xs (i+1)
def impl_Point_54.f (l0:List S52) (a1:Int):Option Int:=if l0.length≤9000000000000000000 then some (hrIdx a1 l0 0) else none
theorem hrDrop {xs:List S52} {i:Nat} (h:i<xs.length):xs.drop i=rd_T52 xs (i:Int)::xs.drop (i+1):=by
 rw[show rd_T52 xs (i:Int)=xs[i] by simp[rd_T52,List.getD_eq_getElem?_getD,h]];exact List.drop_eq_getElem_cons h
set_option maxHeartbeats 4000000 in
theorem hr_index (A0:Option Addr) (c0:Nat) (l0:List S52) (si r:Int) (gm:Nat) (w:World) (hgm:w.cell? ⟨gm,5,none⟩=some (.int .i64 si)) (hr0:Kd.C k52 w A0 l0.length l0) (hc0:l0.length≤c0) (h:impl_Point_54.f l0 si=some r):
 Calls Try.prog 54 #[.slice A0 l0.length c0, .func (.func 55) #[] #[.pointer (some ⟨gm,0,none⟩)]] w fun e w'=>e= .returned (.int .i64 r)∧Below w.heap.size w w':=by
 have hm:l0.length≤9000000000000000000:=by
  by_cases hq:l0.length≤9000000000000000000
  case pos=>exact hq
  unfold impl_Point_54.f at h;rw[if_neg hq] at h;exact absurd h (by simp)
 unfold impl_Point_54.f at h
 rw[if_pos hm] at h
 have HRr:=zM (zI h)
 clear h
 have HR0:=zM hr0
 have GM:=zM hgm
 have HM:=zM hm
 clear hr0 hgm hm
 go_enter Try.func54,Try.ntmps54
 go_wp2
 go_loopw [8] (fun v w'=>∃(x:Int),v= .int .i64 x∧Aside0 (Below w.heap.size w w')∧Aside0 (hrIdx si (l0.drop x.toNat) x=r)∧Aside0 (0≤x∧x≤(l0.length:Int))) (fun v _=>l0.length-(match v with| .int _ n=>n.toNat|_=>0))
 case atStart=>exact⟨0,rfl,⟨Below.refl _ _⟩,⟨HRr.out⟩,⟨by omega⟩⟩
 case round=>
  obtain⟨x,rfl,HB,HT,HI⟩:=hrel
  by_cases hi:x<(l0.length:Int)
  case neg=>
   have hlt:decide (x<(l0.length:Int))=false:=decide_eq_false hi
   have HQ:=zM hi
   clear hi
   go_wp2
   go_ret
   have h1:=HT.out
   rw[List.drop_of_length_le (zl2 HQ HI),hrIdx] at h1
   subst h1
   exact⟨by first|rfl|simp,HB.out⟩
  have hlt:decide (x<(l0.length:Int))=true:=zE hi
  obtain⟨ad,e1,hx0,hx1⟩:=at_T52 HR0.out x HI.out.1 hi
  subst e1
  replace hx0:=(HB.out.cell (zW w _ hx0)).trans hx0
  replace hx1:=(HB.out.cell (zW w _ hx1)).trans hx1
  have HP:=zM (hrFar_eq si (rd_T52 l0 x))
  have p1:=eq_true HI.out.1
  have q1:=eq_true hi
  have HQ:=zM hi
  have hd:hrIdx si (l0.drop x.toNat) x=if hrFar si (rd_T52 l0 x)=true then x else hrIdx si (l0.drop (x+1).toNat) (x+1):=by
   have:=hrDrop (xs:=l0) (i:=x.toNat) (zl1 HI)
   rw[Int.toNat_of_nonneg HI.out.1] at this
   rw[this,hrIdx,show(x+1).toNat=x.toNat+1 by have:=HI.out;omega]
  have HD:=zM hd
  have hw:wrap64 (x+1)=x+1:=by have:=HI.out;have:=HM.out;unfold wrap64;omega
  have HW:=zM hw
  clear hi hd hw
  cases hp:hrFar si (rd_T52 l0 x) with
  |false=>
   rw[hp] at HP HD
   go_wp2_with (go_at_call 55;(with_reducible refine(impl_Hear_1.calls _ _ si false gm _ (hr_bx HB.out GM.out) HP.out).mono ?_);rintro e w3 ⟨rfl,hb3⟩)
   go_roundw
   case rel=>exact⟨x+1,by first|rfl|rw[HW.out],⟨below_step HB.out hb3⟩,⟨by have h1:=HD.out;rw[if_neg (by decide)] at h1;rw[←h1];exact HT.out⟩,⟨zl2 HI HQ⟩⟩
   case measure=>have:=HI.out;have:=HQ.out;have:=HW.out;first|(simp only[this];omega)|(simp;omega)|omega
  |true=>
   rw[hp] at HP HD
   go_wp2_with (go_at_call 55;(with_reducible refine(impl_Hear_1.calls _ _ si true gm _ (hr_bx HB.out GM.out) HP.out).mono ?_);rintro e w3 ⟨rfl,hb3⟩)
   go_ret
   have h1:hrIdx si (l0.drop x.toNat) x=x:=by have h2:=HD.out;simpa using h2
   have hr:r=x:=by rw[←HT.out,h1]
   subst hr
   exact⟨by first|rfl|simp,below_step HB.out hb3⟩
theorem cut_tom {P:Program} (t e:TypeId) (kh km:IntKind) {i:TypeInfo} (ht:P.underlying t=some (.slice e)) (hi:P.info? e=some i) (A:Option Addr) (n c:Nat) (j:Int) (h0:0≤j) (hm:j≤n) (hc:n≤c):
 ∀W:World,(Instr.slice t (.slice A n c) none (some (.int kh j)) (some (.int km j))).run P W= .ok (.slice A j.toNat j.toNat) W:=by
 intro W
 have hel:P.elem t=e:=by simp[Program.elem,ht]
 have hu:P.underlying t=some (.slice (P.elem t)):=by rw[hel];exact ht
 have ha:(A.map fun x=>x.add 0)=A:=by cases A<;>simp[Addr.add]
 rw[run_slice_hm W t A n c hu kh km j j h0 (by omega) (by omega),hel]
 simp[sizeOf,typeInfo,hi,sliced,Result.andThen,ha]
theorem hr_out {e:Ending} {w w':World} {r1:List Int} {r2:Int} {r3:Bool} (h:∃v0_:Value,e= .returned (.tuple #[v0_, .int .i64 r2, .bool r3])∧Kd.R (Kd.int .u8) 5 w' w.heap.size (fun _=>True) v0_ r1∧Below w.heap.size w w'):
 ∃(A_:Option Addr) (c_ d_:Nat),e= .returned (.tuple #[.slice A_ r1.length c_, .int .i64 r2, .bool r3])∧Kd.R (Kd.int .u8) 5 w' w.heap.size (fun _=>True) (.slice A_ r1.length d_) r1∧r1.length≤c_∧Below w.heap.size w w':=by
 obtain⟨v,h1,h2,h3⟩:=h
 obtain⟨A,c,rfl⟩:=Kd.R_slice h2
 have h4:=Kd.R_reads' h2
 exact⟨A,c,c,h1,h2,h4.2.1,h3⟩
mutual
def impl_Hear.j0:Nat→List (S52)→Int→Bool→Int→Int→Int→Int→Int→Int→Option (List Int×Int×Bool)
 |0,_,_,_,_,_,_,_,_,_=>none
 |k+1,x1,x2,x35,x572000,x572001,x572002,x572003,x572004,x572005=>if x35=true then(some (([]:List Int),0,false)) else((impl_Point_54.f x1 x572005).bind fun t575=>(if x572000=0 then(none) else(if t575<0 then(impl_Hear.j1 k x1 x2 t575 (wrap64 (8*(wrap64 (x2+(wrap64 (2*x572001)))))) (wrap64 (Int.tdiv (wrap64 ((wrap64 ((wrap64 (8*(wrap64 (x2+(wrap64 (2*x572001))))))+x572000))-1)) x572000)) true x572000 x572001 x572002 x572003 x572004 x572005) else(impl_Hear.j1 k x1 x2 t575 (wrap64 (8*(wrap64 (x2+(wrap64 (2*x572001)))))) (wrap64 (Int.tdiv (wrap64 ((wrap64 ((wrap64 (8*(wrap64 (x2+(wrap64 (2*x572001))))))+x572000))-1)) x572000)) (decide ((wrap64 ((x1.length:Int)-t575))<(wrap64 (x572004*(wrap64 (1+(wrap64 (Int.tdiv (wrap64 ((wrap64 ((wrap64 (8*(wrap64 (x2+(wrap64 (2*x572001))))))+x572000))-1)) x572000)))))))) x572000 x572001 x572002 x572003 x572004 x572005))))
def impl_Hear.j1:Nat→List (S52)→Int→Int→Int→Int→Bool→Int→Int→Int→Int→Int→Int→Option (List Int×Int×Bool)
 |0,_,_,_,_,_,_,_,_,_,_,_,_=>none
 |k+1,x1,x2,x9,x10,x11,x66,x572000,x572001,x572002,x572003,x572004,x572005=>if x66=true then(some (([]:List Int),0,false)) else(if 0≤x9 then(if x9≤(wrap64 (x9+x572004)) then(if(wrap64 (x9+x572004))≤(x1.length:Int) then((impl_sum.f k ((x1.take ((wrap64 (x9+x572004)):Int).toNat).drop (x9:Int).toNat)).bind fun bt580=>((impl_size.f bt580.1).bind fun t583=>((impl_size.f bt580.2).bind fun t584=>(if t583≥t584 then(if bt580.1≤0 then(impl_Hear.j2 k x1 x2 x9 x10 x11 2 x572000 x572001 x572002 x572003 x572004 x572005) else(impl_Hear.j2 k x1 x2 x9 x10 x11 0 x572000 x572001 x572002 x572003 x572004 x572005)) else(if bt580.2>0 then(impl_Hear.j2 k x1 x2 x9 x10 x11 1 x572000 x572001 x572002 x572003 x572004 x572005) else(impl_Hear.j2 k x1 x2 x9 x10 x11 3 x572000 x572001 x572002 x572003 x572004 x572005)))))) else(none)) else(none)) else(none))
def impl_Hear.j2:Nat→List (S52)→Int→Int→Int→Int→Int→Int→Int→Int→Int→Int→Int→Option (List Int×Int×Bool)
 |0,_,_,_,_,_,_,_,_,_,_,_,_=>none
 |k+1,x1,x2,x9,x10,x11,x13,x572000,x572001,x572002,x572003,x572004,x572005=>impl_Hear.l0 k x1 x2 x9 x10 x13 ([]:List (S52)) x11 0 x572000 x572001 x572002 x572003 x572004 x572005
def impl_Hear.l0:Nat→List (S52)→Int→Int→Int→Int→List (S52)→Int→Int→Int→Int→Int→Int→Int→Int→Option (List Int×Int×Bool)
 |0,_,_,_,_,_,_,_,_,_,_,_,_,_,_=>none
 |k+1,x1,x2,x9,x10,x13,x14,x90,x91,x572000,x572001,x572002,x572003,x572004,x572005=>if x91<x90 then(if 0≤(wrap64 (x9+(wrap64 (x572004*(wrap64 (1+x91)))))) then(if(wrap64 (x9+(wrap64 (x572004*(wrap64 (1+x91))))))≤(wrap64 ((wrap64 (x9+(wrap64 (x572004*(wrap64 (1+x91))))))+x572004)) then(if(wrap64 ((wrap64 (x9+(wrap64 (x572004*(wrap64 (1+x91))))))+x572004))≤(x1.length:Int) then((impl_sum.f k ((x1.take ((wrap64 ((wrap64 (x9+(wrap64 (x572004*(wrap64 (1+x91))))))+x572004)):Int).toNat).drop ((wrap64 (x9+(wrap64 (x572004*(wrap64 (1+x91)))))):Int).toNat)).bind fun bt589=>((impl_turned.f k bt589.1 bt589.2 (Int.tmod (wrap64 (4-x13)) 4)).bind fun bt591=>((impl_RoundDiv.f k bt591.1 (wrap64 (x572004*x572005))).bind fun t594=>((impl_RoundDiv.f k bt591.2 (wrap64 (x572004*x572005))).bind fun t595=>(if x14.length<8796093022208 then(impl_Hear.l0 k x1 x2 x9 x10 x13 (x14++[(⟨t594,t595⟩:S52)]) x90 (wrap64 (x91+1)) x572000 x572001 x572002 x572003 x572004 x572005) else(none)))))) else(none)) else(none)) else(none)) else((impl_Decide.f k x572000 x14).bind fun bt599=>(if 0≤x10 then(if x10≤(bt599.1.length:Int) then((impl_Stir.f k (bt599.1.take (x10:Int).toNat) 46080 x572003).bind fun bt607=>((impl_Unweave.f k bt607.1 x572002).bind fun bt611=>((impl_pack8.f k bt611.1).bind fun t615=>((impl_RsMend.f k t615 x572001).bind fun bt618=>(if bt618.2.2=true then(if 0≤x2 then(if x2≤(bt618.1.length:Int) then(some ((bt618.1.take (x2:Int).toNat),bt618.2.1,true)) else(none)) else(none)) else(some (([]:List Int),0,false))))))) else(none)) else(none)))
end
def impl_Hear.f (k:Nat) (a0_0:Int) (a0_1:Int) (a0_2:Int) (a0_3:Int) (a0_4:Int) (a0_5:Int) (l1:List (S52)) (a2:Int):Option (List Int×Int×Bool):=(impl_ModemOk.f a0_0 a0_1 a0_2 a0_3 a0_4 a0_5).bind fun t572=>(if t572=true then((impl_burstOk.f l1).bind fun t573=>(if t573=true then((impl_sentOk.f a2).bind fun t574=>(impl_Hear.j0 k l1 a2 (!t574) a0_0 a0_1 a0_2 a0_3 a0_4 a0_5)) else(impl_Hear.j0 k l1 a2 true a0_0 a0_1 a0_2 a0_3 a0_4 a0_5))) else(impl_Hear.j0 k l1 a2 true a0_0 a0_1 a0_2 a0_3 a0_4 a0_5))
def impl_Hear.T11:Bool×List (List Nat×List Nat):=(true,[([],[]),([0],[0]),([1],[1]),([],[]),([3],[3]),([4,2],[4]),([2,5],[2,5]),([6,5],[6])])
def impl_Hear.B11:List Nat:=[0,1,3,0,8,31,63,127]
theorem impl_Hear.tab11:rtab .any (opsOf Try.f20 11)=impl_Hear.T11:=by kernel_rfl
theorem impl_Hear.bits11:waitsOk impl_Hear.T11.2 impl_Hear.B11=true:=by kernel_rfl
def impl_Hear.T22:Bool×List (List Nat×List Nat):=(true,[([],[]),([],[]),([1],[1]),([],[]),([3],[3]),([],[]),([5],[5]),([4,6],[4,6]),([2,7],[2,7]),([],[]),([9],[9]),([],[]),([11],[11]),([],[]),([13],[13]),([12,14],[12,14]),([10,15,8],[10,15]),([8,16],[8,16]),([17],[17]),([0,18,16],[0,18]),([19,19,0,1,2,3,4,5,6,7,8,9,10,11,12,13,14,15,16,17,18,19],[0,19])])
def impl_Hear.B22:List Nat:=[0,0,2,0,8,0,32,120,254,0,512,0,2048,0,8192,30720,65534,131070,262142,524287,1048575]
theorem impl_Hear.tab22:rtab .any (opsOf Try.f20 22)=impl_Hear.T22:=by kernel_rfl
theorem impl_Hear.bits22:waitsOk impl_Hear.T22.2 impl_Hear.B22=true:=by kernel_rfl
def impl_Hear.T25:Bool×List (List Nat×List Nat):=(true,[([],[]),([],[]),([0,1],[0,1]),([],[]),([3],[3]),([2,4],[2,4]),([5],[5]),([6],[6]),([6],[6]),([7,5,0,1,2,3,4,5,6,7],[0,7])])
def impl_Hear.B25:List Nat:=[0,0,3,0,8,31,63,127,127,255]
theorem impl_Hear.tab25:rtab .any (opsOf Try.f20 25)=impl_Hear.T25:=by kernel_rfl
theorem impl_Hear.bits25:waitsOk impl_Hear.T25.2 impl_Hear.B25=true:=by kernel_rfl
def impl_Hear.T27:Bool×List (List Nat×List Nat):=(true,[([],[]),([0],[0]),([],[]),([2],[2]),([1,3,1],[1,3]),([4],[4]),([5],[5]),([5],[5]),([5],[5]),([6,4,0,1,2,3,4,5,6],[6]),([7,9,0,1,2,3,4,5,6,7,9],[7]),([8,10,0,1,2,3,4,5,6,7,8,9,10],[8])])
def impl_Hear.B27:List Nat:=[0,1,0,4,15,31,63,63,63,127,767,2047]
theorem impl_Hear.tab27:rtab .any (opsOf Try.f20 27)=impl_Hear.T27:=by kernel_rfl
theorem impl_Hear.bits27:waitsOk impl_Hear.T27.2 impl_Hear.B27=true:=by kernel_rfl
theorem impl_Hear.calls (k:Nat) (a0_0:Int) (a0_1:Int) (a0_2:Int) (a0_3:Int) (a0_4:Int) (a0_5:Int) (A1:Option Addr) (c1:Nat) (l1:List (S52)) (a2:Int) (r1:List Int) (r2:Int) (r3:Bool) (w:World) (hr1:Kd.C k52 w A1 l1.length l1) (hc1:l1.length≤c1) (H:impl_Hear.f k a0_0 a0_1 a0_2 a0_3 a0_4 a0_5 l1 a2=some (r1,r2,r3)):
 Calls Try.prog 20 #[.agg #[.int .i64 a0_0, .int .i64 a0_1, .int .i64 a0_2, .int .i64 a0_3, .int .i64 a0_4, .int .i64 a0_5], .slice A1 l1.length c1, .int .i64 a2] w fun e w'=>∃(A_:Option Addr) (c_ d_:Nat),e= .returned (.tuple #[.slice A_ r1.length c_, .int .i64 r2, .bool r3])∧Kd.R (Kd.int .u8) 5 w' w.heap.size (fun _=>True) (.slice A_ r1.length d_) r1∧r1.length≤c_∧Below w.heap.size w w':=by
 have hu28:=Try.underlying28
 have hu52:=Try.underlying52
 have HR1:=zM hr1
 have HC1:=zM hc1
 clear hr1 hc1
 have HB:=zM (Below.refl w.heap.size w)
 unfold impl_Hear.f at H
 have HC4:=zM H
 clear H
 go_enter Try.func20,Try.ntmps20
 go_upto_region 1 with(first|((with_reducible refine gate_dst (N:=3) rfl ?_);(try(refine gate_guard (by rfl) ?_;dsimp only));refine box_event ?hg (N:=3) ?hd (cs:= #[.int .i64 a0_0, .int .i64 a0_1, .int .i64 a0_2, .int .i64 a0_3, .int .i64 a0_4, .int .i64 a0_5]) (t:=28) ?hr ?_;(case hd|hg=>rfl);(case hr=>exact zh);intro gb571 hg w5 hbox hb;have n0_:=zM (below_step zb hb);have n1_:=zM (hbox);have n2_:=zM ((zw hg (below_size zb)));have n3_:=zM n2_.out;clear HB;have HB:=n0_;have BK571:=n1_;have GW571:=n2_;have GE571:=n3_;clear n0_ n1_ n2_ n3_;clear hb hbox hg))
 (try simp only[Act.put,zL1,zL2,zL3])
 go_cut [35] (fun v35 wc=>∃(kq:Nat) (x35_3:Bool),v35= .bool x35_3∧Aside0 (impl_Hear.j0 kq l1 a2 x35_3 a0_0 a0_1 a0_2 a0_3 a0_4 a0_5=some (r1,r2,r3))∧Aside0 (kq≤k)∧Aside0 (wc.heap[gb571]? =some (.cells #[.int .i64 a0_0, .int .i64 a0_1, .int .i64 a0_2, .int .i64 a0_3, .int .i64 a0_4, .int .i64 a0_5] 28 (0,0)))∧Aside0 (Below w.heap.size w wc))
 case first=>
  have H:=HC4.out
  clear HC4
  replace H:=zP H
  obtain⟨t572,A6,H⟩:=H
  by_cases c7:t572=true
  case neg=>
   replace c7:=Bool.eq_false_iff.mpr c7
   subst c7
   rw[if_neg zFT] at H
   have H':=zM H
   clear H
   obtain⟨hcz17_0,hcz17_1,hcz17_2,hcz17_3,hcz17_4,hcz17_5,hfz17_0,hfz17_1,hfz17_2,hfz17_3,hfz17_4,hfz17_5⟩:=zc6 BK571.out
   go_wp2_with (first|((with_reducible refine gate_callee (f:=36) rfl ?_);refine goesL_ (some 24) rfl rfl Try.func36 ze rfl #[.agg #[.int .i64 a0_0, .int .i64 a0_1, .int .i64 a0_2, .int .i64 a0_3, .int .i64 a0_4, .int .i64 a0_5]] rfl zg ?_;(with_reducible refine(impl_ModemOk.calls a0_0 a0_1 a0_2 a0_3 a0_4 a0_5 false _ A6.out).mono ?_);rintro e w18 ⟨rfl,hb⟩;refine⟨_,rfl,?_⟩;refine zS2 (zNb (g:=gb571) (o:= .cells #[.int .i64 a0_0, .int .i64 a0_1, .int .i64 a0_2, .int .i64 a0_3, .int .i64 a0_4, .int .i64 a0_5] 28 (0,0)) (zn BK571) hb) (below_step zb7 hb) ?_;clear BK571 HB;intro BK571 HB;(try clear hb);(try clear hb2);(try clear hk);(try clear hi)))
   go_meet
   case rel=>exact⟨_,(true),zs,H',⟨zo⟩,⟨zn BK571⟩,⟨zb7⟩⟩
  subst c7
  rw[if_pos rfl] at H
  replace H:=zP H
  obtain⟨t573,A8,H⟩:=H
  by_cases c9:t573=true
  case neg=>
   replace c9:=Bool.eq_false_iff.mpr c9
   subst c9
   rw[if_neg zFT] at H
   have H':=zM H
   clear H
   obtain⟨hcz14_0,hcz14_1,hcz14_2,hcz14_3,hcz14_4,hcz14_5,hfz14_0,hfz14_1,hfz14_2,hfz14_3,hfz14_4,hfz14_5⟩:=zc6 BK571.out
   go_wp2_with (first|((with_reducible refine gate_callee (f:=36) rfl ?_);refine goesL_ (some 24) rfl rfl Try.func36 ze rfl #[.agg #[.int .i64 a0_0, .int .i64 a0_1, .int .i64 a0_2, .int .i64 a0_3, .int .i64 a0_4, .int .i64 a0_5]] rfl zg ?_;(with_reducible refine(impl_ModemOk.calls a0_0 a0_1 a0_2 a0_3 a0_4 a0_5 true _ A6.out).mono ?_);rintro e w15 ⟨rfl,hb⟩;refine⟨_,rfl,?_⟩;refine zS2 (zNb (g:=gb571) (o:= .cells #[.int .i64 a0_0, .int .i64 a0_1, .int .i64 a0_2, .int .i64 a0_3, .int .i64 a0_4, .int .i64 a0_5] 28 (0,0)) (zn BK571) hb) (below_step zb7 hb) ?_;clear BK571 HB;intro BK571 HB;(try clear hb);(try clear hb2);(try clear hk);(try clear hi))|(go_at_call 52;(with_reducible refine(impl_burstOk.calls _ _ l1 false _ ?side1 ?side2 A8.out).mono ?_);(case side1=>exact zc (Kd.C_below HR1.out HB.out));(case side2=>exact HC1.out);rintro e w16 ⟨rfl,hb⟩;refine zS2 (zNb (g:=gb571) (o:= .cells #[.int .i64 a0_0, .int .i64 a0_1, .int .i64 a0_2, .int .i64 a0_3, .int .i64 a0_4, .int .i64 a0_5] 28 (0,0)) (zn BK571) hb) (below_step zb7 hb) ?_;clear BK571 HB;intro BK571 HB;(try clear hb);(try clear hb2);(try clear hk);(try clear hi)))
   go_meet
   case rel=>exact⟨_,(true),zs,H',⟨zo⟩,⟨zn BK571⟩,⟨zb7⟩⟩
  subst c9
  rw[if_pos rfl] at H
  replace H:=zP H
  obtain⟨t574,A10,H⟩:=H
  have H':=zM H
  clear H
  obtain⟨hcz11_0,hcz11_1,hcz11_2,hcz11_3,hcz11_4,hcz11_5,hfz11_0,hfz11_1,hfz11_2,hfz11_3,hfz11_4,hfz11_5⟩:=zc6 BK571.out
  go_wp2_with (first|((with_reducible refine gate_callee (f:=36) rfl ?_);refine goesL_ (some 24) rfl rfl Try.func36 ze rfl #[.agg #[.int .i64 a0_0, .int .i64 a0_1, .int .i64 a0_2, .int .i64 a0_3, .int .i64 a0_4, .int .i64 a0_5]] rfl zg ?_;(with_reducible refine(impl_ModemOk.calls a0_0 a0_1 a0_2 a0_3 a0_4 a0_5 true _ A6.out).mono ?_);rintro e w12 ⟨rfl,hb⟩;refine⟨_,rfl,?_⟩;refine zS2 (zNb (g:=gb571) (o:= .cells #[.int .i64 a0_0, .int .i64 a0_1, .int .i64 a0_2, .int .i64 a0_3, .int .i64 a0_4, .int .i64 a0_5] 28 (0,0)) (zn BK571) hb) (below_step zb7 hb) ?_;clear BK571 HB;intro BK571 HB;(try clear hb);(try clear hb2);(try clear hk);(try clear hi))|(go_at_call 52;(with_reducible refine(impl_burstOk.calls _ _ l1 true _ ?side1 ?side2 A8.out).mono ?_);(case side1=>exact zc (Kd.C_below HR1.out HB.out));(case side2=>exact HC1.out);rintro e w13 ⟨rfl,hb⟩;refine zS2 (zNb (g:=gb571) (o:= .cells #[.int .i64 a0_0, .int .i64 a0_1, .int .i64 a0_2, .int .i64 a0_3, .int .i64 a0_4, .int .i64 a0_5] 28 (0,0)) (zn BK571) hb) (below_step zb7 hb) ?_;clear BK571 HB;intro BK571 HB;(try clear hb);(try clear hb2);(try clear hk);(try clear hi))|(go_at_call 37;(with_reducible refine(impl_sentOk.calls a2 t574 _ A10.out).mono ?_);rintro e w' ⟨rfl,⟨nd,rfl⟩⟩))
  go_meet
  case rel=>exact⟨_,(!t574),zs,H',⟨zo⟩,⟨zn BK571⟩,⟨zb7⟩⟩
 case rest =>
  clear HC4
  try clear c1
  try clear c2
  try clear p2
  try clear c3
  try clear c7
  try clear c9
  try clear hcz11_0
  try clear hcz11_1
  try clear hcz11_2
  try clear hcz11_3
  try clear hcz11_4
  try clear hcz11_5
  try clear hcz14_0
  try clear hcz14_1
  try clear hcz14_2
  try clear hcz14_3
  try clear hcz14_4
  try clear hcz14_5
  try clear hcz17_0
  try clear hcz17_1
  try clear hcz17_2
  try clear hcz17_3
  try clear hcz17_4
  try clear hcz17_5
  try clear hfz11_0
  try clear hfz11_1
  try clear hfz11_2
  try clear hfz11_3
  try clear hfz11_4
  try clear hfz11_5
  try clear hfz14_0
  try clear hfz14_1
  try clear hfz14_2
  try clear hfz14_3
  try clear hfz14_4
  try clear hfz14_5
  try clear hfz17_0
  try clear hfz17_1
  try clear hfz17_2
  try clear hfz17_3
  try clear hfz17_4
  try clear hfz17_5
  obtain⟨kq,x35_3,rfl,HA,HJ3,BK571,HB⟩:=hcut
  cases kq with
  |zero=>exact absurd HA.out (by simp[impl_Hear.j0])
  | succ kj3=>
   have H:=HA.out
   clear HA
   simp only[impl_Hear.j0] at H
   by_cases c19:x35_3=true
   case pos=>
    subst c19
    rw[if_pos rfl] at H
    simp only[Option.some.injEq,Prod.mk.injEq] at H
    obtain⟨rfl,rfl,rfl⟩:=H
    go_wp2
    go_ret3
    refine hr_out ?_
    exact⟨_,zq,zz,zb7⟩
   replace c19:=Bool.eq_false_iff.mpr c19
   subst c19
   rw[if_neg zFT] at H
   replace H:=zP H
   obtain⟨t575,A20,H⟩:=H
   replace H:=zI2 H
   rcases H with⟨c21,H⟩|⟨c21,H⟩
   case inl=>
    exact absurd H (by simp)
   have c21b0:(a0_0==0)=false:=beq_eq_false_iff_ne.mpr c21
   have c21b1:(a0_0 != 0)=true:=bne_iff_ne.mpr c21
   have HC22:=zM H
   clear H
   obtain⟨hcz23_0,hcz23_1,hcz23_2,hcz23_3,hcz23_4,hcz23_5,hfz23_0,hfz23_1,hfz23_2,hfz23_3,hfz23_4,hfz23_5⟩:=zc6 BK571.out
   go_upto_region 6 with(first|(go_at_call 54;(with_reducible refine(hr_index _ _ l1 a0_5 t575 gb571 _ ?sideg ?side1 ?side2 A20.out).mono ?_);(case sideg=>exact(blk_cell BK571.out 5).trans rfl);(case side1=>exact zc (Kd.C_below HR1.out HB.out));(case side2=>exact HC1.out);rintro e w24 ⟨rfl,hb⟩;refine zS2 (zNb (g:=gb571) (o:= .cells #[.int .i64 a0_0, .int .i64 a0_1, .int .i64 a0_2, .int .i64 a0_3, .int .i64 a0_4, .int .i64 a0_5] 28 (0,0)) (zn BK571) hb) (below_step zb7 hb) ?_;clear BK571 HB;intro BK571 HB;(try clear hb);(try clear hb2);(try clear hk);(try clear hi);obtain⟨hcz25_0,hcz25_1,hcz25_2,hcz25_3,hcz25_4,hcz25_5,hfz25_0,hfz25_1,hfz25_2,hfz25_3,hfz25_4,hfz25_5⟩:=zc6 BK571.out))
   (try simp only[Act.put,zL1,zL2,zL3])
   go_cut [66] (fun v66 wc=>∃(kq:Nat) (x66_21:Bool),v66= .bool x66_21∧Aside0 (impl_Hear.j1 kq l1 a2 t575 (wrap64 (8*(wrap64 (a2+(wrap64 (2*a0_1)))))) (wrap64 (Int.tdiv (wrap64 ((wrap64 ((wrap64 (8*(wrap64 (a2+(wrap64 (2*a0_1))))))+a0_0))-1)) a0_0)) x66_21 a0_0 a0_1 a0_2 a0_3 a0_4 a0_5=some (r1,r2,r3))∧Aside0 (kq≤kj3)∧Aside0 (wc.heap[gb571]? =some (.cells #[.int .i64 a0_0, .int .i64 a0_1, .int .i64 a0_2, .int .i64 a0_3, .int .i64 a0_4, .int .i64 a0_5] 28 (0,0)))∧Aside0 (Below w.heap.size w wc))
   case first=>
    have H:=HC22.out
    clear HC22
    replace H:=zI2 H
    rcases H with⟨c26,H⟩|⟨c26,H⟩
    case inl=>
     have c26b0:=zE c26
     clear c26
     (first|rw[c26b0]|(simp only[i64_w,i32_w];rw[c26b0])|skip)
     have H':=zM H
     clear H
     go_wp2
     go_meet
     case rel=>exact⟨_,(true),zs,H',⟨by have:=HJ3.out;first|omega|exact Nat.le_refl _⟩,⟨zn BK571⟩,⟨zb7⟩⟩
    have c26b0:=decide_eq_false c26
    clear c26
    (first|rw[c26b0]|(simp only[i64_w,i32_w];rw[c26b0])|skip)
    have H':=zM H
    clear H
    obtain⟨hcz27_0,hcz27_1,hcz27_2,hcz27_3,hcz27_4,hcz27_5,hfz27_0,hfz27_1,hfz27_2,hfz27_3,hfz27_4,hfz27_5⟩:=zc6 BK571.out
    go_wp2
    go_meet
    case rel=>exact⟨_,(decide ((wrap64 ((l1.length:Int)-t575))<(wrap64 (a0_4*(wrap64 (1+(wrap64 (Int.tdiv (wrap64 ((wrap64 ((wrap64 (8*(wrap64 (a2+(wrap64 (2*a0_1))))))+a0_0))-1)) a0_0)))))))),zs,H',⟨by have:=HJ3.out;first|omega|exact Nat.le_refl _⟩,⟨zn BK571⟩,⟨zb7⟩⟩
   case rest=>
    clear HC22
    try clear c1
    try clear c2
    try clear p2
    try clear c3
    try clear c5
    try clear p6
    try clear c7
    try clear c9
    try clear c19
    try clear c20
    try clear c21
    try clear c21b0
    try clear c21b1
    try clear c26
    try clear c26b0
    try clear hcz11_0
    try clear hcz11_1
    try clear hcz11_2
    try clear hcz11_3
    try clear hcz11_4
    try clear hcz11_5
    try clear hcz14_0
    try clear hcz14_1
    try clear hcz14_2
    try clear hcz14_3
    try clear hcz14_4
    try clear hcz14_5
    try clear hcz17_0
    try clear hcz17_1
    try clear hcz17_2
    try clear hcz17_3
    try clear hcz17_4
    try clear hcz17_5
    try clear hcz23_0
    try clear hcz23_1
    try clear hcz23_2
    try clear hcz23_3
    try clear hcz23_4
    try clear hcz23_5
    try clear hcz25_0
    try clear hcz25_1
    try clear hcz25_2
    try clear hcz25_3
    try clear hcz25_4
    try clear hcz25_5
    try clear hcz27_0
    try clear hcz27_1
    try clear hcz27_2
    try clear hcz27_3
    try clear hcz27_4
    try clear hcz27_5
    try clear hfz11_0
    try clear hfz11_1
    try clear hfz11_2
    try clear hfz11_3
    try clear hfz11_4
    try clear hfz11_5
    try clear hfz14_0
    try clear hfz14_1
    try clear hfz14_2
    try clear hfz14_3
    try clear hfz14_4
    try clear hfz14_5
    try clear hfz17_0
    try clear hfz17_1
    try clear hfz17_2
    try clear hfz17_3
    try clear hfz17_4
    try clear hfz17_5
    try clear hfz23_0
    try clear hfz23_1
    try clear hfz23_2
    try clear hfz23_3
    try clear hfz23_4
    try clear hfz23_5
    try clear hfz25_0
    try clear hfz25_1
    try clear hfz25_2
    try clear hfz25_3
    try clear hfz25_4
    try clear hfz25_5
    try clear hfz27_0
    try clear hfz27_1
    try clear hfz27_2
    try clear hfz27_3
    try clear hfz27_4
    try clear hfz27_5
    try clear p2
    obtain⟨kq,x66_21,rfl,HA,HJ21,BK571,HB⟩:=hcut
    cases kq with
    |zero=>exact absurd HA.out (by simp[impl_Hear.j1])
    | succ kj21=>
     have H:=HA.out
     clear HA
     simp only[impl_Hear.j1] at H
     by_cases c28:x66_21=true
     case pos=>
      subst c28
      rw[if_pos rfl] at H
      simp only[Option.some.injEq,Prod.mk.injEq] at H
      obtain⟨rfl,rfl,rfl⟩:=H
      go_wp2
      go_ret3
      refine hr_out ?_
      exact⟨_,zq,zz,zb7⟩
     replace c28:=Bool.eq_false_iff.mpr c28
     subst c28
     rw[if_neg zFT] at H
     replace H:=zIN H
     obtain⟨c29,H⟩:=H
     have c29b0:=eq_true c29
     have c29b1:decide (0≤t575)=true:=zE c29
     clear c29
     replace H:=zIN H
     obtain⟨c30,H⟩:=H
     have c30b0:=eq_true c30
     have c30b1:decide (t575≤(wrap64 (t575+a0_4)))=true:=zE c30
     replace H:=zIN H
     obtain⟨c31,H⟩:=H
     have c31b0:=eq_true c31
     have c31b1:decide ((wrap64 (t575+a0_4))≤(l1.length:Int))=true:=zE c31
     obtain⟨y576,hy576⟩:∃y_:List (S52),y_=((l1.take ((wrap64 (t575+a0_4)):Int).toNat).drop (t575:Int).toNat):=⟨_,rfl⟩
     rw[←hy576] at H
     have Ny576:=zM hy576
     clear hy576
     replace H:=zP H
     obtain⟨⟨t580,t581⟩,A32,H⟩:=H
     dsimp only at H
     have HC33:=zM H
     clear H
     obtain⟨hcz34_0,hcz34_1,hcz34_2,hcz34_3,hcz34_4,hcz34_5,hfz34_0,hfz34_1,hfz34_2,hfz34_3,hfz34_4,hfz34_5⟩:=zc6 BK571.out
     have q35:((wrap64 (t575+a0_4)):Int)≤((l1.length:Int):Int):=zT (by assumption)
     obtain⟨i035,hi035,_,hsz35,_⟩:=info_parts info52
     have hroom35:l1.length≤c1:=HC1.out
     have hC35:Kd.C k52 _ A1 l1.length l1:=HR1.out
     have ql35:(t575:Int)≤((wrap64 (t575+a0_4)):Int):=zT (by assumption)
     have q035:(0:Int)≤(t575:Int):=zT (by assumption)
     have hcut35:=cut_mid (P:=Try.prog) 25 52 .i64 .i64 Try.underlying25 hi035 2 hsz35 A1 l1.length c1 t575 (wrap64 (t575+a0_4)) q035 ql35 q35 hroom35
     have hr35:=Kd.C_mid (lo:=(t575:Int).toNat) (hi:=((wrap64 (t575+a0_4)):Int).toNat) (c:=c1) hC35 (by omega) (by omega) hroom35
     obtain⟨A35,hA35⟩:∃A_1,A_1=(if c1=(t575:Int).toNat then A1 else(A1:Option Addr).map (·.add ((t575:Int).toNat*2))):=⟨_,rfl⟩
     obtain⟨c35,hc35⟩:∃c_1,c_1=c1-(t575:Int).toNat:=⟨_,rfl⟩
     have hy35:y576.length=((wrap64 (t575+a0_4)):Int).toNat-(t575:Int).toNat:=(by rw[Ny576.out,List.length_drop,List.length_take]<;>omega)
     rw[show((l1).take ((wrap64 (t575+a0_4)):Int).toNat).drop (t575:Int).toNat=y576 from Ny576.out.symm] at hr35
     replace hr35:Kd.C k52 _ A35 y576.length y576:=(by rw[hA35];exact hr35)
     rw[←hy35,←hA35,←hc35] at hcut35
     have HR579:=zM hr35
     have HC579:=zM (show y576.length≤c35 from by rw[hy35,hc35];exact Nat.sub_le_sub_right (Nat.le_trans (by omega) hroom35) _)
     clear hr35 hC35 hroom35 hi035 hsz35 hc35
     have KY35:=zM hy35
     have KA35:=zM hA35
     clear hy35 hA35
     replace q35:=eq_true q35
     go_upto_block 0 with(first|((with_reducible refine gate_callee (f:=57) rfl ?_);refine goesL_ (some 74) rfl rfl Try.func57 ze rfl #[.slice A35 y576.length c35] rfl zg ?_;(with_reducible refine(impl_sum.calls kj21 _ _ y576 t580 t581 _ ?side1 ?side2 A32.out).mono ?_);(case side1=>exact zc (Kd.C_below HR579.out HB.out));(case side2=>exact HC579.out);rintro e w36 ⟨rfl,hb⟩;refine⟨_,rfl,?_⟩;refine zS2 (zNb (g:=gb571) (o:= .cells #[.int .i64 a0_0, .int .i64 a0_1, .int .i64 a0_2, .int .i64 a0_3, .int .i64 a0_4, .int .i64 a0_5] 28 (0,0)) (zn BK571) hb) (below_step zb7 hb) ?_;clear BK571 HB;intro BK571 HB;(try clear hb);(try clear hb2);(try clear hk);(try clear hi))|((with_reducible refine gate_dst (N:=12) rfl ?_);(try(refine gate_guard (by rfl) ?_;dsimp only));refine box_event ?hg (N:=12) ?hd (cs:= #[.int .i64 0, .int .i64 0]) (t:=52) ?hr ?_;(case hd|hg=>rfl);(case hr=>exact zh);intro gb582 hg w37 hbox hb;have n0_:=zM (zNb (g:=gb571) (o:= .cells #[.int .i64 a0_0, .int .i64 a0_1, .int .i64 a0_2, .int .i64 a0_3, .int .i64 a0_4, .int .i64 a0_5] 28 (0,0)) (zn BK571) hb);have n1_:=zM (below_step zb7 hb);have n2_:=zM (hbox);have n3_:=zM ((zw hg (below_size zb7)));have n4_:=zM n3_.out;have n5_:=zM ((by rw[hg];exact Nat.ne_of_lt (by simpa using blk_lt BK571.out):gb571≠gb582));have n6_:=zM ((by rw[hg];exact Nat.ne_of_gt (by simpa using blk_lt BK571.out):gb582≠gb571));clear BK571;clear HB;have BK571:=n0_;have HB:=n1_;have BK582:=n2_;have GW582:=n3_;have GE582:=n4_;have NB571_582:=n5_;have NB582_571:=n6_;clear n0_ n1_ n2_ n3_ n4_ n5_ n6_;clear hb hbox hg;have hnb38:=NB582_571.out;have hnc38:=NB571_582.out;obtain⟨hcz39_0,hcz39_1,hfz39_0,hfz39_1⟩:=zc2 BK582.out))
     (try simp only[Act.put,zL1,zL2,zL3])
     go_cut [13] (fun v13 wc=>∃(kq:Nat) (x13_32:Int),v13= .int .i64 x13_32∧Aside0 (impl_Hear.j2 kq l1 a2 t575 (wrap64 (8*(wrap64 (a2+(wrap64 (2*a0_1)))))) (wrap64 (Int.tdiv (wrap64 ((wrap64 ((wrap64 (8*(wrap64 (a2+(wrap64 (2*a0_1))))))+a0_0))-1)) a0_0)) x13_32 a0_0 a0_1 a0_2 a0_3 a0_4 a0_5=some (r1,r2,r3))∧Aside0 (kq≤kj21)∧Aside0 (wc.heap[gb571]? =some (.cells #[.int .i64 a0_0, .int .i64 a0_1, .int .i64 a0_2, .int .i64 a0_3, .int .i64 a0_4, .int .i64 a0_5] 28 (0,0)))∧Aside0 (wc.heap[gb582]? =some (.cells #[.int .i64 t580, .int .i64 t581] 52 (0,0)))∧Aside0 (Below w.heap.size w wc))
     case first=>
      have H:=HC33.out
      clear HC33
      replace H:=zP H
      obtain⟨t583,A40,H⟩:=H
      replace H:=zP H
      obtain⟨t584,A41,H⟩:=H
      replace H:=zI2 H
      rcases H with⟨c42,H⟩|⟨c42,H⟩
      case inl=>
       have c42b0:decide (t584≤t583)=true:=zE c42
       clear c42
       (first|rw[c42b0]|(simp only[i64_w,i32_w];rw[c42b0])|skip)
       replace H:=zI2 H
       rcases H with⟨c43,H⟩|⟨c43,H⟩
       case inl=>
        have c43b0:=zE c43
        clear c43
        have H':=zM H
        clear H
        try go_wp2
        have n0_:Aside0 (((w37.setCell ⟨gb582,0,none⟩ (.int .i64 t580)).setCell ⟨gb582,1,none⟩ (.int .i64 t581)).heap[gb571]? =some (.cells #[.int .i64 a0_0, .int .i64 a0_1, .int .i64 a0_2, .int .i64 a0_3, .int .i64 a0_4, .int .i64 a0_5] 28 (0,0))):=⟨by(with_reducible repeat(first|apply zNn|apply zNd|apply zNa));refine zNf ?_ NB571_582.out _;(with_reducible repeat(first|apply zNn|apply zNd|apply zNa));refine zNf ?_ NB571_582.out _;(with_reducible repeat(first|apply zNn|apply zNd|apply zNa));exact BK571.out⟩
        have n1_:Aside0 (((w37.setCell ⟨gb582,0,none⟩ (.int .i64 t580)).setCell ⟨gb582,1,none⟩ (.int .i64 t581)).heap[gb582]? =some (.cells #[.int .i64 t580, .int .i64 t581] 52 (0,0))):=⟨by(with_reducible repeat(first|apply zNn|apply zNd|apply zNa));refine blk_put (cs:= #[.int .i64 t580, .int .i64 0]) ?_ 1 _ rfl;(with_reducible repeat(first|apply zNn|apply zNd|apply zNa));refine blk_put (cs:= #[.int .i64 0, .int .i64 0]) ?_ 0 _ rfl;(with_reducible repeat(first|apply zNn|apply zNd|apply zNa));exact BK582.out⟩
        have n2_:Aside0 (Below w.heap.size w ((w37.setCell ⟨gb582,0,none⟩ (.int .i64 t580)).setCell ⟨gb582,1,none⟩ (.int .i64 t581))):=⟨zb8⟩
        (try clear BK571)
        (try clear BK582)
        (try clear HB)
        generalize ((w37.setCell ⟨gb582,0,none⟩ (.int .i64 t580)).setCell ⟨gb582,1,none⟩ (.int .i64 t581))=w44 at n0_ n1_ n2_ ⊢
        have BK571:=n0_
        have BK582:=n1_
        have HB:=n2_
        clear n0_ n1_ n2_
        refine zS3 (zNd BK571.out) (zNd BK582.out) (zBd HB.out) ?_
        clear BK571 BK582 HB
        intro BK571 BK582 HB
        refine start_ (n:=8) (S:=fun w'=>w'.cell? ⟨gb582,0,none⟩=some (.int .i64 t580)∧w'.cell? ⟨gb582,1,none⟩=some (.int .i64 t581)) (ds:=[]) #[zf,zf,zf,zf,zf,zf,zf,zf] ze rfl rfl ⟨(blk_cell BK582.out 0).trans rfl,(blk_cell BK582.out 1).trans rfl⟩ (fun hHeld=> ?_);refine with_tabW impl_Hear.tab11 impl_Hear.bits11 (fun HT_ HW_=> ?_)
        generalize w44.drew=w45 at BK571 BK582 HB hHeld ⊢
        refine zu 0 76 ?_
        refine zu 3 79 ?_
        refine zt2 1 77 ?_
        refine zt2 4 80 ?_
        refine one_ (i:=2) (N:=some 78) #[zt,zt,zt,zt,zt,zf,zf,zf] rfl rfl (one_of HT_.out ze) (by decide) (fun K hK=> ?_)
        refine goes_ Try.func56 ze rfl #[.int .i64 t580] (by rfl) rfl rfl zg ?_
        with_reducible refine(impl_size.calls t580 t583 _ A40.out).mono ?_
        rintro e w46 ⟨rfl,hb⟩
        refine⟨_,rfl,?_⟩
        refine zS3 (zNb (g:=gb571) (o:= .cells #[.int .i64 a0_0, .int .i64 a0_1, .int .i64 a0_2, .int .i64 a0_3, .int .i64 a0_4, .int .i64 a0_5] 28 (0,0)) (zn BK571) hb) (zNb (g:=gb582) (o:= .cells #[.int .i64 t580, .int .i64 t581] 52 (0,0)) (zn BK582) hb) (below_step zb8 hb) ?_
        clear BK571 BK582 HB
        intro BK571 BK582 HB
        (try clear hb)
        (try clear hb2)
        (try clear hk)
        (try clear hi)
        refine hK.out _ _ ⟨(blk_cell BK582.out 0).trans rfl,(blk_cell BK582.out 1).trans rfl⟩ (fun hHeld=> ?_)
        clear hK K
        refine norm_ (a':= ?_) ?_ ?_
        rotate_left
        ·show Act.put _ (some 78) _=_
         simp only[Act.put,zL1,zL2,zL3,i64_w,i32_w]
         rfl
        refine one_ (i:=5) (N:=some 81) #[zt,zt,zt,zt,zt,zt,zf,zf] rfl rfl (one_of HT_.out ze) (by decide) (fun K hK=> ?_)
        refine goes_ Try.func56 ze rfl #[.int .i64 t581] (by rfl) rfl rfl zg ?_
        with_reducible refine(impl_size.calls t581 t584 _ A41.out).mono ?_
        rintro e w47 ⟨rfl,hb⟩
        refine⟨_,rfl,?_⟩
        refine zS3 (zNb (g:=gb571) (o:= .cells #[.int .i64 a0_0, .int .i64 a0_1, .int .i64 a0_2, .int .i64 a0_3, .int .i64 a0_4, .int .i64 a0_5] 28 (0,0)) (zn BK571) hb) (zNb (g:=gb582) (o:= .cells #[.int .i64 t580, .int .i64 t581] 52 (0,0)) (zn BK582) hb) (below_step zb8 hb) ?_
        clear BK571 BK582 HB
        intro BK571 BK582 HB
        (try clear hb)
        (try clear hb2)
        (try clear hk)
        (try clear hi)
        refine hK.out _ _ ⟨(blk_cell BK582.out 0).trans rfl,(blk_cell BK582.out 1).trans rfl⟩ (fun hHeld=> ?_)
        clear hK K
        refine norm_ (a':= ?_) ?_ ?_
        rotate_left
        ·show Act.put _ (some 81) _=_
         simp only[Act.put,zL1,zL2,zL3,i64_w,i32_w]
         rfl
        refine zu 6 82 ?_
        refine zu 7 75 ?_
        refine done_ (done_of HT_.out ze) ?_
        have hnb48:=NB582_571.out
        have hnc48:=NB571_582.out
        obtain⟨hcz49_0,hcz49_1,hfz49_0,hfz49_1⟩:=zc2 BK582.out
        try go_wp2
        go_meet
        case rel=>exact⟨_,(2),zs,H',⟨by have:=HJ3.out;have:=HJ21.out;first|omega|exact Nat.le_refl _⟩,⟨zn BK571⟩,⟨zn BK582⟩,⟨zb8⟩⟩
       have c43b0:=decide_eq_false c43
       clear c43
       have H':=zM H
       clear H
       try go_wp2
       have n0_:Aside0 (((w37.setCell ⟨gb582,0,none⟩ (.int .i64 t580)).setCell ⟨gb582,1,none⟩ (.int .i64 t581)).heap[gb571]? =some (.cells #[.int .i64 a0_0, .int .i64 a0_1, .int .i64 a0_2, .int .i64 a0_3, .int .i64 a0_4, .int .i64 a0_5] 28 (0,0))):=⟨by(with_reducible repeat(first|apply zNn|apply zNd|apply zNa));refine zNf ?_ NB571_582.out _;(with_reducible repeat(first|apply zNn|apply zNd|apply zNa));refine zNf ?_ NB571_582.out _;(with_reducible repeat(first|apply zNn|apply zNd|apply zNa));exact BK571.out⟩
       have n1_:Aside0 (((w37.setCell ⟨gb582,0,none⟩ (.int .i64 t580)).setCell ⟨gb582,1,none⟩ (.int .i64 t581)).heap[gb582]? =some (.cells #[.int .i64 t580, .int .i64 t581] 52 (0,0))):=⟨by(with_reducible repeat(first|apply zNn|apply zNd|apply zNa));refine blk_put (cs:= #[.int .i64 t580, .int .i64 0]) ?_ 1 _ rfl;(with_reducible repeat(first|apply zNn|apply zNd|apply zNa));refine blk_put (cs:= #[.int .i64 0, .int .i64 0]) ?_ 0 _ rfl;(with_reducible repeat(first|apply zNn|apply zNd|apply zNa));exact BK582.out⟩
       have n2_:Aside0 (Below w.heap.size w ((w37.setCell ⟨gb582,0,none⟩ (.int .i64 t580)).setCell ⟨gb582,1,none⟩ (.int .i64 t581))):=⟨zb8⟩
       (try clear BK571)
       (try clear BK582)
       (try clear HB)
       generalize ((w37.setCell ⟨gb582,0,none⟩ (.int .i64 t580)).setCell ⟨gb582,1,none⟩ (.int .i64 t581))=w50 at n0_ n1_ n2_ ⊢
       have BK571:=n0_
       have BK582:=n1_
       have HB:=n2_
       clear n0_ n1_ n2_
       refine zS3 (zNd BK571.out) (zNd BK582.out) (zBd HB.out) ?_
       clear BK571 BK582 HB
       intro BK571 BK582 HB
       refine start_ (n:=8) (S:=fun w'=>w'.cell? ⟨gb582,0,none⟩=some (.int .i64 t580)∧w'.cell? ⟨gb582,1,none⟩=some (.int .i64 t581)) (ds:=[]) #[zf,zf,zf,zf,zf,zf,zf,zf] ze rfl rfl ⟨(blk_cell BK582.out 0).trans rfl,(blk_cell BK582.out 1).trans rfl⟩ (fun hHeld=> ?_);refine with_tabW impl_Hear.tab11 impl_Hear.bits11 (fun HT_ HW_=> ?_)
       generalize w50.drew=w51 at BK571 BK582 HB hHeld ⊢
       refine zu 0 76 ?_
       refine zu 3 79 ?_
       refine zt2 1 77 ?_
       refine zt2 4 80 ?_
       refine one_ (i:=2) (N:=some 78) #[zt,zt,zt,zt,zt,zf,zf,zf] rfl rfl (one_of HT_.out ze) (by decide) (fun K hK=> ?_)
       refine goes_ Try.func56 ze rfl #[.int .i64 t580] (by rfl) rfl rfl zg ?_
       with_reducible refine(impl_size.calls t580 t583 _ A40.out).mono ?_
       rintro e w52 ⟨rfl,hb⟩
       refine⟨_,rfl,?_⟩
       refine zS3 (zNb (g:=gb571) (o:= .cells #[.int .i64 a0_0, .int .i64 a0_1, .int .i64 a0_2, .int .i64 a0_3, .int .i64 a0_4, .int .i64 a0_5] 28 (0,0)) (zn BK571) hb) (zNb (g:=gb582) (o:= .cells #[.int .i64 t580, .int .i64 t581] 52 (0,0)) (zn BK582) hb) (below_step zb8 hb) ?_
       clear BK571 BK582 HB
       intro BK571 BK582 HB
       (try clear hb)
       (try clear hb2)
       (try clear hk)
       (try clear hi)
       refine hK.out _ _ ⟨(blk_cell BK582.out 0).trans rfl,(blk_cell BK582.out 1).trans rfl⟩ (fun hHeld=> ?_)
       clear hK K
       refine norm_ (a':= ?_) ?_ ?_
       rotate_left
       ·show Act.put _ (some 78) _=_
        simp only[Act.put,zL1,zL2,zL3,i64_w,i32_w]
        rfl
       refine one_ (i:=5) (N:=some 81) #[zt,zt,zt,zt,zt,zt,zf,zf] rfl rfl (one_of HT_.out ze) (by decide) (fun K hK=> ?_)
       refine goes_ Try.func56 ze rfl #[.int .i64 t581] (by rfl) rfl rfl zg ?_
       with_reducible refine(impl_size.calls t581 t584 _ A41.out).mono ?_
       rintro e w53 ⟨rfl,hb⟩
       refine⟨_,rfl,?_⟩
       refine zS3 (zNb (g:=gb571) (o:= .cells #[.int .i64 a0_0, .int .i64 a0_1, .int .i64 a0_2, .int .i64 a0_3, .int .i64 a0_4, .int .i64 a0_5] 28 (0,0)) (zn BK571) hb) (zNb (g:=gb582) (o:= .cells #[.int .i64 t580, .int .i64 t581] 52 (0,0)) (zn BK582) hb) (below_step zb8 hb) ?_
       clear BK571 BK582 HB
       intro BK571 BK582 HB
       (try clear hb)
       (try clear hb2)
       (try clear hk)
       (try clear hi)
       refine hK.out _ _ ⟨(blk_cell BK582.out 0).trans rfl,(blk_cell BK582.out 1).trans rfl⟩ (fun hHeld=> ?_)
       clear hK K
       refine norm_ (a':= ?_) ?_ ?_
       rotate_left
       ·show Act.put _ (some 81) _=_
        simp only[Act.put,zL1,zL2,zL3,i64_w,i32_w]
        rfl
       refine zu 6 82 ?_
       refine zu 7 75 ?_
       refine done_ (done_of HT_.out ze) ?_
       have hnb54:=NB582_571.out
       have hnc54:=NB571_582.out
       obtain⟨hcz55_0,hcz55_1,hfz55_0,hfz55_1⟩:=zc2 BK582.out
       try go_wp2
       go_meet
       case rel=>exact⟨_,(0),zs,H',⟨by have:=HJ3.out;have:=HJ21.out;first|omega|exact Nat.le_refl _⟩,⟨zn BK571⟩,⟨zn BK582⟩,⟨zb8⟩⟩
      have c42b0:decide (t584≤t583)=false:=decide_eq_false c42
      clear c42
      (first|rw[c42b0]|(simp only[i64_w,i32_w];rw[c42b0])|skip)
      replace H:=zI2 H
      rcases H with⟨c56,H⟩|⟨c56,H⟩
      case inl=>
       have c56b0:decide (0<t581)=true:=zE c56
       clear c56
       have H':=zM H
       clear H
       try go_wp2
       have n0_:Aside0 (((w37.setCell ⟨gb582,0,none⟩ (.int .i64 t580)).setCell ⟨gb582,1,none⟩ (.int .i64 t581)).heap[gb571]? =some (.cells #[.int .i64 a0_0, .int .i64 a0_1, .int .i64 a0_2, .int .i64 a0_3, .int .i64 a0_4, .int .i64 a0_5] 28 (0,0))):=⟨by(with_reducible repeat(first|apply zNn|apply zNd|apply zNa));refine zNf ?_ NB571_582.out _;(with_reducible repeat(first|apply zNn|apply zNd|apply zNa));refine zNf ?_ NB571_582.out _;(with_reducible repeat(first|apply zNn|apply zNd|apply zNa));exact BK571.out⟩
       have n1_:Aside0 (((w37.setCell ⟨gb582,0,none⟩ (.int .i64 t580)).setCell ⟨gb582,1,none⟩ (.int .i64 t581)).heap[gb582]? =some (.cells #[.int .i64 t580, .int .i64 t581] 52 (0,0))):=⟨by(with_reducible repeat(first|apply zNn|apply zNd|apply zNa));refine blk_put (cs:= #[.int .i64 t580, .int .i64 0]) ?_ 1 _ rfl;(with_reducible repeat(first|apply zNn|apply zNd|apply zNa));refine blk_put (cs:= #[.int .i64 0, .int .i64 0]) ?_ 0 _ rfl;(with_reducible repeat(first|apply zNn|apply zNd|apply zNa));exact BK582.out⟩
       have n2_:Aside0 (Below w.heap.size w ((w37.setCell ⟨gb582,0,none⟩ (.int .i64 t580)).setCell ⟨gb582,1,none⟩ (.int .i64 t581))):=⟨zb8⟩
       (try clear BK571)
       (try clear BK582)
       (try clear HB)
       generalize ((w37.setCell ⟨gb582,0,none⟩ (.int .i64 t580)).setCell ⟨gb582,1,none⟩ (.int .i64 t581))=w57 at n0_ n1_ n2_ ⊢
       have BK571:=n0_
       have BK582:=n1_
       have HB:=n2_
       clear n0_ n1_ n2_
       refine zS3 (zNd BK571.out) (zNd BK582.out) (zBd HB.out) ?_
       clear BK571 BK582 HB
       intro BK571 BK582 HB
       refine start_ (n:=8) (S:=fun w'=>w'.cell? ⟨gb582,0,none⟩=some (.int .i64 t580)∧w'.cell? ⟨gb582,1,none⟩=some (.int .i64 t581)) (ds:=[]) #[zf,zf,zf,zf,zf,zf,zf,zf] ze rfl rfl ⟨(blk_cell BK582.out 0).trans rfl,(blk_cell BK582.out 1).trans rfl⟩ (fun hHeld=> ?_);refine with_tabW impl_Hear.tab11 impl_Hear.bits11 (fun HT_ HW_=> ?_)
       generalize w57.drew=w58 at BK571 BK582 HB hHeld ⊢
       refine zu 0 76 ?_
       refine zu 3 79 ?_
       refine zt2 1 77 ?_
       refine zt2 4 80 ?_
       refine one_ (i:=2) (N:=some 78) #[zt,zt,zt,zt,zt,zf,zf,zf] rfl rfl (one_of HT_.out ze) (by decide) (fun K hK=> ?_)
       refine goes_ Try.func56 ze rfl #[.int .i64 t580] (by rfl) rfl rfl zg ?_
       with_reducible refine(impl_size.calls t580 t583 _ A40.out).mono ?_
       rintro e w59 ⟨rfl,hb⟩
       refine⟨_,rfl,?_⟩
       refine zS3 (zNb (g:=gb571) (o:= .cells #[.int .i64 a0_0, .int .i64 a0_1, .int .i64 a0_2, .int .i64 a0_3, .int .i64 a0_4, .int .i64 a0_5] 28 (0,0)) (zn BK571) hb) (zNb (g:=gb582) (o:= .cells #[.int .i64 t580, .int .i64 t581] 52 (0,0)) (zn BK582) hb) (below_step zb8 hb) ?_
       clear BK571 BK582 HB
       intro BK571 BK582 HB
       (try clear hb)
       (try clear hb2)
       (try clear hk)
       (try clear hi)
       refine hK.out _ _ ⟨(blk_cell BK582.out 0).trans rfl,(blk_cell BK582.out 1).trans rfl⟩ (fun hHeld=> ?_)
       clear hK K
       refine norm_ (a':= ?_) ?_ ?_
       rotate_left
       ·show Act.put _ (some 78) _=_
        simp only[Act.put,zL1,zL2,zL3,i64_w,i32_w]
        rfl
       refine one_ (i:=5) (N:=some 81) #[zt,zt,zt,zt,zt,zt,zf,zf] rfl rfl (one_of HT_.out ze) (by decide) (fun K hK=> ?_)
       refine goes_ Try.func56 ze rfl #[.int .i64 t581] (by rfl) rfl rfl zg ?_
       with_reducible refine(impl_size.calls t581 t584 _ A41.out).mono ?_
       rintro e w60 ⟨rfl,hb⟩
       refine⟨_,rfl,?_⟩
       refine zS3 (zNb (g:=gb571) (o:= .cells #[.int .i64 a0_0, .int .i64 a0_1, .int .i64 a0_2, .int .i64 a0_3, .int .i64 a0_4, .int .i64 a0_5] 28 (0,0)) (zn BK571) hb) (zNb (g:=gb582) (o:= .cells #[.int .i64 t580, .int .i64 t581] 52 (0,0)) (zn BK582) hb) (below_step zb8 hb) ?_
       clear BK571 BK582 HB
       intro BK571 BK582 HB
       (try clear hb)
       (try clear hb2)
       (try clear hk)
       (try clear hi)
       refine hK.out _ _ ⟨(blk_cell BK582.out 0).trans rfl,(blk_cell BK582.out 1).trans rfl⟩ (fun hHeld=> ?_)
       clear hK K
       refine norm_ (a':= ?_) ?_ ?_
       rotate_left
       ·show Act.put _ (some 81) _=_
        simp only[Act.put,zL1,zL2,zL3,i64_w,i32_w]
        rfl
       refine zu 6 82 ?_
       refine zu 7 75 ?_
       refine done_ (done_of HT_.out ze) ?_
       have hnb61:=NB582_571.out
       have hnc61:=NB571_582.out
       obtain⟨hcz62_0,hcz62_1,hfz62_0,hfz62_1⟩:=zc2 BK582.out
       try go_wp2
       go_meet
       case rel=>exact⟨_,(1),zs,H',⟨by have:=HJ3.out;have:=HJ21.out;first|omega|exact Nat.le_refl _⟩,⟨zn BK571⟩,⟨zn BK582⟩,⟨zb8⟩⟩
      have c56b0:decide (0<t581)=false:=decide_eq_false c56
      clear c56
      have H':=zM H
      clear H
      try go_wp2
      have n0_:Aside0 (((w37.setCell ⟨gb582,0,none⟩ (.int .i64 t580)).setCell ⟨gb582,1,none⟩ (.int .i64 t581)).heap[gb571]? =some (.cells #[.int .i64 a0_0, .int .i64 a0_1, .int .i64 a0_2, .int .i64 a0_3, .int .i64 a0_4, .int .i64 a0_5] 28 (0,0))):=⟨by(with_reducible repeat(first|apply zNn|apply zNd|apply zNa));refine zNf ?_ NB571_582.out _;(with_reducible repeat(first|apply zNn|apply zNd|apply zNa));refine zNf ?_ NB571_582.out _;(with_reducible repeat(first|apply zNn|apply zNd|apply zNa));exact BK571.out⟩
      have n1_:Aside0 (((w37.setCell ⟨gb582,0,none⟩ (.int .i64 t580)).setCell ⟨gb582,1,none⟩ (.int .i64 t581)).heap[gb582]? =some (.cells #[.int .i64 t580, .int .i64 t581] 52 (0,0))):=⟨by(with_reducible repeat(first|apply zNn|apply zNd|apply zNa));refine blk_put (cs:= #[.int .i64 t580, .int .i64 0]) ?_ 1 _ rfl;(with_reducible repeat(first|apply zNn|apply zNd|apply zNa));refine blk_put (cs:= #[.int .i64 0, .int .i64 0]) ?_ 0 _ rfl;(with_reducible repeat(first|apply zNn|apply zNd|apply zNa));exact BK582.out⟩
      have n2_:Aside0 (Below w.heap.size w ((w37.setCell ⟨gb582,0,none⟩ (.int .i64 t580)).setCell ⟨gb582,1,none⟩ (.int .i64 t581))):=⟨zb8⟩
      (try clear BK571)
      (try clear BK582)
      (try clear HB)
      generalize ((w37.setCell ⟨gb582,0,none⟩ (.int .i64 t580)).setCell ⟨gb582,1,none⟩ (.int .i64 t581))=w63 at n0_ n1_ n2_ ⊢
      have BK571:=n0_
      have BK582:=n1_
      have HB:=n2_
      clear n0_ n1_ n2_
      refine zS3 (zNd BK571.out) (zNd BK582.out) (zBd HB.out) ?_
      clear BK571 BK582 HB
      intro BK571 BK582 HB
      refine start_ (n:=8) (S:=fun w'=>w'.cell? ⟨gb582,0,none⟩=some (.int .i64 t580)∧w'.cell? ⟨gb582,1,none⟩=some (.int .i64 t581)) (ds:=[]) #[zf,zf,zf,zf,zf,zf,zf,zf] ze rfl rfl ⟨(blk_cell BK582.out 0).trans rfl,(blk_cell BK582.out 1).trans rfl⟩ (fun hHeld=> ?_);refine with_tabW impl_Hear.tab11 impl_Hear.bits11 (fun HT_ HW_=> ?_)
      generalize w63.drew=w64 at BK571 BK582 HB hHeld ⊢
      refine zu 0 76 ?_
      refine zu 3 79 ?_
      refine zt2 1 77 ?_
      refine zt2 4 80 ?_
      refine one_ (i:=2) (N:=some 78) #[zt,zt,zt,zt,zt,zf,zf,zf] rfl rfl (one_of HT_.out ze) (by decide) (fun K hK=> ?_)
      refine goes_ Try.func56 ze rfl #[.int .i64 t580] (by rfl) rfl rfl zg ?_
      with_reducible refine(impl_size.calls t580 t583 _ A40.out).mono ?_
      rintro e w65 ⟨rfl,hb⟩
      refine⟨_,rfl,?_⟩
      refine zS3 (zNb (g:=gb571) (o:= .cells #[.int .i64 a0_0, .int .i64 a0_1, .int .i64 a0_2, .int .i64 a0_3, .int .i64 a0_4, .int .i64 a0_5] 28 (0,0)) (zn BK571) hb) (zNb (g:=gb582) (o:= .cells #[.int .i64 t580, .int .i64 t581] 52 (0,0)) (zn BK582) hb) (below_step zb8 hb) ?_
      clear BK571 BK582 HB
      intro BK571 BK582 HB
      (try clear hb)
      (try clear hb2)
      (try clear hk)
      (try clear hi)
      refine hK.out _ _ ⟨(blk_cell BK582.out 0).trans rfl,(blk_cell BK582.out 1).trans rfl⟩ (fun hHeld=> ?_)
      clear hK K
      refine norm_ (a':= ?_) ?_ ?_
      rotate_left
      ·show Act.put _ (some 78) _=_
       simp only[Act.put,zL1,zL2,zL3,i64_w,i32_w]
       rfl
      refine one_ (i:=5) (N:=some 81) #[zt,zt,zt,zt,zt,zt,zf,zf] rfl rfl (one_of HT_.out ze) (by decide) (fun K hK=> ?_)
      refine goes_ Try.func56 ze rfl #[.int .i64 t581] (by rfl) rfl rfl zg ?_
      with_reducible refine(impl_size.calls t581 t584 _ A41.out).mono ?_
      rintro e w66 ⟨rfl,hb⟩
      refine⟨_,rfl,?_⟩
      refine zS3 (zNb (g:=gb571) (o:= .cells #[.int .i64 a0_0, .int .i64 a0_1, .int .i64 a0_2, .int .i64 a0_3, .int .i64 a0_4, .int .i64 a0_5] 28 (0,0)) (zn BK571) hb) (zNb (g:=gb582) (o:= .cells #[.int .i64 t580, .int .i64 t581] 52 (0,0)) (zn BK582) hb) (below_step zb8 hb) ?_
      clear BK571 BK582 HB
      intro BK571 BK582 HB
      (try clear hb)
      (try clear hb2)
      (try clear hk)
      (try clear hi)
      refine hK.out _ _ ⟨(blk_cell BK582.out 0).trans rfl,(blk_cell BK582.out 1).trans rfl⟩ (fun hHeld=> ?_)
      clear hK K
      refine norm_ (a':= ?_) ?_ ?_
      rotate_left
      ·show Act.put _ (some 81) _=_
       simp only[Act.put,zL1,zL2,zL3,i64_w,i32_w]
       rfl
      refine zu 6 82 ?_
      refine zu 7 75 ?_
      refine done_ (done_of HT_.out ze) ?_
      have hnb67:=NB582_571.out
      have hnc67:=NB571_582.out
      obtain⟨hcz68_0,hcz68_1,hfz68_0,hfz68_1⟩:=zc2 BK582.out
      try go_wp2
      go_meet
      case rel=>exact⟨_,(3),zs,H',⟨by have:=HJ3.out;have:=HJ21.out;first|omega|exact Nat.le_refl _⟩,⟨zn BK571⟩,⟨zn BK582⟩,⟨zb8⟩⟩
     case rest=>
      clear HC33
      try clear c1
      try clear p2
      try clear c3
      try clear q3
      try clear c4
      try clear c5
      try clear c6
      try clear p6
      try clear c35
      try clear q35
      try clear c38
      try clear c42
      try clear c42b0
      try clear c43
      try clear c43b0
      try clear c48
      try clear c54
      try clear c56
      try clear c56b0
      try clear c57
      try clear c61
      try clear p64
      try clear c67
      try clear hcz39_0
      try clear hcz39_1
      try clear hcz49_0
      try clear hcz49_1
      try clear hcz55_0
      try clear hcz55_1
      try clear hcz62_0
      try clear hcz62_1
      try clear hcz68_0
      try clear hcz68_1
      try clear hfz39_0
      try clear hfz39_1
      try clear hfz49_0
      try clear hfz49_1
      try clear hfz55_0
      try clear hfz55_1
      try clear hfz62_0
      try clear hfz62_1
      try clear hfz68_0
      try clear hfz68_1
      try clear q035
      try clear q35
      obtain⟨kq,x13_32,rfl,HA,HJ32,BK571,BK582,HB⟩:=hcut
      cases kq with
      |zero=>exact absurd HA.out (by simp[impl_Hear.j2])
      | succ kj32=>
       have H:=HA.out
       clear HA
       simp only[impl_Hear.j2] at H
       have H':=zM H
       clear H
       go_wp2
       (try simp only[Act.put,zL1,zL2,zL3])
       go_loopg [14,91] kj32 (fun kq v14 v91 w'=>∃(x14_4:List (S52)) (x91_4:Int),v91= .int .i64 x91_4∧Aside0 (impl_Hear.l0 kq l1 a2 t575 (wrap64 (8*(wrap64 (a2+(wrap64 (2*a0_1)))))) x13_32 x14_4 (wrap64 (Int.tdiv (wrap64 ((wrap64 ((wrap64 (8*(wrap64 (a2+(wrap64 (2*a0_1))))))+a0_0))-1)) a0_0)) x91_4 a0_0 a0_1 a0_2 a0_3 a0_4 a0_5=some (r1,r2,r3))∧Aside0 (kq≤kj32)∧Aside0 (Kd.R k52 52 w' w.heap.size (fun k_=>k_≠gb582) v14 x14_4)∧Aside0 (w'.heap[gb571]? =some (.cells #[.int .i64 a0_0, .int .i64 a0_1, .int .i64 a0_2, .int .i64 a0_3, .int .i64 a0_4, .int .i64 a0_5] 28 (0,0)))∧Aside0 (w'.heap[gb582]? =some (.cells #[.int .i64 t580, .int .i64 t581] 52 (0,0)))∧Aside0 (Below w.heap.size w w'))
       case atStart=>exact⟨(([]:List (S52))),(0),zs,H',⟨Nat.le_refl _⟩,⟨zz⟩,⟨zn BK571⟩,⟨zn BK582⟩,⟨zb8⟩⟩
       case round=>
        clear H'
        try clear c1
        try clear p2
        try clear c3
        try clear q3
        try clear c4
        try clear c5
        try clear c6
        try clear p6
        try clear c35
        try clear q35
        try clear c38
        try clear c42
        try clear c42b0
        try clear c43
        try clear c43b0
        try clear c48
        try clear c54
        try clear c56
        try clear c56b0
        try clear c57
        try clear c61
        try clear p64
        try clear c67
        try clear hcz39_0
        try clear hcz39_1
        try clear hcz49_0
        try clear hcz49_1
        try clear hcz55_0
        try clear hcz55_1
        try clear hcz62_0
        try clear hcz62_1
        try clear hcz68_0
        try clear hcz68_1
        try clear hfz39_0
        try clear hfz39_1
        try clear hfz49_0
        try clear hfz49_1
        try clear hfz55_0
        try clear hfz55_1
        try clear hfz62_0
        try clear hfz62_1
        try clear hfz68_0
        try clear hfz68_1
        try clear p2
        try clear p6
        try clear p64
        try clear q035
        try clear q3
        try clear q35
        obtain⟨x14_4,x91_4,rfl,HA,HK4,HO_14,BK571,BK582,HB⟩:=hrel
        cases gk with
        |zero=>exact absurd HA.out (by simp[impl_Hear.l0])
        | succ k4=>
         have H:=HA.out
         clear HA
         simp only[impl_Hear.l0] at H
         replace H:=zI2 H
         rcases H with⟨c69,H⟩|⟨c69,H⟩
         case inl=>
          have c69b0:=zE c69
          clear c69
          obtain⟨ji70,hji70⟩:∃j_:Int,(wrap64 (t575+(wrap64 (a0_4*(wrap64 (1+x91_4))))))=j_:=⟨_,rfl⟩
          first|rw[hji70] at H|simp only[hji70] at H
          have hji70w:(IntKind.i64.wrap (t575+(wrap64 (a0_4*(wrap64 (1+x91_4))))))=ji70:=(i64_w _).trans hji70
          replace H:=zIN H
          obtain⟨c71,H⟩:=H
          have c71b0:=eq_true c71
          have c71b1:decide (0≤(ji70))=true:=zE c71
          clear c71
          replace H:=zIN H
          obtain⟨c72,H⟩:=H
          have c72b0:=eq_true c72
          have c72b1:decide ((ji70)≤(wrap64 ((ji70)+a0_4)))=true:=zE c72
          replace H:=zIN H
          obtain⟨c73,H⟩:=H
          have c73b0:=eq_true c73
          have c73b1:decide ((wrap64 ((ji70)+a0_4))≤(l1.length:Int))=true:=zE c73
          obtain⟨y585,hy585⟩:∃y_:List (S52),y_=((l1.take ((wrap64 ((ji70)+a0_4)):Int).toNat).drop ((ji70):Int).toNat):=⟨_,rfl⟩
          rw[←hy585] at H
          have Ny585:=zM hy585
          clear hy585
          replace H:=zP H
          obtain⟨⟨t589,t590⟩,A74,H⟩:=H
          dsimp only at H
          replace H:=zP H
          obtain⟨⟨t591,t592⟩,A75,H⟩:=H
          dsimp only at H
          replace H:=zP H
          obtain⟨t594,A76,H⟩:=H
          replace H:=zP H
          obtain⟨t595,A77,H⟩:=H
          replace H:=zIM H
          obtain⟨LMc78,H⟩:=H
          obtain⟨y596,hy596⟩:∃y_:List (S52),y_=(x14_4++[(⟨t594,t595⟩:S52)]):=⟨_,rfl⟩
          rw[←hy596] at H
          have Ny596:=zM hy596
          clear hy596
          have H':=zM H
          clear H
          have hnb79:=NB571_582.out
          have hnc79:=NB582_571.out
          obtain⟨hcz80_0,hcz80_1,hcz80_2,hcz80_3,hcz80_4,hcz80_5,hfz80_0,hfz80_1,hfz80_2,hfz80_3,hfz80_4,hfz80_5⟩:=zc6 BK571.out
          have q81:((wrap64 ((ji70)+a0_4)):Int)≤((l1.length:Int):Int):=zT (by assumption)
          obtain⟨i081,hi081,_,hsz81,_⟩:=info_parts info52
          have hroom81:l1.length≤c1:=HC1.out
          have hC81:Kd.C k52 _ A1 l1.length l1:=HR1.out
          have ql81:((ji70):Int)≤((wrap64 ((ji70)+a0_4)):Int):=zT (by assumption)
          have q081:(0:Int)≤((ji70):Int):=zT (by assumption)
          have hcut81:=cut_mid (P:=Try.prog) 25 52 .i64 .i64 Try.underlying25 hi081 2 hsz81 A1 l1.length c1 (ji70) (wrap64 ((ji70)+a0_4)) q081 ql81 q81 hroom81
          have hr81:=Kd.C_mid (lo:=((ji70):Int).toNat) (hi:=((wrap64 ((ji70)+a0_4)):Int).toNat) (c:=c1) hC81 (by omega) (by omega) hroom81
          obtain⟨A81,hA81⟩:∃A_1,A_1=(if c1=((ji70):Int).toNat then A1 else(A1:Option Addr).map (·.add (((ji70):Int).toNat*2))):=⟨_,rfl⟩
          obtain⟨c81,hc81⟩:∃c_1,c_1=c1-((ji70):Int).toNat:=⟨_,rfl⟩
          have hy81:y585.length=((wrap64 ((ji70)+a0_4)):Int).toNat-((ji70):Int).toNat:=(by rw[Ny585.out,List.length_drop,List.length_take]<;>omega)
          rw[show((l1).take ((wrap64 ((ji70)+a0_4)):Int).toNat).drop ((ji70):Int).toNat=y585 from Ny585.out.symm] at hr81
          replace hr81:Kd.C k52 _ A81 y585.length y585:=(by rw[hA81];exact hr81)
          rw[←hy81,←hA81,←hc81] at hcut81
          have HR588:=zM hr81
          have HC588:=zM (show y585.length≤c81 from by rw[hy81,hc81];exact Nat.sub_le_sub_right (Nat.le_trans (by omega) hroom81) _)
          clear hr81 hC81 hroom81 hi081 hsz81 hc81
          have KY81:=zM hy81
          have KA81:=zM hA81
          clear hy81 hA81
          replace q81:=eq_true q81
          try go_wp2_with (first|((with_reducible refine gate_callee (f:=57) rfl ?_);refine goesL_ (some 108) rfl rfl Try.func57 ze rfl #[.slice A81 y585.length c81] rfl zg ?_;(with_reducible refine(impl_sum.calls k4 _ _ y585 t589 t590 _ ?side1 ?side2 A74.out).mono ?_);(case side1=>exact zc (Kd.C_below HR588.out HB.out));(case side2=>exact HC588.out);rintro e w82 ⟨rfl,hb⟩;refine⟨_,rfl,?_⟩;refine zS4 (Kd.R_below (zr HO_14) hb) (zNb (g:=gb571) (o:= .cells #[.int .i64 a0_0, .int .i64 a0_1, .int .i64 a0_2, .int .i64 a0_3, .int .i64 a0_4, .int .i64 a0_5] 28 (0,0)) (zn BK571) hb) (zNb (g:=gb582) (o:= .cells #[.int .i64 t580, .int .i64 t581] 52 (0,0)) (zn BK582) hb) (below_step zb8 hb) ?_;clear HO_14 BK571 BK582 HB;intro HO_14 BK571 BK582 HB;(try clear hb);(try clear hb2);(try clear hk);(try clear hi))|((with_reducible refine gate_callee (f:=53) rfl ?_);refine goesL_ (some 112) rfl rfl Try.func53 ze rfl #[.agg #[.int .i64 t589, .int .i64 t590], .int .i64 (Int.tmod (wrap64 (4-x13_32)) 4)] rfl zg ?_;(with_reducible refine(impl_turned.calls k4 t589 t590 (Int.tmod (wrap64 (4-x13_32)) 4) t591 t592 _ A75.out).mono ?_);rintro e w83 ⟨rfl,hb⟩;refine⟨_,rfl,?_⟩;refine zS4 (Kd.R_below (zr HO_14) hb) (zNb (g:=gb571) (o:= .cells #[.int .i64 a0_0, .int .i64 a0_1, .int .i64 a0_2, .int .i64 a0_3, .int .i64 a0_4, .int .i64 a0_5] 28 (0,0)) (zn BK571) hb) (zNb (g:=gb582) (o:= .cells #[.int .i64 t580, .int .i64 t581] 52 (0,0)) (zn BK582) hb) (below_step zb8 hb) ?_;clear HO_14 BK571 BK582 HB;intro HO_14 BK571 BK582 HB;(try clear hb);(try clear hb2);(try clear hk);(try clear hi))|((with_reducible refine gate_dst (N:=17) rfl ?_);(try(refine gate_guard (by rfl) ?_;dsimp only));refine box_event ?hg (N:=17) ?hd (cs:= #[.int .i64 0, .int .i64 0]) (t:=52) ?hr ?_;(case hd|hg=>rfl);(case hr=>exact zh);intro gb593 hg w84 hbox hb;have n0_:=zM (Kd.R_below (Kd.R_elderB (zr HO_14) gb593 (Nat.le_of_eq hg.symm)) hb);have n1_:=zM (zNb (g:=gb571) (o:= .cells #[.int .i64 a0_0, .int .i64 a0_1, .int .i64 a0_2, .int .i64 a0_3, .int .i64 a0_4, .int .i64 a0_5] 28 (0,0)) (zn BK571) hb);have n2_:=zM (zNb (g:=gb582) (o:= .cells #[.int .i64 t580, .int .i64 t581] 52 (0,0)) (zn BK582) hb);have n3_:=zM (below_step zb8 hb);have n4_:=zM (hbox);have n5_:=zM ((zw hg (below_size zb8)));have n6_:=zM n5_.out;have n7_:=zM ((by rw[hg];exact Nat.ne_of_lt (by simpa using blk_lt BK571.out):gb571≠gb593));have n8_:=zM ((by rw[hg];exact Nat.ne_of_gt (by simpa using blk_lt BK571.out):gb593≠gb571));have n9_:=zM ((by rw[hg];exact Nat.ne_of_lt (by simpa using blk_lt BK582.out):gb582≠gb593));have n10_:=zM ((by rw[hg];exact Nat.ne_of_gt (by simpa using blk_lt BK582.out):gb593≠gb582));clear HO_14;clear BK571;clear BK582;clear HB;have HO_14:=n0_;have BK571:=n1_;have BK582:=n2_;have HB:=n3_;have BK593:=n4_;have GW593:=n5_;have GE593:=n6_;have NB571_593:=n7_;have NB593_571:=n8_;have NB582_593:=n9_;have NB593_582:=n10_;clear n0_ n1_ n2_ n3_ n4_ n5_ n6_ n7_ n8_ n9_ n10_;clear hb hbox hg;have hnb85:=NB593_571.out;have hnc85:=NB571_593.out;have hnb86:=NB593_582.out;have hnc86:=NB582_593.out;obtain⟨hcz87_0,hcz87_1,hfz87_0,hfz87_1⟩:=zc2 BK593.out))
          have n0_:Aside0 (Kd.R k52 52 ((w84.setCell ⟨gb593,0,none⟩ (.int .i64 t591)).setCell ⟨gb593,1,none⟩ (.int .i64 t592)) w.heap.size (fun k_=>k_≠gb582∧k_≠gb593) u14 x14_4):=⟨by(with_reducible repeat(first|apply zRa|apply zRn|apply zRd));exact Kd.R_mono (Kd.R_far (p:=⟨gb593,1,none⟩) (Kd.R_far (p:=⟨gb593,0,none⟩) (Kd.R_mono HO_14.out (fun k_ hk=>(⟨hk,hk.2⟩:_∧k_≠gb593))) (fun _ hk=>hk.2) (.int .i64 t591)) (fun _ hk=>hk.2) (.int .i64 t592)) (fun _ hk=>⟨hk.1.1,hk.1.2⟩)⟩
          have n1_:Aside0 (((w84.setCell ⟨gb593,0,none⟩ (.int .i64 t591)).setCell ⟨gb593,1,none⟩ (.int .i64 t592)).heap[gb571]? =some (.cells #[.int .i64 a0_0, .int .i64 a0_1, .int .i64 a0_2, .int .i64 a0_3, .int .i64 a0_4, .int .i64 a0_5] 28 (0,0))):=⟨by(with_reducible repeat(first|apply zNn|apply zNd|apply zNa));refine zNf ?_ NB571_593.out _;(with_reducible repeat(first|apply zNn|apply zNd|apply zNa));refine zNf ?_ NB571_593.out _;(with_reducible repeat(first|apply zNn|apply zNd|apply zNa));exact BK571.out⟩
          have n2_:Aside0 (((w84.setCell ⟨gb593,0,none⟩ (.int .i64 t591)).setCell ⟨gb593,1,none⟩ (.int .i64 t592)).heap[gb582]? =some (.cells #[.int .i64 t580, .int .i64 t581] 52 (0,0))):=⟨by(with_reducible repeat(first|apply zNn|apply zNd|apply zNa));refine zNf ?_ NB582_593.out _;(with_reducible repeat(first|apply zNn|apply zNd|apply zNa));refine zNf ?_ NB582_593.out _;(with_reducible repeat(first|apply zNn|apply zNd|apply zNa));exact BK582.out⟩
          have n3_:Aside0 (((w84.setCell ⟨gb593,0,none⟩ (.int .i64 t591)).setCell ⟨gb593,1,none⟩ (.int .i64 t592)).heap[gb593]? =some (.cells #[.int .i64 t591, .int .i64 t592] 52 (0,0))):=⟨by(with_reducible repeat(first|apply zNn|apply zNd|apply zNa));refine blk_put (cs:= #[.int .i64 t591, .int .i64 0]) ?_ 1 _ rfl;(with_reducible repeat(first|apply zNn|apply zNd|apply zNa));refine blk_put (cs:= #[.int .i64 0, .int .i64 0]) ?_ 0 _ rfl;(with_reducible repeat(first|apply zNn|apply zNd|apply zNa));exact BK593.out⟩
          have n4_:Aside0 (Below w.heap.size w ((w84.setCell ⟨gb593,0,none⟩ (.int .i64 t591)).setCell ⟨gb593,1,none⟩ (.int .i64 t592))):=⟨zb9⟩
          (try clear HO_14)
          (try clear BK571)
          (try clear BK582)
          (try clear BK593)
          (try clear HB)
          generalize ((w84.setCell ⟨gb593,0,none⟩ (.int .i64 t591)).setCell ⟨gb593,1,none⟩ (.int .i64 t592))=w88 at n0_ n1_ n2_ n3_ n4_ ⊢
          have HO_14:=n0_
          have BK571:=n1_
          have BK582:=n2_
          have BK593:=n3_
          have HB:=n4_
          clear n0_ n1_ n2_ n3_ n4_
          refine zS5 (zRd HO_14.out) (zNd BK571.out) (zNd BK582.out) (zNd BK593.out) (zBd HB.out) ?_
          clear HO_14 BK571 BK582 BK593 HB
          intro HO_14 BK571 BK582 BK593 HB
          refine start_ (n:=21) (S:=fun w'=>w'.cell? ⟨gb593,0,none⟩=some (.int .i64 t591)∧w'.cell? ⟨gb593,1,none⟩=some (.int .i64 t592)∧w'.cell? ⟨gb571,0,none⟩=some (.int .i64 a0_0)∧w'.cell? ⟨gb571,1,none⟩=some (.int .i64 a0_1)∧w'.cell? ⟨gb571,2,none⟩=some (.int .i64 a0_2)∧w'.cell? ⟨gb571,3,none⟩=some (.int .i64 a0_3)∧w'.cell? ⟨gb571,4,none⟩=some (.int .i64 a0_4)∧w'.cell? ⟨gb571,5,none⟩=some (.int .i64 a0_5)) (ds:=[]) #[zf,zf,zf,zf,zf,zf,zf,zf,zf,zf,zf,zf,zf,zf,zf,zf,zf,zf,zf,zf,zf] ze rfl rfl ⟨(blk_cell BK593.out 0).trans rfl,(blk_cell BK593.out 1).trans rfl,(blk_cell BK571.out 0).trans rfl,(blk_cell BK571.out 1).trans rfl,(blk_cell BK571.out 2).trans rfl,(blk_cell BK571.out 3).trans rfl,(blk_cell BK571.out 4).trans rfl,(blk_cell BK571.out 5).trans rfl⟩ (fun hHeld=> ?_);refine with_tabW impl_Hear.tab22 impl_Hear.bits22 (fun HT_ HW_=> ?_)
          generalize w88.drew=w89 at HO_14 BK571 BK582 BK593 HB hHeld ⊢
          refine zu 0 113 ?_
          refine zu 1 114 ?_
          refine zu 3 116 ?_
          refine zu 5 118 ?_
          refine zu 9 122 ?_
          refine zu 11 124 ?_
          refine zu 13 126 ?_
          refine zt8 2 115 ?_
          refine zt8 4 117 ?_
          refine zt8 6 119 ?_
          refine zu 7 120 ?_
          refine zt8 10 123 ?_
          refine zt8 12 125 ?_
          refine zt8 14 127 ?_
          refine zu 15 128 ?_
          refine one_ (i:=8) (N:=some 121) #[zt,zt,zt,zt,zt,zt,zt,zt,zt,zt,zt,zt,zt,zt,zt,zt,zf,zf,zf,zf,zf] rfl rfl (one_of HT_.out ze) (by decide) (fun K hK=> ?_)
          refine goes_ Try.func58 ze rfl #[.int .i64 t591, .int .i64 (wrap64 (a0_4*a0_5))] (by rfl) rfl rfl zg ?_
          with_reducible refine(impl_RoundDiv.calls k4 t591 (wrap64 (a0_4*a0_5)) t594 _ A76.out).mono ?_
          rintro e w' ⟨rfl,⟨nd,rfl⟩⟩
          refine⟨_,rfl,?_⟩
          refine hK.out _ _ ⟨(blk_cell BK593.out 0).trans rfl,(blk_cell BK593.out 1).trans rfl,(blk_cell BK571.out 0).trans rfl,(blk_cell BK571.out 1).trans rfl,(blk_cell BK571.out 2).trans rfl,(blk_cell BK571.out 3).trans rfl,(blk_cell BK571.out 4).trans rfl,(blk_cell BK571.out 5).trans rfl⟩ (fun hHeld=> ?_)
          clear hK K
          refine norm_ (a':= ?_) ?_ ?_
          rotate_left
          ·show Act.put _ (some 121) _=_
           simp only[Act.put,zL1,zL2,zL3,i64_w,i32_w]
           rfl
          refine one_ (i:=16) (N:=some 129) #[zt,zt,zt,zt,zt,zt,zt,zt,zt,zt,zt,zt,zt,zt,zt,zt,zt,zf,zf,zf,zf] rfl rfl (one_of HT_.out ze) (by decide) (fun K hK=> ?_)
          refine goes_ Try.func58 ze rfl #[.int .i64 t592, .int .i64 (wrap64 (a0_4*a0_5))] (by rfl) rfl rfl zg ?_
          with_reducible refine(impl_RoundDiv.calls k4 t592 (wrap64 (a0_4*a0_5)) t595 _ A77.out).mono ?_
          rintro e w' ⟨rfl,⟨nd,rfl⟩⟩
          refine⟨_,rfl,?_⟩
          refine hK.out _ _ ⟨(blk_cell BK593.out 0).trans rfl,(blk_cell BK593.out 1).trans rfl,(blk_cell BK571.out 0).trans rfl,(blk_cell BK571.out 1).trans rfl,(blk_cell BK571.out 2).trans rfl,(blk_cell BK571.out 3).trans rfl,(blk_cell BK571.out 4).trans rfl,(blk_cell BK571.out 5).trans rfl⟩ (fun hHeld=> ?_)
          clear hK K
          refine norm_ (a':= ?_) ?_ ?_
          rotate_left
          ·show Act.put _ (some 129) _=_
           simp only[Act.put,zL1,zL2,zL3,i64_w,i32_w]
           rfl
          refine zu 17 130 ?_
          refine one_ (i:=18) (N:=some 131) #[zt,zt,zt,zt,zt,zt,zt,zt,zt,zt,zt,zt,zt,zt,zt,zt,zt,zt,zt,zf,zf] rfl rfl (one_of HT_.out ze) (by decide) (fun K hK=> ?_)
          refine value_ (w1:= ?_) (v:= ?_) (by rfl) rfl ?_ ?_
          rotate_left 2
          ·go_simp
           constructor
           ·rfl
           ·rfl
          refine hK.out _ _ ⟨(blk_cell (zNa BK593.out _) 0).trans rfl,(blk_cell (zNa BK593.out _) 1).trans rfl,(blk_cell (zNa BK571.out _) 0).trans rfl,(blk_cell (zNa BK571.out _) 1).trans rfl,(blk_cell (zNa BK571.out _) 2).trans rfl,(blk_cell (zNa BK571.out _) 3).trans rfl,(blk_cell (zNa BK571.out _) 4).trans rfl,(blk_cell (zNa BK571.out _) 5).trans rfl⟩ (fun hHeld=> ?_)
          clear hK K
          refine norm_ (a':= ?_) ?_ ?_
          rotate_left
          ·show Act.put _ (some 131) _=_
           simp only[Act.put,zL1,zL2,zL3,i64_w,i32_w]
           rfl
          refine one_ (i:=19) (N:=some 132) #[zt,zt,zt,zt,zt,zt,zt,zt,zt,zt,zt,zt,zt,zt,zt,zt,zt,zt,zt,zt,zf] rfl rfl (one_of HT_.out ze) (by decide) (fun K hK=> ?_)
          refine Kd.R_append_step k52 (w0:=w) w.heap.size (by rfl) (.tmp 113) (.tmp 131) 25 52 (.agg #[(.int .i64 0),(.int .i64 0)]) 16 rfl Try.underlying25 info52 rfl (by decide) (by omega) u14 x14_4 (⟨t594,t595⟩:S52) [.int .i64 t594, .int .i64 t595] (fun k_=>k_≠gb582∧k_≠gb593) (fun _=>False) rfl rfl ?aP (fun _ hk=>hk.elim) ?aF ?aO ?aB ?aS ?aL ?_
          (case aP=>exact k52_mkM _ _ _ (⟨t594,t595⟩:S52))
          (case aB=>exact zb9)
          (case aF=>exact(fun k_ hk=>⟨Kd.freshB (g:=gb582) (o:= .cells #[.int .i64 t580, .int .i64 t581] 52 (0,0)) (zn BK582) k_ hk,Kd.freshB (g:=gb593) (o:= .cells #[.int .i64 t591, .int .i64 t592] 52 (0,0)) (zn BK593) k_ hk⟩))
          (case aO=>exact(zr HO_14))
          (case aS=>exact(below_size zb9))
          (case aL=>have:=LMc78.out;omega)
          intro v597 w90 ho hb hg hat
          (first|rw[←Ny596.out] at ho|simp only[Int.reduceToNat,←Ny596.out] at ho)
          refine zS5 (blk_grown (g:=gb571) (o:= .cells #[.int .i64 a0_0, .int .i64 a0_1, .int .i64 a0_2, .int .i64 a0_3, .int .i64 a0_4, .int .i64 a0_5] 28 (0,0)) (zn BK571) hg (Kd.R_ne HO_14.out BK571.out (by decide))) (blk_grown (g:=gb582) (o:= .cells #[.int .i64 t580, .int .i64 t581] 52 (0,0)) (zn BK582) hg (Kd.R_away HO_14.out (fun _ hk=>hk.1))) (blk_grown (g:=gb593) (o:= .cells #[.int .i64 t591, .int .i64 t592] 52 (0,0)) (zn BK593) hg (Kd.R_away HO_14.out (fun _ hk=>hk.2))) (hb) (ho) ?_
          clear BK571 BK582 BK593 HB HO_14
          intro BK571 BK582 BK593 HB HO598
          clear ho hb hg hat
          refine hK.out _ _ ⟨(blk_cell BK593.out 0).trans rfl,(blk_cell BK593.out 1).trans rfl,(blk_cell BK571.out 0).trans rfl,(blk_cell BK571.out 1).trans rfl,(blk_cell BK571.out 2).trans rfl,(blk_cell BK571.out 3).trans rfl,(blk_cell BK571.out 4).trans rfl,(blk_cell BK571.out 5).trans rfl⟩ (fun hHeld=> ?_)
          clear hK K
          refine norm_ (a':= ?_) ?_ ?_
          rotate_left
          ·show Act.put _ (some 132) _=_
           simp only[Act.put,zL1,zL2,zL3,i64_w,i32_w]
           rfl
          refine zu 20 14 ?_
          refine done_ (done_of HT_.out ze) ?_
          try go_wp2
          go_roundg k4
          case measure=>have:=HJ3.out;have:=HJ21.out;have:=HJ32.out;have:=HK4.out;omega
          case rel=>exact⟨(y596),(wrap64 (x91_4+1)),zs,H',⟨by have:=HJ3.out;have:=HJ21.out;have:=HJ32.out;have:=HK4.out;omega⟩,⟨by(with_reducible repeat(first|apply zRa|apply zRn|apply zRd));first|exact Kd.R_mono HO598.out (fun _ hk=>hk.1)|(subst_vars;exact Kd.R_mono HO598.out (fun _ hk=>hk.1))⟩,⟨zn BK571⟩,⟨zn BK582⟩,⟨zb9⟩⟩
         have c69b0:=decide_eq_false c69
         clear c69
         replace H:=zP H
         obtain⟨⟨t599,t600⟩,A91,H⟩:=H
         dsimp only at H
         obtain⟨ji92,hji92⟩:∃j_:Int,(wrap64 (8*(wrap64 (a2+(wrap64 (2*a0_1))))))=j_:=⟨_,rfl⟩
         first|rw[hji92] at H|simp only[hji92] at H
         (try rw[hji92] at c69b0)
         (try rw[hji92] at A91)
         have hji92w:(IntKind.i64.wrap (8*(wrap64 (a2+(wrap64 (2*a0_1))))))=ji92:=(i64_w _).trans hji92
         replace H:=zIN H
         obtain⟨c93,H⟩:=H
         have c93b0:=eq_true c93
         have c93b1:decide (0≤(ji92))=true:=zE c93
         clear c93
         replace H:=zIN H
         obtain⟨c94,H⟩:=H
         have c94b0:=eq_true c94
         have c94b1:decide ((ji92)≤(t599.length:Int))=true:=zE c94
         clear c94
         obtain⟨y603,hy603⟩:∃y_:List Int,y_=(t599.take ((ji92):Int).toNat):=⟨_,rfl⟩
         rw[←hy603] at H
         have Ny603:=zM hy603
         clear hy603
         replace H:=zP H
         obtain⟨⟨t607,t608⟩,A95,H⟩:=H
         dsimp only at H
         replace H:=zP H
         obtain⟨⟨t611,t612⟩,A96,H⟩:=H
         dsimp only at H
         replace H:=zP H
         obtain⟨t615,A97,H⟩:=H
         replace H:=zP H
         obtain⟨⟨t618,t619,t620⟩,A98,H⟩:=H
         dsimp only at H
         by_cases c99:t620=true
         case neg=>
          replace c99:=Bool.eq_false_iff.mpr c99
          subst c99
          rw[if_neg zFT] at H
          simp only[Option.some.injEq,Prod.mk.injEq] at H
          obtain⟨rfl,rfl,rfl⟩:=H
          have hnb120:=NB571_582.out
          have hnc120:=NB582_571.out
          obtain⟨hcz121_0,hcz121_1,hcz121_2,hcz121_3,hcz121_4,hcz121_5,hfz121_0,hfz121_1,hfz121_2,hfz121_3,hfz121_4,hfz121_5⟩:=zc6 BK571.out
          obtain⟨Ao122,co122,eo122⟩:=Kd.R_slice HO_14.out
          subst eo122
          try go_wp2_with (first|((with_reducible refine gate_callee (f:=59) rfl ?_);refine goesL_ (some 138) rfl rfl Try.func59 ze rfl #[.int .i64 a0_0, .slice Ao122 x14_4.length co122] rfl zg ?_;(with_reducible refine(impl_Decide.calls k4 a0_0 _ _ x14_4 t599 t600 _ ?side1 ?side2 A91.out).mono ?_);(case side1=>exact zc (Kd.R_reads' HO_14.out).2.2);(case side2=>exact(Kd.R_reads' HO_14.out).2.1);rintro e w123 ⟨v601,rfl,ho0,hb⟩;refine⟨_,rfl,?_⟩;refine zS5 (Kd.R_below (zr HO_14) hb) (Kd.R_lower ho0 (below_size zb8)) (zNb (g:=gb571) (o:= .cells #[.int .i64 a0_0, .int .i64 a0_1, .int .i64 a0_2, .int .i64 a0_3, .int .i64 a0_4, .int .i64 a0_5] 28 (0,0)) (zn BK571) hb) (zNb (g:=gb582) (o:= .cells #[.int .i64 t580, .int .i64 t581] 52 (0,0)) (zn BK582) hb) (below_step zb8 hb) ?_;clear HO_14 BK571 BK582 HB;intro HO_14 HO602 BK571 BK582 HB;(try clear hb);(try clear hb2);(try clear hk);(try clear hi);(try clear ho0)))
          refine zS5 (zRd HO_14.out) (zRd HO602.out) (zNd BK571.out) (zNd BK582.out) (zBd HB.out) ?_
          clear HO_14 HO602 BK571 BK582 HB
          intro HO_14 HO602 BK571 BK582 HB
          obtain⟨Ao126,co126,eo126⟩:=Kd.R_slice HO602.out
          (first|subst eo126|(injection eo126 with f1_ f2_ f3_;have f4_:=f1_.symm;have f5_:=f3_.symm;clear f1_ f2_ f3_;subst f4_;subst f5_))
          have q125:((ji92):Int)≤((t599.length:Int):Int):=zT (by assumption)
          obtain⟨i0125,hi0125,_,hsz125,_⟩:=info_parts info3
          have hroom125:t599.length≤co126:=(Kd.R_reads' HO602.out).2.1
          have hC125:Kd.C (Kd.int .i64) _ Ao126 t599.length t599:=(Kd.R_reads' HO602.out).2.2
          have hcut125:=cut_to (P:=Try.prog) 46 3 .i64 Try.underlying46 hi0125 Ao126 t599.length co126 (ji92) (zT (by assumption)) q125 hroom125
          have hr125:=Kd.C_take (m:=((ji92):Int).toNat) hC125 (by omega)
          have hy125:y603.length=((ji92):Int).toNat:=(by rw[Ny603.out,List.length_take];omega)
          rw[←Ny603.out] at hr125
          rw[←hy125] at hcut125
          have HR606:=zM hr125
          have HC606:=zM (show y603.length≤co126 from by omega)
          clear hr125 hC125 hroom125 hi0125 hsz125
          have KY125:=zM hy125
          clear hy125
          have KL125:=zM (show((ji92):Int).toNat≤t599.length from by omega)
          replace q125:=eq_true q125
          refine start_ (n:=10) (S:=fun w'=>w'.cell? ⟨gb571,0,none⟩=some (.int .i64 a0_0)∧w'.cell? ⟨gb571,1,none⟩=some (.int .i64 a0_1)∧w'.cell? ⟨gb571,2,none⟩=some (.int .i64 a0_2)∧w'.cell? ⟨gb571,3,none⟩=some (.int .i64 a0_3)∧w'.cell? ⟨gb571,4,none⟩=some (.int .i64 a0_4)∧w'.cell? ⟨gb571,5,none⟩=some (.int .i64 a0_5)) (ds:=[]) #[zf,zf,zf,zf,zf,zf,zf,zf,zf,zf] ze rfl rfl ⟨(blk_cell BK571.out 0).trans rfl,(blk_cell BK571.out 1).trans rfl,(blk_cell BK571.out 2).trans rfl,(blk_cell BK571.out 3).trans rfl,(blk_cell BK571.out 4).trans rfl,(blk_cell BK571.out 5).trans rfl⟩ (fun hHeld=> ?_);refine with_tabW impl_Hear.tab25 impl_Hear.bits25 (fun HT_ HW_=> ?_)
          generalize w123.drew=w124 at HO_14 HO602 BK571 BK582 HB HR606 hHeld ⊢
          refine zu 0 142 ?_
          refine zu 1 143 ?_
          refine zu 2 144 ?_
          refine zu 3 145 ?_
          refine zt6 4 146 ?_
          refine one_ (i:=5) (N:=some 147) #[zt,zt,zt,zt,zt,zt,zf,zf,zf,zf] rfl rfl (one_of HT_.out ze) (by decide) (fun K hK=> ?_)
          refine goes_ Try.func41 ze rfl #[.slice Ao126 y603.length co126, .int .i64 46080, .int .i64 a0_3] (by rfl) rfl rfl zg ?_
          with_reducible refine(impl_Stir.calls k4 _ _ y603 46080 a0_3 t607 t608 _ ?side1 ?side2 A95.out).mono ?_
          (case side1=>exact zc (zc HR606.out))
          (case side2=>exact HC606.out)
          rintro e w127 ⟨v609,rfl,ho0,hb⟩
          refine⟨_,rfl,?_⟩
          refine zS7 (Kd.R_below (zr HO_14) hb) (Kd.R_elder' (zr HO602) (Kd.R_base ho0) hb) (Kd.R_lower (Kd.R_new' ho0 (Kd.R_lt (zr HO602))) (below_size zb8)) (zNb (g:=gb571) (o:= .cells #[.int .i64 a0_0, .int .i64 a0_1, .int .i64 a0_2, .int .i64 a0_3, .int .i64 a0_4, .int .i64 a0_5] 28 (0,0)) (zn BK571) hb) (zNb (g:=gb582) (o:= .cells #[.int .i64 t580, .int .i64 t581] 52 (0,0)) (zn BK582) hb) (Kd.C_below (zc HR606.out) hb) (below_step zb8 hb) ?_
          clear HO_14 HO602 BK571 BK582 HR606 HB
          intro HO_14 HO602 HO610 BK571 BK582 HR606 HB
          (try clear hb)
          (try clear hb2)
          (try clear hk)
          (try clear hi)
          (try clear ho0)
          refine hK.out _ _ ⟨(blk_cell BK571.out 0).trans rfl,(blk_cell BK571.out 1).trans rfl,(blk_cell BK571.out 2).trans rfl,(blk_cell BK571.out 3).trans rfl,(blk_cell BK571.out 4).trans rfl,(blk_cell BK571.out 5).trans rfl⟩ (fun hHeld=> ?_)
          clear hK K
          refine norm_ (a':= ?_) ?_ ?_
          rotate_left
          ·show Act.put _ (some 147) _=_
           simp only[Act.put,zL1,zL2,zL3,i64_w,i32_w]
           rfl
          refine zu 6 141 ?_
          refine zu 7 148 ?_
          refine zu 8 149 ?_
          refine zu 9 18 ?_
          refine done_ (done_of HT_.out ze) ?_
          obtain⟨hcz128_0,hcz128_1,hcz128_2,hcz128_3,hcz128_4,hcz128_5,hfz128_0,hfz128_1,hfz128_2,hfz128_3,hfz128_4,hfz128_5⟩:=zc6 BK571.out
          obtain⟨Ao129,co129,eo129⟩:=Kd.R_slice HO610.out
          subst eo129
          try go_wp2_with (first|((with_reducible refine gate_callee (f:=60) rfl ?_);refine goesL_ (some 154) rfl rfl Try.func60 ze rfl #[.slice Ao129 t607.length co129, .int .i64 a0_2] rfl zg ?_;(with_reducible refine(impl_Unweave.calls k4 _ _ t607 a0_2 t611 t612 _ ?side1 ?side2 A96.out).mono ?_);(case side1=>exact zc (Kd.R_reads' HO610.out).2.2);(case side2=>exact(Kd.R_reads' HO610.out).2.1);rintro e w130 ⟨v613,rfl,ho0,hb⟩;refine⟨_,rfl,?_⟩;refine zS8 (Kd.R_below (zr HO_14) hb) (Kd.R_elder' (zr HO602) (Kd.R_base ho0) hb) (Kd.R_elder' (zr HO610) (Kd.R_base ho0) hb) (Kd.R_lower (Kd.R_new' (Kd.R_new' ho0 (Kd.R_lt (zr HO602))) (Kd.R_lt (zr HO610))) (below_size zb8)) (zNb (g:=gb571) (o:= .cells #[.int .i64 a0_0, .int .i64 a0_1, .int .i64 a0_2, .int .i64 a0_3, .int .i64 a0_4, .int .i64 a0_5] 28 (0,0)) (zn BK571) hb) (zNb (g:=gb582) (o:= .cells #[.int .i64 t580, .int .i64 t581] 52 (0,0)) (zn BK582) hb) (Kd.C_below (zc HR606.out) hb) (below_step zb8 hb) ?_;clear HO_14 HO602 HO610 BK571 BK582 HR606 HB;intro HO_14 HO602 HO610 HO614 BK571 BK582 HR606 HB;(try clear hb);(try clear hb2);(try clear hk);(try clear hi);(try clear ho0)))
          refine zS8 (zRd HO_14.out) (zRd HO602.out) (zRd HO610.out) (zRd HO614.out) (zNd BK571.out) (zNd BK582.out) (zCd HR606.out) (zBd HB.out) ?_
          clear HO_14 HO602 HO610 HO614 BK571 BK582 HR606 HB
          intro HO_14 HO602 HO610 HO614 BK571 BK582 HR606 HB
          obtain⟨Ao132,co132,eo132⟩:=Kd.R_slice HO614.out
          (first|subst eo132|(injection eo132 with f1_ f2_ f3_;have f4_:=f1_.symm;have f5_:=f3_.symm;clear f1_ f2_ f3_;subst f4_;subst f5_))
          refine start_ (n:=12) (S:=fun w'=>w'.cell? ⟨gb571,0,none⟩=some (.int .i64 a0_0)∧w'.cell? ⟨gb571,1,none⟩=some (.int .i64 a0_1)∧w'.cell? ⟨gb571,2,none⟩=some (.int .i64 a0_2)∧w'.cell? ⟨gb571,3,none⟩=some (.int .i64 a0_3)∧w'.cell? ⟨gb571,4,none⟩=some (.int .i64 a0_4)∧w'.cell? ⟨gb571,5,none⟩=some (.int .i64 a0_5)) (ds:=[]) #[zf,zf,zf,zf,zf,zf,zf,zf,zf,zf,zf,zf] ze rfl rfl ⟨(blk_cell BK571.out 0).trans rfl,(blk_cell BK571.out 1).trans rfl,(blk_cell BK571.out 2).trans rfl,(blk_cell BK571.out 3).trans rfl,(blk_cell BK571.out 4).trans rfl,(blk_cell BK571.out 5).trans rfl⟩ (fun hHeld=> ?_);refine with_tabW impl_Hear.tab27 impl_Hear.bits27 (fun HT_ HW_=> ?_)
          generalize w130.drew=w131 at HO_14 HO602 HO610 HO614 BK571 BK582 HR606 HB hHeld ⊢
          refine zu 0 158 ?_
          refine zu 2 160 ?_
          refine zt6 3 161 ?_
          refine one_ (i:=1) (N:=some 159) #[zt,zt,zt,zt,zf,zf,zf,zf,zf,zf,zf,zf] rfl rfl (one_of HT_.out ze) (by decide) (fun K hK=> ?_)
          refine goes_ Try.func62 ze rfl #[.slice Ao132 t611.length co132] (by rfl) rfl rfl zg ?_
          with_reducible refine(impl_pack8.calls k4 _ _ t611 t615 _ ?side1 ?side2 A97.out).mono ?_
          (case side1=>exact zc (Kd.R_reads' HO614.out).2.2)
          (case side2=>exact(Kd.R_reads' HO614.out).2.1)
          rintro e w133 ⟨v616,rfl,ho0,hb⟩
          refine⟨_,rfl,?_⟩
          refine zS9 (Kd.R_below (zr HO_14) hb) (Kd.R_below (zr HO602) hb) (Kd.R_below (zr HO610) hb) (Kd.R_below (zr HO614) hb) (Kd.R_lower ho0 (below_size zb8)) (zNb (g:=gb571) (o:= .cells #[.int .i64 a0_0, .int .i64 a0_1, .int .i64 a0_2, .int .i64 a0_3, .int .i64 a0_4, .int .i64 a0_5] 28 (0,0)) (zn BK571) hb) (zNb (g:=gb582) (o:= .cells #[.int .i64 t580, .int .i64 t581] 52 (0,0)) (zn BK582) hb) (Kd.C_below (zc HR606.out) hb) (below_step zb8 hb) ?_
          clear HO_14 HO602 HO610 HO614 BK571 BK582 HR606 HB
          intro HO_14 HO602 HO610 HO614 HO617 BK571 BK582 HR606 HB
          (try clear hb)
          (try clear hb2)
          (try clear hk)
          (try clear hi)
          (try clear ho0)
          obtain⟨Ao134,co134,eo134⟩:=Kd.R_slice HO617.out
          (first|subst eo134|(injection eo134 with f1_ f2_ f3_;have f4_:=f1_.symm;have f5_:=f3_.symm;clear f1_ f2_ f3_;subst f4_;subst f5_))
          refine hK.out _ _ ⟨(blk_cell BK571.out 0).trans rfl,(blk_cell BK571.out 1).trans rfl,(blk_cell BK571.out 2).trans rfl,(blk_cell BK571.out 3).trans rfl,(blk_cell BK571.out 4).trans rfl,(blk_cell BK571.out 5).trans rfl⟩ (fun hHeld=> ?_)
          clear hK K
          refine norm_ (a':= ?_) ?_ ?_
          rotate_left
          ·show Act.put _ (some 159) _=_
           simp only[Act.put,zL1,zL2,zL3,i64_w,i32_w]
           rfl
          refine one_ (i:=4) (N:=some 162) #[zt,zt,zt,zt,zt,zf,zf,zf,zf,zf,zf,zf] rfl rfl (one_of HT_.out ze) (by decide) (fun K hK=> ?_)
          refine goes_ Try.func61 ze rfl #[.slice Ao134 t615.length co134, .int .i64 a0_1] (by rfl) rfl rfl zg ?_
          with_reducible refine(impl_RsMend.calls k4 _ _ t615 a0_1 t618 t619 false _ ?side1 ?side2 A98.out).mono ?_
          (case side1=>exact zc (Kd.R_reads' HO617.out).2.2)
          (case side2=>exact(Kd.R_reads' HO617.out).2.1)
          rintro e w135 ⟨v621,rfl,ho0,hb⟩
          refine⟨_,rfl,?_⟩
          refine zS10 (Kd.R_below (zr HO_14) hb) (Kd.R_below (zr HO602) hb) (Kd.R_below (zr HO610) hb) (Kd.R_below (zr HO614) hb) (Kd.R_elder' (zr HO617) (Kd.R_base ho0) hb) (Kd.R_lower (Kd.R_new' ho0 (Kd.R_lt (zr HO617))) (below_size zb8)) (zNb (g:=gb571) (o:= .cells #[.int .i64 a0_0, .int .i64 a0_1, .int .i64 a0_2, .int .i64 a0_3, .int .i64 a0_4, .int .i64 a0_5] 28 (0,0)) (zn BK571) hb) (zNb (g:=gb582) (o:= .cells #[.int .i64 t580, .int .i64 t581] 52 (0,0)) (zn BK582) hb) (Kd.C_below (zc HR606.out) hb) (below_step zb8 hb) ?_
          clear HO_14 HO602 HO610 HO614 HO617 BK571 BK582 HR606 HB
          intro HO_14 HO602 HO610 HO614 HO617 HO622 BK571 BK582 HR606 HB
          (try clear hb)
          (try clear hb2)
          (try clear hk)
          (try clear hi)
          (try clear ho0)
          refine hK.out _ _ ⟨(blk_cell BK571.out 0).trans rfl,(blk_cell BK571.out 1).trans rfl,(blk_cell BK571.out 2).trans rfl,(blk_cell BK571.out 3).trans rfl,(blk_cell BK571.out 4).trans rfl,(blk_cell BK571.out 5).trans rfl⟩ (fun hHeld=> ?_)
          clear hK K
          refine norm_ (a':= ?_) ?_ ?_
          rotate_left
          ·show Act.put _ (some 162) _=_
           simp only[Act.put,zL1,zL2,zL3,i64_w,i32_w]
           rfl
          refine zu 5 157 ?_
          refine zu 6 163 ?_
          refine zu 7 164 ?_
          refine zu 8 165 ?_
          refine zu 9 20 ?_
          refine zu 10 21 ?_
          refine zu 11 22 ?_
          refine done_ (done_of HT_.out ze) ?_
          try go_wp2
          go_ret3
          refine hr_out ?_
          exact⟨_,by first|rfl|(simp[errW_none,errW_some]<;>rfl)|(simp only[←hji92];first|rfl|(simp[errW_none,errW_some]<;>rfl))|(simp[*,errW_none,errW_some]<;>rfl),zz,zb8⟩
         subst c99
         rw[if_pos rfl] at H
         replace H:=zIN H
         obtain⟨c100,H⟩:=H
         have c100b0:=eq_true c100
         have c100b1:decide (0≤a2)=true:=zE c100
         clear c100
         replace H:=zIN H
         obtain⟨c101,H⟩:=H
         have c101b0:=eq_true c101
         have c101b1:decide (a2≤(t618.length:Int))=true:=zE c101
         clear c101
         obtain⟨y623,hy623⟩:∃y_:List Int,y_=(t618.take (a2:Int).toNat):=⟨_,rfl⟩
         rw[←hy623] at H
         have Ny623:=zM hy623
         clear hy623
         simp only[Option.some.injEq,Prod.mk.injEq] at H
         obtain⟨rfl,rfl,rfl⟩:=H
         have hnb102:=NB571_582.out
         have hnc102:=NB582_571.out
         obtain⟨hcz103_0,hcz103_1,hcz103_2,hcz103_3,hcz103_4,hcz103_5,hfz103_0,hfz103_1,hfz103_2,hfz103_3,hfz103_4,hfz103_5⟩:=zc6 BK571.out
         obtain⟨Ao104,co104,eo104⟩:=Kd.R_slice HO_14.out
         subst eo104
         try go_wp2_with (first|((with_reducible refine gate_callee (f:=59) rfl ?_);refine goesL_ (some 138) rfl rfl Try.func59 ze rfl #[.int .i64 a0_0, .slice Ao104 x14_4.length co104] rfl zg ?_;(with_reducible refine(impl_Decide.calls k4 a0_0 _ _ x14_4 t599 t600 _ ?side1 ?side2 A91.out).mono ?_);(case side1=>exact zc (Kd.R_reads' HO_14.out).2.2);(case side2=>exact(Kd.R_reads' HO_14.out).2.1);rintro e w105 ⟨v601,rfl,ho0,hb⟩;refine⟨_,rfl,?_⟩;refine zS5 (Kd.R_below (zr HO_14) hb) (Kd.R_lower ho0 (below_size zb8)) (zNb (g:=gb571) (o:= .cells #[.int .i64 a0_0, .int .i64 a0_1, .int .i64 a0_2, .int .i64 a0_3, .int .i64 a0_4, .int .i64 a0_5] 28 (0,0)) (zn BK571) hb) (zNb (g:=gb582) (o:= .cells #[.int .i64 t580, .int .i64 t581] 52 (0,0)) (zn BK582) hb) (below_step zb8 hb) ?_;clear HO_14 BK571 BK582 HB;intro HO_14 HO602 BK571 BK582 HB;(try clear hb);(try clear hb2);(try clear hk);(try clear hi);(try clear ho0)))
         refine zS5 (zRd HO_14.out) (zRd HO602.out) (zNd BK571.out) (zNd BK582.out) (zBd HB.out) ?_
         clear HO_14 HO602 BK571 BK582 HB
         intro HO_14 HO602 BK571 BK582 HB
         obtain⟨Ao108,co108,eo108⟩:=Kd.R_slice HO602.out
         (first|subst eo108|(injection eo108 with f1_ f2_ f3_;have f4_:=f1_.symm;have f5_:=f3_.symm;clear f1_ f2_ f3_;subst f4_;subst f5_))
         have q107:((ji92):Int)≤((t599.length:Int):Int):=zT (by assumption)
         obtain⟨i0107,hi0107,_,hsz107,_⟩:=info_parts info3
         have hroom107:t599.length≤co108:=(Kd.R_reads' HO602.out).2.1
         have hC107:Kd.C (Kd.int .i64) _ Ao108 t599.length t599:=(Kd.R_reads' HO602.out).2.2
         have hcut107:=cut_to (P:=Try.prog) 46 3 .i64 Try.underlying46 hi0107 Ao108 t599.length co108 (ji92) (zT (by assumption)) q107 hroom107
         have hr107:=Kd.C_take (m:=((ji92):Int).toNat) hC107 (by omega)
         have hy107:y603.length=((ji92):Int).toNat:=(by rw[Ny603.out,List.length_take];omega)
         rw[←Ny603.out] at hr107
         rw[←hy107] at hcut107
         have HR606:=zM hr107
         have HC606:=zM (show y603.length≤co108 from by omega)
         clear hr107 hC107 hroom107 hi0107 hsz107
         have KY107:=zM hy107
         clear hy107
         have KL107:=zM (show((ji92):Int).toNat≤t599.length from by omega)
         replace q107:=eq_true q107
         refine start_ (n:=10) (S:=fun w'=>w'.cell? ⟨gb571,0,none⟩=some (.int .i64 a0_0)∧w'.cell? ⟨gb571,1,none⟩=some (.int .i64 a0_1)∧w'.cell? ⟨gb571,2,none⟩=some (.int .i64 a0_2)∧w'.cell? ⟨gb571,3,none⟩=some (.int .i64 a0_3)∧w'.cell? ⟨gb571,4,none⟩=some (.int .i64 a0_4)∧w'.cell? ⟨gb571,5,none⟩=some (.int .i64 a0_5)) (ds:=[]) #[zf,zf,zf,zf,zf,zf,zf,zf,zf,zf] ze rfl rfl ⟨(blk_cell BK571.out 0).trans rfl,(blk_cell BK571.out 1).trans rfl,(blk_cell BK571.out 2).trans rfl,(blk_cell BK571.out 3).trans rfl,(blk_cell BK571.out 4).trans rfl,(blk_cell BK571.out 5).trans rfl⟩ (fun hHeld=> ?_);refine with_tabW impl_Hear.tab25 impl_Hear.bits25 (fun HT_ HW_=> ?_)
         generalize w105.drew=w106 at HO_14 HO602 BK571 BK582 HB HR606 hHeld ⊢
         refine zu 0 142 ?_
         refine zu 1 143 ?_
         refine zu 2 144 ?_
         refine zu 3 145 ?_
         refine zt6 4 146 ?_
         refine one_ (i:=5) (N:=some 147) #[zt,zt,zt,zt,zt,zt,zf,zf,zf,zf] rfl rfl (one_of HT_.out ze) (by decide) (fun K hK=> ?_)
         refine goes_ Try.func41 ze rfl #[.slice Ao108 y603.length co108, .int .i64 46080, .int .i64 a0_3] (by rfl) rfl rfl zg ?_
         with_reducible refine(impl_Stir.calls k4 _ _ y603 46080 a0_3 t607 t608 _ ?side1 ?side2 A95.out).mono ?_
         (case side1=>exact zc (zc HR606.out))
         (case side2=>exact HC606.out)
         rintro e w109 ⟨v609,rfl,ho0,hb⟩
         refine⟨_,rfl,?_⟩
         refine zS7 (Kd.R_below (zr HO_14) hb) (Kd.R_elder' (zr HO602) (Kd.R_base ho0) hb) (Kd.R_lower (Kd.R_new' ho0 (Kd.R_lt (zr HO602))) (below_size zb8)) (zNb (g:=gb571) (o:= .cells #[.int .i64 a0_0, .int .i64 a0_1, .int .i64 a0_2, .int .i64 a0_3, .int .i64 a0_4, .int .i64 a0_5] 28 (0,0)) (zn BK571) hb) (zNb (g:=gb582) (o:= .cells #[.int .i64 t580, .int .i64 t581] 52 (0,0)) (zn BK582) hb) (Kd.C_below (zc HR606.out) hb) (below_step zb8 hb) ?_
         clear HO_14 HO602 BK571 BK582 HR606 HB
         intro HO_14 HO602 HO610 BK571 BK582 HR606 HB
         (try clear hb)
         (try clear hb2)
         (try clear hk)
         (try clear hi)
         (try clear ho0)
         refine hK.out _ _ ⟨(blk_cell BK571.out 0).trans rfl,(blk_cell BK571.out 1).trans rfl,(blk_cell BK571.out 2).trans rfl,(blk_cell BK571.out 3).trans rfl,(blk_cell BK571.out 4).trans rfl,(blk_cell BK571.out 5).trans rfl⟩ (fun hHeld=> ?_)
         clear hK K
         refine norm_ (a':= ?_) ?_ ?_
         rotate_left
         ·show Act.put _ (some 147) _=_
          simp only[Act.put,zL1,zL2,zL3,i64_w,i32_w]
          rfl
         refine zu 6 141 ?_
         refine zu 7 148 ?_
         refine zu 8 149 ?_
         refine zu 9 18 ?_
         refine done_ (done_of HT_.out ze) ?_
         obtain⟨hcz110_0,hcz110_1,hcz110_2,hcz110_3,hcz110_4,hcz110_5,hfz110_0,hfz110_1,hfz110_2,hfz110_3,hfz110_4,hfz110_5⟩:=zc6 BK571.out
         obtain⟨Ao111,co111,eo111⟩:=Kd.R_slice HO610.out
         subst eo111
         try go_wp2_with (first|((with_reducible refine gate_callee (f:=60) rfl ?_);refine goesL_ (some 154) rfl rfl Try.func60 ze rfl #[.slice Ao111 t607.length co111, .int .i64 a0_2] rfl zg ?_;(with_reducible refine(impl_Unweave.calls k4 _ _ t607 a0_2 t611 t612 _ ?side1 ?side2 A96.out).mono ?_);(case side1=>exact zc (Kd.R_reads' HO610.out).2.2);(case side2=>exact(Kd.R_reads' HO610.out).2.1);rintro e w112 ⟨v613,rfl,ho0,hb⟩;refine⟨_,rfl,?_⟩;refine zS8 (Kd.R_below (zr HO_14) hb) (Kd.R_elder' (zr HO602) (Kd.R_base ho0) hb) (Kd.R_elder' (zr HO610) (Kd.R_base ho0) hb) (Kd.R_lower (Kd.R_new' (Kd.R_new' ho0 (Kd.R_lt (zr HO602))) (Kd.R_lt (zr HO610))) (below_size zb8)) (zNb (g:=gb571) (o:= .cells #[.int .i64 a0_0, .int .i64 a0_1, .int .i64 a0_2, .int .i64 a0_3, .int .i64 a0_4, .int .i64 a0_5] 28 (0,0)) (zn BK571) hb) (zNb (g:=gb582) (o:= .cells #[.int .i64 t580, .int .i64 t581] 52 (0,0)) (zn BK582) hb) (Kd.C_below (zc HR606.out) hb) (below_step zb8 hb) ?_;clear HO_14 HO602 HO610 BK571 BK582 HR606 HB;intro HO_14 HO602 HO610 HO614 BK571 BK582 HR606 HB;(try clear hb);(try clear hb2);(try clear hk);(try clear hi);(try clear ho0)))
         refine zS8 (zRd HO_14.out) (zRd HO602.out) (zRd HO610.out) (zRd HO614.out) (zNd BK571.out) (zNd BK582.out) (zCd HR606.out) (zBd HB.out) ?_
         clear HO_14 HO602 HO610 HO614 BK571 BK582 HR606 HB
         intro HO_14 HO602 HO610 HO614 BK571 BK582 HR606 HB
         obtain⟨Ao114,co114,eo114⟩:=Kd.R_slice HO614.out
         (first|subst eo114|(injection eo114 with f1_ f2_ f3_;have f4_:=f1_.symm;have f5_:=f3_.symm;clear f1_ f2_ f3_;subst f4_;subst f5_))
         refine start_ (n:=12) (S:=fun w'=>w'.cell? ⟨gb571,0,none⟩=some (.int .i64 a0_0)∧w'.cell? ⟨gb571,1,none⟩=some (.int .i64 a0_1)∧w'.cell? ⟨gb571,2,none⟩=some (.int .i64 a0_2)∧w'.cell? ⟨gb571,3,none⟩=some (.int .i64 a0_3)∧w'.cell? ⟨gb571,4,none⟩=some (.int .i64 a0_4)∧w'.cell? ⟨gb571,5,none⟩=some (.int .i64 a0_5)) (ds:=[]) #[zf,zf,zf,zf,zf,zf,zf,zf,zf,zf,zf,zf] ze rfl rfl ⟨(blk_cell BK571.out 0).trans rfl,(blk_cell BK571.out 1).trans rfl,(blk_cell BK571.out 2).trans rfl,(blk_cell BK571.out 3).trans rfl,(blk_cell BK571.out 4).trans rfl,(blk_cell BK571.out 5).trans rfl⟩ (fun hHeld=> ?_);refine with_tabW impl_Hear.tab27 impl_Hear.bits27 (fun HT_ HW_=> ?_)
         generalize w112.drew=w113 at HO_14 HO602 HO610 HO614 BK571 BK582 HR606 HB hHeld ⊢
         refine zu 0 158 ?_
         refine zu 2 160 ?_
         refine zt6 3 161 ?_
         refine one_ (i:=1) (N:=some 159) #[zt,zt,zt,zt,zf,zf,zf,zf,zf,zf,zf,zf] rfl rfl (one_of HT_.out ze) (by decide) (fun K hK=> ?_)
         refine goes_ Try.func62 ze rfl #[.slice Ao114 t611.length co114] (by rfl) rfl rfl zg ?_
         with_reducible refine(impl_pack8.calls k4 _ _ t611 t615 _ ?side1 ?side2 A97.out).mono ?_
         (case side1=>exact zc (Kd.R_reads' HO614.out).2.2)
         (case side2=>exact(Kd.R_reads' HO614.out).2.1)
         rintro e w115 ⟨v616,rfl,ho0,hb⟩
         refine⟨_,rfl,?_⟩
         refine zS9 (Kd.R_below (zr HO_14) hb) (Kd.R_below (zr HO602) hb) (Kd.R_below (zr HO610) hb) (Kd.R_below (zr HO614) hb) (Kd.R_lower ho0 (below_size zb8)) (zNb (g:=gb571) (o:= .cells #[.int .i64 a0_0, .int .i64 a0_1, .int .i64 a0_2, .int .i64 a0_3, .int .i64 a0_4, .int .i64 a0_5] 28 (0,0)) (zn BK571) hb) (zNb (g:=gb582) (o:= .cells #[.int .i64 t580, .int .i64 t581] 52 (0,0)) (zn BK582) hb) (Kd.C_below (zc HR606.out) hb) (below_step zb8 hb) ?_
         clear HO_14 HO602 HO610 HO614 BK571 BK582 HR606 HB
         intro HO_14 HO602 HO610 HO614 HO617 BK571 BK582 HR606 HB
         (try clear hb)
         (try clear hb2)
         (try clear hk)
         (try clear hi)
         (try clear ho0)
         obtain⟨Ao116,co116,eo116⟩:=Kd.R_slice HO617.out
         (first|subst eo116|(injection eo116 with f1_ f2_ f3_;have f4_:=f1_.symm;have f5_:=f3_.symm;clear f1_ f2_ f3_;subst f4_;subst f5_))
         refine hK.out _ _ ⟨(blk_cell BK571.out 0).trans rfl,(blk_cell BK571.out 1).trans rfl,(blk_cell BK571.out 2).trans rfl,(blk_cell BK571.out 3).trans rfl,(blk_cell BK571.out 4).trans rfl,(blk_cell BK571.out 5).trans rfl⟩ (fun hHeld=> ?_)
         clear hK K
         refine norm_ (a':= ?_) ?_ ?_
         rotate_left
         ·show Act.put _ (some 159) _=_
          simp only[Act.put,zL1,zL2,zL3,i64_w,i32_w]
          rfl
         refine one_ (i:=4) (N:=some 162) #[zt,zt,zt,zt,zt,zf,zf,zf,zf,zf,zf,zf] rfl rfl (one_of HT_.out ze) (by decide) (fun K hK=> ?_)
         refine goes_ Try.func61 ze rfl #[.slice Ao116 t615.length co116, .int .i64 a0_1] (by rfl) rfl rfl zg ?_
         with_reducible refine(impl_RsMend.calls k4 _ _ t615 a0_1 t618 t619 true _ ?side1 ?side2 A98.out).mono ?_
         (case side1=>exact zc (Kd.R_reads' HO617.out).2.2)
         (case side2=>exact(Kd.R_reads' HO617.out).2.1)
         rintro e w117 ⟨v621,rfl,ho0,hb⟩
         refine⟨_,rfl,?_⟩
         refine zS10 (Kd.R_below (zr HO_14) hb) (Kd.R_below (zr HO602) hb) (Kd.R_below (zr HO610) hb) (Kd.R_below (zr HO614) hb) (Kd.R_elder' (zr HO617) (Kd.R_base ho0) hb) (Kd.R_lower (Kd.R_new' ho0 (Kd.R_lt (zr HO617))) (below_size zb8)) (zNb (g:=gb571) (o:= .cells #[.int .i64 a0_0, .int .i64 a0_1, .int .i64 a0_2, .int .i64 a0_3, .int .i64 a0_4, .int .i64 a0_5] 28 (0,0)) (zn BK571) hb) (zNb (g:=gb582) (o:= .cells #[.int .i64 t580, .int .i64 t581] 52 (0,0)) (zn BK582) hb) (Kd.C_below (zc HR606.out) hb) (below_step zb8 hb) ?_
         clear HO_14 HO602 HO610 HO614 HO617 BK571 BK582 HR606 HB
         intro HO_14 HO602 HO610 HO614 HO617 HO622 BK571 BK582 HR606 HB
         (try clear hb)
         (try clear hb2)
         (try clear hk)
         (try clear hi)
         (try clear ho0)
         refine hK.out _ _ ⟨(blk_cell BK571.out 0).trans rfl,(blk_cell BK571.out 1).trans rfl,(blk_cell BK571.out 2).trans rfl,(blk_cell BK571.out 3).trans rfl,(blk_cell BK571.out 4).trans rfl,(blk_cell BK571.out 5).trans rfl⟩ (fun hHeld=> ?_)
         clear hK K
         refine norm_ (a':= ?_) ?_ ?_
         rotate_left
         ·show Act.put _ (some 162) _=_
          simp only[Act.put,zL1,zL2,zL3,i64_w,i32_w]
          rfl
         refine zu 5 157 ?_
         refine zu 6 163 ?_
         refine zu 7 164 ?_
         refine zu 8 165 ?_
         refine zu 9 20 ?_
         refine zu 10 21 ?_
         refine zu 11 22 ?_
         refine done_ (done_of HT_.out ze) ?_
         obtain⟨Ao118,co118,eo118⟩:=Kd.R_slice HO622.out
         subst eo118
         have q119:(a2:Int)≤((t618.length:Int):Int):=zT (by assumption)
         obtain⟨i0119,hi0119,_,hsz119,_⟩:=info_parts info5
         have hcut119:=cut_tom (P:=Try.prog) 24 5 .i64 .i64 Try.underlying24 hi0119 Ao118 t618.length co118 a2 (zT (by assumption)) q119 (Kd.R_reads' HO622.out).2.1
         have hr119:=Kd.R_take (m:=(a2:Int).toNat) HO622.out (by omega)
         have hy119:y623.length=(a2:Int).toNat:=(by rw[Ny623.out,List.length_take];omega)
         rw[←Ny623.out] at hr119
         rw[←hy119] at hr119 hcut119
         clear hy119 hi0119 hsz119 HO622
         have HO625:=zM hr119
         clear hr119
         replace q119:=eq_true q119
         try go_wp2
         go_ret3
         have hC_:=HO625.out
         exact⟨Ao118,y623.length,co118,zq,by first|exact Kd.R_mono hC_ (fun _ _=>trivial)|exact hC_|((with_reducible repeat(first|apply zRa|apply zRn|apply zRd));exact hC_),Nat.le_refl _,zb8⟩
end Go.Proofs.Ytapobpkeefeajaa.PFnExactHear
