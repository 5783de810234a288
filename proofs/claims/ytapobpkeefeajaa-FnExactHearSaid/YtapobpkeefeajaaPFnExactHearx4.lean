-- A turned copy of the print's text.
import Derived.Test.YtapobpkeefeajaaPFnExactHearx0
import Derived.Test.YtapobpkeefeajaaPFnExactHearx1
import Derived.Test.YtapobpkeefeajaaPFnExactHearx2
import Derived.Test.YtapobpkeefeajaaPFnExactHearx3
namespace Go.Proofs.Ytapobpkeefeajaa.PFnExactHear
open Go.RowKit Go.Proofs.YtapobpkeefeajaaW.PrintWords Go.Proofs.YtapobpkeefeajaaW.PrintLast Go.Proofs.YtapobpkeefeajaaW.PrintMore
attribute [local go_sem] max2_int min2_int max_two min_two max_three min_three max_four min_four
set_option maxHeartbeats 8000000
set_option maxRecDepth 100000
set_option linter.unusedVariables false
set_option linter.unusedSimpArgs false
def impl_Gray.f (a0:Int):Option (Int):=if a0<0 then(some 0) else(if a0>4000000000000000000 then(some 0) else(some (Go.bits .xor .i64 a0 (a0 / 2))))
theorem impl_Gray.calls (a0:Int) (r:Int) (w:World) (H:impl_Gray.f a0=some r):
 Calls Try.prog 102 #[.int .i64 a0] w fun e w'=>e= .returned (.int .i64 r)∧Drawn0 w w':=by
 unfold impl_Gray.f at H
 replace H:=zI2 H
 rcases H with⟨c2,H⟩|⟨c2,H⟩
 case inl=>
  have c2b0:=zE c2
  clear c2
  obtain rfl:=zI H
  go_enter Try.func102,Try.ntmps102
  go_wp2
  go_ret
  exact⟨zs,zd⟩
 have c2b0:=decide_eq_false c2
 clear c2
 replace H:=zI2 H
 rcases H with⟨c3,H⟩|⟨c3,H⟩
 case inl=>
  have c3b0:decide (4000000000000000000<a0)=true:=zE c3
  clear c3
  obtain rfl:=zI H
  go_enter Try.func102,Try.ntmps102
  go_wp2
  go_ret
  exact⟨zs,zd⟩
 have c3b0:decide (4000000000000000000<a0)=false:=decide_eq_false c3
 clear c3
 obtain rfl:=zI H
 go_enter Try.func102,Try.ntmps102
 go_wp2
 go_ret
 exact⟨zs,zd⟩
def impl_nearer.f (a0:Int) (a1:Int) (a2:Int):Option (Int):=some (mn (mx a0 a1) a2)
theorem impl_nearer.calls (a0:Int) (a1:Int) (a2:Int) (r:Int) (w:World) (H:impl_nearer.f a0 a1 a2=some r):
 Calls Try.prog 103 #[.int .i64 a0, .int .i64 a1, .int .i64 a2] w fun e w'=>e= .returned (.int .i64 r)∧Below w.heap.size w w':=by
 have HB:=zM (Below.refl w.heap.size w)
 unfold impl_nearer.f at H
 obtain⟨ji4,hji4⟩:∃j_:Int,(mx a0 a1)=j_:=⟨_,rfl⟩
 first|rw[hji4] at H|simp only[hji4] at H
 have hji4_:(if a0<a1 then a1 else a0)=ji4:=hji4
 obtain⟨ji5,hji5⟩:∃j_:Int,(mn (ji4) a2)=j_:=⟨_,rfl⟩
 first|rw[hji5] at H|simp only[hji5] at H
 have hji5_:(if a2<(ji4) then a2 else(ji4))=ji5:=hji5
 obtain rfl:=zI H
 go_enter Try.func103,Try.ntmps103
 go_wp2
 go_ret
 exact⟨by first|rfl|(simp[errW_none,errW_some]<;>rfl)|(simp only[←hji4,←hji5];first|rfl|(simp[errW_none,errW_some]<;>rfl))|(simp[*,errW_none,errW_some]<;>rfl),zb⟩
theorem dc_cell {w w':World} {S:Nat→Prop} {g:Nat} {v:Value} (h:Kept w w' S) (hs:¬S g) (hc:w.cell? ⟨g,0,none⟩=some v):w'.cell? ⟨g,0,none⟩=some v:=by
 have h1:=zW w _ hc
 have h2:=h.2 g h1 hs
 unfold World.cell? at hc ⊢
 simp only[h2]
 exact hc
theorem dc_get {w:World} {g:Nat} {u:Value} (h:w.heap[g]? =some (.cells #[u] 46 (0,0))):w.cell? ⟨g,0,none⟩=some u:=(blk_cell h 0).trans rfl
def impl_put.l0:Nat→List Int→Int→Int→Option (List Int)
 |0,_,_,_=>none
 |k+1,x2,x4,x5=>if x5≥0 then(if 0≤x5 then(if x2.length<17592186044416 then(impl_put.l0 k (x2++[Go.bits .and .i64 (shr .i64 x4 x5) 1]) x4 (wrap64 (x5-1))) else(none)) else(none)) else(some x2)
def impl_put.f (k:Nat) (a0:Int) (a1:Int) (l2:List Int):Option (List Int):=if 0≤a1 then((impl_RoundDiv.f k (wrap64 ((wrap64 (a0+(shl .i64 1 a1)))-1)) 2).bind fun t511=>((impl_nearer.f t511 0 (wrap64 ((shl .i64 1 a1)-1))).bind fun t512=>((impl_Gray.f t512).bind fun t513=>(impl_put.l0 k l2 t513 (wrap64 (a1-1)))))) else(none)
def impl_put.T0:Bool×List (List Nat×List Nat):=(true,[([],[]),([],[]),([1],[1]),([0,2],[0,2]),([3],[3]),([4],[4]),([],[]),([6],[6]),([7],[7]),([5,8,5],[5,8]),([9,9],[9]),([10,10,0,1,2,3,4,5,6,7,8,9,10],[10])])
def impl_put.B0:List Nat:=[0,0,2,7,15,31,0,64,192,511,1023,2047]
theorem impl_put.tab0:rtab .any (opsOf Try.f101 0)=impl_put.T0:=by kernel_rfl
theorem impl_put.bits0:waitsOk impl_put.T0.2 impl_put.B0=true:=by kernel_rfl
def impl_put.T4:Bool×List (List Nat×List Nat):=(true,[([],[]),([],[]),([],[]),([1,2],[1,2]),([3],[3]),([4],[4]),([0,5],[0,5]),([6,6,0,1,2,3,4,5,6],[6])])
def impl_put.B4:List Nat:=[0,0,0,6,14,30,63,127]
theorem impl_put.tab4:rtab .any (opsOf Try.f101 4)=impl_put.T4:=by kernel_rfl
theorem impl_put.bits4:waitsOk impl_put.T4.2 impl_put.B4=true:=by kernel_rfl
theorem impl_put.calls (k:Nat) (a0:Int) (a1:Int) (P2_:Nat→Prop) (u9000_:Value) (l2:List Int) (r:List Int) (gh go:Nat) (w0 w:World) (hB:Below w0.heap.size w0 w) (ho2:Kd.R (Kd.int .i64) 3 w w0.heap.size P2_ u9000_ l2) (hgh:w.cell? ⟨gh,0,none⟩=some (.int .i64 a1)) (hgo:w.heap[go]? =some (.cells #[u9000_] 46 (0,0))) (hge:w0.heap.size≤go) (hpg:¬P2_ gh) (hpo:¬P2_ go) (H:impl_put.f k a0 a1 l2=some r):
 Calls Try.prog 101 #[.int .i64 a0, .pointer (some ⟨gh,0,none⟩), .pointer (some ⟨go,0,none⟩)] w fun e w'=>e= .returned (.tuple #[])∧∃v0_:Value,w'.heap[go]? =some (.cells #[v0_] 46 (0,0))∧Kd.R (Kd.int .i64) 3 w' w0.heap.size (fun k_=>(P2_ k_∨w.heap.size≤k_)) v0_ r∧Below w0.heap.size w0 w'∧Kept w w' (fun k_=>P2_ k_∨k_=go):=by
 have GH:=zM hgh
 have GO0:=zM hgo
 have GL:=zM (blk_lt hgo)
 have GE:=zM hge
 have PG:=zM hpg
 have PO:=zM hpo
 clear hgh hgo hge hpg hpo
 have HO2:=zM (show Kd.R (Kd.int .i64) 3 w w0.heap.size (fun k_=>(P2_ k_∨w.heap.size≤k_)) u9000_ l2 from Kd.R_mono ho2 (fun k_ hk=>(.inl hk)))
 have HK:=zM (Kept.refl w (fun k_=>P2_ k_))
 have HW0:=zM hB.size
 have HB:=zM hB
 clear hB
 unfold impl_put.f at H
 replace H:=zIN H
 obtain⟨c4,H⟩:=H
 have c4b0:=eq_true c4
 have c4b1:decide (0≤a1)=true:=zE c4
 clear c4
 obtain⟨ji5,hji5⟩:∃j_:Int,(shl .i64 1 a1)=j_:=⟨_,rfl⟩
 first|rw[hji5] at H|simp only[hji5] at H
 have hji5_:(IntKind.i64.wrap (1*2^min a1.toNat 64))=ji5:=hji5
 have hji5z:a1≤64→(IntKind.i64.wrap (1*2^a1.toNat))=ji5:=shl_small hji5
 have hji5u:(IntKind.i64.wrap (2^min a1.toNat 64))=ji5:=by have h_:=hji5_;rw[Int.one_mul] at h_;exact h_
 have hji5v:a1≤64→(IntKind.i64.wrap (2^a1.toNat))=ji5:=fun hle_=>by have h_:=hji5z hle_;rw[Int.one_mul] at h_;exact h_
 have hji5y:(wrap64 (1*2^min a1.toNat 64))=ji5:=(i64_w _).symm.trans hji5_
 have hji5x:a1≤64→(wrap64 (1*2^a1.toNat))=ji5:=fun h_=>(i64_w _).symm.trans (hji5z h_)
 replace H:=zP H
 obtain⟨t511,A6,H⟩:=H
 have c7b0:=eq_true (zT (by assumption):0≤a1)
 replace H:=zP H
 obtain⟨t512,A8,H⟩:=H
 replace H:=zP H
 obtain⟨t513,A9,H⟩:=H
 have H':=zM H
 clear H
 go_enter Try.func101,Try.ntmps101
 try go_wp2
 refine zS3 (zRd HO2.out) (Kept.drew HK.out) (zBd HB.out) ?_
 clear HO2 HK HB
 intro HO2 HK HB
 refine start_ (n:=12) (S:=fun w'=>w'.cell? ⟨gh,0,none⟩=some (.int .i64 a1)) (ds:=[]) #[zf,zf,zf,zf,zf,zf,zf,zf,zf,zf,zf,zf] ze rfl rfl (dc_cell HK.out PG.out GH.out) (fun hHeld=> ?_);refine with_tabW impl_put.tab0 impl_put.bits0 (fun HT_ HW_=> ?_)
 generalize w.drew=w10 at HO2 HK HB hHeld ⊢
 refine zu 0 6 ?_
 refine take_ (i:=1) (N:=some 7) (v:= ?_) (a':= ?_) #[zt,zt,zf,zf,zf,zf,zf,zf,zf,zf,zf,zf] rfl rfl (take_ofW HT_.out HW_.out ze) (fun _ _ _ h=>h) (Or.inl ⟨by rfl,?_⟩) hHeld ?_ ?_
 rotate_left
 ·intro w' s0
  go_simp
  with_reducible rfl
 rotate_left
 ·simp only[Act.put,zL1,zL2,zL3,i64_w,i32_w]
  rfl
 refine zu 2 8 ?_
 refine zu 3 9 ?_
 refine zu 4 10 ?_
 refine take_ (i:=6) (N:=some 12) (v:= ?_) (a':= ?_) #[zt,zt,zt,zt,zt,zf,zt,zf,zf,zf,zf,zf] rfl rfl (take_ofW HT_.out HW_.out ze) (fun _ _ _ h=>h) (Or.inl ⟨by rfl,?_⟩) hHeld ?_ ?_
 rotate_left
 ·intro w' s0
  go_simp
  with_reducible rfl
 rotate_left
 ·simp only[Act.put,zL1,zL2,zL3,i64_w,i32_w]
  rfl
 refine zu 7 13 ?_
 refine zu 8 14 ?_
 refine one_ (i:=5) (N:=some 11) #[zt,zt,zt,zt,zt,zt,zt,zt,zt,zf,zf,zf] rfl rfl (one_of HT_.out ze) (by decide) (fun K hK=> ?_)
 refine goes_ Try.func58 ze rfl #[.int .i64 (wrap64 ((wrap64 (a0+(ji5)))-1)), .int .i64 2] (by rfl) rfl rfl (by(try simp only[List.map_toArray,List.map_cons,List.map_nil]);first|done|(simp only[hji5];rfl)|rfl|(simp only[List.length_drop,List.length_take];rfl)) ?_
 with_reducible refine(impl_RoundDiv.calls k (wrap64 ((wrap64 (a0+(ji5)))-1)) 2 t511 _ A6.out).mono ?_
 rintro e w' ⟨rfl,⟨nd,rfl⟩⟩
 refine⟨_,rfl,?_⟩
 refine hK.out _ _ (dc_cell (by repeat(first|(with_reducible first|exact HK.out|apply Kept.alloc|apply Kept.drewN|apply Kept.drew)|exact HK.out)) PG.out GH.out) (fun hHeld=> ?_)
 clear hK K
 refine norm_ (a':= ?_) ?_ ?_
 rotate_left
 ·show Act.put _ (some 11) _=_
  simp only[Act.put,zL1,zL2,zL3,i64_w,i32_w]
  rfl
 refine one_ (i:=9) (N:=some 15) #[zt,zt,zt,zt,zt,zt,zt,zt,zt,zt,zf,zf] rfl rfl (one_of HT_.out ze) (by decide) (fun K hK=> ?_)
 refine goes_ Try.func103 ze rfl #[.int .i64 t511, .int .i64 0, .int .i64 (wrap64 ((ji5)-1))] (by rfl) rfl rfl (by(try simp only[List.map_toArray,List.map_cons,List.map_nil]);first|done|(simp only[hji5];rfl)|rfl|(simp only[List.length_drop,List.length_take];rfl)) ?_
 with_reducible refine(impl_nearer.calls t511 0 (wrap64 ((ji5)-1)) t512 _ A8.out).mono ?_
 rintro e w11 ⟨rfl,hb⟩
 refine⟨_,rfl,?_⟩
 refine zS3 (Kd.R_below (zr HO2) hb) (Kept.below (S:=(fun k_=>P2_ k_)) (by repeat(first|(with_reducible first|exact HK.out|apply Kept.alloc|apply Kept.drewN|apply Kept.drew)|exact HK.out)) hb) (below_step zb hb) ?_
 clear HO2 HK HB
 intro HO2 HK HB
 (try clear hb)
 (try clear hb2)
 (try clear hk)
 (try clear hi)
 refine hK.out _ _ (dc_cell (by repeat(first|(with_reducible first|exact HK.out|apply Kept.alloc|apply Kept.drewN|apply Kept.drew)|exact HK.out)) PG.out GH.out) (fun hHeld=> ?_)
 clear hK K
 refine norm_ (a':= ?_) ?_ ?_
 rotate_left
 ·show Act.put _ (some 15) _=_
  simp only[Act.put,zL1,zL2,zL3,i64_w,i32_w]
  rfl
 refine one_ (i:=10) (N:=some 16) #[zt,zt,zt,zt,zt,zt,zt,zt,zt,zt,zt,zf] rfl rfl (one_of HT_.out ze) (by decide) (fun K hK=> ?_)
 refine goes_ Try.func102 ze rfl #[.int .i64 t512] (by rfl) rfl rfl zg ?_
 with_reducible refine(impl_Gray.calls t512 t513 _ A9.out).mono ?_
 rintro e w' ⟨rfl,⟨nd,rfl⟩⟩
 refine⟨_,rfl,?_⟩
 refine hK.out _ _ (dc_cell (by repeat(first|(with_reducible first|exact HK.out|apply Kept.alloc|apply Kept.drewN|apply Kept.drew)|exact HK.out)) PG.out GH.out) (fun hHeld=> ?_)
 clear hK K
 refine norm_ (a':= ?_) ?_ ?_
 rotate_left
 ·show Act.put _ (some 16) _=_
  simp only[Act.put,zL1,zL2,zL3,i64_w,i32_w]
  rfl
 refine zu 11 4 ?_
 refine done_ (done_of HT_.out ze) ?_
 have hcl:w11.cell? ⟨gh,0,none⟩=some (.int .i64 a1):=dc_cell HK.out PG.out GH.out
 have GO:=zM (blk_kept GO0.out HK.out PO.out)
 try go_wp2
 (try simp only[Act.put,zL1,zL2,zL3])
 go_loopg [5] k (fun kq v5 w'=>∃(u2:Value) (x2_1:List Int) (x5_1:Int),v5= .int .i64 x5_1∧Aside0 (impl_put.l0 kq x2_1 t513 x5_1=some r)∧Aside0 (kq≤k)∧Aside0 (Kd.R (Kd.int .i64) 3 w' w0.heap.size (fun k_=>(P2_ k_∨w.heap.size≤k_)) u2 x2_1)∧Aside0 (w'.heap[go]? =some (.cells #[u2] 46 (0,0)))∧Aside0 (Kept w w' (fun k_=>P2_ k_∨k_=go))∧Aside0 (Below w0.heap.size w0 w'))
 case atStart=>exact⟨u9000_,l2,(wrap64 (a1-1)),zs,H',⟨Nat.le_refl _⟩,⟨by(with_reducible repeat(first|apply zRa|apply zRn|apply zRd));first|exact HO2.out|(subst_vars;exact HO2.out)|exact Kd.R_mono HO2.out (fun _ h=> .inl h)⟩,⟨by first|exact GO.out|exact zNn GO.out _⟩,⟨Kept.mono (by repeat(first|(with_reducible first|exact HK.out|apply Kept.alloc|apply Kept.drewN|apply Kept.drew)|exact HK.out)) (fun _ h=> .inl h)⟩,⟨zb⟩⟩
 case round=>
  clear H'
  try clear c1
  try clear p2
  try clear c4
  try clear c4b0
  try clear c4b1
  try clear c5
  try clear p6
  try clear c7
  try clear c7b0
  try clear c8
  try clear c10
  obtain⟨u2,x2_1,x5_1,rfl,HA,HK1,HO_2,GO,HK,HB⟩:=hrel
  cases gk with
  |zero=>exact absurd HA.out (by simp[impl_put.l0])
  | succ k1=>
   have H:=HA.out
   clear HA
   simp only[impl_put.l0] at H
   replace H:=zI2 H
   rcases H with⟨c12,H⟩|⟨c12,H⟩
   case inr=>
    have c12b0:decide (0≤x5_1)=false:=decide_eq_false c12
    clear c12
    obtain rfl:=zI H
    go_wp2
    go_end0
    first|exact⟨rfl,u2,GO.out,HO_2.out,HB.out,HK.out⟩|exact⟨u2,GO.out,HO_2.out,HB.out,HK.out⟩
   have c12b0:decide (0≤x5_1)=true:=zE c12
   clear c12
   replace H:=zIN H
   obtain⟨c13,H⟩:=H
   have c13b0:=eq_true c13
   have c13b1:decide (0≤x5_1)=true:=zE c13
   clear c13
   obtain⟨ji14,hji14⟩:∃j_:Int,(shr .i64 t513 x5_1)=j_:=⟨_,rfl⟩
   first|rw[hji14] at H|simp only[hji14] at H
   have hji14_:(t513 / 2^min x5_1.toNat 64)=ji14:=hji14
   have hji14z:x5_1≤64→(t513 / 2^x5_1.toNat)=ji14:=shr_small hji14
   replace H:=zIM H
   obtain⟨LMc15,H⟩:=H
   obtain⟨y514,hy514⟩:∃y_:List Int,y_=(x2_1++[Go.bits .and .i64 (ji14) 1]):=⟨_,rfl⟩
   rw[←hy514] at H
   have Ny514:=zM hy514
   clear hy514
   have H':=zM H
   clear H
   try go_wp2
   refine zS3 (zRd HO_2.out) (Kept.drew HK.out) (zBd HB.out) ?_
   clear HO_2 HK HB
   intro HO_2 HK HB
   refine start_ (n:=8) (S:=fun w'=>w'.cell? ⟨go,0,none⟩=some u2) (ds:=[7]) #[zf,zf,zf,zf,zf,zf,zf,zf] ze rfl rfl (dc_get GO.out) (fun hHeld=> ?_);refine with_tabW impl_put.tab4 impl_put.bits4 (fun HT_ HW_=> ?_)
   replace GO:=zM (show wr.drew.heap[go]? =some (.cells #[u2] 46 (0,0)) from GO.out)
   generalize wr.drew=w16 at HO_2 GO HK HB hHeld ⊢
   refine take_ (i:=0) (N:=some 23) (v:= ?_) (a':= ?_) #[zt,zf,zf,zf,zf,zf,zf,zf] rfl rfl (take_ofW HT_.out HW_.out ze) (fun _ _ _ h=>h) (Or.inl ⟨by rfl,?_⟩) hHeld ?_ ?_
   rotate_left
   ·intro w' s0
    go_simp
    with_reducible rfl
   rotate_left
   ·simp only[Act.put,zL1,zL2,zL3,i64_w,i32_w]
    rfl
   refine zu 1 24 ?_
   refine zu 2 25 ?_
   refine zu 3 26 ?_
   refine zu 4 27 ?_
   refine one_ (i:=5) (N:=some 28) #[zt,zt,zt,zt,zt,zt,zf,zf] rfl rfl (one_of HT_.out ze) (by decide) (fun K hK=> ?_)
   refine value_ (w1:= ?_) (v:= ?_) (by rfl) rfl ?_ ?_
   rotate_left 2
   ·go_simp
    constructor
    ·rfl
    ·rfl
   refine hK.out _ _ (dc_get (by first|exact GO.out|exact zNa GO.out _)) (fun hHeld=> ?_)
   clear hK K
   refine norm_ (a':= ?_) ?_ ?_
   rotate_left
   ·show Act.put _ (some 28) _=_
    simp only[Act.put,zL1,zL2,zL3,i64_w,i32_w]
    rfl
   refine one_ (i:=6) (N:=some 29) #[zt,zt,zt,zt,zt,zt,zt,zf] rfl rfl (one_of HT_.out ze) (by decide) (fun K hK=> ?_)
   refine Kd.R_append_step (Kd.int .i64) (w0:=w0) w0.heap.size (by rfl) (.tmp 23) (.tmp 28) 46 3 (.int .i64 0) 8 rfl Try.underlying46 info3 rfl (by decide) (by omega) u2 x2_1 (Go.bits .and .i64 (ji14) 1) [.int .i64 (Go.bits .and .i64 (ji14) 1)] (fun k_=>(P2_ k_∨w.heap.size≤k_)) (fun _=>False) rfl rfl ?aP (fun _ hk=>hk.elim) ?aF ?aO ?aB ?aS ?aL ?_
   (case aP=>exact rfl)
   (case aB=>exact zb)
   (case aF=>exact(fun k_ hk=>(.inr (Nat.le_trans (by first|exact HK.out.1|exact(show Kept w _ (fun k_=>P2_ k_∨k_=go) from by repeat(first|(with_reducible first|exact HK.out|apply Kept.alloc|apply Kept.drewN|apply Kept.drew)|exact HK.out)).1) hk))))
   (case aO=>exact(zr HO_2))
   (case aS=>exact(below_size zb))
   (case aL=>have:=LMc15.out;omega)
   intro v515 w17 ho hb hg hat
   (first|rw[←Ny514.out] at ho|simp only[Int.reduceToNat,←Ny514.out] at ho)
   have n0_:=zM (hb)
   have nG_:=zM (blk_grown (by first|exact GO.out|exact zNa GO.out _) hg (Kd.R_away HO_2.out (fun k_ hk e_=>by subst e_;exact hk.elim PO.out (fun h_=>absurd GL.out (by omega)))))
   have n1_:=zM (Kept.of_grown (S:=(fun k_=>P2_ k_∨k_=go)) hg (by repeat(first|(with_reducible first|exact HK.out|apply Kept.alloc|apply Kept.drewN|apply Kept.drew)|exact HK.out)) (fun k_ e_=>(HO_2.out.1 k_ e_).elim (fun h_=> .inl (.inl h_)) .inr))
   have n2_:=zM (ho)
   clear GO
   have GO:=nG_
   clear nG_
   clear HB
   clear HK
   clear HO_2
   have HB:=n0_
   have HK:=n1_
   have HO516:=n2_
   clear n0_ n1_ n2_
   clear ho hb hg hat
   refine hK.out _ _ (dc_get (by first|exact GO.out|exact zNa GO.out _)) (fun hHeld=> ?_)
   clear hK K
   refine norm_ (a':= ?_) ?_ ?_
   rotate_left
   ·show Act.put _ (some 29) _=_
    simp only[Act.put,zL1,zL2,zL3,i64_w,i32_w]
    rfl
   obtain⟨Ae,ce,ee⟩:=Kd.R_slice HO516.out
   subst ee
   have hcg:=dc_get GO.out
   have hfg:=blk_frozen GO.out 0
   refine last_ (i:=7) (N:=none) #[zt,zt,zt,zt,zt,zt,zt,zt] rfl rfl (one_of HT_.out ze) (by decide) (fun K hK=> ?_)
   refine skip_ (w1:= ?_) (by rfl) rfl ?_ ?_
   rotate_left
   ·go_simp
    rfl
   refine hK.out _ _ ?_
   clear hK K
   refine done_ (done_of HT_.out ze) ?_
   try go_wp2
   go_roundg k1
   case measure=>have:=HK1.out;omega
   case rel=>exact⟨_,y514,(wrap64 (x5_1-1)),zs,H',⟨zl1 HK1⟩,⟨Kd.R_set HO516.out GO.out (fun q hq h_=>by subst h_;revert hq;decide) 0 _⟩,⟨blk_put GO.out 0 _ rfl⟩,⟨Kept.setCell HK.out (.inl (.inr rfl)) _⟩,⟨HB.out.setCell GE.out _⟩⟩
mutual
def impl_Decide.j0:Nat→Int→List (S52)→Bool→Option (List Int×Bool)
 |0,_,_,_=>none
 |k+1,x0,x1,x20=>if x20=true then(some (([]:List Int),false)) else(impl_Decide.l0 k (wrap64 (Int.tdiv x0 2)) ([]:List Int) x1 (x1.length:Int) 0)
def impl_Decide.l0:Nat→Int→List Int→List (S52)→Int→Int→Option (List Int×Bool)
 |0,_,_,_,_,_=>none
 |k+1,x6,x7,x24,x25,x26=>if x26<x25 then(if 0≤x26 then(if x26<(x24.length:Int) then((impl_sample.f ((rd_T52 x24 x26).f0)).bind fun t520=>(if t520=true then((impl_sample.f ((rd_T52 x24 x26).f1)).bind fun t521=>(impl_Decide.j2 k x6 x7 x24 x25 x26 (!t521) ((rd_T52 x24 x26).f0) ((rd_T52 x24 x26).f1))) else(impl_Decide.j2 k x6 x7 x24 x25 x26 true ((rd_T52 x24 x26).f0) ((rd_T52 x24 x26).f1)))) else(none)) else(none)) else(some (x7,true))
def impl_Decide.j2:Nat→Int→List Int→List (S52)→Int→Int→Bool→Int→Int→Option (List Int×Bool)
 |0,_,_,_,_,_,_,_,_=>none
 |k+1,x6,x7,x24,x25,x26,x39,x520000,x520001=>if x39=true then(some (([]:List Int),false)) else((impl_put.f k x520000 x6 x7).bind fun t522=>((impl_put.f k x520001 x6 t522).bind fun t525=>(impl_Decide.l0 k x6 t525 x24 x25 (wrap64 (x26+1)))))
end
def impl_Decide.f (k:Nat) (a0:Int) (l1:List (S52)):Option (List Int×Bool):=(impl_isWidth.f a0).bind fun t517=>(if t517=true then(impl_Decide.j0 k a0 l1 (decide ((wrap64 ((l1.length:Int)*a0))>1024))) else(impl_Decide.j0 k a0 l1 true))
theorem impl_Decide.calls (k:Nat) (a0:Int) (A1:Option Addr) (c1:Nat) (l1:List (S52)) (r1:List Int) (r2:Bool) (w:World) (hr1:Kd.C k52 w A1 l1.length l1) (hc1:l1.length≤c1) (H:impl_Decide.f k a0 l1=some (r1,r2)):
 Calls Try.prog 59 #[.int .i64 a0, .slice A1 l1.length c1] w fun e w'=>∃v0_:Value,e= .returned (.tuple #[v0_, .bool r2])∧Kd.R (Kd.int .i64) 3 w' w.heap.size (fun _=>True) v0_ r1∧Below w.heap.size w w':=by
 have hu52:=Try.underlying52
 have HR1:=zM hr1
 have HC1:=zM hc1
 clear hr1 hc1
 have HB:=zM (Below.refl w.heap.size w)
 unfold impl_Decide.f at H
 have HC3:=zM H
 clear H
 go_enter Try.func59,Try.ntmps59
 go_upto_region 1 with(fail)
 go_cut [20] (fun v20 wc=>∃(kq:Nat) (x20_2:Bool),v20= .bool x20_2∧Aside0 (impl_Decide.j0 kq a0 l1 x20_2=some (r1,r2))∧Aside0 (kq≤k)∧Aside0 (Below w.heap.size w wc))
 case first=>
  have H:=HC3.out
  clear HC3
  replace H:=zP H
  obtain⟨t517,A4,H⟩:=H
  by_cases c5:t517=true
  case neg=>
   replace c5:=Bool.eq_false_iff.mpr c5
   subst c5
   rw[if_neg zFT] at H
   have H':=zM H
   clear H
   go_wp2_with (first|((with_reducible refine gate_callee (f:=82) rfl ?_);refine goesL_ (some 12) rfl rfl Try.func82 ze rfl #[.int .i64 a0] rfl zg ?_;(with_reducible refine(impl_isWidth.calls a0 false _ A4.out).mono ?_);rintro e w' ⟨rfl,⟨nd,rfl⟩⟩;refine⟨_,rfl,?_⟩))
   go_meet
   case rel=>exact⟨_,(true),zs,H',⟨zo⟩,⟨zb⟩⟩
  subst c5
  rw[if_pos rfl] at H
  have H':=zM H
  clear H
  go_wp2_with (first|((with_reducible refine gate_callee (f:=82) rfl ?_);refine goesL_ (some 12) rfl rfl Try.func82 ze rfl #[.int .i64 a0] rfl zg ?_;(with_reducible refine(impl_isWidth.calls a0 true _ A4.out).mono ?_);rintro e w' ⟨rfl,⟨nd,rfl⟩⟩;refine⟨_,rfl,?_⟩))
  go_meet
  case rel=>exact⟨_,(decide ((wrap64 ((l1.length:Int)*a0))>1024)),zs,H',⟨zo⟩,⟨zb⟩⟩
 case rest=>
  clear HC3
  try clear c1
  try clear p2
  try clear c5
  obtain⟨kq,x20_2,rfl,HA,HJ2,HB⟩:=hcut
  cases kq with
  |zero=>exact absurd HA.out (by simp[impl_Decide.j0])
  | succ kj2=>
   have H:=HA.out
   clear HA
   simp only[impl_Decide.j0] at H
   by_cases c6:x20_2=true
   case pos=>
    subst c6
    rw[if_pos rfl] at H
    simp only[Option.some.injEq,Prod.mk.injEq] at H
    obtain⟨rfl,rfl⟩:=H
    go_wp2
    go_ret2
    exact⟨_,zq,zz,zb⟩
   replace c6:=Bool.eq_false_iff.mpr c6
   subst c6
   rw[if_neg zFT] at H
   have H':=zM H
   clear H
   go_wp2_with (first|((with_reducible refine gate_dst (N:=6) rfl ?_);refine box_event ?hg (N:=6) ?hd (cs:= #[.int .i64 0]) (t:=3) ?hr ?_;(case hd|hg=>rfl);(case hr=>exact zh);intro gh hg wg hbox hb;have n1_:=zM (by rw[hg];exact below_size HB.out:w.heap.size≤gh);have n0_:=zM (below_step HB.out hb);have BH:=zM hbox;clear HB;have HB:=n0_;have GH:=n1_;clear n0_ n1_ hbox hb hg;have hx6:wg.cell? ⟨gh,0,none⟩=some (.int .i64 0):=(blk_cell BH.out 0).trans rfl;have hf6:=blk_frozen BH.out 0)|((with_reducible refine gate_store (t:=3) (p:=6) rfl ?_);refine store_event (t:=3) (p:=6) (v:= ?vo_6) (w1:=(wg.setCell ⟨gh,0,none⟩ (.int .i64 (wrap64 (Int.tdiv a0 2))))) ?hg ?ho ?hn ?hr ?_;(case ho=>rfl);(case hg=>rfl);(case hn=>rfl);(case hr=>exact zh);intro wh hw;have n0_:Aside0 (Below w.heap.size w wh):=⟨by rw[hw];exact zBs HB.out GH.out⟩;have n1_:Aside0 (wh.heap[gh]? =some (.cells #[.int .i64 (wrap64 (Int.tdiv a0 2))] 3 (0,0))):=⟨by rw[hw];exact blk_put (cs:= #[.int .i64 0]) BH.out 0 _ rfl⟩;clear hw HB BH hx6 hf6;have HB:=n0_;have CH:=n1_;clear n0_ n1_)|((with_reducible refine gate_dst (N:=7) rfl ?_);refine box_event ?hg (N:=7) ?hd (cs:= #[.slice none 0 0]) (t:=46) ?hr ?_;(case hd|hg=>rfl);(case hr=>exact zh);intro go hg wo hbox hb;have n1_:=zM (by rw[hg];exact below_size HB.out:w.heap.size≤go);have n0_:=zM (below_step HB.out hb);have n2_:=zM (zNb CH.out hb);have GO:=zM hbox;clear HB CH;have HB:=n0_;have GE:=n1_;have CH:=n2_;clear n0_ n1_ n2_ hbox hb hg))
   (try simp only[Act.put,zL1,zL2,zL3])
   go_loopg [26] kj2 (fun kq v26 w'=>∃(u7:Value) (x7_2:List Int) (x26_2:Int),v26= .int .i64 x26_2∧Aside0 (impl_Decide.l0 kq (wrap64 (Int.tdiv a0 2)) x7_2 l1 (l1.length:Int) x26_2=some (r1,r2))∧Aside0 (kq≤kj2)∧Aside0 (Kd.R (Kd.int .i64) 3 w' w.heap.size (fun k_=>k_≠gh) u7 x7_2)∧Aside0 (w'.heap[gh]? =some (.cells #[.int .i64 (wrap64 (Int.tdiv a0 2))] 3 (0,0)))∧Aside0 (w'.heap[go]? =some (.cells #[u7] 46 (0,0)))∧Aside0 (Below w.heap.size w w'))
   case atStart=>exact⟨.slice none 0 0,([]:List Int),(0),zs,H',⟨Nat.le_refl _⟩,⟨Kd.R_nil _ _ _ _ _⟩,⟨CH.out⟩,⟨GO.out⟩,⟨HB.out⟩⟩
   case round=>
    clear H'
    try clear c1
    try clear p2
    try clear c5
    try clear c6
    try clear p6
    try clear p2
    obtain⟨u7,x7_2,x26_2,rfl,HA,HK2,HO_7,CH,GO,HB⟩:=hrel
    cases gk with
    |zero=>exact absurd HA.out (by simp[impl_Decide.l0])
    | succ k2=>
     have H:=HA.out
     clear HA
     simp only[impl_Decide.l0] at H
     replace H:=zI2 H
     rcases H with⟨c7,H⟩|⟨c7,H⟩
     case inr=>
      have c7b0:=decide_eq_false c7
      clear c7
      simp only[Option.some.injEq,Prod.mk.injEq] at H
      obtain⟨rfl,rfl⟩:=H
      have hcg:=dc_get GO.out
      go_wp2
      go_ret2
      exact⟨_,zq,Kd.R_mono HO_7.out (fun _ _=>trivial),HB.out⟩
     have c7b0:=zE c7
     clear c7
     replace H:=zID H
     obtain⟨c8b0,H⟩:=H
     replace H:=zID H
     obtain⟨c9b0,H⟩:=H
     have HC10:=zM H
     clear H
     have p518:0≤(x26_2:Int):=zT (by assumption)
     have q518:x26_2<(l1.length:Int):=zT (by assumption)
     obtain⟨ad518,e518,hx518_0,hx518_1⟩:=at_T52 HR1.out x26_2 p518 q518
     cases e518
     replace hx518_0:=(HB.out.cell (zW w _ hx518_0)).trans hx518_0
     replace hx518_1:=(HB.out.cell (zW w _ hx518_1)).trans hx518_1
     replace p518:=eq_true p518
     replace q518:=eq_true q518
     go_upto_region 9 with(first|((with_reducible refine gate_dst (N:=10) rfl ?_);(try(refine gate_guard (by rfl) ?_;dsimp only));refine box_event ?hg (N:=10) ?hd (cs:= #[.int .i64 0, .int .i64 0]) (t:=52) ?hr ?_;(case hd|hg=>rfl);(case hr=>exact zh);intro gb519 hg w11 hbox hb;have nC_:=zM (zNb CH.out hb);have nG_:=zM (zNb GO.out hb);clear CH GO;have CH:=nC_;have GO:=nG_;clear nC_ nG_;have n0_:=zM (Kd.R_below (zr HO_7) hb);have n1_:=zM (below_step zb hb);have n2_:=zM (hbox);have n3_:=zM ((zw hg (below_size zb)));have n4_:=zM n3_.out;clear HO_7;clear HB;have HO_7:=n0_;have HB:=n1_;have BK519:=n2_;have GW519:=n3_;have GE519:=n4_;clear n0_ n1_ n2_ n3_ n4_;clear hb hbox hg;obtain⟨hcz12_0,hcz12_1,hfz12_0,hfz12_1⟩:=zc2 BK519.out))
     (try simp only[Act.put,zL1,zL2,zL3])
     go_cut [39] (fun v39 wc=>∃(kq:Nat) (x39_9:Bool),v39= .bool x39_9∧Aside0 (impl_Decide.j2 kq (wrap64 (Int.tdiv a0 2)) x7_2 l1 (l1.length:Int) x26_2 x39_9 ((rd_T52 l1 x26_2).f0) ((rd_T52 l1 x26_2).f1)=some (r1,r2))∧Aside0 (kq≤k2)∧Aside0 (Kd.R (Kd.int .i64) 3 wc w.heap.size (fun k_=>k_≠gh) u7 x7_2)∧Aside0 (wc.heap[gh]? =some (.cells #[.int .i64 (wrap64 (Int.tdiv a0 2))] 3 (0,0)))∧Aside0 (wc.heap[go]? =some (.cells #[u7] 46 (0,0)))∧Aside0 (wc.heap[gb519]? =some (.cells #[.int .i64 ((rd_T52 l1 x26_2).f0), .int .i64 ((rd_T52 l1 x26_2).f1)] 52 (0,0)))∧Aside0 (Below w.heap.size w wc))
     case first=>
      have H:=HC10.out
      clear HC10
      replace H:=zP H
      obtain⟨t520,A13,H⟩:=H
      by_cases c14:t520=true
      case neg=>
       replace c14:=Bool.eq_false_iff.mpr c14
       subst c14
       rw[if_neg zFT] at H
       have H':=zM H
       clear H
       obtain⟨hcz17_0,hcz17_1,hfz17_0,hfz17_1⟩:=zc2 BK519.out
       go_wp2_with (first|((with_reducible refine gate_callee (f:=104) rfl ?_);refine goesL_ (some 32) rfl rfl Try.func104 ze rfl #[.int .i64 ((rd_T52 l1 x26_2).f0)] rfl zg ?_;(with_reducible refine(impl_sample.calls ((rd_T52 l1 x26_2).f0) false _ A13.out).mono ?_);rintro e w' ⟨rfl,⟨nd,rfl⟩⟩;refine⟨_,rfl,?_⟩))
       go_meet
       case rel=>exact⟨_,(true),zs,H',⟨by have:=HJ2.out;have:=HK2.out;first|omega|exact Nat.le_refl _⟩,⟨by(with_reducible repeat(first|apply zRa|apply zRn|apply zRd));exact Kd.R_mono (Kd.R_far (p:=⟨gb519,1,none⟩) (Kd.R_far (p:=⟨gb519,0,none⟩) (Kd.R_types HO_7.out BK519.out (by decide)) (fun _ hk=>hk.2) (.int .i64 ((rd_T52 l1 x26_2).f0))) (fun _ hk=>hk.2) (.int .i64 ((rd_T52 l1 x26_2).f1))) (fun _ hk=>hk.1)⟩,⟨by repeat(first|exact CH.out|refine zNf ?_ (blk_ne CH.out BK519.out (by decide)) _|apply zNn|apply zNd|apply zNa)⟩,⟨by repeat(first|exact GO.out|refine zNf ?_ (blk_ne GO.out BK519.out (by decide)) _|apply zNn|apply zNd|apply zNa)⟩,⟨by(with_reducible repeat(first|apply zNn|apply zNd|apply zNa));refine blk_put (cs:= #[.int .i64 ((rd_T52 l1 x26_2).f0), .int .i64 0]) ?_ 1 _ rfl;(with_reducible repeat(first|apply zNn|apply zNd|apply zNa));refine blk_put (cs:= #[.int .i64 0, .int .i64 0]) ?_ 0 _ rfl;(with_reducible repeat(first|apply zNn|apply zNd|apply zNa));exact BK519.out⟩,⟨zb31⟩⟩
      subst c14
      rw[if_pos rfl] at H
      replace H:=zP H
      obtain⟨t521,A15,H⟩:=H
      have H':=zM H
      clear H
      obtain⟨hcz16_0,hcz16_1,hfz16_0,hfz16_1⟩:=zc2 BK519.out
      go_wp2_with (first|((with_reducible refine gate_callee (f:=104) rfl ?_);refine goesL_ (some 32) rfl rfl Try.func104 ze rfl #[.int .i64 ((rd_T52 l1 x26_2).f0)] rfl zg ?_;(with_reducible refine(impl_sample.calls ((rd_T52 l1 x26_2).f0) true _ A13.out).mono ?_);rintro e w' ⟨rfl,⟨nd,rfl⟩⟩;refine⟨_,rfl,?_⟩)|(go_at_call 104;(with_reducible refine(impl_sample.calls ((rd_T52 l1 x26_2).f1) t521 _ A15.out).mono ?_);rintro e w' ⟨rfl,⟨nd,rfl⟩⟩))
      go_meet
      case rel=>exact⟨_,(!t521),zs,H',⟨by have:=HJ2.out;have:=HK2.out;first|omega|exact Nat.le_refl _⟩,⟨by(with_reducible repeat(first|apply zRa|apply zRn|apply zRd));exact Kd.R_mono (Kd.R_far (p:=⟨gb519,1,none⟩) (Kd.R_far (p:=⟨gb519,0,none⟩) (Kd.R_types HO_7.out BK519.out (by decide)) (fun _ hk=>hk.2) (.int .i64 ((rd_T52 l1 x26_2).f0))) (fun _ hk=>hk.2) (.int .i64 ((rd_T52 l1 x26_2).f1))) (fun _ hk=>hk.1)⟩,⟨by repeat(first|exact CH.out|refine zNf ?_ (blk_ne CH.out BK519.out (by decide)) _|apply zNn|apply zNd|apply zNa)⟩,⟨by repeat(first|exact GO.out|refine zNf ?_ (blk_ne GO.out BK519.out (by decide)) _|apply zNn|apply zNd|apply zNa)⟩,⟨by(with_reducible repeat(first|apply zNn|apply zNd|apply zNa));refine blk_put (cs:= #[.int .i64 ((rd_T52 l1 x26_2).f0), .int .i64 0]) ?_ 1 _ rfl;(with_reducible repeat(first|apply zNn|apply zNd|apply zNa));refine blk_put (cs:= #[.int .i64 0, .int .i64 0]) ?_ 0 _ rfl;(with_reducible repeat(first|apply zNn|apply zNd|apply zNa));exact BK519.out⟩,⟨zb31⟩⟩
     case rest=>
      clear HC10
      try clear c1
      try clear p2
      try clear c5
      try clear p5
      try clear q5
      try clear hx5
      try clear c6
      try clear p6
      try clear c7
      try clear c7b0
      try clear c8
      try clear c8b0
      try clear c9
      try clear c9b0
      try clear c10
      try clear c14
      try clear hcz12_0
      try clear hcz12_1
      try clear hcz16_0
      try clear hcz16_1
      try clear hcz17_0
      try clear hcz17_1
      try clear hfz12_0
      try clear hfz12_1
      try clear hfz16_0
      try clear hfz16_1
      try clear hfz17_0
      try clear hfz17_1
      try clear hx518_0
      try clear hx518_1
      try clear p2
      try clear p518
      try clear p6
      try clear q518
      obtain⟨kq,x39_9,rfl,HA,HJ9,HO_7,CH,GO,BK519,HB⟩:=hcut
      cases kq with
      |zero=>exact absurd HA.out (by simp[impl_Decide.j2])
      | succ kj9=>
       have H:=HA.out
       clear HA
       simp only[impl_Decide.j2] at H
       by_cases c18:x39_9=true
       case pos=>
        subst c18
        rw[if_pos rfl] at H
        simp only[Option.some.injEq,Prod.mk.injEq] at H
        obtain⟨rfl,rfl⟩:=H
        go_wp2
        go_ret2
        exact⟨_,zq,zz,zb31⟩
       replace c18:=Bool.eq_false_iff.mpr c18
       subst c18
       rw[if_neg zFT] at H
       replace H:=zP H
       obtain⟨t522,A19,H⟩:=H
       replace H:=zP H
       obtain⟨t525,A20,H⟩:=H
       have H':=zM H
       clear H
       obtain⟨hcz21_0,hcz21_1,hfz21_0,hfz21_1⟩:=zc2 BK519.out
       go_wp2_with (first|(go_at_call 101;(with_reducible refine(impl_put.calls kj9 ((rd_T52 l1 x26_2).f0) (wrap64 (Int.tdiv a0 2)) (fun k_=>some k_=(u7:Value).ownBlock) u7 x7_2 t522 gh go w _ ?side1 ?side2 ?s3 ?s4 ?s5 ?s6 ?s7 A19.out).mono ?_);(case side1=>exact zb31);(case side2=>exact Kd.R_tight rfl HO_7.out);(case s3=>exact(blk_cell CH.out 0).trans rfl);(case s4=>exact GO.out);(case s5=>exact GE.out);(case s6=>exact(fun h_=>HO_7.out.1 gh h_.symm rfl));(case s7=>exact(fun h_=>(Kd.R_ne HO_7.out GO.out (by decide)) h_));rintro e w23 ⟨rfl,v523,hg2,ho0,hb,hkp⟩;have n0_:=zM (blk_kept BK519.out hkp (fun hs_=>hs_.elim (fun e_=>(Kd.R_ne HO_7.out BK519.out (by decide)) e_) (fun e_=>blk_ne BK519.out GO.out (by decide) e_)));have n3_:=zM (blk_kept CH.out hkp (fun hs_=>hs_.elim (fun e_=>HO_7.out.1 gh e_.symm rfl) (fun e_=>blk_ne CH.out GO.out (by decide) e_)));have n1_:=zM (Kd.R_mono (ok':=fun k_=>k_≠gh) ho0 (fun k_ hk_=>hk_.elim (fun e_=>HO_7.out.1 k_ e_.symm) (fun h_ e_=>absurd (blk_lt CH.out) (by rw[←e_];exact Nat.not_lt.2 h_))));have n2_:=zM (hb);have n4_:=zM hg2;clear BK519 HB HO_7 CH GO;have BK519:=n0_;have HO524:=n1_;have HB:=n2_;have CH:=n3_;have GO:=n4_;clear n0_ n1_ n2_ n3_ n4_ hb hkp ho0 hg2;have hcy_0:w23.cell? ⟨gb519,0,none⟩=some (.int .i64 ((rd_T52 l1 x26_2).f0)):=(blk_cell BK519.out 0).trans rfl;have hcy_1:w23.cell? ⟨gb519,1,none⟩=some (.int .i64 ((rd_T52 l1 x26_2).f1)):=(blk_cell BK519.out 1).trans rfl;have hfy_0:=blk_frozen BK519.out 0;have hfy_1:=blk_frozen BK519.out 1)|(go_at_call 101;(with_reducible refine(impl_put.calls kj9 ((rd_T52 l1 x26_2).f1) (wrap64 (Int.tdiv a0 2)) (fun k_=>some k_=(v523:Value).ownBlock) v523 t522 t525 gh go w _ ?side1 ?side2 ?s3 ?s4 ?s5 ?s6 ?s7 A20.out).mono ?_);(case side1=>exact zb31);(case side2=>exact Kd.R_tight rfl HO524.out);(case s3=>exact(blk_cell CH.out 0).trans rfl);(case s4=>exact GO.out);(case s5=>exact GE.out);(case s6=>exact(fun h_=>HO524.out.1 gh h_.symm rfl));(case s7=>exact(fun h_=>(Kd.R_ne HO524.out GO.out (by decide)) h_));rintro e w26 ⟨rfl,v526,hg2,ho0,hb,hkp⟩;have n0_:=zM (blk_kept BK519.out hkp (fun hs_=>hs_.elim (fun e_=>(Kd.R_ne HO524.out BK519.out (by decide)) e_) (fun e_=>blk_ne BK519.out GO.out (by decide) e_)));have n3_:=zM (blk_kept CH.out hkp (fun hs_=>hs_.elim (fun e_=>HO524.out.1 gh e_.symm rfl) (fun e_=>blk_ne CH.out GO.out (by decide) e_)));have n1_:=zM (Kd.R_mono (ok':=fun k_=>k_≠gh) ho0 (fun k_ hk_=>hk_.elim (fun e_=>HO524.out.1 k_ e_.symm) (fun h_ e_=>absurd (blk_lt CH.out) (by rw[←e_];exact Nat.not_lt.2 h_))));have n2_:=zM (hb);have n4_:=zM hg2;clear BK519 HB HO524 CH GO;have BK519:=n0_;have HO527:=n1_;have HB:=n2_;have CH:=n3_;have GO:=n4_;clear n0_ n1_ n2_ n3_ n4_ hb hkp ho0 hg2;have hcy_0:w26.cell? ⟨gb519,0,none⟩=some (.int .i64 ((rd_T52 l1 x26_2).f0)):=(blk_cell BK519.out 0).trans rfl;have hcy_1:w26.cell? ⟨gb519,1,none⟩=some (.int .i64 ((rd_T52 l1 x26_2).f1)):=(blk_cell BK519.out 1).trans rfl;have hfy_0:=blk_frozen BK519.out 0;have hfy_1:=blk_frozen BK519.out 1))
       go_roundg kj9
       case measure=>have:=HJ2.out;have:=HK2.out;have:=HJ9.out;omega
       case rel=>exact⟨v526,(t525),(wrap64 (x26_2+1)),zs,H',⟨by have:=HJ2.out;have:=HK2.out;have:=HJ9.out;omega⟩,⟨HO527.out⟩,⟨CH.out⟩,⟨GO.out⟩,⟨HB.out⟩⟩
def impl_weaves.f (l0:List Int) (a1:Int):Option (Bool):=if(l0.length:Int)≤1024 then(if a1≥1 then(some (decide (a1≤64))) else(some false)) else(some false)
theorem impl_weaves.calls (A0:Option Addr) (c0:Nat) (l0:List Int) (a1:Int) (r:Bool) (w:World) (hr0:Kd.C (Kd.int .i64) w A0 l0.length l0) (hc0:l0.length≤c0) (H:impl_weaves.f l0 a1=some r):
 Calls Try.prog 89 #[.slice A0 l0.length c0, .int .i64 a1] w fun e w'=>e= .returned (.bool r)∧Drawn0 w w':=by
 have HR0:=zM hr0
 have HC0:=zM hc0
 clear hr0 hc0
 unfold impl_weaves.f at H
 replace H:=zI2 H
 rcases H with⟨c3,H⟩|⟨c3,H⟩
 case inr=>
  have c3b0:=decide_eq_false c3
  have c3b1:decide (l0.length≤1024)=false:=decide_eq_false (by omega)
  clear c3
  obtain rfl:=zI H
  go_enter Try.func89,Try.ntmps89
  go_wp2
  go_ret
  exact⟨zs,zd⟩
 have c3b0:=zE c3
 have c3b1:decide (l0.length≤1024)=true:=zE (by omega)
 clear c3
 replace H:=zI2 H
 rcases H with⟨c4,H⟩|⟨c4,H⟩
 case inl=>
  have c4b0:decide (1≤a1)=true:=zE c4
  clear c4
  obtain rfl:=zI H
  go_enter Try.func89,Try.ntmps89
  go_wp2
  go_ret
  exact⟨zs,zd⟩
 have c4b0:decide (1≤a1)=false:=decide_eq_false c4
 clear c4
 obtain rfl:=zI H
 go_enter Try.func89,Try.ntmps89
 go_wp2
 go_ret
 exact⟨zs,zd⟩
end Go.Proofs.Ytapobpkeefeajaa.PFnExactHear
