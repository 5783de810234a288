-- A turned copy of the print's text.
import Derived.Test.YtapobpkeefeajaaPFnExactHearx0
import Derived.Test.YtapobpkeefeajaaPFnExactHearx14
namespace Go.Proofs.Ytapobpkeefeajaa.PFnExactHear
open Go.RowKit Go.Proofs.YtapobpkeefeajaaW.PrintWords Go.Proofs.YtapobpkeefeajaaW.PrintLast Go.Proofs.YtapobpkeefeajaaW.PrintMore
attribute [local go_sem] max2_int min2_int max_two min_two max_three min_three max_four min_four
set_option maxHeartbeats 8000000
set_option maxRecDepth 100000
set_option linter.unusedVariables false
set_option linter.unusedSimpArgs false
def spec_l18Begin.l0:Nat→List (S52)→Int→Int→Int→Int→Int→Int→Int→Option (Int)
 |0,_,_,_,_,_,_,_,_=>none
 |k+1,x1,x5,x244000,x244001,x244002,x244003,x244004,x244005=>if x5<(x1.length:Int) then(if 0≤x5 then((spec_l18Size.f ((rd_T52 x1 x5).f0)).bind fun t245=>(if t245>(wrap64 (16*x244005)) then(some x5) else((spec_l18Size.f ((rd_T52 x1 x5).f1)).bind fun t247=>(if t247>(wrap64 (16*x244005)) then(some x5) else(spec_l18Begin.l0 k x1 (wrap64 (x5+1)) x244000 x244001 x244002 x244003 x244004 x244005))))) else(none)) else(some (-1))
def spec_l18Begin.f (k:Nat) (a0_0:Int) (a0_1:Int) (a0_2:Int) (a0_3:Int) (a0_4:Int) (a0_5:Int) (l1:List (S52)):Option (Int):=spec_l18Begin.l0 k l1 0 a0_0 a0_1 a0_2 a0_3 a0_4 a0_5
theorem spec_l18Begin.calls (k:Nat) (a0_0:Int) (a0_1:Int) (a0_2:Int) (a0_3:Int) (a0_4:Int) (a0_5:Int) (A1:Option Addr) (c1:Nat) (l1:List (S52)) (r:Int) (w:World) (hr1:Kd.C k52 w A1 l1.length l1) (hc1:l1.length≤c1) (H:spec_l18Begin.f k a0_0 a0_1 a0_2 a0_3 a0_4 a0_5 l1=some r):
 Calls Try.prog 64 #[.agg #[.int .i64 a0_0, .int .i64 a0_1, .int .i64 a0_2, .int .i64 a0_3, .int .i64 a0_4, .int .i64 a0_5], .slice A1 l1.length c1] w fun e w'=>e= .returned (.int .i64 r)∧Below w.heap.size w w':=by
 have hu28:=Try.underlying28
 have HR1:=zM hr1
 have HC1:=zM hc1
 clear hr1 hc1
 have HB:=zM (Below.refl w.heap.size w)
 unfold spec_l18Begin.f at H
 have H':=zM H
 clear H
 go_enter Try.func64,Try.ntmps64
 go_wp2_with (first|((with_reducible refine gate_dst (N:=2) rfl ?_);refine box_event ?hg (N:=2) ?hd (cs:= #[.int .i64 a0_0, .int .i64 a0_1, .int .i64 a0_2, .int .i64 a0_3, .int .i64 a0_4, .int .i64 a0_5]) (t:=28) ?hr ?_;(case hd|hg=>rfl);(case hr=>exact zh);intro gb243 hg w3 hbox hb;have n0_:=zM (below_step zb hb);have n1_:=zM (hbox);have n2_:=zM ((zw hg (below_size zb)));have n3_:=zM n2_.out;clear HB;have HB:=n0_;have BK243:=n1_;have GW243:=n2_;have GE243:=n3_;clear n0_ n1_ n2_ n3_;clear hb hbox hg))
 repeat(go_quiet (first|((with_reducible refine gate_dst (N:=2) rfl ?_);refine box_event ?hg (N:=2) ?hd (cs:= #[.int .i64 a0_0, .int .i64 a0_1, .int .i64 a0_2, .int .i64 a0_3, .int .i64 a0_4, .int .i64 a0_5]) (t:=28) ?hr ?_;(case hd|hg=>rfl);(case hr=>exact zh);intro gb243 hg w3 hbox hb;have n0_:=zM (below_step zb hb);have n1_:=zM (hbox);have n2_:=zM ((zw hg (below_size zb)));have n3_:=zM n2_.out;clear HB;have HB:=n0_;have BK243:=n1_;have GW243:=n2_;have GE243:=n3_;clear n0_ n1_ n2_ n3_;clear hb hbox hg));try go_wp2_with (first|((with_reducible refine gate_dst (N:=2) rfl ?_);refine box_event ?hg (N:=2) ?hd (cs:= #[.int .i64 a0_0, .int .i64 a0_1, .int .i64 a0_2, .int .i64 a0_3, .int .i64 a0_4, .int .i64 a0_5]) (t:=28) ?hr ?_;(case hd|hg=>rfl);(case hr=>exact zh);intro gb243 hg w3 hbox hb;have n0_:=zM (below_step zb hb);have n1_:=zM (hbox);have n2_:=zM ((zw hg (below_size zb)));have n3_:=zM n2_.out;clear HB;have HB:=n0_;have BK243:=n1_;have GW243:=n2_;have GE243:=n3_;clear n0_ n1_ n2_ n3_;clear hb hbox hg)))
 (try simp only[Act.put,zL1,zL2,zL3])
 go_loopg [5] k (fun kq v5 w'=>∃(x5_1:Int),v5= .int .i64 x5_1∧Aside0 (spec_l18Begin.l0 kq l1 x5_1 a0_0 a0_1 a0_2 a0_3 a0_4 a0_5=some r)∧Aside0 (kq≤k)∧Aside0 (w'.heap[gb243]? =some (.cells #[.int .i64 a0_0, .int .i64 a0_1, .int .i64 a0_2, .int .i64 a0_3, .int .i64 a0_4, .int .i64 a0_5] 28 (0,0)))∧Aside0 (Below w.heap.size w w'))
 case atStart=>exact⟨(0),zs,H',⟨Nat.le_refl _⟩,⟨zn BK243⟩,⟨zb11⟩⟩
 case round=>
  clear H'
  try clear c1
  try clear p2
  obtain⟨x5_1,rfl,HA,HK1,BK243,HB⟩:=hrel
  cases gk with
  |zero=>exact absurd HA.out (by simp[spec_l18Begin.l0])
  | succ k1=>
   have H:=HA.out
   clear HA
   simp only[spec_l18Begin.l0] at H
   replace H:=zI2 H
   rcases H with⟨c4,H⟩|⟨c4,H⟩
   case inr=>
    have c4b0:=decide_eq_false c4
    clear c4
    obtain rfl:=zI H
    go_wp2
    repeat(go_quiet (fail);try go_wp2)
    go_ret
    exact⟨zq,zb11⟩
   have c4b0:=zE c4
   clear c4
   replace H:=zID H
   obtain⟨c5b0,H⟩:=H
   replace H:=zP H
   obtain⟨t245,A6,H⟩:=H
   replace H:=zI2 H
   rcases H with⟨c7,H⟩|⟨c7,H⟩
   case inl=>
    have c7b0:decide ((wrap64 (16*a0_5))<t245)=true:=zE c7
    clear c7
    obtain rfl:=zI H
    have p244:0≤(x5_1:Int):=zT (by assumption)
    have q244:x5_1<(l1.length:Int):=zT (by assumption)
    obtain⟨ad244,e244,hx244_0,hx244_1⟩:=at_T52 HR1.out x5_1 p244 q244
    cases e244
    replace hx244_0:=(HB.out.cell (zW w _ hx244_0)).trans hx244_0
    replace hx244_1:=(HB.out.cell (zW w _ hx244_1)).trans hx244_1
    replace p244:=eq_true p244
    replace q244:=eq_true q244
    have hczq:wr.cell? ⟨gb243,5,none⟩=some (.int .i64 a0_5):=(blk_cell BK243.out 5).trans rfl
    go_wp2
    have n0_:=zM (zNd BK243.out)
    have n1_:=zM (zBd HB.out)
    clear BK243 HB
    have BK243:=n0_
    have HB:=n1_
    clear n0_ n1_
    refine start_ (n:=22) (S:=fun w'=>w'.cell? (ad244.add (x5_1.toNat*2))=some (.int .i64 (rd_T52 l1 x5_1).f0)∧w'.cell? ⟨(ad244.add (x5_1.toNat*2)).block,(ad244.add (x5_1.toNat*2)).off+1,none⟩=some (.int .i64 (rd_T52 l1 x5_1).f1)∧w'.cell? ⟨gb243,5,none⟩=some (.int .i64 a0_5)) (ds:=[]) #[zf,zf,zf,zf,zf,zf,zf,zf,zf,zf,zf,zf,zf,zf,zf,zf,zf,zf,zf,zf,zf,zf] ze rfl rfl ⟨hx244_0,hx244_1,hczq⟩ (fun hHeld=> ?_)
    generalize wr.drew=w9 at BK243 HB hHeld ⊢
    refine pure_ (i:=0) (N:=some 12) #[zt,zf,zf,zf,zf,zf,zf,zf,zf,zf,zf,zf,zf,zf,zf,zf,zf,zf,zf,zf,zf,zf] rfl rfl ze (fun _ _ _ h=>h) (Or.inl ⟨by rfl,zv⟩) za ?_
    refine pure_ (i:=1) (N:=some 13) #[zt,zt,zf,zf,zf,zf,zf,zf,zf,zf,zf,zf,zf,zf,zf,zf,zf,zf,zf,zf,zf,zf] rfl rfl ze (fun _ _ _ h=>h) (Or.inl ⟨by rfl,zv⟩) za ?_
    refine pure_ (i:=2) (N:=some 14) #[zt,zt,zt,zf,zf,zf,zf,zf,zf,zf,zf,zf,zf,zf,zf,zf,zf,zf,zf,zf,zf,zf] rfl rfl ze (fun _ _ _ h=>h) (Or.inl ⟨by rfl,zv⟩) za ?_
    refine pure_ (i:=3) (N:=some 15) #[zt,zt,zt,zt,zf,zf,zf,zf,zf,zf,zf,zf,zf,zf,zf,zf,zf,zf,zf,zf,zf,zf] rfl rfl ze (fun _ _ _ h=>h) (Or.inl ⟨by rfl,zv⟩) za ?_
    refine pure_ (i:=6) (N:=some 18) #[zt,zt,zt,zt,zf,zf,zt,zf,zf,zf,zf,zf,zf,zf,zf,zf,zf,zf,zf,zf,zf,zf] rfl rfl ze (fun _ _ _ h=>h) (Or.inl ⟨by rfl,zv⟩) za ?_
    refine take_ (i:=4) (N:=some 16) #[zt,zt,zt,zt,zt,zf,zt,zf,zf,zf,zf,zf,zf,zf,zf,zf,zf,zf,zf,zf,zf,zf] rfl rfl ze (fun _ _ _ h=>h) (Or.inl ⟨by rfl,zv3⟩) hHeld za ?_
    refine take_ (i:=7) (N:=some 19) #[zt,zt,zt,zt,zt,zf,zt,zt,zf,zf,zf,zf,zf,zf,zf,zf,zf,zf,zf,zf,zf,zf] rfl rfl ze (fun _ _ _ h=>h) (Or.inl ⟨by rfl,zv3⟩) hHeld za ?_
    refine pure_ (i:=8) (N:=some 20) #[zt,zt,zt,zt,zt,zf,zt,zt,zt,zf,zf,zf,zf,zf,zf,zf,zf,zf,zf,zf,zf,zf] rfl rfl ze (fun _ _ _ h=>h) (Or.inl ⟨by rfl,zv⟩) za ?_
    refine one_ (i:=5) (N:=some 17) #[zt,zt,zt,zt,zt,zt,zt,zt,zt,zf,zf,zf,zf,zf,zf,zf,zf,zf,zf,zf,zf,zf] rfl rfl ze (by decide) (fun K hK=> ?_)
    refine goes_ Try.func66 ze rfl #[.int .i64 ((rd_T52 l1 x5_1).f0)] (by rfl) rfl rfl (by simp only[List.map_toArray,List.map_cons,List.map_nil];rfl) ?_
    with_reducible refine(spec_l18Size.calls ((rd_T52 l1 x5_1).f0) t245 _ A6.out).mono ?_
    rintro e w' ⟨rfl,⟨nd,rfl⟩⟩
    refine⟨_,rfl,?_⟩
    refine hK.out _ _ ⟨hHeld.1,hHeld.2.1,hHeld.2.2⟩ (fun hHeld=> ?_)
    clear hK K
    refine norm_ (a':= ?_) ?_ ?_
    rotate_left
    ·show Act.put _ (some 17) _=_
     simp only[Act.put,zL1,zL2,zL3,i64_w,i32_w]
     rfl
    refine pure_ (i:=9) (N:=some 21) #[zt,zt,zt,zt,zt,zt,zt,zt,zt,zt,zf,zf,zf,zf,zf,zf,zf,zf,zf,zf,zf,zf] rfl rfl ze (fun _ _ _ h=>h) (Or.inl ⟨by rfl,zv⟩) za ?_
    refine pure_ (i:=10) (N:=some 22) #[zt,zt,zt,zt,zt,zt,zt,zt,zt,zt,zt,zf,zf,zf,zf,zf,zf,zf,zf,zf,zf,zf] rfl rfl ze (fun _ _ _ h=>h) (Or.inl ⟨by rfl,zv⟩) za ?_
    refine pure_ (i:=11) (N:=some 23) (v:=undef) (a':= ?_) #[zt,zt,zt,zt,zt,zt,zt,zt,zt,zt,zt,zt,zf,zf,zf,zf,zf,zf,zf,zf,zf,zf] rfl rfl ze (fun _ _ _ h=>h) (Or.inr ⟨by rfl,rfl⟩) ?_ ?_
    rotate_left
    ·simp only[Act.put,zL1,zL2,zL3,i64_w,i32_w]
     rfl
    refine pure_ (i:=12) (N:=some 24) (v:=undef) (a':= ?_) #[zt,zt,zt,zt,zt,zt,zt,zt,zt,zt,zt,zt,zt,zf,zf,zf,zf,zf,zf,zf,zf,zf] rfl rfl ze (fun _ _ _ h=>h) (Or.inr ⟨by rfl,rfl⟩) ?_ ?_
    rotate_left
    ·simp only[Act.put,zL1,zL2,zL3,i64_w,i32_w]
     rfl
    refine pure_ (i:=13) (N:=some 25) (v:=undef) (a':= ?_) #[zt,zt,zt,zt,zt,zt,zt,zt,zt,zt,zt,zt,zt,zt,zf,zf,zf,zf,zf,zf,zf,zf] rfl rfl ze (fun _ _ _ h=>h) (Or.inr ⟨by rfl,rfl⟩) ?_ ?_
    rotate_left
    ·simp only[Act.put,zL1,zL2,zL3,i64_w,i32_w]
     rfl
    refine pure_ (i:=14) (N:=some 26) (v:=undef) (a':= ?_) #[zt,zt,zt,zt,zt,zt,zt,zt,zt,zt,zt,zt,zt,zt,zt,zf,zf,zf,zf,zf,zf,zf] rfl rfl ze (fun _ _ _ h=>h) (Or.inr ⟨by rfl,rfl⟩) ?_ ?_
    rotate_left
    ·simp only[Act.put,zL1,zL2,zL3,i64_w,i32_w]
     rfl
    refine pure_ (i:=15) (N:=some 27) (v:=undef) (a':= ?_) #[zt,zt,zt,zt,zt,zt,zt,zt,zt,zt,zt,zt,zt,zt,zt,zt,zf,zf,zf,zf,zf,zf] rfl rfl ze (fun _ _ _ h=>h) (Or.inr ⟨by rfl,rfl⟩) ?_ ?_
    rotate_left
    ·simp only[Act.put,zL1,zL2,zL3,i64_w,i32_w]
     rfl
    refine pure_ (i:=16) (N:=some 28) (v:=undef) (a':= ?_) #[zt,zt,zt,zt,zt,zt,zt,zt,zt,zt,zt,zt,zt,zt,zt,zt,zt,zf,zf,zf,zf,zf] rfl rfl ze (fun _ _ _ h=>h) (Or.inr ⟨by rfl,rfl⟩) ?_ ?_
    rotate_left
    ·simp only[Act.put,zL1,zL2,zL3,i64_w,i32_w]
     rfl
    refine pure_ (i:=17) (N:=some 29) (v:=undef) (a':= ?_) #[zt,zt,zt,zt,zt,zt,zt,zt,zt,zt,zt,zt,zt,zt,zt,zt,zt,zt,zf,zf,zf,zf] rfl rfl ze (fun _ _ _ h=>h) (Or.inr ⟨by rfl,rfl⟩) ?_ ?_
    rotate_left
    ·simp only[Act.put,zL1,zL2,zL3,i64_w,i32_w]
     rfl
    refine pure_ (i:=18) (N:=some 30) (v:=undef) (a':= ?_) #[zt,zt,zt,zt,zt,zt,zt,zt,zt,zt,zt,zt,zt,zt,zt,zt,zt,zt,zt,zf,zf,zf] rfl rfl ze (fun _ _ _ h=>h) (Or.inr ⟨by rfl,rfl⟩) ?_ ?_
    rotate_left
    ·simp only[Act.put,zL1,zL2,zL3,i64_w,i32_w]
     rfl
    refine pure_ (i:=19) (N:=some 31) (v:=undef) (a':= ?_) #[zt,zt,zt,zt,zt,zt,zt,zt,zt,zt,zt,zt,zt,zt,zt,zt,zt,zt,zt,zt,zf,zf] rfl rfl ze (fun _ _ _ h=>h) (Or.inr ⟨by rfl,rfl⟩) ?_ ?_
    rotate_left
    ·simp only[Act.put,zL1,zL2,zL3,i64_w,i32_w]
     rfl
    refine pure_ (i:=20) (N:=some 32) (v:=undef) (a':= ?_) #[zt,zt,zt,zt,zt,zt,zt,zt,zt,zt,zt,zt,zt,zt,zt,zt,zt,zt,zt,zt,zt,zf] rfl rfl ze (fun _ _ _ h=>h) (Or.inr ⟨by rfl,rfl⟩) ?_ ?_
    rotate_left
    ·simp only[Act.put,zL1,zL2,zL3,i64_w,i32_w]
     rfl
    refine pure_ (i:=21) (N:=some 33) #[zt,zt,zt,zt,zt,zt,zt,zt,zt,zt,zt,zt,zt,zt,zt,zt,zt,zt,zt,zt,zt,zt] rfl rfl ze (fun _ _ _ h=>h) (Or.inl ⟨by rfl,zv⟩) za ?_
    refine done_ ze ?_
    try go_wp2
    go_ret
    exact⟨zq,zb11⟩
   have c7b0:decide ((wrap64 (16*a0_5))<t245)=false:=decide_eq_false c7
   clear c7
   replace H:=zP H
   obtain⟨t247,A9,H⟩:=H
   replace H:=zI2 H
   rcases H with⟨c10,H⟩|⟨c10,H⟩
   case inl=>
    have c10b0:decide ((wrap64 (16*a0_5))<t247)=true:=zE c10
    clear c10
    obtain rfl:=zI H
    have p244:0≤(x5_1:Int):=zT (by assumption)
    have q244:x5_1<(l1.length:Int):=zT (by assumption)
    obtain⟨ad244,e244,hx244_0,hx244_1⟩:=at_T52 HR1.out x5_1 p244 q244
    cases e244
    replace hx244_0:=(HB.out.cell (zW w _ hx244_0)).trans hx244_0
    replace hx244_1:=(HB.out.cell (zW w _ hx244_1)).trans hx244_1
    replace p244:=eq_true p244
    replace q244:=eq_true q244
    have hczq:wr.cell? ⟨gb243,5,none⟩=some (.int .i64 a0_5):=(blk_cell BK243.out 5).trans rfl
    go_wp2
    have n0_:=zM (zNd BK243.out)
    have n1_:=zM (zBd HB.out)
    clear BK243 HB
    have BK243:=n0_
    have HB:=n1_
    clear n0_ n1_
    refine start_ (n:=22) (S:=fun w'=>w'.cell? (ad244.add (x5_1.toNat*2))=some (.int .i64 (rd_T52 l1 x5_1).f0)∧w'.cell? ⟨(ad244.add (x5_1.toNat*2)).block,(ad244.add (x5_1.toNat*2)).off+1,none⟩=some (.int .i64 (rd_T52 l1 x5_1).f1)∧w'.cell? ⟨gb243,5,none⟩=some (.int .i64 a0_5)) (ds:=[]) #[zf,zf,zf,zf,zf,zf,zf,zf,zf,zf,zf,zf,zf,zf,zf,zf,zf,zf,zf,zf,zf,zf] ze rfl rfl ⟨hx244_0,hx244_1,hczq⟩ (fun hHeld=> ?_)
    generalize wr.drew=w9 at BK243 HB hHeld ⊢
    refine pure_ (i:=0) (N:=some 12) #[zt,zf,zf,zf,zf,zf,zf,zf,zf,zf,zf,zf,zf,zf,zf,zf,zf,zf,zf,zf,zf,zf] rfl rfl ze (fun _ _ _ h=>h) (Or.inl ⟨by rfl,zv⟩) za ?_
    refine pure_ (i:=1) (N:=some 13) #[zt,zt,zf,zf,zf,zf,zf,zf,zf,zf,zf,zf,zf,zf,zf,zf,zf,zf,zf,zf,zf,zf] rfl rfl ze (fun _ _ _ h=>h) (Or.inl ⟨by rfl,zv⟩) za ?_
    refine pure_ (i:=2) (N:=some 14) #[zt,zt,zt,zf,zf,zf,zf,zf,zf,zf,zf,zf,zf,zf,zf,zf,zf,zf,zf,zf,zf,zf] rfl rfl ze (fun _ _ _ h=>h) (Or.inl ⟨by rfl,zv⟩) za ?_
    refine pure_ (i:=3) (N:=some 15) #[zt,zt,zt,zt,zf,zf,zf,zf,zf,zf,zf,zf,zf,zf,zf,zf,zf,zf,zf,zf,zf,zf] rfl rfl ze (fun _ _ _ h=>h) (Or.inl ⟨by rfl,zv⟩) za ?_
    refine pure_ (i:=6) (N:=some 18) #[zt,zt,zt,zt,zf,zf,zt,zf,zf,zf,zf,zf,zf,zf,zf,zf,zf,zf,zf,zf,zf,zf] rfl rfl ze (fun _ _ _ h=>h) (Or.inl ⟨by rfl,zv⟩) za ?_
    refine take_ (i:=4) (N:=some 16) #[zt,zt,zt,zt,zt,zf,zt,zf,zf,zf,zf,zf,zf,zf,zf,zf,zf,zf,zf,zf,zf,zf] rfl rfl ze (fun _ _ _ h=>h) (Or.inl ⟨by rfl,zv3⟩) hHeld za ?_
    refine take_ (i:=7) (N:=some 19) #[zt,zt,zt,zt,zt,zf,zt,zt,zf,zf,zf,zf,zf,zf,zf,zf,zf,zf,zf,zf,zf,zf] rfl rfl ze (fun _ _ _ h=>h) (Or.inl ⟨by rfl,zv3⟩) hHeld za ?_
    refine pure_ (i:=8) (N:=some 20) #[zt,zt,zt,zt,zt,zf,zt,zt,zt,zf,zf,zf,zf,zf,zf,zf,zf,zf,zf,zf,zf,zf] rfl rfl ze (fun _ _ _ h=>h) (Or.inl ⟨by rfl,zv⟩) za ?_
    refine one_ (i:=5) (N:=some 17) #[zt,zt,zt,zt,zt,zt,zt,zt,zt,zf,zf,zf,zf,zf,zf,zf,zf,zf,zf,zf,zf,zf] rfl rfl ze (by decide) (fun K hK=> ?_)
    refine goes_ Try.func66 ze rfl #[.int .i64 ((rd_T52 l1 x5_1).f0)] (by rfl) rfl rfl (by simp only[List.map_toArray,List.map_cons,List.map_nil];rfl) ?_
    with_reducible refine(spec_l18Size.calls ((rd_T52 l1 x5_1).f0) t245 _ A6.out).mono ?_
    rintro e w' ⟨rfl,⟨nd,rfl⟩⟩
    refine⟨_,rfl,?_⟩
    refine hK.out _ _ ⟨hHeld.1,hHeld.2.1,hHeld.2.2⟩ (fun hHeld=> ?_)
    clear hK K
    refine norm_ (a':= ?_) ?_ ?_
    rotate_left
    ·show Act.put _ (some 17) _=_
     simp only[Act.put,zL1,zL2,zL3,i64_w,i32_w]
     rfl
    refine pure_ (i:=9) (N:=some 21) #[zt,zt,zt,zt,zt,zt,zt,zt,zt,zt,zf,zf,zf,zf,zf,zf,zf,zf,zf,zf,zf,zf] rfl rfl ze (fun _ _ _ h=>h) (Or.inl ⟨by rfl,zv⟩) za ?_
    refine pure_ (i:=10) (N:=some 22) #[zt,zt,zt,zt,zt,zt,zt,zt,zt,zt,zt,zf,zf,zf,zf,zf,zf,zf,zf,zf,zf,zf] rfl rfl ze (fun _ _ _ h=>h) (Or.inl ⟨by rfl,zv⟩) za ?_
    refine pure_ (i:=11) (N:=some 23) #[zt,zt,zt,zt,zt,zt,zt,zt,zt,zt,zt,zt,zf,zf,zf,zf,zf,zf,zf,zf,zf,zf] rfl rfl ze (fun _ _ _ h=>h) (Or.inl ⟨by rfl,zv⟩) za ?_
    refine pure_ (i:=12) (N:=some 24) #[zt,zt,zt,zt,zt,zt,zt,zt,zt,zt,zt,zt,zt,zf,zf,zf,zf,zf,zf,zf,zf,zf] rfl rfl ze (fun _ _ _ h=>h) (Or.inl ⟨by rfl,zv⟩) za ?_
    refine pure_ (i:=13) (N:=some 25) #[zt,zt,zt,zt,zt,zt,zt,zt,zt,zt,zt,zt,zt,zt,zf,zf,zf,zf,zf,zf,zf,zf] rfl rfl ze (fun _ _ _ h=>h) (Or.inl ⟨by rfl,zv⟩) za ?_
    refine pure_ (i:=14) (N:=some 26) #[zt,zt,zt,zt,zt,zt,zt,zt,zt,zt,zt,zt,zt,zt,zt,zf,zf,zf,zf,zf,zf,zf] rfl rfl ze (fun _ _ _ h=>h) (Or.inl ⟨by rfl,zv⟩) za ?_
    refine pure_ (i:=17) (N:=some 29) #[zt,zt,zt,zt,zt,zt,zt,zt,zt,zt,zt,zt,zt,zt,zt,zf,zf,zt,zf,zf,zf,zf] rfl rfl ze (fun _ _ _ h=>h) (Or.inl ⟨by rfl,zv⟩) za ?_
    refine take_ (i:=15) (N:=some 27) #[zt,zt,zt,zt,zt,zt,zt,zt,zt,zt,zt,zt,zt,zt,zt,zt,zf,zt,zf,zf,zf,zf] rfl rfl ze (fun _ _ _ h=>h) (Or.inl ⟨by rfl,zv3⟩) hHeld za ?_
    refine take_ (i:=18) (N:=some 30) #[zt,zt,zt,zt,zt,zt,zt,zt,zt,zt,zt,zt,zt,zt,zt,zt,zf,zt,zt,zf,zf,zf] rfl rfl ze (fun _ _ _ h=>h) (Or.inl ⟨by rfl,zv3⟩) hHeld za ?_
    refine pure_ (i:=19) (N:=some 31) #[zt,zt,zt,zt,zt,zt,zt,zt,zt,zt,zt,zt,zt,zt,zt,zt,zf,zt,zt,zt,zf,zf] rfl rfl ze (fun _ _ _ h=>h) (Or.inl ⟨by rfl,zv⟩) za ?_
    refine one_ (i:=16) (N:=some 28) #[zt,zt,zt,zt,zt,zt,zt,zt,zt,zt,zt,zt,zt,zt,zt,zt,zt,zt,zt,zt,zf,zf] rfl rfl ze (by decide) (fun K hK=> ?_)
    refine goes_ Try.func66 ze rfl #[.int .i64 ((rd_T52 l1 x5_1).f1)] (by rfl) rfl rfl (by simp only[List.map_toArray,List.map_cons,List.map_nil];rfl) ?_
    with_reducible refine(spec_l18Size.calls ((rd_T52 l1 x5_1).f1) t247 _ A9.out).mono ?_
    rintro e w' ⟨rfl,⟨ne,rfl⟩⟩
    refine⟨_,rfl,?_⟩
    refine hK.out _ _ ⟨hHeld.1,hHeld.2.1,hHeld.2.2⟩ (fun hHeld=> ?_)
    clear hK K
    refine norm_ (a':= ?_) ?_ ?_
    rotate_left
    ·show Act.put _ (some 28) _=_
     simp only[Act.put,zL1,zL2,zL3,i64_w,i32_w]
     rfl
    refine pure_ (i:=20) (N:=some 32) #[zt,zt,zt,zt,zt,zt,zt,zt,zt,zt,zt,zt,zt,zt,zt,zt,zt,zt,zt,zt,zt,zf] rfl rfl ze (fun _ _ _ h=>h) (Or.inl ⟨by rfl,zv⟩) za ?_
    refine pure_ (i:=21) (N:=some 33) #[zt,zt,zt,zt,zt,zt,zt,zt,zt,zt,zt,zt,zt,zt,zt,zt,zt,zt,zt,zt,zt,zt] rfl rfl ze (fun _ _ _ h=>h) (Or.inl ⟨by rfl,zv⟩) za ?_
    refine done_ ze ?_
    try go_wp2
    go_ret
    exact⟨zq,zb11⟩
   have c10b0:decide ((wrap64 (16*a0_5))<t247)=false:=decide_eq_false c10
   clear c10
   have H':=zM H
   clear H
   have p244:0≤(x5_1:Int):=zT (by assumption)
   have q244:x5_1<(l1.length:Int):=zT (by assumption)
   obtain⟨ad244,e244,hx244_0,hx244_1⟩:=at_T52 HR1.out x5_1 p244 q244
   cases e244
   replace hx244_0:=(HB.out.cell (zW w _ hx244_0)).trans hx244_0
   replace hx244_1:=(HB.out.cell (zW w _ hx244_1)).trans hx244_1
   replace p244:=eq_true p244
   replace q244:=eq_true q244
   have hczq:wr.cell? ⟨gb243,5,none⟩=some (.int .i64 a0_5):=(blk_cell BK243.out 5).trans rfl
   go_wp2
   have n0_:=zM (zNd BK243.out)
   have n1_:=zM (zBd HB.out)
   clear BK243 HB
   have BK243:=n0_
   have HB:=n1_
   clear n0_ n1_
   refine start_ (n:=22) (S:=fun w'=>w'.cell? (ad244.add (x5_1.toNat*2))=some (.int .i64 (rd_T52 l1 x5_1).f0)∧w'.cell? ⟨(ad244.add (x5_1.toNat*2)).block,(ad244.add (x5_1.toNat*2)).off+1,none⟩=some (.int .i64 (rd_T52 l1 x5_1).f1)∧w'.cell? ⟨gb243,5,none⟩=some (.int .i64 a0_5)) (ds:=[]) #[zf,zf,zf,zf,zf,zf,zf,zf,zf,zf,zf,zf,zf,zf,zf,zf,zf,zf,zf,zf,zf,zf] ze rfl rfl ⟨hx244_0,hx244_1,hczq⟩ (fun hHeld=> ?_)
   generalize wr.drew=w9 at BK243 HB hHeld ⊢
   refine pure_ (i:=0) (N:=some 12) #[zt,zf,zf,zf,zf,zf,zf,zf,zf,zf,zf,zf,zf,zf,zf,zf,zf,zf,zf,zf,zf,zf] rfl rfl ze (fun _ _ _ h=>h) (Or.inl ⟨by rfl,zv⟩) za ?_
   refine pure_ (i:=1) (N:=some 13) #[zt,zt,zf,zf,zf,zf,zf,zf,zf,zf,zf,zf,zf,zf,zf,zf,zf,zf,zf,zf,zf,zf] rfl rfl ze (fun _ _ _ h=>h) (Or.inl ⟨by rfl,zv⟩) za ?_
   refine pure_ (i:=2) (N:=some 14) #[zt,zt,zt,zf,zf,zf,zf,zf,zf,zf,zf,zf,zf,zf,zf,zf,zf,zf,zf,zf,zf,zf] rfl rfl ze (fun _ _ _ h=>h) (Or.inl ⟨by rfl,zv⟩) za ?_
   refine pure_ (i:=3) (N:=some 15) #[zt,zt,zt,zt,zf,zf,zf,zf,zf,zf,zf,zf,zf,zf,zf,zf,zf,zf,zf,zf,zf,zf] rfl rfl ze (fun _ _ _ h=>h) (Or.inl ⟨by rfl,zv⟩) za ?_
   refine pure_ (i:=6) (N:=some 18) #[zt,zt,zt,zt,zf,zf,zt,zf,zf,zf,zf,zf,zf,zf,zf,zf,zf,zf,zf,zf,zf,zf] rfl rfl ze (fun _ _ _ h=>h) (Or.inl ⟨by rfl,zv⟩) za ?_
   refine take_ (i:=4) (N:=some 16) #[zt,zt,zt,zt,zt,zf,zt,zf,zf,zf,zf,zf,zf,zf,zf,zf,zf,zf,zf,zf,zf,zf] rfl rfl ze (fun _ _ _ h=>h) (Or.inl ⟨by rfl,zv3⟩) hHeld za ?_
   refine take_ (i:=7) (N:=some 19) #[zt,zt,zt,zt,zt,zf,zt,zt,zf,zf,zf,zf,zf,zf,zf,zf,zf,zf,zf,zf,zf,zf] rfl rfl ze (fun _ _ _ h=>h) (Or.inl ⟨by rfl,zv3⟩) hHeld za ?_
   refine pure_ (i:=8) (N:=some 20) #[zt,zt,zt,zt,zt,zf,zt,zt,zt,zf,zf,zf,zf,zf,zf,zf,zf,zf,zf,zf,zf,zf] rfl rfl ze (fun _ _ _ h=>h) (Or.inl ⟨by rfl,zv⟩) za ?_
   refine one_ (i:=5) (N:=some 17) #[zt,zt,zt,zt,zt,zt,zt,zt,zt,zf,zf,zf,zf,zf,zf,zf,zf,zf,zf,zf,zf,zf] rfl rfl ze (by decide) (fun K hK=> ?_)
   refine goes_ Try.func66 ze rfl #[.int .i64 ((rd_T52 l1 x5_1).f0)] (by rfl) rfl rfl (by simp only[List.map_toArray,List.map_cons,List.map_nil];rfl) ?_
   with_reducible refine(spec_l18Size.calls ((rd_T52 l1 x5_1).f0) t245 _ A6.out).mono ?_
   rintro e w' ⟨rfl,⟨nd,rfl⟩⟩
   refine⟨_,rfl,?_⟩
   refine hK.out _ _ ⟨hHeld.1,hHeld.2.1,hHeld.2.2⟩ (fun hHeld=> ?_)
   clear hK K
   refine norm_ (a':= ?_) ?_ ?_
   rotate_left
   ·show Act.put _ (some 17) _=_
    simp only[Act.put,zL1,zL2,zL3,i64_w,i32_w]
    rfl
   refine pure_ (i:=9) (N:=some 21) #[zt,zt,zt,zt,zt,zt,zt,zt,zt,zt,zf,zf,zf,zf,zf,zf,zf,zf,zf,zf,zf,zf] rfl rfl ze (fun _ _ _ h=>h) (Or.inl ⟨by rfl,zv⟩) za ?_
   refine pure_ (i:=10) (N:=some 22) #[zt,zt,zt,zt,zt,zt,zt,zt,zt,zt,zt,zf,zf,zf,zf,zf,zf,zf,zf,zf,zf,zf] rfl rfl ze (fun _ _ _ h=>h) (Or.inl ⟨by rfl,zv⟩) za ?_
   refine pure_ (i:=11) (N:=some 23) #[zt,zt,zt,zt,zt,zt,zt,zt,zt,zt,zt,zt,zf,zf,zf,zf,zf,zf,zf,zf,zf,zf] rfl rfl ze (fun _ _ _ h=>h) (Or.inl ⟨by rfl,zv⟩) za ?_
   refine pure_ (i:=12) (N:=some 24) #[zt,zt,zt,zt,zt,zt,zt,zt,zt,zt,zt,zt,zt,zf,zf,zf,zf,zf,zf,zf,zf,zf] rfl rfl ze (fun _ _ _ h=>h) (Or.inl ⟨by rfl,zv⟩) za ?_
   refine pure_ (i:=13) (N:=some 25) #[zt,zt,zt,zt,zt,zt,zt,zt,zt,zt,zt,zt,zt,zt,zf,zf,zf,zf,zf,zf,zf,zf] rfl rfl ze (fun _ _ _ h=>h) (Or.inl ⟨by rfl,zv⟩) za ?_
   refine pure_ (i:=14) (N:=some 26) #[zt,zt,zt,zt,zt,zt,zt,zt,zt,zt,zt,zt,zt,zt,zt,zf,zf,zf,zf,zf,zf,zf] rfl rfl ze (fun _ _ _ h=>h) (Or.inl ⟨by rfl,zv⟩) za ?_
   refine pure_ (i:=17) (N:=some 29) #[zt,zt,zt,zt,zt,zt,zt,zt,zt,zt,zt,zt,zt,zt,zt,zf,zf,zt,zf,zf,zf,zf] rfl rfl ze (fun _ _ _ h=>h) (Or.inl ⟨by rfl,zv⟩) za ?_
   refine take_ (i:=15) (N:=some 27) #[zt,zt,zt,zt,zt,zt,zt,zt,zt,zt,zt,zt,zt,zt,zt,zt,zf,zt,zf,zf,zf,zf] rfl rfl ze (fun _ _ _ h=>h) (Or.inl ⟨by rfl,zv3⟩) hHeld za ?_
   refine take_ (i:=18) (N:=some 30) #[zt,zt,zt,zt,zt,zt,zt,zt,zt,zt,zt,zt,zt,zt,zt,zt,zf,zt,zt,zf,zf,zf] rfl rfl ze (fun _ _ _ h=>h) (Or.inl ⟨by rfl,zv3⟩) hHeld za ?_
   refine pure_ (i:=19) (N:=some 31) #[zt,zt,zt,zt,zt,zt,zt,zt,zt,zt,zt,zt,zt,zt,zt,zt,zf,zt,zt,zt,zf,zf] rfl rfl ze (fun _ _ _ h=>h) (Or.inl ⟨by rfl,zv⟩) za ?_
   refine one_ (i:=16) (N:=some 28) #[zt,zt,zt,zt,zt,zt,zt,zt,zt,zt,zt,zt,zt,zt,zt,zt,zt,zt,zt,zt,zf,zf] rfl rfl ze (by decide) (fun K hK=> ?_)
   refine goes_ Try.func66 ze rfl #[.int .i64 ((rd_T52 l1 x5_1).f1)] (by rfl) rfl rfl (by simp only[List.map_toArray,List.map_cons,List.map_nil];rfl) ?_
   with_reducible refine(spec_l18Size.calls ((rd_T52 l1 x5_1).f1) t247 _ A9.out).mono ?_
   rintro e w' ⟨rfl,⟨ne,rfl⟩⟩
   refine⟨_,rfl,?_⟩
   refine hK.out _ _ ⟨hHeld.1,hHeld.2.1,hHeld.2.2⟩ (fun hHeld=> ?_)
   clear hK K
   refine norm_ (a':= ?_) ?_ ?_
   rotate_left
   ·show Act.put _ (some 28) _=_
    simp only[Act.put,zL1,zL2,zL3,i64_w,i32_w]
    rfl
   refine pure_ (i:=20) (N:=some 32) #[zt,zt,zt,zt,zt,zt,zt,zt,zt,zt,zt,zt,zt,zt,zt,zt,zt,zt,zt,zt,zt,zf] rfl rfl ze (fun _ _ _ h=>h) (Or.inl ⟨by rfl,zv⟩) za ?_
   refine pure_ (i:=21) (N:=some 33) #[zt,zt,zt,zt,zt,zt,zt,zt,zt,zt,zt,zt,zt,zt,zt,zt,zt,zt,zt,zt,zt,zt] rfl rfl ze (fun _ _ _ h=>h) (Or.inl ⟨by rfl,zv⟩) za ?_
   refine done_ ze ?_
   try go_wp2
   go_roundg k1
   case measure=>have:=HK1.out;omega
   case rel=>exact⟨(wrap64 (x5_1+1)),zs,H',⟨zl1 HK1⟩,⟨zn BK243⟩,⟨zb11⟩⟩
def spec_l18Sum.l0:Nat→List (S52)→Int→Int→Int→Int→Int→Option (Int×Int)
 |0,_,_,_,_,_,_=>none
 |k+1,x0,x1,x2,x8,x250000,x250001=>if x8<(wrap64 (x1+x2)) then(if 0≤x8 then(if x8<(x0.length:Int) then(spec_l18Sum.l0 k x0 x1 x2 (wrap64 (x8+1)) (wrap64 (x250000+((rd_T52 x0 x8).f0))) (wrap64 (x250001+((rd_T52 x0 x8).f1)))) else(none)) else(none)) else(some (x250000,x250001))
def spec_l18Sum.f (k:Nat) (l0:List (S52)) (a1:Int) (a2:Int):Option (Int×Int):=spec_l18Sum.l0 k l0 a1 a2 a1 0 0
def spec_l18Sum.T5:Bool×List (List Nat×List Nat):=(true,[([],[]),([0],[0]),([],[]),([],[]),([2,3],[2,3]),([4],[4]),([5],[5]),([1,6],[1,6]),([],[]),([8],[8]),([],[]),([],[]),([10,11],[10,11]),([12],[12]),([13],[13]),([9,14],[9,14]),([7,15],[7,15]),([16,0,1,2,3,4,5,6,7,8,9,10,11,12,13,14,15,16],[16])])
def spec_l18Sum.B5:List Nat:=[0,1,0,0,12,28,60,127,0,256,0,0,3072,7168,15360,32512,65535,131071]
theorem spec_l18Sum.tab5:rtab .any (opsOf Try.f65 5)=spec_l18Sum.T5:=by kernel_rfl
theorem spec_l18Sum.bits5:waitsOk spec_l18Sum.T5.2 spec_l18Sum.B5=true:=by kernel_rfl
theorem spec_l18Sum.calls (k:Nat) (A0:Option Addr) (c0:Nat) (l0:List (S52)) (a1:Int) (a2:Int) (r1:Int) (r2:Int) (w:World) (hr0:Kd.C k52 w A0 l0.length l0) (hc0:l0.length≤c0) (H:spec_l18Sum.f k l0 a1 a2=some (r1,r2)):
 Calls Try.prog 65 #[.slice A0 l0.length c0, .int .i64 a1, .int .i64 a2] w fun e w'=>e= .returned (.agg #[.int .i64 r1, .int .i64 r2])∧Below w.heap.size w w':=by
 have hu52:=Try.underlying52
 have HR0:=zM hr0
 have HC0:=zM hc0
 clear hr0 hc0
 have HB:=zM (Below.refl w.heap.size w)
 unfold spec_l18Sum.f at H
 have H':=zM H
 clear H
 go_enter Try.func65,Try.ntmps65
 go_wp2_with (first|((with_reducible refine gate_dst (N:=6) rfl ?_);refine box_event ?hg (N:=6) ?hd (cs:= #[.int .i64 0, .int .i64 0]) (t:=52) ?hr ?_;(case hd|hg=>rfl);(case hr=>exact zh);intro gb248 hg w4 hbox hb;have n0_:=zM (below_step zb hb);have n1_:=zM (hbox);have n2_:=zM ((zw hg (below_size zb)));have n3_:=zM n2_.out;clear HB;have HB:=n0_;have BK248:=n1_;have GW248:=n2_;have GE248:=n3_;clear n0_ n1_ n2_ n3_;clear hb hbox hg)|((with_reducible refine gate_dst (N:=7) rfl ?_);refine box_event ?hg (N:=7) ?hd (cs:= #[.int .i64 0, .int .i64 0]) (t:=52) ?hr ?_;(case hd|hg=>rfl);(case hr=>exact zh);intro gb249 hg w5 hbox hb;have n0_:=zM (zNb (g:=gb248) (o:= .cells #[.int .i64 0, .int .i64 0] 52 (0,0)) (zn BK248) hb);have n1_:=zM (below_step zb12 hb);have n2_:=zM (hbox);have n3_:=zM ((zw hg (below_size zb12)));have n4_:=zM n3_.out;have n5_:=zM ((by rw[hg];exact Nat.ne_of_lt (by simpa using blk_lt BK248.out):gb248≠gb249));have n6_:=zM ((by rw[hg];exact Nat.ne_of_gt (by simpa using blk_lt BK248.out):gb249≠gb248));clear BK248;clear HB;have BK248:=n0_;have HB:=n1_;have BK249:=n2_;have GW249:=n3_;have GE249:=n4_;have NB248_249:=n5_;have NB249_248:=n6_;clear n0_ n1_ n2_ n3_ n4_ n5_ n6_;clear hb hbox hg;have hnb6:=NB249_248.out;have hnc6:=NB248_249.out;obtain⟨hcz7_0,hcz7_1,hfz7_0,hfz7_1⟩:=zc2 BK249.out))
 (try simp only[Act.put,zL1,zL2,zL3])
 go_loopg [8] k (fun kq v8 w'=>∃(x8_1:Int) (x250000_1:Int) (x250001_1:Int),v8= .int .i64 x8_1∧Aside0 (spec_l18Sum.l0 kq l0 a1 a2 x8_1 x250000_1 x250001_1=some (r1,r2))∧Aside0 (kq≤k)∧Aside0 (w'.heap[gb248]? =some (.cells #[.int .i64 0, .int .i64 0] 52 (0,0)))∧Aside0 (w'.heap[gb249]? =some (.cells #[.int .i64 x250000_1, .int .i64 x250001_1] 52 (0,0)))∧Aside0 (Below w.heap.size w w'))
 case atStart=>exact⟨(a1),(0),(0),zs,H',⟨Nat.le_refl _⟩,⟨by(with_reducible repeat(first|apply zNn|apply zNd|apply zNa));refine zNf ?_ NB248_249.out _;(with_reducible repeat(first|apply zNn|apply zNd|apply zNa));refine zNf ?_ NB248_249.out _;(with_reducible repeat(first|apply zNn|apply zNd|apply zNa));exact BK248.out⟩,⟨by(with_reducible repeat(first|apply zNn|apply zNd|apply zNa));refine blk_put (cs:= #[.int .i64 0, .int .i64 0]) ?_ 1 _ rfl;(with_reducible repeat(first|apply zNn|apply zNd|apply zNa));refine blk_put (cs:= #[.int .i64 0, .int .i64 0]) ?_ 0 _ rfl;(with_reducible repeat(first|apply zNn|apply zNd|apply zNa));exact BK249.out⟩,⟨zb13⟩⟩
 case round=>
  clear H'
  try clear p2
  try clear c6
  try clear hcz7_0
  try clear hcz7_1
  try clear hfz7_0
  try clear hfz7_1
  obtain⟨x8_1,x250000_1,x250001_1,rfl,HA,HK1,BK248,BK249,HB⟩:=hrel
  cases gk with
  |zero=>exact absurd HA.out (by simp[spec_l18Sum.l0])
  | succ k1=>
   have H:=HA.out
   clear HA
   simp only[spec_l18Sum.l0] at H
   replace H:=zI2 H
   rcases H with⟨c8,H⟩|⟨c8,H⟩
   case inr=>
    have c8b0:=decide_eq_false c8
    clear c8
    simp only[Option.some.injEq,Prod.mk.injEq] at H
    obtain⟨rfl,rfl⟩:=H
    have hnb14:=NB249_248.out
    have hnc14:=NB248_249.out
    obtain⟨hcz15_0,hcz15_1,hfz15_0,hfz15_1⟩:=zc2 BK249.out
    obtain⟨hcz16_0,hcz16_1,hfz16_0,hfz16_1⟩:=zc2 BK248.out
    go_wp2
    refine bodyPost_ret (results_cell_row rfl _ _ gb248 52 #[.int .i64 x250000_1, .int .i64 x250001_1] (0,0) _ rfl (by(with_reducible repeat(first|apply zNn|apply zNd|apply zNa));exact blk_put (blk_put (BK248.out) 0 _ rfl) 1 _ rfl) Try.underlying52 rfl ze) rfl ?_
    exact⟨zq,zb13⟩
   have c8b0:=zE c8
   clear c8
   replace H:=zID H
   obtain⟨c9b0,H⟩:=H
   replace H:=zID H
   obtain⟨c10b0,H⟩:=H
   have H':=zM H
   clear H
   try go_wp2
   refine zS3 (zNd BK248.out) (zNd BK249.out) (zBd HB.out) ?_
   clear BK248 BK249 HB
   intro BK248 BK249 HB
   have p250:0≤(x8_1:Int):=zT (by assumption)
   have q250:x8_1<(l0.length:Int):=zT (by assumption)
   obtain⟨ad250,e250,hx250_0,hx250_1⟩:=at_T52 HR0.out x8_1 p250 q250
   have hw250_1:=hx250_1
   have hw250_0:=hx250_0
   cases e250
   replace hx250_0:=(HB.out.cell (zW w _ hx250_0)).trans hx250_0
   replace hx250_1:=(HB.out.cell (zW w _ hx250_1)).trans hx250_1
   replace p250:=eq_true p250
   replace q250:=eq_true q250
   have p251:0≤(x8_1:Int):=zT (by assumption)
   have q251:x8_1<(l0.length:Int):=zT (by assumption)
   obtain⟨ad251,e251,hx251_0,hx251_1⟩:=at_T52 HR0.out x8_1 p251 q251
   have hw251_1:=hx251_1
   have hw251_0:=hx251_0
   obtain rfl:ad250=ad251:=(by injection e251)
   replace hx251_0:=(HB.out.cell (zW w _ hx251_0)).trans hx251_0
   replace hx251_1:=(HB.out.cell (zW w _ hx251_1)).trans hx251_1
   replace p251:=eq_true p251
   replace q251:=eq_true q251
   refine start_ (n:=18) (S:=fun w'=>w'.cell? ⟨gb249,0,none⟩=some (.int .i64 x250000_1)∧w'.cell? ⟨gb249,1,none⟩=some (.int .i64 x250001_1)∧w'.cell? (ad250.add ((x8_1).toNat*2))=some (.int .i64 ((rd_T52 l0 x8_1).f0))∧w'.cell? ⟨(ad250.add ((x8_1).toNat*2)).block,(ad250.add ((x8_1).toNat*2)).off+1,none⟩=some (.int .i64 ((rd_T52 l0 x8_1).f1))∧w'.cell? (ad250.add ((x8_1).toNat*2))=some (.int .i64 ((rd_T52 l0 x8_1).f0))∧w'.cell? ⟨(ad250.add ((x8_1).toNat*2)).block,(ad250.add ((x8_1).toNat*2)).off+1,none⟩=some (.int .i64 ((rd_T52 l0 x8_1).f1))) (ds:=[17]) #[zf,zf,zf,zf,zf,zf,zf,zf,zf,zf,zf,zf,zf,zf,zf,zf,zf,zf] ze rfl rfl ⟨(blk_cell BK249.out 0).trans rfl,(blk_cell BK249.out 1).trans rfl,((HB.out.cell (zW w _ hw250_0)).trans hw250_0),((HB.out.cell (zW w _ hw250_1)).trans hw250_1),((HB.out.cell (zW w _ hw251_0)).trans hw251_0),((HB.out.cell (zW w _ hw251_1)).trans hw251_1)⟩ (fun hHeld=> ?_);refine with_tabW spec_l18Sum.tab5 spec_l18Sum.bits5 (fun HT_ HW_=> ?_)
   generalize wr.drew=w11 at BK248 BK249 HB hx250_0 hx250_1 hx251_0 hx251_1 hHeld ⊢
   refine zu 0 18 ?_
   refine zu 2 20 ?_
   refine zu 3 21 ?_
   refine zu 4 22 ?_
   refine zu 5 23 ?_
   refine zu 8 26 ?_
   refine zu 10 28 ?_
   refine zu 11 29 ?_
   refine zu 12 30 ?_
   refine zu 13 31 ?_
   refine zt6 1 19 ?_
   refine zt6 6 24 ?_
   refine zu 7 25 ?_
   refine zt6 9 27 ?_
   refine zt6 14 32 ?_
   refine zu 15 33 ?_
   refine zu 16 34 ?_
   refine last_ (i:=17) (N:=none) #[zt,zt,zt,zt,zt,zt,zt,zt,zt,zt,zt,zt,zt,zt,zt,zt,zt,zt] rfl rfl (one_of HT_.out ze) (by decide) (fun K hK=> ?_)
   have hs12:w11.cell? ⟨gb249,0,none⟩=some (.int .i64 x250000_1):=(blk_cell BK249.out 0).trans rfl
   have hfs12:=blk_frozen BK249.out 0
   have hns12_0:=NB248_249.out
   have hms12_0:=NB249_248.out
   have hs13:w11.cell? ⟨gb249,1,none⟩=some (.int .i64 x250001_1):=(blk_cell BK249.out 1).trans rfl
   have hfs13:=blk_frozen BK249.out 1
   have hns13_0:=NB248_249.out
   have hms13_0:=NB249_248.out
   refine skip_ (w1:= ?_) (by rfl) rfl ?_ ?_
   rotate_left
   ·go_simp
    rfl
   refine hK.out _ _ ?_
   clear hK K
   refine done_ (done_of HT_.out ze) ?_
   try go_wp2
   go_roundg k1
   case measure=>have:=HK1.out;omega
   case rel=>exact⟨(wrap64 (x8_1+1)),(wrap64 (x250000_1+((rd_T52 l0 x8_1).f0))),(wrap64 (x250001_1+((rd_T52 l0 x8_1).f1))),zs,H',⟨zl1 HK1⟩,⟨by(with_reducible repeat(first|apply zNn|apply zNd|apply zNa));refine zNf ?_ NB248_249.out _;(with_reducible repeat(first|apply zNn|apply zNd|apply zNa));refine zNf ?_ NB248_249.out _;(with_reducible repeat(first|apply zNn|apply zNd|apply zNa));exact BK248.out⟩,⟨by(with_reducible repeat(first|apply zNn|apply zNd|apply zNa));refine blk_put (cs:= #[.int .i64 (wrap64 (x250000_1+((rd_T52 l0 x8_1).f0))), .int .i64 x250001_1]) ?_ 1 _ rfl;(with_reducible repeat(first|apply zNn|apply zNd|apply zNa));refine blk_put (cs:= #[.int .i64 x250000_1, .int .i64 x250001_1]) ?_ 0 _ rfl;(with_reducible repeat(first|apply zNn|apply zNd|apply zNa));exact BK249.out⟩,⟨zb13⟩⟩
def spec_l18Quarter.l0:Nat→Int→Int→Int→Option (Int×Int)
 |0,_,_,_=>none
 |k+1,x1,x253000,x253001=>if x1>0 then(spec_l18Quarter.l0 k (wrap64 (x1-1)) (wrap64 (-x253001)) x253000) else(some (x253000,x253001))
def spec_l18Quarter.f (k:Nat) (a0_0:Int) (a0_1:Int) (a1:Int):Option (Int×Int):=spec_l18Quarter.l0 k a1 a0_0 a0_1
theorem spec_l18Quarter.calls (k:Nat) (a0_0:Int) (a0_1:Int) (a1:Int) (r1:Int) (r2:Int) (w:World) (H:spec_l18Quarter.f k a0_0 a0_1 a1=some (r1,r2)):
 Calls Try.prog 67 #[.agg #[.int .i64 a0_0, .int .i64 a0_1], .int .i64 a1] w fun e w'=>e= .returned (.agg #[.int .i64 r1, .int .i64 r2])∧Below w.heap.size w w':=by
 have hu52:=Try.underlying52
 have HB:=zM (Below.refl w.heap.size w)
 unfold spec_l18Quarter.f at H
 have H':=zM H
 clear H
 go_enter Try.func67,Try.ntmps67
 go_wp2_with (first|((with_reducible refine gate_dst (N:=2) rfl ?_);refine box_event ?hg (N:=2) ?hd (cs:= #[.int .i64 a0_0, .int .i64 a0_1]) (t:=52) ?hr ?_;(case hd|hg=>rfl);(case hr=>exact zh);intro gb252 hg w3 hbox hb;have n0_:=zM (below_step zb hb);have n1_:=zM (hbox);have n2_:=zM ((zw hg (below_size zb)));have n3_:=zM n2_.out;clear HB;have HB:=n0_;have BK252:=n1_;have GW252:=n2_;have GE252:=n3_;clear n0_ n1_ n2_ n3_;clear hb hbox hg)|((with_reducible refine gate_dst (N:=4) rfl ?_);refine box_event ?hg (N:=4) ?hd (cs:= #[.int .i64 0, .int .i64 0]) (t:=52) ?hr ?_;(case hd|hg=>rfl);(case hr=>exact zh);intro gb253 hg w4 hbox hb;have n0_:=zM (zNb (g:=gb252) (o:= .cells #[.int .i64 a0_0, .int .i64 a0_1] 52 (0,0)) (zn BK252) hb);have n1_:=zM (below_step zb14 hb);have n2_:=zM (hbox);have n3_:=zM ((zw hg (below_size zb14)));have n4_:=zM n3_.out;have n5_:=zM ((by rw[hg];exact Nat.ne_of_lt (by simpa using blk_lt BK252.out):gb252≠gb253));have n6_:=zM ((by rw[hg];exact Nat.ne_of_gt (by simpa using blk_lt BK252.out):gb253≠gb252));clear BK252;clear HB;have BK252:=n0_;have HB:=n1_;have BK253:=n2_;have GW253:=n3_;have GE253:=n4_;have NB252_253:=n5_;have NB253_252:=n6_;clear n0_ n1_ n2_ n3_ n4_ n5_ n6_;clear hb hbox hg))
 (try simp only[Act.put,zL1,zL2,zL3])
 go_loopg [1] k (fun kq v1 w'=>∃(x1_1:Int) (x253000_1:Int) (x253001_1:Int),v1= .int .i64 x1_1∧Aside0 (spec_l18Quarter.l0 kq x1_1 x253000_1 x253001_1=some (r1,r2))∧Aside0 (kq≤k)∧Aside0 (w'.heap[gb252]? =some (.cells #[.int .i64 x253000_1, .int .i64 x253001_1] 52 (0,0)))∧Aside0 (w'.heap[gb253]? =some (.cells #[.int .i64 0, .int .i64 0] 52 (0,0)))∧Aside0 (Below w.heap.size w w'))
 case atStart=>exact⟨(a1),(a0_0),(a0_1),zs,H',⟨Nat.le_refl _⟩,⟨zn BK252⟩,⟨zn BK253⟩,⟨zb15⟩⟩
 case round=>
  clear H'
  try clear p2
  obtain⟨x1_1,x253000_1,x253001_1,rfl,HA,HK1,BK252,BK253,HB⟩:=hrel
  cases gk with
  |zero=>exact absurd HA.out (by simp[spec_l18Quarter.l0])
  | succ k1=>
   have H:=HA.out
   clear HA
   simp only[spec_l18Quarter.l0] at H
   replace H:=zI2 H
   rcases H with⟨c5,H⟩|⟨c5,H⟩
   case inr=>
    have c5b0:decide (0<x1_1)=false:=decide_eq_false c5
    clear c5
    simp only[Option.some.injEq,Prod.mk.injEq] at H
    obtain⟨rfl,rfl⟩:=H
    have hnb8:=NB252_253.out
    have hnc8:=NB253_252.out
    obtain⟨hcz9_0,hcz9_1,hfz9_0,hfz9_1⟩:=zc2 BK252.out
    obtain⟨hcz10_0,hcz10_1,hfz10_0,hfz10_1⟩:=zc2 BK253.out
    go_wp2
    refine bodyPost_ret (results_cell_row rfl _ _ gb253 52 #[.int .i64 x253000_1, .int .i64 x253001_1] (0,0) _ rfl (by(with_reducible repeat(first|apply zNn|apply zNd|apply zNa));exact blk_put (blk_put (BK253.out) 0 _ rfl) 1 _ rfl) Try.underlying52 rfl ze) rfl ?_
    exact⟨zq,zb15⟩
   have c5b0:decide (0<x1_1)=true:=zE c5
   clear c5
   have H':=zM H
   clear H
   have hnb6:=NB252_253.out
   have hnc6:=NB253_252.out
   obtain⟨hcz7_0,hcz7_1,hfz7_0,hfz7_1⟩:=zc2 BK252.out
   go_wp2
   go_roundg k1
   case measure=>have:=HK1.out;omega
   case rel=>exact⟨(wrap64 (x1_1-1)),(wrap64 (-x253001_1)),(x253000_1),zs,H',⟨zl1 HK1⟩,⟨by(with_reducible repeat(first|apply zNn|apply zNd|apply zNa));refine blk_put (cs:= #[.int .i64 (wrap64 (-x253001_1)), .int .i64 x253001_1]) ?_ 1 _ rfl;(with_reducible repeat(first|apply zNn|apply zNd|apply zNa));refine blk_put (cs:= #[.int .i64 x253000_1, .int .i64 x253001_1]) ?_ 0 _ rfl;(with_reducible repeat(first|apply zNn|apply zNd|apply zNa));exact BK252.out⟩,⟨by(with_reducible repeat(first|apply zNn|apply zNd|apply zNa));refine zNf ?_ NB253_252.out _;(with_reducible repeat(first|apply zNn|apply zNd|apply zNa));refine zNf ?_ NB253_252.out _;(with_reducible repeat(first|apply zNn|apply zNd|apply zNa));exact BK253.out⟩,⟨zb15⟩⟩
def spec_l5Floor.f (a0:Int) (a1:Int):Option (Int):=if a1=0 then(none) else(if(Int.tmod a0 a1)<0 then(some (wrap64 ((wrap64 (Int.tdiv a0 a1))-1))) else(some (wrap64 (Int.tdiv a0 a1))))
theorem spec_l5Floor.calls (a0:Int) (a1:Int) (r:Int) (w:World) (H:spec_l5Floor.f a0 a1=some r):
 Calls Try.prog 111 #[.int .i64 a0, .int .i64 a1] w fun e w'=>e= .returned (.int .i64 r)∧Drawn0 w w':=by
 unfold spec_l5Floor.f at H
 replace H:=zI2 H
 rcases H with⟨c3,H⟩|⟨c3,H⟩
 case inl=>
  exact absurd H (by simp)
 have c3b0:(a1==0)=false:=beq_eq_false_iff_ne.mpr c3
 have c3b1:(a1 != 0)=true:=bne_iff_ne.mpr c3
 replace H:=zI2 H
 rcases H with⟨c4,H⟩|⟨c4,H⟩
 case inl=>
  have c4b0:=zE c4
  clear c4
  obtain rfl:=zI H
  go_enter Try.func111,Try.ntmps111
  go_wp2
  go_ret
  exact⟨zs,zd⟩
 have c4b0:=decide_eq_false c4
 clear c4
 obtain rfl:=zI H
 go_enter Try.func111,Try.ntmps111
 go_wp2
 go_ret
 exact⟨zs,zd⟩
def spec_RoundDiv.j0:Nat→Int→Int→Bool→Option (Int)
 |0,_,_,_=>none
 |k+1,x0,x1,x14=>if x14=true then(some 0) else((spec_l5Floor.f x0 x1).bind fun t256=>(if(wrap64 (x0-(wrap64 (t256*x1))))≥(wrap64 (x1-(wrap64 (x0-(wrap64 (t256*x1)))))) then(some (wrap64 (t256+1))) else(some t256)))
def spec_RoundDiv.f (k:Nat) (a0:Int) (a1:Int):Option (Int):=(spec_l1In.f a1 1 4000000000000000000).bind fun t254=>(if t254=true then((spec_l1In.f a0 (-4000000000000000000) 4000000000000000000).bind fun t255=>(spec_RoundDiv.j0 k a0 a1 (!t255))) else(spec_RoundDiv.j0 k a0 a1 true))
theorem spec_RoundDiv.calls (k:Nat) (a0:Int) (a1:Int) (r:Int) (w:World) (H:spec_RoundDiv.f k a0 a1=some r):
 Calls Try.prog 68 #[.int .i64 a0, .int .i64 a1] w fun e w'=>e= .returned (.int .i64 r)∧Drawn0 w w':=by
 unfold spec_RoundDiv.f at H
 have HC3:=zM H
 clear H
 go_enter Try.func68,Try.ntmps68
 go_upto_region 1 with(fail)
 go_cut [14] (fun v14 wc=>∃(kq:Nat) (x14_2:Bool),v14= .bool x14_2∧Aside0 (spec_RoundDiv.j0 kq a0 a1 x14_2=some r)∧Aside0 (kq≤k)∧Drawn0 w wc)
 case first=>
  have H:=HC3.out
  clear HC3
  replace H:=zP H
  obtain⟨t254,A4,H⟩:=H
  by_cases c5:t254=true
  case neg=>
   replace c5:=Bool.eq_false_iff.mpr c5
   subst c5
   rw[if_neg zFT] at H
   have H':=zM H
   clear H
   go_wp2_with (first|((with_reducible refine gate_callee (f:=30) rfl ?_);refine goesL_ (some 8) rfl rfl Try.func30 ze rfl #[.int .i64 a1, .int .i64 1, .int .i64 4000000000000000000] rfl zg ?_;(with_reducible refine(spec_l1In.calls a1 1 4000000000000000000 false _ A4.out).mono ?_);rintro e w' ⟨rfl,⟨nd,rfl⟩⟩;refine⟨_,rfl,?_⟩))
   go_meet
   case rel=>exact⟨_,(true),zs,H',⟨zo⟩,zd⟩
  subst c5
  rw[if_pos rfl] at H
  replace H:=zP H
  obtain⟨t255,A6,H⟩:=H
  have H':=zM H
  clear H
  go_wp2_with (first|((with_reducible refine gate_callee (f:=30) rfl ?_);refine goesL_ (some 8) rfl rfl Try.func30 ze rfl #[.int .i64 a1, .int .i64 1, .int .i64 4000000000000000000] rfl zg ?_;(with_reducible refine(spec_l1In.calls a1 1 4000000000000000000 true _ A4.out).mono ?_);rintro e w' ⟨rfl,⟨nd,rfl⟩⟩;refine⟨_,rfl,?_⟩)|(go_at_call 30;(with_reducible refine(spec_l1In.calls a0 (-4000000000000000000) 4000000000000000000 t255 _ A6.out).mono ?_);rintro e w' ⟨rfl,⟨nd,rfl⟩⟩))
  go_meet
  case rel=>exact⟨_,(!t255),zs,H',⟨zo⟩,zd⟩
 case rest=>
  clear HC3
  try clear p2
  try clear c3
  try clear c5
  try clear c6
  obtain⟨kq,x14_2,rfl,HA,HJ2,⟨mc2,rfl⟩⟩:=hcut
  cases kq with
  |zero=>exact absurd HA.out (by simp[spec_RoundDiv.j0])
  | succ kj2=>
   have H:=HA.out
   clear HA
   simp only[spec_RoundDiv.j0] at H
   by_cases c7:x14_2=true
   case pos=>
    subst c7
    rw[if_pos rfl] at H
    obtain rfl:=zI H
    go_wp2
    go_ret
    exact⟨zs,zd⟩
   replace c7:=Bool.eq_false_iff.mpr c7
   subst c7
   rw[if_neg zFT] at H
   replace H:=zP H
   obtain⟨t256,A8,H⟩:=H
   replace H:=zI2 H
   rcases H with⟨c9,H⟩|⟨c9,H⟩
   case inl=>
    have c9b0:decide ((wrap64 (a1-(wrap64 (a0-(wrap64 (t256*a1))))))≤(wrap64 (a0-(wrap64 (t256*a1)))))=true:=zE c9
    clear c9
    obtain rfl:=zI H
    go_wp2_with (first|((with_reducible refine gate_callee (f:=111) rfl ?_);refine goesL_ (some 17) rfl rfl Try.func111 ze rfl #[.int .i64 a0, .int .i64 a1] rfl zg ?_;(with_reducible refine(spec_l5Floor.calls a0 a1 t256 _ A8.out).mono ?_);rintro e w' ⟨rfl,⟨nd,rfl⟩⟩;refine⟨_,rfl,?_⟩))
    go_ret
    exact⟨zs,zd⟩
   have c9b0:decide ((wrap64 (a1-(wrap64 (a0-(wrap64 (t256*a1))))))≤(wrap64 (a0-(wrap64 (t256*a1)))))=false:=decide_eq_false c9
   clear c9
   obtain rfl:=zI H
   go_wp2_with (first|((with_reducible refine gate_callee (f:=111) rfl ?_);refine goesL_ (some 17) rfl rfl Try.func111 ze rfl #[.int .i64 a0, .int .i64 a1] rfl zg ?_;(with_reducible refine(spec_l5Floor.calls a0 a1 t256 _ A8.out).mono ?_);rintro e w' ⟨rfl,⟨nd,rfl⟩⟩;refine⟨_,rfl,?_⟩))
   go_ret
   exact⟨zs,zd⟩
def spec_Gray.f (a0:Int):Option (Int):=(spec_l1In.f a0 0 4000000000000000000).bind fun t257=>(if t257=true then(some (Go.bits .xor .i64 a0 (wrap64 (Int.tdiv a0 2)))) else(some 0))
theorem spec_Gray.calls (a0:Int) (r:Int) (w:World) (H:spec_Gray.f a0=some r):
 Calls Try.prog 124 #[.int .i64 a0] w fun e w'=>e= .returned (.int .i64 r)∧Drawn0 w w':=by
 unfold spec_Gray.f at H
 replace H:=zP H
 obtain⟨t257,A2,H⟩:=H
 by_cases c3:t257=true
 case pos=>
  subst c3
  rw[if_pos rfl] at H
  obtain rfl:=zI H
  go_enter Try.func124,Try.ntmps124
  go_wp2_with (first|((with_reducible refine gate_callee (f:=30) rfl ?_);refine goesL_ (some 4) rfl rfl Try.func30 ze rfl #[.int .i64 a0, .int .i64 0, .int .i64 4000000000000000000] rfl zg ?_;(with_reducible refine(spec_l1In.calls a0 0 4000000000000000000 true _ A2.out).mono ?_);rintro e w' ⟨rfl,⟨nd,rfl⟩⟩;refine⟨_,rfl,?_⟩))
  go_ret
  exact⟨zs,zd⟩
 replace c3:=Bool.eq_false_iff.mpr c3
 subst c3
 rw[if_neg zFT] at H
 obtain rfl:=zI H
 go_enter Try.func124,Try.ntmps124
 go_wp2_with (first|((with_reducible refine gate_callee (f:=30) rfl ?_);refine goesL_ (some 4) rfl rfl Try.func30 ze rfl #[.int .i64 a0, .int .i64 0, .int .i64 4000000000000000000] rfl zg ?_;(with_reducible refine(spec_l1In.calls a0 0 4000000000000000000 false _ A2.out).mono ?_);rintro e w' ⟨rfl,⟨nd,rfl⟩⟩;refine⟨_,rfl,?_⟩))
 go_ret
 exact⟨zs,zd⟩
end Go.Proofs.Ytapobpkeefeajaa.PFnExactHear
