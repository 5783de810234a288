-- Written by a turned copy of the print (see the notes of this repo): plain functions and their walks. Lean checks it.
import Derived.Test.YtanohnlddaneeaaGreatDoorPFnQtyBackx0
import Derived.Test.YtanohnlddaneeaaGreatDoorPFnQtyBackx2
namespace Go.Proofs.YtanohnlddaneeaaGreatDoor.PFnQtyBack
open Go.RowKit Go.Proofs.YtanohnlddaneeaaGreatDoorW.PrintWords Go.Proofs.YtanohnlddaneeaaGreatDoorW.PrintLast Go.Proofs.YtanohnlddaneeaaGreatDoorW.PrintMore
attribute [local go_sem] max2_int min2_int max_two min_two max_three min_three max_four min_four   -- for this text's walks alone
set_option linter.unusedVariables false
set_option linter.unusedSimpArgs false

/-! ### spec_l20DrawQty: function 12 -/
def spec_l20DrawQty.j0:Nat→Bool→List Int→Int→Int→Int→Int→Int→Int→Option (Int×Int×Int×Int×Int×Int)
  |0,_,_,_,_,_,_,_,_=>none
  |k+1,x26,x1000,x1001,x1002,x154000,x154001,x154002,x154003=>if x26=true then((spec_l1PickInt.f x1000 x1001 x1002 (([0,7,1000000000,1000000001,999999999,10,(-3)]:List Int))).bind fun bt160=>((spec_l1PickInt.f x1000 bt160.2.1 bt160.2.2 (([0,30,31,(-30),(-31),5]:List Int))).bind fun bt166=>((spec_l1PickInt.f x1000 bt166.2.1 bt166.2.2 (([0,9,10,(-10)]:List Int))).bind fun bt172=>((spec_l1PickInt.f x1000 bt172.2.1 bt172.2.2 (([0,(-9),1]:List Int))).bind fun bt178=>(some (bt160.1,bt166.1,bt172.1,bt178.1,bt178.2.1,bt178.2.2)))))) else(some (x154000,x154001,x154002,x154003,x1001,x1002))
def spec_l20DrawQty.f (k:Nat) (s0_0:List Int) (s0_1:Int) (s0_2:Int):Option (Int×Int×Int×Int×Int×Int):=(spec_l1Below.f s0_0 s0_1 s0_2 20001).bind fun bt136=>((spec_l1Below.f s0_0 bt136.2.1 bt136.2.2 12).bind fun bt139=>((spec_l1Below.f s0_0 bt139.2.1 bt139.2.2 5).bind fun bt142=>((spec_l1Below.f s0_0 bt142.2.1 bt142.2.2 5).bind fun bt145=>((spec_l20Qty.f k (wrap64 (bt136.1-10000)) (wrap64 (bt139.1-8)) (wrap64 (bt142.1-2)) (wrap64 (bt145.1-2))).bind fun bt148=>(if bt148.2.2.2.2=true then((spec_l1Once.f s0_0 bt145.2.1 bt145.2.2 10).bind fun bt154=>(spec_l20DrawQty.j0 k bt154.1 s0_0 bt154.2.1 bt154.2.2 bt148.1 bt148.2.1 bt148.2.2.1 bt148.2.2.2.1)) else(spec_l20DrawQty.j0 k true s0_0 bt145.2.1 bt145.2.2 bt148.1 bt148.2.1 bt148.2.2.1 bt148.2.2.2.1))))))
theorem spec_l20DrawQty.mono_l:∀k,(∀y0 y1 y2 y3 y4 y5 y6 y7,LeO (spec_l20DrawQty.j0 k y0 y1 y2 y3 y4 y5 y6 y7) (spec_l20DrawQty.j0 (k+1) y0 y1 y2 y3 y4 y5 y6 y7))
  |0=>fun _ _ _ _ _ _ _ _ r h=>by simp[spec_l20DrawQty.j0] at h
  | k +1=>by
    have ih0:=spec_l20DrawQty.mono_l k
    · intro y0 y1 y2 y3 y4 y5 y6 y7
      unfold spec_l20DrawQty.j0
      repeat' first
      |(with_reducible exact ih0 _ _ _ _ _ _ _ _)
      |(with_reducible exact spec_l20Qty.mono _ _ _ _ _)
      |(with_reducible exact LeO.refl _)
      |(with_reducible exact LeO.none _)
      |(with_reducible refine LeO.ite ?_ ?_)
      |(with_reducible refine LeO.bind ?_ (fun _=> ?_))
      |exact ih0 _ _ _ _ _ _ _ _
      |exact spec_l20Qty.mono _ _ _ _ _
      |exact LeO.none _
      |refine LeO.ite ?_ ?_
      |refine LeO.bind ?_ (fun _=> ?_)
theorem spec_l20DrawQty.mono:∀a0 a1 a2 k,LeO (spec_l20DrawQty.f k a0 a1 a2) (spec_l20DrawQty.f (k+1) a0 a1 a2):=by
  intro a0 a1 a2 k
  have ih0:=spec_l20DrawQty.mono_l k
  unfold spec_l20DrawQty.f
  repeat' first
      |(with_reducible exact ih0 _ _ _ _ _ _ _ _)
      |(with_reducible exact spec_l20Qty.mono _ _ _ _ _)
      |(with_reducible exact LeO.refl _)
      |(with_reducible exact LeO.none _)
      |(with_reducible refine LeO.ite ?_ ?_)
      |(with_reducible refine LeO.bind ?_ (fun _=> ?_))
      |exact ih0 _ _ _ _ _ _ _ _
      |exact spec_l20Qty.mono _ _ _ _ _
      |exact LeO.none _
      |refine LeO.ite ?_ ?_
      |refine LeO.bind ?_ (fun _=> ?_)
set_option maxHeartbeats 8000000 in
set_option maxRecDepth 100000 in
theorem spec_l20DrawQty.calls (k:Nat) (g:Nat) (s0_0:List Int) (s0_1:Int) (s0_2:Int) (r1:Int) (r2:Int) (r3:Int) (r4:Int) (r5:Int) (r6:Int) (w0 w:World) (hI:IsS68 w0 w g s0_0 s0_1 s0_2) (hB:Below w0.heap.size w0 w) (h:spec_l20DrawQty.f k s0_0 s0_1 s0_2=some (r1,r2,r3,r4,r5,r6)):
    Calls Tryz.prog 12 #[.pointer (some ⟨g,0,none⟩)] w fun e w'=>e= .returned (.agg #[.int .i64 r1, .int .i64 r2, .int .i64 r3, .int .i64 r4])∧IsS68 w0 w' g s0_0 r5 r6∧Below w0.heap.size w0 w'∧KeepBut w w' g none:=by
  have hu25:=Tryz.underlying25
  have HI0:=Aside0.mk hI
  have HK:=Aside0.mk (KeepBut.refl w g none)
  have HL:=Aside0.mk hB.size
  clear hI
  have HW0:=Aside0.mk hB.size
  have HB:=Aside0.mk hB
  clear hB
  have H:((spec_l1Below.f s0_0 s0_1 s0_2 20001).bind fun bt136=>((spec_l1Below.f s0_0 bt136.2.1 bt136.2.2 12).bind fun bt139=>((spec_l1Below.f s0_0 bt139.2.1 bt139.2.2 5).bind fun bt142=>((spec_l1Below.f s0_0 bt142.2.1 bt142.2.2 5).bind fun bt145=>((spec_l20Qty.f k (wrap64 (bt136.1-10000)) (wrap64 (bt139.1-8)) (wrap64 (bt142.1-2)) (wrap64 (bt145.1-2))).bind fun bt148=>(if bt148.2.2.2.2=true then((spec_l1Once.f s0_0 bt145.2.1 bt145.2.2 10).bind fun bt154=>(spec_l20DrawQty.j0 k bt154.1 s0_0 bt154.2.1 bt154.2.2 bt148.1 bt148.2.1 bt148.2.2.1 bt148.2.2.2.1)) else(spec_l20DrawQty.j0 k true s0_0 bt145.2.1 bt145.2.2 bt148.1 bt148.2.1 bt148.2.2.1 bt148.2.2.2.1)))))))=some (r1,r2,r3,r4,r5,r6):=h
  clear h
  replace H:=Option.bind_eq_some_iff.mp H
  obtain⟨⟨t136,t137,t138⟩,A20,H⟩:=H
  replace H:((spec_l1Below.f s0_0 t137 t138 12).bind fun bt139=>((spec_l1Below.f s0_0 bt139.2.1 bt139.2.2 5).bind fun bt142=>((spec_l1Below.f s0_0 bt142.2.1 bt142.2.2 5).bind fun bt145=>((spec_l20Qty.f k (wrap64 (t136-10000)) (wrap64 (bt139.1-8)) (wrap64 (bt142.1-2)) (wrap64 (bt145.1-2))).bind fun bt148=>(if bt148.2.2.2.2=true then((spec_l1Once.f s0_0 bt145.2.1 bt145.2.2 10).bind fun bt154=>(spec_l20DrawQty.j0 k bt154.1 s0_0 bt154.2.1 bt154.2.2 bt148.1 bt148.2.1 bt148.2.2.1 bt148.2.2.2.1)) else(spec_l20DrawQty.j0 k true s0_0 bt145.2.1 bt145.2.2 bt148.1 bt148.2.1 bt148.2.2.1 bt148.2.2.2.1))))))=some (r1,r2,r3,r4,r5,r6):=H
  have A2:=Aside0.mk A20
  clear A20
  replace H:=Option.bind_eq_some_iff.mp H
  obtain⟨⟨t139,t140,t141⟩,A30,H⟩:=H
  replace H:((spec_l1Below.f s0_0 t140 t141 5).bind fun bt142=>((spec_l1Below.f s0_0 bt142.2.1 bt142.2.2 5).bind fun bt145=>((spec_l20Qty.f k (wrap64 (t136-10000)) (wrap64 (t139-8)) (wrap64 (bt142.1-2)) (wrap64 (bt145.1-2))).bind fun bt148=>(if bt148.2.2.2.2=true then((spec_l1Once.f s0_0 bt145.2.1 bt145.2.2 10).bind fun bt154=>(spec_l20DrawQty.j0 k bt154.1 s0_0 bt154.2.1 bt154.2.2 bt148.1 bt148.2.1 bt148.2.2.1 bt148.2.2.2.1)) else(spec_l20DrawQty.j0 k true s0_0 bt145.2.1 bt145.2.2 bt148.1 bt148.2.1 bt148.2.2.1 bt148.2.2.2.1)))))=some (r1,r2,r3,r4,r5,r6):=H
  have A3:=Aside0.mk A30
  clear A30
  replace H:=Option.bind_eq_some_iff.mp H
  obtain⟨⟨t142,t143,t144⟩,A40,H⟩:=H
  replace H:((spec_l1Below.f s0_0 t143 t144 5).bind fun bt145=>((spec_l20Qty.f k (wrap64 (t136-10000)) (wrap64 (t139-8)) (wrap64 (t142-2)) (wrap64 (bt145.1-2))).bind fun bt148=>(if bt148.2.2.2.2=true then((spec_l1Once.f s0_0 bt145.2.1 bt145.2.2 10).bind fun bt154=>(spec_l20DrawQty.j0 k bt154.1 s0_0 bt154.2.1 bt154.2.2 bt148.1 bt148.2.1 bt148.2.2.1 bt148.2.2.2.1)) else(spec_l20DrawQty.j0 k true s0_0 bt145.2.1 bt145.2.2 bt148.1 bt148.2.1 bt148.2.2.1 bt148.2.2.2.1))))=some (r1,r2,r3,r4,r5,r6):=H
  have A4:=Aside0.mk A40
  clear A40
  replace H:=Option.bind_eq_some_iff.mp H
  obtain⟨⟨t145,t146,t147⟩,A50,H⟩:=H
  replace H:((spec_l20Qty.f k (wrap64 (t136-10000)) (wrap64 (t139-8)) (wrap64 (t142-2)) (wrap64 (t145-2))).bind fun bt148=>(if bt148.2.2.2.2=true then((spec_l1Once.f s0_0 t146 t147 10).bind fun bt154=>(spec_l20DrawQty.j0 k bt154.1 s0_0 bt154.2.1 bt154.2.2 bt148.1 bt148.2.1 bt148.2.2.1 bt148.2.2.2.1)) else(spec_l20DrawQty.j0 k true s0_0 t146 t147 bt148.1 bt148.2.1 bt148.2.2.1 bt148.2.2.2.1)))=some (r1,r2,r3,r4,r5,r6):=H
  have A5:=Aside0.mk A50
  clear A50
  replace H:=Option.bind_eq_some_iff.mp H
  obtain⟨⟨t148,t149,t150,t151,t152⟩,A60,H⟩:=H
  replace H:(if t152=true then((spec_l1Once.f s0_0 t146 t147 10).bind fun bt154=>(spec_l20DrawQty.j0 k bt154.1 s0_0 bt154.2.1 bt154.2.2 t148 t149 t150 t151)) else(spec_l20DrawQty.j0 k true s0_0 t146 t147 t148 t149 t150 t151))=some (r1,r2,r3,r4,r5,r6):=H
  have A6:=Aside0.mk A60
  clear A60
  have HC7:=Aside0.mk H
  clear H
  go_enter Tryz.func12,Tryz.ntmps12
  go_upto_region 2 with(first|((with_reducible refine gate_dst (N:=2) rfl ?_);refine box_event ?hg (N:=2) ?hd (cs:= #[.int .i64 0, .int .i64 0, .int .i64 0, .int .i64 0]) (t:=25) ?hr ?_;(case hd=>rfl);(case hg=>rfl);(case hr=>first|(go_simp;done)|(go_simp;rfl));intro gb135 hg w8 hbox hb;have n0_:=Aside0.mk (IsS68.below (by repeat(first|(with_reducible first|exact HI0.out|apply IsS68.alloc|apply IsS68.drewN|apply IsS68.drew|apply IsS68.set_1|apply IsS68.set_2)|exact HI0.out)) hb);have n1_:=Aside0.mk (KeepBut.trans (by repeat(first|(with_reducible first|exact HK.out|apply KeepBut.set_|apply keep_drewN|apply keep_drew|apply keep_alloc)|exact HK.out)) (KeepBut.of_below hb g none) (.inl rfl));have n2_:=Aside0.mk (below_step (by repeat(first|(with_reducible first|exact HB.out|apply below_alloc|apply pw_below_drewN|apply below_drew1|refine below_set ?_ (IsS68.ge HI0.out))|exact HB.out)) hb);have n3_:=Aside0.mk (hbox);have n4_:=Aside0.mk ((by rw[hg];exact(keep_size (w:=w) (g:=g) (row:=none) (by repeat(first|(with_reducible first|exact HK.out|apply KeepBut.set_|apply keep_drewN|apply keep_drew|apply keep_alloc)|exact HK.out))):w.heap.size≤gb135));have n5_:=Aside0.mk ((Nat.le_trans HW0.out (by rw[hg];exact(keep_size (w:=w) (g:=g) (row:=none) (by repeat(first|(with_reducible first|exact HK.out|apply KeepBut.set_|apply keep_drewN|apply keep_drew|apply keep_alloc)|exact HK.out))):w.heap.size≤gb135):w0.heap.size≤gb135));have n6_:=Aside0.mk ((by rw[hg];exact Nat.ne_of_lt (IsS68.lt (show IsS68 w0 _ g s0_0 s0_1 s0_2 from by repeat(first|(with_reducible first|exact HI0.out|apply IsS68.alloc|apply IsS68.drewN|apply IsS68.drew|apply IsS68.set_1|apply IsS68.set_2)|exact HI0.out))):g≠gb135));have n7_:=Aside0.mk ((by rw[hg];exact Nat.ne_of_gt (IsS68.lt (show IsS68 w0 _ g s0_0 s0_1 s0_2 from by repeat(first|(with_reducible first|exact HI0.out|apply IsS68.alloc|apply IsS68.drewN|apply IsS68.drew|apply IsS68.set_1|apply IsS68.set_2)|exact HI0.out))):gb135≠g));clear HI0;clear HK;clear HB;have HI0:=n0_;have HK:=n1_;have HB:=n2_;have BK135:=n3_;have GW135:=n4_;have GE135:=n5_;have NB0_135:=n6_;have NB135_0:=n7_;clear n0_ n1_ n2_ n3_ n4_ n5_ n6_ n7_;clear hb hbox hg)|((with_reducible refine gate_callee (f:=29) rfl ?_);refine goesL_ (some 7) rfl rfl Tryz.func29 (by kernel_rfl) rfl #[.pointer (some ⟨g,0,none⟩), .int .i64 20001] rfl (by(try simp only[List.map_toArray,List.map_cons,List.map_nil]);first|done|rfl|(simp only[List.length_drop,List.length_take];rfl)) ?_;(with_reducible refine(spec_l1Below.calls g s0_0 s0_1 s0_2 20001 t136 t137 t138 w0 _ ?side1 ?side2 A2.out).mono ?_);(case side1=>repeat(first|(with_reducible first|exact HI0.out|apply IsS68.alloc|apply IsS68.drewN|apply IsS68.drew|apply IsS68.set_1|apply IsS68.set_2|refine IsS68.far ?_ NB0_135.out _)|exact HI0.out));(case side2=>repeat(first|(with_reducible first|exact HB.out|apply below_alloc|apply pw_below_drewN|apply below_drew1|refine below_set ?_ (IsS68.ge HI0.out)|refine below_set ?_ GE135.out)|exact HB.out));rintro e w9 ⟨rfl,hi,hb,hk⟩;refine⟨_,rfl,?_⟩;have n0_:=Aside0.mk (KeepBut.blk hk (g':=gb135) (o:= .cells #[.int .i64 0, .int .i64 0, .int .i64 0, .int .i64 0] 25 (0,0)) (by(with_reducible repeat(first|refine blk_drewN ?_ _|refine blk_drew ?_|refine blk_alloc ?_ _));exact BK135.out) NB135_0.out (by simp));have n1_:=Aside0.mk (KeepBut.trans (by repeat(first|(with_reducible first|exact HK.out|apply KeepBut.set_|apply keep_drewN|apply keep_drew|apply keep_alloc|refine keep_far ?_ GW135.out _)|exact HK.out)) hk (.inl rfl));have n2_:=Aside0.mk (hb);have n3_:=Aside0.mk (hi);clear BK135;clear HK;clear HB;clear HI0;have BK135:=n0_;have HK:=n1_;have HB:=n2_;have HI0:=n3_;clear n0_ n1_ n2_ n3_;(try clear hb);(try clear hb2);(try clear hk);(try clear hi))|((with_reducible refine gate_callee (f:=29) rfl ?_);refine goesL_ (some 10) rfl rfl Tryz.func29 (by kernel_rfl) rfl #[.pointer (some ⟨g,0,none⟩), .int .i64 12] rfl (by(try simp only[List.map_toArray,List.map_cons,List.map_nil]);first|done|rfl|(simp only[List.length_drop,List.length_take];rfl)) ?_;(with_reducible refine(spec_l1Below.calls g s0_0 t137 t138 12 t139 t140 t141 w0 _ ?side1 ?side2 A3.out).mono ?_);(case side1=>repeat(first|(with_reducible first|exact HI0.out|apply IsS68.alloc|apply IsS68.drewN|apply IsS68.drew|apply IsS68.set_1|apply IsS68.set_2|refine IsS68.far ?_ NB0_135.out _)|exact HI0.out));(case side2=>repeat(first|(with_reducible first|exact HB.out|apply below_alloc|apply pw_below_drewN|apply below_drew1|refine below_set ?_ (IsS68.ge HI0.out)|refine below_set ?_ GE135.out)|exact HB.out));rintro e w10 ⟨rfl,hi,hb,hk⟩;refine⟨_,rfl,?_⟩;have n0_:=Aside0.mk (KeepBut.blk hk (g':=gb135) (o:= .cells #[.int .i64 0, .int .i64 0, .int .i64 0, .int .i64 0] 25 (0,0)) (by(with_reducible repeat(first|refine blk_drewN ?_ _|refine blk_drew ?_|refine blk_alloc ?_ _));exact BK135.out) NB135_0.out (by simp));have n1_:=Aside0.mk (KeepBut.trans (by repeat(first|(with_reducible first|exact HK.out|apply KeepBut.set_|apply keep_drewN|apply keep_drew|apply keep_alloc|refine keep_far ?_ GW135.out _)|exact HK.out)) hk (.inl rfl));have n2_:=Aside0.mk (hb);have n3_:=Aside0.mk (hi);clear BK135;clear HK;clear HB;clear HI0;have BK135:=n0_;have HK:=n1_;have HB:=n2_;have HI0:=n3_;clear n0_ n1_ n2_ n3_;(try clear hb);(try clear hb2);(try clear hk);(try clear hi))|((with_reducible refine gate_callee (f:=29) rfl ?_);refine goesL_ (some 13) rfl rfl Tryz.func29 (by kernel_rfl) rfl #[.pointer (some ⟨g,0,none⟩), .int .i64 5] rfl (by(try simp only[List.map_toArray,List.map_cons,List.map_nil]);first|done|rfl|(simp only[List.length_drop,List.length_take];rfl)) ?_;(with_reducible refine(spec_l1Below.calls g s0_0 t140 t141 5 t142 t143 t144 w0 _ ?side1 ?side2 A4.out).mono ?_);(case side1=>repeat(first|(with_reducible first|exact HI0.out|apply IsS68.alloc|apply IsS68.drewN|apply IsS68.drew|apply IsS68.set_1|apply IsS68.set_2|refine IsS68.far ?_ NB0_135.out _)|exact HI0.out));(case side2=>repeat(first|(with_reducible first|exact HB.out|apply below_alloc|apply pw_below_drewN|apply below_drew1|refine below_set ?_ (IsS68.ge HI0.out)|refine below_set ?_ GE135.out)|exact HB.out));rintro e w11 ⟨rfl,hi,hb,hk⟩;refine⟨_,rfl,?_⟩;have n0_:=Aside0.mk (KeepBut.blk hk (g':=gb135) (o:= .cells #[.int .i64 0, .int .i64 0, .int .i64 0, .int .i64 0] 25 (0,0)) (by(with_reducible repeat(first|refine blk_drewN ?_ _|refine blk_drew ?_|refine blk_alloc ?_ _));exact BK135.out) NB135_0.out (by simp));have n1_:=Aside0.mk (KeepBut.trans (by repeat(first|(with_reducible first|exact HK.out|apply KeepBut.set_|apply keep_drewN|apply keep_drew|apply keep_alloc|refine keep_far ?_ GW135.out _)|exact HK.out)) hk (.inl rfl));have n2_:=Aside0.mk (hb);have n3_:=Aside0.mk (hi);clear BK135;clear HK;clear HB;clear HI0;have BK135:=n0_;have HK:=n1_;have HB:=n2_;have HI0:=n3_;clear n0_ n1_ n2_ n3_;(try clear hb);(try clear hb2);(try clear hk);(try clear hi))|((with_reducible refine gate_callee (f:=29) rfl ?_);refine goesL_ (some 16) rfl rfl Tryz.func29 (by kernel_rfl) rfl #[.pointer (some ⟨g,0,none⟩), .int .i64 5] rfl (by(try simp only[List.map_toArray,List.map_cons,List.map_nil]);first|done|rfl|(simp only[List.length_drop,List.length_take];rfl)) ?_;(with_reducible refine(spec_l1Below.calls g s0_0 t143 t144 5 t145 t146 t147 w0 _ ?side1 ?side2 A5.out).mono ?_);(case side1=>repeat(first|(with_reducible first|exact HI0.out|apply IsS68.alloc|apply IsS68.drewN|apply IsS68.drew|apply IsS68.set_1|apply IsS68.set_2|refine IsS68.far ?_ NB0_135.out _)|exact HI0.out));(case side2=>repeat(first|(with_reducible first|exact HB.out|apply below_alloc|apply pw_below_drewN|apply below_drew1|refine below_set ?_ (IsS68.ge HI0.out)|refine below_set ?_ GE135.out)|exact HB.out));rintro e w12 ⟨rfl,hi,hb,hk⟩;refine⟨_,rfl,?_⟩;have n0_:=Aside0.mk (KeepBut.blk hk (g':=gb135) (o:= .cells #[.int .i64 0, .int .i64 0, .int .i64 0, .int .i64 0] 25 (0,0)) (by(with_reducible repeat(first|refine blk_drewN ?_ _|refine blk_drew ?_|refine blk_alloc ?_ _));exact BK135.out) NB135_0.out (by simp));have n1_:=Aside0.mk (KeepBut.trans (by repeat(first|(with_reducible first|exact HK.out|apply KeepBut.set_|apply keep_drewN|apply keep_drew|apply keep_alloc|refine keep_far ?_ GW135.out _)|exact HK.out)) hk (.inl rfl));have n2_:=Aside0.mk (hb);have n3_:=Aside0.mk (hi);clear BK135;clear HK;clear HB;clear HI0;have BK135:=n0_;have HK:=n1_;have HB:=n2_;have HI0:=n3_;clear n0_ n1_ n2_ n3_;(try clear hb);(try clear hb2);(try clear hk);(try clear hi))|((with_reducible refine gate_callee (f:=32) rfl ?_);refine goesL_ (some 18) rfl rfl Tryz.func32 (by kernel_rfl) rfl #[.int .i64 (wrap64 (t136-10000)), .int .i64 (wrap64 (t139-8)), .int .i64 (wrap64 (t142-2)), .int .i64 (wrap64 (t145-2))] rfl (by(try simp only[List.map_toArray,List.map_cons,List.map_nil]);first|done|rfl|(simp only[List.length_drop,List.length_take];rfl)) ?_;(with_reducible refine(spec_l20Qty.calls k (wrap64 (t136-10000)) (wrap64 (t139-8)) (wrap64 (t142-2)) (wrap64 (t145-2)) t148 t149 t150 t151 t152 _ A6.out).mono ?_);rintro e w13 ⟨rfl,hb⟩;refine⟨_,rfl,?_⟩;have n0_:=Aside0.mk (IsS68.below (by repeat(first|(with_reducible first|exact HI0.out|apply IsS68.alloc|apply IsS68.drewN|apply IsS68.drew|apply IsS68.set_1|apply IsS68.set_2|refine IsS68.far ?_ NB0_135.out _)|exact HI0.out)) hb);have n1_:=Aside0.mk (blk_below (g:=gb135) (o:= .cells #[.int .i64 0, .int .i64 0, .int .i64 0, .int .i64 0] 25 (0,0)) (by(with_reducible repeat(first|refine blk_drewN ?_ _|refine blk_drew ?_|refine blk_alloc ?_ _));exact BK135.out) hb);have n2_:=Aside0.mk (KeepBut.trans (by repeat(first|(with_reducible first|exact HK.out|apply KeepBut.set_|apply keep_drewN|apply keep_drew|apply keep_alloc|refine keep_far ?_ GW135.out _)|exact HK.out)) (KeepBut.of_below hb g none) (.inl rfl));have n3_:=Aside0.mk (below_step (by repeat(first|(with_reducible first|exact HB.out|apply below_alloc|apply pw_below_drewN|apply below_drew1|refine below_set ?_ (IsS68.ge HI0.out)|refine below_set ?_ GE135.out)|exact HB.out)) hb);clear HI0;clear BK135;clear HK;clear HB;have HI0:=n0_;have BK135:=n1_;have HK:=n2_;have HB:=n3_;clear n0_ n1_ n2_ n3_;(try clear hb);(try clear hb2);(try clear hk);(try clear hi))|((with_reducible refine gate_dst (N:=3) rfl ?_);refine box_event ?hg (N:=3) ?hd (cs:= #[.int .i64 0, .int .i64 0, .int .i64 0, .int .i64 0]) (t:=25) ?hr ?_;(case hd=>rfl);(case hg=>rfl);(case hr=>first|(go_simp;done)|(go_simp;rfl));intro gb153 hg w14 hbox hb;have n0_:=Aside0.mk (IsS68.below (by repeat(first|(with_reducible first|exact HI0.out|apply IsS68.alloc|apply IsS68.drewN|apply IsS68.drew|apply IsS68.set_1|apply IsS68.set_2|refine IsS68.far ?_ NB0_135.out _)|exact HI0.out)) hb);have n1_:=Aside0.mk (blk_below (g:=gb135) (o:= .cells #[.int .i64 0, .int .i64 0, .int .i64 0, .int .i64 0] 25 (0,0)) (by(with_reducible repeat(first|refine blk_drewN ?_ _|refine blk_drew ?_|refine blk_alloc ?_ _));exact BK135.out) hb);have n2_:=Aside0.mk (KeepBut.trans (by repeat(first|(with_reducible first|exact HK.out|apply KeepBut.set_|apply keep_drewN|apply keep_drew|apply keep_alloc|refine keep_far ?_ GW135.out _)|exact HK.out)) (KeepBut.of_below hb g none) (.inl rfl));have n3_:=Aside0.mk (below_step (by repeat(first|(with_reducible first|exact HB.out|apply below_alloc|apply pw_below_drewN|apply below_drew1|refine below_set ?_ (IsS68.ge HI0.out)|refine below_set ?_ GE135.out)|exact HB.out)) hb);have n4_:=Aside0.mk (hbox);have n5_:=Aside0.mk ((by rw[hg];exact(keep_size (w:=w) (g:=g) (row:=none) (by repeat(first|(with_reducible first|exact HK.out|apply KeepBut.set_|apply keep_drewN|apply keep_drew|apply keep_alloc|refine keep_far ?_ GW135.out _)|exact HK.out))):w.heap.size≤gb153));have n6_:=Aside0.mk ((Nat.le_trans HW0.out (by rw[hg];exact(keep_size (w:=w) (g:=g) (row:=none) (by repeat(first|(with_reducible first|exact HK.out|apply KeepBut.set_|apply keep_drewN|apply keep_drew|apply keep_alloc|refine keep_far ?_ GW135.out _)|exact HK.out))):w.heap.size≤gb153):w0.heap.size≤gb153));have n7_:=Aside0.mk ((by rw[hg];exact Nat.ne_of_lt (blk_lt (g:=gb135) (o:= .cells #[.int .i64 0, .int .i64 0, .int .i64 0, .int .i64 0] 25 (0,0)) (by(with_reducible repeat(first|refine blk_drewN ?_ _|refine blk_drew ?_|refine blk_alloc ?_ _));exact BK135.out)):gb135≠gb153));have n8_:=Aside0.mk ((by rw[hg];exact Nat.ne_of_gt (blk_lt (g:=gb135) (o:= .cells #[.int .i64 0, .int .i64 0, .int .i64 0, .int .i64 0] 25 (0,0)) (by(with_reducible repeat(first|refine blk_drewN ?_ _|refine blk_drew ?_|refine blk_alloc ?_ _));exact BK135.out)):gb153≠gb135));have n9_:=Aside0.mk ((by rw[hg];exact Nat.ne_of_lt (IsS68.lt (show IsS68 w0 _ g s0_0 t146 t147 from by repeat(first|(with_reducible first|exact HI0.out|apply IsS68.alloc|apply IsS68.drewN|apply IsS68.drew|apply IsS68.set_1|apply IsS68.set_2|refine IsS68.far ?_ NB0_135.out _)|exact HI0.out))):g≠gb153));have n10_:=Aside0.mk ((by rw[hg];exact Nat.ne_of_gt (IsS68.lt (show IsS68 w0 _ g s0_0 t146 t147 from by repeat(first|(with_reducible first|exact HI0.out|apply IsS68.alloc|apply IsS68.drewN|apply IsS68.drew|apply IsS68.set_1|apply IsS68.set_2|refine IsS68.far ?_ NB0_135.out _)|exact HI0.out))):gb153≠g));clear HI0;clear BK135;clear HK;clear HB;have HI0:=n0_;have BK135:=n1_;have HK:=n2_;have HB:=n3_;have BK153:=n4_;have GW153:=n5_;have GE153:=n6_;have NB135_153:=n7_;have NB153_135:=n8_;have NB0_153:=n9_;have NB153_0:=n10_;clear n0_ n1_ n2_ n3_ n4_ n5_ n6_ n7_ n8_ n9_ n10_;clear hb hbox hg;have hnb15:=NB153_135.out;have hnc15:=NB135_153.out;have hnb16:=NB153_0.out;have hnc16:=NB0_153.out;have hcz17_0:w14.cell? ⟨gb153,0,none⟩=some (.int .i64 0):=(blk_cell BK153.out 0).trans rfl;have hcz17_1:w14.cell? ⟨gb153,1,none⟩=some (.int .i64 0):=(blk_cell BK153.out 1).trans rfl;have hcz17_2:w14.cell? ⟨gb153,2,none⟩=some (.int .i64 0):=(blk_cell BK153.out 2).trans rfl;have hcz17_3:w14.cell? ⟨gb153,3,none⟩=some (.int .i64 0):=(blk_cell BK153.out 3).trans rfl;have hfz17_0:=blk_frozen BK153.out 0;have hfz17_1:=blk_frozen BK153.out 1;have hfz17_2:=blk_frozen BK153.out 2;have hfz17_3:=blk_frozen BK153.out 3))
  (try simp only[Act.put,List.setIfInBounds_toArray,List.set_cons_zero,List.set_cons_succ])
  go_cut [26] (fun v26 wc=>∃(kq:Nat) (x26_6:Bool) (x1001_6:Int) (x1002_6:Int),v26= .bool x26_6∧Aside0 (spec_l20DrawQty.j0 kq x26_6 s0_0 x1001_6 x1002_6 t148 t149 t150 t151=some (r1,r2,r3,r4,r5,r6))∧Aside0 (kq≤k)∧Aside0 (wc.heap[gb135]? =some (.cells #[.int .i64 0, .int .i64 0, .int .i64 0, .int .i64 0] 25 (0,0)))∧Aside0 (wc.heap[gb153]? =some (.cells #[.int .i64 t148, .int .i64 t149, .int .i64 t150, .int .i64 t151] 25 (0,0)))∧Aside0 (IsS68 w0 wc g s0_0 x1001_6 x1002_6)∧Aside0 (KeepBut w wc g none)∧Aside0 (Below w0.heap.size w0 wc))
  case first=>
    have H:=HC7.out
    clear HC7
    by_cases c18:t152=true
    · subst c18
      have H1:((spec_l1Once.f s0_0 t146 t147 10).bind fun bt154=>(spec_l20DrawQty.j0 k bt154.1 s0_0 bt154.2.1 bt154.2.2 t148 t149 t150 t151))=some (r1,r2,r3,r4,r5,r6):=by rw[if_pos rfl] at H;exact H
      clear H
      have H:=H1
      clear H1
      replace H:=Option.bind_eq_some_iff.mp H
      obtain⟨⟨t154,t155,t156⟩,A190,H⟩:=H
      replace H:(spec_l20DrawQty.j0 k t154 s0_0 t155 t156 t148 t149 t150 t151)=some (r1,r2,r3,r4,r5,r6):=H
      have A19:=Aside0.mk A190
      clear A190
      have H':=Aside0.mk H
      clear H
      go_wp2_with (first|(go_at_call 38;(with_reducible refine(spec_l1Once.calls g s0_0 t146 t147 10 t154 t155 t156 w0 _ ?side1 ?side2 A19.out).mono ?_);(case side1=>repeat(first|(with_reducible first|exact HI0.out|apply IsS68.alloc|apply IsS68.drewN|apply IsS68.drew|apply IsS68.set_1|apply IsS68.set_2|refine IsS68.far ?_ NB0_135.out _|refine IsS68.far ?_ NB0_153.out _)|exact HI0.out));(case side2=>repeat(first|(with_reducible first|exact HB.out|apply below_alloc|apply pw_below_drewN|apply below_drew1|refine below_set ?_ (IsS68.ge HI0.out)|refine below_set ?_ GE135.out|refine below_set ?_ GE153.out)|exact HB.out));rintro e w20 ⟨rfl,hi,hb,hk⟩;have n0_:=Aside0.mk (KeepBut.blk hk (g':=gb135) (o:= .cells #[.int .i64 0, .int .i64 0, .int .i64 0, .int .i64 0] 25 (0,0)) (by(with_reducible repeat(first|refine blk_drewN ?_ _|refine blk_drew ?_|refine blk_alloc ?_ _));refine blk_far ?_ NB135_153.out _;(with_reducible repeat(first|refine blk_drewN ?_ _|refine blk_drew ?_|refine blk_alloc ?_ _));refine blk_far ?_ NB135_153.out _;(with_reducible repeat(first|refine blk_drewN ?_ _|refine blk_drew ?_|refine blk_alloc ?_ _));refine blk_far ?_ NB135_153.out _;(with_reducible repeat(first|refine blk_drewN ?_ _|refine blk_drew ?_|refine blk_alloc ?_ _));refine blk_far ?_ NB135_153.out _;(with_reducible repeat(first|refine blk_drewN ?_ _|refine blk_drew ?_|refine blk_alloc ?_ _));exact BK135.out) NB135_0.out (by simp));have n1_:=Aside0.mk (KeepBut.blk hk (g':=gb153) (o:= .cells #[.int .i64 t148, .int .i64 t149, .int .i64 t150, .int .i64 t151] 25 (0,0)) (by(with_reducible repeat(first|refine blk_drewN ?_ _|refine blk_drew ?_|refine blk_alloc ?_ _));refine blk_put (cs:= #[.int .i64 t148, .int .i64 t149, .int .i64 t150, .int .i64 0]) ?_ 3 _ rfl;(with_reducible repeat(first|refine blk_drewN ?_ _|refine blk_drew ?_|refine blk_alloc ?_ _));refine blk_put (cs:= #[.int .i64 t148, .int .i64 t149, .int .i64 0, .int .i64 0]) ?_ 2 _ rfl;(with_reducible repeat(first|refine blk_drewN ?_ _|refine blk_drew ?_|refine blk_alloc ?_ _));refine blk_put (cs:= #[.int .i64 t148, .int .i64 0, .int .i64 0, .int .i64 0]) ?_ 1 _ rfl;(with_reducible repeat(first|refine blk_drewN ?_ _|refine blk_drew ?_|refine blk_alloc ?_ _));refine blk_put (cs:= #[.int .i64 0, .int .i64 0, .int .i64 0, .int .i64 0]) ?_ 0 _ rfl;(with_reducible repeat(first|refine blk_drewN ?_ _|refine blk_drew ?_|refine blk_alloc ?_ _));exact BK153.out) NB153_0.out (by simp));have n2_:=Aside0.mk (KeepBut.trans (by repeat(first|(with_reducible first|exact HK.out|apply KeepBut.set_|apply keep_drewN|apply keep_drew|apply keep_alloc|refine keep_far ?_ GW135.out _|refine keep_far ?_ GW153.out _)|exact HK.out)) hk (.inl rfl));have n3_:=Aside0.mk (hb);have n4_:=Aside0.mk (hi);clear BK135;clear BK153;clear HK;clear HB;clear HI0;have BK135:=n0_;have BK153:=n1_;have HK:=n2_;have HB:=n3_;have HI0:=n4_;clear n0_ n1_ n2_ n3_ n4_;(try clear hb);(try clear hb2);(try clear hk);(try clear hi)))
      go_meet
      case rel=>exact⟨_,(t154),(t155),(t156),(by first|rfl|(simp;done)|(simp[*];done)),H',⟨by first|omega|exact Nat.le_refl _⟩,⟨by(with_reducible repeat(first|refine blk_drewN ?_ _|refine blk_drew ?_|refine blk_alloc ?_ _));exact BK135.out⟩,⟨by(with_reducible repeat(first|refine blk_drewN ?_ _|refine blk_drew ?_|refine blk_alloc ?_ _));exact BK153.out⟩,⟨by repeat(first|(with_reducible first|exact HI0.out|apply IsS68.alloc|apply IsS68.drewN|apply IsS68.drew|apply IsS68.set_1|apply IsS68.set_2|refine IsS68.far ?_ NB0_135.out _|refine IsS68.far ?_ NB0_153.out _)|exact HI0.out)⟩,⟨by repeat(first|(with_reducible first|exact HK.out|apply KeepBut.set_|apply keep_drewN|apply keep_drew|apply keep_alloc|refine keep_far ?_ GW135.out _|refine keep_far ?_ GW153.out _)|exact HK.out)⟩,⟨by repeat(first|(with_reducible first|exact HB.out|apply below_alloc|apply pw_below_drewN|apply below_drew1|refine below_set ?_ (IsS68.ge HI0.out)|refine below_set ?_ GE135.out|refine below_set ?_ GE153.out)|exact HB.out)⟩⟩
    · replace c18:=Bool.eq_false_iff.mpr c18
      subst c18
      have H1:(spec_l20DrawQty.j0 k true s0_0 t146 t147 t148 t149 t150 t151)=some (r1,r2,r3,r4,r5,r6):=by rw[if_neg (show ¬(false=true) by decide)] at H;exact H
      clear H
      have H:=H1
      clear H1
      have H':=Aside0.mk H
      clear H
      go_wp2
      go_meet
      case rel=>exact⟨_,(true),(t146),(t147),(by first|rfl|(simp;done)|(simp[*];done)),H',⟨by first|omega|exact Nat.le_refl _⟩,⟨by(with_reducible repeat(first|refine blk_drewN ?_ _|refine blk_drew ?_|refine blk_alloc ?_ _));refine blk_far ?_ NB135_153.out _;(with_reducible repeat(first|refine blk_drewN ?_ _|refine blk_drew ?_|refine blk_alloc ?_ _));refine blk_far ?_ NB135_153.out _;(with_reducible repeat(first|refine blk_drewN ?_ _|refine blk_drew ?_|refine blk_alloc ?_ _));refine blk_far ?_ NB135_153.out _;(with_reducible repeat(first|refine blk_drewN ?_ _|refine blk_drew ?_|refine blk_alloc ?_ _));refine blk_far ?_ NB135_153.out _;(with_reducible repeat(first|refine blk_drewN ?_ _|refine blk_drew ?_|refine blk_alloc ?_ _));exact BK135.out⟩,⟨by(with_reducible repeat(first|refine blk_drewN ?_ _|refine blk_drew ?_|refine blk_alloc ?_ _));refine blk_put (cs:= #[.int .i64 t148, .int .i64 t149, .int .i64 t150, .int .i64 0]) ?_ 3 _ rfl;(with_reducible repeat(first|refine blk_drewN ?_ _|refine blk_drew ?_|refine blk_alloc ?_ _));refine blk_put (cs:= #[.int .i64 t148, .int .i64 t149, .int .i64 0, .int .i64 0]) ?_ 2 _ rfl;(with_reducible repeat(first|refine blk_drewN ?_ _|refine blk_drew ?_|refine blk_alloc ?_ _));refine blk_put (cs:= #[.int .i64 t148, .int .i64 0, .int .i64 0, .int .i64 0]) ?_ 1 _ rfl;(with_reducible repeat(first|refine blk_drewN ?_ _|refine blk_drew ?_|refine blk_alloc ?_ _));refine blk_put (cs:= #[.int .i64 0, .int .i64 0, .int .i64 0, .int .i64 0]) ?_ 0 _ rfl;(with_reducible repeat(first|refine blk_drewN ?_ _|refine blk_drew ?_|refine blk_alloc ?_ _));exact BK153.out⟩,⟨by repeat(first|(with_reducible first|exact HI0.out|apply IsS68.alloc|apply IsS68.drewN|apply IsS68.drew|apply IsS68.set_1|apply IsS68.set_2|refine IsS68.far ?_ NB0_135.out _|refine IsS68.far ?_ NB0_153.out _)|exact HI0.out)⟩,⟨by repeat(first|(with_reducible first|exact HK.out|apply KeepBut.set_|apply keep_drewN|apply keep_drew|apply keep_alloc|refine keep_far ?_ GW135.out _|refine keep_far ?_ GW153.out _)|exact HK.out)⟩,⟨by repeat(first|(with_reducible first|exact HB.out|apply below_alloc|apply pw_below_drewN|apply below_drew1|refine below_set ?_ (IsS68.ge HI0.out)|refine below_set ?_ GE135.out|refine below_set ?_ GE153.out)|exact HB.out)⟩⟩
  case rest=>
    clear HC7
    try clear c1
    try clear c2
    try clear p2
    try clear c3
    try clear p6
    try clear c12
    try clear c15
    try clear c16
    try clear c18
    try clear hcz17_0
    try clear hcz17_1
    try clear hcz17_2
    try clear hcz17_3
    try clear hfz17_0
    try clear hfz17_1
    try clear hfz17_2
    try clear hfz17_3
    obtain⟨kq,x26_6,x1001_6,x1002_6,rfl,HA,HJ6,BK135,BK153,HI0,HK,HB⟩:=hcut
    cases kq with
    |zero=>exact absurd HA.out (by simp[spec_l20DrawQty.j0])
    | succ kj6=>
      have H:=HA.out
      clear HA
      simp only[spec_l20DrawQty.j0] at H
      by_cases c21:x26_6=true
      · subst c21
        have H1:((spec_l1PickInt.f s0_0 x1001_6 x1002_6 (([0,7,1000000000,1000000001,999999999,10,(-3)]:List Int))).bind fun bt160=>((spec_l1PickInt.f s0_0 bt160.2.1 bt160.2.2 (([0,30,31,(-30),(-31),5]:List Int))).bind fun bt166=>((spec_l1PickInt.f s0_0 bt166.2.1 bt166.2.2 (([0,9,10,(-10)]:List Int))).bind fun bt172=>((spec_l1PickInt.f s0_0 bt172.2.1 bt172.2.2 (([0,(-9),1]:List Int))).bind fun bt178=>(some (bt160.1,bt166.1,bt172.1,bt178.1,bt178.2.1,bt178.2.2))))))=some (r1,r2,r3,r4,r5,r6):=by rw[if_pos rfl] at H;exact H
        clear H
        have H:=H1
        clear H1
        obtain⟨y157,hy157⟩:∃y_:List Int,y_=(([0,7,1000000000,1000000001,999999999,10,(-3)]:List Int)):=⟨_,rfl⟩
        replace H:((spec_l1PickInt.f s0_0 x1001_6 x1002_6 y157).bind fun bt160=>((spec_l1PickInt.f s0_0 bt160.2.1 bt160.2.2 (([0,30,31,(-30),(-31),5]:List Int))).bind fun bt166=>((spec_l1PickInt.f s0_0 bt166.2.1 bt166.2.2 (([0,9,10,(-10)]:List Int))).bind fun bt172=>((spec_l1PickInt.f s0_0 bt172.2.1 bt172.2.2 (([0,(-9),1]:List Int))).bind fun bt178=>(some (bt160.1,bt166.1,bt172.1,bt178.1,bt178.2.1,bt178.2.2))))))=some (r1,r2,r3,r4,r5,r6):=by first|(rw[hy157];with_reducible exact H)|(have H2_:=(Option.bind_some _ _).symm.trans H;rw[hy157];with_reducible exact H2_)|(have H2_:=(Option.bind_some _ _).symm.trans H;with_reducible exact H2_)|with_reducible exact H|(rw[hy157];exact H)|exact H
        have Ny157:=Aside0.mk hy157
        clear hy157
        replace H:=Option.bind_eq_some_iff.mp H
        obtain⟨⟨t160,t161,t162⟩,A220,H⟩:=H
        replace H:((spec_l1PickInt.f s0_0 t161 t162 (([0,30,31,(-30),(-31),5]:List Int))).bind fun bt166=>((spec_l1PickInt.f s0_0 bt166.2.1 bt166.2.2 (([0,9,10,(-10)]:List Int))).bind fun bt172=>((spec_l1PickInt.f s0_0 bt172.2.1 bt172.2.2 (([0,(-9),1]:List Int))).bind fun bt178=>(some (t160,bt166.1,bt172.1,bt178.1,bt178.2.1,bt178.2.2)))))=some (r1,r2,r3,r4,r5,r6):=H
        have A22:=Aside0.mk A220
        clear A220
        obtain⟨y163,hy163⟩:∃y_:List Int,y_=(([0,30,31,(-30),(-31),5]:List Int)):=⟨_,rfl⟩
        replace H:((spec_l1PickInt.f s0_0 t161 t162 y163).bind fun bt166=>((spec_l1PickInt.f s0_0 bt166.2.1 bt166.2.2 (([0,9,10,(-10)]:List Int))).bind fun bt172=>((spec_l1PickInt.f s0_0 bt172.2.1 bt172.2.2 (([0,(-9),1]:List Int))).bind fun bt178=>(some (t160,bt166.1,bt172.1,bt178.1,bt178.2.1,bt178.2.2)))))=some (r1,r2,r3,r4,r5,r6):=by first|(rw[hy163];with_reducible exact H)|(have H2_:=(Option.bind_some _ _).symm.trans H;rw[hy163];with_reducible exact H2_)|(have H2_:=(Option.bind_some _ _).symm.trans H;with_reducible exact H2_)|with_reducible exact H|(rw[hy163];exact H)|exact H
        have Ny163:=Aside0.mk hy163
        clear hy163
        replace H:=Option.bind_eq_some_iff.mp H
        obtain⟨⟨t166,t167,t168⟩,A230,H⟩:=H
        replace H:((spec_l1PickInt.f s0_0 t167 t168 (([0,9,10,(-10)]:List Int))).bind fun bt172=>((spec_l1PickInt.f s0_0 bt172.2.1 bt172.2.2 (([0,(-9),1]:List Int))).bind fun bt178=>(some (t160,t166,bt172.1,bt178.1,bt178.2.1,bt178.2.2))))=some (r1,r2,r3,r4,r5,r6):=H
        have A23:=Aside0.mk A230
        clear A230
        obtain⟨y169,hy169⟩:∃y_:List Int,y_=(([0,9,10,(-10)]:List Int)):=⟨_,rfl⟩
        replace H:((spec_l1PickInt.f s0_0 t167 t168 y169).bind fun bt172=>((spec_l1PickInt.f s0_0 bt172.2.1 bt172.2.2 (([0,(-9),1]:List Int))).bind fun bt178=>(some (t160,t166,bt172.1,bt178.1,bt178.2.1,bt178.2.2))))=some (r1,r2,r3,r4,r5,r6):=by first|(rw[hy169];with_reducible exact H)|(have H2_:=(Option.bind_some _ _).symm.trans H;rw[hy169];with_reducible exact H2_)|(have H2_:=(Option.bind_some _ _).symm.trans H;with_reducible exact H2_)|with_reducible exact H|(rw[hy169];exact H)|exact H
        have Ny169:=Aside0.mk hy169
        clear hy169
        replace H:=Option.bind_eq_some_iff.mp H
        obtain⟨⟨t172,t173,t174⟩,A240,H⟩:=H
        replace H:((spec_l1PickInt.f s0_0 t173 t174 (([0,(-9),1]:List Int))).bind fun bt178=>(some (t160,t166,t172,bt178.1,bt178.2.1,bt178.2.2)))=some (r1,r2,r3,r4,r5,r6):=H
        have A24:=Aside0.mk A240
        clear A240
        obtain⟨y175,hy175⟩:∃y_:List Int,y_=(([0,(-9),1]:List Int)):=⟨_,rfl⟩
        replace H:((spec_l1PickInt.f s0_0 t173 t174 y175).bind fun bt178=>(some (t160,t166,t172,bt178.1,bt178.2.1,bt178.2.2)))=some (r1,r2,r3,r4,r5,r6):=by first|(rw[hy175];with_reducible exact H)|(have H2_:=(Option.bind_some _ _).symm.trans H;rw[hy175];with_reducible exact H2_)|(have H2_:=(Option.bind_some _ _).symm.trans H;with_reducible exact H2_)|with_reducible exact H|(rw[hy175];exact H)|exact H
        have Ny175:=Aside0.mk hy175
        clear hy175
        replace H:=Option.bind_eq_some_iff.mp H
        obtain⟨⟨t178,t179,t180⟩,A250,H⟩:=H
        replace H:(some (t160,t166,t172,t178,t179,t180))=some (r1,r2,r3,r4,r5,r6):=H
        have A25:=Aside0.mk A250
        clear A250
        simp only[Option.some.injEq,Prod.mk.injEq] at H
        obtain⟨rfl,rfl,rfl,rfl,rfl,rfl⟩:=H
        go_wp2_with (first|((with_reducible refine gate_dst (N:=28) rfl ?_);refine Kd.R_lit (Kd.int .i64) _ 3 ?hg (N:=28) ?hd (xs:=([0,7,1000000000,1000000001,999999999,10,(-3)]:List Int)) (inner:=[.int .i64 0, .int .i64 7, .int .i64 1000000000, .int .i64 1000000001, .int .i64 999999999, .int .i64 10, .int .i64 (-3)]) (ok:=fun _=>True) (okp:=fun _=>True) ?hr ?hp (fun _ hk=>hk) trivial (Below.refl _ _) (Nat.le_refl _) (by simp) ?_;(case hd=>rfl);(case hg=>rfl);(case hr=>first|(go_simp;done)|(go_simp;rfl));(case hp=>exact(Reps.one (show Kd.M (Kd.int .i64) _ _ _ 0 [.int .i64 0] from rfl) (Reps.one (show Kd.M (Kd.int .i64) _ _ _ 7 [.int .i64 7] from rfl) (Reps.one (show Kd.M (Kd.int .i64) _ _ _ 1000000000 [.int .i64 1000000000] from rfl) (Reps.one (show Kd.M (Kd.int .i64) _ _ _ 1000000001 [.int .i64 1000000001] from rfl) (Reps.one (show Kd.M (Kd.int .i64) _ _ _ 999999999 [.int .i64 999999999] from rfl) (Reps.one (show Kd.M (Kd.int .i64) _ _ _ 10 [.int .i64 10] from rfl) (Reps.one (show Kd.M (Kd.int .i64) _ _ _ (-3) [.int .i64 (-3)] from rfl) (Reps.none _ _)))))))));intro v158 w26 ho27 hb hg_ hnew_;clear hg_ hnew_;(first|rw[←Ny157.out] at ho27|(simp only[Int.reduceToNat] at ho27;rw[←Ny157.out] at ho27));have n0_:=Aside0.mk (Kd.R_lower ho27 (keep_size (w:=w) (g:=g) (row:=none) (by repeat(first|(with_reducible first|exact HK.out|apply KeepBut.set_|apply keep_drewN|apply keep_drew|apply keep_alloc|refine keep_far ?_ GW135.out _|refine keep_far ?_ GW153.out _)|exact HK.out))));have n1_:=Aside0.mk (blk_below (g:=gb135) (o:= .cells #[.int .i64 0, .int .i64 0, .int .i64 0, .int .i64 0] 25 (0,0)) (by(with_reducible repeat(first|refine blk_drewN ?_ _|refine blk_drew ?_|refine blk_alloc ?_ _));exact BK135.out) hb);have n2_:=Aside0.mk (blk_below (g:=gb153) (o:= .cells #[.int .i64 t148, .int .i64 t149, .int .i64 t150, .int .i64 t151] 25 (0,0)) (by(with_reducible repeat(first|refine blk_drewN ?_ _|refine blk_drew ?_|refine blk_alloc ?_ _));exact BK153.out) hb);have n3_:=Aside0.mk (IsS68.below (by repeat(first|(with_reducible first|exact HI0.out|apply IsS68.alloc|apply IsS68.drewN|apply IsS68.drew|apply IsS68.set_1|apply IsS68.set_2|refine IsS68.far ?_ NB0_135.out _|refine IsS68.far ?_ NB0_153.out _)|exact HI0.out)) hb);have n4_:=Aside0.mk (KeepBut.trans (by repeat(first|(with_reducible first|exact HK.out|apply KeepBut.set_|apply keep_drewN|apply keep_drew|apply keep_alloc|refine keep_far ?_ GW135.out _|refine keep_far ?_ GW153.out _)|exact HK.out)) (KeepBut.of_below hb g none) (.inl rfl));have n5_:=Aside0.mk (below_step (by repeat(first|(with_reducible first|exact HB.out|apply below_alloc|apply pw_below_drewN|apply below_drew1|refine below_set ?_ (IsS68.ge HI0.out)|refine below_set ?_ GE135.out|refine below_set ?_ GE153.out)|exact HB.out)) hb);clear BK135;clear BK153;clear HI0;clear HK;clear HB;have HO159:=n0_;have BK135:=n1_;have BK153:=n2_;have HI0:=n3_;have HK:=n4_;have HB:=n5_;clear n0_ n1_ n2_ n3_ n4_ n5_;clear hb ho27;obtain⟨Ao28,co28,eo28⟩:=Kd.R_slice HO159.out;subst eo28)|((with_reducible refine gate_callee (f:=39) rfl ?_);refine goesL_ (some 29) rfl rfl Tryz.func39 (by kernel_rfl) rfl #[.pointer (some ⟨g,0,none⟩), .slice Ao28 y157.length co28] rfl (by(try simp only[List.map_toArray,List.map_cons,List.map_nil]);first|done|rfl|(simp only[List.length_drop,List.length_take];rfl)) ?_;(with_reducible refine(spec_l1PickInt.calls g s0_0 x1001_6 x1002_6 _ _ y157 t160 t161 t162 w0 _ ?side1 ?side2 ?side3 ?side4 ?side5 A22.out).mono ?_);(case side1=>repeat(first|(with_reducible first|exact HI0.out|apply IsS68.alloc|apply IsS68.drewN|apply IsS68.drew|apply IsS68.set_1|apply IsS68.set_2|refine IsS68.far ?_ NB0_135.out _|refine IsS68.far ?_ NB0_153.out _)|exact HI0.out));(case side2=>repeat(first|(with_reducible first|exact HB.out|apply below_alloc|apply pw_below_drewN|apply below_drew1|refine below_set ?_ (IsS68.ge HI0.out)|refine below_set ?_ GE135.out|refine below_set ?_ GE153.out)|exact HB.out));(case side3=>repeat(first|exact(Kd.R_reads' HO159.out).2.2|(with_reducible refine Kd.C_alloc ?_ _)|(with_reducible refine Kd.C_drewN ?_ _)|(with_reducible refine Kd.C_drew ?_)));(case side4=>exact(Kd.R_reads' HO159.out).2.1);(case side5=>exact far_slice (IsS68.own_ne HI0.out HO159.out (by decide)));rintro e w29 ⟨rfl,hi,hb,hk⟩;refine⟨_,rfl,?_⟩;have n0_:=Aside0.mk (KeepBut.blk hk (g':=gb135) (o:= .cells #[.int .i64 0, .int .i64 0, .int .i64 0, .int .i64 0] 25 (0,0)) (by(with_reducible repeat(first|refine blk_drewN ?_ _|refine blk_drew ?_|refine blk_alloc ?_ _));exact BK135.out) NB135_0.out (by simp));have n1_:=Aside0.mk (KeepBut.blk hk (g':=gb153) (o:= .cells #[.int .i64 t148, .int .i64 t149, .int .i64 t150, .int .i64 t151] 25 (0,0)) (by(with_reducible repeat(first|refine blk_drewN ?_ _|refine blk_drew ?_|refine blk_alloc ?_ _));exact BK153.out) NB153_0.out (by simp));have n2_:=Aside0.mk (Kd.R_mono (Kd.R_keep (IsS68.apart (show IsS68 w0 _ g s0_0 x1001_6 x1002_6 from by repeat(first|(with_reducible first|exact HI0.out|apply IsS68.alloc|apply IsS68.drewN|apply IsS68.drew|apply IsS68.set_1|apply IsS68.set_2|refine IsS68.far ?_ NB0_135.out _|refine IsS68.far ?_ NB0_153.out _)|exact HI0.out)) (by(with_reducible repeat(first|apply Kd.R_alloc|apply Kd.R_drewN|apply Kd.R_drew));first|exact HO159.out|(subst_vars;exact HO159.out)) (by decide)) hk (fun _ h=>h.2)) (fun _ h=>h.1));have n3_:=Aside0.mk (KeepBut.trans (by repeat(first|(with_reducible first|exact HK.out|apply KeepBut.set_|apply keep_drewN|apply keep_drew|apply keep_alloc|refine keep_far ?_ GW135.out _|refine keep_far ?_ GW153.out _)|exact HK.out)) hk (.inl rfl));have n4_:=Aside0.mk (hb);have n5_:=Aside0.mk (hi);clear BK135;clear BK153;clear HO159;clear HK;clear HB;clear HI0;have BK135:=n0_;have BK153:=n1_;have HO159:=n2_;have HK:=n3_;have HB:=n4_;have HI0:=n5_;clear n0_ n1_ n2_ n3_ n4_ n5_;(try clear hb);(try clear hb2);(try clear hk);(try clear hi))|((with_reducible refine gate_dst (N:=31) rfl ?_);refine Kd.R_lit (Kd.int .i64) _ 3 ?hg (N:=31) ?hd (xs:=([0,30,31,(-30),(-31),5]:List Int)) (inner:=[.int .i64 0, .int .i64 30, .int .i64 31, .int .i64 (-30), .int .i64 (-31), .int .i64 5]) (ok:=fun _=>True) (okp:=fun _=>True) ?hr ?hp (fun _ hk=>hk) trivial (Below.refl _ _) (Nat.le_refl _) (by simp) ?_;(case hd=>rfl);(case hg=>rfl);(case hr=>first|(go_simp;done)|(go_simp;rfl));(case hp=>exact(Reps.one (show Kd.M (Kd.int .i64) _ _ _ 0 [.int .i64 0] from rfl) (Reps.one (show Kd.M (Kd.int .i64) _ _ _ 30 [.int .i64 30] from rfl) (Reps.one (show Kd.M (Kd.int .i64) _ _ _ 31 [.int .i64 31] from rfl) (Reps.one (show Kd.M (Kd.int .i64) _ _ _ (-30) [.int .i64 (-30)] from rfl) (Reps.one (show Kd.M (Kd.int .i64) _ _ _ (-31) [.int .i64 (-31)] from rfl) (Reps.one (show Kd.M (Kd.int .i64) _ _ _ 5 [.int .i64 5] from rfl) (Reps.none _ _))))))));intro v164 w30 ho31 hb hg_ hnew_;clear hg_ hnew_;(first|rw[←Ny163.out] at ho31|(simp only[Int.reduceToNat] at ho31;rw[←Ny163.out] at ho31));have n0_:=Aside0.mk (Kd.R_elder' (by(with_reducible repeat(first|apply Kd.R_alloc|apply Kd.R_drewN|apply Kd.R_drew));first|exact HO159.out|(subst_vars;exact HO159.out)) (Kd.R_base ho31) hb);have n1_:=Aside0.mk (Kd.R_lower (Kd.R_new' ho31 (Kd.R_lt (by(with_reducible repeat(first|apply Kd.R_alloc|apply Kd.R_drewN|apply Kd.R_drew));first|exact HO159.out|(subst_vars;exact HO159.out)))) (keep_size (w:=w) (g:=g) (row:=none) (by repeat(first|(with_reducible first|exact HK.out|apply KeepBut.set_|apply keep_drewN|apply keep_drew|apply keep_alloc|refine keep_far ?_ GW135.out _|refine keep_far ?_ GW153.out _)|exact HK.out))));have n2_:=Aside0.mk (blk_below (g:=gb135) (o:= .cells #[.int .i64 0, .int .i64 0, .int .i64 0, .int .i64 0] 25 (0,0)) (by(with_reducible repeat(first|refine blk_drewN ?_ _|refine blk_drew ?_|refine blk_alloc ?_ _));exact BK135.out) hb);have n3_:=Aside0.mk (blk_below (g:=gb153) (o:= .cells #[.int .i64 t148, .int .i64 t149, .int .i64 t150, .int .i64 t151] 25 (0,0)) (by(with_reducible repeat(first|refine blk_drewN ?_ _|refine blk_drew ?_|refine blk_alloc ?_ _));exact BK153.out) hb);have n4_:=Aside0.mk (IsS68.below (by repeat(first|(with_reducible first|exact HI0.out|apply IsS68.alloc|apply IsS68.drewN|apply IsS68.drew|apply IsS68.set_1|apply IsS68.set_2|refine IsS68.far ?_ NB0_135.out _|refine IsS68.far ?_ NB0_153.out _)|exact HI0.out)) hb);have n5_:=Aside0.mk (KeepBut.trans (by repeat(first|(with_reducible first|exact HK.out|apply KeepBut.set_|apply keep_drewN|apply keep_drew|apply keep_alloc|refine keep_far ?_ GW135.out _|refine keep_far ?_ GW153.out _)|exact HK.out)) (KeepBut.of_below hb g none) (.inl rfl));have n6_:=Aside0.mk (below_step (by repeat(first|(with_reducible first|exact HB.out|apply below_alloc|apply pw_below_drewN|apply below_drew1|refine below_set ?_ (IsS68.ge HI0.out)|refine below_set ?_ GE135.out|refine below_set ?_ GE153.out)|exact HB.out)) hb);clear HO159;clear BK135;clear BK153;clear HI0;clear HK;clear HB;have HO159:=n0_;have HO165:=n1_;have BK135:=n2_;have BK153:=n3_;have HI0:=n4_;have HK:=n5_;have HB:=n6_;clear n0_ n1_ n2_ n3_ n4_ n5_ n6_;clear hb ho31;obtain⟨Ao32,co32,eo32⟩:=Kd.R_slice HO165.out;subst eo32)|((with_reducible refine gate_callee (f:=39) rfl ?_);refine goesL_ (some 32) rfl rfl Tryz.func39 (by kernel_rfl) rfl #[.pointer (some ⟨g,0,none⟩), .slice Ao32 y163.length co32] rfl (by(try simp only[List.map_toArray,List.map_cons,List.map_nil]);first|done|rfl|(simp only[List.length_drop,List.length_take];rfl)) ?_;(with_reducible refine(spec_l1PickInt.calls g s0_0 t161 t162 _ _ y163 t166 t167 t168 w0 _ ?side1 ?side2 ?side3 ?side4 ?side5 A23.out).mono ?_);(case side1=>repeat(first|(with_reducible first|exact HI0.out|apply IsS68.alloc|apply IsS68.drewN|apply IsS68.drew|apply IsS68.set_1|apply IsS68.set_2|refine IsS68.far ?_ NB0_135.out _|refine IsS68.far ?_ NB0_153.out _)|exact HI0.out));(case side2=>repeat(first|(with_reducible first|exact HB.out|apply below_alloc|apply pw_below_drewN|apply below_drew1|refine below_set ?_ (IsS68.ge HI0.out)|refine below_set ?_ GE135.out|refine below_set ?_ GE153.out)|exact HB.out));(case side3=>repeat(first|exact(Kd.R_reads' HO165.out).2.2|(with_reducible refine Kd.C_alloc ?_ _)|(with_reducible refine Kd.C_drewN ?_ _)|(with_reducible refine Kd.C_drew ?_)));(case side4=>exact(Kd.R_reads' HO165.out).2.1);(case side5=>exact far_slice (IsS68.own_ne HI0.out HO165.out (by decide)));rintro e w33 ⟨rfl,hi,hb,hk⟩;refine⟨_,rfl,?_⟩;have n0_:=Aside0.mk (KeepBut.blk hk (g':=gb135) (o:= .cells #[.int .i64 0, .int .i64 0, .int .i64 0, .int .i64 0] 25 (0,0)) (by(with_reducible repeat(first|refine blk_drewN ?_ _|refine blk_drew ?_|refine blk_alloc ?_ _));exact BK135.out) NB135_0.out (by simp));have n1_:=Aside0.mk (KeepBut.blk hk (g':=gb153) (o:= .cells #[.int .i64 t148, .int .i64 t149, .int .i64 t150, .int .i64 t151] 25 (0,0)) (by(with_reducible repeat(first|refine blk_drewN ?_ _|refine blk_drew ?_|refine blk_alloc ?_ _));exact BK153.out) NB153_0.out (by simp));have n2_:=Aside0.mk (Kd.R_mono (Kd.R_keep (IsS68.apart (show IsS68 w0 _ g s0_0 t161 t162 from by repeat(first|(with_reducible first|exact HI0.out|apply IsS68.alloc|apply IsS68.drewN|apply IsS68.drew|apply IsS68.set_1|apply IsS68.set_2|refine IsS68.far ?_ NB0_135.out _|refine IsS68.far ?_ NB0_153.out _)|exact HI0.out)) (by(with_reducible repeat(first|apply Kd.R_alloc|apply Kd.R_drewN|apply Kd.R_drew));first|exact HO159.out|(subst_vars;exact HO159.out)) (by decide)) hk (fun _ h=>h.2)) (fun _ h=>h.1));have n3_:=Aside0.mk (Kd.R_mono (Kd.R_keep (IsS68.apart (show IsS68 w0 _ g s0_0 t161 t162 from by repeat(first|(with_reducible first|exact HI0.out|apply IsS68.alloc|apply IsS68.drewN|apply IsS68.drew|apply IsS68.set_1|apply IsS68.set_2|refine IsS68.far ?_ NB0_135.out _|refine IsS68.far ?_ NB0_153.out _)|exact HI0.out)) (by(with_reducible repeat(first|apply Kd.R_alloc|apply Kd.R_drewN|apply Kd.R_drew));first|exact HO165.out|(subst_vars;exact HO165.out)) (by decide)) hk (fun _ h=>h.2)) (fun _ h=>h.1));have n4_:=Aside0.mk (KeepBut.trans (by repeat(first|(with_reducible first|exact HK.out|apply KeepBut.set_|apply keep_drewN|apply keep_drew|apply keep_alloc|refine keep_far ?_ GW135.out _|refine keep_far ?_ GW153.out _)|exact HK.out)) hk (.inl rfl));have n5_:=Aside0.mk (hb);have n6_:=Aside0.mk (hi);clear BK135;clear BK153;clear HO159;clear HO165;clear HK;clear HB;clear HI0;have BK135:=n0_;have BK153:=n1_;have HO159:=n2_;have HO165:=n3_;have HK:=n4_;have HB:=n5_;have HI0:=n6_;clear n0_ n1_ n2_ n3_ n4_ n5_ n6_;(try clear hb);(try clear hb2);(try clear hk);(try clear hi))|((with_reducible refine gate_dst (N:=34) rfl ?_);refine Kd.R_lit (Kd.int .i64) _ 3 ?hg (N:=34) ?hd (xs:=([0,9,10,(-10)]:List Int)) (inner:=[.int .i64 0, .int .i64 9, .int .i64 10, .int .i64 (-10)]) (ok:=fun _=>True) (okp:=fun _=>True) ?hr ?hp (fun _ hk=>hk) trivial (Below.refl _ _) (Nat.le_refl _) (by simp) ?_;(case hd=>rfl);(case hg=>rfl);(case hr=>first|(go_simp;done)|(go_simp;rfl));(case hp=>exact(Reps.one (show Kd.M (Kd.int .i64) _ _ _ 0 [.int .i64 0] from rfl) (Reps.one (show Kd.M (Kd.int .i64) _ _ _ 9 [.int .i64 9] from rfl) (Reps.one (show Kd.M (Kd.int .i64) _ _ _ 10 [.int .i64 10] from rfl) (Reps.one (show Kd.M (Kd.int .i64) _ _ _ (-10) [.int .i64 (-10)] from rfl) (Reps.none _ _))))));intro v170 w34 ho35 hb hg_ hnew_;clear hg_ hnew_;(first|rw[←Ny169.out] at ho35|(simp only[Int.reduceToNat] at ho35;rw[←Ny169.out] at ho35));have n0_:=Aside0.mk (Kd.R_elder' (by(with_reducible repeat(first|apply Kd.R_alloc|apply Kd.R_drewN|apply Kd.R_drew));first|exact HO159.out|(subst_vars;exact HO159.out)) (Kd.R_base ho35) hb);have n1_:=Aside0.mk (Kd.R_elder' (by(with_reducible repeat(first|apply Kd.R_alloc|apply Kd.R_drewN|apply Kd.R_drew));first|exact HO165.out|(subst_vars;exact HO165.out)) (Kd.R_base ho35) hb);have n2_:=Aside0.mk (Kd.R_lower (Kd.R_new' (Kd.R_new' ho35 (Kd.R_lt (by(with_reducible repeat(first|apply Kd.R_alloc|apply Kd.R_drewN|apply Kd.R_drew));first|exact HO159.out|(subst_vars;exact HO159.out)))) (Kd.R_lt (by(with_reducible repeat(first|apply Kd.R_alloc|apply Kd.R_drewN|apply Kd.R_drew));first|exact HO165.out|(subst_vars;exact HO165.out)))) (keep_size (w:=w) (g:=g) (row:=none) (by repeat(first|(with_reducible first|exact HK.out|apply KeepBut.set_|apply keep_drewN|apply keep_drew|apply keep_alloc|refine keep_far ?_ GW135.out _|refine keep_far ?_ GW153.out _)|exact HK.out))));have n3_:=Aside0.mk (blk_below (g:=gb135) (o:= .cells #[.int .i64 0, .int .i64 0, .int .i64 0, .int .i64 0] 25 (0,0)) (by(with_reducible repeat(first|refine blk_drewN ?_ _|refine blk_drew ?_|refine blk_alloc ?_ _));exact BK135.out) hb);have n4_:=Aside0.mk (blk_below (g:=gb153) (o:= .cells #[.int .i64 t148, .int .i64 t149, .int .i64 t150, .int .i64 t151] 25 (0,0)) (by(with_reducible repeat(first|refine blk_drewN ?_ _|refine blk_drew ?_|refine blk_alloc ?_ _));exact BK153.out) hb);have n5_:=Aside0.mk (IsS68.below (by repeat(first|(with_reducible first|exact HI0.out|apply IsS68.alloc|apply IsS68.drewN|apply IsS68.drew|apply IsS68.set_1|apply IsS68.set_2|refine IsS68.far ?_ NB0_135.out _|refine IsS68.far ?_ NB0_153.out _)|exact HI0.out)) hb);have n6_:=Aside0.mk (KeepBut.trans (by repeat(first|(with_reducible first|exact HK.out|apply KeepBut.set_|apply keep_drewN|apply keep_drew|apply keep_alloc|refine keep_far ?_ GW135.out _|refine keep_far ?_ GW153.out _)|exact HK.out)) (KeepBut.of_below hb g none) (.inl rfl));have n7_:=Aside0.mk (below_step (by repeat(first|(with_reducible first|exact HB.out|apply below_alloc|apply pw_below_drewN|apply below_drew1|refine below_set ?_ (IsS68.ge HI0.out)|refine below_set ?_ GE135.out|refine below_set ?_ GE153.out)|exact HB.out)) hb);clear HO159;clear HO165;clear BK135;clear BK153;clear HI0;clear HK;clear HB;have HO159:=n0_;have HO165:=n1_;have HO171:=n2_;have BK135:=n3_;have BK153:=n4_;have HI0:=n5_;have HK:=n6_;have HB:=n7_;clear n0_ n1_ n2_ n3_ n4_ n5_ n6_ n7_;clear hb ho35;obtain⟨Ao36,co36,eo36⟩:=Kd.R_slice HO171.out;subst eo36)|((with_reducible refine gate_callee (f:=39) rfl ?_);refine goesL_ (some 35) rfl rfl Tryz.func39 (by kernel_rfl) rfl #[.pointer (some ⟨g,0,none⟩), .slice Ao36 y169.length co36] rfl (by(try simp only[List.map_toArray,List.map_cons,List.map_nil]);first|done|rfl|(simp only[List.length_drop,List.length_take];rfl)) ?_;(with_reducible refine(spec_l1PickInt.calls g s0_0 t167 t168 _ _ y169 t172 t173 t174 w0 _ ?side1 ?side2 ?side3 ?side4 ?side5 A24.out).mono ?_);(case side1=>repeat(first|(with_reducible first|exact HI0.out|apply IsS68.alloc|apply IsS68.drewN|apply IsS68.drew|apply IsS68.set_1|apply IsS68.set_2|refine IsS68.far ?_ NB0_135.out _|refine IsS68.far ?_ NB0_153.out _)|exact HI0.out));(case side2=>repeat(first|(with_reducible first|exact HB.out|apply below_alloc|apply pw_below_drewN|apply below_drew1|refine below_set ?_ (IsS68.ge HI0.out)|refine below_set ?_ GE135.out|refine below_set ?_ GE153.out)|exact HB.out));(case side3=>repeat(first|exact(Kd.R_reads' HO171.out).2.2|(with_reducible refine Kd.C_alloc ?_ _)|(with_reducible refine Kd.C_drewN ?_ _)|(with_reducible refine Kd.C_drew ?_)));(case side4=>exact(Kd.R_reads' HO171.out).2.1);(case side5=>exact far_slice (IsS68.own_ne HI0.out HO171.out (by decide)));rintro e w37 ⟨rfl,hi,hb,hk⟩;refine⟨_,rfl,?_⟩;have n0_:=Aside0.mk (KeepBut.blk hk (g':=gb135) (o:= .cells #[.int .i64 0, .int .i64 0, .int .i64 0, .int .i64 0] 25 (0,0)) (by(with_reducible repeat(first|refine blk_drewN ?_ _|refine blk_drew ?_|refine blk_alloc ?_ _));exact BK135.out) NB135_0.out (by simp));have n1_:=Aside0.mk (KeepBut.blk hk (g':=gb153) (o:= .cells #[.int .i64 t148, .int .i64 t149, .int .i64 t150, .int .i64 t151] 25 (0,0)) (by(with_reducible repeat(first|refine blk_drewN ?_ _|refine blk_drew ?_|refine blk_alloc ?_ _));exact BK153.out) NB153_0.out (by simp));have n2_:=Aside0.mk (Kd.R_mono (Kd.R_keep (IsS68.apart (show IsS68 w0 _ g s0_0 t167 t168 from by repeat(first|(with_reducible first|exact HI0.out|apply IsS68.alloc|apply IsS68.drewN|apply IsS68.drew|apply IsS68.set_1|apply IsS68.set_2|refine IsS68.far ?_ NB0_135.out _|refine IsS68.far ?_ NB0_153.out _)|exact HI0.out)) (by(with_reducible repeat(first|apply Kd.R_alloc|apply Kd.R_drewN|apply Kd.R_drew));first|exact HO159.out|(subst_vars;exact HO159.out)) (by decide)) hk (fun _ h=>h.2)) (fun _ h=>h.1));have n3_:=Aside0.mk (Kd.R_mono (Kd.R_keep (IsS68.apart (show IsS68 w0 _ g s0_0 t167 t168 from by repeat(first|(with_reducible first|exact HI0.out|apply IsS68.alloc|apply IsS68.drewN|apply IsS68.drew|apply IsS68.set_1|apply IsS68.set_2|refine IsS68.far ?_ NB0_135.out _|refine IsS68.far ?_ NB0_153.out _)|exact HI0.out)) (by(with_reducible repeat(first|apply Kd.R_alloc|apply Kd.R_drewN|apply Kd.R_drew));first|exact HO165.out|(subst_vars;exact HO165.out)) (by decide)) hk (fun _ h=>h.2)) (fun _ h=>h.1));have n4_:=Aside0.mk (Kd.R_mono (Kd.R_keep (IsS68.apart (show IsS68 w0 _ g s0_0 t167 t168 from by repeat(first|(with_reducible first|exact HI0.out|apply IsS68.alloc|apply IsS68.drewN|apply IsS68.drew|apply IsS68.set_1|apply IsS68.set_2|refine IsS68.far ?_ NB0_135.out _|refine IsS68.far ?_ NB0_153.out _)|exact HI0.out)) (by(with_reducible repeat(first|apply Kd.R_alloc|apply Kd.R_drewN|apply Kd.R_drew));first|exact HO171.out|(subst_vars;exact HO171.out)) (by decide)) hk (fun _ h=>h.2)) (fun _ h=>h.1));have n5_:=Aside0.mk (KeepBut.trans (by repeat(first|(with_reducible first|exact HK.out|apply KeepBut.set_|apply keep_drewN|apply keep_drew|apply keep_alloc|refine keep_far ?_ GW135.out _|refine keep_far ?_ GW153.out _)|exact HK.out)) hk (.inl rfl));have n6_:=Aside0.mk (hb);have n7_:=Aside0.mk (hi);clear BK135;clear BK153;clear HO159;clear HO165;clear HO171;clear HK;clear HB;clear HI0;have BK135:=n0_;have BK153:=n1_;have HO159:=n2_;have HO165:=n3_;have HO171:=n4_;have HK:=n5_;have HB:=n6_;have HI0:=n7_;clear n0_ n1_ n2_ n3_ n4_ n5_ n6_ n7_;(try clear hb);(try clear hb2);(try clear hk);(try clear hi))|((with_reducible refine gate_dst (N:=37) rfl ?_);refine Kd.R_lit (Kd.int .i64) _ 3 ?hg (N:=37) ?hd (xs:=([0,(-9),1]:List Int)) (inner:=[.int .i64 0, .int .i64 (-9), .int .i64 1]) (ok:=fun _=>True) (okp:=fun _=>True) ?hr ?hp (fun _ hk=>hk) trivial (Below.refl _ _) (Nat.le_refl _) (by simp) ?_;(case hd=>rfl);(case hg=>rfl);(case hr=>first|(go_simp;done)|(go_simp;rfl));(case hp=>exact(Reps.one (show Kd.M (Kd.int .i64) _ _ _ 0 [.int .i64 0] from rfl) (Reps.one (show Kd.M (Kd.int .i64) _ _ _ (-9) [.int .i64 (-9)] from rfl) (Reps.one (show Kd.M (Kd.int .i64) _ _ _ 1 [.int .i64 1] from rfl) (Reps.none _ _)))));intro v176 w38 ho39 hb hg_ hnew_;clear hg_ hnew_;(first|rw[←Ny175.out] at ho39|(simp only[Int.reduceToNat] at ho39;rw[←Ny175.out] at ho39));have n0_:=Aside0.mk (Kd.R_elder' (by(with_reducible repeat(first|apply Kd.R_alloc|apply Kd.R_drewN|apply Kd.R_drew));first|exact HO159.out|(subst_vars;exact HO159.out)) (Kd.R_base ho39) hb);have n1_:=Aside0.mk (Kd.R_elder' (by(with_reducible repeat(first|apply Kd.R_alloc|apply Kd.R_drewN|apply Kd.R_drew));first|exact HO165.out|(subst_vars;exact HO165.out)) (Kd.R_base ho39) hb);have n2_:=Aside0.mk (Kd.R_elder' (by(with_reducible repeat(first|apply Kd.R_alloc|apply Kd.R_drewN|apply Kd.R_drew));first|exact HO171.out|(subst_vars;exact HO171.out)) (Kd.R_base ho39) hb);have n3_:=Aside0.mk (Kd.R_lower (Kd.R_new' (Kd.R_new' (Kd.R_new' ho39 (Kd.R_lt (by(with_reducible repeat(first|apply Kd.R_alloc|apply Kd.R_drewN|apply Kd.R_drew));first|exact HO159.out|(subst_vars;exact HO159.out)))) (Kd.R_lt (by(with_reducible repeat(first|apply Kd.R_alloc|apply Kd.R_drewN|apply Kd.R_drew));first|exact HO165.out|(subst_vars;exact HO165.out)))) (Kd.R_lt (by(with_reducible repeat(first|apply Kd.R_alloc|apply Kd.R_drewN|apply Kd.R_drew));first|exact HO171.out|(subst_vars;exact HO171.out)))) (keep_size (w:=w) (g:=g) (row:=none) (by repeat(first|(with_reducible first|exact HK.out|apply KeepBut.set_|apply keep_drewN|apply keep_drew|apply keep_alloc|refine keep_far ?_ GW135.out _|refine keep_far ?_ GW153.out _)|exact HK.out))));have n4_:=Aside0.mk (blk_below (g:=gb135) (o:= .cells #[.int .i64 0, .int .i64 0, .int .i64 0, .int .i64 0] 25 (0,0)) (by(with_reducible repeat(first|refine blk_drewN ?_ _|refine blk_drew ?_|refine blk_alloc ?_ _));exact BK135.out) hb);have n5_:=Aside0.mk (blk_below (g:=gb153) (o:= .cells #[.int .i64 t148, .int .i64 t149, .int .i64 t150, .int .i64 t151] 25 (0,0)) (by(with_reducible repeat(first|refine blk_drewN ?_ _|refine blk_drew ?_|refine blk_alloc ?_ _));exact BK153.out) hb);have n6_:=Aside0.mk (IsS68.below (by repeat(first|(with_reducible first|exact HI0.out|apply IsS68.alloc|apply IsS68.drewN|apply IsS68.drew|apply IsS68.set_1|apply IsS68.set_2|refine IsS68.far ?_ NB0_135.out _|refine IsS68.far ?_ NB0_153.out _)|exact HI0.out)) hb);have n7_:=Aside0.mk (KeepBut.trans (by repeat(first|(with_reducible first|exact HK.out|apply KeepBut.set_|apply keep_drewN|apply keep_drew|apply keep_alloc|refine keep_far ?_ GW135.out _|refine keep_far ?_ GW153.out _)|exact HK.out)) (KeepBut.of_below hb g none) (.inl rfl));have n8_:=Aside0.mk (below_step (by repeat(first|(with_reducible first|exact HB.out|apply below_alloc|apply pw_below_drewN|apply below_drew1|refine below_set ?_ (IsS68.ge HI0.out)|refine below_set ?_ GE135.out|refine below_set ?_ GE153.out)|exact HB.out)) hb);clear HO159;clear HO165;clear HO171;clear BK135;clear BK153;clear HI0;clear HK;clear HB;have HO159:=n0_;have HO165:=n1_;have HO171:=n2_;have HO177:=n3_;have BK135:=n4_;have BK153:=n5_;have HI0:=n6_;have HK:=n7_;have HB:=n8_;clear n0_ n1_ n2_ n3_ n4_ n5_ n6_ n7_ n8_;clear hb ho39;obtain⟨Ao40,co40,eo40⟩:=Kd.R_slice HO177.out;subst eo40)|((with_reducible refine gate_callee (f:=39) rfl ?_);refine goesL_ (some 38) rfl rfl Tryz.func39 (by kernel_rfl) rfl #[.pointer (some ⟨g,0,none⟩), .slice Ao40 y175.length co40] rfl (by(try simp only[List.map_toArray,List.map_cons,List.map_nil]);first|done|rfl|(simp only[List.length_drop,List.length_take];rfl)) ?_;(with_reducible refine(spec_l1PickInt.calls g s0_0 t173 t174 _ _ y175 t178 t179 t180 w0 _ ?side1 ?side2 ?side3 ?side4 ?side5 A25.out).mono ?_);(case side1=>repeat(first|(with_reducible first|exact HI0.out|apply IsS68.alloc|apply IsS68.drewN|apply IsS68.drew|apply IsS68.set_1|apply IsS68.set_2|refine IsS68.far ?_ NB0_135.out _|refine IsS68.far ?_ NB0_153.out _)|exact HI0.out));(case side2=>repeat(first|(with_reducible first|exact HB.out|apply below_alloc|apply pw_below_drewN|apply below_drew1|refine below_set ?_ (IsS68.ge HI0.out)|refine below_set ?_ GE135.out|refine below_set ?_ GE153.out)|exact HB.out));(case side3=>repeat(first|exact(Kd.R_reads' HO177.out).2.2|(with_reducible refine Kd.C_alloc ?_ _)|(with_reducible refine Kd.C_drewN ?_ _)|(with_reducible refine Kd.C_drew ?_)));(case side4=>exact(Kd.R_reads' HO177.out).2.1);(case side5=>exact far_slice (IsS68.own_ne HI0.out HO177.out (by decide)));rintro e w41 ⟨rfl,hi,hb,hk⟩;refine⟨_,rfl,?_⟩;have n0_:=Aside0.mk (KeepBut.blk hk (g':=gb135) (o:= .cells #[.int .i64 0, .int .i64 0, .int .i64 0, .int .i64 0] 25 (0,0)) (by(with_reducible repeat(first|refine blk_drewN ?_ _|refine blk_drew ?_|refine blk_alloc ?_ _));exact BK135.out) NB135_0.out (by simp));have n1_:=Aside0.mk (KeepBut.blk hk (g':=gb153) (o:= .cells #[.int .i64 t148, .int .i64 t149, .int .i64 t150, .int .i64 t151] 25 (0,0)) (by(with_reducible repeat(first|refine blk_drewN ?_ _|refine blk_drew ?_|refine blk_alloc ?_ _));exact BK153.out) NB153_0.out (by simp));have n2_:=Aside0.mk (Kd.R_mono (Kd.R_keep (IsS68.apart (show IsS68 w0 _ g s0_0 t173 t174 from by repeat(first|(with_reducible first|exact HI0.out|apply IsS68.alloc|apply IsS68.drewN|apply IsS68.drew|apply IsS68.set_1|apply IsS68.set_2|refine IsS68.far ?_ NB0_135.out _|refine IsS68.far ?_ NB0_153.out _)|exact HI0.out)) (by(with_reducible repeat(first|apply Kd.R_alloc|apply Kd.R_drewN|apply Kd.R_drew));first|exact HO159.out|(subst_vars;exact HO159.out)) (by decide)) hk (fun _ h=>h.2)) (fun _ h=>h.1));have n3_:=Aside0.mk (Kd.R_mono (Kd.R_keep (IsS68.apart (show IsS68 w0 _ g s0_0 t173 t174 from by repeat(first|(with_reducible first|exact HI0.out|apply IsS68.alloc|apply IsS68.drewN|apply IsS68.drew|apply IsS68.set_1|apply IsS68.set_2|refine IsS68.far ?_ NB0_135.out _|refine IsS68.far ?_ NB0_153.out _)|exact HI0.out)) (by(with_reducible repeat(first|apply Kd.R_alloc|apply Kd.R_drewN|apply Kd.R_drew));first|exact HO165.out|(subst_vars;exact HO165.out)) (by decide)) hk (fun _ h=>h.2)) (fun _ h=>h.1));have n4_:=Aside0.mk (Kd.R_mono (Kd.R_keep (IsS68.apart (show IsS68 w0 _ g s0_0 t173 t174 from by repeat(first|(with_reducible first|exact HI0.out|apply IsS68.alloc|apply IsS68.drewN|apply IsS68.drew|apply IsS68.set_1|apply IsS68.set_2|refine IsS68.far ?_ NB0_135.out _|refine IsS68.far ?_ NB0_153.out _)|exact HI0.out)) (by(with_reducible repeat(first|apply Kd.R_alloc|apply Kd.R_drewN|apply Kd.R_drew));first|exact HO171.out|(subst_vars;exact HO171.out)) (by decide)) hk (fun _ h=>h.2)) (fun _ h=>h.1));have n5_:=Aside0.mk (Kd.R_mono (Kd.R_keep (IsS68.apart (show IsS68 w0 _ g s0_0 t173 t174 from by repeat(first|(with_reducible first|exact HI0.out|apply IsS68.alloc|apply IsS68.drewN|apply IsS68.drew|apply IsS68.set_1|apply IsS68.set_2|refine IsS68.far ?_ NB0_135.out _|refine IsS68.far ?_ NB0_153.out _)|exact HI0.out)) (by(with_reducible repeat(first|apply Kd.R_alloc|apply Kd.R_drewN|apply Kd.R_drew));first|exact HO177.out|(subst_vars;exact HO177.out)) (by decide)) hk (fun _ h=>h.2)) (fun _ h=>h.1));have n6_:=Aside0.mk (KeepBut.trans (by repeat(first|(with_reducible first|exact HK.out|apply KeepBut.set_|apply keep_drewN|apply keep_drew|apply keep_alloc|refine keep_far ?_ GW135.out _|refine keep_far ?_ GW153.out _)|exact HK.out)) hk (.inl rfl));have n7_:=Aside0.mk (hb);have n8_:=Aside0.mk (hi);clear BK135;clear BK153;clear HO159;clear HO165;clear HO171;clear HO177;clear HK;clear HB;clear HI0;have BK135:=n0_;have BK153:=n1_;have HO159:=n2_;have HO165:=n3_;have HO171:=n4_;have HO177:=n5_;have HK:=n6_;have HB:=n7_;have HI0:=n8_;clear n0_ n1_ n2_ n3_ n4_ n5_ n6_ n7_ n8_;(try clear hb);(try clear hb2);(try clear hk);(try clear hi);have hnb42:=NB135_153.out;have hnc42:=NB153_135.out;have hnb43:=NB135_0.out;have hnc43:=NB0_135.out;have hcz44_0:w41.cell? ⟨gb135,0,none⟩=some (.int .i64 0):=(blk_cell BK135.out 0).trans rfl;have hcz44_1:w41.cell? ⟨gb135,1,none⟩=some (.int .i64 0):=(blk_cell BK135.out 1).trans rfl;have hcz44_2:w41.cell? ⟨gb135,2,none⟩=some (.int .i64 0):=(blk_cell BK135.out 2).trans rfl;have hcz44_3:w41.cell? ⟨gb135,3,none⟩=some (.int .i64 0):=(blk_cell BK135.out 3).trans rfl;have hfz44_0:=blk_frozen BK135.out 0;have hfz44_1:=blk_frozen BK135.out 1;have hfz44_2:=blk_frozen BK135.out 2;have hfz44_3:=blk_frozen BK135.out 3))
        refine bodyPost_ret (results_cell_row rfl _ _ gb135 25 #[.int .i64 t160, .int .i64 t166, .int .i64 t172, .int .i64 t178] (0,0) _ rfl (by(with_reducible repeat(first|refine blk_drewN ?_ _|refine blk_drew ?_|refine blk_alloc ?_ _));refine blk_put (cs:= #[.int .i64 t160, .int .i64 t166, .int .i64 t172, .int .i64 0]) ?_ 3 _ rfl;(with_reducible repeat(first|refine blk_drewN ?_ _|refine blk_drew ?_|refine blk_alloc ?_ _));refine blk_put (cs:= #[.int .i64 t160, .int .i64 t166, .int .i64 0, .int .i64 0]) ?_ 2 _ rfl;(with_reducible repeat(first|refine blk_drewN ?_ _|refine blk_drew ?_|refine blk_alloc ?_ _));refine blk_put (cs:= #[.int .i64 t160, .int .i64 0, .int .i64 0, .int .i64 0]) ?_ 1 _ rfl;(with_reducible repeat(first|refine blk_drewN ?_ _|refine blk_drew ?_|refine blk_alloc ?_ _));refine blk_put (cs:= #[.int .i64 0, .int .i64 0, .int .i64 0, .int .i64 0]) ?_ 0 _ rfl;(with_reducible repeat(first|refine blk_drewN ?_ _|refine blk_drew ?_|refine blk_alloc ?_ _));exact BK135.out) Tryz.underlying25 rfl (by kernel_rfl)) rfl ?_
        exact⟨by first|rfl|(simp[errW_none,errW_some]<;>rfl)|(simp[*,errW_none,errW_some]<;>rfl),by repeat(first|(with_reducible first|exact HI0.out|apply IsS68.alloc|apply IsS68.drewN|apply IsS68.drew|apply IsS68.set_1|apply IsS68.set_2|refine IsS68.far ?_ NB0_135.out _|refine IsS68.far ?_ NB0_153.out _)|exact HI0.out),by repeat(first|(with_reducible first|exact HB.out|apply below_alloc|apply pw_below_drewN|apply below_drew1|refine below_set ?_ (IsS68.ge HI0.out)|refine below_set ?_ GE135.out|refine below_set ?_ GE153.out)|exact HB.out),by repeat(first|(with_reducible first|exact HK.out|apply KeepBut.set_|apply keep_drewN|apply keep_drew|apply keep_alloc|refine keep_far ?_ GW135.out _|refine keep_far ?_ GW153.out _)|exact HK.out)⟩
      · replace c21:=Bool.eq_false_iff.mpr c21
        subst c21
        have H1:(some (t148,t149,t150,t151,x1001_6,x1002_6))=some (r1,r2,r3,r4,r5,r6):=by rw[if_neg (show ¬(false=true) by decide)] at H;exact H
        clear H
        have H:=H1
        clear H1
        simp only[Option.some.injEq,Prod.mk.injEq] at H
        obtain⟨rfl,rfl,rfl,rfl,rfl,rfl⟩:=H
        have hnb45:=NB153_135.out
        have hnc45:=NB135_153.out
        have hnb46:=NB153_0.out
        have hnc46:=NB0_153.out
        have hcz47_0:wc.cell? ⟨gb153,0,none⟩=some (.int .i64 t148):=(blk_cell BK153.out 0).trans rfl
        have hcz47_1:wc.cell? ⟨gb153,1,none⟩=some (.int .i64 t149):=(blk_cell BK153.out 1).trans rfl
        have hcz47_2:wc.cell? ⟨gb153,2,none⟩=some (.int .i64 t150):=(blk_cell BK153.out 2).trans rfl
        have hcz47_3:wc.cell? ⟨gb153,3,none⟩=some (.int .i64 t151):=(blk_cell BK153.out 3).trans rfl
        have hfz47_0:=blk_frozen BK153.out 0
        have hfz47_1:=blk_frozen BK153.out 1
        have hfz47_2:=blk_frozen BK153.out 2
        have hfz47_3:=blk_frozen BK153.out 3
        have hnb48:=NB135_0.out
        have hnc48:=NB0_135.out
        have hcz49_0:wc.cell? ⟨gb135,0,none⟩=some (.int .i64 0):=(blk_cell BK135.out 0).trans rfl
        have hcz49_1:wc.cell? ⟨gb135,1,none⟩=some (.int .i64 0):=(blk_cell BK135.out 1).trans rfl
        have hcz49_2:wc.cell? ⟨gb135,2,none⟩=some (.int .i64 0):=(blk_cell BK135.out 2).trans rfl
        have hcz49_3:wc.cell? ⟨gb135,3,none⟩=some (.int .i64 0):=(blk_cell BK135.out 3).trans rfl
        have hfz49_0:=blk_frozen BK135.out 0
        have hfz49_1:=blk_frozen BK135.out 1
        have hfz49_2:=blk_frozen BK135.out 2
        have hfz49_3:=blk_frozen BK135.out 3
        go_wp2
        refine bodyPost_ret (results_cell_row rfl _ _ gb135 25 #[.int .i64 t148, .int .i64 t149, .int .i64 t150, .int .i64 t151] (0,0) _ rfl (by(with_reducible repeat(first|refine blk_drewN ?_ _|refine blk_drew ?_|refine blk_alloc ?_ _));refine blk_put (cs:= #[.int .i64 t148, .int .i64 t149, .int .i64 t150, .int .i64 0]) ?_ 3 _ rfl;(with_reducible repeat(first|refine blk_drewN ?_ _|refine blk_drew ?_|refine blk_alloc ?_ _));refine blk_put (cs:= #[.int .i64 t148, .int .i64 t149, .int .i64 0, .int .i64 0]) ?_ 2 _ rfl;(with_reducible repeat(first|refine blk_drewN ?_ _|refine blk_drew ?_|refine blk_alloc ?_ _));refine blk_put (cs:= #[.int .i64 t148, .int .i64 0, .int .i64 0, .int .i64 0]) ?_ 1 _ rfl;(with_reducible repeat(first|refine blk_drewN ?_ _|refine blk_drew ?_|refine blk_alloc ?_ _));refine blk_put (cs:= #[.int .i64 0, .int .i64 0, .int .i64 0, .int .i64 0]) ?_ 0 _ rfl;(with_reducible repeat(first|refine blk_drewN ?_ _|refine blk_drew ?_|refine blk_alloc ?_ _));exact BK135.out) Tryz.underlying25 rfl (by kernel_rfl)) rfl ?_
        exact⟨by first|rfl|(simp[errW_none,errW_some]<;>rfl)|(simp[*,errW_none,errW_some]<;>rfl),by repeat(first|(with_reducible first|exact HI0.out|apply IsS68.alloc|apply IsS68.drewN|apply IsS68.drew|apply IsS68.set_1|apply IsS68.set_2|refine IsS68.far ?_ NB0_135.out _|refine IsS68.far ?_ NB0_153.out _)|exact HI0.out),by repeat(first|(with_reducible first|exact HB.out|apply below_alloc|apply pw_below_drewN|apply below_drew1|refine below_set ?_ (IsS68.ge HI0.out)|refine below_set ?_ GE135.out|refine below_set ?_ GE153.out)|exact HB.out),by repeat(first|(with_reducible first|exact HK.out|apply KeepBut.set_|apply keep_drewN|apply keep_drew|apply keep_alloc|refine keep_far ?_ GW135.out _|refine keep_far ?_ GW153.out _)|exact HK.out)⟩

/-! ### spec_l1New: function 13 -/
def spec_l1New.l0:Nat→List Int→Int→Int→Option (List Int×Int×Int)
  |0,_,_,_=>none
  |k+1,x0,x3,x4=>if x4<(x0.length:Int) then(if x4<4000 then(if 0≤x4 then(spec_l1New.l0 k x0 (Go.bits .and .i64 (wrap64 ((wrap64 ((wrap64 (x3*131))+(wrap64 (rd x0 x4))))+7)) 1073741823) (wrap64 (x4+1))) else(none)) else(some (x0,0,x3))) else(some (x0,0,x3))
def spec_l1New.f (k:Nat) (l0:List Int):Option (List Int×Int×Int):=spec_l1New.l0 k l0 (wrap64 (71933+(l0.length:Int))) 0
theorem spec_l1New.mono_l:∀k,(∀y0 y1 y2,LeO (spec_l1New.l0 k y0 y1 y2) (spec_l1New.l0 (k+1) y0 y1 y2))
  |0=>fun _ _ _ r h=>by simp[spec_l1New.l0] at h
  | k +1=>by
    have ih0:=spec_l1New.mono_l k
    · intro y0 y1 y2
      unfold spec_l1New.l0
      repeat' first
      |(with_reducible exact ih0 _ _ _)
      |(with_reducible exact LeO.refl _)
      |(with_reducible exact LeO.none _)
      |(with_reducible refine LeO.ite ?_ ?_)
      |(with_reducible refine LeO.bind ?_ (fun _=> ?_))
      |exact ih0 _ _ _
      |exact LeO.none _
      |refine LeO.ite ?_ ?_
      |refine LeO.bind ?_ (fun _=> ?_)
theorem spec_l1New.mono:∀a0 k,LeO (spec_l1New.f k a0) (spec_l1New.f (k+1) a0):=by
  intro a0 k
  have ih0:=spec_l1New.mono_l k
  unfold spec_l1New.f
  repeat' first
      |(with_reducible exact ih0 _ _ _)
      |(with_reducible exact LeO.refl _)
      |(with_reducible exact LeO.none _)
      |(with_reducible refine LeO.ite ?_ ?_)
      |(with_reducible refine LeO.bind ?_ (fun _=> ?_))
      |exact ih0 _ _ _
      |exact LeO.none _
      |refine LeO.ite ?_ ?_
      |refine LeO.bind ?_ (fun _=> ?_)
set_option maxHeartbeats 8000000 in
set_option maxRecDepth 100000 in
theorem spec_l1New.calls (k:Nat) (A0:Option Addr) (c0:Nat) (l0:List Int) (r1:List Int) (r2:Int) (r3:Int) (w0 w:World) (hB:Below w0.heap.size w0 w) (hr0:Kd.C (Kd.int .u8) w0 A0 l0.length l0) (hc0:l0.length≤c0) (h:spec_l1New.f k l0=some (r1,r2,r3)):
    Calls Tryz.prog 13 #[.slice A0 l0.length c0] w fun e w'=>∃g_:Nat,e= .returned (.pointer (some ⟨g_,0,none⟩))∧IsS68 w0 w' g_ r1 r2 r3∧Below w0.heap.size w0 w'∧Below w.heap.size w w':=by
  have hu68:=Tryz.underlying68
  have HR0:=Aside0.mk hr0
  have HC0:=Aside0.mk hc0
  clear hr0 hc0
  have HBW:=Aside0.mk (Below.refl w.heap.size w)
  have HW0:=Aside0.mk hB.size
  have HB:=Aside0.mk hB
  clear hB
  have H:(spec_l1New.l0 k l0 (wrap64 (71933+(l0.length:Int))) 0)=some (r1,r2,r3):=h
  clear h
  have H':=Aside0.mk H
  clear H
  go_enter Tryz.func13,Tryz.ntmps13
  go_wp2
  (try simp only[Act.put,List.setIfInBounds_toArray,List.set_cons_zero,List.set_cons_succ])
  go_loopg [3,4] k (fun kq v3 v4 w'=>∃(x3_1:Int) (x4_1:Int),v3= .int .i64 x3_1∧v4= .int .i64 x4_1∧Aside0 (spec_l1New.l0 kq l0 x3_1 x4_1=some (r1,r2,r3))∧Aside0 (kq≤k)∧Aside0 (Below w.heap.size w w')∧Aside0 (Below w0.heap.size w0 w'))
  case atStart=>exact⟨(wrap64 (71933+(l0.length:Int))),(0),(by first|rfl|(simp;done)|(simp[*];done)),(by first|rfl|(simp;done)|(simp[*];done)),H',⟨Nat.le_refl _⟩,⟨by repeat(first|(with_reducible first|exact HBW.out|apply below_alloc|apply pw_below_drewN|apply below_drew1)|exact HBW.out)⟩,⟨by repeat(first|(with_reducible first|exact HB.out|apply below_alloc|apply pw_below_drewN|apply below_drew1)|exact HB.out)⟩⟩
  case round=>
    clear H'
    try clear c1
    obtain⟨x3_1,x4_1,rfl,rfl,HA,HK1,HBW,HB⟩:=hrel
    cases gk with
    |zero=>exact absurd HA.out (by simp[spec_l1New.l0])
    | succ k1=>
      have H:=HA.out
      clear HA
      simp only[spec_l1New.l0] at H
      by_cases c2:x4_1<(l0.length:Int)
      · rw [if_pos c2] at H
        have c2b0:decide (x4_1<(l0.length:Int))=true:=decide_eq_true c2
        clear c2
        by_cases c3:x4_1<4000
        · rw[if_pos c3] at H
          have c3b0:decide (x4_1<4000)=true:=decide_eq_true c3
          clear c3
          by_cases c4:0≤x4_1
          · rw[if_pos c4] at H
            have c4b0:decide (0≤x4_1)=true:=decide_eq_true c4
            clear c4
            have H':=Aside0.mk H
            clear H
            have p181:0≤(x4_1:Int):=of_decide_eq_true (by first|(with_reducible assumption)|assumption)
            have q181:x4_1<(l0.length:Int):=of_decide_eq_true (by first|(with_reducible assumption)|assumption)
            obtain⟨ad181,e181,hx181_0⟩:=Kd.at_int HR0.out x4_1 p181 q181
            cases e181
            replace hx181_0:=pw_cell_below HB.out hx181_0
            replace p181:=eq_true p181
            replace q181:=eq_true q181
            go_wp2
            go_roundg k1
            case measure=>have:=HK1.out;omega
            case rel=>exact⟨(Go.bits .and .i64 (wrap64 ((wrap64 ((wrap64 (x3_1*131))+(wrap64 (rd l0 x4_1))))+7)) 1073741823),(wrap64 (x4_1+1)),(by first|rfl|(simp;done)|(simp[*];done)),(by first|rfl|(simp;done)|(simp[*];done)),H',⟨by have:=HK1.out;omega⟩,⟨by repeat(first|(with_reducible first|exact HBW.out|apply below_alloc|apply pw_below_drewN|apply below_drew1)|exact HBW.out)⟩,⟨by repeat(first|(with_reducible first|exact HB.out|apply below_alloc|apply pw_below_drewN|apply below_drew1)|exact HB.out)⟩⟩
          · rw[if_neg c4] at H
            exact absurd H (by simp)
        · rw[if_neg c3] at H
          have c3b0:decide (x4_1<4000)=false:=decide_eq_false c3
          clear c3
          simp only[Option.some.injEq,Prod.mk.injEq] at H
          obtain⟨rfl,rfl,rfl⟩:=H
          go_wp2_with (first|((with_reducible refine gate_dst (N:=31) rfl ?_);refine box_event ?hg (N:=31) ?hd (cs:= #[.slice A0 l0.length c0, .int .i64 0, .int .i64 x3_1]) (t:=68) ?hr ?_;(case hd=>rfl);(case hg=>rfl);(case hr=>first|(go_simp;done)|(go_simp;rfl));intro gb182 hg w5 hbox hb;have n0_:=Aside0.mk (below_step HBW.out hb);have n1_:=Aside0.mk (below_step (by repeat(first|(with_reducible first|exact HB.out|apply below_alloc|apply pw_below_drewN|apply below_drew1)|exact HB.out)) hb);have n2_:=Aside0.mk (hbox);have n3_:=Aside0.mk ((by rw[hg];exact(below_size (by repeat(first|(with_reducible first|exact HBW.out|apply below_alloc|apply pw_below_drewN|apply below_drew1)|exact HBW.out))):w.heap.size≤gb182));have n4_:=Aside0.mk ((Nat.le_trans HW0.out (by rw[hg];exact(below_size (by repeat(first|(with_reducible first|exact HBW.out|apply below_alloc|apply pw_below_drewN|apply below_drew1)|exact HBW.out))):w.heap.size≤gb182):w0.heap.size≤gb182));clear HBW;clear HB;have HBW:=n0_;have HB:=n1_;have BK182:=n2_;have GW182:=n3_;have GE182:=n4_;clear n0_ n1_ n2_ n3_ n4_;clear hb hbox hg))
          go_ret
          exact⟨_,rfl,(show IsS68 w0 _ gb182 l0 0 x3_1 from⟨_,_,by(with_reducible repeat(first|refine blk_drewN ?_ _|refine blk_drew ?_|refine blk_alloc ?_ _));exact BK182.out,GE182.out,HR0.out⟩),by repeat(first|(with_reducible first|exact HB.out|apply below_alloc|apply pw_below_drewN|apply below_drew1|refine below_set ?_ GE182.out)|exact HB.out),by repeat(first|(with_reducible first|exact HBW.out|apply below_alloc|apply pw_below_drewN|apply below_drew1|refine below_set ?_ GW182.out)|exact HBW.out)⟩
      · rw[if_neg c2] at H
        have c2b0:decide (x4_1<(l0.length:Int))=false:=decide_eq_false c2
        clear c2
        simp only[Option.some.injEq,Prod.mk.injEq] at H
        obtain⟨rfl,rfl,rfl⟩:=H
        go_wp2_with (first|((with_reducible refine gate_dst (N:=31) rfl ?_);refine box_event ?hg (N:=31) ?hd (cs:= #[.slice A0 l0.length c0, .int .i64 0, .int .i64 x3_1]) (t:=68) ?hr ?_;(case hd=>rfl);(case hg=>rfl);(case hr=>first|(go_simp;done)|(go_simp;rfl));intro gb183 hg w6 hbox hb;have n0_:=Aside0.mk (below_step HBW.out hb);have n1_:=Aside0.mk (below_step (by repeat(first|(with_reducible first|exact HB.out|apply below_alloc|apply pw_below_drewN|apply below_drew1)|exact HB.out)) hb);have n2_:=Aside0.mk (hbox);have n3_:=Aside0.mk ((by rw[hg];exact(below_size (by repeat(first|(with_reducible first|exact HBW.out|apply below_alloc|apply pw_below_drewN|apply below_drew1)|exact HBW.out))):w.heap.size≤gb183));have n4_:=Aside0.mk ((Nat.le_trans HW0.out (by rw[hg];exact(below_size (by repeat(first|(with_reducible first|exact HBW.out|apply below_alloc|apply pw_below_drewN|apply below_drew1)|exact HBW.out))):w.heap.size≤gb183):w0.heap.size≤gb183));clear HBW;clear HB;have HBW:=n0_;have HB:=n1_;have BK183:=n2_;have GW183:=n3_;have GE183:=n4_;clear n0_ n1_ n2_ n3_ n4_;clear hb hbox hg))
        go_ret
        exact⟨_,rfl,(show IsS68 w0 _ gb183 l0 0 x3_1 from⟨_,_,by(with_reducible repeat(first|refine blk_drewN ?_ _|refine blk_drew ?_|refine blk_alloc ?_ _));exact BK183.out,GE183.out,HR0.out⟩),by repeat(first|(with_reducible first|exact HB.out|apply below_alloc|apply pw_below_drewN|apply below_drew1|refine below_set ?_ GE183.out)|exact HB.out),by repeat(first|(with_reducible first|exact HBW.out|apply below_alloc|apply pw_below_drewN|apply below_drew1|refine below_set ?_ GW183.out)|exact HBW.out)⟩

/-! ### spec_DrawShowQty: function 5 -/
def spec_DrawShowQty.f (k:Nat) (l0:List Int):Option (Int×Int×Int×Int):=(spec_l1New.f k l0).bind fun bt185=>((spec_l20DrawQty.f k bt185.1 bt185.2.1 bt185.2.2).bind fun bt189=>(some (bt189.1,bt189.2.1,bt189.2.2.1,bt189.2.2.2.1)))
theorem spec_DrawShowQty.mono:∀a0 k,LeO (spec_DrawShowQty.f k a0) (spec_DrawShowQty.f (k+1) a0):=by
  intro a0 k
  unfold spec_DrawShowQty.f
  repeat' first
      |(with_reducible exact spec_l1New.mono _ _)
      |(with_reducible exact spec_l20DrawQty.mono _ _ _ _)
      |(with_reducible exact LeO.refl _)
      |(with_reducible exact LeO.none _)
      |(with_reducible refine LeO.ite ?_ ?_)
      |(with_reducible refine LeO.bind ?_ (fun _=> ?_))
      |exact spec_l1New.mono _ _
      |exact spec_l20DrawQty.mono _ _ _ _
      |exact LeO.none _
      |refine LeO.ite ?_ ?_
      |refine LeO.bind ?_ (fun _=> ?_)
set_option maxHeartbeats 8000000 in
set_option maxRecDepth 100000 in
theorem spec_DrawShowQty.calls (k:Nat) (A0:Option Addr) (c0:Nat) (l0:List Int) (r1:Int) (r2:Int) (r3:Int) (r4:Int) (w:World) (hr0:Kd.C (Kd.int .u8) w A0 l0.length l0) (hc0:l0.length≤c0) (h:spec_DrawShowQty.f k l0=some (r1,r2,r3,r4)):
    Calls Tryz.prog 5 #[.slice A0 l0.length c0] w fun e w'=>e= .returned (.agg #[.int .i64 r1, .int .i64 r2, .int .i64 r3, .int .i64 r4])∧Below w.heap.size w w':=by
  have hu25:=Tryz.underlying25
  have HR0:=Aside0.mk hr0
  have HC0:=Aside0.mk hc0
  clear hr0 hc0
  have HB:=Aside0.mk (Below.refl w.heap.size w)
  have H:((spec_l1New.f k l0).bind fun bt185=>((spec_l20DrawQty.f k bt185.1 bt185.2.1 bt185.2.2).bind fun bt189=>(some (bt189.1,bt189.2.1,bt189.2.2.1,bt189.2.2.2.1))))=some (r1,r2,r3,r4):=h
  clear h
  replace H:=Option.bind_eq_some_iff.mp H
  obtain⟨⟨t185,t186,t187⟩,A20,H⟩:=H
  replace H:((spec_l20DrawQty.f k t185 t186 t187).bind fun bt189=>(some (bt189.1,bt189.2.1,bt189.2.2.1,bt189.2.2.2.1)))=some (r1,r2,r3,r4):=H
  have A2:=Aside0.mk A20
  clear A20
  replace H:=Option.bind_eq_some_iff.mp H
  obtain⟨⟨t189,t190,t191,t192,t193,t194⟩,A30,H⟩:=H
  replace H:(some (t189,t190,t191,t192))=some (r1,r2,r3,r4):=H
  have A3:=Aside0.mk A30
  clear A30
  simp only[Option.some.injEq,Prod.mk.injEq] at H
  obtain⟨rfl,rfl,rfl,rfl⟩:=H
  go_enter Tryz.func5,Tryz.ntmps5
  go_wp2_with (first|((with_reducible refine gate_dst (N:=2) rfl ?_);refine box_event ?hg (N:=2) ?hd (cs:= #[.int .i64 0, .int .i64 0, .int .i64 0, .int .i64 0]) (t:=25) ?hr ?_;(case hd=>rfl);(case hg=>rfl);(case hr=>first|(go_simp;done)|(go_simp;rfl));intro gb184 hg w4 hbox hb;have n0_:=Aside0.mk (below_step (by repeat(first|(with_reducible first|exact HB.out|apply below_alloc|apply pw_below_drewN|apply below_drew1)|exact HB.out)) hb);have n1_:=Aside0.mk (hbox);have n2_:=Aside0.mk ((by rw[hg];exact(below_size (by repeat(first|(with_reducible first|exact HB.out|apply below_alloc|apply pw_below_drewN|apply below_drew1)|exact HB.out))):w.heap.size≤gb184));have n3_:=Aside0.mk ((by rw[hg];exact(below_size (by repeat(first|(with_reducible first|exact HB.out|apply below_alloc|apply pw_below_drewN|apply below_drew1)|exact HB.out))):w.heap.size≤gb184));clear HB;have HB:=n0_;have BK184:=n1_;have GW184:=n2_;have GE184:=n3_;clear n0_ n1_ n2_ n3_;clear hb hbox hg)|((with_reducible refine gate_callee (f:=13) rfl ?_);refine goesL_ (some 4) rfl rfl Tryz.func13 (by kernel_rfl) rfl #[.slice A0 l0.length c0] rfl (by(try simp only[List.map_toArray,List.map_cons,List.map_nil]);first|done|rfl|(simp only[List.length_drop,List.length_take];rfl)) ?_;(with_reducible refine(spec_l1New.calls k _ _ l0 t185 t186 t187 w _ ?side1 ?side2 ?side3 A2.out).mono ?_);(case side1=>repeat(first|(with_reducible first|exact HB.out|apply below_alloc|apply pw_below_drewN|apply below_drew1|refine below_set ?_ GE184.out)|exact HB.out));(case side2=>exact HR0.out);(case side3=>exact HC0.out);rintro e w5 ⟨g188,rfl,hi,hb,hb2⟩;refine⟨_,rfl,?_⟩;have n0_:=Aside0.mk (blk_below (g:=gb184) (o:= .cells #[.int .i64 0, .int .i64 0, .int .i64 0, .int .i64 0] 25 (0,0)) (by(with_reducible repeat(first|refine blk_drewN ?_ _|refine blk_drew ?_|refine blk_alloc ?_ _));exact BK184.out) hb2);have n1_:=Aside0.mk (hb);have n2_:=Aside0.mk (hi);have n3_:=Aside0.mk (IsS68.ne_blk hi (blk_below (g:=gb184) (o:= .cells #[.int .i64 0, .int .i64 0, .int .i64 0, .int .i64 0] 25 (0,0)) (by(with_reducible repeat(first|refine blk_drewN ?_ _|refine blk_drew ?_|refine blk_alloc ?_ _));exact BK184.out) hb2) (by decide));have n4_:=Aside0.mk (Ne.symm (IsS68.ne_blk hi (blk_below (g:=gb184) (o:= .cells #[.int .i64 0, .int .i64 0, .int .i64 0, .int .i64 0] 25 (0,0)) (by(with_reducible repeat(first|refine blk_drewN ?_ _|refine blk_drew ?_|refine blk_alloc ?_ _));exact BK184.out) hb2) (by decide)));clear BK184;clear HB;have BK184:=n0_;have HB:=n1_;have HI188:=n2_;have NB188_184:=n3_;have NB184_188:=n4_;clear n0_ n1_ n2_ n3_ n4_;(try clear hb);(try clear hb2);(try clear hk);(try clear hi))|((with_reducible refine gate_callee (f:=12) rfl ?_);refine goesL_ (some 5) rfl rfl Tryz.func12 (by kernel_rfl) rfl #[.pointer (some ⟨g188,0,none⟩)] rfl (by(try simp only[List.map_toArray,List.map_cons,List.map_nil]);first|done|rfl|(simp only[List.length_drop,List.length_take];rfl)) ?_;(with_reducible refine(spec_l20DrawQty.calls k g188 t185 t186 t187 t189 t190 t191 t192 t193 t194 w _ ?side1 ?side2 A3.out).mono ?_);(case side1=>repeat(first|(with_reducible first|exact HI188.out|apply IsS68.alloc|apply IsS68.drewN|apply IsS68.drew|apply IsS68.set_1|apply IsS68.set_2|refine IsS68.far ?_ NB188_184.out _)|exact HI188.out));(case side2=>repeat(first|(with_reducible first|exact HB.out|apply below_alloc|apply pw_below_drewN|apply below_drew1|refine below_set ?_ (IsS68.ge HI188.out)|refine below_set ?_ GE184.out)|exact HB.out));rintro e w6 ⟨rfl,hi,hb,hk⟩;refine⟨_,rfl,?_⟩;have n0_:=Aside0.mk (KeepBut.blk hk (g':=gb184) (o:= .cells #[.int .i64 0, .int .i64 0, .int .i64 0, .int .i64 0] 25 (0,0)) (by(with_reducible repeat(first|refine blk_drewN ?_ _|refine blk_drew ?_|refine blk_alloc ?_ _));exact BK184.out) NB184_188.out (by simp));have n1_:=Aside0.mk (hb);have n2_:=Aside0.mk (hi);clear BK184;clear HB;clear HI188;have BK184:=n0_;have HB:=n1_;have HI188:=n2_;clear n0_ n1_ n2_;(try clear hb);(try clear hb2);(try clear hk);(try clear hi);have hnb7:=NB184_188.out;have hnc7:=NB188_184.out;have hcz8_0:w6.cell? ⟨gb184,0,none⟩=some (.int .i64 0):=(blk_cell BK184.out 0).trans rfl;have hcz8_1:w6.cell? ⟨gb184,1,none⟩=some (.int .i64 0):=(blk_cell BK184.out 1).trans rfl;have hcz8_2:w6.cell? ⟨gb184,2,none⟩=some (.int .i64 0):=(blk_cell BK184.out 2).trans rfl;have hcz8_3:w6.cell? ⟨gb184,3,none⟩=some (.int .i64 0):=(blk_cell BK184.out 3).trans rfl;have hfz8_0:=blk_frozen BK184.out 0;have hfz8_1:=blk_frozen BK184.out 1;have hfz8_2:=blk_frozen BK184.out 2;have hfz8_3:=blk_frozen BK184.out 3))
  refine bodyPost_ret (results_cell_row rfl _ _ gb184 25 #[.int .i64 t189, .int .i64 t190, .int .i64 t191, .int .i64 t192] (0,0) _ rfl (by(with_reducible repeat(first|refine blk_drewN ?_ _|refine blk_drew ?_|refine blk_alloc ?_ _));refine blk_put (cs:= #[.int .i64 t189, .int .i64 t190, .int .i64 t191, .int .i64 0]) ?_ 3 _ rfl;(with_reducible repeat(first|refine blk_drewN ?_ _|refine blk_drew ?_|refine blk_alloc ?_ _));refine blk_put (cs:= #[.int .i64 t189, .int .i64 t190, .int .i64 0, .int .i64 0]) ?_ 2 _ rfl;(with_reducible repeat(first|refine blk_drewN ?_ _|refine blk_drew ?_|refine blk_alloc ?_ _));refine blk_put (cs:= #[.int .i64 t189, .int .i64 0, .int .i64 0, .int .i64 0]) ?_ 1 _ rfl;(with_reducible repeat(first|refine blk_drewN ?_ _|refine blk_drew ?_|refine blk_alloc ?_ _));refine blk_put (cs:= #[.int .i64 0, .int .i64 0, .int .i64 0, .int .i64 0]) ?_ 0 _ rfl;(with_reducible repeat(first|refine blk_drewN ?_ _|refine blk_drew ?_|refine blk_alloc ?_ _));exact BK184.out) Tryz.underlying25 rfl (by kernel_rfl)) rfl ?_
  exact⟨by first|rfl|(simp[errW_none,errW_some]<;>rfl)|(simp[*,errW_none,errW_some]<;>rfl),by repeat(first|(with_reducible first|exact HB.out|apply below_alloc|apply pw_below_drewN|apply below_drew1|refine below_set ?_ (IsS68.ge HI188.out)|refine below_set ?_ GE184.out)|exact HB.out)⟩

/-! ### impl_sample: function 36 -/
def impl_sample.f (a0:Int):Option (Bool):=if a0≥(-1000000000) then(some (decide (a0≤1000000000))) else(some false)
set_option maxHeartbeats 8000000 in
set_option maxRecDepth 100000 in
theorem impl_sample.calls (a0:Int) (r:Bool) (w:World) (h:impl_sample.f a0=some r):
    Calls Tryz.prog 36 #[.int .i64 a0] w fun e w'=>e= .returned (.bool r)∧Drawn0 w w':=by
  have H:(if a0≥(-1000000000) then(some (decide (a0≤1000000000))) else(some false))=some r:=h
  clear h
  by_cases c2:a0≥(-1000000000)
  · rw[if_pos c2] at H
    have c2b0:decide ((-1000000000)≤a0)=true:=decide_eq_true c2
    clear c2
    obtain rfl:=Option.some.inj H
    go_enter Tryz.func36,Tryz.ntmps36
    go_wp2
    go_ret
    exact⟨by first|rfl|(simp;done)|(simp[*];done),by repeat(first|exact Drawn0.refl _|apply Drawn0.step)⟩
  · rw[if_neg c2] at H
    have c2b0:decide ((-1000000000)≤a0)=false:=decide_eq_false c2
    clear c2
    obtain rfl:=Option.some.inj H
    go_enter Tryz.func36,Tryz.ntmps36
    go_wp2
    go_ret
    exact⟨by first|rfl|(simp;done)|(simp[*];done),by repeat(first|exact Drawn0.refl _|apply Drawn0.step)⟩

/-! ### impl_to: function 37 -/
def impl_to.f (a0:Int) (a1:Int) (a2:Int):Option (Bool):=if a0≥a1 then(some (decide (a0≤a2))) else(some false)
set_option maxHeartbeats 8000000 in
set_option maxRecDepth 100000 in
theorem impl_to.calls (a0:Int) (a1:Int) (a2:Int) (r:Bool) (w:World) (h:impl_to.f a0 a1 a2=some r):
    Calls Tryz.prog 37 #[.int .i64 a0, .int .i64 a1, .int .i64 a2] w fun e w'=>e= .returned (.bool r)∧Drawn0 w w':=by
  have H:(if a0≥a1 then(some (decide (a0≤a2))) else(some false))=some r:=h
  clear h
  by_cases c4:a0≥a1
  · rw[if_pos c4] at H
    have c4b0:decide (a1≤a0)=true:=decide_eq_true c4
    clear c4
    obtain rfl:=Option.some.inj H
    go_enter Tryz.func37,Tryz.ntmps37
    go_wp2
    go_ret
    exact⟨by first|rfl|(simp;done)|(simp[*];done),by repeat(first|exact Drawn0.refl _|apply Drawn0.step)⟩
  · rw[if_neg c4] at H
    have c4b0:decide (a1≤a0)=false:=decide_eq_false c4
    clear c4
    obtain rfl:=Option.some.inj H
    go_enter Tryz.func37,Tryz.ntmps37
    go_wp2
    go_ret
    exact⟨by first|rfl|(simp;done)|(simp[*];done),by repeat(first|exact Drawn0.refl _|apply Drawn0.step)⟩

/-! ### impl_QtyOk: function 11 -/
def impl_QtyOk.f (a0_0:Int) (a0_1:Int) (a0_2:Int) (a0_3:Int):Option (Bool):=(impl_sample.f a0_0).bind fun t196=>(if t196=true then(if(Int.tmod a0_0 10)=0 then(if a0_0=0 then(if a0_1=0 then((impl_to.f a0_1 (-30) 30).bind fun t197=>(if t197=true then((impl_to.f a0_2 (-9) 9).bind fun t198=>(if t198=true then((impl_to.f a0_3 (-9) 9).bind fun t199=>(some t199)) else(some false))) else(some false))) else(some false)) else(some false)) else((impl_to.f a0_1 (-30) 30).bind fun t200=>(if t200=true then((impl_to.f a0_2 (-9) 9).bind fun t201=>(if t201=true then((impl_to.f a0_3 (-9) 9).bind fun t202=>(some t202)) else(some false))) else(some false)))) else(some false))
set_option maxHeartbeats 8000000 in
set_option maxRecDepth 100000 in
theorem impl_QtyOk.calls (a0_0:Int) (a0_1:Int) (a0_2:Int) (a0_3:Int) (r:Bool) (w:World) (h:impl_QtyOk.f a0_0 a0_1 a0_2 a0_3=some r):
    Calls Tryz.prog 11 #[.agg #[.int .i64 a0_0, .int .i64 a0_1, .int .i64 a0_2, .int .i64 a0_3]] w fun e w'=>e= .returned (.bool r)∧Below w.heap.size w w':=by
  have hu25:=Tryz.underlying25
  have HB:=Aside0.mk (Below.refl w.heap.size w)
  have H:((impl_sample.f a0_0).bind fun t196=>(if t196=true then(if(Int.tmod a0_0 10)=0 then(if a0_0=0 then(if a0_1=0 then((impl_to.f a0_1 (-30) 30).bind fun t197=>(if t197=true then((impl_to.f a0_2 (-9) 9).bind fun t198=>(if t198=true then((impl_to.f a0_3 (-9) 9).bind fun t199=>(some t199)) else(some false))) else(some false))) else(some false)) else(some false)) else((impl_to.f a0_1 (-30) 30).bind fun t200=>(if t200=true then((impl_to.f a0_2 (-9) 9).bind fun t201=>(if t201=true then((impl_to.f a0_3 (-9) 9).bind fun t202=>(some t202)) else(some false))) else(some false)))) else(some false)))=some r:=h
  clear h
  replace H:=Option.bind_eq_some_iff.mp H
  obtain⟨t196,A20,H⟩:=H
  replace H:(if t196=true then(if(Int.tmod a0_0 10)=0 then(if a0_0=0 then(if a0_1=0 then((impl_to.f a0_1 (-30) 30).bind fun t197=>(if t197=true then((impl_to.f a0_2 (-9) 9).bind fun t198=>(if t198=true then((impl_to.f a0_3 (-9) 9).bind fun t199=>(some t199)) else(some false))) else(some false))) else(some false)) else(some false)) else((impl_to.f a0_1 (-30) 30).bind fun t200=>(if t200=true then((impl_to.f a0_2 (-9) 9).bind fun t201=>(if t201=true then((impl_to.f a0_3 (-9) 9).bind fun t202=>(some t202)) else(some false))) else(some false)))) else(some false))=some r:=H
  have A2:=Aside0.mk A20
  clear A20
  by_cases c3:t196=true
  · subst c3
    have H1:(if(Int.tmod a0_0 10)=0 then(if a0_0=0 then(if a0_1=0 then((impl_to.f a0_1 (-30) 30).bind fun t197=>(if t197=true then((impl_to.f a0_2 (-9) 9).bind fun t198=>(if t198=true then((impl_to.f a0_3 (-9) 9).bind fun t199=>(some t199)) else(some false))) else(some false))) else(some false)) else(some false)) else((impl_to.f a0_1 (-30) 30).bind fun t200=>(if t200=true then((impl_to.f a0_2 (-9) 9).bind fun t201=>(if t201=true then((impl_to.f a0_3 (-9) 9).bind fun t202=>(some t202)) else(some false))) else(some false))))=some r:=by rw[if_pos rfl] at H;exact H
    clear H
    have H:=H1
    clear H1
    by_cases c4:(Int.tmod a0_0 10)=0
    · rw [if_pos c4] at H
      have c4b0:((Int.tmod a0_0 10)==0)=true:=beq_iff_eq.mpr c4
      have c4b1:((Int.tmod a0_0 10) != 0)=false:=bne_eq_false_iff_eq.mpr c4
      clear c4
      by_cases c5:a0_0=0
      · rw [if_pos c5] at H
        have c5b0:(a0_0==0)=true:=beq_iff_eq.mpr c5
        have c5b1:(a0_0 != 0)=false:=bne_eq_false_iff_eq.mpr c5
        clear c5
        by_cases c6:a0_1=0
        · rw [if_pos c6] at H
          have c6b0:(a0_1==0)=true:=beq_iff_eq.mpr c6
          have c6b1:(a0_1 != 0)=false:=bne_eq_false_iff_eq.mpr c6
          clear c6
          replace H:=Option.bind_eq_some_iff.mp H
          obtain⟨t197,A70,H⟩:=H
          replace H:(if t197=true then((impl_to.f a0_2 (-9) 9).bind fun t198=>(if t198=true then((impl_to.f a0_3 (-9) 9).bind fun t199=>(some t199)) else(some false))) else(some false))=some r:=H
          have A7:=Aside0.mk A70
          clear A70
          by_cases c8:t197=true
          · subst c8
            have H1:((impl_to.f a0_2 (-9) 9).bind fun t198=>(if t198=true then((impl_to.f a0_3 (-9) 9).bind fun t199=>(some t199)) else(some false)))=some r:=by rw[if_pos rfl] at H;exact H
            clear H
            have H:=H1
            clear H1
            replace H:=Option.bind_eq_some_iff.mp H
            obtain⟨t198,A90,H⟩:=H
            replace H:(if t198=true then((impl_to.f a0_3 (-9) 9).bind fun t199=>(some t199)) else(some false))=some r:=H
            have A9:=Aside0.mk A90
            clear A90
            by_cases c10:t198=true
            · subst c10
              have H1:((impl_to.f a0_3 (-9) 9).bind fun t199=>(some t199))=some r:=by rw[if_pos rfl] at H;exact H
              clear H
              have H:=H1
              clear H1
              replace H:=Option.bind_eq_some_iff.mp H
              obtain⟨t199,A110,H⟩:=H
              replace H:(some t199)=some r:=H
              have A11:=Aside0.mk A110
              clear A110
              obtain rfl:=Option.some.inj H
              go_enter Tryz.func11,Tryz.ntmps11
              go_wp2_with (first|((with_reducible refine gate_dst (N:=1) rfl ?_);refine box_event ?hg (N:=1) ?hd (cs:= #[.int .i64 a0_0, .int .i64 a0_1, .int .i64 a0_2, .int .i64 a0_3]) (t:=25) ?hr ?_;(case hd=>rfl);(case hg=>rfl);(case hr=>first|(go_simp;done)|(go_simp;rfl));intro gb195 hg w12 hbox hb;have n0_:=Aside0.mk (below_step (by repeat(first|(with_reducible first|exact HB.out|apply below_alloc|apply pw_below_drewN|apply below_drew1)|exact HB.out)) hb);have n1_:=Aside0.mk (hbox);have n2_:=Aside0.mk ((by rw[hg];exact(below_size (by repeat(first|(with_reducible first|exact HB.out|apply below_alloc|apply pw_below_drewN|apply below_drew1)|exact HB.out))):w.heap.size≤gb195));have n3_:=Aside0.mk ((by rw[hg];exact(below_size (by repeat(first|(with_reducible first|exact HB.out|apply below_alloc|apply pw_below_drewN|apply below_drew1)|exact HB.out))):w.heap.size≤gb195));clear HB;have HB:=n0_;have BK195:=n1_;have GW195:=n2_;have GE195:=n3_;clear n0_ n1_ n2_ n3_;clear hb hbox hg;have hcz13_0:w12.cell? ⟨gb195,0,none⟩=some (.int .i64 a0_0):=(blk_cell BK195.out 0).trans rfl;have hcz13_1:w12.cell? ⟨gb195,1,none⟩=some (.int .i64 a0_1):=(blk_cell BK195.out 1).trans rfl;have hcz13_2:w12.cell? ⟨gb195,2,none⟩=some (.int .i64 a0_2):=(blk_cell BK195.out 2).trans rfl;have hcz13_3:w12.cell? ⟨gb195,3,none⟩=some (.int .i64 a0_3):=(blk_cell BK195.out 3).trans rfl;have hfz13_0:=blk_frozen BK195.out 0;have hfz13_1:=blk_frozen BK195.out 1;have hfz13_2:=blk_frozen BK195.out 2;have hfz13_3:=blk_frozen BK195.out 3)|((with_reducible refine gate_callee (f:=36) rfl ?_);refine goesL_ (some 5) rfl rfl Tryz.func36 (by kernel_rfl) rfl #[.int .i64 a0_0] rfl (by(try simp only[List.map_toArray,List.map_cons,List.map_nil]);first|done|rfl|(simp only[List.length_drop,List.length_take];rfl)) ?_;(with_reducible refine(impl_sample.calls a0_0 true _ A2.out).mono ?_);rintro e w' ⟨rfl,⟨nd,rfl⟩⟩;refine⟨_,rfl,?_⟩)|(go_at_call 37;(with_reducible refine(impl_to.calls a0_1 (-30) 30 true _ A7.out).mono ?_);rintro e w' ⟨rfl,⟨nd,rfl⟩⟩)|(go_at_call 37;(with_reducible refine(impl_to.calls a0_2 (-9) 9 true _ A9.out).mono ?_);rintro e w' ⟨rfl,⟨nd,rfl⟩⟩)|(go_at_call 37;(with_reducible refine(impl_to.calls a0_3 (-9) 9 t199 _ A11.out).mono ?_);rintro e w' ⟨rfl,⟨nd,rfl⟩⟩))
              go_ret
              exact⟨by first|rfl|(simp[errW_none,errW_some]<;>rfl)|(simp[*,errW_none,errW_some]<;>rfl),by repeat(first|(with_reducible first|exact HB.out|apply below_alloc|apply pw_below_drewN|apply below_drew1|refine below_set ?_ GE195.out)|exact HB.out)⟩
            · replace c10:=Bool.eq_false_iff.mpr c10
              subst c10
              have H1:(some false)=some r:=by rw[if_neg (show ¬(false=true) by decide)] at H;exact H
              clear H
              have H:=H1
              clear H1
              obtain rfl:=Option.some.inj H
              go_enter Tryz.func11,Tryz.ntmps11
              go_wp2_with (first|((with_reducible refine gate_dst (N:=1) rfl ?_);refine box_event ?hg (N:=1) ?hd (cs:= #[.int .i64 a0_0, .int .i64 a0_1, .int .i64 a0_2, .int .i64 a0_3]) (t:=25) ?hr ?_;(case hd=>rfl);(case hg=>rfl);(case hr=>first|(go_simp;done)|(go_simp;rfl));intro gb195 hg w14 hbox hb;have n0_:=Aside0.mk (below_step (by repeat(first|(with_reducible first|exact HB.out|apply below_alloc|apply pw_below_drewN|apply below_drew1)|exact HB.out)) hb);have n1_:=Aside0.mk (hbox);have n2_:=Aside0.mk ((by rw[hg];exact(below_size (by repeat(first|(with_reducible first|exact HB.out|apply below_alloc|apply pw_below_drewN|apply below_drew1)|exact HB.out))):w.heap.size≤gb195));have n3_:=Aside0.mk ((by rw[hg];exact(below_size (by repeat(first|(with_reducible first|exact HB.out|apply below_alloc|apply pw_below_drewN|apply below_drew1)|exact HB.out))):w.heap.size≤gb195));clear HB;have HB:=n0_;have BK195:=n1_;have GW195:=n2_;have GE195:=n3_;clear n0_ n1_ n2_ n3_;clear hb hbox hg;have hcz15_0:w14.cell? ⟨gb195,0,none⟩=some (.int .i64 a0_0):=(blk_cell BK195.out 0).trans rfl;have hcz15_1:w14.cell? ⟨gb195,1,none⟩=some (.int .i64 a0_1):=(blk_cell BK195.out 1).trans rfl;have hcz15_2:w14.cell? ⟨gb195,2,none⟩=some (.int .i64 a0_2):=(blk_cell BK195.out 2).trans rfl;have hcz15_3:w14.cell? ⟨gb195,3,none⟩=some (.int .i64 a0_3):=(blk_cell BK195.out 3).trans rfl;have hfz15_0:=blk_frozen BK195.out 0;have hfz15_1:=blk_frozen BK195.out 1;have hfz15_2:=blk_frozen BK195.out 2;have hfz15_3:=blk_frozen BK195.out 3)|((with_reducible refine gate_callee (f:=36) rfl ?_);refine goesL_ (some 5) rfl rfl Tryz.func36 (by kernel_rfl) rfl #[.int .i64 a0_0] rfl (by(try simp only[List.map_toArray,List.map_cons,List.map_nil]);first|done|rfl|(simp only[List.length_drop,List.length_take];rfl)) ?_;(with_reducible refine(impl_sample.calls a0_0 true _ A2.out).mono ?_);rintro e w' ⟨rfl,⟨nd,rfl⟩⟩;refine⟨_,rfl,?_⟩)|(go_at_call 37;(with_reducible refine(impl_to.calls a0_1 (-30) 30 true _ A7.out).mono ?_);rintro e w' ⟨rfl,⟨nd,rfl⟩⟩)|(go_at_call 37;(with_reducible refine(impl_to.calls a0_2 (-9) 9 false _ A9.out).mono ?_);rintro e w' ⟨rfl,⟨nd,rfl⟩⟩))
              go_ret
              exact⟨by first|rfl|(simp[errW_none,errW_some]<;>rfl)|(simp[*,errW_none,errW_some]<;>rfl),by repeat(first|(with_reducible first|exact HB.out|apply below_alloc|apply pw_below_drewN|apply below_drew1|refine below_set ?_ GE195.out)|exact HB.out)⟩
          · replace c8:=Bool.eq_false_iff.mpr c8
            subst c8
            have H1:(some false)=some r:=by rw[if_neg (show ¬(false=true) by decide)] at H;exact H
            clear H
            have H:=H1
            clear H1
            obtain rfl:=Option.some.inj H
            go_enter Tryz.func11,Tryz.ntmps11
            go_wp2_with (first|((with_reducible refine gate_dst (N:=1) rfl ?_);refine box_event ?hg (N:=1) ?hd (cs:= #[.int .i64 a0_0, .int .i64 a0_1, .int .i64 a0_2, .int .i64 a0_3]) (t:=25) ?hr ?_;(case hd=>rfl);(case hg=>rfl);(case hr=>first|(go_simp;done)|(go_simp;rfl));intro gb195 hg w16 hbox hb;have n0_:=Aside0.mk (below_step (by repeat(first|(with_reducible first|exact HB.out|apply below_alloc|apply pw_below_drewN|apply below_drew1)|exact HB.out)) hb);have n1_:=Aside0.mk (hbox);have n2_:=Aside0.mk ((by rw[hg];exact(below_size (by repeat(first|(with_reducible first|exact HB.out|apply below_alloc|apply pw_below_drewN|apply below_drew1)|exact HB.out))):w.heap.size≤gb195));have n3_:=Aside0.mk ((by rw[hg];exact(below_size (by repeat(first|(with_reducible first|exact HB.out|apply below_alloc|apply pw_below_drewN|apply below_drew1)|exact HB.out))):w.heap.size≤gb195));clear HB;have HB:=n0_;have BK195:=n1_;have GW195:=n2_;have GE195:=n3_;clear n0_ n1_ n2_ n3_;clear hb hbox hg;have hcz17_0:w16.cell? ⟨gb195,0,none⟩=some (.int .i64 a0_0):=(blk_cell BK195.out 0).trans rfl;have hcz17_1:w16.cell? ⟨gb195,1,none⟩=some (.int .i64 a0_1):=(blk_cell BK195.out 1).trans rfl;have hcz17_2:w16.cell? ⟨gb195,2,none⟩=some (.int .i64 a0_2):=(blk_cell BK195.out 2).trans rfl;have hcz17_3:w16.cell? ⟨gb195,3,none⟩=some (.int .i64 a0_3):=(blk_cell BK195.out 3).trans rfl;have hfz17_0:=blk_frozen BK195.out 0;have hfz17_1:=blk_frozen BK195.out 1;have hfz17_2:=blk_frozen BK195.out 2;have hfz17_3:=blk_frozen BK195.out 3)|((with_reducible refine gate_callee (f:=36) rfl ?_);refine goesL_ (some 5) rfl rfl Tryz.func36 (by kernel_rfl) rfl #[.int .i64 a0_0] rfl (by(try simp only[List.map_toArray,List.map_cons,List.map_nil]);first|done|rfl|(simp only[List.length_drop,List.length_take];rfl)) ?_;(with_reducible refine(impl_sample.calls a0_0 true _ A2.out).mono ?_);rintro e w' ⟨rfl,⟨nd,rfl⟩⟩;refine⟨_,rfl,?_⟩)|(go_at_call 37;(with_reducible refine(impl_to.calls a0_1 (-30) 30 false _ A7.out).mono ?_);rintro e w' ⟨rfl,⟨nd,rfl⟩⟩))
            go_ret
            exact⟨by first|rfl|(simp[errW_none,errW_some]<;>rfl)|(simp[*,errW_none,errW_some]<;>rfl),by repeat(first|(with_reducible first|exact HB.out|apply below_alloc|apply pw_below_drewN|apply below_drew1|refine below_set ?_ GE195.out)|exact HB.out)⟩
        · rw[if_neg c6] at H
          have c6b0:(a0_1==0)=false:=beq_eq_false_iff_ne.mpr c6
          have c6b1:(a0_1 != 0)=true:=bne_iff_ne.mpr c6
          obtain rfl:=Option.some.inj H
          go_enter Tryz.func11,Tryz.ntmps11
          go_wp2_with (first|((with_reducible refine gate_dst (N:=1) rfl ?_);refine box_event ?hg (N:=1) ?hd (cs:= #[.int .i64 a0_0, .int .i64 a0_1, .int .i64 a0_2, .int .i64 a0_3]) (t:=25) ?hr ?_;(case hd=>rfl);(case hg=>rfl);(case hr=>first|(go_simp;done)|(go_simp;rfl));intro gb195 hg w18 hbox hb;have n0_:=Aside0.mk (below_step (by repeat(first|(with_reducible first|exact HB.out|apply below_alloc|apply pw_below_drewN|apply below_drew1)|exact HB.out)) hb);have n1_:=Aside0.mk (hbox);have n2_:=Aside0.mk ((by rw[hg];exact(below_size (by repeat(first|(with_reducible first|exact HB.out|apply below_alloc|apply pw_below_drewN|apply below_drew1)|exact HB.out))):w.heap.size≤gb195));have n3_:=Aside0.mk ((by rw[hg];exact(below_size (by repeat(first|(with_reducible first|exact HB.out|apply below_alloc|apply pw_below_drewN|apply below_drew1)|exact HB.out))):w.heap.size≤gb195));clear HB;have HB:=n0_;have BK195:=n1_;have GW195:=n2_;have GE195:=n3_;clear n0_ n1_ n2_ n3_;clear hb hbox hg;have hcz19_0:w18.cell? ⟨gb195,0,none⟩=some (.int .i64 a0_0):=(blk_cell BK195.out 0).trans rfl;have hcz19_1:w18.cell? ⟨gb195,1,none⟩=some (.int .i64 a0_1):=(blk_cell BK195.out 1).trans rfl;have hcz19_2:w18.cell? ⟨gb195,2,none⟩=some (.int .i64 a0_2):=(blk_cell BK195.out 2).trans rfl;have hcz19_3:w18.cell? ⟨gb195,3,none⟩=some (.int .i64 a0_3):=(blk_cell BK195.out 3).trans rfl;have hfz19_0:=blk_frozen BK195.out 0;have hfz19_1:=blk_frozen BK195.out 1;have hfz19_2:=blk_frozen BK195.out 2;have hfz19_3:=blk_frozen BK195.out 3)|((with_reducible refine gate_callee (f:=36) rfl ?_);refine goesL_ (some 5) rfl rfl Tryz.func36 (by kernel_rfl) rfl #[.int .i64 a0_0] rfl (by(try simp only[List.map_toArray,List.map_cons,List.map_nil]);first|done|rfl|(simp only[List.length_drop,List.length_take];rfl)) ?_;(with_reducible refine(impl_sample.calls a0_0 true _ A2.out).mono ?_);rintro e w' ⟨rfl,⟨nd,rfl⟩⟩;refine⟨_,rfl,?_⟩))
          go_ret
          exact⟨by first|rfl|(simp[errW_none,errW_some]<;>rfl)|(simp[*,errW_none,errW_some]<;>rfl),by repeat(first|(with_reducible first|exact HB.out|apply below_alloc|apply pw_below_drewN|apply below_drew1|refine below_set ?_ GE195.out)|exact HB.out)⟩
      · rw[if_neg c5] at H
        have c5b0:(a0_0==0)=false:=beq_eq_false_iff_ne.mpr c5
        have c5b1:(a0_0 != 0)=true:=bne_iff_ne.mpr c5
        obtain rfl:=Option.some.inj H
        go_enter Tryz.func11,Tryz.ntmps11
        go_wp2_with (first|((with_reducible refine gate_dst (N:=1) rfl ?_);refine box_event ?hg (N:=1) ?hd (cs:= #[.int .i64 a0_0, .int .i64 a0_1, .int .i64 a0_2, .int .i64 a0_3]) (t:=25) ?hr ?_;(case hd=>rfl);(case hg=>rfl);(case hr=>first|(go_simp;done)|(go_simp;rfl));intro gb195 hg w20 hbox hb;have n0_:=Aside0.mk (below_step (by repeat(first|(with_reducible first|exact HB.out|apply below_alloc|apply pw_below_drewN|apply below_drew1)|exact HB.out)) hb);have n1_:=Aside0.mk (hbox);have n2_:=Aside0.mk ((by rw[hg];exact(below_size (by repeat(first|(with_reducible first|exact HB.out|apply below_alloc|apply pw_below_drewN|apply below_drew1)|exact HB.out))):w.heap.size≤gb195));have n3_:=Aside0.mk ((by rw[hg];exact(below_size (by repeat(first|(with_reducible first|exact HB.out|apply below_alloc|apply pw_below_drewN|apply below_drew1)|exact HB.out))):w.heap.size≤gb195));clear HB;have HB:=n0_;have BK195:=n1_;have GW195:=n2_;have GE195:=n3_;clear n0_ n1_ n2_ n3_;clear hb hbox hg;have hcz21_0:w20.cell? ⟨gb195,0,none⟩=some (.int .i64 a0_0):=(blk_cell BK195.out 0).trans rfl;have hcz21_1:w20.cell? ⟨gb195,1,none⟩=some (.int .i64 a0_1):=(blk_cell BK195.out 1).trans rfl;have hcz21_2:w20.cell? ⟨gb195,2,none⟩=some (.int .i64 a0_2):=(blk_cell BK195.out 2).trans rfl;have hcz21_3:w20.cell? ⟨gb195,3,none⟩=some (.int .i64 a0_3):=(blk_cell BK195.out 3).trans rfl;have hfz21_0:=blk_frozen BK195.out 0;have hfz21_1:=blk_frozen BK195.out 1;have hfz21_2:=blk_frozen BK195.out 2;have hfz21_3:=blk_frozen BK195.out 3)|((with_reducible refine gate_callee (f:=36) rfl ?_);refine goesL_ (some 5) rfl rfl Tryz.func36 (by kernel_rfl) rfl #[.int .i64 a0_0] rfl (by(try simp only[List.map_toArray,List.map_cons,List.map_nil]);first|done|rfl|(simp only[List.length_drop,List.length_take];rfl)) ?_;(with_reducible refine(impl_sample.calls a0_0 true _ A2.out).mono ?_);rintro e w' ⟨rfl,⟨nd,rfl⟩⟩;refine⟨_,rfl,?_⟩))
        go_ret
        exact⟨by first|rfl|(simp[errW_none,errW_some]<;>rfl)|(simp[*,errW_none,errW_some]<;>rfl),by repeat(first|(with_reducible first|exact HB.out|apply below_alloc|apply pw_below_drewN|apply below_drew1|refine below_set ?_ GE195.out)|exact HB.out)⟩
    · rw [if_neg c4] at H
      have c4b0:((Int.tmod a0_0 10)==0)=false:=beq_eq_false_iff_ne.mpr c4
      have c4b1:((Int.tmod a0_0 10) != 0)=true:=bne_iff_ne.mpr c4
      replace H:=Option.bind_eq_some_iff.mp H
      obtain⟨t200,A220,H⟩:=H
      replace H:(if t200=true then((impl_to.f a0_2 (-9) 9).bind fun t201=>(if t201=true then((impl_to.f a0_3 (-9) 9).bind fun t202=>(some t202)) else(some false))) else(some false))=some r:=H
      have A22:=Aside0.mk A220
      clear A220
      by_cases c23:t200=true
      · subst c23
        have H1:((impl_to.f a0_2 (-9) 9).bind fun t201=>(if t201=true then((impl_to.f a0_3 (-9) 9).bind fun t202=>(some t202)) else(some false)))=some r:=by rw[if_pos rfl] at H;exact H
        clear H
        have H:=H1
        clear H1
        replace H:=Option.bind_eq_some_iff.mp H
        obtain⟨t201,A240,H⟩:=H
        replace H:(if t201=true then((impl_to.f a0_3 (-9) 9).bind fun t202=>(some t202)) else(some false))=some r:=H
        have A24:=Aside0.mk A240
        clear A240
        by_cases c25:t201=true
        · subst c25
          have H1:((impl_to.f a0_3 (-9) 9).bind fun t202=>(some t202))=some r:=by rw[if_pos rfl] at H;exact H
          clear H
          have H:=H1
          clear H1
          replace H:=Option.bind_eq_some_iff.mp H
          obtain⟨t202,A260,H⟩:=H
          replace H:(some t202)=some r:=H
          have A26:=Aside0.mk A260
          clear A260
          obtain rfl:=Option.some.inj H
          go_enter Tryz.func11,Tryz.ntmps11
          go_wp2_with (first|((with_reducible refine gate_dst (N:=1) rfl ?_);refine box_event ?hg (N:=1) ?hd (cs:= #[.int .i64 a0_0, .int .i64 a0_1, .int .i64 a0_2, .int .i64 a0_3]) (t:=25) ?hr ?_;(case hd=>rfl);(case hg=>rfl);(case hr=>first|(go_simp;done)|(go_simp;rfl));intro gb195 hg w27 hbox hb;have n0_:=Aside0.mk (below_step (by repeat(first|(with_reducible first|exact HB.out|apply below_alloc|apply pw_below_drewN|apply below_drew1)|exact HB.out)) hb);have n1_:=Aside0.mk (hbox);have n2_:=Aside0.mk ((by rw[hg];exact(below_size (by repeat(first|(with_reducible first|exact HB.out|apply below_alloc|apply pw_below_drewN|apply below_drew1)|exact HB.out))):w.heap.size≤gb195));have n3_:=Aside0.mk ((by rw[hg];exact(below_size (by repeat(first|(with_reducible first|exact HB.out|apply below_alloc|apply pw_below_drewN|apply below_drew1)|exact HB.out))):w.heap.size≤gb195));clear HB;have HB:=n0_;have BK195:=n1_;have GW195:=n2_;have GE195:=n3_;clear n0_ n1_ n2_ n3_;clear hb hbox hg;have hcz28_0:w27.cell? ⟨gb195,0,none⟩=some (.int .i64 a0_0):=(blk_cell BK195.out 0).trans rfl;have hcz28_1:w27.cell? ⟨gb195,1,none⟩=some (.int .i64 a0_1):=(blk_cell BK195.out 1).trans rfl;have hcz28_2:w27.cell? ⟨gb195,2,none⟩=some (.int .i64 a0_2):=(blk_cell BK195.out 2).trans rfl;have hcz28_3:w27.cell? ⟨gb195,3,none⟩=some (.int .i64 a0_3):=(blk_cell BK195.out 3).trans rfl;have hfz28_0:=blk_frozen BK195.out 0;have hfz28_1:=blk_frozen BK195.out 1;have hfz28_2:=blk_frozen BK195.out 2;have hfz28_3:=blk_frozen BK195.out 3)|((with_reducible refine gate_callee (f:=36) rfl ?_);refine goesL_ (some 5) rfl rfl Tryz.func36 (by kernel_rfl) rfl #[.int .i64 a0_0] rfl (by(try simp only[List.map_toArray,List.map_cons,List.map_nil]);first|done|rfl|(simp only[List.length_drop,List.length_take];rfl)) ?_;(with_reducible refine(impl_sample.calls a0_0 true _ A2.out).mono ?_);rintro e w' ⟨rfl,⟨nd,rfl⟩⟩;refine⟨_,rfl,?_⟩)|(go_at_call 37;(with_reducible refine(impl_to.calls a0_1 (-30) 30 true _ A22.out).mono ?_);rintro e w' ⟨rfl,⟨nd,rfl⟩⟩)|(go_at_call 37;(with_reducible refine(impl_to.calls a0_2 (-9) 9 true _ A24.out).mono ?_);rintro e w' ⟨rfl,⟨nd,rfl⟩⟩)|(go_at_call 37;(with_reducible refine(impl_to.calls a0_3 (-9) 9 t202 _ A26.out).mono ?_);rintro e w' ⟨rfl,⟨nd,rfl⟩⟩))
          go_ret
          exact⟨by first|rfl|(simp[errW_none,errW_some]<;>rfl)|(simp[*,errW_none,errW_some]<;>rfl),by repeat(first|(with_reducible first|exact HB.out|apply below_alloc|apply pw_below_drewN|apply below_drew1|refine below_set ?_ GE195.out)|exact HB.out)⟩
        · replace c25:=Bool.eq_false_iff.mpr c25
          subst c25
          have H1:(some false)=some r:=by rw[if_neg (show ¬(false=true) by decide)] at H;exact H
          clear H
          have H:=H1
          clear H1
          obtain rfl:=Option.some.inj H
          go_enter Tryz.func11,Tryz.ntmps11
          go_wp2_with (first|((with_reducible refine gate_dst (N:=1) rfl ?_);refine box_event ?hg (N:=1) ?hd (cs:= #[.int .i64 a0_0, .int .i64 a0_1, .int .i64 a0_2, .int .i64 a0_3]) (t:=25) ?hr ?_;(case hd=>rfl);(case hg=>rfl);(case hr=>first|(go_simp;done)|(go_simp;rfl));intro gb195 hg w29 hbox hb;have n0_:=Aside0.mk (below_step (by repeat(first|(with_reducible first|exact HB.out|apply below_alloc|apply pw_below_drewN|apply below_drew1)|exact HB.out)) hb);have n1_:=Aside0.mk (hbox);have n2_:=Aside0.mk ((by rw[hg];exact(below_size (by repeat(first|(with_reducible first|exact HB.out|apply below_alloc|apply pw_below_drewN|apply below_drew1)|exact HB.out))):w.heap.size≤gb195));have n3_:=Aside0.mk ((by rw[hg];exact(below_size (by repeat(first|(with_reducible first|exact HB.out|apply below_alloc|apply pw_below_drewN|apply below_drew1)|exact HB.out))):w.heap.size≤gb195));clear HB;have HB:=n0_;have BK195:=n1_;have GW195:=n2_;have GE195:=n3_;clear n0_ n1_ n2_ n3_;clear hb hbox hg;have hcz30_0:w29.cell? ⟨gb195,0,none⟩=some (.int .i64 a0_0):=(blk_cell BK195.out 0).trans rfl;have hcz30_1:w29.cell? ⟨gb195,1,none⟩=some (.int .i64 a0_1):=(blk_cell BK195.out 1).trans rfl;have hcz30_2:w29.cell? ⟨gb195,2,none⟩=some (.int .i64 a0_2):=(blk_cell BK195.out 2).trans rfl;have hcz30_3:w29.cell? ⟨gb195,3,none⟩=some (.int .i64 a0_3):=(blk_cell BK195.out 3).trans rfl;have hfz30_0:=blk_frozen BK195.out 0;have hfz30_1:=blk_frozen BK195.out 1;have hfz30_2:=blk_frozen BK195.out 2;have hfz30_3:=blk_frozen BK195.out 3)|((with_reducible refine gate_callee (f:=36) rfl ?_);refine goesL_ (some 5) rfl rfl Tryz.func36 (by kernel_rfl) rfl #[.int .i64 a0_0] rfl (by(try simp only[List.map_toArray,List.map_cons,List.map_nil]);first|done|rfl|(simp only[List.length_drop,List.length_take];rfl)) ?_;(with_reducible refine(impl_sample.calls a0_0 true _ A2.out).mono ?_);rintro e w' ⟨rfl,⟨nd,rfl⟩⟩;refine⟨_,rfl,?_⟩)|(go_at_call 37;(with_reducible refine(impl_to.calls a0_1 (-30) 30 true _ A22.out).mono ?_);rintro e w' ⟨rfl,⟨nd,rfl⟩⟩)|(go_at_call 37;(with_reducible refine(impl_to.calls a0_2 (-9) 9 false _ A24.out).mono ?_);rintro e w' ⟨rfl,⟨nd,rfl⟩⟩))
          go_ret
          exact⟨by first|rfl|(simp[errW_none,errW_some]<;>rfl)|(simp[*,errW_none,errW_some]<;>rfl),by repeat(first|(with_reducible first|exact HB.out|apply below_alloc|apply pw_below_drewN|apply below_drew1|refine below_set ?_ GE195.out)|exact HB.out)⟩
      · replace c23:=Bool.eq_false_iff.mpr c23
        subst c23
        have H1:(some false)=some r:=by rw[if_neg (show ¬(false=true) by decide)] at H;exact H
        clear H
        have H:=H1
        clear H1
        obtain rfl:=Option.some.inj H
        go_enter Tryz.func11,Tryz.ntmps11
        go_wp2_with (first|((with_reducible refine gate_dst (N:=1) rfl ?_);refine box_event ?hg (N:=1) ?hd (cs:= #[.int .i64 a0_0, .int .i64 a0_1, .int .i64 a0_2, .int .i64 a0_3]) (t:=25) ?hr ?_;(case hd=>rfl);(case hg=>rfl);(case hr=>first|(go_simp;done)|(go_simp;rfl));intro gb195 hg w31 hbox hb;have n0_:=Aside0.mk (below_step (by repeat(first|(with_reducible first|exact HB.out|apply below_alloc|apply pw_below_drewN|apply below_drew1)|exact HB.out)) hb);have n1_:=Aside0.mk (hbox);have n2_:=Aside0.mk ((by rw[hg];exact(below_size (by repeat(first|(with_reducible first|exact HB.out|apply below_alloc|apply pw_below_drewN|apply below_drew1)|exact HB.out))):w.heap.size≤gb195));have n3_:=Aside0.mk ((by rw[hg];exact(below_size (by repeat(first|(with_reducible first|exact HB.out|apply below_alloc|apply pw_below_drewN|apply below_drew1)|exact HB.out))):w.heap.size≤gb195));clear HB;have HB:=n0_;have BK195:=n1_;have GW195:=n2_;have GE195:=n3_;clear n0_ n1_ n2_ n3_;clear hb hbox hg;have hcz32_0:w31.cell? ⟨gb195,0,none⟩=some (.int .i64 a0_0):=(blk_cell BK195.out 0).trans rfl;have hcz32_1:w31.cell? ⟨gb195,1,none⟩=some (.int .i64 a0_1):=(blk_cell BK195.out 1).trans rfl;have hcz32_2:w31.cell? ⟨gb195,2,none⟩=some (.int .i64 a0_2):=(blk_cell BK195.out 2).trans rfl;have hcz32_3:w31.cell? ⟨gb195,3,none⟩=some (.int .i64 a0_3):=(blk_cell BK195.out 3).trans rfl;have hfz32_0:=blk_frozen BK195.out 0;have hfz32_1:=blk_frozen BK195.out 1;have hfz32_2:=blk_frozen BK195.out 2;have hfz32_3:=blk_frozen BK195.out 3)|((with_reducible refine gate_callee (f:=36) rfl ?_);refine goesL_ (some 5) rfl rfl Tryz.func36 (by kernel_rfl) rfl #[.int .i64 a0_0] rfl (by(try simp only[List.map_toArray,List.map_cons,List.map_nil]);first|done|rfl|(simp only[List.length_drop,List.length_take];rfl)) ?_;(with_reducible refine(impl_sample.calls a0_0 true _ A2.out).mono ?_);rintro e w' ⟨rfl,⟨nd,rfl⟩⟩;refine⟨_,rfl,?_⟩)|(go_at_call 37;(with_reducible refine(impl_to.calls a0_1 (-30) 30 false _ A22.out).mono ?_);rintro e w' ⟨rfl,⟨nd,rfl⟩⟩))
        go_ret
        exact⟨by first|rfl|(simp[errW_none,errW_some]<;>rfl)|(simp[*,errW_none,errW_some]<;>rfl),by repeat(first|(with_reducible first|exact HB.out|apply below_alloc|apply pw_below_drewN|apply below_drew1|refine below_set ?_ GE195.out)|exact HB.out)⟩
  · replace c3:=Bool.eq_false_iff.mpr c3
    subst c3
    have H1:(some false)=some r:=by rw[if_neg (show ¬(false=true) by decide)] at H;exact H
    clear H
    have H:=H1
    clear H1
    obtain rfl:=Option.some.inj H
    go_enter Tryz.func11,Tryz.ntmps11
    go_wp2_with (first|((with_reducible refine gate_dst (N:=1) rfl ?_);refine box_event ?hg (N:=1) ?hd (cs:= #[.int .i64 a0_0, .int .i64 a0_1, .int .i64 a0_2, .int .i64 a0_3]) (t:=25) ?hr ?_;(case hd=>rfl);(case hg=>rfl);(case hr=>first|(go_simp;done)|(go_simp;rfl));intro gb195 hg w33 hbox hb;have n0_:=Aside0.mk (below_step (by repeat(first|(with_reducible first|exact HB.out|apply below_alloc|apply pw_below_drewN|apply below_drew1)|exact HB.out)) hb);have n1_:=Aside0.mk (hbox);have n2_:=Aside0.mk ((by rw[hg];exact(below_size (by repeat(first|(with_reducible first|exact HB.out|apply below_alloc|apply pw_below_drewN|apply below_drew1)|exact HB.out))):w.heap.size≤gb195));have n3_:=Aside0.mk ((by rw[hg];exact(below_size (by repeat(first|(with_reducible first|exact HB.out|apply below_alloc|apply pw_below_drewN|apply below_drew1)|exact HB.out))):w.heap.size≤gb195));clear HB;have HB:=n0_;have BK195:=n1_;have GW195:=n2_;have GE195:=n3_;clear n0_ n1_ n2_ n3_;clear hb hbox hg;have hcz34_0:w33.cell? ⟨gb195,0,none⟩=some (.int .i64 a0_0):=(blk_cell BK195.out 0).trans rfl;have hcz34_1:w33.cell? ⟨gb195,1,none⟩=some (.int .i64 a0_1):=(blk_cell BK195.out 1).trans rfl;have hcz34_2:w33.cell? ⟨gb195,2,none⟩=some (.int .i64 a0_2):=(blk_cell BK195.out 2).trans rfl;have hcz34_3:w33.cell? ⟨gb195,3,none⟩=some (.int .i64 a0_3):=(blk_cell BK195.out 3).trans rfl;have hfz34_0:=blk_frozen BK195.out 0;have hfz34_1:=blk_frozen BK195.out 1;have hfz34_2:=blk_frozen BK195.out 2;have hfz34_3:=blk_frozen BK195.out 3)|((with_reducible refine gate_callee (f:=36) rfl ?_);refine goesL_ (some 5) rfl rfl Tryz.func36 (by kernel_rfl) rfl #[.int .i64 a0_0] rfl (by(try simp only[List.map_toArray,List.map_cons,List.map_nil]);first|done|rfl|(simp only[List.length_drop,List.length_take];rfl)) ?_;(with_reducible refine(impl_sample.calls a0_0 false _ A2.out).mono ?_);rintro e w' ⟨rfl,⟨nd,rfl⟩⟩;refine⟨_,rfl,?_⟩))
    go_ret
    exact⟨by first|rfl|(simp[errW_none,errW_some]<;>rfl)|(simp[*,errW_none,errW_some]<;>rfl),by repeat(first|(with_reducible first|exact HB.out|apply below_alloc|apply pw_below_drewN|apply below_drew1|refine below_set ?_ GE195.out)|exact HB.out)⟩

/-! ### strconv_small: function 76 -/
-- bits.OnesCount32 is never reached (the size of a uint is 64 bits); its print is not Lean.


/-! ### strconv_log10Pow2: function 89 -/
def strconv_log10Pow2.f (a0:Int):Option (Int×Bool):=some (prefixAt a0)


/-! ### bits_Len64: function 90 -/
-- bits.OnesCount32 is never reached (the size of a uint is 64 bits); its print is not Lean.


/-! ### strconv_bool2_int: function 91 -/
-- bits.OnesCount32 is never reached (the size of a uint is 64 bits); its print is not Lean.


-- NOT PRINTED: function 77 (strconv_numDigits)

-- NOT PRINTED: function 78 (strconv_formatBase10)

/-! ### strconv_isPowerOfTwo: function 92 -/
-- bits.OnesCount32 is never reached (the size of a uint is 64 bits); its print is not Lean.


-- NOT PRINTED: function 98 (bits_TrailingZeros32)

-- NOT PRINTED: function 99 (bits_TrailingZeros64)

-- NOT PRINTED: function 93 (bits_TrailingZeros)

-- NOT PRINTED: function 79 (strconv_formatBits)

-- NOT PRINTED: function 60 (strconv_FormatInt)

/-! ### strconv_Itoa_40: function 40 -/
def strconv_Itoa_40.f:Option (Int×Int×Int×Int):=some (0,0,0,0)
theorem box0_eq {w:World} {g:Nat} {a b c d:Int} (h:w.heap[g]? =some (.cells #[.int .i64 0, .int .i64 0, .int .i64 0, .int .i64 0] 25 (0,0))) (ha:0=a) (hb:0=b) (hc:0=c) (hd:0=d):w.heap[g]? =some (.cells #[.int .i64 a, .int .i64 b, .int .i64 c, .int .i64 d] 25 (0,0)):=by
  subst ha hb hc hd
  exact h
theorem wneg (a b:ByteArray) (h:a.size+b.size≤9223372036854775807):wrap64 (-(b.size:Int))= -(b.size:Int):=by
  unfold wrap64
  omega


/-! ### strconv_Itoa_14: function 14 -/
def strconv_Itoa_14.f (a0:Int):Option ByteArray:=if-9223372036854775808≤a0 then(if a0≤9223372036854775807 then some ⟨(Lib.itoa a0).toArray⟩ else none) else none
theorem strconv_Itoa_14.calls (a0:Int) (r:ByteArray) (w:World) (h:strconv_Itoa_14.f a0=some r) (hG_:Gw w:=by first|exact HG.out|exact Gw.below HG.out (by repeat(first|(with_reducible first|exact HB.out|apply below_alloc|apply pw_below_drewN|apply below_drew1)|exact HB.out))):
    Calls Tryz.prog 14 #[.int .i64 a0] w fun e w'=>e= .returned (.string r)∧Below w.heap.size w w':=by
  unfold strconv_Itoa_14.f at h
  split at h
  · split at h
    · rename_i h0 h1
      obtain rfl:=Option.some.inj h
      refine(Tryz.strconv_Itoa a0 h0 h1 w hG_.tab).mono fun e w' h=> ?_
      obtain⟨he,k,os,hw⟩:=h
      subst hw
      exact⟨he,Lib.below_grow _ w (Nat.le_refl _) k os⟩
    · cases h
  · cases h


/-! ### impl_size: function 15 -/
def impl_size.f (a0:Int):Option (Int):=some (mx a0 (wrap64 (-a0)))
set_option maxHeartbeats 8000000 in
set_option maxRecDepth 100000 in
theorem impl_size.calls (a0:Int) (r:Int) (w:World) (h:impl_size.f a0=some r):
    Calls Tryz.prog 15 #[.int .i64 a0] w fun e w'=>e= .returned (.int .i64 r)∧Below w.heap.size w w':=by
  have HB:=Aside0.mk (Below.refl w.heap.size w)
  have H:(some (mx a0 (wrap64 (-a0))))=some r:=h
  clear h
  obtain⟨ji2,hji2⟩:∃j_:Int,(mx a0 (wrap64 (-a0)))=j_:=⟨_,rfl⟩
  replace H:(some ji2)=some r:=by first|(rw[hji2] at H;exact H)|(simp only[hji2] at H ⊢;exact H)
  have hji2_:(if a0<(wrap64 (-a0)) then(wrap64 (-a0)) else a0)=ji2:=hji2
  obtain rfl:=Option.some.inj H
  go_enter Tryz.func15,Tryz.ntmps15
  go_wp2
  go_ret
  exact⟨by first|rfl|(simp[errW_none,errW_some]<;>rfl)|(simp only[←hji2];first|rfl|(simp[errW_none,errW_some]<;>rfl))|(simp[*,errW_none,errW_some]<;>rfl),by repeat(first|(with_reducible first|exact HB.out|apply below_alloc|apply pw_below_drewN|apply below_drew1)|exact HB.out)⟩

/-! ### bits_Mul32: function 61 -/
-- bits.OnesCount32 is never reached (the size of a uint is 64 bits); its print is not Lean.


/-! ### bits_Mul64: function 62 -/
-- bits.OnesCount32 is never reached (the size of a uint is 64 bits); its print is not Lean.


/-! ### bits_Mul: function 41 -/
-- bits.OnesCount32 is never reached (the size of a uint is 64 bits); its print is not Lean.


/-! ### stringslite_HasPrefix: function 63 -/
def stringslite_HasPrefix.f (a0:ByteArray) (a1:ByteArray):Option (Bool):=if(a0.size:Int)≥(a1.size:Int) then(if 0≤(a1.size:Int) then(if(a1.size:Int)≤(a0.size:Int) then(some ((a0.extract 0 ((a1.size:Int):Int).toNat).toList==a1.toList)) else(none)) else(none)) else(some false)
set_option maxHeartbeats 8000000 in
set_option maxRecDepth 100000 in
theorem stringslite_HasPrefix.calls (a0:ByteArray) (a1:ByteArray) (r:Bool) (w:World) (h:stringslite_HasPrefix.f a0 a1=some r):
    Calls Tryz.prog 63 #[.string a0, .string a1] w fun e w'=>e= .returned (.bool r)∧Drawn0 w w':=by
  have H:(if(a0.size:Int)≥(a1.size:Int) then(if 0≤(a1.size:Int) then(if(a1.size:Int)≤(a0.size:Int) then(some ((a0.extract 0 ((a1.size:Int):Int).toNat).toList==a1.toList)) else(none)) else(none)) else(some false))=some r:=h
  clear h
  by_cases c3:(a0.size:Int)≥(a1.size:Int)
  · rw [if_pos c3] at H
    have c3b0:decide ((a1.size:Int)≤(a0.size:Int))=true:=decide_eq_true c3
    have c3b1:decide (a1.size≤a0.size)=true:=decide_eq_true (Int.ofNat_le.mp c3)
    clear c3
    by_cases c4:0≤(a1.size:Int)
    · rw[if_pos c4] at H
      have c4b0:=eq_true c4
      have c4b1:decide (0≤(a1.size:Int))=true:=decide_eq_true c4
      clear c4
      by_cases c5:(a1.size:Int)≤(a0.size:Int)
      · rw[if_pos c5] at H
        have c5b0:=eq_true c5
        have c5b1:decide ((a1.size:Int)≤(a0.size:Int))=true:=decide_eq_true c5
        clear c5
        obtain rfl:=Option.some.inj H
        go_enter Tryz.func63,Tryz.ntmps63
        go_wp2
        go_ret
        exact⟨by first|rfl|(simp;done)|(simp[*];done),by repeat(first|exact Drawn0.refl _|apply Drawn0.step)⟩
      · rw[if_neg c5] at H
        exact absurd H (by simp)
    · rw[if_neg c4] at H
      exact absurd H (by simp)
  · rw[if_neg c3] at H
    have c3b0:decide ((a1.size:Int)≤(a0.size:Int))=false:=decide_eq_false c3
    have c3b1:decide (a1.size≤a0.size)=false:=decide_eq_false (fun h=>c3 (Int.ofNat_le.mpr h))
    clear c3
    obtain rfl:=Option.some.inj H
    go_enter Tryz.func63,Tryz.ntmps63
    go_wp2
    go_ret
    exact⟨by first|rfl|(simp;done)|(simp[*];done),by repeat(first|exact Drawn0.refl _|apply Drawn0.step)⟩

/-! ### strings_HasPrefix: function 42 -/
def strings_HasPrefix.f (a0:ByteArray) (a1:ByteArray):Option (Bool):=(stringslite_HasPrefix.f a0 a1).bind fun t223=>(some t223)
set_option maxHeartbeats 8000000 in
set_option maxRecDepth 100000 in
theorem strings_HasPrefix.calls (a0:ByteArray) (a1:ByteArray) (r:Bool) (w:World) (h:strings_HasPrefix.f a0 a1=some r):
    Calls Tryz.prog 42 #[.string a0, .string a1] w fun e w'=>e= .returned (.bool r)∧Drawn0 w w':=by
  have H:((stringslite_HasPrefix.f a0 a1).bind fun t223=>(some t223))=some r:=h
  clear h
  replace H:=Option.bind_eq_some_iff.mp H
  obtain⟨t223,A30,H⟩:=H
  replace H:(some t223)=some r:=H
  have A3:=Aside0.mk A30
  clear A30
  obtain rfl:=Option.some.inj H
  go_enter Tryz.func42,Tryz.ntmps42
  go_wp2_with (first|((with_reducible refine gate_callee (f:=63) rfl ?_);refine goesL_ (some 7) rfl rfl Tryz.func63 (by kernel_rfl) rfl #[.string a0, .string a1] rfl (by(try simp only[List.map_toArray,List.map_cons,List.map_nil]);first|done|rfl|(simp only[List.length_drop,List.length_take];rfl)) ?_;(with_reducible refine(stringslite_HasPrefix.calls a0 a1 t223 _ A3.out).mono ?_);rintro e w' ⟨rfl,⟨nd,rfl⟩⟩;refine⟨_,rfl,?_⟩))
  go_ret
  exact⟨by first|rfl|(simp;done)|(simp[*];done),by repeat(first|exact Drawn0.refl _|apply Drawn0.step)⟩

-- NOT PRINTED: function 80 (abi_NoEscape)

-- NOT PRINTED: function 64 (strings_Builder_copyCheck)

-- NOT PRINTED: function 81 (bytealg_MakeNoZero)

-- NOT PRINTED: function 65 (strings_Builder_grow)

-- NOT PRINTED: function 43 (strings_Builder_Grow)

-- NOT PRINTED: function 44 (strings_Builder_WriteString)

-- NOT PRINTED: function 45 (strings_Builder_Len)

-- NOT PRINTED: function 46 (strings_Builder_String)

/-! ### strings_Repeat: function 16 -/
def strings_Repeat.f (s:ByteArray) (a1:Int):Option ByteArray:=if 0≤a1 then(if s.size*a1.toNat≤140737488355328 then(if a1≤9223372036854775807 then some ⟨(Lib.repeatL s.data.toList a1.toNat).toArray⟩ else none) else none) else none
theorem strings_Repeat.calls (s:ByteArray) (a1:Int) (r:ByteArray) (w:World) (h:strings_Repeat.f s a1=some r):
    Calls Tryz.prog 16 #[.string s, .int .i64 a1] w fun e w'=>e= .returned (.string r)∧Below w.heap.size w w':=by
  unfold strings_Repeat.f at h
  split at h
  · split at h
    · split at h
      · rename_i h0 h1 h2
        obtain rfl:=Option.some.inj h
        have e:((a1.toNat:Nat):Int)=a1:=Int.toNat_of_nonneg h0
        have c:=Tryz.strings_Repeat s a1.toNat w (by omega) h1
        rw[e] at c
        exact c
      · cases h
    · cases h
  · cases h


-- NOT PRINTED: function 94 (bytealg_IndexByteString)

-- NOT PRINTED: function 82 (stringslite_IndexByte)

-- NOT PRINTED: function 83 (bytealg_IndexString)

/-! ### bytealg_Cutover: function 84 -/
-- bits.OnesCount32 is never reached (the size of a uint is 64 bits); its print is not Lean.


/-! ### bytealg_hashStr_string: function 95 -/
-- bits.OnesCount32 is never reached (the size of a uint is 64 bits); its print is not Lean.


/-! ### bytealg_IndexRabinKarp_string: function 85 -/
-- bits.OnesCount32 is never reached (the size of a uint is 64 bits); its print is not Lean.


-- NOT PRINTED: function 68 (stringslite_Index)

-- NOT PRINTED: function 48 (strings_Index)

-- NOT PRINTED: function 66 (utf8_RuneCountInString)

-- NOT PRINTED: function 67 (bytealg_CountString)

-- NOT PRINTED: function 47 (strings_Count)

-- NOT PRINTED: function 69 (utf8_decodeRuneInStringSlow)

/-! ### utf8_DecodeRuneInString: function 49 -/
def utf8_DecodeRuneInString.f (s:ByteArray):Option (Int×Int):=some (((Lib.decodeGo s).1:Int),((Lib.decodeGo s).2:Int))
theorem utf8_DecodeRuneInString.calls (s:ByteArray) (r1:Int) (r2:Int) (w:World) (h:utf8_DecodeRuneInString.f s=some (r1,r2)) (hG_:Gw w:=by first|exact HG.out|exact Gw.below HG.out (by repeat(first|(with_reducible first|exact HB.out|apply below_alloc|apply pw_below_drewN|apply below_drew1)|exact HB.out))):
    Calls Tryz.prog 49 #[.string s] w fun e w'=>e= .returned (.tuple #[.int .i32 r1, .int .i64 r2])∧Below w.heap.size w w':=by
  simp only[utf8_DecodeRuneInString.f,Option.some.injEq,Prod.mk.injEq] at h
  obtain⟨rfl,rfl⟩:=h
  exact Tryz.utf8_DecodeRuneInString s w hG_.u8
theorem decoded_ge {s:ByteArray} {r n:Int} (h:utf8_DecodeRuneInString.f s=some (r,n)):0≤r:=by
  simp only[utf8_DecodeRuneInString.f,Option.some.injEq,Prod.mk.injEq] at h
  omega
theorem decoded_le {s:ByteArray} {r n:Int} (h:utf8_DecodeRuneInString.f s=some (r,n)):r≤1114111:=by
  simp only[utf8_DecodeRuneInString.f,Option.some.injEq,Prod.mk.injEq] at h
  obtain⟨rfl,_⟩:=h
  unfold Lib.decodeGo
  split
  · decide
  · have:=decode_le s 0
    omega
theorem look_drewN {w0 w:World} (hG:Gw w0) (hB:Below w0.heap.size w0 w) {b:Nat} {r c:Int} {y:Bool} (hc:w.cell? ⟨0,0,none⟩=some (.map (some b))) (h0:0≤r) (h1:r≤1114111) (hv:prefixAt r=(c,y)) (n:Nat):
    (Instr.lookup 87 (.map (some b)) (.int .i32 r) true).run Tryz.prog (w.drewN n)= .ok (.tuple #[.int .i64 c, .bool y]) (w.drewN n):=by
  obtain⟨b',hc',hl⟩:=((hG.below hB).below (pw_below_drewN (Below.refl _ _) n)).look r h0 h1
  have e:(w.drewN n).cell? ⟨0,0,none⟩=w.cell? ⟨0,0,none⟩:=(pw_below_drewN (Below.refl w.heap.size w) n).cell (Lib.lt_of_cell hc)
  obtain rfl:b=b':=Option.some.inj (Value.map.inj (Option.some.inj (hc.symm.trans (e.symm.trans hc'))))
  rw[hv] at hl
  exact hl


/-! ### strings_Replace: function 17 -/
def strings_Replace.f (s o n:ByteArray) (a3:Int):Option ByteArray:=if s.size<4294967281 then(if 1≤o.size then(if s.size+Lib.countB s o*n.size≤140737488355328 then some ⟨(Lib.replace s.data.toList o.data.toList n.data.toList a3).toArray⟩ else none) else none) else none
theorem strings_Replace.calls (s o n:ByteArray) (a3:Int) (r:ByteArray) (w:World) (h:strings_Replace.f s o n a3=some r) (hG_:Gw w:=by first|exact HG.out|exact Gw.below HG.out (by repeat(first|(with_reducible first|exact HB.out|apply below_alloc|apply pw_below_drewN|apply below_drew1)|exact HB.out))):
    Calls Tryz.prog 17 #[.string s, .string o, .string n, .int .i64 a3] w fun e w'=>e= .returned (.string r)∧Below w.heap.size w w':=by
  unfold strings_Replace.f at h
  split at h
  · split at h
    · split at h
      · rename_i h0 h1 h2
        obtain rfl:=Option.some.inj h
        obtain⟨m,hm⟩:=hG_.mx
        exact Tryz.strings_Replace s o n a3 m w h0 hm h1 h2
      · cases h
    · cases h
  · cases h


/-! ### impl_unit: function 18 -/
def impl_unit.f (a0:ByteArray) (a1:Int):Option (ByteArray):=if a1=0 then(some (⟨#[]⟩:ByteArray)) else(if a1=1 then(some a0) else((strconv_Itoa_14.f a1).bind fun t224=>(if a0.size+t224.size≤9223372036854775807 then(some (a0++t224)) else(none))))
set_option maxHeartbeats 8000000 in
set_option maxRecDepth 100000 in
theorem impl_unit.calls (a0:ByteArray) (a1:Int) (r:ByteArray) (w:World) (h:impl_unit.f a0 a1=some r) (hG_:Gw w:=by first|exact HG.out|exact Gw.below HG.out (by repeat(first|(with_reducible first|exact HB.out|apply below_alloc|apply pw_below_drewN|apply below_drew1|refine below_set ?_ (Aside0.out (by assumption)))|exact HB.out))):
    Calls Tryz.prog 18 #[.string a0, .int .i64 a1] w fun e w'=>e= .returned (.string r)∧Below w.heap.size w w':=by
  have HG:=Aside0.mk hG_
  clear hG_
  have HB:=Aside0.mk (Below.refl w.heap.size w)
  have H:(if a1=0 then(some (⟨#[]⟩:ByteArray)) else(if a1=1 then(some a0) else((strconv_Itoa_14.f a1).bind fun t224=>(if a0.size+t224.size≤9223372036854775807 then(some (a0++t224)) else(none)))))=some r:=h
  clear h
  by_cases c3:a1=0
  · rw[if_pos c3] at H
    have c3b0:(a1==0)=true:=beq_iff_eq.mpr c3
    have c3b1:(a1 != 0)=false:=bne_eq_false_iff_eq.mpr c3
    clear c3
    obtain rfl:=Option.some.inj H
    go_enter Tryz.func18,Tryz.ntmps18
    go_wp2
    go_ret
    exact⟨by first|rfl|(simp[errW_none,errW_some]<;>rfl)|(simp[*,errW_none,errW_some]<;>rfl),by repeat(first|(with_reducible first|exact HB.out|apply below_alloc|apply pw_below_drewN|apply below_drew1)|exact HB.out)⟩
  · rw [if_neg c3] at H
    have c3b0:(a1==0)=false:=beq_eq_false_iff_ne.mpr c3
    have c3b1:(a1 != 0)=true:=bne_iff_ne.mpr c3
    by_cases c4:a1=1
    · rw[if_pos c4] at H
      have c4b0:(a1==1)=true:=beq_iff_eq.mpr c4
      have c4b1:(a1 != 1)=false:=bne_eq_false_iff_eq.mpr c4
      clear c4
      obtain rfl:=Option.some.inj H
      go_enter Tryz.func18,Tryz.ntmps18
      go_wp2
      go_ret
      exact⟨by first|rfl|(simp[errW_none,errW_some]<;>rfl)|(simp[*,errW_none,errW_some]<;>rfl),by repeat(first|(with_reducible first|exact HB.out|apply below_alloc|apply pw_below_drewN|apply below_drew1)|exact HB.out)⟩
    · rw[if_neg c4] at H
      have c4b0:(a1==1)=false:=beq_eq_false_iff_ne.mpr c4
      have c4b1:(a1 != 1)=true:=bne_iff_ne.mpr c4
      replace H:=Option.bind_eq_some_iff.mp H
      obtain⟨t224,A50,H⟩:=H
      replace H:(if a0.size+t224.size≤9223372036854775807 then(some (a0++t224)) else(none))=some r:=H
      have A5:=Aside0.mk A50
      clear A50
      by_cases c6:a0.size+t224.size≤9223372036854775807
      · rw[if_pos c6] at H
        have c6b0:=eq_true c6
        have c6b1:decide (a0.size+t224.size≤9223372036854775807)=true:=decide_eq_true c6
        try have c6b2:(9223372036854775807<a0.size+t224.size)=False:=eq_false (Nat.not_lt.2 c6)
        obtain rfl:=Option.some.inj H
        go_enter Tryz.func18,Tryz.ntmps18
        go_wp2_with (first|((with_reducible refine gate_callee (f:=14) rfl ?_);refine goesL_ (some 13) rfl rfl Tryz.func14 (by kernel_rfl) rfl #[.int .i64 a1] rfl (by(try simp only[List.map_toArray,List.map_cons,List.map_nil]);first|done|rfl|(simp only[List.length_drop,List.length_take];rfl)) ?_;(with_reducible refine(strconv_Itoa_14.calls a1 t224 _ A5.out).mono ?_);rintro e w7 ⟨rfl,hb⟩;refine⟨_,rfl,?_⟩;have n0_:=Aside0.mk (below_step (by repeat(first|(with_reducible first|exact HB.out|apply below_alloc|apply pw_below_drewN|apply below_drew1)|exact HB.out)) hb);clear HB;have HB:=n0_;clear n0_;(try clear hb);(try clear hb2);(try clear hk);(try clear hi)))
        go_ret
        exact⟨by first|rfl|(simp[errW_none,errW_some]<;>rfl)|(simp[*,errW_none,errW_some]<;>rfl),by repeat(first|(with_reducible first|exact HB.out|apply below_alloc|apply pw_below_drewN|apply below_drew1)|exact HB.out)⟩
      · rw[if_neg c6] at H
        exact absurd H (by simp)

end Go.Proofs.YtanohnlddaneeaaGreatDoor.PFnQtyBack
