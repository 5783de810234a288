-- Written by a turned copy of the print (see the notes of this repo): plain functions and their walks. Lean checks it.
import Derived.Test.YtanohnlddaneeaaGreatDoorPFnQtyBackx0
import Derived.Test.YtanohnlddaneeaaGreatDoorPFnQtyBackx2
import Derived.Test.YtanohnlddaneeaaGreatDoorPFnQtyBackx3
import Derived.Test.YtanohnlddaneeaaGreatDoorPFnQtyBackx7
import Derived.Test.YtanohnlddaneeaaGreatDoorPFnQtyBackx9
namespace Go.Proofs.YtanohnlddaneeaaGreatDoor.PFnQtyBack
open Go.RowKit Go.Proofs.YtanohnlddaneeaaGreatDoorW.PrintWords Go.Proofs.YtanohnlddaneeaaGreatDoorW.PrintLast Go.Proofs.YtanohnlddaneeaaGreatDoorW.PrintMore
attribute [local go_sem] max2_int min2_int max_two min_two max_three min_three max_four min_four   -- for this text's walks alone
set_option linter.unusedVariables false
set_option linter.unusedSimpArgs false

/-! ### impl_bare: function 28 -/
def impl_bare.l0:Nat→Int→Int→Int→Int→Option (Int×Int×Int×Int)
  |0,_,_,_,_=>none
  |k+1,x289000,x289001,x289002,x289003=>if(Int.tmod x289000 10)=0 then(impl_bare.l0 k (wrap64 (Int.tdiv x289000 10)) (wrap64 (x289001+1)) x289002 x289003) else(some (x289000,x289001,x289002,x289003))
def impl_bare.f (k:Nat) (a0_0:Int) (a0_1:Int) (a0_2:Int) (a0_3:Int):Option (Int×Int×Int×Int):=if a0_0=0 then(some (a0_0,0,a0_2,a0_3)) else(impl_bare.l0 k a0_0 a0_1 a0_2 a0_3)
theorem impl_bare.mono_l:∀k,(∀y0 y1 y2 y3,LeO (impl_bare.l0 k y0 y1 y2 y3) (impl_bare.l0 (k+1) y0 y1 y2 y3))
  |0=>fun _ _ _ _ r h=>by simp[impl_bare.l0] at h
  | k +1=>by
    have ih0:=impl_bare.mono_l k
    · intro y0 y1 y2 y3
      unfold impl_bare.l0
      repeat' first
      |(with_reducible exact ih0 _ _ _ _)
      |(with_reducible exact LeO.refl _)
      |(with_reducible exact LeO.none _)
      |(with_reducible refine LeO.ite ?_ ?_)
      |(with_reducible refine LeO.bind ?_ (fun _=> ?_))
      |exact ih0 _ _ _ _
      |exact LeO.none _
      |refine LeO.ite ?_ ?_
      |refine LeO.bind ?_ (fun _=> ?_)
theorem impl_bare.mono:∀a0 a1 a2 a3 k,LeO (impl_bare.f k a0 a1 a2 a3) (impl_bare.f (k+1) a0 a1 a2 a3):=by
  intro a0 a1 a2 a3 k
  have ih0:=impl_bare.mono_l k
  unfold impl_bare.f
  repeat' first
      |(with_reducible exact ih0 _ _ _ _)
      |(with_reducible exact LeO.refl _)
      |(with_reducible exact LeO.none _)
      |(with_reducible refine LeO.ite ?_ ?_)
      |(with_reducible refine LeO.bind ?_ (fun _=> ?_))
      |exact ih0 _ _ _ _
      |exact LeO.none _
      |refine LeO.ite ?_ ?_
      |refine LeO.bind ?_ (fun _=> ?_)
set_option maxHeartbeats 8000000 in
set_option maxRecDepth 100000 in
theorem impl_bare.calls (k:Nat) (a0_0:Int) (a0_1:Int) (a0_2:Int) (a0_3:Int) (r1:Int) (r2:Int) (r3:Int) (r4:Int) (w:World) (h:impl_bare.f k a0_0 a0_1 a0_2 a0_3=some (r1,r2,r3,r4)):
    Calls Tryz.prog 28 #[.agg #[.int .i64 a0_0, .int .i64 a0_1, .int .i64 a0_2, .int .i64 a0_3]] w fun e w'=>e= .returned (.agg #[.int .i64 r1, .int .i64 r2, .int .i64 r3, .int .i64 r4])∧Below w.heap.size w w':=by
  have hu25:=Tryz.underlying25
  have HB:=Aside0.mk (Below.refl w.heap.size w)
  have H:(if a0_0=0 then(some (a0_0,0,a0_2,a0_3)) else(impl_bare.l0 k a0_0 a0_1 a0_2 a0_3))=some (r1,r2,r3,r4):=h
  clear h
  by_cases c2:a0_0=0
  · rw[if_pos c2] at H
    have c2b0:(a0_0==0)=true:=beq_iff_eq.mpr c2
    have c2b1:(a0_0 != 0)=false:=bne_eq_false_iff_eq.mpr c2
    clear c2
    simp only[Option.some.injEq,Prod.mk.injEq] at H
    obtain⟨rfl,rfl,rfl,rfl⟩:=H
    go_enter Tryz.func28,Tryz.ntmps28
    go_wp2_with (first|((with_reducible refine gate_dst (N:=1) rfl ?_);refine box_event ?hg (N:=1) ?hd (cs:= #[.int .i64 a0_0, .int .i64 a0_1, .int .i64 a0_2, .int .i64 a0_3]) (t:=25) ?hr ?_;(case hd=>rfl);(case hg=>rfl);(case hr=>first|(go_simp;done)|(go_simp;rfl));intro gb288 hg w3 hbox hb;have n0_:=Aside0.mk (below_step (by repeat(first|(with_reducible first|exact HB.out|apply below_alloc|apply pw_below_drewN|apply below_drew1)|exact HB.out)) hb);have n1_:=Aside0.mk (hbox);have n2_:=Aside0.mk ((by rw[hg];exact(below_size (by repeat(first|(with_reducible first|exact HB.out|apply below_alloc|apply pw_below_drewN|apply below_drew1)|exact HB.out))):w.heap.size≤gb288));have n3_:=Aside0.mk ((by rw[hg];exact(below_size (by repeat(first|(with_reducible first|exact HB.out|apply below_alloc|apply pw_below_drewN|apply below_drew1)|exact HB.out))):w.heap.size≤gb288));clear HB;have HB:=n0_;have BK288:=n1_;have GW288:=n2_;have GE288:=n3_;clear n0_ n1_ n2_ n3_;clear hb hbox hg)|((with_reducible refine gate_dst (N:=2) rfl ?_);refine box_event ?hg (N:=2) ?hd (cs:= #[.int .i64 0, .int .i64 0, .int .i64 0, .int .i64 0]) (t:=25) ?hr ?_;(case hd=>rfl);(case hg=>rfl);(case hr=>first|(go_simp;done)|(go_simp;rfl));intro gb289 hg w4 hbox hb;have n0_:=Aside0.mk (blk_below (g:=gb288) (o:= .cells #[.int .i64 a0_0, .int .i64 a0_1, .int .i64 a0_2, .int .i64 a0_3] 25 (0,0)) (by(with_reducible repeat(first|refine blk_drewN ?_ _|refine blk_drew ?_|refine blk_alloc ?_ _));exact BK288.out) hb);have n1_:=Aside0.mk (below_step (by repeat(first|(with_reducible first|exact HB.out|apply below_alloc|apply pw_below_drewN|apply below_drew1|refine below_set ?_ GE288.out)|exact HB.out)) hb);have n2_:=Aside0.mk (hbox);have n3_:=Aside0.mk ((by rw[hg];exact(below_size (by repeat(first|(with_reducible first|exact HB.out|apply below_alloc|apply pw_below_drewN|apply below_drew1|refine below_set ?_ GE288.out)|exact HB.out))):w.heap.size≤gb289));have n4_:=Aside0.mk ((by rw[hg];exact(below_size (by repeat(first|(with_reducible first|exact HB.out|apply below_alloc|apply pw_below_drewN|apply below_drew1|refine below_set ?_ GE288.out)|exact HB.out))):w.heap.size≤gb289));have n5_:=Aside0.mk ((by rw[hg];exact Nat.ne_of_lt (blk_lt (g:=gb288) (o:= .cells #[.int .i64 a0_0, .int .i64 a0_1, .int .i64 a0_2, .int .i64 a0_3] 25 (0,0)) (by(with_reducible repeat(first|refine blk_drewN ?_ _|refine blk_drew ?_|refine blk_alloc ?_ _));exact BK288.out)):gb288≠gb289));have n6_:=Aside0.mk ((by rw[hg];exact Nat.ne_of_gt (blk_lt (g:=gb288) (o:= .cells #[.int .i64 a0_0, .int .i64 a0_1, .int .i64 a0_2, .int .i64 a0_3] 25 (0,0)) (by(with_reducible repeat(first|refine blk_drewN ?_ _|refine blk_drew ?_|refine blk_alloc ?_ _));exact BK288.out)):gb289≠gb288));clear BK288;clear HB;have BK288:=n0_;have HB:=n1_;have BK289:=n2_;have GW289:=n3_;have GE289:=n4_;have NB288_289:=n5_;have NB289_288:=n6_;clear n0_ n1_ n2_ n3_ n4_ n5_ n6_;clear hb hbox hg;have hnb5:=NB288_289.out;have hnc5:=NB289_288.out;have hcz6_0:w4.cell? ⟨gb288,0,none⟩=some (.int .i64 a0_0):=(blk_cell BK288.out 0).trans rfl;have hcz6_1:w4.cell? ⟨gb288,1,none⟩=some (.int .i64 a0_1):=(blk_cell BK288.out 1).trans rfl;have hcz6_2:w4.cell? ⟨gb288,2,none⟩=some (.int .i64 a0_2):=(blk_cell BK288.out 2).trans rfl;have hcz6_3:w4.cell? ⟨gb288,3,none⟩=some (.int .i64 a0_3):=(blk_cell BK288.out 3).trans rfl;have hfz6_0:=blk_frozen BK288.out 0;have hfz6_1:=blk_frozen BK288.out 1;have hfz6_2:=blk_frozen BK288.out 2;have hfz6_3:=blk_frozen BK288.out 3;have hcz7_0:w4.cell? ⟨gb289,0,none⟩=some (.int .i64 0):=(blk_cell BK289.out 0).trans rfl;have hcz7_1:w4.cell? ⟨gb289,1,none⟩=some (.int .i64 0):=(blk_cell BK289.out 1).trans rfl;have hcz7_2:w4.cell? ⟨gb289,2,none⟩=some (.int .i64 0):=(blk_cell BK289.out 2).trans rfl;have hcz7_3:w4.cell? ⟨gb289,3,none⟩=some (.int .i64 0):=(blk_cell BK289.out 3).trans rfl;have hfz7_0:=blk_frozen BK289.out 0;have hfz7_1:=blk_frozen BK289.out 1;have hfz7_2:=blk_frozen BK289.out 2;have hfz7_3:=blk_frozen BK289.out 3))
    refine bodyPost_ret (results_cell_row rfl _ _ gb289 25 #[.int .i64 a0_0, .int .i64 0, .int .i64 a0_2, .int .i64 a0_3] (0,0) _ rfl (by(with_reducible repeat(first|refine blk_drewN ?_ _|refine blk_drew ?_|refine blk_alloc ?_ _));refine blk_put (cs:= #[.int .i64 a0_0, .int .i64 0, .int .i64 a0_2, .int .i64 0]) ?_ 3 _ rfl;(with_reducible repeat(first|refine blk_drewN ?_ _|refine blk_drew ?_|refine blk_alloc ?_ _));refine blk_put (cs:= #[.int .i64 a0_0, .int .i64 0, .int .i64 0, .int .i64 0]) ?_ 2 _ rfl;(with_reducible repeat(first|refine blk_drewN ?_ _|refine blk_drew ?_|refine blk_alloc ?_ _));refine blk_put (cs:= #[.int .i64 a0_0, .int .i64 0, .int .i64 0, .int .i64 0]) ?_ 1 _ rfl;(with_reducible repeat(first|refine blk_drewN ?_ _|refine blk_drew ?_|refine blk_alloc ?_ _));refine blk_put (cs:= #[.int .i64 0, .int .i64 0, .int .i64 0, .int .i64 0]) ?_ 0 _ rfl;(with_reducible repeat(first|refine blk_drewN ?_ _|refine blk_drew ?_|refine blk_alloc ?_ _));refine blk_far ?_ NB289_288.out _;(with_reducible repeat(first|refine blk_drewN ?_ _|refine blk_drew ?_|refine blk_alloc ?_ _));exact BK289.out) Tryz.underlying25 rfl (by kernel_rfl)) rfl ?_
    exact⟨by first|rfl|(simp[errW_none,errW_some]<;>rfl)|(simp[*,errW_none,errW_some]<;>rfl),by repeat(first|(with_reducible first|exact HB.out|apply below_alloc|apply pw_below_drewN|apply below_drew1|refine below_set ?_ GE288.out|refine below_set ?_ GE289.out)|exact HB.out)⟩
  · rw [if_neg c2] at H
    have c2b0:(a0_0==0)=false:=beq_eq_false_iff_ne.mpr c2
    have c2b1:(a0_0 != 0)=true:=bne_iff_ne.mpr c2
    have H':=Aside0.mk H
    clear H
    go_enter Tryz.func28,Tryz.ntmps28
    go_wp2_with (first|((with_reducible refine gate_dst (N:=1) rfl ?_);refine box_event ?hg (N:=1) ?hd (cs:= #[.int .i64 a0_0, .int .i64 a0_1, .int .i64 a0_2, .int .i64 a0_3]) (t:=25) ?hr ?_;(case hd=>rfl);(case hg=>rfl);(case hr=>first|(go_simp;done)|(go_simp;rfl));intro gb288 hg w8 hbox hb;have n0_:=Aside0.mk (below_step (by repeat(first|(with_reducible first|exact HB.out|apply below_alloc|apply pw_below_drewN|apply below_drew1)|exact HB.out)) hb);have n1_:=Aside0.mk (hbox);have n2_:=Aside0.mk ((by rw[hg];exact(below_size (by repeat(first|(with_reducible first|exact HB.out|apply below_alloc|apply pw_below_drewN|apply below_drew1)|exact HB.out))):w.heap.size≤gb288));have n3_:=Aside0.mk ((by rw[hg];exact(below_size (by repeat(first|(with_reducible first|exact HB.out|apply below_alloc|apply pw_below_drewN|apply below_drew1)|exact HB.out))):w.heap.size≤gb288));clear HB;have HB:=n0_;have BK288:=n1_;have GW288:=n2_;have GE288:=n3_;clear n0_ n1_ n2_ n3_;clear hb hbox hg)|((with_reducible refine gate_dst (N:=2) rfl ?_);refine box_event ?hg (N:=2) ?hd (cs:= #[.int .i64 0, .int .i64 0, .int .i64 0, .int .i64 0]) (t:=25) ?hr ?_;(case hd=>rfl);(case hg=>rfl);(case hr=>first|(go_simp;done)|(go_simp;rfl));intro gb289 hg w9 hbox hb;have n0_:=Aside0.mk (blk_below (g:=gb288) (o:= .cells #[.int .i64 a0_0, .int .i64 a0_1, .int .i64 a0_2, .int .i64 a0_3] 25 (0,0)) (by(with_reducible repeat(first|refine blk_drewN ?_ _|refine blk_drew ?_|refine blk_alloc ?_ _));exact BK288.out) hb);have n1_:=Aside0.mk (below_step (by repeat(first|(with_reducible first|exact HB.out|apply below_alloc|apply pw_below_drewN|apply below_drew1|refine below_set ?_ GE288.out)|exact HB.out)) hb);have n2_:=Aside0.mk (hbox);have n3_:=Aside0.mk ((by rw[hg];exact(below_size (by repeat(first|(with_reducible first|exact HB.out|apply below_alloc|apply pw_below_drewN|apply below_drew1|refine below_set ?_ GE288.out)|exact HB.out))):w.heap.size≤gb289));have n4_:=Aside0.mk ((by rw[hg];exact(below_size (by repeat(first|(with_reducible first|exact HB.out|apply below_alloc|apply pw_below_drewN|apply below_drew1|refine below_set ?_ GE288.out)|exact HB.out))):w.heap.size≤gb289));have n5_:=Aside0.mk ((by rw[hg];exact Nat.ne_of_lt (blk_lt (g:=gb288) (o:= .cells #[.int .i64 a0_0, .int .i64 a0_1, .int .i64 a0_2, .int .i64 a0_3] 25 (0,0)) (by(with_reducible repeat(first|refine blk_drewN ?_ _|refine blk_drew ?_|refine blk_alloc ?_ _));exact BK288.out)):gb288≠gb289));have n6_:=Aside0.mk ((by rw[hg];exact Nat.ne_of_gt (blk_lt (g:=gb288) (o:= .cells #[.int .i64 a0_0, .int .i64 a0_1, .int .i64 a0_2, .int .i64 a0_3] 25 (0,0)) (by(with_reducible repeat(first|refine blk_drewN ?_ _|refine blk_drew ?_|refine blk_alloc ?_ _));exact BK288.out)):gb289≠gb288));clear BK288;clear HB;have BK288:=n0_;have HB:=n1_;have BK289:=n2_;have GW289:=n3_;have GE289:=n4_;have NB288_289:=n5_;have NB289_288:=n6_;clear n0_ n1_ n2_ n3_ n4_ n5_ n6_;clear hb hbox hg;have hnb10:=NB288_289.out;have hnc10:=NB289_288.out;have hcz11_0:w9.cell? ⟨gb288,0,none⟩=some (.int .i64 a0_0):=(blk_cell BK288.out 0).trans rfl;have hcz11_1:w9.cell? ⟨gb288,1,none⟩=some (.int .i64 a0_1):=(blk_cell BK288.out 1).trans rfl;have hcz11_2:w9.cell? ⟨gb288,2,none⟩=some (.int .i64 a0_2):=(blk_cell BK288.out 2).trans rfl;have hcz11_3:w9.cell? ⟨gb288,3,none⟩=some (.int .i64 a0_3):=(blk_cell BK288.out 3).trans rfl;have hfz11_0:=blk_frozen BK288.out 0;have hfz11_1:=blk_frozen BK288.out 1;have hfz11_2:=blk_frozen BK288.out 2;have hfz11_3:=blk_frozen BK288.out 3))
    (try simp only[Act.put,List.setIfInBounds_toArray,List.set_cons_zero,List.set_cons_succ])
    go_loopg [] k (fun kq w'=>∃(x289000_1:Int) (x289001_1:Int),Aside0 (impl_bare.l0 kq x289000_1 x289001_1 a0_2 a0_3=some (r1,r2,r3,r4))∧Aside0 (kq≤k)∧Aside0 (w'.heap[gb288]? =some (.cells #[.int .i64 x289000_1, .int .i64 x289001_1, .int .i64 a0_2, .int .i64 a0_3] 25 (0,0)))∧Aside0 (w'.heap[gb289]? =some (.cells #[.int .i64 0, .int .i64 0, .int .i64 0, .int .i64 0] 25 (0,0)))∧Aside0 (Below w.heap.size w w'))
    case atStart=>exact⟨(a0_0),(a0_1),H',⟨Nat.le_refl _⟩,⟨by(with_reducible repeat(first|refine blk_drewN ?_ _|refine blk_drew ?_|refine blk_alloc ?_ _));exact BK288.out⟩,⟨by(with_reducible repeat(first|refine blk_drewN ?_ _|refine blk_drew ?_|refine blk_alloc ?_ _));exact BK289.out⟩,⟨by repeat(first|(with_reducible first|exact HB.out|apply below_alloc|apply pw_below_drewN|apply below_drew1|refine below_set ?_ GE288.out|refine below_set ?_ GE289.out)|exact HB.out)⟩⟩
    case round=>
      clear H'
      try clear c1
      try clear c2
      try clear c2b0
      try clear c2b1
      try clear p2
      try clear c5
      try clear c10
      try clear hcz11_0
      try clear hcz11_1
      try clear hcz11_2
      try clear hcz11_3
      try clear hcz6_0
      try clear hcz6_1
      try clear hcz6_2
      try clear hcz6_3
      try clear hcz7_0
      try clear hcz7_1
      try clear hcz7_2
      try clear hcz7_3
      try clear hfz11_0
      try clear hfz11_1
      try clear hfz11_2
      try clear hfz11_3
      try clear hfz6_0
      try clear hfz6_1
      try clear hfz6_2
      try clear hfz6_3
      try clear hfz7_0
      try clear hfz7_1
      try clear hfz7_2
      try clear hfz7_3
      obtain⟨x289000_1,x289001_1,HA,HK1,BK288,BK289,HB⟩:=hrel
      cases gk with
      |zero=>exact absurd HA.out (by simp[impl_bare.l0])
      | succ k1=>
        have H:=HA.out
        clear HA
        simp only[impl_bare.l0] at H
        by_cases c12:(Int.tmod x289000_1 10)=0
        · rw[if_pos c12] at H
          have c12b0:((Int.tmod x289000_1 10)==0)=true:=beq_iff_eq.mpr c12
          have c12b1:((Int.tmod x289000_1 10) != 0)=false:=bne_eq_false_iff_eq.mpr c12
          clear c12
          have H':=Aside0.mk H
          clear H
          have hnb13:=NB288_289.out
          have hnc13:=NB289_288.out
          have hcz14_0:wr.cell? ⟨gb288,0,none⟩=some (.int .i64 x289000_1):=(blk_cell BK288.out 0).trans rfl
          have hcz14_1:wr.cell? ⟨gb288,1,none⟩=some (.int .i64 x289001_1):=(blk_cell BK288.out 1).trans rfl
          have hcz14_2:wr.cell? ⟨gb288,2,none⟩=some (.int .i64 a0_2):=(blk_cell BK288.out 2).trans rfl
          have hcz14_3:wr.cell? ⟨gb288,3,none⟩=some (.int .i64 a0_3):=(blk_cell BK288.out 3).trans rfl
          have hfz14_0:=blk_frozen BK288.out 0
          have hfz14_1:=blk_frozen BK288.out 1
          have hfz14_2:=blk_frozen BK288.out 2
          have hfz14_3:=blk_frozen BK288.out 3
          go_wp2
          go_roundg k1
          case measure=>have:=HK1.out;omega
          case rel=>exact⟨(wrap64 (Int.tdiv x289000_1 10)),(wrap64 (x289001_1+1)),H',⟨by have:=HK1.out;omega⟩,⟨by(with_reducible repeat(first|refine blk_drewN ?_ _|refine blk_drew ?_|refine blk_alloc ?_ _));refine blk_put (cs:= #[.int .i64 (wrap64 (Int.tdiv x289000_1 10)), .int .i64 x289001_1, .int .i64 a0_2, .int .i64 a0_3]) ?_ 1 _ rfl;(with_reducible repeat(first|refine blk_drewN ?_ _|refine blk_drew ?_|refine blk_alloc ?_ _));refine blk_put (cs:= #[.int .i64 x289000_1, .int .i64 x289001_1, .int .i64 a0_2, .int .i64 a0_3]) ?_ 0 _ rfl;(with_reducible repeat(first|refine blk_drewN ?_ _|refine blk_drew ?_|refine blk_alloc ?_ _));exact BK288.out⟩,⟨by(with_reducible repeat(first|refine blk_drewN ?_ _|refine blk_drew ?_|refine blk_alloc ?_ _));refine blk_far ?_ NB289_288.out _;(with_reducible repeat(first|refine blk_drewN ?_ _|refine blk_drew ?_|refine blk_alloc ?_ _));refine blk_far ?_ NB289_288.out _;(with_reducible repeat(first|refine blk_drewN ?_ _|refine blk_drew ?_|refine blk_alloc ?_ _));exact BK289.out⟩,⟨by repeat(first|(with_reducible first|exact HB.out|apply below_alloc|apply pw_below_drewN|apply below_drew1|refine below_set ?_ GE288.out|refine below_set ?_ GE289.out)|exact HB.out)⟩⟩
        · rw[if_neg c12] at H
          have c12b0:((Int.tmod x289000_1 10)==0)=false:=beq_eq_false_iff_ne.mpr c12
          have c12b1:((Int.tmod x289000_1 10) != 0)=true:=bne_iff_ne.mpr c12
          simp only[Option.some.injEq,Prod.mk.injEq] at H
          obtain⟨rfl,rfl,rfl,rfl⟩:=H
          have hnb15:=NB288_289.out
          have hnc15:=NB289_288.out
          have hcz16_0:wr.cell? ⟨gb288,0,none⟩=some (.int .i64 x289000_1):=(blk_cell BK288.out 0).trans rfl
          have hcz16_1:wr.cell? ⟨gb288,1,none⟩=some (.int .i64 x289001_1):=(blk_cell BK288.out 1).trans rfl
          have hcz16_2:wr.cell? ⟨gb288,2,none⟩=some (.int .i64 a0_2):=(blk_cell BK288.out 2).trans rfl
          have hcz16_3:wr.cell? ⟨gb288,3,none⟩=some (.int .i64 a0_3):=(blk_cell BK288.out 3).trans rfl
          have hfz16_0:=blk_frozen BK288.out 0
          have hfz16_1:=blk_frozen BK288.out 1
          have hfz16_2:=blk_frozen BK288.out 2
          have hfz16_3:=blk_frozen BK288.out 3
          have hcz17_0:wr.cell? ⟨gb289,0,none⟩=some (.int .i64 0):=(blk_cell BK289.out 0).trans rfl
          have hcz17_1:wr.cell? ⟨gb289,1,none⟩=some (.int .i64 0):=(blk_cell BK289.out 1).trans rfl
          have hcz17_2:wr.cell? ⟨gb289,2,none⟩=some (.int .i64 0):=(blk_cell BK289.out 2).trans rfl
          have hcz17_3:wr.cell? ⟨gb289,3,none⟩=some (.int .i64 0):=(blk_cell BK289.out 3).trans rfl
          have hfz17_0:=blk_frozen BK289.out 0
          have hfz17_1:=blk_frozen BK289.out 1
          have hfz17_2:=blk_frozen BK289.out 2
          have hfz17_3:=blk_frozen BK289.out 3
          go_wp2
          refine bodyPost_ret (results_cell_row rfl _ _ gb289 25 #[.int .i64 x289000_1, .int .i64 x289001_1, .int .i64 a0_2, .int .i64 a0_3] (0,0) _ rfl (by(with_reducible repeat(first|refine blk_drewN ?_ _|refine blk_drew ?_|refine blk_alloc ?_ _));refine blk_put (cs:= #[.int .i64 x289000_1, .int .i64 x289001_1, .int .i64 a0_2, .int .i64 0]) ?_ 3 _ rfl;(with_reducible repeat(first|refine blk_drewN ?_ _|refine blk_drew ?_|refine blk_alloc ?_ _));refine blk_put (cs:= #[.int .i64 x289000_1, .int .i64 x289001_1, .int .i64 0, .int .i64 0]) ?_ 2 _ rfl;(with_reducible repeat(first|refine blk_drewN ?_ _|refine blk_drew ?_|refine blk_alloc ?_ _));refine blk_put (cs:= #[.int .i64 x289000_1, .int .i64 0, .int .i64 0, .int .i64 0]) ?_ 1 _ rfl;(with_reducible repeat(first|refine blk_drewN ?_ _|refine blk_drew ?_|refine blk_alloc ?_ _));refine blk_put (cs:= #[.int .i64 0, .int .i64 0, .int .i64 0, .int .i64 0]) ?_ 0 _ rfl;(with_reducible repeat(first|refine blk_drewN ?_ _|refine blk_drew ?_|refine blk_alloc ?_ _));exact BK289.out) Tryz.underlying25 rfl (by kernel_rfl)) rfl ?_
          exact⟨by first|rfl|(simp[errW_none,errW_some]<;>rfl)|(simp[*,errW_none,errW_some]<;>rfl),by repeat(first|(with_reducible first|exact HB.out|apply below_alloc|apply pw_below_drewN|apply below_drew1|refine below_set ?_ GE288.out|refine below_set ?_ GE289.out)|exact HB.out)⟩

/-! ### impl_ReadQty: function 8 -/
mutual
def impl_ReadQty.j0:Nat→ByteArray→Bool→ByteArray→Int→Int→Int→Int→Option (Int×Int×Int×Int×Bool)
  |0,_,_,_,_,_,_,_=>none
  |k+1,x4,x5,x6,x301000,x301001,x301002,x301003=>if(x6.size:Int)>9 then(some (0,0,0,0,false)) else((atoiNum.f x6).bind fun bt305=>(if x5=true then(impl_ReadQty.j1 k x4 (wrap64 (-bt305.1)) x301001 x301002 x301003) else(impl_ReadQty.j1 k x4 bt305.1 x301001 x301002 x301003)))
def impl_ReadQty.j1:Nat→ByteArray→Int→Int→Int→Int→Option (Int×Int×Int×Int×Bool)
  |0,_,_,_,_,_=>none
  |k+1,x4,x301000,x301001,x301002,x301003=>(strings_CutPrefix.f x4 (⟨#[32]⟩:ByteArray)).bind fun bt307=>(if bt307.2=true then((impl_longUnits.f k x301000 x301001 x301002 x301003 bt307.1).bind fun bt309=>(impl_ReadQty.j2 k bt309.1 bt309.2.1 bt309.2.2.1 bt309.2.2.2.1 bt309.2.2.2.2)) else(if x4.toList=([]:List UInt8) then(impl_ReadQty.j2 k true x301000 x301001 x301002 x301003) else((impl_shortUnit.f k x301000 x301001 x301002 x301003 x4).bind fun bt314=>(impl_ReadQty.j2 k bt314.1 bt314.2.1 bt314.2.2.1 bt314.2.2.2.1 bt314.2.2.2.2))))
def impl_ReadQty.j2:Nat→Bool→Int→Int→Int→Int→Option (Int×Int×Int×Int×Bool)
  |0,_,_,_,_,_=>none
  |k+1,x12,x301000,x301001,x301002,x301003=>(impl_bare.f k x301000 x301001 x301002 x301003).bind fun bt319=>(if x12=true then((impl_QtyOk.f bt319.1 bt319.2.1 bt319.2.2.1 bt319.2.2.2).bind fun t323=>(if t323=true then(some (bt319.1,bt319.2.1,bt319.2.2.1,bt319.2.2.2,true)) else(some (0,0,0,0,false)))) else(some (0,0,0,0,false)))
end
def impl_ReadQty.f (k:Nat) (a0:ByteArray):Option (Int×Int×Int×Int×Bool):=(strings_CutPrefix.f a0 (⟨#[45]⟩:ByteArray)).bind fun bt291=>((impl_span.f k bt291.1).bind fun bt293=>((impl_needless.f bt293.1).bind fun t295=>(if t295=true then(some (0,0,0,0,false)) else((strconv_Itoa_40.f).bind fun bt296=>((strings_CutPrefix.f bt293.2 (⟨#[46]⟩:ByteArray)).bind fun bt301=>(if bt301.2=true then((impl_span.f k bt301.1).bind fun bt303=>(if bt303.1.toList=([]:List UInt8) then(some (0,0,0,0,false)) else(if bt293.1.size+bt303.1.size≤9223372036854775807 then(impl_ReadQty.j0 k bt303.2 bt291.2 (bt293.1++bt303.1) bt296.1 (wrap64 (-(bt303.1.size:Int))) bt296.2.2.1 bt296.2.2.2) else(none)))) else(impl_ReadQty.j0 k bt293.2 bt291.2 bt293.1 bt296.1 bt296.2.1 bt296.2.2.1 bt296.2.2.2)))))))
theorem impl_ReadQty.mono_l:∀k,(∀y0 y1 y2 y3 y4 y5 y6,LeO (impl_ReadQty.j0 k y0 y1 y2 y3 y4 y5 y6) (impl_ReadQty.j0 (k+1) y0 y1 y2 y3 y4 y5 y6))∧(∀y0 y1 y2 y3 y4,LeO (impl_ReadQty.j1 k y0 y1 y2 y3 y4) (impl_ReadQty.j1 (k+1) y0 y1 y2 y3 y4))∧(∀y0 y1 y2 y3 y4,LeO (impl_ReadQty.j2 k y0 y1 y2 y3 y4) (impl_ReadQty.j2 (k+1) y0 y1 y2 y3 y4))
  |0=>⟨fun _ _ _ _ _ _ _ r h=>by simp[impl_ReadQty.j0] at h,fun _ _ _ _ _ r h=>by simp[impl_ReadQty.j1] at h,fun _ _ _ _ _ r h=>by simp[impl_ReadQty.j2] at h⟩
  | k +1=>by
    obtain⟨ih0,ih1,ih2⟩:=impl_ReadQty.mono_l k
    refine⟨?_,?_,?_⟩
    · intro y0 y1 y2 y3 y4 y5 y6
      unfold impl_ReadQty.j0
      repeat' first
      |(with_reducible exact ih0 _ _ _ _ _ _ _)
      |(with_reducible exact ih1 _ _ _ _ _)
      |(with_reducible exact ih2 _ _ _ _ _)
      |(with_reducible exact impl_bare.mono _ _ _ _ _)
      |(with_reducible exact impl_longUnits.mono _ _ _ _ _ _)
      |(with_reducible exact impl_shortUnit.mono _ _ _ _ _ _)
      |(with_reducible exact impl_span.mono _ _)
      |(with_reducible exact LeO.refl _)
      |(with_reducible exact LeO.none _)
      |(with_reducible refine LeO.ite ?_ ?_)
      |(with_reducible refine LeO.bind ?_ (fun _=> ?_))
      |exact ih0 _ _ _ _ _ _ _
      |exact ih1 _ _ _ _ _
      |exact ih2 _ _ _ _ _
      |exact impl_bare.mono _ _ _ _ _
      |exact impl_longUnits.mono _ _ _ _ _ _
      |exact impl_shortUnit.mono _ _ _ _ _ _
      |exact impl_span.mono _ _
      |exact LeO.none _
      |refine LeO.ite ?_ ?_
      |refine LeO.bind ?_ (fun _=> ?_)
    · intro y0 y1 y2 y3 y4
      unfold impl_ReadQty.j1
      repeat' first
      |(with_reducible exact ih0 _ _ _ _ _ _ _)
      |(with_reducible exact ih1 _ _ _ _ _)
      |(with_reducible exact ih2 _ _ _ _ _)
      |(with_reducible exact impl_bare.mono _ _ _ _ _)
      |(with_reducible exact impl_longUnits.mono _ _ _ _ _ _)
      |(with_reducible exact impl_shortUnit.mono _ _ _ _ _ _)
      |(with_reducible exact impl_span.mono _ _)
      |(with_reducible exact LeO.refl _)
      |(with_reducible exact LeO.none _)
      |(with_reducible refine LeO.ite ?_ ?_)
      |(with_reducible refine LeO.bind ?_ (fun _=> ?_))
      |exact ih0 _ _ _ _ _ _ _
      |exact ih1 _ _ _ _ _
      |exact ih2 _ _ _ _ _
      |exact impl_bare.mono _ _ _ _ _
      |exact impl_longUnits.mono _ _ _ _ _ _
      |exact impl_shortUnit.mono _ _ _ _ _ _
      |exact impl_span.mono _ _
      |exact LeO.none _
      |refine LeO.ite ?_ ?_
      |refine LeO.bind ?_ (fun _=> ?_)
    · intro y0 y1 y2 y3 y4
      unfold impl_ReadQty.j2
      repeat' first
      |(with_reducible exact ih0 _ _ _ _ _ _ _)
      |(with_reducible exact ih1 _ _ _ _ _)
      |(with_reducible exact ih2 _ _ _ _ _)
      |(with_reducible exact impl_bare.mono _ _ _ _ _)
      |(with_reducible exact impl_longUnits.mono _ _ _ _ _ _)
      |(with_reducible exact impl_shortUnit.mono _ _ _ _ _ _)
      |(with_reducible exact impl_span.mono _ _)
      |(with_reducible exact LeO.refl _)
      |(with_reducible exact LeO.none _)
      |(with_reducible refine LeO.ite ?_ ?_)
      |(with_reducible refine LeO.bind ?_ (fun _=> ?_))
      |exact ih0 _ _ _ _ _ _ _
      |exact ih1 _ _ _ _ _
      |exact ih2 _ _ _ _ _
      |exact impl_bare.mono _ _ _ _ _
      |exact impl_longUnits.mono _ _ _ _ _ _
      |exact impl_shortUnit.mono _ _ _ _ _ _
      |exact impl_span.mono _ _
      |exact LeO.none _
      |refine LeO.ite ?_ ?_
      |refine LeO.bind ?_ (fun _=> ?_)
theorem impl_ReadQty.mono:∀a0 k,LeO (impl_ReadQty.f k a0) (impl_ReadQty.f (k+1) a0):=by
  intro a0 k
  obtain⟨ih0,ih1,ih2⟩:=impl_ReadQty.mono_l k
  unfold impl_ReadQty.f
  repeat' first
      |(with_reducible exact ih0 _ _ _ _ _ _ _)
      |(with_reducible exact ih1 _ _ _ _ _)
      |(with_reducible exact ih2 _ _ _ _ _)
      |(with_reducible exact impl_bare.mono _ _ _ _ _)
      |(with_reducible exact impl_longUnits.mono _ _ _ _ _ _)
      |(with_reducible exact impl_shortUnit.mono _ _ _ _ _ _)
      |(with_reducible exact impl_span.mono _ _)
      |(with_reducible exact LeO.refl _)
      |(with_reducible exact LeO.none _)
      |(with_reducible refine LeO.ite ?_ ?_)
      |(with_reducible refine LeO.bind ?_ (fun _=> ?_))
      |exact ih0 _ _ _ _ _ _ _
      |exact ih1 _ _ _ _ _
      |exact ih2 _ _ _ _ _
      |exact impl_bare.mono _ _ _ _ _
      |exact impl_longUnits.mono _ _ _ _ _ _
      |exact impl_shortUnit.mono _ _ _ _ _ _
      |exact impl_span.mono _ _
      |exact LeO.none _
      |refine LeO.ite ?_ ?_
      |refine LeO.bind ?_ (fun _=> ?_)
set_option maxHeartbeats 8000000 in
set_option maxRecDepth 100000 in
theorem impl_ReadQty.calls (k:Nat) (a0:ByteArray) (r1:Int) (r2:Int) (r3:Int) (r4:Int) (r5:Bool) (w:World) (h:impl_ReadQty.f k a0=some (r1,r2,r3,r4,r5)) (hG_:Gw w:=by first|exact HG.out|exact Gw.below HG.out (by repeat(first|(with_reducible first|exact HB.out|apply below_alloc|apply pw_below_drewN|apply below_drew1|refine below_set ?_ (Aside0.out (by assumption)))|exact HB.out))):
    Calls Tryz.prog 8 #[.string a0] w fun e w'=>e= .returned (.tuple #[.agg #[.int .i64 r1, .int .i64 r2, .int .i64 r3, .int .i64 r4], .bool r5])∧Below w.heap.size w w':=by
  have HG:=Aside0.mk hG_
  clear hG_
  have hu25:=Tryz.underlying25
  have HB:=Aside0.mk (Below.refl w.heap.size w)
  have H:((strings_CutPrefix.f a0 (⟨#[45]⟩:ByteArray)).bind fun bt291=>((impl_span.f k bt291.1).bind fun bt293=>((impl_needless.f bt293.1).bind fun t295=>(if t295=true then(some (0,0,0,0,false)) else((strconv_Itoa_40.f).bind fun bt296=>((strings_CutPrefix.f bt293.2 (⟨#[46]⟩:ByteArray)).bind fun bt301=>(if bt301.2=true then((impl_span.f k bt301.1).bind fun bt303=>(if bt303.1.toList=([]:List UInt8) then(some (0,0,0,0,false)) else(if bt293.1.size+bt303.1.size≤9223372036854775807 then(impl_ReadQty.j0 k bt303.2 bt291.2 (bt293.1++bt303.1) bt296.1 (wrap64 (-(bt303.1.size:Int))) bt296.2.2.1 bt296.2.2.2) else(none)))) else(impl_ReadQty.j0 k bt293.2 bt291.2 bt293.1 bt296.1 bt296.2.1 bt296.2.2.1 bt296.2.2.2))))))))=some (r1,r2,r3,r4,r5):=h
  clear h
  replace H:=Option.bind_eq_some_iff.mp H
  obtain⟨⟨t291,t292⟩,A20,H⟩:=H
  replace H:((impl_span.f k t291).bind fun bt293=>((impl_needless.f bt293.1).bind fun t295=>(if t295=true then(some (0,0,0,0,false)) else((strconv_Itoa_40.f).bind fun bt296=>((strings_CutPrefix.f bt293.2 (⟨#[46]⟩:ByteArray)).bind fun bt301=>(if bt301.2=true then((impl_span.f k bt301.1).bind fun bt303=>(if bt303.1.toList=([]:List UInt8) then(some (0,0,0,0,false)) else(if bt293.1.size+bt303.1.size≤9223372036854775807 then(impl_ReadQty.j0 k bt303.2 t292 (bt293.1++bt303.1) bt296.1 (wrap64 (-(bt303.1.size:Int))) bt296.2.2.1 bt296.2.2.2) else(none)))) else(impl_ReadQty.j0 k bt293.2 t292 bt293.1 bt296.1 bt296.2.1 bt296.2.2.1 bt296.2.2.2)))))))=some (r1,r2,r3,r4,r5):=H
  have A2:=Aside0.mk A20
  clear A20
  replace H:=Option.bind_eq_some_iff.mp H
  obtain⟨⟨t293,t294⟩,A30,H⟩:=H
  replace H:((impl_needless.f t293).bind fun t295=>(if t295=true then(some (0,0,0,0,false)) else((strconv_Itoa_40.f).bind fun bt296=>((strings_CutPrefix.f t294 (⟨#[46]⟩:ByteArray)).bind fun bt301=>(if bt301.2=true then((impl_span.f k bt301.1).bind fun bt303=>(if bt303.1.toList=([]:List UInt8) then(some (0,0,0,0,false)) else(if t293.size+bt303.1.size≤9223372036854775807 then(impl_ReadQty.j0 k bt303.2 t292 (t293++bt303.1) bt296.1 (wrap64 (-(bt303.1.size:Int))) bt296.2.2.1 bt296.2.2.2) else(none)))) else(impl_ReadQty.j0 k t294 t292 t293 bt296.1 bt296.2.1 bt296.2.2.1 bt296.2.2.2))))))=some (r1,r2,r3,r4,r5):=H
  have A3:=Aside0.mk A30
  clear A30
  replace H:=Option.bind_eq_some_iff.mp H
  obtain⟨t295,A40,H⟩:=H
  replace H:(if t295=true then(some (0,0,0,0,false)) else((strconv_Itoa_40.f).bind fun bt296=>((strings_CutPrefix.f t294 (⟨#[46]⟩:ByteArray)).bind fun bt301=>(if bt301.2=true then((impl_span.f k bt301.1).bind fun bt303=>(if bt303.1.toList=([]:List UInt8) then(some (0,0,0,0,false)) else(if t293.size+bt303.1.size≤9223372036854775807 then(impl_ReadQty.j0 k bt303.2 t292 (t293++bt303.1) bt296.1 (wrap64 (-(bt303.1.size:Int))) bt296.2.2.1 bt296.2.2.2) else(none)))) else(impl_ReadQty.j0 k t294 t292 t293 bt296.1 bt296.2.1 bt296.2.2.1 bt296.2.2.2)))))=some (r1,r2,r3,r4,r5):=H
  have A4:=Aside0.mk A40
  clear A40
  by_cases c5:t295=true
  · subst c5
    have H1:(some (0,0,0,0,false))=some (r1,r2,r3,r4,r5):=by rw[if_pos rfl] at H;exact H
    clear H
    have H:=H1
    clear H1
    simp only[Option.some.injEq,Prod.mk.injEq] at H
    obtain⟨rfl,rfl,rfl,rfl,rfl⟩:=H
    go_enter Tryz.func8,Tryz.ntmps8
    go_wp2_with (first|((with_reducible refine gate_dst (N:=2) rfl ?_);refine box_event ?hg (N:=2) ?hd (cs:= #[.int .i64 0, .int .i64 0, .int .i64 0, .int .i64 0]) (t:=25) ?hr ?_;(case hd=>rfl);(case hg=>rfl);(case hr=>first|(go_simp;done)|(go_simp;rfl));intro gb290 hg w6 hbox hb;have n0_:=Aside0.mk (below_step (by repeat(first|(with_reducible first|exact HB.out|apply below_alloc|apply pw_below_drewN|apply below_drew1)|exact HB.out)) hb);have n1_:=Aside0.mk (hbox);have n2_:=Aside0.mk ((by rw[hg];exact(below_size (by repeat(first|(with_reducible first|exact HB.out|apply below_alloc|apply pw_below_drewN|apply below_drew1)|exact HB.out))):w.heap.size≤gb290));have n3_:=Aside0.mk ((by rw[hg];exact(below_size (by repeat(first|(with_reducible first|exact HB.out|apply below_alloc|apply pw_below_drewN|apply below_drew1)|exact HB.out))):w.heap.size≤gb290));clear HB;have HB:=n0_;have BK290:=n1_;have GW290:=n2_;have GE290:=n3_;clear n0_ n1_ n2_ n3_;clear hb hbox hg)|((with_reducible refine gate_callee (f:=22) rfl ?_);refine goesL_ (some 17) rfl rfl Tryz.func22 (by kernel_rfl) rfl #[.string a0, .string (⟨#[45]⟩:ByteArray)] rfl (by(try simp only[List.map_toArray,List.map_cons,List.map_nil]);first|done|rfl|(simp only[List.length_drop,List.length_take];rfl)) ?_;(with_reducible refine(strings_CutPrefix.calls a0 (⟨#[45]⟩:ByteArray) t291 t292 _ A2.out).mono ?_);rintro e w' ⟨rfl,⟨nd,rfl⟩⟩;refine⟨_,rfl,?_⟩;(try(rw[drewN_self w6];generalize hq_:World.drewN w6 _=w6;have n0_:Aside0 (w6.heap[gb290]? =some (.cells #[.int .i64 0, .int .i64 0, .int .i64 0, .int .i64 0] 25 (0,0))):=⟨by rw[←hq_];exact(by(with_reducible repeat(first|refine blk_drewN ?_ _|refine blk_drew ?_|refine blk_alloc ?_ _));exact BK290.out)⟩;have n1_:Aside0 (Below w.heap.size w w6):=⟨by rw[←hq_];exact(by repeat(first|(with_reducible first|exact HB.out|apply below_alloc|apply pw_below_drewN|apply below_drew1|refine below_set ?_ GE290.out)|exact HB.out))⟩;clear BK290 HB hq_;have BK290:=n0_;have HB:=n1_;clear n0_ n1_)))|((with_reducible refine gate_callee (f:=23) rfl ?_);refine goesL_ (some 22) rfl rfl Tryz.func23 (by kernel_rfl) rfl #[.string t291] rfl (by(try simp only[List.map_toArray,List.map_cons,List.map_nil]);first|done|rfl|(simp only[List.length_drop,List.length_take];rfl)) ?_;(with_reducible refine(impl_span.calls k t291 t293 t294 _ A3.out).mono ?_);rintro e w' ⟨rfl,⟨nd,rfl⟩⟩;refine⟨_,rfl,?_⟩;(try(rw[drewN_self w6];generalize hq_:World.drewN w6 _=w6;have n0_:Aside0 (w6.heap[gb290]? =some (.cells #[.int .i64 0, .int .i64 0, .int .i64 0, .int .i64 0] 25 (0,0))):=⟨by rw[←hq_];exact(by(with_reducible repeat(first|refine blk_drewN ?_ _|refine blk_drew ?_|refine blk_alloc ?_ _));exact BK290.out)⟩;have n1_:Aside0 (Below w.heap.size w w6):=⟨by rw[←hq_];exact(by repeat(first|(with_reducible first|exact HB.out|apply below_alloc|apply pw_below_drewN|apply below_drew1|refine below_set ?_ GE290.out)|exact HB.out))⟩;clear BK290 HB hq_;have BK290:=n0_;have HB:=n1_;clear n0_ n1_)))|((with_reducible refine gate_callee (f:=24) rfl ?_);refine goesL_ (some 26) rfl rfl Tryz.func24 (by kernel_rfl) rfl #[.string t293] rfl (by(try simp only[List.map_toArray,List.map_cons,List.map_nil]);first|done|rfl|(simp only[List.length_drop,List.length_take];rfl)) ?_;(with_reducible refine(impl_needless.calls t293 true _ A4.out).mono ?_);rintro e w' ⟨rfl,⟨nd,rfl⟩⟩;refine⟨_,rfl,?_⟩;(try(rw[drewN_self w6];generalize hq_:World.drewN w6 _=w6;have n0_:Aside0 (w6.heap[gb290]? =some (.cells #[.int .i64 0, .int .i64 0, .int .i64 0, .int .i64 0] 25 (0,0))):=⟨by rw[←hq_];exact(by(with_reducible repeat(first|refine blk_drewN ?_ _|refine blk_drew ?_|refine blk_alloc ?_ _));exact BK290.out)⟩;have n1_:Aside0 (Below w.heap.size w w6):=⟨by rw[←hq_];exact(by repeat(first|(with_reducible first|exact HB.out|apply below_alloc|apply pw_below_drewN|apply below_drew1|refine below_set ?_ GE290.out)|exact HB.out))⟩;clear BK290 HB hq_;have BK290:=n0_;have HB:=n1_;clear n0_ n1_));have hcz7_0:w6.cell? ⟨gb290,0,none⟩=some (.int .i64 0):=(blk_cell BK290.out 0).trans rfl;have hcz7_1:w6.cell? ⟨gb290,1,none⟩=some (.int .i64 0):=(blk_cell BK290.out 1).trans rfl;have hcz7_2:w6.cell? ⟨gb290,2,none⟩=some (.int .i64 0):=(blk_cell BK290.out 2).trans rfl;have hcz7_3:w6.cell? ⟨gb290,3,none⟩=some (.int .i64 0):=(blk_cell BK290.out 3).trans rfl;have hfz7_0:=blk_frozen BK290.out 0;have hfz7_1:=blk_frozen BK290.out 1;have hfz7_2:=blk_frozen BK290.out 2;have hfz7_3:=blk_frozen BK290.out 3))
    refine bodyPost_ret (results_ct rfl _ _ gb290 25 #[.int .i64 0, .int .i64 0, .int .i64 0, .int .i64 0] (0,0) _ rfl (by(with_reducible repeat(first|refine blk_drewN ?_ _|refine blk_drew ?_|refine blk_alloc ?_ _));refine blk_put (cs:= #[.int .i64 0, .int .i64 0, .int .i64 0, .int .i64 0]) ?_ 3 _ rfl;(with_reducible repeat(first|refine blk_drewN ?_ _|refine blk_drew ?_|refine blk_alloc ?_ _));refine blk_put (cs:= #[.int .i64 0, .int .i64 0, .int .i64 0, .int .i64 0]) ?_ 2 _ rfl;(with_reducible repeat(first|refine blk_drewN ?_ _|refine blk_drew ?_|refine blk_alloc ?_ _));refine blk_put (cs:= #[.int .i64 0, .int .i64 0, .int .i64 0, .int .i64 0]) ?_ 1 _ rfl;(with_reducible repeat(first|refine blk_drewN ?_ _|refine blk_drew ?_|refine blk_alloc ?_ _));refine blk_put (cs:= #[.int .i64 0, .int .i64 0, .int .i64 0, .int .i64 0]) ?_ 0 _ rfl;(with_reducible repeat(first|refine blk_drewN ?_ _|refine blk_drew ?_|refine blk_alloc ?_ _));exact BK290.out) Tryz.underlying25 rfl (by kernel_rfl)) rfl ?_
    exact⟨by first|rfl|(simp[errW_none,errW_some]<;>rfl)|(simp[*,errW_none,errW_some]<;>rfl),by repeat(first|(with_reducible first|exact HB.out|apply below_alloc|apply pw_below_drewN|apply below_drew1|refine below_set ?_ GE290.out)|exact HB.out)⟩
  · replace c5 := Bool.eq_false_iff.mpr c5
    subst c5
    have H1:((strconv_Itoa_40.f).bind fun bt296=>((strings_CutPrefix.f t294 (⟨#[46]⟩:ByteArray)).bind fun bt301=>(if bt301.2=true then((impl_span.f k bt301.1).bind fun bt303=>(if bt303.1.toList=([]:List UInt8) then(some (0,0,0,0,false)) else(if t293.size+bt303.1.size≤9223372036854775807 then(impl_ReadQty.j0 k bt303.2 t292 (t293++bt303.1) bt296.1 (wrap64 (-(bt303.1.size:Int))) bt296.2.2.1 bt296.2.2.2) else(none)))) else(impl_ReadQty.j0 k t294 t292 t293 bt296.1 bt296.2.1 bt296.2.2.1 bt296.2.2.2))))=some (r1,r2,r3,r4,r5):=by rw[if_neg (show ¬(false=true) by decide)] at H;exact H
    clear H
    have H:=H1
    clear H1
    replace H:=Option.bind_eq_some_iff.mp H
    obtain⟨⟨t296,t297,t298,t299⟩,A80,H⟩:=H
    replace H:((strings_CutPrefix.f t294 (⟨#[46]⟩:ByteArray)).bind fun bt301=>(if bt301.2=true then((impl_span.f k bt301.1).bind fun bt303=>(if bt303.1.toList=([]:List UInt8) then(some (0,0,0,0,false)) else(if t293.size+bt303.1.size≤9223372036854775807 then(impl_ReadQty.j0 k bt303.2 t292 (t293++bt303.1) t296 (wrap64 (-(bt303.1.size:Int))) t298 t299) else(none)))) else(impl_ReadQty.j0 k t294 t292 t293 t296 t297 t298 t299)))=some (r1,r2,r3,r4,r5):=H
    have A8:=Aside0.mk A80
    clear A80
    replace H:=Option.bind_eq_some_iff.mp H
    obtain⟨⟨t301,t302⟩,A90,H⟩:=H
    replace H:(if t302=true then((impl_span.f k t301).bind fun bt303=>(if bt303.1.toList=([]:List UInt8) then(some (0,0,0,0,false)) else(if t293.size+bt303.1.size≤9223372036854775807 then(impl_ReadQty.j0 k bt303.2 t292 (t293++bt303.1) t296 (wrap64 (-(bt303.1.size:Int))) t298 t299) else(none)))) else(impl_ReadQty.j0 k t294 t292 t293 t296 t297 t298 t299))=some (r1,r2,r3,r4,r5):=H
    have A9:=Aside0.mk A90
    clear A90
    have HC10:=Aside0.mk H
    clear H
    go_enter Tryz.func8,Tryz.ntmps8
    go_upto_if 33 with(first|((with_reducible refine gate_dst (N:=2) rfl ?_);refine box_event ?hg (N:=2) ?hd (cs:= #[.int .i64 0, .int .i64 0, .int .i64 0, .int .i64 0]) (t:=25) ?hr ?_;(case hd=>rfl);(case hg=>rfl);(case hr=>first|(go_simp;done)|(go_simp;rfl));intro gb290 hg w11 hbox hb;have n0_:=Aside0.mk (below_step (by repeat(first|(with_reducible first|exact HB.out|apply below_alloc|apply pw_below_drewN|apply below_drew1)|exact HB.out)) hb);have n1_:=Aside0.mk (hbox);have n2_:=Aside0.mk ((by rw[hg];exact(below_size (by repeat(first|(with_reducible first|exact HB.out|apply below_alloc|apply pw_below_drewN|apply below_drew1)|exact HB.out))):w.heap.size≤gb290));have n3_:=Aside0.mk ((by rw[hg];exact(below_size (by repeat(first|(with_reducible first|exact HB.out|apply below_alloc|apply pw_below_drewN|apply below_drew1)|exact HB.out))):w.heap.size≤gb290));clear HB;have HB:=n0_;have BK290:=n1_;have GW290:=n2_;have GE290:=n3_;clear n0_ n1_ n2_ n3_;clear hb hbox hg)|((with_reducible refine gate_callee (f:=22) rfl ?_);refine goesL_ (some 17) rfl rfl Tryz.func22 (by kernel_rfl) rfl #[.string a0, .string (⟨#[45]⟩:ByteArray)] rfl (by(try simp only[List.map_toArray,List.map_cons,List.map_nil]);first|done|rfl|(simp only[List.length_drop,List.length_take];rfl)) ?_;(with_reducible refine(strings_CutPrefix.calls a0 (⟨#[45]⟩:ByteArray) t291 t292 _ A2.out).mono ?_);rintro e w' ⟨rfl,⟨nd,rfl⟩⟩;refine⟨_,rfl,?_⟩)|((with_reducible refine gate_callee (f:=23) rfl ?_);refine goesL_ (some 22) rfl rfl Tryz.func23 (by kernel_rfl) rfl #[.string t291] rfl (by(try simp only[List.map_toArray,List.map_cons,List.map_nil]);first|done|rfl|(simp only[List.length_drop,List.length_take];rfl)) ?_;(with_reducible refine(impl_span.calls k t291 t293 t294 _ A3.out).mono ?_);rintro e w' ⟨rfl,⟨nd,rfl⟩⟩;refine⟨_,rfl,?_⟩)|((with_reducible refine gate_callee (f:=24) rfl ?_);refine goesL_ (some 26) rfl rfl Tryz.func24 (by kernel_rfl) rfl #[.string t293] rfl (by(try simp only[List.map_toArray,List.map_cons,List.map_nil]);first|done|rfl|(simp only[List.length_drop,List.length_take];rfl)) ?_;(with_reducible refine(impl_needless.calls t293 false _ A4.out).mono ?_);rintro e w' ⟨rfl,⟨nd,rfl⟩⟩;refine⟨_,rfl,?_⟩)|((with_reducible refine gate_dst (N:=7) rfl ?_);refine box_event ?hg (N:=7) ?hd (cs:= #[.int .i64 0, .int .i64 0, .int .i64 0, .int .i64 0]) (t:=25) ?hr ?_;(case hd=>rfl);(case hg=>rfl);(case hr=>first|(go_simp;done)|(go_simp;rfl));intro g300 hg w12 hbox hb2;have q_:0=t296∧0=t297∧0=t298∧0=t299:=(by have q0_:=A8.out;simp only[strconv_Itoa_40.f,Option.some.injEq,Prod.mk.injEq] at q0_;exact q0_);obtain⟨q1_,q2_,q3_,q4_⟩:=q_;replace hbox:=box0_eq hbox q1_ q2_ q3_ q4_;clear q1_ q2_ q3_ q4_;have hb:=(below_step (by repeat(first|(with_reducible first|exact HB.out|apply below_alloc|apply pw_below_drewN|apply below_drew1|refine below_set ?_ GE290.out)|exact HB.out)) hb2:Below w.heap.size w w12);have hi:IsS25 w w12 g300 t296 t297 t298 t299:=⟨hbox,(by rw[hg];exact below_size (by repeat(first|(with_reducible first|exact HB.out|apply below_alloc|apply pw_below_drewN|apply below_drew1|refine below_set ?_ GE290.out)|exact HB.out)))⟩;have n0_:=Aside0.mk (blk_below (g:=gb290) (o:= .cells #[.int .i64 0, .int .i64 0, .int .i64 0, .int .i64 0] 25 (0,0)) (by(with_reducible repeat(first|refine blk_drewN ?_ _|refine blk_drew ?_|refine blk_alloc ?_ _));exact BK290.out) hb2);have n1_:=Aside0.mk ((by rw[hg];exact Nat.ne_of_gt (blk_lt (by(with_reducible repeat(first|refine blk_drewN ?_ _|refine blk_drew ?_|refine blk_alloc ?_ _));exact BK290.out)):g300≠gb290));have n2_:=Aside0.mk ((by rw[hg];exact Nat.ne_of_lt (blk_lt (by(with_reducible repeat(first|refine blk_drewN ?_ _|refine blk_drew ?_|refine blk_alloc ?_ _));exact BK290.out)):gb290≠g300));have n3_:=Aside0.mk (hb);have n4_:=Aside0.mk (hi);clear BK290;clear HB;have BK290:=n0_;have NB300_290:=n1_;have NB290_300:=n2_;have HB:=n3_;have HI300:=n4_;clear n0_ n1_ n2_ n3_ n4_;clear hb hi hbox hg hb2)|((with_reducible refine gate_callee (f:=22) rfl ?_);refine goesL_ (some 30) rfl rfl Tryz.func22 (by kernel_rfl) rfl #[.string t294, .string (⟨#[46]⟩:ByteArray)] rfl (by(try simp only[List.map_toArray,List.map_cons,List.map_nil]);first|done|rfl|(simp only[List.length_drop,List.length_take];rfl)) ?_;(with_reducible refine(strings_CutPrefix.calls t294 (⟨#[46]⟩:ByteArray) t301 t302 _ A9.out).mono ?_);rintro e w' ⟨rfl,⟨nd,rfl⟩⟩;refine⟨_,rfl,?_⟩))
    (try simp only[Act.put,List.setIfInBounds_toArray,List.set_cons_zero,List.set_cons_succ])
    go_cut [4,6] (fun v4 v6 wc=>∃(kq:Nat) (x4_9:ByteArray) (x6_9:ByteArray) (x291000_9:Int) (x291001_9:Int) (x291002_9:Int) (x291003_9:Int) (x301001_9:Int),v4= .string x4_9∧v6= .string x6_9∧Aside0 (impl_ReadQty.j0 kq x4_9 t292 x6_9 t296 x301001_9 t298 t299=some (r1,r2,r3,r4,r5))∧Aside0 (kq≤k)∧Aside0 (wc.heap[gb290]? =some (.cells #[.int .i64 x291000_9, .int .i64 x291001_9, .int .i64 x291002_9, .int .i64 x291003_9] 25 (0,0)))∧Aside0 (IsS25 w wc g300 t296 x301001_9 t298 t299)∧Aside0 (Below w.heap.size w wc))
    case first=>
      have H:=HC10.out
      clear HC10
      by_cases c13:t302=true
      · subst c13
        have H1:((impl_span.f k t301).bind fun bt303=>(if bt303.1.toList=([]:List UInt8) then(some (0,0,0,0,false)) else(if t293.size+bt303.1.size≤9223372036854775807 then(impl_ReadQty.j0 k bt303.2 t292 (t293++bt303.1) t296 (wrap64 (-(bt303.1.size:Int))) t298 t299) else(none))))=some (r1,r2,r3,r4,r5):=by rw[if_pos rfl] at H;exact H
        clear H
        have H:=H1
        clear H1
        replace H:=Option.bind_eq_some_iff.mp H
        obtain⟨⟨t303,t304⟩,A140,H⟩:=H
        replace H:(if t303.toList=([]:List UInt8) then(some (0,0,0,0,false)) else(if t293.size+t303.size≤9223372036854775807 then(impl_ReadQty.j0 k t304 t292 (t293++t303) t296 (wrap64 (-(t303.size:Int))) t298 t299) else(none)))=some (r1,r2,r3,r4,r5):=H
        have A14:=Aside0.mk A140
        clear A140
        by_cases c15:t303.toList=([]:List UInt8)
        · rw[if_pos c15] at H
          have c15b0:(t303.toList==([]:List UInt8))=true:=beq_iff_eq.mpr c15
          have c15b1:(t303.toList != ([]:List UInt8))=false:=bne_eq_false_iff_eq.mpr c15
          clear c15
          (first|rw[c15b0]|(simp only[i64_w,i32_w];rw[c15b0])|skip)
          simp only[Option.some.injEq,Prod.mk.injEq] at H
          obtain⟨rfl,rfl,rfl,rfl,rfl⟩:=H
          go_wp2_with (first|((with_reducible refine gate_callee (f:=23) rfl ?_);refine goesL_ (some 36) rfl rfl Tryz.func23 (by kernel_rfl) rfl #[.string t301] rfl (by(try simp only[List.map_toArray,List.map_cons,List.map_nil]);first|done|rfl|(simp only[List.length_drop,List.length_take];rfl)) ?_;(with_reducible refine(impl_span.calls k t301 t303 t304 _ A14.out).mono ?_);rintro e w' ⟨rfl,⟨nd,rfl⟩⟩;refine⟨_,rfl,?_⟩;(try(rw[drewN_self w12];generalize hq_:World.drewN w12 _=w12;have n0_:Aside0 (w12.heap[gb290]? =some (.cells #[.int .i64 0, .int .i64 0, .int .i64 0, .int .i64 0] 25 (0,0))):=⟨by rw[←hq_];exact(by(with_reducible repeat(first|refine blk_drewN ?_ _|refine blk_drew ?_|refine blk_alloc ?_ _));exact BK290.out)⟩;have n1_:Aside0 (IsS25 w w12 g300 t296 t297 t298 t299):=⟨by rw[←hq_];exact(by repeat(first|(with_reducible first|exact HI300.out|apply IsS25.alloc|apply IsS25.drewN|apply IsS25.drew|apply IsS25.set_0|apply IsS25.set_1|apply IsS25.set_2|apply IsS25.set_3|refine IsS25.far ?_ NB300_290.out _)|exact HI300.out))⟩;have n2_:Aside0 (Below w.heap.size w w12):=⟨by rw[←hq_];exact(by repeat(first|(with_reducible first|exact HB.out|apply below_alloc|apply pw_below_drewN|apply below_drew1|refine below_set ?_ (IsS25.ge HI300.out)|refine below_set ?_ GE290.out)|exact HB.out))⟩;clear BK290 HI300 HB hq_;have BK290:=n0_;have HI300:=n1_;have HB:=n2_;clear n0_ n1_ n2_));have hnb16:=NB290_300.out;have hnc16:=NB300_290.out;have hcz17_0:w12.cell? ⟨gb290,0,none⟩=some (.int .i64 0):=(blk_cell BK290.out 0).trans rfl;have hcz17_1:w12.cell? ⟨gb290,1,none⟩=some (.int .i64 0):=(blk_cell BK290.out 1).trans rfl;have hcz17_2:w12.cell? ⟨gb290,2,none⟩=some (.int .i64 0):=(blk_cell BK290.out 2).trans rfl;have hcz17_3:w12.cell? ⟨gb290,3,none⟩=some (.int .i64 0):=(blk_cell BK290.out 3).trans rfl;have hfz17_0:=blk_frozen BK290.out 0;have hfz17_1:=blk_frozen BK290.out 1;have hfz17_2:=blk_frozen BK290.out 2;have hfz17_3:=blk_frozen BK290.out 3))
          refine bodyPost_ret (results_ct rfl _ _ gb290 25 #[.int .i64 0, .int .i64 0, .int .i64 0, .int .i64 0] (0,0) _ rfl (by(with_reducible repeat(first|refine blk_drewN ?_ _|refine blk_drew ?_|refine blk_alloc ?_ _));refine blk_put (cs:= #[.int .i64 0, .int .i64 0, .int .i64 0, .int .i64 0]) ?_ 3 _ rfl;(with_reducible repeat(first|refine blk_drewN ?_ _|refine blk_drew ?_|refine blk_alloc ?_ _));refine blk_put (cs:= #[.int .i64 0, .int .i64 0, .int .i64 0, .int .i64 0]) ?_ 2 _ rfl;(with_reducible repeat(first|refine blk_drewN ?_ _|refine blk_drew ?_|refine blk_alloc ?_ _));refine blk_put (cs:= #[.int .i64 0, .int .i64 0, .int .i64 0, .int .i64 0]) ?_ 1 _ rfl;(with_reducible repeat(first|refine blk_drewN ?_ _|refine blk_drew ?_|refine blk_alloc ?_ _));refine blk_put (cs:= #[.int .i64 0, .int .i64 0, .int .i64 0, .int .i64 0]) ?_ 0 _ rfl;(with_reducible repeat(first|refine blk_drewN ?_ _|refine blk_drew ?_|refine blk_alloc ?_ _));exact BK290.out) Tryz.underlying25 rfl (by kernel_rfl)) rfl ?_
          exact⟨by first|rfl|(simp[errW_none,errW_some]<;>rfl)|(simp[*,errW_none,errW_some]<;>rfl),by repeat(first|(with_reducible first|exact HB.out|apply below_alloc|apply pw_below_drewN|apply below_drew1|refine below_set ?_ (IsS25.ge HI300.out)|refine below_set ?_ GE290.out)|exact HB.out)⟩
        · rw[if_neg c15] at H
          have c15b0:(t303.toList==([]:List UInt8))=false:=beq_eq_false_iff_ne.mpr c15
          have c15b1:(t303.toList != ([]:List UInt8))=true:=bne_iff_ne.mpr c15
          (first|rw[c15b0]|(simp only[i64_w,i32_w];rw[c15b0])|skip)
          by_cases c18:t293.size+t303.size≤9223372036854775807
          · rw[if_pos c18] at H
            have c18b0:=eq_true c18
            have c18b1:decide (t293.size+t303.size≤9223372036854775807)=true:=decide_eq_true c18
            try have c18b2:(9223372036854775807<t293.size+t303.size)=False:=eq_false (Nat.not_lt.2 c18)
            have H':=Aside0.mk H
            clear H
            go_wp2_with (first|((with_reducible refine gate_callee (f:=23) rfl ?_);refine goesL_ (some 36) rfl rfl Tryz.func23 (by kernel_rfl) rfl #[.string t301] rfl (by(try simp only[List.map_toArray,List.map_cons,List.map_nil]);first|done|rfl|(simp only[List.length_drop,List.length_take];rfl)) ?_;(with_reducible refine(impl_span.calls k t301 t303 t304 _ A14.out).mono ?_);rintro e w' ⟨rfl,⟨nd,rfl⟩⟩;refine⟨_,rfl,?_⟩;(try(rw[drewN_self w12];generalize hq_:World.drewN w12 _=w12;have n0_:Aside0 (w12.heap[gb290]? =some (.cells #[.int .i64 0, .int .i64 0, .int .i64 0, .int .i64 0] 25 (0,0))):=⟨by rw[←hq_];exact(by(with_reducible repeat(first|refine blk_drewN ?_ _|refine blk_drew ?_|refine blk_alloc ?_ _));exact BK290.out)⟩;have n1_:Aside0 (IsS25 w w12 g300 t296 t297 t298 t299):=⟨by rw[←hq_];exact(by repeat(first|(with_reducible first|exact HI300.out|apply IsS25.alloc|apply IsS25.drewN|apply IsS25.drew|apply IsS25.set_0|apply IsS25.set_1|apply IsS25.set_2|apply IsS25.set_3|refine IsS25.far ?_ NB300_290.out _)|exact HI300.out))⟩;have n2_:Aside0 (Below w.heap.size w w12):=⟨by rw[←hq_];exact(by repeat(first|(with_reducible first|exact HB.out|apply below_alloc|apply pw_below_drewN|apply below_drew1|refine below_set ?_ (IsS25.ge HI300.out)|refine below_set ?_ GE290.out)|exact HB.out))⟩;clear BK290 HI300 HB hq_;have BK290:=n0_;have HI300:=n1_;have HB:=n2_;clear n0_ n1_ n2_));obtain⟨HGz19,hgz19⟩:=HI300.out;have hcz19_0:=cellS25_0 HGz19;have hcz19_1:=cellS25_1 HGz19;have hcz19_2:=cellS25_2 HGz19;have hcz19_3:=cellS25_3 HGz19;have hfz19_0:=blk_frozen HGz19 0;have hfz19_1:=blk_frozen HGz19 1;have hfz19_2:=blk_frozen HGz19 2;have hfz19_3:=blk_frozen HGz19 3;clear HGz19 hgz19))
            go_meet
            case rel=>exact⟨_,(t304),(t293++t303),(0),(0),(0),(0),(wrap64 (-(t303.size:Int))),(by first|rfl|(simp;done)|(simp[*];done)),(by first|rfl|(simp;done)|(simp[*];done)),H',⟨by first|omega|exact Nat.le_refl _⟩,⟨by(with_reducible repeat(first|refine blk_drewN ?_ _|refine blk_drew ?_|refine blk_alloc ?_ _));refine blk_far ?_ NB290_300.out _;(with_reducible repeat(first|refine blk_drewN ?_ _|refine blk_drew ?_|refine blk_alloc ?_ _));exact BK290.out⟩,⟨by(try rw[wneg t293 t303 (by assumption)]);repeat(first|(with_reducible first|exact HI300.out|apply IsS25.alloc|apply IsS25.drewN|apply IsS25.drew|apply IsS25.set_0|apply IsS25.set_1|apply IsS25.set_2|apply IsS25.set_3|refine IsS25.far ?_ NB300_290.out _)|exact HI300.out)⟩,⟨by repeat(first|(with_reducible first|exact HB.out|apply below_alloc|apply pw_below_drewN|apply below_drew1|refine below_set ?_ (IsS25.ge HI300.out)|refine below_set ?_ GE290.out)|exact HB.out)⟩⟩
          · rw[if_neg c18] at H
            exact absurd H (by simp)
      · replace c13:=Bool.eq_false_iff.mpr c13
        subst c13
        have H1:(impl_ReadQty.j0 k t294 t292 t293 t296 t297 t298 t299)=some (r1,r2,r3,r4,r5):=by rw[if_neg (show ¬(false=true) by decide)] at H;exact H
        clear H
        have H:=H1
        clear H1
        have H':=Aside0.mk H
        clear H
        go_wp2
        go_meet
        case rel=>exact⟨_,(t294),(t293),(0),(0),(0),(0),(t297),(by first|rfl|(simp;done)|(simp[*];done)),(by first|rfl|(simp;done)|(simp[*];done)),H',⟨by first|omega|exact Nat.le_refl _⟩,⟨by(with_reducible repeat(first|refine blk_drewN ?_ _|refine blk_drew ?_|refine blk_alloc ?_ _));exact BK290.out⟩,⟨by repeat(first|(with_reducible first|exact HI300.out|apply IsS25.alloc|apply IsS25.drewN|apply IsS25.drew|apply IsS25.set_0|apply IsS25.set_1|apply IsS25.set_2|apply IsS25.set_3|refine IsS25.far ?_ NB300_290.out _)|exact HI300.out)⟩,⟨by repeat(first|(with_reducible first|exact HB.out|apply below_alloc|apply pw_below_drewN|apply below_drew1|refine below_set ?_ (IsS25.ge HI300.out)|refine below_set ?_ GE290.out)|exact HB.out)⟩⟩
    case rest =>
      clear HC10
      try clear c1
      try clear c2
      try clear p2
      try clear c4
      try clear c5
      try clear p6
      try clear c8
      try clear c13
      try clear c15
      try clear c15b0
      try clear c15b1
      try clear c16
      try clear c18
      try clear c18b0
      try clear c18b1
      try clear c18b2
      try clear hcz17_0
      try clear hcz17_1
      try clear hcz17_2
      try clear hcz17_3
      try clear hcz19_0
      try clear hcz19_1
      try clear hcz19_2
      try clear hcz19_3
      try clear hcz7_0
      try clear hcz7_1
      try clear hcz7_2
      try clear hcz7_3
      try clear hfz17_0
      try clear hfz17_1
      try clear hfz17_2
      try clear hfz17_3
      try clear hfz19_0
      try clear hfz19_1
      try clear hfz19_2
      try clear hfz19_3
      try clear hfz7_0
      try clear hfz7_1
      try clear hfz7_2
      try clear hfz7_3
      obtain⟨kq,x4_9,x6_9,x291000_9,x291001_9,x291002_9,x291003_9,x301001_9,rfl,rfl,HA,HJ9,BK290,HI300,HB⟩:=hcut
      cases kq with
      |zero=>exact absurd HA.out (by simp[impl_ReadQty.j0])
      | succ kj9=>
        have H:=HA.out
        clear HA
        simp only[impl_ReadQty.j0] at H
        by_cases c20:(x6_9.size:Int)>9
        · rw[if_pos c20] at H
          have c20b0:decide (9<(x6_9.size:Int))=true:=decide_eq_true c20
          have c20b1:decide (9<x6_9.size)=true:=decide_eq_true (by omega)
          clear c20
          simp only[Option.some.injEq,Prod.mk.injEq] at H
          obtain⟨rfl,rfl,rfl,rfl,rfl⟩:=H
          have hnb21:=NB290_300.out
          have hnc21:=NB300_290.out
          have hcz22_0:wc.cell? ⟨gb290,0,none⟩=some (.int .i64 x291000_9):=(blk_cell BK290.out 0).trans rfl
          have hcz22_1:wc.cell? ⟨gb290,1,none⟩=some (.int .i64 x291001_9):=(blk_cell BK290.out 1).trans rfl
          have hcz22_2:wc.cell? ⟨gb290,2,none⟩=some (.int .i64 x291002_9):=(blk_cell BK290.out 2).trans rfl
          have hcz22_3:wc.cell? ⟨gb290,3,none⟩=some (.int .i64 x291003_9):=(blk_cell BK290.out 3).trans rfl
          have hfz22_0:=blk_frozen BK290.out 0
          have hfz22_1:=blk_frozen BK290.out 1
          have hfz22_2:=blk_frozen BK290.out 2
          have hfz22_3:=blk_frozen BK290.out 3
          go_wp2
          refine bodyPost_ret (results_ct rfl _ _ gb290 25 #[.int .i64 0, .int .i64 0, .int .i64 0, .int .i64 0] (0,0) _ rfl (by(with_reducible repeat(first|refine blk_drewN ?_ _|refine blk_drew ?_|refine blk_alloc ?_ _));refine blk_put (cs:= #[.int .i64 0, .int .i64 0, .int .i64 0, .int .i64 x291003_9]) ?_ 3 _ rfl;(with_reducible repeat(first|refine blk_drewN ?_ _|refine blk_drew ?_|refine blk_alloc ?_ _));refine blk_put (cs:= #[.int .i64 0, .int .i64 0, .int .i64 x291002_9, .int .i64 x291003_9]) ?_ 2 _ rfl;(with_reducible repeat(first|refine blk_drewN ?_ _|refine blk_drew ?_|refine blk_alloc ?_ _));refine blk_put (cs:= #[.int .i64 0, .int .i64 x291001_9, .int .i64 x291002_9, .int .i64 x291003_9]) ?_ 1 _ rfl;(with_reducible repeat(first|refine blk_drewN ?_ _|refine blk_drew ?_|refine blk_alloc ?_ _));refine blk_put (cs:= #[.int .i64 x291000_9, .int .i64 x291001_9, .int .i64 x291002_9, .int .i64 x291003_9]) ?_ 0 _ rfl;(with_reducible repeat(first|refine blk_drewN ?_ _|refine blk_drew ?_|refine blk_alloc ?_ _));exact BK290.out) Tryz.underlying25 rfl (by kernel_rfl)) rfl ?_
          exact⟨by first|rfl|(simp[errW_none,errW_some]<;>rfl)|(simp[*,errW_none,errW_some]<;>rfl),by repeat(first|(with_reducible first|exact HB.out|apply below_alloc|apply pw_below_drewN|apply below_drew1|refine below_set ?_ (IsS25.ge HI300.out)|refine below_set ?_ GE290.out)|exact HB.out)⟩
        · rw [if_neg c20] at H
          have c20b0:decide (9<(x6_9.size:Int))=false:=decide_eq_false c20
          have c20b1:decide (9<x6_9.size)=false:=decide_eq_false (by omega)
          clear c20
          replace H:=Option.bind_eq_some_iff.mp H
          obtain⟨⟨t305,t306⟩,A230,H⟩:=H
          replace H:(if t292=true then(impl_ReadQty.j1 kj9 x4_9 (wrap64 (-t305)) x301001_9 t298 t299) else(impl_ReadQty.j1 kj9 x4_9 t305 x301001_9 t298 t299))=some (r1,r2,r3,r4,r5):=H
          have A23:=Aside0.mk A230
          clear A230
          have HC24:=Aside0.mk H
          clear H
          go_upto_if 60 with(first|((with_reducible refine gate_callee (f:=25) rfl ?_);refine goesL_ (some 56) rfl rfl Tryz.func25 (by kernel_rfl) rfl #[.string x6_9] rfl (by(try simp only[List.map_toArray,List.map_cons,List.map_nil]);first|done|rfl|(simp only[List.length_drop,List.length_take];rfl)) ?_;(with_reducible refine(atoiNum.calls x6_9 t305 t306 _ A23.out).mono ?_);rintro e w25 ⟨rfl,hb⟩;refine⟨_,rfl,?_⟩;have n0_:=Aside0.mk (blk_below (g:=gb290) (o:= .cells #[.int .i64 x291000_9, .int .i64 x291001_9, .int .i64 x291002_9, .int .i64 x291003_9] 25 (0,0)) (by(with_reducible repeat(first|refine blk_drewN ?_ _|refine blk_drew ?_|refine blk_alloc ?_ _));exact BK290.out) hb);have n1_:=Aside0.mk (IsS25.below (by repeat(first|(with_reducible first|exact HI300.out|apply IsS25.alloc|apply IsS25.drewN|apply IsS25.drew|apply IsS25.set_0|apply IsS25.set_1|apply IsS25.set_2|apply IsS25.set_3|refine IsS25.far ?_ NB300_290.out _)|exact HI300.out)) hb);have n2_:=Aside0.mk (below_step (by repeat(first|(with_reducible first|exact HB.out|apply below_alloc|apply pw_below_drewN|apply below_drew1|refine below_set ?_ (IsS25.ge HI300.out)|refine below_set ?_ GE290.out)|exact HB.out)) hb);clear BK290;clear HI300;clear HB;have BK290:=n0_;have HI300:=n1_;have HB:=n2_;clear n0_ n1_ n2_;(try clear hb);(try clear hb2);(try clear hk);(try clear hi);(try simp only[errW_none,errW_some]);obtain⟨HGz26,hgz26⟩:=HI300.out;have hcz26_0:=cellS25_0 HGz26;have hcz26_1:=cellS25_1 HGz26;have hcz26_2:=cellS25_2 HGz26;have hcz26_3:=cellS25_3 HGz26;have hfz26_0:=blk_frozen HGz26 0;have hfz26_1:=blk_frozen HGz26 1;have hfz26_2:=blk_frozen HGz26 2;have hfz26_3:=blk_frozen HGz26 3;clear HGz26 hgz26))
          (try simp only[Act.put,List.setIfInBounds_toArray,List.set_cons_zero,List.set_cons_succ])
          go_cut [] (fun wc=>∃(kq:Nat) (x301000_23:Int),Aside0 (impl_ReadQty.j1 kq x4_9 x301000_23 x301001_9 t298 t299=some (r1,r2,r3,r4,r5))∧Aside0 (kq≤kj9)∧Aside0 (wc.heap[gb290]? =some (.cells #[.int .i64 x291000_9, .int .i64 x291001_9, .int .i64 x291002_9, .int .i64 x291003_9] 25 (0,0)))∧Aside0 (IsS25 w wc g300 x301000_23 x301001_9 t298 t299)∧Aside0 (Below w.heap.size w wc))
          case first=>
            have H:=HC24.out
            clear HC24
            by_cases c27:t292=true
            · subst c27
              have H1:(impl_ReadQty.j1 kj9 x4_9 (wrap64 (-t305)) x301001_9 t298 t299)=some (r1,r2,r3,r4,r5):=by rw[if_pos rfl] at H;exact H
              clear H
              have H:=H1
              clear H1
              have H':=Aside0.mk H
              clear H
              obtain⟨HGz28,hgz28⟩:=HI300.out
              have hcz28_0:=cellS25_0 HGz28
              have hcz28_1:=cellS25_1 HGz28
              have hcz28_2:=cellS25_2 HGz28
              have hcz28_3:=cellS25_3 HGz28
              have hfz28_0:=blk_frozen HGz28 0
              have hfz28_1:=blk_frozen HGz28 1
              have hfz28_2:=blk_frozen HGz28 2
              have hfz28_3:=blk_frozen HGz28 3
              clear HGz28 hgz28
              go_wp2
              go_meet
              case rel=>exact⟨_,(wrap64 (-t305)),H',⟨by have:=HJ9.out;first|omega|exact Nat.le_refl _⟩,⟨by(with_reducible repeat(first|refine blk_drewN ?_ _|refine blk_drew ?_|refine blk_alloc ?_ _));refine blk_far ?_ NB290_300.out _;(with_reducible repeat(first|refine blk_drewN ?_ _|refine blk_drew ?_|refine blk_alloc ?_ _));refine blk_far ?_ NB290_300.out _;(with_reducible repeat(first|refine blk_drewN ?_ _|refine blk_drew ?_|refine blk_alloc ?_ _));exact BK290.out⟩,⟨by repeat(first|(with_reducible first|exact HI300.out|apply IsS25.alloc|apply IsS25.drewN|apply IsS25.drew|apply IsS25.set_0|apply IsS25.set_1|apply IsS25.set_2|apply IsS25.set_3|refine IsS25.far ?_ NB300_290.out _)|exact HI300.out)⟩,⟨by repeat(first|(with_reducible first|exact HB.out|apply below_alloc|apply pw_below_drewN|apply below_drew1|refine below_set ?_ (IsS25.ge HI300.out)|refine below_set ?_ GE290.out)|exact HB.out)⟩⟩
            · replace c27:=Bool.eq_false_iff.mpr c27
              subst c27
              have H1:(impl_ReadQty.j1 kj9 x4_9 t305 x301001_9 t298 t299)=some (r1,r2,r3,r4,r5):=by rw[if_neg (show ¬(false=true) by decide)] at H;exact H
              clear H
              have H:=H1
              clear H1
              have H':=Aside0.mk H
              clear H
              go_wp2
              go_meet
              case rel=>exact⟨_,(t305),H',⟨by have:=HJ9.out;first|omega|exact Nat.le_refl _⟩,⟨by(with_reducible repeat(first|refine blk_drewN ?_ _|refine blk_drew ?_|refine blk_alloc ?_ _));refine blk_far ?_ NB290_300.out _;(with_reducible repeat(first|refine blk_drewN ?_ _|refine blk_drew ?_|refine blk_alloc ?_ _));exact BK290.out⟩,⟨by repeat(first|(with_reducible first|exact HI300.out|apply IsS25.alloc|apply IsS25.drewN|apply IsS25.drew|apply IsS25.set_0|apply IsS25.set_1|apply IsS25.set_2|apply IsS25.set_3|refine IsS25.far ?_ NB300_290.out _)|exact HI300.out)⟩,⟨by repeat(first|(with_reducible first|exact HB.out|apply below_alloc|apply pw_below_drewN|apply below_drew1|refine below_set ?_ (IsS25.ge HI300.out)|refine below_set ?_ GE290.out)|exact HB.out)⟩⟩
          case rest =>
            clear HC24
            try clear c1
            try clear c2
            try clear p2
            try clear c4
            try clear c5
            try clear p6
            try clear c8
            try clear c13
            try clear c15
            try clear c15b0
            try clear c15b1
            try clear c16
            try clear c18
            try clear c18b0
            try clear c18b1
            try clear c18b2
            try clear c20
            try clear c20b0
            try clear c20b1
            try clear c21
            try clear c22
            try clear c23
            try clear c24
            try clear c25
            try clear c27
            try clear hcz17_0
            try clear hcz17_1
            try clear hcz17_2
            try clear hcz17_3
            try clear hcz19_0
            try clear hcz19_1
            try clear hcz19_2
            try clear hcz19_3
            try clear hcz22_0
            try clear hcz22_1
            try clear hcz22_2
            try clear hcz22_3
            try clear hcz26_0
            try clear hcz26_1
            try clear hcz26_2
            try clear hcz26_3
            try clear hcz28_0
            try clear hcz28_1
            try clear hcz28_2
            try clear hcz28_3
            try clear hcz7_0
            try clear hcz7_1
            try clear hcz7_2
            try clear hcz7_3
            try clear hfz17_0
            try clear hfz17_1
            try clear hfz17_2
            try clear hfz17_3
            try clear hfz19_0
            try clear hfz19_1
            try clear hfz19_2
            try clear hfz19_3
            try clear hfz22_0
            try clear hfz22_1
            try clear hfz22_2
            try clear hfz22_3
            try clear hfz26_0
            try clear hfz26_1
            try clear hfz26_2
            try clear hfz26_3
            try clear hfz28_0
            try clear hfz28_1
            try clear hfz28_2
            try clear hfz28_3
            try clear hfz7_0
            try clear hfz7_1
            try clear hfz7_2
            try clear hfz7_3
            try clear p2
            try clear p6
            obtain⟨kq,x301000_23,HA,HJ23,BK290,HI300,HB⟩:=hcut
            cases kq with
            |zero=>exact absurd HA.out (by simp[impl_ReadQty.j1])
            | succ kj23=>
              have H:=HA.out
              clear HA
              simp only[impl_ReadQty.j1] at H
              replace H:=Option.bind_eq_some_iff.mp H
              obtain⟨⟨t307,t308⟩,A290,H⟩:=H
              replace H:(if t308=true then((impl_longUnits.f kj23 x301000_23 x301001_9 t298 t299 t307).bind fun bt309=>(impl_ReadQty.j2 kj23 bt309.1 bt309.2.1 bt309.2.2.1 bt309.2.2.2.1 bt309.2.2.2.2)) else(if x4_9.toList=([]:List UInt8) then(impl_ReadQty.j2 kj23 true x301000_23 x301001_9 t298 t299) else((impl_shortUnit.f kj23 x301000_23 x301001_9 t298 t299 x4_9).bind fun bt314=>(impl_ReadQty.j2 kj23 bt314.1 bt314.2.1 bt314.2.2.1 bt314.2.2.2.1 bt314.2.2.2.2))))=some (r1,r2,r3,r4,r5):=H
              have A29:=Aside0.mk A290
              clear A290
              have HC30:=Aside0.mk H
              clear H
              go_upto_if 70 with(first|((with_reducible refine gate_callee (f:=22) rfl ?_);refine goesL_ (some 67) rfl rfl Tryz.func22 (by kernel_rfl) rfl #[.string x4_9, .string (⟨#[32]⟩:ByteArray)] rfl (by(try simp only[List.map_toArray,List.map_cons,List.map_nil]);first|done|rfl|(simp only[List.length_drop,List.length_take];rfl)) ?_;(with_reducible refine(strings_CutPrefix.calls x4_9 (⟨#[32]⟩:ByteArray) t307 t308 _ A29.out).mono ?_);rintro e w' ⟨rfl,⟨nd,rfl⟩⟩;refine⟨_,rfl,?_⟩))
              (try simp only[Act.put,List.setIfInBounds_toArray,List.set_cons_zero,List.set_cons_succ])
              go_cut [12] (fun v12 wc=>∃(kq:Nat) (x12_29:Bool) (x301000_29:Int) (x301001_29:Int) (x301002_29:Int) (x301003_29:Int),v12= .bool x12_29∧Aside0 (impl_ReadQty.j2 kq x12_29 x301000_29 x301001_29 x301002_29 x301003_29=some (r1,r2,r3,r4,r5))∧Aside0 (kq≤kj23)∧Aside0 (wc.heap[gb290]? =some (.cells #[.int .i64 x291000_9, .int .i64 x291001_9, .int .i64 x291002_9, .int .i64 x291003_9] 25 (0,0)))∧Aside0 (IsS25 w wc g300 x301000_29 x301001_29 x301002_29 x301003_29)∧Aside0 (Below w.heap.size w wc))
              case first=>
                have H:=HC30.out
                clear HC30
                by_cases c31:t308=true
                · subst c31
                  have H1:((impl_longUnits.f kj23 x301000_23 x301001_9 t298 t299 t307).bind fun bt309=>(impl_ReadQty.j2 kj23 bt309.1 bt309.2.1 bt309.2.2.1 bt309.2.2.2.1 bt309.2.2.2.2))=some (r1,r2,r3,r4,r5):=by rw[if_pos rfl] at H;exact H
                  clear H
                  have H:=H1
                  clear H1
                  replace H:=Option.bind_eq_some_iff.mp H
                  obtain⟨⟨t309,t310,t311,t312,t313⟩,A320,H⟩:=H
                  replace H:(impl_ReadQty.j2 kj23 t309 t310 t311 t312 t313)=some (r1,r2,r3,r4,r5):=H
                  have A32:=Aside0.mk A320
                  clear A320
                  have H':=Aside0.mk H
                  clear H
                  go_wp2_with (first|((with_reducible refine gate_callee (f:=26) rfl ?_);refine goesL_ (some 72) rfl rfl Tryz.func26 (by kernel_rfl) rfl #[.pointer (some ⟨g300,0,none⟩), .string t307] rfl (by(try simp only[List.map_toArray,List.map_cons,List.map_nil]);first|done|rfl|(simp only[List.length_drop,List.length_take];rfl)) ?_;(with_reducible refine(impl_longUnits.calls kj23 g300 x301000_23 x301001_9 t298 t299 t307 t309 t310 t311 t312 t313 w _ ?side1 ?side2 A32.out).mono ?_);(case side1=>repeat(first|(with_reducible first|exact HI300.out|apply IsS25.alloc|apply IsS25.drewN|apply IsS25.drew|apply IsS25.set_0|apply IsS25.set_1|apply IsS25.set_2|apply IsS25.set_3|refine IsS25.far ?_ NB300_290.out _)|exact HI300.out));(case side2=>repeat(first|(with_reducible first|exact HB.out|apply below_alloc|apply pw_below_drewN|apply below_drew1|refine below_set ?_ (IsS25.ge HI300.out)|refine below_set ?_ GE290.out)|exact HB.out));rintro e w33 ⟨rfl,hi,hb,hk⟩;refine⟨_,rfl,?_⟩;have n0_:=Aside0.mk (KeepBut.blk hk (g':=gb290) (o:= .cells #[.int .i64 x291000_9, .int .i64 x291001_9, .int .i64 x291002_9, .int .i64 x291003_9] 25 (0,0)) (by(with_reducible repeat(first|refine blk_drewN ?_ _|refine blk_drew ?_|refine blk_alloc ?_ _));exact BK290.out) NB290_300.out (by simp));have n1_:=Aside0.mk (hb);have n2_:=Aside0.mk (hi);clear BK290;clear HB;clear HI300;have BK290:=n0_;have HB:=n1_;have HI300:=n2_;clear n0_ n1_ n2_;(try clear hb);(try clear hb2);(try clear hk);(try clear hi)))
                  go_meet
                  case rel=>exact⟨_,(t309),(t310),(t311),(t312),(t313),(by first|rfl|(simp;done)|(simp[*];done)),H',⟨by have:=HJ9.out;have:=HJ23.out;first|omega|exact Nat.le_refl _⟩,⟨by(with_reducible repeat(first|refine blk_drewN ?_ _|refine blk_drew ?_|refine blk_alloc ?_ _));exact BK290.out⟩,⟨by repeat(first|(with_reducible first|exact HI300.out|apply IsS25.alloc|apply IsS25.drewN|apply IsS25.drew|apply IsS25.set_0|apply IsS25.set_1|apply IsS25.set_2|apply IsS25.set_3|refine IsS25.far ?_ NB300_290.out _)|exact HI300.out)⟩,⟨by repeat(first|(with_reducible first|exact HB.out|apply below_alloc|apply pw_below_drewN|apply below_drew1|refine below_set ?_ (IsS25.ge HI300.out)|refine below_set ?_ GE290.out)|exact HB.out)⟩⟩
                · replace c31:=Bool.eq_false_iff.mpr c31
                  subst c31
                  have H1:(if x4_9.toList=([]:List UInt8) then(impl_ReadQty.j2 kj23 true x301000_23 x301001_9 t298 t299) else((impl_shortUnit.f kj23 x301000_23 x301001_9 t298 t299 x4_9).bind fun bt314=>(impl_ReadQty.j2 kj23 bt314.1 bt314.2.1 bt314.2.2.1 bt314.2.2.2.1 bt314.2.2.2.2)))=some (r1,r2,r3,r4,r5):=by rw[if_neg (show ¬(false=true) by decide)] at H;exact H
                  clear H
                  have H:=H1
                  clear H1
                  by_cases c34:x4_9.toList=([]:List UInt8)
                  · rw[if_pos c34] at H
                    have c34b0:(x4_9.toList==([]:List UInt8))=true:=beq_iff_eq.mpr c34
                    have c34b1:(x4_9.toList != ([]:List UInt8))=false:=bne_eq_false_iff_eq.mpr c34
                    clear c34
                    (first|rw[c34b0]|(simp only[i64_w,i32_w];rw[c34b0])|skip)
                    have H':=Aside0.mk H
                    clear H
                    go_wp2
                    go_meet
                    case rel=>exact⟨_,(true),(x301000_23),(x301001_9),(t298),(t299),(by first|rfl|(simp;done)|(simp[*];done)),H',⟨by have:=HJ9.out;have:=HJ23.out;first|omega|exact Nat.le_refl _⟩,⟨by(with_reducible repeat(first|refine blk_drewN ?_ _|refine blk_drew ?_|refine blk_alloc ?_ _));exact BK290.out⟩,⟨by repeat(first|(with_reducible first|exact HI300.out|apply IsS25.alloc|apply IsS25.drewN|apply IsS25.drew|apply IsS25.set_0|apply IsS25.set_1|apply IsS25.set_2|apply IsS25.set_3|refine IsS25.far ?_ NB300_290.out _)|exact HI300.out)⟩,⟨by repeat(first|(with_reducible first|exact HB.out|apply below_alloc|apply pw_below_drewN|apply below_drew1|refine below_set ?_ (IsS25.ge HI300.out)|refine below_set ?_ GE290.out)|exact HB.out)⟩⟩
                  · rw[if_neg c34] at H
                    have c34b0:(x4_9.toList==([]:List UInt8))=false:=beq_eq_false_iff_ne.mpr c34
                    have c34b1:(x4_9.toList != ([]:List UInt8))=true:=bne_iff_ne.mpr c34
                    (first|rw[c34b0]|(simp only[i64_w,i32_w];rw[c34b0])|skip)
                    replace H:=Option.bind_eq_some_iff.mp H
                    obtain⟨⟨t314,t315,t316,t317,t318⟩,A350,H⟩:=H
                    replace H:(impl_ReadQty.j2 kj23 t314 t315 t316 t317 t318)=some (r1,r2,r3,r4,r5):=H
                    have A35:=Aside0.mk A350
                    clear A350
                    have H':=Aside0.mk H
                    clear H
                    go_wp2_with (first|((with_reducible refine gate_callee (f:=27) rfl ?_);refine goesL_ (some 76) rfl rfl Tryz.func27 (by kernel_rfl) rfl #[.pointer (some ⟨g300,0,none⟩), .string x4_9] rfl (by(try simp only[List.map_toArray,List.map_cons,List.map_nil]);first|done|rfl|(simp only[List.length_drop,List.length_take];rfl)) ?_;(with_reducible refine(impl_shortUnit.calls kj23 g300 x301000_23 x301001_9 t298 t299 x4_9 t314 t315 t316 t317 t318 w _ ?side1 ?side2 A35.out).mono ?_);(case side1=>repeat(first|(with_reducible first|exact HI300.out|apply IsS25.alloc|apply IsS25.drewN|apply IsS25.drew|apply IsS25.set_0|apply IsS25.set_1|apply IsS25.set_2|apply IsS25.set_3|refine IsS25.far ?_ NB300_290.out _)|exact HI300.out));(case side2=>repeat(first|(with_reducible first|exact HB.out|apply below_alloc|apply pw_below_drewN|apply below_drew1|refine below_set ?_ (IsS25.ge HI300.out)|refine below_set ?_ GE290.out)|exact HB.out));rintro e w36 ⟨rfl,hi,hb,hk⟩;refine⟨_,rfl,?_⟩;have n0_:=Aside0.mk (KeepBut.blk hk (g':=gb290) (o:= .cells #[.int .i64 x291000_9, .int .i64 x291001_9, .int .i64 x291002_9, .int .i64 x291003_9] 25 (0,0)) (by(with_reducible repeat(first|refine blk_drewN ?_ _|refine blk_drew ?_|refine blk_alloc ?_ _));exact BK290.out) NB290_300.out (by simp));have n1_:=Aside0.mk (hb);have n2_:=Aside0.mk (hi);clear BK290;clear HB;clear HI300;have BK290:=n0_;have HB:=n1_;have HI300:=n2_;clear n0_ n1_ n2_;(try clear hb);(try clear hb2);(try clear hk);(try clear hi)))
                    go_meet
                    case rel=>exact⟨_,(t314),(t315),(t316),(t317),(t318),(by first|rfl|(simp;done)|(simp[*];done)),H',⟨by have:=HJ9.out;have:=HJ23.out;first|omega|exact Nat.le_refl _⟩,⟨by(with_reducible repeat(first|refine blk_drewN ?_ _|refine blk_drew ?_|refine blk_alloc ?_ _));exact BK290.out⟩,⟨by repeat(first|(with_reducible first|exact HI300.out|apply IsS25.alloc|apply IsS25.drewN|apply IsS25.drew|apply IsS25.set_0|apply IsS25.set_1|apply IsS25.set_2|apply IsS25.set_3|refine IsS25.far ?_ NB300_290.out _)|exact HI300.out)⟩,⟨by repeat(first|(with_reducible first|exact HB.out|apply below_alloc|apply pw_below_drewN|apply below_drew1|refine below_set ?_ (IsS25.ge HI300.out)|refine below_set ?_ GE290.out)|exact HB.out)⟩⟩
              case rest=>
                clear HC30
                try clear c1
                try clear c2
                try clear p2
                try clear c3
                try clear c4
                try clear c5
                try clear p6
                try clear c8
                try clear c13
                try clear c15
                try clear c15b0
                try clear c15b1
                try clear c16
                try clear c18
                try clear c18b0
                try clear c18b1
                try clear c18b2
                try clear c20
                try clear c20b0
                try clear c20b1
                try clear c21
                try clear c22
                try clear c23
                try clear c24
                try clear c25
                try clear c26
                try clear c27
                try clear c31
                try clear c34
                try clear c34b0
                try clear c34b1
                try clear hcz17_0
                try clear hcz17_1
                try clear hcz17_2
                try clear hcz17_3
                try clear hcz19_0
                try clear hcz19_1
                try clear hcz19_2
                try clear hcz19_3
                try clear hcz22_0
                try clear hcz22_1
                try clear hcz22_2
                try clear hcz22_3
                try clear hcz26_0
                try clear hcz26_1
                try clear hcz26_2
                try clear hcz26_3
                try clear hcz28_0
                try clear hcz28_1
                try clear hcz28_2
                try clear hcz28_3
                try clear hcz7_0
                try clear hcz7_1
                try clear hcz7_2
                try clear hcz7_3
                try clear hfz17_0
                try clear hfz17_1
                try clear hfz17_2
                try clear hfz17_3
                try clear hfz19_0
                try clear hfz19_1
                try clear hfz19_2
                try clear hfz19_3
                try clear hfz22_0
                try clear hfz22_1
                try clear hfz22_2
                try clear hfz22_3
                try clear hfz26_0
                try clear hfz26_1
                try clear hfz26_2
                try clear hfz26_3
                try clear hfz28_0
                try clear hfz28_1
                try clear hfz28_2
                try clear hfz28_3
                try clear hfz7_0
                try clear hfz7_1
                try clear hfz7_2
                try clear hfz7_3
                try clear p2
                try clear p6
                obtain⟨kq,x12_29,x301000_29,x301001_29,x301002_29,x301003_29,rfl,HA,HJ29,BK290,HI300,HB⟩:=hcut
                cases kq with
                |zero=>exact absurd HA.out (by simp[impl_ReadQty.j2])
                | succ kj29=>
                  have H:=HA.out
                  clear HA
                  simp only[impl_ReadQty.j2] at H
                  replace H:=Option.bind_eq_some_iff.mp H
                  obtain⟨⟨t319,t320,t321,t322⟩,A370,H⟩:=H
                  replace H:(if x12_29=true then((impl_QtyOk.f t319 t320 t321 t322).bind fun t323=>(if t323=true then(some (t319,t320,t321,t322,true)) else(some (0,0,0,0,false)))) else(some (0,0,0,0,false)))=some (r1,r2,r3,r4,r5):=H
                  have A37:=Aside0.mk A370
                  clear A370
                  by_cases c38:x12_29=true
                  · subst c38
                    have H1:((impl_QtyOk.f t319 t320 t321 t322).bind fun t323=>(if t323=true then(some (t319,t320,t321,t322,true)) else(some (0,0,0,0,false))))=some (r1,r2,r3,r4,r5):=by rw[if_pos rfl] at H;exact H
                    clear H
                    have H:=H1
                    clear H1
                    replace H:=Option.bind_eq_some_iff.mp H
                    obtain⟨t323,A390,H⟩:=H
                    replace H:(if t323=true then(some (t319,t320,t321,t322,true)) else(some (0,0,0,0,false)))=some (r1,r2,r3,r4,r5):=H
                    have A39:=Aside0.mk A390
                    clear A390
                    by_cases c40:t323=true
                    · subst c40
                      have H1:(some (t319,t320,t321,t322,true))=some (r1,r2,r3,r4,r5):=by rw[if_pos rfl] at H;exact H
                      clear H
                      have H:=H1
                      clear H1
                      simp only[Option.some.injEq,Prod.mk.injEq] at H
                      obtain⟨rfl,rfl,rfl,rfl,rfl⟩:=H
                      obtain⟨HGz41,hgz41⟩:=HI300.out
                      have hcz41_0:=cellS25_0 HGz41
                      have hcz41_1:=cellS25_1 HGz41
                      have hcz41_2:=cellS25_2 HGz41
                      have hcz41_3:=cellS25_3 HGz41
                      have hfz41_0:=blk_frozen HGz41 0
                      have hfz41_1:=blk_frozen HGz41 1
                      have hfz41_2:=blk_frozen HGz41 2
                      have hfz41_3:=blk_frozen HGz41 3
                      clear HGz41 hgz41
                      go_wp2_with (first|((with_reducible refine gate_callee (f:=28) rfl ?_);refine goesL_ (some 78) rfl rfl Tryz.func28 (by kernel_rfl) rfl #[.agg #[.int .i64 x301000_29, .int .i64 x301001_29, .int .i64 x301002_29, .int .i64 x301003_29]] rfl (by(try simp only[List.map_toArray,List.map_cons,List.map_nil]);first|done|rfl|(simp only[List.length_drop,List.length_take];rfl)) ?_;(with_reducible refine(impl_bare.calls kj29 x301000_29 x301001_29 x301002_29 x301003_29 t319 t320 t321 t322 _ A37.out).mono ?_);rintro e w42 ⟨rfl,hb⟩;refine⟨_,rfl,?_⟩;have n0_:=Aside0.mk (blk_below (g:=gb290) (o:= .cells #[.int .i64 x291000_9, .int .i64 x291001_9, .int .i64 x291002_9, .int .i64 x291003_9] 25 (0,0)) (by(with_reducible repeat(first|refine blk_drewN ?_ _|refine blk_drew ?_|refine blk_alloc ?_ _));exact BK290.out) hb);have n1_:=Aside0.mk (IsS25.below (by repeat(first|(with_reducible first|exact HI300.out|apply IsS25.alloc|apply IsS25.drewN|apply IsS25.drew|apply IsS25.set_0|apply IsS25.set_1|apply IsS25.set_2|apply IsS25.set_3|refine IsS25.far ?_ NB300_290.out _)|exact HI300.out)) hb);have n2_:=Aside0.mk (below_step (by repeat(first|(with_reducible first|exact HB.out|apply below_alloc|apply pw_below_drewN|apply below_drew1|refine below_set ?_ (IsS25.ge HI300.out)|refine below_set ?_ GE290.out)|exact HB.out)) hb);clear BK290;clear HI300;clear HB;have BK290:=n0_;have HI300:=n1_;have HB:=n2_;clear n0_ n1_ n2_;(try clear hb);(try clear hb2);(try clear hk);(try clear hi);obtain⟨HGz43,hgz43⟩:=HI300.out;have hcz43_0:=cellS25_0 HGz43;have hcz43_1:=cellS25_1 HGz43;have hcz43_2:=cellS25_2 HGz43;have hcz43_3:=cellS25_3 HGz43;have hfz43_0:=blk_frozen HGz43 0;have hfz43_1:=blk_frozen HGz43 1;have hfz43_2:=blk_frozen HGz43 2;have hfz43_3:=blk_frozen HGz43 3;clear HGz43 hgz43)|(go_at_call 11;(with_reducible refine(impl_QtyOk.calls t319 t320 t321 t322 true _ A39.out).mono ?_);rintro e w44 ⟨rfl,hb⟩;have n0_:=Aside0.mk (blk_below (g:=gb290) (o:= .cells #[.int .i64 x291000_9, .int .i64 x291001_9, .int .i64 x291002_9, .int .i64 x291003_9] 25 (0,0)) (by(with_reducible repeat(first|refine blk_drewN ?_ _|refine blk_drew ?_|refine blk_alloc ?_ _));refine blk_far ?_ NB290_300.out _;(with_reducible repeat(first|refine blk_drewN ?_ _|refine blk_drew ?_|refine blk_alloc ?_ _));refine blk_far ?_ NB290_300.out _;(with_reducible repeat(first|refine blk_drewN ?_ _|refine blk_drew ?_|refine blk_alloc ?_ _));refine blk_far ?_ NB290_300.out _;(with_reducible repeat(first|refine blk_drewN ?_ _|refine blk_drew ?_|refine blk_alloc ?_ _));refine blk_far ?_ NB290_300.out _;(with_reducible repeat(first|refine blk_drewN ?_ _|refine blk_drew ?_|refine blk_alloc ?_ _));exact BK290.out) hb);have n1_:=Aside0.mk (IsS25.below (show IsS25 w ((((w42.setCell ⟨g300,0,none⟩ (.int .i64 t319)).setCell ⟨g300,1,none⟩ (.int .i64 t320)).setCell ⟨g300,2,none⟩ (.int .i64 t321)).setCell ⟨g300,3,none⟩ (.int .i64 t322)) g300 t319 t320 t321 t322 from by repeat(first|(with_reducible first|exact HI300.out|apply IsS25.alloc|apply IsS25.drewN|apply IsS25.drew|apply IsS25.set_0|apply IsS25.set_1|apply IsS25.set_2|apply IsS25.set_3|refine IsS25.far ?_ NB300_290.out _)|exact HI300.out)) hb);have n2_:=Aside0.mk (below_step (by repeat(first|(with_reducible first|exact HB.out|apply below_alloc|apply pw_below_drewN|apply below_drew1|refine below_set ?_ (IsS25.ge HI300.out)|refine below_set ?_ GE290.out)|exact HB.out)) hb);clear BK290;clear HI300;clear HB;have BK290:=n0_;have HI300:=n1_;have HB:=n2_;clear n0_ n1_ n2_;(try clear hb);(try clear hb2);(try clear hk);(try clear hi);obtain⟨HGz45,hgz45⟩:=HI300.out;have hcz45_0:=cellS25_0 HGz45;have hcz45_1:=cellS25_1 HGz45;have hcz45_2:=cellS25_2 HGz45;have hcz45_3:=cellS25_3 HGz45;have hfz45_0:=blk_frozen HGz45 0;have hfz45_1:=blk_frozen HGz45 1;have hfz45_2:=blk_frozen HGz45 2;have hfz45_3:=blk_frozen HGz45 3;clear HGz45 hgz45;have hnb46:=NB290_300.out;have hnc46:=NB300_290.out;have hcz47_0:w44.cell? ⟨gb290,0,none⟩=some (.int .i64 x291000_9):=(blk_cell BK290.out 0).trans rfl;have hcz47_1:w44.cell? ⟨gb290,1,none⟩=some (.int .i64 x291001_9):=(blk_cell BK290.out 1).trans rfl;have hcz47_2:w44.cell? ⟨gb290,2,none⟩=some (.int .i64 x291002_9):=(blk_cell BK290.out 2).trans rfl;have hcz47_3:w44.cell? ⟨gb290,3,none⟩=some (.int .i64 x291003_9):=(blk_cell BK290.out 3).trans rfl;have hfz47_0:=blk_frozen BK290.out 0;have hfz47_1:=blk_frozen BK290.out 1;have hfz47_2:=blk_frozen BK290.out 2;have hfz47_3:=blk_frozen BK290.out 3))
                      refine bodyPost_ret (results_ct rfl _ _ gb290 25 #[.int .i64 t319, .int .i64 t320, .int .i64 t321, .int .i64 t322] (0,0) _ rfl (by(with_reducible repeat(first|refine blk_drewN ?_ _|refine blk_drew ?_|refine blk_alloc ?_ _));refine blk_put (cs:= #[.int .i64 t319, .int .i64 t320, .int .i64 t321, .int .i64 x291003_9]) ?_ 3 _ rfl;(with_reducible repeat(first|refine blk_drewN ?_ _|refine blk_drew ?_|refine blk_alloc ?_ _));refine blk_put (cs:= #[.int .i64 t319, .int .i64 t320, .int .i64 x291002_9, .int .i64 x291003_9]) ?_ 2 _ rfl;(with_reducible repeat(first|refine blk_drewN ?_ _|refine blk_drew ?_|refine blk_alloc ?_ _));refine blk_put (cs:= #[.int .i64 t319, .int .i64 x291001_9, .int .i64 x291002_9, .int .i64 x291003_9]) ?_ 1 _ rfl;(with_reducible repeat(first|refine blk_drewN ?_ _|refine blk_drew ?_|refine blk_alloc ?_ _));refine blk_put (cs:= #[.int .i64 x291000_9, .int .i64 x291001_9, .int .i64 x291002_9, .int .i64 x291003_9]) ?_ 0 _ rfl;(with_reducible repeat(first|refine blk_drewN ?_ _|refine blk_drew ?_|refine blk_alloc ?_ _));exact BK290.out) Tryz.underlying25 rfl (by kernel_rfl)) rfl ?_
                      exact⟨by first|rfl|(simp[errW_none,errW_some]<;>rfl)|(simp[*,errW_none,errW_some]<;>rfl),by repeat(first|(with_reducible first|exact HB.out|apply below_alloc|apply pw_below_drewN|apply below_drew1|refine below_set ?_ (IsS25.ge HI300.out)|refine below_set ?_ GE290.out)|exact HB.out)⟩
                    · replace c40:=Bool.eq_false_iff.mpr c40
                      subst c40
                      have H1:(some (0,0,0,0,false))=some (r1,r2,r3,r4,r5):=by rw[if_neg (show ¬(false=true) by decide)] at H;exact H
                      clear H
                      have H:=H1
                      clear H1
                      simp only[Option.some.injEq,Prod.mk.injEq] at H
                      obtain⟨rfl,rfl,rfl,rfl,rfl⟩:=H
                      obtain⟨HGz48,hgz48⟩:=HI300.out
                      have hcz48_0:=cellS25_0 HGz48
                      have hcz48_1:=cellS25_1 HGz48
                      have hcz48_2:=cellS25_2 HGz48
                      have hcz48_3:=cellS25_3 HGz48
                      have hfz48_0:=blk_frozen HGz48 0
                      have hfz48_1:=blk_frozen HGz48 1
                      have hfz48_2:=blk_frozen HGz48 2
                      have hfz48_3:=blk_frozen HGz48 3
                      clear HGz48 hgz48
                      go_wp2_with (first|((with_reducible refine gate_callee (f:=28) rfl ?_);refine goesL_ (some 78) rfl rfl Tryz.func28 (by kernel_rfl) rfl #[.agg #[.int .i64 x301000_29, .int .i64 x301001_29, .int .i64 x301002_29, .int .i64 x301003_29]] rfl (by(try simp only[List.map_toArray,List.map_cons,List.map_nil]);first|done|rfl|(simp only[List.length_drop,List.length_take];rfl)) ?_;(with_reducible refine(impl_bare.calls kj29 x301000_29 x301001_29 x301002_29 x301003_29 t319 t320 t321 t322 _ A37.out).mono ?_);rintro e w49 ⟨rfl,hb⟩;refine⟨_,rfl,?_⟩;have n0_:=Aside0.mk (blk_below (g:=gb290) (o:= .cells #[.int .i64 x291000_9, .int .i64 x291001_9, .int .i64 x291002_9, .int .i64 x291003_9] 25 (0,0)) (by(with_reducible repeat(first|refine blk_drewN ?_ _|refine blk_drew ?_|refine blk_alloc ?_ _));exact BK290.out) hb);have n1_:=Aside0.mk (IsS25.below (by repeat(first|(with_reducible first|exact HI300.out|apply IsS25.alloc|apply IsS25.drewN|apply IsS25.drew|apply IsS25.set_0|apply IsS25.set_1|apply IsS25.set_2|apply IsS25.set_3|refine IsS25.far ?_ NB300_290.out _)|exact HI300.out)) hb);have n2_:=Aside0.mk (below_step (by repeat(first|(with_reducible first|exact HB.out|apply below_alloc|apply pw_below_drewN|apply below_drew1|refine below_set ?_ (IsS25.ge HI300.out)|refine below_set ?_ GE290.out)|exact HB.out)) hb);clear BK290;clear HI300;clear HB;have BK290:=n0_;have HI300:=n1_;have HB:=n2_;clear n0_ n1_ n2_;(try clear hb);(try clear hb2);(try clear hk);(try clear hi);obtain⟨HGz50,hgz50⟩:=HI300.out;have hcz50_0:=cellS25_0 HGz50;have hcz50_1:=cellS25_1 HGz50;have hcz50_2:=cellS25_2 HGz50;have hcz50_3:=cellS25_3 HGz50;have hfz50_0:=blk_frozen HGz50 0;have hfz50_1:=blk_frozen HGz50 1;have hfz50_2:=blk_frozen HGz50 2;have hfz50_3:=blk_frozen HGz50 3;clear HGz50 hgz50)|(go_at_call 11;(with_reducible refine(impl_QtyOk.calls t319 t320 t321 t322 false _ A39.out).mono ?_);rintro e w51 ⟨rfl,hb⟩;have n0_:=Aside0.mk (blk_below (g:=gb290) (o:= .cells #[.int .i64 x291000_9, .int .i64 x291001_9, .int .i64 x291002_9, .int .i64 x291003_9] 25 (0,0)) (by(with_reducible repeat(first|refine blk_drewN ?_ _|refine blk_drew ?_|refine blk_alloc ?_ _));refine blk_far ?_ NB290_300.out _;(with_reducible repeat(first|refine blk_drewN ?_ _|refine blk_drew ?_|refine blk_alloc ?_ _));refine blk_far ?_ NB290_300.out _;(with_reducible repeat(first|refine blk_drewN ?_ _|refine blk_drew ?_|refine blk_alloc ?_ _));refine blk_far ?_ NB290_300.out _;(with_reducible repeat(first|refine blk_drewN ?_ _|refine blk_drew ?_|refine blk_alloc ?_ _));refine blk_far ?_ NB290_300.out _;(with_reducible repeat(first|refine blk_drewN ?_ _|refine blk_drew ?_|refine blk_alloc ?_ _));exact BK290.out) hb);have n1_:=Aside0.mk (IsS25.below (show IsS25 w ((((w49.setCell ⟨g300,0,none⟩ (.int .i64 t319)).setCell ⟨g300,1,none⟩ (.int .i64 t320)).setCell ⟨g300,2,none⟩ (.int .i64 t321)).setCell ⟨g300,3,none⟩ (.int .i64 t322)) g300 t319 t320 t321 t322 from by repeat(first|(with_reducible first|exact HI300.out|apply IsS25.alloc|apply IsS25.drewN|apply IsS25.drew|apply IsS25.set_0|apply IsS25.set_1|apply IsS25.set_2|apply IsS25.set_3|refine IsS25.far ?_ NB300_290.out _)|exact HI300.out)) hb);have n2_:=Aside0.mk (below_step (by repeat(first|(with_reducible first|exact HB.out|apply below_alloc|apply pw_below_drewN|apply below_drew1|refine below_set ?_ (IsS25.ge HI300.out)|refine below_set ?_ GE290.out)|exact HB.out)) hb);clear BK290;clear HI300;clear HB;have BK290:=n0_;have HI300:=n1_;have HB:=n2_;clear n0_ n1_ n2_;(try clear hb);(try clear hb2);(try clear hk);(try clear hi);have hnb52:=NB290_300.out;have hnc52:=NB300_290.out;have hcz53_0:w51.cell? ⟨gb290,0,none⟩=some (.int .i64 x291000_9):=(blk_cell BK290.out 0).trans rfl;have hcz53_1:w51.cell? ⟨gb290,1,none⟩=some (.int .i64 x291001_9):=(blk_cell BK290.out 1).trans rfl;have hcz53_2:w51.cell? ⟨gb290,2,none⟩=some (.int .i64 x291002_9):=(blk_cell BK290.out 2).trans rfl;have hcz53_3:w51.cell? ⟨gb290,3,none⟩=some (.int .i64 x291003_9):=(blk_cell BK290.out 3).trans rfl;have hfz53_0:=blk_frozen BK290.out 0;have hfz53_1:=blk_frozen BK290.out 1;have hfz53_2:=blk_frozen BK290.out 2;have hfz53_3:=blk_frozen BK290.out 3))
                      refine bodyPost_ret (results_ct rfl _ _ gb290 25 #[.int .i64 0, .int .i64 0, .int .i64 0, .int .i64 0] (0,0) _ rfl (by(with_reducible repeat(first|refine blk_drewN ?_ _|refine blk_drew ?_|refine blk_alloc ?_ _));refine blk_put (cs:= #[.int .i64 0, .int .i64 0, .int .i64 0, .int .i64 x291003_9]) ?_ 3 _ rfl;(with_reducible repeat(first|refine blk_drewN ?_ _|refine blk_drew ?_|refine blk_alloc ?_ _));refine blk_put (cs:= #[.int .i64 0, .int .i64 0, .int .i64 x291002_9, .int .i64 x291003_9]) ?_ 2 _ rfl;(with_reducible repeat(first|refine blk_drewN ?_ _|refine blk_drew ?_|refine blk_alloc ?_ _));refine blk_put (cs:= #[.int .i64 0, .int .i64 x291001_9, .int .i64 x291002_9, .int .i64 x291003_9]) ?_ 1 _ rfl;(with_reducible repeat(first|refine blk_drewN ?_ _|refine blk_drew ?_|refine blk_alloc ?_ _));refine blk_put (cs:= #[.int .i64 x291000_9, .int .i64 x291001_9, .int .i64 x291002_9, .int .i64 x291003_9]) ?_ 0 _ rfl;(with_reducible repeat(first|refine blk_drewN ?_ _|refine blk_drew ?_|refine blk_alloc ?_ _));exact BK290.out) Tryz.underlying25 rfl (by kernel_rfl)) rfl ?_
                      exact⟨by first|rfl|(simp[errW_none,errW_some]<;>rfl)|(simp[*,errW_none,errW_some]<;>rfl),by repeat(first|(with_reducible first|exact HB.out|apply below_alloc|apply pw_below_drewN|apply below_drew1|refine below_set ?_ (IsS25.ge HI300.out)|refine below_set ?_ GE290.out)|exact HB.out)⟩
                  · replace c38:=Bool.eq_false_iff.mpr c38
                    subst c38
                    have H1:(some (0,0,0,0,false))=some (r1,r2,r3,r4,r5):=by rw[if_neg (show ¬(false=true) by decide)] at H;exact H
                    clear H
                    have H:=H1
                    clear H1
                    simp only[Option.some.injEq,Prod.mk.injEq] at H
                    obtain⟨rfl,rfl,rfl,rfl,rfl⟩:=H
                    obtain⟨HGz54,hgz54⟩:=HI300.out
                    have hcz54_0:=cellS25_0 HGz54
                    have hcz54_1:=cellS25_1 HGz54
                    have hcz54_2:=cellS25_2 HGz54
                    have hcz54_3:=cellS25_3 HGz54
                    have hfz54_0:=blk_frozen HGz54 0
                    have hfz54_1:=blk_frozen HGz54 1
                    have hfz54_2:=blk_frozen HGz54 2
                    have hfz54_3:=blk_frozen HGz54 3
                    clear HGz54 hgz54
                    go_wp2_with (first|((with_reducible refine gate_callee (f:=28) rfl ?_);refine goesL_ (some 78) rfl rfl Tryz.func28 (by kernel_rfl) rfl #[.agg #[.int .i64 x301000_29, .int .i64 x301001_29, .int .i64 x301002_29, .int .i64 x301003_29]] rfl (by(try simp only[List.map_toArray,List.map_cons,List.map_nil]);first|done|rfl|(simp only[List.length_drop,List.length_take];rfl)) ?_;(with_reducible refine(impl_bare.calls kj29 x301000_29 x301001_29 x301002_29 x301003_29 t319 t320 t321 t322 _ A37.out).mono ?_);rintro e w55 ⟨rfl,hb⟩;refine⟨_,rfl,?_⟩;have n0_:=Aside0.mk (blk_below (g:=gb290) (o:= .cells #[.int .i64 x291000_9, .int .i64 x291001_9, .int .i64 x291002_9, .int .i64 x291003_9] 25 (0,0)) (by(with_reducible repeat(first|refine blk_drewN ?_ _|refine blk_drew ?_|refine blk_alloc ?_ _));exact BK290.out) hb);have n1_:=Aside0.mk (IsS25.below (by repeat(first|(with_reducible first|exact HI300.out|apply IsS25.alloc|apply IsS25.drewN|apply IsS25.drew|apply IsS25.set_0|apply IsS25.set_1|apply IsS25.set_2|apply IsS25.set_3|refine IsS25.far ?_ NB300_290.out _)|exact HI300.out)) hb);have n2_:=Aside0.mk (below_step (by repeat(first|(with_reducible first|exact HB.out|apply below_alloc|apply pw_below_drewN|apply below_drew1|refine below_set ?_ (IsS25.ge HI300.out)|refine below_set ?_ GE290.out)|exact HB.out)) hb);clear BK290;clear HI300;clear HB;have BK290:=n0_;have HI300:=n1_;have HB:=n2_;clear n0_ n1_ n2_;(try clear hb);(try clear hb2);(try clear hk);(try clear hi);obtain⟨HGz56,hgz56⟩:=HI300.out;have hcz56_0:=cellS25_0 HGz56;have hcz56_1:=cellS25_1 HGz56;have hcz56_2:=cellS25_2 HGz56;have hcz56_3:=cellS25_3 HGz56;have hfz56_0:=blk_frozen HGz56 0;have hfz56_1:=blk_frozen HGz56 1;have hfz56_2:=blk_frozen HGz56 2;have hfz56_3:=blk_frozen HGz56 3;clear HGz56 hgz56;have hnb57:=NB290_300.out;have hnc57:=NB300_290.out;have hcz58_0:w55.cell? ⟨gb290,0,none⟩=some (.int .i64 x291000_9):=(blk_cell BK290.out 0).trans rfl;have hcz58_1:w55.cell? ⟨gb290,1,none⟩=some (.int .i64 x291001_9):=(blk_cell BK290.out 1).trans rfl;have hcz58_2:w55.cell? ⟨gb290,2,none⟩=some (.int .i64 x291002_9):=(blk_cell BK290.out 2).trans rfl;have hcz58_3:w55.cell? ⟨gb290,3,none⟩=some (.int .i64 x291003_9):=(blk_cell BK290.out 3).trans rfl;have hfz58_0:=blk_frozen BK290.out 0;have hfz58_1:=blk_frozen BK290.out 1;have hfz58_2:=blk_frozen BK290.out 2;have hfz58_3:=blk_frozen BK290.out 3))
                    refine bodyPost_ret (results_ct rfl _ _ gb290 25 #[.int .i64 0, .int .i64 0, .int .i64 0, .int .i64 0] (0,0) _ rfl (by(with_reducible repeat(first|refine blk_drewN ?_ _|refine blk_drew ?_|refine blk_alloc ?_ _));refine blk_put (cs:= #[.int .i64 0, .int .i64 0, .int .i64 0, .int .i64 x291003_9]) ?_ 3 _ rfl;(with_reducible repeat(first|refine blk_drewN ?_ _|refine blk_drew ?_|refine blk_alloc ?_ _));refine blk_put (cs:= #[.int .i64 0, .int .i64 0, .int .i64 x291002_9, .int .i64 x291003_9]) ?_ 2 _ rfl;(with_reducible repeat(first|refine blk_drewN ?_ _|refine blk_drew ?_|refine blk_alloc ?_ _));refine blk_put (cs:= #[.int .i64 0, .int .i64 x291001_9, .int .i64 x291002_9, .int .i64 x291003_9]) ?_ 1 _ rfl;(with_reducible repeat(first|refine blk_drewN ?_ _|refine blk_drew ?_|refine blk_alloc ?_ _));refine blk_put (cs:= #[.int .i64 x291000_9, .int .i64 x291001_9, .int .i64 x291002_9, .int .i64 x291003_9]) ?_ 0 _ rfl;(with_reducible repeat(first|refine blk_drewN ?_ _|refine blk_drew ?_|refine blk_alloc ?_ _));refine blk_far ?_ NB290_300.out _;(with_reducible repeat(first|refine blk_drewN ?_ _|refine blk_drew ?_|refine blk_alloc ?_ _));refine blk_far ?_ NB290_300.out _;(with_reducible repeat(first|refine blk_drewN ?_ _|refine blk_drew ?_|refine blk_alloc ?_ _));refine blk_far ?_ NB290_300.out _;(with_reducible repeat(first|refine blk_drewN ?_ _|refine blk_drew ?_|refine blk_alloc ?_ _));refine blk_far ?_ NB290_300.out _;(with_reducible repeat(first|refine blk_drewN ?_ _|refine blk_drew ?_|refine blk_alloc ?_ _));exact BK290.out) Tryz.underlying25 rfl (by kernel_rfl)) rfl ?_
                    exact⟨by first|rfl|(simp[errW_none,errW_some]<;>rfl)|(simp[*,errW_none,errW_some]<;>rfl),by repeat(first|(with_reducible first|exact HB.out|apply below_alloc|apply pw_below_drewN|apply below_drew1|refine below_set ?_ (IsS25.ge HI300.out)|refine below_set ?_ GE290.out)|exact HB.out)⟩

/-! ### spec_l1Pick: function 30 -/
def spec_l1Pick.f (s0_0:List Int) (s0_1:Int) (s0_2:Int) (l1:List ByteArray):Option (ByteArray×Int×Int):=(spec_l1Below.f s0_0 s0_1 s0_2 (l1.length:Int)).bind fun bt324=>(if 0≤bt324.1 then(if bt324.1<(l1.length:Int) then(some (rdOf ByteArray.empty l1 bt324.1,bt324.2.1,bt324.2.2)) else(none)) else(none))
set_option maxHeartbeats 8000000 in
set_option maxRecDepth 100000 in
theorem spec_l1Pick.calls (g:Nat) (s0_0:List Int) (s0_1:Int) (s0_2:Int) (A1:Option Addr) (c1:Nat) (l1:List ByteArray) (r1:ByteArray) (r2:Int) (r3:Int) (w0 w:World) (hI:IsS68 w0 w g s0_0 s0_1 s0_2) (hB:Below w0.heap.size w0 w) (hr1:Kd.C Kd.string w A1 l1.length l1) (hc1:l1.length≤c1) (hf1:∀ad,A1=some ad→0<l1.length→ad.block≠g) (h:spec_l1Pick.f s0_0 s0_1 s0_2 l1=some (r1,r2,r3)):
    Calls Tryz.prog 30 #[.pointer (some ⟨g,0,none⟩), .slice A1 l1.length c1] w fun e w'=>e= .returned (.string r1)∧IsS68 w0 w' g s0_0 r2 r3∧Below w0.heap.size w0 w'∧KeepBut w w' g none:=by
  have HR1:=Aside0.mk hr1
  have HC1:=Aside0.mk hc1
  clear hr1 hc1
  have HI0:=Aside0.mk hI
  have HK:=Aside0.mk (KeepBut.refl w g none)
  have HL:=Aside0.mk hB.size
  clear hI
  have HW0:=Aside0.mk hB.size
  have HB:=Aside0.mk hB
  clear hB
  have H:((spec_l1Below.f s0_0 s0_1 s0_2 (l1.length:Int)).bind fun bt324=>(if 0≤bt324.1 then(if bt324.1<(l1.length:Int) then(some (rdOf ByteArray.empty l1 bt324.1,bt324.2.1,bt324.2.2)) else(none)) else(none)))=some (r1,r2,r3):=h
  clear h
  replace H:=Option.bind_eq_some_iff.mp H
  obtain⟨⟨t324,t325,t326⟩,A30,H⟩:=H
  replace H:(if 0≤t324 then(if t324<(l1.length:Int) then(some (rdOf ByteArray.empty l1 t324,t325,t326)) else(none)) else(none))=some (r1,r2,r3):=H
  have A3:=Aside0.mk A30
  clear A30
  by_cases c4:0≤t324
  · rw[if_pos c4] at H
    have c4b0:decide (0≤t324)=true:=decide_eq_true c4
    clear c4
    by_cases c5:t324<(l1.length:Int)
    · rw[if_pos c5] at H
      have c5b0:decide (t324<(l1.length:Int))=true:=decide_eq_true c5
      clear c5
      simp only[Option.some.injEq,Prod.mk.injEq] at H
      obtain⟨rfl,rfl,rfl⟩:=H
      go_enter Tryz.func30,Tryz.ntmps30
      go_wp2_with (first|((with_reducible refine gate_callee (f:=29) rfl ?_);refine goesL_ (some 9) rfl rfl Tryz.func29 (by kernel_rfl) rfl #[.pointer (some ⟨g,0,none⟩), .int .i64 (l1.length:Int)] rfl (by(try simp only[List.map_toArray,List.map_cons,List.map_nil]);first|done|rfl|(simp only[List.length_drop,List.length_take];rfl)) ?_;(with_reducible refine(spec_l1Below.calls g s0_0 s0_1 s0_2 (l1.length:Int) t324 t325 t326 w0 _ ?side1 ?side2 A3.out).mono ?_);(case side1=>repeat(first|(with_reducible first|exact HI0.out|apply IsS68.alloc|apply IsS68.drewN|apply IsS68.drew|apply IsS68.set_1|apply IsS68.set_2)|exact HI0.out));(case side2=>repeat(first|(with_reducible first|exact HB.out|apply below_alloc|apply pw_below_drewN|apply below_drew1|refine below_set ?_ (IsS68.ge HI0.out))|exact HB.out));rintro e w6 ⟨rfl,hi,hb,hk⟩;refine⟨_,rfl,?_⟩;have n0_:=Aside0.mk (KeepBut.trans (by repeat(first|(with_reducible first|exact HK.out|apply KeepBut.set_|apply keep_drewN|apply keep_drew|apply keep_alloc)|exact HK.out)) hk (.inl rfl));have n1_:=Aside0.mk (hb);have n2_:=Aside0.mk (hi);clear HK;clear HB;clear HI0;have HK:=n0_;have HB:=n1_;have HI0:=n2_;clear n0_ n1_ n2_;(try clear hb);(try clear hb2);(try clear hk);(try clear hi);have p327:0≤(t324:Int):=of_decide_eq_true (by first|(with_reducible assumption)|assumption);have q327:t324<(l1.length:Int):=of_decide_eq_true (by first|(with_reducible assumption)|assumption);obtain⟨ad327,e327,hx327_0⟩:=Kd.at_string HR1.out t324 p327 q327;cases e327;replace hx327_0:=keep_cell HK.out hx327_0 (by first|(rw[add_block];exact hf1 _ rfl (by omega))|exact hf1 _ rfl (by omega)|exact hf1 ad327 rfl (by omega));replace p327:=eq_true p327;replace q327:=eq_true q327))
      go_ret
      exact⟨by first|rfl|(simp[errW_none,errW_some]<;>rfl)|(simp[*,errW_none,errW_some]<;>rfl),by repeat(first|(with_reducible first|exact HI0.out|apply IsS68.alloc|apply IsS68.drewN|apply IsS68.drew|apply IsS68.set_1|apply IsS68.set_2)|exact HI0.out),by repeat(first|(with_reducible first|exact HB.out|apply below_alloc|apply pw_below_drewN|apply below_drew1|refine below_set ?_ (IsS68.ge HI0.out))|exact HB.out),by repeat(first|(with_reducible first|exact HK.out|apply KeepBut.set_|apply keep_drewN|apply keep_drew|apply keep_alloc)|exact HK.out)⟩
    · rw[if_neg c5] at H
      exact absurd H (by simp)
  · rw[if_neg c4] at H
    exact absurd H (by simp)

end Go.Proofs.YtanohnlddaneeaaGreatDoor.PFnQtyBack
