-- Written by a turned copy of the print (see the notes of this repo): plain functions and their walks. Lean checks it.
import Derived.Test.YtanohnlddaneeaaGreatDoorPFnQtyBackx0
import Derived.Test.YtanohnlddaneeaaGreatDoorPFnQtyBackx2
import Derived.Test.YtanohnlddaneeaaGreatDoorPFnQtyBackx5
namespace Go.Proofs.YtanohnlddaneeaaGreatDoor.PFnQtyBack
open Go.RowKit Go.Proofs.YtanohnlddaneeaaGreatDoorW.PrintWords Go.Proofs.YtanohnlddaneeaaGreatDoorW.PrintLast Go.Proofs.YtanohnlddaneeaaGreatDoorW.PrintMore
attribute [local go_sem] max2_int min2_int max_two min_two max_three min_three max_four min_four   -- for this text's walks alone
set_option linter.unusedVariables false
set_option linter.unusedSimpArgs false

/-! ### spec_ShowQty: function 7 -/
mutual
def spec_ShowQty.j0:Nat→Int→ByteArray→Int→Int→Int→Int→Option (ByteArray)
  |0,_,_,_,_,_,_=>none
  |k+1,x3,x4,x243000,x243001,x243002,x243003=>(spec_l2Itoa.f k x3).bind fun t244=>(spec_ShowQty.l0 k x4 t244 0 x243000 x243001 x243002 x243003)
def spec_ShowQty.l0:Nat→ByteArray→ByteArray→Int→Int→Int→Int→Int→Option (ByteArray)
  |0,_,_,_,_,_,_,_=>none
  |k+1,x4,x5,x6,x243000,x243001,x243002,x243003=>if x6<x243001 then(if x5.size+1≤9223372036854775807 then(spec_ShowQty.l0 k x4 (x5++(⟨#[48]⟩:ByteArray)) (wrap64 (x6+1)) x243000 x243001 x243002 x243003) else(none)) else(spec_ShowQty.l1 k x4 x5 x243000 x243001 x243002 x243003)
def spec_ShowQty.l1:Nat→ByteArray→ByteArray→Int→Int→Int→Int→Option (ByteArray)
  |0,_,_,_,_,_,_=>none
  |k+1,x4,x5,x243000,x243001,x243002,x243003=>if(x5.size:Int)≤(wrap64 (-x243001)) then(if 1+x5.size≤9223372036854775807 then(spec_ShowQty.l1 k x4 ((⟨#[48]⟩:ByteArray)++x5) x243000 x243001 x243002 x243003) else(none)) else(if(x5.size:Int)>9 then(some (⟨#[]⟩:ByteArray)) else(if x243001<0 then(if 0≤(wrap64 ((x5.size:Int)+x243001)) then(if(wrap64 ((x5.size:Int)+x243001))≤(x5.size:Int) then(if(x5.extract 0 ((wrap64 ((x5.size:Int)+x243001)):Int).toNat).size+1≤9223372036854775807 then(if((x5.extract 0 ((wrap64 ((x5.size:Int)+x243001)):Int).toNat)++(⟨#[46]⟩:ByteArray)).size+(x5.extract ((wrap64 ((x5.size:Int)+x243001)):Int).toNat x5.size).size≤9223372036854775807 then(spec_ShowQty.j3 k x4 (((x5.extract 0 ((wrap64 ((x5.size:Int)+x243001)):Int).toNat)++(⟨#[46]⟩:ByteArray))++(x5.extract ((wrap64 ((x5.size:Int)+x243001)):Int).toNat x5.size)) x243000 x243001 x243002 x243003) else(none)) else(none)) else(none)) else(none)) else(spec_ShowQty.j3 k x4 x5 x243000 x243001 x243002 x243003)))
def spec_ShowQty.j3:Nat→ByteArray→ByteArray→Int→Int→Int→Int→Option (ByteArray)
  |0,_,_,_,_,_,_=>none
  |k+1,x4,x5,x243000,x243001,x243002,x243003=>if x4.size+x5.size≤9223372036854775807 then(if x243002=0 then(spec_ShowQty.j4 k (x4++x5) false x243000 x243001 x243002 x243003) else(spec_ShowQty.j4 k (x4++x5) (x243003 != 0) x243000 x243001 x243002 x243003)) else(none)
def spec_ShowQty.j4:Nat→ByteArray→Bool→Int→Int→Int→Int→Option (ByteArray)
  |0,_,_,_,_,_,_=>none
  |k+1,x4,x57,x243000,x243001,x243002,x243003=>if x57=true then(if x4.size+1≤9223372036854775807 then((spec_l20Unit.f k (⟨#[86]⟩:ByteArray) x243002).bind fun t245=>(if(x4++(⟨#[32]⟩:ByteArray)).size+t245.size≤9223372036854775807 then(if((x4++(⟨#[32]⟩:ByteArray))++t245).size+1≤9223372036854775807 then((spec_l20Unit.f k (⟨#[115]⟩:ByteArray) x243003).bind fun t246=>(if(((x4++(⟨#[32]⟩:ByteArray))++t245)++(⟨#[42]⟩:ByteArray)).size+t246.size≤9223372036854775807 then(some ((((x4++(⟨#[32]⟩:ByteArray))++t245)++(⟨#[42]⟩:ByteArray))++t246)) else(none))) else(none)) else(none))) else(none)) else(if x243002=0 then(if x243003=0 then(some x4) else(if x4.size+1≤9223372036854775807 then((spec_l20Unit.f k (⟨#[115]⟩:ByteArray) x243003).bind fun t247=>(if(x4++(⟨#[32]⟩:ByteArray)).size+t247.size≤9223372036854775807 then(some ((x4++(⟨#[32]⟩:ByteArray))++t247)) else(none))) else(none))) else(if x4.size+1≤9223372036854775807 then((spec_l20Unit.f k (⟨#[86]⟩:ByteArray) x243002).bind fun t248=>(if(x4++(⟨#[32]⟩:ByteArray)).size+t248.size≤9223372036854775807 then(some ((x4++(⟨#[32]⟩:ByteArray))++t248)) else(none))) else(none)))
end
def spec_ShowQty.f (k:Nat) (a0_0:Int) (a0_1:Int) (a0_2:Int) (a0_3:Int):Option (ByteArray):=(spec_QtyOk.f k a0_0 a0_1 a0_2 a0_3).bind fun t243=>(if t243=true then(if a0_0<0 then(spec_ShowQty.j0 k (wrap64 (-a0_0)) (⟨#[45]⟩:ByteArray) a0_0 a0_1 a0_2 a0_3) else(spec_ShowQty.j0 k a0_0 (⟨#[]⟩:ByteArray) a0_0 a0_1 a0_2 a0_3)) else(some (⟨#[]⟩:ByteArray)))
theorem spec_ShowQty.mono_l:∀k,(∀y0 y1 y2 y3 y4 y5,LeO (spec_ShowQty.j0 k y0 y1 y2 y3 y4 y5) (spec_ShowQty.j0 (k+1) y0 y1 y2 y3 y4 y5))∧(∀y0 y1 y2 y3 y4 y5 y6,LeO (spec_ShowQty.l0 k y0 y1 y2 y3 y4 y5 y6) (spec_ShowQty.l0 (k+1) y0 y1 y2 y3 y4 y5 y6))∧(∀y0 y1 y2 y3 y4 y5,LeO (spec_ShowQty.l1 k y0 y1 y2 y3 y4 y5) (spec_ShowQty.l1 (k+1) y0 y1 y2 y3 y4 y5))∧(∀y0 y1 y2 y3 y4 y5,LeO (spec_ShowQty.j3 k y0 y1 y2 y3 y4 y5) (spec_ShowQty.j3 (k+1) y0 y1 y2 y3 y4 y5))∧(∀y0 y1 y2 y3 y4 y5,LeO (spec_ShowQty.j4 k y0 y1 y2 y3 y4 y5) (spec_ShowQty.j4 (k+1) y0 y1 y2 y3 y4 y5))
  |0=>⟨fun _ _ _ _ _ _ r h=>by simp[spec_ShowQty.j0] at h,fun _ _ _ _ _ _ _ r h=>by simp[spec_ShowQty.l0] at h,fun _ _ _ _ _ _ r h=>by simp[spec_ShowQty.l1] at h,fun _ _ _ _ _ _ r h=>by simp[spec_ShowQty.j3] at h,fun _ _ _ _ _ _ r h=>by simp[spec_ShowQty.j4] at h⟩
  | k +1=>by
    obtain⟨ih0,ih1,ih2,ih3,ih4⟩:=spec_ShowQty.mono_l k
    refine⟨?_,?_,?_,?_,?_⟩
    · intro y0 y1 y2 y3 y4 y5
      unfold spec_ShowQty.j0
      repeat' first
      |(with_reducible exact ih0 _ _ _ _ _ _)
      |(with_reducible exact ih1 _ _ _ _ _ _ _)
      |(with_reducible exact ih2 _ _ _ _ _ _)
      |(with_reducible exact ih3 _ _ _ _ _ _)
      |(with_reducible exact ih4 _ _ _ _ _ _)
      |(with_reducible exact spec_QtyOk.mono _ _ _ _ _)
      |(with_reducible exact spec_l20Unit.mono _ _ _)
      |(with_reducible exact spec_l2Itoa.mono _ _)
      |(with_reducible exact LeO.refl _)
      |(with_reducible exact LeO.none _)
      |(with_reducible refine LeO.ite ?_ ?_)
      |(with_reducible refine LeO.bind ?_ (fun _=> ?_))
      |exact ih0 _ _ _ _ _ _
      |exact ih1 _ _ _ _ _ _ _
      |exact ih2 _ _ _ _ _ _
      |exact ih3 _ _ _ _ _ _
      |exact ih4 _ _ _ _ _ _
      |exact spec_QtyOk.mono _ _ _ _ _
      |exact spec_l20Unit.mono _ _ _
      |exact spec_l2Itoa.mono _ _
      |exact LeO.none _
      |refine LeO.ite ?_ ?_
      |refine LeO.bind ?_ (fun _=> ?_)
    · intro y0 y1 y2 y3 y4 y5 y6
      unfold spec_ShowQty.l0
      repeat' first
      |(with_reducible exact ih0 _ _ _ _ _ _)
      |(with_reducible exact ih1 _ _ _ _ _ _ _)
      |(with_reducible exact ih2 _ _ _ _ _ _)
      |(with_reducible exact ih3 _ _ _ _ _ _)
      |(with_reducible exact ih4 _ _ _ _ _ _)
      |(with_reducible exact spec_QtyOk.mono _ _ _ _ _)
      |(with_reducible exact spec_l20Unit.mono _ _ _)
      |(with_reducible exact spec_l2Itoa.mono _ _)
      |(with_reducible exact LeO.refl _)
      |(with_reducible exact LeO.none _)
      |(with_reducible refine LeO.ite ?_ ?_)
      |(with_reducible refine LeO.bind ?_ (fun _=> ?_))
      |exact ih0 _ _ _ _ _ _
      |exact ih1 _ _ _ _ _ _ _
      |exact ih2 _ _ _ _ _ _
      |exact ih3 _ _ _ _ _ _
      |exact ih4 _ _ _ _ _ _
      |exact spec_QtyOk.mono _ _ _ _ _
      |exact spec_l20Unit.mono _ _ _
      |exact spec_l2Itoa.mono _ _
      |exact LeO.none _
      |refine LeO.ite ?_ ?_
      |refine LeO.bind ?_ (fun _=> ?_)
    · intro y0 y1 y2 y3 y4 y5
      unfold spec_ShowQty.l1
      repeat' first
      |(with_reducible exact ih0 _ _ _ _ _ _)
      |(with_reducible exact ih1 _ _ _ _ _ _ _)
      |(with_reducible exact ih2 _ _ _ _ _ _)
      |(with_reducible exact ih3 _ _ _ _ _ _)
      |(with_reducible exact ih4 _ _ _ _ _ _)
      |(with_reducible exact spec_QtyOk.mono _ _ _ _ _)
      |(with_reducible exact spec_l20Unit.mono _ _ _)
      |(with_reducible exact spec_l2Itoa.mono _ _)
      |(with_reducible exact LeO.refl _)
      |(with_reducible exact LeO.none _)
      |(with_reducible refine LeO.ite ?_ ?_)
      |(with_reducible refine LeO.bind ?_ (fun _=> ?_))
      |exact ih0 _ _ _ _ _ _
      |exact ih1 _ _ _ _ _ _ _
      |exact ih2 _ _ _ _ _ _
      |exact ih3 _ _ _ _ _ _
      |exact ih4 _ _ _ _ _ _
      |exact spec_QtyOk.mono _ _ _ _ _
      |exact spec_l20Unit.mono _ _ _
      |exact spec_l2Itoa.mono _ _
      |exact LeO.none _
      |refine LeO.ite ?_ ?_
      |refine LeO.bind ?_ (fun _=> ?_)
    · intro y0 y1 y2 y3 y4 y5
      unfold spec_ShowQty.j3
      repeat' first
      |(with_reducible exact ih0 _ _ _ _ _ _)
      |(with_reducible exact ih1 _ _ _ _ _ _ _)
      |(with_reducible exact ih2 _ _ _ _ _ _)
      |(with_reducible exact ih3 _ _ _ _ _ _)
      |(with_reducible exact ih4 _ _ _ _ _ _)
      |(with_reducible exact spec_QtyOk.mono _ _ _ _ _)
      |(with_reducible exact spec_l20Unit.mono _ _ _)
      |(with_reducible exact spec_l2Itoa.mono _ _)
      |(with_reducible exact LeO.refl _)
      |(with_reducible exact LeO.none _)
      |(with_reducible refine LeO.ite ?_ ?_)
      |(with_reducible refine LeO.bind ?_ (fun _=> ?_))
      |exact ih0 _ _ _ _ _ _
      |exact ih1 _ _ _ _ _ _ _
      |exact ih2 _ _ _ _ _ _
      |exact ih3 _ _ _ _ _ _
      |exact ih4 _ _ _ _ _ _
      |exact spec_QtyOk.mono _ _ _ _ _
      |exact spec_l20Unit.mono _ _ _
      |exact spec_l2Itoa.mono _ _
      |exact LeO.none _
      |refine LeO.ite ?_ ?_
      |refine LeO.bind ?_ (fun _=> ?_)
    · intro y0 y1 y2 y3 y4 y5
      unfold spec_ShowQty.j4
      repeat' first
      |(with_reducible exact ih0 _ _ _ _ _ _)
      |(with_reducible exact ih1 _ _ _ _ _ _ _)
      |(with_reducible exact ih2 _ _ _ _ _ _)
      |(with_reducible exact ih3 _ _ _ _ _ _)
      |(with_reducible exact ih4 _ _ _ _ _ _)
      |(with_reducible exact spec_QtyOk.mono _ _ _ _ _)
      |(with_reducible exact spec_l20Unit.mono _ _ _)
      |(with_reducible exact spec_l2Itoa.mono _ _)
      |(with_reducible exact LeO.refl _)
      |(with_reducible exact LeO.none _)
      |(with_reducible refine LeO.ite ?_ ?_)
      |(with_reducible refine LeO.bind ?_ (fun _=> ?_))
      |exact ih0 _ _ _ _ _ _
      |exact ih1 _ _ _ _ _ _ _
      |exact ih2 _ _ _ _ _ _
      |exact ih3 _ _ _ _ _ _
      |exact ih4 _ _ _ _ _ _
      |exact spec_QtyOk.mono _ _ _ _ _
      |exact spec_l20Unit.mono _ _ _
      |exact spec_l2Itoa.mono _ _
      |exact LeO.none _
      |refine LeO.ite ?_ ?_
      |refine LeO.bind ?_ (fun _=> ?_)
theorem spec_ShowQty.mono:∀a0 a1 a2 a3 k,LeO (spec_ShowQty.f k a0 a1 a2 a3) (spec_ShowQty.f (k+1) a0 a1 a2 a3):=by
  intro a0 a1 a2 a3 k
  obtain⟨ih0,ih1,ih2,ih3,ih4⟩:=spec_ShowQty.mono_l k
  unfold spec_ShowQty.f
  repeat' first
      |(with_reducible exact ih0 _ _ _ _ _ _)
      |(with_reducible exact ih1 _ _ _ _ _ _ _)
      |(with_reducible exact ih2 _ _ _ _ _ _)
      |(with_reducible exact ih3 _ _ _ _ _ _)
      |(with_reducible exact ih4 _ _ _ _ _ _)
      |(with_reducible exact spec_QtyOk.mono _ _ _ _ _)
      |(with_reducible exact spec_l20Unit.mono _ _ _)
      |(with_reducible exact spec_l2Itoa.mono _ _)
      |(with_reducible exact LeO.refl _)
      |(with_reducible exact LeO.none _)
      |(with_reducible refine LeO.ite ?_ ?_)
      |(with_reducible refine LeO.bind ?_ (fun _=> ?_))
      |exact ih0 _ _ _ _ _ _
      |exact ih1 _ _ _ _ _ _ _
      |exact ih2 _ _ _ _ _ _
      |exact ih3 _ _ _ _ _ _
      |exact ih4 _ _ _ _ _ _
      |exact spec_QtyOk.mono _ _ _ _ _
      |exact spec_l20Unit.mono _ _ _
      |exact spec_l2Itoa.mono _ _
      |exact LeO.none _
      |refine LeO.ite ?_ ?_
      |refine LeO.bind ?_ (fun _=> ?_)
def spec_ShowQty.T19:Bool×List (List Nat×List Nat):=(true,[([],[]),([],[]),([0,1],[0,1]),([2],[2]),([],[]),([],[]),([4,5],[4,5]),([3,6],[3,6]),([7,0,1,2,3,4,5,6,7],[0,4,7])])
def spec_ShowQty.B19:List Nat:=[0,0,3,7,0,0,48,127,255]
theorem spec_ShowQty.tab19:rtab .any (opsOf Tryz.f7 19)=spec_ShowQty.T19:=by kernel_rfl
theorem spec_ShowQty.bits19:waitsOk spec_ShowQty.T19.2 spec_ShowQty.B19=true:=by kernel_rfl
def spec_ShowQty.T22:Bool×List (List Nat×List Nat):=(true,[([],[]),([0],[0]),([],[]),([2],[2]),([3],[3]),([1,4],[1,4]),([5],[5]),([],[]),([7],[7]),([8,4],[8]),([6,9],[6,9]),([10,9,0,1,2,3,4,5,6,7,8,9,10],[0,10])])
def spec_ShowQty.B22:List Nat:=[0,1,0,4,12,31,63,0,128,412,1023,2047]
theorem spec_ShowQty.tab22:rtab .any (opsOf Tryz.f7 22)=spec_ShowQty.T22:=by kernel_rfl
theorem spec_ShowQty.bits22:waitsOk spec_ShowQty.T22.2 spec_ShowQty.B22=true:=by kernel_rfl
set_option maxHeartbeats 8000000 in
set_option maxRecDepth 100000 in
theorem spec_ShowQty.calls (k : Nat) (a0_0:Int) (a0_1:Int) (a0_2:Int) (a0_3:Int) (r:ByteArray) (w:World) (h:spec_ShowQty.f k a0_0 a0_1 a0_2 a0_3=some r):
    Calls Tryz.prog 7 #[.agg #[.int .i64 a0_0, .int .i64 a0_1, .int .i64 a0_2, .int .i64 a0_3]] w fun e w'=>e= .returned (.string r)∧Below w.heap.size w w':=by
  have hu25:=Tryz.underlying25
  have HB:=Aside0.mk (Below.refl w.heap.size w)
  have H:((spec_QtyOk.f k a0_0 a0_1 a0_2 a0_3).bind fun t243=>(if t243=true then(if a0_0<0 then(spec_ShowQty.j0 k (wrap64 (-a0_0)) (⟨#[45]⟩:ByteArray) a0_0 a0_1 a0_2 a0_3) else(spec_ShowQty.j0 k a0_0 (⟨#[]⟩:ByteArray) a0_0 a0_1 a0_2 a0_3)) else(some (⟨#[]⟩:ByteArray))))=some r:=h
  clear h
  replace H:=Option.bind_eq_some_iff.mp H
  obtain⟨t243,A20,H⟩:=H
  replace H:(if t243=true then(if a0_0<0 then(spec_ShowQty.j0 k (wrap64 (-a0_0)) (⟨#[45]⟩:ByteArray) a0_0 a0_1 a0_2 a0_3) else(spec_ShowQty.j0 k a0_0 (⟨#[]⟩:ByteArray) a0_0 a0_1 a0_2 a0_3)) else(some (⟨#[]⟩:ByteArray)))=some r:=H
  have A2:=Aside0.mk A20
  clear A20
  by_cases c3:t243=true
  · subst c3
    have H1:(if a0_0<0 then(spec_ShowQty.j0 k (wrap64 (-a0_0)) (⟨#[45]⟩:ByteArray) a0_0 a0_1 a0_2 a0_3) else(spec_ShowQty.j0 k a0_0 (⟨#[]⟩:ByteArray) a0_0 a0_1 a0_2 a0_3))=some r:=by rw[if_pos rfl] at H;exact H
    clear H
    have H:=H1
    clear H1
    have HC4:=Aside0.mk H
    clear H
    go_enter Tryz.func7,Tryz.ntmps7
    go_upto_if 14 with(first|((with_reducible refine gate_dst (N:=1) rfl ?_);refine box_event ?hg (N:=1) ?hd (cs:= #[.int .i64 a0_0, .int .i64 a0_1, .int .i64 a0_2, .int .i64 a0_3]) (t:=25) ?hr ?_;(case hd=>rfl);(case hg=>rfl);(case hr=>first|(go_simp;done)|(go_simp;rfl));intro gb242 hg w5 hbox hb;have n0_:=Aside0.mk (below_step (by repeat(first|(with_reducible first|exact HB.out|apply below_alloc|apply pw_below_drewN|apply below_drew1)|exact HB.out)) hb);have n1_:=Aside0.mk (hbox);have n2_:=Aside0.mk ((by rw[hg];exact(below_size (by repeat(first|(with_reducible first|exact HB.out|apply below_alloc|apply pw_below_drewN|apply below_drew1)|exact HB.out))):w.heap.size≤gb242));have n3_:=Aside0.mk ((by rw[hg];exact(below_size (by repeat(first|(with_reducible first|exact HB.out|apply below_alloc|apply pw_below_drewN|apply below_drew1)|exact HB.out))):w.heap.size≤gb242));clear HB;have HB:=n0_;have BK242:=n1_;have GW242:=n2_;have GE242:=n3_;clear n0_ n1_ n2_ n3_;clear hb hbox hg;have hcz6_0:w5.cell? ⟨gb242,0,none⟩=some (.int .i64 a0_0):=(blk_cell BK242.out 0).trans rfl;have hcz6_1:w5.cell? ⟨gb242,1,none⟩=some (.int .i64 a0_1):=(blk_cell BK242.out 1).trans rfl;have hcz6_2:w5.cell? ⟨gb242,2,none⟩=some (.int .i64 a0_2):=(blk_cell BK242.out 2).trans rfl;have hcz6_3:w5.cell? ⟨gb242,3,none⟩=some (.int .i64 a0_3):=(blk_cell BK242.out 3).trans rfl;have hfz6_0:=blk_frozen BK242.out 0;have hfz6_1:=blk_frozen BK242.out 1;have hfz6_2:=blk_frozen BK242.out 2;have hfz6_3:=blk_frozen BK242.out 3)|((with_reducible refine gate_callee (f:=19) rfl ?_);refine goesL_ (some 9) rfl rfl Tryz.func19 (by kernel_rfl) rfl #[.agg #[.int .i64 a0_0, .int .i64 a0_1, .int .i64 a0_2, .int .i64 a0_3]] rfl (by(try simp only[List.map_toArray,List.map_cons,List.map_nil]);first|done|rfl|(simp only[List.length_drop,List.length_take];rfl)) ?_;(with_reducible refine(spec_QtyOk.calls k a0_0 a0_1 a0_2 a0_3 true _ A2.out).mono ?_);rintro e w7 ⟨rfl,hb⟩;refine⟨_,rfl,?_⟩;have n0_:=Aside0.mk (blk_below (g:=gb242) (o:= .cells #[.int .i64 a0_0, .int .i64 a0_1, .int .i64 a0_2, .int .i64 a0_3] 25 (0,0)) (by(with_reducible repeat(first|refine blk_drewN ?_ _|refine blk_drew ?_|refine blk_alloc ?_ _));exact BK242.out) hb);have n1_:=Aside0.mk (below_step (by repeat(first|(with_reducible first|exact HB.out|apply below_alloc|apply pw_below_drewN|apply below_drew1|refine below_set ?_ GE242.out)|exact HB.out)) hb);clear BK242;clear HB;have BK242:=n0_;have HB:=n1_;clear n0_ n1_;(try clear hb);(try clear hb2);(try clear hk);(try clear hi);have hcz8_0:w7.cell? ⟨gb242,0,none⟩=some (.int .i64 a0_0):=(blk_cell BK242.out 0).trans rfl;have hcz8_1:w7.cell? ⟨gb242,1,none⟩=some (.int .i64 a0_1):=(blk_cell BK242.out 1).trans rfl;have hcz8_2:w7.cell? ⟨gb242,2,none⟩=some (.int .i64 a0_2):=(blk_cell BK242.out 2).trans rfl;have hcz8_3:w7.cell? ⟨gb242,3,none⟩=some (.int .i64 a0_3):=(blk_cell BK242.out 3).trans rfl;have hfz8_0:=blk_frozen BK242.out 0;have hfz8_1:=blk_frozen BK242.out 1;have hfz8_2:=blk_frozen BK242.out 2;have hfz8_3:=blk_frozen BK242.out 3))
    (try simp only[Act.put,List.setIfInBounds_toArray,List.set_cons_zero,List.set_cons_succ])
    go_cut [3,4] (fun v3 v4 wc=>∃(kq:Nat) (x3_3:Int) (x4_3:ByteArray),v3= .int .i64 x3_3∧v4= .string x4_3∧Aside0 (spec_ShowQty.j0 kq x3_3 x4_3 a0_0 a0_1 a0_2 a0_3=some r)∧Aside0 (kq≤k)∧Aside0 (wc.heap[gb242]? =some (.cells #[.int .i64 a0_0, .int .i64 a0_1, .int .i64 a0_2, .int .i64 a0_3] 25 (0,0)))∧Aside0 (Below w.heap.size w wc))
    case first=>
      have H:=HC4.out
      clear HC4
      by_cases c9:a0_0<0
      · rw[if_pos c9] at H
        have c9b0:decide (a0_0<0)=true:=decide_eq_true c9
        clear c9
        (first|rw[c9b0]|(simp only[i64_w,i32_w];rw[c9b0])|skip)
        have H':=Aside0.mk H
        clear H
        go_wp2
        go_meet
        case rel=>exact⟨_,(wrap64 (-a0_0)),((⟨#[45]⟩:ByteArray)),(by first|rfl|(simp;done)|(simp[*];done)),(by first|rfl|(simp;done)|(simp[*];done)),H',⟨by first|omega|exact Nat.le_refl _⟩,⟨by(with_reducible repeat(first|refine blk_drewN ?_ _|refine blk_drew ?_|refine blk_alloc ?_ _));exact BK242.out⟩,⟨by repeat(first|(with_reducible first|exact HB.out|apply below_alloc|apply pw_below_drewN|apply below_drew1|refine below_set ?_ GE242.out)|exact HB.out)⟩⟩
      · rw[if_neg c9] at H
        have c9b0:decide (a0_0<0)=false:=decide_eq_false c9
        clear c9
        (first|rw[c9b0]|(simp only[i64_w,i32_w];rw[c9b0])|skip)
        have H':=Aside0.mk H
        clear H
        go_wp2
        go_meet
        case rel=>exact⟨_,(a0_0),((⟨#[]⟩:ByteArray)),(by first|rfl|(simp;done)|(simp[*];done)),(by first|rfl|(simp;done)|(simp[*];done)),H',⟨by first|omega|exact Nat.le_refl _⟩,⟨by(with_reducible repeat(first|refine blk_drewN ?_ _|refine blk_drew ?_|refine blk_alloc ?_ _));exact BK242.out⟩,⟨by repeat(first|(with_reducible first|exact HB.out|apply below_alloc|apply pw_below_drewN|apply below_drew1|refine below_set ?_ GE242.out)|exact HB.out)⟩⟩
    case rest =>
      clear HC4
      try clear c1
      try clear p2
      try clear c3
      try clear p6
      try clear c7
      try clear c9
      try clear c9b0
      try clear hcz6_0
      try clear hcz6_1
      try clear hcz6_2
      try clear hcz6_3
      try clear hcz8_0
      try clear hcz8_1
      try clear hcz8_2
      try clear hcz8_3
      try clear hfz6_0
      try clear hfz6_1
      try clear hfz6_2
      try clear hfz6_3
      try clear hfz8_0
      try clear hfz8_1
      try clear hfz8_2
      try clear hfz8_3
      obtain⟨kq,x3_3,x4_3,rfl,rfl,HA,HJ3,BK242,HB⟩:=hcut
      cases kq with
      |zero=>exact absurd HA.out (by simp[spec_ShowQty.j0])
      | succ kj3=>
        have H:=HA.out
        clear HA
        simp only[spec_ShowQty.j0] at H
        replace H:=Option.bind_eq_some_iff.mp H
        obtain⟨t244,A100,H⟩:=H
        replace H:(spec_ShowQty.l0 kj3 x4_3 t244 0 a0_0 a0_1 a0_2 a0_3)=some r:=H
        have A10:=Aside0.mk A100
        clear A100
        have H':=Aside0.mk H
        clear H
        go_wp2_with (first|((with_reducible refine gate_callee (f:=20) rfl ?_);refine goesL_ (some 18) rfl rfl Tryz.func20 (by kernel_rfl) rfl #[.int .i64 x3_3] rfl (by(try simp only[List.map_toArray,List.map_cons,List.map_nil]);first|done|rfl|(simp only[List.length_drop,List.length_take];rfl)) ?_;(with_reducible refine(spec_l2Itoa.calls kj3 x3_3 t244 _ A10.out).mono ?_);rintro e w11 ⟨rfl,hb⟩;refine⟨_,rfl,?_⟩;have n0_:=Aside0.mk (blk_below (g:=gb242) (o:= .cells #[.int .i64 a0_0, .int .i64 a0_1, .int .i64 a0_2, .int .i64 a0_3] 25 (0,0)) (by(with_reducible repeat(first|refine blk_drewN ?_ _|refine blk_drew ?_|refine blk_alloc ?_ _));exact BK242.out) hb);have n1_:=Aside0.mk (below_step (by repeat(first|(with_reducible first|exact HB.out|apply below_alloc|apply pw_below_drewN|apply below_drew1|refine below_set ?_ GE242.out)|exact HB.out)) hb);clear BK242;clear HB;have BK242:=n0_;have HB:=n1_;clear n0_ n1_;(try clear hb);(try clear hb2);(try clear hk);(try clear hi)))
        (try simp only[Act.put,List.setIfInBounds_toArray,List.set_cons_zero,List.set_cons_succ])
        go_loopg [5,6] kj3 (fun kq v5 v6 w'=>∃(x5_2:ByteArray) (x6_2:Int),v5= .string x5_2∧v6= .int .i64 x6_2∧Aside0 (spec_ShowQty.l0 kq x4_3 x5_2 x6_2 a0_0 a0_1 a0_2 a0_3=some r)∧Aside0 (kq≤kj3)∧Aside0 (w'.heap[gb242]? =some (.cells #[.int .i64 a0_0, .int .i64 a0_1, .int .i64 a0_2, .int .i64 a0_3] 25 (0,0)))∧Aside0 (Below w.heap.size w w'))
        case atStart=>exact⟨(t244),(0),(by first|rfl|(simp;done)|(simp[*];done)),(by first|rfl|(simp;done)|(simp[*];done)),H',⟨Nat.le_refl _⟩,⟨by(with_reducible repeat(first|refine blk_drewN ?_ _|refine blk_drew ?_|refine blk_alloc ?_ _));exact BK242.out⟩,⟨by repeat(first|(with_reducible first|exact HB.out|apply below_alloc|apply pw_below_drewN|apply below_drew1|refine below_set ?_ GE242.out)|exact HB.out)⟩⟩
        case round=>
          clear H'
          try clear c1
          try clear c2
          try clear p2
          try clear c3
          try clear p6
          try clear c7
          try clear c9
          try clear c9b0
          try clear hcz6_0
          try clear hcz6_1
          try clear hcz6_2
          try clear hcz6_3
          try clear hcz8_0
          try clear hcz8_1
          try clear hcz8_2
          try clear hcz8_3
          try clear hfz6_0
          try clear hfz6_1
          try clear hfz6_2
          try clear hfz6_3
          try clear hfz8_0
          try clear hfz8_1
          try clear hfz8_2
          try clear hfz8_3
          try clear p2
          try clear p6
          obtain⟨x5_2,x6_2,rfl,rfl,HA,HK2,BK242,HB⟩:=hrel
          cases gk with
          |zero=>exact absurd HA.out (by simp[spec_ShowQty.l0])
          | succ k2 =>
            have H:=HA.out
            clear HA
            simp only[spec_ShowQty.l0] at H
            by_cases c12:x6_2<a0_1
            · rw[if_pos c12] at H
              have c12b0:decide (x6_2<a0_1)=true:=decide_eq_true c12
              clear c12
              by_cases c13:x5_2.size+1≤9223372036854775807
              · rw[if_pos c13] at H
                have c13b0:=eq_true c13
                have c13b1:decide (x5_2.size+1≤9223372036854775807)=true:=decide_eq_true c13
                try have c13b2:(9223372036854775807<x5_2.size+1)=False:=eq_false (Nat.not_lt.2 c13)
                have H':=Aside0.mk H
                clear H
                have hcz14_0:wr.cell? ⟨gb242,0,none⟩=some (.int .i64 a0_0):=(blk_cell BK242.out 0).trans rfl
                have hcz14_1:wr.cell? ⟨gb242,1,none⟩=some (.int .i64 a0_1):=(blk_cell BK242.out 1).trans rfl
                have hcz14_2:wr.cell? ⟨gb242,2,none⟩=some (.int .i64 a0_2):=(blk_cell BK242.out 2).trans rfl
                have hcz14_3:wr.cell? ⟨gb242,3,none⟩=some (.int .i64 a0_3):=(blk_cell BK242.out 3).trans rfl
                have hfz14_0:=blk_frozen BK242.out 0
                have hfz14_1:=blk_frozen BK242.out 1
                have hfz14_2:=blk_frozen BK242.out 2
                have hfz14_3:=blk_frozen BK242.out 3
                go_wp2
                go_roundg k2
                case measure=>have:=HJ3.out;have:=HK2.out;omega
                case rel=>exact⟨(x5_2++(⟨#[48]⟩:ByteArray)),(wrap64 (x6_2+1)),(by first|rfl|(simp;done)|(simp[*];done)),(by first|rfl|(simp;done)|(simp[*];done)),H',⟨by have:=HJ3.out;have:=HK2.out;omega⟩,⟨by(with_reducible repeat(first|refine blk_drewN ?_ _|refine blk_drew ?_|refine blk_alloc ?_ _));exact BK242.out⟩,⟨by repeat(first|(with_reducible first|exact HB.out|apply below_alloc|apply pw_below_drewN|apply below_drew1|refine below_set ?_ GE242.out)|exact HB.out)⟩⟩
              · rw[if_neg c13] at H
                exact absurd H (by simp)
            · rw [if_neg c12] at H
              have c12b0:decide (x6_2<a0_1)=false:=decide_eq_false c12
              clear c12
              have H':=Aside0.mk H
              clear H
              have hcz15_0:wr.cell? ⟨gb242,0,none⟩=some (.int .i64 a0_0):=(blk_cell BK242.out 0).trans rfl
              have hcz15_1:wr.cell? ⟨gb242,1,none⟩=some (.int .i64 a0_1):=(blk_cell BK242.out 1).trans rfl
              have hcz15_2:wr.cell? ⟨gb242,2,none⟩=some (.int .i64 a0_2):=(blk_cell BK242.out 2).trans rfl
              have hcz15_3:wr.cell? ⟨gb242,3,none⟩=some (.int .i64 a0_3):=(blk_cell BK242.out 3).trans rfl
              have hfz15_0:=blk_frozen BK242.out 0
              have hfz15_1:=blk_frozen BK242.out 1
              have hfz15_2:=blk_frozen BK242.out 2
              have hfz15_3:=blk_frozen BK242.out 3
              go_wp2
              (try simp only[Act.put,List.setIfInBounds_toArray,List.set_cons_zero,List.set_cons_succ])
              go_loopg [5] k2 (fun kq v5 w'=>∃(x5_3:ByteArray),v5= .string x5_3∧Aside0 (spec_ShowQty.l1 kq x4_3 x5_3 a0_0 a0_1 a0_2 a0_3=some r)∧Aside0 (kq≤k2)∧Aside0 (w'.heap[gb242]? =some (.cells #[.int .i64 a0_0, .int .i64 a0_1, .int .i64 a0_2, .int .i64 a0_3] 25 (0,0)))∧Aside0 (Below w.heap.size w w'))
              case atStart=>exact⟨(x5_2),(by first|rfl|(simp;done)|(simp[*];done)),H',⟨Nat.le_refl _⟩,⟨by(with_reducible repeat(first|refine blk_drewN ?_ _|refine blk_drew ?_|refine blk_alloc ?_ _));exact BK242.out⟩,⟨by repeat(first|(with_reducible first|exact HB.out|apply below_alloc|apply pw_below_drewN|apply below_drew1|refine below_set ?_ GE242.out)|exact HB.out)⟩⟩
              case round=>
                clear H'
                try clear c1
                try clear c2
                try clear p2
                try clear c3
                try clear p6
                try clear c7
                try clear c9
                try clear c9b0
                try clear c12
                try clear c12b0
                try clear c13
                try clear c13b0
                try clear c13b1
                try clear c13b2
                try clear hcz14_0
                try clear hcz14_1
                try clear hcz14_2
                try clear hcz14_3
                try clear hcz15_0
                try clear hcz15_1
                try clear hcz15_2
                try clear hcz15_3
                try clear hcz6_0
                try clear hcz6_1
                try clear hcz6_2
                try clear hcz6_3
                try clear hcz8_0
                try clear hcz8_1
                try clear hcz8_2
                try clear hcz8_3
                try clear hfz14_0
                try clear hfz14_1
                try clear hfz14_2
                try clear hfz14_3
                try clear hfz15_0
                try clear hfz15_1
                try clear hfz15_2
                try clear hfz15_3
                try clear hfz6_0
                try clear hfz6_1
                try clear hfz6_2
                try clear hfz6_3
                try clear hfz8_0
                try clear hfz8_1
                try clear hfz8_2
                try clear hfz8_3
                try clear p2
                try clear p6
                obtain⟨x5_3,rfl,HA,HK3,BK242,HB⟩:=hrel
                cases gk with
                |zero=>exact absurd HA.out (by simp[spec_ShowQty.l1])
                | succ k3 =>
                  have H:=HA.out
                  clear HA
                  simp only[spec_ShowQty.l1] at H
                  by_cases c16:(x5_3.size:Int)≤(wrap64 (-a0_1))
                  · rw[if_pos c16] at H
                    have c16b0:decide ((x5_3.size:Int)≤(wrap64 (-a0_1)))=true:=decide_eq_true c16
                    clear c16
                    by_cases c17:1+x5_3.size≤9223372036854775807
                    · rw[if_pos c17] at H
                      have c17b0:=eq_true c17
                      have c17b1:decide (1+x5_3.size≤9223372036854775807)=true:=decide_eq_true c17
                      try have c17b2:(9223372036854775807<1+x5_3.size)=False:=eq_false (Nat.not_lt.2 c17)
                      have H':=Aside0.mk H
                      clear H
                      have hcz18_0:wr.cell? ⟨gb242,0,none⟩=some (.int .i64 a0_0):=(blk_cell BK242.out 0).trans rfl
                      have hcz18_1:wr.cell? ⟨gb242,1,none⟩=some (.int .i64 a0_1):=(blk_cell BK242.out 1).trans rfl
                      have hcz18_2:wr.cell? ⟨gb242,2,none⟩=some (.int .i64 a0_2):=(blk_cell BK242.out 2).trans rfl
                      have hcz18_3:wr.cell? ⟨gb242,3,none⟩=some (.int .i64 a0_3):=(blk_cell BK242.out 3).trans rfl
                      have hfz18_0:=blk_frozen BK242.out 0
                      have hfz18_1:=blk_frozen BK242.out 1
                      have hfz18_2:=blk_frozen BK242.out 2
                      have hfz18_3:=blk_frozen BK242.out 3
                      go_wp2
                      go_roundg k3
                      case measure=>have:=HJ3.out;have:=HK2.out;have:=HK3.out;omega
                      case rel=>exact⟨((⟨#[48]⟩:ByteArray)++x5_3),(by first|rfl|(simp;done)|(simp[*];done)),H',⟨by have:=HJ3.out;have:=HK2.out;have:=HK3.out;omega⟩,⟨by(with_reducible repeat(first|refine blk_drewN ?_ _|refine blk_drew ?_|refine blk_alloc ?_ _));exact BK242.out⟩,⟨by repeat(first|(with_reducible first|exact HB.out|apply below_alloc|apply pw_below_drewN|apply below_drew1|refine below_set ?_ GE242.out)|exact HB.out)⟩⟩
                    · rw[if_neg c17] at H
                      exact absurd H (by simp)
                  · rw [if_neg c16] at H
                    have c16b0:decide ((x5_3.size:Int)≤(wrap64 (-a0_1)))=false:=decide_eq_false c16
                    clear c16
                    by_cases c19:(x5_3.size:Int)>9
                    · rw[if_pos c19] at H
                      have c19b0:decide (9<(x5_3.size:Int))=true:=decide_eq_true c19
                      have c19b1:decide (9<x5_3.size)=true:=decide_eq_true (by omega)
                      clear c19
                      obtain rfl:=Option.some.inj H
                      have hcz20_0:wr.cell? ⟨gb242,0,none⟩=some (.int .i64 a0_0):=(blk_cell BK242.out 0).trans rfl
                      have hcz20_1:wr.cell? ⟨gb242,1,none⟩=some (.int .i64 a0_1):=(blk_cell BK242.out 1).trans rfl
                      have hcz20_2:wr.cell? ⟨gb242,2,none⟩=some (.int .i64 a0_2):=(blk_cell BK242.out 2).trans rfl
                      have hcz20_3:wr.cell? ⟨gb242,3,none⟩=some (.int .i64 a0_3):=(blk_cell BK242.out 3).trans rfl
                      have hfz20_0:=blk_frozen BK242.out 0
                      have hfz20_1:=blk_frozen BK242.out 1
                      have hfz20_2:=blk_frozen BK242.out 2
                      have hfz20_3:=blk_frozen BK242.out 3
                      go_wp2
                      go_ret
                      exact⟨by first|rfl|(simp[errW_none,errW_some]<;>rfl)|(simp[*,errW_none,errW_some]<;>rfl),by repeat(first|(with_reducible first|exact HB.out|apply below_alloc|apply pw_below_drewN|apply below_drew1|refine below_set ?_ GE242.out)|exact HB.out)⟩
                    · rw [if_neg c19] at H
                      have c19b0:decide (9<(x5_3.size:Int))=false:=decide_eq_false c19
                      have c19b1:decide (9<x5_3.size)=false:=decide_eq_false (by omega)
                      clear c19
                      have HC21:=Aside0.mk H
                      clear H
                      have hcz22_0:wr.cell? ⟨gb242,0,none⟩=some (.int .i64 a0_0):=(blk_cell BK242.out 0).trans rfl
                      have hcz22_1:wr.cell? ⟨gb242,1,none⟩=some (.int .i64 a0_1):=(blk_cell BK242.out 1).trans rfl
                      have hcz22_2:wr.cell? ⟨gb242,2,none⟩=some (.int .i64 a0_2):=(blk_cell BK242.out 2).trans rfl
                      have hcz22_3:wr.cell? ⟨gb242,3,none⟩=some (.int .i64 a0_3):=(blk_cell BK242.out 3).trans rfl
                      have hfz22_0:=blk_frozen BK242.out 0
                      have hfz22_1:=blk_frozen BK242.out 1
                      have hfz22_2:=blk_frozen BK242.out 2
                      have hfz22_3:=blk_frozen BK242.out 3
                      go_upto_if 40 with(fail)
                      go_cut [5] (fun v5 wc=>∃(kq:Nat) (x5_20:ByteArray),v5= .string x5_20∧Aside0 (spec_ShowQty.j3 kq x4_3 x5_20 a0_0 a0_1 a0_2 a0_3=some r)∧Aside0 (kq≤k3)∧Aside0 (wc.heap[gb242]? =some (.cells #[.int .i64 a0_0, .int .i64 a0_1, .int .i64 a0_2, .int .i64 a0_3] 25 (0,0)))∧Aside0 (Below w.heap.size w wc))
                      case first=>
                        have H:=HC21.out
                        clear HC21
                        by_cases c23:a0_1<0
                        · rw [if_pos c23] at H
                          have c23b0:decide (a0_1<0)=true:=decide_eq_true c23
                          clear c23
                          (first|rw[c23b0]|(simp only[i64_w,i32_w];rw[c23b0])|skip)
                          obtain⟨ji24,hji24⟩:∃j_:Int,(wrap64 ((x5_3.size:Int)+a0_1))=j_:=⟨_,rfl⟩
                          replace H:(if 0≤(ji24) then(if(ji24)≤(x5_3.size:Int) then(if(x5_3.extract 0 ((ji24):Int).toNat).size+1≤9223372036854775807 then(if((x5_3.extract 0 ((ji24):Int).toNat)++(⟨#[46]⟩:ByteArray)).size+(x5_3.extract ((ji24):Int).toNat x5_3.size).size≤9223372036854775807 then(spec_ShowQty.j3 k3 x4_3 (((x5_3.extract 0 ((ji24):Int).toNat)++(⟨#[46]⟩:ByteArray))++(x5_3.extract ((ji24):Int).toNat x5_3.size)) a0_0 a0_1 a0_2 a0_3) else(none)) else(none)) else(none)) else(none))=some r:=by first|(rw[hji24] at H;exact H)|(simp only[hji24] at H ⊢;exact H)
                          have hji24w:(IntKind.i64.wrap ((x5_3.size:Int)+a0_1))=ji24:=(i64_w _).trans hji24
                          by_cases c25:0≤(ji24)
                          · rw [if_pos c25] at H
                            have c25b0:=eq_true c25
                            have c25b1:decide (0≤(ji24))=true:=decide_eq_true c25
                            clear c25
                            by_cases c26:(ji24)≤(x5_3.size:Int)
                            · rw [if_pos c26] at H
                              have c26b0:=eq_true c26
                              have c26b1:decide ((ji24)≤(x5_3.size:Int))=true:=decide_eq_true c26
                              clear c26
                              by_cases c27:(x5_3.extract 0 ((ji24):Int).toNat).size+1≤9223372036854775807
                              · rw [if_pos c27] at H
                                have c27b0:=eq_true c27
                                have c27b1:decide ((x5_3.extract 0 ((ji24):Int).toNat).size+1≤9223372036854775807)=true:=decide_eq_true c27
                                try have c27b2:(9223372036854775807<(x5_3.extract 0 ((ji24):Int).toNat).size+1)=False:=eq_false (Nat.not_lt.2 c27)
                                try have c27b3:(9223372036854775807<((ji24):Int).toNat+1)=False:=eq_false (by(try have:=of_eq_true c17b0);(try have:=of_eq_true c25b0);(try have:=of_eq_true c26b0);(try have:=of_eq_true c27b0);have hz_:=c27;simp only[ByteArray.size_append,ByteArray.size_extract,bsz1] at hz_ ⊢;omega)
                                have c28b0:=eq_true (of_decide_eq_true (by first|(with_reducible assumption)|assumption):0≤(ji24))
                                have c29b0:=eq_true (of_decide_eq_true (by first|(with_reducible assumption)|assumption):(ji24)≤(x5_3.size:Int))
                                by_cases c30:((x5_3.extract 0 ((ji24):Int).toNat)++(⟨#[46]⟩:ByteArray)).size+(x5_3.extract ((ji24):Int).toNat x5_3.size).size≤9223372036854775807
                                · rw[if_pos c30] at H
                                  have c30b0:=eq_true c30
                                  have c30b1:decide (((x5_3.extract 0 ((ji24):Int).toNat)++(⟨#[46]⟩:ByteArray)).size+(x5_3.extract ((ji24):Int).toNat x5_3.size).size≤9223372036854775807)=true:=decide_eq_true c30
                                  try have c30b2:(9223372036854775807<((x5_3.extract 0 ((ji24):Int).toNat)++(⟨#[46]⟩:ByteArray)).size+(x5_3.extract ((ji24):Int).toNat x5_3.size).size)=False:=eq_false (Nat.not_lt.2 c30)
                                  try have c30b3:(9223372036854775807<((ji24):Int).toNat+1+(x5_3.size-((ji24):Int).toNat))=False:=eq_false (by(try have:=of_eq_true c17b0);(try have:=of_eq_true c25b0);(try have:=of_eq_true c26b0);(try have:=of_eq_true c27b0);(try have:=of_eq_true c28b0);(try have:=of_eq_true c29b0);(try have:=of_eq_true c30b0);have hz_:=c30;simp only[ByteArray.size_append,ByteArray.size_extract,bsz1] at hz_ ⊢;omega)
                                  have H':=Aside0.mk H
                                  clear H
                                  have hcz31_0:wr.cell? ⟨gb242,0,none⟩=some (.int .i64 a0_0):=(blk_cell BK242.out 0).trans rfl
                                  have hcz31_1:wr.cell? ⟨gb242,1,none⟩=some (.int .i64 a0_1):=(blk_cell BK242.out 1).trans rfl
                                  have hcz31_2:wr.cell? ⟨gb242,2,none⟩=some (.int .i64 a0_2):=(blk_cell BK242.out 2).trans rfl
                                  have hcz31_3:wr.cell? ⟨gb242,3,none⟩=some (.int .i64 a0_3):=(blk_cell BK242.out 3).trans rfl
                                  have hfz31_0:=blk_frozen BK242.out 0
                                  have hfz31_1:=blk_frozen BK242.out 1
                                  have hfz31_2:=blk_frozen BK242.out 2
                                  have hfz31_3:=blk_frozen BK242.out 3
                                  try go_wp2
                                  have n0_:=Aside0.mk (blk_drew BK242.out)
                                  have n1_:=Aside0.mk (below_drew1 HB.out)
                                  clear BK242
                                  clear HB
                                  have BK242:=n0_
                                  have HB:=n1_
                                  clear n0_ n1_
                                  refine start_ (n:=9) (S:=fun w'=>True) (ds:=[]) #[false,false,false,false,false,false,false,false,false] (by kernel_rfl) rfl rfl trivial (fun hHeld=> ?_);refine with_tabW spec_ShowQty.tab19 spec_ShowQty.bits19 (fun HT_ HW_=> ?_)
                                  generalize wr.drew=w32 at BK242 HB hHeld ⊢
                                  refine pure_ (i:=0) (N:=some 46) (v:= ?_) (a':= ?_) #[true,false,false,false,false,false,false,false,false] rfl rfl (any_of HT_.out (by kernel_rfl)) (fun _ _ _ h=>h) (Or.inl ⟨by rfl,?_⟩) ?_ ?_
                                  rotate_left
                                  · intro w'
                                    go_simp
                                    with_reducible rfl
                                  rotate_left
                                  · simp only[Act.put,List.setIfInBounds_toArray,List.set_cons_zero,List.set_cons_succ,i64_w,i32_w]
                                    rfl
                                  refine pure_ (i:=1) (N:=some 47) (v:= ?_) (a':= ?_) #[true,true,false,false,false,false,false,false,false] rfl rfl (any_of HT_.out (by kernel_rfl)) (fun _ _ _ h=>h) (Or.inl ⟨by rfl,?_⟩) ?_ ?_
                                  rotate_left
                                  · intro w'
                                    go_simp
                                    with_reducible rfl
                                  rotate_left
                                  · simp only[Act.put,List.setIfInBounds_toArray,List.set_cons_zero,List.set_cons_succ,i64_w,i32_w]
                                    rfl
                                  refine pure_ (i:=2) (N:=some 48) (v:= ?_) (a':= ?_) #[true,true,true,false,false,false,false,false,false] rfl rfl (any_of HT_.out (by kernel_rfl)) (fun _ _ _ h=>h) (Or.inl ⟨by rfl,?_⟩) ?_ ?_
                                  rotate_left
                                  · intro w'
                                    go_simp
                                    with_reducible rfl
                                  rotate_left
                                  · simp only[Act.put,List.setIfInBounds_toArray,List.set_cons_zero,List.set_cons_succ,i64_w,i32_w]
                                    rfl
                                  refine pure_ (i:=3) (N:=some 49) (v:= ?_) (a':= ?_) #[true,true,true,true,false,false,false,false,false] rfl rfl (any_of HT_.out (by kernel_rfl)) (fun _ _ _ h=>h) (Or.inl ⟨by rfl,?_⟩) ?_ ?_
                                  rotate_left
                                  · intro w'
                                    go_simp
                                    with_reducible rfl
                                  rotate_left
                                  · simp only[Act.put,List.setIfInBounds_toArray,List.set_cons_zero,List.set_cons_succ,i64_w,i32_w]
                                    rfl
                                  refine pure_ (i:=4) (N:=some 50) (v:= ?_) (a':= ?_) #[true,true,true,true,true,false,false,false,false] rfl rfl (any_of HT_.out (by kernel_rfl)) (fun _ _ _ h=>h) (Or.inl ⟨by rfl,?_⟩) ?_ ?_
                                  rotate_left
                                  · intro w'
                                    go_simp
                                    with_reducible rfl
                                  rotate_left
                                  · simp only[Act.put,List.setIfInBounds_toArray,List.set_cons_zero,List.set_cons_succ,i64_w,i32_w]
                                    rfl
                                  refine pure_ (i:=5) (N:=some 51) (v:= ?_) (a':= ?_) #[true,true,true,true,true,true,false,false,false] rfl rfl (any_of HT_.out (by kernel_rfl)) (fun _ _ _ h=>h) (Or.inl ⟨by rfl,?_⟩) ?_ ?_
                                  rotate_left
                                  · intro w'
                                    go_simp
                                    with_reducible rfl
                                  rotate_left
                                  · simp only[Act.put,List.setIfInBounds_toArray,List.set_cons_zero,List.set_cons_succ,i64_w,i32_w]
                                    rfl
                                  refine pure_ (i:=6) (N:=some 52) (v:= ?_) (a':= ?_) #[true,true,true,true,true,true,true,false,false] rfl rfl (any_of HT_.out (by kernel_rfl)) (fun _ _ _ h=>h) (Or.inl ⟨by rfl,?_⟩) ?_ ?_
                                  rotate_left
                                  · intro w'
                                    go_simp
                                    with_reducible rfl
                                  rotate_left
                                  · simp only[Act.put,List.setIfInBounds_toArray,List.set_cons_zero,List.set_cons_succ,i64_w,i32_w]
                                    rfl
                                  refine pure_ (i:=7) (N:=some 53) (v:= ?_) (a':= ?_) #[true,true,true,true,true,true,true,true,false] rfl rfl (any_of HT_.out (by kernel_rfl)) (fun _ _ _ h=>h) (Or.inl ⟨by rfl,?_⟩) ?_ ?_
                                  rotate_left
                                  · intro w'
                                    go_simp
                                    with_reducible rfl
                                  rotate_left
                                  · simp only[Act.put,List.setIfInBounds_toArray,List.set_cons_zero,List.set_cons_succ,i64_w,i32_w]
                                    rfl
                                  refine pure_ (i:=8) (N:=some 5) (v:= ?_) (a':= ?_) #[true,true,true,true,true,true,true,true,true] rfl rfl (any_of HT_.out (by kernel_rfl)) (fun _ _ _ h=>h) (Or.inl ⟨by rfl,?_⟩) ?_ ?_
                                  rotate_left
                                  · intro w'
                                    go_simp
                                    with_reducible rfl
                                  rotate_left
                                  · simp only[Act.put,List.setIfInBounds_toArray,List.set_cons_zero,List.set_cons_succ,i64_w,i32_w]
                                    rfl
                                  refine done_ (done_of HT_.out (by kernel_rfl)) ?_
                                  try go_wp2
                                  go_meet
                                  case rel=>exact⟨_,(((x5_3.extract 0 ((ji24):Int).toNat)++(⟨#[46]⟩:ByteArray))++(x5_3.extract ((ji24):Int).toNat x5_3.size)),(by first|rfl|(simp;done)|(simp only[←hji24]<;>(first|rfl|simp))|(simp[*];done)),H',⟨by have:=HJ3.out;have:=HK2.out;have:=HK3.out;first|omega|exact Nat.le_refl _⟩,⟨by(with_reducible repeat(first|refine blk_drewN ?_ _|refine blk_drew ?_|refine blk_alloc ?_ _));exact BK242.out⟩,⟨by repeat(first|(with_reducible first|exact HB.out|apply below_alloc|apply pw_below_drewN|apply below_drew1|refine below_set ?_ GE242.out)|exact HB.out)⟩⟩
                                · rw[if_neg c30] at H
                                  exact absurd H (by simp)
                              · rw[if_neg c27] at H
                                exact absurd H (by simp)
                            · rw[if_neg c26] at H
                              exact absurd H (by simp)
                          · rw[if_neg c25] at H
                            exact absurd H (by simp)
                        · rw[if_neg c23] at H
                          have c23b0:decide (a0_1<0)=false:=decide_eq_false c23
                          clear c23
                          (first|rw[c23b0]|(simp only[i64_w,i32_w];rw[c23b0])|skip)
                          have H':=Aside0.mk H
                          clear H
                          go_wp2
                          go_meet
                          case rel=>exact⟨_,(x5_3),(by first|rfl|(simp;done)|(simp[*];done)),H',⟨by have:=HJ3.out;have:=HK2.out;have:=HK3.out;first|omega|exact Nat.le_refl _⟩,⟨by(with_reducible repeat(first|refine blk_drewN ?_ _|refine blk_drew ?_|refine blk_alloc ?_ _));exact BK242.out⟩,⟨by repeat(first|(with_reducible first|exact HB.out|apply below_alloc|apply pw_below_drewN|apply below_drew1|refine below_set ?_ GE242.out)|exact HB.out)⟩⟩
                      case rest =>
                        clear HC21
                        try clear c1
                        try clear c2
                        try clear p2
                        try clear c3
                        try clear p6
                        try clear c7
                        try clear c9
                        try clear c9b0
                        try clear c12
                        try clear c12b0
                        try clear c13
                        try clear c13b0
                        try clear c13b1
                        try clear c13b2
                        try clear c16
                        try clear c16b0
                        try clear c17
                        try clear c17b0
                        try clear c17b1
                        try clear c17b2
                        try clear c19
                        try clear c19b0
                        try clear c19b1
                        try clear c20
                        try clear c23
                        try clear c23b0
                        try clear c25
                        try clear c25b0
                        try clear c25b1
                        try clear c26
                        try clear c26b0
                        try clear c26b1
                        try clear c27
                        try clear c27b0
                        try clear c27b1
                        try clear c27b2
                        try clear c28
                        try clear c28b0
                        try clear c29
                        try clear c29b0
                        try clear c30
                        try clear c30b0
                        try clear c30b1
                        try clear c30b2
                        try clear hcz14_0
                        try clear hcz14_1
                        try clear hcz14_2
                        try clear hcz14_3
                        try clear hcz15_0
                        try clear hcz15_1
                        try clear hcz15_2
                        try clear hcz15_3
                        try clear hcz18_0
                        try clear hcz18_1
                        try clear hcz18_2
                        try clear hcz18_3
                        try clear hcz20_0
                        try clear hcz20_1
                        try clear hcz20_2
                        try clear hcz20_3
                        try clear hcz22_0
                        try clear hcz22_1
                        try clear hcz22_2
                        try clear hcz22_3
                        try clear hcz31_0
                        try clear hcz31_1
                        try clear hcz31_2
                        try clear hcz31_3
                        try clear hcz6_0
                        try clear hcz6_1
                        try clear hcz6_2
                        try clear hcz6_3
                        try clear hcz8_0
                        try clear hcz8_1
                        try clear hcz8_2
                        try clear hcz8_3
                        try clear hfz14_0
                        try clear hfz14_1
                        try clear hfz14_2
                        try clear hfz14_3
                        try clear hfz15_0
                        try clear hfz15_1
                        try clear hfz15_2
                        try clear hfz15_3
                        try clear hfz18_0
                        try clear hfz18_1
                        try clear hfz18_2
                        try clear hfz18_3
                        try clear hfz20_0
                        try clear hfz20_1
                        try clear hfz20_2
                        try clear hfz20_3
                        try clear hfz22_0
                        try clear hfz22_1
                        try clear hfz22_2
                        try clear hfz22_3
                        try clear hfz31_0
                        try clear hfz31_1
                        try clear hfz31_2
                        try clear hfz31_3
                        try clear hfz6_0
                        try clear hfz6_1
                        try clear hfz6_2
                        try clear hfz6_3
                        try clear hfz8_0
                        try clear hfz8_1
                        try clear hfz8_2
                        try clear hfz8_3
                        try clear p2
                        try clear p6
                        obtain⟨kq,x5_20,rfl,HA,HJ20,BK242,HB⟩:=hcut
                        cases kq with
                        |zero=>exact absurd HA.out (by simp[spec_ShowQty.j3])
                        | succ kj20 =>
                          have H:=HA.out
                          clear HA
                          simp only[spec_ShowQty.j3] at H
                          by_cases c33:x4_3.size+x5_20.size≤9223372036854775807
                          · rw [if_pos c33] at H
                            have c33b0:=eq_true c33
                            have c33b1:decide (x4_3.size+x5_20.size≤9223372036854775807)=true:=decide_eq_true c33
                            try have c33b2:(9223372036854775807<x4_3.size+x5_20.size)=False:=eq_false (Nat.not_lt.2 c33)
                            have HC34:=Aside0.mk H
                            clear H
                            go_upto_region 21 with(fail)
                            go_cut [57] (fun v57 wc=>∃(kq:Nat) (x57_33:Bool),v57= .bool x57_33∧Aside0 (spec_ShowQty.j4 kq (x4_3++x5_20) x57_33 a0_0 a0_1 a0_2 a0_3=some r)∧Aside0 (kq≤kj20)∧Aside0 (wc.heap[gb242]? =some (.cells #[.int .i64 a0_0, .int .i64 a0_1, .int .i64 a0_2, .int .i64 a0_3] 25 (0,0)))∧Aside0 (Below w.heap.size w wc))
                            case first=>
                              have H:=HC34.out
                              clear HC34
                              by_cases c35:a0_2=0
                              · rw[if_pos c35] at H
                                have c35b0:(a0_2==0)=true:=beq_iff_eq.mpr c35
                                have c35b1:(a0_2 != 0)=false:=bne_eq_false_iff_eq.mpr c35
                                clear c35
                                (first|rw[c35b0]|(simp only[i64_w,i32_w];rw[c35b0])|skip)
                                have H':=Aside0.mk H
                                clear H
                                have hcz36_0:wc.cell? ⟨gb242,0,none⟩=some (.int .i64 a0_0):=(blk_cell BK242.out 0).trans rfl
                                have hcz36_1:wc.cell? ⟨gb242,1,none⟩=some (.int .i64 a0_1):=(blk_cell BK242.out 1).trans rfl
                                have hcz36_2:wc.cell? ⟨gb242,2,none⟩=some (.int .i64 a0_2):=(blk_cell BK242.out 2).trans rfl
                                have hcz36_3:wc.cell? ⟨gb242,3,none⟩=some (.int .i64 a0_3):=(blk_cell BK242.out 3).trans rfl
                                have hfz36_0:=blk_frozen BK242.out 0
                                have hfz36_1:=blk_frozen BK242.out 1
                                have hfz36_2:=blk_frozen BK242.out 2
                                have hfz36_3:=blk_frozen BK242.out 3
                                go_wp2
                                go_meet
                                case rel=>exact⟨_,(false),(by first|rfl|(simp;done)|(simp[*];done)),H',⟨by have:=HJ3.out;have:=HK2.out;have:=HK3.out;have:=HJ20.out;first|omega|exact Nat.le_refl _⟩,⟨by(with_reducible repeat(first|refine blk_drewN ?_ _|refine blk_drew ?_|refine blk_alloc ?_ _));exact BK242.out⟩,⟨by repeat(first|(with_reducible first|exact HB.out|apply below_alloc|apply pw_below_drewN|apply below_drew1|refine below_set ?_ GE242.out)|exact HB.out)⟩⟩
                              · rw[if_neg c35] at H
                                have c35b0:(a0_2==0)=false:=beq_eq_false_iff_ne.mpr c35
                                have c35b1:(a0_2 != 0)=true:=bne_iff_ne.mpr c35
                                (first|rw[c35b0]|(simp only[i64_w,i32_w];rw[c35b0])|skip)
                                have H':=Aside0.mk H
                                clear H
                                have hcz37_0:wc.cell? ⟨gb242,0,none⟩=some (.int .i64 a0_0):=(blk_cell BK242.out 0).trans rfl
                                have hcz37_1:wc.cell? ⟨gb242,1,none⟩=some (.int .i64 a0_1):=(blk_cell BK242.out 1).trans rfl
                                have hcz37_2:wc.cell? ⟨gb242,2,none⟩=some (.int .i64 a0_2):=(blk_cell BK242.out 2).trans rfl
                                have hcz37_3:wc.cell? ⟨gb242,3,none⟩=some (.int .i64 a0_3):=(blk_cell BK242.out 3).trans rfl
                                have hfz37_0:=blk_frozen BK242.out 0
                                have hfz37_1:=blk_frozen BK242.out 1
                                have hfz37_2:=blk_frozen BK242.out 2
                                have hfz37_3:=blk_frozen BK242.out 3
                                go_wp2
                                go_meet
                                case rel=>exact⟨_,((a0_3 != 0)),(by first|rfl|(simp;done)|(simp[*];done)),H',⟨by have:=HJ3.out;have:=HK2.out;have:=HK3.out;have:=HJ20.out;first|omega|exact Nat.le_refl _⟩,⟨by(with_reducible repeat(first|refine blk_drewN ?_ _|refine blk_drew ?_|refine blk_alloc ?_ _));exact BK242.out⟩,⟨by repeat(first|(with_reducible first|exact HB.out|apply below_alloc|apply pw_below_drewN|apply below_drew1|refine below_set ?_ GE242.out)|exact HB.out)⟩⟩
                            case rest =>
                              clear HC34
                              try clear c1
                              try clear c2
                              try clear p2
                              try clear c3
                              try clear p6
                              try clear c7
                              try clear c9
                              try clear c9b0
                              try clear c12
                              try clear c12b0
                              try clear c13
                              try clear c13b0
                              try clear c13b1
                              try clear c13b2
                              try clear c16
                              try clear c16b0
                              try clear c17
                              try clear c17b0
                              try clear c17b1
                              try clear c17b2
                              try clear c19
                              try clear c19b0
                              try clear c19b1
                              try clear c20
                              try clear c23
                              try clear c23b0
                              try clear c25
                              try clear c25b0
                              try clear c25b1
                              try clear c26
                              try clear c26b0
                              try clear c26b1
                              try clear c27
                              try clear c27b0
                              try clear c27b1
                              try clear c27b2
                              try clear c28
                              try clear c28b0
                              try clear c29
                              try clear c29b0
                              try clear c30
                              try clear c30b0
                              try clear c30b1
                              try clear c30b2
                              try clear c33
                              try clear c33b0
                              try clear c33b1
                              try clear c33b2
                              try clear c35
                              try clear c35b0
                              try clear c35b1
                              try clear hcz14_0
                              try clear hcz14_1
                              try clear hcz14_2
                              try clear hcz14_3
                              try clear hcz15_0
                              try clear hcz15_1
                              try clear hcz15_2
                              try clear hcz15_3
                              try clear hcz18_0
                              try clear hcz18_1
                              try clear hcz18_2
                              try clear hcz18_3
                              try clear hcz20_0
                              try clear hcz20_1
                              try clear hcz20_2
                              try clear hcz20_3
                              try clear hcz22_0
                              try clear hcz22_1
                              try clear hcz22_2
                              try clear hcz22_3
                              try clear hcz31_0
                              try clear hcz31_1
                              try clear hcz31_2
                              try clear hcz31_3
                              try clear hcz36_0
                              try clear hcz36_1
                              try clear hcz36_2
                              try clear hcz36_3
                              try clear hcz37_0
                              try clear hcz37_1
                              try clear hcz37_2
                              try clear hcz37_3
                              try clear hcz6_0
                              try clear hcz6_1
                              try clear hcz6_2
                              try clear hcz6_3
                              try clear hcz8_0
                              try clear hcz8_1
                              try clear hcz8_2
                              try clear hcz8_3
                              try clear hfz14_0
                              try clear hfz14_1
                              try clear hfz14_2
                              try clear hfz14_3
                              try clear hfz15_0
                              try clear hfz15_1
                              try clear hfz15_2
                              try clear hfz15_3
                              try clear hfz18_0
                              try clear hfz18_1
                              try clear hfz18_2
                              try clear hfz18_3
                              try clear hfz20_0
                              try clear hfz20_1
                              try clear hfz20_2
                              try clear hfz20_3
                              try clear hfz22_0
                              try clear hfz22_1
                              try clear hfz22_2
                              try clear hfz22_3
                              try clear hfz31_0
                              try clear hfz31_1
                              try clear hfz31_2
                              try clear hfz31_3
                              try clear hfz36_0
                              try clear hfz36_1
                              try clear hfz36_2
                              try clear hfz36_3
                              try clear hfz37_0
                              try clear hfz37_1
                              try clear hfz37_2
                              try clear hfz37_3
                              try clear hfz6_0
                              try clear hfz6_1
                              try clear hfz6_2
                              try clear hfz6_3
                              try clear hfz8_0
                              try clear hfz8_1
                              try clear hfz8_2
                              try clear hfz8_3
                              try clear p2
                              try clear p6
                              obtain⟨kq,x57_33,rfl,HA,HJ33,BK242,HB⟩:=hcut
                              cases kq with
                              |zero=>exact absurd HA.out (by simp[spec_ShowQty.j4])
                              | succ kj33 =>
                                have H:=HA.out
                                clear HA
                                simp only[spec_ShowQty.j4] at H
                                by_cases c38:x57_33=true
                                · subst c38
                                  have H1:(if(x4_3++x5_20).size+1≤9223372036854775807 then((spec_l20Unit.f kj33 (⟨#[86]⟩:ByteArray) a0_2).bind fun t245=>(if((x4_3++x5_20)++(⟨#[32]⟩:ByteArray)).size+t245.size≤9223372036854775807 then(if(((x4_3++x5_20)++(⟨#[32]⟩:ByteArray))++t245).size+1≤9223372036854775807 then((spec_l20Unit.f kj33 (⟨#[115]⟩:ByteArray) a0_3).bind fun t246=>(if((((x4_3++x5_20)++(⟨#[32]⟩:ByteArray))++t245)++(⟨#[42]⟩:ByteArray)).size+t246.size≤9223372036854775807 then(some (((((x4_3++x5_20)++(⟨#[32]⟩:ByteArray))++t245)++(⟨#[42]⟩:ByteArray))++t246)) else(none))) else(none)) else(none))) else(none))=some r:=by rw[if_pos rfl] at H;exact H
                                  clear H
                                  have H:=H1
                                  clear H1
                                  by_cases c39:(x4_3++x5_20).size+1≤9223372036854775807
                                  · rw [if_pos c39] at H
                                    have c39b0:=eq_true c39
                                    have c39b1:decide ((x4_3++x5_20).size+1≤9223372036854775807)=true:=decide_eq_true c39
                                    try have c39b2:(9223372036854775807<(x4_3++x5_20).size+1)=False:=eq_false (Nat.not_lt.2 c39)
                                    try have c39b3:(9223372036854775807<x4_3.size+x5_20.size+1)=False:=eq_false (by(try have:=of_eq_true c39b0);have hz_:=c39;simp only[ByteArray.size_append,ByteArray.size_extract,bsz1] at hz_ ⊢;omega)
                                    replace H:=Option.bind_eq_some_iff.mp H
                                    obtain⟨t245,A400,H⟩:=H
                                    replace H:(if((x4_3++x5_20)++(⟨#[32]⟩:ByteArray)).size+t245.size≤9223372036854775807 then(if(((x4_3++x5_20)++(⟨#[32]⟩:ByteArray))++t245).size+1≤9223372036854775807 then((spec_l20Unit.f kj33 (⟨#[115]⟩:ByteArray) a0_3).bind fun t246=>(if((((x4_3++x5_20)++(⟨#[32]⟩:ByteArray))++t245)++(⟨#[42]⟩:ByteArray)).size+t246.size≤9223372036854775807 then(some (((((x4_3++x5_20)++(⟨#[32]⟩:ByteArray))++t245)++(⟨#[42]⟩:ByteArray))++t246)) else(none))) else(none)) else(none))=some r:=H
                                    have A40:=Aside0.mk A400
                                    clear A400
                                    by_cases c41:((x4_3++x5_20)++(⟨#[32]⟩:ByteArray)).size+t245.size≤9223372036854775807
                                    · rw [if_pos c41] at H
                                      have c41b0:=eq_true c41
                                      have c41b1:decide (((x4_3++x5_20)++(⟨#[32]⟩:ByteArray)).size+t245.size≤9223372036854775807)=true:=decide_eq_true c41
                                      try have c41b2:(9223372036854775807<((x4_3++x5_20)++(⟨#[32]⟩:ByteArray)).size+t245.size)=False:=eq_false (Nat.not_lt.2 c41)
                                      try have c41b3:(9223372036854775807<x4_3.size+x5_20.size+1+t245.size)=False:=eq_false (by(try have:=of_eq_true c39b0);(try have:=of_eq_true c41b0);have hz_:=c41;simp only[ByteArray.size_append,ByteArray.size_extract,bsz1] at hz_ ⊢;omega)
                                      by_cases c42:(((x4_3++x5_20)++(⟨#[32]⟩:ByteArray))++t245).size+1≤9223372036854775807
                                      · rw [if_pos c42] at H
                                        have c42b0:=eq_true c42
                                        have c42b1:decide ((((x4_3++x5_20)++(⟨#[32]⟩:ByteArray))++t245).size+1≤9223372036854775807)=true:=decide_eq_true c42
                                        try have c42b2:(9223372036854775807<(((x4_3++x5_20)++(⟨#[32]⟩:ByteArray))++t245).size+1)=False:=eq_false (Nat.not_lt.2 c42)
                                        try have c42b3:(9223372036854775807<x4_3.size+x5_20.size+1+t245.size+1)=False:=eq_false (by(try have:=of_eq_true c39b0);(try have:=of_eq_true c41b0);(try have:=of_eq_true c42b0);have hz_:=c42;simp only[ByteArray.size_append,ByteArray.size_extract,bsz1] at hz_ ⊢;omega)
                                        replace H:=Option.bind_eq_some_iff.mp H
                                        obtain⟨t246,A430,H⟩:=H
                                        replace H:(if((((x4_3++x5_20)++(⟨#[32]⟩:ByteArray))++t245)++(⟨#[42]⟩:ByteArray)).size+t246.size≤9223372036854775807 then(some (((((x4_3++x5_20)++(⟨#[32]⟩:ByteArray))++t245)++(⟨#[42]⟩:ByteArray))++t246)) else(none))=some r:=H
                                        have A43:=Aside0.mk A430
                                        clear A430
                                        by_cases c44:((((x4_3++x5_20)++(⟨#[32]⟩:ByteArray))++t245)++(⟨#[42]⟩:ByteArray)).size+t246.size≤9223372036854775807
                                        · rw[if_pos c44] at H
                                          have c44b0:=eq_true c44
                                          have c44b1:decide (((((x4_3++x5_20)++(⟨#[32]⟩:ByteArray))++t245)++(⟨#[42]⟩:ByteArray)).size+t246.size≤9223372036854775807)=true:=decide_eq_true c44
                                          try have c44b2:(9223372036854775807<((((x4_3++x5_20)++(⟨#[32]⟩:ByteArray))++t245)++(⟨#[42]⟩:ByteArray)).size+t246.size)=False:=eq_false (Nat.not_lt.2 c44)
                                          try have c44b3:(9223372036854775807<x4_3.size+x5_20.size+1+t245.size+1+t246.size)=False:=eq_false (by(try have:=of_eq_true c39b0);(try have:=of_eq_true c41b0);(try have:=of_eq_true c42b0);(try have:=of_eq_true c44b0);have hz_:=c44;simp only[ByteArray.size_append,ByteArray.size_extract,bsz1] at hz_ ⊢;omega)
                                          obtain rfl:=Option.some.inj H
                                          try go_wp2
                                          have n0_:=Aside0.mk (blk_drew BK242.out)
                                          have n1_:=Aside0.mk (below_drew1 HB.out)
                                          clear BK242
                                          clear HB
                                          have BK242:=n0_
                                          have HB:=n1_
                                          clear n0_ n1_
                                          refine start_ (n:=12) (S:=fun w'=>w'.cell? ⟨gb242,0,none⟩=some (.int .i64 a0_0)∧w'.cell? ⟨gb242,1,none⟩=some (.int .i64 a0_1)∧w'.cell? ⟨gb242,2,none⟩=some (.int .i64 a0_2)∧w'.cell? ⟨gb242,3,none⟩=some (.int .i64 a0_3)) (ds:=[]) #[false,false,false,false,false,false,false,false,false,false,false,false] (by kernel_rfl) rfl rfl ⟨(blk_cell BK242.out 0).trans rfl,(blk_cell BK242.out 1).trans rfl,(blk_cell BK242.out 2).trans rfl,(blk_cell BK242.out 3).trans rfl⟩ (fun hHeld=> ?_);refine with_tabW spec_ShowQty.tab22 spec_ShowQty.bits22 (fun HT_ HW_=> ?_)
                                          generalize wc.drew=w45 at BK242 HB hHeld ⊢
                                          refine pure_ (i:=0) (N:=some 66) (v:= ?_) (a':= ?_) #[true,false,false,false,false,false,false,false,false,false,false,false] rfl rfl (any_of HT_.out (by kernel_rfl)) (fun _ _ _ h=>h) (Or.inl ⟨by rfl,?_⟩) ?_ ?_
                                          rotate_left
                                          · intro w'
                                            go_simp
                                            with_reducible rfl
                                          rotate_left
                                          · simp only[Act.put,List.setIfInBounds_toArray,List.set_cons_zero,List.set_cons_succ,i64_w,i32_w]
                                            rfl
                                          refine pure_ (i:=1) (N:=some 67) (v:= ?_) (a':= ?_) #[true,true,false,false,false,false,false,false,false,false,false,false] rfl rfl (any_of HT_.out (by kernel_rfl)) (fun _ _ _ h=>h) (Or.inl ⟨by rfl,?_⟩) ?_ ?_
                                          rotate_left
                                          · intro w'
                                            go_simp
                                            with_reducible rfl
                                          rotate_left
                                          · simp only[Act.put,List.setIfInBounds_toArray,List.set_cons_zero,List.set_cons_succ,i64_w,i32_w]
                                            rfl
                                          refine pure_ (i:=2) (N:=some 68) (v:= ?_) (a':= ?_) #[true,true,true,false,false,false,false,false,false,false,false,false] rfl rfl (any_of HT_.out (by kernel_rfl)) (fun _ _ _ h=>h) (Or.inl ⟨by rfl,?_⟩) ?_ ?_
                                          rotate_left
                                          · intro w'
                                            go_simp
                                            with_reducible rfl
                                          rotate_left
                                          · simp only[Act.put,List.setIfInBounds_toArray,List.set_cons_zero,List.set_cons_succ,i64_w,i32_w]
                                            rfl
                                          refine pure_ (i:=7) (N:=some 73) (v:= ?_) (a':= ?_) #[true,true,true,false,false,false,false,true,false,false,false,false] rfl rfl (any_of HT_.out (by kernel_rfl)) (fun _ _ _ h=>h) (Or.inl ⟨by rfl,?_⟩) ?_ ?_
                                          rotate_left
                                          · intro w'
                                            go_simp
                                            with_reducible rfl
                                          rotate_left
                                          · simp only[Act.put,List.setIfInBounds_toArray,List.set_cons_zero,List.set_cons_succ,i64_w,i32_w]
                                            rfl
                                          refine take_ (i:=3) (N:=some 69) (v:= ?_) (a':= ?_) #[true,true,true,true,false,false,false,true,false,false,false,false] rfl rfl (take_ofW HT_.out HW_.out (by kernel_rfl)) (fun _ _ _ h=>h) (Or.inl ⟨by rfl,?_⟩) hHeld ?_ ?_
                                          rotate_left
                                          · rintro w' ⟨s0,s1,s2,s3⟩
                                            go_simp
                                            with_reducible rfl
                                          rotate_left
                                          · simp only[Act.put,List.setIfInBounds_toArray,List.set_cons_zero,List.set_cons_succ,i64_w,i32_w]
                                            rfl
                                          refine take_ (i:=8) (N:=some 74) (v:= ?_) (a':= ?_) #[true,true,true,true,false,false,false,true,true,false,false,false] rfl rfl (take_ofW HT_.out HW_.out (by kernel_rfl)) (fun _ _ _ h=>h) (Or.inl ⟨by rfl,?_⟩) hHeld ?_ ?_
                                          rotate_left
                                          · rintro w' ⟨s0,s1,s2,s3⟩
                                            go_simp
                                            with_reducible rfl
                                          rotate_left
                                          · simp only[Act.put,List.setIfInBounds_toArray,List.set_cons_zero,List.set_cons_succ,i64_w,i32_w]
                                            rfl
                                          refine one_ (i:=4) (N:=some 70) #[true,true,true,true,true,false,false,true,true,false,false,false] rfl rfl (one_of HT_.out (by kernel_rfl)) (by decide) (fun K hK=> ?_)
                                          refine goes_ Tryz.func21 (by kernel_rfl) rfl #[.string (⟨#[86]⟩:ByteArray), .int .i64 a0_2] (by rfl) rfl rfl (by(try simp only[List.map_toArray,List.map_cons,List.map_nil]);first|done|rfl|(simp only[List.length_drop,List.length_take];rfl)) ?_
                                          with_reducible refine(spec_l20Unit.calls kj33 (⟨#[86]⟩:ByteArray) a0_2 t245 _ A40.out).mono ?_
                                          rintro e w46 ⟨rfl,hb⟩
                                          refine⟨_,rfl,?_⟩
                                          have n0_:=Aside0.mk (blk_below (g:=gb242) (o:= .cells #[.int .i64 a0_0, .int .i64 a0_1, .int .i64 a0_2, .int .i64 a0_3] 25 (0,0)) (by(with_reducible repeat(first|refine blk_drewN ?_ _|refine blk_drew ?_|refine blk_alloc ?_ _));exact BK242.out) hb)
                                          have n1_:=Aside0.mk (below_step (by repeat(first|(with_reducible first|exact HB.out|apply below_alloc|apply pw_below_drewN|apply below_drew1|refine below_set ?_ GE242.out)|exact HB.out)) hb)
                                          clear BK242
                                          clear HB
                                          have BK242:=n0_
                                          have HB:=n1_
                                          clear n0_ n1_
                                          (try clear hb)
                                          (try clear hb2)
                                          (try clear hk)
                                          (try clear hi)
                                          refine hK.out _ _ ⟨(blk_cell BK242.out 0).trans rfl,(blk_cell BK242.out 1).trans rfl,(blk_cell BK242.out 2).trans rfl,(blk_cell BK242.out 3).trans rfl⟩ (fun hHeld=> ?_)
                                          clear hK K
                                          refine norm_ (a':= ?_) ?_ ?_
                                          rotate_left
                                          · show Act.put _ (some 70) _=_
                                            simp only[Act.put,List.setIfInBounds_toArray,List.set_cons_zero,List.set_cons_succ,i64_w,i32_w]
                                            rfl
                                          refine pure_ (i:=5) (N:=some 71) (v:= ?_) (a':= ?_) #[true,true,true,true,true,true,false,true,true,false,false,false] rfl rfl (any_of HT_.out (by kernel_rfl)) (fun _ _ _ h=>h) (Or.inl ⟨by rfl,?_⟩) ?_ ?_
                                          rotate_left
                                          · intro w'
                                            go_simp
                                            with_reducible rfl
                                          rotate_left
                                          · simp only[Act.put,List.setIfInBounds_toArray,List.set_cons_zero,List.set_cons_succ,i64_w,i32_w]
                                            rfl
                                          refine pure_ (i:=6) (N:=some 72) (v:= ?_) (a':= ?_) #[true,true,true,true,true,true,true,true,true,false,false,false] rfl rfl (any_of HT_.out (by kernel_rfl)) (fun _ _ _ h=>h) (Or.inl ⟨by rfl,?_⟩) ?_ ?_
                                          rotate_left
                                          · intro w'
                                            go_simp
                                            with_reducible rfl
                                          rotate_left
                                          · simp only[Act.put,List.setIfInBounds_toArray,List.set_cons_zero,List.set_cons_succ,i64_w,i32_w]
                                            rfl
                                          refine one_ (i:=9) (N:=some 75) #[true,true,true,true,true,true,true,true,true,true,false,false] rfl rfl (one_of HT_.out (by kernel_rfl)) (by decide) (fun K hK=> ?_)
                                          refine goes_ Tryz.func21 (by kernel_rfl) rfl #[.string (⟨#[115]⟩:ByteArray), .int .i64 a0_3] (by rfl) rfl rfl (by(try simp only[List.map_toArray,List.map_cons,List.map_nil]);first|done|rfl|(simp only[List.length_drop,List.length_take];rfl)) ?_
                                          with_reducible refine(spec_l20Unit.calls kj33 (⟨#[115]⟩:ByteArray) a0_3 t246 _ A43.out).mono ?_
                                          rintro e w47 ⟨rfl,hb⟩
                                          refine⟨_,rfl,?_⟩
                                          have n0_:=Aside0.mk (blk_below (g:=gb242) (o:= .cells #[.int .i64 a0_0, .int .i64 a0_1, .int .i64 a0_2, .int .i64 a0_3] 25 (0,0)) (by(with_reducible repeat(first|refine blk_drewN ?_ _|refine blk_drew ?_|refine blk_alloc ?_ _));exact BK242.out) hb)
                                          have n1_:=Aside0.mk (below_step (by repeat(first|(with_reducible first|exact HB.out|apply below_alloc|apply pw_below_drewN|apply below_drew1|refine below_set ?_ GE242.out)|exact HB.out)) hb)
                                          clear BK242
                                          clear HB
                                          have BK242:=n0_
                                          have HB:=n1_
                                          clear n0_ n1_
                                          (try clear hb)
                                          (try clear hb2)
                                          (try clear hk)
                                          (try clear hi)
                                          refine hK.out _ _ ⟨(blk_cell BK242.out 0).trans rfl,(blk_cell BK242.out 1).trans rfl,(blk_cell BK242.out 2).trans rfl,(blk_cell BK242.out 3).trans rfl⟩ (fun hHeld=> ?_)
                                          clear hK K
                                          refine norm_ (a':= ?_) ?_ ?_
                                          rotate_left
                                          · show Act.put _ (some 75) _=_
                                            simp only[Act.put,List.setIfInBounds_toArray,List.set_cons_zero,List.set_cons_succ,i64_w,i32_w]
                                            rfl
                                          refine pure_ (i:=10) (N:=some 76) (v:= ?_) (a':= ?_) #[true,true,true,true,true,true,true,true,true,true,true,false] rfl rfl (any_of HT_.out (by kernel_rfl)) (fun _ _ _ h=>h) (Or.inl ⟨by rfl,?_⟩) ?_ ?_
                                          rotate_left
                                          · intro w'
                                            go_simp
                                            with_reducible rfl
                                          rotate_left
                                          · simp only[Act.put,List.setIfInBounds_toArray,List.set_cons_zero,List.set_cons_succ,i64_w,i32_w]
                                            rfl
                                          refine pure_ (i:=11) (N:=some 4) (v:= ?_) (a':= ?_) #[true,true,true,true,true,true,true,true,true,true,true,true] rfl rfl (any_of HT_.out (by kernel_rfl)) (fun _ _ _ h=>h) (Or.inl ⟨by rfl,?_⟩) ?_ ?_
                                          rotate_left
                                          · intro w'
                                            go_simp
                                            with_reducible rfl
                                          rotate_left
                                          · simp only[Act.put,List.setIfInBounds_toArray,List.set_cons_zero,List.set_cons_succ,i64_w,i32_w]
                                            rfl
                                          refine done_ (done_of HT_.out (by kernel_rfl)) ?_
                                          try go_wp2
                                          go_ret
                                          exact⟨by first|rfl|(simp[errW_none,errW_some]<;>rfl)|(simp[*,errW_none,errW_some]<;>rfl),by repeat(first|(with_reducible first|exact HB.out|apply below_alloc|apply pw_below_drewN|apply below_drew1|refine below_set ?_ GE242.out)|exact HB.out)⟩
                                        · rw[if_neg c44] at H
                                          exact absurd H (by simp)
                                      · rw[if_neg c42] at H
                                        exact absurd H (by simp)
                                    · rw[if_neg c41] at H
                                      exact absurd H (by simp)
                                  · rw[if_neg c39] at H
                                    exact absurd H (by simp)
                                · replace c38:=Bool.eq_false_iff.mpr c38
                                  subst c38
                                  have H1:(if a0_2=0 then(if a0_3=0 then(some (x4_3++x5_20)) else(if(x4_3++x5_20).size+1≤9223372036854775807 then((spec_l20Unit.f kj33 (⟨#[115]⟩:ByteArray) a0_3).bind fun t247=>(if((x4_3++x5_20)++(⟨#[32]⟩:ByteArray)).size+t247.size≤9223372036854775807 then(some (((x4_3++x5_20)++(⟨#[32]⟩:ByteArray))++t247)) else(none))) else(none))) else(if(x4_3++x5_20).size+1≤9223372036854775807 then((spec_l20Unit.f kj33 (⟨#[86]⟩:ByteArray) a0_2).bind fun t248=>(if((x4_3++x5_20)++(⟨#[32]⟩:ByteArray)).size+t248.size≤9223372036854775807 then(some (((x4_3++x5_20)++(⟨#[32]⟩:ByteArray))++t248)) else(none))) else(none)))=some r:=by rw[if_neg (show ¬(false=true) by decide)] at H;exact H
                                  clear H
                                  have H:=H1
                                  clear H1
                                  by_cases c48:a0_2=0
                                  · rw [if_pos c48] at H
                                    have c48b0:(a0_2==0)=true:=beq_iff_eq.mpr c48
                                    have c48b1:(a0_2 != 0)=false:=bne_eq_false_iff_eq.mpr c48
                                    clear c48
                                    by_cases c49:a0_3=0
                                    · rw[if_pos c49] at H
                                      have c49b0:(a0_3==0)=true:=beq_iff_eq.mpr c49
                                      have c49b1:(a0_3 != 0)=false:=bne_eq_false_iff_eq.mpr c49
                                      clear c49
                                      obtain rfl:=Option.some.inj H
                                      have hcz50_0:wc.cell? ⟨gb242,0,none⟩=some (.int .i64 a0_0):=(blk_cell BK242.out 0).trans rfl
                                      have hcz50_1:wc.cell? ⟨gb242,1,none⟩=some (.int .i64 a0_1):=(blk_cell BK242.out 1).trans rfl
                                      have hcz50_2:wc.cell? ⟨gb242,2,none⟩=some (.int .i64 a0_2):=(blk_cell BK242.out 2).trans rfl
                                      have hcz50_3:wc.cell? ⟨gb242,3,none⟩=some (.int .i64 a0_3):=(blk_cell BK242.out 3).trans rfl
                                      have hfz50_0:=blk_frozen BK242.out 0
                                      have hfz50_1:=blk_frozen BK242.out 1
                                      have hfz50_2:=blk_frozen BK242.out 2
                                      have hfz50_3:=blk_frozen BK242.out 3
                                      go_wp2
                                      go_ret
                                      exact⟨by first|rfl|(simp[errW_none,errW_some]<;>rfl)|(simp[*,errW_none,errW_some]<;>rfl),by repeat(first|(with_reducible first|exact HB.out|apply below_alloc|apply pw_below_drewN|apply below_drew1|refine below_set ?_ GE242.out)|exact HB.out)⟩
                                    · rw [if_neg c49] at H
                                      have c49b0:(a0_3==0)=false:=beq_eq_false_iff_ne.mpr c49
                                      have c49b1:(a0_3 != 0)=true:=bne_iff_ne.mpr c49
                                      by_cases c51:(x4_3++x5_20).size+1≤9223372036854775807
                                      · rw[if_pos c51] at H
                                        have c51b0:=eq_true c51
                                        have c51b1:decide ((x4_3++x5_20).size+1≤9223372036854775807)=true:=decide_eq_true c51
                                        try have c51b2:(9223372036854775807<(x4_3++x5_20).size+1)=False:=eq_false (Nat.not_lt.2 c51)
                                        try have c51b3:(9223372036854775807<x4_3.size+x5_20.size+1)=False:=eq_false (by(try have:=of_eq_true c51b0);have hz_:=c51;simp only[ByteArray.size_append,ByteArray.size_extract,bsz1] at hz_ ⊢;omega)
                                        replace H:=Option.bind_eq_some_iff.mp H
                                        obtain⟨t247,A520,H⟩:=H
                                        replace H:(if((x4_3++x5_20)++(⟨#[32]⟩:ByteArray)).size+t247.size≤9223372036854775807 then(some (((x4_3++x5_20)++(⟨#[32]⟩:ByteArray))++t247)) else(none))=some r:=H
                                        have A52:=Aside0.mk A520
                                        clear A520
                                        by_cases c53:((x4_3++x5_20)++(⟨#[32]⟩:ByteArray)).size+t247.size≤9223372036854775807
                                        · rw[if_pos c53] at H
                                          have c53b0:=eq_true c53
                                          have c53b1:decide (((x4_3++x5_20)++(⟨#[32]⟩:ByteArray)).size+t247.size≤9223372036854775807)=true:=decide_eq_true c53
                                          try have c53b2:(9223372036854775807<((x4_3++x5_20)++(⟨#[32]⟩:ByteArray)).size+t247.size)=False:=eq_false (Nat.not_lt.2 c53)
                                          try have c53b3:(9223372036854775807<x4_3.size+x5_20.size+1+t247.size)=False:=eq_false (by(try have:=of_eq_true c51b0);(try have:=of_eq_true c53b0);have hz_:=c53;simp only[ByteArray.size_append,ByteArray.size_extract,bsz1] at hz_ ⊢;omega)
                                          obtain rfl:=Option.some.inj H
                                          have hcz54_0:wc.cell? ⟨gb242,0,none⟩=some (.int .i64 a0_0):=(blk_cell BK242.out 0).trans rfl
                                          have hcz54_1:wc.cell? ⟨gb242,1,none⟩=some (.int .i64 a0_1):=(blk_cell BK242.out 1).trans rfl
                                          have hcz54_2:wc.cell? ⟨gb242,2,none⟩=some (.int .i64 a0_2):=(blk_cell BK242.out 2).trans rfl
                                          have hcz54_3:wc.cell? ⟨gb242,3,none⟩=some (.int .i64 a0_3):=(blk_cell BK242.out 3).trans rfl
                                          have hfz54_0:=blk_frozen BK242.out 0
                                          have hfz54_1:=blk_frozen BK242.out 1
                                          have hfz54_2:=blk_frozen BK242.out 2
                                          have hfz54_3:=blk_frozen BK242.out 3
                                          go_wp2_with (first|((with_reducible refine gate_callee (f:=21) rfl ?_);refine goesL_ (some 95) rfl rfl Tryz.func21 (by kernel_rfl) rfl #[.string (⟨#[115]⟩:ByteArray), .int .i64 a0_3] rfl (by(try simp only[List.map_toArray,List.map_cons,List.map_nil]);first|done|rfl|(simp only[List.length_drop,List.length_take];rfl)) ?_;(with_reducible refine(spec_l20Unit.calls kj33 (⟨#[115]⟩:ByteArray) a0_3 t247 _ A52.out).mono ?_);rintro e w55 ⟨rfl,hb⟩;refine⟨_,rfl,?_⟩;have n0_:=Aside0.mk (blk_below (g:=gb242) (o:= .cells #[.int .i64 a0_0, .int .i64 a0_1, .int .i64 a0_2, .int .i64 a0_3] 25 (0,0)) (by(with_reducible repeat(first|refine blk_drewN ?_ _|refine blk_drew ?_|refine blk_alloc ?_ _));exact BK242.out) hb);have n1_:=Aside0.mk (below_step (by repeat(first|(with_reducible first|exact HB.out|apply below_alloc|apply pw_below_drewN|apply below_drew1|refine below_set ?_ GE242.out)|exact HB.out)) hb);clear BK242;clear HB;have BK242:=n0_;have HB:=n1_;clear n0_ n1_;(try clear hb);(try clear hb2);(try clear hk);(try clear hi)))
                                          go_ret
                                          exact⟨by first|rfl|(simp[errW_none,errW_some]<;>rfl)|(simp[*,errW_none,errW_some]<;>rfl),by repeat(first|(with_reducible first|exact HB.out|apply below_alloc|apply pw_below_drewN|apply below_drew1|refine below_set ?_ GE242.out)|exact HB.out)⟩
                                        · rw[if_neg c53] at H
                                          exact absurd H (by simp)
                                      · rw[if_neg c51] at H
                                        exact absurd H (by simp)
                                  · rw [if_neg c48] at H
                                    have c48b0:(a0_2==0)=false:=beq_eq_false_iff_ne.mpr c48
                                    have c48b1:(a0_2 != 0)=true:=bne_iff_ne.mpr c48
                                    by_cases c56:(x4_3++x5_20).size+1≤9223372036854775807
                                    · rw[if_pos c56] at H
                                      have c56b0:=eq_true c56
                                      have c56b1:decide ((x4_3++x5_20).size+1≤9223372036854775807)=true:=decide_eq_true c56
                                      try have c56b2:(9223372036854775807<(x4_3++x5_20).size+1)=False:=eq_false (Nat.not_lt.2 c56)
                                      try have c56b3:(9223372036854775807<x4_3.size+x5_20.size+1)=False:=eq_false (by(try have:=of_eq_true c51b0);(try have:=of_eq_true c53b0);(try have:=of_eq_true c56b0);have hz_:=c56;simp only[ByteArray.size_append,ByteArray.size_extract,bsz1] at hz_ ⊢;omega)
                                      replace H:=Option.bind_eq_some_iff.mp H
                                      obtain⟨t248,A570,H⟩:=H
                                      replace H:(if((x4_3++x5_20)++(⟨#[32]⟩:ByteArray)).size+t248.size≤9223372036854775807 then(some (((x4_3++x5_20)++(⟨#[32]⟩:ByteArray))++t248)) else(none))=some r:=H
                                      have A57:=Aside0.mk A570
                                      clear A570
                                      by_cases c58:((x4_3++x5_20)++(⟨#[32]⟩:ByteArray)).size+t248.size≤9223372036854775807
                                      · rw[if_pos c58] at H
                                        have c58b0:=eq_true c58
                                        have c58b1:decide (((x4_3++x5_20)++(⟨#[32]⟩:ByteArray)).size+t248.size≤9223372036854775807)=true:=decide_eq_true c58
                                        try have c58b2:(9223372036854775807<((x4_3++x5_20)++(⟨#[32]⟩:ByteArray)).size+t248.size)=False:=eq_false (Nat.not_lt.2 c58)
                                        try have c58b3:(9223372036854775807<x4_3.size+x5_20.size+1+t248.size)=False:=eq_false (by(try have:=of_eq_true c51b0);(try have:=of_eq_true c53b0);(try have:=of_eq_true c56b0);(try have:=of_eq_true c58b0);have hz_:=c58;simp only[ByteArray.size_append,ByteArray.size_extract,bsz1] at hz_ ⊢;omega)
                                        obtain rfl:=Option.some.inj H
                                        have hcz59_0:wc.cell? ⟨gb242,0,none⟩=some (.int .i64 a0_0):=(blk_cell BK242.out 0).trans rfl
                                        have hcz59_1:wc.cell? ⟨gb242,1,none⟩=some (.int .i64 a0_1):=(blk_cell BK242.out 1).trans rfl
                                        have hcz59_2:wc.cell? ⟨gb242,2,none⟩=some (.int .i64 a0_2):=(blk_cell BK242.out 2).trans rfl
                                        have hcz59_3:wc.cell? ⟨gb242,3,none⟩=some (.int .i64 a0_3):=(blk_cell BK242.out 3).trans rfl
                                        have hfz59_0:=blk_frozen BK242.out 0
                                        have hfz59_1:=blk_frozen BK242.out 1
                                        have hfz59_2:=blk_frozen BK242.out 2
                                        have hfz59_3:=blk_frozen BK242.out 3
                                        go_wp2_with (first|((with_reducible refine gate_callee (f:=21) rfl ?_);refine goesL_ (some 85) rfl rfl Tryz.func21 (by kernel_rfl) rfl #[.string (⟨#[86]⟩:ByteArray), .int .i64 a0_2] rfl (by(try simp only[List.map_toArray,List.map_cons,List.map_nil]);first|done|rfl|(simp only[List.length_drop,List.length_take];rfl)) ?_;(with_reducible refine(spec_l20Unit.calls kj33 (⟨#[86]⟩:ByteArray) a0_2 t248 _ A57.out).mono ?_);rintro e w60 ⟨rfl,hb⟩;refine⟨_,rfl,?_⟩;have n0_:=Aside0.mk (blk_below (g:=gb242) (o:= .cells #[.int .i64 a0_0, .int .i64 a0_1, .int .i64 a0_2, .int .i64 a0_3] 25 (0,0)) (by(with_reducible repeat(first|refine blk_drewN ?_ _|refine blk_drew ?_|refine blk_alloc ?_ _));exact BK242.out) hb);have n1_:=Aside0.mk (below_step (by repeat(first|(with_reducible first|exact HB.out|apply below_alloc|apply pw_below_drewN|apply below_drew1|refine below_set ?_ GE242.out)|exact HB.out)) hb);clear BK242;clear HB;have BK242:=n0_;have HB:=n1_;clear n0_ n1_;(try clear hb);(try clear hb2);(try clear hk);(try clear hi)))
                                        go_ret
                                        exact⟨by first|rfl|(simp[errW_none,errW_some]<;>rfl)|(simp[*,errW_none,errW_some]<;>rfl),by repeat(first|(with_reducible first|exact HB.out|apply below_alloc|apply pw_below_drewN|apply below_drew1|refine below_set ?_ GE242.out)|exact HB.out)⟩
                                      · rw[if_neg c58] at H
                                        exact absurd H (by simp)
                                    · rw[if_neg c56] at H
                                      exact absurd H (by simp)
                          · rw[if_neg c33] at H
                            exact absurd H (by simp)
  · replace c3:=Bool.eq_false_iff.mpr c3
    subst c3
    have H1:(some (⟨#[]⟩:ByteArray))=some r:=by rw[if_neg (show ¬(false=true) by decide)] at H;exact H
    clear H
    have H:=H1
    clear H1
    obtain rfl:=Option.some.inj H
    go_enter Tryz.func7,Tryz.ntmps7
    go_wp2_with (first|((with_reducible refine gate_dst (N:=1) rfl ?_);refine box_event ?hg (N:=1) ?hd (cs:= #[.int .i64 a0_0, .int .i64 a0_1, .int .i64 a0_2, .int .i64 a0_3]) (t:=25) ?hr ?_;(case hd=>rfl);(case hg=>rfl);(case hr=>first|(go_simp;done)|(go_simp;rfl));intro gb242 hg w61 hbox hb;have n0_:=Aside0.mk (below_step (by repeat(first|(with_reducible first|exact HB.out|apply below_alloc|apply pw_below_drewN|apply below_drew1)|exact HB.out)) hb);have n1_:=Aside0.mk (hbox);have n2_:=Aside0.mk ((by rw[hg];exact(below_size (by repeat(first|(with_reducible first|exact HB.out|apply below_alloc|apply pw_below_drewN|apply below_drew1)|exact HB.out))):w.heap.size≤gb242));have n3_:=Aside0.mk ((by rw[hg];exact(below_size (by repeat(first|(with_reducible first|exact HB.out|apply below_alloc|apply pw_below_drewN|apply below_drew1)|exact HB.out))):w.heap.size≤gb242));clear HB;have HB:=n0_;have BK242:=n1_;have GW242:=n2_;have GE242:=n3_;clear n0_ n1_ n2_ n3_;clear hb hbox hg;have hcz62_0:w61.cell? ⟨gb242,0,none⟩=some (.int .i64 a0_0):=(blk_cell BK242.out 0).trans rfl;have hcz62_1:w61.cell? ⟨gb242,1,none⟩=some (.int .i64 a0_1):=(blk_cell BK242.out 1).trans rfl;have hcz62_2:w61.cell? ⟨gb242,2,none⟩=some (.int .i64 a0_2):=(blk_cell BK242.out 2).trans rfl;have hcz62_3:w61.cell? ⟨gb242,3,none⟩=some (.int .i64 a0_3):=(blk_cell BK242.out 3).trans rfl;have hfz62_0:=blk_frozen BK242.out 0;have hfz62_1:=blk_frozen BK242.out 1;have hfz62_2:=blk_frozen BK242.out 2;have hfz62_3:=blk_frozen BK242.out 3)|((with_reducible refine gate_callee (f:=19) rfl ?_);refine goesL_ (some 9) rfl rfl Tryz.func19 (by kernel_rfl) rfl #[.agg #[.int .i64 a0_0, .int .i64 a0_1, .int .i64 a0_2, .int .i64 a0_3]] rfl (by(try simp only[List.map_toArray,List.map_cons,List.map_nil]);first|done|rfl|(simp only[List.length_drop,List.length_take];rfl)) ?_;(with_reducible refine(spec_QtyOk.calls k a0_0 a0_1 a0_2 a0_3 false _ A2.out).mono ?_);rintro e w63 ⟨rfl,hb⟩;refine⟨_,rfl,?_⟩;have n0_:=Aside0.mk (blk_below (g:=gb242) (o:= .cells #[.int .i64 a0_0, .int .i64 a0_1, .int .i64 a0_2, .int .i64 a0_3] 25 (0,0)) (by(with_reducible repeat(first|refine blk_drewN ?_ _|refine blk_drew ?_|refine blk_alloc ?_ _));exact BK242.out) hb);have n1_:=Aside0.mk (below_step (by repeat(first|(with_reducible first|exact HB.out|apply below_alloc|apply pw_below_drewN|apply below_drew1|refine below_set ?_ GE242.out)|exact HB.out)) hb);clear BK242;clear HB;have BK242:=n0_;have HB:=n1_;clear n0_ n1_;(try clear hb);(try clear hb2);(try clear hk);(try clear hi)))
    go_ret
    exact⟨by first|rfl|(simp[errW_none,errW_some]<;>rfl)|(simp[*,errW_none,errW_some]<;>rfl),by repeat(first|(with_reducible first|exact HB.out|apply below_alloc|apply pw_below_drewN|apply below_drew1|refine below_set ?_ GE242.out)|exact HB.out)⟩

end Go.Proofs.YtanohnlddaneeaaGreatDoor.PFnQtyBack
