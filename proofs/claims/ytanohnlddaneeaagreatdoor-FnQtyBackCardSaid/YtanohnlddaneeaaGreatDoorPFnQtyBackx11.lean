-- Written by a turned copy of the print (see the notes of this repo): plain functions and their walks. Lean checks it.
import Derived.Test.YtanohnlddaneeaaGreatDoorPFnQtyBackx0
import Derived.Test.YtanohnlddaneeaaGreatDoorPFnQtyBackx2
import Derived.Test.YtanohnlddaneeaaGreatDoorPFnQtyBackx3
import Derived.Test.YtanohnlddaneeaaGreatDoorPFnQtyBackx6
import Derived.Test.YtanohnlddaneeaaGreatDoorPFnQtyBackx10
namespace Go.Proofs.YtanohnlddaneeaaGreatDoor.PFnQtyBack
open Go.RowKit Go.Proofs.YtanohnlddaneeaaGreatDoorW.PrintWords Go.Proofs.YtanohnlddaneeaaGreatDoorW.PrintLast Go.Proofs.YtanohnlddaneeaaGreatDoorW.PrintMore
attribute [local go_sem] max2_int min2_int max_two min_two max_three min_three max_four min_four   -- for this text's walks alone
set_option linter.unusedVariables false
set_option linter.unusedSimpArgs false

/-! ### spec_DrawReadQty: function 9 -/
def spec_DrawReadQty.f (k:Nat) (l0:List Int):Option (ByteArray):=(spec_l1New.f k l0).bind fun bt328=>((spec_l20DrawQty.f k bt328.1 bt328.2.1 bt328.2.2).bind fun bt332=>((spec_ShowQty.f k bt332.1 bt332.2.1 bt332.2.2.1 bt332.2.2.2.1).bind fun t338=>((spec_l1Below.f bt328.1 bt332.2.2.2.2.1 bt332.2.2.2.2.2 4).bind fun bt339=>(if bt339.1=0 then((spec_l1Pick.f bt328.1 bt339.2.1 bt339.2.2 (([(⟨#[52,56]⟩:ByteArray),(⟨#[53]⟩:ByteArray),(⟨#[45,51]⟩:ByteArray),(⟨#[48,46,50,53]⟩:ByteArray),(⟨#[49,48,48]⟩:ByteArray)]:List ByteArray))).bind fun bt345=>((spec_l1Pick.f bt328.1 bt345.2.1 bt345.2.2 (([(⟨#[107,72,122]⟩:ByteArray),(⟨#[109,115]⟩:ByteArray),(⟨#[109,86]⟩:ByteArray),(⟨#[194,181,115]⟩:ByteArray),(⟨#[86]⟩:ByteArray),(⟨#[71,72,122]⟩:ByteArray),(⟨#[110,115]⟩:ByteArray),(⟨#[72,122]⟩:ByteArray),(⟨#[77,86]⟩:ByteArray),(⟨#[32,86]⟩:ByteArray),(⟨#[32,115,45,49]⟩:ByteArray),(⟨#[32,86,50,42,115]⟩:ByteArray),(⟨#[32,86,42,115]⟩:ByteArray),(⟨#[32,115,42,86]⟩:ByteArray),(⟨#[32,86,49]⟩:ByteArray),(⟨#[32,86,48]⟩:ByteArray),(⟨#[32,115,49,48]⟩:ByteArray),(⟨#[32]⟩:ByteArray),(⟨#[88]⟩:ByteArray),(⟨#[107,107]⟩:ByteArray)]:List ByteArray))).bind fun bt351=>(if bt345.1.size+bt351.1.size≤9223372036854775807 then(some (bt345.1++bt351.1)) else(none)))) else(if bt339.1=1 then(if(t338.size:Int)>0 then((spec_l1Below.f bt328.1 bt339.2.1 bt339.2.2 (t338.size:Int)).bind fun bt354=>(if 0≤bt354.1 then(if bt354.1≤(t338.size:Int) then((spec_l1Pick.f bt328.1 bt354.2.1 bt354.2.2 (([(⟨#[]⟩:ByteArray),(⟨#[48]⟩:ByteArray),(⟨#[45]⟩:ByteArray),(⟨#[46]⟩:ByteArray),(⟨#[32]⟩:ByteArray),(⟨#[86]⟩:ByteArray),(⟨#[115]⟩:ByteArray),(⟨#[42]⟩:ByteArray)]:List ByteArray))).bind fun bt360=>(if(t338.extract 0 (bt354.1:Int).toNat).size+bt360.1.size≤9223372036854775807 then((spec_l1Below.f bt328.1 bt360.2.1 bt360.2.2 2).bind fun bt363=>(if 0≤(wrap64 (bt354.1+bt363.1)) then(if(wrap64 (bt354.1+bt363.1))≤(t338.size:Int) then(if((t338.extract 0 (bt354.1:Int).toNat)++bt360.1).size+(t338.extract ((wrap64 (bt354.1+bt363.1)):Int).toNat t338.size).size≤9223372036854775807 then(some (((t338.extract 0 (bt354.1:Int).toNat)++bt360.1)++(t338.extract ((wrap64 (bt354.1+bt363.1)):Int).toNat t338.size))) else(none)) else(none)) else(none))) else(none))) else(none)) else(none))) else(some t338)) else(if bt339.1=2 then((spec_l1Pick.f bt328.1 bt339.2.1 bt339.2.2 (([(⟨#[]⟩:ByteArray),(⟨#[45]⟩:ByteArray),(⟨#[48]⟩:ByteArray),(⟨#[45,48]⟩:ByteArray),(⟨#[48,48]⟩:ByteArray),(⟨#[49,46]⟩:ByteArray),(⟨#[46,53]⟩:ByteArray),(⟨#[49,46,53,48]⟩:ByteArray),(⟨#[49,50,51,52,53,54,55,56,57]⟩:ByteArray),(⟨#[49,50,51,52,53,54,55,56,57,48]⟩:ByteArray),(⟨#[48,46,49,50,51,52,53,54,55,56]⟩:ByteArray),(⟨#[48,46,49,50,51,52,53,54,55,56,57]⟩:ByteArray),(⟨#[49,48,48,48,48,48,48,48,48,48]⟩:ByteArray)]:List ByteArray))).bind fun bt369=>(some bt369.1)) else(some t338)))))))
theorem spec_DrawReadQty.mono:∀a0 k,LeO (spec_DrawReadQty.f k a0) (spec_DrawReadQty.f (k+1) a0):=by
  intro a0 k
  unfold spec_DrawReadQty.f
  repeat' first
      |(with_reducible exact spec_ShowQty.mono _ _ _ _ _)
      |(with_reducible exact spec_l1New.mono _ _)
      |(with_reducible exact spec_l20DrawQty.mono _ _ _ _)
      |(with_reducible exact LeO.refl _)
      |(with_reducible exact LeO.none _)
      |(with_reducible refine LeO.ite ?_ ?_)
      |(with_reducible refine LeO.bind ?_ (fun _=> ?_))
      |exact spec_ShowQty.mono _ _ _ _ _
      |exact spec_l1New.mono _ _
      |exact spec_l20DrawQty.mono _ _ _ _
      |exact LeO.none _
      |refine LeO.ite ?_ ?_
      |refine LeO.bind ?_ (fun _=> ?_)
def spec_DrawReadQty.T9:Bool×List (List Nat×List Nat):=(true,[([],[]),([],[]),([0,1],[0,1]),([],[]),([],[]),([3,4],[3,4]),([2,5],[2,5]),([],[]),([],[]),([],[]),([9,5],[9]),([8,10],[8,10]),([7,11],[7,11]),([6,12],[6,12]),([13,10,0,1,2,3,4,5,6,7,8,9,10,11,12,13],[0,7,13])])
def spec_DrawReadQty.B9:List Nat:=[0,0,3,0,0,24,63,0,0,0,568,1848,4024,8191,16383]
theorem spec_DrawReadQty.tab9:rtab .any (opsOf Tryz.f9 9)=spec_DrawReadQty.T9:=by kernel_rfl
theorem spec_DrawReadQty.bits9:waitsOk spec_DrawReadQty.T9.2 spec_DrawReadQty.B9=true:=by kernel_rfl
set_option maxHeartbeats 8000000 in
set_option maxRecDepth 100000 in
theorem spec_DrawReadQty.calls (k:Nat) (A0:Option Addr) (c0:Nat) (l0:List Int) (r:ByteArray) (w:World) (hr0:Kd.C (Kd.int .u8) w A0 l0.length l0) (hc0:l0.length≤c0) (h:spec_DrawReadQty.f k l0=some r):
    Calls Tryz.prog 9 #[.slice A0 l0.length c0] w fun e w'=>e= .returned (.string r)∧Below w.heap.size w w':=by
  have HR0:=Aside0.mk hr0
  have HC0:=Aside0.mk hc0
  clear hr0 hc0
  have HB:=Aside0.mk (Below.refl w.heap.size w)
  have H:((spec_l1New.f k l0).bind fun bt328=>((spec_l20DrawQty.f k bt328.1 bt328.2.1 bt328.2.2).bind fun bt332=>((spec_ShowQty.f k bt332.1 bt332.2.1 bt332.2.2.1 bt332.2.2.2.1).bind fun t338=>((spec_l1Below.f bt328.1 bt332.2.2.2.2.1 bt332.2.2.2.2.2 4).bind fun bt339=>(if bt339.1=0 then((spec_l1Pick.f bt328.1 bt339.2.1 bt339.2.2 (([(⟨#[52,56]⟩:ByteArray),(⟨#[53]⟩:ByteArray),(⟨#[45,51]⟩:ByteArray),(⟨#[48,46,50,53]⟩:ByteArray),(⟨#[49,48,48]⟩:ByteArray)]:List ByteArray))).bind fun bt345=>((spec_l1Pick.f bt328.1 bt345.2.1 bt345.2.2 (([(⟨#[107,72,122]⟩:ByteArray),(⟨#[109,115]⟩:ByteArray),(⟨#[109,86]⟩:ByteArray),(⟨#[194,181,115]⟩:ByteArray),(⟨#[86]⟩:ByteArray),(⟨#[71,72,122]⟩:ByteArray),(⟨#[110,115]⟩:ByteArray),(⟨#[72,122]⟩:ByteArray),(⟨#[77,86]⟩:ByteArray),(⟨#[32,86]⟩:ByteArray),(⟨#[32,115,45,49]⟩:ByteArray),(⟨#[32,86,50,42,115]⟩:ByteArray),(⟨#[32,86,42,115]⟩:ByteArray),(⟨#[32,115,42,86]⟩:ByteArray),(⟨#[32,86,49]⟩:ByteArray),(⟨#[32,86,48]⟩:ByteArray),(⟨#[32,115,49,48]⟩:ByteArray),(⟨#[32]⟩:ByteArray),(⟨#[88]⟩:ByteArray),(⟨#[107,107]⟩:ByteArray)]:List ByteArray))).bind fun bt351=>(if bt345.1.size+bt351.1.size≤9223372036854775807 then(some (bt345.1++bt351.1)) else(none)))) else(if bt339.1=1 then(if(t338.size:Int)>0 then((spec_l1Below.f bt328.1 bt339.2.1 bt339.2.2 (t338.size:Int)).bind fun bt354=>(if 0≤bt354.1 then(if bt354.1≤(t338.size:Int) then((spec_l1Pick.f bt328.1 bt354.2.1 bt354.2.2 (([(⟨#[]⟩:ByteArray),(⟨#[48]⟩:ByteArray),(⟨#[45]⟩:ByteArray),(⟨#[46]⟩:ByteArray),(⟨#[32]⟩:ByteArray),(⟨#[86]⟩:ByteArray),(⟨#[115]⟩:ByteArray),(⟨#[42]⟩:ByteArray)]:List ByteArray))).bind fun bt360=>(if(t338.extract 0 (bt354.1:Int).toNat).size+bt360.1.size≤9223372036854775807 then((spec_l1Below.f bt328.1 bt360.2.1 bt360.2.2 2).bind fun bt363=>(if 0≤(wrap64 (bt354.1+bt363.1)) then(if(wrap64 (bt354.1+bt363.1))≤(t338.size:Int) then(if((t338.extract 0 (bt354.1:Int).toNat)++bt360.1).size+(t338.extract ((wrap64 (bt354.1+bt363.1)):Int).toNat t338.size).size≤9223372036854775807 then(some (((t338.extract 0 (bt354.1:Int).toNat)++bt360.1)++(t338.extract ((wrap64 (bt354.1+bt363.1)):Int).toNat t338.size))) else(none)) else(none)) else(none))) else(none))) else(none)) else(none))) else(some t338)) else(if bt339.1=2 then((spec_l1Pick.f bt328.1 bt339.2.1 bt339.2.2 (([(⟨#[]⟩:ByteArray),(⟨#[45]⟩:ByteArray),(⟨#[48]⟩:ByteArray),(⟨#[45,48]⟩:ByteArray),(⟨#[48,48]⟩:ByteArray),(⟨#[49,46]⟩:ByteArray),(⟨#[46,53]⟩:ByteArray),(⟨#[49,46,53,48]⟩:ByteArray),(⟨#[49,50,51,52,53,54,55,56,57]⟩:ByteArray),(⟨#[49,50,51,52,53,54,55,56,57,48]⟩:ByteArray),(⟨#[48,46,49,50,51,52,53,54,55,56]⟩:ByteArray),(⟨#[48,46,49,50,51,52,53,54,55,56,57]⟩:ByteArray),(⟨#[49,48,48,48,48,48,48,48,48,48]⟩:ByteArray)]:List ByteArray))).bind fun bt369=>(some bt369.1)) else(some t338))))))))=some r:=h
  clear h
  replace H:=Option.bind_eq_some_iff.mp H
  obtain⟨⟨t328,t329,t330⟩,A20,H⟩:=H
  replace H:((spec_l20DrawQty.f k t328 t329 t330).bind fun bt332=>((spec_ShowQty.f k bt332.1 bt332.2.1 bt332.2.2.1 bt332.2.2.2.1).bind fun t338=>((spec_l1Below.f t328 bt332.2.2.2.2.1 bt332.2.2.2.2.2 4).bind fun bt339=>(if bt339.1=0 then((spec_l1Pick.f t328 bt339.2.1 bt339.2.2 (([(⟨#[52,56]⟩:ByteArray),(⟨#[53]⟩:ByteArray),(⟨#[45,51]⟩:ByteArray),(⟨#[48,46,50,53]⟩:ByteArray),(⟨#[49,48,48]⟩:ByteArray)]:List ByteArray))).bind fun bt345=>((spec_l1Pick.f t328 bt345.2.1 bt345.2.2 (([(⟨#[107,72,122]⟩:ByteArray),(⟨#[109,115]⟩:ByteArray),(⟨#[109,86]⟩:ByteArray),(⟨#[194,181,115]⟩:ByteArray),(⟨#[86]⟩:ByteArray),(⟨#[71,72,122]⟩:ByteArray),(⟨#[110,115]⟩:ByteArray),(⟨#[72,122]⟩:ByteArray),(⟨#[77,86]⟩:ByteArray),(⟨#[32,86]⟩:ByteArray),(⟨#[32,115,45,49]⟩:ByteArray),(⟨#[32,86,50,42,115]⟩:ByteArray),(⟨#[32,86,42,115]⟩:ByteArray),(⟨#[32,115,42,86]⟩:ByteArray),(⟨#[32,86,49]⟩:ByteArray),(⟨#[32,86,48]⟩:ByteArray),(⟨#[32,115,49,48]⟩:ByteArray),(⟨#[32]⟩:ByteArray),(⟨#[88]⟩:ByteArray),(⟨#[107,107]⟩:ByteArray)]:List ByteArray))).bind fun bt351=>(if bt345.1.size+bt351.1.size≤9223372036854775807 then(some (bt345.1++bt351.1)) else(none)))) else(if bt339.1=1 then(if(t338.size:Int)>0 then((spec_l1Below.f t328 bt339.2.1 bt339.2.2 (t338.size:Int)).bind fun bt354=>(if 0≤bt354.1 then(if bt354.1≤(t338.size:Int) then((spec_l1Pick.f t328 bt354.2.1 bt354.2.2 (([(⟨#[]⟩:ByteArray),(⟨#[48]⟩:ByteArray),(⟨#[45]⟩:ByteArray),(⟨#[46]⟩:ByteArray),(⟨#[32]⟩:ByteArray),(⟨#[86]⟩:ByteArray),(⟨#[115]⟩:ByteArray),(⟨#[42]⟩:ByteArray)]:List ByteArray))).bind fun bt360=>(if(t338.extract 0 (bt354.1:Int).toNat).size+bt360.1.size≤9223372036854775807 then((spec_l1Below.f t328 bt360.2.1 bt360.2.2 2).bind fun bt363=>(if 0≤(wrap64 (bt354.1+bt363.1)) then(if(wrap64 (bt354.1+bt363.1))≤(t338.size:Int) then(if((t338.extract 0 (bt354.1:Int).toNat)++bt360.1).size+(t338.extract ((wrap64 (bt354.1+bt363.1)):Int).toNat t338.size).size≤9223372036854775807 then(some (((t338.extract 0 (bt354.1:Int).toNat)++bt360.1)++(t338.extract ((wrap64 (bt354.1+bt363.1)):Int).toNat t338.size))) else(none)) else(none)) else(none))) else(none))) else(none)) else(none))) else(some t338)) else(if bt339.1=2 then((spec_l1Pick.f t328 bt339.2.1 bt339.2.2 (([(⟨#[]⟩:ByteArray),(⟨#[45]⟩:ByteArray),(⟨#[48]⟩:ByteArray),(⟨#[45,48]⟩:ByteArray),(⟨#[48,48]⟩:ByteArray),(⟨#[49,46]⟩:ByteArray),(⟨#[46,53]⟩:ByteArray),(⟨#[49,46,53,48]⟩:ByteArray),(⟨#[49,50,51,52,53,54,55,56,57]⟩:ByteArray),(⟨#[49,50,51,52,53,54,55,56,57,48]⟩:ByteArray),(⟨#[48,46,49,50,51,52,53,54,55,56]⟩:ByteArray),(⟨#[48,46,49,50,51,52,53,54,55,56,57]⟩:ByteArray),(⟨#[49,48,48,48,48,48,48,48,48,48]⟩:ByteArray)]:List ByteArray))).bind fun bt369=>(some bt369.1)) else(some t338)))))))=some r:=H
  have A2:=Aside0.mk A20
  clear A20
  replace H:=Option.bind_eq_some_iff.mp H
  obtain⟨⟨t332,t333,t334,t335,t336,t337⟩,A30,H⟩:=H
  replace H:((spec_ShowQty.f k t332 t333 t334 t335).bind fun t338=>((spec_l1Below.f t328 t336 t337 4).bind fun bt339=>(if bt339.1=0 then((spec_l1Pick.f t328 bt339.2.1 bt339.2.2 (([(⟨#[52,56]⟩:ByteArray),(⟨#[53]⟩:ByteArray),(⟨#[45,51]⟩:ByteArray),(⟨#[48,46,50,53]⟩:ByteArray),(⟨#[49,48,48]⟩:ByteArray)]:List ByteArray))).bind fun bt345=>((spec_l1Pick.f t328 bt345.2.1 bt345.2.2 (([(⟨#[107,72,122]⟩:ByteArray),(⟨#[109,115]⟩:ByteArray),(⟨#[109,86]⟩:ByteArray),(⟨#[194,181,115]⟩:ByteArray),(⟨#[86]⟩:ByteArray),(⟨#[71,72,122]⟩:ByteArray),(⟨#[110,115]⟩:ByteArray),(⟨#[72,122]⟩:ByteArray),(⟨#[77,86]⟩:ByteArray),(⟨#[32,86]⟩:ByteArray),(⟨#[32,115,45,49]⟩:ByteArray),(⟨#[32,86,50,42,115]⟩:ByteArray),(⟨#[32,86,42,115]⟩:ByteArray),(⟨#[32,115,42,86]⟩:ByteArray),(⟨#[32,86,49]⟩:ByteArray),(⟨#[32,86,48]⟩:ByteArray),(⟨#[32,115,49,48]⟩:ByteArray),(⟨#[32]⟩:ByteArray),(⟨#[88]⟩:ByteArray),(⟨#[107,107]⟩:ByteArray)]:List ByteArray))).bind fun bt351=>(if bt345.1.size+bt351.1.size≤9223372036854775807 then(some (bt345.1++bt351.1)) else(none)))) else(if bt339.1=1 then(if(t338.size:Int)>0 then((spec_l1Below.f t328 bt339.2.1 bt339.2.2 (t338.size:Int)).bind fun bt354=>(if 0≤bt354.1 then(if bt354.1≤(t338.size:Int) then((spec_l1Pick.f t328 bt354.2.1 bt354.2.2 (([(⟨#[]⟩:ByteArray),(⟨#[48]⟩:ByteArray),(⟨#[45]⟩:ByteArray),(⟨#[46]⟩:ByteArray),(⟨#[32]⟩:ByteArray),(⟨#[86]⟩:ByteArray),(⟨#[115]⟩:ByteArray),(⟨#[42]⟩:ByteArray)]:List ByteArray))).bind fun bt360=>(if(t338.extract 0 (bt354.1:Int).toNat).size+bt360.1.size≤9223372036854775807 then((spec_l1Below.f t328 bt360.2.1 bt360.2.2 2).bind fun bt363=>(if 0≤(wrap64 (bt354.1+bt363.1)) then(if(wrap64 (bt354.1+bt363.1))≤(t338.size:Int) then(if((t338.extract 0 (bt354.1:Int).toNat)++bt360.1).size+(t338.extract ((wrap64 (bt354.1+bt363.1)):Int).toNat t338.size).size≤9223372036854775807 then(some (((t338.extract 0 (bt354.1:Int).toNat)++bt360.1)++(t338.extract ((wrap64 (bt354.1+bt363.1)):Int).toNat t338.size))) else(none)) else(none)) else(none))) else(none))) else(none)) else(none))) else(some t338)) else(if bt339.1=2 then((spec_l1Pick.f t328 bt339.2.1 bt339.2.2 (([(⟨#[]⟩:ByteArray),(⟨#[45]⟩:ByteArray),(⟨#[48]⟩:ByteArray),(⟨#[45,48]⟩:ByteArray),(⟨#[48,48]⟩:ByteArray),(⟨#[49,46]⟩:ByteArray),(⟨#[46,53]⟩:ByteArray),(⟨#[49,46,53,48]⟩:ByteArray),(⟨#[49,50,51,52,53,54,55,56,57]⟩:ByteArray),(⟨#[49,50,51,52,53,54,55,56,57,48]⟩:ByteArray),(⟨#[48,46,49,50,51,52,53,54,55,56]⟩:ByteArray),(⟨#[48,46,49,50,51,52,53,54,55,56,57]⟩:ByteArray),(⟨#[49,48,48,48,48,48,48,48,48,48]⟩:ByteArray)]:List ByteArray))).bind fun bt369=>(some bt369.1)) else(some t338))))))=some r:=H
  have A3:=Aside0.mk A30
  clear A30
  replace H:=Option.bind_eq_some_iff.mp H
  obtain⟨t338,A40,H⟩:=H
  replace H:((spec_l1Below.f t328 t336 t337 4).bind fun bt339=>(if bt339.1=0 then((spec_l1Pick.f t328 bt339.2.1 bt339.2.2 (([(⟨#[52,56]⟩:ByteArray),(⟨#[53]⟩:ByteArray),(⟨#[45,51]⟩:ByteArray),(⟨#[48,46,50,53]⟩:ByteArray),(⟨#[49,48,48]⟩:ByteArray)]:List ByteArray))).bind fun bt345=>((spec_l1Pick.f t328 bt345.2.1 bt345.2.2 (([(⟨#[107,72,122]⟩:ByteArray),(⟨#[109,115]⟩:ByteArray),(⟨#[109,86]⟩:ByteArray),(⟨#[194,181,115]⟩:ByteArray),(⟨#[86]⟩:ByteArray),(⟨#[71,72,122]⟩:ByteArray),(⟨#[110,115]⟩:ByteArray),(⟨#[72,122]⟩:ByteArray),(⟨#[77,86]⟩:ByteArray),(⟨#[32,86]⟩:ByteArray),(⟨#[32,115,45,49]⟩:ByteArray),(⟨#[32,86,50,42,115]⟩:ByteArray),(⟨#[32,86,42,115]⟩:ByteArray),(⟨#[32,115,42,86]⟩:ByteArray),(⟨#[32,86,49]⟩:ByteArray),(⟨#[32,86,48]⟩:ByteArray),(⟨#[32,115,49,48]⟩:ByteArray),(⟨#[32]⟩:ByteArray),(⟨#[88]⟩:ByteArray),(⟨#[107,107]⟩:ByteArray)]:List ByteArray))).bind fun bt351=>(if bt345.1.size+bt351.1.size≤9223372036854775807 then(some (bt345.1++bt351.1)) else(none)))) else(if bt339.1=1 then(if(t338.size:Int)>0 then((spec_l1Below.f t328 bt339.2.1 bt339.2.2 (t338.size:Int)).bind fun bt354=>(if 0≤bt354.1 then(if bt354.1≤(t338.size:Int) then((spec_l1Pick.f t328 bt354.2.1 bt354.2.2 (([(⟨#[]⟩:ByteArray),(⟨#[48]⟩:ByteArray),(⟨#[45]⟩:ByteArray),(⟨#[46]⟩:ByteArray),(⟨#[32]⟩:ByteArray),(⟨#[86]⟩:ByteArray),(⟨#[115]⟩:ByteArray),(⟨#[42]⟩:ByteArray)]:List ByteArray))).bind fun bt360=>(if(t338.extract 0 (bt354.1:Int).toNat).size+bt360.1.size≤9223372036854775807 then((spec_l1Below.f t328 bt360.2.1 bt360.2.2 2).bind fun bt363=>(if 0≤(wrap64 (bt354.1+bt363.1)) then(if(wrap64 (bt354.1+bt363.1))≤(t338.size:Int) then(if((t338.extract 0 (bt354.1:Int).toNat)++bt360.1).size+(t338.extract ((wrap64 (bt354.1+bt363.1)):Int).toNat t338.size).size≤9223372036854775807 then(some (((t338.extract 0 (bt354.1:Int).toNat)++bt360.1)++(t338.extract ((wrap64 (bt354.1+bt363.1)):Int).toNat t338.size))) else(none)) else(none)) else(none))) else(none))) else(none)) else(none))) else(some t338)) else(if bt339.1=2 then((spec_l1Pick.f t328 bt339.2.1 bt339.2.2 (([(⟨#[]⟩:ByteArray),(⟨#[45]⟩:ByteArray),(⟨#[48]⟩:ByteArray),(⟨#[45,48]⟩:ByteArray),(⟨#[48,48]⟩:ByteArray),(⟨#[49,46]⟩:ByteArray),(⟨#[46,53]⟩:ByteArray),(⟨#[49,46,53,48]⟩:ByteArray),(⟨#[49,50,51,52,53,54,55,56,57]⟩:ByteArray),(⟨#[49,50,51,52,53,54,55,56,57,48]⟩:ByteArray),(⟨#[48,46,49,50,51,52,53,54,55,56]⟩:ByteArray),(⟨#[48,46,49,50,51,52,53,54,55,56,57]⟩:ByteArray),(⟨#[49,48,48,48,48,48,48,48,48,48]⟩:ByteArray)]:List ByteArray))).bind fun bt369=>(some bt369.1)) else(some t338)))))=some r:=H
  have A4:=Aside0.mk A40
  clear A40
  replace H:=Option.bind_eq_some_iff.mp H
  obtain⟨⟨t339,t340,t341⟩,A50,H⟩:=H
  replace H:(if t339=0 then((spec_l1Pick.f t328 t340 t341 (([(⟨#[52,56]⟩:ByteArray),(⟨#[53]⟩:ByteArray),(⟨#[45,51]⟩:ByteArray),(⟨#[48,46,50,53]⟩:ByteArray),(⟨#[49,48,48]⟩:ByteArray)]:List ByteArray))).bind fun bt345=>((spec_l1Pick.f t328 bt345.2.1 bt345.2.2 (([(⟨#[107,72,122]⟩:ByteArray),(⟨#[109,115]⟩:ByteArray),(⟨#[109,86]⟩:ByteArray),(⟨#[194,181,115]⟩:ByteArray),(⟨#[86]⟩:ByteArray),(⟨#[71,72,122]⟩:ByteArray),(⟨#[110,115]⟩:ByteArray),(⟨#[72,122]⟩:ByteArray),(⟨#[77,86]⟩:ByteArray),(⟨#[32,86]⟩:ByteArray),(⟨#[32,115,45,49]⟩:ByteArray),(⟨#[32,86,50,42,115]⟩:ByteArray),(⟨#[32,86,42,115]⟩:ByteArray),(⟨#[32,115,42,86]⟩:ByteArray),(⟨#[32,86,49]⟩:ByteArray),(⟨#[32,86,48]⟩:ByteArray),(⟨#[32,115,49,48]⟩:ByteArray),(⟨#[32]⟩:ByteArray),(⟨#[88]⟩:ByteArray),(⟨#[107,107]⟩:ByteArray)]:List ByteArray))).bind fun bt351=>(if bt345.1.size+bt351.1.size≤9223372036854775807 then(some (bt345.1++bt351.1)) else(none)))) else(if t339=1 then(if(t338.size:Int)>0 then((spec_l1Below.f t328 t340 t341 (t338.size:Int)).bind fun bt354=>(if 0≤bt354.1 then(if bt354.1≤(t338.size:Int) then((spec_l1Pick.f t328 bt354.2.1 bt354.2.2 (([(⟨#[]⟩:ByteArray),(⟨#[48]⟩:ByteArray),(⟨#[45]⟩:ByteArray),(⟨#[46]⟩:ByteArray),(⟨#[32]⟩:ByteArray),(⟨#[86]⟩:ByteArray),(⟨#[115]⟩:ByteArray),(⟨#[42]⟩:ByteArray)]:List ByteArray))).bind fun bt360=>(if(t338.extract 0 (bt354.1:Int).toNat).size+bt360.1.size≤9223372036854775807 then((spec_l1Below.f t328 bt360.2.1 bt360.2.2 2).bind fun bt363=>(if 0≤(wrap64 (bt354.1+bt363.1)) then(if(wrap64 (bt354.1+bt363.1))≤(t338.size:Int) then(if((t338.extract 0 (bt354.1:Int).toNat)++bt360.1).size+(t338.extract ((wrap64 (bt354.1+bt363.1)):Int).toNat t338.size).size≤9223372036854775807 then(some (((t338.extract 0 (bt354.1:Int).toNat)++bt360.1)++(t338.extract ((wrap64 (bt354.1+bt363.1)):Int).toNat t338.size))) else(none)) else(none)) else(none))) else(none))) else(none)) else(none))) else(some t338)) else(if t339=2 then((spec_l1Pick.f t328 t340 t341 (([(⟨#[]⟩:ByteArray),(⟨#[45]⟩:ByteArray),(⟨#[48]⟩:ByteArray),(⟨#[45,48]⟩:ByteArray),(⟨#[48,48]⟩:ByteArray),(⟨#[49,46]⟩:ByteArray),(⟨#[46,53]⟩:ByteArray),(⟨#[49,46,53,48]⟩:ByteArray),(⟨#[49,50,51,52,53,54,55,56,57]⟩:ByteArray),(⟨#[49,50,51,52,53,54,55,56,57,48]⟩:ByteArray),(⟨#[48,46,49,50,51,52,53,54,55,56]⟩:ByteArray),(⟨#[48,46,49,50,51,52,53,54,55,56,57]⟩:ByteArray),(⟨#[49,48,48,48,48,48,48,48,48,48]⟩:ByteArray)]:List ByteArray))).bind fun bt369=>(some bt369.1)) else(some t338))))=some r:=H
  have A5:=Aside0.mk A50
  clear A50
  by_cases c6:t339=0
  · rw[if_pos c6] at H
    have c6b0:(t339==0)=true:=beq_iff_eq.mpr c6
    have c6b1:(t339 != 0)=false:=bne_eq_false_iff_eq.mpr c6
    clear c6
    obtain⟨y342,hy342⟩:∃y_:List ByteArray,y_=(([(⟨#[52,56]⟩:ByteArray),(⟨#[53]⟩:ByteArray),(⟨#[45,51]⟩:ByteArray),(⟨#[48,46,50,53]⟩:ByteArray),(⟨#[49,48,48]⟩:ByteArray)]:List ByteArray)):=⟨_,rfl⟩
    replace H:((spec_l1Pick.f t328 t340 t341 y342).bind fun bt345=>((spec_l1Pick.f t328 bt345.2.1 bt345.2.2 (([(⟨#[107,72,122]⟩:ByteArray),(⟨#[109,115]⟩:ByteArray),(⟨#[109,86]⟩:ByteArray),(⟨#[194,181,115]⟩:ByteArray),(⟨#[86]⟩:ByteArray),(⟨#[71,72,122]⟩:ByteArray),(⟨#[110,115]⟩:ByteArray),(⟨#[72,122]⟩:ByteArray),(⟨#[77,86]⟩:ByteArray),(⟨#[32,86]⟩:ByteArray),(⟨#[32,115,45,49]⟩:ByteArray),(⟨#[32,86,50,42,115]⟩:ByteArray),(⟨#[32,86,42,115]⟩:ByteArray),(⟨#[32,115,42,86]⟩:ByteArray),(⟨#[32,86,49]⟩:ByteArray),(⟨#[32,86,48]⟩:ByteArray),(⟨#[32,115,49,48]⟩:ByteArray),(⟨#[32]⟩:ByteArray),(⟨#[88]⟩:ByteArray),(⟨#[107,107]⟩:ByteArray)]:List ByteArray))).bind fun bt351=>(if bt345.1.size+bt351.1.size≤9223372036854775807 then(some (bt345.1++bt351.1)) else(none))))=some r:=by first|(rw[hy342];with_reducible exact H)|(have H2_:=(Option.bind_some _ _).symm.trans H;rw[hy342];with_reducible exact H2_)|(have H2_:=(Option.bind_some _ _).symm.trans H;with_reducible exact H2_)|with_reducible exact H|(rw[hy342];exact H)|exact H
    have Ny342:=Aside0.mk hy342
    clear hy342
    replace H:=Option.bind_eq_some_iff.mp H
    obtain⟨⟨t345,t346,t347⟩,A70,H⟩:=H
    replace H:((spec_l1Pick.f t328 t346 t347 (([(⟨#[107,72,122]⟩:ByteArray),(⟨#[109,115]⟩:ByteArray),(⟨#[109,86]⟩:ByteArray),(⟨#[194,181,115]⟩:ByteArray),(⟨#[86]⟩:ByteArray),(⟨#[71,72,122]⟩:ByteArray),(⟨#[110,115]⟩:ByteArray),(⟨#[72,122]⟩:ByteArray),(⟨#[77,86]⟩:ByteArray),(⟨#[32,86]⟩:ByteArray),(⟨#[32,115,45,49]⟩:ByteArray),(⟨#[32,86,50,42,115]⟩:ByteArray),(⟨#[32,86,42,115]⟩:ByteArray),(⟨#[32,115,42,86]⟩:ByteArray),(⟨#[32,86,49]⟩:ByteArray),(⟨#[32,86,48]⟩:ByteArray),(⟨#[32,115,49,48]⟩:ByteArray),(⟨#[32]⟩:ByteArray),(⟨#[88]⟩:ByteArray),(⟨#[107,107]⟩:ByteArray)]:List ByteArray))).bind fun bt351=>(if t345.size+bt351.1.size≤9223372036854775807 then(some (t345++bt351.1)) else(none)))=some r:=H
    have A7:=Aside0.mk A70
    clear A70
    obtain⟨y348,hy348⟩:∃y_:List ByteArray,y_=(([(⟨#[107,72,122]⟩:ByteArray),(⟨#[109,115]⟩:ByteArray),(⟨#[109,86]⟩:ByteArray),(⟨#[194,181,115]⟩:ByteArray),(⟨#[86]⟩:ByteArray),(⟨#[71,72,122]⟩:ByteArray),(⟨#[110,115]⟩:ByteArray),(⟨#[72,122]⟩:ByteArray),(⟨#[77,86]⟩:ByteArray),(⟨#[32,86]⟩:ByteArray),(⟨#[32,115,45,49]⟩:ByteArray),(⟨#[32,86,50,42,115]⟩:ByteArray),(⟨#[32,86,42,115]⟩:ByteArray),(⟨#[32,115,42,86]⟩:ByteArray),(⟨#[32,86,49]⟩:ByteArray),(⟨#[32,86,48]⟩:ByteArray),(⟨#[32,115,49,48]⟩:ByteArray),(⟨#[32]⟩:ByteArray),(⟨#[88]⟩:ByteArray),(⟨#[107,107]⟩:ByteArray)]:List ByteArray)):=⟨_,rfl⟩
    replace H:((spec_l1Pick.f t328 t346 t347 y348).bind fun bt351=>(if t345.size+bt351.1.size≤9223372036854775807 then(some (t345++bt351.1)) else(none)))=some r:=by first|(rw[hy348];with_reducible exact H)|(have H2_:=(Option.bind_some _ _).symm.trans H;rw[hy348];with_reducible exact H2_)|(have H2_:=(Option.bind_some _ _).symm.trans H;with_reducible exact H2_)|with_reducible exact H|(rw[hy348];exact H)|exact H
    have Ny348:=Aside0.mk hy348
    clear hy348
    replace H:=Option.bind_eq_some_iff.mp H
    obtain⟨⟨t351,t352,t353⟩,A80,H⟩:=H
    replace H:(if t345.size+t351.size≤9223372036854775807 then(some (t345++t351)) else(none))=some r:=H
    have A8:=Aside0.mk A80
    clear A80
    by_cases c9:t345.size+t351.size≤9223372036854775807
    · rw[if_pos c9] at H
      have c9b0:=eq_true c9
      have c9b1:decide (t345.size+t351.size≤9223372036854775807)=true:=decide_eq_true c9
      try have c9b2:(9223372036854775807<t345.size+t351.size)=False:=eq_false (Nat.not_lt.2 c9)
      obtain rfl:=Option.some.inj H
      go_enter Tryz.func9,Tryz.ntmps9
      go_wp2_with (first|((with_reducible refine gate_callee (f:=13) rfl ?_);refine goesL_ (some 7) rfl rfl Tryz.func13 (by kernel_rfl) rfl #[.slice A0 l0.length c0] rfl (by(try simp only[List.map_toArray,List.map_cons,List.map_nil]);first|done|rfl|(simp only[List.length_drop,List.length_take];rfl)) ?_;(with_reducible refine(spec_l1New.calls k _ _ l0 t328 t329 t330 w _ ?side1 ?side2 ?side3 A2.out).mono ?_);(case side1=>repeat(first|(with_reducible first|exact HB.out|apply below_alloc|apply pw_below_drewN|apply below_drew1)|exact HB.out));(case side2=>exact HR0.out);(case side3=>exact HC0.out);rintro e w10 ⟨g331,rfl,hi,hb,hb2⟩;refine⟨_,rfl,?_⟩;have n0_:=Aside0.mk (hb);have n1_:=Aside0.mk (hi);clear HB;have HB:=n0_;have HI331:=n1_;clear n0_ n1_;(try clear hb);(try clear hb2);(try clear hk);(try clear hi))|((with_reducible refine gate_callee (f:=12) rfl ?_);refine goesL_ (some 9) rfl rfl Tryz.func12 (by kernel_rfl) rfl #[.pointer (some ⟨g331,0,none⟩)] rfl (by(try simp only[List.map_toArray,List.map_cons,List.map_nil]);first|done|rfl|(simp only[List.length_drop,List.length_take];rfl)) ?_;(with_reducible refine(spec_l20DrawQty.calls k g331 t328 t329 t330 t332 t333 t334 t335 t336 t337 w _ ?side1 ?side2 A3.out).mono ?_);(case side1=>repeat(first|(with_reducible first|exact HI331.out|apply IsS68.alloc|apply IsS68.drewN|apply IsS68.drew|apply IsS68.set_1|apply IsS68.set_2)|exact HI331.out));(case side2=>repeat(first|(with_reducible first|exact HB.out|apply below_alloc|apply pw_below_drewN|apply below_drew1|refine below_set ?_ (IsS68.ge HI331.out))|exact HB.out));rintro e w11 ⟨rfl,hi,hb,hk⟩;refine⟨_,rfl,?_⟩;have n0_:=Aside0.mk (hb);have n1_:=Aside0.mk (hi);clear HB;clear HI331;have HB:=n0_;have HI331:=n1_;clear n0_ n1_;(try clear hb);(try clear hb2);(try clear hk);(try clear hi))|((with_reducible refine gate_callee (f:=7) rfl ?_);refine goesL_ (some 10) rfl rfl Tryz.func7 (by kernel_rfl) rfl #[.agg #[.int .i64 t332, .int .i64 t333, .int .i64 t334, .int .i64 t335]] rfl (by(try simp only[List.map_toArray,List.map_cons,List.map_nil]);first|done|rfl|(simp only[List.length_drop,List.length_take];rfl)) ?_;(with_reducible refine(spec_ShowQty.calls k t332 t333 t334 t335 t338 _ A4.out).mono ?_);rintro e w12 ⟨rfl,hb⟩;refine⟨_,rfl,?_⟩;have n0_:=Aside0.mk (IsS68.below (by repeat(first|(with_reducible first|exact HI331.out|apply IsS68.alloc|apply IsS68.drewN|apply IsS68.drew|apply IsS68.set_1|apply IsS68.set_2)|exact HI331.out)) hb);have n1_:=Aside0.mk (below_step (by repeat(first|(with_reducible first|exact HB.out|apply below_alloc|apply pw_below_drewN|apply below_drew1|refine below_set ?_ (IsS68.ge HI331.out))|exact HB.out)) hb);clear HI331;clear HB;have HI331:=n0_;have HB:=n1_;clear n0_ n1_;(try clear hb);(try clear hb2);(try clear hk);(try clear hi))|((with_reducible refine gate_callee (f:=29) rfl ?_);refine goesL_ (some 12) rfl rfl Tryz.func29 (by kernel_rfl) rfl #[.pointer (some ⟨g331,0,none⟩), .int .i64 4] rfl (by(try simp only[List.map_toArray,List.map_cons,List.map_nil]);first|done|rfl|(simp only[List.length_drop,List.length_take];rfl)) ?_;(with_reducible refine(spec_l1Below.calls g331 t328 t336 t337 4 t339 t340 t341 w _ ?side1 ?side2 A5.out).mono ?_);(case side1=>repeat(first|(with_reducible first|exact HI331.out|apply IsS68.alloc|apply IsS68.drewN|apply IsS68.drew|apply IsS68.set_1|apply IsS68.set_2)|exact HI331.out));(case side2=>repeat(first|(with_reducible first|exact HB.out|apply below_alloc|apply pw_below_drewN|apply below_drew1|refine below_set ?_ (IsS68.ge HI331.out))|exact HB.out));rintro e w13 ⟨rfl,hi,hb,hk⟩;refine⟨_,rfl,?_⟩;have n0_:=Aside0.mk (hb);have n1_:=Aside0.mk (hi);clear HB;clear HI331;have HB:=n0_;have HI331:=n1_;clear n0_ n1_;(try clear hb);(try clear hb2);(try clear hk);(try clear hi))|((with_reducible refine gate_dst (N:=16) rfl ?_);refine Kd.R_lit Kd.string _ 9 ?hg (N:=16) ?hd (xs:=([(⟨#[52,56]⟩:ByteArray),(⟨#[53]⟩:ByteArray),(⟨#[45,51]⟩:ByteArray),(⟨#[48,46,50,53]⟩:ByteArray),(⟨#[49,48,48]⟩:ByteArray)]:List ByteArray)) (inner:=[.string (⟨#[52,56]⟩:ByteArray), .string (⟨#[53]⟩:ByteArray), .string (⟨#[45,51]⟩:ByteArray), .string (⟨#[48,46,50,53]⟩:ByteArray), .string (⟨#[49,48,48]⟩:ByteArray)]) (ok:=fun _=>True) (okp:=fun _=>True) ?hr ?hp (fun _ hk=>hk) trivial (Below.refl _ _) (Nat.le_refl _) (by simp) ?_;(case hd=>rfl);(case hg=>rfl);(case hr=>first|(go_simp;done)|(go_simp;rfl));(case hp=>exact(Reps.one (show Kd.M Kd.string _ _ _ (⟨#[52,56]⟩:ByteArray) [.string (⟨#[52,56]⟩:ByteArray)] from rfl) (Reps.one (show Kd.M Kd.string _ _ _ (⟨#[53]⟩:ByteArray) [.string (⟨#[53]⟩:ByteArray)] from rfl) (Reps.one (show Kd.M Kd.string _ _ _ (⟨#[45,51]⟩:ByteArray) [.string (⟨#[45,51]⟩:ByteArray)] from rfl) (Reps.one (show Kd.M Kd.string _ _ _ (⟨#[48,46,50,53]⟩:ByteArray) [.string (⟨#[48,46,50,53]⟩:ByteArray)] from rfl) (Reps.one (show Kd.M Kd.string _ _ _ (⟨#[49,48,48]⟩:ByteArray) [.string (⟨#[49,48,48]⟩:ByteArray)] from rfl) (Reps.none _ _)))))));intro v343 w14 ho15 hb hg_ hnew_;clear hg_ hnew_;(first|rw[←Ny342.out] at ho15|(simp only[Int.reduceToNat] at ho15;rw[←Ny342.out] at ho15));have n0_:=Aside0.mk (Kd.R_lower ho15 (below_size (by repeat(first|(with_reducible first|exact HB.out|apply below_alloc|apply pw_below_drewN|apply below_drew1|refine below_set ?_ (IsS68.ge HI331.out))|exact HB.out))));have n1_:=Aside0.mk (IsS68.below (by repeat(first|(with_reducible first|exact HI331.out|apply IsS68.alloc|apply IsS68.drewN|apply IsS68.drew|apply IsS68.set_1|apply IsS68.set_2)|exact HI331.out)) hb);have n2_:=Aside0.mk (below_step (by repeat(first|(with_reducible first|exact HB.out|apply below_alloc|apply pw_below_drewN|apply below_drew1|refine below_set ?_ (IsS68.ge HI331.out))|exact HB.out)) hb);clear HI331;clear HB;have HO344:=n0_;have HI331:=n1_;have HB:=n2_;clear n0_ n1_ n2_;clear hb ho15;obtain⟨Ao16,co16,eo16⟩:=Kd.R_slice HO344.out;subst eo16)|((with_reducible refine gate_callee (f:=30) rfl ?_);refine goesL_ (some 17) rfl rfl Tryz.func30 (by kernel_rfl) rfl #[.pointer (some ⟨g331,0,none⟩), .slice Ao16 y342.length co16] rfl (by(try simp only[List.map_toArray,List.map_cons,List.map_nil]);first|done|rfl|(simp only[List.length_drop,List.length_take];rfl)) ?_;(with_reducible refine(spec_l1Pick.calls g331 t328 t340 t341 _ _ y342 t345 t346 t347 w _ ?side1 ?side2 ?side3 ?side4 ?side5 A7.out).mono ?_);(case side1=>repeat(first|(with_reducible first|exact HI331.out|apply IsS68.alloc|apply IsS68.drewN|apply IsS68.drew|apply IsS68.set_1|apply IsS68.set_2)|exact HI331.out));(case side2=>repeat(first|(with_reducible first|exact HB.out|apply below_alloc|apply pw_below_drewN|apply below_drew1|refine below_set ?_ (IsS68.ge HI331.out))|exact HB.out));(case side3=>repeat(first|exact(Kd.R_reads' HO344.out).2.2|(with_reducible refine Kd.C_alloc ?_ _)|(with_reducible refine Kd.C_drewN ?_ _)|(with_reducible refine Kd.C_drew ?_)));(case side4=>exact(Kd.R_reads' HO344.out).2.1);(case side5=>exact far_slice (IsS68.own_ne HI331.out HO344.out (by decide)));rintro e w17 ⟨rfl,hi,hb,hk⟩;refine⟨_,rfl,?_⟩;have n0_:=Aside0.mk (Kd.R_mono (Kd.R_keep (IsS68.apart (show IsS68 w _ g331 t328 t340 t341 from by repeat(first|(with_reducible first|exact HI331.out|apply IsS68.alloc|apply IsS68.drewN|apply IsS68.drew|apply IsS68.set_1|apply IsS68.set_2)|exact HI331.out)) (by(with_reducible repeat(first|apply Kd.R_alloc|apply Kd.R_drewN|apply Kd.R_drew));first|exact HO344.out|(subst_vars;exact HO344.out)) (by decide)) hk (fun _ h=>h.2)) (fun _ h=>h.1));have n1_:=Aside0.mk (hb);have n2_:=Aside0.mk (hi);clear HO344;clear HB;clear HI331;have HO344:=n0_;have HB:=n1_;have HI331:=n2_;clear n0_ n1_ n2_;(try clear hb);(try clear hb2);(try clear hk);(try clear hi))|((with_reducible refine gate_dst (N:=19) rfl ?_);refine Kd.R_lit Kd.string _ 9 ?hg (N:=19) ?hd (xs:=([(⟨#[107,72,122]⟩:ByteArray),(⟨#[109,115]⟩:ByteArray),(⟨#[109,86]⟩:ByteArray),(⟨#[194,181,115]⟩:ByteArray),(⟨#[86]⟩:ByteArray),(⟨#[71,72,122]⟩:ByteArray),(⟨#[110,115]⟩:ByteArray),(⟨#[72,122]⟩:ByteArray),(⟨#[77,86]⟩:ByteArray),(⟨#[32,86]⟩:ByteArray),(⟨#[32,115,45,49]⟩:ByteArray),(⟨#[32,86,50,42,115]⟩:ByteArray),(⟨#[32,86,42,115]⟩:ByteArray),(⟨#[32,115,42,86]⟩:ByteArray),(⟨#[32,86,49]⟩:ByteArray),(⟨#[32,86,48]⟩:ByteArray),(⟨#[32,115,49,48]⟩:ByteArray),(⟨#[32]⟩:ByteArray),(⟨#[88]⟩:ByteArray),(⟨#[107,107]⟩:ByteArray)]:List ByteArray)) (inner:=[.string (⟨#[107,72,122]⟩:ByteArray), .string (⟨#[109,115]⟩:ByteArray), .string (⟨#[109,86]⟩:ByteArray), .string (⟨#[194,181,115]⟩:ByteArray), .string (⟨#[86]⟩:ByteArray), .string (⟨#[71,72,122]⟩:ByteArray), .string (⟨#[110,115]⟩:ByteArray), .string (⟨#[72,122]⟩:ByteArray), .string (⟨#[77,86]⟩:ByteArray), .string (⟨#[32,86]⟩:ByteArray), .string (⟨#[32,115,45,49]⟩:ByteArray), .string (⟨#[32,86,50,42,115]⟩:ByteArray), .string (⟨#[32,86,42,115]⟩:ByteArray), .string (⟨#[32,115,42,86]⟩:ByteArray), .string (⟨#[32,86,49]⟩:ByteArray), .string (⟨#[32,86,48]⟩:ByteArray), .string (⟨#[32,115,49,48]⟩:ByteArray), .string (⟨#[32]⟩:ByteArray), .string (⟨#[88]⟩:ByteArray), .string (⟨#[107,107]⟩:ByteArray)]) (ok:=fun _=>True) (okp:=fun _=>True) ?hr ?hp (fun _ hk=>hk) trivial (Below.refl _ _) (Nat.le_refl _) (by simp) ?_;(case hd=>rfl);(case hg=>rfl);(case hr=>first|(go_simp;done)|(go_simp;rfl));(case hp=>exact(Reps.one (show Kd.M Kd.string _ _ _ (⟨#[107,72,122]⟩:ByteArray) [.string (⟨#[107,72,122]⟩:ByteArray)] from rfl) (Reps.one (show Kd.M Kd.string _ _ _ (⟨#[109,115]⟩:ByteArray) [.string (⟨#[109,115]⟩:ByteArray)] from rfl) (Reps.one (show Kd.M Kd.string _ _ _ (⟨#[109,86]⟩:ByteArray) [.string (⟨#[109,86]⟩:ByteArray)] from rfl) (Reps.one (show Kd.M Kd.string _ _ _ (⟨#[194,181,115]⟩:ByteArray) [.string (⟨#[194,181,115]⟩:ByteArray)] from rfl) (Reps.one (show Kd.M Kd.string _ _ _ (⟨#[86]⟩:ByteArray) [.string (⟨#[86]⟩:ByteArray)] from rfl) (Reps.one (show Kd.M Kd.string _ _ _ (⟨#[71,72,122]⟩:ByteArray) [.string (⟨#[71,72,122]⟩:ByteArray)] from rfl) (Reps.one (show Kd.M Kd.string _ _ _ (⟨#[110,115]⟩:ByteArray) [.string (⟨#[110,115]⟩:ByteArray)] from rfl) (Reps.one (show Kd.M Kd.string _ _ _ (⟨#[72,122]⟩:ByteArray) [.string (⟨#[72,122]⟩:ByteArray)] from rfl) (Reps.one (show Kd.M Kd.string _ _ _ (⟨#[77,86]⟩:ByteArray) [.string (⟨#[77,86]⟩:ByteArray)] from rfl) (Reps.one (show Kd.M Kd.string _ _ _ (⟨#[32,86]⟩:ByteArray) [.string (⟨#[32,86]⟩:ByteArray)] from rfl) (Reps.one (show Kd.M Kd.string _ _ _ (⟨#[32,115,45,49]⟩:ByteArray) [.string (⟨#[32,115,45,49]⟩:ByteArray)] from rfl) (Reps.one (show Kd.M Kd.string _ _ _ (⟨#[32,86,50,42,115]⟩:ByteArray) [.string (⟨#[32,86,50,42,115]⟩:ByteArray)] from rfl) (Reps.one (show Kd.M Kd.string _ _ _ (⟨#[32,86,42,115]⟩:ByteArray) [.string (⟨#[32,86,42,115]⟩:ByteArray)] from rfl) (Reps.one (show Kd.M Kd.string _ _ _ (⟨#[32,115,42,86]⟩:ByteArray) [.string (⟨#[32,115,42,86]⟩:ByteArray)] from rfl) (Reps.one (show Kd.M Kd.string _ _ _ (⟨#[32,86,49]⟩:ByteArray) [.string (⟨#[32,86,49]⟩:ByteArray)] from rfl) (Reps.one (show Kd.M Kd.string _ _ _ (⟨#[32,86,48]⟩:ByteArray) [.string (⟨#[32,86,48]⟩:ByteArray)] from rfl) (Reps.one (show Kd.M Kd.string _ _ _ (⟨#[32,115,49,48]⟩:ByteArray) [.string (⟨#[32,115,49,48]⟩:ByteArray)] from rfl) (Reps.one (show Kd.M Kd.string _ _ _ (⟨#[32]⟩:ByteArray) [.string (⟨#[32]⟩:ByteArray)] from rfl) (Reps.one (show Kd.M Kd.string _ _ _ (⟨#[88]⟩:ByteArray) [.string (⟨#[88]⟩:ByteArray)] from rfl) (Reps.one (show Kd.M Kd.string _ _ _ (⟨#[107,107]⟩:ByteArray) [.string (⟨#[107,107]⟩:ByteArray)] from rfl) (Reps.none _ _))))))))))))))))))))));intro v349 w18 ho19 hb hg_ hnew_;clear hg_ hnew_;(first|rw[←Ny348.out] at ho19|(simp only[Int.reduceToNat] at ho19;rw[←Ny348.out] at ho19));have n0_:=Aside0.mk (Kd.R_elder' (by(with_reducible repeat(first|apply Kd.R_alloc|apply Kd.R_drewN|apply Kd.R_drew));first|exact HO344.out|(subst_vars;exact HO344.out)) (Kd.R_base ho19) hb);have n1_:=Aside0.mk (Kd.R_lower (Kd.R_new' ho19 (Kd.R_lt (by(with_reducible repeat(first|apply Kd.R_alloc|apply Kd.R_drewN|apply Kd.R_drew));first|exact HO344.out|(subst_vars;exact HO344.out)))) (below_size (by repeat(first|(with_reducible first|exact HB.out|apply below_alloc|apply pw_below_drewN|apply below_drew1|refine below_set ?_ (IsS68.ge HI331.out))|exact HB.out))));have n2_:=Aside0.mk (IsS68.below (by repeat(first|(with_reducible first|exact HI331.out|apply IsS68.alloc|apply IsS68.drewN|apply IsS68.drew|apply IsS68.set_1|apply IsS68.set_2)|exact HI331.out)) hb);have n3_:=Aside0.mk (below_step (by repeat(first|(with_reducible first|exact HB.out|apply below_alloc|apply pw_below_drewN|apply below_drew1|refine below_set ?_ (IsS68.ge HI331.out))|exact HB.out)) hb);clear HO344;clear HI331;clear HB;have HO344:=n0_;have HO350:=n1_;have HI331:=n2_;have HB:=n3_;clear n0_ n1_ n2_ n3_;clear hb ho19;obtain⟨Ao20,co20,eo20⟩:=Kd.R_slice HO350.out;subst eo20)|((with_reducible refine gate_callee (f:=30) rfl ?_);refine goesL_ (some 20) rfl rfl Tryz.func30 (by kernel_rfl) rfl #[.pointer (some ⟨g331,0,none⟩), .slice Ao20 y348.length co20] rfl (by(try simp only[List.map_toArray,List.map_cons,List.map_nil]);first|done|rfl|(simp only[List.length_drop,List.length_take];rfl)) ?_;(with_reducible refine(spec_l1Pick.calls g331 t328 t346 t347 _ _ y348 t351 t352 t353 w _ ?side1 ?side2 ?side3 ?side4 ?side5 A8.out).mono ?_);(case side1=>repeat(first|(with_reducible first|exact HI331.out|apply IsS68.alloc|apply IsS68.drewN|apply IsS68.drew|apply IsS68.set_1|apply IsS68.set_2)|exact HI331.out));(case side2=>repeat(first|(with_reducible first|exact HB.out|apply below_alloc|apply pw_below_drewN|apply below_drew1|refine below_set ?_ (IsS68.ge HI331.out))|exact HB.out));(case side3=>repeat(first|exact(Kd.R_reads' HO350.out).2.2|(with_reducible refine Kd.C_alloc ?_ _)|(with_reducible refine Kd.C_drewN ?_ _)|(with_reducible refine Kd.C_drew ?_)));(case side4=>exact(Kd.R_reads' HO350.out).2.1);(case side5=>exact far_slice (IsS68.own_ne HI331.out HO350.out (by decide)));rintro e w21 ⟨rfl,hi,hb,hk⟩;refine⟨_,rfl,?_⟩;have n0_:=Aside0.mk (Kd.R_mono (Kd.R_keep (IsS68.apart (show IsS68 w _ g331 t328 t346 t347 from by repeat(first|(with_reducible first|exact HI331.out|apply IsS68.alloc|apply IsS68.drewN|apply IsS68.drew|apply IsS68.set_1|apply IsS68.set_2)|exact HI331.out)) (by(with_reducible repeat(first|apply Kd.R_alloc|apply Kd.R_drewN|apply Kd.R_drew));first|exact HO344.out|(subst_vars;exact HO344.out)) (by decide)) hk (fun _ h=>h.2)) (fun _ h=>h.1));have n1_:=Aside0.mk (Kd.R_mono (Kd.R_keep (IsS68.apart (show IsS68 w _ g331 t328 t346 t347 from by repeat(first|(with_reducible first|exact HI331.out|apply IsS68.alloc|apply IsS68.drewN|apply IsS68.drew|apply IsS68.set_1|apply IsS68.set_2)|exact HI331.out)) (by(with_reducible repeat(first|apply Kd.R_alloc|apply Kd.R_drewN|apply Kd.R_drew));first|exact HO350.out|(subst_vars;exact HO350.out)) (by decide)) hk (fun _ h=>h.2)) (fun _ h=>h.1));have n2_:=Aside0.mk (hb);have n3_:=Aside0.mk (hi);clear HO344;clear HO350;clear HB;clear HI331;have HO344:=n0_;have HO350:=n1_;have HB:=n2_;have HI331:=n3_;clear n0_ n1_ n2_ n3_;(try clear hb);(try clear hb2);(try clear hk);(try clear hi)))
      go_ret
      exact⟨by first|rfl|(simp[errW_none,errW_some]<;>rfl)|(simp[*,errW_none,errW_some]<;>rfl),by repeat(first|(with_reducible first|exact HB.out|apply below_alloc|apply pw_below_drewN|apply below_drew1|refine below_set ?_ (IsS68.ge HI331.out))|exact HB.out)⟩
    · rw[if_neg c9] at H
      exact absurd H (by simp)
  · rw [if_neg c6] at H
    have c6b0:(t339==0)=false:=beq_eq_false_iff_ne.mpr c6
    have c6b1:(t339 != 0)=true:=bne_iff_ne.mpr c6
    by_cases c22:t339=1
    · rw [if_pos c22] at H
      have c22b0:(t339==1)=true:=beq_iff_eq.mpr c22
      have c22b1:(t339 != 1)=false:=bne_eq_false_iff_eq.mpr c22
      clear c22
      by_cases c23:(t338.size:Int)>0
      · rw [if_pos c23] at H
        have c23b0:decide (0<(t338.size:Int))=true:=decide_eq_true c23
        have c23b1:decide (0<t338.size)=true:=decide_eq_true (by omega)
        clear c23
        replace H:=Option.bind_eq_some_iff.mp H
        obtain⟨⟨t354,t355,t356⟩,A240,H⟩:=H
        replace H:(if 0≤t354 then(if t354≤(t338.size:Int) then((spec_l1Pick.f t328 t355 t356 (([(⟨#[]⟩:ByteArray),(⟨#[48]⟩:ByteArray),(⟨#[45]⟩:ByteArray),(⟨#[46]⟩:ByteArray),(⟨#[32]⟩:ByteArray),(⟨#[86]⟩:ByteArray),(⟨#[115]⟩:ByteArray),(⟨#[42]⟩:ByteArray)]:List ByteArray))).bind fun bt360=>(if(t338.extract 0 (t354:Int).toNat).size+bt360.1.size≤9223372036854775807 then((spec_l1Below.f t328 bt360.2.1 bt360.2.2 2).bind fun bt363=>(if 0≤(wrap64 (t354+bt363.1)) then(if(wrap64 (t354+bt363.1))≤(t338.size:Int) then(if((t338.extract 0 (t354:Int).toNat)++bt360.1).size+(t338.extract ((wrap64 (t354+bt363.1)):Int).toNat t338.size).size≤9223372036854775807 then(some (((t338.extract 0 (t354:Int).toNat)++bt360.1)++(t338.extract ((wrap64 (t354+bt363.1)):Int).toNat t338.size))) else(none)) else(none)) else(none))) else(none))) else(none)) else(none))=some r:=H
        have A24:=Aside0.mk A240
        clear A240
        by_cases c25:0≤t354
        · rw [if_pos c25] at H
          have c25b0:=eq_true c25
          have c25b1:decide (0≤t354)=true:=decide_eq_true c25
          clear c25
          by_cases c26:t354≤(t338.size:Int)
          · rw [if_pos c26] at H
            have c26b0:=eq_true c26
            have c26b1:decide (t354≤(t338.size:Int))=true:=decide_eq_true c26
            clear c26
            obtain⟨y357,hy357⟩:∃y_:List ByteArray,y_=(([(⟨#[]⟩:ByteArray),(⟨#[48]⟩:ByteArray),(⟨#[45]⟩:ByteArray),(⟨#[46]⟩:ByteArray),(⟨#[32]⟩:ByteArray),(⟨#[86]⟩:ByteArray),(⟨#[115]⟩:ByteArray),(⟨#[42]⟩:ByteArray)]:List ByteArray)):=⟨_,rfl⟩
            replace H:((spec_l1Pick.f t328 t355 t356 y357).bind fun bt360=>(if(t338.extract 0 (t354:Int).toNat).size+bt360.1.size≤9223372036854775807 then((spec_l1Below.f t328 bt360.2.1 bt360.2.2 2).bind fun bt363=>(if 0≤(wrap64 (t354+bt363.1)) then(if(wrap64 (t354+bt363.1))≤(t338.size:Int) then(if((t338.extract 0 (t354:Int).toNat)++bt360.1).size+(t338.extract ((wrap64 (t354+bt363.1)):Int).toNat t338.size).size≤9223372036854775807 then(some (((t338.extract 0 (t354:Int).toNat)++bt360.1)++(t338.extract ((wrap64 (t354+bt363.1)):Int).toNat t338.size))) else(none)) else(none)) else(none))) else(none)))=some r:=by first|(rw[hy357];with_reducible exact H)|(have H2_:=(Option.bind_some _ _).symm.trans H;rw[hy357];with_reducible exact H2_)|(have H2_:=(Option.bind_some _ _).symm.trans H;with_reducible exact H2_)|with_reducible exact H|(rw[hy357];exact H)|exact H
            have Ny357:=Aside0.mk hy357
            clear hy357
            replace H:=Option.bind_eq_some_iff.mp H
            obtain⟨⟨t360,t361,t362⟩,A270,H⟩:=H
            replace H:(if(t338.extract 0 (t354:Int).toNat).size+t360.size≤9223372036854775807 then((spec_l1Below.f t328 t361 t362 2).bind fun bt363=>(if 0≤(wrap64 (t354+bt363.1)) then(if(wrap64 (t354+bt363.1))≤(t338.size:Int) then(if((t338.extract 0 (t354:Int).toNat)++t360).size+(t338.extract ((wrap64 (t354+bt363.1)):Int).toNat t338.size).size≤9223372036854775807 then(some (((t338.extract 0 (t354:Int).toNat)++t360)++(t338.extract ((wrap64 (t354+bt363.1)):Int).toNat t338.size))) else(none)) else(none)) else(none))) else(none))=some r:=H
            have A27:=Aside0.mk A270
            clear A270
            by_cases c28:(t338.extract 0 (t354:Int).toNat).size+t360.size≤9223372036854775807
            · rw [if_pos c28] at H
              have c28b0:=eq_true c28
              have c28b1:decide ((t338.extract 0 (t354:Int).toNat).size+t360.size≤9223372036854775807)=true:=decide_eq_true c28
              try have c28b2:(9223372036854775807<(t338.extract 0 (t354:Int).toNat).size+t360.size)=False:=eq_false (Nat.not_lt.2 c28)
              try have c28b3:(9223372036854775807<(t354:Int).toNat+t360.size)=False:=eq_false (by(try have:=of_eq_true c9b0);(try have:=of_eq_true c25b0);(try have:=of_eq_true c26b0);(try have:=of_eq_true c28b0);have hz_:=c28;simp only[ByteArray.size_append,ByteArray.size_extract,bsz1] at hz_ ⊢;omega)
              replace H:=Option.bind_eq_some_iff.mp H
              obtain⟨⟨t363,t364,t365⟩,A290,H⟩:=H
              replace H:(if 0≤(wrap64 (t354+t363)) then(if(wrap64 (t354+t363))≤(t338.size:Int) then(if((t338.extract 0 (t354:Int).toNat)++t360).size+(t338.extract ((wrap64 (t354+t363)):Int).toNat t338.size).size≤9223372036854775807 then(some (((t338.extract 0 (t354:Int).toNat)++t360)++(t338.extract ((wrap64 (t354+t363)):Int).toNat t338.size))) else(none)) else(none)) else(none))=some r:=H
              have A29:=Aside0.mk A290
              clear A290
              obtain⟨ji30,hji30⟩:∃j_:Int,(wrap64 (t354+t363))=j_:=⟨_,rfl⟩
              replace H:(if 0≤(ji30) then(if(ji30)≤(t338.size:Int) then(if((t338.extract 0 (t354:Int).toNat)++t360).size+(t338.extract ((ji30):Int).toNat t338.size).size≤9223372036854775807 then(some (((t338.extract 0 (t354:Int).toNat)++t360)++(t338.extract ((ji30):Int).toNat t338.size))) else(none)) else(none)) else(none))=some r:=by first|(rw[hji30] at H;exact H)|(simp only[hji30] at H ⊢;exact H)
              (try rw[hji30] at A2)
              (try rw[hji30] at A3)
              (try rw[hji30] at A4)
              (try rw[hji30] at A5)
              (try rw[hji30] at A24)
              (try rw[hji30] at A27)
              (try rw[hji30] at A29)
              have hji30w:(IntKind.i64.wrap (t354+t363))=ji30:=(i64_w _).trans hji30
              by_cases c31:0≤(ji30)
              · rw [if_pos c31] at H
                have c31b0:=eq_true c31
                have c31b1:decide (0≤(ji30))=true:=decide_eq_true c31
                clear c31
                by_cases c32:(ji30)≤(t338.size:Int)
                · rw [if_pos c32] at H
                  have c32b0:=eq_true c32
                  have c32b1:decide ((ji30)≤(t338.size:Int))=true:=decide_eq_true c32
                  clear c32
                  by_cases c33:((t338.extract 0 (t354:Int).toNat)++t360).size+(t338.extract ((ji30):Int).toNat t338.size).size≤9223372036854775807
                  · rw[if_pos c33] at H
                    have c33b0:=eq_true c33
                    have c33b1:decide (((t338.extract 0 (t354:Int).toNat)++t360).size+(t338.extract ((ji30):Int).toNat t338.size).size≤9223372036854775807)=true:=decide_eq_true c33
                    try have c33b2:(9223372036854775807<((t338.extract 0 (t354:Int).toNat)++t360).size+(t338.extract ((ji30):Int).toNat t338.size).size)=False:=eq_false (Nat.not_lt.2 c33)
                    try have c33b3:(9223372036854775807<(t354:Int).toNat+t360.size+(t338.size-((ji30):Int).toNat))=False:=eq_false (by(try have:=of_eq_true c9b0);(try have:=of_eq_true c25b0);(try have:=of_eq_true c26b0);(try have:=of_eq_true c28b0);(try have:=of_eq_true c31b0);(try have:=of_eq_true c32b0);(try have:=of_eq_true c33b0);have hz_:=c33;simp only[ByteArray.size_append,ByteArray.size_extract,bsz1] at hz_ ⊢;omega)
                    obtain rfl:=Option.some.inj H
                    go_enter Tryz.func9,Tryz.ntmps9
                    try go_wp2_with (first|((with_reducible refine gate_callee (f:=13) rfl ?_);refine goesL_ (some 7) rfl rfl Tryz.func13 (by kernel_rfl) rfl #[.slice A0 l0.length c0] rfl (by(try simp only[List.map_toArray,List.map_cons,List.map_nil]);first|done|rfl|(simp only[List.length_drop,List.length_take];rfl)) ?_;(with_reducible refine(spec_l1New.calls k _ _ l0 t328 t329 t330 w _ ?side1 ?side2 ?side3 A2.out).mono ?_);(case side1=>repeat(first|(with_reducible first|exact HB.out|apply below_alloc|apply pw_below_drewN|apply below_drew1)|exact HB.out));(case side2=>exact HR0.out);(case side3=>exact HC0.out);rintro e w34 ⟨g331,rfl,hi,hb,hb2⟩;refine⟨_,rfl,?_⟩;have n0_:=Aside0.mk (hb);have n1_:=Aside0.mk (hi);clear HB;have HB:=n0_;have HI331:=n1_;clear n0_ n1_;(try clear hb);(try clear hb2);(try clear hk);(try clear hi))|((with_reducible refine gate_callee (f:=12) rfl ?_);refine goesL_ (some 9) rfl rfl Tryz.func12 (by kernel_rfl) rfl #[.pointer (some ⟨g331,0,none⟩)] rfl (by(try simp only[List.map_toArray,List.map_cons,List.map_nil]);first|done|rfl|(simp only[List.length_drop,List.length_take];rfl)) ?_;(with_reducible refine(spec_l20DrawQty.calls k g331 t328 t329 t330 t332 t333 t334 t335 t336 t337 w _ ?side1 ?side2 A3.out).mono ?_);(case side1=>repeat(first|(with_reducible first|exact HI331.out|apply IsS68.alloc|apply IsS68.drewN|apply IsS68.drew|apply IsS68.set_1|apply IsS68.set_2)|exact HI331.out));(case side2=>repeat(first|(with_reducible first|exact HB.out|apply below_alloc|apply pw_below_drewN|apply below_drew1|refine below_set ?_ (IsS68.ge HI331.out))|exact HB.out));rintro e w35 ⟨rfl,hi,hb,hk⟩;refine⟨_,rfl,?_⟩;have n0_:=Aside0.mk (hb);have n1_:=Aside0.mk (hi);clear HB;clear HI331;have HB:=n0_;have HI331:=n1_;clear n0_ n1_;(try clear hb);(try clear hb2);(try clear hk);(try clear hi))|((with_reducible refine gate_callee (f:=7) rfl ?_);refine goesL_ (some 10) rfl rfl Tryz.func7 (by kernel_rfl) rfl #[.agg #[.int .i64 t332, .int .i64 t333, .int .i64 t334, .int .i64 t335]] rfl (by(try simp only[List.map_toArray,List.map_cons,List.map_nil]);first|done|rfl|(simp only[List.length_drop,List.length_take];rfl)) ?_;(with_reducible refine(spec_ShowQty.calls k t332 t333 t334 t335 t338 _ A4.out).mono ?_);rintro e w36 ⟨rfl,hb⟩;refine⟨_,rfl,?_⟩;have n0_:=Aside0.mk (IsS68.below (by repeat(first|(with_reducible first|exact HI331.out|apply IsS68.alloc|apply IsS68.drewN|apply IsS68.drew|apply IsS68.set_1|apply IsS68.set_2)|exact HI331.out)) hb);have n1_:=Aside0.mk (below_step (by repeat(first|(with_reducible first|exact HB.out|apply below_alloc|apply pw_below_drewN|apply below_drew1|refine below_set ?_ (IsS68.ge HI331.out))|exact HB.out)) hb);clear HI331;clear HB;have HI331:=n0_;have HB:=n1_;clear n0_ n1_;(try clear hb);(try clear hb2);(try clear hk);(try clear hi))|((with_reducible refine gate_callee (f:=29) rfl ?_);refine goesL_ (some 12) rfl rfl Tryz.func29 (by kernel_rfl) rfl #[.pointer (some ⟨g331,0,none⟩), .int .i64 4] rfl (by(try simp only[List.map_toArray,List.map_cons,List.map_nil]);first|done|rfl|(simp only[List.length_drop,List.length_take];rfl)) ?_;(with_reducible refine(spec_l1Below.calls g331 t328 t336 t337 4 t339 t340 t341 w _ ?side1 ?side2 A5.out).mono ?_);(case side1=>repeat(first|(with_reducible first|exact HI331.out|apply IsS68.alloc|apply IsS68.drewN|apply IsS68.drew|apply IsS68.set_1|apply IsS68.set_2)|exact HI331.out));(case side2=>repeat(first|(with_reducible first|exact HB.out|apply below_alloc|apply pw_below_drewN|apply below_drew1|refine below_set ?_ (IsS68.ge HI331.out))|exact HB.out));rintro e w37 ⟨rfl,hi,hb,hk⟩;refine⟨_,rfl,?_⟩;have n0_:=Aside0.mk (hb);have n1_:=Aside0.mk (hi);clear HB;clear HI331;have HB:=n0_;have HI331:=n1_;clear n0_ n1_;(try clear hb);(try clear hb2);(try clear hk);(try clear hi))|((with_reducible refine gate_callee (f:=29) rfl ?_);refine goesL_ (some 30) rfl rfl Tryz.func29 (by kernel_rfl) rfl #[.pointer (some ⟨g331,0,none⟩), .int .i64 (t338.size:Int)] rfl (by(try simp only[List.map_toArray,List.map_cons,List.map_nil]);first|done|rfl|(simp only[List.length_drop,List.length_take];rfl)) ?_;(with_reducible refine(spec_l1Below.calls g331 t328 t340 t341 (t338.size:Int) t354 t355 t356 w _ ?side1 ?side2 A24.out).mono ?_);(case side1=>repeat(first|(with_reducible first|exact HI331.out|apply IsS68.alloc|apply IsS68.drewN|apply IsS68.drew|apply IsS68.set_1|apply IsS68.set_2)|exact HI331.out));(case side2=>repeat(first|(with_reducible first|exact HB.out|apply below_alloc|apply pw_below_drewN|apply below_drew1|refine below_set ?_ (IsS68.ge HI331.out))|exact HB.out));rintro e w38 ⟨rfl,hi,hb,hk⟩;refine⟨_,rfl,?_⟩;have n0_:=Aside0.mk (hb);have n1_:=Aside0.mk (hi);clear HB;clear HI331;have HB:=n0_;have HI331:=n1_;clear n0_ n1_;(try clear hb);(try clear hb2);(try clear hk);(try clear hi)))
                    have n0_:=Aside0.mk (IsS68.drew HI331.out)
                    have n1_:=Aside0.mk (below_drew1 HB.out)
                    clear HI331
                    clear HB
                    have HI331:=n0_
                    have HB:=n1_
                    clear n0_ n1_
                    refine start_ (n:=15) (S:=fun w'=>True) (ds:=[]) #[false,false,false,false,false,false,false,false,false,false,false,false,false,false,false] (by kernel_rfl) rfl rfl trivial (fun hHeld=> ?_);refine with_tabW spec_DrawReadQty.tab9 spec_DrawReadQty.bits9 (fun HT_ HW_=> ?_)
                    generalize w38.drew=w39 at HI331 HB hHeld ⊢
                    refine pure_ (i:=0) (N:=some 31) (v:= ?_) (a':= ?_) #[true,false,false,false,false,false,false,false,false,false,false,false,false,false,false] rfl rfl (any_of HT_.out (by kernel_rfl)) (fun _ _ _ h=>h) (Or.inl ⟨by rfl,?_⟩) ?_ ?_
                    rotate_left
                    · intro w'
                      go_simp
                      with_reducible rfl
                    rotate_left
                    · simp only[Act.put,List.setIfInBounds_toArray,List.set_cons_zero,List.set_cons_succ,i64_w,i32_w]
                      rfl
                    refine pure_ (i:=1) (N:=some 32) (v:= ?_) (a':= ?_) #[true,true,false,false,false,false,false,false,false,false,false,false,false,false,false] rfl rfl (any_of HT_.out (by kernel_rfl)) (fun _ _ _ h=>h) (Or.inl ⟨by rfl,?_⟩) ?_ ?_
                    rotate_left
                    · intro w'
                      go_simp
                      with_reducible rfl
                    rotate_left
                    · simp only[Act.put,List.setIfInBounds_toArray,List.set_cons_zero,List.set_cons_succ,i64_w,i32_w]
                      rfl
                    refine pure_ (i:=2) (N:=some 33) (v:= ?_) (a':= ?_) #[true,true,true,false,false,false,false,false,false,false,false,false,false,false,false] rfl rfl (any_of HT_.out (by kernel_rfl)) (fun _ _ _ h=>h) (Or.inl ⟨by rfl,?_⟩) ?_ ?_
                    rotate_left
                    · intro w'
                      go_simp
                      with_reducible rfl
                    rotate_left
                    · simp only[Act.put,List.setIfInBounds_toArray,List.set_cons_zero,List.set_cons_succ,i64_w,i32_w]
                      rfl
                    refine pure_ (i:=3) (N:=some 34) (v:= ?_) (a':= ?_) #[true,true,true,true,false,false,false,false,false,false,false,false,false,false,false] rfl rfl (any_of HT_.out (by kernel_rfl)) (fun _ _ _ h=>h) (Or.inl ⟨by rfl,?_⟩) ?_ ?_
                    rotate_left
                    · intro w'
                      go_simp
                      with_reducible rfl
                    rotate_left
                    · simp only[Act.put,List.setIfInBounds_toArray,List.set_cons_zero,List.set_cons_succ,i64_w,i32_w]
                      rfl
                    refine pure_ (i:=7) (N:=some 38) (v:= ?_) (a':= ?_) #[true,true,true,true,false,false,false,true,false,false,false,false,false,false,false] rfl rfl (any_of HT_.out (by kernel_rfl)) (fun _ _ _ h=>h) (Or.inl ⟨by rfl,?_⟩) ?_ ?_
                    rotate_left
                    · intro w'
                      go_simp
                      with_reducible rfl
                    rotate_left
                    · simp only[Act.put,List.setIfInBounds_toArray,List.set_cons_zero,List.set_cons_succ,i64_w,i32_w]
                      rfl
                    refine pure_ (i:=8) (N:=some 39) (v:= ?_) (a':= ?_) #[true,true,true,true,false,false,false,true,true,false,false,false,false,false,false] rfl rfl (any_of HT_.out (by kernel_rfl)) (fun _ _ _ h=>h) (Or.inl ⟨by rfl,?_⟩) ?_ ?_
                    rotate_left
                    · intro w'
                      go_simp
                      with_reducible rfl
                    rotate_left
                    · simp only[Act.put,List.setIfInBounds_toArray,List.set_cons_zero,List.set_cons_succ,i64_w,i32_w]
                      rfl
                    refine pure_ (i:=9) (N:=some 40) (v:= ?_) (a':= ?_) #[true,true,true,true,false,false,false,true,true,true,false,false,false,false,false] rfl rfl (any_of HT_.out (by kernel_rfl)) (fun _ _ _ h=>h) (Or.inl ⟨by rfl,?_⟩) ?_ ?_
                    rotate_left
                    · intro w'
                      go_simp
                      with_reducible rfl
                    rotate_left
                    · simp only[Act.put,List.setIfInBounds_toArray,List.set_cons_zero,List.set_cons_succ,i64_w,i32_w]
                      rfl
                    refine one_ (i:=4) (N:=some 35) #[true,true,true,true,true,false,false,true,true,true,false,false,false,false,false] rfl rfl (one_of HT_.out (by kernel_rfl)) (by decide) (fun K hK=> ?_)
                    refine Kd.R_lit_step Kd.string _ 9 ?hg (N:=35) ?hd (xs:=([(⟨#[]⟩:ByteArray),(⟨#[48]⟩:ByteArray),(⟨#[45]⟩:ByteArray),(⟨#[46]⟩:ByteArray),(⟨#[32]⟩:ByteArray),(⟨#[86]⟩:ByteArray),(⟨#[115]⟩:ByteArray),(⟨#[42]⟩:ByteArray)]:List ByteArray)) (inner:=[.string (⟨#[]⟩:ByteArray), .string (⟨#[48]⟩:ByteArray), .string (⟨#[45]⟩:ByteArray), .string (⟨#[46]⟩:ByteArray), .string (⟨#[32]⟩:ByteArray), .string (⟨#[86]⟩:ByteArray), .string (⟨#[115]⟩:ByteArray), .string (⟨#[42]⟩:ByteArray)]) (ok:=fun _=>True) (okp:=fun _=>True) ?hr ?hp (fun _ hk=>hk) trivial (Below.refl _ _) (Nat.le_refl _) (by simp) ?_;(case hd=>rfl);(case hg=>rfl);(case hr=>first|(go_simp;done)|(go_simp;rfl));(case hp=>exact(Reps.one (show Kd.M Kd.string _ _ _ (⟨#[]⟩:ByteArray) [.string (⟨#[]⟩:ByteArray)] from rfl) (Reps.one (show Kd.M Kd.string _ _ _ (⟨#[48]⟩:ByteArray) [.string (⟨#[48]⟩:ByteArray)] from rfl) (Reps.one (show Kd.M Kd.string _ _ _ (⟨#[45]⟩:ByteArray) [.string (⟨#[45]⟩:ByteArray)] from rfl) (Reps.one (show Kd.M Kd.string _ _ _ (⟨#[46]⟩:ByteArray) [.string (⟨#[46]⟩:ByteArray)] from rfl) (Reps.one (show Kd.M Kd.string _ _ _ (⟨#[32]⟩:ByteArray) [.string (⟨#[32]⟩:ByteArray)] from rfl) (Reps.one (show Kd.M Kd.string _ _ _ (⟨#[86]⟩:ByteArray) [.string (⟨#[86]⟩:ByteArray)] from rfl) (Reps.one (show Kd.M Kd.string _ _ _ (⟨#[115]⟩:ByteArray) [.string (⟨#[115]⟩:ByteArray)] from rfl) (Reps.one (show Kd.M Kd.string _ _ _ (⟨#[42]⟩:ByteArray) [.string (⟨#[42]⟩:ByteArray)] from rfl) (Reps.none _ _))))))))))
                    intro v358 w40 ho41 hb hg_ hnew_
                    clear hg_ hnew_
                    (first|rw[←Ny357.out] at ho41|(simp only[Int.reduceToNat] at ho41;rw[←Ny357.out] at ho41))
                    have n0_:=Aside0.mk (Kd.R_lower ho41 (below_size (by repeat(first|(with_reducible first|exact HB.out|apply below_alloc|apply pw_below_drewN|apply below_drew1|refine below_set ?_ (IsS68.ge HI331.out))|exact HB.out))))
                    have n1_:=Aside0.mk (IsS68.below (by repeat(first|(with_reducible first|exact HI331.out|apply IsS68.alloc|apply IsS68.drewN|apply IsS68.drew|apply IsS68.set_1|apply IsS68.set_2)|exact HI331.out)) hb)
                    have n2_:=Aside0.mk (below_step (by repeat(first|(with_reducible first|exact HB.out|apply below_alloc|apply pw_below_drewN|apply below_drew1|refine below_set ?_ (IsS68.ge HI331.out))|exact HB.out)) hb)
                    clear HI331
                    clear HB
                    have HO359:=n0_
                    have HI331:=n1_
                    have HB:=n2_
                    clear n0_ n1_ n2_
                    clear hb ho41
                    obtain⟨Ao42,co42,eo42⟩:=Kd.R_slice HO359.out
                    (first|subst eo42|(injection eo42 with f1_ f2_ f3_;have f4_:=f1_.symm;have f5_:=f3_.symm;clear f1_ f2_ f3_;subst f4_;subst f5_))
                    refine hK.out _ _ trivial (fun hHeld=> ?_)
                    clear hK K
                    refine norm_ (a':= ?_) ?_ ?_
                    rotate_left
                    · show Act.put _ (some 35) _=_
                      simp only[Act.put,List.setIfInBounds_toArray,List.set_cons_zero,List.set_cons_succ,i64_w,i32_w]
                      rfl
                    refine one_ (i:=5) (N:=some 36) #[true,true,true,true,true,true,false,true,true,true,false,false,false,false,false] rfl rfl (one_of HT_.out (by kernel_rfl)) (by decide) (fun K hK=> ?_)
                    refine goes_ Tryz.func30 (by kernel_rfl) rfl #[.pointer (some ⟨g331,0,none⟩), .slice Ao42 y357.length co42] (by rfl) rfl rfl (by(try simp only[List.map_toArray,List.map_cons,List.map_nil]);first|done|rfl|(simp only[List.length_drop,List.length_take];rfl)) ?_
                    with_reducible refine(spec_l1Pick.calls g331 t328 t355 t356 _ _ y357 t360 t361 t362 w _ ?side1 ?side2 ?side3 ?side4 ?side5 A27.out).mono ?_
                    (case side1=>repeat(first|(with_reducible first|exact HI331.out|apply IsS68.alloc|apply IsS68.drewN|apply IsS68.drew|apply IsS68.set_1|apply IsS68.set_2)|exact HI331.out))
                    (case side2=>repeat(first|(with_reducible first|exact HB.out|apply below_alloc|apply pw_below_drewN|apply below_drew1|refine below_set ?_ (IsS68.ge HI331.out))|exact HB.out))
                    (case side3=>repeat(first|exact(Kd.R_reads' HO359.out).2.2|(with_reducible refine Kd.C_alloc ?_ _)|(with_reducible refine Kd.C_drewN ?_ _)|(with_reducible refine Kd.C_drew ?_)))
                    (case side4=>exact(Kd.R_reads' HO359.out).2.1)
                    (case side5=>exact far_slice (IsS68.own_ne HI331.out HO359.out (by decide)))
                    rintro e w43 ⟨rfl,hi,hb,hk⟩
                    refine⟨_,rfl,?_⟩
                    have n0_:=Aside0.mk (Kd.R_mono (Kd.R_keep (IsS68.apart (show IsS68 w _ g331 t328 t355 t356 from by repeat(first|(with_reducible first|exact HI331.out|apply IsS68.alloc|apply IsS68.drewN|apply IsS68.drew|apply IsS68.set_1|apply IsS68.set_2)|exact HI331.out)) (by(with_reducible repeat(first|apply Kd.R_alloc|apply Kd.R_drewN|apply Kd.R_drew));first|exact HO359.out|(subst_vars;exact HO359.out)) (by decide)) hk (fun _ h=>h.2)) (fun _ h=>h.1))
                    have n1_:=Aside0.mk (hb)
                    have n2_:=Aside0.mk (hi)
                    clear HO359
                    clear HB
                    clear HI331
                    have HO359:=n0_
                    have HB:=n1_
                    have HI331:=n2_
                    clear n0_ n1_ n2_
                    (try clear hb)
                    (try clear hb2)
                    (try clear hk)
                    (try clear hi)
                    refine hK.out _ _ trivial (fun hHeld=> ?_)
                    clear hK K
                    refine norm_ (a':= ?_) ?_ ?_
                    rotate_left
                    · show Act.put _ (some 36) _=_
                      simp only[Act.put,List.setIfInBounds_toArray,List.set_cons_zero,List.set_cons_succ,i64_w,i32_w]
                      rfl
                    refine pure_ (i:=6) (N:=some 37) (v:= ?_) (a':= ?_) #[true,true,true,true,true,true,true,true,true,true,false,false,false,false,false] rfl rfl (any_of HT_.out (by kernel_rfl)) (fun _ _ _ h=>h) (Or.inl ⟨by rfl,?_⟩) ?_ ?_
                    rotate_left
                    · intro w'
                      go_simp
                      with_reducible rfl
                    rotate_left
                    · simp only[Act.put,List.setIfInBounds_toArray,List.set_cons_zero,List.set_cons_succ,i64_w,i32_w]
                      rfl
                    refine one_ (i:=10) (N:=some 41) #[true,true,true,true,true,true,true,true,true,true,true,false,false,false,false] rfl rfl (one_of HT_.out (by kernel_rfl)) (by decide) (fun K hK=> ?_)
                    refine goes_ Tryz.func29 (by kernel_rfl) rfl #[.pointer (some ⟨g331,0,none⟩), .int .i64 2] (by rfl) rfl rfl (by(try simp only[List.map_toArray,List.map_cons,List.map_nil]);first|done|rfl|(simp only[List.length_drop,List.length_take];rfl)) ?_
                    with_reducible refine(spec_l1Below.calls g331 t328 t361 t362 2 t363 t364 t365 w _ ?side1 ?side2 A29.out).mono ?_
                    (case side1=>repeat(first|(with_reducible first|exact HI331.out|apply IsS68.alloc|apply IsS68.drewN|apply IsS68.drew|apply IsS68.set_1|apply IsS68.set_2)|exact HI331.out))
                    (case side2=>repeat(first|(with_reducible first|exact HB.out|apply below_alloc|apply pw_below_drewN|apply below_drew1|refine below_set ?_ (IsS68.ge HI331.out))|exact HB.out))
                    rintro e w44 ⟨rfl,hi,hb,hk⟩
                    refine⟨_,rfl,?_⟩
                    have n0_:=Aside0.mk (Kd.R_mono (Kd.R_keep (IsS68.apart (show IsS68 w _ g331 t328 t361 t362 from by repeat(first|(with_reducible first|exact HI331.out|apply IsS68.alloc|apply IsS68.drewN|apply IsS68.drew|apply IsS68.set_1|apply IsS68.set_2)|exact HI331.out)) (by(with_reducible repeat(first|apply Kd.R_alloc|apply Kd.R_drewN|apply Kd.R_drew));first|exact HO359.out|(subst_vars;exact HO359.out)) (by decide)) hk (fun _ h=>h.2)) (fun _ h=>h.1))
                    have n1_:=Aside0.mk (hb)
                    have n2_:=Aside0.mk (hi)
                    clear HO359
                    clear HB
                    clear HI331
                    have HO359:=n0_
                    have HB:=n1_
                    have HI331:=n2_
                    clear n0_ n1_ n2_
                    (try clear hb)
                    (try clear hb2)
                    (try clear hk)
                    (try clear hi)
                    refine hK.out _ _ trivial (fun hHeld=> ?_)
                    clear hK K
                    refine norm_ (a':= ?_) ?_ ?_
                    rotate_left
                    · show Act.put _ (some 41) _=_
                      simp only[Act.put,List.setIfInBounds_toArray,List.set_cons_zero,List.set_cons_succ,i64_w,i32_w]
                      rfl
                    refine pure_ (i:=11) (N:=some 42) (v:= ?_) (a':= ?_) #[true,true,true,true,true,true,true,true,true,true,true,true,false,false,false] rfl rfl (any_of HT_.out (by kernel_rfl)) (fun _ _ _ h=>h) (Or.inl ⟨by rfl,?_⟩) ?_ ?_
                    rotate_left
                    · intro w'
                      go_simp
                      with_reducible rfl
                    rotate_left
                    · simp only[Act.put,List.setIfInBounds_toArray,List.set_cons_zero,List.set_cons_succ,i64_w,i32_w]
                      rfl
                    refine pure_ (i:=12) (N:=some 43) (v:= ?_) (a':= ?_) #[true,true,true,true,true,true,true,true,true,true,true,true,true,false,false] rfl rfl (any_of HT_.out (by kernel_rfl)) (fun _ _ _ h=>h) (Or.inl ⟨by rfl,?_⟩) ?_ ?_
                    rotate_left
                    · intro w'
                      go_simp
                      with_reducible rfl
                    rotate_left
                    · simp only[Act.put,List.setIfInBounds_toArray,List.set_cons_zero,List.set_cons_succ,i64_w,i32_w]
                      rfl
                    refine pure_ (i:=13) (N:=some 44) (v:= ?_) (a':= ?_) #[true,true,true,true,true,true,true,true,true,true,true,true,true,true,false] rfl rfl (any_of HT_.out (by kernel_rfl)) (fun _ _ _ h=>h) (Or.inl ⟨by rfl,?_⟩) ?_ ?_
                    rotate_left
                    · intro w'
                      go_simp
                      with_reducible rfl
                    rotate_left
                    · simp only[Act.put,List.setIfInBounds_toArray,List.set_cons_zero,List.set_cons_succ,i64_w,i32_w]
                      rfl
                    refine pure_ (i:=14) (N:=some 4) (v:= ?_) (a':= ?_) #[true,true,true,true,true,true,true,true,true,true,true,true,true,true,true] rfl rfl (any_of HT_.out (by kernel_rfl)) (fun _ _ _ h=>h) (Or.inl ⟨by rfl,?_⟩) ?_ ?_
                    rotate_left
                    · intro w'
                      go_simp
                      with_reducible rfl
                    rotate_left
                    · simp only[Act.put,List.setIfInBounds_toArray,List.set_cons_zero,List.set_cons_succ,i64_w,i32_w]
                      rfl
                    refine done_ (done_of HT_.out (by kernel_rfl)) ?_
                    try go_wp2
                    go_ret
                    exact⟨by first|rfl|(simp[errW_none,errW_some]<;>rfl)|(simp only[←hji30];first|rfl|(simp[errW_none,errW_some]<;>rfl))|(simp[*,errW_none,errW_some]<;>rfl),by repeat(first|(with_reducible first|exact HB.out|apply below_alloc|apply pw_below_drewN|apply below_drew1|refine below_set ?_ (IsS68.ge HI331.out))|exact HB.out)⟩
                  · rw[if_neg c33] at H
                    exact absurd H (by simp)
                · rw[if_neg c32] at H
                  exact absurd H (by simp)
              · rw[if_neg c31] at H
                exact absurd H (by simp)
            · rw[if_neg c28] at H
              exact absurd H (by simp)
          · rw[if_neg c26] at H
            exact absurd H (by simp)
        · rw[if_neg c25] at H
          exact absurd H (by simp)
      · rw[if_neg c23] at H
        have c23b0:decide (0<(t338.size:Int))=false:=decide_eq_false c23
        have c23b1:decide (0<t338.size)=false:=decide_eq_false (by omega)
        clear c23
        obtain rfl:=Option.some.inj H
        go_enter Tryz.func9,Tryz.ntmps9
        go_wp2_with (first|((with_reducible refine gate_callee (f:=13) rfl ?_);refine goesL_ (some 7) rfl rfl Tryz.func13 (by kernel_rfl) rfl #[.slice A0 l0.length c0] rfl (by(try simp only[List.map_toArray,List.map_cons,List.map_nil]);first|done|rfl|(simp only[List.length_drop,List.length_take];rfl)) ?_;(with_reducible refine(spec_l1New.calls k _ _ l0 t328 t329 t330 w _ ?side1 ?side2 ?side3 A2.out).mono ?_);(case side1=>repeat(first|(with_reducible first|exact HB.out|apply below_alloc|apply pw_below_drewN|apply below_drew1)|exact HB.out));(case side2=>exact HR0.out);(case side3=>exact HC0.out);rintro e w45 ⟨g331,rfl,hi,hb,hb2⟩;refine⟨_,rfl,?_⟩;have n0_:=Aside0.mk (hb);have n1_:=Aside0.mk (hi);clear HB;have HB:=n0_;have HI331:=n1_;clear n0_ n1_;(try clear hb);(try clear hb2);(try clear hk);(try clear hi))|((with_reducible refine gate_callee (f:=12) rfl ?_);refine goesL_ (some 9) rfl rfl Tryz.func12 (by kernel_rfl) rfl #[.pointer (some ⟨g331,0,none⟩)] rfl (by(try simp only[List.map_toArray,List.map_cons,List.map_nil]);first|done|rfl|(simp only[List.length_drop,List.length_take];rfl)) ?_;(with_reducible refine(spec_l20DrawQty.calls k g331 t328 t329 t330 t332 t333 t334 t335 t336 t337 w _ ?side1 ?side2 A3.out).mono ?_);(case side1=>repeat(first|(with_reducible first|exact HI331.out|apply IsS68.alloc|apply IsS68.drewN|apply IsS68.drew|apply IsS68.set_1|apply IsS68.set_2)|exact HI331.out));(case side2=>repeat(first|(with_reducible first|exact HB.out|apply below_alloc|apply pw_below_drewN|apply below_drew1|refine below_set ?_ (IsS68.ge HI331.out))|exact HB.out));rintro e w46 ⟨rfl,hi,hb,hk⟩;refine⟨_,rfl,?_⟩;have n0_:=Aside0.mk (hb);have n1_:=Aside0.mk (hi);clear HB;clear HI331;have HB:=n0_;have HI331:=n1_;clear n0_ n1_;(try clear hb);(try clear hb2);(try clear hk);(try clear hi))|((with_reducible refine gate_callee (f:=7) rfl ?_);refine goesL_ (some 10) rfl rfl Tryz.func7 (by kernel_rfl) rfl #[.agg #[.int .i64 t332, .int .i64 t333, .int .i64 t334, .int .i64 t335]] rfl (by(try simp only[List.map_toArray,List.map_cons,List.map_nil]);first|done|rfl|(simp only[List.length_drop,List.length_take];rfl)) ?_;(with_reducible refine(spec_ShowQty.calls k t332 t333 t334 t335 t338 _ A4.out).mono ?_);rintro e w47 ⟨rfl,hb⟩;refine⟨_,rfl,?_⟩;have n0_:=Aside0.mk (IsS68.below (by repeat(first|(with_reducible first|exact HI331.out|apply IsS68.alloc|apply IsS68.drewN|apply IsS68.drew|apply IsS68.set_1|apply IsS68.set_2)|exact HI331.out)) hb);have n1_:=Aside0.mk (below_step (by repeat(first|(with_reducible first|exact HB.out|apply below_alloc|apply pw_below_drewN|apply below_drew1|refine below_set ?_ (IsS68.ge HI331.out))|exact HB.out)) hb);clear HI331;clear HB;have HI331:=n0_;have HB:=n1_;clear n0_ n1_;(try clear hb);(try clear hb2);(try clear hk);(try clear hi))|((with_reducible refine gate_callee (f:=29) rfl ?_);refine goesL_ (some 12) rfl rfl Tryz.func29 (by kernel_rfl) rfl #[.pointer (some ⟨g331,0,none⟩), .int .i64 4] rfl (by(try simp only[List.map_toArray,List.map_cons,List.map_nil]);first|done|rfl|(simp only[List.length_drop,List.length_take];rfl)) ?_;(with_reducible refine(spec_l1Below.calls g331 t328 t336 t337 4 t339 t340 t341 w _ ?side1 ?side2 A5.out).mono ?_);(case side1=>repeat(first|(with_reducible first|exact HI331.out|apply IsS68.alloc|apply IsS68.drewN|apply IsS68.drew|apply IsS68.set_1|apply IsS68.set_2)|exact HI331.out));(case side2=>repeat(first|(with_reducible first|exact HB.out|apply below_alloc|apply pw_below_drewN|apply below_drew1|refine below_set ?_ (IsS68.ge HI331.out))|exact HB.out));rintro e w48 ⟨rfl,hi,hb,hk⟩;refine⟨_,rfl,?_⟩;have n0_:=Aside0.mk (hb);have n1_:=Aside0.mk (hi);clear HB;clear HI331;have HB:=n0_;have HI331:=n1_;clear n0_ n1_;(try clear hb);(try clear hb2);(try clear hk);(try clear hi)))
        go_ret
        exact⟨by first|rfl|(simp[errW_none,errW_some]<;>rfl)|(simp[*,errW_none,errW_some]<;>rfl),by repeat(first|(with_reducible first|exact HB.out|apply below_alloc|apply pw_below_drewN|apply below_drew1|refine below_set ?_ (IsS68.ge HI331.out))|exact HB.out)⟩
    · rw[if_neg c22] at H
      have c22b0:(t339==1)=false:=beq_eq_false_iff_ne.mpr c22
      have c22b1:(t339 != 1)=true:=bne_iff_ne.mpr c22
      by_cases c49:t339=2
      · rw[if_pos c49] at H
        have c49b0:(t339==2)=true:=beq_iff_eq.mpr c49
        have c49b1:(t339 != 2)=false:=bne_eq_false_iff_eq.mpr c49
        clear c49
        obtain⟨y366,hy366⟩:∃y_:List ByteArray,y_=(([(⟨#[]⟩:ByteArray),(⟨#[45]⟩:ByteArray),(⟨#[48]⟩:ByteArray),(⟨#[45,48]⟩:ByteArray),(⟨#[48,48]⟩:ByteArray),(⟨#[49,46]⟩:ByteArray),(⟨#[46,53]⟩:ByteArray),(⟨#[49,46,53,48]⟩:ByteArray),(⟨#[49,50,51,52,53,54,55,56,57]⟩:ByteArray),(⟨#[49,50,51,52,53,54,55,56,57,48]⟩:ByteArray),(⟨#[48,46,49,50,51,52,53,54,55,56]⟩:ByteArray),(⟨#[48,46,49,50,51,52,53,54,55,56,57]⟩:ByteArray),(⟨#[49,48,48,48,48,48,48,48,48,48]⟩:ByteArray)]:List ByteArray)):=⟨_,rfl⟩
        replace H:((spec_l1Pick.f t328 t340 t341 y366).bind fun bt369=>(some bt369.1))=some r:=by first|(rw[hy366];with_reducible exact H)|(have H2_:=(Option.bind_some _ _).symm.trans H;rw[hy366];with_reducible exact H2_)|(have H2_:=(Option.bind_some _ _).symm.trans H;with_reducible exact H2_)|with_reducible exact H|(rw[hy366];exact H)|exact H
        have Ny366:=Aside0.mk hy366
        clear hy366
        replace H:=Option.bind_eq_some_iff.mp H
        obtain⟨⟨t369,t370,t371⟩,A500,H⟩:=H
        replace H:(some t369)=some r:=H
        have A50:=Aside0.mk A500
        clear A500
        obtain rfl:=Option.some.inj H
        go_enter Tryz.func9,Tryz.ntmps9
        go_wp2_with (first|((with_reducible refine gate_callee (f:=13) rfl ?_);refine goesL_ (some 7) rfl rfl Tryz.func13 (by kernel_rfl) rfl #[.slice A0 l0.length c0] rfl (by(try simp only[List.map_toArray,List.map_cons,List.map_nil]);first|done|rfl|(simp only[List.length_drop,List.length_take];rfl)) ?_;(with_reducible refine(spec_l1New.calls k _ _ l0 t328 t329 t330 w _ ?side1 ?side2 ?side3 A2.out).mono ?_);(case side1=>repeat(first|(with_reducible first|exact HB.out|apply below_alloc|apply pw_below_drewN|apply below_drew1)|exact HB.out));(case side2=>exact HR0.out);(case side3=>exact HC0.out);rintro e w51 ⟨g331,rfl,hi,hb,hb2⟩;refine⟨_,rfl,?_⟩;have n0_:=Aside0.mk (hb);have n1_:=Aside0.mk (hi);clear HB;have HB:=n0_;have HI331:=n1_;clear n0_ n1_;(try clear hb);(try clear hb2);(try clear hk);(try clear hi))|((with_reducible refine gate_callee (f:=12) rfl ?_);refine goesL_ (some 9) rfl rfl Tryz.func12 (by kernel_rfl) rfl #[.pointer (some ⟨g331,0,none⟩)] rfl (by(try simp only[List.map_toArray,List.map_cons,List.map_nil]);first|done|rfl|(simp only[List.length_drop,List.length_take];rfl)) ?_;(with_reducible refine(spec_l20DrawQty.calls k g331 t328 t329 t330 t332 t333 t334 t335 t336 t337 w _ ?side1 ?side2 A3.out).mono ?_);(case side1=>repeat(first|(with_reducible first|exact HI331.out|apply IsS68.alloc|apply IsS68.drewN|apply IsS68.drew|apply IsS68.set_1|apply IsS68.set_2)|exact HI331.out));(case side2=>repeat(first|(with_reducible first|exact HB.out|apply below_alloc|apply pw_below_drewN|apply below_drew1|refine below_set ?_ (IsS68.ge HI331.out))|exact HB.out));rintro e w52 ⟨rfl,hi,hb,hk⟩;refine⟨_,rfl,?_⟩;have n0_:=Aside0.mk (hb);have n1_:=Aside0.mk (hi);clear HB;clear HI331;have HB:=n0_;have HI331:=n1_;clear n0_ n1_;(try clear hb);(try clear hb2);(try clear hk);(try clear hi))|((with_reducible refine gate_callee (f:=7) rfl ?_);refine goesL_ (some 10) rfl rfl Tryz.func7 (by kernel_rfl) rfl #[.agg #[.int .i64 t332, .int .i64 t333, .int .i64 t334, .int .i64 t335]] rfl (by(try simp only[List.map_toArray,List.map_cons,List.map_nil]);first|done|rfl|(simp only[List.length_drop,List.length_take];rfl)) ?_;(with_reducible refine(spec_ShowQty.calls k t332 t333 t334 t335 t338 _ A4.out).mono ?_);rintro e w53 ⟨rfl,hb⟩;refine⟨_,rfl,?_⟩;have n0_:=Aside0.mk (IsS68.below (by repeat(first|(with_reducible first|exact HI331.out|apply IsS68.alloc|apply IsS68.drewN|apply IsS68.drew|apply IsS68.set_1|apply IsS68.set_2)|exact HI331.out)) hb);have n1_:=Aside0.mk (below_step (by repeat(first|(with_reducible first|exact HB.out|apply below_alloc|apply pw_below_drewN|apply below_drew1|refine below_set ?_ (IsS68.ge HI331.out))|exact HB.out)) hb);clear HI331;clear HB;have HI331:=n0_;have HB:=n1_;clear n0_ n1_;(try clear hb);(try clear hb2);(try clear hk);(try clear hi))|((with_reducible refine gate_callee (f:=29) rfl ?_);refine goesL_ (some 12) rfl rfl Tryz.func29 (by kernel_rfl) rfl #[.pointer (some ⟨g331,0,none⟩), .int .i64 4] rfl (by(try simp only[List.map_toArray,List.map_cons,List.map_nil]);first|done|rfl|(simp only[List.length_drop,List.length_take];rfl)) ?_;(with_reducible refine(spec_l1Below.calls g331 t328 t336 t337 4 t339 t340 t341 w _ ?side1 ?side2 A5.out).mono ?_);(case side1=>repeat(first|(with_reducible first|exact HI331.out|apply IsS68.alloc|apply IsS68.drewN|apply IsS68.drew|apply IsS68.set_1|apply IsS68.set_2)|exact HI331.out));(case side2=>repeat(first|(with_reducible first|exact HB.out|apply below_alloc|apply pw_below_drewN|apply below_drew1|refine below_set ?_ (IsS68.ge HI331.out))|exact HB.out));rintro e w54 ⟨rfl,hi,hb,hk⟩;refine⟨_,rfl,?_⟩;have n0_:=Aside0.mk (hb);have n1_:=Aside0.mk (hi);clear HB;clear HI331;have HB:=n0_;have HI331:=n1_;clear n0_ n1_;(try clear hb);(try clear hb2);(try clear hk);(try clear hi))|((with_reducible refine gate_dst (N:=48) rfl ?_);refine Kd.R_lit Kd.string _ 9 ?hg (N:=48) ?hd (xs:=([(⟨#[]⟩:ByteArray),(⟨#[45]⟩:ByteArray),(⟨#[48]⟩:ByteArray),(⟨#[45,48]⟩:ByteArray),(⟨#[48,48]⟩:ByteArray),(⟨#[49,46]⟩:ByteArray),(⟨#[46,53]⟩:ByteArray),(⟨#[49,46,53,48]⟩:ByteArray),(⟨#[49,50,51,52,53,54,55,56,57]⟩:ByteArray),(⟨#[49,50,51,52,53,54,55,56,57,48]⟩:ByteArray),(⟨#[48,46,49,50,51,52,53,54,55,56]⟩:ByteArray),(⟨#[48,46,49,50,51,52,53,54,55,56,57]⟩:ByteArray),(⟨#[49,48,48,48,48,48,48,48,48,48]⟩:ByteArray)]:List ByteArray)) (inner:=[.string (⟨#[]⟩:ByteArray), .string (⟨#[45]⟩:ByteArray), .string (⟨#[48]⟩:ByteArray), .string (⟨#[45,48]⟩:ByteArray), .string (⟨#[48,48]⟩:ByteArray), .string (⟨#[49,46]⟩:ByteArray), .string (⟨#[46,53]⟩:ByteArray), .string (⟨#[49,46,53,48]⟩:ByteArray), .string (⟨#[49,50,51,52,53,54,55,56,57]⟩:ByteArray), .string (⟨#[49,50,51,52,53,54,55,56,57,48]⟩:ByteArray), .string (⟨#[48,46,49,50,51,52,53,54,55,56]⟩:ByteArray), .string (⟨#[48,46,49,50,51,52,53,54,55,56,57]⟩:ByteArray), .string (⟨#[49,48,48,48,48,48,48,48,48,48]⟩:ByteArray)]) (ok:=fun _=>True) (okp:=fun _=>True) ?hr ?hp (fun _ hk=>hk) trivial (Below.refl _ _) (Nat.le_refl _) (by simp) ?_;(case hd=>rfl);(case hg=>rfl);(case hr=>first|(go_simp;done)|(go_simp;rfl));(case hp=>exact(Reps.one (show Kd.M Kd.string _ _ _ (⟨#[]⟩:ByteArray) [.string (⟨#[]⟩:ByteArray)] from rfl) (Reps.one (show Kd.M Kd.string _ _ _ (⟨#[45]⟩:ByteArray) [.string (⟨#[45]⟩:ByteArray)] from rfl) (Reps.one (show Kd.M Kd.string _ _ _ (⟨#[48]⟩:ByteArray) [.string (⟨#[48]⟩:ByteArray)] from rfl) (Reps.one (show Kd.M Kd.string _ _ _ (⟨#[45,48]⟩:ByteArray) [.string (⟨#[45,48]⟩:ByteArray)] from rfl) (Reps.one (show Kd.M Kd.string _ _ _ (⟨#[48,48]⟩:ByteArray) [.string (⟨#[48,48]⟩:ByteArray)] from rfl) (Reps.one (show Kd.M Kd.string _ _ _ (⟨#[49,46]⟩:ByteArray) [.string (⟨#[49,46]⟩:ByteArray)] from rfl) (Reps.one (show Kd.M Kd.string _ _ _ (⟨#[46,53]⟩:ByteArray) [.string (⟨#[46,53]⟩:ByteArray)] from rfl) (Reps.one (show Kd.M Kd.string _ _ _ (⟨#[49,46,53,48]⟩:ByteArray) [.string (⟨#[49,46,53,48]⟩:ByteArray)] from rfl) (Reps.one (show Kd.M Kd.string _ _ _ (⟨#[49,50,51,52,53,54,55,56,57]⟩:ByteArray) [.string (⟨#[49,50,51,52,53,54,55,56,57]⟩:ByteArray)] from rfl) (Reps.one (show Kd.M Kd.string _ _ _ (⟨#[49,50,51,52,53,54,55,56,57,48]⟩:ByteArray) [.string (⟨#[49,50,51,52,53,54,55,56,57,48]⟩:ByteArray)] from rfl) (Reps.one (show Kd.M Kd.string _ _ _ (⟨#[48,46,49,50,51,52,53,54,55,56]⟩:ByteArray) [.string (⟨#[48,46,49,50,51,52,53,54,55,56]⟩:ByteArray)] from rfl) (Reps.one (show Kd.M Kd.string _ _ _ (⟨#[48,46,49,50,51,52,53,54,55,56,57]⟩:ByteArray) [.string (⟨#[48,46,49,50,51,52,53,54,55,56,57]⟩:ByteArray)] from rfl) (Reps.one (show Kd.M Kd.string _ _ _ (⟨#[49,48,48,48,48,48,48,48,48,48]⟩:ByteArray) [.string (⟨#[49,48,48,48,48,48,48,48,48,48]⟩:ByteArray)] from rfl) (Reps.none _ _)))))))))))))));intro v367 w55 ho56 hb hg_ hnew_;clear hg_ hnew_;(first|rw[←Ny366.out] at ho56|(simp only[Int.reduceToNat] at ho56;rw[←Ny366.out] at ho56));have n0_:=Aside0.mk (Kd.R_lower ho56 (below_size (by repeat(first|(with_reducible first|exact HB.out|apply below_alloc|apply pw_below_drewN|apply below_drew1|refine below_set ?_ (IsS68.ge HI331.out))|exact HB.out))));have n1_:=Aside0.mk (IsS68.below (by repeat(first|(with_reducible first|exact HI331.out|apply IsS68.alloc|apply IsS68.drewN|apply IsS68.drew|apply IsS68.set_1|apply IsS68.set_2)|exact HI331.out)) hb);have n2_:=Aside0.mk (below_step (by repeat(first|(with_reducible first|exact HB.out|apply below_alloc|apply pw_below_drewN|apply below_drew1|refine below_set ?_ (IsS68.ge HI331.out))|exact HB.out)) hb);clear HI331;clear HB;have HO368:=n0_;have HI331:=n1_;have HB:=n2_;clear n0_ n1_ n2_;clear hb ho56;obtain⟨Ao57,co57,eo57⟩:=Kd.R_slice HO368.out;subst eo57)|((with_reducible refine gate_callee (f:=30) rfl ?_);refine goesL_ (some 49) rfl rfl Tryz.func30 (by kernel_rfl) rfl #[.pointer (some ⟨g331,0,none⟩), .slice Ao57 y366.length co57] rfl (by(try simp only[List.map_toArray,List.map_cons,List.map_nil]);first|done|rfl|(simp only[List.length_drop,List.length_take];rfl)) ?_;(with_reducible refine(spec_l1Pick.calls g331 t328 t340 t341 _ _ y366 t369 t370 t371 w _ ?side1 ?side2 ?side3 ?side4 ?side5 A50.out).mono ?_);(case side1=>repeat(first|(with_reducible first|exact HI331.out|apply IsS68.alloc|apply IsS68.drewN|apply IsS68.drew|apply IsS68.set_1|apply IsS68.set_2)|exact HI331.out));(case side2=>repeat(first|(with_reducible first|exact HB.out|apply below_alloc|apply pw_below_drewN|apply below_drew1|refine below_set ?_ (IsS68.ge HI331.out))|exact HB.out));(case side3=>repeat(first|exact(Kd.R_reads' HO368.out).2.2|(with_reducible refine Kd.C_alloc ?_ _)|(with_reducible refine Kd.C_drewN ?_ _)|(with_reducible refine Kd.C_drew ?_)));(case side4=>exact(Kd.R_reads' HO368.out).2.1);(case side5=>exact far_slice (IsS68.own_ne HI331.out HO368.out (by decide)));rintro e w58 ⟨rfl,hi,hb,hk⟩;refine⟨_,rfl,?_⟩;have n0_:=Aside0.mk (Kd.R_mono (Kd.R_keep (IsS68.apart (show IsS68 w _ g331 t328 t340 t341 from by repeat(first|(with_reducible first|exact HI331.out|apply IsS68.alloc|apply IsS68.drewN|apply IsS68.drew|apply IsS68.set_1|apply IsS68.set_2)|exact HI331.out)) (by(with_reducible repeat(first|apply Kd.R_alloc|apply Kd.R_drewN|apply Kd.R_drew));first|exact HO368.out|(subst_vars;exact HO368.out)) (by decide)) hk (fun _ h=>h.2)) (fun _ h=>h.1));have n1_:=Aside0.mk (hb);have n2_:=Aside0.mk (hi);clear HO368;clear HB;clear HI331;have HO368:=n0_;have HB:=n1_;have HI331:=n2_;clear n0_ n1_ n2_;(try clear hb);(try clear hb2);(try clear hk);(try clear hi)))
        go_ret
        exact⟨by first|rfl|(simp[errW_none,errW_some]<;>rfl)|(simp[*,errW_none,errW_some]<;>rfl),by repeat(first|(with_reducible first|exact HB.out|apply below_alloc|apply pw_below_drewN|apply below_drew1|refine below_set ?_ (IsS68.ge HI331.out))|exact HB.out)⟩
      · rw[if_neg c49] at H
        have c49b0:(t339==2)=false:=beq_eq_false_iff_ne.mpr c49
        have c49b1:(t339 != 2)=true:=bne_iff_ne.mpr c49
        obtain rfl:=Option.some.inj H
        go_enter Tryz.func9,Tryz.ntmps9
        go_wp2_with (first|((with_reducible refine gate_callee (f:=13) rfl ?_);refine goesL_ (some 7) rfl rfl Tryz.func13 (by kernel_rfl) rfl #[.slice A0 l0.length c0] rfl (by(try simp only[List.map_toArray,List.map_cons,List.map_nil]);first|done|rfl|(simp only[List.length_drop,List.length_take];rfl)) ?_;(with_reducible refine(spec_l1New.calls k _ _ l0 t328 t329 t330 w _ ?side1 ?side2 ?side3 A2.out).mono ?_);(case side1=>repeat(first|(with_reducible first|exact HB.out|apply below_alloc|apply pw_below_drewN|apply below_drew1)|exact HB.out));(case side2=>exact HR0.out);(case side3=>exact HC0.out);rintro e w59 ⟨g331,rfl,hi,hb,hb2⟩;refine⟨_,rfl,?_⟩;have n0_:=Aside0.mk (hb);have n1_:=Aside0.mk (hi);clear HB;have HB:=n0_;have HI331:=n1_;clear n0_ n1_;(try clear hb);(try clear hb2);(try clear hk);(try clear hi))|((with_reducible refine gate_callee (f:=12) rfl ?_);refine goesL_ (some 9) rfl rfl Tryz.func12 (by kernel_rfl) rfl #[.pointer (some ⟨g331,0,none⟩)] rfl (by(try simp only[List.map_toArray,List.map_cons,List.map_nil]);first|done|rfl|(simp only[List.length_drop,List.length_take];rfl)) ?_;(with_reducible refine(spec_l20DrawQty.calls k g331 t328 t329 t330 t332 t333 t334 t335 t336 t337 w _ ?side1 ?side2 A3.out).mono ?_);(case side1=>repeat(first|(with_reducible first|exact HI331.out|apply IsS68.alloc|apply IsS68.drewN|apply IsS68.drew|apply IsS68.set_1|apply IsS68.set_2)|exact HI331.out));(case side2=>repeat(first|(with_reducible first|exact HB.out|apply below_alloc|apply pw_below_drewN|apply below_drew1|refine below_set ?_ (IsS68.ge HI331.out))|exact HB.out));rintro e w60 ⟨rfl,hi,hb,hk⟩;refine⟨_,rfl,?_⟩;have n0_:=Aside0.mk (hb);have n1_:=Aside0.mk (hi);clear HB;clear HI331;have HB:=n0_;have HI331:=n1_;clear n0_ n1_;(try clear hb);(try clear hb2);(try clear hk);(try clear hi))|((with_reducible refine gate_callee (f:=7) rfl ?_);refine goesL_ (some 10) rfl rfl Tryz.func7 (by kernel_rfl) rfl #[.agg #[.int .i64 t332, .int .i64 t333, .int .i64 t334, .int .i64 t335]] rfl (by(try simp only[List.map_toArray,List.map_cons,List.map_nil]);first|done|rfl|(simp only[List.length_drop,List.length_take];rfl)) ?_;(with_reducible refine(spec_ShowQty.calls k t332 t333 t334 t335 t338 _ A4.out).mono ?_);rintro e w61 ⟨rfl,hb⟩;refine⟨_,rfl,?_⟩;have n0_:=Aside0.mk (IsS68.below (by repeat(first|(with_reducible first|exact HI331.out|apply IsS68.alloc|apply IsS68.drewN|apply IsS68.drew|apply IsS68.set_1|apply IsS68.set_2)|exact HI331.out)) hb);have n1_:=Aside0.mk (below_step (by repeat(first|(with_reducible first|exact HB.out|apply below_alloc|apply pw_below_drewN|apply below_drew1|refine below_set ?_ (IsS68.ge HI331.out))|exact HB.out)) hb);clear HI331;clear HB;have HI331:=n0_;have HB:=n1_;clear n0_ n1_;(try clear hb);(try clear hb2);(try clear hk);(try clear hi))|((with_reducible refine gate_callee (f:=29) rfl ?_);refine goesL_ (some 12) rfl rfl Tryz.func29 (by kernel_rfl) rfl #[.pointer (some ⟨g331,0,none⟩), .int .i64 4] rfl (by(try simp only[List.map_toArray,List.map_cons,List.map_nil]);first|done|rfl|(simp only[List.length_drop,List.length_take];rfl)) ?_;(with_reducible refine(spec_l1Below.calls g331 t328 t336 t337 4 t339 t340 t341 w _ ?side1 ?side2 A5.out).mono ?_);(case side1=>repeat(first|(with_reducible first|exact HI331.out|apply IsS68.alloc|apply IsS68.drewN|apply IsS68.drew|apply IsS68.set_1|apply IsS68.set_2)|exact HI331.out));(case side2=>repeat(first|(with_reducible first|exact HB.out|apply below_alloc|apply pw_below_drewN|apply below_drew1|refine below_set ?_ (IsS68.ge HI331.out))|exact HB.out));rintro e w62 ⟨rfl,hi,hb,hk⟩;refine⟨_,rfl,?_⟩;have n0_:=Aside0.mk (hb);have n1_:=Aside0.mk (hi);clear HB;clear HI331;have HB:=n0_;have HI331:=n1_;clear n0_ n1_;(try clear hb);(try clear hb2);(try clear hk);(try clear hi)))
        go_ret
        exact⟨by first|rfl|(simp[errW_none,errW_some]<;>rfl)|(simp[*,errW_none,errW_some]<;>rfl),by repeat(first|(with_reducible first|exact HB.out|apply below_alloc|apply pw_below_drewN|apply below_drew1|refine below_set ?_ (IsS68.ge HI331.out))|exact HB.out)⟩

/-! ### spec_l20Begins: function 33 -/
def spec_l20Begins.f (a0:ByteArray) (a1:ByteArray):Option (ByteArray×Bool):=if(a0.size:Int)≥(a1.size:Int) then(if 0≤(a1.size:Int) then(if(a1.size:Int)≤(a0.size:Int) then(if(a0.extract 0 ((a1.size:Int):Int).toNat).toList=a1.toList then(some (a0.extract ((a1.size:Int):Int).toNat a0.size,true)) else(some (a0,false))) else(none)) else(none)) else(some (a0,false))
set_option maxHeartbeats 8000000 in
set_option maxRecDepth 100000 in
theorem spec_l20Begins.calls (a0:ByteArray) (a1:ByteArray) (r1:ByteArray) (r2:Bool) (w:World) (h:spec_l20Begins.f a0 a1=some (r1,r2)):
    Calls Tryz.prog 33 #[.string a0, .string a1] w fun e w'=>e= .returned (.tuple #[.string r1, .bool r2])∧Drawn0 w w':=by
  have H:(if(a0.size:Int)≥(a1.size:Int) then(if 0≤(a1.size:Int) then(if(a1.size:Int)≤(a0.size:Int) then(if(a0.extract 0 ((a1.size:Int):Int).toNat).toList=a1.toList then(some (a0.extract ((a1.size:Int):Int).toNat a0.size,true)) else(some (a0,false))) else(none)) else(none)) else(some (a0,false)))=some (r1,r2):=h
  clear h
  by_cases c3:(a0.size:Int)≥(a1.size:Int)
  · rw [if_pos c3] at H
    have c3b0:decide ((a1.size:Int)≤(a0.size:Int))=true:=decide_eq_true c3
    have c3b1:decide (a1.size≤a0.size)=true:=decide_eq_true (Int.ofNat_le.mp c3)
    clear c3
    by_cases c4:0≤(a1.size:Int)
    · rw [if_pos c4] at H
      have c4b0:=eq_true c4
      have c4b1:decide (0≤(a1.size:Int))=true:=decide_eq_true c4
      clear c4
      by_cases c5:(a1.size:Int)≤(a0.size:Int)
      · rw[if_pos c5] at H
        have c5b0:=eq_true c5
        have c5b1:decide ((a1.size:Int)≤(a0.size:Int))=true:=decide_eq_true c5
        clear c5
        by_cases c6:(a0.extract 0 ((a1.size:Int):Int).toNat).toList=a1.toList
        · rw[if_pos c6] at H
          have c6b0:((a0.extract 0 ((a1.size:Int):Int).toNat).toList==a1.toList)=true:=beq_iff_eq.mpr c6
          have c6b0z:=c6b0
          try simp only[Int.toNat_natCast] at c6b0z
          have c6b1:((a0.extract 0 ((a1.size:Int):Int).toNat).toList != a1.toList)=false:=bne_eq_false_iff_eq.mpr c6
          have c6b1z:=c6b1
          try simp only[Int.toNat_natCast] at c6b1z
          clear c6
          have c7b0:=eq_true (of_decide_eq_true (by first|(with_reducible assumption)|assumption):0≤(a1.size:Int))
          have c8b0:=eq_true (of_decide_eq_true (by first|(with_reducible assumption)|assumption):(a1.size:Int)≤(a0.size:Int))
          simp only[Option.some.injEq,Prod.mk.injEq] at H
          obtain⟨rfl,rfl⟩:=H
          go_enter Tryz.func33,Tryz.ntmps33
          go_wp2
          go_ret2
          exact⟨by first|rfl|(simp;done)|(simp[*];done),by repeat(first|exact Drawn0.refl _|apply Drawn0.step)⟩
        · rw[if_neg c6] at H
          have c6b0:((a0.extract 0 ((a1.size:Int):Int).toNat).toList==a1.toList)=false:=beq_eq_false_iff_ne.mpr c6
          have c6b0z:=c6b0
          try simp only[Int.toNat_natCast] at c6b0z
          have c6b1:((a0.extract 0 ((a1.size:Int):Int).toNat).toList != a1.toList)=true:=bne_iff_ne.mpr c6
          have c6b1z:=c6b1
          try simp only[Int.toNat_natCast] at c6b1z
          simp only[Option.some.injEq,Prod.mk.injEq] at H
          obtain⟨rfl,rfl⟩:=H
          go_enter Tryz.func33,Tryz.ntmps33
          go_wp2
          go_ret2
          exact⟨by first|rfl|(simp;done)|(simp[*];done),by repeat(first|exact Drawn0.refl _|apply Drawn0.step)⟩
      · rw[if_neg c5] at H
        exact absurd H (by simp)
    · rw[if_neg c4] at H
      exact absurd H (by simp)
  · rw[if_neg c3] at H
    have c3b0:decide ((a1.size:Int)≤(a0.size:Int))=false:=decide_eq_false c3
    have c3b1:decide (a1.size≤a0.size)=false:=decide_eq_false (fun h=>c3 (Int.ofNat_le.mpr h))
    clear c3
    simp only[Option.some.injEq,Prod.mk.injEq] at H
    obtain⟨rfl,rfl⟩:=H
    go_enter Tryz.func33,Tryz.ntmps33
    go_wp2
    go_ret2
    exact⟨by first|rfl|(simp;done)|(simp[*];done),by repeat(first|exact Drawn0.refl _|apply Drawn0.step)⟩

/-! ### spec_l2Digit: function 58 -/
def spec_l2Digit.f (a0:Int):Option (Bool):=if a0≥48 then(some (decide (a0≤57))) else(some false)
set_option maxHeartbeats 8000000 in
set_option maxRecDepth 100000 in
theorem spec_l2Digit.calls (a0:Int) (r:Bool) (w:World) (h:spec_l2Digit.f a0=some r):
    Calls Tryz.prog 58 #[.int .u8 a0] w fun e w'=>e= .returned (.bool r)∧Drawn0 w w':=by
  have H:(if a0≥48 then(some (decide (a0≤57))) else(some false))=some r:=h
  clear h
  by_cases c2:a0≥48
  · rw[if_pos c2] at H
    have c2b0:decide (48≤a0)=true:=decide_eq_true c2
    clear c2
    obtain rfl:=Option.some.inj H
    go_enter Tryz.func58,Tryz.ntmps58
    go_wp2
    go_ret
    exact⟨by first|rfl|(simp;done)|(simp[*];done),by repeat(first|exact Drawn0.refl _|apply Drawn0.step)⟩
  · rw[if_neg c2] at H
    have c2b0:decide (48≤a0)=false:=decide_eq_false c2
    clear c2
    obtain rfl:=Option.some.inj H
    go_enter Tryz.func58,Tryz.ntmps58
    go_wp2
    go_ret
    exact⟨by first|rfl|(simp;done)|(simp[*];done),by repeat(first|exact Drawn0.refl _|apply Drawn0.step)⟩

end Go.Proofs.YtanohnlddaneeaaGreatDoor.PFnQtyBack
