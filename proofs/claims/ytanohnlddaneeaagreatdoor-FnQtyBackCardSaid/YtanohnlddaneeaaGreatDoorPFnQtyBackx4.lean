-- Written by a turned copy of the print (see the notes of this repo): plain functions and their walks. Lean checks it.
import Derived.Test.YtanohnlddaneeaaGreatDoorPFnQtyBackx0
import Derived.Test.YtanohnlddaneeaaGreatDoorPFnQtyBackx3
namespace Go.Proofs.YtanohnlddaneeaaGreatDoor.PFnQtyBack
open Go.RowKit Go.Proofs.YtanohnlddaneeaaGreatDoorW.PrintWords Go.Proofs.YtanohnlddaneeaaGreatDoorW.PrintLast Go.Proofs.YtanohnlddaneeaaGreatDoorW.PrintMore
attribute [local go_sem] max2_int min2_int max_two min_two max_three min_three max_four min_four   -- for this text's walks alone
set_option linter.unusedVariables false
set_option linter.unusedSimpArgs false

/-! ### impl_ShowQty: function 6 -/
mutual
def impl_ShowQty.j0:Nat→ByteArray→Int→Int→Int→Int→Option (ByteArray)
  |0,_,_,_,_,_=>none
  |k+1,x3,x226000,x226001,x226002,x226003=>(strings_Replace.f x3 (⟨#[46]⟩:ByteArray) (⟨#[]⟩:ByteArray) 1).bind fun t231=>(if(t231.size:Int)>9 then(some (⟨#[]⟩:ByteArray)) else(if x226000<0 then(if 1+x3.size≤9223372036854775807 then(impl_ShowQty.j1 k ((⟨#[45]⟩:ByteArray)++x3) x226000 x226001 x226002 x226003) else(none)) else(impl_ShowQty.j1 k x3 x226000 x226001 x226002 x226003)))
def impl_ShowQty.j1:Nat→ByteArray→Int→Int→Int→Int→Option (ByteArray)
  |0,_,_,_,_,_=>none
  |k+1,x3,x226000,x226001,x226002,x226003=>(impl_unit.f (⟨#[86]⟩:ByteArray) x226002).bind fun t232=>((impl_unit.f (⟨#[115]⟩:ByteArray) x226003).bind fun t233=>(if t232.toList=([]:List UInt8) then(impl_ShowQty.j2 k x3 t232 t233 false) else(impl_ShowQty.j2 k x3 t232 t233 (t233.toList != ([]:List UInt8)))))
def impl_ShowQty.j2:Nat→ByteArray→ByteArray→ByteArray→Bool→Option (ByteArray)
  |0,_,_,_,_=>none
  |k+1,x3,x5,x6,x66=>if x66=true then(if 1+x5.size≤9223372036854775807 then(if((⟨#[32]⟩:ByteArray)++x5).size+1≤9223372036854775807 then(if(((⟨#[32]⟩:ByteArray)++x5)++(⟨#[42]⟩:ByteArray)).size+x6.size≤9223372036854775807 then(if x3.size+((((⟨#[32]⟩:ByteArray)++x5)++(⟨#[42]⟩:ByteArray))++x6).size≤9223372036854775807 then(some (x3++((((⟨#[32]⟩:ByteArray)++x5)++(⟨#[42]⟩:ByteArray))++x6))) else(none)) else(none)) else(none)) else(none)) else(if x5.toList=([]:List UInt8) then(if x6.toList=([]:List UInt8) then(some x3) else(if 1+x5.size≤9223372036854775807 then(if((⟨#[32]⟩:ByteArray)++x5).size+x6.size≤9223372036854775807 then(if x3.size+(((⟨#[32]⟩:ByteArray)++x5)++x6).size≤9223372036854775807 then(some (x3++(((⟨#[32]⟩:ByteArray)++x5)++x6))) else(none)) else(none)) else(none))) else(if 1+x5.size≤9223372036854775807 then(if((⟨#[32]⟩:ByteArray)++x5).size+x6.size≤9223372036854775807 then(if x3.size+(((⟨#[32]⟩:ByteArray)++x5)++x6).size≤9223372036854775807 then(some (x3++(((⟨#[32]⟩:ByteArray)++x5)++x6))) else(none)) else(none)) else(none)))
end
def impl_ShowQty.f (k:Nat) (a0_0:Int) (a0_1:Int) (a0_2:Int) (a0_3:Int):Option (ByteArray):=(impl_QtyOk.f a0_0 a0_1 a0_2 a0_3).bind fun t226=>(if t226=true then((impl_size.f a0_0).bind fun t227=>((strconv_Itoa_14.f t227).bind fun t228=>(if a0_1≥0 then((strings_Repeat.f (⟨#[48]⟩:ByteArray) a0_1).bind fun t229=>(if t228.size+t229.size≤9223372036854775807 then(impl_ShowQty.j0 k (t228++t229) a0_0 a0_1 a0_2 a0_3) else(none))) else(if(t228.size:Int)≤(wrap64 (-a0_1)) then((strings_Repeat.f (⟨#[48]⟩:ByteArray) (wrap64 ((wrap64 ((wrap64 (-a0_1))+1))-(t228.size:Int)))).bind fun t230=>(if t230.size+t228.size≤9223372036854775807 then(if 0≤(wrap64 (((t230++t228).size:Int)+a0_1)) then(if(wrap64 (((t230++t228).size:Int)+a0_1))≤((t230++t228).size:Int) then(if((t230++t228).extract 0 ((wrap64 (((t230++t228).size:Int)+a0_1)):Int).toNat).size+1≤9223372036854775807 then(if(((t230++t228).extract 0 ((wrap64 (((t230++t228).size:Int)+a0_1)):Int).toNat)++(⟨#[46]⟩:ByteArray)).size+((t230++t228).extract ((wrap64 (((t230++t228).size:Int)+a0_1)):Int).toNat (t230++t228).size).size≤9223372036854775807 then(impl_ShowQty.j0 k ((((t230++t228).extract 0 ((wrap64 (((t230++t228).size:Int)+a0_1)):Int).toNat)++(⟨#[46]⟩:ByteArray))++((t230++t228).extract ((wrap64 (((t230++t228).size:Int)+a0_1)):Int).toNat (t230++t228).size)) a0_0 a0_1 a0_2 a0_3) else(none)) else(none)) else(none)) else(none)) else(none))) else(if 0≤(wrap64 ((t228.size:Int)+a0_1)) then(if(wrap64 ((t228.size:Int)+a0_1))≤(t228.size:Int) then(if(t228.extract 0 ((wrap64 ((t228.size:Int)+a0_1)):Int).toNat).size+1≤9223372036854775807 then(if((t228.extract 0 ((wrap64 ((t228.size:Int)+a0_1)):Int).toNat)++(⟨#[46]⟩:ByteArray)).size+(t228.extract ((wrap64 ((t228.size:Int)+a0_1)):Int).toNat t228.size).size≤9223372036854775807 then(impl_ShowQty.j0 k (((t228.extract 0 ((wrap64 ((t228.size:Int)+a0_1)):Int).toNat)++(⟨#[46]⟩:ByteArray))++(t228.extract ((wrap64 ((t228.size:Int)+a0_1)):Int).toNat t228.size)) a0_0 a0_1 a0_2 a0_3) else(none)) else(none)) else(none)) else(none)))))) else(some (⟨#[]⟩:ByteArray)))
theorem impl_ShowQty.mono_l:∀k,(∀y0 y1 y2 y3 y4,LeO (impl_ShowQty.j0 k y0 y1 y2 y3 y4) (impl_ShowQty.j0 (k+1) y0 y1 y2 y3 y4))∧(∀y0 y1 y2 y3 y4,LeO (impl_ShowQty.j1 k y0 y1 y2 y3 y4) (impl_ShowQty.j1 (k+1) y0 y1 y2 y3 y4))∧(∀y0 y1 y2 y3,LeO (impl_ShowQty.j2 k y0 y1 y2 y3) (impl_ShowQty.j2 (k+1) y0 y1 y2 y3))
  |0=>⟨fun _ _ _ _ _ r h=>by simp[impl_ShowQty.j0] at h,fun _ _ _ _ _ r h=>by simp[impl_ShowQty.j1] at h,fun _ _ _ _ r h=>by simp[impl_ShowQty.j2] at h⟩
  | k +1=>by
    obtain⟨ih0,ih1,ih2⟩:=impl_ShowQty.mono_l k
    refine⟨?_,?_,?_⟩
    · intro y0 y1 y2 y3 y4
      unfold impl_ShowQty.j0
      repeat' first
      |(with_reducible exact ih0 _ _ _ _ _)
      |(with_reducible exact ih1 _ _ _ _ _)
      |(with_reducible exact ih2 _ _ _ _)
      |(with_reducible exact LeO.refl _)
      |(with_reducible exact LeO.none _)
      |(with_reducible refine LeO.ite ?_ ?_)
      |(with_reducible refine LeO.bind ?_ (fun _=> ?_))
      |exact ih0 _ _ _ _ _
      |exact ih1 _ _ _ _ _
      |exact ih2 _ _ _ _
      |exact LeO.none _
      |refine LeO.ite ?_ ?_
      |refine LeO.bind ?_ (fun _=> ?_)
    · intro y0 y1 y2 y3 y4
      unfold impl_ShowQty.j1
      repeat' first
      |(with_reducible exact ih0 _ _ _ _ _)
      |(with_reducible exact ih1 _ _ _ _ _)
      |(with_reducible exact ih2 _ _ _ _)
      |(with_reducible exact LeO.refl _)
      |(with_reducible exact LeO.none _)
      |(with_reducible refine LeO.ite ?_ ?_)
      |(with_reducible refine LeO.bind ?_ (fun _=> ?_))
      |exact ih0 _ _ _ _ _
      |exact ih1 _ _ _ _ _
      |exact ih2 _ _ _ _
      |exact LeO.none _
      |refine LeO.ite ?_ ?_
      |refine LeO.bind ?_ (fun _=> ?_)
    · intro y0 y1 y2 y3
      unfold impl_ShowQty.j2
      repeat' first
      |(with_reducible exact ih0 _ _ _ _ _)
      |(with_reducible exact ih1 _ _ _ _ _)
      |(with_reducible exact ih2 _ _ _ _)
      |(with_reducible exact LeO.refl _)
      |(with_reducible exact LeO.none _)
      |(with_reducible refine LeO.ite ?_ ?_)
      |(with_reducible refine LeO.bind ?_ (fun _=> ?_))
      |exact ih0 _ _ _ _ _
      |exact ih1 _ _ _ _ _
      |exact ih2 _ _ _ _
      |exact LeO.none _
      |refine LeO.ite ?_ ?_
      |refine LeO.bind ?_ (fun _=> ?_)
theorem impl_ShowQty.mono:∀a0 a1 a2 a3 k,LeO (impl_ShowQty.f k a0 a1 a2 a3) (impl_ShowQty.f (k+1) a0 a1 a2 a3):=by
  intro a0 a1 a2 a3 k
  obtain⟨ih0,ih1,ih2⟩:=impl_ShowQty.mono_l k
  unfold impl_ShowQty.f
  repeat' first
      |(with_reducible exact ih0 _ _ _ _ _)
      |(with_reducible exact ih1 _ _ _ _ _)
      |(with_reducible exact ih2 _ _ _ _)
      |(with_reducible exact LeO.refl _)
      |(with_reducible exact LeO.none _)
      |(with_reducible refine LeO.ite ?_ ?_)
      |(with_reducible refine LeO.bind ?_ (fun _=> ?_))
      |exact ih0 _ _ _ _ _
      |exact ih1 _ _ _ _ _
      |exact ih2 _ _ _ _
      |exact LeO.none _
      |refine LeO.ite ?_ ?_
      |refine LeO.bind ?_ (fun _=> ?_)
def impl_ShowQty.T9:Bool×List (List Nat×List Nat):=(true,[([],[]),([],[]),([0,1],[0,1]),([2],[2]),([],[]),([],[]),([4,5],[4,5]),([3,6],[3,6]),([7,0,1,2,3,4,5,6,7],[0,4,7])])
def impl_ShowQty.B9:List Nat:=[0,0,3,7,0,0,48,127,255]
theorem impl_ShowQty.tab9:rtab .any (opsOf Tryz.f6 9)=impl_ShowQty.T9:=by kernel_rfl
theorem impl_ShowQty.bits9:waitsOk impl_ShowQty.T9.2 impl_ShowQty.B9=true:=by kernel_rfl
def impl_ShowQty.T14:Bool×List (List Nat×List Nat):=(true,[([],[]),([0],[0]),([1],[1]),([],[]),([3],[3]),([4,2],[4]),([2,5,0,1,2],[2]),([5,6,0,1,2,3,4,5,6],[5])])
def impl_ShowQty.B14:List Nat:=[0,1,3,0,8,31,63,127]
theorem impl_ShowQty.tab14:rtab .any (opsOf Tryz.f6 14)=impl_ShowQty.T14:=by kernel_rfl
theorem impl_ShowQty.bits14:waitsOk impl_ShowQty.T14.2 impl_ShowQty.B14=true:=by kernel_rfl
set_option maxHeartbeats 8000000 in
set_option maxRecDepth 100000 in
theorem impl_ShowQty.calls (k :Nat) (a0_0:Int) (a0_1:Int) (a0_2:Int) (a0_3:Int) (r:ByteArray) (w:World) (h:impl_ShowQty.f k a0_0 a0_1 a0_2 a0_3=some r) (hG_:Gw w:=by first|exact HG.out|exact Gw.below HG.out (by repeat(first|(with_reducible first|exact HB.out|apply below_alloc|apply pw_below_drewN|apply below_drew1|refine below_set ?_ (Aside0.out (by assumption)))|exact HB.out))):
    Calls Tryz.prog 6 #[.agg #[.int .i64 a0_0, .int .i64 a0_1, .int .i64 a0_2, .int .i64 a0_3]] w fun e w'=>e= .returned (.string r)∧Below w.heap.size w w':=by
  have HG:=Aside0.mk hG_
  clear hG_
  have hu25:=Tryz.underlying25
  have HB:=Aside0.mk (Below.refl w.heap.size w)
  have H:((impl_QtyOk.f a0_0 a0_1 a0_2 a0_3).bind fun t226=>(if t226=true then((impl_size.f a0_0).bind fun t227=>((strconv_Itoa_14.f t227).bind fun t228=>(if a0_1≥0 then((strings_Repeat.f (⟨#[48]⟩:ByteArray) a0_1).bind fun t229=>(if t228.size+t229.size≤9223372036854775807 then(impl_ShowQty.j0 k (t228++t229) a0_0 a0_1 a0_2 a0_3) else(none))) else(if(t228.size:Int)≤(wrap64 (-a0_1)) then((strings_Repeat.f (⟨#[48]⟩:ByteArray) (wrap64 ((wrap64 ((wrap64 (-a0_1))+1))-(t228.size:Int)))).bind fun t230=>(if t230.size+t228.size≤9223372036854775807 then(if 0≤(wrap64 (((t230++t228).size:Int)+a0_1)) then(if(wrap64 (((t230++t228).size:Int)+a0_1))≤((t230++t228).size:Int) then(if((t230++t228).extract 0 ((wrap64 (((t230++t228).size:Int)+a0_1)):Int).toNat).size+1≤9223372036854775807 then(if(((t230++t228).extract 0 ((wrap64 (((t230++t228).size:Int)+a0_1)):Int).toNat)++(⟨#[46]⟩:ByteArray)).size+((t230++t228).extract ((wrap64 (((t230++t228).size:Int)+a0_1)):Int).toNat (t230++t228).size).size≤9223372036854775807 then(impl_ShowQty.j0 k ((((t230++t228).extract 0 ((wrap64 (((t230++t228).size:Int)+a0_1)):Int).toNat)++(⟨#[46]⟩:ByteArray))++((t230++t228).extract ((wrap64 (((t230++t228).size:Int)+a0_1)):Int).toNat (t230++t228).size)) a0_0 a0_1 a0_2 a0_3) else(none)) else(none)) else(none)) else(none)) else(none))) else(if 0≤(wrap64 ((t228.size:Int)+a0_1)) then(if(wrap64 ((t228.size:Int)+a0_1))≤(t228.size:Int) then(if(t228.extract 0 ((wrap64 ((t228.size:Int)+a0_1)):Int).toNat).size+1≤9223372036854775807 then(if((t228.extract 0 ((wrap64 ((t228.size:Int)+a0_1)):Int).toNat)++(⟨#[46]⟩:ByteArray)).size+(t228.extract ((wrap64 ((t228.size:Int)+a0_1)):Int).toNat t228.size).size≤9223372036854775807 then(impl_ShowQty.j0 k (((t228.extract 0 ((wrap64 ((t228.size:Int)+a0_1)):Int).toNat)++(⟨#[46]⟩:ByteArray))++(t228.extract ((wrap64 ((t228.size:Int)+a0_1)):Int).toNat t228.size)) a0_0 a0_1 a0_2 a0_3) else(none)) else(none)) else(none)) else(none)))))) else(some (⟨#[]⟩:ByteArray))))=some r:=h
  clear h
  replace H:=Option.bind_eq_some_iff.mp H
  obtain⟨t226,A20,H⟩:=H
  replace H:(if t226=true then((impl_size.f a0_0).bind fun t227=>((strconv_Itoa_14.f t227).bind fun t228=>(if a0_1≥0 then((strings_Repeat.f (⟨#[48]⟩:ByteArray) a0_1).bind fun t229=>(if t228.size+t229.size≤9223372036854775807 then(impl_ShowQty.j0 k (t228++t229) a0_0 a0_1 a0_2 a0_3) else(none))) else(if(t228.size:Int)≤(wrap64 (-a0_1)) then((strings_Repeat.f (⟨#[48]⟩:ByteArray) (wrap64 ((wrap64 ((wrap64 (-a0_1))+1))-(t228.size:Int)))).bind fun t230=>(if t230.size+t228.size≤9223372036854775807 then(if 0≤(wrap64 (((t230++t228).size:Int)+a0_1)) then(if(wrap64 (((t230++t228).size:Int)+a0_1))≤((t230++t228).size:Int) then(if((t230++t228).extract 0 ((wrap64 (((t230++t228).size:Int)+a0_1)):Int).toNat).size+1≤9223372036854775807 then(if(((t230++t228).extract 0 ((wrap64 (((t230++t228).size:Int)+a0_1)):Int).toNat)++(⟨#[46]⟩:ByteArray)).size+((t230++t228).extract ((wrap64 (((t230++t228).size:Int)+a0_1)):Int).toNat (t230++t228).size).size≤9223372036854775807 then(impl_ShowQty.j0 k ((((t230++t228).extract 0 ((wrap64 (((t230++t228).size:Int)+a0_1)):Int).toNat)++(⟨#[46]⟩:ByteArray))++((t230++t228).extract ((wrap64 (((t230++t228).size:Int)+a0_1)):Int).toNat (t230++t228).size)) a0_0 a0_1 a0_2 a0_3) else(none)) else(none)) else(none)) else(none)) else(none))) else(if 0≤(wrap64 ((t228.size:Int)+a0_1)) then(if(wrap64 ((t228.size:Int)+a0_1))≤(t228.size:Int) then(if(t228.extract 0 ((wrap64 ((t228.size:Int)+a0_1)):Int).toNat).size+1≤9223372036854775807 then(if((t228.extract 0 ((wrap64 ((t228.size:Int)+a0_1)):Int).toNat)++(⟨#[46]⟩:ByteArray)).size+(t228.extract ((wrap64 ((t228.size:Int)+a0_1)):Int).toNat t228.size).size≤9223372036854775807 then(impl_ShowQty.j0 k (((t228.extract 0 ((wrap64 ((t228.size:Int)+a0_1)):Int).toNat)++(⟨#[46]⟩:ByteArray))++(t228.extract ((wrap64 ((t228.size:Int)+a0_1)):Int).toNat t228.size)) a0_0 a0_1 a0_2 a0_3) else(none)) else(none)) else(none)) else(none)))))) else(some (⟨#[]⟩:ByteArray)))=some r:=H
  have A2:=Aside0.mk A20
  clear A20
  by_cases c3:t226=true
  · subst c3
    have H1:((impl_size.f a0_0).bind fun t227=>((strconv_Itoa_14.f t227).bind fun t228=>(if a0_1≥0 then((strings_Repeat.f (⟨#[48]⟩:ByteArray) a0_1).bind fun t229=>(if t228.size+t229.size≤9223372036854775807 then(impl_ShowQty.j0 k (t228++t229) a0_0 a0_1 a0_2 a0_3) else(none))) else(if(t228.size:Int)≤(wrap64 (-a0_1)) then((strings_Repeat.f (⟨#[48]⟩:ByteArray) (wrap64 ((wrap64 ((wrap64 (-a0_1))+1))-(t228.size:Int)))).bind fun t230=>(if t230.size+t228.size≤9223372036854775807 then(if 0≤(wrap64 (((t230++t228).size:Int)+a0_1)) then(if(wrap64 (((t230++t228).size:Int)+a0_1))≤((t230++t228).size:Int) then(if((t230++t228).extract 0 ((wrap64 (((t230++t228).size:Int)+a0_1)):Int).toNat).size+1≤9223372036854775807 then(if(((t230++t228).extract 0 ((wrap64 (((t230++t228).size:Int)+a0_1)):Int).toNat)++(⟨#[46]⟩:ByteArray)).size+((t230++t228).extract ((wrap64 (((t230++t228).size:Int)+a0_1)):Int).toNat (t230++t228).size).size≤9223372036854775807 then(impl_ShowQty.j0 k ((((t230++t228).extract 0 ((wrap64 (((t230++t228).size:Int)+a0_1)):Int).toNat)++(⟨#[46]⟩:ByteArray))++((t230++t228).extract ((wrap64 (((t230++t228).size:Int)+a0_1)):Int).toNat (t230++t228).size)) a0_0 a0_1 a0_2 a0_3) else(none)) else(none)) else(none)) else(none)) else(none))) else(if 0≤(wrap64 ((t228.size:Int)+a0_1)) then(if(wrap64 ((t228.size:Int)+a0_1))≤(t228.size:Int) then(if(t228.extract 0 ((wrap64 ((t228.size:Int)+a0_1)):Int).toNat).size+1≤9223372036854775807 then(if((t228.extract 0 ((wrap64 ((t228.size:Int)+a0_1)):Int).toNat)++(⟨#[46]⟩:ByteArray)).size+(t228.extract ((wrap64 ((t228.size:Int)+a0_1)):Int).toNat t228.size).size≤9223372036854775807 then(impl_ShowQty.j0 k (((t228.extract 0 ((wrap64 ((t228.size:Int)+a0_1)):Int).toNat)++(⟨#[46]⟩:ByteArray))++(t228.extract ((wrap64 ((t228.size:Int)+a0_1)):Int).toNat t228.size)) a0_0 a0_1 a0_2 a0_3) else(none)) else(none)) else(none)) else(none))))))=some r:=by rw[if_pos rfl] at H;exact H
    clear H
    have H:=H1
    clear H1
    replace H:=Option.bind_eq_some_iff.mp H
    obtain⟨t227,A40,H⟩:=H
    replace H:((strconv_Itoa_14.f t227).bind fun t228=>(if a0_1≥0 then((strings_Repeat.f (⟨#[48]⟩:ByteArray) a0_1).bind fun t229=>(if t228.size+t229.size≤9223372036854775807 then(impl_ShowQty.j0 k (t228++t229) a0_0 a0_1 a0_2 a0_3) else(none))) else(if(t228.size:Int)≤(wrap64 (-a0_1)) then((strings_Repeat.f (⟨#[48]⟩:ByteArray) (wrap64 ((wrap64 ((wrap64 (-a0_1))+1))-(t228.size:Int)))).bind fun t230=>(if t230.size+t228.size≤9223372036854775807 then(if 0≤(wrap64 (((t230++t228).size:Int)+a0_1)) then(if(wrap64 (((t230++t228).size:Int)+a0_1))≤((t230++t228).size:Int) then(if((t230++t228).extract 0 ((wrap64 (((t230++t228).size:Int)+a0_1)):Int).toNat).size+1≤9223372036854775807 then(if(((t230++t228).extract 0 ((wrap64 (((t230++t228).size:Int)+a0_1)):Int).toNat)++(⟨#[46]⟩:ByteArray)).size+((t230++t228).extract ((wrap64 (((t230++t228).size:Int)+a0_1)):Int).toNat (t230++t228).size).size≤9223372036854775807 then(impl_ShowQty.j0 k ((((t230++t228).extract 0 ((wrap64 (((t230++t228).size:Int)+a0_1)):Int).toNat)++(⟨#[46]⟩:ByteArray))++((t230++t228).extract ((wrap64 (((t230++t228).size:Int)+a0_1)):Int).toNat (t230++t228).size)) a0_0 a0_1 a0_2 a0_3) else(none)) else(none)) else(none)) else(none)) else(none))) else(if 0≤(wrap64 ((t228.size:Int)+a0_1)) then(if(wrap64 ((t228.size:Int)+a0_1))≤(t228.size:Int) then(if(t228.extract 0 ((wrap64 ((t228.size:Int)+a0_1)):Int).toNat).size+1≤9223372036854775807 then(if((t228.extract 0 ((wrap64 ((t228.size:Int)+a0_1)):Int).toNat)++(⟨#[46]⟩:ByteArray)).size+(t228.extract ((wrap64 ((t228.size:Int)+a0_1)):Int).toNat t228.size).size≤9223372036854775807 then(impl_ShowQty.j0 k (((t228.extract 0 ((wrap64 ((t228.size:Int)+a0_1)):Int).toNat)++(⟨#[46]⟩:ByteArray))++(t228.extract ((wrap64 ((t228.size:Int)+a0_1)):Int).toNat t228.size)) a0_0 a0_1 a0_2 a0_3) else(none)) else(none)) else(none)) else(none)))))=some r:=H
    have A4:=Aside0.mk A40
    clear A40
    replace H:=Option.bind_eq_some_iff.mp H
    obtain⟨t228,A50,H⟩:=H
    replace H:(if a0_1≥0 then((strings_Repeat.f (⟨#[48]⟩:ByteArray) a0_1).bind fun t229=>(if t228.size+t229.size≤9223372036854775807 then(impl_ShowQty.j0 k (t228++t229) a0_0 a0_1 a0_2 a0_3) else(none))) else(if(t228.size:Int)≤(wrap64 (-a0_1)) then((strings_Repeat.f (⟨#[48]⟩:ByteArray) (wrap64 ((wrap64 ((wrap64 (-a0_1))+1))-(t228.size:Int)))).bind fun t230=>(if t230.size+t228.size≤9223372036854775807 then(if 0≤(wrap64 (((t230++t228).size:Int)+a0_1)) then(if(wrap64 (((t230++t228).size:Int)+a0_1))≤((t230++t228).size:Int) then(if((t230++t228).extract 0 ((wrap64 (((t230++t228).size:Int)+a0_1)):Int).toNat).size+1≤9223372036854775807 then(if(((t230++t228).extract 0 ((wrap64 (((t230++t228).size:Int)+a0_1)):Int).toNat)++(⟨#[46]⟩:ByteArray)).size+((t230++t228).extract ((wrap64 (((t230++t228).size:Int)+a0_1)):Int).toNat (t230++t228).size).size≤9223372036854775807 then(impl_ShowQty.j0 k ((((t230++t228).extract 0 ((wrap64 (((t230++t228).size:Int)+a0_1)):Int).toNat)++(⟨#[46]⟩:ByteArray))++((t230++t228).extract ((wrap64 (((t230++t228).size:Int)+a0_1)):Int).toNat (t230++t228).size)) a0_0 a0_1 a0_2 a0_3) else(none)) else(none)) else(none)) else(none)) else(none))) else(if 0≤(wrap64 ((t228.size:Int)+a0_1)) then(if(wrap64 ((t228.size:Int)+a0_1))≤(t228.size:Int) then(if(t228.extract 0 ((wrap64 ((t228.size:Int)+a0_1)):Int).toNat).size+1≤9223372036854775807 then(if((t228.extract 0 ((wrap64 ((t228.size:Int)+a0_1)):Int).toNat)++(⟨#[46]⟩:ByteArray)).size+(t228.extract ((wrap64 ((t228.size:Int)+a0_1)):Int).toNat t228.size).size≤9223372036854775807 then(impl_ShowQty.j0 k (((t228.extract 0 ((wrap64 ((t228.size:Int)+a0_1)):Int).toNat)++(⟨#[46]⟩:ByteArray))++(t228.extract ((wrap64 ((t228.size:Int)+a0_1)):Int).toNat t228.size)) a0_0 a0_1 a0_2 a0_3) else(none)) else(none)) else(none)) else(none))))=some r:=H
    have A5:=Aside0.mk A50
    clear A50
    have HC6:=Aside0.mk H
    clear H
    go_enter Tryz.func6,Tryz.ntmps6
    go_upto_if 16 with(first|((with_reducible refine gate_dst (N:=1) rfl ?_);refine box_event ?hg (N:=1) ?hd (cs:= #[.int .i64 a0_0, .int .i64 a0_1, .int .i64 a0_2, .int .i64 a0_3]) (t:=25) ?hr ?_;(case hd=>rfl);(case hg=>rfl);(case hr=>first|(go_simp;done)|(go_simp;rfl));intro gb225 hg w7 hbox hb;have n0_:=Aside0.mk (below_step (by repeat(first|(with_reducible first|exact HB.out|apply below_alloc|apply pw_below_drewN|apply below_drew1)|exact HB.out)) hb);have n1_:=Aside0.mk (hbox);have n2_:=Aside0.mk ((by rw[hg];exact(below_size (by repeat(first|(with_reducible first|exact HB.out|apply below_alloc|apply pw_below_drewN|apply below_drew1)|exact HB.out))):w.heap.size≤gb225));have n3_:=Aside0.mk ((by rw[hg];exact(below_size (by repeat(first|(with_reducible first|exact HB.out|apply below_alloc|apply pw_below_drewN|apply below_drew1)|exact HB.out))):w.heap.size≤gb225));clear HB;have HB:=n0_;have BK225:=n1_;have GW225:=n2_;have GE225:=n3_;clear n0_ n1_ n2_ n3_;clear hb hbox hg;have hcz8_0:w7.cell? ⟨gb225,0,none⟩=some (.int .i64 a0_0):=(blk_cell BK225.out 0).trans rfl;have hcz8_1:w7.cell? ⟨gb225,1,none⟩=some (.int .i64 a0_1):=(blk_cell BK225.out 1).trans rfl;have hcz8_2:w7.cell? ⟨gb225,2,none⟩=some (.int .i64 a0_2):=(blk_cell BK225.out 2).trans rfl;have hcz8_3:w7.cell? ⟨gb225,3,none⟩=some (.int .i64 a0_3):=(blk_cell BK225.out 3).trans rfl;have hfz8_0:=blk_frozen BK225.out 0;have hfz8_1:=blk_frozen BK225.out 1;have hfz8_2:=blk_frozen BK225.out 2;have hfz8_3:=blk_frozen BK225.out 3)|((with_reducible refine gate_callee (f:=11) rfl ?_);refine goesL_ (some 8) rfl rfl Tryz.func11 (by kernel_rfl) rfl #[.agg #[.int .i64 a0_0, .int .i64 a0_1, .int .i64 a0_2, .int .i64 a0_3]] rfl (by(try simp only[List.map_toArray,List.map_cons,List.map_nil]);first|done|rfl|(simp only[List.length_drop,List.length_take];rfl)) ?_;(with_reducible refine(impl_QtyOk.calls a0_0 a0_1 a0_2 a0_3 true _ A2.out).mono ?_);rintro e w9 ⟨rfl,hb⟩;refine⟨_,rfl,?_⟩;have n0_:=Aside0.mk (blk_below (g:=gb225) (o:= .cells #[.int .i64 a0_0, .int .i64 a0_1, .int .i64 a0_2, .int .i64 a0_3] 25 (0,0)) (by(with_reducible repeat(first|refine blk_drewN ?_ _|refine blk_drew ?_|refine blk_alloc ?_ _));exact BK225.out) hb);have n1_:=Aside0.mk (below_step (by repeat(first|(with_reducible first|exact HB.out|apply below_alloc|apply pw_below_drewN|apply below_drew1|refine below_set ?_ GE225.out)|exact HB.out)) hb);clear BK225;clear HB;have BK225:=n0_;have HB:=n1_;clear n0_ n1_;(try clear hb);(try clear hb2);(try clear hk);(try clear hi);have hcz10_0:w9.cell? ⟨gb225,0,none⟩=some (.int .i64 a0_0):=(blk_cell BK225.out 0).trans rfl;have hcz10_1:w9.cell? ⟨gb225,1,none⟩=some (.int .i64 a0_1):=(blk_cell BK225.out 1).trans rfl;have hcz10_2:w9.cell? ⟨gb225,2,none⟩=some (.int .i64 a0_2):=(blk_cell BK225.out 2).trans rfl;have hcz10_3:w9.cell? ⟨gb225,3,none⟩=some (.int .i64 a0_3):=(blk_cell BK225.out 3).trans rfl;have hfz10_0:=blk_frozen BK225.out 0;have hfz10_1:=blk_frozen BK225.out 1;have hfz10_2:=blk_frozen BK225.out 2;have hfz10_3:=blk_frozen BK225.out 3)|((with_reducible refine gate_callee (f:=15) rfl ?_);refine goesL_ (some 12) rfl rfl Tryz.func15 (by kernel_rfl) rfl #[.int .i64 a0_0] rfl (by(try simp only[List.map_toArray,List.map_cons,List.map_nil]);first|done|rfl|(simp only[List.length_drop,List.length_take];rfl)) ?_;(with_reducible refine(impl_size.calls a0_0 t227 _ A4.out).mono ?_);rintro e w11 ⟨rfl,hb⟩;refine⟨_,rfl,?_⟩;have n0_:=Aside0.mk (blk_below (g:=gb225) (o:= .cells #[.int .i64 a0_0, .int .i64 a0_1, .int .i64 a0_2, .int .i64 a0_3] 25 (0,0)) (by(with_reducible repeat(first|refine blk_drewN ?_ _|refine blk_drew ?_|refine blk_alloc ?_ _));exact BK225.out) hb);have n1_:=Aside0.mk (below_step (by repeat(first|(with_reducible first|exact HB.out|apply below_alloc|apply pw_below_drewN|apply below_drew1|refine below_set ?_ GE225.out)|exact HB.out)) hb);clear BK225;clear HB;have BK225:=n0_;have HB:=n1_;clear n0_ n1_;(try clear hb);(try clear hb2);(try clear hk);(try clear hi))|((with_reducible refine gate_callee (f:=14) rfl ?_);refine goesL_ (some 13) rfl rfl Tryz.func14 (by kernel_rfl) rfl #[.int .i64 t227] rfl (by(try simp only[List.map_toArray,List.map_cons,List.map_nil]);first|done|rfl|(simp only[List.length_drop,List.length_take];rfl)) ?_;(with_reducible refine(strconv_Itoa_14.calls t227 t228 _ A5.out).mono ?_);rintro e w12 ⟨rfl,hb⟩;refine⟨_,rfl,?_⟩;have n0_:=Aside0.mk (blk_below (g:=gb225) (o:= .cells #[.int .i64 a0_0, .int .i64 a0_1, .int .i64 a0_2, .int .i64 a0_3] 25 (0,0)) (by(with_reducible repeat(first|refine blk_drewN ?_ _|refine blk_drew ?_|refine blk_alloc ?_ _));exact BK225.out) hb);have n1_:=Aside0.mk (below_step (by repeat(first|(with_reducible first|exact HB.out|apply below_alloc|apply pw_below_drewN|apply below_drew1|refine below_set ?_ GE225.out)|exact HB.out)) hb);clear BK225;clear HB;have BK225:=n0_;have HB:=n1_;clear n0_ n1_;(try clear hb);(try clear hb2);(try clear hk);(try clear hi);have hcz13_0:w12.cell? ⟨gb225,0,none⟩=some (.int .i64 a0_0):=(blk_cell BK225.out 0).trans rfl;have hcz13_1:w12.cell? ⟨gb225,1,none⟩=some (.int .i64 a0_1):=(blk_cell BK225.out 1).trans rfl;have hcz13_2:w12.cell? ⟨gb225,2,none⟩=some (.int .i64 a0_2):=(blk_cell BK225.out 2).trans rfl;have hcz13_3:w12.cell? ⟨gb225,3,none⟩=some (.int .i64 a0_3):=(blk_cell BK225.out 3).trans rfl;have hfz13_0:=blk_frozen BK225.out 0;have hfz13_1:=blk_frozen BK225.out 1;have hfz13_2:=blk_frozen BK225.out 2;have hfz13_3:=blk_frozen BK225.out 3))
    (try simp only[Act.put,List.setIfInBounds_toArray,List.set_cons_zero,List.set_cons_succ])
    go_cut [3] (fun v3 wc=>∃(kq:Nat) (x3_5:ByteArray),v3= .string x3_5∧Aside0 (impl_ShowQty.j0 kq x3_5 a0_0 a0_1 a0_2 a0_3=some r)∧Aside0 (kq≤k)∧Aside0 (wc.heap[gb225]? =some (.cells #[.int .i64 a0_0, .int .i64 a0_1, .int .i64 a0_2, .int .i64 a0_3] 25 (0,0)))∧Aside0 (Below w.heap.size w wc))
    case first=>
      have H:=HC6.out
      clear HC6
      by_cases c14:a0_1≥0
      · rw[if_pos c14] at H
        have c14b0:decide (0≤a0_1)=true:=decide_eq_true c14
        clear c14
        (first|rw[c14b0]|(simp only[i64_w,i32_w];rw[c14b0])|skip)
        replace H:=Option.bind_eq_some_iff.mp H
        obtain⟨t229,A150,H⟩:=H
        replace H:(if t228.size+t229.size≤9223372036854775807 then(impl_ShowQty.j0 k (t228++t229) a0_0 a0_1 a0_2 a0_3) else(none))=some r:=H
        have A15:=Aside0.mk A150
        clear A150
        by_cases c16:t228.size+t229.size≤9223372036854775807
        · rw[if_pos c16] at H
          have c16b0:=eq_true c16
          have c16b1:decide (t228.size+t229.size≤9223372036854775807)=true:=decide_eq_true c16
          try have c16b2:(9223372036854775807<t228.size+t229.size)=False:=eq_false (Nat.not_lt.2 c16)
          have H':=Aside0.mk H
          clear H
          have hcz17_0:w12.cell? ⟨gb225,0,none⟩=some (.int .i64 a0_0):=(blk_cell BK225.out 0).trans rfl
          have hcz17_1:w12.cell? ⟨gb225,1,none⟩=some (.int .i64 a0_1):=(blk_cell BK225.out 1).trans rfl
          have hcz17_2:w12.cell? ⟨gb225,2,none⟩=some (.int .i64 a0_2):=(blk_cell BK225.out 2).trans rfl
          have hcz17_3:w12.cell? ⟨gb225,3,none⟩=some (.int .i64 a0_3):=(blk_cell BK225.out 3).trans rfl
          have hfz17_0:=blk_frozen BK225.out 0
          have hfz17_1:=blk_frozen BK225.out 1
          have hfz17_2:=blk_frozen BK225.out 2
          have hfz17_3:=blk_frozen BK225.out 3
          go_wp2_with (first|((with_reducible refine gate_callee (f:=16) rfl ?_);refine goesL_ (some 20) rfl rfl Tryz.func16 (by kernel_rfl) rfl #[.string (⟨#[48]⟩:ByteArray), .int .i64 a0_1] rfl (by(try simp only[List.map_toArray,List.map_cons,List.map_nil]);first|done|rfl|(simp only[List.length_drop,List.length_take];rfl)) ?_;(with_reducible refine(strings_Repeat.calls (⟨#[48]⟩:ByteArray) a0_1 t229 _ A15.out).mono ?_);rintro e w18 ⟨rfl,hb⟩;refine⟨_,rfl,?_⟩;have n0_:=Aside0.mk (blk_below (g:=gb225) (o:= .cells #[.int .i64 a0_0, .int .i64 a0_1, .int .i64 a0_2, .int .i64 a0_3] 25 (0,0)) (by(with_reducible repeat(first|refine blk_drewN ?_ _|refine blk_drew ?_|refine blk_alloc ?_ _));exact BK225.out) hb);have n1_:=Aside0.mk (below_step (by repeat(first|(with_reducible first|exact HB.out|apply below_alloc|apply pw_below_drewN|apply below_drew1|refine below_set ?_ GE225.out)|exact HB.out)) hb);clear BK225;clear HB;have BK225:=n0_;have HB:=n1_;clear n0_ n1_;(try clear hb);(try clear hb2);(try clear hk);(try clear hi)))
          go_meet
          case rel=>exact⟨_,(t228++t229),(by first|rfl|(simp;done)|(simp[*];done)),H',⟨by first|omega|exact Nat.le_refl _⟩,⟨by(with_reducible repeat(first|refine blk_drewN ?_ _|refine blk_drew ?_|refine blk_alloc ?_ _));exact BK225.out⟩,⟨by repeat(first|(with_reducible first|exact HB.out|apply below_alloc|apply pw_below_drewN|apply below_drew1|refine below_set ?_ GE225.out)|exact HB.out)⟩⟩
        · rw[if_neg c16] at H
          exact absurd H (by simp)
      · rw [if_neg c14] at H
        have c14b0:decide (0≤a0_1)=false:=decide_eq_false c14
        clear c14
        (first|rw[c14b0]|(simp only[i64_w,i32_w];rw[c14b0])|skip)
        by_cases c19:(t228.size:Int)≤(wrap64 (-a0_1))
        · rw [if_pos c19] at H
          have c19b0:decide ((t228.size:Int)≤(wrap64 (-a0_1)))=true:=decide_eq_true c19
          clear c19
          replace H:=Option.bind_eq_some_iff.mp H
          obtain⟨t230,A200,H⟩:=H
          replace H:(if t230.size+t228.size≤9223372036854775807 then(if 0≤(wrap64 (((t230++t228).size:Int)+a0_1)) then(if(wrap64 (((t230++t228).size:Int)+a0_1))≤((t230++t228).size:Int) then(if((t230++t228).extract 0 ((wrap64 (((t230++t228).size:Int)+a0_1)):Int).toNat).size+1≤9223372036854775807 then(if(((t230++t228).extract 0 ((wrap64 (((t230++t228).size:Int)+a0_1)):Int).toNat)++(⟨#[46]⟩:ByteArray)).size+((t230++t228).extract ((wrap64 (((t230++t228).size:Int)+a0_1)):Int).toNat (t230++t228).size).size≤9223372036854775807 then(impl_ShowQty.j0 k ((((t230++t228).extract 0 ((wrap64 (((t230++t228).size:Int)+a0_1)):Int).toNat)++(⟨#[46]⟩:ByteArray))++((t230++t228).extract ((wrap64 (((t230++t228).size:Int)+a0_1)):Int).toNat (t230++t228).size)) a0_0 a0_1 a0_2 a0_3) else(none)) else(none)) else(none)) else(none)) else(none))=some r:=H
          have A20:=Aside0.mk A200
          clear A200
          by_cases c21:t230.size+t228.size≤9223372036854775807
          · rw [if_pos c21] at H
            have c21b0:=eq_true c21
            have c21b1:decide (t230.size+t228.size≤9223372036854775807)=true:=decide_eq_true c21
            try have c21b2:(9223372036854775807<t230.size+t228.size)=False:=eq_false (Nat.not_lt.2 c21)
            obtain⟨yc22,hyc22⟩:∃y_:ByteArray,t230++t228=y_:=⟨_,rfl⟩
            simp only[hyc22] at H
            obtain⟨ji22,hji22⟩:∃j_:Int,(wrap64 ((yc22.size:Int)+a0_1))=j_:=⟨_,rfl⟩
            replace H:(if 0≤(ji22) then(if(ji22)≤(yc22.size:Int) then(if(yc22.extract 0 ((ji22):Int).toNat).size+1≤9223372036854775807 then(if((yc22.extract 0 ((ji22):Int).toNat)++(⟨#[46]⟩:ByteArray)).size+(yc22.extract ((ji22):Int).toNat yc22.size).size≤9223372036854775807 then(impl_ShowQty.j0 k (((yc22.extract 0 ((ji22):Int).toNat)++(⟨#[46]⟩:ByteArray))++(yc22.extract ((ji22):Int).toNat yc22.size)) a0_0 a0_1 a0_2 a0_3) else(none)) else(none)) else(none)) else(none))=some r:=by first|(rw[hji22] at H;exact H)|(simp only[hji22] at H ⊢;exact H)
            (try rw[hji22] at A20)
            have hji22w:(IntKind.i64.wrap ((yc22.size:Int)+a0_1))=ji22:=(i64_w _).trans hji22
            by_cases c23:0≤(ji22)
            · rw [if_pos c23] at H
              have c23b0:=eq_true c23
              have c23b1:decide (0≤(ji22))=true:=decide_eq_true c23
              clear c23
              by_cases c24:(ji22)≤(yc22.size:Int)
              · rw [if_pos c24] at H
                have c24b0:=eq_true c24
                have c24b1:decide ((ji22)≤(yc22.size:Int))=true:=decide_eq_true c24
                by_cases c25:(yc22.extract 0 ((ji22):Int).toNat).size+1≤9223372036854775807
                · rw [if_pos c25] at H
                  have c25b0:=eq_true c25
                  have c25b1:decide ((yc22.extract 0 ((ji22):Int).toNat).size+1≤9223372036854775807)=true:=decide_eq_true c25
                  try have c25b2:(9223372036854775807<(yc22.extract 0 ((ji22):Int).toNat).size+1)=False:=eq_false (Nat.not_lt.2 c25)
                  try have c25b3:(9223372036854775807<((ji22):Int).toNat+1)=False:=eq_false (by(try have:=of_eq_true c16b0);(try have:=of_eq_true c21b0);(try have:=of_eq_true c23b0);(try have:=of_eq_true c24b0);(try have:=of_eq_true c25b0);have hz_:=c25;simp only[ByteArray.size_append,ByteArray.size_extract,bsz1] at hz_ ⊢;omega)
                  have c26b0:=eq_true (of_decide_eq_true (by first|(with_reducible assumption)|assumption):0≤(ji22))
                  have c27b0:=eq_true (of_decide_eq_true (by first|(with_reducible assumption)|assumption):(ji22)≤(yc22.size:Int))
                  by_cases c28:((yc22.extract 0 ((ji22):Int).toNat)++(⟨#[46]⟩:ByteArray)).size+(yc22.extract ((ji22):Int).toNat yc22.size).size≤9223372036854775807
                  · rw[if_pos c28] at H
                    have c28b0:=eq_true c28
                    have c28b1:decide (((yc22.extract 0 ((ji22):Int).toNat)++(⟨#[46]⟩:ByteArray)).size+(yc22.extract ((ji22):Int).toNat yc22.size).size≤9223372036854775807)=true:=decide_eq_true c28
                    try have c28b2:(9223372036854775807<((yc22.extract 0 ((ji22):Int).toNat)++(⟨#[46]⟩:ByteArray)).size+(yc22.extract ((ji22):Int).toNat yc22.size).size)=False:=eq_false (Nat.not_lt.2 c28)
                    try have c28b3:(9223372036854775807<((ji22):Int).toNat+1+(yc22.size-((ji22):Int).toNat))=False:=eq_false (by(try have:=of_eq_true c16b0);(try have:=of_eq_true c21b0);(try have:=of_eq_true c23b0);(try have:=of_eq_true c24b0);(try have:=of_eq_true c25b0);(try have:=of_eq_true c26b0);(try have:=of_eq_true c27b0);(try have:=of_eq_true c28b0);have hz_:=c28;simp only[ByteArray.size_append,ByteArray.size_extract,bsz1] at hz_ ⊢;omega)
                    have H':=Aside0.mk H
                    clear H
                    have hcz29_0:w12.cell? ⟨gb225,0,none⟩=some (.int .i64 a0_0):=(blk_cell BK225.out 0).trans rfl
                    have hcz29_1:w12.cell? ⟨gb225,1,none⟩=some (.int .i64 a0_1):=(blk_cell BK225.out 1).trans rfl
                    have hcz29_2:w12.cell? ⟨gb225,2,none⟩=some (.int .i64 a0_2):=(blk_cell BK225.out 2).trans rfl
                    have hcz29_3:w12.cell? ⟨gb225,3,none⟩=some (.int .i64 a0_3):=(blk_cell BK225.out 3).trans rfl
                    have hfz29_0:=blk_frozen BK225.out 0
                    have hfz29_1:=blk_frozen BK225.out 1
                    have hfz29_2:=blk_frozen BK225.out 2
                    have hfz29_3:=blk_frozen BK225.out 3
                    try go_wp2_with (first|((with_reducible refine gate_callee (f:=16) rfl ?_);refine goesL_ (some 35) rfl rfl Tryz.func16 (by kernel_rfl) rfl #[.string (⟨#[48]⟩:ByteArray), .int .i64 (wrap64 ((wrap64 ((wrap64 (-a0_1))+1))-(t228.size:Int)))] rfl (by(try simp only[List.map_toArray,List.map_cons,List.map_nil]);first|done|rfl|(simp only[List.length_drop,List.length_take];rfl)) ?_;(with_reducible refine(strings_Repeat.calls (⟨#[48]⟩:ByteArray) (wrap64 ((wrap64 ((wrap64 (-a0_1))+1))-(t228.size:Int))) t230 _ A20.out).mono ?_);rintro e w30 ⟨rfl,hb⟩;refine⟨_,rfl,?_⟩;have n0_:=Aside0.mk (blk_below (g:=gb225) (o:= .cells #[.int .i64 a0_0, .int .i64 a0_1, .int .i64 a0_2, .int .i64 a0_3] 25 (0,0)) (by(with_reducible repeat(first|refine blk_drewN ?_ _|refine blk_drew ?_|refine blk_alloc ?_ _));exact BK225.out) hb);have n1_:=Aside0.mk (below_step (by repeat(first|(with_reducible first|exact HB.out|apply below_alloc|apply pw_below_drewN|apply below_drew1|refine below_set ?_ GE225.out)|exact HB.out)) hb);clear BK225;clear HB;have BK225:=n0_;have HB:=n1_;clear n0_ n1_;(try clear hb);(try clear hb2);(try clear hk);(try clear hi);have hcz31_0:w30.cell? ⟨gb225,0,none⟩=some (.int .i64 a0_0):=(blk_cell BK225.out 0).trans rfl;have hcz31_1:w30.cell? ⟨gb225,1,none⟩=some (.int .i64 a0_1):=(blk_cell BK225.out 1).trans rfl;have hcz31_2:w30.cell? ⟨gb225,2,none⟩=some (.int .i64 a0_2):=(blk_cell BK225.out 2).trans rfl;have hcz31_3:w30.cell? ⟨gb225,3,none⟩=some (.int .i64 a0_3):=(blk_cell BK225.out 3).trans rfl;have hfz31_0:=blk_frozen BK225.out 0;have hfz31_1:=blk_frozen BK225.out 1;have hfz31_2:=blk_frozen BK225.out 2;have hfz31_3:=blk_frozen BK225.out 3))
                    have n0_:=Aside0.mk (blk_drew BK225.out)
                    have n1_:=Aside0.mk (below_drew1 HB.out)
                    clear BK225
                    clear HB
                    have BK225:=n0_
                    have HB:=n1_
                    clear n0_ n1_
                    refine start_ (n:=9) (S:=fun w'=>True) (ds:=[]) #[false,false,false,false,false,false,false,false,false] (by kernel_rfl) rfl rfl trivial (fun hHeld=> ?_);refine with_tabW impl_ShowQty.tab9 impl_ShowQty.bits9 (fun HT_ HW_=> ?_)
                    generalize w30.drew=w32 at BK225 HB hHeld ⊢
                    refine pure_ (i:=0) (N:=some 43) (v:= ?_) (a':= ?_) #[true,false,false,false,false,false,false,false,false] rfl rfl (any_of HT_.out (by kernel_rfl)) (fun _ _ _ h=>h) (Or.inl ⟨by rfl,?_⟩) ?_ ?_
                    rotate_left
                    · intro w'
                      go_simp
                      with_reducible rfl
                    rotate_left
                    · simp only[Act.put,List.setIfInBounds_toArray,List.set_cons_zero,List.set_cons_succ,i64_w,i32_w]
                      rfl
                    refine pure_ (i:=1) (N:=some 44) (v:= ?_) (a':= ?_) #[true,true,false,false,false,false,false,false,false] rfl rfl (any_of HT_.out (by kernel_rfl)) (fun _ _ _ h=>h) (Or.inl ⟨by rfl,?_⟩) ?_ ?_
                    rotate_left
                    · intro w'
                      go_simp
                      with_reducible rfl
                    rotate_left
                    · simp only[Act.put,List.setIfInBounds_toArray,List.set_cons_zero,List.set_cons_succ,i64_w,i32_w]
                      rfl
                    refine pure_ (i:=2) (N:=some 45) (v:= ?_) (a':= ?_) #[true,true,true,false,false,false,false,false,false] rfl rfl (any_of HT_.out (by kernel_rfl)) (fun _ _ _ h=>h) (Or.inl ⟨by rfl,?_⟩) ?_ ?_
                    rotate_left
                    · intro w'
                      go_simp
                      with_reducible rfl
                    rotate_left
                    · simp only[Act.put,List.setIfInBounds_toArray,List.set_cons_zero,List.set_cons_succ,i64_w,i32_w]
                      rfl
                    refine pure_ (i:=3) (N:=some 46) (v:= ?_) (a':= ?_) #[true,true,true,true,false,false,false,false,false] rfl rfl (any_of HT_.out (by kernel_rfl)) (fun _ _ _ h=>h) (Or.inl ⟨by rfl,?_⟩) ?_ ?_
                    rotate_left
                    · intro w'
                      go_simp
                      with_reducible rfl
                    rotate_left
                    · simp only[Act.put,List.setIfInBounds_toArray,List.set_cons_zero,List.set_cons_succ,i64_w,i32_w]
                      rfl
                    refine pure_ (i:=4) (N:=some 47) (v:= ?_) (a':= ?_) #[true,true,true,true,true,false,false,false,false] rfl rfl (any_of HT_.out (by kernel_rfl)) (fun _ _ _ h=>h) (Or.inl ⟨by rfl,?_⟩) ?_ ?_
                    rotate_left
                    · intro w'
                      go_simp
                      with_reducible rfl
                    rotate_left
                    · simp only[Act.put,List.setIfInBounds_toArray,List.set_cons_zero,List.set_cons_succ,i64_w,i32_w]
                      rfl
                    refine pure_ (i:=5) (N:=some 48) (v:= ?_) (a':= ?_) #[true,true,true,true,true,true,false,false,false] rfl rfl (any_of HT_.out (by kernel_rfl)) (fun _ _ _ h=>h) (Or.inl ⟨by rfl,?_⟩) ?_ ?_
                    rotate_left
                    · intro w'
                      go_simp
                      with_reducible rfl
                    rotate_left
                    · simp only[Act.put,List.setIfInBounds_toArray,List.set_cons_zero,List.set_cons_succ,i64_w,i32_w]
                      rfl
                    refine pure_ (i:=6) (N:=some 49) (v:= ?_) (a':= ?_) #[true,true,true,true,true,true,true,false,false] rfl rfl (any_of HT_.out (by kernel_rfl)) (fun _ _ _ h=>h) (Or.inl ⟨by rfl,?_⟩) ?_ ?_
                    rotate_left
                    · intro w'
                      go_simp
                      with_reducible rfl
                    rotate_left
                    · simp only[Act.put,List.setIfInBounds_toArray,List.set_cons_zero,List.set_cons_succ,i64_w,i32_w]
                      rfl
                    refine pure_ (i:=7) (N:=some 50) (v:= ?_) (a':= ?_) #[true,true,true,true,true,true,true,true,false] rfl rfl (any_of HT_.out (by kernel_rfl)) (fun _ _ _ h=>h) (Or.inl ⟨by rfl,?_⟩) ?_ ?_
                    rotate_left
                    · intro w'
                      go_simp
                      with_reducible rfl
                    rotate_left
                    · simp only[Act.put,List.setIfInBounds_toArray,List.set_cons_zero,List.set_cons_succ,i64_w,i32_w]
                      rfl
                    refine pure_ (i:=8) (N:=some 3) (v:= ?_) (a':= ?_) #[true,true,true,true,true,true,true,true,true] rfl rfl (any_of HT_.out (by kernel_rfl)) (fun _ _ _ h=>h) (Or.inl ⟨by rfl,?_⟩) ?_ ?_
                    rotate_left
                    · intro w'
                      go_simp
                      with_reducible rfl
                    rotate_left
                    · simp only[Act.put,List.setIfInBounds_toArray,List.set_cons_zero,List.set_cons_succ,i64_w,i32_w]
                      rfl
                    refine done_ (done_of HT_.out (by kernel_rfl)) ?_
                    try go_wp2
                    go_meet
                    case rel=>exact⟨_,(((yc22.extract 0 ((ji22):Int).toNat)++(⟨#[46]⟩:ByteArray))++(yc22.extract ((ji22):Int).toNat yc22.size)),(by first|rfl|(simp;done)|(simp only[←hji22]<;>(first|rfl|simp))|(simp[*];done)),H',⟨by first|omega|exact Nat.le_refl _⟩,⟨by(with_reducible repeat(first|refine blk_drewN ?_ _|refine blk_drew ?_|refine blk_alloc ?_ _));exact BK225.out⟩,⟨by repeat(first|(with_reducible first|exact HB.out|apply below_alloc|apply pw_below_drewN|apply below_drew1|refine below_set ?_ GE225.out)|exact HB.out)⟩⟩
                  · rw[if_neg c28] at H
                    exact absurd H (by simp)
                · rw[if_neg c25] at H
                  exact absurd H (by simp)
              · rw[if_neg c24] at H
                exact absurd H (by simp)
            · rw[if_neg c23] at H
              exact absurd H (by simp)
          · rw[if_neg c21] at H
            exact absurd H (by simp)
        · rw [if_neg c19] at H
          have c19b0:decide ((t228.size:Int)≤(wrap64 (-a0_1)))=false:=decide_eq_false c19
          clear c19
          obtain⟨ji33,hji33⟩:∃j_:Int,(wrap64 ((t228.size:Int)+a0_1))=j_:=⟨_,rfl⟩
          replace H:(if 0≤(ji33) then(if(ji33)≤(t228.size:Int) then(if(t228.extract 0 ((ji33):Int).toNat).size+1≤9223372036854775807 then(if((t228.extract 0 ((ji33):Int).toNat)++(⟨#[46]⟩:ByteArray)).size+(t228.extract ((ji33):Int).toNat t228.size).size≤9223372036854775807 then(impl_ShowQty.j0 k (((t228.extract 0 ((ji33):Int).toNat)++(⟨#[46]⟩:ByteArray))++(t228.extract ((ji33):Int).toNat t228.size)) a0_0 a0_1 a0_2 a0_3) else(none)) else(none)) else(none)) else(none))=some r:=by first|(rw[hji33] at H;exact H)|(simp only[hji33] at H ⊢;exact H)
          have hji33w:(IntKind.i64.wrap ((t228.size:Int)+a0_1))=ji33:=(i64_w _).trans hji33
          by_cases c34:0≤(ji33)
          · rw [if_pos c34] at H
            have c34b0:=eq_true c34
            have c34b1:decide (0≤(ji33))=true:=decide_eq_true c34
            clear c34
            by_cases c35:(ji33)≤(t228.size:Int)
            · rw [if_pos c35] at H
              have c35b0:=eq_true c35
              have c35b1:decide ((ji33)≤(t228.size:Int))=true:=decide_eq_true c35
              clear c35
              by_cases c36:(t228.extract 0 ((ji33):Int).toNat).size+1≤9223372036854775807
              · rw [if_pos c36] at H
                have c36b0:=eq_true c36
                have c36b1:decide ((t228.extract 0 ((ji33):Int).toNat).size+1≤9223372036854775807)=true:=decide_eq_true c36
                try have c36b2:(9223372036854775807<(t228.extract 0 ((ji33):Int).toNat).size+1)=False:=eq_false (Nat.not_lt.2 c36)
                try have c36b3:(9223372036854775807<((ji33):Int).toNat+1)=False:=eq_false (by(try have:=of_eq_true c34b0);(try have:=of_eq_true c35b0);(try have:=of_eq_true c36b0);have hz_:=c36;simp only[ByteArray.size_append,ByteArray.size_extract,bsz1] at hz_ ⊢;omega)
                have c37b0:=eq_true (of_decide_eq_true (by first|(with_reducible assumption)|assumption):0≤(ji33))
                have c38b0:=eq_true (of_decide_eq_true (by first|(with_reducible assumption)|assumption):(ji33)≤(t228.size:Int))
                by_cases c39:((t228.extract 0 ((ji33):Int).toNat)++(⟨#[46]⟩:ByteArray)).size+(t228.extract ((ji33):Int).toNat t228.size).size≤9223372036854775807
                · rw[if_pos c39] at H
                  have c39b0:=eq_true c39
                  have c39b1:decide (((t228.extract 0 ((ji33):Int).toNat)++(⟨#[46]⟩:ByteArray)).size+(t228.extract ((ji33):Int).toNat t228.size).size≤9223372036854775807)=true:=decide_eq_true c39
                  try have c39b2:(9223372036854775807<((t228.extract 0 ((ji33):Int).toNat)++(⟨#[46]⟩:ByteArray)).size+(t228.extract ((ji33):Int).toNat t228.size).size)=False:=eq_false (Nat.not_lt.2 c39)
                  try have c39b3:(9223372036854775807<((ji33):Int).toNat+1+(t228.size-((ji33):Int).toNat))=False:=eq_false (by(try have:=of_eq_true c34b0);(try have:=of_eq_true c35b0);(try have:=of_eq_true c36b0);(try have:=of_eq_true c37b0);(try have:=of_eq_true c38b0);(try have:=of_eq_true c39b0);have hz_:=c39;simp only[ByteArray.size_append,ByteArray.size_extract,bsz1] at hz_ ⊢;omega)
                  have H':=Aside0.mk H
                  clear H
                  have hcz40_0:w12.cell? ⟨gb225,0,none⟩=some (.int .i64 a0_0):=(blk_cell BK225.out 0).trans rfl
                  have hcz40_1:w12.cell? ⟨gb225,1,none⟩=some (.int .i64 a0_1):=(blk_cell BK225.out 1).trans rfl
                  have hcz40_2:w12.cell? ⟨gb225,2,none⟩=some (.int .i64 a0_2):=(blk_cell BK225.out 2).trans rfl
                  have hcz40_3:w12.cell? ⟨gb225,3,none⟩=some (.int .i64 a0_3):=(blk_cell BK225.out 3).trans rfl
                  have hfz40_0:=blk_frozen BK225.out 0
                  have hfz40_1:=blk_frozen BK225.out 1
                  have hfz40_2:=blk_frozen BK225.out 2
                  have hfz40_3:=blk_frozen BK225.out 3
                  try go_wp2
                  have n0_:=Aside0.mk (blk_drew BK225.out)
                  have n1_:=Aside0.mk (below_drew1 HB.out)
                  clear BK225
                  clear HB
                  have BK225:=n0_
                  have HB:=n1_
                  clear n0_ n1_
                  refine start_ (n:=9) (S:=fun w'=>True) (ds:=[]) #[false,false,false,false,false,false,false,false,false] (by kernel_rfl) rfl rfl trivial (fun hHeld=> ?_);refine with_tabW impl_ShowQty.tab9 impl_ShowQty.bits9 (fun HT_ HW_=> ?_)
                  generalize w12.drew=w41 at BK225 HB hHeld ⊢
                  refine pure_ (i:=0) (N:=some 43) (v:= ?_) (a':= ?_) #[true,false,false,false,false,false,false,false,false] rfl rfl (any_of HT_.out (by kernel_rfl)) (fun _ _ _ h=>h) (Or.inl ⟨by rfl,?_⟩) ?_ ?_
                  rotate_left
                  · intro w'
                    go_simp
                    with_reducible rfl
                  rotate_left
                  · simp only[Act.put,List.setIfInBounds_toArray,List.set_cons_zero,List.set_cons_succ,i64_w,i32_w]
                    rfl
                  refine pure_ (i:=1) (N:=some 44) (v:= ?_) (a':= ?_) #[true,true,false,false,false,false,false,false,false] rfl rfl (any_of HT_.out (by kernel_rfl)) (fun _ _ _ h=>h) (Or.inl ⟨by rfl,?_⟩) ?_ ?_
                  rotate_left
                  · intro w'
                    go_simp
                    with_reducible rfl
                  rotate_left
                  · simp only[Act.put,List.setIfInBounds_toArray,List.set_cons_zero,List.set_cons_succ,i64_w,i32_w]
                    rfl
                  refine pure_ (i:=2) (N:=some 45) (v:= ?_) (a':= ?_) #[true,true,true,false,false,false,false,false,false] rfl rfl (any_of HT_.out (by kernel_rfl)) (fun _ _ _ h=>h) (Or.inl ⟨by rfl,?_⟩) ?_ ?_
                  rotate_left
                  · intro w'
                    go_simp
                    with_reducible rfl
                  rotate_left
                  · simp only[Act.put,List.setIfInBounds_toArray,List.set_cons_zero,List.set_cons_succ,i64_w,i32_w]
                    rfl
                  refine pure_ (i:=3) (N:=some 46) (v:= ?_) (a':= ?_) #[true,true,true,true,false,false,false,false,false] rfl rfl (any_of HT_.out (by kernel_rfl)) (fun _ _ _ h=>h) (Or.inl ⟨by rfl,?_⟩) ?_ ?_
                  rotate_left
                  · intro w'
                    go_simp
                    with_reducible rfl
                  rotate_left
                  · simp only[Act.put,List.setIfInBounds_toArray,List.set_cons_zero,List.set_cons_succ,i64_w,i32_w]
                    rfl
                  refine pure_ (i:=4) (N:=some 47) (v:= ?_) (a':= ?_) #[true,true,true,true,true,false,false,false,false] rfl rfl (any_of HT_.out (by kernel_rfl)) (fun _ _ _ h=>h) (Or.inl ⟨by rfl,?_⟩) ?_ ?_
                  rotate_left
                  · intro w'
                    go_simp
                    with_reducible rfl
                  rotate_left
                  · simp only[Act.put,List.setIfInBounds_toArray,List.set_cons_zero,List.set_cons_succ,i64_w,i32_w]
                    rfl
                  refine pure_ (i:=5) (N:=some 48) (v:= ?_) (a':= ?_) #[true,true,true,true,true,true,false,false,false] rfl rfl (any_of HT_.out (by kernel_rfl)) (fun _ _ _ h=>h) (Or.inl ⟨by rfl,?_⟩) ?_ ?_
                  rotate_left
                  · intro w'
                    go_simp
                    with_reducible rfl
                  rotate_left
                  · simp only[Act.put,List.setIfInBounds_toArray,List.set_cons_zero,List.set_cons_succ,i64_w,i32_w]
                    rfl
                  refine pure_ (i:=6) (N:=some 49) (v:= ?_) (a':= ?_) #[true,true,true,true,true,true,true,false,false] rfl rfl (any_of HT_.out (by kernel_rfl)) (fun _ _ _ h=>h) (Or.inl ⟨by rfl,?_⟩) ?_ ?_
                  rotate_left
                  · intro w'
                    go_simp
                    with_reducible rfl
                  rotate_left
                  · simp only[Act.put,List.setIfInBounds_toArray,List.set_cons_zero,List.set_cons_succ,i64_w,i32_w]
                    rfl
                  refine pure_ (i:=7) (N:=some 50) (v:= ?_) (a':= ?_) #[true,true,true,true,true,true,true,true,false] rfl rfl (any_of HT_.out (by kernel_rfl)) (fun _ _ _ h=>h) (Or.inl ⟨by rfl,?_⟩) ?_ ?_
                  rotate_left
                  · intro w'
                    go_simp
                    with_reducible rfl
                  rotate_left
                  · simp only[Act.put,List.setIfInBounds_toArray,List.set_cons_zero,List.set_cons_succ,i64_w,i32_w]
                    rfl
                  refine pure_ (i:=8) (N:=some 3) (v:= ?_) (a':= ?_) #[true,true,true,true,true,true,true,true,true] rfl rfl (any_of HT_.out (by kernel_rfl)) (fun _ _ _ h=>h) (Or.inl ⟨by rfl,?_⟩) ?_ ?_
                  rotate_left
                  · intro w'
                    go_simp
                    with_reducible rfl
                  rotate_left
                  · simp only[Act.put,List.setIfInBounds_toArray,List.set_cons_zero,List.set_cons_succ,i64_w,i32_w]
                    rfl
                  refine done_ (done_of HT_.out (by kernel_rfl)) ?_
                  try go_wp2
                  go_meet
                  case rel=>exact⟨_,(((t228.extract 0 ((ji33):Int).toNat)++(⟨#[46]⟩:ByteArray))++(t228.extract ((ji33):Int).toNat t228.size)),(by first|rfl|(simp;done)|(simp only[←hji33]<;>(first|rfl|simp))|(simp[*];done)),H',⟨by first|omega|exact Nat.le_refl _⟩,⟨by(with_reducible repeat(first|refine blk_drewN ?_ _|refine blk_drew ?_|refine blk_alloc ?_ _));exact BK225.out⟩,⟨by repeat(first|(with_reducible first|exact HB.out|apply below_alloc|apply pw_below_drewN|apply below_drew1|refine below_set ?_ GE225.out)|exact HB.out)⟩⟩
                · rw[if_neg c39] at H
                  exact absurd H (by simp)
              · rw[if_neg c36] at H
                exact absurd H (by simp)
            · rw[if_neg c35] at H
              exact absurd H (by simp)
          · rw[if_neg c34] at H
            exact absurd H (by simp)
    case rest =>
      clear HC6
      try clear c1
      try clear c2
      try clear p2
      try clear c3
      try clear c6
      try clear p6
      try clear c11
      try clear c14
      try clear c14b0
      try clear c15
      try clear c16
      try clear c16b0
      try clear c16b1
      try clear c16b2
      try clear c19
      try clear c19b0
      try clear c21
      try clear c21b0
      try clear c21b1
      try clear c21b2
      try clear c23
      try clear c23b0
      try clear c23b1
      try clear c24
      try clear c24b0
      try clear c24b1
      try clear c25
      try clear c25b0
      try clear c25b1
      try clear c25b2
      try clear c26
      try clear c26b0
      try clear c27
      try clear c27b0
      try clear c28
      try clear c28b0
      try clear c28b1
      try clear c28b2
      try clear c34
      try clear c34b0
      try clear c34b1
      try clear c35
      try clear c35b0
      try clear c35b1
      try clear c36
      try clear c36b0
      try clear c36b1
      try clear c36b2
      try clear c37
      try clear c37b0
      try clear c38
      try clear c38b0
      try clear c39
      try clear c39b0
      try clear c39b1
      try clear c39b2
      try clear hcz10_0
      try clear hcz10_1
      try clear hcz10_2
      try clear hcz10_3
      try clear hcz13_0
      try clear hcz13_1
      try clear hcz13_2
      try clear hcz13_3
      try clear hcz17_0
      try clear hcz17_1
      try clear hcz17_2
      try clear hcz17_3
      try clear hcz29_0
      try clear hcz29_1
      try clear hcz29_2
      try clear hcz29_3
      try clear hcz31_0
      try clear hcz31_1
      try clear hcz31_2
      try clear hcz31_3
      try clear hcz40_0
      try clear hcz40_1
      try clear hcz40_2
      try clear hcz40_3
      try clear hcz8_0
      try clear hcz8_1
      try clear hcz8_2
      try clear hcz8_3
      try clear hfz10_0
      try clear hfz10_1
      try clear hfz10_2
      try clear hfz10_3
      try clear hfz13_0
      try clear hfz13_1
      try clear hfz13_2
      try clear hfz13_3
      try clear hfz17_0
      try clear hfz17_1
      try clear hfz17_2
      try clear hfz17_3
      try clear hfz29_0
      try clear hfz29_1
      try clear hfz29_2
      try clear hfz29_3
      try clear hfz31_0
      try clear hfz31_1
      try clear hfz31_2
      try clear hfz31_3
      try clear hfz40_0
      try clear hfz40_1
      try clear hfz40_2
      try clear hfz40_3
      try clear hfz8_0
      try clear hfz8_1
      try clear hfz8_2
      try clear hfz8_3
      obtain⟨kq,x3_5,rfl,HA,HJ5,BK225,HB⟩:=hcut
      cases kq with
      |zero=>exact absurd HA.out (by simp[impl_ShowQty.j0])
      | succ kj5=>
        have H:=HA.out
        clear HA
        simp only[impl_ShowQty.j0] at H
        replace H:=Option.bind_eq_some_iff.mp H
        obtain⟨t231,A420,H⟩:=H
        replace H:(if(t231.size:Int)>9 then(some (⟨#[]⟩:ByteArray)) else(if a0_0<0 then(if 1+x3_5.size≤9223372036854775807 then(impl_ShowQty.j1 kj5 ((⟨#[45]⟩:ByteArray)++x3_5) a0_0 a0_1 a0_2 a0_3) else(none)) else(impl_ShowQty.j1 kj5 x3_5 a0_0 a0_1 a0_2 a0_3)))=some r:=H
        have A42:=Aside0.mk A420
        clear A420
        by_cases c43:(t231.size:Int)>9
        · rw[if_pos c43] at H
          have c43b0:decide (9<(t231.size:Int))=true:=decide_eq_true c43
          have c43b1:decide (9<t231.size)=true:=decide_eq_true (by omega)
          clear c43
          obtain rfl:=Option.some.inj H
          go_wp2_with (first|((with_reducible refine gate_callee (f:=17) rfl ?_);refine goesL_ (some 52) rfl rfl Tryz.func17 (by kernel_rfl) rfl #[.string x3_5, .string (⟨#[46]⟩:ByteArray), .string (⟨#[]⟩:ByteArray), .int .i64 1] rfl (by(try simp only[List.map_toArray,List.map_cons,List.map_nil]);first|done|rfl|(simp only[List.length_drop,List.length_take];rfl)) ?_;(with_reducible refine(strings_Replace.calls x3_5 (⟨#[46]⟩:ByteArray) (⟨#[]⟩:ByteArray) 1 t231 _ A42.out).mono ?_);rintro e w44 ⟨rfl,hb⟩;refine⟨_,rfl,?_⟩;have n0_:=Aside0.mk (blk_below (g:=gb225) (o:= .cells #[.int .i64 a0_0, .int .i64 a0_1, .int .i64 a0_2, .int .i64 a0_3] 25 (0,0)) (by(with_reducible repeat(first|refine blk_drewN ?_ _|refine blk_drew ?_|refine blk_alloc ?_ _));exact BK225.out) hb);have n1_:=Aside0.mk (below_step (by repeat(first|(with_reducible first|exact HB.out|apply below_alloc|apply pw_below_drewN|apply below_drew1|refine below_set ?_ GE225.out)|exact HB.out)) hb);clear BK225;clear HB;have BK225:=n0_;have HB:=n1_;clear n0_ n1_;(try clear hb);(try clear hb2);(try clear hk);(try clear hi)))
          go_ret
          exact⟨by first|rfl|(simp[errW_none,errW_some]<;>rfl)|(simp[*,errW_none,errW_some]<;>rfl),by repeat(first|(with_reducible first|exact HB.out|apply below_alloc|apply pw_below_drewN|apply below_drew1|refine below_set ?_ GE225.out)|exact HB.out)⟩
        · rw [if_neg c43] at H
          have c43b0:decide (9<(t231.size:Int))=false:=decide_eq_false c43
          have c43b1:decide (9<t231.size)=false:=decide_eq_false (by omega)
          clear c43
          have HC45:=Aside0.mk H
          clear H
          go_upto_if 57 with(first|((with_reducible refine gate_callee (f:=17) rfl ?_);refine goesL_ (some 52) rfl rfl Tryz.func17 (by kernel_rfl) rfl #[.string x3_5, .string (⟨#[46]⟩:ByteArray), .string (⟨#[]⟩:ByteArray), .int .i64 1] rfl (by(try simp only[List.map_toArray,List.map_cons,List.map_nil]);first|done|rfl|(simp only[List.length_drop,List.length_take];rfl)) ?_;(with_reducible refine(strings_Replace.calls x3_5 (⟨#[46]⟩:ByteArray) (⟨#[]⟩:ByteArray) 1 t231 _ A42.out).mono ?_);rintro e w46 ⟨rfl,hb⟩;refine⟨_,rfl,?_⟩;have n0_:=Aside0.mk (blk_below (g:=gb225) (o:= .cells #[.int .i64 a0_0, .int .i64 a0_1, .int .i64 a0_2, .int .i64 a0_3] 25 (0,0)) (by(with_reducible repeat(first|refine blk_drewN ?_ _|refine blk_drew ?_|refine blk_alloc ?_ _));exact BK225.out) hb);have n1_:=Aside0.mk (below_step (by repeat(first|(with_reducible first|exact HB.out|apply below_alloc|apply pw_below_drewN|apply below_drew1|refine below_set ?_ GE225.out)|exact HB.out)) hb);clear BK225;clear HB;have BK225:=n0_;have HB:=n1_;clear n0_ n1_;(try clear hb);(try clear hb2);(try clear hk);(try clear hi);have hcz47_0:w46.cell? ⟨gb225,0,none⟩=some (.int .i64 a0_0):=(blk_cell BK225.out 0).trans rfl;have hcz47_1:w46.cell? ⟨gb225,1,none⟩=some (.int .i64 a0_1):=(blk_cell BK225.out 1).trans rfl;have hcz47_2:w46.cell? ⟨gb225,2,none⟩=some (.int .i64 a0_2):=(blk_cell BK225.out 2).trans rfl;have hcz47_3:w46.cell? ⟨gb225,3,none⟩=some (.int .i64 a0_3):=(blk_cell BK225.out 3).trans rfl;have hfz47_0:=blk_frozen BK225.out 0;have hfz47_1:=blk_frozen BK225.out 1;have hfz47_2:=blk_frozen BK225.out 2;have hfz47_3:=blk_frozen BK225.out 3))
          (try simp only[Act.put,List.setIfInBounds_toArray,List.set_cons_zero,List.set_cons_succ])
          go_cut [3] (fun v3 wc=>∃(kq:Nat) (x3_44:ByteArray),v3= .string x3_44∧Aside0 (impl_ShowQty.j1 kq x3_44 a0_0 a0_1 a0_2 a0_3=some r)∧Aside0 (kq≤kj5)∧Aside0 (wc.heap[gb225]? =some (.cells #[.int .i64 a0_0, .int .i64 a0_1, .int .i64 a0_2, .int .i64 a0_3] 25 (0,0)))∧Aside0 (Below w.heap.size w wc))
          case first=>
            have H:=HC45.out
            clear HC45
            by_cases c48:a0_0<0
            · rw[if_pos c48] at H
              have c48b0:decide (a0_0<0)=true:=decide_eq_true c48
              clear c48
              (first|rw[c48b0]|(simp only[i64_w,i32_w];rw[c48b0])|skip)
              by_cases c49:1+x3_5.size≤9223372036854775807
              · rw[if_pos c49] at H
                have c49b0:=eq_true c49
                have c49b1:decide (1+x3_5.size≤9223372036854775807)=true:=decide_eq_true c49
                try have c49b2:(9223372036854775807<1+x3_5.size)=False:=eq_false (Nat.not_lt.2 c49)
                have H':=Aside0.mk H
                clear H
                go_wp2
                go_meet
                case rel=>exact⟨_,((⟨#[45]⟩:ByteArray)++x3_5),(by first|rfl|(simp;done)|(simp[*];done)),H',⟨by have:=HJ5.out;first|omega|exact Nat.le_refl _⟩,⟨by(with_reducible repeat(first|refine blk_drewN ?_ _|refine blk_drew ?_|refine blk_alloc ?_ _));exact BK225.out⟩,⟨by repeat(first|(with_reducible first|exact HB.out|apply below_alloc|apply pw_below_drewN|apply below_drew1|refine below_set ?_ GE225.out)|exact HB.out)⟩⟩
              · rw[if_neg c49] at H
                exact absurd H (by simp)
            · rw[if_neg c48] at H
              have c48b0:decide (a0_0<0)=false:=decide_eq_false c48
              clear c48
              (first|rw[c48b0]|(simp only[i64_w,i32_w];rw[c48b0])|skip)
              have H':=Aside0.mk H
              clear H
              go_wp2
              go_meet
              case rel=>exact⟨_,(x3_5),(by first|rfl|(simp;done)|(simp[*];done)),H',⟨by have:=HJ5.out;first|omega|exact Nat.le_refl _⟩,⟨by(with_reducible repeat(first|refine blk_drewN ?_ _|refine blk_drew ?_|refine blk_alloc ?_ _));exact BK225.out⟩,⟨by repeat(first|(with_reducible first|exact HB.out|apply below_alloc|apply pw_below_drewN|apply below_drew1|refine below_set ?_ GE225.out)|exact HB.out)⟩⟩
          case rest =>
            clear HC45
            try clear c1
            try clear c2
            try clear p2
            try clear c3
            try clear c4
            try clear c6
            try clear p6
            try clear c11
            try clear c14
            try clear c14b0
            try clear c15
            try clear c16
            try clear c16b0
            try clear c16b1
            try clear c16b2
            try clear c17
            try clear c19
            try clear c19b0
            try clear c21
            try clear c21b0
            try clear c21b1
            try clear c21b2
            try clear c23
            try clear c23b0
            try clear c23b1
            try clear c24
            try clear c24b0
            try clear c24b1
            try clear c25
            try clear c25b0
            try clear c25b1
            try clear c25b2
            try clear c26
            try clear c26b0
            try clear c27
            try clear c27b0
            try clear c28
            try clear c28b0
            try clear c28b1
            try clear c28b2
            try clear c34
            try clear c34b0
            try clear c34b1
            try clear c35
            try clear c35b0
            try clear c35b1
            try clear c36
            try clear c36b0
            try clear c36b1
            try clear c36b2
            try clear c37
            try clear c37b0
            try clear c38
            try clear c38b0
            try clear c39
            try clear c39b0
            try clear c39b1
            try clear c39b2
            try clear c43
            try clear c43b0
            try clear c43b1
            try clear c48
            try clear c48b0
            try clear c49
            try clear c49b0
            try clear c49b1
            try clear c49b2
            try clear hcz10_0
            try clear hcz10_1
            try clear hcz10_2
            try clear hcz10_3
            try clear hcz13_0
            try clear hcz13_1
            try clear hcz13_2
            try clear hcz13_3
            try clear hcz17_0
            try clear hcz17_1
            try clear hcz17_2
            try clear hcz17_3
            try clear hcz29_0
            try clear hcz29_1
            try clear hcz29_2
            try clear hcz29_3
            try clear hcz31_0
            try clear hcz31_1
            try clear hcz31_2
            try clear hcz31_3
            try clear hcz40_0
            try clear hcz40_1
            try clear hcz40_2
            try clear hcz40_3
            try clear hcz47_0
            try clear hcz47_1
            try clear hcz47_2
            try clear hcz47_3
            try clear hcz8_0
            try clear hcz8_1
            try clear hcz8_2
            try clear hcz8_3
            try clear hfz10_0
            try clear hfz10_1
            try clear hfz10_2
            try clear hfz10_3
            try clear hfz13_0
            try clear hfz13_1
            try clear hfz13_2
            try clear hfz13_3
            try clear hfz17_0
            try clear hfz17_1
            try clear hfz17_2
            try clear hfz17_3
            try clear hfz29_0
            try clear hfz29_1
            try clear hfz29_2
            try clear hfz29_3
            try clear hfz31_0
            try clear hfz31_1
            try clear hfz31_2
            try clear hfz31_3
            try clear hfz40_0
            try clear hfz40_1
            try clear hfz40_2
            try clear hfz40_3
            try clear hfz47_0
            try clear hfz47_1
            try clear hfz47_2
            try clear hfz47_3
            try clear hfz8_0
            try clear hfz8_1
            try clear hfz8_2
            try clear hfz8_3
            try clear p2
            try clear p6
            obtain⟨kq,x3_44,rfl,HA,HJ44,BK225,HB⟩:=hcut
            cases kq with
            |zero=>exact absurd HA.out (by simp[impl_ShowQty.j1])
            | succ kj44 =>
              have H:=HA.out
              clear HA
              simp only[impl_ShowQty.j1] at H
              replace H:=Option.bind_eq_some_iff.mp H
              obtain⟨t232,A500,H⟩:=H
              replace H:((impl_unit.f (⟨#[115]⟩:ByteArray) a0_3).bind fun t233=>(if t232.toList=([]:List UInt8) then(impl_ShowQty.j2 kj44 x3_44 t232 t233 false) else(impl_ShowQty.j2 kj44 x3_44 t232 t233 (t233.toList != ([]:List UInt8)))))=some r:=H
              have A50:=Aside0.mk A500
              clear A500
              replace H:=Option.bind_eq_some_iff.mp H
              obtain⟨t233,A510,H⟩:=H
              replace H:(if t232.toList=([]:List UInt8) then(impl_ShowQty.j2 kj44 x3_44 t232 t233 false) else(impl_ShowQty.j2 kj44 x3_44 t232 t233 (t233.toList != ([]:List UInt8))))=some r:=H
              have A51:=Aside0.mk A510
              clear A510
              have HC52:=Aside0.mk H
              clear H
              try go_wp2
              have n0_:=Aside0.mk (blk_drew BK225.out)
              have n1_:=Aside0.mk (below_drew1 HB.out)
              clear BK225
              clear HB
              have BK225:=n0_
              have HB:=n1_
              clear n0_ n1_
              refine start_ (n:=8) (S:=fun w'=>w'.cell? ⟨gb225,0,none⟩=some (.int .i64 a0_0)∧w'.cell? ⟨gb225,1,none⟩=some (.int .i64 a0_1)∧w'.cell? ⟨gb225,2,none⟩=some (.int .i64 a0_2)∧w'.cell? ⟨gb225,3,none⟩=some (.int .i64 a0_3)) (ds:=[]) #[false,false,false,false,false,false,false,false] (by kernel_rfl) rfl rfl ⟨(blk_cell BK225.out 0).trans rfl,(blk_cell BK225.out 1).trans rfl,(blk_cell BK225.out 2).trans rfl,(blk_cell BK225.out 3).trans rfl⟩ (fun hHeld=> ?_);refine with_tabW impl_ShowQty.tab14 impl_ShowQty.bits14 (fun HT_ HW_=> ?_)
              generalize wc.drew=w53 at BK225 HB hHeld ⊢
              refine pure_ (i:=0) (N:=some 60) (v:= ?_) (a':= ?_) #[true,false,false,false,false,false,false,false] rfl rfl (any_of HT_.out (by kernel_rfl)) (fun _ _ _ h=>h) (Or.inl ⟨by rfl,?_⟩) ?_ ?_
              rotate_left
              · intro w'
                go_simp
                with_reducible rfl
              rotate_left
              · simp only[Act.put,List.setIfInBounds_toArray,List.set_cons_zero,List.set_cons_succ,i64_w,i32_w]
                rfl
              refine pure_ (i:=3) (N:=some 63) (v:= ?_) (a':= ?_) #[true,false,false,true,false,false,false,false] rfl rfl (any_of HT_.out (by kernel_rfl)) (fun _ _ _ h=>h) (Or.inl ⟨by rfl,?_⟩) ?_ ?_
              rotate_left
              · intro w'
                go_simp
                with_reducible rfl
              rotate_left
              · simp only[Act.put,List.setIfInBounds_toArray,List.set_cons_zero,List.set_cons_succ,i64_w,i32_w]
                rfl
              refine take_ (i:=1) (N:=some 61) (v:= ?_) (a':= ?_) #[true,true,false,true,false,false,false,false] rfl rfl (take_ofW HT_.out HW_.out (by kernel_rfl)) (fun _ _ _ h=>h) (Or.inl ⟨by rfl,?_⟩) hHeld ?_ ?_
              rotate_left
              · rintro w' ⟨s0,s1,s2,s3⟩
                go_simp
                with_reducible rfl
              rotate_left
              · simp only[Act.put,List.setIfInBounds_toArray,List.set_cons_zero,List.set_cons_succ,i64_w,i32_w]
                rfl
              refine take_ (i:=4) (N:=some 64) (v:= ?_) (a':= ?_) #[true,true,false,true,true,false,false,false] rfl rfl (take_ofW HT_.out HW_.out (by kernel_rfl)) (fun _ _ _ h=>h) (Or.inl ⟨by rfl,?_⟩) hHeld ?_ ?_
              rotate_left
              · rintro w' ⟨s0,s1,s2,s3⟩
                go_simp
                with_reducible rfl
              rotate_left
              · simp only[Act.put,List.setIfInBounds_toArray,List.set_cons_zero,List.set_cons_succ,i64_w,i32_w]
                rfl
              refine one_ (i:=2) (N:=some 62) #[true,true,true,true,true,false,false,false] rfl rfl (one_of HT_.out (by kernel_rfl)) (by decide) (fun K hK=> ?_)
              refine goes_ Tryz.func18 (by kernel_rfl) rfl #[.string (⟨#[86]⟩:ByteArray), .int .i64 a0_2] (by rfl) rfl rfl (by(try simp only[List.map_toArray,List.map_cons,List.map_nil]);first|done|rfl|(simp only[List.length_drop,List.length_take];rfl)) ?_
              with_reducible refine(impl_unit.calls (⟨#[86]⟩:ByteArray) a0_2 t232 _ A50.out).mono ?_
              rintro e w54 ⟨rfl,hb⟩
              refine⟨_,rfl,?_⟩
              have n0_:=Aside0.mk (blk_below (g:=gb225) (o:= .cells #[.int .i64 a0_0, .int .i64 a0_1, .int .i64 a0_2, .int .i64 a0_3] 25 (0,0)) (by(with_reducible repeat(first|refine blk_drewN ?_ _|refine blk_drew ?_|refine blk_alloc ?_ _));exact BK225.out) hb)
              have n1_:=Aside0.mk (below_step (by repeat(first|(with_reducible first|exact HB.out|apply below_alloc|apply pw_below_drewN|apply below_drew1|refine below_set ?_ GE225.out)|exact HB.out)) hb)
              clear BK225
              clear HB
              have BK225:=n0_
              have HB:=n1_
              clear n0_ n1_
              (try clear hb)
              (try clear hb2)
              (try clear hk)
              (try clear hi)
              refine hK.out _ _ ⟨(blk_cell BK225.out 0).trans rfl,(blk_cell BK225.out 1).trans rfl,(blk_cell BK225.out 2).trans rfl,(blk_cell BK225.out 3).trans rfl⟩ (fun hHeld=> ?_)
              clear hK K
              refine norm_ (a':= ?_) ?_ ?_
              rotate_left
              · show Act.put _ (some 62) _=_
                simp only[Act.put,List.setIfInBounds_toArray,List.set_cons_zero,List.set_cons_succ,i64_w,i32_w]
                rfl
              refine one_ (i:=5) (N:=some 65) #[true,true,true,true,true,true,false,false] rfl rfl (one_of HT_.out (by kernel_rfl)) (by decide) (fun K hK=> ?_)
              refine goes_ Tryz.func18 (by kernel_rfl) rfl #[.string (⟨#[115]⟩:ByteArray), .int .i64 a0_3] (by rfl) rfl rfl (by(try simp only[List.map_toArray,List.map_cons,List.map_nil]);first|done|rfl|(simp only[List.length_drop,List.length_take];rfl)) ?_
              with_reducible refine(impl_unit.calls (⟨#[115]⟩:ByteArray) a0_3 t233 _ A51.out).mono ?_
              rintro e w55 ⟨rfl,hb⟩
              refine⟨_,rfl,?_⟩
              have n0_:=Aside0.mk (blk_below (g:=gb225) (o:= .cells #[.int .i64 a0_0, .int .i64 a0_1, .int .i64 a0_2, .int .i64 a0_3] 25 (0,0)) (by(with_reducible repeat(first|refine blk_drewN ?_ _|refine blk_drew ?_|refine blk_alloc ?_ _));exact BK225.out) hb)
              have n1_:=Aside0.mk (below_step (by repeat(first|(with_reducible first|exact HB.out|apply below_alloc|apply pw_below_drewN|apply below_drew1|refine below_set ?_ GE225.out)|exact HB.out)) hb)
              clear BK225
              clear HB
              have BK225:=n0_
              have HB:=n1_
              clear n0_ n1_
              (try clear hb)
              (try clear hb2)
              (try clear hk)
              (try clear hi)
              refine hK.out _ _ ⟨(blk_cell BK225.out 0).trans rfl,(blk_cell BK225.out 1).trans rfl,(blk_cell BK225.out 2).trans rfl,(blk_cell BK225.out 3).trans rfl⟩ (fun hHeld=> ?_)
              clear hK K
              refine norm_ (a':= ?_) ?_ ?_
              rotate_left
              · show Act.put _ (some 65) _=_
                simp only[Act.put,List.setIfInBounds_toArray,List.set_cons_zero,List.set_cons_succ,i64_w,i32_w]
                rfl
              refine pure_ (i:=6) (N:=some 5) (v:= ?_) (a':= ?_) #[true,true,true,true,true,true,true,false] rfl rfl (any_of HT_.out (by kernel_rfl)) (fun _ _ _ h=>h) (Or.inl ⟨by rfl,?_⟩) ?_ ?_
              rotate_left
              · intro w'
                go_simp
                with_reducible rfl
              rotate_left
              · simp only[Act.put,List.setIfInBounds_toArray,List.set_cons_zero,List.set_cons_succ,i64_w,i32_w]
                rfl
              refine pure_ (i:=7) (N:=some 6) (v:= ?_) (a':= ?_) #[true,true,true,true,true,true,true,true] rfl rfl (any_of HT_.out (by kernel_rfl)) (fun _ _ _ h=>h) (Or.inl ⟨by rfl,?_⟩) ?_ ?_
              rotate_left
              · intro w'
                go_simp
                with_reducible rfl
              rotate_left
              · simp only[Act.put,List.setIfInBounds_toArray,List.set_cons_zero,List.set_cons_succ,i64_w,i32_w]
                rfl
              refine done_ (done_of HT_.out (by kernel_rfl)) ?_
              go_upto_region 15 with(fail)
              go_cut [66] (fun v66 wc=>∃(kq:Nat) (x66_51:Bool),v66= .bool x66_51∧Aside0 (impl_ShowQty.j2 kq x3_44 t232 t233 x66_51=some r)∧Aside0 (kq≤kj44)∧Aside0 (wc.heap[gb225]? =some (.cells #[.int .i64 a0_0, .int .i64 a0_1, .int .i64 a0_2, .int .i64 a0_3] 25 (0,0)))∧Aside0 (Below w.heap.size w wc))
              case first=>
                have H:=HC52.out
                clear HC52
                by_cases c56:t232.toList=([]:List UInt8)
                · rw[if_pos c56] at H
                  have c56b0:(t232.toList==([]:List UInt8))=true:=beq_iff_eq.mpr c56
                  have c56b1:(t232.toList != ([]:List UInt8))=false:=bne_eq_false_iff_eq.mpr c56
                  clear c56
                  (first|rw[c56b0]|(simp only[i64_w,i32_w];rw[c56b0])|skip)
                  have H':=Aside0.mk H
                  clear H
                  go_wp2
                  go_meet
                  case rel=>exact⟨_,(false),(by first|rfl|(simp;done)|(simp[*];done)),H',⟨by have:=HJ5.out;have:=HJ44.out;first|omega|exact Nat.le_refl _⟩,⟨by(with_reducible repeat(first|refine blk_drewN ?_ _|refine blk_drew ?_|refine blk_alloc ?_ _));exact BK225.out⟩,⟨by repeat(first|(with_reducible first|exact HB.out|apply below_alloc|apply pw_below_drewN|apply below_drew1|refine below_set ?_ GE225.out)|exact HB.out)⟩⟩
                · rw[if_neg c56] at H
                  have c56b0:(t232.toList==([]:List UInt8))=false:=beq_eq_false_iff_ne.mpr c56
                  have c56b1:(t232.toList != ([]:List UInt8))=true:=bne_iff_ne.mpr c56
                  (first|rw[c56b0]|(simp only[i64_w,i32_w];rw[c56b0])|skip)
                  have H':=Aside0.mk H
                  clear H
                  go_wp2
                  go_meet
                  case rel=>exact⟨_,((t233.toList != ([]:List UInt8))),(by first|rfl|(simp;done)|(simp[*];done)|(cases t233.toList<;>rfl)),H',⟨by have:=HJ5.out;have:=HJ44.out;first|omega|exact Nat.le_refl _⟩,⟨by(with_reducible repeat(first|refine blk_drewN ?_ _|refine blk_drew ?_|refine blk_alloc ?_ _));exact BK225.out⟩,⟨by repeat(first|(with_reducible first|exact HB.out|apply below_alloc|apply pw_below_drewN|apply below_drew1|refine below_set ?_ GE225.out)|exact HB.out)⟩⟩
              case rest =>
                clear HC52
                try clear c1
                try clear c2
                try clear p2
                try clear c3
                try clear c4
                try clear c5
                try clear c6
                try clear p6
                try clear c11
                try clear c14
                try clear c14b0
                try clear c15
                try clear c16
                try clear c16b0
                try clear c16b1
                try clear c16b2
                try clear c17
                try clear c18
                try clear c19
                try clear c19b0
                try clear c21
                try clear c21b0
                try clear c21b1
                try clear c21b2
                try clear c23
                try clear c23b0
                try clear c23b1
                try clear c24
                try clear c24b0
                try clear c24b1
                try clear c25
                try clear c25b0
                try clear c25b1
                try clear c25b2
                try clear c26
                try clear c26b0
                try clear c27
                try clear c27b0
                try clear c28
                try clear c28b0
                try clear c28b1
                try clear c28b2
                try clear c34
                try clear c34b0
                try clear c34b1
                try clear c35
                try clear c35b0
                try clear c35b1
                try clear c36
                try clear c36b0
                try clear c36b1
                try clear c36b2
                try clear c37
                try clear c37b0
                try clear c38
                try clear c38b0
                try clear c39
                try clear c39b0
                try clear c39b1
                try clear c39b2
                try clear c43
                try clear c43b0
                try clear c43b1
                try clear c48
                try clear c48b0
                try clear c49
                try clear c49b0
                try clear c49b1
                try clear c49b2
                try clear c56
                try clear c56b0
                try clear c56b1
                try clear hcz10_0
                try clear hcz10_1
                try clear hcz10_2
                try clear hcz10_3
                try clear hcz13_0
                try clear hcz13_1
                try clear hcz13_2
                try clear hcz13_3
                try clear hcz17_0
                try clear hcz17_1
                try clear hcz17_2
                try clear hcz17_3
                try clear hcz29_0
                try clear hcz29_1
                try clear hcz29_2
                try clear hcz29_3
                try clear hcz31_0
                try clear hcz31_1
                try clear hcz31_2
                try clear hcz31_3
                try clear hcz40_0
                try clear hcz40_1
                try clear hcz40_2
                try clear hcz40_3
                try clear hcz47_0
                try clear hcz47_1
                try clear hcz47_2
                try clear hcz47_3
                try clear hcz8_0
                try clear hcz8_1
                try clear hcz8_2
                try clear hcz8_3
                try clear hfz10_0
                try clear hfz10_1
                try clear hfz10_2
                try clear hfz10_3
                try clear hfz13_0
                try clear hfz13_1
                try clear hfz13_2
                try clear hfz13_3
                try clear hfz17_0
                try clear hfz17_1
                try clear hfz17_2
                try clear hfz17_3
                try clear hfz29_0
                try clear hfz29_1
                try clear hfz29_2
                try clear hfz29_3
                try clear hfz31_0
                try clear hfz31_1
                try clear hfz31_2
                try clear hfz31_3
                try clear hfz40_0
                try clear hfz40_1
                try clear hfz40_2
                try clear hfz40_3
                try clear hfz47_0
                try clear hfz47_1
                try clear hfz47_2
                try clear hfz47_3
                try clear hfz8_0
                try clear hfz8_1
                try clear hfz8_2
                try clear hfz8_3
                try clear p2
                try clear p6
                obtain⟨kq,x66_51,rfl,HA,HJ51,BK225,HB⟩:=hcut
                cases kq with
                |zero=>exact absurd HA.out (by simp[impl_ShowQty.j2])
                | succ kj51 =>
                  have H:=HA.out
                  clear HA
                  simp only[impl_ShowQty.j2] at H
                  by_cases c57:x66_51=true
                  · subst c57
                    have H1:(if 1+t232.size≤9223372036854775807 then(if((⟨#[32]⟩:ByteArray)++t232).size+1≤9223372036854775807 then(if(((⟨#[32]⟩:ByteArray)++t232)++(⟨#[42]⟩:ByteArray)).size+t233.size≤9223372036854775807 then(if x3_44.size+((((⟨#[32]⟩:ByteArray)++t232)++(⟨#[42]⟩:ByteArray))++t233).size≤9223372036854775807 then(some (x3_44++((((⟨#[32]⟩:ByteArray)++t232)++(⟨#[42]⟩:ByteArray))++t233))) else(none)) else(none)) else(none)) else(none))=some r:=by rw[if_pos rfl] at H;exact H
                    clear H
                    have H:=H1
                    clear H1
                    by_cases c58:1+t232.size≤9223372036854775807
                    · rw [if_pos c58] at H
                      have c58b0:=eq_true c58
                      have c58b1:decide (1+t232.size≤9223372036854775807)=true:=decide_eq_true c58
                      try have c58b2:(9223372036854775807<1+t232.size)=False:=eq_false (Nat.not_lt.2 c58)
                      by_cases c59:((⟨#[32]⟩:ByteArray)++t232).size+1≤9223372036854775807
                      · rw [if_pos c59] at H
                        have c59b0:=eq_true c59
                        have c59b1:decide (((⟨#[32]⟩:ByteArray)++t232).size+1≤9223372036854775807)=true:=decide_eq_true c59
                        try have c59b2:(9223372036854775807<((⟨#[32]⟩:ByteArray)++t232).size+1)=False:=eq_false (Nat.not_lt.2 c59)
                        try have c59b3:(9223372036854775807<1+t232.size+1)=False:=eq_false (by(try have:=of_eq_true c58b0);(try have:=of_eq_true c59b0);have hz_:=c59;simp only[ByteArray.size_append,ByteArray.size_extract,bsz1] at hz_ ⊢;omega)
                        by_cases c60:(((⟨#[32]⟩:ByteArray)++t232)++(⟨#[42]⟩:ByteArray)).size+t233.size≤9223372036854775807
                        · rw[if_pos c60] at H
                          have c60b0:=eq_true c60
                          have c60b1:decide ((((⟨#[32]⟩:ByteArray)++t232)++(⟨#[42]⟩:ByteArray)).size+t233.size≤9223372036854775807)=true:=decide_eq_true c60
                          try have c60b2:(9223372036854775807<(((⟨#[32]⟩:ByteArray)++t232)++(⟨#[42]⟩:ByteArray)).size+t233.size)=False:=eq_false (Nat.not_lt.2 c60)
                          try have c60b3:(9223372036854775807<1+t232.size+1+t233.size)=False:=eq_false (by(try have:=of_eq_true c58b0);(try have:=of_eq_true c59b0);(try have:=of_eq_true c60b0);have hz_:=c60;simp only[ByteArray.size_append,ByteArray.size_extract,bsz1] at hz_ ⊢;omega)
                          by_cases c61:x3_44.size+((((⟨#[32]⟩:ByteArray)++t232)++(⟨#[42]⟩:ByteArray))++t233).size≤9223372036854775807
                          · rw[if_pos c61] at H
                            have c61b0:=eq_true c61
                            have c61b1:decide (x3_44.size+((((⟨#[32]⟩:ByteArray)++t232)++(⟨#[42]⟩:ByteArray))++t233).size≤9223372036854775807)=true:=decide_eq_true c61
                            try have c61b2:(9223372036854775807<x3_44.size+((((⟨#[32]⟩:ByteArray)++t232)++(⟨#[42]⟩:ByteArray))++t233).size)=False:=eq_false (Nat.not_lt.2 c61)
                            try have c61b3:(9223372036854775807<x3_44.size+(1+t232.size+1+t233.size))=False:=eq_false (by(try have:=of_eq_true c58b0);(try have:=of_eq_true c59b0);(try have:=of_eq_true c60b0);(try have:=of_eq_true c61b0);have hz_:=c61;simp only[ByteArray.size_append,ByteArray.size_extract,bsz1] at hz_ ⊢;omega)
                            obtain rfl:=Option.some.inj H
                            go_wp2
                            go_ret
                            exact⟨by first|rfl|(simp[errW_none,errW_some]<;>rfl)|(simp[*,errW_none,errW_some]<;>rfl),by repeat(first|(with_reducible first|exact HB.out|apply below_alloc|apply pw_below_drewN|apply below_drew1|refine below_set ?_ GE225.out)|exact HB.out)⟩
                          · rw[if_neg c61] at H
                            exact absurd H (by simp)
                        · rw[if_neg c60] at H
                          exact absurd H (by simp)
                      · rw[if_neg c59] at H
                        exact absurd H (by simp)
                    · rw[if_neg c58] at H
                      exact absurd H (by simp)
                  · replace c57:=Bool.eq_false_iff.mpr c57
                    subst c57
                    have H1:(if t232.toList=([]:List UInt8) then(if t233.toList=([]:List UInt8) then(some x3_44) else(if 1+t232.size≤9223372036854775807 then(if((⟨#[32]⟩:ByteArray)++t232).size+t233.size≤9223372036854775807 then(if x3_44.size+(((⟨#[32]⟩:ByteArray)++t232)++t233).size≤9223372036854775807 then(some (x3_44++(((⟨#[32]⟩:ByteArray)++t232)++t233))) else(none)) else(none)) else(none))) else(if 1+t232.size≤9223372036854775807 then(if((⟨#[32]⟩:ByteArray)++t232).size+t233.size≤9223372036854775807 then(if x3_44.size+(((⟨#[32]⟩:ByteArray)++t232)++t233).size≤9223372036854775807 then(some (x3_44++(((⟨#[32]⟩:ByteArray)++t232)++t233))) else(none)) else(none)) else(none)))=some r:=by rw[if_neg (show ¬(false=true) by decide)] at H;exact H
                    clear H
                    have H:=H1
                    clear H1
                    by_cases c62:t232.toList=([]:List UInt8)
                    · rw [if_pos c62] at H
                      have c62b0:(t232.toList==([]:List UInt8))=true:=beq_iff_eq.mpr c62
                      have c62b1:(t232.toList != ([]:List UInt8))=false:=bne_eq_false_iff_eq.mpr c62
                      clear c62
                      by_cases c63:t233.toList=([]:List UInt8)
                      · rw[if_pos c63] at H
                        have c63b0:(t233.toList==([]:List UInt8))=true:=beq_iff_eq.mpr c63
                        have c63b1:(t233.toList != ([]:List UInt8))=false:=bne_eq_false_iff_eq.mpr c63
                        clear c63
                        obtain rfl:=Option.some.inj H
                        go_wp2
                        go_ret
                        exact⟨by first|rfl|(simp[errW_none,errW_some]<;>rfl)|(simp[*,errW_none,errW_some]<;>rfl),by repeat(first|(with_reducible first|exact HB.out|apply below_alloc|apply pw_below_drewN|apply below_drew1|refine below_set ?_ GE225.out)|exact HB.out)⟩
                      · rw [if_neg c63] at H
                        have c63b0:(t233.toList==([]:List UInt8))=false:=beq_eq_false_iff_ne.mpr c63
                        have c63b1:(t233.toList != ([]:List UInt8))=true:=bne_iff_ne.mpr c63
                        by_cases c64:1+t232.size≤9223372036854775807
                        · rw [if_pos c64] at H
                          have c64b0:=eq_true c64
                          have c64b1:decide (1+t232.size≤9223372036854775807)=true:=decide_eq_true c64
                          try have c64b2:(9223372036854775807<1+t232.size)=False:=eq_false (Nat.not_lt.2 c64)
                          by_cases c65:((⟨#[32]⟩:ByteArray)++t232).size+t233.size≤9223372036854775807
                          · rw[if_pos c65] at H
                            have c65b0:=eq_true c65
                            have c65b1:decide (((⟨#[32]⟩:ByteArray)++t232).size+t233.size≤9223372036854775807)=true:=decide_eq_true c65
                            try have c65b2:(9223372036854775807<((⟨#[32]⟩:ByteArray)++t232).size+t233.size)=False:=eq_false (Nat.not_lt.2 c65)
                            try have c65b3:(9223372036854775807<1+t232.size+t233.size)=False:=eq_false (by(try have:=of_eq_true c58b0);(try have:=of_eq_true c59b0);(try have:=of_eq_true c60b0);(try have:=of_eq_true c61b0);(try have:=of_eq_true c64b0);(try have:=of_eq_true c65b0);have hz_:=c65;simp only[ByteArray.size_append,ByteArray.size_extract,bsz1] at hz_ ⊢;omega)
                            by_cases c66:x3_44.size+(((⟨#[32]⟩:ByteArray)++t232)++t233).size≤9223372036854775807
                            · rw[if_pos c66] at H
                              have c66b0:=eq_true c66
                              have c66b1:decide (x3_44.size+(((⟨#[32]⟩:ByteArray)++t232)++t233).size≤9223372036854775807)=true:=decide_eq_true c66
                              try have c66b2:(9223372036854775807<x3_44.size+(((⟨#[32]⟩:ByteArray)++t232)++t233).size)=False:=eq_false (Nat.not_lt.2 c66)
                              try have c66b3:(9223372036854775807<x3_44.size+(1+t232.size+t233.size))=False:=eq_false (by(try have:=of_eq_true c58b0);(try have:=of_eq_true c59b0);(try have:=of_eq_true c60b0);(try have:=of_eq_true c61b0);(try have:=of_eq_true c64b0);(try have:=of_eq_true c65b0);(try have:=of_eq_true c66b0);have hz_:=c66;simp only[ByteArray.size_append,ByteArray.size_extract,bsz1] at hz_ ⊢;omega)
                              obtain rfl:=Option.some.inj H
                              go_wp2
                              go_ret
                              exact⟨by first|rfl|(simp[errW_none,errW_some]<;>rfl)|(simp[*,errW_none,errW_some]<;>rfl),by repeat(first|(with_reducible first|exact HB.out|apply below_alloc|apply pw_below_drewN|apply below_drew1|refine below_set ?_ GE225.out)|exact HB.out)⟩
                            · rw[if_neg c66] at H
                              exact absurd H (by simp)
                          · rw[if_neg c65] at H
                            exact absurd H (by simp)
                        · rw[if_neg c64] at H
                          exact absurd H (by simp)
                    · rw [if_neg c62] at H
                      have c62b0:(t232.toList==([]:List UInt8))=false:=beq_eq_false_iff_ne.mpr c62
                      have c62b1:(t232.toList != ([]:List UInt8))=true:=bne_iff_ne.mpr c62
                      by_cases c67:1+t232.size≤9223372036854775807
                      · rw [if_pos c67] at H
                        have c67b0:=eq_true c67
                        have c67b1:decide (1+t232.size≤9223372036854775807)=true:=decide_eq_true c67
                        try have c67b2:(9223372036854775807<1+t232.size)=False:=eq_false (Nat.not_lt.2 c67)
                        by_cases c68:((⟨#[32]⟩:ByteArray)++t232).size+t233.size≤9223372036854775807
                        · rw[if_pos c68] at H
                          have c68b0:=eq_true c68
                          have c68b1:decide (((⟨#[32]⟩:ByteArray)++t232).size+t233.size≤9223372036854775807)=true:=decide_eq_true c68
                          try have c68b2:(9223372036854775807<((⟨#[32]⟩:ByteArray)++t232).size+t233.size)=False:=eq_false (Nat.not_lt.2 c68)
                          try have c68b3:(9223372036854775807<1+t232.size+t233.size)=False:=eq_false (by(try have:=of_eq_true c58b0);(try have:=of_eq_true c59b0);(try have:=of_eq_true c60b0);(try have:=of_eq_true c61b0);(try have:=of_eq_true c64b0);(try have:=of_eq_true c65b0);(try have:=of_eq_true c66b0);(try have:=of_eq_true c67b0);(try have:=of_eq_true c68b0);have hz_:=c68;simp only[ByteArray.size_append,ByteArray.size_extract,bsz1] at hz_ ⊢;omega)
                          by_cases c69:x3_44.size+(((⟨#[32]⟩:ByteArray)++t232)++t233).size≤9223372036854775807
                          · rw[if_pos c69] at H
                            have c69b0:=eq_true c69
                            have c69b1:decide (x3_44.size+(((⟨#[32]⟩:ByteArray)++t232)++t233).size≤9223372036854775807)=true:=decide_eq_true c69
                            try have c69b2:(9223372036854775807<x3_44.size+(((⟨#[32]⟩:ByteArray)++t232)++t233).size)=False:=eq_false (Nat.not_lt.2 c69)
                            try have c69b3:(9223372036854775807<x3_44.size+(1+t232.size+t233.size))=False:=eq_false (by(try have:=of_eq_true c58b0);(try have:=of_eq_true c59b0);(try have:=of_eq_true c60b0);(try have:=of_eq_true c61b0);(try have:=of_eq_true c64b0);(try have:=of_eq_true c65b0);(try have:=of_eq_true c66b0);(try have:=of_eq_true c67b0);(try have:=of_eq_true c68b0);(try have:=of_eq_true c69b0);have hz_:=c69;simp only[ByteArray.size_append,ByteArray.size_extract,bsz1] at hz_ ⊢;omega)
                            obtain rfl:=Option.some.inj H
                            go_wp2
                            go_ret
                            exact⟨by first|rfl|(simp[errW_none,errW_some]<;>rfl)|(simp[*,errW_none,errW_some]<;>rfl),by repeat(first|(with_reducible first|exact HB.out|apply below_alloc|apply pw_below_drewN|apply below_drew1|refine below_set ?_ GE225.out)|exact HB.out)⟩
                          · rw[if_neg c69] at H
                            exact absurd H (by simp)
                        · rw[if_neg c68] at H
                          exact absurd H (by simp)
                      · rw[if_neg c67] at H
                        exact absurd H (by simp)
  · replace c3:=Bool.eq_false_iff.mpr c3
    subst c3
    have H1:(some (⟨#[]⟩:ByteArray))=some r:=by rw[if_neg (show ¬(false=true) by decide)] at H;exact H
    clear H
    have H:=H1
    clear H1
    obtain rfl:=Option.some.inj H
    go_enter Tryz.func6,Tryz.ntmps6
    go_wp2_with (first|((with_reducible refine gate_dst (N:=1) rfl ?_);refine box_event ?hg (N:=1) ?hd (cs:= #[.int .i64 a0_0, .int .i64 a0_1, .int .i64 a0_2, .int .i64 a0_3]) (t:=25) ?hr ?_;(case hd=>rfl);(case hg=>rfl);(case hr=>first|(go_simp;done)|(go_simp;rfl));intro gb225 hg w70 hbox hb;have n0_:=Aside0.mk (below_step (by repeat(first|(with_reducible first|exact HB.out|apply below_alloc|apply pw_below_drewN|apply below_drew1)|exact HB.out)) hb);have n1_:=Aside0.mk (hbox);have n2_:=Aside0.mk ((by rw[hg];exact(below_size (by repeat(first|(with_reducible first|exact HB.out|apply below_alloc|apply pw_below_drewN|apply below_drew1)|exact HB.out))):w.heap.size≤gb225));have n3_:=Aside0.mk ((by rw[hg];exact(below_size (by repeat(first|(with_reducible first|exact HB.out|apply below_alloc|apply pw_below_drewN|apply below_drew1)|exact HB.out))):w.heap.size≤gb225));clear HB;have HB:=n0_;have BK225:=n1_;have GW225:=n2_;have GE225:=n3_;clear n0_ n1_ n2_ n3_;clear hb hbox hg;have hcz71_0:w70.cell? ⟨gb225,0,none⟩=some (.int .i64 a0_0):=(blk_cell BK225.out 0).trans rfl;have hcz71_1:w70.cell? ⟨gb225,1,none⟩=some (.int .i64 a0_1):=(blk_cell BK225.out 1).trans rfl;have hcz71_2:w70.cell? ⟨gb225,2,none⟩=some (.int .i64 a0_2):=(blk_cell BK225.out 2).trans rfl;have hcz71_3:w70.cell? ⟨gb225,3,none⟩=some (.int .i64 a0_3):=(blk_cell BK225.out 3).trans rfl;have hfz71_0:=blk_frozen BK225.out 0;have hfz71_1:=blk_frozen BK225.out 1;have hfz71_2:=blk_frozen BK225.out 2;have hfz71_3:=blk_frozen BK225.out 3)|((with_reducible refine gate_callee (f:=11) rfl ?_);refine goesL_ (some 8) rfl rfl Tryz.func11 (by kernel_rfl) rfl #[.agg #[.int .i64 a0_0, .int .i64 a0_1, .int .i64 a0_2, .int .i64 a0_3]] rfl (by(try simp only[List.map_toArray,List.map_cons,List.map_nil]);first|done|rfl|(simp only[List.length_drop,List.length_take];rfl)) ?_;(with_reducible refine(impl_QtyOk.calls a0_0 a0_1 a0_2 a0_3 false _ A2.out).mono ?_);rintro e w72 ⟨rfl,hb⟩;refine⟨_,rfl,?_⟩;have n0_:=Aside0.mk (blk_below (g:=gb225) (o:= .cells #[.int .i64 a0_0, .int .i64 a0_1, .int .i64 a0_2, .int .i64 a0_3] 25 (0,0)) (by(with_reducible repeat(first|refine blk_drewN ?_ _|refine blk_drew ?_|refine blk_alloc ?_ _));exact BK225.out) hb);have n1_:=Aside0.mk (below_step (by repeat(first|(with_reducible first|exact HB.out|apply below_alloc|apply pw_below_drewN|apply below_drew1|refine below_set ?_ GE225.out)|exact HB.out)) hb);clear BK225;clear HB;have BK225:=n0_;have HB:=n1_;clear n0_ n1_;(try clear hb);(try clear hb2);(try clear hk);(try clear hi)))
    go_ret
    exact⟨by first|rfl|(simp[errW_none,errW_some]<;>rfl)|(simp[*,errW_none,errW_some]<;>rfl),by repeat(first|(with_reducible first|exact HB.out|apply below_alloc|apply pw_below_drewN|apply below_drew1|refine below_set ?_ GE225.out)|exact HB.out)⟩

end Go.Proofs.YtanohnlddaneeaaGreatDoor.PFnQtyBack
