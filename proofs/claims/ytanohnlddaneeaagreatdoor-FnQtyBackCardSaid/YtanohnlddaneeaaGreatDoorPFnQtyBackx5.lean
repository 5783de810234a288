-- Written by a turned copy of the print (see the notes of this repo): plain functions and their walks. Lean checks it.
import Derived.Test.YtanohnlddaneeaaGreatDoorPFnQtyBackx0
namespace Go.Proofs.YtanohnlddaneeaaGreatDoor.PFnQtyBack
open Go.RowKit Go.Proofs.YtanohnlddaneeaaGreatDoorW.PrintWords Go.Proofs.YtanohnlddaneeaaGreatDoorW.PrintLast Go.Proofs.YtanohnlddaneeaaGreatDoorW.PrintMore
attribute [local go_sem] max2_int min2_int max_two min_two max_three min_three max_four min_four   -- for this text's walks alone
set_option linter.unusedVariables false
set_option linter.unusedSimpArgs false

/-! ### spec_l2Itoa: function 20 -/
mutual
def spec_l2Itoa.l0:Nat→Int→ByteArray→Option (ByteArray)
  |0,_,_=>none
  |k+1,x0,x3=>if x0>9 then((some (([(wrap64 (48+(Int.tmod (wrap64 (Int.tdiv x0 10)) 10)))%256]:List Int):List Int)).bind fun y238=>(if(strOfNums y238).size+x3.size≤9223372036854775807 then(spec_l2Itoa.l0 k (wrap64 (Int.tdiv x0 10)) ((strOfNums y238)++x3)) else(none))) else(some x3)
def spec_l2Itoa.f:Nat→Int→Option (ByteArray)
  |0,_=>none
  |k+1,a0=>if a0<0 then((spec_l2Itoa.f k (wrap64 (-a0))).bind fun t234=>(if 1+t234.size≤9223372036854775807 then(some ((⟨#[45]⟩:ByteArray)++t234)) else(none))) else(spec_l2Itoa.l0 k a0 (strOfNums (([(wrap64 (48+(Int.tmod a0 10)))%256]:List Int))))
end
theorem spec_l2Itoa.mono_l:∀k,(∀y0,LeO (spec_l2Itoa.f k y0) (spec_l2Itoa.f (k+1) y0))∧(∀y0 y1,LeO (spec_l2Itoa.l0 k y0 y1) (spec_l2Itoa.l0 (k+1) y0 y1))
  |0=>⟨fun _ r h=>by simp[spec_l2Itoa.f] at h,fun _ _ r h=>by simp[spec_l2Itoa.l0] at h⟩
  | k +1=>by
    obtain⟨ih0,ih1⟩:=spec_l2Itoa.mono_l k
    refine⟨?_,?_⟩
    · intro y0
      unfold spec_l2Itoa.f
      repeat' first
      |(with_reducible exact ih0 _)
      |(with_reducible exact ih1 _ _)
      |(with_reducible exact LeO.refl _)
      |(with_reducible exact LeO.none _)
      |(with_reducible refine LeO.ite ?_ ?_)
      |(with_reducible refine LeO.bind ?_ (fun _=> ?_))
      |exact ih0 _
      |exact ih1 _ _
      |exact LeO.none _
      |refine LeO.ite ?_ ?_
      |refine LeO.bind ?_ (fun _=> ?_)
    · intro y0 y1
      unfold spec_l2Itoa.l0
      repeat' first
      |(with_reducible exact ih0 _)
      |(with_reducible exact ih1 _ _)
      |(with_reducible exact LeO.refl _)
      |(with_reducible exact LeO.none _)
      |(with_reducible refine LeO.ite ?_ ?_)
      |(with_reducible refine LeO.bind ?_ (fun _=> ?_))
      |exact ih0 _
      |exact ih1 _ _
      |exact LeO.none _
      |refine LeO.ite ?_ ?_
      |refine LeO.bind ?_ (fun _=> ?_)
theorem spec_l2Itoa.mono:∀a0 k,LeO (spec_l2Itoa.f k a0) (spec_l2Itoa.f (k+1) a0):=by
  intro a0 k
  obtain⟨ih0,ih1⟩:=spec_l2Itoa.mono_l k
  exact ih0 a0
set_option maxHeartbeats 8000000 in
set_option maxRecDepth 100000 in
theorem spec_l2Itoa.calls (k:Nat):∀(a0:Int) (r:ByteArray) (w:World) (h:spec_l2Itoa.f k a0=some r),
    Calls Tryz.prog 20 #[.int .i64 a0] w fun e w'=>e= .returned (.string r)∧Below w.heap.size w w':=by
  induction k using Nat.strongRecOn with
  |_ k ih=>
  intro a0 r w h
  cases k with
  |zero=>exact absurd h (by simp[spec_l2Itoa.f])
  |succ k=>
  simp only[spec_l2Itoa.f] at h
  have HB:=Aside0.mk (Below.refl w.heap.size w)
  have H:(if a0<0 then((spec_l2Itoa.f k (wrap64 (-a0))).bind fun t234=>(if 1+t234.size≤9223372036854775807 then(some ((⟨#[45]⟩:ByteArray)++t234)) else(none))) else(spec_l2Itoa.l0 k a0 (strOfNums (([(wrap64 (48+(Int.tmod a0 10)))%256]:List Int)))))=some r:=h
  clear h
  by_cases c2:a0<0
  · rw[if_pos c2] at H
    have c2b0:decide (a0<0)=true:=decide_eq_true c2
    clear c2
    replace H:=Option.bind_eq_some_iff.mp H
    obtain⟨t234,A30,H⟩:=H
    replace H:(if 1+t234.size≤9223372036854775807 then(some ((⟨#[45]⟩:ByteArray)++t234)) else(none))=some r:=H
    have A3:=Aside0.mk A30
    clear A30
    by_cases c4:1+t234.size≤9223372036854775807
    · rw[if_pos c4] at H
      have c4b0:=eq_true c4
      have c4b1:decide (1+t234.size≤9223372036854775807)=true:=decide_eq_true c4
      try have c4b2:(9223372036854775807<1+t234.size)=False:=eq_false (Nat.not_lt.2 c4)
      obtain rfl:=Option.some.inj H
      go_enter Tryz.func20,Tryz.ntmps20
      go_wp2_with (first|((with_reducible refine gate_callee (f:=20) rfl ?_);refine goesL_ (some 8) rfl rfl Tryz.func20 (by kernel_rfl) rfl #[.int .i64 (wrap64 (-a0))] rfl (by(try simp only[List.map_toArray,List.map_cons,List.map_nil]);first|done|rfl|(simp only[List.length_drop,List.length_take];rfl)) ?_;(with_reducible refine(ih k (by omega) (wrap64 (-a0)) t234 _ A3.out).mono ?_);rintro e w5 ⟨rfl,hb⟩;refine⟨_,rfl,?_⟩;have n0_:=Aside0.mk (below_step (by repeat(first|(with_reducible first|exact HB.out|apply below_alloc|apply pw_below_drewN|apply below_drew1)|exact HB.out)) hb);clear HB;have HB:=n0_;clear n0_;(try clear hb);(try clear hb2);(try clear hk);(try clear hi)))
      go_ret
      exact⟨by first|rfl|(simp[errW_none,errW_some]<;>rfl)|(simp[*,errW_none,errW_some]<;>rfl),by repeat(first|(with_reducible first|exact HB.out|apply below_alloc|apply pw_below_drewN|apply below_drew1)|exact HB.out)⟩
    · rw[if_neg c4] at H
      exact absurd H (by simp)
  · rw [if_neg c2] at H
    have c2b0:decide (a0<0)=false:=decide_eq_false c2
    clear c2
    obtain⟨y235,hy235⟩:∃y_:List Int,y_=(([(wrap64 (48+(Int.tmod a0 10)))%256]:List Int)):=⟨_,rfl⟩
    replace H:(spec_l2Itoa.l0 k a0 (strOfNums y235))=some r:=by first|(rw[hy235];with_reducible exact H)|(have H2_:=(Option.bind_some _ _).symm.trans H;rw[hy235];with_reducible exact H2_)|(have H2_:=(Option.bind_some _ _).symm.trans H;with_reducible exact H2_)|with_reducible exact H|(rw[hy235];exact H)|exact H
    have Ny235:=Aside0.mk hy235
    clear hy235
    have H':=Aside0.mk H
    clear H
    go_enter Tryz.func20,Tryz.ntmps20
    go_wp2_with (first|((with_reducible refine gate_dst (N:=14) rfl ?_);refine Kd.R_lit (Kd.int .u8) _ 5 ?hg (N:=14) ?hd (xs:=([(wrap64 (48+(Int.tmod a0 10)))%256]:List Int)) (inner:=[.int .u8 ((wrap64 (48+(Int.tmod a0 10)))%256)]) (ok:=fun _=>True) (okp:=fun _=>True) ?hr ?hp (fun _ hk=>hk) trivial (Below.refl _ _) (Nat.le_refl _) (by simp) ?_;(case hd=>rfl);(case hg=>rfl);(case hr=>first|(go_simp;done)|(go_simp;rfl));(case hp=>exact(Reps.one (show Kd.M (Kd.int .u8) _ _ _ ((wrap64 (48+(Int.tmod a0 10)))%256) [.int .u8 ((wrap64 (48+(Int.tmod a0 10)))%256)] from rfl) (Reps.none _ _)));intro v236 w6 ho7 hb hg_ hnew_;clear hg_ hnew_;(first|rw[←Ny235.out] at ho7|(simp only[Int.reduceToNat] at ho7;rw[←Ny235.out] at ho7));have n0_:=Aside0.mk (Kd.R_lower ho7 (below_size (by repeat(first|(with_reducible first|exact HB.out|apply below_alloc|apply pw_below_drewN|apply below_drew1)|exact HB.out))));have n1_:=Aside0.mk (below_step (by repeat(first|(with_reducible first|exact HB.out|apply below_alloc|apply pw_below_drewN|apply below_drew1)|exact HB.out)) hb);clear HB;have HO237:=n0_;have HB:=n1_;clear n0_ n1_;clear hb ho7;have hcv8:=own_string (P:=Tryz.prog) Tryz.underlying22 Tryz.underlying5 Tryz.underlying9 (Kd.own_of_R HO237.out);have hcv8q:=fun n_=>own_string (P:=Tryz.prog) Tryz.underlying22 Tryz.underlying5 Tryz.underlying9 (Kd.own_of_R (Kd.R_drewN HO237.out n_))))
    (try simp only[Act.put,List.setIfInBounds_toArray,List.set_cons_zero,List.set_cons_succ])
    go_loopg [0,3] k (fun kq v0 v3 w'=>∃(x0_1:Int) (x3_1:ByteArray),v0= .int .i64 x0_1∧v3= .string x3_1∧Aside0 (spec_l2Itoa.l0 kq x0_1 x3_1=some r)∧Aside0 (kq≤k)∧Aside0 (Below w.heap.size w w'))
    case atStart=>exact⟨(a0),(strOfNums y235),(by first|rfl|(simp;done)|(simp[*];done)),(by first|rfl|(simp;done)|(simp[*];done)),H',⟨Nat.le_refl _⟩,⟨by repeat(first|(with_reducible first|exact HB.out|apply below_alloc|apply pw_below_drewN|apply below_drew1)|exact HB.out)⟩⟩
    case round=>
      clear H'
      try clear c2
      try clear c2b0
      try clear p2
      try clear c4
      try clear c4b0
      try clear c4b1
      try clear c4b2
      try clear p6
      try clear hcv8
      obtain⟨x0_1,x3_1,rfl,rfl,HA,HK1,HB⟩:=hrel
      cases gk with
      |zero=>exact absurd HA.out (by simp[spec_l2Itoa.l0])
      | succ k1=>
        have H:=HA.out
        clear HA
        simp only[spec_l2Itoa.l0] at H
        by_cases c9:x0_1>9
        · rw[if_pos c9] at H
          have c9b0:decide (9<x0_1)=true:=decide_eq_true c9
          clear c9
          obtain⟨y238,hy238⟩:∃y_:List Int,y_=(([(wrap64 (48+(Int.tmod (wrap64 (Int.tdiv x0_1 10)) 10)))%256]:List Int)):=⟨_,rfl⟩
          replace H:(if(strOfNums y238).size+x3_1.size≤9223372036854775807 then(spec_l2Itoa.l0 k1 (wrap64 (Int.tdiv x0_1 10)) ((strOfNums y238)++x3_1)) else(none))=some r:=by first|(rw[hy238];with_reducible exact H)|(have H2_:=(Option.bind_some _ _).symm.trans H;rw[hy238];with_reducible exact H2_)|(have H2_:=(Option.bind_some _ _).symm.trans H;with_reducible exact H2_)|with_reducible exact H|(rw[hy238];exact H)|exact H
          have Ny238:=Aside0.mk hy238
          clear hy238
          by_cases c10:(strOfNums y238).size+x3_1.size≤9223372036854775807
          · rw[if_pos c10] at H
            have c10b0:=eq_true c10
            have c10b1:decide ((strOfNums y238).size+x3_1.size≤9223372036854775807)=true:=decide_eq_true c10
            try have c10b2:(9223372036854775807<(strOfNums y238).size+x3_1.size)=False:=eq_false (Nat.not_lt.2 c10)
            have H':=Aside0.mk H
            clear H
            go_wp2_with (first|((with_reducible refine gate_dst (N:=24) rfl ?_);refine Kd.R_lit (Kd.int .u8) _ 5 ?hg (N:=24) ?hd (xs:=([(wrap64 (48+(Int.tmod (wrap64 (Int.tdiv x0_1 10)) 10)))%256]:List Int)) (inner:=[.int .u8 ((wrap64 (48+(Int.tmod (wrap64 (Int.tdiv x0_1 10)) 10)))%256)]) (ok:=fun _=>True) (okp:=fun _=>True) ?hr ?hp (fun _ hk=>hk) trivial (Below.refl _ _) (Nat.le_refl _) (by simp) ?_;(case hd=>rfl);(case hg=>rfl);(case hr=>first|(go_simp;done)|(go_simp;rfl));(case hp=>exact(Reps.one (show Kd.M (Kd.int .u8) _ _ _ ((wrap64 (48+(Int.tmod (wrap64 (Int.tdiv x0_1 10)) 10)))%256) [.int .u8 ((wrap64 (48+(Int.tmod (wrap64 (Int.tdiv x0_1 10)) 10)))%256)] from rfl) (Reps.none _ _)));intro v239 w11 ho12 hb hg_ hnew_;clear hg_ hnew_;(first|rw[←Ny238.out] at ho12|(simp only[Int.reduceToNat] at ho12;rw[←Ny238.out] at ho12));have n0_:=Aside0.mk (Kd.R_lower ho12 (below_size (by repeat(first|(with_reducible first|exact HB.out|apply below_alloc|apply pw_below_drewN|apply below_drew1)|exact HB.out))));have n1_:=Aside0.mk (below_step (by repeat(first|(with_reducible first|exact HB.out|apply below_alloc|apply pw_below_drewN|apply below_drew1)|exact HB.out)) hb);clear HB;have HO240:=n0_;have HB:=n1_;clear n0_ n1_;clear hb ho12;have hcv13:=own_string (P:=Tryz.prog) Tryz.underlying22 Tryz.underlying5 Tryz.underlying9 (Kd.own_of_R HO240.out);have hcv13q:=fun n_=>own_string (P:=Tryz.prog) Tryz.underlying22 Tryz.underlying5 Tryz.underlying9 (Kd.own_of_R (Kd.R_drewN HO240.out n_))))
            go_roundg k1
            case measure=>have:=HK1.out;omega
            case rel=>exact⟨(wrap64 (Int.tdiv x0_1 10)),((strOfNums y238)++x3_1),(by first|rfl|(simp;done)|(simp[*];done)),(by first|rfl|(simp;done)|(simp[*];done)),H',⟨by have:=HK1.out;omega⟩,⟨by repeat(first|(with_reducible first|exact HB.out|apply below_alloc|apply pw_below_drewN|apply below_drew1)|exact HB.out)⟩⟩
          · rw[if_neg c10] at H
            exact absurd H (by simp)
        · rw[if_neg c9] at H
          have c9b0:decide (9<x0_1)=false:=decide_eq_false c9
          clear c9
          obtain rfl:=Option.some.inj H
          go_wp2
          go_ret
          exact⟨by first|rfl|(simp[errW_none,errW_some]<;>rfl)|(simp[*,errW_none,errW_some]<;>rfl),by repeat(first|(with_reducible first|exact HB.out|apply below_alloc|apply pw_below_drewN|apply below_drew1)|exact HB.out)⟩

/-! ### spec_l20Unit: function 21 -/
def spec_l20Unit.f (k:Nat) (a0:ByteArray) (a1:Int):Option (ByteArray):=if a1=1 then(some a0) else((spec_l2Itoa.f k a1).bind fun t241=>(if a0.size+t241.size≤9223372036854775807 then(some (a0++t241)) else(none)))
theorem spec_l20Unit.mono:∀a0 a1 k,LeO (spec_l20Unit.f k a0 a1) (spec_l20Unit.f (k+1) a0 a1):=by
  intro a0 a1 k
  unfold spec_l20Unit.f
  repeat' first
      |(with_reducible exact spec_l2Itoa.mono _ _)
      |(with_reducible exact LeO.refl _)
      |(with_reducible exact LeO.none _)
      |(with_reducible refine LeO.ite ?_ ?_)
      |(with_reducible refine LeO.bind ?_ (fun _=> ?_))
      |exact spec_l2Itoa.mono _ _
      |exact LeO.none _
      |refine LeO.ite ?_ ?_
      |refine LeO.bind ?_ (fun _=> ?_)
set_option maxHeartbeats 8000000 in
set_option maxRecDepth 100000 in
theorem spec_l20Unit.calls (k:Nat) (a0:ByteArray) (a1:Int) (r:ByteArray) (w:World) (h:spec_l20Unit.f k a0 a1=some r):
    Calls Tryz.prog 21 #[.string a0, .int .i64 a1] w fun e w'=>e= .returned (.string r)∧Below w.heap.size w w':=by
  have HB:=Aside0.mk (Below.refl w.heap.size w)
  have H:(if a1=1 then(some a0) else((spec_l2Itoa.f k a1).bind fun t241=>(if a0.size+t241.size≤9223372036854775807 then(some (a0++t241)) else(none))))=some r:=h
  clear h
  by_cases c3:a1=1
  · rw[if_pos c3] at H
    have c3b0:(a1==1)=true:=beq_iff_eq.mpr c3
    have c3b1:(a1 != 1)=false:=bne_eq_false_iff_eq.mpr c3
    clear c3
    obtain rfl:=Option.some.inj H
    go_enter Tryz.func21,Tryz.ntmps21
    go_wp2
    go_ret
    exact⟨by first|rfl|(simp[errW_none,errW_some]<;>rfl)|(simp[*,errW_none,errW_some]<;>rfl),by repeat(first|(with_reducible first|exact HB.out|apply below_alloc|apply pw_below_drewN|apply below_drew1)|exact HB.out)⟩
  · rw[if_neg c3] at H
    have c3b0:(a1==1)=false:=beq_eq_false_iff_ne.mpr c3
    have c3b1:(a1 != 1)=true:=bne_iff_ne.mpr c3
    replace H:=Option.bind_eq_some_iff.mp H
    obtain⟨t241,A40,H⟩:=H
    replace H:(if a0.size+t241.size≤9223372036854775807 then(some (a0++t241)) else(none))=some r:=H
    have A4:=Aside0.mk A40
    clear A40
    by_cases c5:a0.size+t241.size≤9223372036854775807
    · rw[if_pos c5] at H
      have c5b0:=eq_true c5
      have c5b1:decide (a0.size+t241.size≤9223372036854775807)=true:=decide_eq_true c5
      try have c5b2:(9223372036854775807<a0.size+t241.size)=False:=eq_false (Nat.not_lt.2 c5)
      obtain rfl:=Option.some.inj H
      go_enter Tryz.func21,Tryz.ntmps21
      go_wp2_with (first|((with_reducible refine gate_callee (f:=20) rfl ?_);refine goesL_ (some 10) rfl rfl Tryz.func20 (by kernel_rfl) rfl #[.int .i64 a1] rfl (by(try simp only[List.map_toArray,List.map_cons,List.map_nil]);first|done|rfl|(simp only[List.length_drop,List.length_take];rfl)) ?_;(with_reducible refine(spec_l2Itoa.calls k a1 t241 _ A4.out).mono ?_);rintro e w6 ⟨rfl,hb⟩;refine⟨_,rfl,?_⟩;have n0_:=Aside0.mk (below_step (by repeat(first|(with_reducible first|exact HB.out|apply below_alloc|apply pw_below_drewN|apply below_drew1)|exact HB.out)) hb);clear HB;have HB:=n0_;clear n0_;(try clear hb);(try clear hb2);(try clear hk);(try clear hi)))
      go_ret
      exact⟨by first|rfl|(simp[errW_none,errW_some]<;>rfl)|(simp[*,errW_none,errW_some]<;>rfl),by repeat(first|(with_reducible first|exact HB.out|apply below_alloc|apply pw_below_drewN|apply below_drew1)|exact HB.out)⟩
    · rw[if_neg c5] at H
      exact absurd H (by simp)

end Go.Proofs.YtanohnlddaneeaaGreatDoor.PFnQtyBack
