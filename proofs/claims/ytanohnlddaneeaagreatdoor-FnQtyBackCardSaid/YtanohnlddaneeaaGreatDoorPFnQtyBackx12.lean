-- Written by a turned copy of the print (see the notes of this repo): plain functions and their walks. Lean checks it.
import Derived.Test.YtanohnlddaneeaaGreatDoorPFnQtyBackx0
import Derived.Test.YtanohnlddaneeaaGreatDoorPFnQtyBackx11
namespace Go.Proofs.YtanohnlddaneeaaGreatDoor.PFnQtyBack
open Go.RowKit Go.Proofs.YtanohnlddaneeaaGreatDoorW.PrintWords Go.Proofs.YtanohnlddaneeaaGreatDoorW.PrintLast Go.Proofs.YtanohnlddaneeaaGreatDoorW.PrintMore
attribute [local go_sem] max2_int min2_int max_two min_two max_three min_three max_four min_four   -- for this text's walks alone
set_option linter.unusedVariables false
set_option linter.unusedSimpArgs false

/-! ### spec_l20Number: function 31 -/
mutual
def spec_l20Number.j0:Nat→ByteArray→Int→Option (Int×Int×ByteArray×Bool)
  |0,_,_=>none
  |k+1,x0,x6=>spec_l20Number.l0 k x0 x6 0 0 0 0
def spec_l20Number.j2:Nat→ByteArray→Int→Int→Int→Int→Int→Option (Int×Int×ByteArray×Bool)
  |0,_,_,_,_,_,_=>none
  |k+1,x0,x6,x9,x10,x11,x12=>if x10=0 then(spec_l20Number.j3 k x0 x6 x9 x10 x11 x12 true) else(if x10>1 then(if 0<(x0.size:Int) then(spec_l20Number.j3 k x0 x6 x9 x10 x11 x12 ((bt x0 0)==48)) else(none)) else(spec_l20Number.j3 k x0 x6 x9 x10 x11 x12 false))
def spec_l20Number.j3:Nat→ByteArray→Int→Int→Int→Int→Int→Bool→Option (Int×Int×ByteArray×Bool)
  |0,_,_,_,_,_,_,_=>none
  |k+1,x0,x6,x9,x10,x11,x12,x56=>if x56=true then(some (0,0,x0,false)) else(if x12<(x0.size:Int) then(if 0≤x12 then(spec_l20Number.j4 k x0 x6 x9 x10 x11 x12 ((bt x0 x12)==46)) else(none)) else(spec_l20Number.j4 k x0 x6 x9 x10 x11 x12 false))
def spec_l20Number.j4:Nat→ByteArray→Int→Int→Int→Int→Int→Bool→Option (Int×Int×ByteArray×Bool)
  |0,_,_,_,_,_,_,_=>none
  |k+1,x0,x6,x9,x10,x11,x12,x67=>if x67=true then(spec_l20Number.l1 k x0 x6 x9 x10 x11 (wrap64 (x12+1))) else(if 0≤x12 then(if x12≤(x0.size:Int) then(some (wrap64 (x6*x9),wrap64 (-x11),x0.extract (x12:Int).toNat x0.size,decide (x10≤9))) else(none)) else(none))
def spec_l20Number.l1:Nat→ByteArray→Int→Int→Int→Int→Int→Option (Int×Int×ByteArray×Bool)
  |0,_,_,_,_,_,_=>none
  |k+1,x0,x6,x9,x10,x11,x12=>if x12<(x0.size:Int) then(if 0≤x12 then((spec_l2Digit.f (bt x0 x12)).bind fun t375=>(if t375=true then(if x10<10 then(spec_l20Number.l1 k x0 x6 (wrap64 ((wrap64 (x9*10))+(((bt x0 x12)-48)%256))) (wrap64 (x10+1)) (wrap64 (x11+1)) (wrap64 (x12+1))) else(if x11=0 then(some (0,0,x0,false)) else(if x12≤(x0.size:Int) then(some (wrap64 (x6*x9),wrap64 (-x11),x0.extract (x12:Int).toNat x0.size,decide (x10≤9))) else(none)))) else(if x11=0 then(some (0,0,x0,false)) else(if x12≤(x0.size:Int) then(some (wrap64 (x6*x9),wrap64 (-x11),x0.extract (x12:Int).toNat x0.size,decide (x10≤9))) else(none))))) else(none)) else(if x11=0 then(some (0,0,x0,false)) else(if 0≤x12 then(if x12≤(x0.size:Int) then(some (wrap64 (x6*x9),wrap64 (-x11),x0.extract (x12:Int).toNat x0.size,decide (x10≤9))) else(none)) else(none)))
def spec_l20Number.l0:Nat→ByteArray→Int→Int→Int→Int→Int→Option (Int×Int×ByteArray×Bool)
  |0,_,_,_,_,_,_=>none
  |k+1,x0,x6,x9,x10,x11,x12=>if x12<(x0.size:Int) then(if 0≤x12 then((spec_l2Digit.f (bt x0 x12)).bind fun t374=>(if t374=true then(if x10<10 then(spec_l20Number.l0 k x0 x6 (wrap64 ((wrap64 (x9*10))+(((bt x0 x12)-48)%256))) (wrap64 (x10+1)) x11 (wrap64 (x12+1))) else(spec_l20Number.j2 k x0 x6 x9 x10 x11 x12)) else(spec_l20Number.j2 k x0 x6 x9 x10 x11 x12))) else(none)) else(spec_l20Number.j2 k x0 x6 x9 x10 x11 x12)
end
def spec_l20Number.f (k:Nat) (a0:ByteArray):Option (Int×Int×ByteArray×Bool):=(spec_l20Begins.f a0 (⟨#[45]⟩:ByteArray)).bind fun bt372=>(if bt372.2=true then(spec_l20Number.j0 k bt372.1 (-1)) else(spec_l20Number.j0 k a0 1))
theorem spec_l20Number.mono_l:∀k,(∀y0 y1,LeO (spec_l20Number.j0 k y0 y1) (spec_l20Number.j0 (k+1) y0 y1))∧(∀y0 y1 y2 y3 y4 y5,LeO (spec_l20Number.j2 k y0 y1 y2 y3 y4 y5) (spec_l20Number.j2 (k+1) y0 y1 y2 y3 y4 y5))∧(∀y0 y1 y2 y3 y4 y5 y6,LeO (spec_l20Number.j3 k y0 y1 y2 y3 y4 y5 y6) (spec_l20Number.j3 (k+1) y0 y1 y2 y3 y4 y5 y6))∧(∀y0 y1 y2 y3 y4 y5 y6,LeO (spec_l20Number.j4 k y0 y1 y2 y3 y4 y5 y6) (spec_l20Number.j4 (k+1) y0 y1 y2 y3 y4 y5 y6))∧(∀y0 y1 y2 y3 y4 y5,LeO (spec_l20Number.l1 k y0 y1 y2 y3 y4 y5) (spec_l20Number.l1 (k+1) y0 y1 y2 y3 y4 y5))∧(∀y0 y1 y2 y3 y4 y5,LeO (spec_l20Number.l0 k y0 y1 y2 y3 y4 y5) (spec_l20Number.l0 (k+1) y0 y1 y2 y3 y4 y5))
  |0=>⟨fun _ _ r h=>by simp[spec_l20Number.j0] at h,fun _ _ _ _ _ _ r h=>by simp[spec_l20Number.j2] at h,fun _ _ _ _ _ _ _ r h=>by simp[spec_l20Number.j3] at h,fun _ _ _ _ _ _ _ r h=>by simp[spec_l20Number.j4] at h,fun _ _ _ _ _ _ r h=>by simp[spec_l20Number.l1] at h,fun _ _ _ _ _ _ r h=>by simp[spec_l20Number.l0] at h⟩
  | k +1=>by
    obtain⟨ih0,ih1,ih2,ih3,ih4,ih5⟩:=spec_l20Number.mono_l k
    refine⟨?_,?_,?_,?_,?_,?_⟩
    · intro y0 y1
      unfold spec_l20Number.j0
      repeat' first
      |(with_reducible exact ih0 _ _)
      |(with_reducible exact ih1 _ _ _ _ _ _)
      |(with_reducible exact ih2 _ _ _ _ _ _ _)
      |(with_reducible exact ih3 _ _ _ _ _ _ _)
      |(with_reducible exact ih4 _ _ _ _ _ _)
      |(with_reducible exact ih5 _ _ _ _ _ _)
      |(with_reducible exact LeO.refl _)
      |(with_reducible exact LeO.none _)
      |(with_reducible refine LeO.ite ?_ ?_)
      |(with_reducible refine LeO.bind ?_ (fun _=> ?_))
      |exact ih0 _ _
      |exact ih1 _ _ _ _ _ _
      |exact ih2 _ _ _ _ _ _ _
      |exact ih3 _ _ _ _ _ _ _
      |exact ih4 _ _ _ _ _ _
      |exact ih5 _ _ _ _ _ _
      |exact LeO.none _
      |refine LeO.ite ?_ ?_
      |refine LeO.bind ?_ (fun _=> ?_)
    · intro y0 y1 y2 y3 y4 y5
      unfold spec_l20Number.j2
      repeat' first
      |(with_reducible exact ih0 _ _)
      |(with_reducible exact ih1 _ _ _ _ _ _)
      |(with_reducible exact ih2 _ _ _ _ _ _ _)
      |(with_reducible exact ih3 _ _ _ _ _ _ _)
      |(with_reducible exact ih4 _ _ _ _ _ _)
      |(with_reducible exact ih5 _ _ _ _ _ _)
      |(with_reducible exact LeO.refl _)
      |(with_reducible exact LeO.none _)
      |(with_reducible refine LeO.ite ?_ ?_)
      |(with_reducible refine LeO.bind ?_ (fun _=> ?_))
      |exact ih0 _ _
      |exact ih1 _ _ _ _ _ _
      |exact ih2 _ _ _ _ _ _ _
      |exact ih3 _ _ _ _ _ _ _
      |exact ih4 _ _ _ _ _ _
      |exact ih5 _ _ _ _ _ _
      |exact LeO.none _
      |refine LeO.ite ?_ ?_
      |refine LeO.bind ?_ (fun _=> ?_)
    · intro y0 y1 y2 y3 y4 y5 y6
      unfold spec_l20Number.j3
      repeat' first
      |(with_reducible exact ih0 _ _)
      |(with_reducible exact ih1 _ _ _ _ _ _)
      |(with_reducible exact ih2 _ _ _ _ _ _ _)
      |(with_reducible exact ih3 _ _ _ _ _ _ _)
      |(with_reducible exact ih4 _ _ _ _ _ _)
      |(with_reducible exact ih5 _ _ _ _ _ _)
      |(with_reducible exact LeO.refl _)
      |(with_reducible exact LeO.none _)
      |(with_reducible refine LeO.ite ?_ ?_)
      |(with_reducible refine LeO.bind ?_ (fun _=> ?_))
      |exact ih0 _ _
      |exact ih1 _ _ _ _ _ _
      |exact ih2 _ _ _ _ _ _ _
      |exact ih3 _ _ _ _ _ _ _
      |exact ih4 _ _ _ _ _ _
      |exact ih5 _ _ _ _ _ _
      |exact LeO.none _
      |refine LeO.ite ?_ ?_
      |refine LeO.bind ?_ (fun _=> ?_)
    · intro y0 y1 y2 y3 y4 y5 y6
      unfold spec_l20Number.j4
      repeat' first
      |(with_reducible exact ih0 _ _)
      |(with_reducible exact ih1 _ _ _ _ _ _)
      |(with_reducible exact ih2 _ _ _ _ _ _ _)
      |(with_reducible exact ih3 _ _ _ _ _ _ _)
      |(with_reducible exact ih4 _ _ _ _ _ _)
      |(with_reducible exact ih5 _ _ _ _ _ _)
      |(with_reducible exact LeO.refl _)
      |(with_reducible exact LeO.none _)
      |(with_reducible refine LeO.ite ?_ ?_)
      |(with_reducible refine LeO.bind ?_ (fun _=> ?_))
      |exact ih0 _ _
      |exact ih1 _ _ _ _ _ _
      |exact ih2 _ _ _ _ _ _ _
      |exact ih3 _ _ _ _ _ _ _
      |exact ih4 _ _ _ _ _ _
      |exact ih5 _ _ _ _ _ _
      |exact LeO.none _
      |refine LeO.ite ?_ ?_
      |refine LeO.bind ?_ (fun _=> ?_)
    · intro y0 y1 y2 y3 y4 y5
      unfold spec_l20Number.l1
      repeat' first
      |(with_reducible exact ih0 _ _)
      |(with_reducible exact ih1 _ _ _ _ _ _)
      |(with_reducible exact ih2 _ _ _ _ _ _ _)
      |(with_reducible exact ih3 _ _ _ _ _ _ _)
      |(with_reducible exact ih4 _ _ _ _ _ _)
      |(with_reducible exact ih5 _ _ _ _ _ _)
      |(with_reducible exact LeO.refl _)
      |(with_reducible exact LeO.none _)
      |(with_reducible refine LeO.ite ?_ ?_)
      |(with_reducible refine LeO.bind ?_ (fun _=> ?_))
      |exact ih0 _ _
      |exact ih1 _ _ _ _ _ _
      |exact ih2 _ _ _ _ _ _ _
      |exact ih3 _ _ _ _ _ _ _
      |exact ih4 _ _ _ _ _ _
      |exact ih5 _ _ _ _ _ _
      |exact LeO.none _
      |refine LeO.ite ?_ ?_
      |refine LeO.bind ?_ (fun _=> ?_)
    · intro y0 y1 y2 y3 y4 y5
      unfold spec_l20Number.l0
      repeat' first
      |(with_reducible exact ih0 _ _)
      |(with_reducible exact ih1 _ _ _ _ _ _)
      |(with_reducible exact ih2 _ _ _ _ _ _ _)
      |(with_reducible exact ih3 _ _ _ _ _ _ _)
      |(with_reducible exact ih4 _ _ _ _ _ _)
      |(with_reducible exact ih5 _ _ _ _ _ _)
      |(with_reducible exact LeO.refl _)
      |(with_reducible exact LeO.none _)
      |(with_reducible refine LeO.ite ?_ ?_)
      |(with_reducible refine LeO.bind ?_ (fun _=> ?_))
      |exact ih0 _ _
      |exact ih1 _ _ _ _ _ _
      |exact ih2 _ _ _ _ _ _ _
      |exact ih3 _ _ _ _ _ _ _
      |exact ih4 _ _ _ _ _ _
      |exact ih5 _ _ _ _ _ _
      |exact LeO.none _
      |refine LeO.ite ?_ ?_
      |refine LeO.bind ?_ (fun _=> ?_)
theorem spec_l20Number.mono:∀a0 k,LeO (spec_l20Number.f k a0) (spec_l20Number.f (k+1) a0):=by
  intro a0 k
  obtain⟨ih0,ih1,ih2,ih3,ih4,ih5⟩:=spec_l20Number.mono_l k
  unfold spec_l20Number.f
  repeat' first
      |(with_reducible exact ih0 _ _)
      |(with_reducible exact ih1 _ _ _ _ _ _)
      |(with_reducible exact ih2 _ _ _ _ _ _ _)
      |(with_reducible exact ih3 _ _ _ _ _ _ _)
      |(with_reducible exact ih4 _ _ _ _ _ _)
      |(with_reducible exact ih5 _ _ _ _ _ _)
      |(with_reducible exact LeO.refl _)
      |(with_reducible exact LeO.none _)
      |(with_reducible refine LeO.ite ?_ ?_)
      |(with_reducible refine LeO.bind ?_ (fun _=> ?_))
      |exact ih0 _ _
      |exact ih1 _ _ _ _ _ _
      |exact ih2 _ _ _ _ _ _ _
      |exact ih3 _ _ _ _ _ _ _
      |exact ih4 _ _ _ _ _ _
      |exact ih5 _ _ _ _ _ _
      |exact LeO.none _
      |refine LeO.ite ?_ ?_
      |refine LeO.bind ?_ (fun _=> ?_)
set_option maxHeartbeats 8000000 in
set_option maxRecDepth 100000 in
theorem spec_l20Number.calls (k : Nat) (a0:ByteArray) (r1:Int) (r2:Int) (r3:ByteArray) (r4:Bool) (w:World) (h:spec_l20Number.f k a0=some (r1,r2,r3,r4)):
    Calls Tryz.prog 31 #[.string a0] w fun e w'=>e= .returned (.tuple #[.int .i64 r1, .int .i64 r2, .string r3, .bool r4])∧Drawn0 w w':=by
  have H:((spec_l20Begins.f a0 (⟨#[45]⟩:ByteArray)).bind fun bt372=>(if bt372.2=true then(spec_l20Number.j0 k bt372.1 (-1)) else(spec_l20Number.j0 k a0 1)))=some (r1,r2,r3,r4):=h
  clear h
  replace H:=Option.bind_eq_some_iff.mp H
  obtain⟨⟨t372,t373⟩,A20,H⟩:=H
  replace H:(if t373=true then(spec_l20Number.j0 k t372 (-1)) else(spec_l20Number.j0 k a0 1))=some (r1,r2,r3,r4):=H
  have A2:=Aside0.mk A20
  clear A20
  have HC3:=Aside0.mk H
  clear H
  go_enter Tryz.func31,Tryz.ntmps31
  go_upto_if 18 with(first|(go_at_call 33;(with_reducible refine(spec_l20Begins.calls a0 (⟨#[45]⟩:ByteArray) t372 t373 _ A2.out).mono ?_);rintro e w' ⟨rfl,⟨nd,rfl⟩⟩;(try first|exact⟨rfl,_,World.drewN_drewN _ _ _⟩|exact⟨rfl,_,Eq.trans (World.drewN_drewN _ _ _) (congrArg (World.drewN _) (Nat.add_assoc _ _ _))⟩)))
  repeat(go_quiet (first|(go_at_call 33;(with_reducible refine(spec_l20Begins.calls a0 (⟨#[45]⟩:ByteArray) t372 t373 _ A2.out).mono ?_);rintro e w' ⟨rfl,⟨nd,rfl⟩⟩;(try first|exact⟨rfl,_,World.drewN_drewN _ _ _⟩|exact⟨rfl,_,Eq.trans (World.drewN_drewN _ _ _) (congrArg (World.drewN _) (Nat.add_assoc _ _ _))⟩)));go_upto_if 18 with(first|(go_at_call 33;(with_reducible refine(spec_l20Begins.calls a0 (⟨#[45]⟩:ByteArray) t372 t373 _ A2.out).mono ?_);rintro e w' ⟨rfl,⟨nd,rfl⟩⟩;(try first|exact⟨rfl,_,World.drewN_drewN _ _ _⟩|exact⟨rfl,_,Eq.trans (World.drewN_drewN _ _ _) (congrArg (World.drewN _) (Nat.add_assoc _ _ _))⟩))))
  (try simp only[Act.put,List.setIfInBounds_toArray,List.set_cons_zero,List.set_cons_succ])
  go_cut [0,6] (fun v0 v6 wc=>∃(kq:Nat) (x0_2:ByteArray) (x6_2:Int),v0= .string x0_2∧v6= .int .i64 x6_2∧Aside0 (spec_l20Number.j0 kq x0_2 x6_2=some (r1,r2,r3,r4))∧Aside0 (kq≤k)∧Drawn0 w wc)
  case first=>
    have H:=HC3.out
    clear HC3
    by_cases c4:t373=true
    · subst c4
      have H1:(spec_l20Number.j0 k t372 (-1))=some (r1,r2,r3,r4):=by rw[if_pos rfl] at H;exact H
      clear H
      have H:=H1
      clear H1
      have H':=Aside0.mk H
      clear H
      go_wp2
      repeat(go_quiet (fail);try go_wp2)
      go_meet
      case rel=>exact⟨_,(t372),((-1)),(by first|rfl|(simp;done)|(simp[*];done)),(by first|rfl|(simp;done)|(simp[*];done)),H',⟨by first|omega|exact Nat.le_refl _⟩,by repeat(first|exact Drawn0.refl _|apply Drawn0.step)⟩
    · replace c4:=Bool.eq_false_iff.mpr c4
      subst c4
      have H1:(spec_l20Number.j0 k a0 1)=some (r1,r2,r3,r4):=by rw[if_neg (show ¬(false=true) by decide)] at H;exact H
      clear H
      have H:=H1
      clear H1
      have H':=Aside0.mk H
      clear H
      go_wp2
      repeat(go_quiet (fail);try go_wp2)
      go_meet
      case rel=>exact⟨_,(a0),(1),(by first|rfl|(simp;done)|(simp[*];done)),(by first|rfl|(simp;done)|(simp[*];done)),H',⟨by first|omega|exact Nat.le_refl _⟩,by repeat(first|exact Drawn0.refl _|apply Drawn0.step)⟩
  case rest =>
    clear HC3
    try clear p2
    try clear c3
    try clear c4
    obtain⟨kq,x0_2,x6_2,rfl,rfl,HA,HJ2,⟨mc2,rfl⟩⟩:=hcut
    cases kq with
    |zero=>exact absurd HA.out (by simp[spec_l20Number.j0])
    | succ kj2=>
      have H:=HA.out
      clear HA
      simp only[spec_l20Number.j0] at H
      have HC5:=Aside0.mk H
      clear H
      go_upto_block 0 with(fail)
      repeat(go_quiet (fail);go_upto_block 0 with(fail))
      go_cut [9,10,12] (fun v9 v10 v12 wc=>∃(kq:Nat) (x9_4:Int) (x10_4:Int) (x12_4:Int),v9= .int .i64 x9_4∧v10= .int .i64 x10_4∧v12= .int .i64 x12_4∧Aside0 (spec_l20Number.j2 kq x0_2 x6_2 x9_4 x10_4 0 x12_4=some (r1,r2,r3,r4))∧Aside0 (kq≤kj2)∧Drawn0 w wc)
      case first=>
        have H:=HC5.out
        clear HC5
        have H':=Aside0.mk H
        clear H
        go_wp2
        repeat(go_quiet (fail);try go_wp2)
        (try simp only[Act.put,List.setIfInBounds_toArray,List.set_cons_zero,List.set_cons_succ])
        go_loopg [9,10,12] kj2 (fun kq v9 v10 v12 w'=>∃(x9_2:Int) (x10_2:Int) (x12_2:Int),v9= .int .i64 x9_2∧v10= .int .i64 x10_2∧v12= .int .i64 x12_2∧Aside0 (spec_l20Number.l0 kq x0_2 x6_2 x9_2 x10_2 0 x12_2=some (r1,r2,r3,r4))∧Aside0 (kq≤kj2)∧Drawn0 w w')
        case atStart=>exact⟨(0),(0),(0),(by first|rfl|(simp;done)|(simp[*];done)),(by first|rfl|(simp;done)|(simp[*];done)),(by first|rfl|(simp;done)|(simp[*];done)),H',⟨Nat.le_refl _⟩,by repeat(first|exact Drawn0.refl _|apply Drawn0.step)⟩
        case round=>
          clear H'
          try clear c2
          try clear p2
          try clear c3
          try clear c4
          try clear p2
          obtain⟨x9_2,x10_2,x12_2,rfl,rfl,rfl,HA,HK2,⟨m2,rfl⟩⟩:=hrel
          cases gk with
          |zero=>exact absurd HA.out (by simp[spec_l20Number.l0])
          | succ k2 =>
            have H:=HA.out
            clear HA
            simp only[spec_l20Number.l0] at H
            by_cases c6:x12_2<(x0_2.size:Int)
            · rw [if_pos c6] at H
              have c6b0:decide (x12_2<(x0_2.size:Int))=true:=decide_eq_true c6
              clear c6
              (first|rw[c6b0]|(simp only[i64_w,i32_w];rw[c6b0])|skip)
              by_cases c7:0≤x12_2
              · rw [if_pos c7] at H
                have c7b0:decide (0≤x12_2)=true:=decide_eq_true c7
                clear c7
                replace H:=Option.bind_eq_some_iff.mp H
                obtain⟨t374,A90,H⟩:=H
                replace H:(if t374=true then(if x10_2<10 then(spec_l20Number.l0 k2 x0_2 x6_2 (wrap64 ((wrap64 (x9_2*10))+(((bt x0_2 x12_2)-48)%256))) (wrap64 (x10_2+1)) 0 (wrap64 (x12_2+1))) else(spec_l20Number.j2 k2 x0_2 x6_2 x9_2 x10_2 0 x12_2)) else(spec_l20Number.j2 k2 x0_2 x6_2 x9_2 x10_2 0 x12_2))=some (r1,r2,r3,r4):=H
                have A9:=Aside0.mk A90
                clear A90
                by_cases c10:t374=true
                · subst c10
                  have H1:(if x10_2<10 then(spec_l20Number.l0 k2 x0_2 x6_2 (wrap64 ((wrap64 (x9_2*10))+(((bt x0_2 x12_2)-48)%256))) (wrap64 (x10_2+1)) 0 (wrap64 (x12_2+1))) else(spec_l20Number.j2 k2 x0_2 x6_2 x9_2 x10_2 0 x12_2))=some (r1,r2,r3,r4):=by rw[if_pos rfl] at H;exact H
                  clear H
                  have H:=H1
                  clear H1
                  by_cases c11:x10_2<10
                  · rw[if_pos c11] at H
                    have c11b0:decide (x10_2<10)=true:=decide_eq_true c11
                    clear c11
                    have H':=Aside0.mk H
                    clear H
                    have p8:0≤(x12_2:Int):=of_decide_eq_true (by first|(with_reducible assumption)|assumption)
                    have q8:x12_2<(x0_2.size:Int):=of_decide_eq_true (by first|(with_reducible assumption)|assumption)
                    have hx8:=bt_at x0_2 x12_2
                    replace p8:=eq_true p8
                    replace q8:=eq_true q8
                    go_wp2_with (first|(go_at_call 58;(with_reducible refine(spec_l2Digit.calls (bt x0_2 x12_2) true _ A9.out).mono ?_);rintro e w' ⟨rfl,⟨nd,rfl⟩⟩;(try first|exact⟨rfl,_,World.drewN_drewN _ _ _⟩|exact⟨rfl,_,Eq.trans (World.drewN_drewN _ _ _) (congrArg (World.drewN _) (Nat.add_assoc _ _ _))⟩);have p12:0≤(x12_2:Int):=of_decide_eq_true (by first|(with_reducible assumption)|assumption);have q12:x12_2<(x0_2.size:Int):=of_decide_eq_true (by first|(with_reducible assumption)|assumption);have hx12:=bt_at x0_2 x12_2;replace p12:=eq_true p12;replace q12:=eq_true q12))
                    repeat(go_quiet (first|(go_at_call 58;(with_reducible refine(spec_l2Digit.calls (bt x0_2 x12_2) true _ A9.out).mono ?_);rintro e w' ⟨rfl,⟨nd,rfl⟩⟩;(try first|exact⟨rfl,_,World.drewN_drewN _ _ _⟩|exact⟨rfl,_,Eq.trans (World.drewN_drewN _ _ _) (congrArg (World.drewN _) (Nat.add_assoc _ _ _))⟩);have p12:0≤(x12_2:Int):=of_decide_eq_true (by first|(with_reducible assumption)|assumption);have q12:x12_2<(x0_2.size:Int):=of_decide_eq_true (by first|(with_reducible assumption)|assumption);have hx12:=bt_at x0_2 x12_2;replace p12:=eq_true p12;replace q12:=eq_true q12));try go_wp2_with (first|(go_at_call 58;(with_reducible refine(spec_l2Digit.calls (bt x0_2 x12_2) true _ A9.out).mono ?_);rintro e w' ⟨rfl,⟨nd,rfl⟩⟩;(try first|exact⟨rfl,_,World.drewN_drewN _ _ _⟩|exact⟨rfl,_,Eq.trans (World.drewN_drewN _ _ _) (congrArg (World.drewN _) (Nat.add_assoc _ _ _))⟩);have p12:0≤(x12_2:Int):=of_decide_eq_true (by first|(with_reducible assumption)|assumption);have q12:x12_2<(x0_2.size:Int):=of_decide_eq_true (by first|(with_reducible assumption)|assumption);have hx12:=bt_at x0_2 x12_2;replace p12:=eq_true p12;replace q12:=eq_true q12)))
                    go_roundg k2
                    case measure=>have:=HJ2.out;have:=HK2.out;omega
                    case rel=>exact⟨(wrap64 ((wrap64 (x9_2*10))+(((bt x0_2 x12_2)-48)%256))),(wrap64 (x10_2+1)),(wrap64 (x12_2+1)),(by first|rfl|(simp;done)|(simp[*];done)),(by first|rfl|(simp;done)|(simp[*];done)),(by first|rfl|(simp;done)|(simp[*];done)),H',⟨by have:=HJ2.out;have:=HK2.out;omega⟩,by repeat(first|exact Drawn0.refl _|apply Drawn0.step)⟩
                  · rw[if_neg c11] at H
                    have c11b0:decide (x10_2<10)=false:=decide_eq_false c11
                    clear c11
                    have H':=Aside0.mk H
                    clear H
                    have p8:0≤(x12_2:Int):=of_decide_eq_true (by first|(with_reducible assumption)|assumption)
                    have q8:x12_2<(x0_2.size:Int):=of_decide_eq_true (by first|(with_reducible assumption)|assumption)
                    have hx8:=bt_at x0_2 x12_2
                    replace p8:=eq_true p8
                    replace q8:=eq_true q8
                    go_wp2_with (first|(go_at_call 58;(with_reducible refine(spec_l2Digit.calls (bt x0_2 x12_2) true _ A9.out).mono ?_);rintro e w' ⟨rfl,⟨nd,rfl⟩⟩;(try first|exact⟨rfl,_,World.drewN_drewN _ _ _⟩|exact⟨rfl,_,Eq.trans (World.drewN_drewN _ _ _) (congrArg (World.drewN _) (Nat.add_assoc _ _ _))⟩)))
                    repeat(go_quiet (first|(go_at_call 58;(with_reducible refine(spec_l2Digit.calls (bt x0_2 x12_2) true _ A9.out).mono ?_);rintro e w' ⟨rfl,⟨nd,rfl⟩⟩;(try first|exact⟨rfl,_,World.drewN_drewN _ _ _⟩|exact⟨rfl,_,Eq.trans (World.drewN_drewN _ _ _) (congrArg (World.drewN _) (Nat.add_assoc _ _ _))⟩)));try go_wp2_with (first|(go_at_call 58;(with_reducible refine(spec_l2Digit.calls (bt x0_2 x12_2) true _ A9.out).mono ?_);rintro e w' ⟨rfl,⟨nd,rfl⟩⟩;(try first|exact⟨rfl,_,World.drewN_drewN _ _ _⟩|exact⟨rfl,_,Eq.trans (World.drewN_drewN _ _ _) (congrArg (World.drewN _) (Nat.add_assoc _ _ _))⟩))))
                    go_meet
                    case rel=>exact⟨_,(x9_2),(x10_2),(x12_2),(by first|rfl|(simp;done)|(simp[*];done)),(by first|rfl|(simp;done)|(simp[*];done)),(by first|rfl|(simp;done)|(simp[*];done)),H',⟨by have:=HJ2.out;have:=HK2.out;first|omega|exact Nat.le_refl _⟩,by repeat(first|exact Drawn0.refl _|apply Drawn0.step)⟩
                · replace c10:=Bool.eq_false_iff.mpr c10
                  subst c10
                  have H1:(spec_l20Number.j2 k2 x0_2 x6_2 x9_2 x10_2 0 x12_2)=some (r1,r2,r3,r4):=by rw[if_neg (show ¬(false=true) by decide)] at H;exact H
                  clear H
                  have H:=H1
                  clear H1
                  have H':=Aside0.mk H
                  clear H
                  have p8:0≤(x12_2:Int):=of_decide_eq_true (by first|(with_reducible assumption)|assumption)
                  have q8:x12_2<(x0_2.size:Int):=of_decide_eq_true (by first|(with_reducible assumption)|assumption)
                  have hx8:=bt_at x0_2 x12_2
                  replace p8:=eq_true p8
                  replace q8:=eq_true q8
                  go_wp2_with (first|(go_at_call 58;(with_reducible refine(spec_l2Digit.calls (bt x0_2 x12_2) false _ A9.out).mono ?_);rintro e w' ⟨rfl,⟨nd,rfl⟩⟩;(try first|exact⟨rfl,_,World.drewN_drewN _ _ _⟩|exact⟨rfl,_,Eq.trans (World.drewN_drewN _ _ _) (congrArg (World.drewN _) (Nat.add_assoc _ _ _))⟩)))
                  repeat(go_quiet (first|(go_at_call 58;(with_reducible refine(spec_l2Digit.calls (bt x0_2 x12_2) false _ A9.out).mono ?_);rintro e w' ⟨rfl,⟨nd,rfl⟩⟩;(try first|exact⟨rfl,_,World.drewN_drewN _ _ _⟩|exact⟨rfl,_,Eq.trans (World.drewN_drewN _ _ _) (congrArg (World.drewN _) (Nat.add_assoc _ _ _))⟩)));try go_wp2_with (first|(go_at_call 58;(with_reducible refine(spec_l2Digit.calls (bt x0_2 x12_2) false _ A9.out).mono ?_);rintro e w' ⟨rfl,⟨nd,rfl⟩⟩;(try first|exact⟨rfl,_,World.drewN_drewN _ _ _⟩|exact⟨rfl,_,Eq.trans (World.drewN_drewN _ _ _) (congrArg (World.drewN _) (Nat.add_assoc _ _ _))⟩))))
                  go_meet
                  case rel=>exact⟨_,(x9_2),(x10_2),(x12_2),(by first|rfl|(simp;done)|(simp[*];done)),(by first|rfl|(simp;done)|(simp[*];done)),(by first|rfl|(simp;done)|(simp[*];done)),H',⟨by have:=HJ2.out;have:=HK2.out;first|omega|exact Nat.le_refl _⟩,by repeat(first|exact Drawn0.refl _|apply Drawn0.step)⟩
              · rw[if_neg c7] at H
                exact absurd H (by simp)
            · rw[if_neg c6] at H
              have c6b0:decide (x12_2<(x0_2.size:Int))=false:=decide_eq_false c6
              clear c6
              (first|rw[c6b0]|(simp only[i64_w,i32_w];rw[c6b0])|skip)
              have H':=Aside0.mk H
              clear H
              go_wp2
              repeat(go_quiet (fail);try go_wp2)
              go_meet
              case rel=>exact⟨_,(x9_2),(x10_2),(x12_2),(by first|rfl|(simp;done)|(simp[*];done)),(by first|rfl|(simp;done)|(simp[*];done)),(by first|rfl|(simp;done)|(simp[*];done)),H',⟨by have:=HJ2.out;have:=HK2.out;first|omega|exact Nat.le_refl _⟩,by repeat(first|exact Drawn0.refl _|apply Drawn0.step)⟩
      case rest =>
        clear HC5
        try clear c1
        try clear p1
        try clear q1
        try clear hx1
        try clear c2
        try clear p2
        try clear c3
        try clear c4
        try clear c6
        try clear c6b0
        try clear p6
        try clear c7
        try clear c7b0
        try clear p8
        try clear q8
        try clear hx8
        try clear c10
        try clear c11
        try clear c11b0
        try clear p12
        try clear q12
        try clear hx12
        try clear p12
        try clear p2
        try clear p8
        try clear q12
        try clear q8
        obtain⟨kq,x9_4,x10_4,x12_4,rfl,rfl,rfl,HA,HJ4,⟨mc4,rfl⟩⟩:=hcut
        cases kq with
        |zero=>exact absurd HA.out (by simp[spec_l20Number.j2])
        | succ kj4=>
          have H:=HA.out
          clear HA
          simp only[spec_l20Number.j2] at H
          have HC13:=Aside0.mk H
          clear H
          go_upto_region 12 with(fail)
          repeat(go_quiet (fail);go_upto_region 12 with(fail))
          go_cut [56] (fun v56 wc=>∃(kq:Nat) (x56_12:Bool),v56= .bool x56_12∧Aside0 (spec_l20Number.j3 kq x0_2 x6_2 x9_4 x10_4 0 x12_4 x56_12=some (r1,r2,r3,r4))∧Aside0 (kq≤kj4)∧Drawn0 w wc)
          case first=>
            have H:=HC13.out
            clear HC13
            by_cases c14:x10_4=0
            · rw[if_pos c14] at H
              have c14b0:(x10_4==0)=true:=beq_iff_eq.mpr c14
              have c14b1:(x10_4 != 0)=false:=bne_eq_false_iff_eq.mpr c14
              clear c14
              (first|rw[c14b0]|(simp only[i64_w,i32_w];rw[c14b0])|skip)
              have H':=Aside0.mk H
              clear H
              go_wp2
              repeat(go_quiet (fail);try go_wp2)
              go_meet
              case rel=>exact⟨_,(true),(by first|rfl|(simp;done)|(simp[*];done)),H',⟨by have:=HJ2.out;have:=HJ4.out;first|omega|exact Nat.le_refl _⟩,by repeat(first|exact Drawn0.refl _|apply Drawn0.step)⟩
            · rw [if_neg c14] at H
              have c14b0:(x10_4==0)=false:=beq_eq_false_iff_ne.mpr c14
              have c14b1:(x10_4 != 0)=true:=bne_iff_ne.mpr c14
              (first|rw[c14b0]|(simp only[i64_w,i32_w];rw[c14b0])|skip)
              by_cases c15:x10_4>1
              · rw[if_pos c15] at H
                have c15b0:decide (1<x10_4)=true:=decide_eq_true c15
                clear c15
                by_cases c16:0<(x0_2.size:Int)
                · rw[if_pos c16] at H
                  have c16b0:decide (0<(x0_2.size:Int))=true:=decide_eq_true c16
                  have c16b1:decide (0<x0_2.size)=true:=decide_eq_true (by omega)
                  clear c16
                  have H':=Aside0.mk H
                  clear H
                  have p17:0≤(0:Int):=(by omega)
                  have q17:0<x0_2.size:=(by have:(0:Int)<(x0_2.size:Int):=of_decide_eq_true (by first|(with_reducible assumption)|assumption);omega)
                  have hx17:∀h:0<x0_2.size,((x0_2[0]'h).toNat:Int)=bt x0_2 0:=bt_at x0_2 0
                  clear p17
                  have qi17:(0<(x0_2.size:Int))=True:=eq_true (of_decide_eq_true (by first|(with_reducible assumption)|assumption))
                  replace q17:=eq_true q17
                  go_wp2
                  repeat(go_quiet (fail);try go_wp2)
                  go_meet
                  case rel=>exact⟨_,(((bt x0_2 0)==48)),(by first|rfl|(simp;done)|(simp[*];done)),H',⟨by have:=HJ2.out;have:=HJ4.out;first|omega|exact Nat.le_refl _⟩,by repeat(first|exact Drawn0.refl _|apply Drawn0.step)⟩
                · rw[if_neg c16] at H
                  exact absurd H (by simp)
              · rw[if_neg c15] at H
                have c15b0:decide (1<x10_4)=false:=decide_eq_false c15
                clear c15
                have H':=Aside0.mk H
                clear H
                go_wp2
                repeat(go_quiet (fail);try go_wp2)
                go_meet
                case rel=>exact⟨_,(false),(by first|rfl|(simp;done)|(simp[*];done)),H',⟨by have:=HJ2.out;have:=HJ4.out;first|omega|exact Nat.le_refl _⟩,by repeat(first|exact Drawn0.refl _|apply Drawn0.step)⟩
          case rest =>
            clear HC13
            try clear c1
            try clear p1
            try clear q1
            try clear hx1
            try clear qi1
            try clear c2
            try clear p2
            try clear c3
            try clear c4
            try clear c6
            try clear c6b0
            try clear p6
            try clear c7
            try clear c7b0
            try clear p8
            try clear q8
            try clear hx8
            try clear c10
            try clear c11
            try clear c11b0
            try clear p12
            try clear q12
            try clear hx12
            try clear c14
            try clear c14b0
            try clear c14b1
            try clear c15
            try clear c15b0
            try clear c16
            try clear c16b0
            try clear c16b1
            try clear p17
            try clear q17
            try clear hx17
            try clear qi17
            try clear p1
            try clear p12
            try clear p17
            try clear p2
            try clear p6
            try clear p8
            try clear q1
            try clear q12
            try clear q17
            try clear q8
            obtain⟨kq,x56_12,rfl,HA,HJ12,⟨mc12,rfl⟩⟩:=hcut
            cases kq with
            |zero=>exact absurd HA.out (by simp[spec_l20Number.j3])
            | succ kj12 =>
              have H:=HA.out
              clear HA
              simp only[spec_l20Number.j3] at H
              by_cases c18:x56_12=true
              · subst c18
                have H1:(some (0,0,x0_2,false))=some (r1,r2,r3,r4):=by rw[if_pos rfl] at H;exact H
                clear H
                have H:=H1
                clear H1
                simp only[Option.some.injEq,Prod.mk.injEq] at H
                obtain⟨rfl,rfl,rfl,rfl⟩:=H
                go_wp2
                repeat(go_quiet (fail);try go_wp2)
                refine bodyPost_ret (results_list (rs:=[.tmp 2, .tmp 3, .tmp 4, .tmp 5]) rfl (by simp) (.tmp (.tmp (.tmp (.tmp .nil))))) rfl ?_
                exact⟨by first|rfl|(simp;done)|(simp[*];done)|(simp;unfold wrap64;omega),by repeat(first|exact Drawn0.refl _|apply Drawn0.step)⟩
              · replace c18 := Bool.eq_false_iff.mpr c18
                subst c18
                have H1:(if x12_4<(x0_2.size:Int) then(if 0≤x12_4 then(spec_l20Number.j4 kj12 x0_2 x6_2 x9_4 x10_4 0 x12_4 ((bt x0_2 x12_4)==46)) else(none)) else(spec_l20Number.j4 kj12 x0_2 x6_2 x9_4 x10_4 0 x12_4 false))=some (r1,r2,r3,r4):=by rw[if_neg (show ¬(false=true) by decide)] at H;exact H
                clear H
                have H:=H1
                clear H1
                have HC19:=Aside0.mk H
                clear H
                go_upto_region 14 with(fail)
                repeat(go_quiet (fail);go_upto_region 14 with(fail))
                go_cut [67] (fun v67 wc=>∃(kq:Nat) (x67_18:Bool),v67= .bool x67_18∧Aside0 (spec_l20Number.j4 kq x0_2 x6_2 x9_4 x10_4 0 x12_4 x67_18=some (r1,r2,r3,r4))∧Aside0 (kq≤kj12)∧Drawn0 w wc)
                case first=>
                  have H:=HC19.out
                  clear HC19
                  by_cases c20:x12_4<(x0_2.size:Int)
                  · rw[if_pos c20] at H
                    have c20b0:decide (x12_4<(x0_2.size:Int))=true:=decide_eq_true c20
                    clear c20
                    (first|rw[c20b0]|(simp only[i64_w,i32_w];rw[c20b0])|skip)
                    by_cases c21:0≤x12_4
                    · rw[if_pos c21] at H
                      have c21b0:decide (0≤x12_4)=true:=decide_eq_true c21
                      clear c21
                      have H':=Aside0.mk H
                      clear H
                      have p22:0≤(x12_4:Int):=of_decide_eq_true (by first|(with_reducible assumption)|assumption)
                      have q22:x12_4<(x0_2.size:Int):=of_decide_eq_true (by first|(with_reducible assumption)|assumption)
                      have hx22:=bt_at x0_2 x12_4
                      replace p22:=eq_true p22
                      replace q22:=eq_true q22
                      go_wp2
                      repeat(go_quiet (fail);try go_wp2)
                      go_meet
                      case rel=>exact⟨_,(((bt x0_2 x12_4)==46)),(by first|rfl|(simp;done)|(simp[*];done)),H',⟨by have:=HJ2.out;have:=HJ4.out;have:=HJ12.out;first|omega|exact Nat.le_refl _⟩,by repeat(first|exact Drawn0.refl _|apply Drawn0.step)⟩
                    · rw[if_neg c21] at H
                      exact absurd H (by simp)
                  · rw[if_neg c20] at H
                    have c20b0:decide (x12_4<(x0_2.size:Int))=false:=decide_eq_false c20
                    clear c20
                    (first|rw[c20b0]|(simp only[i64_w,i32_w];rw[c20b0])|skip)
                    have H':=Aside0.mk H
                    clear H
                    go_wp2
                    repeat(go_quiet (fail);try go_wp2)
                    go_meet
                    case rel=>exact⟨_,(false),(by first|rfl|(simp;done)|(simp[*];done)),H',⟨by have:=HJ2.out;have:=HJ4.out;have:=HJ12.out;first|omega|exact Nat.le_refl _⟩,by repeat(first|exact Drawn0.refl _|apply Drawn0.step)⟩
                case rest =>
                  clear HC19
                  try clear c1
                  try clear p1
                  try clear q1
                  try clear hx1
                  try clear qi1
                  try clear c2
                  try clear p2
                  try clear q2
                  try clear hx2
                  try clear c3
                  try clear c4
                  try clear c6
                  try clear c6b0
                  try clear p6
                  try clear c7
                  try clear c7b0
                  try clear p8
                  try clear q8
                  try clear hx8
                  try clear c10
                  try clear c11
                  try clear c11b0
                  try clear c12
                  try clear p12
                  try clear q12
                  try clear hx12
                  try clear c14
                  try clear c14b0
                  try clear c14b1
                  try clear c15
                  try clear c15b0
                  try clear c16
                  try clear c16b0
                  try clear c16b1
                  try clear p17
                  try clear q17
                  try clear hx17
                  try clear qi17
                  try clear c18
                  try clear c20
                  try clear c20b0
                  try clear c21
                  try clear c21b0
                  try clear p22
                  try clear q22
                  try clear hx22
                  try clear p1
                  try clear p12
                  try clear p17
                  try clear p2
                  try clear p22
                  try clear p6
                  try clear p8
                  try clear q1
                  try clear q12
                  try clear q17
                  try clear q22
                  try clear q8
                  obtain⟨kq,x67_18,rfl,HA,HJ18,⟨mc18,rfl⟩⟩:=hcut
                  cases kq with
                  |zero=>exact absurd HA.out (by simp[spec_l20Number.j4])
                  | succ kj18 =>
                    have H:=HA.out
                    clear HA
                    simp only[spec_l20Number.j4] at H
                    by_cases c23:x67_18=true
                    · subst c23
                      have H1:(spec_l20Number.l1 kj18 x0_2 x6_2 x9_4 x10_4 0 (wrap64 (x12_4+1)))=some (r1,r2,r3,r4):=by rw[if_pos rfl] at H;exact H
                      clear H
                      have H:=H1
                      clear H1
                      have H':=Aside0.mk H
                      clear H
                      go_wp2
                      repeat(go_quiet (fail);try go_wp2)
                      (try simp only[Act.put,List.setIfInBounds_toArray,List.set_cons_zero,List.set_cons_succ])
                      go_loopg [9,10,11,12] kj18 (fun kq v9 v10 v11 v12 w'=>∃(x9_5:Int) (x10_5:Int) (x11_5:Int) (x12_5:Int),v9= .int .i64 x9_5∧v10= .int .i64 x10_5∧v11= .int .i64 x11_5∧v12= .int .i64 x12_5∧Aside0 (spec_l20Number.l1 kq x0_2 x6_2 x9_5 x10_5 x11_5 x12_5=some (r1,r2,r3,r4))∧Aside0 (kq≤kj18)∧Drawn0 w w')
                      case atStart=>exact⟨(x9_4),(x10_4),(0),(wrap64 (x12_4+1)),(by first|rfl|(simp;done)|(simp[*];done)),(by first|rfl|(simp;done)|(simp[*];done)),(by first|rfl|(simp;done)|(simp[*];done)),(by first|rfl|(simp;done)|(simp[*];done)),H',⟨Nat.le_refl _⟩,by repeat(first|exact Drawn0.refl _|apply Drawn0.step)⟩
                      case round=>
                        clear H'
                        try clear c1
                        try clear p1
                        try clear q1
                        try clear hx1
                        try clear qi1
                        try clear c2
                        try clear p2
                        try clear q2
                        try clear hx2
                        try clear c3
                        try clear c4
                        try clear c6
                        try clear c6b0
                        try clear p6
                        try clear c7
                        try clear c7b0
                        try clear p8
                        try clear q8
                        try clear hx8
                        try clear c10
                        try clear c11
                        try clear c11b0
                        try clear c12
                        try clear p12
                        try clear q12
                        try clear hx12
                        try clear c14
                        try clear c14b0
                        try clear c14b1
                        try clear c15
                        try clear c15b0
                        try clear c16
                        try clear c16b0
                        try clear c16b1
                        try clear p17
                        try clear q17
                        try clear hx17
                        try clear qi17
                        try clear c18
                        try clear c20
                        try clear c20b0
                        try clear c21
                        try clear c21b0
                        try clear p22
                        try clear q22
                        try clear hx22
                        try clear c23
                        try clear p1
                        try clear p12
                        try clear p17
                        try clear p2
                        try clear p22
                        try clear p6
                        try clear p8
                        try clear q1
                        try clear q12
                        try clear q17
                        try clear q2
                        try clear q22
                        try clear q8
                        obtain⟨x9_5,x10_5,x11_5,x12_5,rfl,rfl,rfl,rfl,HA,HK5,⟨m5,rfl⟩⟩:=hrel
                        cases gk with
                        |zero=>exact absurd HA.out (by simp[spec_l20Number.l1])
                        | succ k5 =>
                          have H:=HA.out
                          clear HA
                          simp only[spec_l20Number.l1] at H
                          by_cases c24:x12_5<(x0_2.size:Int)
                          · rw [if_pos c24] at H
                            have c24b0:decide (x12_5<(x0_2.size:Int))=true:=decide_eq_true c24
                            clear c24
                            by_cases c25:0≤x12_5
                            · rw [if_pos c25] at H
                              have c25b0:decide (0≤x12_5)=true:=decide_eq_true c25
                              clear c25
                              replace H:=Option.bind_eq_some_iff.mp H
                              obtain⟨t375,A270,H⟩:=H
                              replace H:(if t375=true then(if x10_5<10 then(spec_l20Number.l1 k5 x0_2 x6_2 (wrap64 ((wrap64 (x9_5*10))+(((bt x0_2 x12_5)-48)%256))) (wrap64 (x10_5+1)) (wrap64 (x11_5+1)) (wrap64 (x12_5+1))) else(if x11_5=0 then(some (0,0,x0_2,false)) else(if x12_5≤(x0_2.size:Int) then(some (wrap64 (x6_2*x9_5),wrap64 (-x11_5),x0_2.extract (x12_5:Int).toNat x0_2.size,decide (x10_5≤9))) else(none)))) else(if x11_5=0 then(some (0,0,x0_2,false)) else(if x12_5≤(x0_2.size:Int) then(some (wrap64 (x6_2*x9_5),wrap64 (-x11_5),x0_2.extract (x12_5:Int).toNat x0_2.size,decide (x10_5≤9))) else(none))))=some (r1,r2,r3,r4):=H
                              have A27:=Aside0.mk A270
                              clear A270
                              by_cases c28:t375=true
                              · subst c28
                                have H1:(if x10_5<10 then(spec_l20Number.l1 k5 x0_2 x6_2 (wrap64 ((wrap64 (x9_5*10))+(((bt x0_2 x12_5)-48)%256))) (wrap64 (x10_5+1)) (wrap64 (x11_5+1)) (wrap64 (x12_5+1))) else(if x11_5=0 then(some (0,0,x0_2,false)) else(if x12_5≤(x0_2.size:Int) then(some (wrap64 (x6_2*x9_5),wrap64 (-x11_5),x0_2.extract (x12_5:Int).toNat x0_2.size,decide (x10_5≤9))) else(none))))=some (r1,r2,r3,r4):=by rw[if_pos rfl] at H;exact H
                                clear H
                                have H:=H1
                                clear H1
                                by_cases c29:x10_5<10
                                · rw[if_pos c29] at H
                                  have c29b0:decide (x10_5<10)=true:=decide_eq_true c29
                                  clear c29
                                  have H':=Aside0.mk H
                                  clear H
                                  have p26:0≤(x12_5:Int):=of_decide_eq_true (by first|(with_reducible assumption)|assumption)
                                  have q26:x12_5<(x0_2.size:Int):=of_decide_eq_true (by first|(with_reducible assumption)|assumption)
                                  have hx26:=bt_at x0_2 x12_5
                                  replace p26:=eq_true p26
                                  replace q26:=eq_true q26
                                  go_wp2_with (first|(go_at_call 58;(with_reducible refine(spec_l2Digit.calls (bt x0_2 x12_5) true _ A27.out).mono ?_);rintro e w' ⟨rfl,⟨nd,rfl⟩⟩;(try first|exact⟨rfl,_,World.drewN_drewN _ _ _⟩|exact⟨rfl,_,Eq.trans (World.drewN_drewN _ _ _) (congrArg (World.drewN _) (Nat.add_assoc _ _ _))⟩);have p30:0≤(x12_5:Int):=of_decide_eq_true (by first|(with_reducible assumption)|assumption);have q30:x12_5<(x0_2.size:Int):=of_decide_eq_true (by first|(with_reducible assumption)|assumption);have hx30:=bt_at x0_2 x12_5;replace p30:=eq_true p30;replace q30:=eq_true q30))
                                  repeat(go_quiet (first|(go_at_call 58;(with_reducible refine(spec_l2Digit.calls (bt x0_2 x12_5) true _ A27.out).mono ?_);rintro e w' ⟨rfl,⟨nd,rfl⟩⟩;(try first|exact⟨rfl,_,World.drewN_drewN _ _ _⟩|exact⟨rfl,_,Eq.trans (World.drewN_drewN _ _ _) (congrArg (World.drewN _) (Nat.add_assoc _ _ _))⟩);have p30:0≤(x12_5:Int):=of_decide_eq_true (by first|(with_reducible assumption)|assumption);have q30:x12_5<(x0_2.size:Int):=of_decide_eq_true (by first|(with_reducible assumption)|assumption);have hx30:=bt_at x0_2 x12_5;replace p30:=eq_true p30;replace q30:=eq_true q30));try go_wp2_with (first|(go_at_call 58;(with_reducible refine(spec_l2Digit.calls (bt x0_2 x12_5) true _ A27.out).mono ?_);rintro e w' ⟨rfl,⟨nd,rfl⟩⟩;(try first|exact⟨rfl,_,World.drewN_drewN _ _ _⟩|exact⟨rfl,_,Eq.trans (World.drewN_drewN _ _ _) (congrArg (World.drewN _) (Nat.add_assoc _ _ _))⟩);have p30:0≤(x12_5:Int):=of_decide_eq_true (by first|(with_reducible assumption)|assumption);have q30:x12_5<(x0_2.size:Int):=of_decide_eq_true (by first|(with_reducible assumption)|assumption);have hx30:=bt_at x0_2 x12_5;replace p30:=eq_true p30;replace q30:=eq_true q30)))
                                  go_roundg k5
                                  case measure=>have:=HJ2.out;have:=HJ4.out;have:=HJ12.out;have:=HJ18.out;have:=HK5.out;omega
                                  case rel=>exact⟨(wrap64 ((wrap64 (x9_5*10))+(((bt x0_2 x12_5)-48)%256))),(wrap64 (x10_5+1)),(wrap64 (x11_5+1)),(wrap64 (x12_5+1)),(by first|rfl|(simp;done)|(simp[*];done)),(by first|rfl|(simp;done)|(simp[*];done)),(by first|rfl|(simp;done)|(simp[*];done)),(by first|rfl|(simp;done)|(simp[*];done)),H',⟨by have:=HJ2.out;have:=HJ4.out;have:=HJ12.out;have:=HJ18.out;have:=HK5.out;omega⟩,by repeat(first|exact Drawn0.refl _|apply Drawn0.step)⟩
                                · rw [if_neg c29] at H
                                  have c29b0:decide (x10_5<10)=false:=decide_eq_false c29
                                  clear c29
                                  by_cases c31:x11_5=0
                                  · rw[if_pos c31] at H
                                    have c31b0:(x11_5==0)=true:=beq_iff_eq.mpr c31
                                    have c31b1:(x11_5 != 0)=false:=bne_eq_false_iff_eq.mpr c31
                                    clear c31
                                    simp only[Option.some.injEq,Prod.mk.injEq] at H
                                    obtain⟨rfl,rfl,rfl,rfl⟩:=H
                                    have p26:0≤(x12_5:Int):=of_decide_eq_true (by first|(with_reducible assumption)|assumption)
                                    have q26:x12_5<(x0_2.size:Int):=of_decide_eq_true (by first|(with_reducible assumption)|assumption)
                                    have hx26:=bt_at x0_2 x12_5
                                    replace p26:=eq_true p26
                                    replace q26:=eq_true q26
                                    go_wp2_with (first|(go_at_call 58;(with_reducible refine(spec_l2Digit.calls (bt x0_2 x12_5) true _ A27.out).mono ?_);rintro e w' ⟨rfl,⟨nd,rfl⟩⟩;(try first|exact⟨rfl,_,World.drewN_drewN _ _ _⟩|exact⟨rfl,_,Eq.trans (World.drewN_drewN _ _ _) (congrArg (World.drewN _) (Nat.add_assoc _ _ _))⟩)))
                                    repeat(go_quiet (first|(go_at_call 58;(with_reducible refine(spec_l2Digit.calls (bt x0_2 x12_5) true _ A27.out).mono ?_);rintro e w' ⟨rfl,⟨nd,rfl⟩⟩;(try first|exact⟨rfl,_,World.drewN_drewN _ _ _⟩|exact⟨rfl,_,Eq.trans (World.drewN_drewN _ _ _) (congrArg (World.drewN _) (Nat.add_assoc _ _ _))⟩)));try go_wp2_with (first|(go_at_call 58;(with_reducible refine(spec_l2Digit.calls (bt x0_2 x12_5) true _ A27.out).mono ?_);rintro e w' ⟨rfl,⟨nd,rfl⟩⟩;(try first|exact⟨rfl,_,World.drewN_drewN _ _ _⟩|exact⟨rfl,_,Eq.trans (World.drewN_drewN _ _ _) (congrArg (World.drewN _) (Nat.add_assoc _ _ _))⟩))))
                                    refine bodyPost_ret (results_list (rs:=[.tmp 2, .tmp 3, .tmp 4, .tmp 5]) rfl (by simp) (.tmp (.tmp (.tmp (.tmp .nil))))) rfl ?_
                                    exact⟨by first|rfl|(simp;done)|(simp[*];done)|(simp;unfold wrap64;omega),by repeat(first|exact Drawn0.refl _|apply Drawn0.step)⟩
                                  · rw[if_neg c31] at H
                                    have c31b0:(x11_5==0)=false:=beq_eq_false_iff_ne.mpr c31
                                    have c31b1:(x11_5 != 0)=true:=bne_iff_ne.mpr c31
                                    have c32b0:=eq_true (of_decide_eq_true (by first|(with_reducible assumption)|assumption):0≤x12_5)
                                    by_cases c33:x12_5≤(x0_2.size:Int)
                                    · rw[if_pos c33] at H
                                      have c33b0:=eq_true c33
                                      have c33b1:decide (x12_5≤(x0_2.size:Int))=true:=decide_eq_true c33
                                      clear c33
                                      simp only[Option.some.injEq,Prod.mk.injEq] at H
                                      obtain⟨rfl,rfl,rfl,rfl⟩:=H
                                      have p26:0≤(x12_5:Int):=of_decide_eq_true (by first|(with_reducible assumption)|assumption)
                                      have q26:x12_5<(x0_2.size:Int):=of_decide_eq_true (by first|(with_reducible assumption)|assumption)
                                      have hx26:=bt_at x0_2 x12_5
                                      replace p26:=eq_true p26
                                      replace q26:=eq_true q26
                                      go_wp2_with (first|(go_at_call 58;(with_reducible refine(spec_l2Digit.calls (bt x0_2 x12_5) true _ A27.out).mono ?_);rintro e w' ⟨rfl,⟨nd,rfl⟩⟩;(try first|exact⟨rfl,_,World.drewN_drewN _ _ _⟩|exact⟨rfl,_,Eq.trans (World.drewN_drewN _ _ _) (congrArg (World.drewN _) (Nat.add_assoc _ _ _))⟩)))
                                      repeat(go_quiet (first|(go_at_call 58;(with_reducible refine(spec_l2Digit.calls (bt x0_2 x12_5) true _ A27.out).mono ?_);rintro e w' ⟨rfl,⟨nd,rfl⟩⟩;(try first|exact⟨rfl,_,World.drewN_drewN _ _ _⟩|exact⟨rfl,_,Eq.trans (World.drewN_drewN _ _ _) (congrArg (World.drewN _) (Nat.add_assoc _ _ _))⟩)));try go_wp2_with (first|(go_at_call 58;(with_reducible refine(spec_l2Digit.calls (bt x0_2 x12_5) true _ A27.out).mono ?_);rintro e w' ⟨rfl,⟨nd,rfl⟩⟩;(try first|exact⟨rfl,_,World.drewN_drewN _ _ _⟩|exact⟨rfl,_,Eq.trans (World.drewN_drewN _ _ _) (congrArg (World.drewN _) (Nat.add_assoc _ _ _))⟩))))
                                      refine bodyPost_ret (results_list (rs:=[.tmp 2, .tmp 3, .tmp 4, .tmp 5]) rfl (by simp) (.tmp (.tmp (.tmp (.tmp .nil))))) rfl ?_
                                      exact⟨by first|rfl|(simp;done)|(simp[*];done)|(simp;unfold wrap64;omega),by repeat(first|exact Drawn0.refl _|apply Drawn0.step)⟩
                                    · rw[if_neg c33] at H
                                      exact absurd H (by simp)
                              · replace c28:=Bool.eq_false_iff.mpr c28
                                subst c28
                                have H1:(if x11_5=0 then(some (0,0,x0_2,false)) else(if x12_5≤(x0_2.size:Int) then(some (wrap64 (x6_2*x9_5),wrap64 (-x11_5),x0_2.extract (x12_5:Int).toNat x0_2.size,decide (x10_5≤9))) else(none)))=some (r1,r2,r3,r4):=by rw[if_neg (show ¬(false=true) by decide)] at H;exact H
                                clear H
                                have H:=H1
                                clear H1
                                by_cases c34:x11_5=0
                                · rw[if_pos c34] at H
                                  have c34b0:(x11_5==0)=true:=beq_iff_eq.mpr c34
                                  have c34b1:(x11_5 != 0)=false:=bne_eq_false_iff_eq.mpr c34
                                  clear c34
                                  simp only[Option.some.injEq,Prod.mk.injEq] at H
                                  obtain⟨rfl,rfl,rfl,rfl⟩:=H
                                  have p26:0≤(x12_5:Int):=of_decide_eq_true (by first|(with_reducible assumption)|assumption)
                                  have q26:x12_5<(x0_2.size:Int):=of_decide_eq_true (by first|(with_reducible assumption)|assumption)
                                  have hx26:=bt_at x0_2 x12_5
                                  replace p26:=eq_true p26
                                  replace q26:=eq_true q26
                                  go_wp2_with (first|(go_at_call 58;(with_reducible refine(spec_l2Digit.calls (bt x0_2 x12_5) false _ A27.out).mono ?_);rintro e w' ⟨rfl,⟨nd,rfl⟩⟩;(try first|exact⟨rfl,_,World.drewN_drewN _ _ _⟩|exact⟨rfl,_,Eq.trans (World.drewN_drewN _ _ _) (congrArg (World.drewN _) (Nat.add_assoc _ _ _))⟩)))
                                  repeat(go_quiet (first|(go_at_call 58;(with_reducible refine(spec_l2Digit.calls (bt x0_2 x12_5) false _ A27.out).mono ?_);rintro e w' ⟨rfl,⟨nd,rfl⟩⟩;(try first|exact⟨rfl,_,World.drewN_drewN _ _ _⟩|exact⟨rfl,_,Eq.trans (World.drewN_drewN _ _ _) (congrArg (World.drewN _) (Nat.add_assoc _ _ _))⟩)));try go_wp2_with (first|(go_at_call 58;(with_reducible refine(spec_l2Digit.calls (bt x0_2 x12_5) false _ A27.out).mono ?_);rintro e w' ⟨rfl,⟨nd,rfl⟩⟩;(try first|exact⟨rfl,_,World.drewN_drewN _ _ _⟩|exact⟨rfl,_,Eq.trans (World.drewN_drewN _ _ _) (congrArg (World.drewN _) (Nat.add_assoc _ _ _))⟩))))
                                  refine bodyPost_ret (results_list (rs:=[.tmp 2, .tmp 3, .tmp 4, .tmp 5]) rfl (by simp) (.tmp (.tmp (.tmp (.tmp .nil))))) rfl ?_
                                  exact⟨by first|rfl|(simp;done)|(simp[*];done)|(simp;unfold wrap64;omega),by repeat(first|exact Drawn0.refl _|apply Drawn0.step)⟩
                                · rw[if_neg c34] at H
                                  have c34b0:(x11_5==0)=false:=beq_eq_false_iff_ne.mpr c34
                                  have c34b1:(x11_5 != 0)=true:=bne_iff_ne.mpr c34
                                  have c35b0:=eq_true (of_decide_eq_true (by first|(with_reducible assumption)|assumption):0≤x12_5)
                                  by_cases c36:x12_5≤(x0_2.size:Int)
                                  · rw[if_pos c36] at H
                                    have c36b0:=eq_true c36
                                    have c36b1:decide (x12_5≤(x0_2.size:Int))=true:=decide_eq_true c36
                                    clear c36
                                    simp only[Option.some.injEq,Prod.mk.injEq] at H
                                    obtain⟨rfl,rfl,rfl,rfl⟩:=H
                                    have p26:0≤(x12_5:Int):=of_decide_eq_true (by first|(with_reducible assumption)|assumption)
                                    have q26:x12_5<(x0_2.size:Int):=of_decide_eq_true (by first|(with_reducible assumption)|assumption)
                                    have hx26:=bt_at x0_2 x12_5
                                    replace p26:=eq_true p26
                                    replace q26:=eq_true q26
                                    go_wp2_with (first|(go_at_call 58;(with_reducible refine(spec_l2Digit.calls (bt x0_2 x12_5) false _ A27.out).mono ?_);rintro e w' ⟨rfl,⟨nd,rfl⟩⟩;(try first|exact⟨rfl,_,World.drewN_drewN _ _ _⟩|exact⟨rfl,_,Eq.trans (World.drewN_drewN _ _ _) (congrArg (World.drewN _) (Nat.add_assoc _ _ _))⟩)))
                                    repeat(go_quiet (first|(go_at_call 58;(with_reducible refine(spec_l2Digit.calls (bt x0_2 x12_5) false _ A27.out).mono ?_);rintro e w' ⟨rfl,⟨nd,rfl⟩⟩;(try first|exact⟨rfl,_,World.drewN_drewN _ _ _⟩|exact⟨rfl,_,Eq.trans (World.drewN_drewN _ _ _) (congrArg (World.drewN _) (Nat.add_assoc _ _ _))⟩)));try go_wp2_with (first|(go_at_call 58;(with_reducible refine(spec_l2Digit.calls (bt x0_2 x12_5) false _ A27.out).mono ?_);rintro e w' ⟨rfl,⟨nd,rfl⟩⟩;(try first|exact⟨rfl,_,World.drewN_drewN _ _ _⟩|exact⟨rfl,_,Eq.trans (World.drewN_drewN _ _ _) (congrArg (World.drewN _) (Nat.add_assoc _ _ _))⟩))))
                                    refine bodyPost_ret (results_list (rs:=[.tmp 2, .tmp 3, .tmp 4, .tmp 5]) rfl (by simp) (.tmp (.tmp (.tmp (.tmp .nil))))) rfl ?_
                                    exact⟨by first|rfl|(simp;done)|(simp[*];done)|(simp;unfold wrap64;omega),by repeat(first|exact Drawn0.refl _|apply Drawn0.step)⟩
                                  · rw[if_neg c36] at H
                                    exact absurd H (by simp)
                            · rw[if_neg c25] at H
                              exact absurd H (by simp)
                          · rw [if_neg c24] at H
                            have c24b0:decide (x12_5<(x0_2.size:Int))=false:=decide_eq_false c24
                            clear c24
                            by_cases c37:x11_5=0
                            · rw[if_pos c37] at H
                              have c37b0:(x11_5==0)=true:=beq_iff_eq.mpr c37
                              have c37b1:(x11_5 != 0)=false:=bne_eq_false_iff_eq.mpr c37
                              clear c37
                              simp only[Option.some.injEq,Prod.mk.injEq] at H
                              obtain⟨rfl,rfl,rfl,rfl⟩:=H
                              go_wp2
                              repeat(go_quiet (fail);try go_wp2)
                              refine bodyPost_ret (results_list (rs:=[.tmp 2, .tmp 3, .tmp 4, .tmp 5]) rfl (by simp) (.tmp (.tmp (.tmp (.tmp .nil))))) rfl ?_
                              exact⟨by first|rfl|(simp;done)|(simp[*];done)|(simp;unfold wrap64;omega),by repeat(first|exact Drawn0.refl _|apply Drawn0.step)⟩
                            · rw [if_neg c37] at H
                              have c37b0:(x11_5==0)=false:=beq_eq_false_iff_ne.mpr c37
                              have c37b1:(x11_5 != 0)=true:=bne_iff_ne.mpr c37
                              by_cases c38:0≤x12_5
                              · rw[if_pos c38] at H
                                have c38b0:=eq_true c38
                                have c38b1:decide (0≤x12_5)=true:=decide_eq_true c38
                                clear c38
                                by_cases c39:x12_5≤(x0_2.size:Int)
                                · rw[if_pos c39] at H
                                  have c39b0:=eq_true c39
                                  have c39b1:decide (x12_5≤(x0_2.size:Int))=true:=decide_eq_true c39
                                  clear c39
                                  simp only[Option.some.injEq,Prod.mk.injEq] at H
                                  obtain⟨rfl,rfl,rfl,rfl⟩:=H
                                  go_wp2
                                  repeat(go_quiet (fail);try go_wp2)
                                  refine bodyPost_ret (results_list (rs:=[.tmp 2, .tmp 3, .tmp 4, .tmp 5]) rfl (by simp) (.tmp (.tmp (.tmp (.tmp .nil))))) rfl ?_
                                  exact⟨by first|rfl|(simp;done)|(simp[*];done)|(simp;unfold wrap64;omega),by repeat(first|exact Drawn0.refl _|apply Drawn0.step)⟩
                                · rw[if_neg c39] at H
                                  exact absurd H (by simp)
                              · rw[if_neg c38] at H
                                exact absurd H (by simp)
                    · replace c23:=Bool.eq_false_iff.mpr c23
                      subst c23
                      have H1:(if 0≤x12_4 then(if x12_4≤(x0_2.size:Int) then(some (wrap64 (x6_2*x9_4),wrap64 (-0),x0_2.extract (x12_4:Int).toNat x0_2.size,decide (x10_4≤9))) else(none)) else(none))=some (r1,r2,r3,r4):=by rw[if_neg (show ¬(false=true) by decide)] at H;exact H
                      clear H
                      have H:=H1
                      clear H1
                      by_cases c40:0≤x12_4
                      · rw[if_pos c40] at H
                        have c40b0:=eq_true c40
                        have c40b1:decide (0≤x12_4)=true:=decide_eq_true c40
                        clear c40
                        by_cases c41:x12_4≤(x0_2.size:Int)
                        · rw[if_pos c41] at H
                          have c41b0:=eq_true c41
                          have c41b1:decide (x12_4≤(x0_2.size:Int))=true:=decide_eq_true c41
                          clear c41
                          simp only[Option.some.injEq,Prod.mk.injEq] at H
                          obtain⟨rfl,rfl,rfl,rfl⟩:=H
                          go_wp2
                          repeat(go_quiet (fail);try go_wp2)
                          refine bodyPost_ret (results_list (rs:=[.tmp 2, .tmp 3, .tmp 4, .tmp 5]) rfl (by simp) (.tmp (.tmp (.tmp (.tmp .nil))))) rfl ?_
                          exact⟨by first|rfl|(simp;done)|(simp[*];done)|(simp;unfold wrap64;omega),by repeat(first|exact Drawn0.refl _|apply Drawn0.step)⟩
                        · rw[if_neg c41] at H
                          exact absurd H (by simp)
                      · rw[if_neg c40] at H
                        exact absurd H (by simp)

end Go.Proofs.YtanohnlddaneeaaGreatDoor.PFnQtyBack
