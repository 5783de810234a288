-- Written by a turned copy of the print (see the notes of this repo): plain functions and their walks. Lean checks it.
import Derived.Test.YtanohnlddaneeaaGreatDoorPFnQtyBackx0
import Derived.Test.YtanohnlddaneeaaGreatDoorPFnQtyBackx2
import Derived.Test.YtanohnlddaneeaaGreatDoorPFnQtyBackx11
import Derived.Test.YtanohnlddaneeaaGreatDoorPFnQtyBackx12
namespace Go.Proofs.YtanohnlddaneeaaGreatDoor.PFnQtyBack
open Go.RowKit Go.Proofs.YtanohnlddaneeaaGreatDoorW.PrintWords Go.Proofs.YtanohnlddaneeaaGreatDoorW.PrintLast Go.Proofs.YtanohnlddaneeaaGreatDoorW.PrintMore
attribute [local go_sem] max2_int min2_int max_two min_two max_three min_three max_four min_four   -- for this text's walks alone
set_option linter.unusedVariables false
set_option linter.unusedSimpArgs false

/-! ### spec_l20Power: function 59 -/
def spec_l20Power.j0:Nat→ByteArray→Int→ByteArray→Bool→Option (Int×ByteArray×Bool)
  |0,_,_,_,_=>none
  |k+1,x0,x5,x6,x7=>if(x6.size:Int)>0 then(if 0<(x6.size:Int) then((spec_l2Digit.f (bt x6 0)).bind fun t378=>(if t378=true then(if 1≤(x6.size:Int) then(if(wrap64 (x5*(((bt x6 0)-48)%256)))=0 then(some (wrap64 (x5*(((bt x6 0)-48)%256)),x6.extract 1 x6.size,false)) else(if(wrap64 (x5*(((bt x6 0)-48)%256)))=1 then(some (wrap64 (x5*(((bt x6 0)-48)%256)),x6.extract 1 x6.size,false)) else(if(x6.size:Int)=1 then(some (wrap64 (x5*(((bt x6 0)-48)%256)),x6.extract 1 x6.size,true)) else(if 1<(x6.size:Int) then((spec_l2Digit.f (bt x6 1)).bind fun t379=>(some (wrap64 (x5*(((bt x6 0)-48)%256)),x6.extract 1 x6.size,!t379))) else(none))))) else(none)) else(some (1,x0,!x7)))) else(none)) else(some (1,x0,!x7))
def spec_l20Power.f (k:Nat) (a0:ByteArray):Option (Int×ByteArray×Bool):=(spec_l20Begins.f a0 (⟨#[45]⟩:ByteArray)).bind fun bt376=>(if bt376.2=true then(spec_l20Power.j0 k a0 (-1) bt376.1 bt376.2) else(spec_l20Power.j0 k a0 1 bt376.1 bt376.2))
theorem spec_l20Power.mono_l:∀k,(∀y0 y1 y2 y3,LeO (spec_l20Power.j0 k y0 y1 y2 y3) (spec_l20Power.j0 (k+1) y0 y1 y2 y3))
  |0=>fun _ _ _ _ r h=>by simp[spec_l20Power.j0] at h
  | k +1=>by
    have ih0:=spec_l20Power.mono_l k
    · intro y0 y1 y2 y3
      unfold spec_l20Power.j0
      repeat' first
      |(with_reducible exact ih0 _ _ _ _)
      |(with_reducible exact LeO.refl _)
      |(with_reducible exact LeO.none _)
      |(with_reducible refine LeO.ite ?_ ?_)
      |(with_reducible refine LeO.bind ?_ (fun _=> ?_))
      |exact ih0 _ _ _ _
      |exact LeO.none _
      |refine LeO.ite ?_ ?_
      |refine LeO.bind ?_ (fun _=> ?_)
theorem spec_l20Power.mono:∀a0 k,LeO (spec_l20Power.f k a0) (spec_l20Power.f (k+1) a0):=by
  intro a0 k
  have ih0:=spec_l20Power.mono_l k
  unfold spec_l20Power.f
  repeat' first
      |(with_reducible exact ih0 _ _ _ _)
      |(with_reducible exact LeO.refl _)
      |(with_reducible exact LeO.none _)
      |(with_reducible refine LeO.ite ?_ ?_)
      |(with_reducible refine LeO.bind ?_ (fun _=> ?_))
      |exact ih0 _ _ _ _
      |exact LeO.none _
      |refine LeO.ite ?_ ?_
      |refine LeO.bind ?_ (fun _=> ?_)
set_option maxHeartbeats 8000000 in
set_option maxRecDepth 100000 in
theorem spec_l20Power.calls (k:Nat) (a0:ByteArray) (r1:Int) (r2:ByteArray) (r3:Bool) (w:World) (h:spec_l20Power.f k a0=some (r1,r2,r3)):
    Calls Tryz.prog 59 #[.string a0] w fun e w'=>e= .returned (.tuple #[.int .i64 r1, .string r2, .bool r3])∧Drawn0 w w':=by
  have H:((spec_l20Begins.f a0 (⟨#[45]⟩:ByteArray)).bind fun bt376=>(if bt376.2=true then(spec_l20Power.j0 k a0 (-1) bt376.1 bt376.2) else(spec_l20Power.j0 k a0 1 bt376.1 bt376.2)))=some (r1,r2,r3):=h
  clear h
  replace H:=Option.bind_eq_some_iff.mp H
  obtain⟨⟨t376,t377⟩,A20,H⟩:=H
  replace H:(if t377=true then(spec_l20Power.j0 k a0 (-1) t376 t377) else(spec_l20Power.j0 k a0 1 t376 t377))=some (r1,r2,r3):=H
  have A2:=Aside0.mk A20
  clear A20
  have HC3:=Aside0.mk H
  clear H
  go_enter Tryz.func59,Tryz.ntmps59
  go_upto_if 14 with(first|(go_at_call 33;(with_reducible refine(spec_l20Begins.calls a0 (⟨#[45]⟩:ByteArray) t376 t377 _ A2.out).mono ?_);rintro e w' ⟨rfl,⟨nd,rfl⟩⟩;(try first|exact⟨rfl,_,World.drewN_drewN _ _ _⟩|exact⟨rfl,_,Eq.trans (World.drewN_drewN _ _ _) (congrArg (World.drewN _) (Nat.add_assoc _ _ _))⟩)))
  repeat(go_quiet (first|(go_at_call 33;(with_reducible refine(spec_l20Begins.calls a0 (⟨#[45]⟩:ByteArray) t376 t377 _ A2.out).mono ?_);rintro e w' ⟨rfl,⟨nd,rfl⟩⟩;(try first|exact⟨rfl,_,World.drewN_drewN _ _ _⟩|exact⟨rfl,_,Eq.trans (World.drewN_drewN _ _ _) (congrArg (World.drewN _) (Nat.add_assoc _ _ _))⟩)));go_upto_if 14 with(first|(go_at_call 33;(with_reducible refine(spec_l20Begins.calls a0 (⟨#[45]⟩:ByteArray) t376 t377 _ A2.out).mono ?_);rintro e w' ⟨rfl,⟨nd,rfl⟩⟩;(try first|exact⟨rfl,_,World.drewN_drewN _ _ _⟩|exact⟨rfl,_,Eq.trans (World.drewN_drewN _ _ _) (congrArg (World.drewN _) (Nat.add_assoc _ _ _))⟩))))
  (try simp only[Act.put,List.setIfInBounds_toArray,List.set_cons_zero,List.set_cons_succ])
  go_cut [5] (fun v5 wc=>∃(kq:Nat) (x5_2:Int),v5= .int .i64 x5_2∧Aside0 (spec_l20Power.j0 kq a0 x5_2 t376 t377=some (r1,r2,r3))∧Aside0 (kq≤k)∧Drawn0 w wc)
  case first=>
    have H:=HC3.out
    clear HC3
    by_cases c4:t377=true
    · subst c4
      have H1:(spec_l20Power.j0 k a0 (-1) t376 true)=some (r1,r2,r3):=by rw[if_pos rfl] at H;exact H
      clear H
      have H:=H1
      clear H1
      have H':=Aside0.mk H
      clear H
      go_wp2
      repeat(go_quiet (fail);try go_wp2)
      go_meet
      case rel=>exact⟨_,((-1)),(by first|rfl|(simp;done)|(simp[*];done)),H',⟨by first|omega|exact Nat.le_refl _⟩,by repeat(first|exact Drawn0.refl _|apply Drawn0.step)⟩
    · replace c4:=Bool.eq_false_iff.mpr c4
      subst c4
      have H1:(spec_l20Power.j0 k a0 1 t376 false)=some (r1,r2,r3):=by rw[if_neg (show ¬(false=true) by decide)] at H;exact H
      clear H
      have H:=H1
      clear H1
      have H':=Aside0.mk H
      clear H
      go_wp2
      repeat(go_quiet (fail);try go_wp2)
      go_meet
      case rel=>exact⟨_,(1),(by first|rfl|(simp;done)|(simp[*];done)),H',⟨by first|omega|exact Nat.le_refl _⟩,by repeat(first|exact Drawn0.refl _|apply Drawn0.step)⟩
  case rest =>
    clear HC3
    try clear p2
    try clear c4
    obtain⟨kq,x5_2,rfl,HA,HJ2,⟨mc2,rfl⟩⟩:=hcut
    cases kq with
    |zero=>exact absurd HA.out (by simp[spec_l20Power.j0])
    | succ kj2=>
      have H:=HA.out
      clear HA
      simp only[spec_l20Power.j0] at H
      by_cases c5:(t376.size:Int)>0
      · rw [if_pos c5] at H
        have c5b0:decide (0<(t376.size:Int))=true:=decide_eq_true c5
        have c5b1:decide (0<t376.size)=true:=decide_eq_true (by omega)
        clear c5
        by_cases c6:0<(t376.size:Int)
        · rw [if_pos c6] at H
          have c6b0:decide (0<(t376.size:Int))=true:=decide_eq_true c6
          have c6b1:decide (0<t376.size)=true:=decide_eq_true (by omega)
          clear c6
          replace H:=Option.bind_eq_some_iff.mp H
          obtain⟨t378,A80,H⟩:=H
          replace H:(if t378=true then(if 1≤(t376.size:Int) then(if(wrap64 (x5_2*(((bt t376 0)-48)%256)))=0 then(some (wrap64 (x5_2*(((bt t376 0)-48)%256)),t376.extract 1 t376.size,false)) else(if(wrap64 (x5_2*(((bt t376 0)-48)%256)))=1 then(some (wrap64 (x5_2*(((bt t376 0)-48)%256)),t376.extract 1 t376.size,false)) else(if(t376.size:Int)=1 then(some (wrap64 (x5_2*(((bt t376 0)-48)%256)),t376.extract 1 t376.size,true)) else(if 1<(t376.size:Int) then((spec_l2Digit.f (bt t376 1)).bind fun t379=>(some (wrap64 (x5_2*(((bt t376 0)-48)%256)),t376.extract 1 t376.size,!t379))) else(none))))) else(none)) else(some (1,a0,!t377)))=some (r1,r2,r3):=H
          have A8:=Aside0.mk A80
          clear A80
          by_cases c9:t378=true
          · subst c9
            have H1:(if 1≤(t376.size:Int) then(if(wrap64 (x5_2*(((bt t376 0)-48)%256)))=0 then(some (wrap64 (x5_2*(((bt t376 0)-48)%256)),t376.extract 1 t376.size,false)) else(if(wrap64 (x5_2*(((bt t376 0)-48)%256)))=1 then(some (wrap64 (x5_2*(((bt t376 0)-48)%256)),t376.extract 1 t376.size,false)) else(if(t376.size:Int)=1 then(some (wrap64 (x5_2*(((bt t376 0)-48)%256)),t376.extract 1 t376.size,true)) else(if 1<(t376.size:Int) then((spec_l2Digit.f (bt t376 1)).bind fun t379=>(some (wrap64 (x5_2*(((bt t376 0)-48)%256)),t376.extract 1 t376.size,!t379))) else(none))))) else(none))=some (r1,r2,r3):=by rw[if_pos rfl] at H;exact H
            clear H
            have H:=H1
            clear H1
            by_cases c11:1≤(t376.size:Int)
            · rw [if_pos c11] at H
              have c11b0:=eq_true c11
              have c11b1:decide (1≤(t376.size:Int))=true:=decide_eq_true c11
              clear c11
              by_cases c12:(wrap64 (x5_2*(((bt t376 0)-48)%256)))=0
              · rw[if_pos c12] at H
                have c12b0:((wrap64 (x5_2*(((bt t376 0)-48)%256)))==0)=true:=beq_iff_eq.mpr c12
                have c12b1:((wrap64 (x5_2*(((bt t376 0)-48)%256))) != 0)=false:=bne_eq_false_iff_eq.mpr c12
                clear c12
                simp only[Option.some.injEq,Prod.mk.injEq] at H
                obtain⟨rfl,rfl,rfl⟩:=H
                have p7:0≤(0:Int):=(by omega)
                have q7:0<t376.size:=(by have:(0:Int)<(t376.size:Int):=of_decide_eq_true (by first|(with_reducible assumption)|assumption);omega)
                have hx7:∀h:0<t376.size,((t376[0]'h).toNat:Int)=bt t376 0:=bt_at t376 0
                clear p7
                have qi7:(0<(t376.size:Int))=True:=eq_true (of_decide_eq_true (by first|(with_reducible assumption)|assumption))
                replace q7:=eq_true q7
                go_wp2_with (first|(go_at_call 58;(with_reducible refine(spec_l2Digit.calls (bt t376 0) true _ A8.out).mono ?_);rintro e w' ⟨rfl,⟨nd,rfl⟩⟩;(try first|exact⟨rfl,_,World.drewN_drewN _ _ _⟩|exact⟨rfl,_,Eq.trans (World.drewN_drewN _ _ _) (congrArg (World.drewN _) (Nat.add_assoc _ _ _))⟩);have p10:0≤(0:Int):=(by omega);have q10:0<t376.size:=(by have:(0:Int)<(t376.size:Int):=of_decide_eq_true (by first|(with_reducible assumption)|assumption);omega);have hx10:∀h:0<t376.size,((t376[0]'h).toNat:Int)=bt t376 0:=bt_at t376 0;clear p10;have qi10:(0<(t376.size:Int))=True:=eq_true (of_decide_eq_true (by first|(with_reducible assumption)|assumption));replace q10:=eq_true q10))
                repeat(go_quiet (first|(go_at_call 58;(with_reducible refine(spec_l2Digit.calls (bt t376 0) true _ A8.out).mono ?_);rintro e w' ⟨rfl,⟨nd,rfl⟩⟩;(try first|exact⟨rfl,_,World.drewN_drewN _ _ _⟩|exact⟨rfl,_,Eq.trans (World.drewN_drewN _ _ _) (congrArg (World.drewN _) (Nat.add_assoc _ _ _))⟩);have p10:0≤(0:Int):=(by omega);have q10:0<t376.size:=(by have:(0:Int)<(t376.size:Int):=of_decide_eq_true (by first|(with_reducible assumption)|assumption);omega);have hx10:∀h:0<t376.size,((t376[0]'h).toNat:Int)=bt t376 0:=bt_at t376 0;clear p10;have qi10:(0<(t376.size:Int))=True:=eq_true (of_decide_eq_true (by first|(with_reducible assumption)|assumption));replace q10:=eq_true q10));try go_wp2_with (first|(go_at_call 58;(with_reducible refine(spec_l2Digit.calls (bt t376 0) true _ A8.out).mono ?_);rintro e w' ⟨rfl,⟨nd,rfl⟩⟩;(try first|exact⟨rfl,_,World.drewN_drewN _ _ _⟩|exact⟨rfl,_,Eq.trans (World.drewN_drewN _ _ _) (congrArg (World.drewN _) (Nat.add_assoc _ _ _))⟩);have p10:0≤(0:Int):=(by omega);have q10:0<t376.size:=(by have:(0:Int)<(t376.size:Int):=of_decide_eq_true (by first|(with_reducible assumption)|assumption);omega);have hx10:∀h:0<t376.size,((t376[0]'h).toNat:Int)=bt t376 0:=bt_at t376 0;clear p10;have qi10:(0<(t376.size:Int))=True:=eq_true (of_decide_eq_true (by first|(with_reducible assumption)|assumption));replace q10:=eq_true q10)))
                go_ret3
                exact⟨by first|rfl|(simp;done)|(simp[*];done)|(simp;unfold wrap64;omega),by repeat(first|exact Drawn0.refl _|apply Drawn0.step)⟩
              · rw [if_neg c12] at H
                have c12b0:((wrap64 (x5_2*(((bt t376 0)-48)%256)))==0)=false:=beq_eq_false_iff_ne.mpr c12
                have c12b1:((wrap64 (x5_2*(((bt t376 0)-48)%256))) != 0)=true:=bne_iff_ne.mpr c12
                by_cases c13:(wrap64 (x5_2*(((bt t376 0)-48)%256)))=1
                · rw[if_pos c13] at H
                  have c13b0:((wrap64 (x5_2*(((bt t376 0)-48)%256)))==1)=true:=beq_iff_eq.mpr c13
                  have c13b1:((wrap64 (x5_2*(((bt t376 0)-48)%256))) != 1)=false:=bne_eq_false_iff_eq.mpr c13
                  clear c13
                  simp only[Option.some.injEq,Prod.mk.injEq] at H
                  obtain⟨rfl,rfl,rfl⟩:=H
                  have p7:0≤(0:Int):=(by omega)
                  have q7:0<t376.size:=(by have:(0:Int)<(t376.size:Int):=of_decide_eq_true (by first|(with_reducible assumption)|assumption);omega)
                  have hx7:∀h:0<t376.size,((t376[0]'h).toNat:Int)=bt t376 0:=bt_at t376 0
                  clear p7
                  have qi7:(0<(t376.size:Int))=True:=eq_true (of_decide_eq_true (by first|(with_reducible assumption)|assumption))
                  replace q7:=eq_true q7
                  go_wp2_with (first|(go_at_call 58;(with_reducible refine(spec_l2Digit.calls (bt t376 0) true _ A8.out).mono ?_);rintro e w' ⟨rfl,⟨nd,rfl⟩⟩;(try first|exact⟨rfl,_,World.drewN_drewN _ _ _⟩|exact⟨rfl,_,Eq.trans (World.drewN_drewN _ _ _) (congrArg (World.drewN _) (Nat.add_assoc _ _ _))⟩);have p10:0≤(0:Int):=(by omega);have q10:0<t376.size:=(by have:(0:Int)<(t376.size:Int):=of_decide_eq_true (by first|(with_reducible assumption)|assumption);omega);have hx10:∀h:0<t376.size,((t376[0]'h).toNat:Int)=bt t376 0:=bt_at t376 0;clear p10;have qi10:(0<(t376.size:Int))=True:=eq_true (of_decide_eq_true (by first|(with_reducible assumption)|assumption));replace q10:=eq_true q10))
                  repeat(go_quiet (first|(go_at_call 58;(with_reducible refine(spec_l2Digit.calls (bt t376 0) true _ A8.out).mono ?_);rintro e w' ⟨rfl,⟨nd,rfl⟩⟩;(try first|exact⟨rfl,_,World.drewN_drewN _ _ _⟩|exact⟨rfl,_,Eq.trans (World.drewN_drewN _ _ _) (congrArg (World.drewN _) (Nat.add_assoc _ _ _))⟩);have p10:0≤(0:Int):=(by omega);have q10:0<t376.size:=(by have:(0:Int)<(t376.size:Int):=of_decide_eq_true (by first|(with_reducible assumption)|assumption);omega);have hx10:∀h:0<t376.size,((t376[0]'h).toNat:Int)=bt t376 0:=bt_at t376 0;clear p10;have qi10:(0<(t376.size:Int))=True:=eq_true (of_decide_eq_true (by first|(with_reducible assumption)|assumption));replace q10:=eq_true q10));try go_wp2_with (first|(go_at_call 58;(with_reducible refine(spec_l2Digit.calls (bt t376 0) true _ A8.out).mono ?_);rintro e w' ⟨rfl,⟨nd,rfl⟩⟩;(try first|exact⟨rfl,_,World.drewN_drewN _ _ _⟩|exact⟨rfl,_,Eq.trans (World.drewN_drewN _ _ _) (congrArg (World.drewN _) (Nat.add_assoc _ _ _))⟩);have p10:0≤(0:Int):=(by omega);have q10:0<t376.size:=(by have:(0:Int)<(t376.size:Int):=of_decide_eq_true (by first|(with_reducible assumption)|assumption);omega);have hx10:∀h:0<t376.size,((t376[0]'h).toNat:Int)=bt t376 0:=bt_at t376 0;clear p10;have qi10:(0<(t376.size:Int))=True:=eq_true (of_decide_eq_true (by first|(with_reducible assumption)|assumption));replace q10:=eq_true q10)))
                  go_ret3
                  exact⟨by first|rfl|(simp;done)|(simp[*];done)|(simp;unfold wrap64;omega),by repeat(first|exact Drawn0.refl _|apply Drawn0.step)⟩
                · rw [if_neg c13] at H
                  have c13b0:((wrap64 (x5_2*(((bt t376 0)-48)%256)))==1)=false:=beq_eq_false_iff_ne.mpr c13
                  have c13b1:((wrap64 (x5_2*(((bt t376 0)-48)%256))) != 1)=true:=bne_iff_ne.mpr c13
                  by_cases c14:(t376.size:Int)=1
                  · rw[if_pos c14] at H
                    have c14b0:((t376.size:Int)==1)=true:=beq_iff_eq.mpr c14
                    have c14b1:((t376.size:Int) != 1)=false:=bne_eq_false_iff_eq.mpr c14
                    clear c14
                    simp only[Option.some.injEq,Prod.mk.injEq] at H
                    obtain⟨rfl,rfl,rfl⟩:=H
                    have p7:0≤(0:Int):=(by omega)
                    have q7:0<t376.size:=(by have:(0:Int)<(t376.size:Int):=of_decide_eq_true (by first|(with_reducible assumption)|assumption);omega)
                    have hx7:∀h:0<t376.size,((t376[0]'h).toNat:Int)=bt t376 0:=bt_at t376 0
                    clear p7
                    have qi7:(0<(t376.size:Int))=True:=eq_true (of_decide_eq_true (by first|(with_reducible assumption)|assumption))
                    replace q7:=eq_true q7
                    go_wp2_with (first|(go_at_call 58;(with_reducible refine(spec_l2Digit.calls (bt t376 0) true _ A8.out).mono ?_);rintro e w' ⟨rfl,⟨nd,rfl⟩⟩;(try first|exact⟨rfl,_,World.drewN_drewN _ _ _⟩|exact⟨rfl,_,Eq.trans (World.drewN_drewN _ _ _) (congrArg (World.drewN _) (Nat.add_assoc _ _ _))⟩);have p10:0≤(0:Int):=(by omega);have q10:0<t376.size:=(by have:(0:Int)<(t376.size:Int):=of_decide_eq_true (by first|(with_reducible assumption)|assumption);omega);have hx10:∀h:0<t376.size,((t376[0]'h).toNat:Int)=bt t376 0:=bt_at t376 0;clear p10;have qi10:(0<(t376.size:Int))=True:=eq_true (of_decide_eq_true (by first|(with_reducible assumption)|assumption));replace q10:=eq_true q10))
                    repeat(go_quiet (first|(go_at_call 58;(with_reducible refine(spec_l2Digit.calls (bt t376 0) true _ A8.out).mono ?_);rintro e w' ⟨rfl,⟨nd,rfl⟩⟩;(try first|exact⟨rfl,_,World.drewN_drewN _ _ _⟩|exact⟨rfl,_,Eq.trans (World.drewN_drewN _ _ _) (congrArg (World.drewN _) (Nat.add_assoc _ _ _))⟩);have p10:0≤(0:Int):=(by omega);have q10:0<t376.size:=(by have:(0:Int)<(t376.size:Int):=of_decide_eq_true (by first|(with_reducible assumption)|assumption);omega);have hx10:∀h:0<t376.size,((t376[0]'h).toNat:Int)=bt t376 0:=bt_at t376 0;clear p10;have qi10:(0<(t376.size:Int))=True:=eq_true (of_decide_eq_true (by first|(with_reducible assumption)|assumption));replace q10:=eq_true q10));try go_wp2_with (first|(go_at_call 58;(with_reducible refine(spec_l2Digit.calls (bt t376 0) true _ A8.out).mono ?_);rintro e w' ⟨rfl,⟨nd,rfl⟩⟩;(try first|exact⟨rfl,_,World.drewN_drewN _ _ _⟩|exact⟨rfl,_,Eq.trans (World.drewN_drewN _ _ _) (congrArg (World.drewN _) (Nat.add_assoc _ _ _))⟩);have p10:0≤(0:Int):=(by omega);have q10:0<t376.size:=(by have:(0:Int)<(t376.size:Int):=of_decide_eq_true (by first|(with_reducible assumption)|assumption);omega);have hx10:∀h:0<t376.size,((t376[0]'h).toNat:Int)=bt t376 0:=bt_at t376 0;clear p10;have qi10:(0<(t376.size:Int))=True:=eq_true (of_decide_eq_true (by first|(with_reducible assumption)|assumption));replace q10:=eq_true q10)))
                    go_ret3
                    exact⟨by first|rfl|(simp;done)|(simp[*];done)|(simp;unfold wrap64;omega),by repeat(first|exact Drawn0.refl _|apply Drawn0.step)⟩
                  · rw[if_neg c14] at H
                    have c14b0:((t376.size:Int)==1)=false:=beq_eq_false_iff_ne.mpr c14
                    have c14b1:((t376.size:Int) != 1)=true:=bne_iff_ne.mpr c14
                    by_cases c15:1<(t376.size:Int)
                    · rw[if_pos c15] at H
                      have c15b0:decide (1<(t376.size:Int))=true:=decide_eq_true c15
                      have c15b1:decide (1<t376.size)=true:=decide_eq_true (by omega)
                      clear c15
                      replace H:=Option.bind_eq_some_iff.mp H
                      obtain⟨t379,A170,H⟩:=H
                      replace H:(some (wrap64 (x5_2*(((bt t376 0)-48)%256)),t376.extract 1 t376.size,!t379))=some (r1,r2,r3):=H
                      have A17:=Aside0.mk A170
                      clear A170
                      simp only[Option.some.injEq,Prod.mk.injEq] at H
                      obtain⟨rfl,rfl,rfl⟩:=H
                      have p7:0≤(0:Int):=(by omega)
                      have q7:0<t376.size:=(by have:(0:Int)<(t376.size:Int):=of_decide_eq_true (by first|(with_reducible assumption)|assumption);omega)
                      have hx7:∀h:0<t376.size,((t376[0]'h).toNat:Int)=bt t376 0:=bt_at t376 0
                      clear p7
                      have qi7:(0<(t376.size:Int))=True:=eq_true (of_decide_eq_true (by first|(with_reducible assumption)|assumption))
                      replace q7:=eq_true q7
                      go_wp2_with (first|(go_at_call 58;(with_reducible refine(spec_l2Digit.calls (bt t376 0) true _ A8.out).mono ?_);rintro e w' ⟨rfl,⟨nd,rfl⟩⟩;(try first|exact⟨rfl,_,World.drewN_drewN _ _ _⟩|exact⟨rfl,_,Eq.trans (World.drewN_drewN _ _ _) (congrArg (World.drewN _) (Nat.add_assoc _ _ _))⟩);have p10:0≤(0:Int):=(by omega);have q10:0<t376.size:=(by have:(0:Int)<(t376.size:Int):=of_decide_eq_true (by first|(with_reducible assumption)|assumption);omega);have hx10:∀h:0<t376.size,((t376[0]'h).toNat:Int)=bt t376 0:=bt_at t376 0;clear p10;have qi10:(0<(t376.size:Int))=True:=eq_true (of_decide_eq_true (by first|(with_reducible assumption)|assumption));replace q10:=eq_true q10;have p16:0≤(1:Int):=(by omega);have q16:1<t376.size:=(by have:(1:Int)<(t376.size:Int):=of_decide_eq_true (by first|(with_reducible assumption)|assumption);omega);have hx16:∀h:1<t376.size,((t376[1]'h).toNat:Int)=bt t376 1:=bt_at t376 1;clear p16;have qi16:(1<(t376.size:Int))=True:=eq_true (of_decide_eq_true (by first|(with_reducible assumption)|assumption));replace q16:=eq_true q16)|(go_at_call 58;(with_reducible refine(spec_l2Digit.calls (bt t376 1) t379 _ A17.out).mono ?_);rintro e w' ⟨rfl,⟨nd,rfl⟩⟩;(try first|exact⟨rfl,_,World.drewN_drewN _ _ _⟩|exact⟨rfl,_,Eq.trans (World.drewN_drewN _ _ _) (congrArg (World.drewN _) (Nat.add_assoc _ _ _))⟩)))
                      repeat(go_quiet (first|(go_at_call 58;(with_reducible refine(spec_l2Digit.calls (bt t376 0) true _ A8.out).mono ?_);rintro e w' ⟨rfl,⟨nd,rfl⟩⟩;(try first|exact⟨rfl,_,World.drewN_drewN _ _ _⟩|exact⟨rfl,_,Eq.trans (World.drewN_drewN _ _ _) (congrArg (World.drewN _) (Nat.add_assoc _ _ _))⟩);have p10:0≤(0:Int):=(by omega);have q10:0<t376.size:=(by have:(0:Int)<(t376.size:Int):=of_decide_eq_true (by first|(with_reducible assumption)|assumption);omega);have hx10:∀h:0<t376.size,((t376[0]'h).toNat:Int)=bt t376 0:=bt_at t376 0;clear p10;have qi10:(0<(t376.size:Int))=True:=eq_true (of_decide_eq_true (by first|(with_reducible assumption)|assumption));replace q10:=eq_true q10;have p16:0≤(1:Int):=(by omega);have q16:1<t376.size:=(by have:(1:Int)<(t376.size:Int):=of_decide_eq_true (by first|(with_reducible assumption)|assumption);omega);have hx16:∀h:1<t376.size,((t376[1]'h).toNat:Int)=bt t376 1:=bt_at t376 1;clear p16;have qi16:(1<(t376.size:Int))=True:=eq_true (of_decide_eq_true (by first|(with_reducible assumption)|assumption));replace q16:=eq_true q16)|(go_at_call 58;(with_reducible refine(spec_l2Digit.calls (bt t376 1) t379 _ A17.out).mono ?_);rintro e w' ⟨rfl,⟨nd,rfl⟩⟩;(try first|exact⟨rfl,_,World.drewN_drewN _ _ _⟩|exact⟨rfl,_,Eq.trans (World.drewN_drewN _ _ _) (congrArg (World.drewN _) (Nat.add_assoc _ _ _))⟩)));try go_wp2_with (first|(go_at_call 58;(with_reducible refine(spec_l2Digit.calls (bt t376 0) true _ A8.out).mono ?_);rintro e w' ⟨rfl,⟨nd,rfl⟩⟩;(try first|exact⟨rfl,_,World.drewN_drewN _ _ _⟩|exact⟨rfl,_,Eq.trans (World.drewN_drewN _ _ _) (congrArg (World.drewN _) (Nat.add_assoc _ _ _))⟩);have p10:0≤(0:Int):=(by omega);have q10:0<t376.size:=(by have:(0:Int)<(t376.size:Int):=of_decide_eq_true (by first|(with_reducible assumption)|assumption);omega);have hx10:∀h:0<t376.size,((t376[0]'h).toNat:Int)=bt t376 0:=bt_at t376 0;clear p10;have qi10:(0<(t376.size:Int))=True:=eq_true (of_decide_eq_true (by first|(with_reducible assumption)|assumption));replace q10:=eq_true q10;have p16:0≤(1:Int):=(by omega);have q16:1<t376.size:=(by have:(1:Int)<(t376.size:Int):=of_decide_eq_true (by first|(with_reducible assumption)|assumption);omega);have hx16:∀h:1<t376.size,((t376[1]'h).toNat:Int)=bt t376 1:=bt_at t376 1;clear p16;have qi16:(1<(t376.size:Int))=True:=eq_true (of_decide_eq_true (by first|(with_reducible assumption)|assumption));replace q16:=eq_true q16)|(go_at_call 58;(with_reducible refine(spec_l2Digit.calls (bt t376 1) t379 _ A17.out).mono ?_);rintro e w' ⟨rfl,⟨nd,rfl⟩⟩;(try first|exact⟨rfl,_,World.drewN_drewN _ _ _⟩|exact⟨rfl,_,Eq.trans (World.drewN_drewN _ _ _) (congrArg (World.drewN _) (Nat.add_assoc _ _ _))⟩))))
                      go_ret3
                      exact⟨by first|rfl|(simp;done)|(simp[*];done)|(simp;unfold wrap64;omega),by repeat(first|exact Drawn0.refl _|apply Drawn0.step)⟩
                    · rw[if_neg c15] at H
                      exact absurd H (by simp)
            · rw[if_neg c11] at H
              exact absurd H (by simp)
          · replace c9:=Bool.eq_false_iff.mpr c9
            subst c9
            have H1:(some (1,a0,!t377))=some (r1,r2,r3):=by rw[if_neg (show ¬(false=true) by decide)] at H;exact H
            clear H
            have H:=H1
            clear H1
            simp only[Option.some.injEq,Prod.mk.injEq] at H
            obtain⟨rfl,rfl,rfl⟩:=H
            have p7:0≤(0:Int):=(by omega)
            have q7:0<t376.size:=(by have:(0:Int)<(t376.size:Int):=of_decide_eq_true (by first|(with_reducible assumption)|assumption);omega)
            have hx7:∀h:0<t376.size,((t376[0]'h).toNat:Int)=bt t376 0:=bt_at t376 0
            clear p7
            have qi7:(0<(t376.size:Int))=True:=eq_true (of_decide_eq_true (by first|(with_reducible assumption)|assumption))
            replace q7:=eq_true q7
            go_wp2_with (first|(go_at_call 58;(with_reducible refine(spec_l2Digit.calls (bt t376 0) false _ A8.out).mono ?_);rintro e w' ⟨rfl,⟨nd,rfl⟩⟩;(try first|exact⟨rfl,_,World.drewN_drewN _ _ _⟩|exact⟨rfl,_,Eq.trans (World.drewN_drewN _ _ _) (congrArg (World.drewN _) (Nat.add_assoc _ _ _))⟩)))
            repeat(go_quiet (first|(go_at_call 58;(with_reducible refine(spec_l2Digit.calls (bt t376 0) false _ A8.out).mono ?_);rintro e w' ⟨rfl,⟨nd,rfl⟩⟩;(try first|exact⟨rfl,_,World.drewN_drewN _ _ _⟩|exact⟨rfl,_,Eq.trans (World.drewN_drewN _ _ _) (congrArg (World.drewN _) (Nat.add_assoc _ _ _))⟩)));try go_wp2_with (first|(go_at_call 58;(with_reducible refine(spec_l2Digit.calls (bt t376 0) false _ A8.out).mono ?_);rintro e w' ⟨rfl,⟨nd,rfl⟩⟩;(try first|exact⟨rfl,_,World.drewN_drewN _ _ _⟩|exact⟨rfl,_,Eq.trans (World.drewN_drewN _ _ _) (congrArg (World.drewN _) (Nat.add_assoc _ _ _))⟩))))
            go_ret3
            exact⟨by first|rfl|(simp;done)|(simp[*];done)|(simp;unfold wrap64;omega),by repeat(first|exact Drawn0.refl _|apply Drawn0.step)⟩
        · rw[if_neg c6] at H
          exact absurd H (by simp)
      · rw[if_neg c5] at H
        have c5b0:decide (0<(t376.size:Int))=false:=decide_eq_false c5
        have c5b1:decide (0<t376.size)=false:=decide_eq_false (by omega)
        clear c5
        simp only[Option.some.injEq,Prod.mk.injEq] at H
        obtain⟨rfl,rfl,rfl⟩:=H
        go_wp2
        repeat(go_quiet (fail);try go_wp2)
        go_ret3
        exact⟨by first|rfl|(simp;done)|(simp[*];done)|(simp;unfold wrap64;omega),by repeat(first|exact Drawn0.refl _|apply Drawn0.step)⟩

/-! ### spec_l20Long: function 34 -/
def spec_l20Long.j0:Nat→Int→ByteArray→Option (Int×Int×Bool)
  |0,_,_=>none
  |k+1,x5,x7=>(spec_l20Begins.f x7 (⟨#[115]⟩:ByteArray)).bind fun bt387=>(if bt387.2=true then((spec_l20Power.f k bt387.1).bind fun bt389=>(if bt389.2.2=true then(some (x5,bt389.1,(bt389.2.1.toList==([]:List UInt8)))) else(some (x5,bt389.1,false)))) else(some (0,0,false)))
def spec_l20Long.f (k:Nat) (a0:ByteArray):Option (Int×Int×Bool):=(spec_l20Begins.f a0 (⟨#[86]⟩:ByteArray)).bind fun bt380=>(if bt380.2=true then((spec_l20Power.f k bt380.1).bind fun bt382=>(if bt382.2.2=true then(if bt382.2.1.toList=([]:List UInt8) then(some (bt382.1,0,true)) else((spec_l20Begins.f bt382.2.1 (⟨#[42]⟩:ByteArray)).bind fun bt385=>(if bt385.2=true then(spec_l20Long.j0 k bt382.1 bt385.1) else(some (0,0,false))))) else(some (0,0,false)))) else(spec_l20Long.j0 k 0 a0))
theorem spec_l20Long.mono_l:∀k,(∀y0 y1,LeO (spec_l20Long.j0 k y0 y1) (spec_l20Long.j0 (k+1) y0 y1))
  |0=>fun _ _ r h=>by simp[spec_l20Long.j0] at h
  | k +1=>by
    have ih0:=spec_l20Long.mono_l k
    · intro y0 y1
      unfold spec_l20Long.j0
      repeat' first
      |(with_reducible exact ih0 _ _)
      |(with_reducible exact spec_l20Power.mono _ _)
      |(with_reducible exact LeO.refl _)
      |(with_reducible exact LeO.none _)
      |(with_reducible refine LeO.ite ?_ ?_)
      |(with_reducible refine LeO.bind ?_ (fun _=> ?_))
      |exact ih0 _ _
      |exact spec_l20Power.mono _ _
      |exact LeO.none _
      |refine LeO.ite ?_ ?_
      |refine LeO.bind ?_ (fun _=> ?_)
theorem spec_l20Long.mono:∀a0 k,LeO (spec_l20Long.f k a0) (spec_l20Long.f (k+1) a0):=by
  intro a0 k
  have ih0:=spec_l20Long.mono_l k
  unfold spec_l20Long.f
  repeat' first
      |(with_reducible exact ih0 _ _)
      |(with_reducible exact spec_l20Power.mono _ _)
      |(with_reducible exact LeO.refl _)
      |(with_reducible exact LeO.none _)
      |(with_reducible refine LeO.ite ?_ ?_)
      |(with_reducible refine LeO.bind ?_ (fun _=> ?_))
      |exact ih0 _ _
      |exact spec_l20Power.mono _ _
      |exact LeO.none _
      |refine LeO.ite ?_ ?_
      |refine LeO.bind ?_ (fun _=> ?_)
set_option maxHeartbeats 8000000 in
set_option maxRecDepth 100000 in
theorem spec_l20Long.calls (k:Nat) (a0:ByteArray) (r1:Int) (r2:Int) (r3:Bool) (w:World) (h:spec_l20Long.f k a0=some (r1,r2,r3)):
    Calls Tryz.prog 34 #[.string a0] w fun e w'=>e= .returned (.tuple #[.int .i64 r1, .int .i64 r2, .bool r3])∧Drawn0 w w':=by
  have H:((spec_l20Begins.f a0 (⟨#[86]⟩:ByteArray)).bind fun bt380=>(if bt380.2=true then((spec_l20Power.f k bt380.1).bind fun bt382=>(if bt382.2.2=true then(if bt382.2.1.toList=([]:List UInt8) then(some (bt382.1,0,true)) else((spec_l20Begins.f bt382.2.1 (⟨#[42]⟩:ByteArray)).bind fun bt385=>(if bt385.2=true then(spec_l20Long.j0 k bt382.1 bt385.1) else(some (0,0,false))))) else(some (0,0,false)))) else(spec_l20Long.j0 k 0 a0)))=some (r1,r2,r3):=h
  clear h
  replace H:=Option.bind_eq_some_iff.mp H
  obtain⟨⟨t380,t381⟩,A20,H⟩:=H
  replace H:(if t381=true then((spec_l20Power.f k t380).bind fun bt382=>(if bt382.2.2=true then(if bt382.2.1.toList=([]:List UInt8) then(some (bt382.1,0,true)) else((spec_l20Begins.f bt382.2.1 (⟨#[42]⟩:ByteArray)).bind fun bt385=>(if bt385.2=true then(spec_l20Long.j0 k bt382.1 bt385.1) else(some (0,0,false))))) else(some (0,0,false)))) else(spec_l20Long.j0 k 0 a0))=some (r1,r2,r3):=H
  have A2:=Aside0.mk A20
  clear A20
  have HC3:=Aside0.mk H
  clear H
  go_enter Tryz.func34,Tryz.ntmps34
  go_upto_if 20 with(first|((with_reducible refine gate_callee (f:=33) rfl ?_);refine goesL_ (some 17) rfl rfl Tryz.func33 (by kernel_rfl) rfl #[.string a0, .string (⟨#[86]⟩:ByteArray)] rfl (by(try simp only[List.map_toArray,List.map_cons,List.map_nil]);first|done|rfl|(simp only[List.length_drop,List.length_take];rfl)) ?_;(with_reducible refine(spec_l20Begins.calls a0 (⟨#[86]⟩:ByteArray) t380 t381 _ A2.out).mono ?_);rintro e w' ⟨rfl,⟨nd,rfl⟩⟩;refine⟨_,rfl,?_⟩))
  (try simp only[Act.put,List.setIfInBounds_toArray,List.set_cons_zero,List.set_cons_succ])
  go_cut [5,7] (fun v5 v7 wc=>∃(kq:Nat) (x5_2:Int) (x7_2:ByteArray),v5= .int .i64 x5_2∧v7= .string x7_2∧Aside0 (spec_l20Long.j0 kq x5_2 x7_2=some (r1,r2,r3))∧Aside0 (kq≤k)∧Drawn0 w wc)
  case first=>
    have H:=HC3.out
    clear HC3
    by_cases c4:t381=true
    · subst c4
      have H1:((spec_l20Power.f k t380).bind fun bt382=>(if bt382.2.2=true then(if bt382.2.1.toList=([]:List UInt8) then(some (bt382.1,0,true)) else((spec_l20Begins.f bt382.2.1 (⟨#[42]⟩:ByteArray)).bind fun bt385=>(if bt385.2=true then(spec_l20Long.j0 k bt382.1 bt385.1) else(some (0,0,false))))) else(some (0,0,false))))=some (r1,r2,r3):=by rw[if_pos rfl] at H;exact H
      clear H
      have H:=H1
      clear H1
      replace H:=Option.bind_eq_some_iff.mp H
      obtain⟨⟨t382,t383,t384⟩,A50,H⟩:=H
      replace H:(if t384=true then(if t383.toList=([]:List UInt8) then(some (t382,0,true)) else((spec_l20Begins.f t383 (⟨#[42]⟩:ByteArray)).bind fun bt385=>(if bt385.2=true then(spec_l20Long.j0 k t382 bt385.1) else(some (0,0,false))))) else(some (0,0,false)))=some (r1,r2,r3):=H
      have A5:=Aside0.mk A50
      clear A50
      by_cases c6:t384=true
      · subst c6
        have H1:(if t383.toList=([]:List UInt8) then(some (t382,0,true)) else((spec_l20Begins.f t383 (⟨#[42]⟩:ByteArray)).bind fun bt385=>(if bt385.2=true then(spec_l20Long.j0 k t382 bt385.1) else(some (0,0,false)))))=some (r1,r2,r3):=by rw[if_pos rfl] at H;exact H
        clear H
        have H:=H1
        clear H1
        by_cases c7:t383.toList=([]:List UInt8)
        · rw[if_pos c7] at H
          have c7b0:(t383.toList==([]:List UInt8))=true:=beq_iff_eq.mpr c7
          have c7b1:(t383.toList != ([]:List UInt8))=false:=bne_eq_false_iff_eq.mpr c7
          clear c7
          (first|rw[c7b0]|(simp only[i64_w,i32_w];rw[c7b0])|skip)
          simp only[Option.some.injEq,Prod.mk.injEq] at H
          obtain⟨rfl,rfl,rfl⟩:=H
          go_wp2_with (first|((with_reducible refine gate_callee (f:=59) rfl ?_);refine goesL_ (some 23) rfl rfl Tryz.func59 (by kernel_rfl) rfl #[.string t380] rfl (by(try simp only[List.map_toArray,List.map_cons,List.map_nil]);first|done|rfl|(simp only[List.length_drop,List.length_take];rfl)) ?_;(with_reducible refine(spec_l20Power.calls k t380 t382 t383 true _ A5.out).mono ?_);rintro e w' ⟨rfl,⟨nd,rfl⟩⟩;refine⟨_,rfl,?_⟩))
          go_ret3
          exact⟨by first|rfl|(simp;done)|(simp[*];done)|(simp;unfold wrap64;omega),by repeat(first|exact Drawn0.refl _|apply Drawn0.step)⟩
        · rw[if_neg c7] at H
          have c7b0:(t383.toList==([]:List UInt8))=false:=beq_eq_false_iff_ne.mpr c7
          have c7b1:(t383.toList != ([]:List UInt8))=true:=bne_iff_ne.mpr c7
          (first|rw[c7b0]|(simp only[i64_w,i32_w];rw[c7b0])|skip)
          replace H:=Option.bind_eq_some_iff.mp H
          obtain⟨⟨t385,t386⟩,A80,H⟩:=H
          replace H:(if t386=true then(spec_l20Long.j0 k t382 t385) else(some (0,0,false)))=some (r1,r2,r3):=H
          have A8:=Aside0.mk A80
          clear A80
          by_cases c9:t386=true
          · subst c9
            have H1:(spec_l20Long.j0 k t382 t385)=some (r1,r2,r3):=by rw[if_pos rfl] at H;exact H
            clear H
            have H:=H1
            clear H1
            have H':=Aside0.mk H
            clear H
            go_wp2_with (first|((with_reducible refine gate_callee (f:=59) rfl ?_);refine goesL_ (some 23) rfl rfl Tryz.func59 (by kernel_rfl) rfl #[.string t380] rfl (by(try simp only[List.map_toArray,List.map_cons,List.map_nil]);first|done|rfl|(simp only[List.length_drop,List.length_take];rfl)) ?_;(with_reducible refine(spec_l20Power.calls k t380 t382 t383 true _ A5.out).mono ?_);rintro e w' ⟨rfl,⟨nd,rfl⟩⟩;refine⟨_,rfl,?_⟩)|((with_reducible refine gate_callee (f:=33) rfl ?_);refine goesL_ (some 35) rfl rfl Tryz.func33 (by kernel_rfl) rfl #[.string t383, .string (⟨#[42]⟩:ByteArray)] rfl (by(try simp only[List.map_toArray,List.map_cons,List.map_nil]);first|done|rfl|(simp only[List.length_drop,List.length_take];rfl)) ?_;(with_reducible refine(spec_l20Begins.calls t383 (⟨#[42]⟩:ByteArray) t385 true _ A8.out).mono ?_);rintro e w' ⟨rfl,⟨nd,rfl⟩⟩;refine⟨_,rfl,?_⟩))
            go_meet
            case rel=>exact⟨_,(t382),(t385),(by first|rfl|(simp;done)|(simp[*];done)),(by first|rfl|(simp;done)|(simp[*];done)),H',⟨by first|omega|exact Nat.le_refl _⟩,by repeat(first|exact Drawn0.refl _|apply Drawn0.step)⟩
          · replace c9:=Bool.eq_false_iff.mpr c9
            subst c9
            have H1:(some (0,0,false))=some (r1,r2,r3):=by rw[if_neg (show ¬(false=true) by decide)] at H;exact H
            clear H
            have H:=H1
            clear H1
            simp only[Option.some.injEq,Prod.mk.injEq] at H
            obtain⟨rfl,rfl,rfl⟩:=H
            go_wp2_with (first|((with_reducible refine gate_callee (f:=59) rfl ?_);refine goesL_ (some 23) rfl rfl Tryz.func59 (by kernel_rfl) rfl #[.string t380] rfl (by(try simp only[List.map_toArray,List.map_cons,List.map_nil]);first|done|rfl|(simp only[List.length_drop,List.length_take];rfl)) ?_;(with_reducible refine(spec_l20Power.calls k t380 t382 t383 true _ A5.out).mono ?_);rintro e w' ⟨rfl,⟨nd,rfl⟩⟩;refine⟨_,rfl,?_⟩)|((with_reducible refine gate_callee (f:=33) rfl ?_);refine goesL_ (some 35) rfl rfl Tryz.func33 (by kernel_rfl) rfl #[.string t383, .string (⟨#[42]⟩:ByteArray)] rfl (by(try simp only[List.map_toArray,List.map_cons,List.map_nil]);first|done|rfl|(simp only[List.length_drop,List.length_take];rfl)) ?_;(with_reducible refine(spec_l20Begins.calls t383 (⟨#[42]⟩:ByteArray) t385 false _ A8.out).mono ?_);rintro e w' ⟨rfl,⟨nd,rfl⟩⟩;refine⟨_,rfl,?_⟩))
            go_ret3
            exact⟨by first|rfl|(simp;done)|(simp[*];done)|(simp;unfold wrap64;omega),by repeat(first|exact Drawn0.refl _|apply Drawn0.step)⟩
      · replace c6:=Bool.eq_false_iff.mpr c6
        subst c6
        have H1:(some (0,0,false))=some (r1,r2,r3):=by rw[if_neg (show ¬(false=true) by decide)] at H;exact H
        clear H
        have H:=H1
        clear H1
        simp only[Option.some.injEq,Prod.mk.injEq] at H
        obtain⟨rfl,rfl,rfl⟩:=H
        go_wp2_with (first|((with_reducible refine gate_callee (f:=59) rfl ?_);refine goesL_ (some 23) rfl rfl Tryz.func59 (by kernel_rfl) rfl #[.string t380] rfl (by(try simp only[List.map_toArray,List.map_cons,List.map_nil]);first|done|rfl|(simp only[List.length_drop,List.length_take];rfl)) ?_;(with_reducible refine(spec_l20Power.calls k t380 t382 t383 false _ A5.out).mono ?_);rintro e w' ⟨rfl,⟨nd,rfl⟩⟩;refine⟨_,rfl,?_⟩))
        go_ret3
        exact⟨by first|rfl|(simp;done)|(simp[*];done)|(simp;unfold wrap64;omega),by repeat(first|exact Drawn0.refl _|apply Drawn0.step)⟩
    · replace c4:=Bool.eq_false_iff.mpr c4
      subst c4
      have H1:(spec_l20Long.j0 k 0 a0)=some (r1,r2,r3):=by rw[if_neg (show ¬(false=true) by decide)] at H;exact H
      clear H
      have H:=H1
      clear H1
      have H':=Aside0.mk H
      clear H
      go_wp2
      go_meet
      case rel=>exact⟨_,(0),(a0),(by first|rfl|(simp;done)|(simp[*];done)),(by first|rfl|(simp;done)|(simp[*];done)),H',⟨by first|omega|exact Nat.le_refl _⟩,by repeat(first|exact Drawn0.refl _|apply Drawn0.step)⟩
  case rest=>
    clear HC3
    try clear p2
    try clear c3
    try clear c4
    try clear c5
    try clear c6
    try clear c7
    try clear c7b0
    try clear c7b1
    try clear c9
    obtain⟨kq,x5_2,x7_2,rfl,rfl,HA,HJ2,⟨mc2,rfl⟩⟩:=hcut
    cases kq with
    |zero=>exact absurd HA.out (by simp[spec_l20Long.j0])
    | succ kj2=>
      have H:=HA.out
      clear HA
      simp only[spec_l20Long.j0] at H
      replace H:=Option.bind_eq_some_iff.mp H
      obtain⟨⟨t387,t388⟩,A100,H⟩:=H
      replace H:(if t388=true then((spec_l20Power.f kj2 t387).bind fun bt389=>(if bt389.2.2=true then(some (x5_2,bt389.1,(bt389.2.1.toList==([]:List UInt8)))) else(some (x5_2,bt389.1,false)))) else(some (0,0,false)))=some (r1,r2,r3):=H
      have A10:=Aside0.mk A100
      clear A100
      by_cases c11:t388=true
      · subst c11
        have H1:((spec_l20Power.f kj2 t387).bind fun bt389=>(if bt389.2.2=true then(some (x5_2,bt389.1,(bt389.2.1.toList==([]:List UInt8)))) else(some (x5_2,bt389.1,false))))=some (r1,r2,r3):=by rw[if_pos rfl] at H;exact H
        clear H
        have H:=H1
        clear H1
        replace H:=Option.bind_eq_some_iff.mp H
        obtain⟨⟨t389,t390,t391⟩,A120,H⟩:=H
        replace H:(if t391=true then(some (x5_2,t389,(t390.toList==([]:List UInt8)))) else(some (x5_2,t389,false)))=some (r1,r2,r3):=H
        have A12:=Aside0.mk A120
        clear A120
        by_cases c13:t391=true
        · subst c13
          have H1:(some (x5_2,t389,(t390.toList==([]:List UInt8))))=some (r1,r2,r3):=by rw[if_pos rfl] at H;exact H
          clear H
          have H:=H1
          clear H1
          simp only[Option.some.injEq,Prod.mk.injEq] at H
          obtain⟨rfl,rfl,rfl⟩:=H
          go_wp2_with (first|((with_reducible refine gate_callee (f:=33) rfl ?_);refine goesL_ (some 43) rfl rfl Tryz.func33 (by kernel_rfl) rfl #[.string x7_2, .string (⟨#[115]⟩:ByteArray)] rfl (by(try simp only[List.map_toArray,List.map_cons,List.map_nil]);first|done|rfl|(simp only[List.length_drop,List.length_take];rfl)) ?_;(with_reducible refine(spec_l20Begins.calls x7_2 (⟨#[115]⟩:ByteArray) t387 true _ A10.out).mono ?_);rintro e w' ⟨rfl,⟨nd,rfl⟩⟩;refine⟨_,rfl,?_⟩)|((with_reducible refine gate_callee (f:=59) rfl ?_);refine goesL_ (some 50) rfl rfl Tryz.func59 (by kernel_rfl) rfl #[.string t387] rfl (by(try simp only[List.map_toArray,List.map_cons,List.map_nil]);first|done|rfl|(simp only[List.length_drop,List.length_take];rfl)) ?_;(with_reducible refine(spec_l20Power.calls kj2 t387 t389 t390 true _ A12.out).mono ?_);rintro e w' ⟨rfl,⟨nd,rfl⟩⟩;refine⟨_,rfl,?_⟩))
          go_ret3
          exact⟨by first|rfl|(simp;done)|(simp[*];done)|(simp;unfold wrap64;omega),by repeat(first|exact Drawn0.refl _|apply Drawn0.step)⟩
        · replace c13:=Bool.eq_false_iff.mpr c13
          subst c13
          have H1:(some (x5_2,t389,false))=some (r1,r2,r3):=by rw[if_neg (show ¬(false=true) by decide)] at H;exact H
          clear H
          have H:=H1
          clear H1
          simp only[Option.some.injEq,Prod.mk.injEq] at H
          obtain⟨rfl,rfl,rfl⟩:=H
          go_wp2_with (first|((with_reducible refine gate_callee (f:=33) rfl ?_);refine goesL_ (some 43) rfl rfl Tryz.func33 (by kernel_rfl) rfl #[.string x7_2, .string (⟨#[115]⟩:ByteArray)] rfl (by(try simp only[List.map_toArray,List.map_cons,List.map_nil]);first|done|rfl|(simp only[List.length_drop,List.length_take];rfl)) ?_;(with_reducible refine(spec_l20Begins.calls x7_2 (⟨#[115]⟩:ByteArray) t387 true _ A10.out).mono ?_);rintro e w' ⟨rfl,⟨nd,rfl⟩⟩;refine⟨_,rfl,?_⟩)|((with_reducible refine gate_callee (f:=59) rfl ?_);refine goesL_ (some 50) rfl rfl Tryz.func59 (by kernel_rfl) rfl #[.string t387] rfl (by(try simp only[List.map_toArray,List.map_cons,List.map_nil]);first|done|rfl|(simp only[List.length_drop,List.length_take];rfl)) ?_;(with_reducible refine(spec_l20Power.calls kj2 t387 t389 t390 false _ A12.out).mono ?_);rintro e w' ⟨rfl,⟨nd,rfl⟩⟩;refine⟨_,rfl,?_⟩))
          go_ret3
          exact⟨by first|rfl|(simp;done)|(simp[*];done)|(simp;unfold wrap64;omega),by repeat(first|exact Drawn0.refl _|apply Drawn0.step)⟩
      · replace c11:=Bool.eq_false_iff.mpr c11
        subst c11
        have H1:(some (0,0,false))=some (r1,r2,r3):=by rw[if_neg (show ¬(false=true) by decide)] at H;exact H
        clear H
        have H:=H1
        clear H1
        simp only[Option.some.injEq,Prod.mk.injEq] at H
        obtain⟨rfl,rfl,rfl⟩:=H
        go_wp2_with (first|((with_reducible refine gate_callee (f:=33) rfl ?_);refine goesL_ (some 43) rfl rfl Tryz.func33 (by kernel_rfl) rfl #[.string x7_2, .string (⟨#[115]⟩:ByteArray)] rfl (by(try simp only[List.map_toArray,List.map_cons,List.map_nil]);first|done|rfl|(simp only[List.length_drop,List.length_take];rfl)) ?_;(with_reducible refine(spec_l20Begins.calls x7_2 (⟨#[115]⟩:ByteArray) t387 false _ A10.out).mono ?_);rintro e w' ⟨rfl,⟨nd,rfl⟩⟩;refine⟨_,rfl,?_⟩))
        go_ret3
        exact⟨by first|rfl|(simp;done)|(simp[*];done)|(simp;unfold wrap64;omega),by repeat(first|exact Drawn0.refl _|apply Drawn0.step)⟩

/-! ### spec_l20Short: function 35 -/
mutual
def spec_l20Short.j1:Nat→ByteArray→Int→Option (Int×Int×Int×Bool)
  |0,_,_=>none
  |k+1,x0,x8=>if x0.toList=([86]:List UInt8) then(some (x8,1,0,true)) else(if x0.toList=([115]:List UInt8) then(some (x8,0,1,true)) else(if x0.toList=([72,122]:List UInt8) then(some (x8,0,(-1),true)) else(some (0,0,0,false))))
def spec_l20Short.l0:Nat→ByteArray→List ByteArray→List Int→Int→Int→Option (Int×Int×Int×Bool)
  |0,_,_,_,_,_=>none
  |k+1,x0,x6,x7,x8,x9=>if x9<(x6.length:Int) then(if 0≤x9 then((spec_l20Begins.f x0 (rdOf ByteArray.empty x6 x9)).bind fun bt399=>(if bt399.2=true then(if x9<(x7.length:Int) then(spec_l20Short.j1 k bt399.1 (rd x7 x9)) else(none)) else(spec_l20Short.l0 k x0 x6 x7 x8 (wrap64 (x9+1))))) else(none)) else(spec_l20Short.j1 k x0 x8)
end
def spec_l20Short.f (k:Nat) (a0:ByteArray):Option (Int×Int×Int×Bool):=spec_l20Short.l0 k a0 (([(⟨#[110]⟩:ByteArray),(⟨#[194,181]⟩:ByteArray),(⟨#[109]⟩:ByteArray),(⟨#[107]⟩:ByteArray),(⟨#[77]⟩:ByteArray),(⟨#[71]⟩:ByteArray)]:List ByteArray)) (([(-9),(-6),(-3),3,6,9]:List Int)) 0 0
theorem spec_l20Short.mono_l:∀k,(∀y0 y1,LeO (spec_l20Short.j1 k y0 y1) (spec_l20Short.j1 (k+1) y0 y1))∧(∀y0 y1 y2 y3 y4,LeO (spec_l20Short.l0 k y0 y1 y2 y3 y4) (spec_l20Short.l0 (k+1) y0 y1 y2 y3 y4))
  |0=>⟨fun _ _ r h=>by simp[spec_l20Short.j1] at h,fun _ _ _ _ _ r h=>by simp[spec_l20Short.l0] at h⟩
  | k +1=>by
    obtain⟨ih0,ih1⟩:=spec_l20Short.mono_l k
    refine⟨?_,?_⟩
    · intro y0 y1
      unfold spec_l20Short.j1
      repeat' first
      |(with_reducible exact ih0 _ _)
      |(with_reducible exact ih1 _ _ _ _ _)
      |(with_reducible exact LeO.refl _)
      |(with_reducible exact LeO.none _)
      |(with_reducible refine LeO.ite ?_ ?_)
      |(with_reducible refine LeO.bind ?_ (fun _=> ?_))
      |exact ih0 _ _
      |exact ih1 _ _ _ _ _
      |exact LeO.none _
      |refine LeO.ite ?_ ?_
      |refine LeO.bind ?_ (fun _=> ?_)
    · intro y0 y1 y2 y3 y4
      unfold spec_l20Short.l0
      repeat' first
      |(with_reducible exact ih0 _ _)
      |(with_reducible exact ih1 _ _ _ _ _)
      |(with_reducible exact LeO.refl _)
      |(with_reducible exact LeO.none _)
      |(with_reducible refine LeO.ite ?_ ?_)
      |(with_reducible refine LeO.bind ?_ (fun _=> ?_))
      |exact ih0 _ _
      |exact ih1 _ _ _ _ _
      |exact LeO.none _
      |refine LeO.ite ?_ ?_
      |refine LeO.bind ?_ (fun _=> ?_)
theorem spec_l20Short.mono:∀a0 k,LeO (spec_l20Short.f k a0) (spec_l20Short.f (k+1) a0):=by
  intro a0 k
  obtain⟨ih0,ih1⟩:=spec_l20Short.mono_l k
  unfold spec_l20Short.f
  repeat' first
      |(with_reducible exact ih0 _ _)
      |(with_reducible exact ih1 _ _ _ _ _)
      |(with_reducible exact LeO.refl _)
      |(with_reducible exact LeO.none _)
      |(with_reducible refine LeO.ite ?_ ?_)
      |(with_reducible refine LeO.bind ?_ (fun _=> ?_))
      |exact ih0 _ _
      |exact ih1 _ _ _ _ _
      |exact LeO.none _
      |refine LeO.ite ?_ ?_
      |refine LeO.bind ?_ (fun _=> ?_)
set_option maxHeartbeats 8000000 in
set_option maxRecDepth 100000 in
theorem spec_l20Short.calls (k:Nat) (a0:ByteArray) (r1:Int) (r2:Int) (r3:Int) (r4:Bool) (w:World) (h:spec_l20Short.f k a0=some (r1,r2,r3,r4)):
    Calls Tryz.prog 35 #[.string a0] w fun e w'=>e= .returned (.tuple #[.int .i64 r1, .int .i64 r2, .int .i64 r3, .bool r4])∧Below w.heap.size w w':=by
  have HB:=Aside0.mk (Below.refl w.heap.size w)
  have H:(spec_l20Short.l0 k a0 (([(⟨#[110]⟩:ByteArray),(⟨#[194,181]⟩:ByteArray),(⟨#[109]⟩:ByteArray),(⟨#[107]⟩:ByteArray),(⟨#[77]⟩:ByteArray),(⟨#[71]⟩:ByteArray)]:List ByteArray)) (([(-9),(-6),(-3),3,6,9]:List Int)) 0 0)=some (r1,r2,r3,r4):=h
  clear h
  obtain⟨y392,hy392⟩:∃y_:List ByteArray,y_=(([(⟨#[110]⟩:ByteArray),(⟨#[194,181]⟩:ByteArray),(⟨#[109]⟩:ByteArray),(⟨#[107]⟩:ByteArray),(⟨#[77]⟩:ByteArray),(⟨#[71]⟩:ByteArray)]:List ByteArray)):=⟨_,rfl⟩
  replace H:(spec_l20Short.l0 k a0 y392 (([(-9),(-6),(-3),3,6,9]:List Int)) 0 0)=some (r1,r2,r3,r4):=by first|(rw[hy392];with_reducible exact H)|(have H2_:=(Option.bind_some _ _).symm.trans H;rw[hy392];with_reducible exact H2_)|(have H2_:=(Option.bind_some _ _).symm.trans H;with_reducible exact H2_)|with_reducible exact H|(rw[hy392];exact H)|exact H
  have Ny392:=Aside0.mk hy392
  clear hy392
  obtain⟨y395,hy395⟩:∃y_:List Int,y_=(([(-9),(-6),(-3),3,6,9]:List Int)):=⟨_,rfl⟩
  replace H:(spec_l20Short.l0 k a0 y392 y395 0 0)=some (r1,r2,r3,r4):=by first|(rw[hy395];with_reducible exact H)|(have H2_:=(Option.bind_some _ _).symm.trans H;rw[hy395];with_reducible exact H2_)|(have H2_:=(Option.bind_some _ _).symm.trans H;with_reducible exact H2_)|with_reducible exact H|(rw[hy395];exact H)|exact H
  have Ny395:=Aside0.mk hy395
  clear hy395
  have HC2:=Aside0.mk H
  clear H
  go_enter Tryz.func35,Tryz.ntmps35
  go_upto_block 0 with(first|((with_reducible refine gate_dst (N:=12) rfl ?_);refine Kd.R_lit Kd.string _ 9 ?hg (N:=12) ?hd (xs:=([(⟨#[110]⟩:ByteArray),(⟨#[194,181]⟩:ByteArray),(⟨#[109]⟩:ByteArray),(⟨#[107]⟩:ByteArray),(⟨#[77]⟩:ByteArray),(⟨#[71]⟩:ByteArray)]:List ByteArray)) (inner:=[.string (⟨#[110]⟩:ByteArray), .string (⟨#[194,181]⟩:ByteArray), .string (⟨#[109]⟩:ByteArray), .string (⟨#[107]⟩:ByteArray), .string (⟨#[77]⟩:ByteArray), .string (⟨#[71]⟩:ByteArray)]) (ok:=fun _=>True) (okp:=fun _=>True) ?hr ?hp (fun _ hk=>hk) trivial (Below.refl _ _) (Nat.le_refl _) (by simp) ?_;(case hd=>rfl);(case hg=>rfl);(case hr=>first|(go_simp;done)|(go_simp;rfl));(case hp=>exact(Reps.one (show Kd.M Kd.string _ _ _ (⟨#[110]⟩:ByteArray) [.string (⟨#[110]⟩:ByteArray)] from rfl) (Reps.one (show Kd.M Kd.string _ _ _ (⟨#[194,181]⟩:ByteArray) [.string (⟨#[194,181]⟩:ByteArray)] from rfl) (Reps.one (show Kd.M Kd.string _ _ _ (⟨#[109]⟩:ByteArray) [.string (⟨#[109]⟩:ByteArray)] from rfl) (Reps.one (show Kd.M Kd.string _ _ _ (⟨#[107]⟩:ByteArray) [.string (⟨#[107]⟩:ByteArray)] from rfl) (Reps.one (show Kd.M Kd.string _ _ _ (⟨#[77]⟩:ByteArray) [.string (⟨#[77]⟩:ByteArray)] from rfl) (Reps.one (show Kd.M Kd.string _ _ _ (⟨#[71]⟩:ByteArray) [.string (⟨#[71]⟩:ByteArray)] from rfl) (Reps.none _ _))))))));intro v393 w3 ho4 hb hg_ hnew_;clear hg_ hnew_;(first|rw[←Ny392.out] at ho4|(simp only[Int.reduceToNat] at ho4;rw[←Ny392.out] at ho4));have n0_:=Aside0.mk (Kd.R_lower ho4 (below_size (by repeat(first|(with_reducible first|exact HB.out|apply below_alloc|apply pw_below_drewN|apply below_drew1)|exact HB.out))));have n1_:=Aside0.mk (below_step (by repeat(first|(with_reducible first|exact HB.out|apply below_alloc|apply pw_below_drewN|apply below_drew1)|exact HB.out)) hb);clear HB;have HO394:=n0_;have HB:=n1_;clear n0_ n1_;clear hb ho4)|((with_reducible refine gate_dst (N:=13) rfl ?_);refine Kd.R_lit (Kd.int .i64) _ 3 ?hg (N:=13) ?hd (xs:=([(-9),(-6),(-3),3,6,9]:List Int)) (inner:=[.int .i64 (-9), .int .i64 (-6), .int .i64 (-3), .int .i64 3, .int .i64 6, .int .i64 9]) (ok:=fun _=>True) (okp:=fun _=>True) ?hr ?hp (fun _ hk=>hk) trivial (Below.refl _ _) (Nat.le_refl _) (by simp) ?_;(case hd=>rfl);(case hg=>rfl);(case hr=>first|(go_simp;done)|(go_simp;rfl));(case hp=>exact(Reps.one (show Kd.M (Kd.int .i64) _ _ _ (-9) [.int .i64 (-9)] from rfl) (Reps.one (show Kd.M (Kd.int .i64) _ _ _ (-6) [.int .i64 (-6)] from rfl) (Reps.one (show Kd.M (Kd.int .i64) _ _ _ (-3) [.int .i64 (-3)] from rfl) (Reps.one (show Kd.M (Kd.int .i64) _ _ _ 3 [.int .i64 3] from rfl) (Reps.one (show Kd.M (Kd.int .i64) _ _ _ 6 [.int .i64 6] from rfl) (Reps.one (show Kd.M (Kd.int .i64) _ _ _ 9 [.int .i64 9] from rfl) (Reps.none _ _))))))));intro v396 w5 ho6 hb hg_ hnew_;clear hg_ hnew_;(first|rw[←Ny395.out] at ho6|(simp only[Int.reduceToNat] at ho6;rw[←Ny395.out] at ho6));have n0_:=Aside0.mk (Kd.R_below (by(with_reducible repeat(first|apply Kd.R_alloc|apply Kd.R_drewN|apply Kd.R_drew));first|exact HO394.out|(subst_vars;exact HO394.out)) hb);have n1_:=Aside0.mk (Kd.R_lower ho6 (below_size (by repeat(first|(with_reducible first|exact HB.out|apply below_alloc|apply pw_below_drewN|apply below_drew1)|exact HB.out))));have n2_:=Aside0.mk (below_step (by repeat(first|(with_reducible first|exact HB.out|apply below_alloc|apply pw_below_drewN|apply below_drew1)|exact HB.out)) hb);clear HO394;clear HB;have HO394:=n0_;have HO397:=n1_;have HB:=n2_;clear n0_ n1_ n2_;clear hb ho6))
  (try simp only[Act.put,List.setIfInBounds_toArray,List.set_cons_zero,List.set_cons_succ])
  go_cut [0,8] (fun v0 v8 wc=>∃(kq:Nat) (x0_1:ByteArray) (x8_1:Int),v0= .string x0_1∧v8= .int .i64 x8_1∧Aside0 (spec_l20Short.j1 kq x0_1 x8_1=some (r1,r2,r3,r4))∧Aside0 (kq≤k)∧Aside0 (Below w.heap.size w wc))
  case first=>
    have H:=HC2.out
    clear HC2
    have H':=Aside0.mk H
    clear H
    go_wp2
    (try simp only[Act.put,List.setIfInBounds_toArray,List.set_cons_zero,List.set_cons_succ])
    go_loopg [0,8,9] k (fun kq v0 v8 v9 w'=>∃(x0_1:ByteArray) (x8_1:Int) (x9_1:Int),v0= .string x0_1∧v8= .int .i64 x8_1∧v9= .int .i64 x9_1∧Aside0 (spec_l20Short.l0 kq x0_1 y392 y395 x8_1 x9_1=some (r1,r2,r3,r4))∧Aside0 (kq≤k)∧Aside0 (Kd.R Kd.string 9 w' w.heap.size (fun _=>True) v393 y392)∧Aside0 (Kd.R (Kd.int .i64) 3 w' w.heap.size (fun _=>True) v396 y395)∧Aside0 (Below w.heap.size w w'))
    case atStart=>exact⟨(a0),(0),(0),(by first|rfl|(simp;done)|(simp[*];done)),(by first|rfl|(simp;done)|(simp[*];done)),(by first|rfl|(simp;done)|(simp[*];done)),H',⟨Nat.le_refl _⟩,⟨by(with_reducible repeat(first|apply Kd.R_alloc|apply Kd.R_drewN|apply Kd.R_drew));first|exact HO394.out|(subst_vars;exact HO394.out)⟩,⟨by(with_reducible repeat(first|apply Kd.R_alloc|apply Kd.R_drewN|apply Kd.R_drew));first|exact HO397.out|(subst_vars;exact HO397.out)⟩,⟨by repeat(first|(with_reducible first|exact HB.out|apply below_alloc|apply pw_below_drewN|apply below_drew1)|exact HB.out)⟩⟩
    case round=>
      clear H'
      try clear p2
      try clear c3
      obtain⟨x0_1,x8_1,x9_1,rfl,rfl,rfl,HA,HK1,HO_6,HO_7,HB⟩:=hrel
      cases gk with
      |zero=>exact absurd HA.out (by simp[spec_l20Short.l0])
      | succ k1 =>
        have H:=HA.out
        clear HA
        simp only[spec_l20Short.l0] at H
        by_cases c7:x9_1<(y392.length:Int)
        · rw [if_pos c7] at H
          have c7b0:decide (x9_1<(y392.length:Int))=true:=decide_eq_true c7
          clear c7
          (first|rw[c7b0]|(simp only[i64_w,i32_w];rw[c7b0])|skip)
          by_cases c8:0≤x9_1
          · rw [if_pos c8] at H
            have c8b0:decide (0≤x9_1)=true:=decide_eq_true c8
            clear c8
            replace H:=Option.bind_eq_some_iff.mp H
            obtain⟨⟨t399,t400⟩,A90,H⟩:=H
            replace H:(if t400=true then(if x9_1<(y395.length:Int) then(spec_l20Short.j1 k1 t399 (rd y395 x9_1)) else(none)) else(spec_l20Short.l0 k1 x0_1 y392 y395 x8_1 (wrap64 (x9_1+1))))=some (r1,r2,r3,r4):=H
            have A9:=Aside0.mk A90
            clear A90
            by_cases c10:t400=true
            · subst c10
              have H1:(if x9_1<(y395.length:Int) then(spec_l20Short.j1 k1 t399 (rd y395 x9_1)) else(none))=some (r1,r2,r3,r4):=by rw[if_pos rfl] at H;exact H
              clear H
              have H:=H1
              clear H1
              by_cases c11:x9_1<(y395.length:Int)
              · rw[if_pos c11] at H
                have c11b0:decide (x9_1<(y395.length:Int))=true:=decide_eq_true c11
                clear c11
                have H':=Aside0.mk H
                clear H
                obtain⟨Ao12,co12,eo12⟩:=Kd.R_slice HO_6.out
                subst eo12
                have p398:0≤(x9_1:Int):=of_decide_eq_true (by first|(with_reducible assumption)|assumption)
                have q398:x9_1<(y392.length:Int):=of_decide_eq_true (by first|(with_reducible assumption)|assumption)
                obtain⟨ad398,e398,hx398_0⟩:=Kd.at_string (Kd.R_reads' HO_6.out).2.2 x9_1 p398 q398
                cases e398
                replace p398:=eq_true p398
                replace q398:=eq_true q398
                go_wp2_with (first|((with_reducible refine gate_callee (f:=33) rfl ?_);refine goesL_ (some 26) rfl rfl Tryz.func33 (by kernel_rfl) rfl #[.string x0_1, .string (rdOf ByteArray.empty y392 x9_1)] rfl (by(try simp only[List.map_toArray,List.map_cons,List.map_nil]);first|done|rfl|(simp only[List.length_drop,List.length_take];rfl)) ?_;(with_reducible refine(spec_l20Begins.calls x0_1 (rdOf ByteArray.empty y392 x9_1) t399 true _ A9.out).mono ?_);rintro e w' ⟨rfl,⟨nd,rfl⟩⟩;refine⟨_,rfl,?_⟩;obtain⟨Ao13,co13,eo13⟩:=Kd.R_slice HO_7.out;subst eo13;have p401:0≤(x9_1:Int):=of_decide_eq_true (by first|(with_reducible assumption)|assumption);have q401:x9_1<(y395.length:Int):=of_decide_eq_true (by first|(with_reducible assumption)|assumption);obtain⟨ad401,e401,hx401_0⟩:=Kd.at_int (Kd.R_reads' HO_7.out).2.2 x9_1 p401 q401;cases e401;replace p401:=eq_true p401;replace q401:=eq_true q401))
                go_meet
                case rel=>exact⟨_,(t399),(rd y395 x9_1),(by first|rfl|(simp;done)|(simp[*];done)),(by first|rfl|(simp;done)|(simp[*];done)),H',⟨by have:=HK1.out;first|omega|exact Nat.le_refl _⟩,⟨by repeat(first|(with_reducible first|exact HB.out|apply below_alloc|apply pw_below_drewN|apply below_drew1)|exact HB.out)⟩⟩
              · rw[if_neg c11] at H
                exact absurd H (by simp)
            · replace c10:=Bool.eq_false_iff.mpr c10
              subst c10
              have H1:(spec_l20Short.l0 k1 x0_1 y392 y395 x8_1 (wrap64 (x9_1+1)))=some (r1,r2,r3,r4):=by rw[if_neg (show ¬(false=true) by decide)] at H;exact H
              clear H
              have H:=H1
              clear H1
              have H':=Aside0.mk H
              clear H
              obtain⟨Ao14,co14,eo14⟩:=Kd.R_slice HO_6.out
              subst eo14
              have p398:0≤(x9_1:Int):=of_decide_eq_true (by first|(with_reducible assumption)|assumption)
              have q398:x9_1<(y392.length:Int):=of_decide_eq_true (by first|(with_reducible assumption)|assumption)
              obtain⟨ad398,e398,hx398_0⟩:=Kd.at_string (Kd.R_reads' HO_6.out).2.2 x9_1 p398 q398
              cases e398
              replace p398:=eq_true p398
              replace q398:=eq_true q398
              go_wp2_with (first|((with_reducible refine gate_callee (f:=33) rfl ?_);refine goesL_ (some 26) rfl rfl Tryz.func33 (by kernel_rfl) rfl #[.string x0_1, .string (rdOf ByteArray.empty y392 x9_1)] rfl (by(try simp only[List.map_toArray,List.map_cons,List.map_nil]);first|done|rfl|(simp only[List.length_drop,List.length_take];rfl)) ?_;(with_reducible refine(spec_l20Begins.calls x0_1 (rdOf ByteArray.empty y392 x9_1) t399 false _ A9.out).mono ?_);rintro e w' ⟨rfl,⟨nd,rfl⟩⟩;refine⟨_,rfl,?_⟩))
              go_roundg k1
              case measure=>have:=HK1.out;omega
              case rel=>exact⟨(x0_1),(x8_1),(wrap64 (x9_1+1)),(by first|rfl|(simp;done)|(simp[*];done)),(by first|rfl|(simp;done)|(simp[*];done)),(by first|rfl|(simp;done)|(simp[*];done)),H',⟨by have:=HK1.out;omega⟩,⟨by(with_reducible repeat(first|apply Kd.R_alloc|apply Kd.R_drewN|apply Kd.R_drew));first|exact HO_6.out|(subst_vars;exact HO_6.out)⟩,⟨by(with_reducible repeat(first|apply Kd.R_alloc|apply Kd.R_drewN|apply Kd.R_drew));first|exact HO_7.out|(subst_vars;exact HO_7.out)⟩,⟨by repeat(first|(with_reducible first|exact HB.out|apply below_alloc|apply pw_below_drewN|apply below_drew1)|exact HB.out)⟩⟩
          · rw[if_neg c8] at H
            exact absurd H (by simp)
        · rw[if_neg c7] at H
          have c7b0:decide (x9_1<(y392.length:Int))=false:=decide_eq_false c7
          clear c7
          (first|rw[c7b0]|(simp only[i64_w,i32_w];rw[c7b0])|skip)
          have H':=Aside0.mk H
          clear H
          obtain⟨Ao15,co15,eo15⟩:=Kd.R_slice HO_6.out
          subst eo15
          go_wp2
          go_meet
          case rel=>exact⟨_,(x0_1),(x8_1),(by first|rfl|(simp;done)|(simp[*];done)),(by first|rfl|(simp;done)|(simp[*];done)),H',⟨by have:=HK1.out;first|omega|exact Nat.le_refl _⟩,⟨by repeat(first|(with_reducible first|exact HB.out|apply below_alloc|apply pw_below_drewN|apply below_drew1)|exact HB.out)⟩⟩
  case rest =>
    clear HC2
    try clear c1
    try clear p2
    try clear c3
    try clear p3
    try clear q3
    try clear hx3
    try clear p4
    try clear q4
    try clear hx4
    try clear p6
    try clear c7
    try clear c7b0
    try clear c8
    try clear c8b0
    try clear c10
    try clear c11
    try clear c11b0
    try clear hx398_0
    try clear hx401_0
    try clear p2
    try clear p398
    try clear p401
    try clear q398
    try clear q401
    obtain⟨kq,x0_1,x8_1,rfl,rfl,HA,HJ1,HB⟩:=hcut
    cases kq with
    |zero=>exact absurd HA.out (by simp[spec_l20Short.j1])
    | succ kj1=>
      have H:=HA.out
      clear HA
      simp only[spec_l20Short.j1] at H
      by_cases c16:x0_1.toList=([86]:List UInt8)
      · rw[if_pos c16] at H
        have c16b0:(x0_1.toList==([86]:List UInt8))=true:=beq_iff_eq.mpr c16
        have c16b1:(x0_1.toList != ([86]:List UInt8))=false:=bne_eq_false_iff_eq.mpr c16
        clear c16
        simp only[Option.some.injEq,Prod.mk.injEq] at H
        obtain⟨rfl,rfl,rfl,rfl⟩:=H
        go_wp2
        refine bodyPost_ret (results_list (rs:=[.tmp 2, .tmp 3, .tmp 4, .tmp 5]) rfl (by simp) (.tmp (.tmp (.tmp (.tmp .nil))))) rfl ?_
        exact⟨by first|rfl|(simp[errW_none,errW_some]<;>rfl)|(simp[*,errW_none,errW_some]<;>rfl),by repeat(first|(with_reducible first|exact HB.out|apply below_alloc|apply pw_below_drewN|apply below_drew1)|exact HB.out)⟩
      · rw [if_neg c16] at H
        have c16b0:(x0_1.toList==([86]:List UInt8))=false:=beq_eq_false_iff_ne.mpr c16
        have c16b1:(x0_1.toList != ([86]:List UInt8))=true:=bne_iff_ne.mpr c16
        by_cases c17:x0_1.toList=([115]:List UInt8)
        · rw[if_pos c17] at H
          have c17b0:(x0_1.toList==([115]:List UInt8))=true:=beq_iff_eq.mpr c17
          have c17b1:(x0_1.toList != ([115]:List UInt8))=false:=bne_eq_false_iff_eq.mpr c17
          clear c17
          simp only[Option.some.injEq,Prod.mk.injEq] at H
          obtain⟨rfl,rfl,rfl,rfl⟩:=H
          go_wp2
          refine bodyPost_ret (results_list (rs:=[.tmp 2, .tmp 3, .tmp 4, .tmp 5]) rfl (by simp) (.tmp (.tmp (.tmp (.tmp .nil))))) rfl ?_
          exact⟨by first|rfl|(simp[errW_none,errW_some]<;>rfl)|(simp[*,errW_none,errW_some]<;>rfl),by repeat(first|(with_reducible first|exact HB.out|apply below_alloc|apply pw_below_drewN|apply below_drew1)|exact HB.out)⟩
        · rw[if_neg c17] at H
          have c17b0:(x0_1.toList==([115]:List UInt8))=false:=beq_eq_false_iff_ne.mpr c17
          have c17b1:(x0_1.toList != ([115]:List UInt8))=true:=bne_iff_ne.mpr c17
          by_cases c18:x0_1.toList=([72,122]:List UInt8)
          · rw[if_pos c18] at H
            have c18b0:(x0_1.toList==([72,122]:List UInt8))=true:=beq_iff_eq.mpr c18
            have c18b1:(x0_1.toList != ([72,122]:List UInt8))=false:=bne_eq_false_iff_eq.mpr c18
            clear c18
            simp only[Option.some.injEq,Prod.mk.injEq] at H
            obtain⟨rfl,rfl,rfl,rfl⟩:=H
            go_wp2
            refine bodyPost_ret (results_list (rs:=[.tmp 2, .tmp 3, .tmp 4, .tmp 5]) rfl (by simp) (.tmp (.tmp (.tmp (.tmp .nil))))) rfl ?_
            exact⟨by first|rfl|(simp[errW_none,errW_some]<;>rfl)|(simp[*,errW_none,errW_some]<;>rfl),by repeat(first|(with_reducible first|exact HB.out|apply below_alloc|apply pw_below_drewN|apply below_drew1)|exact HB.out)⟩
          · rw[if_neg c18] at H
            have c18b0:(x0_1.toList==([72,122]:List UInt8))=false:=beq_eq_false_iff_ne.mpr c18
            have c18b1:(x0_1.toList != ([72,122]:List UInt8))=true:=bne_iff_ne.mpr c18
            simp only[Option.some.injEq,Prod.mk.injEq] at H
            obtain⟨rfl,rfl,rfl,rfl⟩:=H
            go_wp2
            refine bodyPost_ret (results_list (rs:=[.tmp 2, .tmp 3, .tmp 4, .tmp 5]) rfl (by simp) (.tmp (.tmp (.tmp (.tmp .nil))))) rfl ?_
            exact⟨by first|rfl|(simp[errW_none,errW_some]<;>rfl)|(simp[*,errW_none,errW_some]<;>rfl),by repeat(first|(with_reducible first|exact HB.out|apply below_alloc|apply pw_below_drewN|apply below_drew1)|exact HB.out)⟩

/-! ### spec_ReadQty: function 10 -/
def spec_ReadQty.f (k:Nat) (a0:ByteArray):Option (Int×Int×Int×Int×Bool):=(spec_l20Number.f k a0).bind fun bt403=>(if bt403.2.2.2=true then(if bt403.2.2.1.toList=([]:List UInt8) then((spec_l20Qty.f k bt403.1 bt403.2.1 0 0).bind fun bt407=>(some (bt407.1,bt407.2.1,bt407.2.2.1,bt407.2.2.2.1,bt407.2.2.2.2))) else((spec_l20Begins.f bt403.2.2.1 (⟨#[32]⟩:ByteArray)).bind fun bt412=>(if bt412.2=true then((spec_l20Long.f k bt412.1).bind fun bt414=>(if bt414.2.2=true then((spec_l20Qty.f k bt403.1 bt403.2.1 bt414.1 bt414.2.1).bind fun bt417=>(some (bt417.1,bt417.2.1,bt417.2.2.1,bt417.2.2.2.1,bt417.2.2.2.2))) else(some (0,0,0,0,false)))) else((spec_l20Short.f k bt403.2.2.1).bind fun bt422=>(if bt422.2.2.2=true then((spec_l20Qty.f k bt403.1 (wrap64 (bt403.2.1+bt422.1)) bt422.2.1 bt422.2.2.1).bind fun bt426=>(some (bt426.1,bt426.2.1,bt426.2.2.1,bt426.2.2.2.1,bt426.2.2.2.2))) else(some (0,0,0,0,false))))))) else(some (0,0,0,0,false)))
theorem spec_ReadQty.mono:∀a0 k,LeO (spec_ReadQty.f k a0) (spec_ReadQty.f (k+1) a0):=by
  intro a0 k
  unfold spec_ReadQty.f
  repeat' first
      |(with_reducible exact spec_l20Long.mono _ _)
      |(with_reducible exact spec_l20Number.mono _ _)
      |(with_reducible exact spec_l20Qty.mono _ _ _ _ _)
      |(with_reducible exact spec_l20Short.mono _ _)
      |(with_reducible exact LeO.refl _)
      |(with_reducible exact LeO.none _)
      |(with_reducible refine LeO.ite ?_ ?_)
      |(with_reducible refine LeO.bind ?_ (fun _=> ?_))
      |exact spec_l20Long.mono _ _
      |exact spec_l20Number.mono _ _
      |exact spec_l20Qty.mono _ _ _ _ _
      |exact spec_l20Short.mono _ _
      |exact LeO.none _
      |refine LeO.ite ?_ ?_
      |refine LeO.bind ?_ (fun _=> ?_)
set_option maxHeartbeats 8000000 in
set_option maxRecDepth 100000 in
theorem spec_ReadQty.calls (k:Nat) (a0:ByteArray) (r1:Int) (r2:Int) (r3:Int) (r4:Int) (r5:Bool) (w:World) (h:spec_ReadQty.f k a0=some (r1,r2,r3,r4,r5)):
    Calls Tryz.prog 10 #[.string a0] w fun e w'=>e= .returned (.tuple #[.agg #[.int .i64 r1, .int .i64 r2, .int .i64 r3, .int .i64 r4], .bool r5])∧Below w.heap.size w w':=by
  have hu25:=Tryz.underlying25
  have HB:=Aside0.mk (Below.refl w.heap.size w)
  have H:((spec_l20Number.f k a0).bind fun bt403=>(if bt403.2.2.2=true then(if bt403.2.2.1.toList=([]:List UInt8) then((spec_l20Qty.f k bt403.1 bt403.2.1 0 0).bind fun bt407=>(some (bt407.1,bt407.2.1,bt407.2.2.1,bt407.2.2.2.1,bt407.2.2.2.2))) else((spec_l20Begins.f bt403.2.2.1 (⟨#[32]⟩:ByteArray)).bind fun bt412=>(if bt412.2=true then((spec_l20Long.f k bt412.1).bind fun bt414=>(if bt414.2.2=true then((spec_l20Qty.f k bt403.1 bt403.2.1 bt414.1 bt414.2.1).bind fun bt417=>(some (bt417.1,bt417.2.1,bt417.2.2.1,bt417.2.2.2.1,bt417.2.2.2.2))) else(some (0,0,0,0,false)))) else((spec_l20Short.f k bt403.2.2.1).bind fun bt422=>(if bt422.2.2.2=true then((spec_l20Qty.f k bt403.1 (wrap64 (bt403.2.1+bt422.1)) bt422.2.1 bt422.2.2.1).bind fun bt426=>(some (bt426.1,bt426.2.1,bt426.2.2.1,bt426.2.2.2.1,bt426.2.2.2.2))) else(some (0,0,0,0,false))))))) else(some (0,0,0,0,false))))=some (r1,r2,r3,r4,r5):=h
  clear h
  replace H:=Option.bind_eq_some_iff.mp H
  obtain⟨⟨t403,t404,t405,t406⟩,A20,H⟩:=H
  replace H:(if t406=true then(if t405.toList=([]:List UInt8) then((spec_l20Qty.f k t403 t404 0 0).bind fun bt407=>(some (bt407.1,bt407.2.1,bt407.2.2.1,bt407.2.2.2.1,bt407.2.2.2.2))) else((spec_l20Begins.f t405 (⟨#[32]⟩:ByteArray)).bind fun bt412=>(if bt412.2=true then((spec_l20Long.f k bt412.1).bind fun bt414=>(if bt414.2.2=true then((spec_l20Qty.f k t403 t404 bt414.1 bt414.2.1).bind fun bt417=>(some (bt417.1,bt417.2.1,bt417.2.2.1,bt417.2.2.2.1,bt417.2.2.2.2))) else(some (0,0,0,0,false)))) else((spec_l20Short.f k t405).bind fun bt422=>(if bt422.2.2.2=true then((spec_l20Qty.f k t403 (wrap64 (t404+bt422.1)) bt422.2.1 bt422.2.2.1).bind fun bt426=>(some (bt426.1,bt426.2.1,bt426.2.2.1,bt426.2.2.2.1,bt426.2.2.2.2))) else(some (0,0,0,0,false))))))) else(some (0,0,0,0,false)))=some (r1,r2,r3,r4,r5):=H
  have A2:=Aside0.mk A20
  clear A20
  by_cases c3:t406=true
  · subst c3
    have H1:(if t405.toList=([]:List UInt8) then((spec_l20Qty.f k t403 t404 0 0).bind fun bt407=>(some (bt407.1,bt407.2.1,bt407.2.2.1,bt407.2.2.2.1,bt407.2.2.2.2))) else((spec_l20Begins.f t405 (⟨#[32]⟩:ByteArray)).bind fun bt412=>(if bt412.2=true then((spec_l20Long.f k bt412.1).bind fun bt414=>(if bt414.2.2=true then((spec_l20Qty.f k t403 t404 bt414.1 bt414.2.1).bind fun bt417=>(some (bt417.1,bt417.2.1,bt417.2.2.1,bt417.2.2.2.1,bt417.2.2.2.2))) else(some (0,0,0,0,false)))) else((spec_l20Short.f k t405).bind fun bt422=>(if bt422.2.2.2=true then((spec_l20Qty.f k t403 (wrap64 (t404+bt422.1)) bt422.2.1 bt422.2.2.1).bind fun bt426=>(some (bt426.1,bt426.2.1,bt426.2.2.1,bt426.2.2.2.1,bt426.2.2.2.2))) else(some (0,0,0,0,false)))))))=some (r1,r2,r3,r4,r5):=by rw[if_pos rfl] at H;exact H
    clear H
    have H:=H1
    clear H1
    by_cases c4:t405.toList=([]:List UInt8)
    · rw[if_pos c4] at H
      have c4b0:(t405.toList==([]:List UInt8))=true:=beq_iff_eq.mpr c4
      have c4b1:(t405.toList != ([]:List UInt8))=false:=bne_eq_false_iff_eq.mpr c4
      clear c4
      replace H:=Option.bind_eq_some_iff.mp H
      obtain⟨⟨t407,t408,t409,t410,t411⟩,A50,H⟩:=H
      replace H:(some (t407,t408,t409,t410,t411))=some (r1,r2,r3,r4,r5):=H
      have A5:=Aside0.mk A50
      clear A50
      simp only[Option.some.injEq,Prod.mk.injEq] at H
      obtain⟨rfl,rfl,rfl,rfl,rfl⟩:=H
      go_enter Tryz.func10,Tryz.ntmps10
      go_wp2_with (first|((with_reducible refine gate_dst (N:=2) rfl ?_);refine box_event ?hg (N:=2) ?hd (cs:= #[.int .i64 0, .int .i64 0, .int .i64 0, .int .i64 0]) (t:=25) ?hr ?_;(case hd=>rfl);(case hg=>rfl);(case hr=>first|(go_simp;done)|(go_simp;rfl));intro gb402 hg w6 hbox hb;have n0_:=Aside0.mk (below_step (by repeat(first|(with_reducible first|exact HB.out|apply below_alloc|apply pw_below_drewN|apply below_drew1)|exact HB.out)) hb);have n1_:=Aside0.mk (hbox);have n2_:=Aside0.mk ((by rw[hg];exact(below_size (by repeat(first|(with_reducible first|exact HB.out|apply below_alloc|apply pw_below_drewN|apply below_drew1)|exact HB.out))):w.heap.size≤gb402));have n3_:=Aside0.mk ((by rw[hg];exact(below_size (by repeat(first|(with_reducible first|exact HB.out|apply below_alloc|apply pw_below_drewN|apply below_drew1)|exact HB.out))):w.heap.size≤gb402));clear HB;have HB:=n0_;have BK402:=n1_;have GW402:=n2_;have GE402:=n3_;clear n0_ n1_ n2_ n3_;clear hb hbox hg)|((with_reducible refine gate_callee (f:=31) rfl ?_);refine goesL_ (some 19) rfl rfl Tryz.func31 (by kernel_rfl) rfl #[.string a0] rfl (by(try simp only[List.map_toArray,List.map_cons,List.map_nil]);first|done|rfl|(simp only[List.length_drop,List.length_take];rfl)) ?_;(with_reducible refine(spec_l20Number.calls k a0 t403 t404 t405 true _ A2.out).mono ?_);rintro e w' ⟨rfl,⟨nd,rfl⟩⟩;refine⟨_,rfl,?_⟩;(try(rw[drewN_self w6];generalize hq_:World.drewN w6 _=w6;have n0_:Aside0 (w6.heap[gb402]? =some (.cells #[.int .i64 0, .int .i64 0, .int .i64 0, .int .i64 0] 25 (0,0))):=⟨by rw[←hq_];exact(by(with_reducible repeat(first|refine blk_drewN ?_ _|refine blk_drew ?_|refine blk_alloc ?_ _));exact BK402.out)⟩;have n1_:Aside0 (Below w.heap.size w w6):=⟨by rw[←hq_];exact(by repeat(first|(with_reducible first|exact HB.out|apply below_alloc|apply pw_below_drewN|apply below_drew1|refine below_set ?_ GE402.out)|exact HB.out))⟩;clear BK402 HB hq_;have BK402:=n0_;have HB:=n1_;clear n0_ n1_)))|((with_reducible refine gate_callee (f:=32) rfl ?_);refine goesL_ (some 31) rfl rfl Tryz.func32 (by kernel_rfl) rfl #[.int .i64 t403, .int .i64 t404, .int .i64 0, .int .i64 0] rfl (by(try simp only[List.map_toArray,List.map_cons,List.map_nil]);first|done|rfl|(simp only[List.length_drop,List.length_take];rfl)) ?_;(with_reducible refine(spec_l20Qty.calls k t403 t404 0 0 t407 t408 t409 t410 t411 _ A5.out).mono ?_);rintro e w7 ⟨rfl,hb⟩;refine⟨_,rfl,?_⟩;have n0_:=Aside0.mk (blk_below (g:=gb402) (o:= .cells #[.int .i64 0, .int .i64 0, .int .i64 0, .int .i64 0] 25 (0,0)) (by(with_reducible repeat(first|refine blk_drewN ?_ _|refine blk_drew ?_|refine blk_alloc ?_ _));exact BK402.out) hb);have n1_:=Aside0.mk (below_step (by repeat(first|(with_reducible first|exact HB.out|apply below_alloc|apply pw_below_drewN|apply below_drew1|refine below_set ?_ GE402.out)|exact HB.out)) hb);clear BK402;clear HB;have BK402:=n0_;have HB:=n1_;clear n0_ n1_;(try clear hb);(try clear hb2);(try clear hk);(try clear hi);have hcz8_0:w7.cell? ⟨gb402,0,none⟩=some (.int .i64 0):=(blk_cell BK402.out 0).trans rfl;have hcz8_1:w7.cell? ⟨gb402,1,none⟩=some (.int .i64 0):=(blk_cell BK402.out 1).trans rfl;have hcz8_2:w7.cell? ⟨gb402,2,none⟩=some (.int .i64 0):=(blk_cell BK402.out 2).trans rfl;have hcz8_3:w7.cell? ⟨gb402,3,none⟩=some (.int .i64 0):=(blk_cell BK402.out 3).trans rfl;have hfz8_0:=blk_frozen BK402.out 0;have hfz8_1:=blk_frozen BK402.out 1;have hfz8_2:=blk_frozen BK402.out 2;have hfz8_3:=blk_frozen BK402.out 3))
      refine bodyPost_ret (results_ct rfl _ _ gb402 25 #[.int .i64 t407, .int .i64 t408, .int .i64 t409, .int .i64 t410] (0,0) _ rfl (by(with_reducible repeat(first|refine blk_drewN ?_ _|refine blk_drew ?_|refine blk_alloc ?_ _));refine blk_put (cs:= #[.int .i64 t407, .int .i64 t408, .int .i64 t409, .int .i64 0]) ?_ 3 _ rfl;(with_reducible repeat(first|refine blk_drewN ?_ _|refine blk_drew ?_|refine blk_alloc ?_ _));refine blk_put (cs:= #[.int .i64 t407, .int .i64 t408, .int .i64 0, .int .i64 0]) ?_ 2 _ rfl;(with_reducible repeat(first|refine blk_drewN ?_ _|refine blk_drew ?_|refine blk_alloc ?_ _));refine blk_put (cs:= #[.int .i64 t407, .int .i64 0, .int .i64 0, .int .i64 0]) ?_ 1 _ rfl;(with_reducible repeat(first|refine blk_drewN ?_ _|refine blk_drew ?_|refine blk_alloc ?_ _));refine blk_put (cs:= #[.int .i64 0, .int .i64 0, .int .i64 0, .int .i64 0]) ?_ 0 _ rfl;(with_reducible repeat(first|refine blk_drewN ?_ _|refine blk_drew ?_|refine blk_alloc ?_ _));exact BK402.out) Tryz.underlying25 rfl (by kernel_rfl)) rfl ?_
      exact⟨by first|rfl|(simp[errW_none,errW_some]<;>rfl)|(simp[*,errW_none,errW_some]<;>rfl),by repeat(first|(with_reducible first|exact HB.out|apply below_alloc|apply pw_below_drewN|apply below_drew1|refine below_set ?_ GE402.out)|exact HB.out)⟩
    · rw [if_neg c4] at H
      have c4b0:(t405.toList==([]:List UInt8))=false:=beq_eq_false_iff_ne.mpr c4
      have c4b1:(t405.toList != ([]:List UInt8))=true:=bne_iff_ne.mpr c4
      replace H:=Option.bind_eq_some_iff.mp H
      obtain⟨⟨t412,t413⟩,A90,H⟩:=H
      replace H:(if t413=true then((spec_l20Long.f k t412).bind fun bt414=>(if bt414.2.2=true then((spec_l20Qty.f k t403 t404 bt414.1 bt414.2.1).bind fun bt417=>(some (bt417.1,bt417.2.1,bt417.2.2.1,bt417.2.2.2.1,bt417.2.2.2.2))) else(some (0,0,0,0,false)))) else((spec_l20Short.f k t405).bind fun bt422=>(if bt422.2.2.2=true then((spec_l20Qty.f k t403 (wrap64 (t404+bt422.1)) bt422.2.1 bt422.2.2.1).bind fun bt426=>(some (bt426.1,bt426.2.1,bt426.2.2.1,bt426.2.2.2.1,bt426.2.2.2.2))) else(some (0,0,0,0,false)))))=some (r1,r2,r3,r4,r5):=H
      have A9:=Aside0.mk A90
      clear A90
      by_cases c10:t413=true
      · subst c10
        have H1:((spec_l20Long.f k t412).bind fun bt414=>(if bt414.2.2=true then((spec_l20Qty.f k t403 t404 bt414.1 bt414.2.1).bind fun bt417=>(some (bt417.1,bt417.2.1,bt417.2.2.1,bt417.2.2.2.1,bt417.2.2.2.2))) else(some (0,0,0,0,false))))=some (r1,r2,r3,r4,r5):=by rw[if_pos rfl] at H;exact H
        clear H
        have H:=H1
        clear H1
        replace H:=Option.bind_eq_some_iff.mp H
        obtain⟨⟨t414,t415,t416⟩,A110,H⟩:=H
        replace H:(if t416=true then((spec_l20Qty.f k t403 t404 t414 t415).bind fun bt417=>(some (bt417.1,bt417.2.1,bt417.2.2.1,bt417.2.2.2.1,bt417.2.2.2.2))) else(some (0,0,0,0,false)))=some (r1,r2,r3,r4,r5):=H
        have A11:=Aside0.mk A110
        clear A110
        by_cases c12:t416=true
        · subst c12
          have H1:((spec_l20Qty.f k t403 t404 t414 t415).bind fun bt417=>(some (bt417.1,bt417.2.1,bt417.2.2.1,bt417.2.2.2.1,bt417.2.2.2.2)))=some (r1,r2,r3,r4,r5):=by rw[if_pos rfl] at H;exact H
          clear H
          have H:=H1
          clear H1
          replace H:=Option.bind_eq_some_iff.mp H
          obtain⟨⟨t417,t418,t419,t420,t421⟩,A130,H⟩:=H
          replace H:(some (t417,t418,t419,t420,t421))=some (r1,r2,r3,r4,r5):=H
          have A13:=Aside0.mk A130
          clear A130
          simp only[Option.some.injEq,Prod.mk.injEq] at H
          obtain⟨rfl,rfl,rfl,rfl,rfl⟩:=H
          go_enter Tryz.func10,Tryz.ntmps10
          go_wp2_with (first|((with_reducible refine gate_dst (N:=2) rfl ?_);refine box_event ?hg (N:=2) ?hd (cs:= #[.int .i64 0, .int .i64 0, .int .i64 0, .int .i64 0]) (t:=25) ?hr ?_;(case hd=>rfl);(case hg=>rfl);(case hr=>first|(go_simp;done)|(go_simp;rfl));intro gb402 hg w14 hbox hb;have n0_:=Aside0.mk (below_step (by repeat(first|(with_reducible first|exact HB.out|apply below_alloc|apply pw_below_drewN|apply below_drew1)|exact HB.out)) hb);have n1_:=Aside0.mk (hbox);have n2_:=Aside0.mk ((by rw[hg];exact(below_size (by repeat(first|(with_reducible first|exact HB.out|apply below_alloc|apply pw_below_drewN|apply below_drew1)|exact HB.out))):w.heap.size≤gb402));have n3_:=Aside0.mk ((by rw[hg];exact(below_size (by repeat(first|(with_reducible first|exact HB.out|apply below_alloc|apply pw_below_drewN|apply below_drew1)|exact HB.out))):w.heap.size≤gb402));clear HB;have HB:=n0_;have BK402:=n1_;have GW402:=n2_;have GE402:=n3_;clear n0_ n1_ n2_ n3_;clear hb hbox hg)|((with_reducible refine gate_callee (f:=31) rfl ?_);refine goesL_ (some 19) rfl rfl Tryz.func31 (by kernel_rfl) rfl #[.string a0] rfl (by(try simp only[List.map_toArray,List.map_cons,List.map_nil]);first|done|rfl|(simp only[List.length_drop,List.length_take];rfl)) ?_;(with_reducible refine(spec_l20Number.calls k a0 t403 t404 t405 true _ A2.out).mono ?_);rintro e w' ⟨rfl,⟨nd,rfl⟩⟩;refine⟨_,rfl,?_⟩;(try(rw[drewN_self w14];generalize hq_:World.drewN w14 _=w14;have n0_:Aside0 (w14.heap[gb402]? =some (.cells #[.int .i64 0, .int .i64 0, .int .i64 0, .int .i64 0] 25 (0,0))):=⟨by rw[←hq_];exact(by(with_reducible repeat(first|refine blk_drewN ?_ _|refine blk_drew ?_|refine blk_alloc ?_ _));exact BK402.out)⟩;have n1_:Aside0 (Below w.heap.size w w14):=⟨by rw[←hq_];exact(by repeat(first|(with_reducible first|exact HB.out|apply below_alloc|apply pw_below_drewN|apply below_drew1|refine below_set ?_ GE402.out)|exact HB.out))⟩;clear BK402 HB hq_;have BK402:=n0_;have HB:=n1_;clear n0_ n1_)))|((with_reducible refine gate_callee (f:=33) rfl ?_);refine goesL_ (some 36) rfl rfl Tryz.func33 (by kernel_rfl) rfl #[.string t405, .string (⟨#[32]⟩:ByteArray)] rfl (by(try simp only[List.map_toArray,List.map_cons,List.map_nil]);first|done|rfl|(simp only[List.length_drop,List.length_take];rfl)) ?_;(with_reducible refine(spec_l20Begins.calls t405 (⟨#[32]⟩:ByteArray) t412 true _ A9.out).mono ?_);rintro e w' ⟨rfl,⟨nd,rfl⟩⟩;refine⟨_,rfl,?_⟩;(try(rw[drewN_self w14];generalize hq_:World.drewN w14 _=w14;have n0_:Aside0 (w14.heap[gb402]? =some (.cells #[.int .i64 0, .int .i64 0, .int .i64 0, .int .i64 0] 25 (0,0))):=⟨by rw[←hq_];exact(by(with_reducible repeat(first|refine blk_drewN ?_ _|refine blk_drew ?_|refine blk_alloc ?_ _));exact BK402.out)⟩;have n1_:Aside0 (Below w.heap.size w w14):=⟨by rw[←hq_];exact(by repeat(first|(with_reducible first|exact HB.out|apply below_alloc|apply pw_below_drewN|apply below_drew1|refine below_set ?_ GE402.out)|exact HB.out))⟩;clear BK402 HB hq_;have BK402:=n0_;have HB:=n1_;clear n0_ n1_)))|((with_reducible refine gate_callee (f:=34) rfl ?_);refine goesL_ (some 42) rfl rfl Tryz.func34 (by kernel_rfl) rfl #[.string t412] rfl (by(try simp only[List.map_toArray,List.map_cons,List.map_nil]);first|done|rfl|(simp only[List.length_drop,List.length_take];rfl)) ?_;(with_reducible refine(spec_l20Long.calls k t412 t414 t415 true _ A11.out).mono ?_);rintro e w' ⟨rfl,⟨nd,rfl⟩⟩;refine⟨_,rfl,?_⟩;(try(rw[drewN_self w14];generalize hq_:World.drewN w14 _=w14;have n0_:Aside0 (w14.heap[gb402]? =some (.cells #[.int .i64 0, .int .i64 0, .int .i64 0, .int .i64 0] 25 (0,0))):=⟨by rw[←hq_];exact(by(with_reducible repeat(first|refine blk_drewN ?_ _|refine blk_drew ?_|refine blk_alloc ?_ _));exact BK402.out)⟩;have n1_:Aside0 (Below w.heap.size w w14):=⟨by rw[←hq_];exact(by repeat(first|(with_reducible first|exact HB.out|apply below_alloc|apply pw_below_drewN|apply below_drew1|refine below_set ?_ GE402.out)|exact HB.out))⟩;clear BK402 HB hq_;have BK402:=n0_;have HB:=n1_;clear n0_ n1_)))|((with_reducible refine gate_callee (f:=32) rfl ?_);refine goesL_ (some 53) rfl rfl Tryz.func32 (by kernel_rfl) rfl #[.int .i64 t403, .int .i64 t404, .int .i64 t414, .int .i64 t415] rfl (by(try simp only[List.map_toArray,List.map_cons,List.map_nil]);first|done|rfl|(simp only[List.length_drop,List.length_take];rfl)) ?_;(with_reducible refine(spec_l20Qty.calls k t403 t404 t414 t415 t417 t418 t419 t420 t421 _ A13.out).mono ?_);rintro e w15 ⟨rfl,hb⟩;refine⟨_,rfl,?_⟩;have n0_:=Aside0.mk (blk_below (g:=gb402) (o:= .cells #[.int .i64 0, .int .i64 0, .int .i64 0, .int .i64 0] 25 (0,0)) (by(with_reducible repeat(first|refine blk_drewN ?_ _|refine blk_drew ?_|refine blk_alloc ?_ _));exact BK402.out) hb);have n1_:=Aside0.mk (below_step (by repeat(first|(with_reducible first|exact HB.out|apply below_alloc|apply pw_below_drewN|apply below_drew1|refine below_set ?_ GE402.out)|exact HB.out)) hb);clear BK402;clear HB;have BK402:=n0_;have HB:=n1_;clear n0_ n1_;(try clear hb);(try clear hb2);(try clear hk);(try clear hi);have hcz16_0:w15.cell? ⟨gb402,0,none⟩=some (.int .i64 0):=(blk_cell BK402.out 0).trans rfl;have hcz16_1:w15.cell? ⟨gb402,1,none⟩=some (.int .i64 0):=(blk_cell BK402.out 1).trans rfl;have hcz16_2:w15.cell? ⟨gb402,2,none⟩=some (.int .i64 0):=(blk_cell BK402.out 2).trans rfl;have hcz16_3:w15.cell? ⟨gb402,3,none⟩=some (.int .i64 0):=(blk_cell BK402.out 3).trans rfl;have hfz16_0:=blk_frozen BK402.out 0;have hfz16_1:=blk_frozen BK402.out 1;have hfz16_2:=blk_frozen BK402.out 2;have hfz16_3:=blk_frozen BK402.out 3))
          refine bodyPost_ret (results_ct rfl _ _ gb402 25 #[.int .i64 t417, .int .i64 t418, .int .i64 t419, .int .i64 t420] (0,0) _ rfl (by(with_reducible repeat(first|refine blk_drewN ?_ _|refine blk_drew ?_|refine blk_alloc ?_ _));refine blk_put (cs:= #[.int .i64 t417, .int .i64 t418, .int .i64 t419, .int .i64 0]) ?_ 3 _ rfl;(with_reducible repeat(first|refine blk_drewN ?_ _|refine blk_drew ?_|refine blk_alloc ?_ _));refine blk_put (cs:= #[.int .i64 t417, .int .i64 t418, .int .i64 0, .int .i64 0]) ?_ 2 _ rfl;(with_reducible repeat(first|refine blk_drewN ?_ _|refine blk_drew ?_|refine blk_alloc ?_ _));refine blk_put (cs:= #[.int .i64 t417, .int .i64 0, .int .i64 0, .int .i64 0]) ?_ 1 _ rfl;(with_reducible repeat(first|refine blk_drewN ?_ _|refine blk_drew ?_|refine blk_alloc ?_ _));refine blk_put (cs:= #[.int .i64 0, .int .i64 0, .int .i64 0, .int .i64 0]) ?_ 0 _ rfl;(with_reducible repeat(first|refine blk_drewN ?_ _|refine blk_drew ?_|refine blk_alloc ?_ _));exact BK402.out) Tryz.underlying25 rfl (by kernel_rfl)) rfl ?_
          exact⟨by first|rfl|(simp[errW_none,errW_some]<;>rfl)|(simp[*,errW_none,errW_some]<;>rfl),by repeat(first|(with_reducible first|exact HB.out|apply below_alloc|apply pw_below_drewN|apply below_drew1|refine below_set ?_ GE402.out)|exact HB.out)⟩
        · replace c12:=Bool.eq_false_iff.mpr c12
          subst c12
          have H1:(some (0,0,0,0,false))=some (r1,r2,r3,r4,r5):=by rw[if_neg (show ¬(false=true) by decide)] at H;exact H
          clear H
          have H:=H1
          clear H1
          simp only[Option.some.injEq,Prod.mk.injEq] at H
          obtain⟨rfl,rfl,rfl,rfl,rfl⟩:=H
          go_enter Tryz.func10,Tryz.ntmps10
          go_wp2_with (first|((with_reducible refine gate_dst (N:=2) rfl ?_);refine box_event ?hg (N:=2) ?hd (cs:= #[.int .i64 0, .int .i64 0, .int .i64 0, .int .i64 0]) (t:=25) ?hr ?_;(case hd=>rfl);(case hg=>rfl);(case hr=>first|(go_simp;done)|(go_simp;rfl));intro gb402 hg w17 hbox hb;have n0_:=Aside0.mk (below_step (by repeat(first|(with_reducible first|exact HB.out|apply below_alloc|apply pw_below_drewN|apply below_drew1)|exact HB.out)) hb);have n1_:=Aside0.mk (hbox);have n2_:=Aside0.mk ((by rw[hg];exact(below_size (by repeat(first|(with_reducible first|exact HB.out|apply below_alloc|apply pw_below_drewN|apply below_drew1)|exact HB.out))):w.heap.size≤gb402));have n3_:=Aside0.mk ((by rw[hg];exact(below_size (by repeat(first|(with_reducible first|exact HB.out|apply below_alloc|apply pw_below_drewN|apply below_drew1)|exact HB.out))):w.heap.size≤gb402));clear HB;have HB:=n0_;have BK402:=n1_;have GW402:=n2_;have GE402:=n3_;clear n0_ n1_ n2_ n3_;clear hb hbox hg)|((with_reducible refine gate_callee (f:=31) rfl ?_);refine goesL_ (some 19) rfl rfl Tryz.func31 (by kernel_rfl) rfl #[.string a0] rfl (by(try simp only[List.map_toArray,List.map_cons,List.map_nil]);first|done|rfl|(simp only[List.length_drop,List.length_take];rfl)) ?_;(with_reducible refine(spec_l20Number.calls k a0 t403 t404 t405 true _ A2.out).mono ?_);rintro e w' ⟨rfl,⟨nd,rfl⟩⟩;refine⟨_,rfl,?_⟩;(try(rw[drewN_self w17];generalize hq_:World.drewN w17 _=w17;have n0_:Aside0 (w17.heap[gb402]? =some (.cells #[.int .i64 0, .int .i64 0, .int .i64 0, .int .i64 0] 25 (0,0))):=⟨by rw[←hq_];exact(by(with_reducible repeat(first|refine blk_drewN ?_ _|refine blk_drew ?_|refine blk_alloc ?_ _));exact BK402.out)⟩;have n1_:Aside0 (Below w.heap.size w w17):=⟨by rw[←hq_];exact(by repeat(first|(with_reducible first|exact HB.out|apply below_alloc|apply pw_below_drewN|apply below_drew1|refine below_set ?_ GE402.out)|exact HB.out))⟩;clear BK402 HB hq_;have BK402:=n0_;have HB:=n1_;clear n0_ n1_)))|((with_reducible refine gate_callee (f:=33) rfl ?_);refine goesL_ (some 36) rfl rfl Tryz.func33 (by kernel_rfl) rfl #[.string t405, .string (⟨#[32]⟩:ByteArray)] rfl (by(try simp only[List.map_toArray,List.map_cons,List.map_nil]);first|done|rfl|(simp only[List.length_drop,List.length_take];rfl)) ?_;(with_reducible refine(spec_l20Begins.calls t405 (⟨#[32]⟩:ByteArray) t412 true _ A9.out).mono ?_);rintro e w' ⟨rfl,⟨nd,rfl⟩⟩;refine⟨_,rfl,?_⟩;(try(rw[drewN_self w17];generalize hq_:World.drewN w17 _=w17;have n0_:Aside0 (w17.heap[gb402]? =some (.cells #[.int .i64 0, .int .i64 0, .int .i64 0, .int .i64 0] 25 (0,0))):=⟨by rw[←hq_];exact(by(with_reducible repeat(first|refine blk_drewN ?_ _|refine blk_drew ?_|refine blk_alloc ?_ _));exact BK402.out)⟩;have n1_:Aside0 (Below w.heap.size w w17):=⟨by rw[←hq_];exact(by repeat(first|(with_reducible first|exact HB.out|apply below_alloc|apply pw_below_drewN|apply below_drew1|refine below_set ?_ GE402.out)|exact HB.out))⟩;clear BK402 HB hq_;have BK402:=n0_;have HB:=n1_;clear n0_ n1_)))|((with_reducible refine gate_callee (f:=34) rfl ?_);refine goesL_ (some 42) rfl rfl Tryz.func34 (by kernel_rfl) rfl #[.string t412] rfl (by(try simp only[List.map_toArray,List.map_cons,List.map_nil]);first|done|rfl|(simp only[List.length_drop,List.length_take];rfl)) ?_;(with_reducible refine(spec_l20Long.calls k t412 t414 t415 false _ A11.out).mono ?_);rintro e w' ⟨rfl,⟨nd,rfl⟩⟩;refine⟨_,rfl,?_⟩;(try(rw[drewN_self w17];generalize hq_:World.drewN w17 _=w17;have n0_:Aside0 (w17.heap[gb402]? =some (.cells #[.int .i64 0, .int .i64 0, .int .i64 0, .int .i64 0] 25 (0,0))):=⟨by rw[←hq_];exact(by(with_reducible repeat(first|refine blk_drewN ?_ _|refine blk_drew ?_|refine blk_alloc ?_ _));exact BK402.out)⟩;have n1_:Aside0 (Below w.heap.size w w17):=⟨by rw[←hq_];exact(by repeat(first|(with_reducible first|exact HB.out|apply below_alloc|apply pw_below_drewN|apply below_drew1|refine below_set ?_ GE402.out)|exact HB.out))⟩;clear BK402 HB hq_;have BK402:=n0_;have HB:=n1_;clear n0_ n1_));have hcz18_0:w17.cell? ⟨gb402,0,none⟩=some (.int .i64 0):=(blk_cell BK402.out 0).trans rfl;have hcz18_1:w17.cell? ⟨gb402,1,none⟩=some (.int .i64 0):=(blk_cell BK402.out 1).trans rfl;have hcz18_2:w17.cell? ⟨gb402,2,none⟩=some (.int .i64 0):=(blk_cell BK402.out 2).trans rfl;have hcz18_3:w17.cell? ⟨gb402,3,none⟩=some (.int .i64 0):=(blk_cell BK402.out 3).trans rfl;have hfz18_0:=blk_frozen BK402.out 0;have hfz18_1:=blk_frozen BK402.out 1;have hfz18_2:=blk_frozen BK402.out 2;have hfz18_3:=blk_frozen BK402.out 3))
          refine bodyPost_ret (results_ct rfl _ _ gb402 25 #[.int .i64 0, .int .i64 0, .int .i64 0, .int .i64 0] (0,0) _ rfl (by(with_reducible repeat(first|refine blk_drewN ?_ _|refine blk_drew ?_|refine blk_alloc ?_ _));refine blk_put (cs:= #[.int .i64 0, .int .i64 0, .int .i64 0, .int .i64 0]) ?_ 3 _ rfl;(with_reducible repeat(first|refine blk_drewN ?_ _|refine blk_drew ?_|refine blk_alloc ?_ _));refine blk_put (cs:= #[.int .i64 0, .int .i64 0, .int .i64 0, .int .i64 0]) ?_ 2 _ rfl;(with_reducible repeat(first|refine blk_drewN ?_ _|refine blk_drew ?_|refine blk_alloc ?_ _));refine blk_put (cs:= #[.int .i64 0, .int .i64 0, .int .i64 0, .int .i64 0]) ?_ 1 _ rfl;(with_reducible repeat(first|refine blk_drewN ?_ _|refine blk_drew ?_|refine blk_alloc ?_ _));refine blk_put (cs:= #[.int .i64 0, .int .i64 0, .int .i64 0, .int .i64 0]) ?_ 0 _ rfl;(with_reducible repeat(first|refine blk_drewN ?_ _|refine blk_drew ?_|refine blk_alloc ?_ _));exact BK402.out) Tryz.underlying25 rfl (by kernel_rfl)) rfl ?_
          exact⟨by first|rfl|(simp[errW_none,errW_some]<;>rfl)|(simp[*,errW_none,errW_some]<;>rfl),by repeat(first|(with_reducible first|exact HB.out|apply below_alloc|apply pw_below_drewN|apply below_drew1|refine below_set ?_ GE402.out)|exact HB.out)⟩
      · replace c10:=Bool.eq_false_iff.mpr c10
        subst c10
        have H1:((spec_l20Short.f k t405).bind fun bt422=>(if bt422.2.2.2=true then((spec_l20Qty.f k t403 (wrap64 (t404+bt422.1)) bt422.2.1 bt422.2.2.1).bind fun bt426=>(some (bt426.1,bt426.2.1,bt426.2.2.1,bt426.2.2.2.1,bt426.2.2.2.2))) else(some (0,0,0,0,false))))=some (r1,r2,r3,r4,r5):=by rw[if_neg (show ¬(false=true) by decide)] at H;exact H
        clear H
        have H:=H1
        clear H1
        replace H:=Option.bind_eq_some_iff.mp H
        obtain⟨⟨t422,t423,t424,t425⟩,A190,H⟩:=H
        replace H:(if t425=true then((spec_l20Qty.f k t403 (wrap64 (t404+t422)) t423 t424).bind fun bt426=>(some (bt426.1,bt426.2.1,bt426.2.2.1,bt426.2.2.2.1,bt426.2.2.2.2))) else(some (0,0,0,0,false)))=some (r1,r2,r3,r4,r5):=H
        have A19:=Aside0.mk A190
        clear A190
        by_cases c20:t425=true
        · subst c20
          have H1:((spec_l20Qty.f k t403 (wrap64 (t404+t422)) t423 t424).bind fun bt426=>(some (bt426.1,bt426.2.1,bt426.2.2.1,bt426.2.2.2.1,bt426.2.2.2.2)))=some (r1,r2,r3,r4,r5):=by rw[if_pos rfl] at H;exact H
          clear H
          have H:=H1
          clear H1
          replace H:=Option.bind_eq_some_iff.mp H
          obtain⟨⟨t426,t427,t428,t429,t430⟩,A210,H⟩:=H
          replace H:(some (t426,t427,t428,t429,t430))=some (r1,r2,r3,r4,r5):=H
          have A21:=Aside0.mk A210
          clear A210
          simp only[Option.some.injEq,Prod.mk.injEq] at H
          obtain⟨rfl,rfl,rfl,rfl,rfl⟩:=H
          go_enter Tryz.func10,Tryz.ntmps10
          go_wp2_with (first|((with_reducible refine gate_dst (N:=2) rfl ?_);refine box_event ?hg (N:=2) ?hd (cs:= #[.int .i64 0, .int .i64 0, .int .i64 0, .int .i64 0]) (t:=25) ?hr ?_;(case hd=>rfl);(case hg=>rfl);(case hr=>first|(go_simp;done)|(go_simp;rfl));intro gb402 hg w22 hbox hb;have n0_:=Aside0.mk (below_step (by repeat(first|(with_reducible first|exact HB.out|apply below_alloc|apply pw_below_drewN|apply below_drew1)|exact HB.out)) hb);have n1_:=Aside0.mk (hbox);have n2_:=Aside0.mk ((by rw[hg];exact(below_size (by repeat(first|(with_reducible first|exact HB.out|apply below_alloc|apply pw_below_drewN|apply below_drew1)|exact HB.out))):w.heap.size≤gb402));have n3_:=Aside0.mk ((by rw[hg];exact(below_size (by repeat(first|(with_reducible first|exact HB.out|apply below_alloc|apply pw_below_drewN|apply below_drew1)|exact HB.out))):w.heap.size≤gb402));clear HB;have HB:=n0_;have BK402:=n1_;have GW402:=n2_;have GE402:=n3_;clear n0_ n1_ n2_ n3_;clear hb hbox hg)|((with_reducible refine gate_callee (f:=31) rfl ?_);refine goesL_ (some 19) rfl rfl Tryz.func31 (by kernel_rfl) rfl #[.string a0] rfl (by(try simp only[List.map_toArray,List.map_cons,List.map_nil]);first|done|rfl|(simp only[List.length_drop,List.length_take];rfl)) ?_;(with_reducible refine(spec_l20Number.calls k a0 t403 t404 t405 true _ A2.out).mono ?_);rintro e w' ⟨rfl,⟨nd,rfl⟩⟩;refine⟨_,rfl,?_⟩;(try(rw[drewN_self w22];generalize hq_:World.drewN w22 _=w22;have n0_:Aside0 (w22.heap[gb402]? =some (.cells #[.int .i64 0, .int .i64 0, .int .i64 0, .int .i64 0] 25 (0,0))):=⟨by rw[←hq_];exact(by(with_reducible repeat(first|refine blk_drewN ?_ _|refine blk_drew ?_|refine blk_alloc ?_ _));exact BK402.out)⟩;have n1_:Aside0 (Below w.heap.size w w22):=⟨by rw[←hq_];exact(by repeat(first|(with_reducible first|exact HB.out|apply below_alloc|apply pw_below_drewN|apply below_drew1|refine below_set ?_ GE402.out)|exact HB.out))⟩;clear BK402 HB hq_;have BK402:=n0_;have HB:=n1_;clear n0_ n1_)))|((with_reducible refine gate_callee (f:=33) rfl ?_);refine goesL_ (some 36) rfl rfl Tryz.func33 (by kernel_rfl) rfl #[.string t405, .string (⟨#[32]⟩:ByteArray)] rfl (by(try simp only[List.map_toArray,List.map_cons,List.map_nil]);first|done|rfl|(simp only[List.length_drop,List.length_take];rfl)) ?_;(with_reducible refine(spec_l20Begins.calls t405 (⟨#[32]⟩:ByteArray) t412 false _ A9.out).mono ?_);rintro e w' ⟨rfl,⟨nd,rfl⟩⟩;refine⟨_,rfl,?_⟩;(try(rw[drewN_self w22];generalize hq_:World.drewN w22 _=w22;have n0_:Aside0 (w22.heap[gb402]? =some (.cells #[.int .i64 0, .int .i64 0, .int .i64 0, .int .i64 0] 25 (0,0))):=⟨by rw[←hq_];exact(by(with_reducible repeat(first|refine blk_drewN ?_ _|refine blk_drew ?_|refine blk_alloc ?_ _));exact BK402.out)⟩;have n1_:Aside0 (Below w.heap.size w w22):=⟨by rw[←hq_];exact(by repeat(first|(with_reducible first|exact HB.out|apply below_alloc|apply pw_below_drewN|apply below_drew1|refine below_set ?_ GE402.out)|exact HB.out))⟩;clear BK402 HB hq_;have BK402:=n0_;have HB:=n1_;clear n0_ n1_)))|((with_reducible refine gate_callee (f:=35) rfl ?_);refine goesL_ (some 58) rfl rfl Tryz.func35 (by kernel_rfl) rfl #[.string t405] rfl (by(try simp only[List.map_toArray,List.map_cons,List.map_nil]);first|done|rfl|(simp only[List.length_drop,List.length_take];rfl)) ?_;(with_reducible refine(spec_l20Short.calls k t405 t422 t423 t424 true _ A19.out).mono ?_);rintro e w23 ⟨rfl,hb⟩;refine⟨_,rfl,?_⟩;have n0_:=Aside0.mk (blk_below (g:=gb402) (o:= .cells #[.int .i64 0, .int .i64 0, .int .i64 0, .int .i64 0] 25 (0,0)) (by(with_reducible repeat(first|refine blk_drewN ?_ _|refine blk_drew ?_|refine blk_alloc ?_ _));exact BK402.out) hb);have n1_:=Aside0.mk (below_step (by repeat(first|(with_reducible first|exact HB.out|apply below_alloc|apply pw_below_drewN|apply below_drew1|refine below_set ?_ GE402.out)|exact HB.out)) hb);clear BK402;clear HB;have BK402:=n0_;have HB:=n1_;clear n0_ n1_;(try clear hb);(try clear hb2);(try clear hk);(try clear hi))|((with_reducible refine gate_callee (f:=32) rfl ?_);refine goesL_ (some 72) rfl rfl Tryz.func32 (by kernel_rfl) rfl #[.int .i64 t403, .int .i64 (wrap64 (t404+t422)), .int .i64 t423, .int .i64 t424] rfl (by(try simp only[List.map_toArray,List.map_cons,List.map_nil]);first|done|rfl|(simp only[List.length_drop,List.length_take];rfl)) ?_;(with_reducible refine(spec_l20Qty.calls k t403 (wrap64 (t404+t422)) t423 t424 t426 t427 t428 t429 t430 _ A21.out).mono ?_);rintro e w24 ⟨rfl,hb⟩;refine⟨_,rfl,?_⟩;have n0_:=Aside0.mk (blk_below (g:=gb402) (o:= .cells #[.int .i64 0, .int .i64 0, .int .i64 0, .int .i64 0] 25 (0,0)) (by(with_reducible repeat(first|refine blk_drewN ?_ _|refine blk_drew ?_|refine blk_alloc ?_ _));exact BK402.out) hb);have n1_:=Aside0.mk (below_step (by repeat(first|(with_reducible first|exact HB.out|apply below_alloc|apply pw_below_drewN|apply below_drew1|refine below_set ?_ GE402.out)|exact HB.out)) hb);clear BK402;clear HB;have BK402:=n0_;have HB:=n1_;clear n0_ n1_;(try clear hb);(try clear hb2);(try clear hk);(try clear hi);have hcz25_0:w24.cell? ⟨gb402,0,none⟩=some (.int .i64 0):=(blk_cell BK402.out 0).trans rfl;have hcz25_1:w24.cell? ⟨gb402,1,none⟩=some (.int .i64 0):=(blk_cell BK402.out 1).trans rfl;have hcz25_2:w24.cell? ⟨gb402,2,none⟩=some (.int .i64 0):=(blk_cell BK402.out 2).trans rfl;have hcz25_3:w24.cell? ⟨gb402,3,none⟩=some (.int .i64 0):=(blk_cell BK402.out 3).trans rfl;have hfz25_0:=blk_frozen BK402.out 0;have hfz25_1:=blk_frozen BK402.out 1;have hfz25_2:=blk_frozen BK402.out 2;have hfz25_3:=blk_frozen BK402.out 3))
          refine bodyPost_ret (results_ct rfl _ _ gb402 25 #[.int .i64 t426, .int .i64 t427, .int .i64 t428, .int .i64 t429] (0,0) _ rfl (by(with_reducible repeat(first|refine blk_drewN ?_ _|refine blk_drew ?_|refine blk_alloc ?_ _));refine blk_put (cs:= #[.int .i64 t426, .int .i64 t427, .int .i64 t428, .int .i64 0]) ?_ 3 _ rfl;(with_reducible repeat(first|refine blk_drewN ?_ _|refine blk_drew ?_|refine blk_alloc ?_ _));refine blk_put (cs:= #[.int .i64 t426, .int .i64 t427, .int .i64 0, .int .i64 0]) ?_ 2 _ rfl;(with_reducible repeat(first|refine blk_drewN ?_ _|refine blk_drew ?_|refine blk_alloc ?_ _));refine blk_put (cs:= #[.int .i64 t426, .int .i64 0, .int .i64 0, .int .i64 0]) ?_ 1 _ rfl;(with_reducible repeat(first|refine blk_drewN ?_ _|refine blk_drew ?_|refine blk_alloc ?_ _));refine blk_put (cs:= #[.int .i64 0, .int .i64 0, .int .i64 0, .int .i64 0]) ?_ 0 _ rfl;(with_reducible repeat(first|refine blk_drewN ?_ _|refine blk_drew ?_|refine blk_alloc ?_ _));exact BK402.out) Tryz.underlying25 rfl (by kernel_rfl)) rfl ?_
          exact⟨by first|rfl|(simp[errW_none,errW_some]<;>rfl)|(simp[*,errW_none,errW_some]<;>rfl),by repeat(first|(with_reducible first|exact HB.out|apply below_alloc|apply pw_below_drewN|apply below_drew1|refine below_set ?_ GE402.out)|exact HB.out)⟩
        · replace c20:=Bool.eq_false_iff.mpr c20
          subst c20
          have H1:(some (0,0,0,0,false))=some (r1,r2,r3,r4,r5):=by rw[if_neg (show ¬(false=true) by decide)] at H;exact H
          clear H
          have H:=H1
          clear H1
          simp only[Option.some.injEq,Prod.mk.injEq] at H
          obtain⟨rfl,rfl,rfl,rfl,rfl⟩:=H
          go_enter Tryz.func10,Tryz.ntmps10
          go_wp2_with (first|((with_reducible refine gate_dst (N:=2) rfl ?_);refine box_event ?hg (N:=2) ?hd (cs:= #[.int .i64 0, .int .i64 0, .int .i64 0, .int .i64 0]) (t:=25) ?hr ?_;(case hd=>rfl);(case hg=>rfl);(case hr=>first|(go_simp;done)|(go_simp;rfl));intro gb402 hg w26 hbox hb;have n0_:=Aside0.mk (below_step (by repeat(first|(with_reducible first|exact HB.out|apply below_alloc|apply pw_below_drewN|apply below_drew1)|exact HB.out)) hb);have n1_:=Aside0.mk (hbox);have n2_:=Aside0.mk ((by rw[hg];exact(below_size (by repeat(first|(with_reducible first|exact HB.out|apply below_alloc|apply pw_below_drewN|apply below_drew1)|exact HB.out))):w.heap.size≤gb402));have n3_:=Aside0.mk ((by rw[hg];exact(below_size (by repeat(first|(with_reducible first|exact HB.out|apply below_alloc|apply pw_below_drewN|apply below_drew1)|exact HB.out))):w.heap.size≤gb402));clear HB;have HB:=n0_;have BK402:=n1_;have GW402:=n2_;have GE402:=n3_;clear n0_ n1_ n2_ n3_;clear hb hbox hg)|((with_reducible refine gate_callee (f:=31) rfl ?_);refine goesL_ (some 19) rfl rfl Tryz.func31 (by kernel_rfl) rfl #[.string a0] rfl (by(try simp only[List.map_toArray,List.map_cons,List.map_nil]);first|done|rfl|(simp only[List.length_drop,List.length_take];rfl)) ?_;(with_reducible refine(spec_l20Number.calls k a0 t403 t404 t405 true _ A2.out).mono ?_);rintro e w' ⟨rfl,⟨nd,rfl⟩⟩;refine⟨_,rfl,?_⟩;(try(rw[drewN_self w26];generalize hq_:World.drewN w26 _=w26;have n0_:Aside0 (w26.heap[gb402]? =some (.cells #[.int .i64 0, .int .i64 0, .int .i64 0, .int .i64 0] 25 (0,0))):=⟨by rw[←hq_];exact(by(with_reducible repeat(first|refine blk_drewN ?_ _|refine blk_drew ?_|refine blk_alloc ?_ _));exact BK402.out)⟩;have n1_:Aside0 (Below w.heap.size w w26):=⟨by rw[←hq_];exact(by repeat(first|(with_reducible first|exact HB.out|apply below_alloc|apply pw_below_drewN|apply below_drew1|refine below_set ?_ GE402.out)|exact HB.out))⟩;clear BK402 HB hq_;have BK402:=n0_;have HB:=n1_;clear n0_ n1_)))|((with_reducible refine gate_callee (f:=33) rfl ?_);refine goesL_ (some 36) rfl rfl Tryz.func33 (by kernel_rfl) rfl #[.string t405, .string (⟨#[32]⟩:ByteArray)] rfl (by(try simp only[List.map_toArray,List.map_cons,List.map_nil]);first|done|rfl|(simp only[List.length_drop,List.length_take];rfl)) ?_;(with_reducible refine(spec_l20Begins.calls t405 (⟨#[32]⟩:ByteArray) t412 false _ A9.out).mono ?_);rintro e w' ⟨rfl,⟨nd,rfl⟩⟩;refine⟨_,rfl,?_⟩;(try(rw[drewN_self w26];generalize hq_:World.drewN w26 _=w26;have n0_:Aside0 (w26.heap[gb402]? =some (.cells #[.int .i64 0, .int .i64 0, .int .i64 0, .int .i64 0] 25 (0,0))):=⟨by rw[←hq_];exact(by(with_reducible repeat(first|refine blk_drewN ?_ _|refine blk_drew ?_|refine blk_alloc ?_ _));exact BK402.out)⟩;have n1_:Aside0 (Below w.heap.size w w26):=⟨by rw[←hq_];exact(by repeat(first|(with_reducible first|exact HB.out|apply below_alloc|apply pw_below_drewN|apply below_drew1|refine below_set ?_ GE402.out)|exact HB.out))⟩;clear BK402 HB hq_;have BK402:=n0_;have HB:=n1_;clear n0_ n1_)))|((with_reducible refine gate_callee (f:=35) rfl ?_);refine goesL_ (some 58) rfl rfl Tryz.func35 (by kernel_rfl) rfl #[.string t405] rfl (by(try simp only[List.map_toArray,List.map_cons,List.map_nil]);first|done|rfl|(simp only[List.length_drop,List.length_take];rfl)) ?_;(with_reducible refine(spec_l20Short.calls k t405 t422 t423 t424 false _ A19.out).mono ?_);rintro e w27 ⟨rfl,hb⟩;refine⟨_,rfl,?_⟩;have n0_:=Aside0.mk (blk_below (g:=gb402) (o:= .cells #[.int .i64 0, .int .i64 0, .int .i64 0, .int .i64 0] 25 (0,0)) (by(with_reducible repeat(first|refine blk_drewN ?_ _|refine blk_drew ?_|refine blk_alloc ?_ _));exact BK402.out) hb);have n1_:=Aside0.mk (below_step (by repeat(first|(with_reducible first|exact HB.out|apply below_alloc|apply pw_below_drewN|apply below_drew1|refine below_set ?_ GE402.out)|exact HB.out)) hb);clear BK402;clear HB;have BK402:=n0_;have HB:=n1_;clear n0_ n1_;(try clear hb);(try clear hb2);(try clear hk);(try clear hi);have hcz28_0:w27.cell? ⟨gb402,0,none⟩=some (.int .i64 0):=(blk_cell BK402.out 0).trans rfl;have hcz28_1:w27.cell? ⟨gb402,1,none⟩=some (.int .i64 0):=(blk_cell BK402.out 1).trans rfl;have hcz28_2:w27.cell? ⟨gb402,2,none⟩=some (.int .i64 0):=(blk_cell BK402.out 2).trans rfl;have hcz28_3:w27.cell? ⟨gb402,3,none⟩=some (.int .i64 0):=(blk_cell BK402.out 3).trans rfl;have hfz28_0:=blk_frozen BK402.out 0;have hfz28_1:=blk_frozen BK402.out 1;have hfz28_2:=blk_frozen BK402.out 2;have hfz28_3:=blk_frozen BK402.out 3))
          refine bodyPost_ret (results_ct rfl _ _ gb402 25 #[.int .i64 0, .int .i64 0, .int .i64 0, .int .i64 0] (0,0) _ rfl (by(with_reducible repeat(first|refine blk_drewN ?_ _|refine blk_drew ?_|refine blk_alloc ?_ _));refine blk_put (cs:= #[.int .i64 0, .int .i64 0, .int .i64 0, .int .i64 0]) ?_ 3 _ rfl;(with_reducible repeat(first|refine blk_drewN ?_ _|refine blk_drew ?_|refine blk_alloc ?_ _));refine blk_put (cs:= #[.int .i64 0, .int .i64 0, .int .i64 0, .int .i64 0]) ?_ 2 _ rfl;(with_reducible repeat(first|refine blk_drewN ?_ _|refine blk_drew ?_|refine blk_alloc ?_ _));refine blk_put (cs:= #[.int .i64 0, .int .i64 0, .int .i64 0, .int .i64 0]) ?_ 1 _ rfl;(with_reducible repeat(first|refine blk_drewN ?_ _|refine blk_drew ?_|refine blk_alloc ?_ _));refine blk_put (cs:= #[.int .i64 0, .int .i64 0, .int .i64 0, .int .i64 0]) ?_ 0 _ rfl;(with_reducible repeat(first|refine blk_drewN ?_ _|refine blk_drew ?_|refine blk_alloc ?_ _));exact BK402.out) Tryz.underlying25 rfl (by kernel_rfl)) rfl ?_
          exact⟨by first|rfl|(simp[errW_none,errW_some]<;>rfl)|(simp[*,errW_none,errW_some]<;>rfl),by repeat(first|(with_reducible first|exact HB.out|apply below_alloc|apply pw_below_drewN|apply below_drew1|refine below_set ?_ GE402.out)|exact HB.out)⟩
  · replace c3:=Bool.eq_false_iff.mpr c3
    subst c3
    have H1:(some (0,0,0,0,false))=some (r1,r2,r3,r4,r5):=by rw[if_neg (show ¬(false=true) by decide)] at H;exact H
    clear H
    have H:=H1
    clear H1
    simp only[Option.some.injEq,Prod.mk.injEq] at H
    obtain⟨rfl,rfl,rfl,rfl,rfl⟩:=H
    go_enter Tryz.func10,Tryz.ntmps10
    go_wp2_with (first|((with_reducible refine gate_dst (N:=2) rfl ?_);refine box_event ?hg (N:=2) ?hd (cs:= #[.int .i64 0, .int .i64 0, .int .i64 0, .int .i64 0]) (t:=25) ?hr ?_;(case hd=>rfl);(case hg=>rfl);(case hr=>first|(go_simp;done)|(go_simp;rfl));intro gb402 hg w29 hbox hb;have n0_:=Aside0.mk (below_step (by repeat(first|(with_reducible first|exact HB.out|apply below_alloc|apply pw_below_drewN|apply below_drew1)|exact HB.out)) hb);have n1_:=Aside0.mk (hbox);have n2_:=Aside0.mk ((by rw[hg];exact(below_size (by repeat(first|(with_reducible first|exact HB.out|apply below_alloc|apply pw_below_drewN|apply below_drew1)|exact HB.out))):w.heap.size≤gb402));have n3_:=Aside0.mk ((by rw[hg];exact(below_size (by repeat(first|(with_reducible first|exact HB.out|apply below_alloc|apply pw_below_drewN|apply below_drew1)|exact HB.out))):w.heap.size≤gb402));clear HB;have HB:=n0_;have BK402:=n1_;have GW402:=n2_;have GE402:=n3_;clear n0_ n1_ n2_ n3_;clear hb hbox hg)|((with_reducible refine gate_callee (f:=31) rfl ?_);refine goesL_ (some 19) rfl rfl Tryz.func31 (by kernel_rfl) rfl #[.string a0] rfl (by(try simp only[List.map_toArray,List.map_cons,List.map_nil]);first|done|rfl|(simp only[List.length_drop,List.length_take];rfl)) ?_;(with_reducible refine(spec_l20Number.calls k a0 t403 t404 t405 false _ A2.out).mono ?_);rintro e w' ⟨rfl,⟨nd,rfl⟩⟩;refine⟨_,rfl,?_⟩;(try(rw[drewN_self w29];generalize hq_:World.drewN w29 _=w29;have n0_:Aside0 (w29.heap[gb402]? =some (.cells #[.int .i64 0, .int .i64 0, .int .i64 0, .int .i64 0] 25 (0,0))):=⟨by rw[←hq_];exact(by(with_reducible repeat(first|refine blk_drewN ?_ _|refine blk_drew ?_|refine blk_alloc ?_ _));exact BK402.out)⟩;have n1_:Aside0 (Below w.heap.size w w29):=⟨by rw[←hq_];exact(by repeat(first|(with_reducible first|exact HB.out|apply below_alloc|apply pw_below_drewN|apply below_drew1|refine below_set ?_ GE402.out)|exact HB.out))⟩;clear BK402 HB hq_;have BK402:=n0_;have HB:=n1_;clear n0_ n1_));have hcz30_0:w29.cell? ⟨gb402,0,none⟩=some (.int .i64 0):=(blk_cell BK402.out 0).trans rfl;have hcz30_1:w29.cell? ⟨gb402,1,none⟩=some (.int .i64 0):=(blk_cell BK402.out 1).trans rfl;have hcz30_2:w29.cell? ⟨gb402,2,none⟩=some (.int .i64 0):=(blk_cell BK402.out 2).trans rfl;have hcz30_3:w29.cell? ⟨gb402,3,none⟩=some (.int .i64 0):=(blk_cell BK402.out 3).trans rfl;have hfz30_0:=blk_frozen BK402.out 0;have hfz30_1:=blk_frozen BK402.out 1;have hfz30_2:=blk_frozen BK402.out 2;have hfz30_3:=blk_frozen BK402.out 3))
    refine bodyPost_ret (results_ct rfl _ _ gb402 25 #[.int .i64 0, .int .i64 0, .int .i64 0, .int .i64 0] (0,0) _ rfl (by(with_reducible repeat(first|refine blk_drewN ?_ _|refine blk_drew ?_|refine blk_alloc ?_ _));refine blk_put (cs:= #[.int .i64 0, .int .i64 0, .int .i64 0, .int .i64 0]) ?_ 3 _ rfl;(with_reducible repeat(first|refine blk_drewN ?_ _|refine blk_drew ?_|refine blk_alloc ?_ _));refine blk_put (cs:= #[.int .i64 0, .int .i64 0, .int .i64 0, .int .i64 0]) ?_ 2 _ rfl;(with_reducible repeat(first|refine blk_drewN ?_ _|refine blk_drew ?_|refine blk_alloc ?_ _));refine blk_put (cs:= #[.int .i64 0, .int .i64 0, .int .i64 0, .int .i64 0]) ?_ 1 _ rfl;(with_reducible repeat(first|refine blk_drewN ?_ _|refine blk_drew ?_|refine blk_alloc ?_ _));refine blk_put (cs:= #[.int .i64 0, .int .i64 0, .int .i64 0, .int .i64 0]) ?_ 0 _ rfl;(with_reducible repeat(first|refine blk_drewN ?_ _|refine blk_drew ?_|refine blk_alloc ?_ _));exact BK402.out) Tryz.underlying25 rfl (by kernel_rfl)) rfl ?_
    exact⟨by first|rfl|(simp[errW_none,errW_some]<;>rfl)|(simp[*,errW_none,errW_some]<;>rfl),by repeat(first|(with_reducible first|exact HB.out|apply below_alloc|apply pw_below_drewN|apply below_drew1|refine below_set ?_ GE402.out)|exact HB.out)⟩

end Go.Proofs.YtanohnlddaneeaaGreatDoor.PFnQtyBack
