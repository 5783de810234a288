-- Written by a turned copy of the print (see the notes of this repo): plain functions and their walks. Lean checks it.
import Derived.Test.YtanohnlddaneeaaGreatDoorPFnQtyBackx0
import Derived.Test.YtanohnlddaneeaaGreatDoorPFnQtyBackx3
namespace Go.Proofs.YtanohnlddaneeaaGreatDoor.PFnQtyBack
open Go.RowKit Go.Proofs.YtanohnlddaneeaaGreatDoorW.PrintWords Go.Proofs.YtanohnlddaneeaaGreatDoorW.PrintLast Go.Proofs.YtanohnlddaneeaaGreatDoorW.PrintMore
attribute [local go_sem] max2_int min2_int max_two min_two max_three min_three max_four min_four   -- for this text's walks alone
set_option linter.unusedVariables false
set_option linter.unusedSimpArgs false

/-! ### stringslite_CutPrefix: function 52 -/
def stringslite_CutPrefix.f (a0:ByteArray) (a1:ByteArray):Option (ByteArray×Bool):=(stringslite_HasPrefix.f a0 a1).bind fun t249=>(if t249=true then(if 0≤(a1.size:Int) then(if(a1.size:Int)≤(a0.size:Int) then(some (a0.extract ((a1.size:Int):Int).toNat a0.size,true)) else(none)) else(none)) else(some (a0,false)))
set_option maxHeartbeats 8000000 in
set_option maxRecDepth 100000 in
theorem stringslite_CutPrefix.calls (a0:ByteArray) (a1:ByteArray) (r1:ByteArray) (r2:Bool) (w:World) (h:stringslite_CutPrefix.f a0 a1=some (r1,r2)):
    Calls Tryz.prog 52 #[.string a0, .string a1] w fun e w'=>e= .returned (.tuple #[.string r1, .bool r2])∧Drawn0 w w':=by
  have H:((stringslite_HasPrefix.f a0 a1).bind fun t249=>(if t249=true then(if 0≤(a1.size:Int) then(if(a1.size:Int)≤(a0.size:Int) then(some (a0.extract ((a1.size:Int):Int).toNat a0.size,true)) else(none)) else(none)) else(some (a0,false))))=some (r1,r2):=h
  clear h
  replace H:=Option.bind_eq_some_iff.mp H
  obtain⟨t249,A30,H⟩:=H
  replace H:(if t249=true then(if 0≤(a1.size:Int) then(if(a1.size:Int)≤(a0.size:Int) then(some (a0.extract ((a1.size:Int):Int).toNat a0.size,true)) else(none)) else(none)) else(some (a0,false)))=some (r1,r2):=H
  have A3:=Aside0.mk A30
  clear A30
  by_cases c4:t249=true
  · subst c4
    have H1:(if 0≤(a1.size:Int) then(if(a1.size:Int)≤(a0.size:Int) then(some (a0.extract ((a1.size:Int):Int).toNat a0.size,true)) else(none)) else(none))=some (r1,r2):=by rw[if_pos rfl] at H;exact H
    clear H
    have H:=H1
    clear H1
    by_cases c5:0≤(a1.size:Int)
    · rw[if_pos c5] at H
      have c5b0:=eq_true c5
      have c5b1:decide (0≤(a1.size:Int))=true:=decide_eq_true c5
      clear c5
      by_cases c6:(a1.size:Int)≤(a0.size:Int)
      · rw[if_pos c6] at H
        have c6b0:=eq_true c6
        have c6b1:decide ((a1.size:Int)≤(a0.size:Int))=true:=decide_eq_true c6
        clear c6
        simp only[Option.some.injEq,Prod.mk.injEq] at H
        obtain⟨rfl,rfl⟩:=H
        go_enter Tryz.func52,Tryz.ntmps52
        go_wp2_with (first|((with_reducible refine gate_callee (f:=63) rfl ?_);refine goesL_ (some 8) rfl rfl Tryz.func63 (by kernel_rfl) rfl #[.string a0, .string a1] rfl (by(try simp only[List.map_toArray,List.map_cons,List.map_nil]);first|done|rfl|(simp only[List.length_drop,List.length_take];rfl)) ?_;(with_reducible refine(stringslite_HasPrefix.calls a0 a1 true _ A3.out).mono ?_);rintro e w' ⟨rfl,⟨nd,rfl⟩⟩;refine⟨_,rfl,?_⟩))
        go_ret2
        exact⟨by first|rfl|(simp;done)|(simp[*];done),by repeat(first|exact Drawn0.refl _|apply Drawn0.step)⟩
      · rw[if_neg c6] at H
        exact absurd H (by simp)
    · rw[if_neg c5] at H
      exact absurd H (by simp)
  · replace c4:=Bool.eq_false_iff.mpr c4
    subst c4
    have H1:(some (a0,false))=some (r1,r2):=by rw[if_neg (show ¬(false=true) by decide)] at H;exact H
    clear H
    have H:=H1
    clear H1
    simp only[Option.some.injEq,Prod.mk.injEq] at H
    obtain⟨rfl,rfl⟩:=H
    go_enter Tryz.func52,Tryz.ntmps52
    go_wp2_with (first|((with_reducible refine gate_callee (f:=63) rfl ?_);refine goesL_ (some 8) rfl rfl Tryz.func63 (by kernel_rfl) rfl #[.string a0, .string a1] rfl (by(try simp only[List.map_toArray,List.map_cons,List.map_nil]);first|done|rfl|(simp only[List.length_drop,List.length_take];rfl)) ?_;(with_reducible refine(stringslite_HasPrefix.calls a0 a1 false _ A3.out).mono ?_);rintro e w' ⟨rfl,⟨nd,rfl⟩⟩;refine⟨_,rfl,?_⟩))
    go_ret2
    exact⟨by first|rfl|(simp;done)|(simp[*];done),by repeat(first|exact Drawn0.refl _|apply Drawn0.step)⟩

/-! ### strings_CutPrefix: function 22 -/
def strings_CutPrefix.f (a0:ByteArray) (a1:ByteArray):Option (ByteArray×Bool):=(stringslite_CutPrefix.f a0 a1).bind fun bt250=>(some (bt250.1,bt250.2))
set_option maxHeartbeats 8000000 in
set_option maxRecDepth 100000 in
theorem strings_CutPrefix.calls (a0:ByteArray) (a1:ByteArray) (r1:ByteArray) (r2:Bool) (w:World) (h:strings_CutPrefix.f a0 a1=some (r1,r2)):
    Calls Tryz.prog 22 #[.string a0, .string a1] w fun e w'=>e= .returned (.tuple #[.string r1, .bool r2])∧Drawn0 w w':=by
  have H:((stringslite_CutPrefix.f a0 a1).bind fun bt250=>(some (bt250.1,bt250.2)))=some (r1,r2):=h
  clear h
  replace H:=Option.bind_eq_some_iff.mp H
  obtain⟨⟨t250,t251⟩,A30,H⟩:=H
  replace H:(some (t250,t251))=some (r1,r2):=H
  have A3:=Aside0.mk A30
  clear A30
  simp only[Option.some.injEq,Prod.mk.injEq] at H
  obtain⟨rfl,rfl⟩:=H
  go_enter Tryz.func22,Tryz.ntmps22
  go_wp2_with (first|((with_reducible refine gate_callee (f:=52) rfl ?_);refine goesL_ (some 8) rfl rfl Tryz.func52 (by kernel_rfl) rfl #[.string a0, .string a1] rfl (by(try simp only[List.map_toArray,List.map_cons,List.map_nil]);first|done|rfl|(simp only[List.length_drop,List.length_take];rfl)) ?_;(with_reducible refine(stringslite_CutPrefix.calls a0 a1 t250 t251 _ A3.out).mono ?_);rintro e w' ⟨rfl,⟨nd,rfl⟩⟩;refine⟨_,rfl,?_⟩))
  go_ret2
  exact⟨by first|rfl|(simp;done)|(simp[*];done),by repeat(first|exact Drawn0.refl _|apply Drawn0.step)⟩

/-! ### impl_span: function 23 -/
def impl_span.l0:Nat→ByteArray→Int→Option (ByteArray×ByteArray)
  |0,_,_=>none
  |k+1,x0,x4=>if x4<(x0.size:Int) then(if 0≤x4 then(if(bt x0 x4)≥48 then(if(bt x0 x4)≤57 then(impl_span.l0 k x0 (wrap64 (x4+1))) else(if x4≤(x0.size:Int) then(some (x0.extract 0 (x4:Int).toNat,x0.extract (x4:Int).toNat x0.size)) else(none))) else(if x4≤(x0.size:Int) then(some (x0.extract 0 (x4:Int).toNat,x0.extract (x4:Int).toNat x0.size)) else(none))) else(none)) else(if 0≤x4 then(if x4≤(x0.size:Int) then(some (x0.extract 0 (x4:Int).toNat,x0.extract (x4:Int).toNat x0.size)) else(none)) else(none))
def impl_span.f (k:Nat) (a0:ByteArray):Option (ByteArray×ByteArray):=impl_span.l0 k a0 0
theorem impl_span.mono_l:∀k,(∀y0 y1,LeO (impl_span.l0 k y0 y1) (impl_span.l0 (k+1) y0 y1))
  |0=>fun _ _ r h=>by simp[impl_span.l0] at h
  | k +1=>by
    have ih0:=impl_span.mono_l k
    · intro y0 y1
      unfold impl_span.l0
      repeat' first
      |(with_reducible exact ih0 _ _)
      |(with_reducible exact LeO.refl _)
      |(with_reducible exact LeO.none _)
      |(with_reducible refine LeO.ite ?_ ?_)
      |(with_reducible refine LeO.bind ?_ (fun _=> ?_))
      |exact ih0 _ _
      |exact LeO.none _
      |refine LeO.ite ?_ ?_
      |refine LeO.bind ?_ (fun _=> ?_)
theorem impl_span.mono:∀a0 k,LeO (impl_span.f k a0) (impl_span.f (k+1) a0):=by
  intro a0 k
  have ih0:=impl_span.mono_l k
  unfold impl_span.f
  repeat' first
      |(with_reducible exact ih0 _ _)
      |(with_reducible exact LeO.refl _)
      |(with_reducible exact LeO.none _)
      |(with_reducible refine LeO.ite ?_ ?_)
      |(with_reducible refine LeO.bind ?_ (fun _=> ?_))
      |exact ih0 _ _
      |exact LeO.none _
      |refine LeO.ite ?_ ?_
      |refine LeO.bind ?_ (fun _=> ?_)
set_option maxHeartbeats 8000000 in
set_option maxRecDepth 100000 in
theorem impl_span.calls (k:Nat) (a0:ByteArray) (r1:ByteArray) (r2:ByteArray) (w:World) (h:impl_span.f k a0=some (r1,r2)):
    Calls Tryz.prog 23 #[.string a0] w fun e w'=>e= .returned (.tuple #[.string r1, .string r2])∧Drawn0 w w':=by
  have H:(impl_span.l0 k a0 0)=some (r1,r2):=h
  clear h
  have H':=Aside0.mk H
  clear H
  go_enter Tryz.func23,Tryz.ntmps23
  go_wp2
  repeat(go_quiet (fail);try go_wp2)
  (try simp only[Act.put,List.setIfInBounds_toArray,List.set_cons_zero,List.set_cons_succ])
  go_loopg [4] k (fun kq v4 w'=>∃(x4_1:Int),v4= .int .i64 x4_1∧Aside0 (impl_span.l0 kq a0 x4_1=some (r1,r2))∧Aside0 (kq≤k)∧Drawn0 w w')
  case atStart=>exact⟨(0),(by first|rfl|(simp;done)|(simp[*];done)),H',⟨Nat.le_refl _⟩,by repeat(first|exact Drawn0.refl _|apply Drawn0.step)⟩
  case round=>
    clear H'
    obtain⟨x4_1,rfl,HA,HK1,⟨m1,rfl⟩⟩:=hrel
    cases gk with
    |zero=>exact absurd HA.out (by simp[impl_span.l0])
    | succ k1 =>
      have H:=HA.out
      clear HA
      simp only[impl_span.l0] at H
      by_cases c2:x4_1<(a0.size:Int)
      · rw [if_pos c2] at H
        have c2b0:decide (x4_1<(a0.size:Int))=true:=decide_eq_true c2
        clear c2
        by_cases c3:0≤x4_1
        · rw [if_pos c3] at H
          have c3b0:decide (0≤x4_1)=true:=decide_eq_true c3
          clear c3
          by_cases c5:(bt a0 x4_1)≥48
          · rw [if_pos c5] at H
            have c5b0:decide (48≤(bt a0 x4_1))=true:=decide_eq_true c5
            clear c5
            by_cases c7:(bt a0 x4_1)≤57
            · rw[if_pos c7] at H
              have c7b0:decide ((bt a0 x4_1)≤57)=true:=decide_eq_true c7
              clear c7
              have H':=Aside0.mk H
              clear H
              have p4:0≤(x4_1:Int):=of_decide_eq_true (by first|(with_reducible assumption)|assumption)
              have q4:x4_1<(a0.size:Int):=of_decide_eq_true (by first|(with_reducible assumption)|assumption)
              have hx4:=bt_at a0 x4_1
              replace p4:=eq_true p4
              replace q4:=eq_true q4
              have p6:0≤(x4_1:Int):=of_decide_eq_true (by first|(with_reducible assumption)|assumption)
              have q6:x4_1<(a0.size:Int):=of_decide_eq_true (by first|(with_reducible assumption)|assumption)
              have hx6:=bt_at a0 x4_1
              replace p6:=eq_true p6
              replace q6:=eq_true q6
              go_wp2
              repeat(go_quiet (fail);try go_wp2)
              go_roundg k1
              case measure=>have:=HK1.out;omega
              case rel=>exact⟨(wrap64 (x4_1+1)),(by first|rfl|(simp;done)|(simp[*];done)),H',⟨by have:=HK1.out;omega⟩,by repeat(first|exact Drawn0.refl _|apply Drawn0.step)⟩
            · rw[if_neg c7] at H
              have c7b0:decide ((bt a0 x4_1)≤57)=false:=decide_eq_false c7
              clear c7
              have c8b0:=eq_true (of_decide_eq_true (by first|(with_reducible assumption)|assumption):0≤x4_1)
              by_cases c9:x4_1≤(a0.size:Int)
              · rw[if_pos c9] at H
                have c9b0:=eq_true c9
                have c9b1:decide (x4_1≤(a0.size:Int))=true:=decide_eq_true c9
                clear c9
                have c10b0:=eq_true (of_decide_eq_true (by first|(with_reducible assumption)|assumption):0≤x4_1)
                have c11b0:=eq_true (of_decide_eq_true (by first|(with_reducible assumption)|assumption):x4_1≤(a0.size:Int))
                simp only[Option.some.injEq,Prod.mk.injEq] at H
                obtain⟨rfl,rfl⟩:=H
                have p4:0≤(x4_1:Int):=of_decide_eq_true (by first|(with_reducible assumption)|assumption)
                have q4:x4_1<(a0.size:Int):=of_decide_eq_true (by first|(with_reducible assumption)|assumption)
                have hx4:=bt_at a0 x4_1
                replace p4:=eq_true p4
                replace q4:=eq_true q4
                have p6:0≤(x4_1:Int):=of_decide_eq_true (by first|(with_reducible assumption)|assumption)
                have q6:x4_1<(a0.size:Int):=of_decide_eq_true (by first|(with_reducible assumption)|assumption)
                have hx6:=bt_at a0 x4_1
                replace p6:=eq_true p6
                replace q6:=eq_true q6
                go_wp2
                repeat(go_quiet (fail);try go_wp2)
                go_ret2
                exact⟨by first|rfl|(simp;done)|(simp[*];done),by repeat(first|exact Drawn0.refl _|apply Drawn0.step)⟩
              · rw[if_neg c9] at H
                exact absurd H (by simp)
          · rw[if_neg c5] at H
            have c5b0:decide (48≤(bt a0 x4_1))=false:=decide_eq_false c5
            clear c5
            have c12b0:=eq_true (of_decide_eq_true (by first|(with_reducible assumption)|assumption):0≤x4_1)
            by_cases c13:x4_1≤(a0.size:Int)
            · rw[if_pos c13] at H
              have c13b0:=eq_true c13
              have c13b1:decide (x4_1≤(a0.size:Int))=true:=decide_eq_true c13
              clear c13
              have c14b0:=eq_true (of_decide_eq_true (by first|(with_reducible assumption)|assumption):0≤x4_1)
              have c15b0:=eq_true (of_decide_eq_true (by first|(with_reducible assumption)|assumption):x4_1≤(a0.size:Int))
              simp only[Option.some.injEq,Prod.mk.injEq] at H
              obtain⟨rfl,rfl⟩:=H
              have p4:0≤(x4_1:Int):=of_decide_eq_true (by first|(with_reducible assumption)|assumption)
              have q4:x4_1<(a0.size:Int):=of_decide_eq_true (by first|(with_reducible assumption)|assumption)
              have hx4:=bt_at a0 x4_1
              replace p4:=eq_true p4
              replace q4:=eq_true q4
              go_wp2
              repeat(go_quiet (fail);try go_wp2)
              go_ret2
              exact⟨by first|rfl|(simp;done)|(simp[*];done),by repeat(first|exact Drawn0.refl _|apply Drawn0.step)⟩
            · rw[if_neg c13] at H
              exact absurd H (by simp)
        · rw[if_neg c3] at H
          exact absurd H (by simp)
      · rw [if_neg c2] at H
        have c2b0:decide (x4_1<(a0.size:Int))=false:=decide_eq_false c2
        clear c2
        by_cases c16:0≤x4_1
        · rw[if_pos c16] at H
          have c16b0:=eq_true c16
          have c16b1:decide (0≤x4_1)=true:=decide_eq_true c16
          clear c16
          by_cases c17:x4_1≤(a0.size:Int)
          · rw[if_pos c17] at H
            have c17b0:=eq_true c17
            have c17b1:decide (x4_1≤(a0.size:Int))=true:=decide_eq_true c17
            clear c17
            have c18b0:=eq_true (of_decide_eq_true (by first|(with_reducible assumption)|assumption):0≤x4_1)
            have c19b0:=eq_true (of_decide_eq_true (by first|(with_reducible assumption)|assumption):x4_1≤(a0.size:Int))
            simp only[Option.some.injEq,Prod.mk.injEq] at H
            obtain⟨rfl,rfl⟩:=H
            go_wp2
            repeat(go_quiet (fail);try go_wp2)
            go_ret2
            exact⟨by first|rfl|(simp;done)|(simp[*];done),by repeat(first|exact Drawn0.refl _|apply Drawn0.step)⟩
          · rw[if_neg c17] at H
            exact absurd H (by simp)
        · rw[if_neg c16] at H
          exact absurd H (by simp)

/-! ### impl_needless: function 24 -/
def impl_needless.f (a0:ByteArray):Option (Bool):=if a0.toList=([]:List UInt8) then(some true) else(if(a0.size:Int)>1 then(if 0<(a0.size:Int) then(some ((bt a0 0)==48)) else(none)) else(some false))
set_option maxHeartbeats 8000000 in
set_option maxRecDepth 100000 in
theorem impl_needless.calls (a0:ByteArray) (r:Bool) (w:World) (h:impl_needless.f a0=some r):
    Calls Tryz.prog 24 #[.string a0] w fun e w'=>e= .returned (.bool r)∧Drawn0 w w':=by
  have H:(if a0.toList=([]:List UInt8) then(some true) else(if(a0.size:Int)>1 then(if 0<(a0.size:Int) then(some ((bt a0 0)==48)) else(none)) else(some false)))=some r:=h
  clear h
  by_cases c2:a0.toList=([]:List UInt8)
  · rw[if_pos c2] at H
    have c2b0:(a0.toList==([]:List UInt8))=true:=beq_iff_eq.mpr c2
    have c2b1:(a0.toList != ([]:List UInt8))=false:=bne_eq_false_iff_eq.mpr c2
    clear c2
    obtain rfl:=Option.some.inj H
    go_enter Tryz.func24,Tryz.ntmps24
    go_wp2
    go_ret
    exact⟨by first|rfl|(simp;done)|(simp[*];done),by repeat(first|exact Drawn0.refl _|apply Drawn0.step)⟩
  · rw [if_neg c2] at H
    have c2b0:(a0.toList==([]:List UInt8))=false:=beq_eq_false_iff_ne.mpr c2
    have c2b1:(a0.toList != ([]:List UInt8))=true:=bne_iff_ne.mpr c2
    by_cases c3:(a0.size:Int)>1
    · rw[if_pos c3] at H
      have c3b0:decide (1<(a0.size:Int))=true:=decide_eq_true c3
      have c3b1:decide (1<a0.size)=true:=decide_eq_true (by omega)
      clear c3
      by_cases c4:0<(a0.size:Int)
      · rw[if_pos c4] at H
        have c4b0:decide (0<(a0.size:Int))=true:=decide_eq_true c4
        have c4b1:decide (0<a0.size)=true:=decide_eq_true (by omega)
        clear c4
        obtain rfl:=Option.some.inj H
        have p5:0≤(0:Int):=(by omega)
        have q5:0<a0.size:=(by have:(0:Int)<(a0.size:Int):=of_decide_eq_true (by first|(with_reducible assumption)|assumption);omega)
        have hx5:∀h:0<a0.size,((a0[0]'h).toNat:Int)=bt a0 0:=bt_at a0 0
        clear p5
        have qi5:(0<(a0.size:Int))=True:=eq_true (of_decide_eq_true (by first|(with_reducible assumption)|assumption))
        replace q5:=eq_true q5
        go_enter Tryz.func24,Tryz.ntmps24
        go_wp2
        go_ret
        exact⟨by first|rfl|(simp;done)|(simp[*];done),by repeat(first|exact Drawn0.refl _|apply Drawn0.step)⟩
      · rw[if_neg c4] at H
        exact absurd H (by simp)
    · rw[if_neg c3] at H
      have c3b0:decide (1<(a0.size:Int))=false:=decide_eq_false c3
      have c3b1:decide (1<a0.size)=false:=decide_eq_false (by omega)
      clear c3
      obtain rfl:=Option.some.inj H
      go_enter Tryz.func24,Tryz.ntmps24
      go_wp2
      go_ret
      exact⟨by first|rfl|(simp;done)|(simp[*];done),by repeat(first|exact Drawn0.refl _|apply Drawn0.step)⟩

/-! ### strconv_lower: function 96 -/
def strconv_lower.f (a0:Int):Option (Int):=some (Go.bits .or .u8 a0 32)
set_option maxHeartbeats 8000000 in
set_option maxRecDepth 100000 in
theorem strconv_lower.calls (a0:Int) (r:Int) (w:World) (h:strconv_lower.f a0=some r):
    Calls Tryz.prog 96 #[.int .u8 a0] w fun e w'=>e= .returned (.int .u8 r)∧Drawn0 w w':=by
  have H:(some (Go.bits .or .u8 a0 32))=some r:=h
  clear h
  obtain rfl:=Option.some.inj H
  go_enter Tryz.func96,Tryz.ntmps96
  go_wp2
  go_ret
  exact⟨by first|rfl|(simp;done)|(simp[*];done),by repeat(first|exact Drawn0.refl _|apply Drawn0.step)⟩

end Go.Proofs.YtanohnlddaneeaaGreatDoor.PFnQtyBack
