-- Written by a turned copy of the print (see the notes of this repo): plain functions and their walks. Lean checks it.
import Derived.Test.YtanohnlddaneeaaGreatDoorPFnQtyBackx0
import Derived.Test.YtanohnlddaneeaaGreatDoorPFnQtyBackx3
import Derived.Test.YtanohnlddaneeaaGreatDoorPFnQtyBackx7
namespace Go.Proofs.YtanohnlddaneeaaGreatDoor.PFnQtyBack
open Go.RowKit Go.Proofs.YtanohnlddaneeaaGreatDoorW.PrintWords Go.Proofs.YtanohnlddaneeaaGreatDoorW.PrintLast Go.Proofs.YtanohnlddaneeaaGreatDoorW.PrintMore
attribute [local go_sem] max2_int min2_int max_two min_two max_three min_three max_four min_four   -- for this text's walks alone
set_option linter.unusedVariables false
set_option linter.unusedSimpArgs false

-- NOT PRINTED: function 86 (strconv_ParseUint)

-- NOT PRINTED: function 70 (strconv_ParseInt)

-- NOT PRINTED: function 53 (strconv_Atoi_53)

-- NOT PRINTED: function 87 (stringslite_Clone)

-- NOT PRINTED: function 71 (strconv_syntaxError)

-- NOT PRINTED: function 72 (strconv_rangeError)

-- NOT PRINTED: function 88 (errors_New)

-- NOT PRINTED: function 73 (strconv_baseError)

-- NOT PRINTED: function 74 (strconv_bitSizeError)

-- NOT PRINTED: function 54 (strconv_toError)

/-! ### strconv_Atoi_25: function 25 -/
def strconv_Atoi_25.f (s:ByteArray):Option (Int×Option Int):=if s.size≤281474976710656 then(match Lib.atoiAll s.data.toList with| .ok v=>some (v,none)| .range=>some (Lib.atoiSat s.data.toList,some 2)|_=>some (0,some 1)) else none
def atoiNum.f (s:ByteArray):Option (Int×Option Int):=if s.size≤281474976710656 then(match Lib.atoiAll s.data.toList with| .ok v=>some (v,none)|_=>none) else none
theorem strconv_Atoi_25.calls (s:ByteArray) (r1:Int) (r2:Option Int) (w:World) (h:strconv_Atoi_25.f s=some (r1,r2)) (hn:r2=none:=by rfl):
    Calls Tryz.prog 25 #[.string s] w fun e w'=>e= .returned (.tuple #[.int .i64 r1,errW r2])∧Below w.heap.size w w':=by
  subst hn
  unfold strconv_Atoi_25.f at h
  split at h
  · rename_i hs
    cases ha:Lib.atoiAll s.data.toList
    · rename_i v
      rw[ha] at h
      simp only[Option.some.injEq,Prod.mk.injEq,and_true] at h
      subst h
      refine(Tryz.strconv_Atoi_ok s (by omega) v ha w).mono fun e w' h=> ?_
      obtain⟨he,hw⟩:=h
      refine⟨he,?_⟩
      rcases hw with rfl|⟨t,rfl⟩
      · exact Below.refl _ _
      · exact Lib.bytesWorld_below _ _ _
    · rw[ha] at h;simp at h
    · rw[ha] at h;simp at h
  · cases h
theorem atoiNum.calls (s:ByteArray) (r1:Int) (r2:Option Int) (w:World) (h:atoiNum.f s=some (r1,r2)):
    Calls Tryz.prog 25 #[.string s] w fun e w'=>e= .returned (.tuple #[.int .i64 r1,errW r2])∧Below w.heap.size w w':=by
  unfold atoiNum.f at h
  split at h
  · rename_i hs
    cases ha:Lib.atoiAll s.data.toList
    · rename_i v
      rw[ha] at h
      simp only[Option.some.injEq,Prod.mk.injEq] at h
      obtain⟨rfl,rfl⟩:=h
      exact strconv_Atoi_25.calls s v none w (by unfold strconv_Atoi_25.f;rw[if_pos hs,ha])
    · rw[ha] at h;cases h
    · rw[ha] at h;cases h
  · cases h
theorem strconv_Atoi_25.callsE (s:ByteArray) (r1:Int) (q:Int) (w:World) (h:strconv_Atoi_25.f s=some (r1,some q)) (hG_:Gw w:=by first|exact HG.out|exact Gw.below HG.out (by repeat(first|(with_reducible first|exact HB.out|apply below_alloc|apply pw_below_drewN|apply below_drew1)|exact HB.out))):
    Calls Tryz.prog 25 #[.string s] w fun e w'=>∃N,e= .returned (.tuple #[.int .i64 r1, .iface 105 (.pointer (some ⟨N,0,none⟩))])∧Below w.heap.size w w':=by
  unfold strconv_Atoi_25.f at h
  split at h
  · rename_i hs
    obtain⟨t1,p1,h1⟩:=hG_.es
    obtain⟨t2,p2,h2⟩:=hG_.er
    cases ha:Lib.atoiAll s.data.toList
    · rw[ha] at h;simp at h
    · rw[ha] at h
      simp only[Option.some.injEq,Prod.mk.injEq] at h
      obtain⟨rfl,_⟩:=h
      refine(Any.strconv_Atoi_syntax Tryz.laysC172 s hs ha (.iface t1 p1) w h1 (Or.inr ⟨t1,p1,rfl⟩)).mono fun e w' h=> ?_
      obtain⟨N,he,_,_,hb⟩:=h
      exact⟨N,he,hb⟩
    · rw[ha] at h
      simp only[Option.some.injEq,Prod.mk.injEq] at h
      obtain⟨rfl,_⟩:=h
      refine(Tryz.strconv_Atoi_range s hs ha (.iface t2 p2) w h2 (Or.inr ⟨t2,p2,rfl⟩)).mono fun e w' h=> ?_
      obtain⟨N,he,_,_,hb⟩:=h
      exact⟨N,he,hb⟩
  · cases h


-- NOT PRINTED: function 75 (stringslite_Cut)

/-! ### strings_Cut: function 55 -/
def strings_Cut.f (s o:ByteArray):Option (ByteArray×ByteArray×Bool):=if s.size<4294967281 then some (⟨(Lib.cut s.data.toList o.data.toList).1.toArray⟩,⟨(Lib.cut s.data.toList o.data.toList).2.1.toArray⟩,(Lib.cut s.data.toList o.data.toList).2.2) else none
theorem strings_Cut.calls (s o:ByteArray) (r1 r2:ByteArray) (r3:Bool) (w:World) (h:strings_Cut.f s o=some (r1,r2,r3)) (hG_:Gw w:=by first|exact HG.out|exact Gw.below HG.out (by repeat(first|(with_reducible first|exact HB.out|apply below_alloc|apply pw_below_drewN|apply below_drew1)|exact HB.out))):
    Calls Tryz.prog 55 #[.string s, .string o] w fun e w'=>e= .returned (.tuple #[.string r1, .string r2, .bool r3])∧Below w.heap.size w w':=by
  unfold strings_Cut.f at h
  split at h
  · rename_i h0
    simp only[Option.some.injEq,Prod.mk.injEq] at h
    obtain⟨rfl,rfl,rfl⟩:=h
    obtain⟨m,hm⟩:=hG_.mx
    refine(Tryz.strings_Cut s o m w h0 hm).mono fun e w' h=> ?_
    obtain⟨he,n,hw⟩:=h
    subst hw
    exact⟨he,pw_below_drewN (Below.refl _ _) n⟩
  · cases h


/-! ### impl_unitPower: function 56 -/
def impl_unitPower.f (a0:ByteArray):Option (Int×Bool):=if a0.toList=([]:List UInt8) then(some (1,true)) else((strconv_Atoi_25.f a0).bind fun bt267=>(if bt267.2.isNone=true then((strconv_Itoa_14.f bt267.1).bind fun t270=>(if t270.toList=a0.toList then(if bt267.1=0 then(some (bt267.1,false)) else(if bt267.1=1 then(some (bt267.1,false)) else((impl_to.f bt267.1 (-9) 9).bind fun t271=>(some (bt267.1,t271))))) else(some (bt267.1,false)))) else(some (bt267.1,false))))
set_option maxHeartbeats 8000000 in
set_option maxRecDepth 100000 in
theorem impl_unitPower.calls (a0:ByteArray) (r1:Int) (r2:Bool) (w:World) (h:impl_unitPower.f a0=some (r1,r2)) (hG_:Gw w:=by first|exact HG.out|exact Gw.below HG.out (by repeat(first|(with_reducible first|exact HB.out|apply below_alloc|apply pw_below_drewN|apply below_drew1|refine below_set ?_ (Aside0.out (by assumption)))|exact HB.out))):
    Calls Tryz.prog 56 #[.string a0] w fun e w'=>e= .returned (.tuple #[.int .i64 r1, .bool r2])∧Below w.heap.size w w':=by
  have HG:=Aside0.mk hG_
  clear hG_
  have hu46:=Tryz.underlying46
  have hu102:=Tryz.underlying102
  have HB:=Aside0.mk (Below.refl w.heap.size w)
  have H:(if a0.toList=([]:List UInt8) then(some (1,true)) else((strconv_Atoi_25.f a0).bind fun bt267=>(if bt267.2.isNone=true then((strconv_Itoa_14.f bt267.1).bind fun t270=>(if t270.toList=a0.toList then(if bt267.1=0 then(some (bt267.1,false)) else(if bt267.1=1 then(some (bt267.1,false)) else((impl_to.f bt267.1 (-9) 9).bind fun t271=>(some (bt267.1,t271))))) else(some (bt267.1,false)))) else(some (bt267.1,false)))))=some (r1,r2):=h
  clear h
  by_cases c2:a0.toList=([]:List UInt8)
  · rw[if_pos c2] at H
    have c2b0:(a0.toList==([]:List UInt8))=true:=beq_iff_eq.mpr c2
    have c2b1:(a0.toList != ([]:List UInt8))=false:=bne_eq_false_iff_eq.mpr c2
    clear c2
    simp only[Option.some.injEq,Prod.mk.injEq] at H
    obtain⟨rfl,rfl⟩:=H
    go_enter Tryz.func56,Tryz.ntmps56
    go_wp2
    go_ret2
    exact⟨by first|rfl|(simp[errW_none,errW_some]<;>rfl)|(simp[*,errW_none,errW_some]<;>rfl),by repeat(first|(with_reducible first|exact HB.out|apply below_alloc|apply pw_below_drewN|apply below_drew1)|exact HB.out)⟩
  · rw [if_neg c2] at H
    have c2b0:(a0.toList==([]:List UInt8))=false:=beq_eq_false_iff_ne.mpr c2
    have c2b1:(a0.toList != ([]:List UInt8))=true:=bne_iff_ne.mpr c2
    replace H:=Option.bind_eq_some_iff.mp H
    obtain⟨⟨t267,t268⟩,A30,H⟩:=H
    replace H:(if t268.isNone=true then((strconv_Itoa_14.f t267).bind fun t270=>(if t270.toList=a0.toList then(if t267=0 then(some (t267,false)) else(if t267=1 then(some (t267,false)) else((impl_to.f t267 (-9) 9).bind fun t271=>(some (t267,t271))))) else(some (t267,false)))) else(some (t267,false)))=some (r1,r2):=H
    have A3:=Aside0.mk A30
    clear A30
    rcases t268 with _|q269
    · have H1:((strconv_Itoa_14.f t267).bind fun t270=>(if t270.toList=a0.toList then(if t267=0 then(some (t267,false)) else(if t267=1 then(some (t267,false)) else((impl_to.f t267 (-9) 9).bind fun t271=>(some (t267,t271))))) else(some (t267,false))))=some (r1,r2):=by rw[if_pos (show(none:Option Int).isNone=true by rfl)] at H;exact H
      clear H
      have H:=H1
      clear H1
      try simp only[errW_none,errW_some]
      replace H:=Option.bind_eq_some_iff.mp H
      obtain⟨t270,A40,H⟩:=H
      replace H:(if t270.toList=a0.toList then(if t267=0 then(some (t267,false)) else(if t267=1 then(some (t267,false)) else((impl_to.f t267 (-9) 9).bind fun t271=>(some (t267,t271))))) else(some (t267,false)))=some (r1,r2):=H
      have A4:=Aside0.mk A40
      clear A40
      by_cases c5:t270.toList=a0.toList
      · rw [if_pos c5] at H
        have c5b0:(t270.toList==a0.toList)=true:=beq_iff_eq.mpr c5
        have c5b1:(t270.toList != a0.toList)=false:=bne_eq_false_iff_eq.mpr c5
        clear c5
        by_cases c6:t267=0
        · rw[if_pos c6] at H
          have c6b0:(t267==0)=true:=beq_iff_eq.mpr c6
          have c6b1:(t267 != 0)=false:=bne_eq_false_iff_eq.mpr c6
          clear c6
          simp only[Option.some.injEq,Prod.mk.injEq] at H
          obtain⟨rfl,rfl⟩:=H
          go_enter Tryz.func56,Tryz.ntmps56
          go_wp2_with (first|((with_reducible refine gate_callee (f:=25) rfl ?_);refine goesL_ (some 10) rfl rfl Tryz.func25 (by kernel_rfl) rfl #[.string a0] rfl (by(try simp only[List.map_toArray,List.map_cons,List.map_nil]);first|done|rfl|(simp only[List.length_drop,List.length_take];rfl)) ?_;(with_reducible refine(strconv_Atoi_25.calls a0 t267 none _ A3.out).mono ?_);rintro e w7 ⟨rfl,hb⟩;refine⟨_,rfl,?_⟩;have n0_:=Aside0.mk (below_step (by repeat(first|(with_reducible first|exact HB.out|apply below_alloc|apply pw_below_drewN|apply below_drew1)|exact HB.out)) hb);clear HB;have HB:=n0_;clear n0_;(try clear hb);(try clear hb2);(try clear hk);(try clear hi);(try simp only[errW_none,errW_some]))|(go_at_call 14;(with_reducible refine(strconv_Itoa_14.calls t267 t270 _ A4.out).mono ?_);rintro e w8 ⟨rfl,hb⟩;have n0_:=Aside0.mk (below_step (by repeat(first|(with_reducible first|exact HB.out|apply below_alloc|apply pw_below_drewN|apply below_drew1)|exact HB.out)) hb);clear HB;have HB:=n0_;clear n0_;(try clear hb);(try clear hb2);(try clear hk);(try clear hi)))
          go_ret2
          exact⟨by first|rfl|(simp[errW_none,errW_some]<;>rfl)|(simp[*,errW_none,errW_some]<;>rfl),by repeat(first|(with_reducible first|exact HB.out|apply below_alloc|apply pw_below_drewN|apply below_drew1)|exact HB.out)⟩
        · rw[if_neg c6] at H
          have c6b0:(t267==0)=false:=beq_eq_false_iff_ne.mpr c6
          have c6b1:(t267 != 0)=true:=bne_iff_ne.mpr c6
          by_cases c9:t267=1
          · rw[if_pos c9] at H
            have c9b0:(t267==1)=true:=beq_iff_eq.mpr c9
            have c9b1:(t267 != 1)=false:=bne_eq_false_iff_eq.mpr c9
            clear c9
            simp only[Option.some.injEq,Prod.mk.injEq] at H
            obtain⟨rfl,rfl⟩:=H
            go_enter Tryz.func56,Tryz.ntmps56
            go_wp2_with (first|((with_reducible refine gate_callee (f:=25) rfl ?_);refine goesL_ (some 10) rfl rfl Tryz.func25 (by kernel_rfl) rfl #[.string a0] rfl (by(try simp only[List.map_toArray,List.map_cons,List.map_nil]);first|done|rfl|(simp only[List.length_drop,List.length_take];rfl)) ?_;(with_reducible refine(strconv_Atoi_25.calls a0 t267 none _ A3.out).mono ?_);rintro e w10 ⟨rfl,hb⟩;refine⟨_,rfl,?_⟩;have n0_:=Aside0.mk (below_step (by repeat(first|(with_reducible first|exact HB.out|apply below_alloc|apply pw_below_drewN|apply below_drew1)|exact HB.out)) hb);clear HB;have HB:=n0_;clear n0_;(try clear hb);(try clear hb2);(try clear hk);(try clear hi);(try simp only[errW_none,errW_some]))|(go_at_call 14;(with_reducible refine(strconv_Itoa_14.calls t267 t270 _ A4.out).mono ?_);rintro e w11 ⟨rfl,hb⟩;have n0_:=Aside0.mk (below_step (by repeat(first|(with_reducible first|exact HB.out|apply below_alloc|apply pw_below_drewN|apply below_drew1)|exact HB.out)) hb);clear HB;have HB:=n0_;clear n0_;(try clear hb);(try clear hb2);(try clear hk);(try clear hi)))
            go_ret2
            exact⟨by first|rfl|(simp[errW_none,errW_some]<;>rfl)|(simp[*,errW_none,errW_some]<;>rfl),by repeat(first|(with_reducible first|exact HB.out|apply below_alloc|apply pw_below_drewN|apply below_drew1)|exact HB.out)⟩
          · rw[if_neg c9] at H
            have c9b0:(t267==1)=false:=beq_eq_false_iff_ne.mpr c9
            have c9b1:(t267 != 1)=true:=bne_iff_ne.mpr c9
            replace H:=Option.bind_eq_some_iff.mp H
            obtain⟨t271,A120,H⟩:=H
            replace H:(some (t267,t271))=some (r1,r2):=H
            have A12:=Aside0.mk A120
            clear A120
            simp only[Option.some.injEq,Prod.mk.injEq] at H
            obtain⟨rfl,rfl⟩:=H
            go_enter Tryz.func56,Tryz.ntmps56
            go_wp2_with (first|((with_reducible refine gate_callee (f:=25) rfl ?_);refine goesL_ (some 10) rfl rfl Tryz.func25 (by kernel_rfl) rfl #[.string a0] rfl (by(try simp only[List.map_toArray,List.map_cons,List.map_nil]);first|done|rfl|(simp only[List.length_drop,List.length_take];rfl)) ?_;(with_reducible refine(strconv_Atoi_25.calls a0 t267 none _ A3.out).mono ?_);rintro e w13 ⟨rfl,hb⟩;refine⟨_,rfl,?_⟩;have n0_:=Aside0.mk (below_step (by repeat(first|(with_reducible first|exact HB.out|apply below_alloc|apply pw_below_drewN|apply below_drew1)|exact HB.out)) hb);clear HB;have HB:=n0_;clear n0_;(try clear hb);(try clear hb2);(try clear hk);(try clear hi);(try simp only[errW_none,errW_some]))|(go_at_call 14;(with_reducible refine(strconv_Itoa_14.calls t267 t270 _ A4.out).mono ?_);rintro e w14 ⟨rfl,hb⟩;have n0_:=Aside0.mk (below_step (by repeat(first|(with_reducible first|exact HB.out|apply below_alloc|apply pw_below_drewN|apply below_drew1)|exact HB.out)) hb);clear HB;have HB:=n0_;clear n0_;(try clear hb);(try clear hb2);(try clear hk);(try clear hi))|(go_at_call 37;(with_reducible refine(impl_to.calls t267 (-9) 9 t271 _ A12.out).mono ?_);rintro e w' ⟨rfl,⟨nd,rfl⟩⟩))
            go_ret2
            exact⟨by first|rfl|(simp[errW_none,errW_some]<;>rfl)|(simp[*,errW_none,errW_some]<;>rfl),by repeat(first|(with_reducible first|exact HB.out|apply below_alloc|apply pw_below_drewN|apply below_drew1)|exact HB.out)⟩
      · rw[if_neg c5] at H
        have c5b0:(t270.toList==a0.toList)=false:=beq_eq_false_iff_ne.mpr c5
        have c5b1:(t270.toList != a0.toList)=true:=bne_iff_ne.mpr c5
        simp only[Option.some.injEq,Prod.mk.injEq] at H
        obtain⟨rfl,rfl⟩:=H
        go_enter Tryz.func56,Tryz.ntmps56
        go_wp2_with (first|((with_reducible refine gate_callee (f:=25) rfl ?_);refine goesL_ (some 10) rfl rfl Tryz.func25 (by kernel_rfl) rfl #[.string a0] rfl (by(try simp only[List.map_toArray,List.map_cons,List.map_nil]);first|done|rfl|(simp only[List.length_drop,List.length_take];rfl)) ?_;(with_reducible refine(strconv_Atoi_25.calls a0 t267 none _ A3.out).mono ?_);rintro e w15 ⟨rfl,hb⟩;refine⟨_,rfl,?_⟩;have n0_:=Aside0.mk (below_step (by repeat(first|(with_reducible first|exact HB.out|apply below_alloc|apply pw_below_drewN|apply below_drew1)|exact HB.out)) hb);clear HB;have HB:=n0_;clear n0_;(try clear hb);(try clear hb2);(try clear hk);(try clear hi);(try simp only[errW_none,errW_some]))|(go_at_call 14;(with_reducible refine(strconv_Itoa_14.calls t267 t270 _ A4.out).mono ?_);rintro e w16 ⟨rfl,hb⟩;have n0_:=Aside0.mk (below_step (by repeat(first|(with_reducible first|exact HB.out|apply below_alloc|apply pw_below_drewN|apply below_drew1)|exact HB.out)) hb);clear HB;have HB:=n0_;clear n0_;(try clear hb);(try clear hb2);(try clear hk);(try clear hi)))
        go_ret2
        exact⟨by first|rfl|(simp[errW_none,errW_some]<;>rfl)|(simp[*,errW_none,errW_some]<;>rfl),by repeat(first|(with_reducible first|exact HB.out|apply below_alloc|apply pw_below_drewN|apply below_drew1)|exact HB.out)⟩
    · have H1:(some (t267,false))=some (r1,r2):=by rw[if_neg (show ¬(some q269).isNone=true by simp)] at H;exact H
      clear H
      have H:=H1
      clear H1
      try simp only[errW_none,errW_some]
      simp only[Option.some.injEq,Prod.mk.injEq] at H
      obtain⟨rfl,rfl⟩:=H
      go_enter Tryz.func56,Tryz.ntmps56
      go_wp2_with (first|((with_reducible refine gate_callee (f:=25) rfl ?_);refine goesL_ (some 10) rfl rfl Tryz.func25 (by kernel_rfl) rfl #[.string a0] rfl (by(try simp only[List.map_toArray,List.map_cons,List.map_nil]);first|done|rfl|(simp only[List.length_drop,List.length_take];rfl)) ?_;(with_reducible refine(strconv_Atoi_25.callsE a0 t267 q269 _ A3.out).mono ?_);rintro e w17 ⟨N_,rfl,hb⟩;refine⟨_,rfl,?_⟩;have n0_:=Aside0.mk (below_step (by repeat(first|(with_reducible first|exact HB.out|apply below_alloc|apply pw_below_drewN|apply below_drew1)|exact HB.out)) hb);clear HB;have HB:=n0_;clear n0_;(try clear hb);(try clear hb2);(try clear hk);(try clear hi);(try simp only[errW_none,errW_some])))
      go_ret2
      exact⟨by first|rfl|(simp[errW_none,errW_some]<;>rfl)|(simp[*,errW_none,errW_some]<;>rfl),by repeat(first|(with_reducible first|exact HB.out|apply below_alloc|apply pw_below_drewN|apply below_drew1)|exact HB.out)⟩

/-- A state of type 25 at block g of W; what its slices lead to came in by w0. -/
def IsS25 (w0 W:World) (g:Nat) (f0:Int) (f1:Int) (f2:Int) (f3:Int):Prop:=W.heap[g]? =some (.cells #[.int .i64 f0, .int .i64 f1, .int .i64 f2, .int .i64 f3] 25 (0,0))∧w0.heap.size≤g
theorem IsS25.grown {w0 W:World} {g:Nat} {f0:Int} {f1:Int} {f2:Int} {f3:Int} {W1:World} {row:Option Nat} (h:IsS25 w0 W g f0 f1 f2 f3) (hw:W.grownBy W1 row) (hne:some g≠row):IsS25 w0 W1 g f0 f1 f2 f3:=by
  obtain⟨hb,hg⟩:=h
  exact⟨blk_grown hb hw hne,hg⟩
theorem IsS25.own_neN {w0 W:World} {g:Nat} {f0:Int} {f1:Int} {f2:Int} {f3:Int} {α:Type} {d:Kd α} {e:Nat} {base:Nat} {ok:Nat→Prop} {v:Value} {xs:List α} (h:IsS25 w0 W g f0 f1 f2 f3) (ho:Kd.N d e W base ok v xs) (ht:e≠25):some g≠v.ownBlock:=by
  obtain⟨hb,hg⟩:=h
  exact Kd.N_ne ho hb ht
theorem IsS25.fresh {w0 W:World} {g:Nat} {f0:Int} {f1:Int} {f2:Int} {f3:Int} (h:IsS25 w0 W g f0 f1 f2 f3):∀k,W.heap.size≤k→k≠g:=by
  obtain⟨hb,hg⟩:=h
  exact Kd.freshB hb
theorem IsS25.kept {w0 W:World} {g:Nat} {f0:Int} {f1:Int} {f2:Int} {f3:Int} {W1:World} {S:Nat→Prop} (h:IsS25 w0 W g f0 f1 f2 f3) (hk:Kept W W1 S) (hne:¬S g):IsS25 w0 W1 g f0 f1 f2 f3:=by
  obtain⟨hb,hg⟩:=h
  exact⟨blk_kept hb hk hne,hg⟩
theorem IsS25.below {w0 W:World} {g:Nat} {f0:Int} {f1:Int} {f2:Int} {f3:Int} {W1:World} (h:IsS25 w0 W g f0 f1 f2 f3) (hw:Below W.heap.size W W1):IsS25 w0 W1 g f0 f1 f2 f3:=h.grown (grown_of_below hw none) (by simp)
theorem IsS25.alloc {w0 W:World} {g:Nat} {f0:Int} {f1:Int} {f2:Int} {f3:Int} (h:IsS25 w0 W g f0 f1 f2 f3) (o:Obj):IsS25 w0 (W.alloc o) g f0 f1 f2 f3:=h.below (below_alloc (Below.refl _ _) o)
theorem IsS25.drewN {w0 W:World} {g:Nat} {f0:Int} {f1:Int} {f2:Int} {f3:Int} (h:IsS25 w0 W g f0 f1 f2 f3) (m:Nat):IsS25 w0 (W.drewN m) g f0 f1 f2 f3:=h
theorem IsS25.drew {w0 W:World} {g:Nat} {f0:Int} {f1:Int} {f2:Int} {f3:Int} (h:IsS25 w0 W g f0 f1 f2 f3):IsS25 w0 W.drew g f0 f1 f2 f3:=h
theorem IsS25.at_ {w0 W:World} {g:Nat} {f0:Int} {f1:Int} {f2:Int} {f3:Int} {w':World} {m:Nat} (hq:W.drewN m=w') (h:IsS25 w0 W g f0 f1 f2 f3):IsS25 w0 w' g f0 f1 f2 f3:=by subst hq;exact IsS25.drewN h m
theorem IsS25.apart {w0 W:World} {g:Nat} {f0:Int} {f1:Int} {f2:Int} {f3:Int} {α:Type} {d:Kd α} {e:Nat} {base:Nat} {ok:Nat→Prop} {v:Value} {xs:List α} (h:IsS25 w0 W g f0 f1 f2 f3) (ho:d.R e W base ok v xs) (ht:∀q,q∈e::d.E→q≠25):d.R e W base (fun k=>ok k∧k≠g) v xs:=by
  obtain⟨hb,hg⟩:=h
  exact Kd.R_types ho hb ht
theorem IsS25.own_ne {w0 W:World} {g:Nat} {f0:Int} {f1:Int} {f2:Int} {f3:Int} {α:Type} {d:Kd α} {e:Nat} {base:Nat} {ok:Nat→Prop} {v:Value} {xs:List α} (h:IsS25 w0 W g f0 f1 f2 f3) (ho:d.R e W base ok v xs) (ht:e≠25):some g≠v.ownBlock:=by
  obtain⟨hb,hg⟩:=h
  exact Kd.R_ne ho hb ht
theorem IsS25.apartQ {w0 W:World} {g:Nat} {f0:Int} {f1:Int} {f2:Int} {f3:Int} {α:Type} {d:Kd α} {e:Nat} {base:Nat} {ok:Nat→Prop} {v:Value} {xs:List α} (h:IsS25 w0 W g f0 f1 f2 f3) (ho:d.Q e W base ok v xs) (ht:∀q,q∈e::d.E→q≠25):d.Q e W base (fun k=>ok k∧k≠g) v xs:=by
  obtain⟨hb,hg⟩:=h
  exact Kd.Q_types ho hb ht
theorem IsS25.own_neQ {w0 W:World} {g:Nat} {f0:Int} {f1:Int} {f2:Int} {f3:Int} {α:Type} {d:Kd α} {e:Nat} {base:Nat} {ok:Nat→Prop} {v:Value} {xs:List α} (h:IsS25 w0 W g f0 f1 f2 f3) (ho:d.Q e W base ok v xs) (ht:e≠25):some g≠v.ownBlock:=by
  obtain⟨hb,hg⟩:=h
  exact Kd.Q_ne ho hb ht
theorem IsS25.apartS {w0 W:World} {g:Nat} {f0:Int} {f1:Int} {f2:Int} {f3:Int} {α:Type} {d:Kd α} {e:Nat} {base:Nat} {ok:Nat→Prop} {v:Value} {xs:List α} (h:IsS25 w0 W g f0 f1 f2 f3) (ho:d.S e W base ok v xs) (ht:∀q,q∈e::d.E→q≠25):d.S e W base (fun k=>ok k∧k≠g) v xs:=by
  obtain⟨hb,hg⟩:=h
  exact Kd.S_types ho hb ht
theorem IsS25.own_neS {w0 W:World} {g:Nat} {f0:Int} {f1:Int} {f2:Int} {f3:Int} {α:Type} {d:Kd α} {e:Nat} {base:Nat} {ok:Nat→Prop} {v:Value} {xs:List α} (h:IsS25 w0 W g f0 f1 f2 f3) (ho:d.S e W base ok v xs) (ht:e≠25):some g≠v.ownBlock:=by
  obtain⟨hb,hg⟩:=h
  exact Kd.S_ne ho hb ht
theorem IsS25.lt {w0 W:World} {g:Nat} {f0:Int} {f1:Int} {f2:Int} {f3:Int} (h:IsS25 w0 W g f0 f1 f2 f3):g<W.heap.size:=by
  obtain⟨hb,hg⟩:=h
  exact blk_lt hb
theorem IsS25.ge {w0 W:World} {g:Nat} {f0:Int} {f1:Int} {f2:Int} {f3:Int} (h:IsS25 w0 W g f0 f1 f2 f3):w0.heap.size≤g:=by
  obtain⟨hb,hg⟩:=h
  exact hg
theorem IsS25.ne_blk {w0 W:World} {g:Nat} {f0:Int} {f1:Int} {f2:Int} {f3:Int} {a:Nat} {cs:Array Value} {t:TypeId} {fr:Nat×Nat} (h:IsS25 w0 W g f0 f1 f2 f3) (hb2:W.heap[a]? =some (.cells cs t fr)) (ht:t≠25):g≠a:=by
  obtain⟨hb,hg⟩:=h
  rintro rfl
  rw[hb] at hb2
  injection hb2 with hb2
  injection hb2 with _ ht2
  exact ht ht2.symm
theorem IsS25.far {w0 W:World} {g:Nat} {f0:Int} {f1:Int} {f2:Int} {f3:Int} {p:Addr} (h:IsS25 w0 W g f0 f1 f2 f3) (hne:g≠p.block) (u:Value):IsS25 w0 (W.setCell p u) g f0 f1 f2 f3:=by
  obtain⟨hb,hg⟩:=h
  exact⟨blk_far hb hne u,hg⟩
theorem cellS25_0 {W:World} {g:Nat} {f0:Int} {f1:Int} {f2:Int} {f3:Int} (h:W.heap[g]? =some (.cells #[.int .i64 f0, .int .i64 f1, .int .i64 f2, .int .i64 f3] 25 (0,0))):W.cell? ⟨g,0,none⟩=some (.int .i64 f0):=(blk_cell h 0).trans rfl
theorem IsS25.set_0 {w0 W:World} {g:Nat} {f0:Int} {f1:Int} {f2:Int} {f3:Int} (h:IsS25 w0 W g f0 f1 f2 f3) (x:Int):IsS25 w0 (W.setCell ⟨g,0,none⟩ (.int .i64 x)) g x f1 f2 f3:=by
  obtain⟨hb,hg⟩:=h
  exact⟨by simpa using blk_set hb 0 (.int .i64 x),hg⟩
theorem cellS25_1 {W:World} {g:Nat} {f0:Int} {f1:Int} {f2:Int} {f3:Int} (h:W.heap[g]? =some (.cells #[.int .i64 f0, .int .i64 f1, .int .i64 f2, .int .i64 f3] 25 (0,0))):W.cell? ⟨g,1,none⟩=some (.int .i64 f1):=(blk_cell h 1).trans rfl
theorem IsS25.set_1 {w0 W:World} {g:Nat} {f0:Int} {f1:Int} {f2:Int} {f3:Int} (h:IsS25 w0 W g f0 f1 f2 f3) (x:Int):IsS25 w0 (W.setCell ⟨g,1,none⟩ (.int .i64 x)) g f0 x f2 f3:=by
  obtain⟨hb,hg⟩:=h
  exact⟨by simpa using blk_set hb 1 (.int .i64 x),hg⟩
theorem cellS25_2 {W:World} {g:Nat} {f0:Int} {f1:Int} {f2:Int} {f3:Int} (h:W.heap[g]? =some (.cells #[.int .i64 f0, .int .i64 f1, .int .i64 f2, .int .i64 f3] 25 (0,0))):W.cell? ⟨g,2,none⟩=some (.int .i64 f2):=(blk_cell h 2).trans rfl
theorem IsS25.set_2 {w0 W:World} {g:Nat} {f0:Int} {f1:Int} {f2:Int} {f3:Int} (h:IsS25 w0 W g f0 f1 f2 f3) (x:Int):IsS25 w0 (W.setCell ⟨g,2,none⟩ (.int .i64 x)) g f0 f1 x f3:=by
  obtain⟨hb,hg⟩:=h
  exact⟨by simpa using blk_set hb 2 (.int .i64 x),hg⟩
theorem cellS25_3 {W:World} {g:Nat} {f0:Int} {f1:Int} {f2:Int} {f3:Int} (h:W.heap[g]? =some (.cells #[.int .i64 f0, .int .i64 f1, .int .i64 f2, .int .i64 f3] 25 (0,0))):W.cell? ⟨g,3,none⟩=some (.int .i64 f3):=(blk_cell h 3).trans rfl
theorem IsS25.set_3 {w0 W:World} {g:Nat} {f0:Int} {f1:Int} {f2:Int} {f3:Int} (h:IsS25 w0 W g f0 f1 f2 f3) (x:Int):IsS25 w0 (W.setCell ⟨g,3,none⟩ (.int .i64 x)) g f0 f1 f2 x:=by
  obtain⟨hb,hg⟩:=h
  exact⟨by simpa using blk_set hb 3 (.int .i64 x),hg⟩
theorem IsS25.new (w0 W:World) (f0:Int) (f1:Int) (f2:Int) (f3:Int) (hB:Below w0.heap.size w0 W):IsS25 w0 (W.alloc (.cells #[.int .i64 f0, .int .i64 f1, .int .i64 f2, .int .i64 f3] 25)) W.heap.size f0 f1 f2 f3:=⟨by simpa using heap_alloc_new W _,hB.size⟩

/-! ### impl_longUnits: function 26 -/
mutual
def impl_longUnits.j0:Nat→ByteArray→Bool→ByteArray→ByteArray→Bool→Bool→Int→Int→Int→Int→Option (Bool×Int×Int×Int×Int)
  |0,_,_,_,_,_,_,_,_,_,_=>none
  |k+1,x1,x5,x6,x7,x8,x24,x1000,x1001,x1002,x1003=>if x24=true then(impl_longUnits.j1 k x5 x1 true x1000 x1001 x1002 x1003) else((strings_CutPrefix.f x6 (⟨#[86]⟩:ByteArray)).bind fun bt276=>(if bt276.2=true then((impl_unitPower.f bt276.1).bind fun bt278=>(impl_longUnits.j1 k bt278.2 x7 x8 x1000 x1001 bt278.1 x1003)) else(some (false,x1000,x1001,x1002,x1003))))
def impl_longUnits.j1:Nat→Bool→ByteArray→Bool→Int→Int→Int→Int→Option (Bool×Int×Int×Int×Int)
  |0,_,_,_,_,_,_,_=>none
  |k+1,x5,x7,x8,x1000,x1001,x1002,x1003=>if x8=true then((strings_CutPrefix.f x7 (⟨#[115]⟩:ByteArray)).bind fun bt280=>(if bt280.2=true then(if x5=true then((impl_unitPower.f bt280.1).bind fun bt282=>(some (bt282.2,x1000,x1001,x1002,bt282.1))) else(some (false,x1000,x1001,x1002,x1003))) else(some (false,x1000,x1001,x1002,x1003)))) else(some (x5,x1000,x1001,x1002,x1003))
end
def impl_longUnits.f (k:Nat) (s0_0:Int) (s0_1:Int) (s0_2:Int) (s0_3:Int) (a1:ByteArray):Option (Bool×Int×Int×Int×Int):=(strings_Cut.f a1 (⟨#[42]⟩:ByteArray)).bind fun bt272=>(if bt272.2.2=true then(impl_longUnits.j0 k a1 true bt272.1 bt272.2.1 bt272.2.2 false s0_0 s0_1 s0_2 s0_3) else((strings_HasPrefix.f a1 (⟨#[115]⟩:ByteArray)).bind fun t275=>(impl_longUnits.j0 k a1 true bt272.1 bt272.2.1 bt272.2.2 t275 s0_0 s0_1 s0_2 s0_3)))
theorem impl_longUnits.mono_l:∀k,(∀y0 y1 y2 y3 y4 y5 y6 y7 y8 y9,LeO (impl_longUnits.j0 k y0 y1 y2 y3 y4 y5 y6 y7 y8 y9) (impl_longUnits.j0 (k+1) y0 y1 y2 y3 y4 y5 y6 y7 y8 y9))∧(∀y0 y1 y2 y3 y4 y5 y6,LeO (impl_longUnits.j1 k y0 y1 y2 y3 y4 y5 y6) (impl_longUnits.j1 (k+1) y0 y1 y2 y3 y4 y5 y6))
  |0=>⟨fun _ _ _ _ _ _ _ _ _ _ r h=>by simp[impl_longUnits.j0] at h,fun _ _ _ _ _ _ _ r h=>by simp[impl_longUnits.j1] at h⟩
  | k +1=>by
    obtain⟨ih0,ih1⟩:=impl_longUnits.mono_l k
    refine⟨?_,?_⟩
    · intro y0 y1 y2 y3 y4 y5 y6 y7 y8 y9
      unfold impl_longUnits.j0
      repeat' first
      |(with_reducible exact ih0 _ _ _ _ _ _ _ _ _ _)
      |(with_reducible exact ih1 _ _ _ _ _ _ _)
      |(with_reducible exact LeO.refl _)
      |(with_reducible exact LeO.none _)
      |(with_reducible refine LeO.ite ?_ ?_)
      |(with_reducible refine LeO.bind ?_ (fun _=> ?_))
      |exact ih0 _ _ _ _ _ _ _ _ _ _
      |exact ih1 _ _ _ _ _ _ _
      |exact LeO.none _
      |refine LeO.ite ?_ ?_
      |refine LeO.bind ?_ (fun _=> ?_)
    · intro y0 y1 y2 y3 y4 y5 y6
      unfold impl_longUnits.j1
      repeat' first
      |(with_reducible exact ih0 _ _ _ _ _ _ _ _ _ _)
      |(with_reducible exact ih1 _ _ _ _ _ _ _)
      |(with_reducible exact LeO.refl _)
      |(with_reducible exact LeO.none _)
      |(with_reducible refine LeO.ite ?_ ?_)
      |(with_reducible refine LeO.bind ?_ (fun _=> ?_))
      |exact ih0 _ _ _ _ _ _ _ _ _ _
      |exact ih1 _ _ _ _ _ _ _
      |exact LeO.none _
      |refine LeO.ite ?_ ?_
      |refine LeO.bind ?_ (fun _=> ?_)
theorem impl_longUnits.mono:∀a0 a1 a2 a3 a4 k,LeO (impl_longUnits.f k a0 a1 a2 a3 a4) (impl_longUnits.f (k+1) a0 a1 a2 a3 a4):=by
  intro a0 a1 a2 a3 a4 k
  obtain⟨ih0,ih1⟩:=impl_longUnits.mono_l k
  unfold impl_longUnits.f
  repeat' first
      |(with_reducible exact ih0 _ _ _ _ _ _ _ _ _ _)
      |(with_reducible exact ih1 _ _ _ _ _ _ _)
      |(with_reducible exact LeO.refl _)
      |(with_reducible exact LeO.none _)
      |(with_reducible refine LeO.ite ?_ ?_)
      |(with_reducible refine LeO.bind ?_ (fun _=> ?_))
      |exact ih0 _ _ _ _ _ _ _ _ _ _
      |exact ih1 _ _ _ _ _ _ _
      |exact LeO.none _
      |refine LeO.ite ?_ ?_
      |refine LeO.bind ?_ (fun _=> ?_)
set_option maxHeartbeats 8000000 in
set_option maxRecDepth 100000 in
theorem impl_longUnits.calls (k:Nat) (g:Nat) (s0_0:Int) (s0_1:Int) (s0_2:Int) (s0_3:Int) (a1:ByteArray) (r1:Bool) (r2:Int) (r3:Int) (r4:Int) (r5:Int) (w0 w:World) (hI:IsS25 w0 w g s0_0 s0_1 s0_2 s0_3) (hB:Below w0.heap.size w0 w) (h:impl_longUnits.f k s0_0 s0_1 s0_2 s0_3 a1=some (r1,r2,r3,r4,r5)) (hG_:Gw w0:=by first|exact HG.out|exact Gw.below HG.out (by repeat(first|(with_reducible first|exact HB.out|apply below_alloc|apply pw_below_drewN|apply below_drew1|refine below_set ?_ (Aside0.out (by assumption)))|exact HB.out))):
    Calls Tryz.prog 26 #[.pointer (some ⟨g,0,none⟩), .string a1] w fun e w'=>e= .returned (.bool r1)∧IsS25 w0 w' g r2 r3 r4 r5∧Below w0.heap.size w0 w'∧KeepBut w w' g none:=by
  have HG:=Aside0.mk hG_
  clear hG_
  have HI0:=Aside0.mk hI
  have HK:=Aside0.mk (KeepBut.refl w g none)
  have HL:=Aside0.mk hB.size
  clear hI
  have HW0:=Aside0.mk hB.size
  have HB:=Aside0.mk hB
  clear hB
  have H:((strings_Cut.f a1 (⟨#[42]⟩:ByteArray)).bind fun bt272=>(if bt272.2.2=true then(impl_longUnits.j0 k a1 true bt272.1 bt272.2.1 bt272.2.2 false s0_0 s0_1 s0_2 s0_3) else((strings_HasPrefix.f a1 (⟨#[115]⟩:ByteArray)).bind fun t275=>(impl_longUnits.j0 k a1 true bt272.1 bt272.2.1 bt272.2.2 t275 s0_0 s0_1 s0_2 s0_3))))=some (r1,r2,r3,r4,r5):=h
  clear h
  replace H:=Option.bind_eq_some_iff.mp H
  obtain⟨⟨t272,t273,t274⟩,A30,H⟩:=H
  replace H:(if t274=true then(impl_longUnits.j0 k a1 true t272 t273 t274 false s0_0 s0_1 s0_2 s0_3) else((strings_HasPrefix.f a1 (⟨#[115]⟩:ByteArray)).bind fun t275=>(impl_longUnits.j0 k a1 true t272 t273 t274 t275 s0_0 s0_1 s0_2 s0_3)))=some (r1,r2,r3,r4,r5):=H
  have A3:=Aside0.mk A30
  clear A30
  have HC4:=Aside0.mk H
  clear H
  go_enter Tryz.func26,Tryz.ntmps26
  go_upto_region 3 with(first|((with_reducible refine gate_callee (f:=55) rfl ?_);refine goesL_ (some 15) rfl rfl Tryz.func55 (by kernel_rfl) rfl #[.string a1, .string (⟨#[42]⟩:ByteArray)] rfl (by(try simp only[List.map_toArray,List.map_cons,List.map_nil]);first|done|rfl|(simp only[List.length_drop,List.length_take];rfl)) ?_;(with_reducible refine(strings_Cut.calls a1 (⟨#[42]⟩:ByteArray) t272 t273 t274 _ A3.out).mono ?_);rintro e w5 ⟨rfl,hb⟩;refine⟨_,rfl,?_⟩;have n0_:=Aside0.mk (IsS25.below (by repeat(first|(with_reducible first|exact HI0.out|apply IsS25.alloc|apply IsS25.drewN|apply IsS25.drew|apply IsS25.set_0|apply IsS25.set_1|apply IsS25.set_2|apply IsS25.set_3)|exact HI0.out)) hb);have n1_:=Aside0.mk (KeepBut.trans (by repeat(first|(with_reducible first|exact HK.out|apply KeepBut.set_|apply keep_drewN|apply keep_drew|apply keep_alloc)|exact HK.out)) (KeepBut.of_below hb g none) (.inl rfl));have n2_:=Aside0.mk (below_step (by repeat(first|(with_reducible first|exact HB.out|apply below_alloc|apply pw_below_drewN|apply below_drew1|refine below_set ?_ (IsS25.ge HI0.out))|exact HB.out)) hb);clear HI0;clear HK;clear HB;have HI0:=n0_;have HK:=n1_;have HB:=n2_;clear n0_ n1_ n2_;(try clear hb);(try clear hb2);(try clear hk);(try clear hi)))
  (try simp only[Act.put,List.setIfInBounds_toArray,List.set_cons_zero,List.set_cons_succ])
  go_cut [24] (fun v24 wc=>∃(kq:Nat) (x24_3:Bool),v24= .bool x24_3∧Aside0 (impl_longUnits.j0 kq a1 true t272 t273 t274 x24_3 s0_0 s0_1 s0_2 s0_3=some (r1,r2,r3,r4,r5))∧Aside0 (kq≤k)∧Aside0 (IsS25 w0 wc g s0_0 s0_1 s0_2 s0_3)∧Aside0 (KeepBut w wc g none)∧Aside0 (Below w0.heap.size w0 wc))
  case first=>
    have H:=HC4.out
    clear HC4
    by_cases c6:t274=true
    · subst c6
      have H1:(impl_longUnits.j0 k a1 true t272 t273 true false s0_0 s0_1 s0_2 s0_3)=some (r1,r2,r3,r4,r5):=by rw[if_pos rfl] at H;exact H
      clear H
      have H:=H1
      clear H1
      have H':=Aside0.mk H
      clear H
      go_wp2
      go_meet
      case rel=>exact⟨_,(false),(by first|rfl|(simp;done)|(simp[*];done)),H',⟨by first|omega|exact Nat.le_refl _⟩,⟨by repeat(first|(with_reducible first|exact HI0.out|apply IsS25.alloc|apply IsS25.drewN|apply IsS25.drew|apply IsS25.set_0|apply IsS25.set_1|apply IsS25.set_2|apply IsS25.set_3)|exact HI0.out)⟩,⟨by repeat(first|(with_reducible first|exact HK.out|apply KeepBut.set_|apply keep_drewN|apply keep_drew|apply keep_alloc)|exact HK.out)⟩,⟨by repeat(first|(with_reducible first|exact HB.out|apply below_alloc|apply pw_below_drewN|apply below_drew1|refine below_set ?_ (IsS25.ge HI0.out))|exact HB.out)⟩⟩
    · replace c6:=Bool.eq_false_iff.mpr c6
      subst c6
      have H1:((strings_HasPrefix.f a1 (⟨#[115]⟩:ByteArray)).bind fun t275=>(impl_longUnits.j0 k a1 true t272 t273 false t275 s0_0 s0_1 s0_2 s0_3))=some (r1,r2,r3,r4,r5):=by rw[if_neg (show ¬(false=true) by decide)] at H;exact H
      clear H
      have H:=H1
      clear H1
      replace H:=Option.bind_eq_some_iff.mp H
      obtain⟨t275,A70,H⟩:=H
      replace H:(impl_longUnits.j0 k a1 true t272 t273 false t275 s0_0 s0_1 s0_2 s0_3)=some (r1,r2,r3,r4,r5):=H
      have A7:=Aside0.mk A70
      clear A70
      have H':=Aside0.mk H
      clear H
      go_wp2_with (first|(go_at_call 42;(with_reducible refine(strings_HasPrefix.calls a1 (⟨#[115]⟩:ByteArray) t275 _ A7.out).mono ?_);rintro e w' ⟨rfl,⟨nd,rfl⟩⟩))
      go_meet
      case rel=>exact⟨_,(t275),(by first|rfl|(simp;done)|(simp[*];done)),H',⟨by first|omega|exact Nat.le_refl _⟩,⟨by repeat(first|(with_reducible first|exact HI0.out|apply IsS25.alloc|apply IsS25.drewN|apply IsS25.drew|apply IsS25.set_0|apply IsS25.set_1|apply IsS25.set_2|apply IsS25.set_3)|exact HI0.out)⟩,⟨by repeat(first|(with_reducible first|exact HK.out|apply KeepBut.set_|apply keep_drewN|apply keep_drew|apply keep_alloc)|exact HK.out)⟩,⟨by repeat(first|(with_reducible first|exact HB.out|apply below_alloc|apply pw_below_drewN|apply below_drew1|refine below_set ?_ (IsS25.ge HI0.out))|exact HB.out)⟩⟩
  case rest =>
    clear HC4
    try clear c2
    try clear p2
    try clear c5
    try clear c6
    obtain⟨kq,x24_3,rfl,HA,HJ3,HI0,HK,HB⟩:=hcut
    cases kq with
    |zero=>exact absurd HA.out (by simp[impl_longUnits.j0])
    | succ kj3=>
      have H:=HA.out
      clear HA
      simp only[impl_longUnits.j0] at H
      have HC8:=Aside0.mk H
      clear H
      go_upto_if 24 with(fail)
      go_cut [5,7,8] (fun v5 v7 v8 wc=>∃(kq:Nat) (x5_7:Bool) (x7_7:ByteArray) (x8_7:Bool) (x1002_7:Int),v5= .bool x5_7∧v7= .string x7_7∧v8= .bool x8_7∧Aside0 (impl_longUnits.j1 kq x5_7 x7_7 x8_7 s0_0 s0_1 x1002_7 s0_3=some (r1,r2,r3,r4,r5))∧Aside0 (kq≤kj3)∧Aside0 (IsS25 w0 wc g s0_0 s0_1 x1002_7 s0_3)∧Aside0 (KeepBut w wc g none)∧Aside0 (Below w0.heap.size w0 wc))
      case first=>
        have H:=HC8.out
        clear HC8
        by_cases c9:x24_3=true
        · subst c9
          have H1:(impl_longUnits.j1 kj3 true a1 true s0_0 s0_1 s0_2 s0_3)=some (r1,r2,r3,r4,r5):=by rw[if_pos rfl] at H;exact H
          clear H
          have H:=H1
          clear H1
          have H':=Aside0.mk H
          clear H
          go_wp2
          go_meet
          case rel=>exact⟨_,(true),(a1),(true),(s0_2),(by first|rfl|(simp;done)|(simp[*];done)),(by first|rfl|(simp;done)|(simp[*];done)),(by first|rfl|(simp;done)|(simp[*];done)),H',⟨by have:=HJ3.out;first|omega|exact Nat.le_refl _⟩,⟨by repeat(first|(with_reducible first|exact HI0.out|apply IsS25.alloc|apply IsS25.drewN|apply IsS25.drew|apply IsS25.set_0|apply IsS25.set_1|apply IsS25.set_2|apply IsS25.set_3)|exact HI0.out)⟩,⟨by repeat(first|(with_reducible first|exact HK.out|apply KeepBut.set_|apply keep_drewN|apply keep_drew|apply keep_alloc)|exact HK.out)⟩,⟨by repeat(first|(with_reducible first|exact HB.out|apply below_alloc|apply pw_below_drewN|apply below_drew1|refine below_set ?_ (IsS25.ge HI0.out))|exact HB.out)⟩⟩
        · replace c9:=Bool.eq_false_iff.mpr c9
          subst c9
          have H1:((strings_CutPrefix.f t272 (⟨#[86]⟩:ByteArray)).bind fun bt276=>(if bt276.2=true then((impl_unitPower.f bt276.1).bind fun bt278=>(impl_longUnits.j1 kj3 bt278.2 t273 t274 s0_0 s0_1 bt278.1 s0_3)) else(some (false,s0_0,s0_1,s0_2,s0_3))))=some (r1,r2,r3,r4,r5):=by rw[if_neg (show ¬(false=true) by decide)] at H;exact H
          clear H
          have H:=H1
          clear H1
          replace H:=Option.bind_eq_some_iff.mp H
          obtain⟨⟨t276,t277⟩,A100,H⟩:=H
          replace H:(if t277=true then((impl_unitPower.f t276).bind fun bt278=>(impl_longUnits.j1 kj3 bt278.2 t273 t274 s0_0 s0_1 bt278.1 s0_3)) else(some (false,s0_0,s0_1,s0_2,s0_3)))=some (r1,r2,r3,r4,r5):=H
          have A10:=Aside0.mk A100
          clear A100
          by_cases c11:t277=true
          · subst c11
            have H1:((impl_unitPower.f t276).bind fun bt278=>(impl_longUnits.j1 kj3 bt278.2 t273 t274 s0_0 s0_1 bt278.1 s0_3))=some (r1,r2,r3,r4,r5):=by rw[if_pos rfl] at H;exact H
            clear H
            have H:=H1
            clear H1
            replace H:=Option.bind_eq_some_iff.mp H
            obtain⟨⟨t278,t279⟩,A120,H⟩:=H
            replace H:(impl_longUnits.j1 kj3 t279 t273 t274 s0_0 s0_1 t278 s0_3)=some (r1,r2,r3,r4,r5):=H
            have A12:=Aside0.mk A120
            clear A120
            have H':=Aside0.mk H
            clear H
            go_wp2_with (first|((with_reducible refine gate_callee (f:=22) rfl ?_);refine goesL_ (some 28) rfl rfl Tryz.func22 (by kernel_rfl) rfl #[.string t272, .string (⟨#[86]⟩:ByteArray)] rfl (by(try simp only[List.map_toArray,List.map_cons,List.map_nil]);first|done|rfl|(simp only[List.length_drop,List.length_take];rfl)) ?_;(with_reducible refine(strings_CutPrefix.calls t272 (⟨#[86]⟩:ByteArray) t276 true _ A10.out).mono ?_);rintro e w' ⟨rfl,⟨nd,rfl⟩⟩;refine⟨_,rfl,?_⟩;(try(rw[drewN_self wc];generalize hq_:World.drewN wc _=wc;have n0_:Aside0 (IsS25 w0 wc g s0_0 s0_1 s0_2 s0_3):=⟨by rw[←hq_];exact(by repeat(first|(with_reducible first|exact HI0.out|apply IsS25.alloc|apply IsS25.drewN|apply IsS25.drew|apply IsS25.set_0|apply IsS25.set_1|apply IsS25.set_2|apply IsS25.set_3)|exact HI0.out))⟩;have n1_:Aside0 (KeepBut w wc g none):=⟨by rw[←hq_];exact(by repeat(first|(with_reducible first|exact HK.out|apply KeepBut.set_|apply keep_drewN|apply keep_drew|apply keep_alloc)|exact HK.out))⟩;have n2_:Aside0 (Below w0.heap.size w0 wc):=⟨by rw[←hq_];exact(by repeat(first|(with_reducible first|exact HB.out|apply below_alloc|apply pw_below_drewN|apply below_drew1|refine below_set ?_ (IsS25.ge HI0.out))|exact HB.out))⟩;clear HI0 HK HB hq_;have HI0:=n0_;have HK:=n1_;have HB:=n2_;clear n0_ n1_ n2_)))|((with_reducible refine gate_callee (f:=56) rfl ?_);refine goesL_ (some 35) rfl rfl Tryz.func56 (by kernel_rfl) rfl #[.string t276] rfl (by(try simp only[List.map_toArray,List.map_cons,List.map_nil]);first|done|rfl|(simp only[List.length_drop,List.length_take];rfl)) ?_;(with_reducible refine(impl_unitPower.calls t276 t278 t279 _ A12.out).mono ?_);rintro e w13 ⟨rfl,hb⟩;refine⟨_,rfl,?_⟩;have n0_:=Aside0.mk (IsS25.below (by repeat(first|(with_reducible first|exact HI0.out|apply IsS25.alloc|apply IsS25.drewN|apply IsS25.drew|apply IsS25.set_0|apply IsS25.set_1|apply IsS25.set_2|apply IsS25.set_3)|exact HI0.out)) hb);have n1_:=Aside0.mk (KeepBut.trans (by repeat(first|(with_reducible first|exact HK.out|apply KeepBut.set_|apply keep_drewN|apply keep_drew|apply keep_alloc)|exact HK.out)) (KeepBut.of_below hb g none) (.inl rfl));have n2_:=Aside0.mk (below_step (by repeat(first|(with_reducible first|exact HB.out|apply below_alloc|apply pw_below_drewN|apply below_drew1|refine below_set ?_ (IsS25.ge HI0.out))|exact HB.out)) hb);clear HI0;clear HK;clear HB;have HI0:=n0_;have HK:=n1_;have HB:=n2_;clear n0_ n1_ n2_;(try clear hb);(try clear hb2);(try clear hk);(try clear hi);obtain⟨HGz14,hgz14⟩:=HI0.out;have hcz14_0:=cellS25_0 HGz14;have hcz14_1:=cellS25_1 HGz14;have hcz14_2:=cellS25_2 HGz14;have hcz14_3:=cellS25_3 HGz14;have hfz14_0:=blk_frozen HGz14 0;have hfz14_1:=blk_frozen HGz14 1;have hfz14_2:=blk_frozen HGz14 2;have hfz14_3:=blk_frozen HGz14 3;clear HGz14 hgz14))
            go_meet
            case rel=>exact⟨_,(t279),(t273),(t274),(t278),(by first|rfl|(simp;done)|(simp[*];done)),(by first|rfl|(simp;done)|(simp[*];done)),(by first|rfl|(simp;done)|(simp[*];done)),H',⟨by have:=HJ3.out;first|omega|exact Nat.le_refl _⟩,⟨by repeat(first|(with_reducible first|exact HI0.out|apply IsS25.alloc|apply IsS25.drewN|apply IsS25.drew|apply IsS25.set_0|apply IsS25.set_1|apply IsS25.set_2|apply IsS25.set_3)|exact HI0.out)⟩,⟨by repeat(first|(with_reducible first|exact HK.out|apply KeepBut.set_|apply keep_drewN|apply keep_drew|apply keep_alloc)|exact HK.out)⟩,⟨by repeat(first|(with_reducible first|exact HB.out|apply below_alloc|apply pw_below_drewN|apply below_drew1|refine below_set ?_ (IsS25.ge HI0.out))|exact HB.out)⟩⟩
          · replace c11:=Bool.eq_false_iff.mpr c11
            subst c11
            have H1:(some (false,s0_0,s0_1,s0_2,s0_3))=some (r1,r2,r3,r4,r5):=by rw[if_neg (show ¬(false=true) by decide)] at H;exact H
            clear H
            have H:=H1
            clear H1
            simp only[Option.some.injEq,Prod.mk.injEq] at H
            obtain⟨rfl,rfl,rfl,rfl,rfl⟩:=H
            go_wp2_with (first|((with_reducible refine gate_callee (f:=22) rfl ?_);refine goesL_ (some 28) rfl rfl Tryz.func22 (by kernel_rfl) rfl #[.string t272, .string (⟨#[86]⟩:ByteArray)] rfl (by(try simp only[List.map_toArray,List.map_cons,List.map_nil]);first|done|rfl|(simp only[List.length_drop,List.length_take];rfl)) ?_;(with_reducible refine(strings_CutPrefix.calls t272 (⟨#[86]⟩:ByteArray) t276 false _ A10.out).mono ?_);rintro e w' ⟨rfl,⟨nd,rfl⟩⟩;refine⟨_,rfl,?_⟩))
            go_ret
            exact⟨by first|rfl|(simp[errW_none,errW_some]<;>rfl)|(simp[*,errW_none,errW_some]<;>rfl),by repeat(first|(with_reducible first|exact HI0.out|apply IsS25.alloc|apply IsS25.drewN|apply IsS25.drew|apply IsS25.set_0|apply IsS25.set_1|apply IsS25.set_2|apply IsS25.set_3)|exact HI0.out),by repeat(first|(with_reducible first|exact HB.out|apply below_alloc|apply pw_below_drewN|apply below_drew1|refine below_set ?_ (IsS25.ge HI0.out))|exact HB.out),by repeat(first|(with_reducible first|exact HK.out|apply KeepBut.set_|apply keep_drewN|apply keep_drew|apply keep_alloc)|exact HK.out)⟩
      case rest =>
        clear HC8
        try clear c1
        try clear c2
        try clear p2
        try clear c5
        try clear c6
        try clear c9
        try clear c11
        try clear hcz14_0
        try clear hcz14_1
        try clear hcz14_2
        try clear hcz14_3
        try clear hfz14_0
        try clear hfz14_1
        try clear hfz14_2
        try clear hfz14_3
        try clear p2
        obtain⟨kq,x5_7,x7_7,x8_7,x1002_7,rfl,rfl,rfl,HA,HJ7,HI0,HK,HB⟩:=hcut
        cases kq with
        |zero=>exact absurd HA.out (by simp[impl_longUnits.j1])
        | succ kj7=>
          have H:=HA.out
          clear HA
          simp only[impl_longUnits.j1] at H
          by_cases c15:x8_7=true
          · subst c15
            have H1:((strings_CutPrefix.f x7_7 (⟨#[115]⟩:ByteArray)).bind fun bt280=>(if bt280.2=true then(if x5_7=true then((impl_unitPower.f bt280.1).bind fun bt282=>(some (bt282.2,s0_0,s0_1,x1002_7,bt282.1))) else(some (false,s0_0,s0_1,x1002_7,s0_3))) else(some (false,s0_0,s0_1,x1002_7,s0_3))))=some (r1,r2,r3,r4,r5):=by rw[if_pos rfl] at H;exact H
            clear H
            have H:=H1
            clear H1
            replace H:=Option.bind_eq_some_iff.mp H
            obtain⟨⟨t280,t281⟩,A160,H⟩:=H
            replace H:(if t281=true then(if x5_7=true then((impl_unitPower.f t280).bind fun bt282=>(some (bt282.2,s0_0,s0_1,x1002_7,bt282.1))) else(some (false,s0_0,s0_1,x1002_7,s0_3))) else(some (false,s0_0,s0_1,x1002_7,s0_3)))=some (r1,r2,r3,r4,r5):=H
            have A16:=Aside0.mk A160
            clear A160
            by_cases c17:t281=true
            · subst c17
              have H1:(if x5_7=true then((impl_unitPower.f t280).bind fun bt282=>(some (bt282.2,s0_0,s0_1,x1002_7,bt282.1))) else(some (false,s0_0,s0_1,x1002_7,s0_3)))=some (r1,r2,r3,r4,r5):=by rw[if_pos rfl] at H;exact H
              clear H
              have H:=H1
              clear H1
              by_cases c18:x5_7=true
              · subst c18
                have H1:((impl_unitPower.f t280).bind fun bt282=>(some (bt282.2,s0_0,s0_1,x1002_7,bt282.1)))=some (r1,r2,r3,r4,r5):=by rw[if_pos rfl] at H;exact H
                clear H
                have H:=H1
                clear H1
                replace H:=Option.bind_eq_some_iff.mp H
                obtain⟨⟨t282,t283⟩,A190,H⟩:=H
                replace H:(some (t283,s0_0,s0_1,x1002_7,t282))=some (r1,r2,r3,r4,r5):=H
                have A19:=Aside0.mk A190
                clear A190
                simp only[Option.some.injEq,Prod.mk.injEq] at H
                obtain⟨rfl,rfl,rfl,rfl,rfl⟩:=H
                go_wp2_with (first|((with_reducible refine gate_callee (f:=22) rfl ?_);refine goesL_ (some 45) rfl rfl Tryz.func22 (by kernel_rfl) rfl #[.string x7_7, .string (⟨#[115]⟩:ByteArray)] rfl (by(try simp only[List.map_toArray,List.map_cons,List.map_nil]);first|done|rfl|(simp only[List.length_drop,List.length_take];rfl)) ?_;(with_reducible refine(strings_CutPrefix.calls x7_7 (⟨#[115]⟩:ByteArray) t280 true _ A16.out).mono ?_);rintro e w' ⟨rfl,⟨nd,rfl⟩⟩;refine⟨_,rfl,?_⟩;(try(rw[drewN_self wc];generalize hq_:World.drewN wc _=wc;have n0_:Aside0 (IsS25 w0 wc g s0_0 s0_1 x1002_7 s0_3):=⟨by rw[←hq_];exact(by repeat(first|(with_reducible first|exact HI0.out|apply IsS25.alloc|apply IsS25.drewN|apply IsS25.drew|apply IsS25.set_0|apply IsS25.set_1|apply IsS25.set_2|apply IsS25.set_3)|exact HI0.out))⟩;have n1_:Aside0 (KeepBut w wc g none):=⟨by rw[←hq_];exact(by repeat(first|(with_reducible first|exact HK.out|apply KeepBut.set_|apply keep_drewN|apply keep_drew|apply keep_alloc)|exact HK.out))⟩;have n2_:Aside0 (Below w0.heap.size w0 wc):=⟨by rw[←hq_];exact(by repeat(first|(with_reducible first|exact HB.out|apply below_alloc|apply pw_below_drewN|apply below_drew1|refine below_set ?_ (IsS25.ge HI0.out))|exact HB.out))⟩;clear HI0 HK HB hq_;have HI0:=n0_;have HK:=n1_;have HB:=n2_;clear n0_ n1_ n2_)))|((with_reducible refine gate_callee (f:=56) rfl ?_);refine goesL_ (some 57) rfl rfl Tryz.func56 (by kernel_rfl) rfl #[.string t280] rfl (by(try simp only[List.map_toArray,List.map_cons,List.map_nil]);first|done|rfl|(simp only[List.length_drop,List.length_take];rfl)) ?_;(with_reducible refine(impl_unitPower.calls t280 t282 t283 _ A19.out).mono ?_);rintro e w20 ⟨rfl,hb⟩;refine⟨_,rfl,?_⟩;have n0_:=Aside0.mk (IsS25.below (by repeat(first|(with_reducible first|exact HI0.out|apply IsS25.alloc|apply IsS25.drewN|apply IsS25.drew|apply IsS25.set_0|apply IsS25.set_1|apply IsS25.set_2|apply IsS25.set_3)|exact HI0.out)) hb);have n1_:=Aside0.mk (KeepBut.trans (by repeat(first|(with_reducible first|exact HK.out|apply KeepBut.set_|apply keep_drewN|apply keep_drew|apply keep_alloc)|exact HK.out)) (KeepBut.of_below hb g none) (.inl rfl));have n2_:=Aside0.mk (below_step (by repeat(first|(with_reducible first|exact HB.out|apply below_alloc|apply pw_below_drewN|apply below_drew1|refine below_set ?_ (IsS25.ge HI0.out))|exact HB.out)) hb);clear HI0;clear HK;clear HB;have HI0:=n0_;have HK:=n1_;have HB:=n2_;clear n0_ n1_ n2_;(try clear hb);(try clear hb2);(try clear hk);(try clear hi);obtain⟨HGz21,hgz21⟩:=HI0.out;have hcz21_0:=cellS25_0 HGz21;have hcz21_1:=cellS25_1 HGz21;have hcz21_2:=cellS25_2 HGz21;have hcz21_3:=cellS25_3 HGz21;have hfz21_0:=blk_frozen HGz21 0;have hfz21_1:=blk_frozen HGz21 1;have hfz21_2:=blk_frozen HGz21 2;have hfz21_3:=blk_frozen HGz21 3;clear HGz21 hgz21))
                go_ret
                exact⟨by first|rfl|(simp[errW_none,errW_some]<;>rfl)|(simp[*,errW_none,errW_some]<;>rfl),by repeat(first|(with_reducible first|exact HI0.out|apply IsS25.alloc|apply IsS25.drewN|apply IsS25.drew|apply IsS25.set_0|apply IsS25.set_1|apply IsS25.set_2|apply IsS25.set_3)|exact HI0.out),by repeat(first|(with_reducible first|exact HB.out|apply below_alloc|apply pw_below_drewN|apply below_drew1|refine below_set ?_ (IsS25.ge HI0.out))|exact HB.out),by repeat(first|(with_reducible first|exact HK.out|apply KeepBut.set_|apply keep_drewN|apply keep_drew|apply keep_alloc)|exact HK.out)⟩
              · replace c18:=Bool.eq_false_iff.mpr c18
                subst c18
                have H1:(some (false,s0_0,s0_1,x1002_7,s0_3))=some (r1,r2,r3,r4,r5):=by rw[if_neg (show ¬(false=true) by decide)] at H;exact H
                clear H
                have H:=H1
                clear H1
                simp only[Option.some.injEq,Prod.mk.injEq] at H
                obtain⟨rfl,rfl,rfl,rfl,rfl⟩:=H
                go_wp2_with (first|((with_reducible refine gate_callee (f:=22) rfl ?_);refine goesL_ (some 45) rfl rfl Tryz.func22 (by kernel_rfl) rfl #[.string x7_7, .string (⟨#[115]⟩:ByteArray)] rfl (by(try simp only[List.map_toArray,List.map_cons,List.map_nil]);first|done|rfl|(simp only[List.length_drop,List.length_take];rfl)) ?_;(with_reducible refine(strings_CutPrefix.calls x7_7 (⟨#[115]⟩:ByteArray) t280 true _ A16.out).mono ?_);rintro e w' ⟨rfl,⟨nd,rfl⟩⟩;refine⟨_,rfl,?_⟩))
                go_ret
                exact⟨by first|rfl|(simp[errW_none,errW_some]<;>rfl)|(simp[*,errW_none,errW_some]<;>rfl),by repeat(first|(with_reducible first|exact HI0.out|apply IsS25.alloc|apply IsS25.drewN|apply IsS25.drew|apply IsS25.set_0|apply IsS25.set_1|apply IsS25.set_2|apply IsS25.set_3)|exact HI0.out),by repeat(first|(with_reducible first|exact HB.out|apply below_alloc|apply pw_below_drewN|apply below_drew1|refine below_set ?_ (IsS25.ge HI0.out))|exact HB.out),by repeat(first|(with_reducible first|exact HK.out|apply KeepBut.set_|apply keep_drewN|apply keep_drew|apply keep_alloc)|exact HK.out)⟩
            · replace c17:=Bool.eq_false_iff.mpr c17
              subst c17
              have H1:(some (false,s0_0,s0_1,x1002_7,s0_3))=some (r1,r2,r3,r4,r5):=by rw[if_neg (show ¬(false=true) by decide)] at H;exact H
              clear H
              have H:=H1
              clear H1
              simp only[Option.some.injEq,Prod.mk.injEq] at H
              obtain⟨rfl,rfl,rfl,rfl,rfl⟩:=H
              go_wp2_with (first|((with_reducible refine gate_callee (f:=22) rfl ?_);refine goesL_ (some 45) rfl rfl Tryz.func22 (by kernel_rfl) rfl #[.string x7_7, .string (⟨#[115]⟩:ByteArray)] rfl (by(try simp only[List.map_toArray,List.map_cons,List.map_nil]);first|done|rfl|(simp only[List.length_drop,List.length_take];rfl)) ?_;(with_reducible refine(strings_CutPrefix.calls x7_7 (⟨#[115]⟩:ByteArray) t280 false _ A16.out).mono ?_);rintro e w' ⟨rfl,⟨nd,rfl⟩⟩;refine⟨_,rfl,?_⟩))
              go_ret
              exact⟨by first|rfl|(simp[errW_none,errW_some]<;>rfl)|(simp[*,errW_none,errW_some]<;>rfl),by repeat(first|(with_reducible first|exact HI0.out|apply IsS25.alloc|apply IsS25.drewN|apply IsS25.drew|apply IsS25.set_0|apply IsS25.set_1|apply IsS25.set_2|apply IsS25.set_3)|exact HI0.out),by repeat(first|(with_reducible first|exact HB.out|apply below_alloc|apply pw_below_drewN|apply below_drew1|refine below_set ?_ (IsS25.ge HI0.out))|exact HB.out),by repeat(first|(with_reducible first|exact HK.out|apply KeepBut.set_|apply keep_drewN|apply keep_drew|apply keep_alloc)|exact HK.out)⟩
          · replace c15:=Bool.eq_false_iff.mpr c15
            subst c15
            have H1:(some (x5_7,s0_0,s0_1,x1002_7,s0_3))=some (r1,r2,r3,r4,r5):=by rw[if_neg (show ¬(false=true) by decide)] at H;exact H
            clear H
            have H:=H1
            clear H1
            simp only[Option.some.injEq,Prod.mk.injEq] at H
            obtain⟨rfl,rfl,rfl,rfl,rfl⟩:=H
            go_wp2
            go_ret
            exact⟨by first|rfl|(simp[errW_none,errW_some]<;>rfl)|(simp[*,errW_none,errW_some]<;>rfl),by repeat(first|(with_reducible first|exact HI0.out|apply IsS25.alloc|apply IsS25.drewN|apply IsS25.drew|apply IsS25.set_0|apply IsS25.set_1|apply IsS25.set_2|apply IsS25.set_3)|exact HI0.out),by repeat(first|(with_reducible first|exact HB.out|apply below_alloc|apply pw_below_drewN|apply below_drew1|refine below_set ?_ (IsS25.ge HI0.out))|exact HB.out),by repeat(first|(with_reducible first|exact HK.out|apply KeepBut.set_|apply keep_drewN|apply keep_drew|apply keep_alloc)|exact HK.out)⟩

/-! ### impl_shortUnit: function 27 -/
mutual
def impl_shortUnit.j0:Nat→ByteArray→Int→Int→Bool→Int→Int→Int→Int→Option (Bool×Int×Int×Int×Int)
  |0,_,_,_,_,_,_,_,_=>none
  |k+1,x1,x6,x7,x28,x1000,x1001,x1002,x1003=>if x28=true then(if 0≤x6 then(if x6≤(x1.size:Int) then(impl_shortUnit.j1 k (x1.extract (x6:Int).toNat x1.size) x1000 (wrap64 (x1001+x7)) x1002 x1003) else(none)) else(none)) else(impl_shortUnit.j1 k x1 x1000 x1001 x1002 x1003)
def impl_shortUnit.j1:Nat→ByteArray→Int→Int→Int→Int→Option (Bool×Int×Int×Int×Int)
  |0,_,_,_,_,_=>none
  |k+1,x1,x1000,x1001,x1002,x1003=>if x1.toList=([86]:List UInt8) then(some (true,x1000,x1001,1,x1003)) else(if x1.toList=([115]:List UInt8) then(some (true,x1000,x1001,x1002,1)) else(if x1.toList=([72,122]:List UInt8) then(some (true,x1000,x1001,x1002,(-1))) else(some (false,x1000,x1001,x1002,x1003))))
end
def impl_shortUnit.f (k:Nat) (s0_0:Int) (s0_1:Int) (s0_2:Int) (s0_3:Int) (a1:ByteArray):Option (Bool×Int×Int×Int×Int):=(utf8_DecodeRuneInString.f a1).bind fun bt284=>((strconv_log10Pow2.f bt284.1).bind fun bt286=>(if bt286.2=true then(if bt284.2>0 then(impl_shortUnit.j0 k a1 bt284.2 bt286.1 (bt284.1 != 65533) s0_0 s0_1 s0_2 s0_3) else(impl_shortUnit.j0 k a1 bt284.2 bt286.1 false s0_0 s0_1 s0_2 s0_3)) else(impl_shortUnit.j0 k a1 bt284.2 bt286.1 false s0_0 s0_1 s0_2 s0_3)))
theorem impl_shortUnit.mono_l:∀k,(∀y0 y1 y2 y3 y4 y5 y6 y7,LeO (impl_shortUnit.j0 k y0 y1 y2 y3 y4 y5 y6 y7) (impl_shortUnit.j0 (k+1) y0 y1 y2 y3 y4 y5 y6 y7))∧(∀y0 y1 y2 y3 y4,LeO (impl_shortUnit.j1 k y0 y1 y2 y3 y4) (impl_shortUnit.j1 (k+1) y0 y1 y2 y3 y4))
  |0=>⟨fun _ _ _ _ _ _ _ _ r h=>by simp[impl_shortUnit.j0] at h,fun _ _ _ _ _ r h=>by simp[impl_shortUnit.j1] at h⟩
  | k +1=>by
    obtain⟨ih0,ih1⟩:=impl_shortUnit.mono_l k
    refine⟨?_,?_⟩
    · intro y0 y1 y2 y3 y4 y5 y6 y7
      unfold impl_shortUnit.j0
      repeat' first
      |(with_reducible exact ih0 _ _ _ _ _ _ _ _)
      |(with_reducible exact ih1 _ _ _ _ _)
      |(with_reducible exact LeO.refl _)
      |(with_reducible exact LeO.none _)
      |(with_reducible refine LeO.ite ?_ ?_)
      |(with_reducible refine LeO.bind ?_ (fun _=> ?_))
      |exact ih0 _ _ _ _ _ _ _ _
      |exact ih1 _ _ _ _ _
      |exact LeO.none _
      |refine LeO.ite ?_ ?_
      |refine LeO.bind ?_ (fun _=> ?_)
    · intro y0 y1 y2 y3 y4
      unfold impl_shortUnit.j1
      repeat' first
      |(with_reducible exact ih0 _ _ _ _ _ _ _ _)
      |(with_reducible exact ih1 _ _ _ _ _)
      |(with_reducible exact LeO.refl _)
      |(with_reducible exact LeO.none _)
      |(with_reducible refine LeO.ite ?_ ?_)
      |(with_reducible refine LeO.bind ?_ (fun _=> ?_))
      |exact ih0 _ _ _ _ _ _ _ _
      |exact ih1 _ _ _ _ _
      |exact LeO.none _
      |refine LeO.ite ?_ ?_
      |refine LeO.bind ?_ (fun _=> ?_)
theorem impl_shortUnit.mono:∀a0 a1 a2 a3 a4 k,LeO (impl_shortUnit.f k a0 a1 a2 a3 a4) (impl_shortUnit.f (k+1) a0 a1 a2 a3 a4):=by
  intro a0 a1 a2 a3 a4 k
  obtain⟨ih0,ih1⟩:=impl_shortUnit.mono_l k
  unfold impl_shortUnit.f
  repeat' first
      |(with_reducible exact ih0 _ _ _ _ _ _ _ _)
      |(with_reducible exact ih1 _ _ _ _ _)
      |(with_reducible exact LeO.refl _)
      |(with_reducible exact LeO.none _)
      |(with_reducible refine LeO.ite ?_ ?_)
      |(with_reducible refine LeO.bind ?_ (fun _=> ?_))
      |exact ih0 _ _ _ _ _ _ _ _
      |exact ih1 _ _ _ _ _
      |exact LeO.none _
      |refine LeO.ite ?_ ?_
      |refine LeO.bind ?_ (fun _=> ?_)
set_option maxHeartbeats 8000000 in
set_option maxRecDepth 100000 in
theorem impl_shortUnit.calls (k:Nat) (g:Nat) (s0_0:Int) (s0_1:Int) (s0_2:Int) (s0_3:Int) (a1:ByteArray) (r1:Bool) (r2:Int) (r3:Int) (r4:Int) (r5:Int) (w0 w:World) (hI:IsS25 w0 w g s0_0 s0_1 s0_2 s0_3) (hB:Below w0.heap.size w0 w) (h:impl_shortUnit.f k s0_0 s0_1 s0_2 s0_3 a1=some (r1,r2,r3,r4,r5)) (hG_:Gw w0:=by first|exact HG.out|exact Gw.below HG.out (by repeat(first|(with_reducible first|exact HB.out|apply below_alloc|apply pw_below_drewN|apply below_drew1|refine below_set ?_ (Aside0.out (by assumption)))|exact HB.out))):
    Calls Tryz.prog 27 #[.pointer (some ⟨g,0,none⟩), .string a1] w fun e w'=>e= .returned (.bool r1)∧IsS25 w0 w' g r2 r3 r4 r5∧Below w0.heap.size w0 w'∧KeepBut w w' g none:=by
  have HG:=Aside0.mk hG_
  clear hG_
  have HI0:=Aside0.mk hI
  have HK:=Aside0.mk (KeepBut.refl w g none)
  have HL:=Aside0.mk hB.size
  clear hI
  have HW0:=Aside0.mk hB.size
  have HB:=Aside0.mk hB
  clear hB
  have H:((utf8_DecodeRuneInString.f a1).bind fun bt284=>((strconv_log10Pow2.f bt284.1).bind fun bt286=>(if bt286.2=true then(if bt284.2>0 then(impl_shortUnit.j0 k a1 bt284.2 bt286.1 (bt284.1 != 65533) s0_0 s0_1 s0_2 s0_3) else(impl_shortUnit.j0 k a1 bt284.2 bt286.1 false s0_0 s0_1 s0_2 s0_3)) else(impl_shortUnit.j0 k a1 bt284.2 bt286.1 false s0_0 s0_1 s0_2 s0_3))))=some (r1,r2,r3,r4,r5):=h
  clear h
  replace H:=Option.bind_eq_some_iff.mp H
  obtain⟨⟨t284,t285⟩,A30,H⟩:=H
  replace H:((strconv_log10Pow2.f t284).bind fun bt286=>(if bt286.2=true then(if t285>0 then(impl_shortUnit.j0 k a1 t285 bt286.1 (t284 != 65533) s0_0 s0_1 s0_2 s0_3) else(impl_shortUnit.j0 k a1 t285 bt286.1 false s0_0 s0_1 s0_2 s0_3)) else(impl_shortUnit.j0 k a1 t285 bt286.1 false s0_0 s0_1 s0_2 s0_3)))=some (r1,r2,r3,r4,r5):=H
  have A3:=Aside0.mk A30
  clear A30
  replace H:=Option.bind_eq_some_iff.mp H
  obtain⟨⟨t286,t287⟩,A40,H⟩:=H
  replace H:(if t287=true then(if t285>0 then(impl_shortUnit.j0 k a1 t285 t286 (t284 != 65533) s0_0 s0_1 s0_2 s0_3) else(impl_shortUnit.j0 k a1 t285 t286 false s0_0 s0_1 s0_2 s0_3)) else(impl_shortUnit.j0 k a1 t285 t286 false s0_0 s0_1 s0_2 s0_3))=some (r1,r2,r3,r4,r5):=H
  have A4:=Aside0.mk A40
  clear A40
  have HC5:=Aside0.mk H
  clear H
  go_enter Tryz.func27,Tryz.ntmps27
  go_upto_region 3 with(first|((with_reducible refine gate_callee (f:=49) rfl ?_);refine goesL_ (some 11) rfl rfl Tryz.func49 (by kernel_rfl) rfl #[.string a1] rfl (by(try simp only[List.map_toArray,List.map_cons,List.map_nil]);first|done|rfl|(simp only[List.length_drop,List.length_take];rfl)) ?_;(with_reducible refine(utf8_DecodeRuneInString.calls a1 t284 t285 _ A3.out).mono ?_);rintro e w6 ⟨rfl,hb⟩;refine⟨_,rfl,?_⟩;have n0_:=Aside0.mk (IsS25.below (by repeat(first|(with_reducible first|exact HI0.out|apply IsS25.alloc|apply IsS25.drewN|apply IsS25.drew|apply IsS25.set_0|apply IsS25.set_1|apply IsS25.set_2|apply IsS25.set_3)|exact HI0.out)) hb);have n1_:=Aside0.mk (KeepBut.trans (by repeat(first|(with_reducible first|exact HK.out|apply KeepBut.set_|apply keep_drewN|apply keep_drew|apply keep_alloc)|exact HK.out)) (KeepBut.of_below hb g none) (.inl rfl));have n2_:=Aside0.mk (below_step (by repeat(first|(with_reducible first|exact HB.out|apply below_alloc|apply pw_below_drewN|apply below_drew1|refine below_set ?_ (IsS25.ge HI0.out))|exact HB.out)) hb);clear HI0;clear HK;clear HB;have HI0:=n0_;have HK:=n1_;have HB:=n2_;clear n0_ n1_ n2_;(try clear hb);(try clear hb2);(try clear hk);(try clear hi);(have hg_:Gw w6:=Gw.below HG.out HB.out);obtain⟨bm_,hpc_,hlk_⟩:=hg_.look t284 (decoded_ge A3.out) (decoded_le A3.out);(have hv_:prefixAt t284=(t286,t287):=Option.some.inj A4.out);rw[hv_] at hlk_;(have hlk2_:∀n_,(Instr.lookup 87 (.map (some bm_)) (.int .i32 t284) true).run Tryz.prog (w6.drewN n_)= .ok (.tuple #[.int .i64 t286, .bool t287]) (w6.drewN n_):=look_drewN HG.out HB.out hpc_ (decoded_ge A3.out) (decoded_le A3.out) hv_);clear hg_ hv_))
  (try simp only[Act.put,List.setIfInBounds_toArray,List.set_cons_zero,List.set_cons_succ])
  go_cut [28] (fun v28 wc=>∃(kq:Nat) (x28_4:Bool),v28= .bool x28_4∧Aside0 (impl_shortUnit.j0 kq a1 t285 t286 x28_4 s0_0 s0_1 s0_2 s0_3=some (r1,r2,r3,r4,r5))∧Aside0 (kq≤k)∧Aside0 (IsS25 w0 wc g s0_0 s0_1 s0_2 s0_3)∧Aside0 (KeepBut w wc g none)∧Aside0 (Below w0.heap.size w0 wc))
  case first=>
    have H:=HC5.out
    clear HC5
    by_cases c7:t287=true
    · subst c7
      have H1:(if t285>0 then(impl_shortUnit.j0 k a1 t285 t286 (t284 != 65533) s0_0 s0_1 s0_2 s0_3) else(impl_shortUnit.j0 k a1 t285 t286 false s0_0 s0_1 s0_2 s0_3))=some (r1,r2,r3,r4,r5):=by rw[if_pos rfl] at H;exact H
      clear H
      have H:=H1
      clear H1
      by_cases c8:t285>0
      · rw[if_pos c8] at H
        have c8b0:decide (0<t285)=true:=decide_eq_true c8
        clear c8
        (first|rw[c8b0]|(simp only[i64_w,i32_w];rw[c8b0])|skip)
        have H':=Aside0.mk H
        clear H
        go_wp2
        go_meet
        case rel=>exact⟨_,((t284 != 65533)),(by first|rfl|(simp;done)|(simp[*];done)),H',⟨by first|omega|exact Nat.le_refl _⟩,⟨by repeat(first|(with_reducible first|exact HI0.out|apply IsS25.alloc|apply IsS25.drewN|apply IsS25.drew|apply IsS25.set_0|apply IsS25.set_1|apply IsS25.set_2|apply IsS25.set_3)|exact HI0.out)⟩,⟨by repeat(first|(with_reducible first|exact HK.out|apply KeepBut.set_|apply keep_drewN|apply keep_drew|apply keep_alloc)|exact HK.out)⟩,⟨by repeat(first|(with_reducible first|exact HB.out|apply below_alloc|apply pw_below_drewN|apply below_drew1|refine below_set ?_ (IsS25.ge HI0.out))|exact HB.out)⟩⟩
      · rw[if_neg c8] at H
        have c8b0:decide (0<t285)=false:=decide_eq_false c8
        clear c8
        (first|rw[c8b0]|(simp only[i64_w,i32_w];rw[c8b0])|skip)
        have H':=Aside0.mk H
        clear H
        go_wp2
        go_meet
        case rel=>exact⟨_,(false),(by first|rfl|(simp;done)|(simp[*];done)),H',⟨by first|omega|exact Nat.le_refl _⟩,⟨by repeat(first|(with_reducible first|exact HI0.out|apply IsS25.alloc|apply IsS25.drewN|apply IsS25.drew|apply IsS25.set_0|apply IsS25.set_1|apply IsS25.set_2|apply IsS25.set_3)|exact HI0.out)⟩,⟨by repeat(first|(with_reducible first|exact HK.out|apply KeepBut.set_|apply keep_drewN|apply keep_drew|apply keep_alloc)|exact HK.out)⟩,⟨by repeat(first|(with_reducible first|exact HB.out|apply below_alloc|apply pw_below_drewN|apply below_drew1|refine below_set ?_ (IsS25.ge HI0.out))|exact HB.out)⟩⟩
    · replace c7:=Bool.eq_false_iff.mpr c7
      subst c7
      have H1:(impl_shortUnit.j0 k a1 t285 t286 false s0_0 s0_1 s0_2 s0_3)=some (r1,r2,r3,r4,r5):=by rw[if_neg (show ¬(false=true) by decide)] at H;exact H
      clear H
      have H:=H1
      clear H1
      have H':=Aside0.mk H
      clear H
      go_wp2
      go_meet
      case rel=>exact⟨_,(false),(by first|rfl|(simp;done)|(simp[*];done)),H',⟨by first|omega|exact Nat.le_refl _⟩,⟨by repeat(first|(with_reducible first|exact HI0.out|apply IsS25.alloc|apply IsS25.drewN|apply IsS25.drew|apply IsS25.set_0|apply IsS25.set_1|apply IsS25.set_2|apply IsS25.set_3)|exact HI0.out)⟩,⟨by repeat(first|(with_reducible first|exact HK.out|apply KeepBut.set_|apply keep_drewN|apply keep_drew|apply keep_alloc)|exact HK.out)⟩,⟨by repeat(first|(with_reducible first|exact HB.out|apply below_alloc|apply pw_below_drewN|apply below_drew1|refine below_set ?_ (IsS25.ge HI0.out))|exact HB.out)⟩⟩
  case rest =>
    clear HC5
    try clear c2
    try clear p2
    try clear c4
    try clear c7
    try clear c8
    try clear c8b0
    obtain⟨kq,x28_4,rfl,HA,HJ4,HI0,HK,HB⟩:=hcut
    cases kq with
    |zero=>exact absurd HA.out (by simp[impl_shortUnit.j0])
    | succ kj4=>
      have H:=HA.out
      clear HA
      simp only[impl_shortUnit.j0] at H
      have HC9:=Aside0.mk H
      clear H
      go_upto_if 28 with(fail)
      go_cut [1] (fun v1 wc=>∃(kq:Nat) (x1_8:ByteArray) (x1001_8:Int),v1= .string x1_8∧Aside0 (impl_shortUnit.j1 kq x1_8 s0_0 x1001_8 s0_2 s0_3=some (r1,r2,r3,r4,r5))∧Aside0 (kq≤kj4)∧Aside0 (IsS25 w0 wc g s0_0 x1001_8 s0_2 s0_3)∧Aside0 (KeepBut w wc g none)∧Aside0 (Below w0.heap.size w0 wc))
      case first=>
        have H:=HC9.out
        clear HC9
        by_cases c10:x28_4=true
        · subst c10
          have H1:(if 0≤t285 then(if t285≤(a1.size:Int) then(impl_shortUnit.j1 kj4 (a1.extract (t285:Int).toNat a1.size) s0_0 (wrap64 (s0_1+t286)) s0_2 s0_3) else(none)) else(none))=some (r1,r2,r3,r4,r5):=by rw[if_pos rfl] at H;exact H
          clear H
          have H:=H1
          clear H1
          by_cases c11:0≤t285
          · rw[if_pos c11] at H
            have c11b0:=eq_true c11
            have c11b1:decide (0≤t285)=true:=decide_eq_true c11
            clear c11
            by_cases c12:t285≤(a1.size:Int)
            · rw[if_pos c12] at H
              have c12b0:=eq_true c12
              have c12b1:decide (t285≤(a1.size:Int))=true:=decide_eq_true c12
              clear c12
              have H':=Aside0.mk H
              clear H
              obtain⟨HGz13,hgz13⟩:=HI0.out
              have hcz13_0:=cellS25_0 HGz13
              have hcz13_1:=cellS25_1 HGz13
              have hcz13_2:=cellS25_2 HGz13
              have hcz13_3:=cellS25_3 HGz13
              have hfz13_0:=blk_frozen HGz13 0
              have hfz13_1:=blk_frozen HGz13 1
              have hfz13_2:=blk_frozen HGz13 2
              have hfz13_3:=blk_frozen HGz13 3
              clear HGz13 hgz13
              go_wp2
              go_meet
              case rel=>exact⟨_,(a1.extract (t285:Int).toNat a1.size),(wrap64 (s0_1+t286)),(by first|rfl|(simp;done)|(simp[*];done)),H',⟨by have:=HJ4.out;first|omega|exact Nat.le_refl _⟩,⟨by repeat(first|(with_reducible first|exact HI0.out|apply IsS25.alloc|apply IsS25.drewN|apply IsS25.drew|apply IsS25.set_0|apply IsS25.set_1|apply IsS25.set_2|apply IsS25.set_3)|exact HI0.out)⟩,⟨by repeat(first|(with_reducible first|exact HK.out|apply KeepBut.set_|apply keep_drewN|apply keep_drew|apply keep_alloc)|exact HK.out)⟩,⟨by repeat(first|(with_reducible first|exact HB.out|apply below_alloc|apply pw_below_drewN|apply below_drew1|refine below_set ?_ (IsS25.ge HI0.out))|exact HB.out)⟩⟩
            · rw[if_neg c12] at H
              exact absurd H (by simp)
          · rw[if_neg c11] at H
            exact absurd H (by simp)
        · replace c10:=Bool.eq_false_iff.mpr c10
          subst c10
          have H1:(impl_shortUnit.j1 kj4 a1 s0_0 s0_1 s0_2 s0_3)=some (r1,r2,r3,r4,r5):=by rw[if_neg (show ¬(false=true) by decide)] at H;exact H
          clear H
          have H:=H1
          clear H1
          have H':=Aside0.mk H
          clear H
          go_wp2
          go_meet
          case rel=>exact⟨_,(a1),(s0_1),(by first|rfl|(simp;done)|(simp[*];done)),H',⟨by have:=HJ4.out;first|omega|exact Nat.le_refl _⟩,⟨by repeat(first|(with_reducible first|exact HI0.out|apply IsS25.alloc|apply IsS25.drewN|apply IsS25.drew|apply IsS25.set_0|apply IsS25.set_1|apply IsS25.set_2|apply IsS25.set_3)|exact HI0.out)⟩,⟨by repeat(first|(with_reducible first|exact HK.out|apply KeepBut.set_|apply keep_drewN|apply keep_drew|apply keep_alloc)|exact HK.out)⟩,⟨by repeat(first|(with_reducible first|exact HB.out|apply below_alloc|apply pw_below_drewN|apply below_drew1|refine below_set ?_ (IsS25.ge HI0.out))|exact HB.out)⟩⟩
      case rest =>
        clear HC9
        try clear c1
        try clear c2
        try clear p2
        try clear c4
        try clear p6
        try clear c7
        try clear c8
        try clear c8b0
        try clear c10
        try clear c11
        try clear c11b0
        try clear c11b1
        try clear c12
        try clear c12b0
        try clear c12b1
        try clear hcz13_0
        try clear hcz13_1
        try clear hcz13_2
        try clear hcz13_3
        try clear hfz13_0
        try clear hfz13_1
        try clear hfz13_2
        try clear hfz13_3
        try clear p2
        obtain⟨kq,x1_8,x1001_8,rfl,HA,HJ8,HI0,HK,HB⟩:=hcut
        cases kq with
        |zero=>exact absurd HA.out (by simp[impl_shortUnit.j1])
        | succ kj8=>
          have H:=HA.out
          clear HA
          simp only[impl_shortUnit.j1] at H
          by_cases c14:x1_8.toList=([86]:List UInt8)
          · rw[if_pos c14] at H
            have c14b0:(x1_8.toList==([86]:List UInt8))=true:=beq_iff_eq.mpr c14
            have c14b1:(x1_8.toList != ([86]:List UInt8))=false:=bne_eq_false_iff_eq.mpr c14
            clear c14
            simp only[Option.some.injEq,Prod.mk.injEq] at H
            obtain⟨rfl,rfl,rfl,rfl,rfl⟩:=H
            obtain⟨HGz15,hgz15⟩:=HI0.out
            have hcz15_0:=cellS25_0 HGz15
            have hcz15_1:=cellS25_1 HGz15
            have hcz15_2:=cellS25_2 HGz15
            have hcz15_3:=cellS25_3 HGz15
            have hfz15_0:=blk_frozen HGz15 0
            have hfz15_1:=blk_frozen HGz15 1
            have hfz15_2:=blk_frozen HGz15 2
            have hfz15_3:=blk_frozen HGz15 3
            clear HGz15 hgz15
            go_wp2
            go_ret
            exact⟨by first|rfl|(simp[errW_none,errW_some]<;>rfl)|(simp[*,errW_none,errW_some]<;>rfl),by repeat(first|(with_reducible first|exact HI0.out|apply IsS25.alloc|apply IsS25.drewN|apply IsS25.drew|apply IsS25.set_0|apply IsS25.set_1|apply IsS25.set_2|apply IsS25.set_3)|exact HI0.out),by repeat(first|(with_reducible first|exact HB.out|apply below_alloc|apply pw_below_drewN|apply below_drew1|refine below_set ?_ (IsS25.ge HI0.out))|exact HB.out),by repeat(first|(with_reducible first|exact HK.out|apply KeepBut.set_|apply keep_drewN|apply keep_drew|apply keep_alloc)|exact HK.out)⟩
          · rw [if_neg c14] at H
            have c14b0:(x1_8.toList==([86]:List UInt8))=false:=beq_eq_false_iff_ne.mpr c14
            have c14b1:(x1_8.toList != ([86]:List UInt8))=true:=bne_iff_ne.mpr c14
            by_cases c16:x1_8.toList=([115]:List UInt8)
            · rw[if_pos c16] at H
              have c16b0:(x1_8.toList==([115]:List UInt8))=true:=beq_iff_eq.mpr c16
              have c16b1:(x1_8.toList != ([115]:List UInt8))=false:=bne_eq_false_iff_eq.mpr c16
              clear c16
              simp only[Option.some.injEq,Prod.mk.injEq] at H
              obtain⟨rfl,rfl,rfl,rfl,rfl⟩:=H
              obtain⟨HGz17,hgz17⟩:=HI0.out
              have hcz17_0:=cellS25_0 HGz17
              have hcz17_1:=cellS25_1 HGz17
              have hcz17_2:=cellS25_2 HGz17
              have hcz17_3:=cellS25_3 HGz17
              have hfz17_0:=blk_frozen HGz17 0
              have hfz17_1:=blk_frozen HGz17 1
              have hfz17_2:=blk_frozen HGz17 2
              have hfz17_3:=blk_frozen HGz17 3
              clear HGz17 hgz17
              go_wp2
              go_ret
              exact⟨by first|rfl|(simp[errW_none,errW_some]<;>rfl)|(simp[*,errW_none,errW_some]<;>rfl),by repeat(first|(with_reducible first|exact HI0.out|apply IsS25.alloc|apply IsS25.drewN|apply IsS25.drew|apply IsS25.set_0|apply IsS25.set_1|apply IsS25.set_2|apply IsS25.set_3)|exact HI0.out),by repeat(first|(with_reducible first|exact HB.out|apply below_alloc|apply pw_below_drewN|apply below_drew1|refine below_set ?_ (IsS25.ge HI0.out))|exact HB.out),by repeat(first|(with_reducible first|exact HK.out|apply KeepBut.set_|apply keep_drewN|apply keep_drew|apply keep_alloc)|exact HK.out)⟩
            · rw[if_neg c16] at H
              have c16b0:(x1_8.toList==([115]:List UInt8))=false:=beq_eq_false_iff_ne.mpr c16
              have c16b1:(x1_8.toList != ([115]:List UInt8))=true:=bne_iff_ne.mpr c16
              by_cases c18:x1_8.toList=([72,122]:List UInt8)
              · rw[if_pos c18] at H
                have c18b0:(x1_8.toList==([72,122]:List UInt8))=true:=beq_iff_eq.mpr c18
                have c18b1:(x1_8.toList != ([72,122]:List UInt8))=false:=bne_eq_false_iff_eq.mpr c18
                clear c18
                simp only[Option.some.injEq,Prod.mk.injEq] at H
                obtain⟨rfl,rfl,rfl,rfl,rfl⟩:=H
                obtain⟨HGz19,hgz19⟩:=HI0.out
                have hcz19_0:=cellS25_0 HGz19
                have hcz19_1:=cellS25_1 HGz19
                have hcz19_2:=cellS25_2 HGz19
                have hcz19_3:=cellS25_3 HGz19
                have hfz19_0:=blk_frozen HGz19 0
                have hfz19_1:=blk_frozen HGz19 1
                have hfz19_2:=blk_frozen HGz19 2
                have hfz19_3:=blk_frozen HGz19 3
                clear HGz19 hgz19
                go_wp2
                go_ret
                exact⟨by first|rfl|(simp[errW_none,errW_some]<;>rfl)|(simp[*,errW_none,errW_some]<;>rfl),by repeat(first|(with_reducible first|exact HI0.out|apply IsS25.alloc|apply IsS25.drewN|apply IsS25.drew|apply IsS25.set_0|apply IsS25.set_1|apply IsS25.set_2|apply IsS25.set_3)|exact HI0.out),by repeat(first|(with_reducible first|exact HB.out|apply below_alloc|apply pw_below_drewN|apply below_drew1|refine below_set ?_ (IsS25.ge HI0.out))|exact HB.out),by repeat(first|(with_reducible first|exact HK.out|apply KeepBut.set_|apply keep_drewN|apply keep_drew|apply keep_alloc)|exact HK.out)⟩
              · rw[if_neg c18] at H
                have c18b0:(x1_8.toList==([72,122]:List UInt8))=false:=beq_eq_false_iff_ne.mpr c18
                have c18b1:(x1_8.toList != ([72,122]:List UInt8))=true:=bne_iff_ne.mpr c18
                simp only[Option.some.injEq,Prod.mk.injEq] at H
                obtain⟨rfl,rfl,rfl,rfl,rfl⟩:=H
                go_wp2
                go_ret
                exact⟨by first|rfl|(simp[errW_none,errW_some]<;>rfl)|(simp[*,errW_none,errW_some]<;>rfl),by repeat(first|(with_reducible first|exact HI0.out|apply IsS25.alloc|apply IsS25.drewN|apply IsS25.drew|apply IsS25.set_0|apply IsS25.set_1|apply IsS25.set_2|apply IsS25.set_3)|exact HI0.out),by repeat(first|(with_reducible first|exact HB.out|apply below_alloc|apply pw_below_drewN|apply below_drew1|refine below_set ?_ (IsS25.ge HI0.out))|exact HB.out),by repeat(first|(with_reducible first|exact HK.out|apply KeepBut.set_|apply keep_drewN|apply keep_drew|apply keep_alloc)|exact HK.out)⟩

end Go.Proofs.YtanohnlddaneeaaGreatDoor.PFnQtyBack
