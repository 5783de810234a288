-- A turned copy of the print's text.
import Derived.Test.YtapobpkeefeajaaPFnExactHearx0
import Derived.Test.YtapobpkeefeajaaPFnExactHearx5
namespace Go.Proofs.Ytapobpkeefeajaa.PFnExactHear
open Go.RowKit Go.Proofs.YtapobpkeefeajaaW.PrintWords Go.Proofs.YtapobpkeefeajaaW.PrintLast Go.Proofs.YtapobpkeefeajaaW.PrintMore
attribute [local go_sem] max2_int min2_int max_two min_two max_three min_three max_four min_four
set_option maxHeartbeats 8000000
set_option maxRecDepth 100000
set_option linter.unusedVariables false
set_option linter.unusedSimpArgs false
def impl_GfInv.l0:Nat→Int→Int→Int→Option (Int)
 |0,_,_,_=>none
 |k+1,x0,x3,x7=>if x7<254 then((impl_GfMul.f k x3 x0).bind fun t162=>(impl_GfInv.l0 k x0 t162 (wrap64 (x7+1)))) else(if x0=0 then(some 0) else(some x3))
def impl_GfInv.f (k:Nat) (a0:Int):Option (Int):=(impl_isByte.f a0).bind fun t161=>(if t161=true then(impl_GfInv.l0 k a0 1 0) else(some 0))
theorem impl_GfInv.mono_l:∀k,(∀y0 y1 y2,LeO (impl_GfInv.l0 k y0 y1 y2) (impl_GfInv.l0 (k+1) y0 y1 y2))
 |0=>fun _ _ _ r h=>by simp[impl_GfInv.l0] at h
 | k+1=>by
  have ih0:=impl_GfInv.mono_l k
  ·intro y0 y1 y2
   unfold impl_GfInv.l0
   repeat' first
   |(with_reducible exact ih0 _ _ _)
   |(with_reducible exact impl_GfMul.mono _ _ _)
   |(with_reducible exact LeO.refl _)
   |(with_reducible exact LeO.none _)
   |(with_reducible refine LeO.ite ?_ ?_)
   |(with_reducible refine LeO.bind ?_ (fun _=> ?_))
theorem impl_GfInv.mono:∀a0 k,LeO (impl_GfInv.f k a0) (impl_GfInv.f (k+1) a0):=by
 intro a0 k
 have ih0:=impl_GfInv.mono_l k
 unfold impl_GfInv.f
 repeat' first
  |(with_reducible exact ih0 _ _ _)
  |(with_reducible exact impl_GfMul.mono _ _ _)
  |(with_reducible exact LeO.refl _)
  |(with_reducible exact LeO.none _)
  |(with_reducible refine LeO.ite ?_ ?_)
  |(with_reducible refine LeO.bind ?_ (fun _=> ?_))
theorem impl_GfInv.calls (k:Nat) (a0:Int) (r:Int) (w:World) (H:impl_GfInv.f k a0=some r):
 Calls Try.prog 123 #[.int .i64 a0] w fun e w'=>e= .returned (.int .i64 r)∧Drawn0 w w':=by
 unfold impl_GfInv.f at H
 replace H:=zP H
 obtain⟨t161,A2,H⟩:=H
 by_cases c3:t161=true
 case neg=>
  replace c3:=Bool.eq_false_iff.mpr c3
  subst c3
  rw[if_neg zFT] at H
  obtain rfl:=zI H
  go_enter Try.func123,Try.ntmps123
  go_wp2_with (first|((with_reducible refine gate_callee (f:=119) rfl ?_);refine goesL_ (some 5) rfl rfl Try.func119 ze rfl #[.int .i64 a0] rfl zg ?_;(with_reducible refine(impl_isByte.calls a0 false _ A2.out).mono ?_);rintro e w' ⟨rfl,⟨nd,rfl⟩⟩;refine⟨_,rfl,?_⟩))
  go_ret
  exact⟨zs,zd⟩
 subst c3
 rw[if_pos rfl] at H
 have H':=zM H
 clear H
 go_enter Try.func123,Try.ntmps123
 go_wp2_with (first|((with_reducible refine gate_callee (f:=119) rfl ?_);refine goesL_ (some 5) rfl rfl Try.func119 ze rfl #[.int .i64 a0] rfl zg ?_;(with_reducible refine(impl_isByte.calls a0 true _ A2.out).mono ?_);rintro e w' ⟨rfl,⟨nd,rfl⟩⟩;refine⟨_,rfl,?_⟩))
 (try simp only[Act.put,zL1,zL2,zL3])
 go_loopg [3,7] k (fun kq v3 v7 w'=>∃(x3_1:Int) (x7_1:Int),v3= .int .i64 x3_1∧v7= .int .i64 x7_1∧Aside0 (impl_GfInv.l0 kq a0 x3_1 x7_1=some r)∧Aside0 (kq≤k)∧Drawn0 w w')
 case atStart=>exact⟨(1),(0),zs,zs,H',⟨Nat.le_refl _⟩,zd⟩
 case round=>
  clear H'
  try clear c1
  try clear p2
  try clear c3
  obtain⟨x3_1,x7_1,rfl,rfl,HA,HK1,⟨m1,rfl⟩⟩:=hrel
  cases gk with
  |zero=>exact absurd HA.out (by simp[impl_GfInv.l0])
  | succ k1=>
   have H:=HA.out
   clear HA
   simp only[impl_GfInv.l0] at H
   replace H:=zI2 H
   rcases H with⟨c4,H⟩|⟨c4,H⟩
   case inr=>
    have c4b0:=decide_eq_false c4
    clear c4
    replace H:=zI2 H
    rcases H with⟨c6,H⟩|⟨c6,H⟩
    case inr=>
     have c6b0:(a0==0)=false:=beq_eq_false_iff_ne.mpr c6
     have c6b1:(a0 != 0)=true:=bne_iff_ne.mpr c6
     obtain rfl:=zI H
     go_wp2
     go_ret
     exact⟨zs,zd⟩
    have c6b0:(a0==0)=true:=beq_iff_eq.mpr c6
    have c6b1:(a0 != 0)=false:=bne_eq_false_iff_eq.mpr c6
    clear c6
    obtain rfl:=zI H
    go_wp2
    go_ret
    exact⟨zs,zd⟩
   have c4b0:=zE c4
   clear c4
   replace H:=zP H
   obtain⟨t162,A5,H⟩:=H
   have H':=zM H
   clear H
   go_wp2_with (first|((with_reducible refine gate_callee (f:=87) rfl ?_);refine goesL_ (some 11) rfl rfl Try.func87 ze rfl #[.int .i64 x3_1, .int .i64 a0] rfl zg ?_;(with_reducible refine(impl_GfMul.calls k1 x3_1 a0 t162 _ A5.out).mono ?_);rintro e w' ⟨rfl,⟨nd,rfl⟩⟩;refine⟨_,rfl,?_⟩))
   go_roundg k1
   case measure=>have:=HK1.out;omega
   case rel=>exact⟨(t162),(wrap64 (x7_1+1)),zs,zs,H',⟨zl1 HK1⟩,zd⟩
end Go.Proofs.Ytapobpkeefeajaa.PFnExactHear
