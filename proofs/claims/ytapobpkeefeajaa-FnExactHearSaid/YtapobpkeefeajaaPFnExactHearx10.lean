-- A turned copy of the print's text.
import Derived.Test.YtapobpkeefeajaaPFnExactHearx0
import Derived.Test.YtapobpkeefeajaaPFnExactHearx5
namespace Go.Proofs.Ytapobpkeefeajaa.PFnExactHear
open Go.RowKit Go.Proofs.YtapobpkeefeajaaW.PrintWords Go.Proofs.YtapobpkeefeajaaW.PrintLast Go.Proofs.YtapobpkeefeajaaW.PrintMore
attribute [local go_sem] max2_int min2_int max_two min_two max_three min_three max_four min_four
set_option maxHeartbeats 8000000
set_option maxRecDepth 100000
set_option linter.unusedVariables false
set_option linter.unusedSimpArgs false
def impl_RsOk.l0:Nat→List Int→Int→Int→Option (Bool)
 |0,_,_,_=>none
 |k+1,x0,x11,x12=>if x12<x11 then((impl_value.f k x0 x12).bind fun t190=>(if t190=0 then(impl_RsOk.l0 k x0 x11 (wrap64 (x12+1))) else(some false))) else(some true)
def impl_RsOk.f (k:Nat) (l0:List Int) (a1:Int):Option (Bool):=(impl_wordOk.f l0 a1).bind fun t189=>(if t189=true then(impl_RsOk.l0 k l0 (wrap64 (2*a1)) 0) else(some false))
theorem impl_RsOk.calls (k:Nat) (A0:Option Addr) (c0:Nat) (l0:List Int) (a1:Int) (r:Bool) (w:World) (hr0:Kd.C (Kd.int .u8) w A0 l0.length l0) (hc0:l0.length≤c0) (H:impl_RsOk.f k l0 a1=some r):
 Calls Try.prog 109 #[.slice A0 l0.length c0, .int .i64 a1] w fun e w'=>e= .returned (.bool r)∧Drawn0 w w':=by
 have HR0:=zM hr0
 have HC0:=zM hc0
 clear hr0 hc0
 unfold impl_RsOk.f at H
 replace H:=zP H
 obtain⟨t189,A3,H⟩:=H
 by_cases c4:t189=true
 case neg=>
  replace c4:=Bool.eq_false_iff.mpr c4
  subst c4
  rw[if_neg zFT] at H
  obtain rfl:=zI H
  go_enter Try.func109,Try.ntmps109
  go_wp2_with (first|((with_reducible refine gate_callee (f:=105) rfl ?_);refine goesL_ (some 8) rfl rfl Try.func105 ze rfl #[.slice A0 l0.length c0, .int .i64 a1] rfl zg ?_;(with_reducible refine(impl_wordOk.calls _ _ l0 a1 false _ ?side1 ?side2 A3.out).mono ?_);(case side1=>exact zc HR0.out);(case side2=>exact HC0.out);rintro e w' ⟨rfl,⟨nd,rfl⟩⟩;refine⟨_,rfl,?_⟩))
  go_ret
  exact⟨zs,zd⟩
 subst c4
 rw[if_pos rfl] at H
 have H':=zM H
 clear H
 go_enter Try.func109,Try.ntmps109
 go_wp2_with (first|((with_reducible refine gate_callee (f:=105) rfl ?_);refine goesL_ (some 8) rfl rfl Try.func105 ze rfl #[.slice A0 l0.length c0, .int .i64 a1] rfl zg ?_;(with_reducible refine(impl_wordOk.calls _ _ l0 a1 true _ ?side1 ?side2 A3.out).mono ?_);(case side1=>exact zc HR0.out);(case side2=>exact HC0.out);rintro e w' ⟨rfl,⟨nd,rfl⟩⟩;refine⟨_,rfl,?_⟩))
 (try simp only[Act.put,zL1,zL2,zL3])
 go_loopg [12] k (fun kq v12 w'=>∃(x12_1:Int),v12= .int .i64 x12_1∧Aside0 (impl_RsOk.l0 kq l0 (wrap64 (2*a1)) x12_1=some r)∧Aside0 (kq≤k)∧Drawn0 w w')
 case atStart=>exact⟨(0),zs,H',⟨Nat.le_refl _⟩,zd⟩
 case round=>
  clear H'
  try clear c1
  try clear p2
  try clear c4
  obtain⟨x12_1,rfl,HA,HK1,⟨m1,rfl⟩⟩:=hrel
  cases gk with
  |zero=>exact absurd HA.out (by simp[impl_RsOk.l0])
  | succ k1=>
   have H:=HA.out
   clear HA
   simp only[impl_RsOk.l0] at H
   replace H:=zI2 H
   rcases H with⟨c5,H⟩|⟨c5,H⟩
   case inr=>
    have c5b0:=decide_eq_false c5
    clear c5
    obtain rfl:=zI H
    go_wp2
    go_ret
    exact⟨zs,zd⟩
   have c5b0:=zE c5
   clear c5
   replace H:=zP H
   obtain⟨t190,A6,H⟩:=H
   replace H:=zI2 H
   rcases H with⟨c7,H⟩|⟨c7,H⟩
   case inr=>
    have c7b0:(t190==0)=false:=beq_eq_false_iff_ne.mpr c7
    have c7b1:(t190 != 0)=true:=bne_iff_ne.mpr c7
    obtain rfl:=zI H
    go_wp2_with (first|((with_reducible refine gate_callee (f:=106) rfl ?_);refine goesL_ (some 17) rfl rfl Try.func106 ze rfl #[.slice A0 l0.length c0, .int .i64 x12_1] rfl zg ?_;(with_reducible refine(impl_value.calls k1 _ _ l0 x12_1 t190 _ ?side1 ?side2 A6.out).mono ?_);(case side1=>exact zc HR0.out);(case side2=>exact HC0.out);rintro e w' ⟨rfl,⟨nd,rfl⟩⟩;refine⟨_,rfl,?_⟩))
    go_ret
    exact⟨zs,zd⟩
   have c7b0:(t190==0)=true:=beq_iff_eq.mpr c7
   have c7b1:(t190 != 0)=false:=bne_eq_false_iff_eq.mpr c7
   clear c7
   have H':=zM H
   clear H
   go_wp2_with (first|((with_reducible refine gate_callee (f:=106) rfl ?_);refine goesL_ (some 17) rfl rfl Try.func106 ze rfl #[.slice A0 l0.length c0, .int .i64 x12_1] rfl zg ?_;(with_reducible refine(impl_value.calls k1 _ _ l0 x12_1 t190 _ ?side1 ?side2 A6.out).mono ?_);(case side1=>exact zc HR0.out);(case side2=>exact HC0.out);rintro e w' ⟨rfl,⟨nd,rfl⟩⟩;refine⟨_,rfl,?_⟩))
   go_roundg k1
   case measure=>have:=HK1.out;omega
   case rel=>exact⟨(wrap64 (x12_1+1)),zs,H',⟨zl1 HK1⟩,zd⟩
end Go.Proofs.Ytapobpkeefeajaa.PFnExactHear
