/- The law FnExactHear answers true for every value of its parameters; no condition beside what they are. -/
import Derived.Test.YtapobpkeefeajaaRows
import Derived.Test.YtapobpkeefeajaaPFnExactHearx26
import Derived.Test.YtapobpkeefeajaaPureFnExactHear
import Derived.Test.YtapobpkeefeajaaDecV
import Derived.WalkKit
import Derived.ProofKit
import Derived.OpenShut
import Derived.ShutString
import Derived.ChangeOld
import Derived.Below
import Derived.SizedLaws
namespace Go.Proofs.Ytapobpkeefeajaa.fnExactHear
open Go.ChangeShapes Go.WideShapes Go.ChangeAt Go.RowKit Go.Proofs.YtapobpkeefeajaaW.PrintWords
open Go.ChangeMaps (open_string shut_string)
set_option linter.unusedVariables false
set_option linter.unusedSimpArgs false
theorem own:ownKnob Try.prog.godebug=none:=by kernel_rfl
theorem laidOut:laidOutB Try.prog=true:=by kernel_rfl
set_option maxRecDepth 100000 in
theorem lifted (os:Os) (started:os.Started) (H:Type) (enc:TypeId×Value→H):
    ReturnsInHanded {} Try.checked os 5 .any (Rows.fnExactHearSpec.pre6 enc Try.prog Try.f5 Rows.fnExactHearRow.domain false) (Rows.fnExactHearSpec.post enc Try.prog Try.f5 false true false false):=by
  refine returnsInHanded_of_change_sized (C:=Try.checked) own started (by kernel_rfl) Try.func5
    (ChangeSpec.witness6 (enc:=enc) (C:=Try.checked) false ⟨#[],#[.agg #[.int .i64 0, .int .i64 0, .int .i64 0, .int .i64 0, .int .i64 0, .int .i64 0], .slice none 0 0, .int .i64 0],[]⟩ 8 (by kernel_rfl) (by kernel_rfl) (by kernel_rfl) (by kernel_rfl)) ?_
  intro W base args ds gs before hval0 hW hcnd hsz0 _
  have hval:∀(j:Nat) t v,Try.f5.params[j]? =some t→args[j]? =some v→Value.okWide Try.prog W .any base t v:=hval0
  have hW':=hW
  obtain⟨p,q,hA0,hV,rfl,hfz,hnd⟩:=hW
  have hA:DataW.TrodAll enc Try.prog W 0 (fun _=>true) true Try.f5.params.toList args.toList ds p:=hA0
  rw[Try.params5] at hA hval
  obtain⟨v0,vs0,d0,ds0,p0,q0,hargs,rfl,rfl,h0,r0⟩:=trodAll_cons hA
  obtain⟨v1,vs1,d1,ds1,p1,q1,rfl,rfl,rfl,h1,r1⟩:=trodAll_cons r0
  obtain⟨v2,vs2,d2,ds2,p2,q2,rfl,rfl,rfl,h2,r2⟩:=trodAll_cons r1
  obtain⟨rfl,rfl,rfl⟩:=trodAll_nil r2
  obtain rfl:args= #[v0,v1,v2]:=by cases args;simp_all
  obtain⟨rfl,rfl⟩:=trodVars_none hV
  have k0:=h0
  have lt0:∀x∈p0,x.block<W.heap.size:=by obtain⟨m,hm⟩:=k0;exact DataW.trod_lt m _ _ _ hm
  obtain⟨cs0,x0,rfl,K0,W0⟩:=Dec.arg_struct Try.underlying23 (Dec.struct Try.underlying23 (by kernel_rfl) (DecF.cons rfl (by kernel_rfl) (Dec.int Try.underlying3) (DecF.cons rfl (by kernel_rfl) (Dec.int Try.underlying3) (DecF.cons rfl (by kernel_rfl) (Dec.int Try.underlying3) (DecF.cons rfl (by kernel_rfl) (Dec.int Try.underlying3) (DecF.cons rfl (by kernel_rfl) (Dec.int Try.underlying3) (DecF.last rfl (by kernel_rfl) (Dec.int Try.underlying3)))))))) (hval 0 23 v0 rfl rfl) h0
  obtain⟨_,_,hcs0,rfl,⟨_,_,rfl,rfl,⟨_,_,rfl,rfl,⟨_,_,rfl,rfl,⟨_,_,rfl,rfl,rfl⟩⟩⟩⟩⟩:=K0
  simp only[List.cons_append,List.nil_append] at hcs0
  obtain⟨cs0⟩:=cs0
  simp only at hcs0
  subst hcs0
  obtain⟨A1,len1,cap1,rfl⟩:=okWide_slice Try.underlying42 (hval 1 42 v1 rfl rfl)
  have k1:=h1
  have lt1:∀x∈p1,x.block<W.heap.size:=by obtain⟨m,hm⟩:=k1;exact DataW.trod_lt m _ _ _ hm
  obtain⟨l1,e1,c1,r51,m1,w1⟩:=Dec.arg_slice (e':=0) Try.underlying42 (by kernel_rfl) (Dec.iso (f:=fun x:PFnExactHear.S87=>(x.f0,x.f1)) (fun x=>(⟨x.1,x.2⟩:PFnExactHear.S87)) (fun _=>rfl) (Dec.struct Try.underlying87 (by kernel_rfl) (DecF.cons rfl (by kernel_rfl) (Dec.int Try.underlying3) (DecF.last rfl (by kernel_rfl) (Dec.int Try.underlying3))))) h1
  subst e1
  obtain⟨a2,rfl,rfl,rfl,w2⟩:=open_int Try.underlying3 (hval 2 3 v2 rfl rfl) h2
  clear hA0 hval0 hsz0
  obtain⟨k,h⟩:=Pure.FnExactHear _ _ _ _ _ _ _ _ W0.1 W0.2.1 W0.2.2.1 W0.2.2.2.1 W0.2.2.2.2.1 W0.2.2.2.2.2 m1 w1 w2
  refine(PFnExactHear.laws_FnExactHear.calls k x0.1 x0.2.1 x0.2.2.1 x0.2.2.2.1 x0.2.2.2.2.1 x0.2.2.2.2.2 A1 cap1 l1 a2 true W r51 c1 rfl h).mono fun e W' ⟨he,bel⟩=> ?_
  subst he
  exact⟨_,rfl,_,_,_,[],_,[],hW',trodAll_mk1 (shut_bool Try.underlying4 _),(trodAll_cons_mk (Below.trod laidOut (by kernel_rfl) (of_decide_eq_true (by kernel_rfl)) k0 bel lt0) (trodAll_cons_mk (Below.trod laidOut (by kernel_rfl) (of_decide_eq_true (by kernel_rfl)) k1 bel lt1) (trodAll_cons_mk (shut_int Try.underlying3 w2) trodAll_mk0))),rfl,bel.frame _,fun h=>by cases h⟩
theorem over:Rows.fnExactHearRow.holds Try.pinned (OpenSpec.ofChange Rows.fnExactHearSpec):=
  OpenClaim.holds_of_wide 5 Try.f5 rfl rfl rfl rfl rfl rfl rfl ⟨rfl,rfl,rfl,rfl,rfl⟩ rfl rfl rfl rfl rfl (by kernel_rfl) Try.func5 (by kernel_rfl)
    (of_decide_eq_true (by kernel_rfl)) (by unfold Func.isWrapper;first|(rw[if_pos (by decide+kernel)];kernel_rfl)|(rw[if_neg (by decide+kernel)];exact⟨rfl,rfl⟩))
    (fun os started H enc _=>lifted os started H enc)
theorem proved:Rows.FnExactHearSaid:=over
#print axioms proved
end Go.Proofs.Ytapobpkeefeajaa.fnExactHear
namespace Go.Proofs.Ytapobpkeefeajaa
theorem fnExactHear_holds:Rows.FnExactHearSaid:=fnExactHear.proved
end Go.Proofs.Ytapobpkeefeajaa
