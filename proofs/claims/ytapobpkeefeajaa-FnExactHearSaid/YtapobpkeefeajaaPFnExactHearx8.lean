-- A turned copy of the print's text.
import Derived.Test.YtapobpkeefeajaaPFnExactHearx0
namespace Go.Proofs.Ytapobpkeefeajaa.PFnExactHear
open Go.RowKit Go.Proofs.YtapobpkeefeajaaW.PrintWords Go.Proofs.YtapobpkeefeajaaW.PrintLast Go.Proofs.YtapobpkeefeajaaW.PrintMore
attribute [local go_sem] max2_int min2_int max_two min_two max_three min_three max_four min_four
set_option linter.unusedVariables false
set_option linter.unusedSimpArgs false
def slices_Clone_byte_byte.f (l0:List Int):Option (List Int):=if l0.length<17592186044416 then some l0 else none
set_option maxHeartbeats 4000000 in
set_option maxRecDepth 100000 in
theorem slices_Clone_byte_byte.calls (A0:Option Addr) (c0:Nat) (l0:List Int) (r:List Int) (w:World) (hr0:Kd.C (Kd.int .u8) w A0 l0.length l0) (hc0:l0.length≤c0) (h:slices_Clone_byte_byte.f l0=some r):
 Calls Try.prog 88 #[.slice A0 l0.length c0] w fun e w'=>∃v0_:Value,e= .returned (v0_)∧Kd.R (Kd.int .u8) 5 w' w.heap.size (fun _=>True) v0_ r∧Below w.heap.size w w':=by
 have HL:l0.length<17592186044416∧l0=r:=by
  unfold slices_Clone_byte_byte.f at h
  split at h
  ·exact⟨by assumption,zI h⟩
  ·cases h
 obtain⟨hl,rfl⟩:=HL
 have HL:=zM hl
 have HR:=zM hr0
 clear hl hr0 h
 have q22:∀(w:World) (a:Option Addr) (n c n' c':Nat),(binOp .eql 24 (.slice a n c) (.slice none n' c')).run Try.prog w= .ok (.bool a.isNone) w:=fun w a n c n' c'=>Lib.run_eql_slice_nil w _ _ a n c n' c' Try.underlying24
 cases A0 with
 | none=>
  have q:=fun(w:World) (n c n' c':Nat)=>q22 w none n c n' c'
  simp only[Option.isNone_none] at q
  go_enter Try.func88,Try.ntmps88
  go_wp2
  go_ret
  obtain rfl:l0=[]:=by
   cases l0 with
   |nil=>rfl
   |cons x xs=>obtain⟨ad,e,_⟩:=HR.out.2.2 (by simp);cases e
  exact⟨_,rfl,Kd.R_nil _ _ _ _ _,Below.refl _ _⟩
 |some ad=>
  have q:=fun(w:World) (n c n' c':Nat)=>q22 w (some ad) n c n' c'
  simp only[Option.isNone_some] at q
  clear q22
  have HB:=zM (Below.refl w.heap.size w)
  go_enter Try.func88,Try.ntmps88
  go_wp2_with (first|((with_reducible refine gate_dst (N:=5) rfl ?_);refine Kd.R_lit (Kd.int .u8) (w0:=w) w.heap.size 5 ?hg (N:=5) ?hd (xs:=([]:List Int)) (inner:=[]) (ok:=fun _=>True) (okp:=fun _=>True) ?hr ?hp (fun _ hk=>hk) trivial HB.out (Nat.le_refl _) (by simp) ?_;(case hd|hg=>rfl);(case hr=>exact zh);(case hp=>exact(Reps.none _ _));intro v1 w1 ho hb hg_ hnew_;have HO:=zM ho;have HB1:=zM hb;clear hg_ hnew_ ho hb)|((with_reducible refine gate_builtin (b:= .append) (xs:= #[.tmp 5, .tmp 6]) rfl ?_);at_builtin;refine Kd.R_append_rows (Kd.int .u8) (w0:=w) w.heap.size rfl (.tmp 5) (.tmp 6) 24 5 (.int .u8 0) 1 rfl Try.underlying24 info5 rfl (by decide) (by omega) v1 [] l0 _ _ _ (fun _=>True) (fun _=>False) rfl rfl ?aO ?aR (fun _ _ h=>h) (fun _ h=>h.elim) ?aF ?aB ?aS ?aL ?_;(case aR=>exact(Kd.C_below HR.out HB1.out));(case aB=>exact HB1.out);(case aF=>exact(fun _ _=>trivial));(case aO=>exact HO.out);(case aS=>exact HB1.out.size);(case aL=>have:=HL.out;simp only[List.length_nil];omega);intro v2 w2 ho hb hg hat;have HO2:=zM ho;have HB2:=zM hb;clear ho hb hg hat))
  go_ret
  exact⟨_,rfl,by simpa using HO2.out,HB2.out⟩
end Go.Proofs.Ytapobpkeefeajaa.PFnExactHear
