import Derived.RowKit
import Derived.WalkKit
import Derived.Lib.ItoaNum
import Derived.Lib.ItoaLen
import Derived.Lib.Repeat
import Derived.Lib.Replace
import Derived.Lib.AtoiAll
import Derived.Lib.CutLaws
import Derived.Lib.DecodeN
import Derived.Lib.IndexMore
import Derived.Test.YtanohnlddaneeaaGreatDoorVWords
import Derived.Test.YtanohnlddaneeaaGreatDoorVLast
import Derived.Test.YtanohnlddaneeaaGreatDoorVTab
import Derived.Test.YtanohnlddaneeaaGreatDoorVFour
import Derived.Test.YtanohnlddaneeaaGreatDoorVQPut
import Derived.Test.YtanohnlddaneeaaGreatDoorVApart
import Derived.Test.YtanohnlddaneeaaGreatDoorVArr
import Derived.Test.YtanohnlddaneeaaGreatDoorVZeros
import Derived.Test.YtanohnlddaneeaaGreatDoorVFoot
import Derived.Test.YtanohnlddaneeaaGreatDoorVKept
import Derived.Test.YtanohnlddaneeaaGreatDoorVShare
import Derived.Test.YtanohnlddaneeaaGreatDoorVN
import Derived.Test.YtanohnlddaneeaaGreatDoorVFootNe
import Derived.Test.YtanohnlddaneeaaGreatDoorVAt
import Derived.Test.YtanohnlddaneeaaGreatDoorVEqStruct
import Derived.Test.YtanohnlddaneeaaGreatDoorVRepsOne
import Derived.Test.YtanohnlddaneeaaGreatDoorVInv
import Derived.Test.YtanohnlddaneeaaGreatDoorVInvWords
import Derived.Test.YtanohnlddaneeaaGreatDoorVGuard
import Derived.Test.YtanohnlddaneeaaGreatDoorVNEv
import Derived.Test.YtanohnlddaneeaaGreatDoorVMore
/-! Words for the plain laws. -/
set_option linter.unusedVariables false
set_option linter.unusedSimpArgs false
namespace Go.Proofs.YtanohnlddaneeaaGreatDoorW.PrintWords
open Go Go.RowKit Go.Proofs.YtanohnlddaneeaaGreatDoorW.PrintLast Go.Proofs.YtanohnlddaneeaaGreatDoorW.PrintMore
/-! Small words for the plain laws: rounds, wrapping, lists read by an index. -/
section
variable {α β:Type}
theorem Ev.pos {c:Prop} [Decidable c] {f g:Nat→Option α} {r:α} (h:c) (H:Ev f r):Ev (fun k=>if c then f k else g k) r:=by
  obtain⟨K,hK⟩:=H
  exact⟨K,fun k hk=>(if_pos h).trans (hK k hk)⟩
theorem Ev.neg {c:Prop} [Decidable c] {f g:Nat→Option α} {r:α} (h:¬c) (H:Ev g r):Ev (fun k=>if c then f k else g k) r:=by
  obtain⟨K,hK⟩:=H
  exact⟨K,fun k hk=>(if_neg h).trans (hK k hk)⟩
theorem Ev.cond {c:Prop} [Decidable c] {f g:Nat→Option α} {r s:α} (H:c→Ev f r) (H':¬c→Ev g s):Ev (fun k=>if c then f k else g k) (if c then r else s):=by
  by_cases h:c
  · rw[if_pos h];exact Ev.pos h (H h)
  · rw[if_neg h];exact Ev.neg h (H' h)
theorem Ev.both {c:Prop} [Decidable c] {f g:Nat→Option α} {r:α} (H:c→Ev f r) (H':¬c→Ev g r):Ev (fun k=>if c then f k else g k) r:=by
  by_cases h:c
  · exact Ev.pos h (H h)
  · exact Ev.neg h (H' h)
theorem Ev.some_ {x r:α} (h:x=r):Ev (fun _=>some x) r:=⟨0,fun _ _=>by rw[h]⟩
theorem Ev.here {o:Option α} {r:α} (h:o=some r):Ev (fun _=>o) r:=⟨0,fun _ _=>h⟩
theorem Ev.to {g:Nat→Option α} {r s:α} (H:Ev g r) (h:r=s):Ev g s:=h▸H
theorem Ev.round {g f:Nat→Option α} {r:α} (H:Ev f r) (h:∀k,g (k+1)=f k):Ev g r:=Ev.step h H
theorem Ev.next {g:Nat→Option α} {o:α→Nat→Option β} {a:α} {r:β} (h:Ev g a) (k:Ev (o a) r):Ev (fun n=>(g n).bind fun x=>o x n) r:=Ev.bind (f:=fun n x=>o x n) h k
theorem Ev.one {g:Nat→Option α} {r s:α} (h:Ev g r) (h':Ev g s):r=s:=by
  obtain⟨K,hK⟩:=h
  obtain⟨L,hL⟩:=h'
  exact Option.some.inj ((hK (K+L) (by omega)).symm.trans (hL (K+L) (by omega)))
end
theorem w64 {n:Int} (h0: -9223372036854775808≤n) (h1:n≤9223372036854775807):wrap64 n=n:=by unfold wrap64;omega
theorem w64_add {i:Int} (h0:0≤i) (h1:i≤9223372036854775806):wrap64 (i+1)=i+1:=w64 (by omega) (by omega)
theorem wu64 {n:Int} (h0:0≤n) (h1:n≤18446744073709551615):IntKind.u64.wrap n=n:=by rw[IntKind.wrap_u64];omega
theorem wf64 {x:Int} (h:(Lit.int .i64 x).wf=true): -9223372036854775808≤x∧x≤9223372036854775807:=by
  have h2:=h
  simp[Lit.wf,IntKind.min,IntKind.max,IntKind.signed,IntKind.bits] at h2
  omega
theorem rd_nat (xs:List Int) (i:Nat):rd xs (i:Int)=xs.getD i 0:=rfl
theorem rd_get (xs:List Int) (i:Nat) (h:i<xs.length):rd xs (i:Int)=xs[i]:=by simp[rd_nat,List.getD_eq_getElem?_getD,h]
theorem rd_mem {xs:List Int} {i:Nat} (h:i<xs.length):rd xs (i:Int)∈xs:=by rw[rd_get xs i h];exact List.getElem_mem h
theorem drop_rd {xs:List Int} {i:Nat} (h:i<xs.length):xs.drop i=rd xs (i:Int)::xs.drop (i+1):=by rw[rd_get xs i h];exact List.drop_eq_getElem_cons h
theorem take_rd {xs:List Int} {i:Nat} (h:i<xs.length):xs.take (i+1)=xs.take i++[rd xs (i:Int)]:=by rw[rd_get xs i h];exact(List.take_append_getElem h).symm
theorem take_set_end {α:Type} {acc:List α} {i:Nat} (h:i<acc.length) (v:α):(acc.set i v).take (i+1)=acc.take i++[v]:=by
  apply List.ext_getElem
  · simp;omega
  · intro j h1 h2
    simp only[List.length_append,List.length_take,List.length_cons,List.length_nil] at h2
    rw[List.getElem_take,List.getElem_set,List.getElem_append]
    by_cases hj:j=i
    · subst hj;simp;intro;omega
    · have:j<i:=by omega
      simp[Ne.symm hj];intro;omega
section
variable {α β:Type}
theorem Ev.succ {g:Nat→Option α} {r:α} (H:Ev (fun k=>g (k+1)) r):Ev g r:=Ev.step (fun _=>rfl) H
def EvP (g:Nat→Option α) (P:α→Prop):Prop:=∃r,Ev g r∧P r
theorem EvP.of {g:Nat→Option α} {P:α→Prop} {r:α} (h:Ev g r) (hp:P r):EvP g P:=⟨r,h,hp⟩
theorem EvP.now {P:α→Prop} {r:α} (hp:P r):EvP (fun _=>some r) P:=⟨r,Ev.some_ rfl,hp⟩
theorem EvP.succ {g:Nat→Option α} {P:α→Prop} (H:EvP (fun k=>g (k+1)) P):EvP g P:=by
  obtain⟨r,h,hp⟩:=H
  exact⟨r,Ev.succ h,hp⟩
theorem EvP.next {g:Nat→Option α} {o:α→Nat→Option β} {P:α→Prop} {Q:β→Prop} (H:EvP g P) (K:∀a,P a→EvP (o a) Q):EvP (fun n=>(g n).bind fun x=>o x n) Q:=by
  obtain⟨a,h,hp⟩:=H
  obtain⟨r,h2,hq⟩:=K a hp
  exact⟨r,Ev.next h h2,hq⟩
theorem EvP.pos {c:Prop} [Decidable c] {f g:Nat→Option α} {P:α→Prop} (h:c) (H:EvP f P):EvP (fun k=>if c then f k else g k) P:=by
  obtain⟨r,h2,hp⟩:=H
  exact⟨r,Ev.pos h h2,hp⟩
theorem EvP.neg {c:Prop} [Decidable c] {f g:Nat→Option α} {P:α→Prop} (h:¬c) (H:EvP g P):EvP (fun k=>if c then f k else g k) P:=by
  obtain⟨r,h2,hp⟩:=H
  exact⟨r,Ev.neg h h2,hp⟩
theorem EvP.both {c:Prop} [Decidable c] {f g:Nat→Option α} {P:α→Prop} (H:c→EvP f P) (H':¬c→EvP g P):EvP (fun k=>if c then f k else g k) P:=by
  by_cases h:c
  · exact EvP.pos h (H h)
  · exact EvP.neg h (H' h)
theorem EvP.mono {g:Nat→Option α} {P Q:α→Prop} (H:EvP g P) (h:∀r,P r→Q r):EvP g Q:=by
  obtain⟨r,h2,hp⟩:=H
  exact⟨r,h2,h r hp⟩
theorem EvP.ev {g:Nat→Option α} {r:α} (H:EvP g (· =r)):Ev g r:=by
  obtain⟨s,h,rfl⟩:=H
  exact h
theorem EvP.law {g:Nat→Option Bool} (H:EvP g (· =true)):∃k,g k=some true:=Ev.rounds H.ev
theorem Ev.p {g:Nat→Option α} {r:α} (h:Ev g r):EvP g (· =r):=⟨r,h,rfl⟩
end
theorem bits_and_nat (x m:Int) (h0:0≤m) (h1:m<9223372036854775808):∃n:Nat,bits .and .i64 x m=(n:Int)∧(n:Int)≤m∧n=(x%18446744073709551616).toNat&&&m.toNat:=by
  obtain⟨b,rfl⟩:=Int.eq_ofNat_of_zero_le h0
  have hb:(b:Nat)%2^IntKind.i64.bits=b:=Nat.mod_eq_of_lt (by show b<2^64;omega)
  have hle:=Nat.and_le_right (n:=(x%18446744073709551616).toNat) (m:=b)
  refine⟨(x%18446744073709551616).toNat&&&b,?_,by omega,by simp⟩
  simp only[bits,BitVec.toNat_and,BitVec.toNat_ofInt,BitVec.ofInt_natCast,BitVec.toNat_ofNat,hb]
  rw[show((2^IntKind.i64.bits:Nat):Int)=18446744073709551616 by rfl,IntKind.wrap_i64]
  omega
theorem bits_and_le (x m:Int) (h0:0≤m) (h1:m<9223372036854775808):0≤bits .and .i64 x m∧bits .and .i64 x m≤m:=by
  obtain⟨n,h,h2,_⟩:=bits_and_nat x m h0 h1
  omega
theorem bits_and_mask (x:Int) (i:Nat) (hi:i≤62):bits .and .i64 x (2^i-1)=x%2^i:=by
  have hp:2^i≤2^62:=Nat.pow_le_pow_right (by decide) hi
  have hp0:0<2^i:=Nat.two_pow_pos i
  have hc:((2:Int)^i-1)=((2^i-1:Nat):Int):=by
    rw[Int.natCast_sub hp0];simp
  obtain⟨n,h,h2,h3⟩:=bits_and_nat x ((2^i-1:Nat):Int) (by omega) (by omega)
  rw[hc,h,h3]
  have hx:0≤x%18446744073709551616:=Int.emod_nonneg _ (by omega)
  have e:((2^i-1:Nat):Int).toNat=2^i-1:=by omega
  rw[e,Nat.and_two_pow_sub_one_eq_mod,Int.natCast_emod,Int.toNat_of_nonneg hx]
  have hd:(18446744073709551616:Int)=2^i*2^(64-i):=by
    rw[←Int.pow_add,show i+(64-i)=64 by omega];rfl
  rw[hd]
  have:=Int.emod_emod_of_dvd x (m:=(2:Int)^i) (k:=2^i*2^(64-i)) ⟨2^(64-i),rfl⟩
  rw[←this];simp
end Go.Proofs.YtanohnlddaneeaaGreatDoorW.PrintWords
