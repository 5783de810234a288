import Derived.Deep.Slices
import Derived.Deep.Fields
import Derived.ChangeSame
import Derived.WideShapes
import Derived.Test.YtanohnlddaneeaaGreatDoorVWords
set_option linter.unusedVariables false
set_option linter.unusedSimpArgs false
namespace Go.Proofs.YtanohnlddaneeaaGreatDoorW.PrintWords
open Go Go.RowKit Go.Deep
/-! What is read as data, kind by kind: from a row's reading to the kinds of the printed words. -/
section
variable {H:Type} {enc:TypeId×Value→H} {P:Program} {w:World} {base:Nat} {spare:Nat→Bool} {held:Bool} {α β:Type}
/-- Whatever reads at type t is of the kind d. -/
def Dec (enc:TypeId×Value→H) (P:Program) (w:World) (base:Nat) (spare:Nat→Bool) (held:Bool) (t:TypeId) (d:Kd α) (WF:α→Prop):Prop:=
  ∀(fuel:Nat) (cs:List Value) (y:DataW H×List MemPlace),DataW.trod enc P w base spare held fuel t cs=some y→∃x,d.K w x cs∧WF x
theorem Dec.int {t:TypeId} {k:IntKind} (ht:P.underlying t=some (.int k)):Dec enc P w base spare held t (Kd.int k) (fun x=>(Lit.int k x).wf=true):=by
  intro fuel cs y h
  obtain⟨n,rfl,_,hw⟩:=DataW.trod_int ht h
  exact⟨n,rfl,hw⟩
theorem Dec.bool {t:TypeId} (ht:P.underlying t=some .bool):Dec enc P w base spare held t Kd.bool (fun _=>True):=by
  intro fuel cs y h
  obtain⟨n,rfl,_⟩:=DataW.trod_bool ht h
  exact⟨n,rfl,trivial⟩
theorem Dec.string {t:TypeId} (ht:P.underlying t=some .string):Dec enc P w base spare held t Kd.string (fun s=>s.size≤maxLen):=by
  intro fuel cs y h
  obtain⟨s,rfl,_,hs⟩:=DataW.trod_string ht h
  exact⟨s,rfl,hs⟩
theorem Dec.imp {t:TypeId} {d:Kd α} {WF WF':α→Prop} (h:Dec enc P w base spare held t d WF) (hi:∀x,WF x→WF' x):Dec enc P w base spare held t d WF':=by
  intro fuel cs y hy
  obtain⟨x,hk,hw⟩:=h fuel cs y hy
  exact⟨x,hk,hi x hw⟩
theorem dec_choose (p:Nat→α→Prop):∀n,(∀i,i<n→∃a,p i a)→∃xs:List α,xs.length=n∧∀i x,xs[i]? =some x→p i x
  |0,_=>⟨[],rfl,fun i x h=>by simp at h⟩
  | n + 1,h=>by
    obtain⟨xs,hl,hx⟩:=dec_choose p n (fun i hi=>h i (by omega))
    obtain⟨a,ha⟩:=h n (by omega)
    refine⟨xs++[a],by simp[hl],fun i x hi=> ?_⟩
    rcases Nat.lt_or_ge i xs.length with hlt|hge
    · rw[List.getElem?_append_left hlt] at hi
      exact hx i x hi
    · rw[List.getElem?_append_right hge] at hi
      have hi0:i-xs.length=0:=by
        rcases Nat.eq_zero_or_pos (i-xs.length) with h0|h0
        · exact h0
        · rw[List.getElem?_eq_none (by simp;omega)] at hi;cases hi
      rw[hi0] at hi
      have:a=x:=by simpa using hi
      rw[show i=n by omega,←this]
      exact ha
theorem Dec.slice {t e e':TypeId} {d:Kd α} {WF:α→Prop} (ht:P.underlying t=some (.slice e)) (hc:P.cellsOf e=d.sz) (he:Dec enc P w base spare held e d WF):
    Dec enc P w base spare held t (Kd.slice e' d) (fun xs=>xs.length≤maxLen∧∀x∈xs,WF x):=by
  intro fuel cs y h
  rcases Deep.open_slice ht h with⟨rfl,_⟩|⟨a,len,cap,m,n,D,Pl,rfl,hb,hl,hm,hmm,_,hi⟩
  · exact⟨[],⟨none,0,rfl,Nat.le_refl _,rfl,by simp,fun h0=>absurd h0 (by simp)⟩,by simp,fun x hx=>by cases hx⟩
  · have hlm:len≤m:=by rw[hmm];split<;>omega
    obtain⟨xs,hxl,hx⟩:=dec_choose (fun i x=>WF x∧∃c,c.length=d.sz∧d.K w x c∧∀j u,c[j]? =some u→w.cell? (a.add (i*d.sz+j))=some u) len (fun i hil=>by
      obtain⟨cs',h1,h2⟩:=hi i (by omega)
      obtain⟨x,hk,hw⟩:=he _ _ _ h2
      rw[hc] at h1
      obtain⟨_,hcl,hat⟩:=World.cells?_some h1
      refine⟨x,hw,cs',by rw[hcl],hk,fun j u hu=> ?_⟩
      have hj:j<d.sz:=by have:=(List.getElem?_eq_some_iff.1 hu).1;omega
      have:=hat j hj
      rw[Deep.add_add] at this
      rw[this,hu])
    subst hxl
    have hml:xs.length≤maxLen:=by omega
    refine⟨xs,⟨some a,cap,rfl,hl,rfl,by unfold maxLen at hml;omega,fun _=>⟨a,rfl,fun j p hp=> ?_⟩⟩,hml,fun x hxm=> ?_⟩
    · exact(hx j p hp).2
    · obtain⟨i,hi2⟩:=List.getElem?_of_mem hxm
      exact(hx i x hi2).1
/-- The fields from the i-th on, the first of them at cell off. -/
def DecF (enc:TypeId×Value→H) (P:Program) (w:World) (base:Nat) (spare:Nat→Bool) (held:Bool) (fs:List Field) (off:Nat) (d:Kd α) (WF:α→Prop):Prop:=
  ∀(n:Nat) (cs:List Value),cs.length=off+d.sz→(∀f∈fs,∃y,DataW.trod enc P w base spare held n f.type ((cs.drop f.offset).take (P.cellsOf f.type))=some y)→∃x,d.K w x (cs.drop off)∧WF x
theorem DecF.last {f:Field} {off:Nat} {d:Kd α} {WF:α→Prop} (ho:f.offset=off) (hc:P.cellsOf f.type=d.sz) (hd:Dec enc P w base spare held f.type d WF):DecF enc P w base spare held [f] off d WF:=by
  intro n cs hl hf
  obtain⟨y,hy⟩:=hf f (by simp)
  rw[ho,hc,List.take_of_length_le (by simp;omega)] at hy
  exact hd _ _ _ hy
theorem DecF.cons {f:Field} {fs:List Field} {off:Nat} {a:Kd α} {b:Kd β} {WF:α→Prop} {WG:β→Prop} (ho:f.offset=off) (hc:P.cellsOf f.type=a.sz) (hd:Dec enc P w base spare held f.type a WF) (hr:DecF enc P w base spare held fs (off+a.sz) b WG):
    DecF enc P w base spare held (f::fs) off (Kd.pair a b) (fun x=>WF x.1∧WG x.2):=by
  intro n cs hl hf
  obtain⟨y,hy⟩:=hf f (by simp)
  rw[ho,hc] at hy
  obtain⟨x,hk,hw⟩:=hd _ _ _ hy
  obtain⟨z,hk2,hw2⟩:=hr n cs (by rw[hl];show off+(a.sz+b.sz)=_;omega) (fun g hg=>hf g (by simp[hg]))
  refine⟨(x,z),⟨_,_,?_,hk,hk2⟩,hw,hw2⟩
  rw[←List.drop_drop,List.take_append_drop]
theorem Dec.struct {t:TypeId} {fs:Array Field} {d:Kd α} {WF:α→Prop} (ht:P.underlying t=some (.struct fs)) (hc:P.cellsOf t=d.sz) (hf:DecF enc P w base spare held fs.toList 0 d WF):Dec enc P w base spare held t d WF:=by
  intro fuel cs y h
  obtain⟨xs,n,_,_,hl,hlen,hg⟩:=DataW.trod_struct ht h
  refine hf n cs (by omega) (fun f hfm=> ?_)
  obtain⟨i,hi⟩:=List.getElem?_of_mem hfm
  have hi':fs[i]? =some f:=by simpa using hi
  have hil:i<fs.size:=(Array.getElem?_eq_some_iff.1 hi').1
  exact⟨xs[i]'(by omega),(hg i f hi').trans (List.getElem?_eq_getElem (by omega))⟩
theorem Dec.iso {t:TypeId} {d:Kd α} {f:β→α} (g:α→β) (hg:∀x,f (g x)=x) {WF:α→Prop} (h:Dec enc P w base spare held t d WF):Dec enc P w base spare held t (Kd.iso d f) (fun x=>WF (f x)):=by
  intro fuel cs y hy
  obtain⟨x,hk,hw⟩:=h fuel cs y hy
  refine⟨g x,?_,by show WF (f (g x));rw[hg];exact hw⟩
  show d.K w (f (g x)) cs
  rw[hg];exact hk
/-- A parameter that is a slice. -/
theorem Dec.arg_slice {t e e':TypeId} {d:Kd α} {WF:α→Prop} {a:Option Addr} {len cap:Nat} {dd:DataW H} {ps:List MemPlace} (ht:P.underlying t=some (.slice e)) (hc:P.cellsOf e=d.sz) (he:Dec enc P w base spare held e d WF)
    (h:DataW.Trod enc P w base spare held t (.slice a len cap) dd ps):∃xs:List α,xs.length=len∧len≤cap∧d.C w a xs.length xs∧xs.length≤maxLen∧∀x∈xs,WF x:=by
  obtain⟨fuel,hf⟩:=h
  obtain⟨xs,⟨A,c,hcs,hl,hC⟩,hm,hw⟩:=Dec.slice (e':=e') ht hc he _ _ _ hf
  simp only[Value.cells,List.cons.injEq,Value.slice.injEq,and_true] at hcs
  obtain⟨rfl,rfl,rfl⟩:=hcs
  exact⟨xs,rfl,hl,hC,hm,hw⟩
/-- A parameter that is a struct. -/
theorem Dec.arg_struct {t:TypeId} {r:Reach} {b0:Nat} {fs:Array Field} {d:Kd α} {WF:α→Prop} {v:Value} {dd:DataW H} {ps:List MemPlace} (ht:P.underlying t=some (.struct fs)) (hd:Dec enc P w base spare held t d WF) (hv:Value.okWide P w r b0 t v)
    (h:DataW.Trod enc P w base spare held t v dd ps):∃(cs:Array Value) (x:α),v= .agg cs∧d.K w x cs.toList∧WF x:=by
  obtain⟨cs,rfl,_⟩:=WideShapes.okWide_struct ht hv
  obtain⟨fuel,hf⟩:=h
  obtain⟨x,hk,hw⟩:=hd _ _ _ hf
  exact⟨cs,x,rfl,hk,hw⟩
end
end Go.Proofs.YtanohnlddaneeaaGreatDoorW.PrintWords
