-- A turned copy of the print's text.
import Derived.Test.YtapobpkeefeajaaPFnExactHearx0
import Derived.Test.YtapobpkeefeajaaPFnExactHearx5
import Derived.Test.YtapobpkeefeajaaPFnExactHearx6
import Derived.Test.YtapobpkeefeajaaPFnExactHearx8
namespace Go.Proofs.Ytapobpkeefeajaa.PFnExactHear
open Go.RowKit Go.Proofs.YtapobpkeefeajaaW.PrintWords Go.Proofs.YtapobpkeefeajaaW.PrintLast Go.Proofs.YtapobpkeefeajaaW.PrintMore
attribute [local go_sem] max2_int min2_int max_two min_two max_three min_three max_four min_four
set_option maxHeartbeats 8000000
set_option maxRecDepth 100000
set_option linter.unusedVariables false
set_option linter.unusedSimpArgs false
def flRow (k:Nat) (word:List Int) (i:Int):List Int→List Int→Option (List Int)
 |[],acc=>(impl_value.f k word i).bind fun s=>some (acc++[s])
 |g::gs,acc=>(impl_gfPow.f k (wrap64 (wrap64 (wrap64 ((word.length:Int)-1)-g)*i))).bind fun p=>flRow k word i gs (acc++[p])
def flRows (k:Nat) (word gone:List Int):Nat→Nat→List (List Int)→Option (List (List Int))
 |0,_,acc=>some acc
 |d+1,i,acc=>(flRow k word (i:Int) gone []).bind fun r=>flRows k word gone d (i+1) (acc++[r])
def flFind (rows:List (List Int)) (col:Int):Nat→Nat→Nat
 |0,p=>p
 |d+1,p=>if rd (rows.getD p []) col=0 then flFind rows col d (p+1) else p
def flScale (k:Nat) (inv:Int):Nat→Nat→List Int→Option (List Int)
 |0,_,a=>some a
 |d+1,j,a=>(impl_GfMul.f k (rd a (j:Int)) inv).bind fun x=>flScale k inv d (j+1) (a.set j x)
def flXor (k:Nat) (f:Int) (b:List Int):Nat→Nat→List Int→Option (List Int)
 |0,_,a=>some a
 |d+1,j,a=>(impl_GfMul.f k f (rd b (j:Int))).bind fun x=>flXor k f b d (j+1) (a.set j (Go.bits .xor .i64 (rd a (j:Int)) x))
def flClear (k m:Nat) (c:Nat):Nat→Nat→List (List Int)→Option (List (List Int))
 |0,_,rows=>some rows
 |d+1,i,rows=>(if i≠c∧rd (rows.getD i []) (c:Int)≠0 then(flXor k (rd (rows.getD i []) (c:Int)) (rows.getD c []) m 0 (rows.getD i [])).bind fun r=>some (rows.set i r) else some rows).bind fun rows2=>flClear k m c d (i+1) rows2
def flSwap (rows:List (List Int)) (p q:Nat):List (List Int):=(rows.set p (rows.getD q [])).set q (rows.getD p [])
def flStep (k m:Nat) (c:Nat) (rows:List (List Int)):Option (List (List Int)):=
 if flFind rows (c:Int) (rows.length-c) c<rows.length then
  (impl_GfInv.f k (rd ((flSwap rows c (flFind rows (c:Int) (rows.length-c) c)).getD c []) (c:Int))).bind fun inv=>
  (flScale k inv m 0 ((flSwap rows c (flFind rows (c:Int) (rows.length-c) c)).getD c [])).bind fun r=>
  flClear k m c rows.length 0 ((flSwap rows c (flFind rows (c:Int) (rows.length-c) c)).set c r)
 else none
def flElim (k m:Nat):Nat→Nat→List (List Int)→Option (List (List Int))
 |0,_,rows=>some rows
 |d+1,c,rows=>(flStep k m c rows).bind fun rows2=>flElim k m d (c+1) rows2
def flBad (n:Nat) (rows:List (List Int)):Bool:=(rows.drop n).any fun r=>rd r (n:Int) != 0
def flOut (rows:List (List Int)) (n:Nat):List Int→Nat→List Int→List Int
 |[],_,out=>out
 |g::gs,i,out=>flOut rows n gs (i+1) (out.set g.toNat (Go.bits .xor .u8 (rd out g) (IntKind.u8.wrap (rd (rows.getD i []) (n:Int)))))
def flIn (l0 l1:List Int) (a2:Int):Prop:=(0≤a2∧a2≤1000)∧(l1.length:Int)≤2*a2∧l0.length≤1048576∧∀g∈l1,0≤g∧g<(l0.length:Int)
instance flInDec (l0 l1:List Int) (a2:Int):Decidable (flIn l0 l1 a2):=by unfold flIn;infer_instance
def impl_fill.f (k:Nat) (l0:List Int) (l1:List Int) (a2:Int):Option (List Int×Bool):=if flIn l0 l1 a2 then(flRows k l0 l1 (2*a2).toNat 0 []).bind fun rows=>(flElim k (l1.length+1) l1.length 0 rows).bind fun rows2=>(if flBad l1.length rows2=true then some ([],false) else(slices_Clone_byte_byte.f l0).bind fun o=>some (flOut rows2 l1.length l1 0 o,true)) else none
theorem flRow_mono (word:List Int) (i:Int):∀(gs acc:List Int) (k:Nat),LeO (flRow k word i gs acc) (flRow (k+1) word i gs acc)
 |[],_,_=>LeO.bind (impl_value.mono _ _ _) (fun _=>LeO.refl _)
 |_::gs,_,k=>LeO.bind (impl_gfPow.mono _ _) (fun _=>flRow_mono word i gs _ k)
theorem flRows_mono (word gone:List Int):∀(d i:Nat) (acc:List (List Int)) (k:Nat),LeO (flRows k word gone d i acc) (flRows (k+1) word gone d i acc)
 |0,_,_,_=>LeO.refl _
 |d+1,_,_,k=>LeO.bind (flRow_mono _ _ _ _ _) (fun _=>flRows_mono word gone d _ _ k)
theorem flScale_mono (inv:Int):∀(d j:Nat) (a:List Int) (k:Nat),LeO (flScale k inv d j a) (flScale (k+1) inv d j a)
 |0,_,_,_=>LeO.refl _
 |d+1,_,_,k=>LeO.bind (impl_GfMul.mono _ _ _) (fun _=>flScale_mono inv d _ _ k)
theorem flXor_mono (f:Int) (b:List Int):∀(d j:Nat) (a:List Int) (k:Nat),LeO (flXor k f b d j a) (flXor (k+1) f b d j a)
 |0,_,_,_=>LeO.refl _
 |d+1,_,_,k=>LeO.bind (impl_GfMul.mono _ _ _) (fun _=>flXor_mono f b d _ _ k)
theorem flClear_mono (m c:Nat):∀(d i:Nat) (rows:List (List Int)) (k:Nat),LeO (flClear k m c d i rows) (flClear (k+1) m c d i rows)
 |0,_,_,_=>LeO.refl _
 |d+1,_,_,k=>LeO.bind (LeO.ite (LeO.bind (flXor_mono _ _ _ _ _ _) (fun _=>LeO.refl _)) (LeO.refl _)) (fun _=>flClear_mono m c d _ _ k)
theorem flStep_mono (m c:Nat) (rows:List (List Int)) (k:Nat):LeO (flStep k m c rows) (flStep (k+1) m c rows):=
 LeO.ite (LeO.bind (impl_GfInv.mono _ _) (fun _=>LeO.bind (flScale_mono _ _ _ _ _) (fun _=>flClear_mono _ _ _ _ _ _))) (LeO.refl _)
theorem flElim_mono (m:Nat):∀(d c:Nat) (rows:List (List Int)) (k:Nat),LeO (flElim k m d c rows) (flElim (k+1) m d c rows)
 |0,_,_,_=>LeO.refl _
 |d+1,_,_,k=>LeO.bind (flStep_mono _ _ _ _) (fun _=>flElim_mono m d _ _ k)
def flGet (xs:List (List Int)) (i:Int):(List Int):=xs.getD i.toNat ([]:List Int)
theorem at_flGet {w:World} {A:Option Addr} {n:Nat} {xs:List (List Int)} (h:Kd.C (Kd.slice 3 (Kd.int .i64)) w A n xs) (i:Int) (h0:0≤i) (h1:i<n):∃ad A0 c0,A=some ad∧w.cell? (ad.add i.toNat)=some (.slice A0 (flGet xs i).length c0)∧(flGet xs i).length≤c0∧(Kd.int .i64).C w A0 (flGet xs i).length (flGet xs i):=by
 obtain⟨ad,c,e,_,hK,hc0⟩:=Kd.C_get h ([]:List Int) i h0 h1
 have hc:∀j u,c[j]? =some u→w.cell? (ad.add (i.toNat*1+j))=some u:=hc0
 obtain⟨A0,c0,rfl,l0,g0⟩:=hK
 exact⟨ad,A0,c0,e,by have hq:=hc 0 _ rfl;rwa[Nat.mul_one,Nat.add_zero] at hq,l0,g0⟩
theorem flSwapLen (rows:List (List Int)) (p q:Nat):(flSwap rows p q).length=rows.length:=by simp[flSwap]
theorem flGetRow {rows:List (List Int)} {N p:Nat} (h:∀r∈rows,r.length=N) (hp:p<rows.length):(rows.getD p []).length=N:=by
 rw[List.getD_eq_getElem?_getD,List.getElem?_eq_getElem hp];exact h _ (List.getElem_mem hp)
theorem flSetRow {rows:List (List Int)} {N:Nat} (h:∀r∈rows,r.length=N) (i:Nat) {x:List Int} (hx:x.length=N):∀r∈rows.set i x,r.length=N:=fun r hr=>by
 rcases List.mem_or_eq_of_mem_set hr with h1|h1
 ·exact h r h1
 ·rw[h1];exact hx
theorem flSetSelf {rows:List (List Int)} {i:Int} (h0:0≤i) (h1:i<(rows.length:Int)) (x:List Int):flGet (rows.set i.toNat x) i=x:=by
 have h:i.toNat<rows.length:=by omega
 simp[flGet,List.getD_eq_getElem?_getD,h]
theorem flSetOther {rows:List (List Int)} {i j:Int} (h0:0≤i) (hj:0≤j) (h:j≠i) (x:List Int):flGet (rows.set i.toNat x) j=flGet rows j:=by
 have h2:i.toNat≠j.toNat:=by omega
 simp[flGet,List.getD_eq_getElem?_getD,List.getElem?_set_ne h2]
theorem flSetSet {rows:List (List Int)} {i:Nat} (x y:List Int):(rows.set i x).set i y=rows.set i y:=by simp
theorem flSetGet {rows:List (List Int)} {i:Int}:rows.set i.toNat (flGet rows i)=rows:=by
 unfold flGet
 by_cases h:i.toNat<rows.length
 case neg=>rw[List.set_eq_of_length_le (by omega)]
 apply List.ext_getElem?
 intro q
 rw[List.getElem?_set]
 split
 ·rename_i hq;subst hq;rw[List.getD_eq_getElem?_getD,List.getElem?_eq_getElem h];rfl
 ·rfl
theorem flSwapRow {rows:List (List Int)} {N p q:Nat} (h:∀r∈rows,r.length=N) (hp:p<rows.length) (hq:q<rows.length):∀r∈flSwap rows p q,r.length=N:=
 flSetRow (flSetRow h p (flGetRow h hq)) q (flGetRow h hp)
theorem flMem {l:List (List Int)} {j:Int} (h0:0≤j) (h1:j<(l.length:Int)):flGet l j∈l:=by
 have h:j.toNat<l.length:=by omega
 rw[show flGet l j=l[j.toNat] by simp[flGet,List.getD_eq_getElem?_getD,h]];exact List.getElem_mem h
theorem flW {i:Int} (h0:0≤i) (h1:i≤4000000):wrap64 (i+1)=i+1:=by unfold wrap64;omega
theorem fl_cell {W W1:World} {row:Option Nat} {p:Addr} {v:Value} (hg:W.grownBy W1 row) (hr:some p.block≠row) (hc:W.cell? p=some v):W1.cell? p=some v:=by
 have h1:=zW W _ hc
 have h2:=hg.block p.block h1 hr
 unfold World.cell? at hc ⊢
 simp only[h2]
 exact hc
theorem fl_alloc {W:World} {p:Addr} {v:Value} (hc:W.cell? p=some v) (o:Obj):(W.alloc o).cell? p=some v:=by
 have h1:=zW W _ hc
 have h2:=Below.heap_alloc W o p.block h1
 unfold World.cell? at hc ⊢
 simp only[h2]
 exact hc
theorem fl_frozen {W W1:World} {row:Option Nat} {p:Addr} {v:Value} (hg:W.grownBy W1 row) (hr:some p.block≠row) (hc:W.cell? p=some v) (hf:W.frozen? p=false):W1.frozen? p=false:=by
 have h1:=zW W _ hc
 have h2:=hg.block p.block h1 hr
 unfold World.frozen? at hf ⊢
 simp only[h2]
 exact hf
theorem flGrown {w w1 w2:World} {r:Option Nat} (h:w.grownBy w1 r) (h2:w1.grownBy w2 r):w.grownBy w2 r:=by
 exact⟨h2.os.trans h.os,h2.tape.trans h.tape,h2.output.trans h.output,Nat.le_trans h.size h2.size,fun k hk hn=>(h2.block k (Nat.lt_of_lt_of_le hk h.size) hn).trans (h.block k hk hn)⟩
section
variable {α:Type} {d:Kd α} {e:Nat} {W:World} {base n cap g:Nat} {ok:Nat→Prop}
theorem flRetag {w:World} {v:Value} (f s:Nat→Nat) {ps:List (α×Nat)} (h:(Kd.tag f d).R e w base ok v ps):(Kd.tag (fun k=>s (f k)) d).R e w base ok v (ps.map fun p=>(p.1,s p.2)):=by
 obtain⟨h0,inner,ho,hr⟩:=h
 refine⟨h0,inner,by rw[List.length_map];exact ho,by rw[List.length_map];exact hr.1,fun j p hj=> ?_⟩
 rw[List.getElem?_map] at hj
 obtain⟨q,hq,rfl⟩:=Option.map_eq_some_iff.1 hj
 exact d.M_mono (fun k hk=>⟨hk.1,show s (f k)=s q.2 by rw[show f k=q.2 from hk.2]⟩) (hr.2 j q hq)
def flSw (i j k:Nat):Nat:=if k=i then j else if k=j then i else k
/-- Two elements (of one cell each) change places: the cells are stored crosswise. -/
theorem flS_swap (hs:d.sz=1) {xs:List α} (h:Kd.S d e W base ok (.slice (some ⟨g,0,none⟩) n cap) xs) (z:α) (i j:Int) (hi0:0≤i) (hi:i<n) (hj0:0≤j) (hj:j<n):
 ∃vi vj,W.cell? ⟨g,i.toNat,none⟩=some vi∧W.cell? ⟨g,j.toNat,none⟩=some vj∧W.frozen? ⟨g,i.toNat,none⟩=false∧W.frozen? ⟨g,j.toNat,none⟩=false∧
  Kd.S d e ((W.setCell ⟨g,i.toNat,none⟩ vj).setCell ⟨g,j.toNat,none⟩ vi) base ok (.slice (some ⟨g,0,none⟩) n cap) ((xs.set i.toNat (xs.getD j.toNat z)).set j.toNat (xs.getD i.toNat z))∧
  W.grownBy ((W.setCell ⟨g,i.toNat,none⟩ vj).setCell ⟨g,j.toNat,none⟩ vi) (some g):=by
 obtain⟨f,hR⟩:=h
 have hn:=(Kd.R_reads' hR).1
 rw[List.length_zipIdx] at hn
 obtain⟨ci,hci,hMi,hcci,hfi⟩:=Kd.R_elem hR (z,0) i hi0 hi
 obtain⟨cj,hcj,hMj,hccj,hfj⟩:=Kd.R_elem hR (z,0) j hj0 hj
 change ci.length=d.sz at hci
 change cj.length=d.sz at hcj
 rw[hs] at hci hcj
 obtain⟨vi,rfl⟩:=List.length_eq_one_iff.1 hci
 obtain⟨vj,rfl⟩:=List.length_eq_one_iff.1 hcj
 have hz:(Kd.tag f d).sz=1:=hs
 have ai:=hcci 0 vi rfl
 have aj:=hccj 0 vj rfl
 have bi:=hfi 0
 have bj:=hfj 0
 rw[hz] at ai aj bi bj
 simp only[Nat.mul_one,Nat.add_zero] at ai aj bi bj
 have hil:i.toNat<xs.length:=by omega
 have hjl:j.toNat<xs.length:=by omega
 have ei:xs.zipIdx.getD i.toNat (z,0)=(xs.getD i.toNat z,i.toNat):=by
  rw[List.getD_eq_getElem?_getD,List.getElem?_zipIdx,List.getElem?_eq_getElem hil];simp[List.getD_eq_getElem?_getD,hil]
 have ej:xs.zipIdx.getD j.toNat (z,0)=(xs.getD j.toNat z,j.toNat):=by
  rw[List.getD_eq_getElem?_getD,List.getElem?_zipIdx,List.getElem?_eq_getElem hjl];simp[List.getD_eq_getElem?_getD,hjl]
 rw[ei] at hMi
 rw[ej] at hMj
 have h1:=Kd.R_seg hR i hi0 hi (c:=[vi]) (seg:=[vj]) (j:=0) (by rw[hz];rfl) hcci (by rw[hz];exact Nat.le_refl _) (x':=(xs.getD j.toNat z,j.toNat)) (by simpa using hMj) (fun _ hk=>hk)
 rw[hz] at h1
 simp only[Nat.mul_one,Nat.add_zero] at h1
 rw[show W.setCells g i.toNat [vj]=W.setCell ⟨g,i.toNat,none⟩ vj from rfl] at h1
 obtain⟨hR1,hg1⟩:=h1
 obtain⟨c2,hc2,hM2,hcc2,hf2⟩:=Kd.R_elem hR1 (z,0) j hj0 hj
 have hMi1:(Kd.tag f d).M (W.setCell ⟨g,i.toNat,none⟩ vj) base (fun k=>ok k∧k≠g) (xs.getD i.toNat z,i.toNat) [vi]:=Kd.M_grown hMi hg1 (fun k hk he=>hk.2 (by injection he))
 have h2:=Kd.R_seg hR1 j hj0 hj (c:=c2) (seg:=[vi]) (j:=0) hc2 hcc2 (by rw[hz];exact Nat.le_refl _) (x':=(xs.getD i.toNat z,i.toNat)) (by
  rw[List.take_zero,List.nil_append,List.drop_of_length_le (by rw[hc2,hz];simp),List.append_nil];exact hMi1) (fun _ hk=>hk)
 rw[hz] at h2
 simp only[Nat.mul_one,Nat.add_zero] at h2
 rw[show(W.setCell ⟨g,i.toNat,none⟩ vj).setCells g j.toNat [vi]=(W.setCell ⟨g,i.toNat,none⟩ vj).setCell ⟨g,j.toNat,none⟩ vi from rfl] at h2
 obtain⟨hR2,hg2⟩:=h2
 refine⟨vi,vj,ai,aj,bi,bj,⟨fun k=>flSw i.toNat j.toNat (f k),?_⟩,flGrown hg1 hg2⟩
 have h3:=flRetag f (flSw i.toNat j.toNat) hR2
 have e:(((xs.zipIdx.set i.toNat (xs.getD j.toNat z,j.toNat)).set j.toNat (xs.getD i.toNat z,i.toNat)).map fun p=>(p.1,flSw i.toNat j.toNat p.2))=((xs.set i.toNat (xs.getD j.toNat z)).set j.toNat (xs.getD i.toNat z)).zipIdx:=by
  apply List.ext_getElem?
  intro q
  rw[List.getElem?_map,List.getElem?_zipIdx,Nat.zero_add]
  by_cases hq:q<xs.length
  case neg=>rw[List.getElem?_eq_none (by simp;omega),List.getElem?_eq_none (by simp;omega)];rfl
  rw[List.getElem?_set,List.getElem?_set,List.getElem?_set,List.getElem?_set,List.getElem?_zipIdx]
  simp only[List.length_set,List.length_zipIdx,hil,hjl,if_true,Nat.zero_add]
  by_cases h1:j.toNat=q
  case pos=>
   subst h1
   simp only[if_true,hjl,Option.map_some]
   unfold flSw
   simp
  simp only[h1,if_false]
  by_cases h2:i.toNat=q
  case pos=>
   subst h2
   simp only[if_true,hil,Option.map_some]
   unfold flSw
   simp
  simp only[h2,if_false,List.getElem?_eq_getElem hq,Option.map_some]
  unfold flSw
  rw[if_neg (by omega),if_neg (by omega)]
 rw[←e]
 exact h3
end
theorem flS_put2 {q e g n cap base:Nat} {W:World} {ok:Nat→Prop} {xs:List (List Int)} (h:Kd.S (Kd.slice q (Kd.int .i64)) e W base ok (.slice (some ⟨g,0,none⟩) n cap) xs) (i k:Int) (hi0:0≤i) (hi:i<n) (hk0:0≤k) (hk:k<((xs.getD i.toNat []).length:Int)) (v:Int):
 ∃gi ci,W.cell? ⟨g,i.toNat,none⟩=some (.slice (some ⟨gi,0,none⟩) (xs.getD i.toNat []).length ci)∧W.cell? ⟨gi,k.toNat,none⟩=some (.int .i64 (rd (xs.getD i.toNat []) k))∧W.frozen? ⟨gi,k.toNat,none⟩=false∧ok gi∧gi≠g∧
  Kd.S (Kd.slice q (Kd.int .i64)) e (W.setCell ⟨gi,k.toNat,none⟩ (.int .i64 v)) base ok (.slice (some ⟨g,0,none⟩) n cap) (xs.set i.toNat ((xs.getD i.toNat []).set k.toNat v))∧W.grownBy (W.setCell ⟨gi,k.toNat,none⟩ (.int .i64 v)) (some gi):=by
 obtain⟨oki,c,hcl,hM,hcc,hoki,hbk⟩:=Kd.S_borrow h [] i hi0 hi
 obtain⟨ve,rfl,ge⟩:=hM
 have hv:=hcc 0 _ rfl
 rw[show(Kd.slice q (Kd.int .i64)).sz=1 from rfl,Nat.mul_one,Nat.add_zero] at hv
 obtain⟨gi,ci,rfl,_,_,_⟩:=Kd.R_form ge (by omega)
 obtain⟨hx,hf⟩:=Kd.R_celln 0 ge k hk0 hk
 have hp:=Kd.R_putg ge k v
 have hog:=hoki gi (ge.1 _ rfl)
 refine⟨gi,ci,?_,?_,?_,hog.1,fun he=>hog.2 (by rw[he];rfl),?_,hp.2⟩
 ·have:=hv;rw[add_plain] at this;simpa using this
 ·exact hx
 ·exact hf
 ·exact hbk hp.2 (fun k_ e_=>by injection e_ with e_;subst e_;exact ge.1 _ rfl) ⟨_,rfl,hp.1⟩
theorem flPut {q e g n cap base m:Nat} {W:World} {xs:List (List Int)} (h:Kd.S (Kd.slice q (Kd.int .i64)) e W base (fun k=>k<m) (.slice (some ⟨g,0,none⟩) n cap) xs) (i k:Int) (hi0:0≤i) (hi:i<n) (hk0:0≤k) (hk:k<((flGet xs i).length:Int)) (v:Int):
 ∃gi ci,W.cell? ⟨g,i.toNat,none⟩=some (.slice (some ⟨gi,0,none⟩) (flGet xs i).length ci)∧W.cell? ⟨gi,k.toNat,none⟩=some (.int .i64 (rd (flGet xs i) k))∧W.frozen? ⟨gi,k.toNat,none⟩=false∧(gi<m∧base≤gi)∧gi≠g∧
  Kd.S (Kd.slice q (Kd.int .i64)) e (W.setCell ⟨gi,k.toNat,none⟩ (.int .i64 v)) base (fun k=>k<m) (.slice (some ⟨g,0,none⟩) n cap) (xs.set i.toNat ((flGet xs i).set k.toNat v))∧W.grownBy (W.setCell ⟨gi,k.toNat,none⟩ (.int .i64 v)) (some gi):=by
 obtain⟨gi,ci,h1,h2,h3,h4,h5,h6,h7⟩:=flS_put2 (Kd.S_bound h) i k hi0 hi hk0 hk v
 exact⟨gi,ci,h1,h2,h3,⟨h4.1,h4.2.1⟩,h5,Kd.S_mono h6 (fun _ hk=>hk.1),h7⟩
theorem flLead {W W1:World} {base g:Nat} {ok:Nat→Prop} {v:Value} {xs:List Int} (h:(Kd.int .i64).R 3 W base ok v xs) (hg:W.grownBy W1 (some g)) (hlt:g<base):(Kd.int .i64).R 3 W1 base ok v xs:=
 Kd.R_mono (Kd.R_grown (Kd.R_bound h) hg (fun k hk he=>by injection he with he;have:=hk.2.1;omega)) (fun k hk=>hk.1)
theorem flKeep {α:Type} {d:Kd α} {e base m:Nat} {W W1:World} {v:Value} {xs:List α} {row:Option Nat} (h:Kd.S d e W base (fun k=>k<m) v xs) (hg:W.grownBy W1 row) (hr:∀k,row=some k→m≤k):Kd.S d e W1 base (fun k=>k<m) v xs:=
 Kd.S_grown h hg (fun k hk he=>by have:=hr k he.symm;omega)
theorem flFar {W:World} {a p:Addr} {u v:Value} (h:W.cell? a=some u) (hne:p.block≠a.block):(W.setCell p v).cell? a=some u:=by
 rw[←h]
 have:=Below.heap_setCell W p v a.block (fun he=>hne he.symm)
 simp[World.cell?,this]
theorem flBelow {n m:Nat} {w W W1:World} (h:Below n w W) (h2:Below m W W1) (hle:n≤m):Below n w W1:=by
 exact Below.trans h (Below.mono h2 hle)
theorem flKeepOut {α:Type} {d:Kd α} {e base m n:Nat} {W W1:World} {v:Value} {xs:List α} {row:Option Nat} (h:Kd.S d e W base (fun k=>k<m) v xs) (hg:W.grownBy W1 row) (hr:∀k,row=some k→k<base∨n≤k) (hm:m≤n):Kd.S d e W1 base (fun k=>k<m) v xs:=
 Kd.S_mono (Kd.S_grown (Kd.S_bound h) hg (fun k hk he=>by have:=hr k he.symm;have:=hk.1;have:=hk.2.1;omega)) (fun k hk=>hk.1)
theorem flLeadOut {W W1:World} {base m b:Nat} {v:Value} {xs:List Int} {row:Option Nat} (h:(Kd.int .i64).R 3 W base (fun k=>k<m) v xs) (hg:W.grownBy W1 row) (hr:∀k,row=some k→k<b∨m≤k) (hb:b≤base):(Kd.int .i64).R 3 W1 base (fun k=>k<m) v xs:=
 Kd.R_mono (Kd.R_grown (Kd.R_bound h) hg (fun k hk he=>by have:=hr k he.symm;have:=hk.1;have:=hk.2.1;omega)) (fun k hk=>hk.1)
/-- Row i is appended to and put back. -/
theorem flApp {q e g n cap base:Nat} {W:World} {xs:List (List Int)} (h:Kd.S (Kd.slice q (Kd.int .i64)) e W base (fun _=>True) (.slice (some ⟨g,0,none⟩) n cap) xs) (i:Int) (hi0:0≤i) (hi:i<n):
 ∃(ve:Value) (ok:Nat→Prop),W.cell? ⟨g,i.toNat,none⟩=some ve∧W.frozen? ⟨g,i.toNat,none⟩=false∧some g≠ve.ownBlock∧(∀k,W.heap.size≤k→ok k)∧Kd.R (Kd.int .i64) q W base ok ve (xs.getD i.toNat [])∧
  ∀(w1:World) (v1:Value) (y:List Int),W.grownBy w1 ve.ownBlock→Kd.R (Kd.int .i64) q w1 base ok v1 y→Kd.S (Kd.slice q (Kd.int .i64)) e (w1.setCell ⟨g,i.toNat,none⟩ v1) base (fun _=>True) (.slice (some ⟨g,0,none⟩) n cap) (xs.set i.toNat y):=by
 obtain⟨oki,c,hcl,hM,hcc,hfr,hoki,hH⟩:=Kd.S_elem h [] i hi0 hi
 obtain⟨ve,rfl,ge⟩:=hM
 have hv:=hcc 0 _ rfl
 have hf:=hfr 0
 rw[show(Kd.slice q (Kd.int .i64)).sz=1 from rfl,Nat.mul_one,Nat.add_zero] at hv hf
 have hlt:g<W.heap.size:=zW W _ hv
 have hne:∀k,(oki k∨True∧W.heap.size≤k)→k≠g:=fun k hk=>hk.elim (fun h1=>(hoki k h1).2) (fun h1=>by omega)
 refine⟨ve,fun k=>oki k∨True∧W.heap.size≤k,hv,hf,fun he=>(hoki g (ge.1 g he.symm)).2 rfl,fun k hk=> .inr ⟨trivial,hk⟩,Kd.R_mono ge (fun k hk=> .inl hk),fun w1 v1 y hg hR=> ?_⟩
 have h1:=Kd.H_grown (Kd.H_widen hH) hg (fun k hk=> .inl (ge.1 k hk))
 have h2:=(Kd.H_seg h1 hi0 hi (seg:=[v1]) (j:=0) (by show 0+1≤1;omega) (by
  intro u hu
  rw[List.mem_singleton.1 hu]
  obtain⟨A,c,rfl⟩:=Kd.R_slice hR
  rfl)).1
 rw[show(Kd.slice q (Kd.int .i64)).sz=1 from rfl,Nat.mul_one,Nat.add_zero] at h2
 refine Kd.H_back h2 (x':=y) (okp:=fun k=>oki k∨True∧W.heap.size≤k) ⟨v1,rfl,?_⟩ (fun k hk=>hk)
 exact Kd.R_far hR (p:=⟨g,i.toNat,none⟩) (fun k hk=>hne k hk) v1
theorem flRow_len (k:Nat) (word:List Int) (i:Int):∀(gs acc r:List Int),flRow k word i gs acc=some r→r.length=acc.length+gs.length+1
 |[],acc,r,h=>by
  simp only[flRow] at h
  obtain⟨s,_,h2⟩:=zO.mp h
  rw[←zI h2];simp
 |g::gs,acc,r,h=>by
  simp only[flRow] at h
  obtain⟨s,_,h2⟩:=zO.mp h
  rw[flRow_len k word i gs _ r h2];simp;omega
theorem flRows_len (k:Nat) (word gone:List Int):∀(d i:Nat) (acc rs:List (List Int)),flRows k word gone d i acc=some rs→(∀r∈acc,r.length=gone.length+1)→rs.length=acc.length+d∧∀r∈rs,r.length=gone.length+1
 |0,i,acc,rs,h,ha=>by
  simp only[flRows] at h
  rw[←zI h];exact⟨rfl,ha⟩
 | d+1,i,acc,rs,h,ha=>by
  simp only[flRows] at h
  obtain⟨r,hr,h2⟩:=zO.mp h
  have hl:=flRow_len k word i gone [] r hr
  have:=flRows_len k word gone d (i+1) _ rs h2 (fun q hq=>by
   rcases List.mem_append.1 hq with h1|h1
   ·exact ha q h1
   ·rw[List.mem_singleton.1 h1,hl];simp)
  refine⟨by rw[this.1];simp;omega,this.2⟩
theorem flRows_step (k:Nat) (word gone:List Int) {M:Nat} {i:Int} (h0:0≤i) (h1:i<(M:Int)) (acc:List (List Int)):flRows k word gone (M-i.toNat) i.toNat acc=(flRow k word i gone []).bind fun r=>flRows k word gone (M-(i+1).toNat) (i+1).toNat (acc++[r]):=by
 obtain⟨d,hd⟩:∃d,M-i.toNat=d+1:=⟨M-i.toNat-1,by omega⟩
 rw[hd,show M-(i+1).toNat=d by omega,show(i+1).toNat=i.toNat+1 by omega]
 show(flRow k word ((i.toNat:Nat):Int) gone []).bind _=_
 rw[Int.toNat_of_nonneg h0]
theorem flRow_step (k:Nat) (word:List Int) (i:Int) {gone:List Int} {j:Int} (h0:0≤j) (h1:j<(gone.length:Int)) (acc:List Int):flRow k word i (gone.drop j.toNat) acc=(impl_gfPow.f k (wrap64 (wrap64 (wrap64 ((word.length:Int)-1)-rd gone j)*i))).bind fun p=>flRow k word i (gone.drop (j+1).toNat) (acc++[p]):=by
 have h:j.toNat<gone.length:=by omega
 rw[List.drop_eq_getElem_cons h,show(j+1).toNat=j.toNat+1 by omega,show rd gone j=gone[j.toNat] by simp[rd,List.getD_eq_getElem?_getD,h]]
 rfl
theorem flAccSet (acc:List (List Int)) (m:Nat) (y:List Int):(acc++List.replicate (m+1) []).set acc.length y=acc++[y]++List.replicate m []:=by
 rw[List.set_append_right _ _ (Nat.le_refl _),Nat.sub_self,List.replicate_succ,zL2,List.append_assoc];rfl
theorem flAccGet (acc:List (List Int)) (m:Nat):(acc++List.replicate (m+1) []).getD acc.length []=([]:List Int):=by
 rw[List.getD_eq_getElem?_getD,List.getElem?_append_right (Nat.le_refl _),Nat.sub_self,List.replicate_succ];rfl
theorem flElim_step (k m:Nat) {n:Nat} {c:Int} (h0:0≤c) (h1:c<(n:Int)) (rows:List (List Int)):flElim k m (n-c.toNat) c.toNat rows=(flStep k m c.toNat rows).bind fun r=>flElim k m (n-(c+1).toNat) (c+1).toNat r:=by
 obtain⟨d,hd⟩:∃d,n-c.toNat=d+1:=⟨n-c.toNat-1,by omega⟩
 rw[hd,show n-(c+1).toNat=d by omega,show(c+1).toNat=c.toNat+1 by omega]
 rfl
theorem flStep_some {k m:Nat} {c:Int} (h0:0≤c) {rows r:List (List Int)} (h:flStep k m c.toNat rows=some r):∃(P:Nat) (inv:Int) (rc:List Int),flFind rows c (rows.length-c.toNat) c.toNat=P∧P<rows.length∧impl_GfInv.f k (rd (flGet (flSwap rows c.toNat P) c) c)=some inv∧flScale k inv m 0 (flGet (flSwap rows c.toNat P) c)=some rc∧flClear k m c.toNat rows.length 0 ((flSwap rows c.toNat P).set c.toNat rc)=some r:=by
 unfold flStep at h
 rw[Int.toNat_of_nonneg h0] at h
 by_cases hP:flFind rows c (rows.length-c.toNat) c.toNat<rows.length
 case neg=>rw[if_neg hP] at h;cases h
 rw[if_pos hP] at h
 obtain⟨inv,h1,h⟩:=zO.mp h
 obtain⟨rc,h2,h⟩:=zO.mp h
 exact⟨_,inv,rc,rfl,hP,h1,h2,h⟩
theorem flScale_step (k:Nat) (inv:Int) {N:Nat} {j:Int} (a:List Int) (h0:0≤j) (h1:j<(N:Int)):flScale k inv (N-j.toNat) j.toNat a=(impl_GfMul.f k (rd a j) inv).bind fun x=>flScale k inv (N-(j+1).toNat) (j+1).toNat (a.set j.toNat x):=by
 obtain⟨d,hd⟩:∃d,N-j.toNat=d+1:=⟨N-j.toNat-1,by omega⟩
 rw[hd,show N-(j+1).toNat=d by omega,show(j+1).toNat=j.toNat+1 by omega]
 show(impl_GfMul.f k (rd a ((j.toNat:Nat):Int)) inv).bind _=_
 rw[Int.toNat_of_nonneg h0]
theorem flXor_step (k:Nat) (f:Int) (b:List Int) {N:Nat} {j:Int} (a:List Int) (h0:0≤j) (h1:j<(N:Int)):flXor k f b (N-j.toNat) j.toNat a=(impl_GfMul.f k f (rd b j)).bind fun x=>flXor k f b (N-(j+1).toNat) (j+1).toNat (a.set j.toNat (Go.bits .xor .i64 (rd a j) x)):=by
 obtain⟨d,hd⟩:∃d,N-j.toNat=d+1:=⟨N-j.toNat-1,by omega⟩
 rw[hd,show N-(j+1).toNat=d by omega,show(j+1).toNat=j.toNat+1 by omega]
 show(impl_GfMul.f k f (rd b ((j.toNat:Nat):Int))).bind (fun x=>flXor k f b d (j.toNat+1) (a.set j.toNat (Go.bits .xor .i64 (rd a ((j.toNat:Nat):Int)) x)))=_
 rw[Int.toNat_of_nonneg h0]
theorem flClear_step (k m:Nat) {N:Nat} {c i:Int} (rows:List (List Int)) (hc:0≤c) (h0:0≤i) (h1:i<(N:Int)):flClear k m c.toNat (N-i.toNat) i.toNat rows=(if i≠c∧rd (flGet rows i) c≠0 then(flXor k (rd (flGet rows i) c) (flGet rows c) m 0 (flGet rows i)).bind fun r=>some (rows.set i.toNat r) else some rows).bind fun rows2=>flClear k m c.toNat (N-(i+1).toNat) (i+1).toNat rows2:=by
 obtain⟨d,hd⟩:∃d,N-i.toNat=d+1:=⟨N-i.toNat-1,by omega⟩
 rw[hd,show N-(i+1).toNat=d by omega,show(i+1).toNat=i.toNat+1 by omega]
 have key:flClear k m c.toNat (d+1) i.toNat rows=(if i.toNat≠c.toNat∧rd (rows.getD i.toNat []) ((c.toNat:Nat):Int)≠0 then(flXor k (rd (rows.getD i.toNat []) ((c.toNat:Nat):Int)) (rows.getD c.toNat []) m 0 (rows.getD i.toNat [])).bind fun r=>some (rows.set i.toNat r) else some rows).bind fun rows2=>flClear k m c.toNat d (i.toNat+1) rows2:=rfl
 rw[key,Int.toNat_of_nonneg hc]
 have e:(i.toNat≠c.toNat)=(i≠c):=propext ⟨fun h e=>h (by rw[e]),fun h e=>h (by omega)⟩
 simp only[e]
 rfl
theorem flFind_at {rows:List (List Int)} {c p:Int} (h0:0≤p) (h1:p<(rows.length:Int)):flFind rows c (rows.length-p.toNat) p.toNat=if rd (flGet rows p) c=0 then flFind rows c (rows.length-(p+1).toNat) (p+1).toNat else p.toNat:=by
 obtain⟨d,hd⟩:∃d,rows.length-p.toNat=d+1:=⟨rows.length-p.toNat-1,by omega⟩
 rw[hd,show rows.length-(p+1).toNat=d by omega,show(p+1).toNat=p.toNat+1 by omega]
 rfl
theorem flPutT {q e g n cap base:Nat} {W:World} {xs:List (List Int)} (h:Kd.S (Kd.slice q (Kd.int .i64)) e W base (fun _=>True) (.slice (some ⟨g,0,none⟩) n cap) xs) (i k:Int) (hi0:0≤i) (hi:i<n) (hk0:0≤k) (hk:k<((flGet xs i).length:Int)) (v:Int):
 ∃gi ci,W.cell? ⟨g,i.toNat,none⟩=some (.slice (some ⟨gi,0,none⟩) (flGet xs i).length ci)∧W.cell? ⟨gi,k.toNat,none⟩=some (.int .i64 (rd (flGet xs i) k))∧W.frozen? ⟨gi,k.toNat,none⟩=false∧base≤gi∧
  Kd.S (Kd.slice q (Kd.int .i64)) e (W.setCell ⟨gi,k.toNat,none⟩ (.int .i64 v)) base (fun _=>True) (.slice (some ⟨g,0,none⟩) n cap) (xs.set i.toNat ((flGet xs i).set k.toNat v)):=by
 obtain⟨gi,ci,h1,h2,h3,h4,h5,h6,h7⟩:=flS_put2 (Kd.S_bound h) i k hi0 hi hk0 hk v
 exact⟨gi,ci,h1,h2,h3,h4.2.1,Kd.S_mono h6 (fun _ _=>trivial)⟩
theorem flBad_none {n:Nat} {rows:List (List Int)} (h:∀t:Nat,t<rows.length-n→rd ((rows.drop n).getD t []) (n:Int)=0):flBad n rows=false:=by
 unfold flBad
 rw[List.any_eq_false]
 intro x hx
 obtain⟨t,ht,e⟩:=List.getElem_of_mem hx
 have:=h t (by rw[List.length_drop] at ht;exact ht)
 rw[List.getD_eq_getElem?_getD,List.getElem?_eq_getElem ht,Option.getD_some,e] at this
 simp[this]
theorem flBad_some {n:Nat} {rows:List (List Int)} {t:Nat} (ht:t<rows.length-n) (h:rd ((rows.drop n).getD t []) (n:Int)≠0):flBad n rows=true:=by
 unfold flBad
 rw[List.any_eq_true]
 have h1:t<(rows.drop n).length:=by rw[List.length_drop];exact ht
 rw[List.getD_eq_getElem?_getD,List.getElem?_eq_getElem h1,Option.getD_some] at h
 exact⟨_,List.getElem_mem h1,by simpa using h⟩
theorem flOut_step (rows:List (List Int)) (n:Nat) {gone:List Int} {i:Int} (h0:0≤i) (h1:i<(gone.length:Int)) (out:List Int):flOut rows n (gone.drop i.toNat) i.toNat out=flOut rows n (gone.drop (i+1).toNat) (i+1).toNat (out.set (rd gone i).toNat (Go.bits .xor .u8 (rd out (rd gone i)) (IntKind.u8.wrap (rd (flGet rows i) (n:Int))))):=by
 have h:i.toNat<gone.length:=by omega
 rw[List.drop_eq_getElem_cons h,show(i+1).toNat=i.toNat+1 by omega,show rd gone i=gone[i.toNat] by simp[rd,List.getD_eq_getElem?_getD,h]]
 rfl
def impl_fill.T9:Bool×List (List Nat×List Nat):=(true,[([],[]),([],[]),([],[]),([],[]),([2,3],[2,3]),([4],[4]),([],[]),([6],[6]),([7],[7]),([],[]),([8,9],[8,9]),([],[]),([10,11],[10,11]),([12],[12]),([13],[13]),([5,14,13],[5,14]),([0,1,0,1,2,3,4,5,6,7,8,9,10,11,12,13,14,15],[0,1]),([16,15,15,0,1,2,3,4,5,6,7,8,9,10,11,12,13,14,15],[15,16])])
def impl_fill.B9:List Nat:=[0,0,0,0,12,28,0,64,192,0,960,0,4032,8128,16320,32764,65535,131071]
theorem impl_fill.tab9:rtab .any (opsOf Try.f108 9)=impl_fill.T9:=by kernel_rfl
theorem impl_fill.bits9:waitsOk impl_fill.T9.2 impl_fill.B9=true:=by kernel_rfl
def impl_fill.T11:Bool×List (List Nat×List Nat):=(true,[([],[]),([],[]),([],[]),([],[]),([2,3],[2,3]),([4],[4]),([],[]),([],[]),([6,7],[6,7]),([8],[8]),([5,9,8],[5,9]),([0,1,0,1,2,3,4,5,6,7,8,9,10],[0,1]),([11,10,10,0,1,2,3,4,5,6,7,8,9,10],[10,11])])
def impl_fill.B11:List Nat:=[0,0,0,0,12,28,0,0,192,448,1020,2047,4095]
theorem impl_fill.tab11:rtab .any (opsOf Try.f108 11)=impl_fill.T11:=by kernel_rfl
theorem impl_fill.bits11:waitsOk impl_fill.T11.2 impl_fill.B11=true:=by kernel_rfl
def impl_fill.T26:Bool×List (List Nat×List Nat):=(true,[([],[]),([],[]),([0,1],[0,1]),([2],[2]),([],[]),([],[]),([],[]),([5,6],[5,6]),([7],[7]),([],[]),([8,9],[8,9]),([10],[10]),([],[]),([11,12],[11,12]),([3,4,0,1,2,3,4,5,6,7,8,9,10,11,12,13],[3,4]),([14,13,13,0,1,2,3,4,5,6,7,8,9,10,11,12,13],[13,14])])
def impl_fill.B26:List Nat:=[0,0,3,7,0,0,0,96,224,0,992,2016,0,8160,16383,32767]
theorem impl_fill.tab26:rtab .any (opsOf Try.f108 26)=impl_fill.T26:=by kernel_rfl
theorem impl_fill.bits26:waitsOk impl_fill.T26.2 impl_fill.B26=true:=by kernel_rfl
def impl_fill.T36:Bool×List (List Nat×List Nat):=(true,[([],[]),([],[]),([0,1],[0,1]),([2],[2]),([],[]),([3,4],[3,4]),([5],[5]),([],[]),([],[]),([],[]),([8,9],[8,9]),([10],[10]),([],[]),([11,12],[11,12]),([13],[13]),([7,14],[7,14]),([6,15],[6,15]),([3,4,0,1,2,3,4,5,6,7,8,9,10,11,12,13,14,15,16],[3,4]),([17,16,15,0,1,2,3,4,5,6,7,8,9,10,11,12,13,14,15,16],[16,17])])
def impl_fill.B36:List Nat:=[0,0,3,7,0,31,63,0,0,0,768,1792,0,7936,16128,32640,65535,131071,262143]
theorem impl_fill.tab36:rtab .any (opsOf Try.f108 36)=impl_fill.T36:=by kernel_rfl
theorem impl_fill.bits36:waitsOk impl_fill.T36.2 impl_fill.B36=true:=by kernel_rfl
def impl_fill.T50:Bool×List (List Nat×List Nat):=(true,[([],[]),([],[]),([0,1],[0,1]),([2],[2]),([],[]),([],[]),([4,5],[4,5]),([6],[6]),([],[]),([7,8],[7,8]),([9],[9]),([10],[10]),([3,11],[3,11]),([0,1,0,1,2,3,4,5,6,7,8,9,10,11,12],[0,1]),([13,12,0,1,2,3,4,5,6,7,8,9,10,11,12],[12,13])])
def impl_fill.B50:List Nat:=[0,0,3,7,0,0,48,112,0,496,1008,2032,4095,8191,16383]
theorem impl_fill.tab50:rtab .any (opsOf Try.f108 50)=impl_fill.T50:=by kernel_rfl
theorem impl_fill.bits50:waitsOk impl_fill.T50.2 impl_fill.B50=true:=by kernel_rfl
theorem impl_fill.calls (k:Nat) (A0:Option Addr) (c0:Nat) (l0:List Int) (A1:Option Addr) (c1:Nat) (l1:List Int) (a2:Int) (r1:List Int) (r2:Bool) (w:World) (hr0:Kd.C (Kd.int .u8) w A0 l0.length l0) (hc0:l0.length≤c0) (hr1:Kd.C (Kd.int .i64) w A1 l1.length l1) (hc1:l1.length≤c1) (h:impl_fill.f k l0 l1 a2=some (r1,r2)):
 Calls Try.prog 108 #[.slice A0 l0.length c0, .slice A1 l1.length c1, .int .i64 a2] w fun e w'=>∃v0_:Value,e= .returned (.tuple #[v0_, .bool r2])∧Kd.R (Kd.int .u8) 5 w' w.heap.size (fun _=>True) v0_ r1∧Below w.heap.size w w':=by
 have HR0:=zM hr0
 have HC0:=zM hc0
 have HR1:=zM hr1
 have HC1:=zM hc1
 clear hr0 hc0 hr1 hc1
 have HB:=zM (Below.refl w.heap.size w)
 unfold impl_fill.f at h
 by_cases hin:flIn l0 l1 a2
 case neg=>rw[if_neg hin] at h;exact absurd h (by simp)
 rw[if_pos hin] at h
 obtain⟨rows0,hrows0,h⟩:=zO.mp h
 obtain⟨rowsE,hrowsE,h⟩:=zO.mp h
 obtain⟨M,hM⟩:∃M:Nat,wrap64 (2*a2)=(M:Int):=⟨(2*a2).toNat,by have:=hin.1;unfold wrap64;omega⟩
 have hM2:(2*a2).toNat=M:=by have:=hin.1;unfold wrap64 at hM;omega
 rw[hM2] at hrows0
 have hMb:M≤2000:=by have:=hin.1;omega
 have hnM:l1.length≤M:=by have:=hin.2.1;omega
 have hMw:IntKind.i64.wrap (2*a2)=(M:Int):=(i64_w _).trans hM
 have HIN:=zM hin
 have HH:=zM h
 have HRW:=zM hrows0
 have HEL:=zM hrowsE
 have HMB:=zM hMb
 have HNM:=zM hnM
 have HLR:=zM (flRows_len k l0 l1 M 0 [] rows0 hrows0 (fun _ h_=>by cases h_))
 clear hin h hrows0 hrowsE hMb hnM hM hM2
 have h0M:0≤(M:Int):=by omega
 have hlM:((M:Int)).toNat*24≤281474976710656:=zl1 HMB
 go_enter Try.func108,Try.ntmps108
 go_wp2_with ((with_reducible refine gate_dst (N:=29) rfl ?_);refine Kd.S_make (Kd.slice 3 (Kd.int .i64)) (w0:=w) w.heap.size 46 rfl (N:=29) rfl 114 _ _ rfl (M:Int) rfl rfl Try.underlying114 (.slice none 0 0) 24 info46 rfl (by decide) (by omega) [] (ok:=fun _=>True) (okp:=fun _=>True) ⟨.slice none 0 0,rfl,Kd.R_nil _ _ _ _ _⟩ (fun _ hk=>hk) trivial h0M hlM HB.out (Nat.le_refl _) ?_;intro v9 w4 ho hb hg_ hnew_;clear hg_ hnew_;rw[Int.toNat_natCast] at ho;obtain⟨A9,c9,e9⟩:=Kd.S_slice ho;subst e9;rw[List.length_replicate] at ho;rw[List.length_replicate];have HO9:=zM ho;have HB4:=zM hb;clear ho hb)
 clear HB
 (try simp only[Act.put,zL1,zL2,zL3])
 go_loopw [32] (fun u32 W=>∃(i:Int) (acc:List (List Int)),u32= .int .i64 i∧Aside0 (0≤i∧i≤(M:Int))∧Aside0 ((acc.length:Int)=i)∧Aside0 (flRows k l0 l1 (M-i.toNat) i.toNat acc=some rows0)∧Aside0 (Kd.S (Kd.slice 3 (Kd.int .i64)) 46 W w.heap.size (fun _=>True) (.slice A9 M c9) (acc++List.replicate (M-i.toNat) []))∧Aside0 (Below w.heap.size w W)) (fun v _=>M-(match v with| .int _ n=>n.toNat|_=>0))
 case atStart=>exact⟨0,[],rfl,⟨by omega⟩,⟨rfl⟩,⟨by simpa using HRW.out⟩,⟨by simpa using HO9.out⟩,HB4⟩
 case round =>
  clear HO9 HB4
  obtain⟨i,acc,rfl,HI,HAL,HF,HO,HB⟩:=hrel
  obtain⟨Wo,hWo⟩:∃W,W=wr:=⟨_,rfl⟩
  subst hWo
  by_cases hi:i<(M:Int)
  case pos=>
   have hlt:decide (i<(M:Int))=true:=zE hi
   obtain⟨i0,i1⟩:=HI.out
   have hF:=HF.out
   rw[flRows_step k l0 l1 i0 hi] at hF
   obtain⟨rowi,hrowi,hF⟩:=zO.mp hF
   have HFi:=zM hF
   have HRi:=zM hrowi
   obtain⟨m,hm⟩:∃m,M-i.toNat=m+1:=⟨M-i.toNat-1,by omega⟩
   have hai:acc.length=i.toNat:=zl1 HAL
   have HO2:=HO.out
   rw[hm] at HO2
   have HXL:=zM (show(acc++List.replicate (m+1) ([]:List Int)).length=M by simp;omega)
   have HXS:=zM (show ∀y,(acc++List.replicate (m+1) []).set i.toNat y=acc++[y]++List.replicate (M-(i+1).toNat) [] from fun y=>by rw[←hai,flAccSet,show M-(i+1).toNat=m by omega])
   have HXG:(acc++List.replicate (m+1) []).getD i.toNat []=([]:List Int):=by rw[←hai];exact flAccGet acc m
   generalize acc++List.replicate (m+1) []=X at HO2 HXL HXS HXG
   have HO3:=zM (show Kd.S (Kd.slice 3 (Kd.int .i64)) 46 Wo w.heap.size (fun _=>True) (.slice A9 M c9) (X.set i.toNat []) from by rw[←HXG,show X.set i.toNat (X.getD i.toNat [])=X from flSetGet (rows:=X) (i:=i)];exact HO2)
   have HQ:=zM hi
   have HW:=zM (flW i0 (zl1 HMB):wrap64 (i+1)=i+1)
   clear hF hrowi hm hai HO2 HO HF HXG hi
   go_wp2
   (try simp only[Act.put,zL1,zL2,zL3])
   go_loopw [37] (fun u37 W=>∃(j:Int) (cur:List Int),u37= .int .i64 j∧Aside0 (0≤j∧j≤(l1.length:Int))∧Aside0 ((cur.length:Int)=j)∧Aside0 (flRow k l0 i (l1.drop j.toNat) cur=some rowi)∧Aside0 (Kd.S (Kd.slice 3 (Kd.int .i64)) 46 W w.heap.size (fun _=>True) (.slice A9 M c9) (X.set i.toNat cur))∧Aside0 (Below w.heap.size w W)) (fun v _=>l1.length-(match v with| .int _ n=>n.toNat|_=>0))
   case atStart=>exact⟨0,[],rfl,⟨by omega⟩,⟨rfl⟩,⟨by simpa using HRi.out⟩,HO3,HB⟩
   case round=>
    clear HO3 HB
    obtain⟨j,cur,rfl,HJ,HCL,HG,HO,HB⟩:=hrel
    obtain⟨Wi,hWi⟩:∃W,W=wr:=⟨_,rfl⟩
    subst hWi
    by_cases hj:j<(l1.length:Int)
    case pos=>
     have hltj:decide (j<(l1.length:Int))=true:=zE hj
     obtain⟨j0,j1⟩:=HJ.out
     have hG:=HG.out
     rw[flRow_step k l0 i j0 hj] at hG
     obtain⟨t,ht,hG⟩:=zO.mp hG
     have HT:=zM ht
     have HGn:=zM hG
     obtain⟨ad1,e1,hx1⟩:=Kd.at_int HR1.out j j0 hj
     subst e1
     have hx1w:=(HB.out.cell (zW w _ hx1)).trans hx1
     have HWj:=zM (flW j0 (zl2 HMB HNM):wrap64 (j+1)=j+1)
     have HQj:=zM hj
     have pj:=eq_true j0
     have qj:=eq_true hj
     have pi:=eq_true i0
     have qi:=eq_true HQ.out
     clear hG ht hj hx1
     go_wp2
     have HOd:=zM (Kd.S_drew HO.out)
     have HBd:=zM (zBd HB.out)
     clear HO HB
     obtain⟨g9,c9b,e9b,hb9,_,_⟩:=Kd.S_form HOd.out (by rw[List.length_set,HXL.out];have:=HQ.out;omega)
     injection e9b with ea9 en9 ec9
     subst ea9
     clear ec9 en9
     obtain⟨ve,okv,hve,hvf,hvn,hvk,hvR,hvS⟩:=flApp HOd.out i i0 HQ.out
     have hcu:(X.set i.toNat cur).getD i.toNat []=cur:=flSetSelf (rows:=X) i0 (by rw[HXL.out];exact HQ.out) cur
     rw[hcu] at hvR
     have hla:(cur.length+1)*8≤140737488355328:=by have:=HCL.out;have:=HNM.out;have:=HMB.out;omega
     clear hvS hvk hvR hvf hvn
     refine start_ (n:=18) (S:=fun w'=>w'.cell? ⟨g9,i.toNat,none⟩=some ve) (ds:=[15,17]) #[zf,zf,zf,zf,zf,zf,zf,zf,zf,zf,zf,zf,zf,zf,zf,zf,zf,zf] ze rfl rfl (hve) (fun hHeld=> ?_)
     refine with_tabW impl_fill.tab9 impl_fill.bits9 (fun HT_ HW_=> ?_)
     generalize Wi.drew=W9 at HOd HBd hve hHeld ⊢
     refine zu 0 41 ?_
     refine zu 1 42 ?_
     refine zu 2 43 ?_
     refine zu 3 44 ?_
     refine zu 4 45 ?_
     refine zu 6 47 ?_
     refine zu 7 48 ?_
     refine zu 8 49 ?_
     refine zu 9 50 ?_
     refine zu 10 51 ?_
     refine zu 11 52 ?_
     refine zu 12 53 ?_
     refine take_ (i:=5) (N:=some 46) (v:= ?_) (a':= ?_) #[zt,zt,zt,zt,zt,zt,zt,zt,zt,zt,zt,zt,zt,zf,zf,zf,zf,zf] rfl rfl (take_ofW HT_.out HW_.out ze) (fun _ _ _ h=>h) (Or.inl ⟨by rfl,?_⟩) hHeld ?_ ?_
     rotate_left
     ·intro w' s0
      go_simp
      with_reducible rfl
     rotate_left
     ·simp only[Act.put,zL1,zL2,zL3,i64_w,i32_w]
      rfl
     refine one_ (i:=13) (N:=some 54) #[zt,zt,zt,zt,zt,zt,zt,zt,zt,zt,zt,zt,zt,zt,zf,zf,zf,zf] rfl rfl (one_of HT_.out ze) (by decide) (fun K hK=> ?_)
     refine goes_ Try.func85 ze rfl #[.int .i64 (wrap64 (wrap64 (wrap64 ((l0.length:Int)-1)-rd l1 j)*i))] (by rfl) rfl rfl (by(try simp only[List.map_toArray,List.map_cons,List.map_nil]);first|done|rfl) ?_
     with_reducible refine(impl_gfPow.calls k (wrap64 (wrap64 (wrap64 ((l0.length:Int)-1)-rd l1 j)*i)) t _ HT.out).mono ?_
     rintro e w' ⟨rfl,⟨nd,rfl⟩⟩
     refine⟨_,rfl,?_⟩
     refine hK.out _ _ (hHeld) (fun hHeld=> ?_)
     clear hK K
     refine norm_ (a':= ?_) ?_ ?_
     rotate_left
     ·show Act.put _ (some 54) _=_
      simp only[Act.put,zL1,zL2,zL3,i64_w,i32_w]
      rfl
     refine one_ (i:=14) (N:=some 55) #[zt,zt,zt,zt,zt,zt,zt,zt,zt,zt,zt,zt,zt,zt,zt,zf,zf,zf] rfl rfl (one_of HT_.out ze) (by decide) (fun K hK=> ?_)
     refine value_ (w1:= ?_) (v:= ?_) (by rfl) rfl ?_ ?_
     rotate_left 2
     ·go_simp
      constructor
      ·rfl
      ·rfl
     refine hK.out _ _ (fl_alloc hHeld _) (fun hHeld=> ?_)
     clear hK K
     refine norm_ (a':= ?_) ?_ ?_
     rotate_left
     ·show Act.put _ (some 55) _=_
      simp only[Act.put,zL1,zL2,zL3,i64_w,i32_w]
      rfl
     refine last_ (i:=15) (N:=some 56) #[zt,zt,zt,zt,zt,zt,zt,zt,zt,zt,zt,zt,zt,zt,zt,zt,zf,zf] rfl rfl (one_of HT_.out ze) (by decide) (fun K hK=> ?_)
     have HOn:=zM (Kd.S_drewN HOd.out nd)
     have HBn:=zM (zBn HBd.out nd)
     obtain⟨ve2,okv,hve2,hvf,hvn,hvk,hvR,hvS⟩:=flApp HOn.out i i0 HQ.out
     have hve3:ve2=ve:=zI (hve2.symm.trans hve)
     subst hve3
     rw[hcu] at hvR
     simp only[flSetSet] at hvS
     refine Kd.R_append_step (Kd.int .i64) (w0:=w) w.heap.size (by rfl) (.tmp 46) (.tmp 55) 46 3 (.int .i64 0) 8 rfl Try.underlying46 info3 rfl (by decide) (by omega) ve2 cur t [.int .i64 t] okv (fun _=>False) rfl rfl rfl (fun _ hk=>hk.elim) hvk hvR HBn.out HBn.out.size hla ?_
     intro v1 w1 ho hb hg hat
     obtain⟨Ae,ce,ee⟩:=Kd.R_slice ho
     rw[List.length_append,List.length_singleton] at ee
     subst ee
     have HSn:=zM (hvS w1 _ _ hg ho)
     have HB1:=zM (zBs (v:= .slice Ae (cur.length+1) ce) (j:=i.toNat) hb hb9)
     have hc1:=fl_cell hg hvn hve2
     have hf1:=fl_frozen hg hvn hve2 hvf
     clear ho hb hg hat hvS hvR hvk hvn hvf hve2 hve HOn HBn HOd HBd
     refine hK.out _ _ ?_
     clear hK K
     refine norm_ (a':= ?_) ?_ ?_
     rotate_left
     ·show Act.put _ (some 56) _=_
      simp only[Act.put,zL1,zL2,zL3,i64_w,i32_w]
      rfl
     refine zu 16 57 ?_
     refine last_ (i:=17) (N:=none) #[zt,zt,zt,zt,zt,zt,zt,zt,zt,zt,zt,zt,zt,zt,zt,zt,zt,zt] rfl rfl (one_of HT_.out ze) (by decide) (fun K hK=> ?_)
     refine skip_ (w1:= ?_) (by rfl) rfl ?_ ?_
     rotate_left
     ·go_simp
      rfl
     refine hK.out _ _ ?_
     clear hK K
     refine done_ (done_of HT_.out ze) ?_
     try go_wp2
     go_roundw
     case rel=>exact⟨j+1,cur++[t],by first|rfl|rw[HWj.out],⟨zl2 HJ HQj⟩,⟨by have:=HCL.out;simp;omega⟩,HGn,HSn,HB1⟩
     case measure=>have:=HJ.out;have:=HQj.out;have:=HWj.out;first|(simp only[this];omega)|(simp;omega)|omega
    case neg=>
     have hltj:decide (j<(l1.length:Int))=false:=decide_eq_false hj
     have hje:j=(l1.length:Int):=zl1 HJ
     have hG:=HG.out
     rw[show j.toNat=l1.length by omega,List.drop_length] at hG
     simp only[flRow] at hG
     obtain⟨t,ht,hG⟩:=zO.mp hG
     have HT:=zM ht
     have HRE:=zM (zI hG:cur++[t]=rowi)
     obtain⟨i0,i1⟩:=HI.out
     have pi:=eq_true i0
     have qi:=eq_true HQ.out
     have HCn:=zM (show cur.length=l1.length from zl1 HCL)
     clear hG ht hj hje
     go_wp2
     have HOd:=zM (Kd.S_drew HO.out)
     have HBd:=zM (zBd HB.out)
     clear HO HB
     obtain⟨g9,c9b,e9b,hb9,_,_⟩:=Kd.S_form HOd.out (by rw[List.length_set,HXL.out];have:=HQ.out;omega)
     injection e9b with ea9 en9 ec9
     subst ea9
     clear ec9 en9
     obtain⟨ve,okv,hve,hvf,hvn,hvk,hvR,hvS⟩:=flApp HOd.out i i0 HQ.out
     have hcu:(X.set i.toNat cur).getD i.toNat []=cur:=flSetSelf (rows:=X) i0 (by rw[HXL.out];exact HQ.out) cur
     rw[hcu] at hvR
     have hla:(cur.length+1)*8≤140737488355328:=by have:=HCn.out;have:=HNM.out;have:=HMB.out;omega
     clear hvS hvk hvR hvf hvn
     refine start_ (n:=13) (S:=fun w'=>w'.cell? ⟨g9,i.toNat,none⟩=some ve) (ds:=[10,12]) #[zf,zf,zf,zf,zf,zf,zf,zf,zf,zf,zf,zf,zf] ze rfl rfl (hve) (fun hHeld=> ?_)
     refine with_tabW impl_fill.tab11 impl_fill.bits11 (fun HT_ HW_=> ?_)
     generalize Wi.drew=W9 at HOd HBd hve hHeld ⊢
     refine zu 0 59 ?_
     refine zu 1 60 ?_
     refine zu 2 61 ?_
     refine zu 3 62 ?_
     refine zu 4 63 ?_
     refine zu 6 65 ?_
     refine zu 7 66 ?_
     refine take_ (i:=5) (N:=some 64) (v:= ?_) (a':= ?_) #[zt,zt,zt,zt,zt,zt,zt,zt,zf,zf,zf,zf,zf] rfl rfl (take_ofW HT_.out HW_.out ze) (fun _ _ _ h=>h) (Or.inl ⟨by rfl,?_⟩) hHeld ?_ ?_
     rotate_left
     ·intro w' s0
      go_simp
      with_reducible rfl
     rotate_left
     ·simp only[Act.put,zL1,zL2,zL3,i64_w,i32_w]
      rfl
     refine one_ (i:=8) (N:=some 67) #[zt,zt,zt,zt,zt,zt,zt,zt,zt,zf,zf,zf,zf] rfl rfl (one_of HT_.out ze) (by decide) (fun K hK=> ?_)
     refine goes_ Try.func106 ze rfl #[.slice A0 l0.length c0, .int .i64 i] (by rfl) rfl rfl (by(try simp only[List.map_toArray,List.map_cons,List.map_nil]);first|done|rfl) ?_
     with_reducible refine(impl_value.calls k A0 c0 l0 i t _ (Kd.C_below HR0.out HBd.out) HC0.out HT.out).mono ?_
     rintro e w' ⟨rfl,⟨nd,rfl⟩⟩
     refine⟨_,rfl,?_⟩
     refine hK.out _ _ (hHeld) (fun hHeld=> ?_)
     clear hK K
     refine norm_ (a':= ?_) ?_ ?_
     rotate_left
     ·show Act.put _ (some 67) _=_
      simp only[Act.put,zL1,zL2,zL3,i64_w,i32_w]
      rfl
     refine one_ (i:=9) (N:=some 68) #[zt,zt,zt,zt,zt,zt,zt,zt,zt,zt,zf,zf,zf] rfl rfl (one_of HT_.out ze) (by decide) (fun K hK=> ?_)
     refine value_ (w1:= ?_) (v:= ?_) (by rfl) rfl ?_ ?_
     rotate_left 2
     ·go_simp
      constructor
      ·rfl
      ·rfl
     refine hK.out _ _ (fl_alloc hHeld _) (fun hHeld=> ?_)
     clear hK K
     refine norm_ (a':= ?_) ?_ ?_
     rotate_left
     ·show Act.put _ (some 68) _=_
      simp only[Act.put,zL1,zL2,zL3,i64_w,i32_w]
      rfl
     refine last_ (i:=10) (N:=some 69) #[zt,zt,zt,zt,zt,zt,zt,zt,zt,zt,zt,zf,zf] rfl rfl (one_of HT_.out ze) (by decide) (fun K hK=> ?_)
     have HOn:=zM (Kd.S_drewN HOd.out nd)
     have HBn:=zM (zBn HBd.out nd)
     obtain⟨ve2,okv,hve2,hvf,hvn,hvk,hvR,hvS⟩:=flApp HOn.out i i0 HQ.out
     have hve3:ve2=ve:=zI (hve2.symm.trans hve)
     subst hve3
     rw[hcu] at hvR
     simp only[flSetSet] at hvS
     refine Kd.R_append_step (Kd.int .i64) (w0:=w) w.heap.size (by rfl) (.tmp 64) (.tmp 68) 46 3 (.int .i64 0) 8 rfl Try.underlying46 info3 rfl (by decide) (by omega) ve2 cur t [.int .i64 t] okv (fun _=>False) rfl rfl rfl (fun _ hk=>hk.elim) hvk hvR HBn.out HBn.out.size hla ?_
     intro v1 w1 ho hb hg hat
     obtain⟨Ae,ce,ee⟩:=Kd.R_slice ho
     rw[List.length_append,List.length_singleton] at ee
     subst ee
     have HSn:=zM (hvS w1 _ _ hg ho)
     have HB1:=zM (zBs (v:= .slice Ae (cur.length+1) ce) (j:=i.toNat) hb hb9)
     have hc1:=fl_cell hg hvn hve2
     have hf1:=fl_frozen hg hvn hve2 hvf
     clear ho hb hg hat hvS hvR hvk hvn hvf hve2 hve HOn HBn HOd HBd
     refine hK.out _ _ ?_
     clear hK K
     refine norm_ (a':= ?_) ?_ ?_
     rotate_left
     ·show Act.put _ (some 69) _=_
      simp only[Act.put,zL1,zL2,zL3,i64_w,i32_w]
      rfl
     refine zu 11 70 ?_
     refine last_ (i:=12) (N:=none) #[zt,zt,zt,zt,zt,zt,zt,zt,zt,zt,zt,zt,zt] rfl rfl (one_of HT_.out ze) (by decide) (fun K hK=> ?_)
     refine skip_ (w1:= ?_) (by rfl) rfl ?_ ?_
     rotate_left
     ·go_simp
      rfl
     refine hK.out _ _ ?_
     clear hK K
     refine done_ (done_of HT_.out ze) ?_
     try go_wp2
     go_roundw
     case rel=>exact⟨i+1,acc++[rowi],by first|rfl|rw[HW.out],⟨zl2 HI HQ⟩,⟨by have:=HAL.out;simp;omega⟩,HFi,⟨by rw[←HXS.out,←HRE.out];exact HSn.out⟩,HB1⟩
     case measure=>have:=HI.out;have:=HQ.out;have:=HW.out;first|(simp only[this];omega)|(simp;omega)|omega
  case neg =>
   have hlt:decide (i<(M:Int))=false:=decide_eq_false hi
   have hacc:acc=rows0:=by
    have h_:=HF.out
    rw[show M-i.toNat=0 by have:=HI.out;omega] at h_
    exact zI h_
   have HOR:=HO.out
   rw[show M-i.toNat=0 from zl1 HI,hacc,List.replicate_zero,List.append_nil] at HOR
   have HS7:=zM HOR
   have HLR0:=zM (show rows0.length=M by have:=HLR.out.1;simpa using this)
   have HRL:=zM HLR.out.2
   clear hi HO HOR hacc HF HAL HI HRW HLR
   go_wp2
   (try simp only[Act.put,zL1,zL2,zL3])
   obtain⟨N,hN⟩:∃N:Nat,N=l1.length+1:=⟨_,rfl⟩
   rw[←hN] at HRL HEL
   have HN:=zM hN
   clear hN
   go_loopw [73] (fun u73 W=>∃(c:Int) (rows:List (List Int)),u73= .int .i64 c∧Aside0 (0≤c∧c≤(l1.length:Int))∧Aside0 (rows.length=M)∧Aside0 (∀r∈rows,r.length=N)∧Aside0 (flElim k N (l1.length-c.toNat) c.toNat rows=some rowsE)∧Aside0 (Kd.S (Kd.slice 3 (Kd.int .i64)) 46 W w.heap.size (fun _=>True) (.slice A9 M c9) (rows))∧Aside0 (Below w.heap.size w W)) (fun v _=>l1.length-(match v with| .int _ n=>n.toNat|_=>0))
   case atStart=>exact⟨0,rows0,rfl,⟨by omega⟩,HLR0,HRL,⟨by simpa using HEL.out⟩,HS7,HB⟩
   case round =>
    clear HS7 HRL HLR0 HB
    obtain⟨c,rows,rfl,HI,HLN,HRL,HEc,HS,HB⟩:=hrel
    obtain⟨Wc,hWc⟩:∃W,W=wr:=⟨_,rfl⟩
    subst hWc
    by_cases hc:c<(l1.length:Int)
    case pos =>
     have hltc:decide (c<(l1.length:Int))=true:=zE hc
     obtain⟨c0,c1⟩:=HI.out
     have hE:=HEc.out
     rw[flElim_step k _ c0 hc] at hE
     obtain⟨rowsN,hst,hE⟩:=zO.mp hE
     obtain⟨P,inv,rc,hPf,hPl,hinv,hsc,hcl⟩:=flStep_some c0 hst
     have HEn:=zM hE
     have HPF:=zM hPf
     have HPL:=zM (show P<M by rw[←HLN.out];exact hPl)
     have HINV:=zM hinv
     have HSC:=zM hsc
     have HCL:=zM hcl
     have HQ:=zM hc
     have HWc:=zM (flW c0 (zl2 HMB HNM):wrap64 (c+1)=c+1)
     have HC0:=zM c0
     have hcM:c<(M:Int):=zl1 HNM
     have HCM:=zM hcM
     have pc:=eq_true c0
     have qc:=eq_true hc
     clear hc hE hst hPf hPl hinv hsc hcl HEc
     go_wp2
     (try simp only[Act.put,zL1,zL2,zL3])
     go_loopw [14] (fun u14 W=>∃(p:Int),u14= .int .i64 p∧Aside0 (c≤p∧p≤(M:Int))∧Aside0 (flFind rows c (rows.length-p.toNat) p.toNat=P)∧Wc=W) (fun v _=>M-(match v with| .int _ n=>n.toNat|_=>0))
     case atStart=>exact⟨c,rfl,⟨by omega⟩,HPF,by first|rfl|trivial⟩
     case round =>
      clear HPF
      obtain⟨p,rfl,HP,HFP,rfl⟩:=hrel
      by_cases hp:p<(M:Int)
      case pos =>
       have hltp:decide (p<(M:Int))=true:=zE hp
       have hp0:0≤p:=zl1 HP
       have hrl:(flGet rows p).length=N:=HRL.out _ (flMem hp0 (by rw[HLN.out];exact hp))
       obtain⟨g9,c9b,e9b,hb9,_,_⟩:=Kd.S_form HS.out (by rw[HLN.out];omega)
       injection e9b with ea9 en9 ec9
       subst ea9
       clear ec9 en9
       obtain⟨gi,ci,hy1,hy2,hy3,hy4,hy5⟩:=flPutT HS.out p c hp0 hp c0 (by rw[hrl];have:=HQ.out;have:=HN.out;omega) 0
       rw[hrl] at hy1
       have p2:=eq_true hp0
       have q2:=eq_true hp
       have hcn:c<(N:Int):=zl2 HQ HN
       have q2b:=eq_true hcn
       have HPQ2:=zM hp
       have HW:=zM (flW hp0 (zl1 HMB):wrap64 (p+1)=p+1)
       have HFQ:=zM (flFind_at (rows:=rows) (c:=c) hp0 (by rw[HLN.out];exact hp))
       clear hp hrl hy3 hy4 hy5
       by_cases hz:rd (flGet rows p) c=0
       case pos=>
        have z1:(rd (flGet rows p) c==0)=true:=beq_iff_eq.mpr hz
        have z2:(rd (flGet rows p) c != 0)=false:=bne_eq_false_iff_eq.mpr hz
        have HZ:=zM hz
        clear hz
        go_wp2
        go_roundw
        case rel=>exact⟨p+1,by first|rfl|rw[HW.out],⟨zl2 HP HPQ2⟩,⟨by have h1:=HFP.out;rw[HFQ.out,if_pos HZ.out] at h1;exact h1⟩,by first|rfl|trivial⟩
        case measure=>have:=HP.out;have:=HPQ2.out;have:=HW.out;first|(simp only[this];omega)|(simp;omega)|omega
       case neg =>
        have z1:(rd (flGet rows p) c==0)=false:=beq_eq_false_iff_ne.mpr hz
        have z2:(rd (flGet rows p) c != 0)=true:=bne_iff_ne.mpr hz
        have HZ:=zM hz
        clear hz
        have hpe:(p==(M:Int))=false:=beq_eq_false_iff_ne.mpr (zl1 HPQ2)
        have hpe2:(p != (M:Int))=true:=bne_iff_ne.mpr (zl1 HPQ2)
        have HFP2:=zM (show P=p.toNat by have h1:=HFP.out;rw[HFQ.out,if_neg HZ.out] at h1;exact h1.symm)
        obtain⟨vi,vj,hi1,hj1,hfi,hfj,hS2,hg2⟩:=flS_swap (d:=Kd.slice 3 (Kd.int .i64)) rfl HS.out [] c p c0 HCM.out hp0 HPQ2.out
        obtain rfl:=zI (hj1.symm.trans hy1)
        obtain⟨ad7x,A2,cc2,e7x,hxj,_,_⟩:=at_flGet (Kd.S_reads' HS.out).2.2 c c0 (by rw[HLN.out];exact HCM.out)
        injection e7x with e7x
        subst e7x
        rw[add_plain] at hxj
        obtain rfl:=zI (hi1.symm.trans hxj)
        have HS6:=zM (show Kd.S (Kd.slice 3 (Kd.int .i64)) 46 _ w.heap.size (fun _=>True) (.slice (some ⟨g9,0,none⟩) M c9) (flSwap rows c.toNat p.toNat) from hS2)
        have HB6:=zM (zBs (zBs (v:= .slice (some ⟨gi,0,none⟩) N ci) (j:=c.toNat) HB.out hb9) hb9 (v:= .slice A2 (flGet rows c).length cc2) (j:=p.toNat))
        obtain⟨y,hy⟩:=cell?_setCell_some (p:=⟨g9,c.toNat,none⟩) (x:= .slice (some ⟨gi,0,none⟩) N ci) hj1
        have hfj2:(Wc.setCell ⟨g9,c.toNat,none⟩ (.slice (some ⟨gi,0,none⟩) N ci)).frozen? ⟨g9,p.toNat,none⟩=false:=by rw[World.frozen?_setCell];exact hfj
        have p3:=eq_true c0
        have q3:=eq_true HCM.out
        have HRL6:=zM (flSwapRow HRL.out (p:=c.toNat) (q:=p.toNat) (zl2 HLN HCM) (zl2 HLN HPQ2))
        have HLN6:=zM (show(flSwap rows c.toNat p.toNat).length=M by rw[flSwapLen];exact HLN.out)
        obtain⟨y2,hyb⟩:=cell?_setCell_some (p:=⟨g9,p.toNat,none⟩) (x:= .slice A2 (flGet rows c).length cc2) hi1
        clear hS2 hg2 HFP HFQ HZ HS
        go_wp2
        go_region
        generalize (Wc.setCell ⟨g9,c.toNat,none⟩ (.slice (some ⟨gi,0,none⟩) N ci)).setCell ⟨g9,p.toNat,none⟩ (.slice A2 (flGet rows c).length cc2)=W5 at HS6 HB6 ⊢
        have HS6d:=zM (Kd.S_drew HS6.out)
        have HB6d:=zM (zBd HB6.out)
        clear HS6 HB6 HB
        generalize W5.drew=W6 at HS6d HB6d ⊢
        have hinv:=HINV.out
        have hsc:=HSC.out
        have hcl:=HCL.out
        rw[HFP2.out] at hinv hsc hcl
        generalize hr6:flSwap rows c.toNat p.toNat=rows6 at HS6d HRL6 HLN6 hinv hsc hcl
        have HINV2:=zM hinv
        have HSC2:=zM hsc
        have HCL2:=zM (show flClear k N c.toNat M 0 (rows6.set c.toNat rc)=some rowsN by rw[←HLN.out];exact hcl)
        clear hr6 hy hyb hfj2 hi1 hj1 hfi hfj hy1 hy2 hxj z1 z2 hpe hpe2 hinv hsc hcl HINV HSC HCL
        have hrlc:(flGet rows6 c).length=N:=HRL6.out _ (flMem c0 (by rw[HLN6.out];exact HCM.out))
        obtain⟨gc,cc,hy1,hy2,hy3,_,_⟩:=flPutT HS6d.out c c c0 HCM.out c0 (by rw[hrlc];exact hcn) 0
        rw[hrlc] at hy1
        have HRLc:=zM hrlc
        clear hrlc hy3
        go_wp2_with (go_at_call 123;(with_reducible refine(impl_GfInv.calls k (rd (flGet rows6 c) c) inv _ HINV2.out).mono ?_);rintro e w7 ⟨rfl,⟨nd,rfl⟩⟩;have HS7:=zM (Kd.S_drewN HS6d.out nd);have HB7:=zM (zBn HB6d.out nd);have hy1n:(W6.drewN nd).cell? ⟨g9,c.toNat,none⟩=some (Value.slice (some ⟨gc,0,none⟩) N cc):=hy1;clear hy1 hy2 HS6d HB6d;generalize W6.drewN nd=W7 at HS7 HB7 hy1n ⊢)
        (try simp only[Act.put,zL1,zL2,zL3])
        have HSs:=zM (show Kd.S (Kd.slice 3 (Kd.int .i64)) 46 W7 w.heap.size (fun _=>True) (.slice (some ⟨g9,0,none⟩) M c9) (rows6.set c.toNat (flGet rows6 c)) from by rw[flSetGet];exact HS7.out)
        clear hy1n HS7
        go_loopw [124] (fun u124 W=>∃(j:Int) (row:List Int),u124= .int .i64 j∧Aside0 (0≤j∧j≤(N:Int))∧Aside0 (row.length=N)∧Aside0 (flScale k inv (N-j.toNat) j.toNat row=some rc)∧Aside0 (Kd.S (Kd.slice 3 (Kd.int .i64)) 46 W w.heap.size (fun _=>True) (.slice (some ⟨g9,0,none⟩) M c9) (rows6.set c.toNat row))∧Aside0 (Below w.heap.size w W)) (fun v _=>N-(match v with| .int _ n=>n.toNat|_=>0))
        case atStart=>exact⟨0,flGet rows6 c,rfl,⟨by omega⟩,HRLc,⟨by simpa using HSC2.out⟩,HSs,HB7⟩
        case round=>
         clear HSs HB7
         obtain⟨j,row,rfl,HJ,HRW2,HX,HS,HB⟩:=hrel
         obtain⟨Wj,hWj⟩:∃W,W=wr:=⟨_,rfl⟩
         subst hWj
         by_cases hj:j<(N:Int)
         case pos=>
          have hltj:decide (j<(N:Int))=true:=zE hj
          obtain⟨j0,j1⟩:=HJ.out
          have hX:=HX.out
          rw[flScale_step k inv row j0 hj] at hX
          obtain⟨x,hx,hX⟩:=zO.mp hX
          have HMX:=zM hx
          have HXn:=zM hX
          have HQj:=zM hj
          have HWj:=zM (flW j0 (by have:=HMB.out;have:=HNM.out;have:=HN.out;omega):wrap64 (j+1)=j+1)
          have pj:=eq_true j0
          have qj:=eq_true hj
          clear hX hx hj
          go_wp2
          have HSd:=zM (Kd.S_drew HS.out)
          have HBd:=zM (zBd HB.out)
          clear HS HB
          have hself:flGet (rows6.set c.toNat row) c=row:=flSetSelf c0 (by rw[HLN6.out];exact HCM.out) row
          obtain⟨gi2,ci2,hy1,hy2,hy3,hy4,hy5⟩:=flPutT HSd.out c j c0 HCM.out j0 (by rw[hself,HRW2.out];exact HQj.out) x
          rw[hself,HRW2.out] at hy1
          rw[hself] at hy2
          clear hy3 hy4 hy5
          refine start_ (n:=16) (S:=fun w'=>w'.cell? ⟨g9,c.toNat,none⟩=some (.slice (some ⟨gi2,0,none⟩) N ci2)∧w'.cell? ⟨gi2,j.toNat,none⟩=some (.int .i64 (rd row j))) (ds:=[15]) #[zf,zf,zf,zf,zf,zf,zf,zf,zf,zf,zf,zf,zf,zf,zf,zf] ze rfl rfl (⟨hy1,hy2⟩) (fun hHeld=> ?_)
          refine with_tabW impl_fill.tab26 impl_fill.bits26 (fun HT_ HW_=> ?_)
          generalize Wj.drew=W9 at HSd HBd hy1 hy2 hHeld ⊢
          refine zu 0 127 ?_
          refine zu 1 128 ?_
          refine zu 2 129 ?_
          refine zu 4 131 ?_
          refine zu 5 132 ?_
          refine zu 6 133 ?_
          refine zu 7 134 ?_
          refine zu 9 136 ?_
          refine zu 12 139 ?_
          refine take_ (i:=3) (N:=some 130) (v:= ?_) (a':= ?_) #[zt,zt,zt,zt,zt,zt,zt,zt,zf,zt,zf,zf,zt,zf,zf,zf] rfl rfl (take_ofW HT_.out HW_.out ze) (fun _ _ _ h=>h) (Or.inl ⟨by rfl,?_⟩) hHeld ?_ ?_
          rotate_left
          ·intro w' s0
           go_simp
           with_reducible rfl
          rotate_left
          ·simp only[Act.put,zL1,zL2,zL3,i64_w,i32_w]
           rfl
          refine take_ (i:=8) (N:=some 135) (v:= ?_) (a':= ?_) #[zt,zt,zt,zt,zt,zt,zt,zt,zt,zt,zf,zf,zt,zf,zf,zf] rfl rfl (take_ofW HT_.out HW_.out ze) (fun _ _ _ h=>h) (Or.inl ⟨by rfl,?_⟩) hHeld ?_ ?_
          rotate_left
          ·intro w' s0
           go_simp
           with_reducible rfl
          rotate_left
          ·simp only[Act.put,zL1,zL2,zL3,i64_w,i32_w]
           rfl
          refine zu 10 137 ?_
          refine take_ (i:=11) (N:=some 138) (v:= ?_) (a':= ?_) #[zt,zt,zt,zt,zt,zt,zt,zt,zt,zt,zt,zt,zt,zf,zf,zf] rfl rfl (take_ofW HT_.out HW_.out ze) (fun _ _ _ h=>h) (Or.inl ⟨by rfl,?_⟩) hHeld ?_ ?_
          rotate_left
          ·intro w' s0
           go_simp
           with_reducible rfl
          rotate_left
          ·simp only[Act.put,zL1,zL2,zL3,i64_w,i32_w]
           rfl
          refine one_ (i:=13) (N:=some 140) #[zt,zt,zt,zt,zt,zt,zt,zt,zt,zt,zt,zt,zt,zt,zf,zf] rfl rfl (one_of HT_.out ze) (by decide) (fun K hK=> ?_)
          refine goes_ Try.func87 ze rfl #[.int .i64 (rd row j), .int .i64 inv] (by rfl) rfl rfl (by(try simp only[List.map_toArray,List.map_cons,List.map_nil]);first|done|rfl) ?_
          with_reducible refine(impl_GfMul.calls k (rd row j) inv x _ HMX.out).mono ?_
          rintro e w' ⟨rfl,⟨nd,rfl⟩⟩
          refine⟨_,rfl,?_⟩
          have HSm:=zM (Kd.S_drewN HSd.out nd)
          have HBm:=zM (zBn HBd.out nd)
          obtain⟨gi3,ci3,hz1,hz2,hz3,hz4,hz6⟩:=flPutT HSm.out c j c0 HCM.out j0 (by rw[hself,HRW2.out];exact HQj.out) x
          rw[hself,HRW2.out] at hz1
          have hv_:=zI (hz1.symm.trans hy1)
          injection hv_ with ha_ hn_ hc_
          injection ha_ with ha_
          injection ha_ with ha_
          subst ha_
          subst hc_
          rw[hself,flSetSet] at hz6
          have HSn:=zM hz6
          have HBn:=zM (zBs (v:= .int .i64 x) (j:=j.toNat) HBm.out hz4)
          clear hz1 hz4 hz6
          refine hK.out _ _ (hHeld) (fun hHeld=> ?_)
          clear hK K
          refine norm_ (a':= ?_) ?_ ?_
          rotate_left
          ·show Act.put _ (some 140) _=_
           simp only[Act.put,zL1,zL2,zL3,i64_w,i32_w]
           rfl
          refine zu 14 141 ?_
          refine last_ (i:=15) (N:=none) #[zt,zt,zt,zt,zt,zt,zt,zt,zt,zt,zt,zt,zt,zt,zt,zt] rfl rfl (one_of HT_.out ze) (by decide) (fun K hK=> ?_)
          refine skip_ (w1:= ?_) (by rfl) rfl ?_ ?_
          rotate_left
          ·go_simp
           rfl
          refine hK.out _ _ ?_
          clear hK K
          refine done_ (done_of HT_.out ze) ?_
          try go_wp2
          go_roundw
          case rel=>exact⟨j+1,row.set j.toNat x,by first|rfl|rw[HWj.out],⟨zl2 HJ HQj⟩,⟨by rw[List.length_set];exact HRW2.out⟩,HXn,HSn,HBn⟩
          case measure=>have:=HJ.out;have:=HQj.out;have:=HWj.out;first|(simp only[this];omega)|(simp;omega)|omega
         case neg=>
          have hltj:decide (j<(N:Int))=false:=decide_eq_false hj
          have hrow:row=rc:=by
           have h_:=HX.out
           rw[show N-j.toNat=0 by have:=HJ.out;omega] at h_
           exact zI h_
          have HS8:=zM (show Kd.S (Kd.slice 3 (Kd.int .i64)) 46 Wj w.heap.size (fun _=>True) (.slice (some ⟨g9,0,none⟩) M c9) (rows6.set c.toNat rc) from by rw[←hrow];exact HS.out)
          have HRL8:=zM (show ∀r∈rows6.set c.toNat rc,r.length=N from flSetRow HRL6.out _ (by rw[←hrow];exact HRW2.out))
          have HLN8:=zM (show(rows6.set c.toNat rc).length=M by rw[List.length_set];exact HLN6.out)
          generalize rows6.set c.toNat rc=rows8 at HS8 HRL8 HLN8 HCL2
          have HCL3:=zM (show flClear k N c.toNat (M-(0:Int).toNat) (0:Int).toNat rows8=some rowsN from HCL2.out)
          clear hj hrow HS HX HRL6 HLN6 HCL2 HSC2 HINV2
          go_wp2
          (try simp only[Act.put,zL1,zL2,zL3])
          go_loopw [145] (fun u145 W=>∃(i2:Int) (rows2:List (List Int)),u145= .int .i64 i2∧Aside0 (0≤i2∧i2≤(M:Int))∧Aside0 (rows2.length=M)∧Aside0 (∀r∈rows2,r.length=N)∧Aside0 (flClear k N c.toNat (M-i2.toNat) i2.toNat rows2=some rowsN)∧Aside0 (Kd.S (Kd.slice 3 (Kd.int .i64)) 46 W w.heap.size (fun _=>True) (.slice (some ⟨g9,0,none⟩) M c9) (rows2))∧Aside0 (Below w.heap.size w W)) (fun v _=>M-(match v with| .int _ n=>n.toNat|_=>0))
          case atStart=>exact⟨0,rows8,rfl,⟨by omega⟩,HLN8,HRL8,HCL3,HS8,HB⟩
          case round=>
           clear HS8 HRL8 HLN8 HCL3 HB
           obtain⟨i2,rows2,rfl,HI2,HLN2,HRL2,HC2,HS,HB⟩:=hrel
           obtain⟨Wd,hWd⟩:∃W,W=wr:=⟨_,rfl⟩
           subst hWd
           by_cases hi2:i2<(M:Int)
           case pos=>
            have hlt2:decide (i2<(M:Int))=true:=zE hi2
            obtain⟨i20,i21⟩:=HI2.out
            have hrl2:(flGet rows2 i2).length=N:=HRL2.out _ (flMem i20 (by rw[HLN2.out];exact hi2))
            obtain⟨gi,ci,hy1,hy2,hy3,hy4,hy5⟩:=flPutT HS.out i2 c i20 hi2 c0 (by rw[hrl2];have:=HQ.out;have:=HN.out;omega) 0
            rw[hrl2] at hy1
            have p4:=eq_true i20
            have q4:=eq_true hi2
            have HQ2:=zM hi2
            have HW2:=zM (flW i20 (zl1 HMB):wrap64 (i2+1)=i2+1)
            have hC:=HC2.out
            rw[flClear_step k N rows2 c0 i20 hi2] at hC
            obtain⟨rowsM,hst,hC⟩:=zO.mp hC
            have HCn:=zM hC
            have HRN:=zM hrl2
            have hcn:c<(N:Int):=zl2 HQ HN
            have q2b:=eq_true hcn
            clear hi2 hrl2 hC hy3 hy4 hy5
            by_cases hia:i2=c
            case pos=>
             have n1:(i2==c)=true:=beq_iff_eq.mpr hia
             have n2:(i2 != c)=false:=bne_eq_false_iff_eq.mpr hia
             rw[if_neg (fun h_=>h_.1 hia)] at hst
             have HRM:=zM (zI hst)
             clear hia hst
             go_wp2
             go_roundw
             case rel=>exact⟨i2+1,rows2,by first|rfl|rw[HW2.out],⟨zl2 HI2 HQ2⟩,HLN2,HRL2,⟨by rw[HRM.out];exact HCn.out⟩,HS,HB⟩
             case measure=>have:=HI2.out;have:=HQ2.out;have:=HW2.out;first|(simp only[this];omega)|(simp;omega)|omega
            case neg=>
             have n1:(i2==c)=false:=beq_eq_false_iff_ne.mpr hia
             have n2:(i2 != c)=true:=bne_iff_ne.mpr hia
             have HIA:=zM hia
             by_cases hz1:rd (flGet rows2 i2) c=0
             case pos=>
              have z3:(rd (flGet rows2 i2) c==0)=true:=beq_iff_eq.mpr hz1
              have z4:(rd (flGet rows2 i2) c != 0)=false:=bne_eq_false_iff_eq.mpr hz1
              rw[if_neg (fun h_=>h_.2 hz1)] at hst
              have HRM:=zM (zI hst)
              clear hia hst hz1
              go_wp2
              go_roundw
              case rel=>exact⟨i2+1,rows2,by first|rfl|rw[HW2.out],⟨zl2 HI2 HQ2⟩,HLN2,HRL2,⟨by rw[HRM.out];exact HCn.out⟩,HS,HB⟩
              case measure=>have:=HI2.out;have:=HQ2.out;have:=HW2.out;first|(simp only[this];omega)|(simp;omega)|omega
             case neg=>
              have z3:(rd (flGet rows2 i2) c==0)=false:=beq_eq_false_iff_ne.mpr hz1
              have z4:(rd (flGet rows2 i2) c != 0)=true:=bne_iff_ne.mpr hz1
              rw[if_pos ⟨hia,hz1⟩] at hst
              obtain⟨rX,hrX,hst⟩:=zO.mp hst
              have HRM:=zM (zI hst:rows2.set i2.toNat rX=rowsM)
              have HRX:=zM hrX
              clear hia hst hz1 hrX
              go_wp2
              (try simp only[Act.put,zL1,zL2,zL3])
              clear hy1 hy2
              obtain⟨f,hf⟩:∃f,rd (flGet rows2 i2) c=f:=⟨_,rfl⟩
              rw[hf] at HRX ⊢
              have HXL2:=zM (show(flGet rows2 c).length=N from HRL2.out _ (flMem c0 (by rw[HLN2.out];exact HCM.out)))
              have HSi:=zM (show Kd.S (Kd.slice 3 (Kd.int .i64)) 46 Wd w.heap.size (fun _=>True) (.slice (some ⟨g9,0,none⟩) M c9) (rows2.set i2.toNat (flGet rows2 i2)) from by rw[flSetGet];exact HS.out)
              clear z3 z4 hf
              go_loopw [167] (fun u167 W=>∃(k2:Int) (row:List Int),u167= .int .i64 k2∧Aside0 (0≤k2∧k2≤(N:Int))∧Aside0 (row.length=N)∧Aside0 (flXor k f (flGet rows2 c) (N-k2.toNat) k2.toNat row=some rX)∧Aside0 (Kd.S (Kd.slice 3 (Kd.int .i64)) 46 W w.heap.size (fun _=>True) (.slice (some ⟨g9,0,none⟩) M c9) (rows2.set i2.toNat row))∧Aside0 (Below w.heap.size w W)) (fun v _=>N-(match v with| .int _ n=>n.toNat|_=>0))
              case atStart=>exact⟨0,flGet rows2 i2,rfl,⟨by omega⟩,HRN,⟨by simpa using HRX.out⟩,HSi,HB⟩
              case round=>
               clear HSi HS HB
               obtain⟨k2,row,rfl,HK2,HRW,HX3,HS,HB⟩:=hrel
               obtain⟨We,hWe⟩:∃W,W=wr:=⟨_,rfl⟩
               subst hWe
               by_cases hk2:k2<(N:Int)
               case pos=>
                have hlt3:decide (k2<(N:Int))=true:=zE hk2
                obtain⟨k20,k21⟩:=HK2.out
                have hX:=HX3.out
                rw[flXor_step k f _ row k20 hk2] at hX
                obtain⟨x,hx,hX⟩:=zO.mp hX
                have HMX:=zM hx
                have HXn:=zM hX
                have HQ3:=zM hk2
                have HW3:=zM (flW k20 (by have:=HMB.out;have:=HNM.out;have:=HN.out;omega):wrap64 (k2+1)=k2+1)
                have p5:=eq_true k20
                have q5:=eq_true hk2
                have p3:=eq_true c0
                have q3:=eq_true HCM.out
                clear hX hx hk2
                go_wp2
                have HSd:=zM (Kd.S_drew HS.out)
                have HBd:=zM (zBd HB.out)
                clear HS HB
                have hself:flGet (rows2.set i2.toNat row) i2=row:=flSetSelf i20 (by rw[HLN2.out];exact HQ2.out) row
                have hoth:flGet (rows2.set i2.toNat row) c=flGet rows2 c:=flSetOther i20 c0 (fun h_=>HIA.out h_.symm) row
                obtain⟨gi2,ci2,hy1,hy2,hy3,hy4,hy5⟩:=flPutT HSd.out i2 k2 i20 HQ2.out k20 (by rw[hself,HRW.out];exact HQ3.out) x
                rw[hself,HRW.out] at hy1
                rw[hself] at hy2
                obtain⟨gi4,ci4,ha1,ha2,ha3,ha4,ha5⟩:=flPutT HSd.out c k2 c0 HCM.out k20 (by rw[hoth,HXL2.out];exact HQ3.out) x
                rw[hoth,HXL2.out] at ha1
                rw[hoth] at ha2
                clear hy3 hy4 hy5 ha3 ha4 ha5
                refine start_ (n:=19) (S:=fun w'=>w'.cell? ⟨g9,i2.toNat,none⟩=some (.slice (some ⟨gi2,0,none⟩) N ci2)∧w'.cell? ⟨gi2,k2.toNat,none⟩=some (.int .i64 (rd row k2))∧w'.cell? ⟨g9,c.toNat,none⟩=some (.slice (some ⟨gi4,0,none⟩) N ci4)∧w'.cell? ⟨gi4,k2.toNat,none⟩=some (.int .i64 (rd (flGet rows2 c) k2))) (ds:=[18]) #[zf,zf,zf,zf,zf,zf,zf,zf,zf,zf,zf,zf,zf,zf,zf,zf,zf,zf,zf] ze rfl rfl (⟨hy1,hy2,ha1,ha2⟩) (fun hHeld=> ?_)
                refine with_tabW impl_fill.tab36 impl_fill.bits36 (fun HT_ HW_=> ?_)
                generalize We.drew=W9 at HSd HBd hy1 hy2 ha1 ha2 hHeld ⊢
                refine zu 0 170 ?_
                refine zu 1 171 ?_
                refine zu 2 172 ?_
                refine zu 4 174 ?_
                refine zu 7 177 ?_
                refine zu 8 178 ?_
                refine zu 9 179 ?_
                refine zu 10 180 ?_
                refine zu 12 182 ?_
                refine take_ (i:=3) (N:=some 173) (v:= ?_) (a':= ?_) #[zt,zt,zt,zt,zt,zf,zf,zt,zt,zt,zt,zf,zt,zf,zf,zf,zf,zf,zf] rfl rfl (take_ofW HT_.out HW_.out ze) (fun _ _ _ h=>h) (Or.inl ⟨by rfl,?_⟩) hHeld ?_ ?_
                rotate_left
                ·intro w' s0
                 go_simp
                 with_reducible rfl
                rotate_left
                ·simp only[Act.put,zL1,zL2,zL3,i64_w,i32_w]
                 rfl
                refine zu 5 175 ?_
                refine take_ (i:=6) (N:=some 176) (v:= ?_) (a':= ?_) #[zt,zt,zt,zt,zt,zt,zt,zt,zt,zt,zt,zf,zt,zf,zf,zf,zf,zf,zf] rfl rfl (take_ofW HT_.out HW_.out ze) (fun _ _ _ h=>h) (Or.inl ⟨by rfl,?_⟩) hHeld ?_ ?_
                rotate_left
                ·intro w' s0
                 go_simp
                 with_reducible rfl
                rotate_left
                ·simp only[Act.put,zL1,zL2,zL3,i64_w,i32_w]
                 rfl
                refine take_ (i:=11) (N:=some 181) (v:= ?_) (a':= ?_) #[zt,zt,zt,zt,zt,zt,zt,zt,zt,zt,zt,zt,zt,zf,zf,zf,zf,zf,zf] rfl rfl (take_ofW HT_.out HW_.out ze) (fun _ _ _ h=>h) (Or.inl ⟨by rfl,?_⟩) hHeld ?_ ?_
                rotate_left
                ·intro w' s0
                 go_simp
                 with_reducible rfl
                rotate_left
                ·simp only[Act.put,zL1,zL2,zL3,i64_w,i32_w]
                 rfl
                refine zu 13 183 ?_
                refine take_ (i:=14) (N:=some 184) (v:= ?_) (a':= ?_) #[zt,zt,zt,zt,zt,zt,zt,zt,zt,zt,zt,zt,zt,zt,zt,zf,zf,zf,zf] rfl rfl (take_ofW HT_.out HW_.out ze) (fun _ _ _ h=>h) (Or.inl ⟨by rfl,?_⟩) hHeld ?_ ?_
                rotate_left
                ·intro w' s0
                 go_simp
                 with_reducible rfl
                rotate_left
                ·simp only[Act.put,zL1,zL2,zL3,i64_w,i32_w]
                 rfl
                refine one_ (i:=15) (N:=some 185) #[zt,zt,zt,zt,zt,zt,zt,zt,zt,zt,zt,zt,zt,zt,zt,zt,zf,zf,zf] rfl rfl (one_of HT_.out ze) (by decide) (fun K hK=> ?_)
                refine goes_ Try.func87 ze rfl #[.int .i64 f, .int .i64 (rd (flGet rows2 c) k2)] (by rfl) rfl rfl (by(try simp only[List.map_toArray,List.map_cons,List.map_nil]);first|done|rfl) ?_
                with_reducible refine(impl_GfMul.calls k f (rd (flGet rows2 c) k2) x _ HMX.out).mono ?_
                rintro e w' ⟨rfl,⟨nd,rfl⟩⟩
                refine⟨_,rfl,?_⟩
                have HSm:=zM (Kd.S_drewN HSd.out nd)
                have HBm:=zM (zBn HBd.out nd)
                obtain⟨gi3,ci3,hz1,hz2,hz3,hz4,hz6⟩:=flPutT HSm.out i2 k2 i20 HQ2.out k20 (by rw[hself,HRW.out];exact HQ3.out) (Go.bits .xor .i64 (rd row k2) x)
                rw[hself,HRW.out] at hz1
                have hv_:=zI (hz1.symm.trans hy1)
                injection hv_ with ha_ hn_ hc_
                injection ha_ with ha_
                injection ha_ with ha_
                subst ha_
                subst hc_
                rw[hself,flSetSet] at hz6
                have HSn:=zM hz6
                have HBn:=zM (zBs (v:= .int .i64 (Go.bits .xor .i64 (rd row k2) x)) (j:=k2.toNat) HBm.out hz4)
                clear hz1 hz4 hz6
                refine hK.out _ _ (hHeld) (fun hHeld=> ?_)
                clear hK K
                refine norm_ (a':= ?_) ?_ ?_
                rotate_left
                ·show Act.put _ (some 185) _=_
                 simp only[Act.put,zL1,zL2,zL3,i64_w,i32_w]
                 rfl
                refine zu 16 186 ?_
                refine zu 17 187 ?_
                refine last_ (i:=18) (N:=none) #[zt,zt,zt,zt,zt,zt,zt,zt,zt,zt,zt,zt,zt,zt,zt,zt,zt,zt,zt] rfl rfl (one_of HT_.out ze) (by decide) (fun K hK=> ?_)
                refine skip_ (w1:= ?_) (by rfl) rfl ?_ ?_
                rotate_left
                ·go_simp
                 rfl
                refine hK.out _ _ ?_
                clear hK K
                refine done_ (done_of HT_.out ze) ?_
                try go_wp2
                go_roundw
                case rel=>exact⟨k2+1,row.set k2.toNat (Go.bits .xor .i64 (rd row k2) x),by first|rfl|rw[HW3.out],⟨zl2 HK2 HQ3⟩,⟨by rw[List.length_set];exact HRW.out⟩,HXn,HSn,HBn⟩
                case measure=>have:=HK2.out;have:=HQ3.out;have:=HW3.out;first|(simp only[this];omega)|(simp;omega)|omega
               case neg=>
                have hlt3:decide (k2<(N:Int))=false:=decide_eq_false hk2
                have HROW:=zM (show row=rX from by
                 have h1:=HX3.out
                 rw[show N-k2.toNat=0 by have:=HK2.out;omega] at h1
                 exact zI h1)
                clear hk2
                go_wp2
                go_roundw
                case rel=>exact⟨i2+1,rows2.set i2.toNat row,by first|rfl|rw[HW2.out],⟨zl2 HI2 HQ2⟩,⟨by rw[List.length_set];exact HLN2.out⟩,⟨flSetRow HRL2.out _ HRW.out⟩,⟨by rw[HROW.out,HRM.out];exact HCn.out⟩,HS,HB⟩
                case measure=>have:=HI2.out;have:=HQ2.out;have:=HW2.out;first|(simp only[this];omega)|(simp;omega)|omega
           case neg=>
            have hlt2:decide (i2<(M:Int))=false:=decide_eq_false hi2
            have HCR:=zM (show rows2=rowsN from by
             have h1:=HC2.out
             rw[show M-i2.toNat=0 by have:=HI2.out;omega] at h1
             exact zI h1)
            clear hi2
            go_wp2
            go_roundw
            case rel=>exact⟨c+1,rows2,by first|rfl|rw[HWc.out],⟨zl2 HI HQ⟩,HLN2,HRL2,⟨by rw[HCR.out];exact HEn.out⟩,HS,HB⟩
            case measure=>have:=HI.out;have:=HQ.out;have:=HWc.out;first|(simp only[this];omega)|(simp;omega)|omega
      case neg=>
       exfalso
       have h1:=HFP.out
       have h2:=HP.out
       have h3:=HPL.out
       rw[show rows.length-p.toNat=0 by have:=HLN.out;omega] at h1
       have h4:p.toNat=P:=h1
       omega
    case neg=>
     have hltc:decide (c<(l1.length:Int))=false:=decide_eq_false hc
     have hE:rows=rowsE:=by
      have h1:=HEc.out
      rw[show l1.length-c.toNat=0 by have:=HI.out;omega] at h1
      exact zI h1
     have HHe:=HH.out
     rw[←hE] at HHe
     have HE:=zM HHe
     have q021:(0:Int)≤(l1.length:Int):=by omega
     have q21:(l1.length:Int)≤(M:Int):=zl1 HNM
     obtain⟨i021,hi021,_,hsz21,_⟩:=info_parts info46
     have hcut21:=cut_from (P:=Try.prog) 114 46 .i64 Try.underlying114 hi021 1 hsz21 A9 M c9 (l1.length:Int) q021 q21
     have hcC:=(Kd.S_reads' HS.out).2.2
     have hcc9:=(Kd.S_reads' HS.out).2.1
     rw[←HLN.out] at hcc9
     have hdC:=Kd.C_drop (m:=l1.length) (c:=c9) hcC (by rw[HLN.out];exact HNM.out) hcc9
     have hdl:(rows.drop l1.length).length=M-l1.length:=by rw[List.length_drop,HLN.out]
     rw[hdl] at hdC
     rw[Int.toNat_natCast] at hcut21
     obtain⟨A21,hA21⟩:∃A1,A1=(if c9=l1.length then A9 else(A9:Option Addr).map (·.add (l1.length*1))):=⟨_,rfl⟩
     obtain⟨c21,hc21⟩:∃c1,c1=c9-l1.length:=⟨_,rfl⟩
     obtain⟨D,hD⟩:∃D,D=M-l1.length:=⟨_,rfl⟩
     replace hdC:Kd.C (Kd.slice 3 (Kd.int .i64)) Wc A21 (M-l1.length) (rows.drop l1.length):=by rw[hA21];exact hdC
     rw[←hA21,←hc21,←hD] at hcut21
     rw[←hD] at hdC hdl
     have HDC:=zM hdC
     have HDL:=zM hdl
     have HD:=zM hD
     have HDR:=zM (show ∀r∈rows.drop l1.length,r.length=N from fun r hr=>HRL.out r (List.mem_of_mem_drop hr))
     have q21b:=eq_true q21
     have q21c:=eq_true (show l1.length≤M from HNM.out)
     clear hc hE HHe HH hcC hcc9 hdC hdl hA21 hc21 hD HEc hi021 hsz21
     go_wp2
     (try simp only[Act.put,zL1,zL2,zL3])
     go_loopw [195] (fun u195 W=>∃(t:Int),u195= .int .i64 t∧Aside0 (0≤t∧t≤(D:Int))∧Aside0 (∀s:Nat,(s:Int)<t→rd ((rows.drop l1.length).getD s []) (l1.length:Int)=0)∧Wc=W) (fun v _=>D-(match v with| .int _ n=>n.toNat|_=>0))
     case atStart=>exact⟨0,rfl,⟨by omega⟩,⟨fun s hs=>by omega⟩,by first|rfl|trivial⟩
     case round=>
      obtain⟨t,rfl,HT,HZ,rfl⟩:=hrel
      by_cases ht:t<(D:Int)
      case pos=>
       have hltt:decide (t<(D:Int))=true:=zE ht
       obtain⟨t0,t1⟩:=HT.out
       have hrl:(flGet (rows.drop l1.length) t).length=N:=HDR.out _ (flMem t0 (by rw[HDL.out];exact ht))
       obtain⟨adt,At,ct,et,hxt,_,hCt⟩:=at_flGet HDC.out t t0 ht
       subst et
       rw[hrl] at hxt hCt
       obtain⟨adz,ez,hxz⟩:=Kd.at_int hCt (l1.length:Int) (by omega) (zl1 HN)
       subst ez
       have pt:=eq_true t0
       have qt:=eq_true ht
       have pn:=eq_true (show(0:Int)≤(l1.length:Int) by omega)
       have qn:=eq_true (show(l1.length:Int)<(N:Int) from zl1 HN)
       have qn2:=eq_true (show l1.length<N from zl1 HN)
       have hxz2:=hxz
       rw[Int.toNat_natCast] at hxz2
       have HQt:=zM ht
       have HWt:=zM (flW t0 (zl2 HMB HD):wrap64 (t+1)=t+1)
       clear hrl hCt ht
       by_cases hz:rd (flGet (rows.drop l1.length) t) (l1.length:Int)=0
       case pos=>
        have z1:(rd (flGet (rows.drop l1.length) t) (l1.length:Int)==0)=true:=beq_iff_eq.mpr hz
        have z2:(rd (flGet (rows.drop l1.length) t) (l1.length:Int) != 0)=false:=bne_eq_false_iff_eq.mpr hz
        have HZ2:=zM hz
        clear hz
        go_wp2
        go_roundw
        case rel=>exact⟨t+1,by first|rfl|rw[HWt.out],⟨zl2 HT HQt⟩,⟨fun s hs=>by
         by_cases e:(s:Int)<t
         case pos=>exact HZ.out s e
         have e2:t.toNat=s:=zl1 HT
         have:=HZ2.out
         unfold flGet at this
         rw[e2] at this
         exact this⟩,by first|rfl|trivial⟩
        case measure=>have:=HT.out;have:=HQt.out;have:=HWt.out;first|(simp only[this];omega)|(simp;omega)|omega
       case neg=>
        have z1:(rd (flGet (rows.drop l1.length) t) (l1.length:Int)==0)=false:=beq_eq_false_iff_ne.mpr hz
        have z2:(rd (flGet (rows.drop l1.length) t) (l1.length:Int) != 0)=true:=bne_iff_ne.mpr hz
        have hb:=flBad_some (n:=l1.length) (rows:=rows) (t:=t.toNat) (by have:=HT.out;have:=HQt.out;have:=HD.out;have:=HLN.out;omega) hz
        have hr:=HE.out
        rw[hb,if_pos rfl] at hr
        obtain⟨rfl,rfl⟩:[]=r1∧false=r2:=by simpa using hr
        clear hr hb hz
        go_wp2
        go_ret2
        exact⟨_,rfl,Kd.R_nil _ _ _ _ _,HB.out⟩
      case neg=>
       have hltt:decide (t<(D:Int))=false:=decide_eq_false ht
       have hb:=flBad_none (n:=l1.length) (rows:=rows) (fun s hs=>HZ.out s (by have:=HT.out;have:=HD.out;have:=HLN.out;omega))
       have hr:=HE.out
       rw[hb,if_neg (by decide)] at hr
       obtain⟨o,ho,hr⟩:=zO.mp hr
       obtain⟨hr1,rfl⟩:flOut rows l1.length l1 0 o=r1∧true=r2:=by simpa using hr
       have HO:=zM ho
       have HR:=zM hr1
       have HOL:=zM (show o.length=l0.length by
        unfold slices_Clone_byte_byte.f at ho
        split at ho
        ·rw[←zI ho]
        ·cases ho)
       clear hb hr ho hr1 ht hcut21 HZ
       go_wp2_with ((with_reducible refine gate_callee (f:=88) rfl ?_);refine goesL_ (some 206) rfl rfl Try.func88 ze rfl #[.slice A0 l0.length c0] rfl (by(try simp only[List.map_toArray,List.map_cons,List.map_nil]);first|done|rfl) ?_;(with_reducible refine(slices_Clone_byte_byte.calls A0 c0 l0 o _ (Kd.C_below HR0.out HB.out) HC0.out HO.out).mono ?_);rintro e w29 ⟨v22,rfl,ho0,hb⟩;refine⟨_,rfl,?_⟩;obtain⟨A22,c22,e22⟩:=Kd.R_slice ho0;subst e22;rw[HOL.out] at ho0;rw[HOL.out];have HSc:=zM (Kd.S_reads' HS.out).2.2;have HOc:=zM ho0;have HBc:=zM (Below.refl w29.heap.size w29);have HBB:=zM (below_step HB.out hb);have HBw:=zM hb;have HSZ:=zM HB.out.size;clear hb ho0 HS HB)
       (try simp only[Act.put,zL1,zL2,zL3])
       go_loopw [209] (fun u209 W=>∃(i5:Int) (ou:List Int),u209= .int .i64 i5∧Aside0 (0≤i5∧i5≤(l1.length:Int))∧Aside0 (ou.length=l0.length)∧Aside0 (flOut rows l1.length (l1.drop i5.toNat) i5.toNat ou=r1)∧Aside0 (Kd.R (Kd.int .u8) 5 W Wc.heap.size (fun _=>True) (.slice A22 l0.length c22) ou)∧Aside0 (Below w.heap.size w W)∧Aside0 (Below Wc.heap.size Wc W)) (fun v _=>l1.length-(match v with| .int _ n=>n.toNat|_=>0))
       case atStart=>exact⟨0,o,rfl,⟨by omega⟩,HOL,⟨by simpa using HR.out⟩,HOc,HBB,HBw⟩
       case round=>
        clear HOc HBB HBw HBc HOL HR
        obtain⟨i5,ou,rfl,HI5,HOL,HR,HO5,HB5,HBw⟩:=hrel
        obtain⟨Wr,hWr⟩:∃W,W=wr:=⟨_,rfl⟩
        subst hWr
        by_cases hi5:i5<(l1.length:Int)
        case pos=>
         have hlt5:decide (i5<(l1.length:Int))=true:=zE hi5
         obtain⟨i50,i51⟩:=HI5.out
         have hmem:rd l1 i5∈l1:=by
          have h:i5.toNat<l1.length:=by omega
          rw[show rd l1 i5=l1[i5.toNat] by simp[rd,List.getD_eq_getElem?_getD,h]];exact List.getElem_mem h
         obtain⟨g50,g51⟩:=HIN.out.2.2.2 _ hmem
         obtain⟨ad1,e1,hx1⟩:=Kd.at_int HR1.out i5 i50 hi5
         subst e1
         have hx1w:=(HB5.out.cell (zW w _ hx1)).trans hx1
         have hiM:i5<(M:Int):=zl1 HNM
         have hrl:(flGet rows i5).length=N:=HRL.out _ (flMem i50 (by rw[HLN.out];exact hiM))
         obtain⟨adr,Ar,cr,er,hxr,_,hCr⟩:=at_flGet HSc.out i5 i50 (by rw[HLN.out];exact hiM)
         subst er
         rw[hrl] at hxr hCr
         obtain⟨adz,ez,hxz⟩:=Kd.at_int hCr (l1.length:Int) (by omega) (zl1 HN)
         subst ez
         have hxrw:=(HBw.out.cell (zW _ _ hxr)).trans hxr
         have hxzw:=(HBw.out.cell (zW _ _ hxz)).trans hxz
         rw[Int.toNat_natCast] at hxzw
         have pt:=eq_true i50
         have qt:=eq_true hi5
         have qM:=eq_true hiM
         have pn:=eq_true (show(0:Int)≤(l1.length:Int) by omega)
         have qn:=eq_true (show(l1.length:Int)<(N:Int) from zl1 HN)
         have qn2:=eq_true (show l1.length<N from zl1 HN)
         have pg:=eq_true g50
         have qg:=eq_true g51
         have HQ5:=zM hi5
         have HW5:=zM (flW i50 (zl2 HMB HNM):wrap64 (i5+1)=i5+1)
         clear hrl hCr hi5 hx1 hxr hxz hmem
         go_wp2
         have HOd:=zM (zRd HO5.out)
         have HBd:=zM (zBd HB5.out)
         have HBwd:=zM (zBd HBw.out)
         have hd1:Wr.drew.cell? (adr.add i5.toNat)=some (.slice (some adz) N cr):=hxrw
         have hd2:Wr.drew.cell? (adz.add l1.length)=some (.int .i64 (rd (flGet rows i5) (l1.length:Int))):=hxzw
         clear HO5 HB5 HBw hxrw hxzw
         obtain⟨g22,c22b,e22b,hb22,_,_⟩:=Kd.R_form HOd.out (by rw[HOL.out];omega)
         injection e22b with ea9 en9 ec9
         subst ea9
         clear ec9 en9
         obtain⟨hv4,hv5⟩:=Kd.R_celln 0 HOd.out (rd l1 i5) g50 g51
         have hv4b:Wr.drew.cell? ⟨g22,(rd l1 i5).toNat,none⟩=some (.int .u8 (rd ou (rd l1 i5))):=hv4
         have hv5b:Wr.drew.frozen? ⟨g22,(rd l1 i5).toNat,none⟩=false:=hv5
         have HP5:=zM (Kd.R_putg HOd.out (rd l1 i5) (Go.bits .xor .u8 (rd ou (rd l1 i5)) (IntKind.u8.wrap (rd (flGet rows i5) (l1.length:Int)))))
         clear hv4 hv5
         refine start_ (n:=15) (S:=fun w'=>w'.cell? ⟨g22,(rd l1 i5).toNat,none⟩=some (.int .u8 (rd ou (rd l1 i5)))∧w'.cell? (adr.add i5.toNat)=some (.slice (some adz) N cr)∧w'.cell? (adz.add l1.length)=some (.int .i64 (rd (flGet rows i5) (l1.length:Int)))) (ds:=[14]) #[zf,zf,zf,zf,zf,zf,zf,zf,zf,zf,zf,zf,zf,zf,zf] ze rfl rfl (⟨hv4b,hd1,hd2⟩) (fun hHeld=> ?_)
         refine with_tabW impl_fill.tab50 impl_fill.bits50 (fun HT_ HW_=> ?_)
         generalize Wr.drew=W9 at HOd HBd HBwd HP5 hv4b hv5b hd1 hd2 hHeld ⊢
         refine zu 0 214 ?_
         refine zu 1 215 ?_
         refine zu 2 216 ?_
         refine zu 4 218 ?_
         refine zu 5 219 ?_
         refine zu 6 220 ?_
         refine zu 8 222 ?_
         refine take_ (i:=3) (N:=some 217) (v:= ?_) (a':= ?_) #[zt,zt,zt,zt,zt,zt,zt,zf,zt,zf,zf,zf,zf,zf,zf] rfl rfl (take_ofW HT_.out HW_.out ze) (fun _ _ _ h=>h) (Or.inl ⟨by rfl,?_⟩) hHeld ?_ ?_
         rotate_left
         ·intro w' s0
          go_simp
          with_reducible rfl
         rotate_left
         ·simp only[Act.put,zL1,zL2,zL3,i64_w,i32_w]
          rfl
         refine take_ (i:=7) (N:=some 221) (v:= ?_) (a':= ?_) #[zt,zt,zt,zt,zt,zt,zt,zt,zt,zf,zf,zf,zf,zf,zf] rfl rfl (take_ofW HT_.out HW_.out ze) (fun _ _ _ h=>h) (Or.inl ⟨by rfl,?_⟩) hHeld ?_ ?_
         rotate_left
         ·intro w' s0
          go_simp
          with_reducible rfl
         rotate_left
         ·simp only[Act.put,zL1,zL2,zL3,i64_w,i32_w]
          rfl
         refine zu 9 223 ?_
         refine take_ (i:=10) (N:=some 224) (v:= ?_) (a':= ?_) #[zt,zt,zt,zt,zt,zt,zt,zt,zt,zt,zt,zf,zf,zf,zf] rfl rfl (take_ofW HT_.out HW_.out ze) (fun _ _ _ h=>h) (Or.inl ⟨by rfl,?_⟩) hHeld ?_ ?_
         rotate_left
         ·intro w' s0
          go_simp
          with_reducible rfl
         rotate_left
         ·simp only[Act.put,zL1,zL2,zL3,i64_w,i32_w]
          rfl
         refine zu 11 225 ?_
         refine zu 12 226 ?_
         refine zu 13 227 ?_
         refine last_ (i:=14) (N:=none) #[zt,zt,zt,zt,zt,zt,zt,zt,zt,zt,zt,zt,zt,zt,zt] rfl rfl (one_of HT_.out ze) (by decide) (fun K hK=> ?_)
         refine skip_ (w1:= ?_) (by rfl) rfl ?_ ?_
         rotate_left
         ·go_simp
          rfl
         refine hK.out _ _ ?_
         clear hK K
         refine done_ (done_of HT_.out ze) ?_
         try go_wp2
         go_roundw
         case rel=>exact⟨i5+1,ou.set (rd l1 i5).toNat (Go.bits .xor .u8 (rd ou (rd l1 i5)) (IntKind.u8.wrap (rd (flGet rows i5) (l1.length:Int)))),by first|rfl|rw[HW5.out],⟨zl2 HI5 HQ5⟩,⟨by rw[List.length_set];exact HOL.out⟩,⟨by have h1:=HR.out;rw[flOut_step rows l1.length HI5.out.1 HQ5.out] at h1;exact h1⟩,⟨HP5.out.1⟩,⟨zBs HBd.out (Nat.le_trans HSZ.out hb22)⟩,⟨zBs HBwd.out hb22⟩⟩
         case measure=>have:=HI5.out;have:=HQ5.out;have:=HW5.out;first|(simp only[this];omega)|(simp;omega)|omega
        case neg=>
         have hlt5:decide (i5<(l1.length:Int))=false:=decide_eq_false hi5
         have hou:ou=r1:=by
          have h1:=HR.out
          rw[List.drop_of_length_le (zl1 HI5)] at h1
          exact h1
         have HOU:=zM hou
         clear hi5 hou
         go_wp2
         go_ret2
         exact⟨_,rfl,by rw[←HOU.out];exact Kd.R_lower HO5.out HSZ.out,HB5.out⟩
end Go.Proofs.Ytapobpkeefeajaa.PFnExactHear
