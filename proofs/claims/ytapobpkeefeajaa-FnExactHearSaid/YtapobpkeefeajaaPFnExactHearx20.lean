-- A turned copy of the print's text.
import Derived.Test.YtapobpkeefeajaaPFnExactHearx0
import Derived.Test.YtapobpkeefeajaaPFnExactHearx19
namespace Go.Proofs.Ytapobpkeefeajaa.PFnExactHear
open Go.RowKit Go.Proofs.YtapobpkeefeajaaW.PrintWords Go.Proofs.YtapobpkeefeajaaW.PrintLast Go.Proofs.YtapobpkeefeajaaW.PrintMore
attribute [local go_sem] max2_int min2_int max_two min_two max_three min_three max_four min_four
set_option maxHeartbeats 8000000
set_option maxRecDepth 100000
set_option linter.unusedVariables false
set_option linter.unusedSimpArgs false
def slGet (xs:List (List Int)) (i:Int):List Int:=xs.getD i.toNat ([]:List Int)
def slFind (rows:List (List Int)) (col:Int):Nat→Nat→Nat
 |0,p=>p
 |d+1,p=>if rd (rows.getD p []) col=0 then slFind rows col d (p+1) else p
def slRow (k:Nat) (inv:Int) (x:List Int):Nat→Nat→List Int→Option (List Int)
 |0,_,acc=>some acc
 |d+1,j,acc=>(spec_GfMul.f k (rd x (j:Int)) inv).bind fun p=>slRow k inv x d (j+1) (acc++[p])
def slSub (k:Nat) (f:Int) (r y:List Int):Nat→Nat→List Int→Option (List Int)
 |0,_,acc=>some acc
 |d+1,j,acc=>(spec_GfMul.f k f (rd y (j:Int))).bind fun p=>slSub k f r y d (j+1) (acc++[Go.bits .xor .i64 (rd r (j:Int)) p])
def slClear (k N c:Nat) (y:List Int):Nat→Nat→List (List Int)→Option (List (List Int))
 |0,_,rows=>some rows
 |d+1,i,rows=>if i=c then slClear k N c y d (i+1) rows else(slSub k (rd (rows.getD i []) (c:Int)) (rows.getD i []) y N 0 []).bind fun r=>slClear k N c y d (i+1) (rows.set i r)
def slStep (k N c:Nat) (rows:List (List Int)):Option (Option (List (List Int))):=
 if slFind rows (c:Int) (rows.length-c) c<rows.length then
  (spec_GfInv.f k (rd (rows.getD (slFind rows (c:Int) (rows.length-c) c) []) (c:Int))).bind fun inv=>
  (slRow k inv (rows.getD (slFind rows (c:Int) (rows.length-c) c) []) N 0 []).bind fun y=>
  (slClear k N c y rows.length 0 ((rows.set (slFind rows (c:Int) (rows.length-c) c) (rows.getD c [])).set c y)).bind fun rows2=>some (some rows2)
 else some none
def slElim (k N:Nat):Nat→Nat→List (List Int)→Option (Option (List (List Int)))
 |0,_,rows=>some (some rows)
 |d+1,c,rows=>(slStep k N c rows).bind fun o=>match o with|none=>some none|some rows2=>slElim k N d (c+1) rows2
def slIn (l0:List (List Int)):Bool:=decide (l0.length≤1000)&&l0.all (fun r=>decide (r.length=l0.length+1))
def slEnd (n:Nat):Option (List (List Int))→List Int×Bool
 |none=>([],false)
 |some rows=>(rows.map fun r=>rd r (n:Int),true)
def spec_l14Solve.f (k:Nat) (l0:List (List Int)):Option (List Int×Bool):=if slIn l0=true then(slElim k (l0.length+1) l0.length 0 l0).bind fun o=>some (slEnd l0.length o) else none
theorem slRow_mono (inv:Int) (x:List Int):∀(d j:Nat) (a:List Int) (k:Nat),LeO (slRow k inv x d j a) (slRow (k+1) inv x d j a)
 |0,_,_,_=>LeO.refl _
 |d+1,_,_,k=>LeO.bind (spec_GfMul.mono _ _ _) (fun _=>slRow_mono inv x d _ _ k)
theorem slSub_mono (f:Int) (r y:List Int):∀(d j:Nat) (a:List Int) (k:Nat),LeO (slSub k f r y d j a) (slSub (k+1) f r y d j a)
 |0,_,_,_=>LeO.refl _
 |d+1,_,_,k=>LeO.bind (spec_GfMul.mono _ _ _) (fun _=>slSub_mono f r y d _ _ k)
theorem slClear_mono (N c:Nat) (y:List Int):∀(d i:Nat) (rows:List (List Int)) (k:Nat),LeO (slClear k N c y d i rows) (slClear (k+1) N c y d i rows)
 |0,_,_,_=>LeO.refl _
 |d+1,_,_,k=>LeO.ite (slClear_mono N c y d _ _ k) (LeO.bind (slSub_mono _ _ _ _ _ _ _) (fun _=>slClear_mono N c y d _ _ k))
theorem slStep_mono (N c:Nat) (rows:List (List Int)) (k:Nat):LeO (slStep k N c rows) (slStep (k+1) N c rows):=
 LeO.ite (LeO.bind (spec_GfInv.mono _ _) (fun _=>LeO.bind (slRow_mono _ _ _ _ _ _) (fun _=>LeO.bind (slClear_mono _ _ _ _ _ _ _) (fun _=>LeO.refl _)))) (LeO.refl _)
theorem slElim_mono (N:Nat):∀(d c:Nat) (rows:List (List Int)) (k:Nat),LeO (slElim k N d c rows) (slElim (k+1) N d c rows)
 |0,_,_,_=>LeO.refl _
 |d+1,_,_,k=>LeO.bind (slStep_mono _ _ _ _) (fun o=>by cases o;exact LeO.refl _;exact slElim_mono N d _ _ k)
theorem slW {i:Int} (h0:0≤i) (h1:i≤4000000):wrap64 (i+1)=i+1:=by unfold wrap64;omega
theorem slMem {l:List (List Int)} {j:Int} (h0:0≤j) (h1:j<(l.length:Int)):slGet l j∈l:=by
 have h:j.toNat<l.length:=by omega
 rw[show slGet l j=l[j.toNat] by simp[slGet,List.getD_eq_getElem?_getD,h]];exact List.getElem_mem h
theorem slSetRow {rows:List (List Int)} {N:Nat} (h:∀r∈rows,r.length=N) (i:Nat) {x:List Int} (hx:x.length=N):∀r∈rows.set i x,r.length=N:=fun r hr=>by
 rcases List.mem_or_eq_of_mem_set hr with h1|h1
 ·exact h r h1
 ·rw[h1];exact hx
theorem slRow_step (k:Nat) (inv:Int) (x:List Int) {N:Nat} {j:Int} (h0:0≤j) (h1:j<(N:Int)) (acc:List Int):slRow k inv x (N-j.toNat) j.toNat acc=(spec_GfMul.f k (rd x j) inv).bind fun p=>slRow k inv x (N-(j+1).toNat) (j+1).toNat (acc++[p]):=by
 obtain⟨d,hd⟩:∃d,N-j.toNat=d+1:=⟨N-j.toNat-1,by omega⟩
 rw[hd,show N-(j+1).toNat=d by omega,show(j+1).toNat=j.toNat+1 by omega]
 simp only[slRow]
 rw[Int.toNat_of_nonneg h0]
theorem slSub_step (k:Nat) (f:Int) (r y:List Int) {N:Nat} {j:Int} (h0:0≤j) (h1:j<(N:Int)) (acc:List Int):slSub k f r y (N-j.toNat) j.toNat acc=(spec_GfMul.f k f (rd y j)).bind fun p=>slSub k f r y (N-(j+1).toNat) (j+1).toNat (acc++[Go.bits .xor .i64 (rd r j) p]):=by
 obtain⟨d,hd⟩:∃d,N-j.toNat=d+1:=⟨N-j.toNat-1,by omega⟩
 rw[hd,show N-(j+1).toNat=d by omega,show(j+1).toNat=j.toNat+1 by omega]
 simp only[slSub]
 rw[Int.toNat_of_nonneg h0]
theorem slClear_step (k N:Nat) (y:List Int) {n:Nat} {c i:Int} (hc:0≤c) (h0:0≤i) (h1:i<(n:Int)) (rows:List (List Int)):slClear k N c.toNat y (n-i.toNat) i.toNat rows=if i=c then slClear k N c.toNat y (n-(i+1).toNat) (i+1).toNat rows else(slSub k (rd (slGet rows i) c) (slGet rows i) y N 0 []).bind fun r=>slClear k N c.toNat y (n-(i+1).toNat) (i+1).toNat (rows.set i.toNat r):=by
 obtain⟨d,hd⟩:∃d,n-i.toNat=d+1:=⟨n-i.toNat-1,by omega⟩
 rw[hd,show n-(i+1).toNat=d by omega,show(i+1).toNat=i.toNat+1 by omega]
 simp only[slClear]
 rw[Int.toNat_of_nonneg hc]
 by_cases h:i=c
 case pos=>rw[if_pos h,if_pos (by omega)]
 rw[if_neg h,if_neg (by omega)];rfl
theorem slElim_step (k N:Nat) {n:Nat} {c:Int} (h0:0≤c) (h1:c<(n:Int)) (rows:List (List Int)):slElim k N (n-c.toNat) c.toNat rows=(slStep k N c.toNat rows).bind fun o=>match o with|none=>some none|some rows2=>slElim k N (n-(c+1).toNat) (c+1).toNat rows2:=by
 obtain⟨d,hd⟩:∃d,n-c.toNat=d+1:=⟨n-c.toNat-1,by omega⟩
 rw[hd,show n-(c+1).toNat=d by omega,show(c+1).toNat=c.toNat+1 by omega]
 rfl
theorem slFind_at {rows:List (List Int)} {c p:Int} (h0:0≤p) (h1:p<(rows.length:Int)):slFind rows c (rows.length-p.toNat) p.toNat=if rd (slGet rows p) c=0 then slFind rows c (rows.length-(p+1).toNat) (p+1).toNat else p.toNat:=by
 obtain⟨d,hd⟩:∃d,rows.length-p.toNat=d+1:=⟨rows.length-p.toNat-1,by omega⟩
 rw[hd,show rows.length-(p+1).toNat=d by omega,show(p+1).toNat=p.toNat+1 by omega]
 rfl
theorem slStep_none {k N:Nat} {c:Int} (h0:0≤c) {rows:List (List Int)} {P:Nat} (hP:slFind rows c (rows.length-c.toNat) c.toNat=P) (h:¬P<rows.length):slStep k N c.toNat rows=some none:=by
 unfold slStep
 rw[Int.toNat_of_nonneg h0,hP,if_neg h]
theorem slStep_some {k N:Nat} {c:Int} (h0:0≤c) {rows:List (List Int)} {P:Nat} (hP:slFind rows c (rows.length-c.toNat) c.toNat=P) (hl:P<rows.length) {o:Option (List (List Int))} (h:slStep k N c.toNat rows=some o):∃(inv:Int) (y:List Int) (rows2:List (List Int)),spec_GfInv.f k (rd (rows.getD P []) c)=some inv∧slRow k inv (rows.getD P []) N 0 []=some y∧slClear k N c.toNat y rows.length 0 ((rows.set P (slGet rows c)).set c.toNat y)=some rows2∧o=some rows2:=by
 unfold slStep at h
 rw[Int.toNat_of_nonneg h0,hP,if_pos hl] at h
 obtain⟨inv,h1,h⟩:=zO.mp h
 obtain⟨y,h2,h⟩:=zO.mp h
 obtain⟨r2,h3,h⟩:=zO.mp h
 exact⟨inv,y,r2,h1,h2,h3,(zI h).symm⟩
theorem slIn_of {l0:List (List Int)} (h:slIn l0=true):l0.length≤1000∧∀r∈l0,r.length=l0.length+1:=by
 unfold slIn at h
 rw[Bool.and_eq_true,decide_eq_true_eq,List.all_eq_true] at h
 exact⟨h.1,fun r hr=>zT (h.2 r hr)⟩
/-- The rows as the walk holds them: the places of the outer row can be written, each shows a row that can be read and lies elsewhere. -/
def SlR (base:Nat) (ok:Nat→Prop) (W:World) (A:Option Addr) (n N:Nat) (rows:List (List Int)):Prop:=
 ∀i:Nat,i<n→∃g gi c,A=some ⟨g,0,none⟩∧(ok g∧base≤g)∧W.frozen? ⟨g,i,none⟩=false∧W.cell? ⟨g,i,none⟩=some (.slice (some ⟨gi,0,none⟩) N c)∧N≤c∧(Kd.int .i64).C W (some ⟨gi,0,none⟩) N (rows.getD i [])∧gi≠g
section
variable {base:Nat} {ok:Nat→Prop} {W W1:World} {A:Option Addr} {n N g:Nat} {rows:List (List Int)}
theorem sl_of_S {q e cap:Nat} (h:Kd.S (Kd.slice q (Kd.int .i64)) e W base ok (.slice A n cap) rows) (hN:∀r∈rows,r.length=N) (hp:0<N) (hn:rows.length=n):SlR base ok W A n N rows:=by
 intro i hi
 obtain⟨g,cp,he,hb,_,cells,hcl⟩:=Kd.S_form h (by omega)
 injection he with ea en ec
 subst ea
 obtain⟨oki,c,hcl2,hM,hcc,hfr,hoki,_⟩:=Kd.S_elem h [] (i:Int) (by omega) (by omega)
 obtain⟨ve,rfl,ge⟩:=hM
 have hv:=hcc 0 _ rfl
 have hf:=hfr 0
 rw[show(Kd.slice q (Kd.int .i64)).sz=1 from rfl,Nat.mul_one,Nat.add_zero,Int.toNat_natCast] at hv hf
 rw[Int.toNat_natCast] at ge
 have hl:(rows.getD i []).length=N:=by
  rw[List.getD_eq_getElem?_getD,List.getElem?_eq_getElem (by omega)];exact hN _ (List.getElem_mem _)
 obtain⟨gi,ci,rfl,hbi,_,_⟩:=Kd.R_form ge (by omega)
 have hr:=Kd.R_reads' ge
 have hog:=hoki gi (ge.1 _ rfl)
 rw[hl] at hv hr
 exact⟨g,gi,ci,rfl,⟨(Kd.S_R h).1 g rfl,hb⟩,hf,hv,hr.2.1,hr.2.2,hog.2⟩
theorem sl_cell {p:Addr} {v:Value} (hb:Below W.heap.size W W1) (hc:W.cell? p=some v):W1.cell? p=some v:=(hb.cell (zW W _ hc)).trans hc
theorem sl_frozen {p:Addr} {v:Value} (hb:Below W.heap.size W W1) (hc:W.cell? p=some v) (hf:W.frozen? p=false):W1.frozen? p=false:=by
 have h2:=hb.block p.block (zW W _ hc)
 unfold World.frozen? at hf ⊢
 simp only[h2]
 exact hf
theorem sl_below (h:SlR base ok W A n N rows) (hb:Below W.heap.size W W1):SlR base ok W1 A n N rows:=by
 intro i hi
 obtain⟨g,gi,c,h1,h2,h3,h4,h5,h6,h7⟩:=h i hi
 exact⟨g,gi,c,h1,h2,sl_frozen hb h4 h3,sl_cell hb h4,h5,Kd.C_below h6 hb,h7⟩
theorem sl_drewN (h:SlR base ok W A n N rows) (m:Nat):SlR base ok (W.drewN m) A n N rows:=sl_below h (zBn (Below.refl _ _) m)
theorem sl_drew (h:SlR base ok W A n N rows):SlR base ok W.drew A n N rows:=sl_below h (zBd (Below.refl _ _))
theorem sl_C_far {gi N:Nat} {xs:List Int} (h:(Kd.int .i64).C W (some ⟨gi,0,none⟩) N xs) {p:Addr} (hp:p.block≠gi) (v:Value):(Kd.int .i64).C (W.setCell p v) (some ⟨gi,0,none⟩) N xs:=by
 refine⟨h.1,h.2.1,fun hN=> ?_⟩
 obtain⟨ad,he,hc⟩:=h.2.2 hN
 refine⟨ad,he,fun j q hq=> ?_⟩
 obtain⟨c,hl,hK,hcc⟩:=hc j q hq
 refine⟨c,hl,hK,fun i u hu=> ?_⟩
 injection he with he
 subst he
 rw[World.cell?_setCell_far _ _ _ _ (show p.block≠(({block:=gi,off:=0}:Addr).add (j*(Kd.int .i64).sz+i)).block by rw[show(({block:=gi,off:=0}:Addr).add (j*(Kd.int .i64).sz+i)).block=gi by unfold Addr.add;split<;>rfl];exact hp)]
 exact hcc i u hu
theorem sl_set (h:SlR base ok W (some ⟨g,0,none⟩) n N rows) (i0:Nat) {gx c:Nat} {r:List Int} (hc:N≤c) (hr:(Kd.int .i64).C W (some ⟨gx,0,none⟩) N r) (hx:gx≠g) (hlen:rows.length=n):SlR base ok (W.setCell ⟨g,i0,none⟩ (.slice (some ⟨gx,0,none⟩) N c)) (some ⟨g,0,none⟩) n N (rows.set i0 r):=by
 intro i hi
 obtain⟨g',gi,ci,h1,h2,h3,h4,h5,h6,h7⟩:=h i hi
 injection h1 with h1
 injection h1 with h1
 subst h1
 by_cases he:i=i0
 case pos=>
  subst he
  refine⟨g,gx,c,rfl,h2,by rw[World.frozen?_setCell];exact h3,World.cell?_setCell_same _ _ _ h4,hc,?_,hx⟩
  rw[List.getD_eq_getElem?_getD,List.getElem?_set_self (by omega)]
  exact sl_C_far hr (fun h=>hx h.symm) _
 refine⟨g,gi,ci,rfl,h2,by rw[World.frozen?_setCell];exact h3,?_,h5,?_,h7⟩
 ·rw[World.cell?_setCell_other _ _ _ _ (show(⟨g,i0,none⟩:Addr)≠⟨g,i,none⟩ by intro h;injection h with _ h _;exact he h.symm)];exact h4
 ·rw[List.getD_eq_getElem?_getD,List.getElem?_set_ne (fun h=>he h.symm),←List.getD_eq_getElem?_getD]
  exact sl_C_far h6 (fun h=>h7 h.symm) _
theorem sl_read (h:SlR base ok W (some ⟨g,0,none⟩) n N rows) (i k:Int) (hi0:0≤i) (hi:i<n) (hk0:0≤k) (hk:k<N):
 ∃gi c,W.cell? ⟨g,i.toNat,none⟩=some (.slice (some ⟨gi,0,none⟩) N c)∧W.cell? ⟨gi,k.toNat,none⟩=some (.int .i64 (rd (slGet rows i) k))∧W.frozen? ⟨g,i.toNat,none⟩=false∧N≤c∧(Kd.int .i64).C W (some ⟨gi,0,none⟩) N (slGet rows i)∧gi≠g:=by
 obtain⟨g',gi,ci,h1,h2,h3,h4,h5,h6,h7⟩:=h i.toNat (by omega)
 injection h1 with h1
 injection h1 with h1
 subst h1
 obtain⟨ad,he,hx⟩:=Kd.at_int h6 k hk0 hk
 injection he with he
 subst he
 rw[add_plain] at hx
 exact⟨gi,ci,h4,hx,h3,h5,h6,h7⟩
theorem sl_form (h:SlR base ok W A n N rows) (hn:0<n):∃g,A=some ⟨g,0,none⟩∧ok g∧base≤g:=by
 obtain⟨g,_,_,h1,h2,_⟩:=h 0 hn
 exact⟨g,h1,h2.1,h2.2⟩
end
theorem sl_alloc {W:World} {p:Addr} {v:Value} (hc:W.cell? p=some v) (o:Obj):(W.alloc o).cell? p=some v:=sl_cell (zBa (Below.refl _ _) o) hc
theorem sl_after {W W1:World} {row:Option Nat} {p:Addr} {v:Value} (hg:W.grownBy W1 row) (hr:some p.block≠row) (hc:W.cell? p=some v):W1.cell? p=some v:=by
 have h1:=zW W _ hc
 have h2:=hg.block p.block h1 hr
 unfold World.cell? at hc ⊢
 simp only[h2]
 exact hc
def spec_l14Solve.T28:Bool×List (List Nat×List Nat):=(true,[([],[]),([],[]),([],[]),([1,2],[1,2]),([3],[3]),([],[]),([4,5],[4,5]),([6],[6]),([],[]),([],[]),([],[]),([9,10],[9,10]),([11],[11]),([8,12],[8,12]),([7,13],[7,13]),([14],[14]),([0,15,13],[0,15]),([16,16,0,1,2,3,4,5,6,7,8,9,10,11,12,13,14,15,16],[0,16])])
def spec_l14Solve.B28:List Nat:=[0,0,0,6,14,0,62,126,0,0,0,1536,3584,7936,16382,32766,65535,131071]
theorem spec_l14Solve.tab28:rtab .any (opsOf Try.f125 28)=spec_l14Solve.T28:=by kernel_rfl
theorem spec_l14Solve.bits28:waitsOk spec_l14Solve.T28.2 spec_l14Solve.B28=true:=by kernel_rfl
theorem spec_l14Solve.calls (k:Nat) (P0_:Nat→Prop) (u9000_:Value) (l0:List (List Int)) (r1:List Int) (r2:Bool) (w0 w:World) (hB:Below w0.heap.size w0 w) (ho0:Kd.S (Kd.slice 3 (Kd.int .i64)) 46 w w0.heap.size P0_ u9000_ l0) (h:spec_l14Solve.f k l0=some (r1,r2)):
 Calls Try.prog 125 #[u9000_] w fun e w'=>∃v_:Value,e= .returned (.tuple #[v_, .bool r2])∧Kd.R (Kd.int .i64) 3 w' w0.heap.size (fun k_=>(P0_ k_∨w.heap.size≤k_)) v_ r1∧Below w0.heap.size w0 w'∧Kept w w' (fun k_=>P0_ k_):=by
 have hin:slIn l0=true:=by by_cases hi:slIn l0=true;exact hi;rw[spec_l14Solve.f,if_neg hi] at h;cases h
 rw[spec_l14Solve.f,if_pos hin] at h
 replace h:=zO.mp h
 obtain⟨o,he,h⟩:=h
 obtain⟨hl,hr⟩:=slIn_of hin
 replace h:=zI h
 obtain⟨Ao,co,eo⟩:=Kd.S_slice ho0
 subst eo
 have hS:=sl_of_S ho0 hr (by omega) rfl
 clear ho0 hin
 obtain⟨N,hN⟩:∃N:Nat,N=l0.length+1:=⟨_,rfl⟩
 rw[←hN] at he hr hS
 generalize hn:l0.length=n at he h hl hN hS ⊢
 have HE0:=zM (show slElim k N (n-(0:Int).toNat) (0:Int).toNat l0=some o from he)
 have HEND:=zM h
 have HLM:=zM hl
 have HN:=zM hN
 have HLN0:=zM hn
 have HRL0:=zM hr
 have HS0:=zM hS
 have HB0:=zM hB
 have HK0:=zM (Kept.refl w (fun k_=>P0_ k_))
 clear he h hl hN hn hr hS hB
 go_enter Try.func125,Try.ntmps125
 go_wp2
 (try simp only[Act.put,zL1,zL2,zL3])
 go_loopw [5] (fun u5 W=>∃(c:Int) (rows:List (List Int)),u5= .int .i64 c∧Aside0 (0≤c∧c≤(n:Int))∧Aside0 (rows.length=n)∧Aside0 (∀r∈rows,r.length=N)∧Aside0 (slElim k N (n-c.toNat) c.toNat rows=some o)∧Aside0 (SlR w0.heap.size P0_ W Ao n N rows)∧Aside0 (Below w0.heap.size w0 W)∧Aside0 (Kept w W (fun k_=>P0_ k_))) (fun v _=>n-(match v with| .int _ n=>n.toNat|_=>0))
 case atStart=>exact⟨0,l0,rfl,⟨by omega⟩,HLN0,HRL0,HE0,HS0,HB0,HK0⟩
 case round =>
  clear HE0 HS0 HB0 HK0 HRL0 HLN0
  obtain⟨c,rows,rfl,HI,HLN,HRL,HEc,HS,HB,HK⟩:=hrel
  obtain⟨Wc,hWc⟩:∃W,W=wr:=⟨_,rfl⟩
  subst hWc
  by_cases hc:c<(n:Int)
  case pos =>
   have hltc:decide (c<(n:Int))=true:=zE hc
   obtain⟨c0,c1⟩:=HI.out
   obtain⟨g,hA,hPg,hgb⟩:=sl_form HS.out (by omega)
   subst hA
   have HPG:=zM hPg
   have HGB:=zM hgb
   have hE:=HEc.out
   rw[slElim_step k N c0 hc] at hE
   obtain⟨oc,hst,hE⟩:=zO.mp hE
   obtain⟨Pi,hP⟩:∃P,slFind rows c (rows.length-c.toNat) c.toNat=P:=⟨_,rfl⟩
   have HST:=zM hst
   have HEn:=zM hE
   have HPC:=zM hP
   have HPF:=zM (show slFind rows c (n-c.toNat) c.toNat=Pi by rw[←HLN.out];exact hP)
   have HQ:=zM hc
   have HC0:=zM c0
   have HWc:=zM (slW c0 (zl1 HLM):wrap64 (c+1)=c+1)
   have hcN:c<(N:Int):=zl1 HN
   have HCN:=zM hcN
   have pc:=eq_true c0
   have qc:=eq_true hc
   have qcN:=eq_true hcN
   clear hc hE hst hP hPg hgb HEc
   go_wp2
   (try simp only[Act.put,zL1,zL2,zL3])
   go_loopw [6] (fun u6 W=>∃(p:Int),u6= .int .i64 p∧Aside0 (c≤p∧p≤(n:Int))∧Aside0 (slFind rows c (n-p.toNat) p.toNat=Pi)∧Wc=W) (fun v _=>n-(match v with| .int _ n=>n.toNat|_=>0))
   case atStart=>exact⟨c,rfl,⟨by omega⟩,HPF,by first|rfl|trivial⟩
   case round =>
    clear HPF
    obtain⟨p,rfl,HP,HFP,rfl⟩:=hrel
    by_cases hp:p<(n:Int)
    case pos =>
     have hltp:decide (p<(n:Int))=true:=zE hp
     have hp0:0≤p:=zl1 HP
     obtain⟨gi,ci,hy1,hy2,hy3,hy4,hy5,hy6⟩:=sl_read HS.out p c hp0 hp c0 hcN
     have p2:=eq_true hp0
     have q2:=eq_true hp
     have HPQ2:=zM hp
     have HP0:=zM hp0
     have HW:=zM (slW hp0 (zl1 HLM):wrap64 (p+1)=p+1)
     have HFQ:=zM (show slFind rows c (n-p.toNat) p.toNat=if rd (slGet rows p) c=0 then slFind rows c (n-(p+1).toNat) (p+1).toNat else p.toNat by have h_:=slFind_at (rows:=rows) (c:=c) hp0 (by rw[HLN.out];exact hp);rwa[HLN.out] at h_)
     have HX5:=zM hy5
     have HX6:=zM hy6
     have HX4:=zM hy4
     clear hp hy4 hy5 hy6
     by_cases hz:rd (slGet rows p) c=0
     case pos=>
      have z1:(rd (slGet rows p) c==0)=true:=beq_iff_eq.mpr hz
      have z2:(rd (slGet rows p) c != 0)=false:=bne_eq_false_iff_eq.mpr hz
      have HZ:=zM hz
      clear hz hy3
      go_wp2
      go_roundw
      case rel=>exact⟨p+1,by first|rfl|rw[HW.out],⟨zl2 HP HPQ2⟩,⟨by have h1:=HFP.out;rw[HFQ.out,if_pos HZ.out] at h1;exact h1⟩,by first|rfl|trivial⟩
      case measure=>have:=HP.out;have:=HPQ2.out;have:=HW.out;first|(simp only[this];omega)|(simp;omega)|omega
     case neg =>
      have z1:(rd (slGet rows p) c==0)=false:=beq_eq_false_iff_ne.mpr hz
      have z2:(rd (slGet rows p) c != 0)=true:=bne_iff_ne.mpr hz
      have hpe:(p==(n:Int))=false:=beq_eq_false_iff_ne.mpr (zl1 HPQ2)
      have hpe2:(p != (n:Int))=true:=bne_iff_ne.mpr (zl1 HPQ2)
      have hPi:Pi=p.toNat:=by have h1:=HFP.out;rw[HFQ.out,if_neg hz] at h1;exact h1.symm
      obtain⟨inv,y,rows2,hinv,hrow,hcl,ho⟩:=slStep_some c0 HPC.out (by rw[hPi,HLN.out];have:=HPQ2.out;omega) HST.out
      rw[hPi] at hinv hrow hcl
      subst ho
      have HINV:=zM (show spec_GfInv.f k (rd (slGet rows p) c)=some inv from hinv)
      have HROW:=zM (show slRow k inv (slGet rows p) (N-(0:Int).toNat) (0:Int).toNat []=some y from hrow)
      have HCL:=zM (show slClear k N c.toNat y (n-(0:Int).toNat) (0:Int).toNat ((rows.set p.toNat (slGet rows c)).set c.toNat y)=some rows2 by rw[←HLN.out];exact hcl)
      have HEn2:=zM (show slElim k N (n-(c+1).toNat) (c+1).toNat rows2=some o from HEn.out)
      obtain⟨gc,cc,hc1,hc2,hc3,hc4,hc5,hc6⟩:=sl_read HS.out c c c0 HQ.out c0 HCN.out
      have HS5:=zM (sl_set HS.out p.toNat hc4 hc5 hc6 HLN.out)
      have HB5:=zM (zBs HB.out HGB.out (v:= .slice (some ⟨gc,0,none⟩) N cc) (j:=p.toNat))
      have HK5:=zM (Kept.setCell HK.out (p:=⟨g,p.toNat,none⟩) (.inl HPG.out) (.slice (some ⟨gc,0,none⟩) N cc))
      have HXC:=zM (sl_C_far HX5.out (p:=⟨g,p.toNat,none⟩) (fun h_=>HX6.out h_.symm) (.slice (some ⟨gc,0,none⟩) N cc))
      have hx5:(Wc.setCell ⟨g,p.toNat,none⟩ (.slice (some ⟨gc,0,none⟩) N cc)).cell? ⟨gi,c.toNat,none⟩=some (.int .i64 (rd (slGet rows p) c)):=by rw[World.cell?_setCell_far _ _ _ _ (fun h_=>HX6.out h_.symm)];exact hy2
      clear hinv hrow hcl hc2 hc4 hc5 hc6 hPi hz HST HEn HFP HFQ HPC
      go_wp2_with (first|(go_at_call 126;(with_reducible refine(spec_GfInv.calls k (rd (slGet rows p) c) inv _ HINV.out).mono ?_);rintro e w7 ⟨rfl,⟨nd,rfl⟩⟩;have HS7:=zM (sl_drewN HS5.out nd);have HB7:=zM (zBn HB5.out nd);have HK7:=zM (Kept.drewN HK5.out nd);have HX7:=zM (zCn HXC.out nd);clear HS5 HB5 HK5 HXC hx5 hy1 hy2 hy3 hc1 hc3;generalize ((Wc.setCell ⟨g,p.toNat,none⟩ (.slice (some ⟨gc,0,none⟩) N cc)).drewN nd)=Wt at HS7 HB7 HK7 HX7 ⊢)|((with_reducible refine gate_dst (N:=60) rfl ?_);refine Kd.R_lit (Kd.int .i64) _ 3 ?hg (N:=60) ?hd (xs:=([]:List Int)) (inner:=[]) (ok:=fun _=>True) (okp:=fun _=>True) ?hr ?hp (fun _ hk=>hk) trivial (Below.refl _ _) (Nat.le_refl _) (by simp) ?_;(case hd|hg=>rfl);(case hr=>exact zh);(case hp=>exact(Reps.none _ _));intro v9 w9 ho9 hb9 hg_ hnew_;clear hg_ hnew_))
      have HO9:=zM ho9
      have HBt0:=zM hb9
      clear ho9 hb9 HS HB HK HX5 HX4 HINV z1 z2 hpe hpe2 hltp q2 p2
      (try simp only[Act.put,zL1,zL2,zL3])
      go_loopw [9,10] (fun u9 u10 W=>∃(j:Int) (acc:List Int),u10= .int .i64 j∧Aside0 (0≤j∧j≤(N:Int))∧Aside0 ((acc.length:Int)=j)∧Aside0 (slRow k inv (slGet rows p) (N-j.toNat) j.toNat acc=some y)∧Aside0 (Kd.R (Kd.int .i64) 3 W Wt.heap.size (fun _=>True) u9 acc)∧Aside0 (Below Wt.heap.size Wt W)) (fun _ v _=>N-(match v with| .int _ n=>n.toNat|_=>0))
      case atStart=>exact⟨0,[],rfl,⟨by omega⟩,⟨rfl⟩,HROW,HO9,HBt0⟩
      case round=>
       clear HO9 HBt0 HROW
       obtain⟨j,acc,rfl,HJ,HAL,HR,HO,HBt⟩:=hrel
       obtain⟨Wj,hWj⟩:∃W,W=wr:=⟨_,rfl⟩
       subst hWj
       obtain⟨Ay,cy,ey⟩:=Kd.R_slice HO.out
       subst ey
       obtain⟨j0,j1⟩:=HJ.out
       by_cases hj:j<(N:Int)
       case pos=>
        have hltj:decide (j≤(n:Int))=true:=zE (zl1 HN)
        have hR:=HR.out
        rw[slRow_step k inv (slGet rows p) j0 hj] at hR
        obtain⟨t,ht,hR⟩:=zO.mp hR
        have HT:=zM ht
        have HRn:=zM hR
        obtain⟨adx,ex,hx⟩:=Kd.at_int (Kd.C_below HX7.out HBt.out) j j0 hj
        injection ex with ex
        subst ex
        rw[add_plain] at hx
        have hla:(acc.length+1)*8≤140737488355328:=by have:=HAL.out;have:=HN.out;have:=HLM.out;omega
        have HLA:=zM hla
        have HWj:=zM (slW j0 (zl2 HLM HN):wrap64 (j+1)=j+1)
        have HQj:=zM hj
        have pj:=eq_true j0
        have qj:=eq_true hj
        clear hR ht hj hla HR
        go_wp2_with (first|(go_at_call 77;(with_reducible refine(spec_GfMul.calls k (rd (slGet rows p) j) inv t _ HT.out).mono ?_);rintro e w7 ⟨rfl,⟨nd,rfl⟩⟩;have HOn:=zM (zRn HO.out nd);have HBn:=zM (zBn HBt.out nd);clear HO HBt hx;generalize Wj.drewN nd=Wk at HOn HBn ⊢)|((with_reducible refine gate_builtin (b:= .append) (xs:= #[.tmp 66, .tmp 73]) rfl ?_);at_builtin;refine Kd.R_append (Kd.int .i64) (w0:=Wt) Wt.heap.size rfl (.tmp 66) (.tmp 73) 46 3 (.int .i64 0) 8 rfl Try.underlying46 info3 rfl (by decide) (by omega) (.slice Ay acc.length cy) acc t [.int .i64 t] (fun _=>True) (fun _=>False) rfl rfl rfl (fun _ hk=>hk.elim) (fun _ _=>trivial) (by(with_reducible repeat(first|apply zRa|apply zRn|apply zRd));exact HOn.out) (by repeat(first|(with_reducible first|exact HBn.out|apply zBa|apply zBn|apply zBd)|exact HBn.out)) (below_size (by repeat(first|(with_reducible first|exact HBn.out|apply zBa|apply zBn|apply zBd)|exact HBn.out))) HLA.out ?_;intro v9 w9 ho hb hg hat);have HO9:=zM ho;have HB9:=zM hb;clear ho hb hg hat)
        go_roundw
        case rel=>exact⟨j+1,acc++[t],by first|rfl|rw[HWj.out],⟨zl2 HJ HQj⟩,⟨by have:=HAL.out;simp;omega⟩,HRn,HO9,HB9⟩
        case measure=>have:=HJ.out;have:=HQj.out;have:=HWj.out;first|(simp only[this];omega)|(simp;omega)|omega
       case neg=>
        have hltj:decide (j≤(n:Int))=false:=decide_eq_false (zl1 HN)
        have HACC:=zM (show acc=y by
         have h_:=HR.out
         rw[show N-j.toNat=0 by omega] at h_
         exact zI h_)
        obtain rfl:=HACC.out
        have hyl:acc.length=N:=zl1 HAL
        obtain⟨gy,cap,ey,hgy,_,_⟩:=Kd.R_form HO.out (by rw[hyl];have:=HN.out;omega)
        injection ey with ea en ec
        subst ea
        clear ec en
        have hO:=HO.out
        rw[hyl] at hO ⊢
        have hRd:=Kd.R_reads' hO
        rw[hyl] at hRd
        have HSj:=zM (sl_below HS7.out HBt.out)
        obtain⟨gq,cq,hq1,_,hq3,_,_,_⟩:=sl_read HSj.out c c HC0.out HQ.out HC0.out HCN.out
        have hne:gy≠g:=by have h_:=zW _ _ (sl_read HS7.out c c HC0.out HQ.out HC0.out HCN.out).choose_spec.choose_spec.1;have h2_:g<Wt.heap.size:=h_;omega
        have HBj:=zM (below_step HB7.out HBt.out)
        have HKj:=zM (Kept.below HK7.out HBt.out)
        have HS8:=zM (sl_set HSj.out c.toNat hRd.2.1 hRd.2.2 hne (by rw[List.length_set];exact HLN.out))
        have HB8:=zM (zBs HBj.out HGB.out (v:= .slice (some ⟨gy,0,none⟩) N cy) (j:=c.toNat))
        have HK8:=zM (Kept.setCell HKj.out (p:=⟨g,c.toNat,none⟩) (.inl HPG.out) (.slice (some ⟨gy,0,none⟩) N cy))
        have HY8:=zM (sl_C_far hRd.2.2 (p:=⟨g,c.toNat,none⟩) (fun h_=>hne h_.symm) (.slice (some ⟨gy,0,none⟩) N cy))
        have HYN:=zM hne
        have HYL:=zM hyl
        have HL8:=zM (show((rows.set p.toNat (slGet rows c)).set c.toNat acc).length=n by rw[List.length_set,List.length_set];exact HLN.out)
        have HRL8:=zM (slSetRow (slSetRow HRL.out p.toNat (HRL.out _ (slMem HC0.out (by rw[HLN.out];exact HQ.out)))) c.toNat hyl)
        clear hj hO hRd hne HACC HR HO hyl
        go_wp2
        (try simp only[Act.put,zL1,zL2,zL3])
        clear HSj HBj HKj hq1 hq3 HBt HS7 HB7 HK7 HX7
        generalize (rows.set p.toNat (slGet rows c)).set c.toNat acc=rows8 at HS8 HL8 HRL8 HCL
        generalize Wj.setCell ⟨g,c.toNat,none⟩ (.slice (some ⟨gy,0,none⟩) N cy)=W8 at HS8 HB8 HK8 HY8 ⊢
        go_loopw [11] (fun u11 W=>∃(i:Int) (rows3:List (List Int)),u11= .int .i64 i∧Aside0 (0≤i∧i≤(n:Int))∧Aside0 (rows3.length=n)∧Aside0 (∀r∈rows3,r.length=N)∧Aside0 (slClear k N c.toNat acc (n-i.toNat) i.toNat rows3=some rows2)∧Aside0 (SlR w0.heap.size P0_ W (some ⟨g,0,none⟩) n N rows3)∧Aside0 ((Kd.int .i64).C W (some ⟨gy,0,none⟩) N acc)∧Aside0 (Below w0.heap.size w0 W)∧Aside0 (Kept w W (fun k_=>P0_ k_))) (fun v _=>n-(match v with| .int _ n=>n.toNat|_=>0))
        case atStart=>exact⟨0,rows8,rfl,⟨by omega⟩,HL8,HRL8,HCL,HS8,HY8,HB8,HK8⟩
        case round=>
         clear HL8 HRL8 HCL HS8 HY8 HB8 HK8
         obtain⟨i,rows3,rfl,HI3,HL3,HRL3,HC3,HS3,HY3,HB3,HK3⟩:=hrel
         obtain⟨Wd,hWd⟩:∃W,W=wr:=⟨_,rfl⟩
         subst hWd
         by_cases hi:i<(n:Int)
         case pos=>
          have hlti:decide (i<(n:Int))=true:=zE hi
          obtain⟨i0,i1⟩:=HI3.out
          have hC:=HC3.out
          rw[slClear_step k N acc HC0.out i0 hi] at hC
          have HQ3:=zM hi
          have HI0:=zM i0
          have HW3:=zM (slW i0 (zl1 HLM):wrap64 (i+1)=i+1)
          have pi:=eq_true i0
          have qi:=eq_true hi
          clear hi
          by_cases hia:i=c
          case pos=>
           have n1:(i==c)=true:=beq_iff_eq.mpr hia
           have n2:(i != c)=false:=bne_eq_false_iff_eq.mpr hia
           rw[if_pos hia] at hC
           have HCn:=zM hC
           clear hC hia
           go_wp2
           go_roundw
           case rel=>exact⟨i+1,rows3,by first|rfl|rw[HW3.out],⟨zl2 HI3 HQ3⟩,HL3,HRL3,HCn,HS3,HY3,HB3,HK3⟩
           case measure=>have:=HI3.out;have:=HQ3.out;have:=HW3.out;first|(simp only[this];omega)|(simp;omega)|omega
          case neg=>
           have n1:(i==c)=false:=beq_eq_false_iff_ne.mpr hia
           have n2:(i != c)=true:=bne_iff_ne.mpr hia
           rw[if_neg hia] at hC
           obtain⟨z,hz,hC⟩:=zO.mp hC
           have HCn:=zM hC
           have HZR:=zM (show slSub k (rd (slGet rows3 i) c) (slGet rows3 i) acc (N-(0:Int).toNat) (0:Int).toNat []=some z from hz)
           obtain⟨gi3,ci3,hy1,hy2,_,_,_,_⟩:=sl_read HS3.out i c HI0.out HQ3.out HC0.out HCN.out
           clear hC hz hia
           go_wp2_with (((with_reducible refine gate_dst (N:=94) rfl ?_);refine Kd.R_lit (Kd.int .i64) _ 3 ?hg (N:=94) ?hd (xs:=([]:List Int)) (inner:=[]) (ok:=fun _=>True) (okp:=fun _=>True) ?hr ?hp (fun _ hk=>hk) trivial (Below.refl _ _) (Nat.le_refl _) (by simp) ?_;(case hd|hg=>rfl);(case hr=>exact zh);(case hp=>exact(Reps.none _ _));intro v13 w13 ho9 hb9 hg_ hnew_;clear hg_ hnew_))
           have HO9:=zM ho9
           have HBz0:=zM hb9
           clear ho9 hb9 hy1 hy2
           (try simp only[Act.put,zL1,zL2,zL3])
           obtain⟨F,hF⟩:∃F,F=rd (slGet rows3 i) c:=⟨_,rfl⟩
           have hZ:=HZR.out
           rw[←hF] at hZ ⊢
           have HZ0:=zM hZ
           clear hF hZ HZR
           go_loopw [13,14] (fun u13 u14 W=>∃(j:Int) (ac:List Int),u14= .int .i64 j∧Aside0 (0≤j∧j≤(N:Int))∧Aside0 ((ac.length:Int)=j)∧Aside0 (slSub k F (slGet rows3 i) acc (N-j.toNat) j.toNat ac=some z)∧Aside0 (Kd.R (Kd.int .i64) 3 W Wd.heap.size (fun _=>True) u13 ac)∧Aside0 (Below Wd.heap.size Wd W)) (fun _ v _=>N-(match v with| .int _ n=>n.toNat|_=>0))
           case atStart=>exact⟨0,[],rfl,⟨by omega⟩,⟨rfl⟩,HZ0,HO9,HBz0⟩
           case round=>
            clear HO9 HBz0 HZ0
            obtain⟨j,ac,rfl,HJ,HAL,HR,HO,HBt⟩:=hrel
            obtain⟨Wj2,hWj2⟩:∃W,W=wr:=⟨_,rfl⟩
            subst hWj2
            obtain⟨Az,cz,ez⟩:=Kd.R_slice HO.out
            subst ez
            obtain⟨j0,j1⟩:=HJ.out
            by_cases hj:j<(N:Int)
            case pos=>
             have hltj:decide (j≤(n:Int))=true:=zE (zl1 HN)
             have hR:=HR.out
             rw[slSub_step k F (slGet rows3 i) acc j0 hj] at hR
             obtain⟨t,ht,hR⟩:=zO.mp hR
             have HT:=zM ht
             have HRn:=zM hR
             have HOd:=zM (zRd HO.out)
             have HBd:=zM (zBd HBt.out)
             have HSd:=zM (sl_below HS3.out HBd.out)
             have HYd:=zM (Kd.C_below HY3.out HBd.out)
             obtain⟨gi4,ci4,hq1,hq2,_,_,_,_⟩:=sl_read HSd.out i j HI0.out HQ3.out j0 hj
             obtain⟨adx,ex,hx⟩:=Kd.at_int HYd.out j j0 hj
             injection ex with ex
             subst ex
             rw[add_plain] at hx
             have hla:(ac.length+1)*8≤140737488355328:=by have:=HAL.out;have:=HN.out;have:=HLM.out;omega
             have HLA:=zM hla
             have HWj:=zM (slW j0 (zl2 HLM HN):wrap64 (j+1)=j+1)
             have HQj:=zM hj
             have pj:=eq_true j0
             have qj:=eq_true hj
             clear hR ht hj hla HR HO HBt HSd HYd
             go_wp2
             refine start_ (n:=18) (S:=fun w'=>w'.cell? ⟨g,i.toNat,none⟩=some (.slice (some ⟨gi4,0,none⟩) N ci4)∧w'.cell? ⟨gi4,j.toNat,none⟩=some (.int .i64 (rd (slGet rows3 i) j))∧w'.cell? ⟨gy,j.toNat,none⟩=some (.int .i64 (rd acc j))) (ds:=[16]) #[zf,zf,zf,zf,zf,zf,zf,zf,zf,zf,zf,zf,zf,zf,zf,zf,zf,zf] ze rfl rfl (⟨hq1,hq2,hx⟩) (fun hHeld=> ?_)
             refine with_tabW spec_l14Solve.tab28 spec_l14Solve.bits28 (fun HT_ HW_=> ?_)
             generalize Wj2.drew=W9 at HOd HBd hq1 hq2 hx hHeld ⊢
             refine zu 0 100 ?_
             refine zu 1 101 ?_
             refine zu 2 102 ?_
             refine zu 3 103 ?_
             refine zu 5 105 ?_
             refine zu 8 108 ?_
             refine zu 9 109 ?_
             refine zu 10 110 ?_
             refine zu 11 111 ?_
             refine take_ (i:=4) (N:=some 104) (v:= ?_) (a':= ?_) #[zt,zt,zt,zt,zt,zt,zf,zf,zt,zt,zt,zt,zf,zf,zf,zf,zf,zf] rfl rfl (take_ofW HT_.out HW_.out ze) (fun _ _ _ h=>h) (Or.inl ⟨by rfl,?_⟩) hHeld ?_ ?_
             rotate_left
             ·intro w' s0
              go_simp
              with_reducible rfl
             rotate_left
             ·simp only[Act.put,zL1,zL2,zL3,i64_w,i32_w]
              rfl
             refine zu 6 106 ?_
             refine take_ (i:=7) (N:=some 107) (v:= ?_) (a':= ?_) #[zt,zt,zt,zt,zt,zt,zt,zt,zt,zt,zt,zt,zf,zf,zf,zf,zf,zf] rfl rfl (take_ofW HT_.out HW_.out ze) (fun _ _ _ h=>h) (Or.inl ⟨by rfl,?_⟩) hHeld ?_ ?_
             rotate_left
             ·intro w' s0
              go_simp
              with_reducible rfl
             rotate_left
             ·simp only[Act.put,zL1,zL2,zL3,i64_w,i32_w]
              rfl
             refine take_ (i:=12) (N:=some 112) (v:= ?_) (a':= ?_) #[zt,zt,zt,zt,zt,zt,zt,zt,zt,zt,zt,zt,zt,zf,zf,zf,zf,zf] rfl rfl (take_ofW HT_.out HW_.out ze) (fun _ _ _ h=>h) (Or.inl ⟨by rfl,?_⟩) hHeld ?_ ?_
             rotate_left
             ·intro w' s0
              go_simp
              with_reducible rfl
             rotate_left
             ·simp only[Act.put,zL1,zL2,zL3,i64_w,i32_w]
              rfl
             refine one_ (i:=13) (N:=some 113) #[zt,zt,zt,zt,zt,zt,zt,zt,zt,zt,zt,zt,zt,zt,zf,zf,zf,zf] rfl rfl (one_of HT_.out ze) (by decide) (fun K hK=> ?_)
             refine goes_ Try.func77 ze rfl #[.int .i64 F, .int .i64 (rd acc j)] (by rfl) rfl rfl (by(try simp only[List.map_toArray,List.map_cons,List.map_nil]);first|done|rfl) ?_
             with_reducible refine(spec_GfMul.calls k F (rd acc j) t _ HT.out).mono ?_
             rintro e w' ⟨rfl,⟨nd,rfl⟩⟩
             refine⟨_,rfl,?_⟩
             refine hK.out _ _ (hHeld) (fun hHeld=> ?_)
             clear hK K
             refine norm_ (a':= ?_) ?_ ?_
             rotate_left
             ·show Act.put _ (some 113) _=_
              simp only[Act.put,zL1,zL2,zL3,i64_w,i32_w]
              rfl
             refine zu 14 114 ?_
             refine one_ (i:=15) (N:=some 115) #[zt,zt,zt,zt,zt,zt,zt,zt,zt,zt,zt,zt,zt,zt,zt,zt,zf,zf] rfl rfl (one_of HT_.out ze) (by decide) (fun K hK=> ?_)
             refine value_ (w1:= ?_) (v:= ?_) (by rfl) rfl ?_ ?_
             rotate_left 2
             ·go_simp
              constructor
              ·rfl
              ·rfl
             refine hK.out _ _ ⟨sl_alloc hHeld.1 _,sl_alloc hHeld.2.1 _,sl_alloc hHeld.2.2 _⟩ (fun hHeld=> ?_)
             clear hK K
             refine norm_ (a':= ?_) ?_ ?_
             rotate_left
             ·show Act.put _ (some 115) _=_
              simp only[Act.put,zL1,zL2,zL3,i64_w,i32_w]
              rfl
             refine last_ (i:=16) (N:=some 116) #[zt,zt,zt,zt,zt,zt,zt,zt,zt,zt,zt,zt,zt,zt,zt,zt,zt,zf] rfl rfl (one_of HT_.out ze) (by decide) (fun K hK=> ?_)
             refine Kd.R_append_step (Kd.int .i64) (w0:=Wd) Wd.heap.size (by rfl) (.tmp 100) (.tmp 115) 46 3 (.int .i64 0) 8 rfl Try.underlying46 info3 rfl (by decide) (by omega) (.slice Az ac.length cz) ac (Go.bits .xor .i64 (rd (slGet rows3 i) j) t) [.int .i64 (Go.bits .xor .i64 (rd (slGet rows3 i) j) t)] (fun _=>True) (fun _=>False) rfl rfl rfl (fun _ hk=>hk.elim) (fun _ _=>trivial) (zRn HOd.out nd) (zBn HBd.out nd) (zBn HBd.out nd).size HLA.out ?_
             intro v1 w1 ho hb hg hat
             have HO9:=zM ho
             have HB9:=zM hb
             clear ho hb hg hat
             refine hK.out _ _ ?_
             clear hK K
             refine norm_ (a':= ?_) ?_ ?_
             rotate_left
             ·show Act.put _ (some 116) _=_
              simp only[Act.put,zL1,zL2,zL3,i64_w,i32_w]
              rfl
             refine zu 17 13 ?_
             refine done_ (done_of HT_.out ze) ?_
             try go_wp2
             go_roundw
             case rel=>exact⟨j+1,ac++[(Go.bits .xor .i64 (rd (slGet rows3 i) j) t)],by first|rfl|rw[HWj.out],⟨zl2 HJ HQj⟩,⟨by have:=HAL.out;simp;omega⟩,HRn,HO9,HB9⟩
             case measure=>have:=HJ.out;have:=HQj.out;have:=HWj.out;first|(simp only[this];omega)|(simp;omega)|omega
            case neg=>
             have hltj:decide (j≤(n:Int))=false:=decide_eq_false (zl1 HN)
             have HACC:=zM (show ac=z by
              have h_:=HR.out
              rw[show N-j.toNat=0 by omega] at h_
              exact zI h_)
             obtain rfl:=HACC.out
             have hyl:ac.length=N:=zl1 HAL
             obtain⟨gz,cap,ey,hgz,_,_⟩:=Kd.R_form HO.out (by rw[hyl];have:=HN.out;omega)
             injection ey with ea en ec
             subst ea
             clear ec en
             have hO:=HO.out
             rw[hyl] at hO ⊢
             have hRd:=Kd.R_reads' hO
             rw[hyl] at hRd
             have HSj:=zM (sl_below HS3.out HBt.out)
             obtain⟨gq,cq,hq1,_,hq3,_,_,_⟩:=sl_read HSj.out i c HI0.out HQ3.out HC0.out HCN.out
             have hne:gz≠g:=by have h_:=zW _ _ (sl_read HS3.out i c HI0.out HQ3.out HC0.out HCN.out).choose_spec.choose_spec.1;have h2_:g<Wd.heap.size:=h_;omega
             have HBj:=zM (below_step HB3.out HBt.out)
             have HKj:=zM (Kept.below HK3.out HBt.out)
             have HS8:=zM (sl_set HSj.out i.toNat hRd.2.1 hRd.2.2 hne HL3.out)
             have HB8:=zM (zBs HBj.out HGB.out (v:= .slice (some ⟨gz,0,none⟩) N cz) (j:=i.toNat))
             have HK8:=zM (Kept.setCell HKj.out (p:=⟨g,i.toNat,none⟩) (.inl HPG.out) (.slice (some ⟨gz,0,none⟩) N cz))
             have HY8:=zM (sl_C_far (Kd.C_below HY3.out HBt.out) (p:=⟨g,i.toNat,none⟩) (fun h_=>HYN.out h_.symm) (.slice (some ⟨gz,0,none⟩) N cz))
             have HL8:=zM (show(rows3.set i.toNat ac).length=n by rw[List.length_set];exact HL3.out)
             have HRL8:=zM (slSetRow HRL3.out i.toNat hyl)
             clear hj hO hRd hne HACC HR HO hyl
             go_wp2
             go_roundw
             case rel=>exact⟨i+1,rows3.set i.toNat ac,by first|rfl|rw[HW3.out],⟨zl2 HI3 HQ3⟩,HL8,HRL8,HCn,HS8,HY8,HB8,HK8⟩
             case measure=>have:=HI3.out;have:=HQ3.out;have:=HW3.out;first|(simp only[this];omega)|(simp;omega)|omega
         case neg=>
          have hlti:decide (i<(n:Int))=false:=decide_eq_false hi
          have hr3:rows3=rows2:=by
           have h_:=HC3.out
           rw[show n-i.toNat=0 by have:=HI3.out;omega] at h_
           exact zI h_
          subst hr3
          clear hi
          go_wp2
          go_roundw
          case rel=>exact⟨c+1,rows3,by first|rfl|rw[HWc.out],⟨zl2 HI HQ⟩,HL3,HRL3,HEn2,HS3,HB3,HK3⟩
          case measure=>have:=HI.out;have:=HQ.out;have:=HWc.out;first|(simp only[this];omega)|(simp;omega)|omega
    case neg=>
     have hltp:decide (p<(n:Int))=false:=decide_eq_false hp
     have hpn:p=(n:Int):=zl1 HP
     have hpe:(p==(n:Int))=true:=beq_iff_eq.mpr hpn
     have hpe2:(p != (n:Int))=false:=bne_eq_false_iff_eq.mpr hpn
     have hPi:¬Pi<rows.length:=by have h_:=HFP.out;rw[show n-p.toNat=0 by omega] at h_;have h2_:p.toNat=Pi:=h_;rw[HLN.out];omega
     have h1:=slStep_none (k:=k) (N:=N) HC0.out HPC.out hPi
     rw[HST.out] at h1
     obtain rfl:=zI h1
     have h2:=HEn.out
     have h3:(none:Option (List (List Int)))=o:=zI h2
     subst h3
     have h4:=HEND.out
     obtain⟨rfl,rfl⟩:=Prod.mk.inj h4
     clear h1 h2 h4 hPi hp
     go_wp2_with (((with_reducible refine gate_dst (N:=43) rfl ?_);refine Kd.R_lit (Kd.int .i64) _ 3 ?hg (N:=43) ?hd (xs:=([]:List Int)) (inner:=[]) (ok:=fun _=>True) (okp:=fun _=>True) ?hr ?hp (fun _ hk=>hk) trivial (Below.refl _ _) (Nat.le_refl _) (by simp) ?_;(case hd|hg=>rfl);(case hr=>exact zh);(case hp=>exact(Reps.none _ _));intro v43 w43 ho9 hb9 hg_ hnew_;clear hg_ hnew_))
     go_ret2
     exact⟨_,rfl,Kd.R_lower (Kd.R_mono (Kd.R_bound ho9) (fun k_ hk_=> .inr (Nat.le_trans HK.out.1 hk_.2.1))) (below_size HB.out),below_step HB.out hb9,Kept.below HK.out hb9⟩
  case neg=>
   have hltc:decide (c<(n:Int))=false:=decide_eq_false hc
   have hcn:c=(n:Int):=zl1 HI
   have h1:=HEc.out
   rw[show n-c.toNat=0 by omega] at h1
   have h2:some rows=o:=zI h1
   subst h2
   have h4:=HEND.out
   obtain⟨hr1,rfl⟩:=Prod.mk.inj h4
   have HR1:=zM (show([]:List Int)++(rows.drop (0:Int).toNat).map (fun r=>rd r (n:Int))=r1 from hr1)
   clear h1 h4 hr1 hc hcn HEc HEND
   go_wp2_with (((with_reducible refine gate_dst (N:=121) rfl ?_);refine Kd.R_lit (Kd.int .i64) _ 3 ?hg (N:=121) ?hd (xs:=([]:List Int)) (inner:=[]) (ok:=fun _=>True) (okp:=fun _=>True) ?hr ?hp (fun _ hk=>hk) trivial (Below.refl _ _) (Nat.le_refl _) (by simp) ?_;(case hd|hg=>rfl);(case hr=>exact zh);(case hp=>exact(Reps.none _ _));intro v15 w15 ho9 hb9 hg_ hnew_;clear hg_ hnew_))
   have HO9:=zM ho9
   have HBt0:=zM hb9
   clear ho9 hb9
   (try simp only[Act.put,zL1,zL2,zL3])
   go_loopw [15,16] (fun u15 u16 W=>∃(i:Int) (acc:List Int),u16= .int .i64 i∧Aside0 (0≤i∧i≤(n:Int))∧Aside0 ((acc.length:Int)=i)∧Aside0 (acc++(rows.drop i.toNat).map (fun r=>rd r (n:Int))=r1)∧Aside0 (Kd.R (Kd.int .i64) 3 W Wc.heap.size (fun _=>True) u15 acc)∧Aside0 (Below Wc.heap.size Wc W)) (fun _ v _=>n-(match v with| .int _ n=>n.toNat|_=>0))
   case atStart=>exact⟨0,[],rfl,⟨by omega⟩,⟨rfl⟩,HR1,HO9,HBt0⟩
   case round=>
    clear HO9 HBt0 HR1
    obtain⟨i,acc,rfl,HJ,HAL,HR,HO,HBt⟩:=hrel
    obtain⟨Wj,hWj⟩:∃W,W=wr:=⟨_,rfl⟩
    subst hWj
    obtain⟨Ay,cy,ey⟩:=Kd.R_slice HO.out
    subst ey
    obtain⟨i0,i1⟩:=HJ.out
    by_cases hi:i<(n:Int)
    case pos=>
     have hlti:decide (i<(n:Int))=true:=zE hi
     obtain⟨g,hA,hPg,hgb⟩:=sl_form HS.out (by omega)
     subst hA
     have hnN:(n:Int)<(N:Int):=zl1 HN
     obtain⟨gi,ci,hy1,hy2,_,_,_,_⟩:=sl_read (sl_below HS.out HBt.out) i n i0 hi (by omega) hnN
     rw[Int.toNat_natCast] at hy2
     have hR:=HR.out
     rw[List.drop_eq_getElem_cons (by rw[HLN.out];omega:i.toNat<rows.length),List.map_cons] at hR
     have hge:rows[i.toNat]'(by rw[HLN.out];omega)=slGet rows i:=by unfold slGet;rw[List.getD_eq_getElem?_getD,List.getElem?_eq_getElem (by rw[HLN.out];omega)];rfl
     rw[hge] at hR
     have HRn:=zM (show(acc++[rd (slGet rows i) (n:Int)])++(rows.drop (i+1).toNat).map (fun r=>rd r (n:Int))=r1 by rw[List.append_assoc,show(i+1).toNat=i.toNat+1 by omega];exact hR)
     have hla:(acc.length+1)*8≤140737488355328:=by have:=HAL.out;have:=HN.out;have:=HLM.out;omega
     have HLA:=zM hla
     have HWj:=zM (slW i0 (zl2 HLM HN):wrap64 (i+1)=i+1)
     have HQj:=zM hi
     have pj:=eq_true i0
     have qj:=eq_true hi
     have pn:(0≤(n:Int))=True:=eq_true (by omega)
     have qn:=eq_true hnN
     clear hR hi hla HR hge hnN
     go_wp2_with (((with_reducible refine gate_builtin (b:= .append) (xs:= #[.tmp 127, .tmp 135]) rfl ?_);at_builtin;refine Kd.R_append (Kd.int .i64) (w0:=Wc) Wc.heap.size rfl (.tmp 127) (.tmp 135) 46 3 (.int .i64 0) 8 rfl Try.underlying46 info3 rfl (by decide) (by omega) (.slice Ay acc.length cy) acc (rd (slGet rows i) (n:Int)) [.int .i64 (rd (slGet rows i) (n:Int))] (fun _=>True) (fun _=>False) rfl rfl rfl (fun _ hk=>hk.elim) (fun _ _=>trivial) HO.out HBt.out (below_size HBt.out) HLA.out ?_;intro v9 w9 ho hb hg hat);have HO9:=zM ho;have HB9:=zM hb;clear ho hb hg hat)
     go_roundw
     case rel=>exact⟨i+1,acc++[rd (slGet rows i) (n:Int)],by first|rfl|rw[HWj.out],⟨zl2 HJ HQj⟩,⟨by have:=HAL.out;simp;omega⟩,HRn,HO9,HB9⟩
     case measure=>have:=HJ.out;have:=HQj.out;have:=HWj.out;first|(simp only[this];omega)|(simp;omega)|omega
    case neg=>
     have hlti:decide (i<(n:Int))=false:=decide_eq_false hi
     have HACC:=zM (show acc=r1 by
      have h_:=HR.out
      rw[List.drop_of_length_le (by rw[HLN.out];omega),List.map_nil,List.append_nil] at h_
      exact h_)
     obtain rfl:=HACC.out
     clear hi HACC
     go_wp2
     go_ret2
     exact⟨_,rfl,Kd.R_lower (Kd.R_mono (Kd.R_bound HO.out) (fun k_ hk_=> .inr (Nat.le_trans HK.out.1 hk_.2.1))) (below_size HB.out),below_step HB.out HBt.out,Kept.below HK.out HBt.out⟩
end Go.Proofs.Ytapobpkeefeajaa.PFnExactHear
