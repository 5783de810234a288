import Derived.Test.YtapobpkeefeajaaPFnExactHearx26
import Derived.Test.YtapobpkeefeajaaAidV
set_option linter.unusedVariables false
set_option linter.unusedSimpArgs false
namespace Go.Proofs.Ytapobpkeefeajaa.Pure
open Go Go.RowKit Go.Proofs.Ytapobpkeefeajaa.PFnExactHear Go.Proofs.YtapobpkeefeajaaW.PrintWords Go.Proofs.YtapobpkeefeajaaW.PrintLast Go.Proofs.YtapobpkeefeajaaW.PrintMore
def gfX (a:Nat):Nat:=if 2*a>255 then(2*a)^^^285 else 2*a
def gfI:Nat→Nat→Nat→Nat→Nat
 |0,_,_,r=>r
 |n+1,a,b,r=>gfI n (gfX a) (b / 2) (if b%2=1 then r^^^a else r)
def gfM (a b:Nat):Nat:=gfI 8 a b 0
theorem qov (a b:Nat):2*(a^^^b)=(2*a)^^^(2*b):=by
 apply Nat.eq_of_testBit_eq
 intro i
 cases i with
 |zero=>simp
 | succ i=>
   rw[Nat.testBit_xor,Nat.testBit_succ,Nat.testBit_succ,Nat.testBit_succ,Nat.mul_div_cancel_left _ (by omega),Nat.mul_div_cancel_left _ (by omega),Nat.mul_div_cancel_left _ (by omega),Nat.testBit_xor]
theorem qjx:∀a:Fin 256,gfX a.1=(2*a.1)^^^(if a.1.testBit 7 then 285 else 0)∧gfX a.1<256:=by decide+kernel
theorem qhv {a:Nat} (h:a<256):gfX a=(2*a)^^^(if a.testBit 7 then 285 else 0):=(qjx ⟨a,h⟩).1
theorem qat {a:Nat} (h:a<256):gfX a<256:=(qjx ⟨a,h⟩).2
theorem qay {a b:Nat} (ha:a<256) (hb:b<256):a^^^b<256:=Nat.xor_lt_two_pow (n:=8) ha hb
theorem qgb {a b:Nat} (ha:a<256) (hb:b<256):gfX (a^^^b)=gfX a^^^gfX b:=by
 rw[qhv ha,qhv hb,qhv (qay ha hb),qov,Nat.testBit_xor]
 cases a.testBit 7<;>cases b.testBit 7<;>simp
 · rw[Nat.xor_assoc]
 · rw[Nat.xor_assoc,Nat.xor_assoc,Nat.xor_comm 285]
 · rw[show(2*a^^^285)^^^(2*b^^^285)=(2*a^^^2*b)^^^(285^^^285) by rw[Nat.xor_assoc,Nat.xor_assoc,←Nat.xor_assoc 285,Nat.xor_comm 285 (2*b),Nat.xor_assoc (2*b)],Nat.xor_self,Nat.xor_zero]
theorem qhw:gfX 0=0:=rfl
theorem qhq:∀(n a b r:Nat),gfI n a b r=r^^^gfI n a b 0
 |0,_,_,r=>by simp[gfI]
 | n+1,a,b,r=>by
   simp only[gfI]
   rw[qhq n (gfX a) (b / 2) (if b%2=1 then r^^^a else r),qhq n (gfX a) (b / 2) (if b%2=1 then 0^^^a else 0)]
   split
   · rw[Nat.zero_xor,Nat.xor_assoc]
   · rw[Nat.zero_xor]
theorem qff:∀(n a b:Nat),a<256→gfI n a b 0<256
 |0,_,_,_=>by simp[gfI]
 | n+1,a,b,h=>by
   simp only[gfI]
   rw[qhq]
   refine qay ?_ (qff n _ _ (qat h))
   split
   · rw[Nat.zero_xor];exact h
   · omega
theorem qau (n a b:Nat):gfI (n+1) a b 0=(if b%2=1 then a else 0)^^^gfI n (gfX a) (b / 2) 0:=by
 simp only[gfI]
 rw[qhq,Nat.zero_xor]
theorem qgc:∀(n a c b:Nat),a<256→c<256→gfI n (a^^^c) b 0=gfI n a b 0^^^gfI n c b 0
 |0,_,_,_,_,_=>by simp[gfI]
 | n+1,a,c,b,ha,hc=>by
   rw[qau,qau,qau,qgb ha hc,qgc n _ _ _ (qat ha) (qat hc)]
   split
   · rw[Nat.xor_assoc,Nat.xor_assoc,←Nat.xor_assoc c,Nat.xor_comm c,Nat.xor_assoc]
   · simp
theorem qdk:∀n b,gfI n 0 b 0=0
 |0,_=>rfl
 |n+1,b=>by rw[qau,qhw,qdk n];simp
theorem qop:∀(n a b:Nat),a<256→gfI n (gfX a) b 0=gfX (gfI n a b 0)
 |0,_,_,_=>rfl
 | n+1,a,b,h=>by
   rw[qau,qau,qgb (by split<;>omega) (qff n _ _ (qat h)),qop n _ _ (qat h)]
   split<;>rfl
theorem qhx (c:Nat):∀(n a b:Nat),a<256→gfI n (gfM a c) b 0=gfM (gfI n a b 0) c
 |0,_,_,_=>(qdk 8 c).symm
 | n+1,a,b,h=>by
   have h2:gfX (gfM a c)=gfM (gfX a) c:=(qop 8 a c h).symm
   rw[qau,qau,h2,qhx c n _ _ (qat h)]
   unfold gfM
   rw[qgc 8 _ _ c (by split<;>omega) (qff n _ _ (qat h))]
   split
   · rfl
   · rw[qdk]
theorem qfg {a:Nat} (h:a<256) (b:Nat):gfM a b<256:=qff 8 a b h
theorem qgq {a:Nat} (h:a<256) (b c:Nat):gfM (gfM a b) c=gfM (gfM a c) b:=(qhx c 8 a b h).symm
theorem qow {a c:Nat} (ha:a<256) (hc:c<256) (b:Nat):gfM (a^^^c) b=gfM a b^^^gfM c b:=qgc 8 a c b ha hc
theorem qgd:∀b:Fin 256,gfM 1 b.1=b.1:=by decide+kernel
theorem qby {a b:Nat} (ha:a<256) (hb:b<256):gfM a b=gfM b a:=by
 have h1:=qgq (a:=1) (by omega) a b
 rw[qgd ⟨a,ha⟩,qgd ⟨b,hb⟩] at h1
 exact h1
theorem qnb (b:Nat):gfM 0 b=0:=qdk 8 b
theorem qlm {a b c:Nat} (ha:a<256) (hb:b<256) (hc:c<256):gfM (gfM a b) c=gfM a (gfM b c):=by
 rw[qby ha hb,qgq hb,qby (qfg hb c) ha]
def gfS:Nat→Nat→Nat→Nat→Nat
 |0,p,_,_=>p
 |n+1,p,a,b=>gfS n (if b / 2^n%2=1 then gfX p^^^a else gfX p) a b
def qaz:Nat→Nat→Nat
 |0,a=>a
 |n+1,a=>qaz n (gfX a)
theorem qgr:∀n {a b:Nat},a<256→b<256→qaz n (a^^^b)=qaz n a^^^qaz n b
 |0,_,_,_,_=>rfl
 |n+1,_,_,ha,hb=>by simp only[qaz];rw[qgb ha hb,qgr n (qat ha) (qat hb)]
theorem qhy:∀(n a b:Nat),a<256→gfI (n+1) a b 0=gfI n a b 0^^^(if b / 2^n%2=1 then qaz n a else 0)
 |0,a,b,_=>by rw[qau];simp[gfI,qaz]
 | n+1,a,b,h=>by
   rw[qau,qhy n _ _ (qat h),qau n a b,Nat.div_div_eq_div_mul,Nat.xor_assoc,show 2*2^n=2^(n+1) by rw[Nat.pow_succ,Nat.mul_comm]]
   rfl
theorem qjy:∀(n p a b:Nat),p<256→a<256→gfS n p a b=qaz n p^^^gfI n a b 0
 |0,p,a,b,_,_=>by simp[gfS,qaz,gfI]
 | n +1,p,a,b,hp,ha=>by
   simp only[gfS]
   rw[qjy n _ a b (by split;exact qay (qat hp) ha;exact qat hp) ha,qhy n a b ha]
   split
   · rw[qgr n (qat hp) ha]
     simp only[qaz]
     rw[Nat.xor_assoc,Nat.xor_comm (qaz n a)]
   · simp only[qaz,Nat.xor_zero]
theorem qqj {a:Nat} (b:Nat) (ha:a<256):gfS 8 0 a b=gfM a b:=by
 rw[qjy 8 0 a b (by omega) ha]
 have:∀n,qaz n 0=0:=fun n=>by
  induction n with
  |zero=>rfl
  |succ n ih=>simp only[qaz];rw[qhw,ih]
 rw[this,Nat.zero_xor]
 rfl
def xorI (a b:Int):Int:=((a.toNat^^^b.toNat:Nat):Int)
theorem qnc {a b:Int} (ha:0≤a∧a<9223372036854775808) (hb:0≤b∧b<9223372036854775808):bits .xor .i64 a b=xorI a b:=by
 obtain⟨x,rfl⟩:=Int.eq_ofNat_of_zero_le ha.1
 obtain⟨y,rfl⟩:=Int.eq_ofNat_of_zero_le hb.1
 have hx:x%2^IntKind.i64.bits=x:=Nat.mod_eq_of_lt (by show x<2^64;omega)
 have hy:y%2^IntKind.i64.bits=y:=Nat.mod_eq_of_lt (by show y<2^64;omega)
 have hl:x^^^y<2^63:=Nat.xor_lt_two_pow (by omega) (by omega)
 unfold xorI
 simp only[bits,BitVec.toNat_xor,BitVec.ofInt_natCast,BitVec.toNat_ofNat,hx,hy,Int.toNat_natCast]
 rw[IntKind.wrap_i64]
 omega
theorem qax (a b c:Int):spec_l1In.f a b c=some (decide (b≤a)&&decide (a≤c)):=by
 unfold spec_l1In.f
 by_cases h:a≥b
 · rw[if_pos h];simp[show b≤a from h]
 · rw[if_neg h];simp[show ¬b≤a from h]
theorem qdw (a:Int):impl_isByte.f a=some (decide (0≤a∧a≤255)):=by
 unfold impl_isByte.f
 by_cases h:a≥0
 · rw[if_pos h];simp[h]
 · rw[if_neg h];simp;omega
theorem xorN (a b:Nat) (ha:a<9223372036854775808) (hb:b<9223372036854775808):bits .xor .i64 (a:Int) (b:Int)=((a^^^b:Nat):Int):=by
 rw[qnc ⟨by omega,by omega⟩ ⟨by omega,by omega⟩]
 unfold xorI
 simp
theorem qjz {a:Nat} (h:a<256):(if wrap64 ((a:Int)*2)>255 then bits .xor .i64 (wrap64 ((a:Int)*2)) 285 else wrap64 ((a:Int)*2))=((gfX a:Nat):Int):=by
 rw[w64 (by omega) (by omega)]
 unfold gfX
 by_cases h2:2*a>255
 · rw[if_pos (by omega),if_pos h2,show((a:Int)*2)=((2*a:Nat):Int) by omega,show(285:Int)=((285:Nat):Int) from rfl,xorN _ _ (by omega) (by omega)]
 · rw[if_neg (by omega),if_neg h2];omega
theorem qln:∀n a r,gfI n a 0 r=r
 |0,_,_=>rfl
 |n+1,a,r=>by simp only[gfI];rw[if_neg (by decide)];exact qln n _ _
theorem qlo:∀(n a b r:Nat),a<256→b<2^n→b<256→r<256→Ev (fun k=>impl_GfMul.l0 k (a:Int) (b:Int) (r:Int)) ((gfI n a b r:Nat):Int):=by
 intro n
 induction n with
 | zero=>
   intro a b r ha hb _ hr
   refine Ev.succ ?_
   simp only[impl_GfMul.l0]
   exact Ev.neg (by simp at hb;omega) (Ev.some_ rfl)
 | succ n ih=>
   intro a b r ha hb hb2 hr
   refine Ev.succ ?_
   simp only[impl_GfMul.l0]
   by_cases h0:b=0
   · subst h0
     exact Ev.neg (by omega) (Ev.some_ (by rw[qln]))
   · have hx:=qjz ha
     have hxl:=qat ha
     have hb3:b / 2<2^n:=by rw[Nat.pow_succ] at hb;omega
     have e2:(b:Int) / 2=((b / 2:Nat):Int):=by omega
     have e1:bits .and .i64 (b:Int) 1=((b%2:Nat):Int):=by
      have:=bits_and_mask (b:Int) 1 (by omega)
      rw[show((2:Int)^1-1)=1 by decide] at this
      rw[this];omega
     have er:bits .xor .i64 (r:Int) (a:Int)=((r^^^a:Nat):Int):=xorN r a (by omega) (by omega)
     have hrl:r^^^a<256:=qay hr ha
     have i1:=ih (gfX a) (b / 2) (r^^^a) hxl hb3 (by omega) hrl
     have i0:=ih (gfX a) (b / 2) r hxl hb3 (by omega) hr
     simp only[gfI]
     rw[e1,e2,er]
     clear ih e1 e2 er hb hb3
     refine Ev.pos (by omega) ?_
     by_cases h1:b%2=1
     · rw[if_pos h1]
       refine Ev.pos (by omega) ?_
       by_cases h2:wrap64 ((a:Int)*2)>255
       · rw[if_pos h2] at hx
         rw[hx]
         exact Ev.pos h2 i1
       · rw[if_neg h2] at hx
         rw[hx] at h2 ⊢
         exact Ev.neg h2 i1
     · rw[if_neg h1]
       refine Ev.neg (by omega) ?_
       by_cases h2:wrap64 ((a:Int)*2)>255
       · rw[if_pos h2] at hx
         rw[hx]
         exact Ev.pos h2 i0
       · rw[if_neg h2] at hx
         rw[hx] at h2 ⊢
         exact Ev.neg h2 i0
theorem qcv (a b:Nat) (ha:a<256) (hb:b<256):Ev (fun k=>impl_GfMul.f k (a:Int) (b:Int)) ((gfM a b:Nat):Int):=by
 unfold impl_GfMul.f
 rw[qdw,qdw]
 simp only[Option.bind_some]
 refine Ev.pos (by simp;omega) ?_
 rw[show(!decide (0≤(b:Int)∧(b:Int)≤255))=false by simp;omega]
 refine Ev.succ ?_
 simp only[impl_GfMul.j0]
 exact Ev.neg (by decide) (qlo 8 a b 0 ha hb hb (by omega))
theorem qge (a:Int):spec_l14Byte.f a=some (decide (0≤a)&&decide (a≤255)):=by
 unfold spec_l14Byte.f;rw[qax];rfl
theorem qlp (a b:Nat) (ha:a<256) (hb:b<256):∀(n p:Nat),n≤8→p<256→Ev (fun k=>spec_GfMul.l0 k (a:Int) (b:Int) (p:Int) ((n:Int)-1)) ((gfS n p a b:Nat):Int):=by
 intro n
 induction n with
 | zero=>
   intro p _ _
   refine Ev.succ ?_
   simp only[spec_GfMul.l0]
   exact Ev.neg (by omega) (Ev.some_ rfl)
 | succ n ih=>
   intro p hn hp
   have e1:((n+1:Nat):Int)-1=(n:Int):=by omega
   have hx:=qjz hp
   rw[show(p:Int)*2=2*(p:Int) by omega] at hx
   have hxl:=qat hp
   have hw:wrap64 (2*(p:Int))≥256↔wrap64 (2*(p:Int))>255:=by omega
   have e2:shr .i64 (b:Int) (IntKind.u64.wrap (n:Int))=((b / 2^n:Nat):Int):=by
    rw[wu64 (by omega) (by omega)]
    unfold shr
    rw[show min ((n:Int).toNat) IntKind.i64.bits=n by simp[IntKind.bits];omega]
    have:2^n≤256:=by have:=Nat.pow_le_pow_right (n:=2) (by omega) hn;simp at this;exact Nat.le_trans (Nat.pow_le_pow_right (by omega) (by omega:n≤8)) (by decide)
    first
     |(rw[IntKind.wrap_i64];have hd:b / 2^n≤b:=Nat.div_le_self _ _;omega)
     |(simp;omega)
     |simp
   have e3:Int.tmod (((b / 2^n:Nat):Int)) 2=((b / 2^n%2:Nat):Int):=by
    generalize b / 2^n=q
    rw[Int.tmod_eq_emod_of_nonneg (by omega)];omega
   have e4:wrap64 ((n:Int)-1)=(n:Int)-1:=w64 (by omega) (by omega)
   have er:bits .xor .i64 ((gfX p:Nat):Int) (a:Int)=((gfX p^^^a:Nat):Int):=xorN _ _ (by omega) (by omega)
   have i1:=ih (gfX p^^^a) (by omega) (qay hxl ha)
   have i0:=ih (gfX p) (by omega) hxl
   have hu:0≤IntKind.u64.wrap (n:Int):=by rw[wu64 (by omega) (by omega)];omega
   refine Ev.succ ?_
   simp only[spec_GfMul.l0,gfS]
   simp only[e1,e2,e3,e4]
   refine Ev.pos (by omega) ?_
   have bit:∀q:Int,q=((gfX p:Nat):Int)→Ev (fun k=>if 0≤IntKind.u64.wrap (n:Int) then(if((b / 2^n%2:Nat):Int)=1 then spec_GfMul.l0 k (a:Int) (b:Int) (bits .xor .i64 q (a:Int)) ((n:Int)-1) else spec_GfMul.l0 k (a:Int) (b:Int) q ((n:Int)-1)) else none) ((gfS n (if b / 2^n%2=1 then gfX p^^^a else gfX p) a b:Nat):Int):=by
    intro q hq
    subst hq
    rw[er]
    refine Ev.pos hu ?_
    by_cases hb1:b / 2^n%2=1
    · rw[if_pos hb1];exact Ev.pos (by omega) i1
    · rw[if_neg hb1];exact Ev.neg (by omega) i0
   by_cases h2:wrap64 (2*(p:Int))>255
   · rw[if_pos h2] at hx
     exact Ev.pos (hw.2 h2) (bit _ hx)
   · rw[if_neg h2] at hx
     exact Ev.neg (fun h=>h2 (hw.1 h)) (bit _ hx)
theorem qgs (a b:Nat) (ha:a<256) (hb:b<256):Ev (fun k=>spec_GfMul.f k (a:Int) (b:Int)) ((gfM a b:Nat):Int):=by
 unfold spec_GfMul.f
 rw[qge,qge]
 simp only[Option.bind_some]
 refine Ev.pos (by simp;omega) ?_
 rw[show(!(decide (0≤(b:Int))&&decide ((b:Int)≤255)))=false by simp;omega]
 refine Ev.succ ?_
 simp only[spec_GfMul.j0]
 refine Ev.neg (by decide) ?_
 rw[←qqj b ha]
 exact qlp a b ha hb 8 0 (by omega) (by omega)
def gfP:Nat→Nat
 |0=>1
 |n+1=>gfM (gfP n) 2
theorem qdx:∀n,gfP n<256
 |0=>by decide
 |n+1=>qfg (qdx n) 2
theorem qox (N:Nat) (hN:N≤100):∀d i:Nat,i+d=N→Ev (fun k=>impl_gfPow.l0 k ((gfP i:Nat):Int) (N:Int) (i:Int)) ((gfP N:Nat):Int):=by
 intro d
 induction d with
 | zero=>
   intro i hi
   refine Ev.succ ?_
   simp only[impl_gfPow.l0]
   rw[show i=N by omega]
   exact Ev.neg (by omega) (Ev.some_ rfl)
 | succ d ih=>
   intro i hi
   refine Ev.succ ?_
   simp only[impl_gfPow.l0]
   rw[w64_add (by omega) (by omega)]
   exact Ev.pos (by omega) (Ev.next (qcv (gfP i) 2 (qdx i) (by omega)) (ih (i+1) (by omega)))
theorem qoy (n:Nat) (hn:n≤100):Ev (fun k=>impl_gfPow.f k (n:Int)) ((gfP n:Nat):Int):=by
 unfold impl_gfPow.f
 rw[show Int.tmod (n:Int) 255=(n:Int) by rw[Int.tmod_eq_emod_of_nonneg (by omega)];omega]
 exact qox n hn n 0 (by omega)
def isB (l:List Int):Prop:=∀x∈l,0≤x∧x<256
def xB (a b:Int):Int:=bits .xor .i64 a b
theorem qoq {a b:Int} (ha:0≤a∧a<256) (hb:0≤b∧b<256):0≤xB a b∧xB a b<256:=by
 have:=qay (a:=a.toNat) (b:=b.toNat) (by omega) (by omega)
 unfold xB
 rw[←Int.toNat_of_nonneg ha.1,←Int.toNat_of_nonneg hb.1,xorN _ _ (by omega) (by omega)]
 omega
theorem rd_B {l:List Int} (h:isB l) (i:Int):0≤rd l i∧rd l i<256:=by
 unfold rd
 rcases Nat.lt_or_ge i.toNat l.length with h1|h1
 · rw[List.getD_eq_getElem?_getD,List.getElem?_eq_getElem h1];exact h _ (List.getElem_mem h1)
 · rw[List.getD_eq_getElem?_getD,List.getElem?_eq_none h1];simp
theorem qck {l:List Int} (h:isB l) {x:Int} (hx:0≤x∧x<256) (i:Nat):isB (l.set i x):=fun y hy=>by
 rcases List.mem_or_eq_of_mem_set hy with h2|h2
 · exact h y h2
 · rw[h2];exact hx
theorem qbv {a b:List Int} (ha:isB a) (hb:isB b):isB (a++b):=fun x hx=>by
 rcases List.mem_append.1 hx with h|h
 · exact ha x h
 · exact hb x h
theorem qnd:isB [0]:=fun x hx=>by simp at hx;omega
def horn (z:Nat):Nat→List Int→Nat
 |a,[]=>a
 |a,c::l=>horn z (gfM a z^^^c.toNat) l
theorem qne {a b:Int} (ha:0≤a∧a<256) (hb:0≤b∧b<256):(xB a b).toNat=a.toNat^^^b.toNat:=by
 have h:=xorN a.toNat b.toNat (by omega) (by omega)
 rw[Int.toNat_of_nonneg ha.1,Int.toNat_of_nonneg hb.1] at h
 unfold xB
 rw[h,Int.toNat_natCast]
theorem qdy (l m:List Int) (t:Nat):rd (l++m) (t:Int)=if t<l.length then rd l (t:Int) else rd m ((t-l.length:Nat):Int):=by
 rw[rd_nat,rd_nat,rd_nat,List.getD_eq_getElem?_getD,List.getD_eq_getElem?_getD,List.getD_eq_getElem?_getD,List.getElem?_append]
 split<;>rfl
structure GF where
 v:Nat
 lt:v<256
theorem GF.ext' {a b:GF} (h:a.v=b.v):a=b:=by cases a;cases b;simp only at h;subst h;rfl
def GF.of (n:Nat) (h:n<256):GF:=⟨n,h⟩
instance:Add GF:=⟨fun a b=>⟨a.v^^^b.v,qay a.lt b.lt⟩⟩
instance:Mul GF:=⟨fun a b=>⟨gfM a.v b.v,qfg a.lt b.v⟩⟩
instance:OfNat GF 0:=⟨⟨0,by decide⟩⟩
instance:OfNat GF 1:=⟨⟨1,by decide⟩⟩
theorem GF.add_comm (a b:GF):a+b=b+a:=GF.ext' (Nat.xor_comm ..)
theorem GF.add_assoc (a b c:GF):a+b+c=a+(b+c):=GF.ext' (Nat.xor_assoc ..)
theorem GF.mul_comm (a b:GF):a*b=b*a:=GF.ext' (qby a.lt b.lt)
theorem GF.mul_assoc (a b c:GF):a*b*c=a*(b*c):=GF.ext' (qlm a.lt b.lt c.lt)
theorem GF.add_zero (a:GF):a+0=a:=GF.ext' (Nat.xor_zero _)
theorem GF.zero_add (a:GF):0+a=a:=GF.ext' (Nat.zero_xor _)
theorem GF.add_self (a:GF):a+a=0:=GF.ext' (Nat.xor_self _)
theorem GF.zero_mul (a:GF):0*a=0:=GF.ext' (qnb a.v)
theorem GF.mul_zero (a:GF):a*0=0:=by rw[GF.mul_comm];exact GF.zero_mul a
theorem GF.one_mul (a:GF):1*a=a:=GF.ext' (qgd ⟨a.v,a.lt⟩)
theorem GF.mul_one (a:GF):a*1=a:=by rw[GF.mul_comm];exact GF.one_mul a
theorem GF.add_mul (a b c:GF):(a+b)*c=a*c+b*c:=GF.ext' (qow a.lt b.lt c.v)
theorem GF.mul_add (a b c:GF):c*(a+b)=c*a+c*b:=by rw[GF.mul_comm,GF.add_mul,GF.mul_comm a,GF.mul_comm b]
instance:Std.Commutative (α:=GF) (· + ·):=⟨GF.add_comm⟩
instance:Std.Associative (α:=GF) (· + ·):=⟨GF.add_assoc⟩
instance:Std.Commutative (α:=GF) (· * ·):=⟨GF.mul_comm⟩
instance:Std.Associative (α:=GF) (· * ·):=⟨GF.mul_assoc⟩
theorem GF.add_eq_zero {a b:GF} (h:a+b=0):a=b:=by
 have:a+b+b=0+b:=by rw[h]
 rw[GF.add_assoc,GF.add_self,GF.add_zero,GF.zero_add] at this
 exact this
theorem GF.one_ne:(1:GF)≠0:=fun h=>by
 have:=congrArg GF.v h
 exact absurd this (by decide)
def powL:Nat→List Nat
 |0=>[1]
 |n+1=>gfX ((powL n).headD 0)::powL n
theorem qhz:(powL 254).length=255∧((List.range 256).all fun a=>a==0||(powL 254).contains a)=true∧gfX ((powL 254).headD 0)=1:=by decide+kernel
def GF.pw (x:GF):Nat→GF
 |0=>1
 |n+1=>GF.pw x n*x
def two:GF:=⟨2,by decide⟩
theorem qgf:∀a:Fin 256,gfM a.1 2=gfX a.1:=by decide+kernel
theorem qce (x:GF) (a:Nat):∀b,x.pw (a+b)=x.pw a*x.pw b
 |0=>(GF.mul_one _).symm
 |b+1=>by show x.pw (a+b)*x=x.pw a*(x.pw b*x);rw[qce x a b,GF.mul_assoc]
theorem qez:∀n,((powL n).headD 0=(two.pw n).v)∧∀a∈powL n,∃i,i≤n∧a=(two.pw i).v
 |0=>⟨rfl,fun a h=>⟨0,Nat.le_refl _,by rw[List.mem_singleton.1 h];rfl⟩⟩
 | n +1=>by
   obtain⟨h1,h2⟩:=qez n
   have e:gfX ((powL n).headD 0)=(two.pw (n+1)).v:=by
    rw[h1]
    exact(qgf ⟨_,(two.pw n).lt⟩).symm
   refine⟨e,fun a h=> ?_⟩
   rcases List.mem_cons.1 h with h|h
   · exact⟨n+1,Nat.le_refl _,h.trans e⟩
   · obtain⟨i,hi,e2⟩:=h2 a h
     exact⟨i,by omega,e2⟩
theorem qde (x:GF) (n:Nat):x.pw (n+1)=x.pw n*x:=rfl
theorem qdz:two.pw 255=1:=by
 have h:=(qez 254).1
 have h2:=qhz.2.2
 rw[h] at h2
 rw[show(255:Nat)=254+1 from rfl,qde]
 generalize two.pw 254=x at h2
 exact GF.ext' ((qgf ⟨x.v,x.lt⟩).trans h2)
theorem GF.is_pw (a:GF) (h:a≠0):∃i,i≤254∧a=two.pw i:=by
 have hall:=qhz.2.1
 rw[List.all_eq_true] at hall
 have:=hall a.v (List.mem_range.2 a.lt)
 simp only[Bool.or_eq_true,beq_iff_eq,List.contains_iff_mem] at this
 rcases this with h0|h0
 · exact absurd (GF.ext' h0) h
 · obtain⟨i,hi,e⟩:=(qez 254).2 _ h0
   exact⟨i,hi,GF.ext' e⟩
def GF.inv (a:GF):GF:=a.pw 254
theorem qdl (x:GF) (a:Nat):∀b,(x.pw a).pw b=x.pw (a*b)
 |0=>rfl
 |b+1=>by show(x.pw a).pw b*x.pw a=_;rw[qdl x a b,←qce];rfl
theorem qia:∀n,(1:GF).pw n=1
 |0=>rfl
 |n+1=>by show(1:GF).pw n*1=1;rw[qia n,GF.one_mul]
theorem GF.mul_inv {a:GF} (h:a≠0):a*a.inv=1:=by
 obtain⟨i,_,e⟩:=a.is_pw h
 have:a*a.pw 254=a.pw 255:=GF.mul_comm _ _
 show a*a.pw 254=1
 rw[this,e,qdl,Nat.mul_comm,←qdl,qdz,qia]
theorem GF.mul_eq_zero {a b:GF} (h:a*b=0) (ha:a≠0):b=0:=by
 have:a.inv*(a*b)=0:=by rw[h,GF.mul_zero]
 rw[←GF.mul_assoc,GF.mul_comm a.inv,GF.mul_inv ha,GF.one_mul] at this
 exact this
theorem GF.mul_ne {a b:GF} (ha:a≠0) (hb:b≠0):a*b≠0:=fun h=>hb (GF.mul_eq_zero h ha)
theorem GF.inv_ne {a:GF} (h:a≠0):a.inv≠0:=fun e=>by
 have:=GF.mul_inv h
 rw[e,GF.mul_zero] at this
 exact GF.one_ne this.symm
def GF.S:Nat→(Nat→GF)→GF
 |0,_=>0
 |n+1,f=>GF.S n f+f n
theorem qab {f g:Nat→GF}:∀n,(∀i,i<n→f i=g i)→GF.S n f=GF.S n g
 |0,_=>rfl
 |n+1,h=>by show GF.S n f+f n=GF.S n g+g n;rw[qab n (fun i hi=>h i (by omega)),h n (by omega)]
theorem qbr:∀n,GF.S n (fun _=>0)=0
 |0=>rfl
 |n+1=>by show GF.S n _+0=0;rw[qbr n,GF.add_zero]
theorem qdm (f g:Nat→GF):∀n,GF.S n (fun i=>f i+g i)=GF.S n f+GF.S n g
 |0=>(GF.add_zero _).symm
 | n+1=>by
   show GF.S n (fun i=>f i+g i)+(f n+g n)=(GF.S n f+f n)+(GF.S n g+g n)
   rw[qdm f g n];ac_rfl
theorem qba (c:GF) (f:Nat→GF):∀n,GF.S n (fun i=>c*f i)=c*GF.S n f
 |0=>(GF.mul_zero _).symm
 | n+1=>by
   show GF.S n (fun i=>c*f i)+c*f n=c*(GF.S n f+f n)
   rw[qba c f n,GF.mul_add]
theorem qdf (c:GF) (f:Nat→GF) (n:Nat):GF.S n (fun i=>f i*c)=GF.S n f*c:=by
 rw[GF.mul_comm,←qba];exact qab n (fun i _=>GF.mul_comm _ _)
theorem qfh (f:Nat→Nat→GF) (m:Nat):∀n,GF.S n (fun i=>GF.S m (fun j=>f i j))=GF.S m (fun j=>GF.S n (fun i=>f i j))
 |0=>(qbr m).symm
 | n+1=>by
   show GF.S n (fun i=>GF.S m (fun j=>f i j))+GF.S m (fun j=>f n j)=GF.S m (fun j=>GF.S n (fun i=>f i j)+f n j)
   rw[qfh f m n,qdm]
theorem qgg (f:Nat→GF):∀n,GF.S (n+1) f=f 0+GF.S n (fun i=>f (i+1))
 |0=>by show(0:GF)+f 0=f 0+0;rw[GF.zero_add,GF.add_zero]
 | n+1=>by
   show GF.S (n+1) f+f (n+1)=f 0+(GF.S n (fun i=>f (i+1))+f (n+1))
   rw[qgg f n,GF.add_assoc]
theorem qcf {f:Nat→GF} {m:Nat}:∀n,m≤n→(∀i,m≤i→i<n→f i=0)→GF.S n f=GF.S m f
 |0,h,_=>by rw[show m=0 by omega]
 | n +1,h,hz=>by
   rcases Nat.lt_or_ge n m with h1|h1
   · rw[show m=n+1 by omega]
   · show GF.S n f+f n=GF.S m f
     rw[hz n h1 (by omega),GF.add_zero]
     exact qcf n h1 (fun i hi h2=>hz i hi (by omega))
theorem qhr {f:Nat→GF} (c n:Nat) (hc:c<n) (hz:∀i,i<n→i≠c→f i=0):GF.S n f=f c:=by
 have e:GF.S n f=GF.S (c+1) f:=qcf n hc (fun i h1 h2=>hz i h2 (by omega))
 rw[e]
 show GF.S c f+f c=f c
 have:GF.S c f=GF.S 0 f:=qcf c (Nat.zero_le _) (fun i _ h2=>hz i (by omega) (by omega))
 rw[this]
 exact GF.zero_add _
theorem qcg:∀(t:Nat) (X y:Nat→GF),(∀i j,i<t→j<t→X i=X j→i=j)→(∀i,i<t→GF.S t (fun j=>y j*(X j).pw i)=0)→∀j,j<t→y j=0
 |0,_,_,_,_,j,hj=>by omega
 | t + 1,X,y,hX,h,j,hj=>by
   have hlow:∀j,j<t→y j=0:=by
    have:=qcg t X (fun j=>y j*(X j+X t)) (fun i j hi hj=>hX i j (by omega) (by omega)) (fun i hi=> ?_)
    · intro j hj
      have h1:=this j hj
      have h1:y j*(X j+X t)=0:=h1
      rw[GF.mul_comm] at h1
      refine GF.mul_eq_zero h1 (fun e=> ?_)
      have:=hX j t (by omega) (by omega) (GF.add_eq_zero e)
      omega
    · have h1:=h (i+1) (by omega)
      have h2:=h i (by omega)
      have h3:GF.S (t+1) (fun j=>y j*(X j+X t)*(X j).pw i)=0:=by
       have e:GF.S (t+1) (fun j=>y j*(X j+X t)*(X j).pw i)=GF.S (t+1) (fun j=>y j*(X j).pw (i+1))+X t*GF.S (t+1) (fun j=>y j*(X j).pw i):=by
        rw[←qba,←qdm]
        refine qab _ (fun j _=> ?_)
        show y j*(X j+X t)*(X j).pw i=y j*((X j).pw i*X j)+X t*(y j*(X j).pw i)
        rw[GF.mul_add,GF.add_mul]
        have a1:y j*X j*(X j).pw i=y j*((X j).pw i*X j):=by ac_rfl
        have a2:y j*X t*(X j).pw i=X t*(y j*(X j).pw i):=by ac_rfl
        rw[a1,a2]
       rw[e,h1,h2,GF.mul_zero,GF.add_zero]
      have e2:GF.S (t+1) (fun j=>y j*(X j+X t)*(X j).pw i)=GF.S t (fun j=>y j*(X j+X t)*(X j).pw i)+y t*(X t+X t)*(X t).pw i:=rfl
      rw[e2,GF.add_self,GF.mul_zero,GF.zero_mul,GF.add_zero] at h3
      exact h3
   rcases Nat.lt_or_ge j t with h1|h1
   · exact hlow j h1
   · have hj2:j=t:=by omega
     subst hj2
     have h0:=h 0 (by omega)
     have e:GF.S (j+1) (fun i=>y i*(X i).pw 0)=GF.S j (fun i=>y i*(X i).pw 0)+y j*(X j).pw 0:=rfl
     have e2:GF.S j (fun i=>y i*(X i).pw 0)=0:=by
      rw[qab j (g:=fun _=>0) (fun i hi=>by rw[hlow i hi,GF.zero_mul]),qbr]
     rw[e,e2,GF.zero_add] at h0
     have:y j*(1:GF)=0:=h0
     rwa[GF.mul_one] at this
def hr (z:GF):GF→List GF→GF
 |a,[]=>a
 |a,c::l=>hr z (a*z+c) l
def qs (x:GF):GF→List GF→List GF
 |_,[]=>[]
 |a,c::l=>a::qs x (a*x+c) l
theorem qlq (x:GF):∀(a:GF) (l:List GF),(qs x a l).length=l.length
 |_,[]=>rfl
 |a,c::l=>by simp[qs,qlq x _ l]
theorem qoz (z x w a c:GF):(w*(z+x)+a)*z+c=(w*z+a)*(z+x)+(a*x+c):=by
 have e1:(w*(z+x)+a)*z=w*(z+x)*z+a*z:=GF.add_mul _ _ _
 have e2:(w*z+a)*(z+x)=w*z*(z+x)+a*(z+x):=GF.add_mul _ _ _
 have e3:a*(z+x)=a*z+a*x:=GF.mul_add _ _ _
 have em:w*z*(z+x)=w*(z+x)*z:=by rw[GF.mul_assoc,GF.mul_comm z,←GF.mul_assoc]
 rw[e1,e2,e3,em]
 generalize w*(z+x)*z=u
 generalize a*z=p
 generalize a*x=q
 have:u+(p+q)+(q+c)=u+p+(q+q)+c:=by ac_rfl
 rw[this,GF.add_self,GF.add_zero]
theorem qlr (z x:GF):∀(l:List GF) (w a:GF),hr z (w*(z+x)+a) l=hr z w (qs x a l)*(z+x)+hr x a l
 |[],_,_=>rfl
 | c::l,w,a=>by
   have h:=qlr z x l (w*z+a) (a*x+c)
   rw[←qoz] at h
   simp only[hr,qs]
   exact h
theorem qdn:∀(n:Nat) (l:List GF) (X:Nat→GF),l.length=n→(∀i j,i<n→j<n→X i=X j→i=j)→(∀i,i<n→hr (X i) 0 l=0)→∀c∈l,c=0
 | 0,l,_,hl,_,_,c,hc=>by
   have:l=[]:=List.eq_nil_of_length_eq_zero hl
   rw[this] at hc;cases hc
 |n+1,[],_,hl,_,_,c,hc=>by cases hc
 | n + 1,a::l,X,hl,hX,h,c,hc=>by
   have ha:∀z,hr z 0 (a::l)=hr z a l:=fun z=>by simp only[hr];rw[GF.zero_mul,GF.zero_add]
   have h0:hr (X n) a l=0:=by rw[←ha];exact h n (by omega)
   have hq:=qdn n (qs (X n) a l) X (by rw[qlq];simpa using hl) (fun i j hi hj=>hX i j (by omega) (by omega)) (fun i hi=> ?_)
   · have key:∀(l:List GF) (a:GF),(∀c∈qs (X n) a l,c=0)→hr (X n) a l=0→∀c∈a::l,c=0:=by
      intro l
      induction l with
      | nil=>
        intro a _ h c hc
        rw[List.mem_singleton.1 hc];exact h
      | cons b l ih=>
        intro a hq h c hc
        have e:a=0:=hq a (List.mem_cons_self ..)
        subst e
        have hb:=ih b (fun c hc=>hq c (by simp only[qs];rw[GF.zero_mul,GF.zero_add];exact List.mem_cons_of_mem _ hc)) (by simp only[hr] at h;rw[GF.zero_mul,GF.zero_add] at h;exact h)
        rcases List.mem_cons.1 hc with rfl|hc
        · rfl
        · exact hb c hc
     exact key l a hq h0 c hc
   · have h1:=h i (by omega)
     rw[ha] at h1
     have e:=qlr (X i) (X n) l 0 a
     rw[GF.zero_mul,GF.zero_add,h1,h0,GF.add_zero] at e
     have e':=e.symm
     rw[GF.mul_comm] at e'
     refine GF.mul_eq_zero e' (fun e2=> ?_)
     have:=hX i n (by omega) (by omega) (GF.add_eq_zero e2)
     omega
def conv (C s:Nat→GF) (L k:Nat):GF:=GF.S (L+1) (fun i=>C i*s (k-i))
def qcw (C s:Nat→GF) (L n:Nat):Prop:=∀k,L≤k→k<n→conv C s L k=0
theorem qls (A B s:Nat→GF) (La Lb k:Nat) (h:La+Lb≤k):GF.S (La+1) (fun i=>A i*conv B s Lb (k-i))=GF.S (Lb+1) (fun j=>B j*conv A s La (k-j)):=by
 unfold conv
 have e1:GF.S (La+1) (fun i=>A i*GF.S (Lb+1) (fun j=>B j*s (k-i-j)))=GF.S (La+1) (fun i=>GF.S (Lb+1) (fun j=>A i*B j*s (k-i-j))):=
  qab _ (fun i _=>by rw[←qba];exact qab _ (fun j _=>(GF.mul_assoc _ _ _).symm))
 have e2:GF.S (Lb+1) (fun j=>B j*GF.S (La+1) (fun i=>A i*s (k-j-i)))=GF.S (Lb+1) (fun j=>GF.S (La+1) (fun i=>A i*B j*s (k-i-j))):=
  qab _ (fun j _=>by
   rw[←qba]
   refine qab _ (fun i _=> ?_)
   rw[show k-j-i=k-i-j by omega,←GF.mul_assoc,GF.mul_comm (B j)])
 rw[e1,e2,qfh]
theorem qqk {A B s:Nat→GF} {La Lb r:Nat} (hA:A 0=1) (hmA:qcw A s La (r+1)) (hB:B 0=1) (hmB:qcw B s Lb r) (hd:conv B s Lb r≠0):r+1≤La+Lb:=by
 rcases Nat.lt_or_ge r (La+Lb) with h|h
 · omega
 · exfalso
   apply hd
   have e:=qls A B s La Lb r h
   have l:GF.S (La+1) (fun i=>A i*conv B s Lb (r-i))=conv B s Lb r:=by
    rw[qhr (f:=fun i=>A i*conv B s Lb (r-i)) 0 (La+1) (by omega) (fun i h1 h2=>by
     show A i*conv B s Lb (r-i)=0
     rw[hmB (r-i) (by omega) (by omega),GF.mul_zero])]
    show A 0*conv B s Lb (r-0)=_
    rw[hA,GF.one_mul,Nat.sub_zero]
   have rr:GF.S (Lb+1) (fun j=>B j*conv A s La (r-j))=0:=by
    rw[qab (g:=fun _=>0) (Lb+1) (fun j hj=>by
     show B j*conv A s La (r-j)=0
     rw[hmA (r-j) (by omega) (by omega),GF.mul_zero]),qbr]
   rw[l,rr] at e
   exact e
structure BM (s:Nat→GF) (n:Nat) (C B:Nat→GF) (L m:Nat) (last:GF):Prop where
 c0:C 0=1
 cL:∀i,L<i→C i=0
 mks:qcw C s L n
 ln:L≤n
 m1:1≤m
 la:last≠0
 b0:B 0=1
 old:(L=0∧m=n+1∧last=1∧∀i,0<i→B i=0)∨∃r Lb,r<n∧m=n-r∧L+Lb=r+1∧Lb≤r∧(∀i,Lb<i→B i=0)∧qcw B s Lb r∧conv B s Lb r=last
theorem BM.start (s:Nat→GF):BM s 0 (fun i=>if i=0 then 1 else 0) (fun i=>if i=0 then 1 else 0) 0 1 1 where
 c0:=rfl
 cL:=fun i h=>if_neg (by omega)
 mks:=fun k h1 h2=>by omega
 ln:=Nat.le_refl _
 m1:=Nat.le_refl _
 la:=GF.one_ne
 b0:=rfl
 old:= .inl ⟨rfl,rfl,rfl,fun i h=>if_neg (by omega)⟩
def qbd (C B:Nat→GF) (m:Nat) (f:GF) (i:Nat):GF:=C i+if m≤i then f*B (i-m) else 0
theorem qhp {s:Nat→GF} {n:Nat} {C:Nat→GF} (c0:C 0=1) (mk:qcw C s 0 n):∀k,k<n→s k=0:=fun k hk=>by
 have:=mk k (Nat.zero_le _) hk
 unfold conv at this
 have e:GF.S (0+1) (fun i=>C i*s (k-i))=C 0*s k:=by show 0+C 0*s (k-0)=_;rw[GF.zero_add,Nat.sub_zero]
 rw[e,c0,GF.one_mul] at this
 exact this
theorem BM.skip {s:Nat→GF} {n:Nat} {C B:Nat→GF} {L m:Nat} {last:GF} (h:BM s n C B L m last) (hd:conv C s L n=0):BM s (n+1) C B L (m+1) last where
 c0:=h.c0
 cL:=h.cL
 mks:=fun k h1 h2=>by
  rcases Nat.lt_or_ge k n with h3|h3
  · exact h.mks k h1 h3
  · rw[show k=n by omega];exact hd
 ln:=Nat.le_succ_of_le h.ln
 m1:=by omega
 la:=h.la
 b0:=h.b0
 old:=by
  rcases h.old with⟨a,b,c,d⟩|⟨r,Lb,a,b,c,d,e,f,g⟩
  · exact .inl ⟨a,by omega,c,d⟩
  · exact .inr ⟨r,Lb,by omega,by omega,c,d,e,f,g⟩
theorem qlt {s:Nat→GF} {C B:Nat→GF} {m:Nat} {f:GF} {L Lb L2:Nat} (hL:L≤L2) (hLb:Lb+m≤L2) (cL:∀i,L<i→C i=0) (bL:∀i,Lb<i→B i=0) (k:Nat) (hk:L2≤k):conv (qbd C B m f) s L2 k=conv C s L k+f*conv B s Lb (k-m):=by
 unfold conv
 have e1:GF.S (L2+1) (fun i=>qbd C B m f i*s (k-i))=GF.S (L2+1) (fun i=>C i*s (k-i))+GF.S (L2+1) (fun i=>(if m≤i then f*B (i-m) else 0)*s (k-i)):=by
  rw[←qdm]
  exact qab _ (fun i _=>by show(C i+_)*_=_;rw[GF.add_mul])
 have e2:GF.S (L2+1) (fun i=>C i*s (k-i))=GF.S (L+1) (fun i=>C i*s (k-i)):=
  qcf (L2+1) (by omega) (fun i h1 _=>by show C i*_=0;rw[cL i (by omega),GF.zero_mul])
 have e3:∀d,GF.S (m+d) (fun i=>(if m≤i then f*B (i-m) else 0)*s (k-i))=f*GF.S d (fun i=>B i*s (k-m-i)):=by
  intro d
  induction d with
  | zero=>
    rw[Nat.add_zero,qab (g:=fun _=>0) m (fun i hi=>by rw[if_neg (by omega),GF.zero_mul]),qbr]
    exact(GF.mul_zero _).symm
  | succ d ih=>
    show GF.S (m+d) _+(if m≤m+d then f*B (m+d-m) else 0)*s (k-(m+d))=f*(GF.S d (fun i=>B i*s (k-m-i))+B d*s (k-m-d))
    rw[ih,if_pos (by omega),show m+d-m=d by omega,show k-(m+d)=k-m-d by omega,GF.mul_add,GF.mul_assoc]
 have e4:GF.S (L2+1) (fun i=>(if m≤i then f*B (i-m) else 0)*s (k-i))=f*GF.S (Lb+1) (fun i=>B i*s (k-m-i)):=by
  have h:=e3 (L2+1-m)
  rw[show m+(L2+1-m)=L2+1 by omega] at h
  rw[h]
  congr 1
  exact qcf _ (by omega) (fun i h1 _=>by show B i*_=0;rw[bL i (by omega),GF.zero_mul])
 rw[e1,e2,e4]
theorem BM.turn {s:Nat→GF} {n:Nat} {C B:Nat→GF} {L m:Nat} {last:GF} (h:BM s n C B L m last) {d:GF} (hd:conv C s L n=d) (hne:d≠0):
 (2*L≤n→BM s (n+1) (qbd C B m (d*last.inv)) C (n+1-L) 1 d)∧(¬2*L≤n→BM s (n+1) (qbd C B m (d*last.inv)) B L (m+1) last):=by
 have hf:d*last.inv*last=d:=by rw[GF.mul_assoc,GF.mul_comm last.inv,GF.mul_inv h.la,GF.mul_one]
 have n0:qbd C B m (d*last.inv) 0=1:=by
  unfold qbd
  have:=h.m1
  rw[if_neg (by omega),h.c0,GF.add_zero]
 rcases h.old with⟨hL,hm,hl,hB⟩|⟨r,Lb,hr,hm,hLr,hLb,bL,mkB,cvB⟩
 · -- no register has been left yet
   subst hL
   have hs:=qhp h.c0 h.mks
   have hcl:∀i,n+1<i→qbd C B m (d*last.inv) i=0:=fun i hi=>by
    unfold qbd
    rw[h.cL i (by omega),if_pos (by omega),hB _ (by omega),GF.mul_zero,GF.add_zero]
   refine⟨fun _=>⟨n0,hcl,fun k h1 h2=>by omega,by omega,Nat.le_refl _,hne,h.c0, .inr ⟨n,0,by omega,by omega,by omega,Nat.zero_le _,h.cL,h.mks,hd⟩⟩,fun h2=>absurd (Nat.zero_le _) h2⟩
 · have hnm:n-m=r:=by omega
   have key:∀L2,L≤L2→Lb+m≤L2→qcw (qbd C B m (d*last.inv)) s L2 (n+1):=by
    intro L2 h1 h2 k h3 h4
    rw[qlt h1 h2 h.cL bL k h3]
    rcases Nat.lt_or_ge k n with h5|h5
    · rw[h.mks k (by omega) h5,mkB (k-m) (by omega) (by omega),GF.mul_zero,GF.add_zero]
    · have:k=n:=by omega
      subst this
      rw[hd,hnm,cvB,hf,GF.add_self]
   have hcl:∀L2,L≤L2→Lb+m≤L2→∀i,L2<i→qbd C B m (d*last.inv) i=0:=by
    intro L2 h1 h2 i h3
    unfold qbd
    rw[h.cL i (by omega),if_pos (by omega),bL _ (by omega),GF.mul_zero,GF.add_zero]
   refine⟨fun h2=>⟨n0,hcl _ (by omega) (by omega),key _ (by omega) (by omega),by omega,Nat.le_refl _,hne,h.c0, .inr ⟨n,L,by omega,by omega,by omega,by omega,h.cL,h.mks,hd⟩⟩,fun h2=>⟨n0,hcl _ (by omega) (by omega),key _ (by omega) (by omega),by have:=h.ln;omega,by omega,h.la,h.b0, .inr ⟨r,Lb,by omega,by omega,hLr,hLb,bL,mkB,cvB⟩⟩⟩
theorem BM.short {s:Nat→GF} {n:Nat} {C B A:Nat→GF} {L m La:Nat} {last:GF} (h:BM s n C B L m last) (hA:A 0=1) (hm:qcw A s La n):L≤La:=by
 rcases h.old with⟨hL,_⟩|⟨r,Lb,hr,_,hLr,_,_,mkB,cvB⟩
 · omega
 · have:=qqk (A:=A) (B:=B) (s:=s) (La:=La) (Lb:=Lb) (r:=r) hA (fun k h1 h2=>hm k h1 (by omega)) h.b0 mkB (by rw[cvB];exact h.la)
   omega
def cl (C:Nat→GF):Nat→List GF
 |0=>[]
 |n+1=>cl C n++[C n]
theorem qib (C:Nat→GF):∀n,(cl C n).length=n
 |0=>rfl
 |n+1=>by simp[cl,qib C n]
theorem qic (C:Nat→GF):∀(n i:Nat),i<n→C i∈cl C n
 | n+1,i,h=>by
   rcases Nat.lt_or_ge i n with h1|h1
   · exact List.mem_append_left _ (qic C n i h1)
   · rw[show i=n by omega];exact List.mem_append_right _ (List.mem_singleton.2 rfl)
theorem qka (z:GF):∀(l:List GF) (a c:GF),hr z a (l++[c])=hr z a l*z+c
 |[],_,_=>rfl
 |b::l,a,c=>by simp only[List.cons_append,hr];exact qka z l _ c
def val (C:Nat→GF) (L:Nat) (z:GF):GF:=GF.S (L+1) (fun i=>C i*z.pw (L-i))
theorem qhs (C:Nat→GF) (z:GF):∀n,hr z 0 (cl C (n+1))=val C n z
 | 0=>by
   show hr z 0 ([]++[C 0])=0+C 0*1
   simp only[List.nil_append,hr]
   rw[GF.zero_mul,GF.mul_one]
 | n+1=>by
   have e:cl C (n+1+1)=cl C (n+1)++[C (n+1)]:=rfl
   rw[e,qka,qhs C z n]
   unfold val
   show _=GF.S (n+1) (fun i=>C i*z.pw (n+1-i))+C (n+1)*z.pw (n+1-(n+1))
   rw[Nat.sub_self]
   have e2:GF.S (n+1) (fun i=>C i*z.pw (n+1-i))=GF.S (n+1) (fun i=>C i*z.pw (n-i))*z:=by
    rw[←qdf]
    refine qab _ (fun i hi=> ?_)
    rw[show n+1-i=(n-i)+1 by omega,qde,GF.mul_assoc]
   rw[e2]
   show _=_+C (n+1)*1
   rw[GF.mul_one]
theorem qgt (C:Nat→GF) (L:Nat) (hC:C 0=1) (X:Nat→GF) (hX:∀i j,i<L+1→j<L+1→X i=X j→i=j) (h:∀i,i<L+1→val C L (X i)=0):False:=by
 have:=qdn (L+1) (cl C (L+1)) X (qib C _) hX (fun i hi=>by rw[qhs];exact h i hi) (C 0) (qic C _ 0 (by omega))
 rw[hC] at this
 exact GF.one_ne this
def lam (X:Nat→GF):Nat→Nat→GF
 |0,i=>if i=0 then 1 else 0
 |t+1,i=>lam X t i+if 0<i then X t*lam X t (i-1) else 0
def qcx (X:Nat→GF) (z:GF):Nat→GF
 |0=>1
 |t+1=>qcx X z t*(z+X t)
theorem qdo (X:Nat→GF):∀t,lam X t 0=1
 |0=>rfl
 |t+1=>by show lam X t 0+(if 0<0 then _ else 0)=1;rw[if_neg (by omega),qdo X t,GF.add_zero]
theorem qgh (X:Nat→GF):∀t i,t<i→lam X t i=0
 |0,i,h=>if_neg (by omega)
 | t+1,i,h=>by
   show lam X t i+(if 0<i then X t*lam X t (i-1) else 0)=0
   rw[if_pos (by omega),qgh X t i (by omega),qgh X t (i-1) (by omega),GF.mul_zero,GF.add_zero]
theorem qek (X:Nat→GF) (z:GF):∀t,val (lam X t) t z=qcx X z t
 |0=>by show(0:GF)+1*1=1;rw[GF.zero_add,GF.one_mul]
 | t+1=>by
   show val (lam X (t+1)) (t+1) z=qcx X z t*(z+X t)
   rw[←qek X z t]
   unfold val
   have e1:GF.S (t+1+1) (fun i=>lam X (t+1) i*z.pw (t+1-i))=GF.S (t+1+1) (fun i=>lam X t i*z.pw (t+1-i))+GF.S (t+1+1) (fun i=>(if 0<i then X t*lam X t (i-1) else 0)*z.pw (t+1-i)):=by
    rw[←qdm]
    exact qab _ (fun i _=>GF.add_mul _ _ _)
   have e2:GF.S (t+1+1) (fun i=>lam X t i*z.pw (t+1-i))=GF.S (t+1) (fun i=>lam X t i*z.pw (t-i))*z:=by
    rw[qcf (m:=t+1) (t+1+1) (by omega) (fun i h1 h2=>by rw[qgh X t i (by omega),GF.zero_mul]),←qdf]
    refine qab _ (fun i hi=> ?_)
    rw[show t+1-i=(t-i)+1 by omega,qde,GF.mul_assoc]
   have e3:GF.S (t+1+1) (fun i=>(if 0<i then X t*lam X t (i-1) else 0)*z.pw (t+1-i))=GF.S (t+1) (fun i=>lam X t i*z.pw (t-i))*X t:=by
    rw[qgg,if_neg (by omega),GF.zero_mul,GF.zero_add,←qdf]
    refine qab _ (fun i hi=> ?_)
    rw[if_pos (by omega),show i+1-1=i by omega,show t+1-(i+1)=t-i by omega,GF.mul_comm (X t),GF.mul_assoc,GF.mul_assoc,GF.mul_comm (X t)]
   rw[e1,e2,e3,GF.mul_add]
theorem qcy (X:Nat→GF) (z:GF):∀t j,j<t→z=X j→qcx X z t=0
 | t +1,j,h,e=>by
   show qcx X z t*(z+X t)=0
   rcases Nat.lt_or_ge j t with h1|h1
   · rw[qcy X z t j h1 e,GF.zero_mul]
   · rw[show j=t by omega] at e
     rw[e,GF.add_self,GF.mul_zero]
theorem qda (C:Nat→GF) (s:Nat→GF) (e X:Nat→GF) (t L k:Nat) (hk:L≤k) (hs:∀i,i≤k→s i=GF.S t (fun j=>e j*(X j).pw i)):conv C s L k=GF.S t (fun j=>e j*val C L (X j)*(X j).pw (k-L)):=by
 unfold conv
 have e1:GF.S (L+1) (fun i=>C i*s (k-i))=GF.S (L+1) (fun i=>GF.S t (fun j=>C i*(e j*(X j).pw (k-i)))):=
  qab _ (fun i _=>by rw[hs (k-i) (by omega),←qba])
 rw[e1,qfh]
 refine qab _ (fun j _=> ?_)
 unfold val
 rw[GF.mul_assoc,←qdf,←qba]
 refine qab _ (fun i hi=> ?_)
 have e2:(X j).pw (k-i)=(X j).pw (L-i)*(X j).pw (k-L):=by rw[←qce];congr 1;omega
 rw[e2,←GF.mul_assoc,GF.mul_comm (C i),GF.mul_assoc,←GF.mul_assoc (C i)]
theorem qpa:∀n,0<n→(0:GF).pw n=0
 |n+1,_=>GF.mul_zero _
theorem qks {s:Nat→GF} {m:Nat} {C B:Nat→GF} {L q:Nat} {last:GF} (h:BM s (2*m) C B L q last) (t:Nat) (e X:Nat→GF) (ht:t≤m) (hs:∀k,k<2*m→s k=GF.S t (fun j=>e j*(X j).pw k)) (he:∀j,j<t→e j≠0) (hX:∀i j,i<t→j<t→X i=X j→i=j) (hX0:∀j,j<t→X j≠0):
 L=t∧C L≠0∧(∀j,j<t→val C L (X j)=0)∧(∀z,val C L z=0→∃j,j<t∧z=X j):=by
 have hmk:qcw (lam X t) s t (2*m):=fun k h1 h2=>by
  rw[qda _ s e X t t k h1 (fun i hi=>hs i (by omega)),qab (g:=fun _=>0) t (fun j hj=>by
   rw[qek,qcy X (X j) t j hj rfl,GF.mul_zero,GF.zero_mul]),qbr]
 have hLt:L≤t:=h.short (qdo X t) hmk
 have hroot:∀j,j<t→val C L (X j)=0:=by
  have hv:=qcg t X (fun j=>e j*val C L (X j)) hX (fun i hi=>by
   have h1:=h.mks (L+i) (by omega) (by omega)
   rw[qda C s e X t L (L+i) (by omega) (fun k hk=>hs k (by omega)),show L+i-L=i by omega] at h1
   exact h1)
  exact fun j hj=>GF.mul_eq_zero (hv j hj) (he j hj)
 have hL:L=t:=by
  rcases Nat.lt_or_ge L t with h1|h1
  · exact(qgt C L h.c0 X (fun i j hi hj=>hX i j (by omega) (by omega)) (fun i hi=>hroot i (by omega))).elim
  · omega
 have honly:∀z,val C L z=0→∃j,j<t∧z=X j:=by
  intro z hz
  refine Classical.byContradiction (fun hn=> ?_)
  have hn2:∀j,j<t→z≠X j:=fun j hj e=>hn ⟨j,hj,e⟩
  refine qgt C L h.c0 (fun i=>if i<t then X i else z) (fun i j hi hj e=> ?_) (fun i hi=> ?_)
  · by_cases h1:i<t<;>by_cases h2:j<t
    · rw[if_pos h1,if_pos h2] at e;exact hX i j h1 h2 e
    · rw[if_pos h1,if_neg h2] at e;exact absurd e.symm (hn2 i h1)
    · rw[if_neg h1,if_pos h2] at e;exact absurd e (hn2 j h2)
    · omega
  · by_cases h1:i<t
    · simp only[if_pos h1];exact hroot i h1
    · simp only[if_neg h1];exact hz
 refine⟨hL,fun h0=> ?_,hroot,honly⟩
 have hz:val C L 0=0:=by
  unfold val
  rw[qhr (f:=fun i=>C i*(0:GF).pw (L-i)) L (L+1) (by omega) (fun i h1 h2=>by rw[qpa _ (by omega),GF.mul_zero])]
  rw[h0,GF.zero_mul]
 obtain⟨j,hj,e2⟩:=honly 0 hz
 exact hX0 j hj e2.symm
theorem qlu (z:Nat) (hz:z<256) (l:List Int) (hl:l.length≤1000) (hb:isB l):∀(d i:Nat) (a:Nat),i+d=l.length→a<256→Ev (fun k=>impl_value.l0 k (z:Int) (a:Int) l (l.length:Int) (i:Int)) ((horn z a (l.drop i):Nat):Int):=by
 intro d
 induction d with
 | zero=>
   intro i a hi ha
   refine Ev.succ ?_
   simp only[impl_value.l0]
   rw[List.drop_of_length_le (by omega)]
   exact Ev.neg (by omega) (Ev.some_ rfl)
 | succ d ih=>
   intro i a hi ha
   have hx:=rd_B hb (i:Int)
   have hg:=qfg ha z
   refine Ev.succ ?_
   simp only[impl_value.l0]
   rw[w64_add (i:=(i:Int)) (by omega) (by omega),w64 (n:=rd l (i:Int)) (by omega) (by omega),drop_rd (xs:=l) (i:=i) (by omega)]
   refine Ev.pos (by omega) (Ev.pos (by omega) (Ev.pos (by omega) (Ev.next (qcv a z ha hz) ?_)))
   have e:=xorN (gfM a z) (rd l (i:Int)).toNat (by omega) (by omega)
   rw[Int.toNat_of_nonneg hx.1] at e
   rw[e]
   exact ih (i+1) _ (by omega) (qay hg (by omega))
theorem qgu (l:List Int) (hl:l.length≤1000) (hb:isB l) (i:Nat) (hi:i≤100):Ev (fun k=>impl_value.f k l (i:Int)) ((horn (gfP i) 0 l:Nat):Int):=by
 unfold impl_value.f
 exact Ev.next (qoy i hi) (qlu (gfP i) (qdx i) l hl hb l.length 0 0 (by omega) (by decide))
theorem qpb (l:List Int) (hl:l.length≤1000) (hb:isB l) (n:Nat) (hn:n≤100) (hz:∀i,i<n→horn (gfP i) 0 l=0):∀d i:Nat,i+d=n→Ev (fun k=>impl_RsOk.l0 k l (n:Int) (i:Int)) true:=by
 intro d
 induction d with
 | zero=>
   intro i hi
   refine Ev.succ ?_
   simp only[impl_RsOk.l0]
   exact Ev.neg (by omega) (Ev.some_ rfl)
 | succ d ih=>
   intro i hi
   refine Ev.succ ?_
   simp only[impl_RsOk.l0]
   rw[w64_add (i:=(i:Int)) (by omega) (by omega)]
   exact Ev.pos (by omega) (Ev.next (qgu l hl hb i (by omega)) (Ev.pos (by rw[hz i (by omega)];rfl) (ih (i+1) (by omega))))
theorem qel (l:List Int) (m:Nat) (hm:1≤m∧m≤8) (h:2*m<l.length) (h2:l.length≤255):impl_wordOk.f l (m:Int)=some true:=by
 have e:impl_isMend.f (m:Int)=some true:=by
  unfold impl_isMend.f
  rw[if_pos (by omega)];simp;omega
 unfold impl_wordOk.f
 rw[e,w64 (by omega) (by omega)]
 simp only[Option.bind_some]
 rw[if_pos trivial,if_pos (by omega)];simp;omega
theorem qpc (l:List Int) (hb:isB l) (m:Nat) (hm:1≤m∧m≤8) (h:2*m<l.length) (h2:l.length≤255) (hz:∀i,i<2*m→horn (gfP i) 0 l=0):Ev (fun k=>impl_RsOk.f k l (m:Int)) true:=by
 unfold impl_RsOk.f
 rw[show wrap64 (2*(m:Int))=((2*m:Nat):Int) by rw[w64 (by omega) (by omega)];omega]
 exact Ev.next (Ev.here (qel l m hm h h2)) (Ev.pos rfl (qpb l (by omega) hb (2*m) (by omega) hz (2*m) 0 (by omega)))
theorem qnf (N:Nat) (hN:N≤300):∀d i:Nat,i+d=N→Ev (fun k=>impl_gfPow.l0 k ((gfP i:Nat):Int) (N:Int) (i:Int)) ((gfP N:Nat):Int):=by
 intro d
 induction d with
 | zero=>
   intro i hi
   refine Ev.succ ?_
   simp only[impl_gfPow.l0]
   rw[show i=N by omega]
   exact Ev.neg (by omega) (Ev.some_ rfl)
 | succ d ih=>
   intro i hi
   refine Ev.succ ?_
   simp only[impl_gfPow.l0]
   rw[w64_add (by omega) (by omega)]
   exact Ev.pos (by omega) (Ev.next (qcv (gfP i) 2 (qdx i) (by omega)) (ih (i+1) (by omega)))
def tG (x:Int):GF:=⟨x.toNat%256,Nat.mod_lt _ (by decide)⟩
def iG (a:GF):Int:=(a.v:Int)
theorem qar (a:GF):0≤iG a∧iG a<256:=by have:=a.lt;unfold iG;omega
theorem qbu (a:GF):tG (iG a)=a:=GF.ext' (by have:=a.lt;show(a.v:Int).toNat%256=a.v;omega)
theorem qor {x:Int} (h:0≤x∧x<256):iG (tG x)=x:=by show((x.toNat%256:Nat):Int)=x;omega
theorem qas {a:GF}:iG a=0↔a=0:=⟨fun h=>GF.ext' (by have:(a.v:Int)=0:=h;show a.v=0;omega),fun h=>by rw[h];rfl⟩
theorem qql {x y:Int} (hx:0≤x∧x<256) (hy:0≤y∧y<256):tG (bits .xor .i64 x y)=tG x+tG y:=GF.ext' (by
 have h:=qne hx hy
 unfold xB at h
 have b:=qoq hx hy
 unfold xB at b
 show(bits .xor .i64 x y).toNat%256=(x.toNat%256)^^^(y.toNat%256)
 have e1:x.toNat%256=x.toNat:=by omega
 have e2:y.toNat%256=y.toNat:=by omega
 rw[h,e1,e2,Nat.mod_eq_of_lt (qay (by omega) (by omega))])
theorem qcm (a b:GF):bits .xor .i64 (iG a) (iG b)=iG (a+b):=by
 have b1:=qoq (qar a) (qar b)
 unfold xB at b1
 rw[←qor b1,qql (qar a) (qar b),qbu,qbu]
theorem qbz (a b:GF):Ev (fun k=>impl_GfMul.f k (iG a) (iG b)) (iG (a*b)):=qcv a.v b.v a.lt b.lt
def co (l:List Int) (i:Nat):GF:=tG (rd l (i:Int))
theorem qea {l:List Int} {i:Nat} (h:l.length≤i):rd l (i:Int)=0:=by
 rw[rd_nat,List.getD_eq_getElem?_getD,List.getElem?_eq_none h];rfl
theorem qfi {l:List Int} {i:Nat} (h:l.length≤i):co l i=0:=by unfold co;rw[qea h];rfl
theorem qah {l:List Int} (h:isB l) (i:Nat):rd l (i:Int)=iG (co l i):=(qor (rd_B h _)).symm
theorem qpd (l:List Int) (i:Nat):co (l++[0]) i=co l i:=by
 unfold co
 rw[qdy]
 split
 · rfl
 · rename_i h
   rw[qea (l:=l) (by omega)]
   rcases Nat.eq_zero_or_pos (i-l.length) with e|e
   · rw[e];rfl
   · rw[qea (l:=[0]) (by simp;omega)]
theorem qcn {l:List Int} {j:Nat} (hj:j<l.length) {v:Int} (i:Nat):co (l.set j v) i=if i=j then tG v else co l i:=by
 unfold co
 have h:rd (l.set j v) (i:Int)=if i=j then v else rd l (i:Int):=by
  rw[rd_nat,rd_nat,List.getD_eq_getElem?_getD,List.getD_eq_getElem?_getD,List.getElem?_set]
  by_cases hij:i=j
  · subst hij;simp[hj]
  · rw[if_neg (fun h=>hij h.symm),if_neg hij]
 rw[h]
 split<;>rfl
theorem EvP.on {α β:Type} {g:Nat→Option α} {o:α→Nat→Option β} {P:β→Prop} {a:α} (h:Ev g a) (H:EvP (o a) P):EvP (fun n=>(g n).bind fun x=>o x n) P:=EvP.next (Ev.p h) (fun _ e=>e▸H)
theorem qpe (a:GF):∀(d i:Nat),i+d=254→Ev (fun k=>impl_GfInv.l0 k (iG a) (iG (a.pw i)) (i:Int)) (if iG a=0 then 0 else iG a.inv):=by
 intro d
 induction d with
 | zero=>
   intro i hi
   have:i=254:=by omega
   subst this
   refine Ev.succ ?_
   simp only[impl_GfInv.l0]
   refine Ev.neg (by omega) ?_
   exact Ev.cond (fun _=>Ev.some_ rfl) (fun _=>Ev.some_ rfl)
 | succ d ih=>
   intro i hi
   refine Ev.succ ?_
   simp only[impl_GfInv.l0]
   rw[w64_add (i:=(i:Int)) (by omega) (by omega)]
   exact Ev.pos (by omega) (Ev.next (qbz (a.pw i) a) (ih (i+1) (by omega)))
theorem qkb {a:GF} (ha:a≠0):Ev (fun k=>impl_GfInv.f k (iG a)) (iG a.inv):=by
 have hb:=qar a
 unfold impl_GfInv.f
 refine Ev.next (Ev.here (qdw _)) (Ev.pos (decide_eq_true (by omega)) ?_)
 have h:=qpe a 254 0 (by omega)
 rw[if_neg (fun h=>ha (qas.1 h))] at h
 exact h
theorem qlv (R:List Int→Prop):∀(n:Nat) (c:List Int),c.length=n→n≤1000→isB c→(∀c',isB c'→c'.length≤n→(∀i,co c' i=co c i)→(0<c'.length→rd c' ((c'.length-1:Nat):Int)≠0)→R c')→EvP (fun k=>impl_locator.l4 k c) R
 | 0,c,hc,_,hb,h=>by
   refine EvP.succ ?_
   simp only[impl_locator.l4]
   exact EvP.neg (by omega) (EvP.now (h c hb (by omega) (fun _=>rfl) (fun h2=>by omega)))
 | n +1,c,hc,hn,hb,h=>by
   have w1:wrap64 ((c.length:Int)-1)=((c.length-1:Nat):Int):=by rw[w64 (by omega) (by omega)];omega
   refine EvP.succ ?_
   simp only[impl_locator.l4]
   rw[w1]
   refine EvP.pos (by omega) (EvP.pos (by omega) (EvP.pos (by omega) ?_))
   refine EvP.both (fun h0=>EvP.pos (by omega) ?_) (fun h0=>EvP.now (h c hb (by omega) (fun _=>rfl) (fun _=>h0)))
   rw[Int.toNat_natCast]
   refine qlv R n _ (by rw[List.length_take];omega) (by omega) (fun x hx=>hb x (List.mem_of_mem_take hx)) (fun c' h1 h2 h3 h4=>h c' h1 (by omega) (fun i=> ?_) h4)
   rw[h3]
   unfold co
   rcases Nat.lt_or_ge i (c.length-1) with h5|h5
   · congr 1
     rw[rd_nat,rd_nat,List.getD_eq_getElem?_getD,List.getD_eq_getElem?_getD,List.getElem?_take,if_pos h5]
   · rw[qea (l:=c.take (c.length-1)) (by rw[List.length_take];omega)]
     rcases Nat.eq_or_lt_of_le h5 with h6|h6
     · rw[←h6,h0]
     · rw[qea (l:=c) (by omega)]
structure LocSt (S:List Int) (n:Nat) (c b:List Int) (L m:Nat) (last:GF):Prop where
 bm:BM (co S) n (co c) (co b) L m last
 cB:isB c
 bB:isB b
 cl:c.length≤n+1
 bl:b.length+m≤n+2
def qfj (S:List Int) (c:List Int):Prop:=isB c∧c.length≤S.length+1∧(0<c.length→rd c ((c.length-1:Nat):Int)≠0)∧∃B L m last,BM (co S) S.length (co c) B L m last
theorem BM.congr {s:Nat→GF} {n:Nat} {C C' B:Nat→GF} {L m:Nat} {last:GF} (h:BM s n C B L m last) (e:∀i,C' i=C i):BM s n C' B L m last:=by
 have:C'=C:=funext e
 rw[this];exact h
theorem qqm {P:List Int→Prop} (S:List Int) (x5 x7 x8 x9 x18 x19:Int) (b t:List Int) (f:GF) (m N:Nat) (hb:isB b) (hm:m≤1000) (hN:b.length+m≤N) (hN2:N≤2000) (C:Nat→GF)
 (H:∀c',isB c'→c'.length=N→(∀i,co c' i=qbd C (co b) m f i)→EvP (fun k=>if(wrap64 (2*x5))≤x8 then(impl_locator.l0 k S c' t (wrap64 ((wrap64 (x8+1))-x5)) 1 x9 x18 (wrap64 (x19+1))) else(impl_locator.l0 k S c' b x5 (wrap64 ((m:Int)+1)) x7 x18 (wrap64 (x19+1)))) P):
 ∀(d i:Nat) (c:List Int),i+d=b.length→c.length=N→isB c→(∀j,co c j=C j+if m≤j∧j<m+i then f*co b (j-m) else 0)→EvP (fun k=>impl_locator.l3 k S c b x5 (m:Int) x7 x8 x9 t (iG f) x18 x19 (b.length:Int) (i:Int)) P:=by
 intro d
 induction d with
 | zero=>
   intro i c hi hc hcB hco
   refine EvP.succ ?_
   simp only[impl_locator.l3]
   refine EvP.neg (by omega) (H c hcB hc (fun j=> ?_))
   rw[hco j]
   unfold qbd
   by_cases h1:m≤j
   · rw[if_pos h1]
     by_cases h2:j<m+i
     · rw[if_pos ⟨h1,h2⟩]
     · rw[if_neg (fun h=>h2 h.2),qfi (l:=b) (by omega),GF.mul_zero]
   · rw[if_neg h1,if_neg (fun h=>h1 h.1)]
 | succ d ih=>
   intro i c hi hc hcB hco
   have w1:wrap64 ((i:Int)+(m:Int))=((i+m:Nat):Int):=by rw[w64 (by omega) (by omega)];omega
   have hx:bits .xor .i64 (rd c ((i+m:Nat):Int)) (iG (f*co b i))=iG (co c (i+m)+f*co b i):=by rw[qah hcB,qcm]
   refine EvP.succ ?_
   simp only[impl_locator.l3]
   rw[w1,w64_add (i:=(i:Int)) (by omega) (by omega),qah hb i,Int.toNat_natCast]
   refine EvP.pos (by omega) (EvP.pos (by omega) (EvP.pos (by omega) (EvP.pos (by omega) (EvP.pos (by omega) (EvP.next (Ev.p (qbz f (co b i))) ?_)))))
   rintro y rfl
   rw[hx]
   refine ih (i+1) _ (by omega) (by rw[List.length_set];exact hc) (qck hcB (qar _) _) (fun j=> ?_)
   rw[qcn (by omega)]
   by_cases h1:j=i+m
   · subst h1
     rw[if_pos rfl,qbu,hco (i+m),if_neg (by omega),if_pos (by omega),GF.add_zero,Nat.add_sub_cancel]
   · rw[if_neg h1,hco j]
     by_cases h2:m≤j∧j<m+i
     · rw[if_pos h2,if_pos (by omega)]
     · rw[if_neg h2,if_neg (by omega)]
theorem qqn {P:List Int→Prop} (S:List Int) (x5 x7 x8 x9 x12 x18 x19:Int) (b t:List Int) (m:Nat) (hm:b.length+m≤2000) (C:Nat→GF) (N:Nat)
 (H:∀c',isB c'→c'.length=N→(∀i,co c' i=C i)→EvP (fun k=>impl_locator.l3 k S c' b x5 (m:Int) x7 x8 x9 t x12 x18 x19 (b.length:Int) 0) P):
 ∀(d:Nat) (c:List Int),b.length+m≤c.length+d→(0<d→c.length+d=b.length+m)→c.length+d=N→isB c→(∀i,co c i=C i)→EvP (fun k=>impl_locator.l2 k S c b x5 (m:Int) x7 x8 x9 t x12 x18 x19) P:=by
 have w1:wrap64 ((b.length:Int)+(m:Int))=((b.length+m:Nat):Int):=by rw[w64 (by omega) (by omega)];omega
 intro d
 induction d with
 | zero=>
   intro c h1 _ h2 h3 h4
   refine EvP.succ ?_
   simp only[impl_locator.l2]
   rw[w1]
   exact EvP.neg (by omega) (H c h3 (by omega) h4)
 | succ d ih=>
   intro c h1 h5 h2 h3 h4
   have h6:=h5 (by omega)
   refine EvP.succ ?_
   simp only[impl_locator.l2]
   rw[w1]
   refine EvP.pos (by omega) (EvP.pos (by omega) (ih _ (by simp;omega) (fun _=>by simp;omega) (by simp;omega) (qbv h3 qnd) (fun i=> ?_)))
   rw[qpd,h4]
theorem qqo {P:List Int→Prop} (S:List Int) (c b:List Int) (L n:Nat) (x6 x7 x18:Int) (hS:isB S) (hc:isB c) (hn:n<S.length) (hSl:S.length≤100) (hL:L≤n) (hc0:co c 0=1)
 (H:EvP (fun k=>impl_locator.j2 k S c b (L:Int) x6 x7 (n:Int) (iG (conv (co c) (co S) L n)) x18 (n:Int)) P):
 ∀(d i:Nat),i+d=L+1→1≤i→EvP (fun k=>impl_locator.l1 k S c b (L:Int) x6 x7 (n:Int) (iG (GF.S i (fun j=>co c j*co S (n-j)))) (i:Int) x18 (n:Int)) P:=by
 intro d
 induction d with
 | zero=>
   intro i hi h1
   have:i=L+1:=by omega
   subst this
   refine EvP.succ ?_
   simp only[impl_locator.l1]
   exact EvP.neg (by omega) H
 | succ d ih=>
   intro i hi h1
   have w1:wrap64 ((n:Int)-(i:Int))=((n-i:Nat):Int):=by rw[w64 (by omega) (by omega)];omega
   refine EvP.succ ?_
   simp only[impl_locator.l1]
   refine EvP.pos (by omega) ?_
   by_cases h:(i:Int)<(c.length:Int)
   · rw[w1,w64_add (i:=(i:Int)) (by omega) (by omega),qah hc i,qah hS (n-i)]
     refine EvP.pos h (EvP.pos (by omega) (EvP.pos (by omega) (EvP.pos (by omega) (EvP.next (Ev.p (qbz (co c i) (co S (n-i)))) ?_))))
     rintro y rfl
     rw[qcm]
     exact ih (i+1) (by omega) (by omega)
   · refine EvP.neg h ?_
     have e:conv (co c) (co S) L n=GF.S i (fun j=>co c j*co S (n-j)):=qcf (L+1) (by omega) (fun j h2 _=>by
      show co c j*_=0
      rw[qfi (l:=c) (by omega),GF.zero_mul])
     rw[←e]
     exact H
theorem qqp (i:Nat):co [1] i=if i=0 then 1 else 0:=by
 rcases Nat.eq_zero_or_pos i with h|h
 · subst h;rfl
 · rw[if_neg (by omega),qfi (by simp;omega)]
theorem qqy {n L m:Nat} (hn:n≤100) (hL:L≤n) (hm:m≤1000):wrap64 ((n:Int)+1)=((n+1:Nat):Int)∧wrap64 (2*(L:Int))=((2*L:Nat):Int)∧wrap64 (((n+1:Nat):Int)-(L:Int))=((n+1-L:Nat):Int)∧wrap64 ((m:Int)+1)=((m+1:Nat):Int):=by
 refine⟨?_,?_,?_,?_⟩<;>(rw[w64 (by omega) (by omega)];omega)
theorem qpf (S:List Int) (hS:isB S) (hSl:S.length≤100):∀(d n:Nat) (c b:List Int) (L m:Nat) (last:GF),n+d=S.length→LocSt S n c b L m last→EvP (fun k=>impl_locator.l0 k S c b (L:Int) (m:Int) (iG last) (S.length:Int) (n:Int)) (qfj S):=by
 intro d
 induction d with
 | zero=>
   intro n c b L m last hn h
   have e:n=S.length:=by omega
   subst e
   refine EvP.succ ?_
   simp only[impl_locator.l0]
   refine EvP.neg (by omega) (qlv (qfj S) c.length c rfl (by have:=h.cl;omega) h.cB (fun c' h1 h2 h3 h4=>⟨h1,by have:=h.cl;omega,h4,co b,L,m,last,h.bm.congr h3⟩))
 | succ d ih=>
   intro n c b L m last hn h
   have hcl:=h.cl
   have hbl:=h.bl
   have hLn:=h.bm.ln
   have hm1:=h.bm.m1
   have hlast:=h.bm.la
   have hn9:n≤100:=by omega
   refine EvP.succ ?_
   simp only[impl_locator.l0]
   have st:iG (GF.S 1 (fun j=>co c j*co S (n-j)))=rd S (n:Int):=by
    have:GF.S 1 (fun j=>co c j*co S (n-j))=co S n:=by
     show(0:GF)+co c 0*co S (n-0)=co S n
     rw[h.bm.c0,GF.one_mul,GF.zero_add,Nat.sub_zero]
    rw[this,←qah hS]
   have l1:=qqo (P:=qfj S) S c b L n (m:Int) (iG last) (S.length:Int) hS h.cB (by omega) hSl hLn h.bm.c0 ?_ L 1 (by omega) (by omega)
   · rw[st] at l1
     exact EvP.pos (by omega) (EvP.pos (by omega) (EvP.pos (by omega) l1))
   · refine EvP.succ ?_
     simp only[impl_locator.j2]
     by_cases hd:conv (co c) (co S) L n=0
     · rw[hd]
       rw[w64_add (i:=(n:Int)) (by omega) (by omega),w64_add (i:=(m:Int)) (by omega) (by omega)]
       exact EvP.pos rfl (ih (n+1) c b L (m+1) last (by omega) ⟨h.bm.skip hd,h.cB,h.bB,by omega,by omega⟩)
     · obtain⟨t1,t2⟩:=h.bm.turn (d:=conv (co c) (co S) L n) rfl hd
       have hcl2:slices_Clone_int_int.f c=some c:=by
        unfold slices_Clone_int_int.f
        rw[if_pos (by omega)]
       refine EvP.neg (fun h0=>hd (qas.1 h0)) (EvP.on (Ev.here hcl2) (EvP.on (qkb hlast) (EvP.on (qbz _ _) ?_)))
       obtain⟨dd,hdd⟩:∃dd,dd=(b.length+m)-c.length:=⟨_,rfl⟩
       refine qqn S (L:Int) (iG last) (n:Int) (iG (conv (co c) (co S) L n)) _ (S.length:Int) (n:Int) b c m (by omega) (co c) (c.length+dd) (fun c1 h1 h2 h3=> ?_) dd c (by omega) (fun _=>by omega) rfl h.cB (fun _=>rfl)
       refine qqm S (L:Int) (iG last) (n:Int) (iG (conv (co c) (co S) L n)) (S.length:Int) (n:Int) b c (conv (co c) (co S) L n*last.inv) m (c.length+dd) h.bB (by omega) (by omega) (by omega) (co c) (fun c2 g1 g2 g3=> ?_) b.length 0 c1 (by omega) h2 h1 (fun j=>by rw[h3 j,if_neg (by omega),GF.add_zero])
       obtain⟨w1,w2,w3,w4⟩:=qqy (n:=n) (L:=L) (m:=m) hn9 hLn (by omega)
       rw[w1,w2,w3,w4]
       clear w1 w2 w3 w4
       refine EvP.both (fun h5=> ?_) (fun h5=> ?_)
       · exact ih (n+1) c2 c (n+1-L) 1 (conv (co c) (co S) L n) (by omega) ⟨(t1 (by omega)).congr g3,g1,h.cB,by omega,by omega⟩
       · exact ih (n+1) c2 b L (m+1) last (by omega) ⟨(t2 (by omega)).congr g3,g1,h.bB,by omega,by omega⟩
theorem qlw (S:List Int) (hS:isB S) (hSl:S.length≤100):EvP (fun k=>impl_locator.f k S) (qfj S):=by
 unfold impl_locator.f
 have e:∀i,co [1] i=if i=0 then 1 else 0:=qqp
 have f:co [1]=fun i=>if i=0 then 1 else 0:=funext e
 have b1:isB [1]:=fun x hx=>by simp at hx;omega
 have st:LocSt S 0 [1] [1] 0 1 1:=⟨by rw[f];exact BM.start _,b1,b1,by simp,by simp⟩
 exact qpf S hS hSl S.length 0 [1] [1] 0 1 1 (by omega) st
def qca:Nat→Nat→Bool
 |0,_=>true
 |n+1,a=>gfX a != 1&&qca n (gfX a)
theorem qpg:qca 254 1=true:=by decide+kernel
theorem qfk:∀(n i:Nat) (a:Nat),qca n a=true→a=(two.pw i).v→∀j,1≤j→j≤n→two.pw (i+j)≠1
 |0,i,a,_,_,j,h1,h2=>by omega
 | n +1,i,a,h,e,j,h1,h2=>by
   simp only[qca,Bool.and_eq_true,bne_iff_ne] at h
   have e2:gfX a=(two.pw (i+1)).v:=by
    rw[e]
    exact(qgf ⟨_,(two.pw i).lt⟩).symm
   rcases Nat.eq_or_lt_of_le h1 with h3|h3
   · rw[←h3]
     intro e3
     apply h.1
     rw[e2,e3];rfl
   · have:=qfk n (i+1) (gfX a) h.2 e2 (j-1) (by omega) (by omega)
     rwa[show i+1+(j-1)=i+j by omega] at this
theorem qlx (j:Nat) (h1:1≤j) (h2:j≤254):two.pw j≠1:=by
 have:=qfk 254 0 1 qpg rfl j h1 h2
 rwa[Nat.zero_add] at this
theorem qid:two≠0:=fun h=>absurd (congrArg GF.v h) (by decide)
theorem qdp {x:GF} (h:x≠0):∀n,x.pw n≠0
 |0=>GF.one_ne
 |n+1=>GF.mul_ne (qdp h n) h
theorem GF.cancel {a b c:GF} (ha:a≠0) (h:a*b=a*c):b=c:=by
 have:a.inv*(a*b)=a.inv*(a*c):=by rw[h]
 rwa[←GF.mul_assoc,←GF.mul_assoc,GF.mul_comm a.inv,GF.mul_inv ha,GF.one_mul,GF.one_mul] at this
theorem qbp {a b:Nat} (ha:a≤254) (hb:b≤254) (h:two.pw a=two.pw b):a=b:=by
 have key:∀a b,a≤b→b≤254→two.pw a=two.pw b→a=b:=by
  intro a b h1 h2 h3
  rcases Nat.eq_or_lt_of_le h1 with h4|h4
  · exact h4
  · exfalso
    have e:two.pw b=two.pw a*two.pw (b-a):=by rw[←qce,show a+(b-a)=b by omega]
    rw[e] at h3
    have:two.pw a*1=two.pw a*two.pw (b-a):=by rw[GF.mul_one];exact h3
    exact qlx (b-a) (by omega) (by omega) (GF.cancel (qdp qid a) this).symm
 rcases Nat.le_total a b with h1|h1
 · exact key a b h1 hb h
 · exact(key b a h1 ha h.symm).symm
theorem qfl (n:Nat):two.pw (n%255)=two.pw n:=by
 have e:two.pw n=two.pw (255*(n / 255)+n%255):=by rw[Nat.div_add_mod]
 rw[e,qce,←qdl,qdz,qia,GF.one_mul]
theorem qco:∀n,gfP n=(two.pw n).v
 |0=>rfl
 | n+1=>by
   show gfM (gfP n) 2=gfM (two.pw n).v two.v
   rw[qco n];rfl
theorem qie (n:Nat) (hn:n≤1000000):Ev (fun k=>impl_gfPow.f k (n:Int)) (iG (two.pw n)):=by
 have e:iG (two.pw n)=((gfP (n%255):Nat):Int):=by rw[←qfl,qco];rfl
 rw[e]
 unfold impl_gfPow.f
 rw[show Int.tmod (n:Int) 255=((n%255:Nat):Int) by rw[Int.tmod_eq_emod_of_nonneg (by omega)];omega]
 exact qnf (n%255) (by omega) (n%255) 0 (by omega)
theorem qgi (z:GF):∀(l:List Int) (a:GF),isB l→horn z.v a.v l=(hr z a (l.map tG)).v
 |[],_,_=>rfl
 | c::l,a,h=>by
   have hc:=h c (List.mem_cons_self ..)
   have e:(gfM a.v z.v)^^^c.toNat=(a*z+tG c).v:=by
    show _=(a*z).v^^^(tG c).v
    have:(tG c).v=c.toNat:=by show c.toNat%256=c.toNat;omega
    rw[this];rfl
   simp only[horn,List.map_cons,hr]
   rw[e]
   exact qgi z l _ (fun x hx=>h x (List.mem_cons_of_mem _ hx))
theorem qqq (l:List Int):l.map tG=cl (co l) l.length:=by
 have key:∀n,n≤l.length→(l.take n).map tG=cl (co l) n:=by
  intro n
  induction n with
  |zero=>intro _;rfl
  | succ n ih=>
    intro h
    rw[take_rd (xs:=l) (i:=n) (by omega),List.map_append,ih (by omega)]
    rfl
 have:=key l.length (Nat.le_refl _)
 rwa[List.take_of_length_le (Nat.le_refl _)] at this
def wval (l:List Int) (z:GF):GF:=GF.S l.length (fun g=>co l g*z.pw (l.length-1-g))
theorem qch (z:GF) (l:List Int) (h:isB l):horn z.v 0 l=(wval l z).v:=by
 have e:=qgi z l 0 h
 rw[qqq] at e
 have e0:(0:GF).v=0:=rfl
 rw[e0] at e
 rw[e]
 cases hl:l.length with
 |zero=>unfold wval;rw[hl];rfl
 | succ n=>
   rw[qhs]
   unfold wval val
   rw[hl]
   rfl
theorem qdq (l:List Int) (hl:l.length≤1000) (hb:isB l) (i:Nat) (hi:i≤100):Ev (fun k=>impl_value.f k l (i:Int)) (iG (wval l (two.pw i))):=by
 have:=qgu l hl hb i hi
 rw[qco,qch _ _ hb] at this
 exact this
def pick (p:Nat→Bool):Nat→List Nat
 |0=>[]
 |n+1=>if p n=true then pick p n++[n] else pick p n
theorem qam (p:Nat→Bool):∀(n g:Nat),g∈pick p n↔g<n∧p g=true
 |0,g=>by simp[pick]
 | n + 1,g=>by
   unfold pick
   split
   · rename_i h
     rw[List.mem_append,qam p n g,List.mem_singleton]
     constructor
     · rintro(⟨a,b⟩|rfl)
       · exact⟨by omega,b⟩
       · exact⟨by omega,h⟩
     · rintro⟨a,b⟩
       rcases Nat.eq_or_lt_of_le (Nat.le_of_lt_succ a) with h1|h1
       · exact .inr h1
       · exact .inl ⟨h1,b⟩
   · rename_i h
     rw[qam p n g]
     constructor
     · rintro⟨a,b⟩;exact⟨by omega,b⟩
     · rintro⟨a,b⟩
       rcases Nat.eq_or_lt_of_le (Nat.le_of_lt_succ a) with h1|h1
       · rw[h1] at b;exact absurd b h
       · exact⟨h1,b⟩
theorem qif (p:Nat→Bool) (f:Nat→GF) (hf:∀g,p g≠true→f g=0):∀n,GF.S n f=GF.S (pick p n).length (fun j=>f ((pick p n).getD j 0))
 |0=>rfl
 | n +1=>by
   have ih:=qif p f hf n
   show GF.S n f+f n=_
   by_cases h:p n=true
   · have e:pick p (n+1)=pick p n++[n]:=by show(if p n=true then _ else _)=_;rw[if_pos h]
     rw[e,List.length_append,List.length_singleton]
     show _=GF.S (pick p n).length (fun j=>f ((pick p n++[n]).getD j 0))+f ((pick p n++[n]).getD (pick p n).length 0)
     rw[qab (g:=fun j=>f ((pick p n).getD j 0)) (pick p n).length (fun j hj=>by simp[List.getD_eq_getElem?_getD,List.getElem?_append_left hj]),←ih]
     simp[List.getD_eq_getElem?_getD]
   · have e:pick p (n+1)=pick p n:=by show(if p n=true then _ else _)=_;rw[if_neg h]
     rw[e,hf n h,GF.add_zero]
     exact ih
theorem qcb (p:Nat→Bool):∀(n i j:Nat),i<(pick p n).length→j<(pick p n).length→(pick p n).getD i 0=(pick p n).getD j 0→i=j
 |0,i,j,h,_,_=>by simp[pick] at h
 | n + 1,i,j,hi,hj,e=>by
   have ih:=qcb p n
   by_cases h:p n=true
   · have e1:pick p (n+1)=pick p n++[n]:=by show(if p n=true then _ else _)=_;rw[if_pos h]
     rw[e1] at hi hj e
     simp only[List.length_append,List.length_singleton] at hi hj
     have low:∀i,i<(pick p n).length→(pick p n++[n]).getD i 0=(pick p n).getD i 0∧(pick p n).getD i 0<n:=fun i hi=>by
      refine⟨by simp[List.getD_eq_getElem?_getD,List.getElem?_append_left hi],?_⟩
      have hm:(pick p n)[i]∈pick p n:=List.getElem_mem hi
      have:=((qam p n _).1 hm).1
      simpa [List.getD_eq_getElem?_getD,hi] using this
     have top:(pick p n++[n]).getD (pick p n).length 0=n:=by simp[List.getD_eq_getElem?_getD]
     rcases Nat.lt_or_ge i (pick p n).length with h1|h1<;>rcases Nat.lt_or_ge j (pick p n).length with h2|h2
     · rw[(low i h1).1,(low j h2).1] at e
       exact ih i j h1 h2 e
     · rw[show j=(pick p n).length by omega,top,(low i h1).1] at e
       have:=(low i h1).2;omega
     · rw[show i=(pick p n).length by omega,top,(low j h2).1] at e
       have:=(low j h2).2;omega
     · omega
   · have e1:pick p (n+1)=pick p n:=by show(if p n=true then _ else _)=_;rw[if_neg h]
     rw[e1] at hi hj e
     exact ih i j hi hj e
def difP (a b:List Int) (g:Nat):Bool:=rd a (g:Int) != rd b (g:Int)
def difs (a b:List Int):List Nat:=pick (difP a b) b.length
def errX (N:Nat) (gs:List Nat) (j:Nat):GF:=two.pw (N-1-gs.getD j 0)
def errE (a b:List Int) (gs:List Nat) (j:Nat):GF:=co a (gs.getD j 0)+co b (gs.getD j 0)
theorem qfa {a b:List Int} (hl:a.length=b.length) (i:Nat) (hz:wval b (two.pw i)=0):wval a (two.pw i)=GF.S (difs a b).length (fun j=>errE a b (difs a b) j*(errX b.length (difs a b) j).pw i):=by
 have e1:wval a (two.pw i)=GF.S b.length (fun g=>(co a g+co b g)*(two.pw i).pw (b.length-1-g)):=by
  have h1:GF.S b.length (fun g=>(co a g+co b g)*(two.pw i).pw (b.length-1-g))=GF.S b.length (fun g=>co a g*(two.pw i).pw (b.length-1-g))+GF.S b.length (fun g=>co b g*(two.pw i).pw (b.length-1-g)):=by
   rw[←qdm]
   exact qab _ (fun g _=>GF.add_mul _ _ _)
  have h2:GF.S b.length (fun g=>co b g*(two.pw i).pw (b.length-1-g))=0:=hz
  rw[h1,h2,GF.add_zero]
  unfold wval
  rw[hl]
 rw[e1,qif (difP a b) _ (fun g hg=> ?_) b.length]
 · refine qab _ (fun j _=> ?_)
   show(co a ((difs a b).getD j 0)+co b ((difs a b).getD j 0))*(two.pw i).pw (b.length-1-(difs a b).getD j 0)=_
   unfold errE errX
   rw[qdl,qdl,Nat.mul_comm i]
 · have:rd a (g:Int)=rd b (g:Int):=by
    unfold difP at hg
    simpa using hg
   unfold co
   rw[this,GF.add_self,GF.zero_mul]
theorem qdg {a b:List Int} {j:Nat} (h:j<(difs a b).length):(difs a b).getD j 0<b.length∧rd a (((difs a b).getD j 0:Nat):Int)≠rd b (((difs a b).getD j 0:Nat):Int):=by
 have hm:(difs a b)[j]∈difs a b:=List.getElem_mem h
 obtain⟨h1,h2⟩:=(qam (difP a b) b.length _).1 hm
 have e:(difs a b).getD j 0=(difs a b)[j]:=by simp[List.getD_eq_getElem?_getD,h]
 rw[e]
 exact⟨h1,by unfold difP at h2;simpa using h2⟩
theorem qkc {a b:List Int} (ha:isB a) (hb:isB b) {j:Nat} (h:j<(difs a b).length):errE a b (difs a b) j≠0:=fun e=>by
 have h2:=(qdg h).2
 have e2:=GF.add_eq_zero e
 apply h2
 rw[qah ha,qah hb,e2]
theorem qig {a b:List Int} (hl:b.length≤255) {i j:Nat} (hi:i<(difs a b).length) (hj:j<(difs a b).length) (e:errX b.length (difs a b) i=errX b.length (difs a b) j):i=j:=by
 have h1:=(qdg hi).1
 have h2:=(qdg hj).1
 have:=qbp (by omega) (by omega) e
 exact qcb (difP a b) b.length i j hi hj (by show(difs a b).getD i 0=(difs a b).getD j 0;omega)
theorem qdr {p q:Nat→Bool}:∀n,(∀g,g<n→p g=q g)→pick p n=pick q n
 |0,_=>rfl
 |n+1,h=>by unfold pick;rw[qdr n (fun g hg=>h g (by omega)),h n (by omega)]
def lowv (c:List Int) (w:GF):GF:=GF.S c.length (fun q=>co c q*w.pw q)
theorem qng {c:List Int} {L:Nat} (hc:c.length=L+1) {z w:GF} (h:z*w=1):val (co c) L z=z.pw L*lowv c w:=by
 unfold val lowv
 rw[hc,←qba]
 refine qab _ (fun q hq=> ?_)
 have e:z.pw L=z.pw (L-q)*z.pw q:=by rw[←qce,show L-q+q=L by omega]
 have e2:z.pw q*w.pw q=1:=by
  clear e hq
  induction q with
  |zero=>exact GF.one_mul 1
  | succ q ih=>
    rw[qde,qde]
    have:z.pw q*z*(w.pw q*w)=z.pw q*w.pw q*(z*w):=by ac_rfl
    rw[this,ih,h,GF.one_mul]
 have e3:z.pw (L-q)*z.pw q*(co c q*w.pw q)=co c q*z.pw (L-q)*(z.pw q*w.pw q):=by ac_rfl
 rw[e,e3,e2,GF.mul_one]
theorem qph {P:List Int×Int×Bool→Prop} (x0:List Int) (x1:Int) (c gone:List Int) (x11 x38 x39:Int) (w:GF) (hcB:isB c) (hcl:c.length≤1000)
 (H:EvP (fun k=>if iG (lowv c w)=0 then(if gone.length<17592186044416 then(impl_RsMend.l1 k x0 x1 c (gone++[x11]) x38 (wrap64 (x39+1))) else none) else(impl_RsMend.l1 k x0 x1 c gone x38 (wrap64 (x39+1)))) P):
 ∀(i:Nat) (a:GF),i≤c.length→a*w.pw i+GF.S i (fun q=>co c q*w.pw q)=lowv c w→EvP (fun k=>impl_RsMend.l2 k x0 x1 c gone x11 (iG w) (iG a) ((i:Int)-1) x38 x39) P:=by
 intro i
 induction i with
 | zero=>
   intro a hi he
   have e:a=lowv c w:=by
    rw[←he]
    show a=a*1+0
    rw[GF.mul_one,GF.add_zero]
   subst e
   refine EvP.succ ?_
   simp only[impl_RsMend.l2]
   exact EvP.neg (by omega) H
 | succ i ih=>
   intro a hi he
   have w1:(((i+1:Nat):Int)-1)=(i:Int):=by omega
   refine EvP.succ ?_
   simp only[impl_RsMend.l2]
   rw[w1,w64 (n:=(i:Int)-1) (by omega) (by omega),qah hcB i]
   refine EvP.pos (by omega) (EvP.on (qbz a w) (EvP.pos (by omega) (EvP.pos (by omega) ?_)))
   rw[qcm]
   refine ih _ (by omega) ?_
   rw[←he,GF.add_mul]
   show a*w*w.pw i+co c i*w.pw i+GF.S i (fun q=>co c q*w.pw q)=a*(w.pw i*w)+(GF.S i (fun q=>co c q*w.pw q)+co c i*w.pw i)
   have e1:a*w*w.pw i=a*(w.pw i*w):=by ac_rfl
   rw[e1,GF.add_assoc,GF.add_comm (co c i*w.pw i)]
def tryW (N g:Nat):GF:=two.pw (255-(N-1-g)%255)
theorem qpi {N g:Nat} (hN:N≤255):two.pw (N-1-g)*tryW N g=1:=by
 unfold tryW
 rw[←qce,Nat.mod_eq_of_lt (by omega),show N-1-g+(255-(N-1-g))=255 by omega]
 exact qdz
def qaa (l:List Nat):List Int:=l.map (fun g:Nat=>(g:Int))
theorem qih {P:List Int×Int×Bool→Prop} (x0 c:List Int) (M:Nat) (hM:M≤8) (hl:x0.length≤255) (hcB:isB c) (hcl:c.length≤1000)
 (H:EvP (fun k=>if((qaa (pick (fun g=>decide (iG (lowv c (tryW x0.length g))=0)) x0.length)).length:Int)>(M:Int) then(impl_RsMend.j3 k x0 (M:Int) (qaa (pick (fun g=>decide (iG (lowv c (tryW x0.length g))=0)) x0.length)) true) else(impl_RsMend.j3 k x0 (M:Int) (qaa (pick (fun g=>decide (iG (lowv c (tryW x0.length g))=0)) x0.length)) (((qaa (pick (fun g=>decide (iG (lowv c (tryW x0.length g))=0)) x0.length)).length:Int) != (wrap64 ((c.length:Int)-1))))) P):
 ∀(d i:Nat),i+d=x0.length→EvP (fun k=>impl_RsMend.l1 k x0 (M:Int) c (qaa (pick (fun g=>decide (iG (lowv c (tryW x0.length g))=0)) i)) (x0.length:Int) (i:Int)) P:=by
 have plen:∀(p:Nat→Bool) n,(pick p n).length≤n:=by
  intro p n
  induction n with
  |zero=>exact Nat.le_refl _
  | succ n ih=>
    unfold pick
    split
    · rw[List.length_append,List.length_singleton];omega
    · omega
 intro d
 induction d with
 | zero=>
   intro i hi
   have:i=x0.length:=by omega
   subst this
   refine EvP.succ ?_
   simp only[impl_RsMend.l1]
   exact EvP.neg (by omega) H
 | succ d ih=>
   intro i hi
   have e:wrap64 (255-Int.tmod (wrap64 (wrap64 ((x0.length:Int)-1)-(i:Int))) 255)=((255-(x0.length-1-i)%255:Nat):Int):=by
    rw[w64 (n:=(x0.length:Int)-1) (by omega) (by omega),w64 (n:=(x0.length:Int)-1-(i:Int)) (by omega) (by omega),Int.tmod_eq_emod_of_nonneg (by omega),w64 (by omega) (by omega)];omega
   have hp:=plen (fun g=>decide (iG (lowv c (tryW x0.length g))=0)) i
   have e2:wrap64 ((c.length:Int)-1)=(c.length:Int)-1:=w64 (by omega) (by omega)
   have ihs:=ih (i+1) (by omega)
   refine EvP.succ ?_
   simp only[impl_RsMend.l1]
   rw[e,e2]
   refine EvP.pos (by omega) (EvP.on (qie _ (by omega)) ?_)
   refine qph x0 (M:Int) c _ (i:Int) (x0.length:Int) (i:Int) (tryW x0.length i) hcB hcl ?_ c.length 0 (Nat.le_refl _) (by rw[GF.zero_mul,GF.zero_add];rfl)
   rw[w64_add (i:=(i:Int)) (by omega) (by omega)]
   by_cases h:iG (lowv c (tryW x0.length i))=0
   · have e3:qaa (pick (fun g=>decide (iG (lowv c (tryW x0.length g))=0)) (i+1))=qaa (pick (fun g=>decide (iG (lowv c (tryW x0.length g))=0)) i)++[(i:Int)]:=by
      unfold qaa
      show((if decide (iG (lowv c (tryW x0.length i))=0)=true then pick _ i++[i] else pick _ i).map _)=_
      rw[if_pos (decide_eq_true h),List.map_append];rfl
     rw[e3] at ihs
     exact EvP.pos h (EvP.pos (by unfold qaa;rw[List.length_map];omega) ihs)
   · have e3:qaa (pick (fun g=>decide (iG (lowv c (tryW x0.length g))=0)) (i+1))=qaa (pick (fun g=>decide (iG (lowv c (tryW x0.length g))=0)) i):=by
      unfold qaa
      show((if decide (iG (lowv c (tryW x0.length i))=0)=true then pick _ i++[i] else pick _ i).map _)=_
      rw[if_neg (by simpa using h)]
     rw[e3] at ihs
     exact EvP.neg h ihs
theorem qii (a b:List Int) (hl:a.length=b.length) (hb:b.length≤1000) {P:List Int×Int×Bool→Prop} (H:P (b,((difs a b).length:Int),true)):∀d i:Nat,i+d=b.length→EvP (fun k=>impl_RsMend.l3 k a b ((pick (difP a b) i).length:Int) (b.length:Int) (i:Int)) P:=by
 have plen:∀(p:Nat→Bool) n,(pick p n).length≤n:=by
  intro p n
  induction n with
  |zero=>exact Nat.le_refl _
  | succ n ih=>
    unfold pick
    split
    · rw[List.length_append,List.length_singleton];omega
    · omega
 intro d
 induction d with
 | zero=>
   intro i hi
   have:i=b.length:=by omega
   subst this
   refine EvP.succ ?_
   simp only[impl_RsMend.l3]
   exact EvP.neg (by omega) (EvP.now H)
 | succ d ih=>
   intro i hi
   have hp:=plen (difP a b) i
   have ihs:=ih (i+1) (by omega)
   refine EvP.succ ?_
   simp only[impl_RsMend.l3]
   rw[w64_add (i:=(i:Int)) (by omega) (by omega),w64_add (i:=((pick (difP a b) i).length:Int)) (by omega) (by omega)]
   refine EvP.pos (by omega) (EvP.pos (by omega) (EvP.pos (by omega) (EvP.pos (by omega) ?_)))
   by_cases h:rd b (i:Int)=rd a (i:Int)
   · have e:pick (difP a b) (i+1)=pick (difP a b) i:=by
      show(if difP a b i=true then _ else _)=_
      rw[if_neg (by unfold difP;simp[h])]
     rw[e] at ihs
     exact EvP.pos h ihs
   · have e:(pick (difP a b) (i+1)).length=(pick (difP a b) i).length+1:=by
      show(if difP a b i=true then pick (difP a b) i++[i] else pick (difP a b) i).length=_
      rw[if_pos (by unfold difP;simpa using fun e=>h e.symm)];simp
     rw[e] at ihs
     exact EvP.neg h ihs
theorem qgv (f:Nat→GF):∀(n k:Nat),k<n→co ((List.range n).map (fun i=>iG (f i))) k=f k:=by
 intro n k h
 unfold co
 rw[rd_nat]
 simp only[List.getD_eq_getElem?_getD,List.getElem?_map,List.getElem?_range h,Option.map_some,Option.getD_some]
 exact qbu _
theorem qij (f:Nat→GF) (n:Nat):isB ((List.range n).map (fun i=>iG (f i))):=fun x hx=>by
 obtain⟨i,_,rfl⟩:=List.mem_map.1 hx
 exact qar _
theorem qik {P:List Int×Int×Bool→Prop} (x0:List Int) (x1:Int) (n:Nat) (hn:n≤100) (hl:x0.length≤1000) (hb:isB x0)
 (H:EvP (fun k=>(impl_locator.f k ((List.range n).map (fun i=>iG (wval x0 (two.pw i))))).bind fun t=>impl_RsMend.l1 k x0 x1 t [] (x0.length:Int) 0) P):
 ∀d i:Nat,i+d=n→EvP (fun k=>impl_RsMend.l0 k x0 x1 ((List.range i).map (fun i=>iG (wval x0 (two.pw i)))) (n:Int) (i:Int)) P:=by
 intro d
 induction d with
 | zero=>
   intro i hi
   have:i=n:=by omega
   subst this
   refine EvP.succ ?_
   simp only[impl_RsMend.l0]
   exact EvP.neg (by omega) H
 | succ d ih=>
   intro i hi
   have ihs:=ih (i+1) (by omega)
   rw[List.range_succ,List.map_append] at ihs
   refine EvP.succ ?_
   simp only[impl_RsMend.l0]
   rw[w64_add (i:=(i:Int)) (by omega) (by omega)]
   exact EvP.pos (by omega) (EvP.on (qdq x0 hl hb i (by omega)) (EvP.pos (by simp;omega) ihs))
theorem qly (W V:List Int) (hW:isB W) (hV:isB V) (hl:V.length=W.length) (M:Nat) (hM:1≤M∧M≤8) (h2:2*M<W.length) (h3:W.length≤255) (hz:∀i,i<2*M→horn (gfP i) 0 W=0) (hd:(difs V W).length≤M)
 (hfill:Ev (fun k=>impl_fill.f k V (qaa (difs V W)) (M:Int)) (W,true)):EvP (fun k=>impl_RsMend.f k V (M:Int)) (fun r=>r=(W,((difs V W).length:Int),true)):=by
 have w2:wrap64 (2*(M:Int))=((2*M:Nat):Int):=by rw[w64 (by omega) (by omega)];omega
 have hzW:∀i,i<2*M→wval W (two.pw i)=0:=fun i hi=>by
  have:=hz i hi
  rw[qco,qch _ _ hW] at this
  exact GF.ext' this
 unfold impl_RsMend.f
 rw[w2]
 refine EvP.on (Ev.here (qel V M hM (by omega) (by omega))) (EvP.pos rfl ?_)
 refine qik V (M:Int) (2*M) (by omega) (by omega) hV ?_ (2*M) 0 (by omega)
 have hS:=qij (fun i=>wval V (two.pw i)) (2*M)
 have hSl:((List.range (2*M)).map (fun i=>iG (wval V (two.pw i)))).length=2*M:=by simp
 refine EvP.next (qlw _ hS (by omega)) ?_
 rintro c ⟨hcB,hcl,htrim,B,L,m,last,hbm⟩
 rw[hSl] at hbm hcl
 obtain⟨hLt,hCL,hroot,honly⟩:=qks hbm (difs V W).length (errE V W (difs V W)) (errX W.length (difs V W)) hd (fun k hk=>by
  rw[qgv _ (2*M) k hk]
  exact qfa hl k (hzW k hk)) (fun j hj=>qkc hV hW hj) (fun i j hi hj e=>qig h3 hi hj e) (fun j _=>qdp qid _)
 -- the register's length
 have hclen:c.length=L+1:=by
  have h4:L<c.length:=by
   rcases Nat.lt_or_ge L c.length with h|h
   · exact h
   · exact absurd (qfi h) hCL
  rcases Nat.eq_or_lt_of_le (show L+1≤c.length by omega) with h5|h5
  · exact h5.symm
  · exfalso
    have h6:=htrim (by omega)
    rw[qah hcB,hbm.cL _ (by omega)] at h6
    exact h6 rfl
 -- the places
 have hpl:pick (fun g=>decide (iG (lowv c (tryW V.length g))=0)) V.length=difs V W:=by
  rw[hl]
  refine qdr _ (fun g hg=> ?_)
  have hv:=qng (c:=c) (L:=L) hclen (qpi (N:=W.length) (g:=g) h3)
  have hne:=qdp (qdp qid (W.length-1-g)) L
  have key:iG (lowv c (tryW W.length g))=0↔difP V W g=true:=by
   rw[qas]
   constructor
   · intro h0
     rw[h0,GF.mul_zero] at hv
     obtain⟨j,hj,e⟩:=honly _ hv
     have hat:=qdg hj
     have e2:g=(difs V W).getD j 0:=by
      have:=qbp (a:=W.length-1-g) (b:=W.length-1-(difs V W).getD j 0) (by omega) (by omega) e
      omega
     rw[e2]
     unfold difP
     simpa using hat.2
   · intro h0
     have hm:g∈difs V W:=(qam _ _ _).2 ⟨hg,h0⟩
     obtain⟨j,hj,e⟩:=List.getElem_of_mem hm
     have e2:(difs V W).getD j 0=g:=by simp[List.getD_eq_getElem?_getD,hj,e]
     have hr:=hroot j hj
     have e3:errX W.length (difs V W) j=two.pw (W.length-1-g):=by unfold errX;rw[e2]
     rw[e3,hv] at hr
     exact GF.mul_eq_zero hr hne
  rw[Bool.eq_iff_iff,decide_eq_true_iff]
  exact key
 have hl1:=qih (P:=fun r=>r=(W,((difs V W).length:Int),true)) V c M hM.2 (by omega) hcB (by omega) ?_ V.length 0 (by omega)
 · exact hl1
 · rw[hpl]
   have hil:(qaa (difs V W)).length=(difs V W).length:=by unfold qaa;simp
   have w1:wrap64 ((c.length:Int)-1)=((difs V W).length:Int):=by rw[w64 (by omega) (by omega)];omega
   rw[hil,w1]
   refine EvP.neg (by omega) (EvP.succ ?_)
   simp only[impl_RsMend.j3]
   refine EvP.neg (by simp) (EvP.on hfill (EvP.pos rfl (EvP.on (qpc W hW M hM h2 h3 hz) (EvP.succ ?_))))
   simp only[impl_RsMend.j4]
   exact EvP.neg (by decide) (qii (P:=fun r=>r=(W,((difs V W).length:Int),true)) V W hl (by omega) rfl W.length 0 (by omega))
def qci (x:Int):Bool:=decide (x=0∨x=1)
theorem qjq {l:List Int}:l.all qci=true↔∀x∈l,x=0∨x=1:=by simp[List.all_eq_true,qci]
def qbb (l:List Int):Bool:=l.all qci&&decide (l.length≤1024)
theorem qeb {l:List Int}:qbb l=true↔(∀x∈l,x=0∨x=1)∧l.length≤1024:=by
 unfold qbb;rw[Bool.and_eq_true,qjq];simp
theorem qkt (l:List Int) (hl:l.length≤1048576):∀(d i:Nat),i+d=l.length→Ev (fun k=>spec_BitsOk.l0 k l (i:Int)) ((l.drop i).all qci&&decide (l.length≤1024)):=by
 intro d
 induction d with
 | zero=>
   intro i hi
   refine Ev.succ ?_
   simp only[spec_BitsOk.l0]
   rw[List.drop_of_length_le (by omega)]
   exact Ev.neg (by omega) (Ev.some_ (by simp;omega))
 | succ d ih=>
   intro i hi
   refine Ev.succ ?_
   simp only[spec_BitsOk.l0,qax,Option.bind_some]
   refine Ev.pos (by omega) (Ev.pos (by omega) ?_)
   rw[drop_rd (xs:=l) (i:=i) (by omega),w64_add (by omega) (by omega)]
   by_cases h1:rd l i=0∨rd l i=1
   · exact Ev.pos (by simp;omega) ((ih (i+1) (by omega)).to (by simp[qci,h1]))
   · exact Ev.neg (by simp;omega) (Ev.some_ (by simp[qci,h1]))
theorem qfm (l:List Int) (hl:l.length≤1048576):Ev (fun k=>spec_BitsOk.f k l) (qbb l):=
 (qkt l hl l.length 0 (by omega)).to (by simp[qbb])
theorem qnh (a:Int):impl_isBit.f a=some (decide (a=0∨a=1)):=by
 unfold impl_isBit.f
 by_cases h:a=0
 · simp[h]
 · rw[if_neg h];simp[h];by_cases h1:a=1<;>simp[h1]
theorem qku (l:List Int) (hl:l.length≤1048576):∀(d i:Nat),i+d=l.length→Ev (fun k=>impl_BitsOk.l0 k l l (l.length:Int) (i:Int)) ((l.drop i).all qci&&decide (l.length≤1024)):=by
 intro d
 induction d with
 | zero=>
   intro i hi
   refine Ev.succ ?_
   simp only[impl_BitsOk.l0]
   rw[List.drop_of_length_le (by omega)]
   exact Ev.neg (by omega) (Ev.some_ (by simp;omega))
 | succ d ih=>
   intro i hi
   refine Ev.succ ?_
   simp only[impl_BitsOk.l0,qnh,Option.bind_some]
   refine Ev.pos (by omega) (Ev.pos (by omega) (Ev.pos (by omega) ?_))
   rw[drop_rd (xs:=l) (i:=i) (by omega),w64_add (by omega) (by omega)]
   by_cases h1:rd l i=0∨rd l i=1
   · exact Ev.pos (by simp[h1]) ((ih (i+1) (by omega)).to (by simp[qci,h1]))
   · exact Ev.neg (by simp[h1]) (Ev.some_ (by simp[qci,h1]))
theorem qkv (l:List Int) (hl:l.length≤1048576):Ev (fun k=>impl_BitsOk.f k l) (qbb l):=
 (qku l hl l.length 0 (by omega)).to (by simp[qbb])
def qbs (a:Int):Bool:=decide (a=2∨a=4∨a=6∨a=8)
def inB (a b c:Int):Bool:=decide (b≤a)&&decide (a≤c)
theorem qgj {a b c:Int}:inB a b c=true↔b≤a∧a≤c:=by unfold inB;simp
def qbw (w m r s ra si:Int):Bool:=qbs w&&inB m 1 8&&inB r 1 64&&inB s 1 65535&&inB ra 1 8&&inB si 1 10000
theorem qkw {w m r s ra si:Int}:qbw w m r s ra si=true↔(w=2∨w=4∨w=6∨w=8)∧(1≤m∧m≤8)∧(1≤r∧r≤64)∧(1≤s∧s≤65535)∧(1≤ra∧ra≤8)∧(1≤si∧si≤10000):=by
 unfold qbw;simp only[Bool.and_eq_true,qgj,qbs,decide_eq_true_eq,and_assoc]
theorem qfn (a:Int):impl_isWidth.f a=some (qbs a):=by
 unfold impl_isWidth.f qbs
 by_cases h2:a=2
 · simp[h2]
 · by_cases h4:a=4
   · simp[h4]
   · by_cases h6:a=6
     · simp[h6]
     · simp only[if_neg h2,if_neg h4,if_neg h6,Option.some.injEq]
       by_cases h8:a=8<;>simp[h2,h4,h6,h8]
theorem qlz (a:Int):impl_isMend.f a=some (inB a 1 8):=by
 unfold impl_isMend.f inB
 by_cases h:a≥1<;>simp[h]
theorem qgk (a b:Int):impl_is16.f a b=some (inB a b 65535):=by
 unfold impl_is16.f inB
 by_cases h:a≥b<;>simp[h]
theorem qqr {a b c:Int} {o:Option Bool}:(if a≥b then(if a≤c then o else some false) else some false)=(if inB a b c=true then o else some false):=by
 unfold inB
 by_cases h:a≥b<;>by_cases h2:a≤c<;>simp[h,h2]
theorem qjr (w m r s ra si:Int):impl_ModemOk.f w m r s ra si=some (qbw w m r s ra si):=by
 unfold impl_ModemOk.f qbw
 simp only[qfn,qlz,qgk,Option.bind_some,qqr]
 have e:(if si≥1 then some (decide (si≤10000)) else some false)=some (inB si 1 10000):=by
  unfold inB
  by_cases h:si≥1<;>simp[h]
 rw[e]
 cases qbs w<;>cases inB m 1 8<;>cases inB r 1 64<;>cases inB s 1 65535<;>cases inB ra 1 8<;>rfl
theorem qer (a:Int):spec_l13Width.f a=some (qbs a):=by
 unfold spec_l13Width.f qbs
 by_cases h2:a=2
 · simp[h2]
 · by_cases h4:a=4
   · simp[h4]
   · by_cases h6:a=6
     · simp[h6]
     · simp only[if_neg h2,if_neg h4,if_neg h6,Option.some.injEq]
       by_cases h8:a=8<;>simp[h2,h4,h6,h8]
theorem qfo (a:Int):spec_l14Mend.f a=some (inB a 1 8):=by unfold spec_l14Mend.f inB;rw[qax];rfl
theorem qjs (w m r s ra si:Int):spec_ModemOk.f w m r s ra si=some (qbw w m r s ra si):=by
 unfold spec_ModemOk.f qbw
 have e:∀a b c:Int,spec_l1In.f a b c=some (inB a b c):=qax
 simp only[qer,qfo,e,Option.bind_some]
 cases qbs w<;>cases inB m 1 8<;>cases inB r 1 64<;>cases inB s 1 65535<;>cases inB ra 1 8<;>rfl
theorem qao {e:Nat} (h:e≤9000000000000000000):wrap64 ((e:Int)+1)=((e+1:Nat):Int):=by rw[w64 (by omega) (by omega)];omega
theorem Ev.mono {α:Type} {g:Nat→Option α} (m:∀k,LeO (g k) (g (k+1))) {K:Nat} {r:α} (h:g K=some r):Ev g r:=
 ⟨K,fun k hk=>by
  induction hk with
  |refl=>exact h
  |step _ ih=>exact m _ _ ih⟩
def ug (g:Nat):Nat:=g^^^(g / 2)^^^(g / 4)^^^(g / 8)
def lvN (l:List Int):Nat→Nat→Int→Int
 |0,_,acc=>acc
 |d+1,i,acc=>lvN l d (i+1) (2*acc+rd l (i:Int))
def qil (l:List Int):Prop:=∀i:Nat,rd l (i:Int)=0∨rd l (i:Int)=1
theorem qma {l:List Int} (h:∀x∈l,x=0∨x=1):qil l:=fun i=>by
 rcases Nat.lt_or_ge i l.length with h1|h1
 · exact h _ (rd_mem h1)
 · left;rw[rd_nat,List.getD_eq_getElem?_getD,List.getElem?_eq_none h1];rfl
def qqz (H:Nat) (t:Int):Int:=wrap64 (wrap64 (2*t)-wrap64 (shl .i64 1 (H:Int)-1))
def lvOf (l:List Int) (H i:Nat):Int:=qqz H ((ug (lvN l H i 0).toNat:Nat):Int)
def qac (v:Nat):Nat→List Int
 |0=>[]
 |d+1=>((v / 2^d%2:Nat):Int)::qac v d
theorem qni:∀(v:Fin 16) (d:Fin 4),bits .and .i64 (shr .i64 ((v.1:Nat):Int) ((d.1:Nat):Int)) 1=((v.1 / 2^d.1%2:Nat):Int):=by decide+kernel
theorem qqs (v:Nat) (hv:v<16):∀(d:Nat) (acc:List Int),d≤4→acc.length+d≤5000→Ev (fun k=>impl_put.l0 k acc (v:Int) ((d:Int)-1)) (acc++qac v d):=by
 intro d
 induction d with
 | zero=>
   intro acc hd ha
   refine Ev.succ ?_
   simp only[impl_put.l0]
   exact Ev.neg (by omega) (Ev.some_ (by simp[qac]))
 | succ d ih=>
   intro acc hd ha
   have e:=qni ⟨v,hv⟩ ⟨d,by omega⟩
   simp only at e
   refine Ev.succ ?_
   simp only[impl_put.l0]
   rw[show((d+1:Nat):Int)-1=(d:Int) by omega,w64 (n:=(d:Int)-1) (by omega) (by omega),e]
   refine Ev.pos (by omega) (Ev.pos (by omega) (Ev.pos (by omega) ((ih _ (by omega) (by simp;omega)).to ?_)))
   simp[qac]
def qaf (n w c:Nat):Nat→Nat→List Int
 |0,_=>[]
 |d+1,j=>if j*w+c<n then((j*w+c:Nat):Int)::qaf n w c d (j+1) else qaf n w c d (j+1)
def qag (n w r:Nat):Nat→Nat→List Int
 |0,_=>[]
 |d+1,c=>qaf n w c r 0++qag n w r d (c+1)
theorem qec (n w c:Nat):∀d j,∀x∈qaf n w c d j,0≤x∧x<(n:Int)
 |0,_,x,h=>by cases h
 | d +1,j,x,h=>by
   unfold qaf at h
   split at h
   · rcases List.mem_cons.1 h with h|h
     · omega
     · exact qec n w c d (j+1) x h
   · exact qec n w c d (j+1) x h
theorem qds (n w c:Nat):∀d j,(qaf n w c d j).length≤d
 |0,_=>Nat.le_refl _
 | d+1,j=>by
   have:=qds n w c d (j+1)
   unfold qaf
   split
   · simp;omega
   · omega
theorem qed (n w r:Nat):∀d c,∀x∈qag n w r d c,0≤x∧x<(n:Int)
 |0,_,x,h=>by cases h
 | d+1,c,x,h=>by
   unfold qag at h
   rcases List.mem_append.1 h with h|h
   · exact qec n w c r 0 x h
   · exact qed n w r d (c+1) x h
theorem mulW {j w r:Nat} (hj:j≤r) (hr:r≤64) (hw:w≤2000):j*w≤128000:=
 Nat.le_trans (Nat.mul_le_mul (Nat.le_trans hj hr) hw) (by decide)
theorem qos {j w c:Nat} (h:j*w≤128000) (hc:c≤2000):wrap64 (wrap64 ((j:Int)*(w:Int))+(c:Int))=((j*w+c:Nat):Int):=by
 have e:(j:Int)*(w:Int)=((j*w:Nat):Int):=by simp
 rw[e]
 generalize j*w=q at*
 rw[w64 (n:=(q:Int)) (by omega) (by omega),w64 (by omega) (by omega)];omega
theorem qpj (n w r c:Nat) (hn:n≤1024) (hr:r≤64) (hw:w≤2000) (hc:c≤2000) {res:List Int}:∀(d j:Nat) (acc:List Int),j+d=r→acc.length≤64*c+j→Ev (fun k=>spec_l13Order.l0 k (n:Int) (r:Int) (w:Int) (acc++qaf n w c d j) ((c+1:Nat):Int)) res→Ev (fun k=>spec_l13Order.l1 k (n:Int) (r:Int) (w:Int) acc (c:Int) (j:Int)) res:=by
 intro d
 induction d with
 | zero=>
   intro j acc hj ha H
   refine Ev.succ ?_
   simp only[spec_l13Order.l1]
   rw[qao (e:=c) (by omega)]
   simp only[qaf,List.append_nil] at H
   exact Ev.neg (by omega) H
 | succ d ih=>
   intro j acc hj ha H
   have hq:=mulW (j:=j) (w:=w) (r:=r) (by omega) hr hw
   have e:=qos hq hc
   refine Ev.succ ?_
   simp only[spec_l13Order.l1]
   rw[e,qao (e:=j) (by omega)]
   refine Ev.pos (by omega) ?_
   by_cases h:j*w+c<n
   · simp only[qaf,if_pos h] at H
     refine Ev.pos (by omega) (Ev.pos (by omega) (ih (j+1) _ (by omega) (by simp;omega) ?_))
     rw[List.append_assoc]
     exact H
   · simp only[qaf,if_neg h] at H
     exact Ev.neg (by omega) (ih (j+1) _ (by omega) (by omega) H)
theorem qpk (n w r:Nat) (hn:n≤1024) (hr:r≤64) (hw:w≤2000):∀(d c:Nat) (acc:List Int),c+d=w→acc.length≤64*c→Ev (fun k=>spec_l13Order.l0 k (n:Int) (r:Int) (w:Int) acc (c:Int)) (acc++qag n w r d c):=by
 intro d
 induction d with
 | zero=>
   intro c acc hc ha
   refine Ev.succ ?_
   simp only[spec_l13Order.l0]
   exact Ev.neg (by omega) (Ev.some_ (by simp[qag]))
 | succ d ih=>
   intro c acc hc ha
   have hl:=qds n w c r 0
   refine Ev.succ ?_
   simp only[spec_l13Order.l0]
   refine Ev.pos (by omega) (qpj n w r c hn hr hw (by omega) r 0 acc (by omega) (by omega) ?_)
   refine(ih (c+1) _ (by omega) (by simp;omega)).to ?_
   simp[qag]
theorem qpl (n w r c:Nat) (hn:n≤1024) (hr:r≤64) (hw:w≤2000) (hc:c≤2000) {res:List Int}:∀(d j:Nat) (acc:List Int),j+d=r→acc.length≤64*c+j→Ev (fun k=>impl_woven.l0 k (n:Int) (r:Int) (w:Int) (acc++qaf n w c d j) (w:Int) ((c+1:Nat):Int)) res→Ev (fun k=>impl_woven.l1 k (n:Int) (r:Int) (w:Int) acc (c:Int) (w:Int) (c:Int) (r:Int) (j:Int)) res:=by
 intro d
 induction d with
 | zero=>
   intro j acc hj ha H
   refine Ev.succ ?_
   simp only[impl_woven.l1]
   rw[qao (e:=c) (by omega)]
   simp only[qaf,List.append_nil] at H
   exact Ev.neg (by omega) H
 | succ d ih=>
   intro j acc hj ha H
   have hq:=mulW (j:=j) (w:=w) (r:=r) (by omega) hr hw
   have e:=qos hq hc
   refine Ev.succ ?_
   simp only[impl_woven.l1]
   rw[e,qao (e:=j) (by omega)]
   refine Ev.pos (by omega) ?_
   by_cases h:j*w+c<n
   · simp only[qaf,if_pos h] at H
     refine Ev.pos (by omega) (Ev.pos (by omega) (ih (j+1) _ (by omega) (by simp;omega) ?_))
     rw[List.append_assoc]
     exact H
   · simp only[qaf,if_neg h] at H
     exact Ev.neg (by omega) (ih (j+1) _ (by omega) (by omega) H)
theorem qpm (n w r:Nat) (hn:n≤1024) (hr:r≤64) (hw:w≤2000):∀(d c:Nat) (acc:List Int),c+d=w→acc.length≤64*c→Ev (fun k=>impl_woven.l0 k (n:Int) (r:Int) (w:Int) acc (w:Int) (c:Int)) (acc++qag n w r d c):=by
 intro d
 induction d with
 | zero=>
   intro c acc hc ha
   refine Ev.succ ?_
   simp only[impl_woven.l0]
   exact Ev.neg (by omega) (Ev.some_ (by simp[qag]))
 | succ d ih=>
   intro c acc hc ha
   have hl:=qds n w c r 0
   refine Ev.succ ?_
   simp only[impl_woven.l0]
   refine Ev.pos (by omega) (qpl n w r c hn hr hw (by omega) r 0 acc (by omega) (by omega) ?_)
   refine(ih (c+1) _ (by omega) (by simp;omega)).to ?_
   simp[qag]
def cols (n r:Nat):Nat:=(n+r-1) / r
theorem qgl (n r:Nat) (hn:n≤1024) (hr:1≤r∧r≤64):cols n r≤2000:=
 Nat.le_trans (Nat.div_le_self _ _) (by omega)
theorem qim (n r:Nat) (hn:n≤1024) (hr:1≤r∧r≤64):wrap64 (Int.tdiv (wrap64 (wrap64 ((n:Int)+(r:Int))-1)) (r:Int))=((cols n r:Nat):Int):=by
 have h:=qgl n r hn hr
 rw[w64 (n:=(n:Int)+(r:Int)) (by omega) (by omega),w64 (n:=(n:Int)+(r:Int)-1) (by omega) (by omega),show(n:Int)+(r:Int)-1=((n+r-1:Nat):Int) by omega,Int.tdiv_eq_ediv_of_nonneg (by omega)]
 have e:((n+r-1:Nat):Int) / (r:Int)=((cols n r:Nat):Int):=by unfold cols;simp
 rw[e,w64 (by omega) (by omega)]
def qbe (n r:Nat):List Int:=qag n (cols n r) r (cols n r) 0
theorem qpn (n r:Nat) (hn:n≤1024) (hr:1≤r∧r≤64):Ev (fun k=>spec_l13Order.f k (n:Int) (r:Int)) (qbe n r):=by
 unfold spec_l13Order.f qbe
 rw[qim n r hn hr]
 exact Ev.neg (by omega) ((qpk n (cols n r) r hn hr.2 (qgl n r hn hr) (cols n r) 0 [] (by omega) (by simp)).to (by simp))
theorem qpo (n r:Nat) (hn:n≤1024) (hr:1≤r∧r≤64):Ev (fun k=>impl_woven.f k (n:Int) (r:Int)) (qbe n r):=by
 unfold impl_woven.f qbe
 rw[qim n r hn hr]
 exact Ev.neg (by omega) ((qpm n (cols n r) r hn hr.2 (qgl n r hn hr) (cols n r) 0 [] (by omega) (by simp)).to (by simp))
theorem qqt {s:Int} (h:0≤s∧s<65536):bits .and .i64 s 1=s%2:=by
 have:=bits_and_mask s 1 (by omega)
 rw[show((2:Int)^1-1)=1 by decide] at this
 rw[this];omega
theorem qra {a b:Int} (ha:0≤a∧a<65536) (hb:0≤b∧b<65536):0≤bits .xor .i64 a b∧bits .xor .i64 a b<65536:=by
 have h:a.toNat^^^b.toNat<65536:=Nat.xor_lt_two_pow (n:=16) (by omega) (by omega)
 rw[←Int.toNat_of_nonneg ha.1,←Int.toNat_of_nonneg hb.1,xorN _ _ (by omega) (by omega)]
 omega
def qbq (s:Int):Int:=if s%2=1 then bits .xor .i64 (s / 2) 46080 else s / 2
theorem qin {s:Int} (h:0≤s∧s<65536):0≤qbq s∧qbq s<65536:=by
 unfold qbq
 split
 · exact qra (by omega) (by omega)
 · omega
def qaj:Int→List Int→List Int
 |_,[]=>[]
 |s,x::xs=>bits .xor .i64 x (s%2)::qaj (qbq s) xs
theorem qfp:∀(s:Int) (l:List Int),(qaj s l).length=l.length
 |_,[]=>rfl
 |s,x::xs=>by simp[qaj,qfp _ xs]
def qdh (l:List Int) (s:Int):List Int×Bool:=if qbb l=true then(qaj s l,true) else([],false)
theorem qnj (l:List Int) (hl:l.length≤1024):∀(d i:Nat) (s:Int) (acc:List Int),i+d=l.length→acc.length=i→0≤s∧s<65536→Ev (fun k=>spec_Stir.l0 k l 46080 acc s (i:Int)) (acc++qaj s (l.drop i),true):=by
 intro d
 induction d with
 | zero=>
   intro i s acc hi ha hs
   refine Ev.succ ?_
   simp only[spec_Stir.l0]
   rw[List.drop_of_length_le (by omega)]
   exact Ev.neg (by omega) (Ev.some_ (by simp[qaj]))
 | succ d ih=>
   intro i s acc hi ha hs
   have e1:Int.tmod s 2=s%2:=Int.tmod_eq_emod_of_nonneg hs.1
   have e2:wrap64 (Int.tdiv s 2)=s / 2:=by rw[Int.tdiv_eq_ediv_of_nonneg hs.1,w64 (by omega) (by omega)]
   have hn:=qin hs
   have i1:=ih (i+1) (qbq s) (acc++[bits .xor .i64 (rd l (i:Int)) (s%2)]) (by omega) (by simp;omega) hn
   have e3:acc++[bits .xor .i64 (rd l (i:Int)) (s%2)]++qaj (qbq s) (l.drop (i+1))=acc++qaj s (l.drop i):=by
    rw[drop_rd (xs:=l) (i:=i) (by omega)]
    simp[qaj]
   rw[e3] at i1
   refine Ev.succ ?_
   simp only[spec_Stir.l0]
   rw[e1,e2,qao (e:=i) (by omega)]
   refine Ev.pos (by omega) (Ev.pos (by omega) (Ev.pos (by omega) (Ev.next (Ev.some_ rfl) ?_)))
   unfold qbq at i1
   by_cases h:s%2=1
   · rw[if_pos h] at i1;exact Ev.pos h i1
   · rw[if_neg h] at i1;exact Ev.neg h i1
theorem qnk (l:List Int) (hl:l.length≤1024):∀(d i:Nat) (s:Int) (acc:List Int),i+d=l.length→acc.length=i→0≤s∧s<65536→Ev (fun k=>impl_Stir.l0 k 46080 s acc l (l.length:Int) (i:Int)) (acc++qaj s (l.drop i),true):=by
 intro d
 induction d with
 | zero=>
   intro i s acc hi ha hs
   refine Ev.succ ?_
   simp only[impl_Stir.l0]
   rw[List.drop_of_length_le (by omega)]
   exact Ev.neg (by omega) (Ev.some_ (by simp[qaj]))
 | succ d ih=>
   intro i s acc hi ha hs
   have e1:=qqt hs
   have hn:=qin hs
   have i1:=ih (i+1) (qbq s) (acc++[bits .xor .i64 (rd l (i:Int)) (s%2)]) (by omega) (by simp;omega) hn
   have e3:acc++[bits .xor .i64 (rd l (i:Int)) (s%2)]++qaj (qbq s) (l.drop (i+1))=acc++qaj s (l.drop i):=by
    rw[drop_rd (xs:=l) (i:=i) (by omega)]
    simp[qaj]
   rw[e3] at i1
   refine Ev.succ ?_
   simp only[impl_Stir.l0]
   rw[e1,qao (e:=i) (by omega)]
   refine Ev.pos (by omega) (Ev.pos (by omega) (Ev.pos (by omega) (Ev.pos (by omega) (Ev.next (Ev.some_ rfl) ?_))))
   unfold qbq at i1
   by_cases h:s%2=1
   · rw[if_pos h] at i1;exact Ev.pos h i1
   · rw[if_neg h] at i1;exact Ev.neg h i1
theorem qgw {l:List Int} (h:qbb l=true):l.length≤1024:=(qeb.1 h).2
theorem qnl (l:List Int) (s:Int) (hl:l.length≤1048576) (hs:1≤s∧s≤65535):Ev (fun k=>spec_Stir.f k l 46080 s) (qdh l s):=by
 unfold spec_Stir.f qdh
 refine Ev.next (Ev.some_ rfl) (Ev.next (qfm l hl) ?_)
 by_cases h:qbb l=true
 · rw[if_pos h]
   refine Ev.pos h (Ev.next (Ev.here (qax _ _ _)) (Ev.pos (by decide) (Ev.next (Ev.here (qax _ _ _)) ?_)))
   rw[show(!(decide ((1:Int)≤s)&&decide (s≤65535)))=false by simp;omega]
   refine Ev.succ ?_
   simp only[spec_Stir.j0]
   exact Ev.neg (by decide) (qnj l (qgw h) l.length 0 s [] (by omega) rfl (by omega))
 · rw[if_neg h]
   refine Ev.neg h (Ev.succ ?_)
   simp only[spec_Stir.j0]
   exact Ev.pos trivial (Ev.some_ rfl)
theorem qnm (l:List Int) (s:Int) (hl:l.length≤1048576) (hs:1≤s∧s≤65535):Ev (fun k=>impl_Stir.f k l 46080 s) (qdh l s):=by
 unfold impl_Stir.f qdh
 refine Ev.next (qkv l hl) ?_
 by_cases h:qbb l=true
 · rw[if_pos h]
   refine Ev.pos h (Ev.next (Ev.here (qgk _ _)) (Ev.pos (by decide) (Ev.next (Ev.here (qgk _ _)) ?_)))
   rw[show(!(inB s 1 65535))=false by rw[qgj.2 hs];rfl]
   refine Ev.succ ?_
   simp only[impl_Stir.j0]
   exact Ev.neg (by decide) (qnk l (qgw h) l.length 0 s [] (by omega) rfl (by omega))
 · rw[if_neg h]
   refine Ev.neg h (Ev.succ ?_)
   simp only[impl_Stir.j0]
   exact Ev.pos trivial (Ev.some_ rfl)
theorem qmb {xs:List S52} {i:Nat} (h:i<xs.length):xs.drop i=rd_T52 xs (i:Int)::xs.drop (i+1):=by
 rw[show rd_T52 xs (i:Int)=xs[i] by simp[rd_T52,List.getD_eq_getElem?_getD,h]];exact List.drop_eq_getElem_cons h
theorem qot:∀H:Fin 5,shl .i64 1 ((H.1:Nat):Int)=((2^H.1:Nat):Int):=by decide+kernel
theorem qaq (v:Nat):∀d,(qac v d).length=d
 |0=>rfl
 |d+1=>by simp[qac,qaq v d]
theorem qcp (v:Nat):∀d,∀x∈qac v d,x=0∨x=1
 |0,x,h=>by cases h
 | d+1,x,h=>by
   simp only[qac,List.mem_cons] at h
   rcases h with rfl|h
   · omega
   · exact qcp v d x h
structure qkx (X:List Int) (H:Nat) (PH:List S52) (Y:List Int) (n:Nat):Prop where
 len:Y.length=2*H*n
 bit:∀x∈Y,x=0∨x=1
 same:∀j,j<n→rd_T52 PH (j:Int)=⟨lvOf X H (2*H*j),lvOf X H (2*H*j+H)⟩→∀b,b<2*H→rd Y ((2*H*j+b:Nat):Int)=rd X ((2*H*j+b:Nat):Int)
theorem qkx.next {X:List Int} {H:Nat} {PH:List S52} {Y z:List Int} {n:Nat} (h:qkx X H PH Y n) (hz:z.length=2*H) (hb:∀x∈z,x=0∨x=1) (hs:rd_T52 PH (n:Int)=⟨lvOf X H (2*H*n),lvOf X H (2*H*n+H)⟩→∀b,b<2*H→rd z (b:Int)=rd X ((2*H*n+b:Nat):Int)):qkx X H PH (Y++z) (n+1) where
 len:=by rw[List.length_append,h.len,hz,Nat.mul_succ]
 bit:=fun x hx=>by
  rcases List.mem_append.1 hx with hx|hx
  · exact h.bit x hx
  · exact hb x hx
 same:=fun j hj e b hb2=>by
  rw[qdy]
  rcases Nat.lt_or_ge j n with h1|h1
  · have hm:2*H*(j+1)≤2*H*n:=Nat.mul_le_mul_left _ h1
    rw[Nat.mul_succ] at hm
    rw[if_pos (by rw[h.len];omega)]
    exact h.same j h1 e b hb2
  · have hj2:j=n:=by omega
    subst hj2
    rw[if_neg (by rw[h.len];omega),h.len,show 2*H*j+b-2*H*j=b by omega]
    exact hs e b hb2
def qcl (bs acc:List Int) (i:Nat):Int:=bits .or .u8 (rd acc ((i / 8:Nat):Int)) (rd bs (i:Int)*2^(7-i%8))
def qbc (bs:List Int):Nat→Nat→List Int→List Int
 |0,_,acc=>acc
 |d+1,i,acc=>qbc bs d (i+1) (acc.set (i / 8) (qcl bs acc i))
def qbh (bs:List Int):List Int:=qbc bs bs.length 0 (List.replicate ((bs.length+7) / 8) 0)
theorem qmc (s:Nat) (hs:s≤7) (b:Int) (hb:b=0∨b=1):shl .i64 b (s:Int)%256=b*2^s:=by
 have h:∀s:Fin 8,shl .i64 0 (s.val:Int)%256=0*2^s.val∧shl .i64 1 (s.val:Int)%256=1*2^s.val:=by decide
 rcases hb with rfl|rfl
 · exact(h ⟨s,by omega⟩).1
 · exact(h ⟨s,by omega⟩).2
theorem qnn (s:Nat) (hs:s≤7) (b:Int) (hb:b=0∨b=1):shl .u8 (b%256) (s:Int)=b*2^s:=by
 have h:∀s:Fin 8,shl .u8 (0%256) (s.val:Int)=0*2^s.val∧shl .u8 (1%256) (s.val:Int)=1*2^s.val:=by decide
 rcases hb with rfl|rfl
 · exact(h ⟨s,by omega⟩).1
 · exact(h ⟨s,by omega⟩).2
theorem qky (bs acc:List Int) (i:Nat):0≤qcl bs acc i∧qcl bs acc i<256:=by
 unfold qcl bits
 simp only[IntKind.wrap_u8]
 omega
theorem qfq (bs:List Int):∀(d i:Nat) (acc:List Int),(qbc bs d i acc).length=acc.length
 |0,_,_=>rfl
 |d+1,i,acc=>by simp only[qbc];rw[qfq bs d];simp
theorem qgx (bs:List Int):∀(d i:Nat) (acc:List Int),(∀x∈acc,0≤x∧x<256)→∀x∈qbc bs d i acc,0≤x∧x<256
 |0,_,_,h=>h
 | d +1,i,acc,h=>qgx bs d (i+1) _ (fun x hx=>by
     rcases List.mem_or_eq_of_mem_set hx with hx|rfl
     · exact h x hx
     · exact qky bs acc i)
theorem qmd (bs:List Int):∀x∈qbh bs,0≤x∧x<256:=qgx bs _ _ _ (fun x hx=>by rw[List.eq_of_mem_replicate hx];omega)
theorem qkz (bs:List Int):(qbh bs).length=(bs.length+7) / 8:=by unfold qbh;rw[qfq];simp
theorem qno (n r:Nat) (hr:1≤r):n≤r*cols n r:=by
 unfold cols
 have h:=Nat.div_add_mod (n+r-1) r
 have h2:=Nat.mod_lt (n+r-1) (show r>0 by omega)
 generalize r*((n+r-1) / r)=q at*
 omega
theorem qes (n w c:Nat) (hc:c<w):∀(d j:Nat),(qaf (n+1) w c d j).length=(qaf n w c d j).length+if n%w=c∧j≤n / w∧n / w<j+d then 1 else 0
 | 0,j=>by
   rw[if_neg (by omega)];rfl
 | d + 1,j=>by
   have ih:=qes n w c hc d (j+1)
   have hn:n / w*w+n%w=n:=by rw[Nat.mul_comm];exact Nat.div_add_mod _ _
   unfold qaf
   by_cases h:j*w+c=n
   · have e1:n / w=j:=by
      rw[←h,Nat.mul_comm,Nat.mul_add_div (by omega),Nat.div_eq_of_lt hc,Nat.add_zero]
     have e2:n%w=c:=by
      rw[←h,Nat.mul_comm,Nat.mul_add_mod,Nat.mod_eq_of_lt hc]
     rw[if_neg (by omega)] at ih
     rw[if_pos (by omega),if_neg (by omega),if_pos ⟨e2,by omega,by omega⟩,List.length_cons,ih]
   · have e3:(n%w=c∧j≤n / w∧n / w<j+(d+1))↔(n%w=c∧j+1≤n / w∧n / w<j+1+d):=by
      constructor
      · rintro⟨a,b,e⟩
        refine⟨a,?_,by omega⟩
        rcases Nat.lt_or_ge j (n / w) with h2|h2
        · exact h2
        · exfalso
          apply h
          have:n / w=j:=by omega
          rw[this,a] at hn
          exact hn
      · rintro⟨a,b,e⟩
        exact⟨a,by omega,by omega⟩
     simp only[e3]
     by_cases h2:j*w+c<n
     · rw[if_pos (by omega),if_pos h2,List.length_cons,List.length_cons,ih];omega
     · rw[if_neg (by omega),if_neg h2,ih]
theorem qet (n w r:Nat):∀(d c:Nat),c+d≤w→(qag (n+1) w r d c).length=(qag n w r d c).length+if c≤n%w∧n%w<c+d∧n / w<r then 1 else 0
 | 0,c,_=>by
   rw[if_neg (by omega)];rfl
 | d + 1,c,h=>by
   have ih:=qet n w r d (c+1) (by omega)
   have hr:=qes n w c (by omega) r 0
   unfold qag
   rw[List.length_append,List.length_append,ih,hr]
   generalize n / w=q at*
   generalize n%w=s at*
   by_cases h1:q<r
   · by_cases h2:s=c
     · rw[if_pos ⟨h2,by omega,by omega⟩,if_neg (by omega),if_pos ⟨by omega,by omega,h1⟩];omega
     · rw[if_neg (fun h3=>h2 h3.1)]
       by_cases h3:c+1≤s∧s<c+1+d
       · rw[if_pos ⟨h3.1,h3.2,h1⟩,if_pos ⟨by omega,by omega,h1⟩];omega
       · rw[if_neg (fun h4=>h3 ⟨h4.1,h4.2.1⟩),if_neg (fun h4=>h3 ⟨by omega,by omega⟩)];omega
   · rw[if_neg (fun h3=>by omega),if_neg (fun h3=>h1 h3.2.2),if_neg (fun h3=>h1 h3.2.2)];omega
theorem qeu (w c:Nat):∀(d j:Nat),qaf 0 w c d j=[]
 |0,_=>rfl
 |d+1,j=>by unfold qaf;rw[if_neg (by omega)];exact qeu w c d (j+1)
theorem qdb (w r:Nat):∀(d c:Nat),qag 0 w r d c=[]
 |0,_=>rfl
 |d+1,c=>by unfold qag;rw[qeu,qdb w r d (c+1)];rfl
theorem qee (w r:Nat) (hw:0<w):∀n,n≤r*w→(qag n w r w 0).length=n
 |0,_=>by rw[qdb];rfl
 | n+1,h=>by
   rw[qet n w r w 0 (by omega),qee w r hw n (by omega),if_pos ⟨by omega,by have:=Nat.mod_lt n hw;omega,(Nat.div_lt_iff_lt_mul hw).2 (by omega)⟩]
theorem qev (n r:Nat) (hr:1≤r):(qbe n r).length=n:=by
 have hf:=qno n r hr
 rcases Nat.eq_zero_or_pos n with h|h
 · subst h
   unfold qbe
   rw[qdb];rfl
 · have hc:0<cols n r:=by
    rcases Nat.eq_zero_or_pos (cols n r) with h|h
    · rw[h] at hf;omega
    · exact h
   exact qee (cols n r) r hc n hf
theorem qnp (bs:List Int) (hl:bs.length≤1000000) (hb:∀x∈bs,x=0∨x=1):∀(d i:Nat) (acc:List Int),i+d=bs.length→acc.length=(bs.length+7) / 8→Ev (fun k=>impl_pack8.l0 k acc bs (bs.length:Int) (i:Int)) (qbc bs d i acc):=by
 intro d
 induction d with
 | zero=>
   intro i acc hi _
   refine Ev.succ ?_
   simp only[impl_pack8.l0]
   exact Ev.neg (by omega) (Ev.some_ rfl)
 | succ d ih=>
   intro i acc hi ha
   have hbit:=hb _ (rd_mem (xs:=bs) (i:=i) (by omega))
   have e1:wrap64 (Int.tdiv (i:Int) 8)=((i / 8:Nat):Int):=by rw[Int.tdiv_eq_ediv_of_nonneg (by omega),w64 (by omega) (by omega)];omega
   have e2:wrap64 (7-Int.tmod (i:Int) 8)=((7-i%8:Nat):Int):=by rw[Int.tmod_eq_emod_of_nonneg (by omega),w64 (by omega) (by omega)];omega
   refine Ev.succ ?_
   simp only[impl_pack8.l0,qbc,e1,e2,qnn (7-i%8) (by omega) _ hbit]
   refine Ev.pos (by omega) (Ev.pos (by omega) (Ev.pos (by omega) (Ev.pos (by omega) (Ev.pos (by omega) (Ev.pos (by omega) ?_)))))
   rw[w64 (n:=(i:Int)+1) (by omega) (by omega),show((i:Int)+1)=((i+1:Nat):Int) by omega]
   exact ih (i+1) _ (by omega) (by simpa using ha)
theorem qnq (bs:List Int) (hl:bs.length≤1000000) (hb:∀x∈bs,x=0∨x=1):Ev (fun k=>impl_pack8.f k bs) (qbh bs):=by
 have e1:wrap64 (Int.tdiv (wrap64 ((bs.length:Int)+7)) 8)=(((bs.length+7) / 8:Nat):Int):=by
  rw[w64 (n:=(bs.length:Int)+7) (by omega) (by omega),Int.tdiv_eq_ediv_of_nonneg (by omega),w64 (by omega) (by omega)];omega
 unfold impl_pack8.f qbh
 simp only[e1,Int.toNat_natCast]
 exact Ev.pos (by omega) (Ev.pos (by omega) (qnp bs hl hb bs.length 0 _ (by omega) (by simp)))
theorem qqu {x b:Int} (hx:x=0∨x=1) (hb:b=0∨b=1):(bits .xor .i64 x b=0∨bits .xor .i64 x b=1)∧bits .xor .i64 (bits .xor .i64 x b) b=x:=by
 rcases hx with rfl|rfl<;>rcases hb with rfl|rfl<;>decide
theorem qew:∀(l:List Int) (s:Int),(∀x∈l,x=0∨x=1)→∀x∈qaj s l,x=0∨x=1
 |[],_,_,x,h=>by cases h
 | y::l,s,hl,x,h=>by
   rcases List.mem_cons.1 h with rfl|h
   · exact(qqu (hl y (List.mem_cons_self ..)) (b:=s%2) (by omega)).1
   · exact qew l _ (fun z hz=>hl z (List.mem_cons_of_mem _ hz)) x h
def qan:Nat→Int→Int→Int×Int
 |0,a,b=>(a,b)
 |d+1,a,b=>qan d (wrap64 (-b)) a
theorem qfr (q:Nat) (hq:q≤100):∀(d i:Nat) (a b:Int),i+d=q→Ev (fun k=>impl_turned.l0 k (q:Int) (i:Int) a b) (qan d a b)
 | 0,i,a,b,hi=>by
   refine Ev.succ ?_
   simp only[impl_turned.l0]
   exact Ev.neg (by omega) (Ev.some_ rfl)
 | d+1,i,a,b,hi=>by
   refine Ev.succ ?_
   simp only[impl_turned.l0]
   rw[qao (e:=i) (by omega)]
   exact Ev.pos (by omega) (qfr q hq d (i+1) _ _ (by omega))
def qou (q:Nat) (x:S52):S52:=⟨(qan q x.f0 x.f1).1,(qan q x.f0 x.f1).2⟩
theorem qio {x:Int} (h: -1000000000000≤x∧x≤1000000000000):impl_size.f x=some (if x<0 then-x else x):=by
 unfold impl_size.f mx
 rw[w64 (by omega) (by omega)]
 congr 1
 split<;>split<;>omega
theorem qme {si:Int} (hs:1≤si∧si≤10000) {p:S52} (hp: -1000000000≤p.f0∧p.f0≤1000000000) (hq: -1000000000≤p.f1∧p.f1≤1000000000):hrFar si p=decide ((16*si<p.f0∨16*si< -p.f0)∨(16*si<p.f1∨16*si< -p.f1)):=by
 have w:wrap64 (16*si)=16*si:=w64 (by omega) (by omega)
 unfold hrFar impl_Hear_1.f
 rw[qio (x:=p.f0) (by omega),qio (x:=p.f1) (by omega),w]
 simp only[Option.bind_some]
 by_cases h1:(if p.f0<0 then-p.f0 else p.f0)>16*si
 · rw[if_pos h1,decide_eq_true (by split at h1<;>omega)];rfl
 · rw[if_neg h1]
   by_cases h2:(if p.f1<0 then-p.f1 else p.f1)>16*si
   · rw[decide_eq_true h2,decide_eq_true (by split at h2<;>omega)];rfl
   · rw[decide_eq_false h2,decide_eq_false (by split at h1<;>split at h2<;>omega)];rfl
def scP (si:Int) (p:S52):S52:=⟨wrap64 (p.f0*si),wrap64 (p.f1*si)⟩
theorem qla {P:List S52} {i:Nat} (h:i<P.length):rd_T52 P (i:Int)∈P:=by
 rw[show rd_T52 P (i:Int)=P[i] by simp[rd_T52,List.getD_eq_getElem?_getD,h]]
 exact List.getElem_mem h
theorem qdi {xs:List S52} {i:Nat} (h:i<xs.length):xs.take (i+1)=xs.take i++[rd_T52 xs (i:Int)]:=by
 rw[show rd_T52 xs (i:Int)=xs[i] by simp[rd_T52,List.getD_eq_getElem?_getD,h]];exact(List.take_append_getElem h).symm
def ls0:List S52→Int
 |[]=>0
 |p::l=>p.f0+ls0 l
def ls1:List S52→Int
 |[]=>0
 |p::l=>p.f1+ls1 l
theorem qcq (p:S52):∀l,ls0 (l++[p])=ls0 l+p.f0
 |[]=>by simp[ls0]
 |q::l=>by simp only[List.cons_append,ls0];rw[qcq p l];omega
theorem qcr (p:S52):∀l,ls1 (l++[p])=ls1 l+p.f1
 |[]=>by simp[ls1]
 |q::l=>by simp only[List.cons_append,ls1];rw[qcr p l];omega
def inP (N:Int) (p:S52):Prop:=(-N≤p.f0∧p.f0≤N)∧(-N≤p.f1∧p.f1≤N)
theorem qht {N:Int} (hN:0≤N):∀l:List S52,(∀p∈l,inP N p)→(-(N*l.length)≤ls0 l∧ls0 l≤N*l.length)∧(-(N*l.length)≤ls1 l∧ls1 l≤N*l.length)
 |[],_=>by simp[ls0,ls1]
 | p::l,h=>by
   have ih:=qht hN l (fun q hq=>h q (List.mem_cons_of_mem _ hq))
   have hp:=h p (List.mem_cons_self ..)
   unfold inP at hp
   simp only[ls0,ls1,List.length_cons]
   have e:N*((l.length+1:Nat):Int)=N*l.length+N:=by rw[Int.natCast_add,Int.mul_add];simp
   rw[e]
   omega
theorem qem {xs:List S52} {i:Nat} (h:i<xs.length):xs.take (i+1)=xs.take i++[rd_T52 xs (i:Int)]:=qdi h
def near (b:Int) (c p:S52):Prop:=(-b≤p.f0-c.f0∧p.f0-c.f0≤b)∧(-b≤p.f1-c.f1∧p.f1-c.f1≤b)
theorem qpp {l:List S52} {a R:Nat} (h:a+R≤l.length):((l.take (a+R)).drop a).length=R:=by
 rw[List.length_drop,List.length_take];omega
structure Heard (air:List S52) (R d q:Nat) (si b:Int) (P:List S52) (hs:List Nat):Prop where
 len:air.length=d+R*(P.length+1)
 bd:∀p∈air,inP 1000000 p
 b0:0≤b∧2*b<si
 ahead:∀i,i<d→inP (16*si) (rd_T52 air (i:Int))
 head:∀i,i<R→near b (qou q ⟨32*si,0⟩) (rd_T52 air ((d+i:Nat):Int))
 sym:∀j,j<P.length→j∉hs→∀i,i<R→near b (qou q (scP si (rd_T52 P (j:Int)))) (rd_T52 air ((d+R*(j+1)+i:Nat):Int))
structure qlb (P:List S52) (hs:List Nat) (PH:List S52) (n:Nat):Prop where
 len:PH.length=n
 bd:∀p∈PH,(-1000000000≤p.f0∧p.f0≤1000000000)∧(-1000000000≤p.f1∧p.f1≤1000000000)
 same:∀j,j<n→j∉hs→rd_T52 PH (j:Int)=rd_T52 P (j:Int)
theorem qnr (l:List S52) (p:S52) (j:Nat):rd_T52 (l++[p]) (j:Int)=if j<l.length then rd_T52 l (j:Int) else if j=l.length then p else z52:=by
 unfold rd_T52
 rw[Int.toNat_natCast,List.getD_eq_getElem?_getD,List.getD_eq_getElem?_getD,List.getElem?_append]
 split
 · rfl
 · split
   · rename_i h;subst h;simp
   · rename_i h1 h2
     rw[List.getElem?_eq_none (by simp;omega)];rfl
theorem qlb.next {P:List S52} {hs:List Nat} {PH:List S52} {n:Nat} (h:qlb P hs PH n) (p:S52) (hb:(-1000000000≤p.f0∧p.f0≤1000000000)∧(-1000000000≤p.f1∧p.f1≤1000000000)) (hs2:n∉hs→p=rd_T52 P (n:Int)):qlb P hs (PH++[p]) (n+1) where
 len:=by rw[List.length_append,h.len,List.length_singleton]
 bd:=fun x hx=>by
  rcases List.mem_append.1 hx with hx|hx
  · exact h.bd x hx
  · rw[List.mem_singleton.1 hx];exact hb
 same:=fun j hj hn=>by
  rw[qnr]
  rcases Nat.lt_or_ge j n with h1|h1
  · rw[if_pos (by rw[h.len];exact h1)];exact h.same j h1 hn
  · have:j=n:=by omega
    subst this
    rw[if_neg (by rw[h.len];omega),if_pos h.len.symm]
    exact hs2 hn
def dot (n:Nat) (r z:Nat→GF):GF:=GF.S n (fun j=>r j*z j)
def ker (R n:Nat) (M:Nat→Nat→GF) (z:Nat→GF):Prop:=∀i,i<R→dot n (M i) z=0
theorem qpq (n:Nat) (r s z:Nat→GF):dot n (fun j=>r j+s j) z=dot n r z+dot n s z:=by
 unfold dot
 rw[←qdm]
 exact qab n (fun j _=>GF.add_mul _ _ _)
theorem qkd (n:Nat) (c:GF) (r z:Nat→GF):dot n (fun j=>c*r j) z=c*dot n r z:=by
 unfold dot
 rw[←qba]
 exact qab n (fun j _=>GF.mul_assoc _ _ _)
theorem qgy {n:Nat} {r s z:Nat→GF} (h:∀j,j<n→r j=s j):dot n r z=dot n s z:=qab n (fun j hj=>by rw[h j hj])
structure Step (R n c p:Nat) (M N:Nat→Nat→GF):Prop where
 cR:c<R
 pR:p<R
 cn:c<n
 ne:M p c≠0
 top:∀j,j<n→N c j=M p j*(M p c).inv
 other:∀i,i<R→i≠c→∀j,j<n→N i j=(if i=p then M c j else M i j)+(if i=p then M c c else M i c)*N c j
theorem Step.row {R n c p:Nat} {M N:Nat→Nat→GF} (h:Step R n c p M N) (z:Nat→GF):dot n (N c) z=(M p c).inv*dot n (M p) z:=by
 rw[←qkd]
 exact qgy (fun j hj=>by rw[h.top j hj,GF.mul_comm])
theorem Step.rest {R n c p:Nat} {M N:Nat→Nat→GF} (h:Step R n c p M N) (z:Nat→GF) (i:Nat) (hi:i<R) (hc:i≠c):dot n (N i) z=dot n (if i=p then M c else M i) z+(if i=p then M c c else M i c)*dot n (N c) z:=by
 rw[←qkd,←qpq]
 refine qgy (fun j hj=> ?_)
 rw[h.other i hi hc j hj]
 split<;>rfl
theorem Step.ker {R n c p:Nat} {M N:Nat→Nat→GF} (h:Step R n c p M N) (z:Nat→GF):ker R n N z↔ker R n M z:=by
 constructor
 · intro hk
   have hc:=hk c h.cR
   rw[h.row] at hc
   have hp:dot n (M p) z=0:=GF.mul_eq_zero hc (GF.inv_ne h.ne)
   intro i hi
   by_cases h1:i=p
   · rw[h1];exact hp
   · by_cases h2:i=c
     · -- row c stands at place p now
       subst h2
       have:=hk p h.pR
       rw[h.rest z p h.pR (fun e=>h1 e.symm),if_pos rfl,hk i h.cR,GF.mul_zero,GF.add_zero] at this
       exact this
     · have:=hk i hi
       rw[h.rest z i hi h2,if_neg h1,hk c h.cR,GF.mul_zero,GF.add_zero] at this
       exact this
 · intro hk
   have hc:dot n (N c) z=0:=by rw[h.row,hk p h.pR,GF.mul_zero]
   intro i hi
   by_cases h1:i=c
   · rw[h1];exact hc
   · rw[h.rest z i hi h1,hc,GF.mul_zero,GF.add_zero]
     split
     · exact hk c h.cR
     · exact hk i hi
def qbt (R c:Nat) (M:Nat→Nat→GF):Prop:=∀i,i<R→∀j,j<c→M i j=if i=j then 1 else 0
theorem Step.unit {R n c p:Nat} {M N:Nat→Nat→GF} (h:Step R n c p M N) (hp:c≤p) (hu:qbt R c M):qbt R (c+1) N:=by
 have hcp:∀j,j<c→M p j=0:=fun j hj=>by rw[hu p h.pR j hj,if_neg (by omega)]
 have hcc:∀j,j<c→M c j=0:=fun j hj=>by rw[hu c h.cR j hj,if_neg (by omega)]
 have hNc:∀j,j<c→N c j=0:=fun j hj=>by rw[h.top j (by have:=h.cn;omega),hcp j hj,GF.zero_mul]
 have hone:N c c=1:=by rw[h.top c h.cn,GF.mul_inv h.ne]
 intro i hi j hj
 by_cases h1:i=c
 · subst h1
   rcases Nat.lt_or_ge j i with h2|h2
   · rw[hNc j h2,if_neg (by omega)]
   · rw[show j=i by omega,hone,if_pos rfl]
 · rw[h.other i hi h1 j (by have:=h.cn;omega)]
   rcases Nat.lt_or_ge j c with h2|h2
   · rw[hNc j h2,GF.mul_zero,GF.add_zero]
     by_cases h3:i=p
     · rw[if_pos h3,hcc j h2,if_neg (by omega)]
     · rw[if_neg h3,hu i hi j h2]
   · have h4:j=c:=by omega
     subst h4
     rw[hone,GF.mul_one,GF.add_self,if_neg h1]
structure Solv (R t:Nat) (M:Nat→Nat→GF) (e:Nat→GF):Prop where
 sol:ker R (t+1) M (fun j=>if j<t then e j else 1)
 ind:∀y:Nat→GF,y t=0→ker R (t+1) M y→∀j,j<t→y j=0
theorem Solv.step {R t c p:Nat} {M N:Nat→Nat→GF} {e:Nat→GF} (h:Solv R t M e) (hs:Step R (t+1) c p M N):Solv R t N e:=
 ⟨(hs.ker _).2 h.sol,fun y h0 hk=>h.ind y h0 ((hs.ker _).1 hk)⟩
theorem Solv.pivot {R t c:Nat} {M:Nat→Nat→GF} {e:Nat→GF} (h:Solv R t M e) (hc:c<t) (hu:qbt R c M):∃p,c≤p∧p<R∧M p c≠0:=by
 refine Classical.byContradiction (fun hn=> ?_)
 have hz:∀p,c≤p→p<R→M p c=0:=fun p h1 h2=>Classical.byContradiction (fun h3=>hn ⟨p,h1,h2,h3⟩)
 have hy:=h.ind (fun j=>if j<c then M j c else if j=c then 1 else 0) (by show(if t<c then _ else if t=c then _ else(0:GF))=0;rw[if_neg (by omega),if_neg (by omega)]) (fun i hi=> ?_) c hc
 · have:(if c<c then M c c else if c=c then(1:GF) else 0)=0:=hy
   rw[if_neg (by omega),if_pos rfl] at this
   exact GF.one_ne this
 · show GF.S (t+1) (fun j=>M i j*(if j<c then M j c else if j=c then 1 else 0))=0
   rw[qcf (m:=c+1) (t+1) (by omega) (fun j h1 h2=>by rw[if_neg (by omega),if_neg (by omega),GF.mul_zero])]
   show GF.S c (fun j=>M i j*(if j<c then M j c else if j=c then 1 else 0))+M i c*(if c<c then M c c else if c=c then 1 else 0)=0
   rw[if_neg (Nat.lt_irrefl c),if_pos rfl,GF.mul_one]
   rcases Nat.lt_or_ge i c with h1|h1
   · rw[qhr (f:=fun j=>M i j*(if j<c then M j c else if j=c then 1 else 0)) i c h1 (fun j h2 h3=>by
      show M i j*_=0
      rw[hu i hi j h2,if_neg (fun e=>h3 e.symm),GF.zero_mul])]
     show M i i*(if i<c then M i c else _)+M i c=0
     rw[if_pos h1,hu i hi i h1,if_pos rfl,GF.one_mul,GF.add_self]
   · rw[hz i h1 hi,GF.add_zero,qab (g:=fun _=>0) c (fun j hj=>by rw[hu i hi j hj,if_neg (by omega),GF.zero_mul]),qbr]
theorem Solv.read {R t:Nat} {M:Nat→Nat→GF} {e:Nat→GF} (h:Solv R t M e) (hu:qbt R t M):∀i,i<R→M i t=if i<t then e i else 0:=by
 intro i hi
 have h1:=h.sol i hi
 have h2:GF.S t (fun j=>M i j*(if j<t then e j else 1))+M i t*(if t<t then e t else 1)=0:=h1
 rw[if_neg (Nat.lt_irrefl t),GF.mul_one] at h2
 by_cases h3:i<t
 · rw[if_pos h3]
   rw[qhr (f:=fun j=>M i j*(if j<t then e j else 1)) i t h3 (fun j h4 h5=>by
    show M i j*_=0
    rw[hu i hi j h4,if_neg (fun e=>h5 e.symm),GF.zero_mul])] at h2
   have h4:M i i*(if i<t then e i else 1)+M i t=0:=h2
   rw[if_pos h3,hu i hi i h3,if_pos rfl,GF.one_mul] at h4
   exact(GF.add_eq_zero h4).symm
 · rw[if_neg h3]
   rw[qab (g:=fun _=>0) t (fun j hj=>by rw[hu i hi j hj,if_neg (by omega),GF.zero_mul]),qbr,GF.zero_add] at h2
   exact h2
theorem qak {rows:List (List Int)} (h:∀r∈rows,isB r) (i:Nat):isB (rows.getD i []):=by
 by_cases hi:i<rows.length
 · rw[List.getD_eq_getElem?_getD,List.getElem?_eq_getElem hi];exact h _ (List.getElem_mem hi)
 · rw[List.getD_eq_getElem?_getD,List.getElem?_eq_none (by omega)];intro x hx;cases hx
structure flR (R m:Nat) (rows:List (List Int)):Prop where
 n:rows.length=R
 b:∀r∈rows,isB r
 l:∀i,i<R→(rows.getD i []).length=m
theorem qbn {rows:List (List Int)} {i j:Nat} (hi:i<rows.length) (x:List Int):(rows.set i x).getD j []=if j=i then x else rows.getD j []:=by
 rw[List.getD_eq_getElem?_getD,List.getElem?_set]
 by_cases h:i=j
 · subst h;simp[hi]
 · rw[if_neg h,if_neg (fun e=>h e.symm),List.getD_eq_getElem?_getD]
theorem flR.set {R m:Nat} {rows:List (List Int)} (h:flR R m rows) {i:Nat} (hi:i<R) {x:List Int} (hx:isB x) (hl:x.length=m):flR R m (rows.set i x) where
 n:=by rw[List.length_set];exact h.n
 b := fun r hr => by rcases List.mem_or_eq_of_mem_set hr with h1|h1
                     · exact h.b r h1
                     · rw[h1];exact hx
 l :=fun j hj=>by
   rw[qbn (by rw[h.n];exact hi)]
   split
   · exact hl
   · exact h.l j hj
def MG (rows:List (List Int)) (i j:Nat):GF:=co (rows.getD i []) j
theorem qip (V:List Int) (hl:V.length≤255) (hb:isB V) (i:Nat) (hi:i≤100):∀(gs:List Nat) (acc:List Int),(∀g∈gs,g<V.length)→Ev (fun k=>flRow k V (i:Int) (qaa gs) acc) (acc++gs.map (fun g=>iG (two.pw ((V.length-1-g)*i)))++[iG (wval V (two.pw i))])
 | [],acc,_=>by
   simp only[qaa,List.map_nil,flRow,List.append_nil]
   exact Ev.next (qdq V (by omega) hb i hi) (Ev.some_ rfl)
 | g::gs,acc,hg=>by
   have h1:=hg g (by simp)
   have h2:(V.length-1-g)*i≤254*100:=Nat.mul_le_mul (by omega) hi
   have e1:wrap64 (wrap64 ((V.length:Int)-1)-(g:Int))=((V.length-1-g:Nat):Int):=by
    rw[w64 (n:=(V.length:Int)-1) (by omega) (by omega),w64 (by omega) (by omega)];omega
   have e2:wrap64 (((V.length-1-g:Nat):Int)*(i:Int))=(((V.length-1-g)*i:Nat):Int):=by
    rw[←Int.natCast_mul,w64 (by omega) (by omega)]
   simp only[qaa,List.map_cons,flRow]
   rw[e1,e2]
   refine Ev.next (qie _ (by omega)) ?_
   have:=qip V hl hb i hi gs (acc++[iG (two.pw ((V.length-1-g)*i))]) (fun q hq=>hg q (by simp[hq]))
   simp only[qaa,List.append_assoc,List.singleton_append,List.cons_append,List.nil_append] at this ⊢
   exact this
def qai (V:List Int) (gs:List Nat) (i:Nat):List Int:=gs.map (fun g=>iG (two.pw ((V.length-1-g)*i)))++[iG (wval V (two.pw i))]
theorem qef (V:List Int) (hl:V.length≤255) (hb:isB V) (gs:List Nat) (hg:∀g∈gs,g<V.length):∀(d i:Nat),i+d≤100→Ev (fun k=>flRows k V (qaa gs) d i ((List.range i).map (qai V gs))) ((List.range (i+d)).map (qai V gs))
 |0,i,_=>by simp only[flRows];exact Ev.some_ rfl
 | d+1,i,hi=>by
   simp only[flRows]
   refine Ev.next (qip V hl hb i (by omega) gs [] hg) ?_
   have:=qef V hl hb gs hg d (i+1) (by omega)
   rw[List.range_succ,List.map_append] at this
   rw[show i+(d+1)=i+1+d by omega]
   exact this
theorem qke (V:List Int) (gs:List Nat) (i:Nat):isB (qai V gs i):=qbv (fun x hx=>by
 obtain⟨g,_,rfl⟩:=List.mem_map.1 hx
 exact qar _) (fun x hx=>by rw[List.mem_singleton.1 hx];exact qar _)
theorem qiq (V:List Int) (gs:List Nat) (i j:Nat) (hj:j≤gs.length):co (qai V gs i) j=if j<gs.length then(two.pw (V.length-1-gs.getD j 0)).pw i else wval V (two.pw i):=by
 unfold co qai
 rw[rd_nat,List.getD_eq_getElem?_getD]
 by_cases h:j<gs.length
 · rw[if_pos h,List.getElem?_append_left (by simpa using h),List.getElem?_map,List.getElem?_eq_getElem h]
   simp only[Option.map_some,Option.getD_some,qbu]
   rw[qdl,List.getD_eq_getElem?_getD,List.getElem?_eq_getElem h]
   rfl
 · rw[if_neg h,List.getElem?_append_right (by simp;omega)]
   have:j-(gs.map fun g=>iG (two.pw ((V.length-1-g)*i))).length=0:=by simp;omega
   rw[this]
   simp only[List.getElem?_cons_zero,Option.getD_some,qbu]
theorem qfs (v:GF):∀(d j:Nat) (a:List Int),isB a→j+d=a.length→EvP (fun k=>flScale k (iG v) d j a) (fun r=>isB r∧r.length=a.length∧∀t,t<a.length→co r t=if j≤t then co a t*v else co a t)
 | 0,j,a,hb,hj=>by
   simp only[flScale]
   exact EvP.now ⟨hb,rfl,fun t ht=>by rw[if_neg (by omega)]⟩
 | d +1,j,a,hb,hj=>by
   simp only[flScale]
   rw[qah hb]
   refine EvP.on (qbz _ _) ?_
   refine EvP.mono (qfs v d (j+1) (a.set j (iG (co a j*v))) (qck hb (qar _) j) (by rw[List.length_set];omega)) ?_
   rintro r ⟨h1,h2,h3⟩
   rw[List.length_set] at h2 h3
   refine⟨h1,h2,fun t ht=> ?_⟩
   rw[h3 t ht,qcn (by omega),qbu]
   by_cases e:t=j
   · subst e;rw[if_neg (by omega),if_pos rfl,if_pos (Nat.le_refl _)]
   · rw[if_neg e]
     by_cases e2:j+1≤t
     · rw[if_pos e2,if_pos (by omega)]
     · rw[if_neg e2,if_neg (by omega)]
theorem qir (f:GF) (b:List Int) (hbb:isB b):∀(d j:Nat) (a:List Int),isB a→j+d=a.length→EvP (fun k=>flXor k (iG f) b d j a) (fun r=>isB r∧r.length=a.length∧∀t,t<a.length→co r t=if j≤t then co a t+f*co b t else co a t)
 | 0,j,a,hb,hj=>by
   simp only[flXor]
   exact EvP.now ⟨hb,rfl,fun t ht=>by rw[if_neg (by omega)]⟩
 | d +1,j,a,hb,hj=>by
   simp only[flXor]
   rw[qah hb,qah hbb]
   refine EvP.on (qbz _ _) ?_
   rw[qcm]
   refine EvP.mono (qir f b hbb d (j+1) (a.set j (iG (co a j+f*co b j))) (qck hb (qar _) j) (by rw[List.length_set];omega)) ?_
   rintro r ⟨h1,h2,h3⟩
   rw[List.length_set] at h2 h3
   refine⟨h1,h2,fun t ht=> ?_⟩
   rw[h3 t ht,qcn (by omega),qbu]
   by_cases e:t=j
   · subst e;rw[if_neg (by omega),if_pos rfl,if_pos (Nat.le_refl _)]
   · rw[if_neg e]
     by_cases e2:j+1≤t
     · rw[if_pos e2,if_pos (by omega)]
     · rw[if_neg e2,if_neg (by omega)]
theorem qft (R m c:Nat) (hc:c<R) (hcm:c<m):∀(d i:Nat) (rows:List (List Int)),flR R m rows→i+d=R→EvP (fun k=>flClear k m c d i rows) (fun r=>flR R m r∧∀p,p<R→∀t,t<m→MG r p t=if i≤p∧p≠c then MG rows p t+MG rows p c*MG rows c t else MG rows p t)
 | 0,i,rows,h,hi=>by
   simp only[flClear]
   exact EvP.now ⟨h,fun p hp t ht=>by rw[if_neg (by omega)]⟩
 | d + 1,i,rows,h,hi=>by
   have hstep:EvP (fun k=>(if i≠c∧rd (rows.getD i []) (c:Int)≠0 then(flXor k (rd (rows.getD i []) (c:Int)) (rows.getD c []) m 0 (rows.getD i [])).bind fun r=>some (rows.set i r) else some rows)) (fun r=>flR R m r∧∀p,p<R→∀t,t<m→MG r p t=if p=i∧p≠c then MG rows p t+MG rows p c*MG rows c t else MG rows p t):=by
    refine EvP.both (fun hcd=> ?_) (fun hcd=> ?_)
    · rw[qah (qak h.b i)]
      refine EvP.next (qir _ _ (qak h.b c) m 0 (rows.getD i []) (qak h.b i) (by rw[h.l i (by omega)];omega)) ?_
      rintro r ⟨h1,h2,h3⟩
      rw[h.l i (by omega)] at h2 h3
      refine EvP.now ⟨h.set (by omega) h1 h2,fun p hp t ht=> ?_⟩
      unfold MG
      rw[qbn (by rw[h.n];omega)]
      by_cases e:p=i
      · subst e
        rw[if_pos rfl,if_pos ⟨rfl,hcd.1⟩,h3 t ht,if_pos (Nat.zero_le _)]
      · rw[if_neg e,if_neg (fun q=>e q.1)]
    · refine EvP.now ⟨h,fun p hp t ht=> ?_⟩
      by_cases e:p=i∧p≠c
      · rw[if_pos e]
        have:rd (rows.getD i []) (c:Int)=0:=by
         apply Classical.byContradiction
         intro hne
         exact hcd ⟨by rw[←e.1];exact e.2,hne⟩
        have e2:MG rows p c=0:=by unfold MG co;rw[e.1,this];rfl
        rw[e2,GF.zero_mul,GF.add_zero]
      · rw[if_neg e]
   simp only[flClear]
   refine EvP.next hstep ?_
   rintro r1 ⟨g1,g2⟩
   refine EvP.mono (qft R m c hc hcm d (i+1) r1 g1 (by omega)) ?_
   rintro r ⟨h1,h2⟩
   refine⟨h1,fun p hp t ht=> ?_⟩
   rw[h2 p hp t ht,g2 p hp t ht,g2 p hp c hcm,g2 c hc t ht]
   rw[if_neg (show ¬(c=i∧c≠c) from fun q=>q.2 rfl)]
   by_cases e:p=c
   · subst e
     rw[if_neg (fun q=>q.2 rfl),if_neg (fun q=>q.2 rfl),if_neg (fun q=>q.2 rfl)]
   · by_cases e2:p=i
     · rw[if_neg (show ¬(i+1≤p∧p≠c) by omega),if_pos ⟨e2,e⟩,if_pos ⟨by omega,e⟩]
     · rw[if_neg (show ¬(p=i∧p≠c) from fun q=>e2 q.1),if_neg (show ¬(p=i∧p≠c) from fun q=>e2 q.1)]
       by_cases e3:i+1≤p
       · rw[if_pos ⟨e3,e⟩,if_pos ⟨by omega,e⟩]
       · rw[if_neg (fun q=>e3 q.1),if_neg (by omega)]
theorem qex (rows:List (List Int)) (c:Int):∀(d p:Nat),p+d=rows.length→(∃q,p≤q∧q<rows.length∧rd (rows.getD q []) c≠0)→p≤flFind rows c d p∧flFind rows c d p<rows.length∧rd (rows.getD (flFind rows c d p) []) c≠0
 |0,p,h,⟨q,h1,h2,_⟩=>by omega
 | d +1,p,h,⟨q,h1,h2,h3⟩=>by
   unfold flFind
   by_cases e:rd (rows.getD p []) c=0
   · rw[if_pos e]
     have:=qex rows c d (p+1) (by omega) ⟨q,by
      rcases Nat.eq_or_lt_of_le h1 with h4|h4
      · subst h4;exact absurd e h3
      · omega,h2,h3⟩
     exact⟨by omega,this.2⟩
   · rw[if_neg e];exact⟨Nat.le_refl _,by omega,e⟩
theorem qfu {rows:List (List Int)} {p q:Nat} (hp:p<rows.length) (hq:q<rows.length) (j:Nat):(flSwap rows p q).getD j []=if j=q then rows.getD p [] else if j=p then rows.getD q [] else rows.getD j []:=by
 unfold flSwap
 rw[qbn (by rw[List.length_set];exact hq),qbn hp]
theorem flR.swap {R m:Nat} {rows:List (List Int)} (h:flR R m rows) {p q:Nat} (hp:p<R) (hq:q<R):flR R m (flSwap rows p q):=
 (h.set hp (qak h.b q) (h.l q hq)).set hq (qak h.b p) (h.l p hp)
theorem qgz (R n c:Nat) (hc:c<n) (rows:List (List Int)) (h:flR R (n+1) rows) (hcR:c<R) (hp:∃p,c≤p∧p<R∧MG rows p c≠0):EvP (fun k=>flStep k (n+1) c rows) (fun r=>flR R (n+1) r∧∃p,c≤p∧Step R (n+1) c p (MG rows) (MG r)):=by
 obtain⟨f1,f2,f3⟩:=qex rows (c:Int) (rows.length-c) c (by rw[h.n];omega) (by
  obtain⟨p,h1,h2,h3⟩:=hp
  exact⟨p,h1,by rw[h.n];exact h2,fun e=>h3 (by unfold MG co;rw[e];rfl)⟩)
 unfold flStep
 refine EvP.pos f2 ?_
 obtain⟨p,hpe⟩:∃p,p=flFind rows (c:Int) (rows.length-c) c:=⟨_,rfl⟩
 rw[←hpe] at f1 f2 f3 ⊢
 rw[h.n] at f2
 have hS:=h.swap hcR f2
 have hgc:(flSwap rows c p).getD c []=rows.getD p []:=by
  rw[qfu (by rw[h.n];exact hcR) (by rw[h.n];exact f2)]
  by_cases e:c=p
  · rw[if_pos e,e]
  · rw[if_neg e,if_pos rfl]
 rw[hgc,qah (qak h.b p)]
 have hne:co (rows.getD p []) c≠0:=fun e=>f3 (by rw[qah (qak h.b p),e];rfl)
 refine EvP.on (qkb hne) ?_
 refine EvP.next (qfs _ (n+1) 0 (rows.getD p []) (qak h.b p) (by rw[h.l p f2];omega)) ?_
 rintro r ⟨r1,r2,r3⟩
 rw[h.l p f2] at r2 r3
 have hQ:=hS.set hcR r1 r2
 rw[show rows.length=R from h.n]
 refine EvP.mono (qft R (n+1) c hcR (by omega) R 0 _ hQ (by omega)) ?_
 rintro q ⟨q1,q2⟩
 have hM:∀i,i<R→∀t,t<n+1→MG ((flSwap rows c p).set c r) i t=if i=c then co (rows.getD p []) t*(co (rows.getD p []) c).inv else if i=p then MG rows c t else MG rows i t:=by
  intro i hi t ht
  unfold MG
  rw[qbn (by rw[hS.n];exact hcR)]
  by_cases e:i=c
  · rw[if_pos e,if_pos e,r3 t ht,if_pos (Nat.zero_le _)]
  · rw[if_neg e,if_neg e,qfu (by rw[h.n];exact hcR) (by rw[h.n];exact f2)]
    by_cases e2:i=p
    · rw[if_pos e2,if_pos e2]
    · rw[if_neg e2,if_neg e,if_neg e2]
 refine⟨q1,p,f1,hcR,f2,by omega,hne,fun j hj=> ?_,fun i hi hic j hj=> ?_⟩
 · rw[q2 c hcR j hj,if_neg (fun z=>z.2 rfl),hM c hcR j hj,if_pos rfl]
   rfl
 · rw[q2 i hi j hj,if_pos ⟨Nat.zero_le _,hic⟩,q2 c hcR j hj,if_neg (show ¬(0≤c∧c≠c) from fun z=>z.2 rfl),hM i hi j hj,hM i hi c (by omega),if_neg hic,if_neg hic]
theorem qha (R n:Nat) (hnR:n≤R) (e:Nat→GF):∀(d c:Nat) (rows:List (List Int)),c+d=n→flR R (n+1) rows→Solv R n (MG rows) e→qbt R c (MG rows)→EvP (fun k=>flElim k (n+1) d c rows) (fun r=>flR R (n+1) r∧Solv R n (MG r) e∧qbt R n (MG r))
 | 0,c,rows,hd,h,hs,hu=>by
   simp only[flElim]
   exact EvP.now ⟨h,hs,by rw[show n=c by omega];exact hu⟩
 | d+1,c,rows,hd,h,hs,hu=>by
   simp only[flElim]
   refine EvP.next (qgz R n c (by omega) rows h (by omega) (hs.pivot (by omega) hu)) ?_
   rintro r ⟨r1,p,r2,r3⟩
   exact qha R n hnR e d (c+1) r (by omega) r1 (hs.step r3) (r3.unit r2 hu)
theorem qis (a b:GF):Go.bits .xor .u8 (iG a) (IntKind.u8.wrap (iG b))=iG (a+b):=by
 have ha:=a.lt
 have hb:=b.lt
 have e1:IntKind.u8.wrap (iG b)=iG b:=by rw[IntKind.wrap_u8];have:=qar b;omega
 rw[e1]
 show Go.bits .xor .u8 ((a.v:Nat):Int) ((b.v:Nat):Int)=(((a.v^^^b.v:Nat)):Int)
 have hx:a.v%2^IntKind.u8.bits=a.v:=Nat.mod_eq_of_lt (by show a.v<2^8;omega)
 have hy:b.v%2^IntKind.u8.bits=b.v:=Nat.mod_eq_of_lt (by show b.v<2^8;omega)
 have hl:a.v^^^b.v<2^8:=Nat.xor_lt_two_pow (by omega) (by omega)
 simp only[Go.bits,BitVec.toNat_xor,BitVec.ofInt_natCast,BitVec.toNat_ofNat,hx,hy]
 rw[IntKind.wrap_u8]
 omega
theorem qit {a b:List Int} (ha:isB a) (hb:isB b) (hl:a.length=b.length) (h:∀q,q<a.length→co a q=co b q):a=b:=by
 apply List.ext_getElem hl
 intro i h1 h2
 have e1:=qah ha i
 have e2:=qah hb i
 rw[rd_nat,List.getD_eq_getElem?_getD,List.getElem?_eq_getElem h1] at e1
 rw[rd_nat,List.getD_eq_getElem?_getD,List.getElem?_eq_getElem h2] at e2
 have e3:a[i]=iG (co a i):=e1
 have e4:b[i]=iG (co b i):=e2
 rw[e3,e4,h i h1]
theorem qhb (W V:List Int) (hW:isB W) (hV:isB V) (hl:V.length=W.length) (rows:List (List Int)) (hb:∀r∈rows,isB r) (he:∀i,i<(difs V W).length→MG rows i (difs V W).length=errE V W (difs V W) i):
 ∀(d i:Nat) (out:List Int),i+d=(difs V W).length→isB out→out.length=V.length→(∀q,q<V.length→co out q=if(∃j,j<i∧(difs V W).getD j 0=q) then co W q else co V q)→flOut rows (difs V W).length (qaa ((difs V W).drop i)) i out=W
 | 0, i,out,hd,ho,hol,hq=>by
   rw[List.drop_of_length_le (by omega)]
   show out=W
   refine qit ho hW (by omega) (fun q hq2=> ?_)
   rw[hq q (by omega)]
   by_cases e:∃j,j<i∧(difs V W).getD j 0=q
   · rw[if_pos e]
   · rw[if_neg e]
     apply Classical.byContradiction
     intro hne
     have hm:q∈difs V W:=(qam _ _ _).2 ⟨by omega,by
      unfold difP
      have:rd V (q:Int)≠rd W (q:Int):=fun e2=>hne (by unfold co;rw[e2])
      simpa using this⟩
     obtain⟨j,hj,e2⟩:=List.getElem_of_mem hm
     exact e ⟨j,by omega,by simp[List.getD_eq_getElem?_getD,hj,e2]⟩
 | d +1,i,out,hd,ho,hol,hq=>by
   have hi:i<(difs V W).length:=by omega
   have hat:=qdg hi
   have eg:(difs V W).getD i 0=(difs V W)[i]:=by simp[List.getD_eq_getElem?_getD,hi]
   rw[List.drop_eq_getElem_cons hi,←eg]
   generalize hg:(difs V W).getD i 0=g at hat
   have hnew:¬ ∃j,j<i∧(difs V W).getD j 0=g:=fun⟨j,hj,e⟩=>by
    have:=qcb (difP V W) W.length j i (by show j<(difs V W).length;omega) hi (by show(difs V W).getD j 0=(difs V W).getD i 0;rw[e,hg])
    omega
   have hog:co out g=co V g:=by rw[hq g (by omega),if_neg hnew]
   have hx:Go.bits .xor .u8 (rd out (g:Int)) (IntKind.u8.wrap (rd (rows.getD i []) ((difs V W).length:Int)))=iG (co W g):=by
    have h1:=he i hi
    unfold MG at h1
    rw[qah ho,qah (qak hb i),h1,qis,hog]
    unfold errE
    rw[hg,←GF.add_assoc,GF.add_self,GF.zero_add]
   show flOut rows (difs V W).length (qaa ((difs V W).drop (i+1))) (i+1) (out.set ((g:Nat):Int).toNat (Go.bits .xor .u8 (rd out (g:Int)) (IntKind.u8.wrap (rd (rows.getD i []) ((difs V W).length:Int)))))=W
   rw[hx,Int.toNat_natCast]
   refine qhb W V hW hV hl rows hb he d (i+1) _ (by omega) (qck ho (qar _) g) (by rw[List.length_set];exact hol) (fun q hqq=> ?_)
   rw[qcn (by omega),qbu]
   by_cases e:q=g
   · rw[if_pos e,if_pos ⟨i,by omega,by rw[hg,e]⟩,e]
   · rw [if_neg e,hq q hqq]
     by_cases e2:∃j,j<i∧(difs V W).getD j 0=q
     · rw[if_pos e2,if_pos (by obtain⟨j,h1,h2⟩:=e2;exact⟨j,by omega,h2⟩)]
     · rw[if_neg e2,if_neg (fun⟨j,h1,h2⟩=>by
        rcases Nat.eq_or_lt_of_le (Nat.le_of_lt_succ h1) with h3|h3
        · exact e (by rw[←h2,h3,hg])
        · exact e2 ⟨j,h3,h2⟩)]
theorem qns (W V:List Int) (M:Nat) (hW:isB W) (hV:isB V) (hl:V.length=W.length) (hM:1≤M∧M≤8) (h2:2*M<W.length) (h3:W.length≤255) (hz:∀i,i<2*M→horn (gfP i) 0 W=0) (hd:(difs V W).length≤M):
 Ev (fun k=>impl_fill.f k V (qaa (difs V W)) (M:Int)) (W,true):=by
 have hg:∀g∈difs V W,g<V.length:=fun g hg=>by have:=((qam _ _ _).1 hg).1;omega
 have hil:(qaa (difs V W)).length=(difs V W).length:=by unfold qaa;simp
 have hin:flIn V (qaa (difs V W)) (M:Int):=by
  refine⟨by omega,by rw[hil];omega,by omega,fun g h=> ?_⟩
  obtain⟨q,hq,rfl⟩:=List.mem_map.1 h
  have:=hg q hq
  omega
 have hzW:∀i,i<2*M→wval W (two.pw i)=0:=fun i hi=>by
  have:=hz i hi
  rw[qco,qch _ _ hW] at this
  exact GF.ext' this
 unfold impl_fill.f
 refine Ev.pos hin ?_
 rw[show(2*(M:Int)).toNat=2*M by omega,hil]
 have hrows:=qef V (by omega) hV (difs V W) hg (2*M) 0 (by omega)
 rw[Nat.zero_add] at hrows
 refine Ev.next (a:=(List.range (2*M)).map (qai V (difs V W))) hrows ?_
 have hget:∀i,i<2*M→((List.range (2*M)).map (qai V (difs V W))).getD i []=qai V (difs V W) i:=fun i hi=>by
  simp only[List.getD_eq_getElem?_getD,List.getElem?_map,List.getElem?_range hi,Option.map_some,Option.getD_some]
 have hR:flR (2*M) ((difs V W).length+1) ((List.range (2*M)).map (qai V (difs V W))):={
  n:=by simp
  b:=fun r hr=>by obtain⟨i,_,rfl⟩:=List.mem_map.1 hr;exact qke _ _ _
  l:=fun i hi=>by rw[hget i hi];simp[qai]}
 have hMG:∀i,i<2*M→∀j,j≤(difs V W).length→MG ((List.range (2*M)).map (qai V (difs V W))) i j=if j<(difs V W).length then(errX V.length (difs V W) j).pw i else wval V (two.pw i):=fun i hi j hj=>by
  unfold MG
  rw[hget i hi,qiq _ _ _ _ hj]
  rfl
 have hsolv:Solv (2*M) (difs V W).length (MG ((List.range (2*M)).map (qai V (difs V W)))) (errE V W (difs V W)):=by
  refine⟨fun i hi=> ?_,fun y h0 hk=> ?_⟩
  · show GF.S (difs V W).length (fun j=>MG _ i j*(if j<(difs V W).length then errE V W (difs V W) j else 1))+MG _ i (difs V W).length*(if(difs V W).length<(difs V W).length then _ else 1)=0
    rw[if_neg (Nat.lt_irrefl _),GF.mul_one,hMG i hi _ (Nat.le_refl _),if_neg (Nat.lt_irrefl _),qfa hl i (hzW i hi)]
    rw[qab (g:=fun j=>errE V W (difs V W) j*(errX W.length (difs V W) j).pw i) _ (fun j hj=>by
     rw[hMG i hi j (by omega),if_pos hj,if_pos hj,GF.mul_comm,hl])]
    exact GF.add_self _
  · refine qcg (difs V W).length (errX V.length (difs V W)) y (fun i j hi hj e=>qig h3 hi hj (by rw[←hl];exact e)) (fun i hi=> ?_)
    have h1:=hk i (by omega)
    have h2:GF.S (difs V W).length (fun j=>MG ((List.range (2*M)).map (qai V (difs V W))) i j*y j)+MG ((List.range (2*M)).map (qai V (difs V W))) i (difs V W).length*y (difs V W).length=0:=h1
    rw[h0,GF.mul_zero,GF.add_zero] at h2
    rw[←h2]
    exact qab _ (fun j hj=>by rw[hMG i (by omega) j (by omega),if_pos hj,GF.mul_comm])
 refine EvP.ev ?_
 refine EvP.next (qha (2*M) (difs V W).length (by omega) (errE V W (difs V W)) (difs V W).length 0 _ (by omega) hR hsolv (fun i _ j hj=>by omega)) ?_
 rintro r ⟨r1,r2,r3⟩
 have hread:=r2.read r3
 have hbad:flBad (difs V W).length r=false:=by
  unfold flBad
  rw[List.any_eq_false]
  intro x hx
  obtain⟨j,hj,e⟩:=List.getElem_of_mem hx
  rw[List.length_drop,r1.n] at hj
  rw[List.getElem_drop] at e
  have h4:=hread ((difs V W).length+j) (by omega)
  rw[if_neg (by omega)] at h4
  unfold MG at h4
  rw[List.getD_eq_getElem?_getD,List.getElem?_eq_getElem (by rw[r1.n];omega),Option.getD_some,e] at h4
  have hxb:isB x:=r1.b x (List.mem_of_mem_drop hx)
  rw[qah hxb,h4]
  decide
 rw[hbad]
 refine EvP.neg (by decide) ?_
 refine EvP.on (Ev.here (show slices_Clone_byte_byte.f V=some V by unfold slices_Clone_byte_byte.f;rw[if_pos (by omega)])) ?_
 refine EvP.now ?_
 have:=qhb W V hW hV hl r r1.b (fun i hi=>by rw[hread i (by omega),if_pos hi]) (difs V W).length 0 V (by omega) hV rfl (fun q hq=>by rw[if_neg (fun⟨j,hj,_⟩=>by omega)])
 rw[List.drop_zero] at this
 rw[this]
theorem qlc (a b:List Int) (h:a.length=b.length) (hl:a.length≤35184372088832):∀(d i:Nat),i+d=a.length→Ev (fun k=>laws_eqByteS.l0 k a b (i:Int)) (decide (a.drop i=b.drop i)):=by
 intro d
 induction d with
 | zero=>
   intro i hi
   refine Ev.round (f:=fun _=>some true) (Ev.some_ ?_) (fun k=>by simp only[laws_eqByteS.l0];rw[if_neg (by omega)])
   rw[List.drop_of_length_le (by omega),List.drop_of_length_le (by omega)];simp
 | succ d ih=>
   intro i hi
   by_cases he:rd a i=rd b i
   · refine(Ev.round (ih (i+1) (by omega)) (fun k=> ?_)).to ?_
     · simp only[laws_eqByteS.l0]
       rw[if_pos (by omega),if_pos (by omega),if_pos (by omega),if_pos he,w64_add (by omega) (by omega)];simp
     · rw[drop_rd (xs:=a) (i:=i) (by omega),drop_rd (xs:=b) (i:=i) (by omega),he];simp
   · refine(Ev.round (f:=fun _=>some false) (Ev.some_ rfl) (fun k=> ?_)).to ?_
     · simp only[laws_eqByteS.l0]
       rw[if_pos (by omega),if_pos (by omega),if_pos (by omega),if_neg he]
     · rw[drop_rd (xs:=a) (i:=i) (by omega),drop_rd (xs:=b) (i:=i) (by omega)];simp[he]
theorem qld (a b:List Int) (hl:a.length≤35184372088832):Ev (fun k=>laws_eqByteS.f k a b) (decide (a=b)):=by
 unfold laws_eqByteS.f
 by_cases h:a.length=b.length
 · exact Ev.pos (by omega) (qlc a b h hl a.length 0 (by omega))
 · exact(Ev.neg (by omega) (Ev.some_ rfl)).to (by simp;intro e;exact h (by rw[e]))
def qav (a:Int):Nat→List Int
 |0=>[]
 |n+1=>a%256::qav (a+1) n
theorem qcs:∀(n:Nat) (a:Int),(qav a n).length=n
 |0,_=>rfl
 |n+1,a=>by simp[qav,qcs n]
theorem qiu (m:Nat) (hm:m≤1048576):∀(d i:Nat) (l:List Int) (a:Int),i+d=l.length→l.length≤1048576→0≤a→a≤1000000000+i→Ev (fun k=>laws_markByteS.l0 k l a (i:Int)) (a+d,l.take i++qav a d):=by
 intro d
 induction d with
 | zero=>
   intro i l a hi hl h0 h1
   refine Ev.succ ?_
   simp only[laws_markByteS.l0]
   refine Ev.neg (by omega) (Ev.some_ ?_)
   rw[List.take_of_length_le (by omega)];simp[qav]
 | succ d ih=>
   intro i l a hi hl h0 h1
   refine Ev.succ ?_
   simp only[laws_markByteS.l0]
   refine Ev.pos (by omega) (Ev.pos (by omega) ?_)
   rw[w64_add (by omega) (by omega),w64_add (by omega) (by omega)]
   refine(ih (i+1) (l.set i (a%256)) (a+1) (by simp;omega) (by simpa using hl) (by omega) (by omega)).to ?_
   rw[take_set_end (by omega)]
   simp only[qav,List.append_assoc,List.cons_append,List.nil_append,Prod.mk.injEq,and_true]
   omega
theorem qiv (l:List Int) (a:Int) (hl:l.length≤1048576) (h0:0≤a) (h1:a≤1000000000):Ev (fun k=>laws_markByteS.f k l a) (a+l.length,qav a l.length):=by
 unfold laws_markByteS.f
 exact(qiu l.length hl l.length 0 l a (by omega) hl h0 (by omega)).to (by simp)
theorem qiw (p:List Int):∀(d:Nat) (a:Int) (l:List Int),l=p++qav a d→l.length≤1048576→∀i:Nat,i=p.length→0≤a→a≤1000000000+i→Ev (fun k=>laws_heldByteS.l0 k l a (i:Int)) (a+d):=by
 intro d
 induction d generalizing p with
 | zero=>
   intro a l hl hn i hi h0 h1
   refine Ev.succ ?_
   simp only[laws_heldByteS.l0]
   have:l.length=p.length:=by rw[hl];simp[qav]
   exact Ev.neg (by omega) (Ev.some_ (by omega))
 | succ d ih=>
   intro a l hl hn i hi h0 h1
   have e:l.length=p.length+(d+1):=by rw[hl];simp[qav,qcs]
   refine Ev.succ ?_
   simp only[laws_heldByteS.l0]
   refine Ev.pos (by omega) (Ev.pos (by omega) (Ev.pos ?_ ?_))
   · rw[rd_get l i (by omega)]
     subst hl
     rw[List.getElem_append_right (by omega)]
     simp[qav,hi]
   · rw[w64_add (by omega) (by omega),w64_add (by omega) (by omega)]
     exact(ih (p++[a%256]) (a+1) l (by rw[hl];simp[qav]) hn (i+1) (by simp[hi]) (by omega) (by omega)).to (by omega)
theorem qix (n:Nat) (a:Int) (hn:n≤1048576) (h0:0≤a) (h1:a≤1000000000):Ev (fun k=>laws_heldByteS.f k (qav a n) a) (a+n):=
 qiw [] n a (qav a n) (by simp) (by rw[qcs];exact hn) 0 rfl h0 (by omega)
theorem qjt (a b:List S52) (h:a=b) (hl:a.length≤1048576):∀(d i:Nat),i+d=a.length→Ev (fun k=>laws_eqPointS.l0 k a b (i:Int)) true:=by
 subst h
 intro d
 induction d with
 | zero=>
   intro i hi
   refine Ev.succ ?_
   simp only[laws_eqPointS.l0]
   exact Ev.neg (by omega) (Ev.some_ rfl)
 | succ d ih=>
   intro i hi
   refine Ev.succ ?_
   simp only[laws_eqPointS.l0]
   rw[qao (e:=i) (by omega)]
   refine Ev.pos (by omega) (Ev.pos (by omega) (Ev.pos (by omega) (Ev.next (Ev.here (r:=true) ?_) (Ev.pos rfl (ih (i+1) (by omega))))))
   unfold laws_eqPoint.f
   simp
theorem qju (a:List S52) (hl:a.length≤1048576):Ev (fun k=>laws_eqPointS.f k a a) true:=by
 unfold laws_eqPointS.f
 exact Ev.pos rfl (qjt a a rfl hl a.length 0 (by omega))
def qfv (a:Int):Nat→List S52
 |0=>[]
 |n+1=>⟨a,a+1⟩::qfv (a+2) n
theorem qnt (l:List S52) (i:Nat) (v:S52) (h:i<l.length):rd_T52 (l.set i v) (i:Int)=v:=by
 simp[rd_T52,List.getD_eq_getElem?_getD,h]
theorem qnu:∀(d i:Nat) (l:List S52) (a:Int),i+d=l.length→l.length≤1048576→0≤a→a≤1000000000+2*i→Ev (fun k=>laws_markPointS.l0 k l a (i:Int)) (a+2*d,l.take i++qfv a d):=by
 intro d
 induction d with
 | zero=>
   intro i l a hi hl h0 h1
   refine Ev.succ ?_
   simp only[laws_markPointS.l0]
   refine Ev.neg (by omega) (Ev.some_ ?_)
   rw[List.take_of_length_le (by omega)];simp[qfv]
 | succ d ih=>
   intro i l a hi hl h0 h1
   refine Ev.succ ?_
   simp only[laws_markPointS.l0]
   rw[qao (e:=i) (by omega),w64_add (by omega) (by omega),w64 (n:=a+1+1) (by omega) (by omega),Int.toNat_natCast]
   refine Ev.pos (by omega) (Ev.pos (by omega) (Ev.next (Ev.some_ rfl) ?_))
   rw[qnt l i _ (by omega),List.set_set,show a+1+1=a+2 by omega]
   refine(ih (i+1) (l.set i ⟨a,a+1⟩) (a+2) (by simp;omega) (by simpa using hl) (by omega) (by omega)).to ?_
   rw[take_set_end (by omega)]
   simp only[qfv,List.append_assoc,List.cons_append,List.nil_append,Prod.mk.injEq,and_true]
   omega
theorem qnv (l:List S52) (a:Int) (hl:l.length≤1048576) (h0:0≤a) (h1:a≤1000000000):Ev (fun k=>laws_markPointS.f k l a) (a+2*l.length,qfv a l.length):=by
 unfold laws_markPointS.f
 exact(qnu l.length 0 l a (by omega) hl h0 (by omega)).to (by simp)
theorem qcc (a b:GF):Ev (fun k=>spec_GfMul.f k (iG a) (iG b)) (iG (a*b)):=qgs a.v b.v a.lt b.lt
theorem qkf (a b:GF) (hb:a*b=1):∀(d i:Nat),i+d=b.v→1≤i→Ev (fun k=>spec_GfInv.l0 k (iG a) (i:Int)) (iG b)
 | 0,i,hi,h1=>by
   have e:(i:Int)=iG b:=by show(i:Int)=(b.v:Int);omega
   refine Ev.succ ?_
   simp only[spec_GfInv.l0]
   rw[e]
   exact Ev.next (qcc a b) (Ev.pos (by rw[hb];rfl) (Ev.some_ rfl))
 | d+1,i,hi,h1=>by
   have hlt:=b.lt
   have e:(i:Int)=iG ⟨i,by omega⟩:=rfl
   have hne:iG (a*⟨i,by omega⟩)≠1:=fun h=>by
    have h2:a*⟨i,by omega⟩=1:=GF.ext' (by have:(((a*⟨i,by omega⟩:GF).v:Nat):Int)=1:=h;show(a*⟨i,by omega⟩:GF).v=1;omega)
    have h3:a≠0:=fun h4=>by rw[h4,GF.zero_mul] at h2;exact GF.one_ne h2.symm
    have h5:=congrArg GF.v (GF.cancel h3 (h2.trans hb.symm))
    have h6:i=b.v:=h5
    omega
   refine Ev.succ ?_
   simp only[spec_GfInv.l0]
   rw[w64_add (i:=(i:Int)) (by omega) (by omega)]
   have:=qkf a b hb d (i+1) (by omega) (by omega)
   rw[e]
   refine Ev.next (qcc a _) (Ev.neg hne ?_)
   exact this
theorem qnw {a:GF} (ha:a≠0):Ev (fun k=>spec_GfInv.f k (iG a)) (iG a.inv):=by
 unfold spec_GfInv.f
 have hb:=qar a
 have hz:(iG a==0)=false:=by
  rw[beq_eq_false_iff_ne]
  exact fun h=>ha (qas.1 h)
 have h1:1≤a.inv.v:=by
  rcases Nat.eq_zero_or_pos a.inv.v with h|h
  · exact absurd (GF.ext' h:a.inv=0) (GF.inv_ne ha)
  · exact h
 refine Ev.next (Ev.here (qge _)) (Ev.pos (by simp;omega) ?_)
 rw[hz]
 refine Ev.succ ?_
 simp only[spec_GfInv.j0]
 refine Ev.neg (by decide) ?_
 exact qkf a a.inv (GF.mul_inv ha) (a.inv.v-1) 1 (by omega) (Nat.le_refl _)
theorem qiy (v:GF) (x:List Int) (hx:isB x):∀(d j:Nat) (acc:List Int),isB acc→acc.length=j→EvP (fun k=>slRow k (iG v) x d j acc) (fun r=>isB r∧r.length=j+d∧∀t,t<j+d→co r t=if j≤t then co x t*v else co acc t)
 | 0,j,acc,hb,hl=>by
   simp only[slRow]
   exact EvP.now ⟨hb,by omega,fun t ht=>by rw[if_neg (by omega)]⟩
 | d + 1,j,acc,hb,hl=>by
   simp only[slRow]
   rw[qah hx]
   refine EvP.on (qcc _ _) ?_
   refine EvP.mono (qiy v x hx d (j+1) (acc++[iG (co x j*v)]) (qbv hb (fun y hy=>by rw[List.mem_singleton.1 hy];exact qar _)) (by simp;omega)) ?_
   rintro r ⟨h1,h2,h3⟩
   refine⟨h1,by omega,fun t ht=> ?_⟩
   rw[h3 t (by omega)]
   by_cases e:j+1≤t
   · rw[if_pos e,if_pos (by omega)]
   · rw[if_neg e]
     unfold co
     rw[qdy,hl]
     by_cases e2:t<j
     · rw[if_pos e2,if_neg (by omega)]
     · have:t=j:=by omega
       subst this
       rw[if_neg e2,if_pos (Nat.le_refl _),Nat.sub_self]
       show tG (iG _)=_
       rw[qbu]
theorem qiz (f:GF) (a y:List Int) (ha:isB a) (hy:isB y):∀(d j:Nat) (acc:List Int),isB acc→acc.length=j→EvP (fun k=>slSub k (iG f) a y d j acc) (fun r=>isB r∧r.length=j+d∧∀t,t<j+d→co r t=if j≤t then co a t+f*co y t else co acc t)
 | 0,j,acc,hb,hl=>by
   simp only[slSub]
   exact EvP.now ⟨hb,by omega,fun t ht=>by rw[if_neg (by omega)]⟩
 | d + 1,j,acc,hb,hl=>by
   simp only[slSub]
   rw[qah hy,qah ha]
   refine EvP.on (qcc _ _) ?_
   rw[qcm]
   refine EvP.mono (qiz f a y ha hy d (j+1) (acc++[iG (co a j+f*co y j)]) (qbv hb (fun y hy=>by rw[List.mem_singleton.1 hy];exact qar _)) (by simp;omega)) ?_
   rintro r ⟨h1,h2,h3⟩
   refine⟨h1,by omega,fun t ht=> ?_⟩
   rw[h3 t (by omega)]
   by_cases e:j+1≤t
   · rw[if_pos e,if_pos (by omega)]
   · rw[if_neg e]
     unfold co
     rw[qdy,hl]
     by_cases e2:t<j
     · rw[if_pos e2,if_neg (by omega)]
     · have:t=j:=by omega
       subst this
       rw[if_neg e2,if_pos (Nat.le_refl _),Nat.sub_self]
       show tG (iG _)=_
       rw[qbu]
theorem qdt (n c:Nat) (y:List Int) (hy:isB y) (hc:c<n):∀(d i:Nat) (rows:List (List Int)),flR n (n+1) rows→i+d=n→EvP (fun k=>slClear k (n+1) c y d i rows) (fun r=>flR n (n+1) r∧∀p,p<n→∀t,t<n+1→MG r p t=if i≤p∧p≠c then MG rows p t+MG rows p c*co y t else MG rows p t)
 | 0,i,rows,h,hi=>by
   simp only[slClear]
   exact EvP.now ⟨h,fun p hp t ht=>by rw[if_neg (by omega)]⟩
 | d + 1,i,rows,h,hi=>by
   simp only[slClear]
   refine EvP.both (fun hic=> ?_) (fun hic=> ?_)
   · refine EvP.mono (qdt n c y hy hc d (i+1) rows h (by omega)) ?_
     rintro r ⟨h1,h2⟩
     refine⟨h1,fun p hp t ht=> ?_⟩
     rw[h2 p hp t ht]
     by_cases e:i+1≤p∧p≠c
     · rw[if_pos e,if_pos ⟨by omega,e.2⟩]
     · rw[if_neg e,if_neg (by omega)]
   · rw [qah (qak h.b i)]
     refine EvP.next (qiz _ _ y (qak h.b i) hy (n+1) 0 [] (fun x hx=>by cases hx) rfl) ?_
     rintro r1 ⟨g1,g2,g3⟩
     have hset:=h.set (i:=i) (by omega) g1 (by omega)
     refine EvP.mono (qdt n c y hy hc d (i+1) _ hset (by omega)) ?_
     rintro r ⟨h1,h2⟩
     have hM:∀p t,t<n+1→MG (rows.set i r1) p t=if p=i then MG rows p t+MG rows p c*co y t else MG rows p t:=fun p t ht=>by
      unfold MG
      rw[qbn (by rw[h.n];omega)]
      by_cases e:p=i
      · subst e
        rw[if_pos rfl,if_pos rfl,g3 t (by omega),if_pos (Nat.zero_le _)]
      · rw[if_neg e,if_neg e]
     refine⟨h1,fun p hp t ht=> ?_⟩
     rw[h2 p hp t ht,hM p t ht,hM p c (by omega)]
     by_cases e:p=i
     · subst e
       rw[if_neg (by omega),if_pos rfl,if_pos ⟨Nat.le_refl _,hic⟩]
     · rw[if_neg e,if_neg e]
       by_cases e2:i+1≤p∧p≠c
       · rw[if_pos e2,if_pos ⟨by omega,e2.2⟩]
       · rw[if_neg e2,if_neg (by omega)]
theorem qhc (rows:List (List Int)) (c:Int):∀(d p:Nat),p+d=rows.length→p≤slFind rows c d p∧slFind rows c d p≤rows.length∧(slFind rows c d p<rows.length→rd (rows.getD (slFind rows c d p) []) c≠0)
 |0,p,h=>by simp only[slFind];exact⟨Nat.le_refl _,by omega,fun h2=>by omega⟩
 | d +1,p,h=>by
   unfold slFind
   by_cases e:rd (rows.getD p []) c=0
   · rw[if_pos e]
     have:=qhc rows c d (p+1) (by omega)
     exact⟨by omega,this.2⟩
   · rw[if_neg e];exact⟨Nat.le_refl _,by omega,fun _=>e⟩
theorem qfw (rows:List (List Int)) (c:Int):∀(d p:Nat),p+d=rows.length→(∃q,p≤q∧q<rows.length∧rd (rows.getD q []) c≠0)→slFind rows c d p<rows.length
 |0,p,h,⟨q,h1,h2,_⟩=>by omega
 | d +1,p,h,⟨q,h1,h2,h3⟩=>by
   unfold slFind
   by_cases e:rd (rows.getD p []) c=0
   · rw[if_pos e]
     exact qfw rows c d (p+1) (by omega) ⟨q,by
      rcases Nat.eq_or_lt_of_le h1 with h4|h4
      · subst h4;exact absurd e h3
      · omega,h2,h3⟩
   · rw[if_neg e];omega
theorem qhd (n c:Nat) (hc:c<n) (rows:List (List Int)) (h:flR n (n+1) rows):EvP (fun k=>slStep k (n+1) c rows) (fun o=>(o=none∧¬ ∃p,c≤p∧p<n∧MG rows p c≠0)∨∃r,o=some r∧flR n (n+1) r∧∃p,c≤p∧Step n (n+1) c p (MG rows) (MG r)):=by
 obtain⟨f1,f2,f3⟩:=qhc rows (c:Int) (rows.length-c) c (by rw[h.n];omega)
 unfold slStep
 by_cases hlt:slFind rows (c:Int) (rows.length-c) c<rows.length
 · refine EvP.pos hlt ?_
   have f4:=f3 hlt
   obtain⟨p,hpe⟩:∃p,p=slFind rows (c:Int) (rows.length-c) c:=⟨_,rfl⟩
   rw[←hpe] at f1 f2 f4 hlt ⊢
   rw[h.n] at hlt
   rw[qah (qak h.b p)]
   have hne:co (rows.getD p []) c≠0:=fun e=>f4 (by rw[qah (qak h.b p),e];rfl)
   refine EvP.on (qnw hne) ?_
   refine EvP.next (qiy _ (rows.getD p []) (qak h.b p) (n+1) 0 [] (fun x hx=>by cases hx) rfl) ?_
   rintro y ⟨y1,y2,y3⟩
   have hQ:=(h.set hlt (qak h.b c) (h.l c hc)).set hc y1 (by omega)
   rw[show rows.length=n from h.n]
   refine EvP.next (qdt n c y y1 hc n 0 _ hQ (by omega)) ?_
   rintro q ⟨q1,q2⟩
   have hM:∀i,i<n→∀t,t<n+1→MG ((rows.set p (rows.getD c [])).set c y) i t=if i=c then co (rows.getD p []) t*(co (rows.getD p []) c).inv else if i=p then MG rows c t else MG rows i t:=by
    intro i hi t ht
    unfold MG
    rw[qbn (by rw[List.length_set,h.n];exact hc)]
    by_cases e:i=c
    · rw[if_pos e,if_pos e,y3 t (by omega),if_pos (Nat.zero_le _)]
    · rw[if_neg e,if_neg e,qbn (by rw[h.n];exact hlt)]
      by_cases e2:i=p
      · rw[if_pos e2,if_pos e2]
      · rw[if_neg e2,if_neg e2]
   refine EvP.now (Or.inr ⟨q,rfl,q1,p,f1,hc,hlt,by omega,hne,fun j hj=> ?_,fun i hi hic j hj=> ?_⟩)
   · rw[q2 c hc j hj,if_neg (fun z=>z.2 rfl),hM c hc j hj,if_pos rfl]
     rfl
   · have hyj:co y j=MG q c j:=by
      rw[q2 c hc j hj,if_neg (fun z=>z.2 rfl),hM c hc j hj,if_pos rfl,y3 j (by omega),if_pos (Nat.zero_le _)]
     rw[q2 i hi j hj,if_pos ⟨Nat.zero_le _,hic⟩,hM i hi j hj,hM i hi c (by omega),if_neg hic,if_neg hic,hyj]
 · refine EvP.neg hlt (EvP.now (Or.inl ⟨rfl,fun⟨p,h1,h2,h3⟩=>hlt (qfw rows (c:Int) (rows.length-c) c (by rw[h.n];omega) ⟨p,h1,by rw[h.n];exact h2,fun e=>h3 (by unfold MG co;rw[e];rfl)⟩)⟩))
theorem qfx (n:Nat):∀(d c:Nat) (rows:List (List Int)),c+d=n→flR n (n+1) rows→EvP (fun k=>slElim k (n+1) d c rows) (fun o=>∀r,o=some r→flR n (n+1) r)
 | 0,c,rows,hd,h=>by
   simp only[slElim]
   exact EvP.now (fun r e=>by injection e with e;exact e▸h)
 | d+1,c,rows,hd,h=>by
   simp only[slElim]
   refine EvP.next (qhd n c (by omega) rows h) ?_
   rintro o (⟨rfl,_⟩|⟨r,rfl,r1,_⟩)
   · exact EvP.now (fun r e=>by cases e)
   · exact qfx n d (c+1) r (by omega) r1
theorem qhe (n:Nat) (e:Nat→GF):∀(d c:Nat) (rows:List (List Int)),c+d=n→flR n (n+1) rows→Solv n n (MG rows) e→qbt n c (MG rows)→EvP (fun k=>slElim k (n+1) d c rows) (fun o=>∃r,o=some r∧flR n (n+1) r∧Solv n n (MG r) e∧qbt n n (MG r))
 | 0,c,rows,hd,h,hs,hu=>by
   simp only[slElim]
   exact EvP.now ⟨rows,rfl,h,hs,by rw[show n=c by omega] at hu ⊢;exact hu⟩
 | d+1,c,rows,hd,h,hs,hu=>by
   simp only[slElim]
   refine EvP.next (qhd n c (by omega) rows h) ?_
   rintro o (⟨rfl,hn⟩|⟨r,rfl,r1,p,r2,r3⟩)
   · exact absurd (hs.pivot (by omega) hu) hn
   · exact qhe n e d (c+1) r (by omega) r1 (hs.step r3) (r3.unit r2 hu)
theorem qja {n:Nat} {rows:List (List Int)} (h:flR n (n+1) rows) (hn:n≤1000):slIn rows=true:=by
 unfold slIn
 rw[Bool.and_eq_true,decide_eq_true_eq,List.all_eq_true]
 refine⟨by rw[h.n];exact hn,fun r hr=> ?_⟩
 rw[decide_eq_true_eq,h.n]
 obtain⟨i,hi,rfl⟩:=List.getElem_of_mem hr
 have:=h.l i (by rw[←h.n];exact hi)
 rwa[List.getD_eq_getElem?_getD,List.getElem?_eq_getElem hi] at this
theorem qhf (n:Nat) (hn:n≤1000) (rows:List (List Int)) (h:flR n (n+1) rows):EvP (fun k=>spec_l14Solve.f k rows) (fun r=>r.2=true→isB r.1∧r.1.length=n):=by
 unfold spec_l14Solve.f
 refine EvP.pos (qja h hn) ?_
 rw[h.n]
 refine EvP.next (qfx n n 0 rows (by omega) h) ?_
 intro o ho
 cases o with
 |none=>exact EvP.now (fun e=>by cases e)
 | some r=>
   have hr:=ho r rfl
   exact EvP.now (fun _=>⟨fun x hx=>by
    obtain⟨q,hq,rfl⟩:=List.mem_map.1 hx
    exact rd_B (hr.b q hq) _,by rw[show(slEnd n (some r)).1=r.map (fun r=>rd r (n:Int)) from rfl,List.length_map];exact hr.n⟩)
theorem qjb (n:Nat) (hn:n≤1000) (rows:List (List Int)) (h:flR n (n+1) rows) (e:Nat→GF) (hs:Solv n n (MG rows) e):EvP (fun k=>spec_l14Solve.f k rows) (fun r=>r.2=true∧isB r.1∧r.1.length=n∧∀i,i<n→co r.1 i=e i):=by
 unfold spec_l14Solve.f
 refine EvP.pos (qja h hn) ?_
 rw[h.n]
 refine EvP.next (qhe n e n 0 rows (by omega) h hs (fun i _ j hj=>by omega)) ?_
 rintro o ⟨r,rfl,r1,r2,r3⟩
 have hread:=r2.read r3
 refine EvP.now ⟨rfl,fun x hx=>by
  obtain⟨q,hq,rfl⟩:=List.mem_map.1 hx
  exact rd_B (r1.b q hq) _,by rw[show(slEnd n (some r)).1=r.map (fun r=>rd r (n:Int)) from rfl,List.length_map];exact r1.n,fun i hi=> ?_⟩
 have h1:=hread i hi
 rw[if_pos hi] at h1
 rw[←h1]
 show tG (rd (r.map fun r=>rd r (n:Int)) (i:Int))=co (r.getD i []) n
 have hir:i<r.length:=by rw[r1.n];exact hi
 rw[rd_nat,List.getD_eq_getElem?_getD,List.getElem?_map,List.getElem?_eq_getElem hir,List.getD_eq_getElem?_getD,List.getElem?_eq_getElem hir]
 rfl
theorem qnx (n:Nat):∀d i:Nat,i+d=n%255→Ev (fun k=>spec_l14Pow.l0 k (n:Int) ((gfP i:Nat):Int) (i:Int)) ((gfP (n%255):Nat):Int):=by
 have e:Int.tmod (n:Int) 255=((n%255:Nat):Int):=by rw[Int.tmod_eq_emod_of_nonneg (by omega)];omega
 intro d
 induction d with
 | zero=>
   intro i hi
   refine Ev.succ ?_
   simp only[spec_l14Pow.l0]
   rw[show i=n%255 by omega,e]
   exact Ev.neg (by omega) (Ev.some_ rfl)
 | succ d ih=>
   intro i hi
   refine Ev.succ ?_
   simp only[spec_l14Pow.l0]
   rw[w64_add (by omega) (by omega),e]
   exact Ev.pos (by omega) (Ev.next (qgs (gfP i) 2 (qdx i) (by omega)) (ih (i+1) (by omega)))
theorem qfb (n:Nat):Ev (fun k=>spec_l14Pow.f k (n:Int)) (iG (two.pw n)):=by
 have e:iG (two.pw n)=((gfP (n%255):Nat):Int):=by rw[←qfl,qco];rfl
 rw[e]
 exact qnx n (n%255) 0 (by omega)
def sigL (l:List Int) (n:Nat):List Int:=(List.range n).map (fun i=>iG (wval l (two.pw i)))
theorem qct (l:List Int) (n:Nat):(sigL l n).length=n:=by simp[sigL]
theorem qjc (l:List Int) (n:Nat):isB (sigL l n):=qij _ _
theorem qkg (l:List Int) (n k:Nat) (h:k<n):co (sigL l n) k=wval l (two.pw k):=qgv _ n k h
theorem qmf (l:List Int) (n:Nat):sigL l (n+1)=sigL l n++[iG (wval l (two.pw n))]:=by unfold sigL;rw[List.range_succ,List.map_append];rfl
def qaw (l:List Int) (n:Nat):Prop:=∀i,i<n→wval l (two.pw i)=0
theorem qpr (l:List Int) (h:isB l) (z:GF):hr z 0 (l.map tG)=wval l z:=GF.ext' (by
 have h1:=qgi z l 0 h
 have h2:=qch z l h
 rw[←h1]
 exact h2)
theorem qrb {x:Int} (h:0≤x∧x<256):wrap64 x=x:=w64 (by omega) (by omega)
theorem qhg {P:List Int×Bool→Prop} (l:List Int) (hl:l.length≤1000) (hb:isB l) (x1 x8:Int) (acc:List Int) (cl:Bool) (z v:GF)
 (H:EvP (fun k=>if cl=true then(if acc.length<17592186044416 then spec_l14Signs.l0 k l x1 (acc++[iG v]) (iG v==0) (wrap64 (x8+1)) else none) else(if acc.length<17592186044416 then spec_l14Signs.l0 k l x1 (acc++[iG v]) false (wrap64 (x8+1)) else none)) P):
 ∀(d i:Nat) (a:GF),i+d=l.length→hr z a ((l.drop i).map tG)=v→EvP (fun k=>spec_l14Signs.l1 k l x1 acc cl x8 (iG z) (iG a) (i:Int)) P
 | 0,i,a,hi,hv=>by
   rw[List.drop_of_length_le (by omega)] at hv
   have hv:a=v:=hv
   subst hv
   refine EvP.succ ?_
   simp only[spec_l14Signs.l1]
   exact EvP.neg (by omega) H
 | d+1,i,a,hi,hv=>by
   rw[drop_rd (show i<l.length by omega),List.map_cons] at hv
   have hv2:hr z (a*z+co l i) ((l.drop (i+1)).map tG)=v:=hv
   refine EvP.succ ?_
   simp only[spec_l14Signs.l1]
   refine EvP.pos (by omega) (EvP.on (qcc _ _) (EvP.pos (by omega) ?_))
   rw[qrb (rd_B hb _),qah hb,qcm,w64_add (by omega) (by omega)]
   exact qhg l hl hb x1 x8 acc cl z v H d (i+1) _ (by omega) hv2
theorem qhh (l:List Int) (hl:l.length≤1000) (hb:isB l) (M:Nat) (hM:M≤50):∀(d i:Nat) (cl:Bool),i+d=2*M→(cl=true↔qaw l i)→EvP (fun k=>spec_l14Signs.l0 k l (M:Int) (sigL l i) cl (i:Int)) (fun r=>r.1=sigL l (2*M)∧(r.2=true↔qaw l (2*M)))
 | 0,i,cl,hi,hc=>by
   refine EvP.succ ?_
   simp only[spec_l14Signs.l0]
   refine EvP.neg (by rw[w64 (by omega) (by omega)];omega) (EvP.now ⟨?_,?_⟩)
   · show sigL l i=sigL l (2*M)
     rw[show i=2*M by omega]
   · show(cl=true↔qaw l (2*M))
     rw[show 2*M=i by omega]
     exact hc
 | d +1,i,cl,hi,hc=>by
   refine EvP.succ ?_
   simp only[spec_l14Signs.l0]
   refine EvP.pos (by rw[w64 (by omega) (by omega)];omega) (EvP.on (qfb i) ?_)
   refine qhg l hl hb (M:Int) (i:Int) (sigL l i) cl (two.pw i) (wval l (two.pw i)) ?_ l.length 0 0 (by omega) (qpr l hb _)
   have hn:qaw l (i+1)↔qaw l i∧wval l (two.pw i)=0:=by
    constructor
    · exact fun h=>⟨fun j hj=>h j (by omega),h i (by omega)⟩
    · rintro⟨h1,h2⟩ j hj
      by_cases e:j=i
      · rw[e];exact h2
      · exact h1 j (by omega)
   have hrec:=fun cl2 h=>qhh l hl hb M hM d (i+1) cl2 (by omega) h
   rw[←qmf,w64_add (by omega) (by omega)]
   refine EvP.both (fun hcl=> ?_) (fun hcl=> ?_)
   · refine EvP.pos (by rw[qct];omega) (hrec _ ?_)
     rw[hn,beq_iff_eq,qas]
     exact⟨fun h=>⟨hc.1 hcl,h⟩,fun h=>h.2⟩
   · refine EvP.pos (by rw[qct];omega) (hrec _ ?_)
     rw[hn]
     exact⟨fun h=>(by cases h),fun h=>absurd (hc.2 h.1) hcl⟩
theorem qhi (l:List Int) (hl:l.length≤1000) (hb:isB l) (M:Nat) (hM:M≤50):EvP (fun k=>spec_l14Signs.f k l (M:Int)) (fun r=>r.1=sigL l (2*M)∧(r.2=true↔qaw l (2*M))):=
 qhh l hl hb M hM (2*M) 0 true (by omega) ⟨fun _ i hi=>by omega,fun _=>rfl⟩
theorem qle (n:Nat) (f:Nat→GF):GF.S (n+1) f=GF.S (n+1) (fun i=>f (n-i)):=by
 induction n generalizing f with
 |zero=>rfl
 | succ n ih=>
   rw[qgg f (n+1),ih (fun i=>f (i+1))]
   show _=GF.S (n+1) (fun i=>f (n+1-i))+f (n+1-(n+1))
   rw[GF.add_comm,Nat.sub_self]
   congr 1
   exact qab _ (fun i hi=>by rw[show n-i+1=n+1-i by omega])
theorem qps (v:Nat) (X y:Nat→GF) (hX:∀i j,i<v→j<v→X i=X j→i=j) (h:∀j,j<v→GF.S v (fun k=>y k*(X j).pw k)=0):∀k,k<v→y k=0:=by
 intro k hk
 obtain⟨n,rfl⟩:∃n,v=n+1:=⟨v-1,by omega⟩
 have h2:=qdn (n+1) (cl (fun i=>y (n-i)) (n+1)) X (qib _ _) hX (fun i hi=>by
  rw[qhs]
  unfold val
  rw[←h i hi,qle n (fun k=>y k*(X i).pw k)]) (y (n-(n-k))) (qic (fun i=>y (n-i)) (n+1) (n-k) (by omega))
 rwa[show n-(n-k)=k by omega] at h2
theorem qhj (X:Nat→GF) (z:GF):∀t,qcx X z t=0→∃j,j<t∧z=X j
 |0,h=>absurd h GF.one_ne
 | t +1,h=>by
   have h:qcx X z t*(z+X t)=0:=h
   by_cases e:z+X t=0
   · exact⟨t,by omega,GF.add_eq_zero e⟩
   · rw[GF.mul_comm] at h
     obtain⟨j,hj,e2⟩:=qhj X z t (GF.mul_eq_zero h e)
     exact⟨j,by omega,e2⟩
def qcj (S:List Int) (v i:Nat):List Int:=(List.range v).map (fun k=>rd S ((i+k:Nat):Int))++[rd S ((i+v:Nat):Int)]
def qap (S:List Int) (v n:Nat):List (List Int):=(List.range n).map (qcj S v)
theorem qmg (S:List Int) (v i:Nat):(qcj S v i).length=v+1:=by simp[qcj]
theorem qhk (S:List Int) (v n:Nat):(qap S v n).length=n:=by simp[qap]
theorem qlf (S:List Int) (v n:Nat):qap S v (n+1)=qap S v n++[qcj S v n]:=by unfold qap;rw[List.range_succ,List.map_append];rfl
theorem qkh {P:List Int×Bool→Prop} (S:List Int) (v n i:Nat) (rows:List (List Int)) (hi:i<v) (hS:2*v≤S.length) (hv:v≤100) (hr:rows.length≤1000)
 (H:EvP (fun k=>spec_l14Places.l0 k S (v:Int) (n:Int) (rows++[qcj S v i]) ((i+1:Nat):Int)) P):
 ∀(d j:Nat),j+d=v→EvP (fun k=>spec_l14Places.l1 k S (v:Int) (n:Int) rows (i:Int) ((List.range j).map (fun k=>rd S ((i+k:Nat):Int))) (j:Int)) P
 | 0,j,hj=>by
   have e:wrap64 ((i:Int)+(v:Int))=((i+v:Nat):Int):=by rw[w64 (by omega) (by omega)];omega
   refine EvP.succ ?_
   simp only[spec_l14Places.l1]
   rw[e,show j=v by omega,w64_add (i:=(i:Int)) (by omega) (by omega)]
   refine EvP.neg (by omega) (EvP.pos (by omega) (EvP.pos (by omega) (EvP.pos (by simp;omega) (EvP.pos (by omega) H))))
 | d+1,j,hj=>by
   have e:wrap64 ((i:Int)+(j:Int))=((i+j:Nat):Int):=by rw[w64 (by omega) (by omega)];omega
   refine EvP.succ ?_
   simp only[spec_l14Places.l1]
   rw[e,w64_add (i:=(j:Int)) (by omega) (by omega)]
   refine EvP.pos (by omega) (EvP.pos (by omega) (EvP.pos (by omega) (EvP.pos (by simp;omega) ?_)))
   have:=qkh S v n i rows hi hS hv hr H d (j+1) (by omega)
   rw[List.range_succ,List.map_append] at this
   exact this
theorem qgm {P:List Int×Bool→Prop} (S:List Int) (v n:Nat) (hS:2*v≤S.length) (hv:v≤100)
 (H:EvP (fun k=>(spec_l14Solve.f k (qap S v v)).bind fun bt357=>(if bt357.2=true then(spec_l14Places.l2 k (v:Int) (n:Int) bt357.1 (([]:List Int)) 0) else(some ((([]:List Int)),false)))) P):
 ∀(d i:Nat),i+d=v→EvP (fun k=>spec_l14Places.l0 k S (v:Int) (n:Int) (qap S v i) (i:Int)) P
 | 0,i,hi=>by
   refine EvP.succ ?_
   simp only[spec_l14Places.l0]
   rw[show i=v by omega]
   exact EvP.neg (by omega) H
 | d+1,i,hi=>by
   refine EvP.succ ?_
   simp only[spec_l14Places.l0]
   refine EvP.pos (by omega) ?_
   refine qkh S v n i (qap S v i) (by omega) hS hv (by rw[qhk];omega) ?_ v 0 (by omega)
   rw[←qlf]
   exact qgm S v n hS hv H d (i+1) (by omega)
def qfy (loc:List Int) (v:Nat) (x:GF):GF:=GF.S v (fun k=>co loc k*x.pw k)+x.pw v
theorem qpt {P:List Int×Bool→Prop} (loc:List Int) (hb:isB loc) (v n:Nat) (hl:loc.length=v) (hv:v≤100) (pl:List Int) (x15:Int) (x w:GF)
 (H:EvP (fun k=>if iG w=0 then(if pl.length<17592186044416 then spec_l14Places.l2 k (v:Int) (n:Int) loc (pl++[x15]) (wrap64 (x15+1)) else none) else spec_l14Places.l2 k (v:Int) (n:Int) loc pl (wrap64 (x15+1))) P):
 ∀(d:Nat) (a:GF),d≤v→a*x.pw d+GF.S d (fun k=>co loc k*x.pw k)=w→EvP (fun k=>spec_l14Places.l3 k (v:Int) (n:Int) loc pl x15 (iG x) (iG a) ((d:Int)-1)) P:=by
 intro d
 induction d with
 | zero=>
   intro a hd hw
   have e:a=w:=by
    rw[←hw]
    simp only[GF.pw,GF.S]
    rw[GF.mul_one,GF.add_zero]
   subst e
   refine EvP.succ ?_
   simp only[spec_l14Places.l3]
   exact EvP.neg (by omega) H
 | succ d ih=>
   intro a hd hw
   have e1:(((d+1:Nat):Int)-1)=(d:Int):=by omega
   have e2:wrap64 ((d:Int)-1)=(d:Int)-1:=w64 (by omega) (by omega)
   have e3:(a*x+co loc d)*x.pw d+GF.S d (fun k=>co loc k*x.pw k)=w:=by
    rw[←hw]
    simp only[GF.pw,GF.S]
    rw[GF.add_mul,GF.mul_assoc,GF.mul_comm x,GF.add_assoc,GF.add_comm (co loc d*x.pw d)]
   rw[e1]
   refine EvP.succ ?_
   simp only[spec_l14Places.l3]
   rw[e2,qah hb]
   refine EvP.pos (by omega) (EvP.on (qcc _ _) (EvP.pos (by omega) (EvP.pos (by omega) ?_)))
   rw[qcm]
   exact ih _ (by omega) e3
def qbf (loc:List Int) (v n g:Nat):Bool:=(qfy loc v (two.pw (n-1-g))).v==0
theorem qeg (loc:List Int) (v n g:Nat):qbf loc v n g=true↔qfy loc v (two.pw (n-1-g))=0:=by
 unfold qbf
 rw[beq_iff_eq]
 exact⟨fun h=>GF.ext' h,fun h=>by rw[h];rfl⟩
theorem qdc (p:Nat→Bool):∀n,(pick p n).length≤n
 |0=>Nat.le_refl _
 | n+1=>by
   have:=qdc p n
   unfold pick
   split
   · simp;omega
   · omega
theorem qlg (a:List Nat) (g:Nat):qaa (a++[g])=qaa a++[(g:Int)]:=by simp[qaa]
theorem qal (a:List Nat):(qaa a).length=a.length:=by simp[qaa]
theorem qgn (loc:List Int) (hb:isB loc) (v n:Nat) (hl:loc.length=v) (hv:v≤100) (hn:n≤255):
 ∀(d i:Nat),i+d=n→EvP (fun k=>spec_l14Places.l2 k (v:Int) (n:Int) loc (qaa (pick (qbf loc v n) i)) (i:Int)) (fun r=>r=(qaa (pick (qbf loc v n) n),decide ((pick (qbf loc v n) n).length=v)))
 | 0,i,hi=>by
   refine EvP.succ ?_
   simp only[spec_l14Places.l2]
   rw[show i=n by omega,qal]
   refine EvP.neg (by omega) (EvP.now ?_)
   congr 1
   rw[Bool.eq_iff_iff,beq_iff_eq,decide_eq_true_eq]
   omega
 | d +1,i,hi=>by
   have e1:wrap64 (wrap64 ((n:Int)-1)-(i:Int))=((n-1-i:Nat):Int):=by
    rw[w64 (n:=(n:Int)-1) (by omega) (by omega),w64 (by omega) (by omega)];omega
   refine EvP.succ ?_
   simp only[spec_l14Places.l2]
   rw[e1]
   refine EvP.pos (by omega) (EvP.on (qfb _) ?_)
   rw[w64 (n:=(v:Int)-1) (by omega) (by omega)]
   refine qpt loc hb v n hl hv _ (i:Int) (two.pw (n-1-i)) (qfy loc v (two.pw (n-1-i))) ?_ v 1 (Nat.le_refl _) (by rw[GF.one_mul,GF.add_comm];rfl)
   rw[w64_add (by omega) (by omega)]
   have hrec:=qgn loc hb v n hl hv hn d (i+1) (by omega)
   have hpl:=qdc (qbf loc v n) i
   refine EvP.both (fun h=> ?_) (fun h=> ?_)
   · rw[qas] at h
     refine EvP.pos (by rw[qal];omega) ?_
     have hp:pick (qbf loc v n) (i+1)=pick (qbf loc v n) i++[i]:=by
      rw[pick,if_pos ((qeg _ _ _ _).2 h)]
     rw[hp,qlg] at hrec
     exact hrec
   · rw[qas] at h
     have hp:pick (qbf loc v n) (i+1)=pick (qbf loc v n) i:=by
      rw[pick,if_neg (fun e=>h ((qeg _ _ _ _).1 e))]
     rw[hp] at hrec
     exact hrec
theorem qjd (S:List Int) (hS:isB S) (v:Nat):flR v (v+1) (qap S v v) where
 n:=qhk S v v
 b :=fun r hr=>by
   obtain⟨i,_,rfl⟩:=List.mem_map.1 hr
   refine qbv (fun x hx=> ?_) (fun x hx=> ?_)
   · obtain⟨k,_,rfl⟩:=List.mem_map.1 hx
     exact rd_B hS _
   · rw[List.mem_singleton.1 hx];exact rd_B hS _
 l :=fun i hi=>by
   unfold qap
   rw[List.getD_eq_getElem?_getD,List.getElem?_map,List.getElem?_range hi]
   exact qmg S v i
theorem qki (S:List Int) (v i j:Nat) (hi:i<v) (hj:j≤v):MG (qap S v v) i j=co S (i+j):=by
 unfold MG qap
 rw[List.getD_eq_getElem?_getD,List.getElem?_map,List.getElem?_range hi]
 show co (qcj S v i) j=co S (i+j)
 unfold co qcj
 rw[qdy]
 by_cases h:j<v
 · rw[if_pos (by simpa using h),rd_nat,List.getD_eq_getElem?_getD,List.getElem?_map,List.getElem?_range h]
   rfl
 · have:j=v:=by omega
   subst this
   rw[if_neg (by simp)]
   simp only[List.length_map,List.length_range,Nat.sub_self]
   rfl
theorem qlh (S:List Int) (hS:isB S) (v n:Nat) (hv:1≤v∧v≤8) (hl:2*v≤S.length) (hn:n≤255):EvP (fun k=>spec_l14Places.f k S (v:Int) (n:Int)) (fun r=>r.2=true→∃p,r.1=qaa (pick p n)∧(pick p n).length=v):=by
 refine qgm S v n hl (by omega) ?_ v 0 (by omega)
 refine EvP.next (qhf v (by omega) _ (qjd S hS v)) ?_
 rintro⟨loc,b⟩ h
 cases b with
 |false=>exact EvP.neg (by simp) (EvP.now (fun e=>by cases e))
 | true=>
   obtain⟨h1,h2⟩:=h rfl
   refine EvP.pos rfl (EvP.mono (qgn loc h1 v n h2 (by omega) hn n 0 (by omega)) ?_)
   rintro r rfl e
   exact⟨_,rfl,of_decide_eq_true e⟩
theorem qmh (S:List Int) (hS:isB S) (v n:Nat) (hv:1≤v∧v≤8) (hl:2*v≤S.length) (hn:n≤255) (e:Nat→GF) (gs:Nat→Nat) (p:Nat→Bool)
 (hp:∀g,g<n→(p g=true↔∃j,j<v∧gs j=g)) (hg:∀j,j<v→gs j<n) (hgi:∀i j,i<v→j<v→gs i=gs j→i=j) (he:∀j,j<v→e j≠0)
 (hs:∀k,k<2*v→co S k=GF.S v (fun j=>e j*(two.pw (n-1-gs j)).pw k)) (hpl:(pick p n).length=v):
 EvP (fun k=>spec_l14Places.f k S (v:Int) (n:Int)) (fun r=>r=(qaa (pick p n),true)):=by
 have hXi:∀i j,i<v→j<v→two.pw (n-1-gs i)=two.pw (n-1-gs j)→i=j:=fun i j hi hj h=>by
  have h1:=hg i hi
  have h2:=hg j hj
  have:=qbp (by omega) (by omega) h
  exact hgi i j hi hj (by omega)
 have hX0:∀i,i<v→val (lam (fun j=>two.pw (n-1-gs j)) v) v (two.pw (n-1-gs i))=0:=fun i hi=>by
  rw[qek]
  exact qcy _ _ _ i hi rfl
 have hsolv:Solv v v (MG (qap S v v)) (fun k=>lam (fun j=>two.pw (n-1-gs j)) v (v-k)):=by
  refine⟨fun i hi=> ?_,fun y h0 hk=> ?_⟩
  · have h1:GF.S (v+1) (fun j=>co S (i+j)*lam (fun j=>two.pw (n-1-gs j)) v (v-j))=0:=by
     have h2:conv (lam (fun j=>two.pw (n-1-gs j)) v) (co S) v (i+v)=0:=by
      rw[qda _ _ e (fun j=>two.pw (n-1-gs j)) v v (i+v) (by omega) (fun q hq=>hs q (by omega))]
      rw[qab (g:=fun _=>0) v (fun j hj=>by rw[hX0 j hj,GF.mul_zero,GF.zero_mul]),qbr]
     rw[←h2]
     unfold conv
     rw[qle v]
     exact qab _ (fun j hj=>by rw[GF.mul_comm,show v-(v-j)=j by omega,show i+(v-j)=i+v-j by omega])
    rw[←h1]
    show GF.S (v+1) _=GF.S (v+1) _
    refine qab _ (fun j hj=> ?_)
    rw[qki S v i j hi (by omega)]
    show co S (i+j)*(if j<v then lam (fun j=>two.pw (n-1-gs j)) v (v-j) else 1)=_
    by_cases h:j<v
    · rw[if_pos h]
    · rw[if_neg h,show v-j=0 by omega,qdo]
  · have h1:∀i,i<v→GF.S v (fun j=>(e j*GF.S v (fun k=>y k*(two.pw (n-1-gs j)).pw k))*(two.pw (n-1-gs j)).pw i)=0:=fun i hi=>by
     have h2:=hk i hi
     have h3:GF.S v (fun k=>MG (qap S v v) i k*y k)+MG (qap S v v) i v*y v=0:=h2
     rw[h0,GF.mul_zero,GF.add_zero] at h3
     have h5:GF.S v (fun k=>MG (qap S v v) i k*y k)=GF.S v (fun k=>GF.S v (fun j=>e j*(two.pw (n-1-gs j)).pw (i+k)*y k)):=qab v (fun k hk2=>by
      rw[qki S v i k hi (by omega),hs (i+k) (by omega),qdf])
     rw[h5,qfh] at h3
     rw[←h3]
     refine qab _ (fun j hj=> ?_)
     rw[GF.mul_assoc,←qdf,←qba]
     refine qab _ (fun k hk2=> ?_)
     rw[qce,GF.mul_comm (y k),GF.mul_assoc,GF.mul_assoc,GF.mul_assoc,GF.mul_comm (y k),←GF.mul_assoc ((two.pw (n-1-gs j)).pw k),GF.mul_comm ((two.pw (n-1-gs j)).pw k),GF.mul_assoc]
    have h4:=qcg v (fun j=>two.pw (n-1-gs j)) _ hXi h1
    have h5:∀j,j<v→GF.S v (fun k=>y k*(two.pw (n-1-gs j)).pw k)=0:=fun j hj=>GF.mul_eq_zero (h4 j hj) (he j hj)
    exact qps v (fun j=>two.pw (n-1-gs j)) y hXi h5
 refine qgm S v n hl (by omega) ?_ v 0 (by omega)
 refine EvP.next (qjb v (by omega) _ (qjd S hS v) _ hsolv) ?_
 rintro⟨loc,b⟩ ⟨h1,h2,h3,h4⟩
 have h1:b=true:=h1
 subst h1
 refine EvP.pos rfl (EvP.mono (qgn loc h2 v n h3 (by omega) hn n 0 (by omega)) ?_)
 rintro r rfl
 have hroot:∀x,qfy loc v x=qcx (fun j=>two.pw (n-1-gs j)) x v:=fun x=>by
  rw[←qek]
  unfold val qfy
  rw[qle v]
  show _=GF.S v _+_
  rw[qab (g:=fun k=>lam (fun j=>two.pw (n-1-gs j)) v (v-k)*x.pw (v-(v-k))) v (fun k hk=>by rw[show co loc k=_ from h4 k hk,show v-(v-k)=k by omega])]
  show _+x.pw v=_+lam (fun j=>two.pw (n-1-gs j)) v (v-v)*x.pw (v-(v-v))
  rw[Nat.sub_self,qdo,GF.one_mul,Nat.sub_zero]
 have hpk:pick (qbf loc v n) n=pick p n:=qdr n (fun g hg2=>by
  rw[Bool.eq_iff_iff,qeg,hroot,hp g hg2]
  constructor
  · intro h
    obtain⟨j,hj,e2⟩:=qhj _ _ v h
    refine⟨j,hj,?_⟩
    have:=hg j hj
    have:=qbp (by omega) (by omega) e2
    omega
  · rintro⟨j,hj,rfl⟩
    exact qcy _ _ v j hj rfl)
 rw[hpk,hpl]
 simp
theorem xor8 (a b:GF):Go.bits .xor .u8 (iG a) (iG b%256)=iG (a+b):=by
 have h:=qis a b
 have hb:=qar b
 rw[show IntKind.u8.wrap (iG b)=iG b%256 by rw[IntKind.wrap_u8]] at h
 exact h
theorem qkj (pl:List Nat) (i:Nat) (h:i<pl.length):rd (qaa pl) (i:Int)=((pl.getD i 0:Nat):Int):=by
 rw[rd_nat,List.getD_eq_getElem?_getD,List.getD_eq_getElem?_getD]
 unfold qaa
 rw[List.getElem?_map,List.getElem?_eq_getElem h]
 rfl
theorem qbg {pl:List Nat} {i:Nat} (h:i<pl.length):pl.getD i 0∈pl:=by
 rw[List.getD_eq_getElem?_getD,List.getElem?_eq_getElem h];exact List.getElem_mem h
theorem qpu {P:List Int×Bool→Prop} (V:List Int) (hV:V.length≤255) (pl:List Nat) (hpl:pl.length≤8) (hg:∀g∈pl,g<V.length) (m:Nat) (hm:1≤m∧m≤50) (M:Int) (out:List Int) (rows:List (List Int)) (hr:rows.length≤1000) (j:Nat) (hj:j<pl.length) (hjm:j<m)
 (H:EvP (fun k=>spec_l14Put.l0 k V (sigL V m) (qaa pl) M out (rows++[qai V pl j]) ((j+1:Nat):Int)) P):
 ∀(d t:Nat),t+d=pl.length→EvP (fun k=>spec_l14Put.l1 k V (sigL V m) (qaa pl) M out rows (j:Int) ((pl.take t).map (fun g=>iG (two.pw ((V.length-1-g)*j)))) (t:Int)) P:=by
 intro d
 induction d with
 | zero=>
   intro t ht
   refine EvP.succ ?_
   simp only[spec_l14Put.l1]
   rw[qal,List.take_of_length_le (by omega),qct,w64_add (i:=(j:Int)) (by omega) (by omega)]
   refine EvP.neg (by omega) (EvP.pos (by omega) (EvP.pos (by omega) (EvP.pos (by rw[List.length_map];omega) (EvP.pos (by omega) ?_))))
   rw[show rd (sigL V m) (j:Int)=iG (wval V (two.pw j)) by rw[qah (qjc V m),qkg V m j hjm]]
   exact H
 | succ d ih=>
   intro t ht
   have htl:t<pl.length:=by omega
   have hgt:=hg _ (qbg htl)
   have hmul:j*(V.length-1-pl.getD t 0)≤8*254:=Nat.mul_le_mul (by omega) (by omega)
   have e1:wrap64 (wrap64 ((V.length:Int)-1)-((pl.getD t 0:Nat):Int))=((V.length-1-pl.getD t 0:Nat):Int):=by
    rw[w64 (n:=(V.length:Int)-1) (by omega) (by omega),w64 (by omega) (by omega)];omega
   have e2:wrap64 ((j:Int)*((V.length-1-pl.getD t 0:Nat):Int))=(((V.length-1-pl.getD t 0)*j:Nat):Int):=by
    rw[←Int.natCast_mul,w64 (by omega) (by omega),Nat.mul_comm]
   refine EvP.succ ?_
   simp only[spec_l14Put.l1]
   rw[qal,qkj pl t htl,e1,e2,w64_add (i:=(t:Int)) (by omega) (by omega)]
   refine EvP.pos (by omega) (EvP.pos (by omega) (EvP.on (qfb _) (EvP.pos (by rw[List.length_map,List.length_take];omega) ?_)))
   have h1:=ih (t+1) (by omega)
   have e3:pl.take (t+1)=pl.take t++[pl.getD t 0]:=by
    rw[List.getD_eq_getElem?_getD,List.getElem?_eq_getElem htl]
    exact(List.take_append_getElem htl).symm
   rw[e3,List.map_append] at h1
   exact h1
theorem qpv {P:List Int×Bool→Prop} (V:List Int) (hV:V.length≤255) (pl:List Nat) (hpl:pl.length≤8) (hg:∀g∈pl,g<V.length) (m:Nat) (hm:1≤m∧m≤50) (hpm:pl.length≤m) (M:Int) (out:List Int)
 (H:EvP (fun k=>(spec_l14Solve.f k ((List.range pl.length).map (qai V pl))).bind fun bt397=>(if bt397.2=true then(spec_l14Put.l2 k (qaa pl) M out bt397.1 0) else(some ((([]:List Int)),false)))) P):
 ∀(d j:Nat),j+d=pl.length→EvP (fun k=>spec_l14Put.l0 k V (sigL V m) (qaa pl) M out ((List.range j).map (qai V pl)) (j:Int)) P:=by
 intro d
 induction d with
 | zero=>
   intro j hj
   refine EvP.succ ?_
   simp only[spec_l14Put.l0]
   rw[qal,show j=pl.length by omega]
   exact EvP.neg (by omega) H
 | succ d ih=>
   intro j hj
   refine EvP.succ ?_
   simp only[spec_l14Put.l0]
   rw[qal]
   refine EvP.pos (by omega) ?_
   refine qpu V hV pl hpl hg m hm M out _ (by simp;omega) j (by omega) (by omega) ?_ pl.length 0 (by omega)
   have h1:=ih (j+1) (by omega)
   rw[List.range_succ,List.map_append] at h1
   exact h1
structure PutOut (V sol:List Int) (pl:List Nat) (M:Nat) (r:List Int×Bool):Prop where
 b:isB r.1
 l:r.1.length=V.length
 far:∀q,q∉pl→co r.1 q=co V q
 at_:∀j,j<pl.length→co r.1 (pl.getD j 0)=co V (pl.getD j 0)+co sol j
 cl:r.2=true↔qaw r.1 (2*M)
theorem qkk (V sol:List Int) (hV:V.length≤255) (hs:isB sol) (pl:List Nat) (hpl:pl.length≤8) (hsl:sol.length=pl.length) (hg:∀g∈pl,g<V.length) (hd:∀i j,i<pl.length→j<pl.length→pl.getD i 0=pl.getD j 0→i=j) (M:Nat) (hM:M≤50):
 ∀(d i:Nat) (out:List Int),i+d=pl.length→isB out→out.length=V.length→(∀q,(∀j,j<i→pl.getD j 0≠q)→co out q=co V q)→(∀j,j<i→co out (pl.getD j 0)=co V (pl.getD j 0)+co sol j)→EvP (fun k=>spec_l14Put.l2 k (qaa pl) (M:Int) out sol (i:Int)) (PutOut V sol pl M):=by
 intro d
 induction d with
 | zero=>
   intro i out hi hb hl h1 h2
   refine EvP.succ ?_
   simp only[spec_l14Put.l2]
   rw[qal]
   refine EvP.neg (by omega) (EvP.next (qhi out (by omega) hb M hM) ?_)
   rintro r ⟨_,hr⟩
   refine EvP.now ⟨hb,hl,fun q hq=>h1 q (fun j hj e=>hq (e▸qbg (by omega))),fun j hj=>h2 j (by omega),hr⟩
 | succ d ih=>
   intro i out hi hb hl h1 h2
   have hil:i<pl.length:=by omega
   have hgi:=hg _ (qbg hil)
   have hfresh:∀j,j<i→pl.getD j 0≠pl.getD i 0:=fun j hj e=>by have:=hd j i (by omega) hil e;omega
   refine EvP.succ ?_
   simp only[spec_l14Put.l2]
   rw[qal,qkj pl i hil,w64_add (i:=(i:Int)) (by omega) (by omega),Int.toNat_natCast]
   refine EvP.pos (by omega) (EvP.pos (by omega) (EvP.pos (by omega) (EvP.pos (by omega) (EvP.pos (by omega) ?_))))
   rw[qah hb,qah hs,xor8]
   refine ih (i+1) _ (by omega) (qck hb (qar _) _) (by rw[List.length_set];exact hl) (fun q hq=> ?_) (fun j hj=> ?_)
   · rw[qcn (by omega),if_neg (fun e=>hq i (by omega) e.symm)]
     exact h1 q (fun j hj=>hq j (by omega))
   · rw[qcn (by omega),qbu]
     by_cases e:j=i
     · rw[e,if_pos rfl,h1 _ hfresh]
     · rw[if_neg (hfresh j (by omega))]
       exact h2 j (by omega)
theorem qfc (V:List Int) (pl:List Nat) (n:Nat):flR n (pl.length+1) ((List.range n).map (qai V pl)) where
 n:=by simp
 b:=fun r hr=>by obtain⟨i,_,rfl⟩:=List.mem_map.1 hr;exact qke _ _ _
 l :=fun i hi=>by
   simp only[List.getD_eq_getElem?_getD,List.getElem?_map,List.getElem?_range hi,Option.map_some,Option.getD_some]
   simp[qai]
theorem qen (V:List Int) (pl:List Nat) (n i j:Nat) (hi:i<n) (hj:j≤pl.length):MG ((List.range n).map (qai V pl)) i j=if j<pl.length then(two.pw (V.length-1-pl.getD j 0)).pw i else wval V (two.pw i):=by
 unfold MG
 simp only[List.getD_eq_getElem?_getD,List.getElem?_map,List.getElem?_range hi,Option.map_some,Option.getD_some]
 have:=qiq V pl i j hj
 rw[List.getD_eq_getElem?_getD] at this
 exact this
theorem qmi {P:List Int×Bool→Prop} (V:List Int) (hV:V.length≤255) (pl:List Nat) (hp1:1≤pl.length∧pl.length≤8) (hg:∀g∈pl,g<V.length) (m:Nat) (hm:1≤m∧m≤50) (hpm:pl.length≤m) (M:Int)
 (H:EvP (fun k=>(spec_l14Solve.f k ((List.range pl.length).map (qai V pl))).bind fun bt397=>(if bt397.2=true then(spec_l14Put.l2 k (qaa pl) M V bt397.1 0) else(some ((([]:List Int)),false)))) P):
 EvP (fun k=>spec_l14Put.f k V (sigL V m) (qaa pl) M) P:=by
 unfold spec_l14Put.f
 refine EvP.on (Ev.some_ rfl) (EvP.pos (by simp;omega) (EvP.on (Ev.some_ rfl) (EvP.pos (by rw[qal];omega) ?_)))
 rw[List.nil_append]
 exact qpv V hV pl hp1.2 hg m hm hpm M V H pl.length 0 (by omega)
theorem qny (V:List Int) (hV:V.length≤255) (hb:isB V) (pl:List Nat) (hp1:1≤pl.length∧pl.length≤8) (hg:∀g∈pl,g<V.length) (hd:∀i j,i<pl.length→j<pl.length→pl.getD i 0=pl.getD j 0→i=j) (m:Nat) (hm:1≤m∧m≤50) (hpm:pl.length≤m) (M:Nat) (hM:M≤50):
 EvP (fun k=>spec_l14Put.f k V (sigL V m) (qaa pl) (M:Int)) (fun r=>r.2=true→isB r.1∧r.1.length=V.length∧qaw r.1 (2*M)∧∀q,q∉pl→co r.1 q=co V q):=by
 refine qmi V hV pl hp1 hg m hm hpm (M:Int) ?_
 refine EvP.next (qhf pl.length (by omega) _ (qfc V pl pl.length)) ?_
 rintro⟨sol,b⟩ h
 cases b with
 |false=>exact EvP.neg (by simp) (EvP.now (fun e=>by cases e))
 | true=>
   obtain⟨h1,h2⟩:=h rfl
   refine EvP.pos rfl (EvP.mono (qkk V sol hV h1 pl hp1.2 h2 hg hd M hM pl.length 0 V (by omega) hb rfl (fun q _=>rfl) (fun j hj=>by omega)) ?_)
   exact fun r hr e=>⟨hr.b,hr.l,hr.cl.1 e,hr.far⟩
theorem qpw (V:List Int) (hV:V.length≤255) (hb:isB V) (pl:List Nat) (hp1:1≤pl.length∧pl.length≤8) (hg:∀g∈pl,g<V.length) (hd:∀i j,i<pl.length→j<pl.length→pl.getD i 0=pl.getD j 0→i=j) (m:Nat) (hm:1≤m∧m≤50) (hpm:pl.length≤m) (M:Nat) (hM:M≤50)
 (e:Nat→GF) (hs:∀k,k<pl.length→wval V (two.pw k)=GF.S pl.length (fun j=>e j*(two.pw (V.length-1-pl.getD j 0)).pw k)):
 EvP (fun k=>spec_l14Put.f k V (sigL V m) (qaa pl) (M:Int)) (fun r=>isB r.1∧r.1.length=V.length∧(r.2=true↔qaw r.1 (2*M))∧(∀q,q∉pl→co r.1 q=co V q)∧∀j,j<pl.length→co r.1 (pl.getD j 0)=co V (pl.getD j 0)+e j):=by
 have hXi:∀i j,i<pl.length→j<pl.length→two.pw (V.length-1-pl.getD i 0)=two.pw (V.length-1-pl.getD j 0)→i=j:=fun i j hi hj h=>by
  have h1:=hg _ (qbg hi)
  have h2:=hg _ (qbg hj)
  have:=qbp (by omega) (by omega) h
  exact hd i j hi hj (by omega)
 have hsolv:Solv pl.length pl.length (MG ((List.range pl.length).map (qai V pl))) e:=by
  refine⟨fun i hi=> ?_,fun y h0 hk=> ?_⟩
  · show GF.S pl.length (fun j=>MG _ i j*(if j<pl.length then e j else 1))+MG _ i pl.length*(if pl.length<pl.length then _ else 1)=0
    rw[if_neg (Nat.lt_irrefl _),GF.mul_one,qen V pl _ i _ hi (Nat.le_refl _),if_neg (Nat.lt_irrefl _),hs i hi]
    rw[qab (g:=fun j=>e j*(two.pw (V.length-1-pl.getD j 0)).pw i) _ (fun j hj=>by
     rw[qen V pl _ i j hi (by omega),if_pos hj,if_pos hj,GF.mul_comm])]
    exact GF.add_self _
  · refine qcg pl.length (fun j=>two.pw (V.length-1-pl.getD j 0)) y hXi (fun i hi=> ?_)
    have h1:=hk i hi
    have h2:GF.S pl.length (fun j=>MG ((List.range pl.length).map (qai V pl)) i j*y j)+MG ((List.range pl.length).map (qai V pl)) i pl.length*y pl.length=0:=h1
    rw[h0,GF.mul_zero,GF.add_zero] at h2
    rw[←h2]
    exact qab _ (fun j hj=>by rw[qen V pl _ i j hi (by omega),if_pos hj,GF.mul_comm])
 refine qmi V hV pl hp1 hg m hm hpm (M:Int) ?_
 refine EvP.next (qjb pl.length (by omega) _ (qfc V pl pl.length) e hsolv) ?_
 rintro⟨sol,b⟩ ⟨h1,h2,h3,h4⟩
 have h1:b=true:=h1
 subst h1
 refine EvP.pos rfl (EvP.mono (qkk V sol hV h2 pl hp1.2 h3 hg hd M hM pl.length 0 V (by omega) hb rfl (fun q _=>rfl) (fun j hj=>by omega)) ?_)
 exact fun r hr=>⟨hr.b,hr.l,hr.cl,hr.far,fun j hj=>by rw[hr.at_ j hj];congr 1;exact h4 j hj⟩
def Near (V:List Int) (M:Nat) (W:List Int):Prop:=isB W∧W.length=V.length∧qaw W (2*M)∧(difs V W).length≤M
def qgo (V:List Int) (M:Nat) (r:List Int×Int×Bool):Prop:=(r=([],0,false)∧¬ ∃W,Near V M W)∨∃W,Near V M W∧r=(W,((difs V W).length:Int),true)
theorem qli {W:List Int} (hW:isB W) {n:Nat} (h:qaw W n):∀i,i<n→horn (gfP i) 0 W=0:=fun i hi=>by
 rw[qco,qch _ _ hW,h i hi];rfl
theorem qdv {p q:Nat→Bool}:∀n,(∀g,g<n→q g=true→p g=true)→(pick q n).length≤(pick p n).length
 |0,_=>Nat.le_refl _
 | n +1,h=>by
   have ih:=qdv n (fun g hg=>h g (by omega))
   unfold pick
   by_cases e:q n=true
   · rw[if_pos e,if_pos (h n (by omega) e),List.length_append,List.length_append]
     exact Nat.add_le_add_right ih 1
   · rw[if_neg e]
     split
     · rw[List.length_append];omega
     · exact ih
theorem qkl {V W:List Int} (hV:isB V) (hW:isB W) (hl:W.length=V.length) {p:Nat→Bool} (h:∀q,q∉pick p V.length→co W q=co V q):(difs V W).length≤(pick p V.length).length:=by
 unfold difs
 rw[hl]
 refine qdv _ (fun g hg e=> ?_)
 apply Classical.byContradiction
 intro hn
 have h1:=h g (fun hm=>hn ((qam _ _ _).1 hm).2)
 have h2:rd V (g:Int)≠rd W (g:Int):=by unfold difP at e;simpa using e
 exact h2 (by rw[qah hV,qah hW,h1])
theorem qhl (V:List Int):difs V V=[]:=by
 have:∀n,pick (difP V V) n=[]:=fun n=>by
  induction n with
  |zero=>rfl
  |succ n ih=>rw[pick,if_neg (by simp[difP]),ih]
 exact this _
theorem qnz (l:List Int) (hl:l.length≤1000) (hb:isB l) (n:Nat) (hn:n≤100):∀d i:Nat,i+d=n→qaw l i→EvP (fun k=>impl_RsOk.l0 k l (n:Int) (i:Int)) (fun b=>b=true↔qaw l n):=by
 intro d
 induction d with
 | zero=>
   intro i hi hc
   refine EvP.succ ?_
   simp only[impl_RsOk.l0]
   rw[show i=n by omega] at hc ⊢
   exact EvP.neg (by omega) (EvP.now ⟨fun _=>hc,fun _=>rfl⟩)
 | succ d ih=>
   intro i hi hc
   refine EvP.succ ?_
   simp only[impl_RsOk.l0]
   rw[w64_add (i:=(i:Int)) (by omega) (by omega)]
   refine EvP.pos (by omega) (EvP.on (qdq l hl hb i (by omega)) ?_)
   refine EvP.both (fun h=> ?_) (fun h=> ?_)
   · rw[qas] at h
     exact ih (i+1) (by omega) (fun j hj=>by
      by_cases e:j=i
      · rw[e];exact h
      · exact hc j (by omega))
   · rw[qas] at h
     exact EvP.now ⟨fun e=>(by cases e),fun e=>absurd (e i (by omega)) h⟩
theorem qoa (l:List Int) (hb:isB l) (m:Nat) (hm:1≤m∧m≤8) (h:2*m<l.length) (h2:l.length≤255):EvP (fun k=>impl_RsOk.f k l (m:Int)) (fun b=>b=true↔qaw l (2*m)):=by
 unfold impl_RsOk.f
 refine EvP.on (Ev.here (qel l m hm h h2)) (EvP.pos rfl ?_)
 rw[show wrap64 (2*(m:Int))=((2*m:Nat):Int) by rw[w64 (by omega) (by omega)];omega]
 exact qnz l (by omega) hb (2*m) (by omega) (2*m) 0 (by omega) (fun i hi=>by omega)
def Ind (R t:Nat) (M:Nat→Nat→GF):Prop:=∀y:Nat→GF,y t=0→ker R (t+1) M y→∀j,j<t→y j=0
theorem Ind.pivot {R t c:Nat} {M:Nat→Nat→GF} (h:Ind R t M) (hc:c<t) (hu:qbt R c M):∃p,c≤p∧p<R∧M p c≠0:=by
 have hs:Solv R t (fun i j=>if j<t then M i j else 0) (fun _=>0):=by
  refine⟨fun i _=> ?_,fun y h0 hk=>h y h0 (fun i hi=> ?_)⟩
  · show GF.S t (fun j=>(if j<t then M i j else 0)*(if j<t then(0:GF) else 1))+(if t<t then M i t else 0)*_=0
    rw[if_neg (Nat.lt_irrefl t),GF.zero_mul,GF.add_zero,qab (g:=fun _=>0) t (fun j hj=>by rw[if_pos hj,if_pos hj,GF.mul_zero]),qbr]
  · have h1:=hk i hi
    have h2:GF.S t (fun j=>(if j<t then M i j else 0)*y j)+(if t<t then M i t else 0)*y t=0:=h1
    rw[if_neg (Nat.lt_irrefl t),GF.zero_mul,GF.add_zero] at h2
    show GF.S t (fun j=>M i j*y j)+M i t*y t=0
    rw[h0,GF.mul_zero,GF.add_zero,←h2]
    exact qab _ (fun j hj=>by rw[if_pos hj])
 obtain⟨p,h1,h2,h3⟩:=hs.pivot hc (fun i hi j hj=>by show(if j<t then M i j else 0)=_;rw[if_pos (by omega)];exact hu i hi j hj)
 exact⟨p,h1,h2,fun e=>h3 (by show(if c<t then M p c else 0)=0;rw[if_pos hc,e])⟩
theorem qlj (R n:Nat) (hnR:n≤R):∀(d c:Nat) (rows:List (List Int)),c+d=n→flR R (n+1) rows→Ind R n (MG rows)→qbt R c (MG rows)→EvP (fun k=>flElim k (n+1) d c rows) (fun r=>flR R (n+1) r):=by
 intro d
 induction d with
 | zero=>
   intro c rows hd h hs hu
   simp only[flElim]
   exact EvP.now h
 | succ d ih=>
   intro c rows hd h hs hu
   simp only[flElim]
   refine EvP.next (qgz R n c (by omega) rows h (by omega) (hs.pivot (by omega) hu)) ?_
   rintro r ⟨r1,p,r2,r3⟩
   exact ih (c+1) r (by omega) r1 (fun y h0 hk=>hs y h0 ((r3.ker _).1 hk)) (r3.unit r2 hu)
theorem qhm (rows:List (List Int)) (hb:∀r∈rows,isB r) (n:Nat):∀(gs:List Nat) (i:Nat) (out:List Int),isB out→(∀g∈gs,g<out.length)→isB (flOut rows n (qaa gs) i out)∧(flOut rows n (qaa gs) i out).length=out.length∧∀q,q∉gs→co (flOut rows n (qaa gs) i out) q=co out q
 |[],i,out,ho,_=>⟨ho,rfl,fun _ _=>rfl⟩
 | g::gs,i,out,ho,hg=>by
   have hx:Go.bits .xor .u8 (rd out (g:Int)) (IntKind.u8.wrap (rd (rows.getD i []) (n:Int)))=iG (co out g+co (rows.getD i []) n):=by
    rw[qah ho,qah (qak hb i),qis]
   have hgl:=hg g (by simp)
   have ih:=qhm rows hb n gs (i+1) (out.set g (iG (co out g+co (rows.getD i []) n))) (qck ho (qar _) g) (fun q hq=>by rw[List.length_set];exact hg q (by simp[hq]))
   show isB (flOut rows n (qaa gs) (i+1) (out.set ((g:Nat):Int).toNat (Go.bits .xor .u8 (rd out (g:Int)) (IntKind.u8.wrap (rd (rows.getD i []) (n:Int))))))∧_
   rw[show flOut rows n (qaa (g::gs)) i out=flOut rows n (qaa gs) (i+1) (out.set ((g:Nat):Int).toNat (Go.bits .xor .u8 (rd out (g:Int)) (IntKind.u8.wrap (rd (rows.getD i []) (n:Int))))) from rfl,hx,Int.toNat_natCast]
   refine⟨ih.1,by rw[ih.2.1,List.length_set],fun q hq=> ?_⟩
   rw[ih.2.2 q (fun h=>hq (by simp[h])),qcn hgl,if_neg (fun e=>hq (by simp[e]))]
theorem qob (V:List Int) (hV:isB V) (h3:V.length≤255) (M:Nat) (hM:1≤M∧M≤8) (p:Nat→Bool) (hp:(pick p V.length).length≤M):
 EvP (fun k=>impl_fill.f k V (qaa (pick p V.length)) (M:Int)) (fun r=>r.2=true→isB r.1∧r.1.length=V.length∧∀q,q∉pick p V.length→co r.1 q=co V q):=by
 have hg:∀g∈pick p V.length,g<V.length:=fun g hg=>((qam _ _ _).1 hg).1
 have hin:flIn V (qaa (pick p V.length)) (M:Int):=by
  refine⟨by omega,by rw[qal];omega,by omega,fun g h=> ?_⟩
  obtain⟨q,hq,rfl⟩:=List.mem_map.1 h
  have:=hg q hq
  omega
 unfold impl_fill.f
 refine EvP.pos hin ?_
 rw[show(2*(M:Int)).toNat=2*M by omega,qal]
 have hrows:=qef V (by omega) hV (pick p V.length) hg (2*M) 0 (by omega)
 rw[Nat.zero_add] at hrows
 refine EvP.on (a:=(List.range (2*M)).map (qai V (pick p V.length))) hrows ?_
 have hind:Ind (2*M) (pick p V.length).length (MG ((List.range (2*M)).map (qai V (pick p V.length)))):=fun y h0 hk=>by
  refine qcg (pick p V.length).length (fun j=>two.pw (V.length-1-(pick p V.length).getD j 0)) y (fun i j hi hj e=> ?_) (fun i hi=> ?_)
  · have h1:=hg _ (qbg hi)
    have h2:=hg _ (qbg hj)
    have:=qbp (by omega) (by omega) e
    exact qcb p V.length i j hi hj (by omega)
  · have h1:=hk i (by omega)
    have h2:GF.S (pick p V.length).length (fun j=>MG ((List.range (2*M)).map (qai V (pick p V.length))) i j*y j)+MG ((List.range (2*M)).map (qai V (pick p V.length))) i (pick p V.length).length*y (pick p V.length).length=0:=h1
    rw[h0,GF.mul_zero,GF.add_zero] at h2
    rw[←h2]
    exact qab _ (fun j hj=>by rw[qen V _ _ i j (by omega) (by omega),if_pos hj,GF.mul_comm])
 refine EvP.next (qlj (2*M) (pick p V.length).length (by omega) (pick p V.length).length 0 _ (by omega) (qfc V _ _) hind (fun i _ j hj=>by omega)) ?_
 intro r hr
 refine EvP.both (fun _=>EvP.now (fun e=>by cases e)) (fun _=> ?_)
 refine EvP.on (Ev.here (show slices_Clone_byte_byte.f V=some V by unfold slices_Clone_byte_byte.f;rw[if_pos (by omega)])) ?_
 have ho:=qhm r hr.b (pick p V.length).length (pick p V.length) 0 V hV hg
 exact EvP.now (fun _=>ho)
theorem qmj (V:List Int) (hV:isB V) (M:Nat) (hM:1≤M∧M≤8) (h2:2*M<V.length) (h3:V.length≤255):EvP (fun k=>impl_RsMend.f k V (M:Int)) (fun r=>r=([],0,false)∨∃W,Near V M W∧r=(W,((difs V W).length:Int),true)):=by
 have w2:wrap64 (2*(M:Int))=((2*M:Nat):Int):=by rw[w64 (by omega) (by omega)];omega
 unfold impl_RsMend.f
 rw[w2]
 refine EvP.on (Ev.here (qel V M hM (by omega) (by omega))) (EvP.pos rfl ?_)
 refine qik V (M:Int) (2*M) (by omega) (by omega) hV ?_ (2*M) 0 (by omega)
 refine EvP.next (qlw _ (qij (fun i=>wval V (two.pw i)) (2*M)) (by simp;omega)) ?_
 rintro c ⟨hcB,hcl,_⟩
 have hcl2:c.length≤2*M+1:=by simpa using hcl
 have hfail:EvP (fun k=>impl_RsMend.j3 k V (M:Int) (qaa (pick (fun g=>decide (iG (lowv c (tryW V.length g))=0)) V.length)) true) (fun r=>r=([],0,false)∨∃W,Near V M W∧r=(W,((difs V W).length:Int),true)):=by
  refine EvP.succ ?_
  simp only[impl_RsMend.j3]
  exact EvP.pos trivial (EvP.now (Or.inl rfl))
 refine qih V c M hM.2 (by omega) hcB (by omega) ?_ V.length 0 (by omega)
 generalize (fun g=>decide (iG (lowv c (tryW V.length g))=0))=p at hfail ⊢
 refine EvP.both (fun _=>hfail) (fun hle=> ?_)
 rw[qal] at hle
 cases hb:((qaa (pick p V.length)).length:Int) != wrap64 ((c.length:Int)-1) with
 |true=>exact hfail
 | false=>
   refine EvP.succ ?_
   simp only[impl_RsMend.j3]
   refine EvP.neg (by simp) (EvP.next (qob V hV h3 M hM p (by omega)) ?_)
   rintro⟨out,ok⟩ hr
   have hbad:EvP (fun k=>impl_RsMend.j4 k V out true) (fun r=>r=([],0,false)∨∃W,Near V M W∧r=(W,((difs V W).length:Int),true)):=by
    refine EvP.succ ?_
    simp only[impl_RsMend.j4]
    exact EvP.pos trivial (EvP.now (Or.inl rfl))
   cases ok with
   |false=>exact EvP.neg (by simp) hbad
   | true=>
     obtain⟨h5,h6,h7⟩:=hr rfl
     have h6:out.length=V.length:=h6
     refine EvP.pos rfl (EvP.next (qoa out h5 M hM (by omega) (by omega)) ?_)
     intro b hb2
     cases b with
     |false=>exact hbad
     | true=>
       refine EvP.succ ?_
       simp only[impl_RsMend.j4]
       refine EvP.neg (by simp) (qii V out h6.symm (by omega) ?_ out.length 0 (by omega))
       exact Or.inr ⟨out,⟨h5,h6,hb2.1 rfl,Nat.le_trans (qkl hV h5 h6 h7) (by omega)⟩,rfl⟩
theorem qdu {V W:List Int} (hV:isB V) {M:Nat} (hM:1≤M∧M≤8) (h2:2*M<V.length) (h3:V.length≤255) (h:Near V M W):Ev (fun k=>impl_RsMend.f k V (M:Int)) (W,((difs V W).length:Int),true):=by
 obtain⟨h4,h5,h6,h7⟩:=h
 have hz:=qli h4 h6
 exact EvP.ev (qly W V h4 hV h5.symm M hM (by omega) (by omega) hz h7 (qns W V M h4 hV h5.symm hM (by omega) (by omega) hz h7))
theorem qoc {V W W2:List Int} (hV:isB V) {M:Nat} (hM:1≤M∧M≤8) (h2:2*M<V.length) (h3:V.length≤255) (h:Near V M W) (h':Near V M W2):W=W2:=
 congrArg Prod.fst (Ev.one (qdu hV hM h2 h3 h) (qdu hV hM h2 h3 h'))
theorem qmk (V:List Int) (hV:isB V) (M:Nat) (hM:1≤M∧M≤8) (h2:2*M<V.length) (h3:V.length≤255):EvP (fun k=>impl_RsMend.f k V (M:Int)) (qgo V M):=by
 by_cases h:∃W,Near V M W
 · obtain⟨W,hW⟩:=h
   exact⟨_,qdu hV hM h2 h3 hW,Or.inr ⟨W,hW,rfl⟩⟩
 · refine EvP.mono (qmj V hV M hM h2 h3) ?_
   rintro r (h1|⟨W,hW,_⟩)
   · exact Or.inl ⟨h1,h⟩
   · exact absurd ⟨W,hW⟩ h
theorem qje (V out:List Int) (hl:out.length=V.length) (hV:V.length≤255) {P:List Int×Int×Bool→Prop} (H:P (out,((difs V out).length:Int),true)):∀d i:Nat,i+d=V.length→EvP (fun k=>spec_RsMend.l1 k V out ((pick (difP V out) i).length:Int) (i:Int)) P:=by
 intro d
 induction d with
 | zero=>
   intro i hi
   refine EvP.succ ?_
   simp only[spec_RsMend.l1]
   have e:(difs V out).length=(pick (difP V out) i).length:=by unfold difs;rw[show out.length=i by omega]
   rw[e] at H
   exact EvP.neg (by omega) (EvP.now H)
 | succ d ih=>
   intro i hi
   have hp:=qdc (difP V out) i
   have ihs:=ih (i+1) (by omega)
   refine EvP.succ ?_
   simp only[spec_RsMend.l1]
   rw[w64_add (i:=(i:Int)) (by omega) (by omega),w64_add (i:=((pick (difP V out) i).length:Int)) (by omega) (by omega)]
   refine EvP.pos (by omega) (EvP.pos (by omega) (EvP.pos (by omega) ?_))
   refine EvP.both (fun h=> ?_) (fun h=> ?_)
   · have e:pick (difP V out) (i+1)=pick (difP V out) i:=by
      rw[pick,if_neg (by unfold difP;simp[h])]
     rw[e] at ihs
     exact ihs
   · have e:(pick (difP V out) (i+1)).length=(pick (difP V out) i).length+1:=by
      rw[pick,if_pos (by unfold difP;simpa using fun e=>h e.symm),List.length_append];rfl
     rw[e] at ihs
     exact ihs
theorem qod (V:List Int) (hV:isB V) (M:Nat) (hM:1≤M∧M≤8) (h2:2*M<V.length) (h3:V.length≤255):∀(d v:Nat),v+d=M+1→1≤v→(∀W,Near V M W→v≤(difs V W).length)→EvP (fun k=>spec_RsMend.l0 k V (M:Int) (sigL V (2*M)) (v:Int)) (qgo V M):=by
 intro d
 induction d with
 | zero=>
   intro v hv h1 hn
   refine EvP.succ ?_
   simp only[spec_RsMend.l0]
   refine EvP.neg (by omega) (EvP.now (Or.inl ⟨rfl,fun⟨W,hW⟩=> ?_⟩))
   have:=hn W hW
   have:=hW.2.2.2
   omega
 | succ d ih=>
   intro v hv h1 hn
   refine EvP.succ ?_
   simp only[spec_RsMend.l0]
   rw[w64_add (i:=(v:Int)) (by omega) (by omega)]
   refine EvP.pos (by omega) ?_
   by_cases hw:∃W,Near V M W∧(difs V W).length=v
   · obtain⟨W,hN,hdl⟩:=hw
     have hNW:=hN
     obtain⟨hW,hl,hc,hd⟩:=hN
     have hpk:difs V W=pick (difP V W) V.length:=by unfold difs;rw[hl]
     have hgl:∀g∈difs V W,g<V.length:=fun g hg=>by rw[hpk] at hg;exact((qam _ _ _).1 hg).1
     have hinj:∀i j,i<(difs V W).length→j<(difs V W).length→(difs V W).getD i 0=(difs V W).getD j 0→i=j:=fun i j hi hj e=>qcb (difP V W) W.length i j hi hj e
     have hval:∀k,k<2*M→wval V (two.pw k)=GF.S (difs V W).length (fun j=>errE V W (difs V W) j*(two.pw (V.length-1-(difs V W).getD j 0)).pw k):=fun k hk=>by
      rw[qfa hl.symm k (hc k hk),hl]
      rfl
     have hpl:=qmh (sigL V (2*M)) (qjc V _) v V.length (by omega) (by rw[qct];omega) h3 (errE V W (difs V W)) (fun j=>(difs V W).getD j 0) (difP V W)
      (fun g hg=>by
       constructor
       · intro e
         have hm:g∈difs V W:=(qam _ _ _).2 ⟨by omega,e⟩
         obtain⟨j,hj,e2⟩:=List.getElem_of_mem hm
         exact⟨j,by omega,by simp[List.getD_eq_getElem?_getD,hj,e2]⟩
       · rintro⟨j,hj,rfl⟩
         exact((qam (difP V W) W.length _).1 (qbg (pl:=difs V W) (by omega))).2)
      (fun j hj=>hgl _ (qbg (by omega))) (fun i j hi hj e=>hinj i j (by omega) (by omega) e) (fun j hj=>qkc hV hW (by omega))
      (fun k hk=>by rw[qkg V (2*M) k (by omega),hval k (by omega),hdl]) (by rw[←hpk];exact hdl)
     rw[←hpk] at hpl
     refine EvP.next hpl ?_
     rintro r rfl
     refine EvP.pos rfl (EvP.next (qpw V h3 hV (difs V W) (by omega) hgl hinj (2*M) (by omega) (by omega) M (by omega) (errE V W (difs V W)) (fun k hk=>hval k (by omega))) ?_)
     rintro⟨out,fine⟩ ⟨o1,o2,o3,o4,o5⟩
     have hout:out=W:=by
      refine qit o1 hW (by rw[hl];exact o2) (fun q hq=> ?_)
      by_cases hm:q∈difs V W
      · obtain⟨j,hj,e2⟩:=List.getElem_of_mem hm
        have e3:(difs V W).getD j 0=q:=by simp[List.getD_eq_getElem?_getD,hj,e2]
        have h5:=o5 j hj
        rw[e3] at h5
        have h6:errE V W (difs V W) j=co V q+co W q:=by unfold errE;rw[e3]
        rw[h6,←GF.add_assoc,GF.add_self,GF.zero_add] at h5
        exact h5
      · rw[show co out q=co V q from o4 q hm]
        have o2:out.length=V.length:=o2
        have hnd:¬difP V W q=true:=fun e=>hm ((qam _ _ _).2 ⟨by omega,e⟩)
        have h7:rd V (q:Int)=rd W (q:Int):=by unfold difP at hnd;simpa using hnd
        unfold co
        rw[h7]
     subst hout
     have hf:fine=true:=o3.2 hc
     subst hf
     exact EvP.pos rfl (qje V out hl h3 (Or.inr ⟨out,hNW,rfl⟩) V.length 0 (by omega))
   · have hnext:=ih (v+1) (by omega) (by omega) (fun W hW=>by
      have h5:=hn W hW
      have h6:(difs V W).length≠v:=fun e=>hw ⟨W,hW,e⟩
      omega)
     refine EvP.next (qlh (sigL V (2*M)) (qjc V _) v V.length (by omega) (by rw[qct];omega) h3) ?_
     rintro⟨pl,ok⟩ hpl
     cases ok with
     |false=>exact EvP.neg (by simp) hnext
     | true=>
       obtain⟨p,e1,e2⟩:=hpl rfl
       have e1:pl=qaa (pick p V.length):=e1
       subst e1
       refine EvP.pos rfl (EvP.next (qny V h3 hV (pick p V.length) (by omega) (fun g hg=>((qam _ _ _).1 hg).1) (fun i j hi hj e=>qcb p V.length i j hi hj e) (2*M) (by omega) (by omega) M (by omega)) ?_)
       rintro⟨out,fine⟩ hr
       cases fine with
       |false=>exact EvP.neg (by simp) hnext
       | true=>
         obtain⟨o1,o2,o3,o4⟩:=hr rfl
         have o2:out.length=V.length:=o2
         refine EvP.pos rfl (qje V out o2 h3 (Or.inr ⟨out,⟨o1,o2,o3,Nat.le_trans (qkl hV o1 o2 o4) (by omega)⟩,rfl⟩) V.length 0 (by omega))
theorem qoe (l:List Int) (m:Nat) (hm:1≤m∧m≤8) (h:2*m<l.length) (h2:l.length≤255):spec_l14Word.f l (m:Int)=some true:=by
 unfold spec_l14Word.f
 rw[qfo,w64 (n:=2*(m:Int)) (by omega) (by omega),w64 (by omega) (by omega),qax]
 have e1:inB (m:Int) 1 8=true:=qgj.2 (by omega)
 rw[e1]
 simp
 omega
theorem qml (V:List Int) (hV:isB V) (M:Nat) (hM:1≤M∧M≤8) (h2:2*M<V.length) (h3:V.length≤255):EvP (fun k=>spec_RsMend.f k V (M:Int)) (qgo V M):=by
 unfold spec_RsMend.f
 refine EvP.on (Ev.here (qoe V M hM h2 h3)) (EvP.pos rfl (EvP.next (qhi V (by omega) hV M (by omega)) ?_))
 rintro⟨S,c⟩ ⟨e1,e2⟩
 have e1:S=sigL V (2*M):=e1
 subst e1
 cases c with
 | true=>
   have hc:qaw V (2*M):=e2.1 rfl
   refine EvP.pos rfl (EvP.on (Ev.some_ rfl) (EvP.pos (by simp;omega) (EvP.now (Or.inr ⟨V,⟨hV,rfl,hc,by rw[qhl];exact Nat.zero_le _⟩,?_⟩))))
   rw[qhl]
   rfl
 | false=>
   have hc:¬qaw V (2*M):=fun h=>by have:=e2.2 h;cases this
   refine EvP.neg (by simp) (qod V hV M hM h2 h3 M 1 (by omega) (Nat.le_refl _) (fun W hW=> ?_))
   rcases Nat.eq_zero_or_pos (difs V W).length with h|h
   · exfalso
     have hWV:W=V:=by
      refine qit hW.1 hV hW.2.1 (fun q hq=> ?_)
      have hnd:¬difP V W q=true:=fun e=>by
       have hm:q∈difs V W:=(qam _ _ _).2 ⟨hq,e⟩
       rw[List.eq_nil_of_length_eq_zero h] at hm
       cases hm
      have h7:rd V (q:Int)=rd W (q:Int):=by unfold difP at hnd;simpa using hnd
      unfold co
      rw[h7]
     exact hc (hWV▸hW.2.2.1)
   · exact h
theorem qmm (V:List Int) (hV:isB V) (M:Nat) (hM:1≤M∧M≤8) (h2:2*M<V.length) (h3:V.length≤255):∃r,Ev (fun k=>impl_RsMend.f k V (M:Int)) r∧Ev (fun k=>spec_RsMend.f k V (M:Int)) r∧((r.1=[]∧r.2.1=0∧r.2.2=false)∨(isB r.1∧r.1.length=V.length∧r.2.2=true)):=by
 obtain⟨r,h4,h5⟩:=qmk V hV M hM h2 h3
 obtain⟨s,h6,h7⟩:=qml V hV M hM h2 h3
 have e:r=s:=by
  rcases h5 with⟨e1,n1⟩|⟨W,hW,e1⟩
  · rcases h7 with⟨e2,_⟩|⟨W2,hW2,_⟩
    · rw[e1,e2]
    · exact absurd ⟨W2,hW2⟩ n1
  · rcases h7 with⟨_,n2⟩|⟨W2,hW2,e2⟩
    · exact absurd ⟨W,hW⟩ n2
    · rw[e1,e2,qoc hV hM h2 h3 hW hW2]
 subst e
 refine⟨r,h4,h6,?_⟩
 rcases h5 with⟨e1,_⟩|⟨W,hW,e1⟩
 · left;rw[e1];exact⟨rfl,rfl,rfl⟩
 · right;rw[e1];exact⟨hW.1,hW.2.1,rfl⟩
def rdv (a q:Int):Int:=if a%q≥q-a%q then a / q+1 else a / q
theorem qkm (a q:Int) (hq:1≤q∧q≤1000000000) (ha: -10000000000000≤a∧a≤10000000000000):impl_down.f a q=some (a / q,a%q)∧spec_l5Floor.f a q=some (a / q)∧(0≤a%q∧a%q<q)∧q*(a / q)+a%q=a∧(-10000000000000≤a / q∧a / q≤10000000000000):=by
 have hdiv:=Int.mul_tdiv_add_tmod a q
 have hlt:=Int.tmod_lt_of_pos a (show 0<q by omega)
 have hgt: -q<Int.tmod a q:=by have:=Int.lt_tmod_of_pos a (show 0<q by omega);omega
 have hsame:0≤a→0≤Int.tmod a q:=fun h=>Int.tmod_nonneg q h
 have hneg:a≤0→Int.tmod a q≤0:=fun h=>by
  have:=Int.tmod_nonneg (a:= -a) q (by omega)
  rw[Int.neg_tmod] at this
  omega
 have e0:=Int.emod_nonneg a (show q≠0 by omega)
 have e1:=Int.emod_lt_of_pos a (show 0<q by omega)
 have e2:=Int.mul_ediv_add_emod a q
 have e3: -10000000000000≤a / q:=by
  have:q*(-10000000000000)≤1*(-10000000000000):=Int.mul_le_mul_of_nonpos_right hq.1 (by omega)
  exact Int.le_ediv_of_mul_le (by omega) (by rw[Int.mul_comm];omega)
 have e4:a / q≤10000000000000:=by
  rcases(show a<0∨0≤a by omega) with h|h
  · have:a / q<0:=Int.ediv_neg_of_neg_of_pos h (by omega)
    omega
  · have:=Int.ediv_le_self q h
    omega
 have hb:(Int.tmod a q<0→a / q=Int.tdiv a q-1∧a%q=Int.tmod a q+q)∧(¬Int.tmod a q<0→a / q=Int.tdiv a q∧a%q=Int.tmod a q):=by
  constructor
  · intro h
    refine(Int.ediv_emod_unique (by omega)).2 ⟨?_,by omega,by omega⟩
    rw[Int.mul_sub,Int.mul_one]
    omega
  · intro h
    exact(Int.ediv_emod_unique (by omega)).2 ⟨by omega,by omega,by omega⟩
 refine⟨?_,?_,⟨e0,e1⟩,e2,e3,e4⟩
 · unfold impl_down.f
   rw[if_neg (by omega)]
   by_cases h:Int.tmod a q<0
   · obtain⟨h1,h2⟩:=hb.1 h
     rw[if_pos h,h1,h2,w64 (n:=Int.tdiv a q) (by omega) (by omega),w64 (n:=Int.tdiv a q-1) (by omega) (by omega),w64 (by omega) (by omega)]
   · obtain⟨h1,h2⟩:=hb.2 h
     rw[if_neg h,h1,h2,w64 (n:=Int.tdiv a q) (by omega) (by omega)]
 · unfold spec_l5Floor.f
   rw[if_neg (by omega)]
   by_cases h:Int.tmod a q<0
   · obtain⟨h1,h2⟩:=hb.1 h
     rw[if_pos h,h1,w64 (n:=Int.tdiv a q) (by omega) (by omega),w64 (n:=Int.tdiv a q-1) (by omega) (by omega)]
   · obtain⟨h1,h2⟩:=hb.2 h
     rw[if_neg h,h1,w64 (n:=Int.tdiv a q) (by omega) (by omega)]
theorem qeh (a q:Int) (hq:1≤q∧q≤1000000000) (ha: -10000000000000≤a∧a≤10000000000000):Ev (fun k=>impl_RoundDiv.f k a q) (rdv a q):=by
 obtain⟨hd,_,⟨h1,h2⟩,_,h4,h5⟩:=qkm a q hq ha
 have hg:impl_big18.f a=some true:=by
  unfold impl_big18.f
  rw[if_pos (by omega)]
  simp;omega
 unfold impl_RoundDiv.f
 refine Ev.neg (by omega) (Ev.neg (by omega) (Ev.next (Ev.here hg) (Ev.succ ?_)))
 simp only[impl_RoundDiv.j0]
 refine Ev.neg (by simp) (Ev.next (Ev.here hd) ?_)
 simp only
 rw[w64 (n:=q-a%q) (by omega) (by omega),w64 (n:=a / q+1) (by omega) (by omega)]
 exact Ev.cond (fun _=>Ev.some_ rfl) (fun _=>Ev.some_ rfl)
theorem qei (a q:Int) (hq:1≤q∧q≤1000000000) (ha: -10000000000000≤a∧a≤10000000000000):Ev (fun k=>spec_RoundDiv.f k a q) (rdv a q):=by
 obtain⟨_,hd,⟨h1,h2⟩,h3,h4,h5⟩:=qkm a q hq ha
 have e:wrap64 (a-wrap64 (a / q*q))=a%q:=by
  rw[Int.mul_comm (a / q) q,w64 (n:=q*(a / q)) (by omega) (by omega),w64 (by omega) (by omega)];omega
 unfold spec_RoundDiv.f
 refine Ev.next (Ev.here (qax _ _ _)) (Ev.pos (by simp;omega) (Ev.next (Ev.here (qax _ _ _)) (Ev.succ ?_)))
 simp only[spec_RoundDiv.j0]
 refine Ev.neg (by simp;omega) (Ev.next (Ev.here hd) ?_)
 rw[e,w64 (n:=q-a%q) (by omega) (by omega),w64 (n:=a / q+1) (by omega) (by omega)]
 exact Ev.cond (fun _=>Ev.some_ rfl) (fun _=>Ev.some_ rfl)
theorem qmn {a q N:Int} (hq:1≤q) (hN:0≤N) (h: -(N*q)≤a∧a≤N*q): -N≤rdv a q∧rdv a q≤N:=by
 have e0:=Int.emod_nonneg a (show q≠0 by omega)
 have e1:=Int.emod_lt_of_pos a (show 0<q by omega)
 have e2:=Int.mul_ediv_add_emod a q
 have e3: -N≤a / q:=Int.le_ediv_of_mul_le (by omega) (by rw[Int.neg_mul];omega)
 have e4:a / q≤N:=by
  have:=Int.ediv_le_ediv (show 0<q by omega) h.2
  rwa[Int.mul_ediv_cancel _ (by omega)] at this
 unfold rdv
 split
 · refine⟨by omega,?_⟩
   rcases(show a / q=N∨a / q+1≤N by omega) with h5|h5
   · rw[h5,Int.mul_comm] at e2
     omega
   · exact h5
 · exact⟨e3,e4⟩
def qdj (l:List S52):Bool:=decide ((l.length:Int)≤4096)&&l.all ptB
theorem qlk (x:Int):spec_l5Sample.f x=some (decide (-1000000000≤x)&&decide (x≤1000000000)):=by
 unfold spec_l5Sample.f;rw[qax];rfl
theorem qmo (l:List S52) (hl:l.length≤100000000):∀(d i:Nat),i+d=l.length→Ev (fun k=>spec_l18Burst.l0 k l (i:Int)) (decide ((l.length:Int)≤4096)&&(l.drop i).all ptB):=by
 intro d
 induction d with
 | zero=>
   intro i hi
   refine Ev.succ ?_
   simp only[spec_l18Burst.l0]
   rw[List.drop_of_length_le (by omega)]
   exact Ev.neg (by omega) (Ev.some_ (by simp))
 | succ d ih=>
   intro i hi
   refine Ev.succ ?_
   simp only[spec_l18Burst.l0,qlk,Option.bind_some]
   rw[qao (e:=i) (by omega),qmb (by omega),List.all_cons]
   refine Ev.pos (by omega) (Ev.pos (by omega) ?_)
   have nx:=ih (i+1) (by omega)
   unfold ptB
   cases(decide (-1000000000≤(rd_T52 l (i:Int)).f0)&&decide ((rd_T52 l (i:Int)).f0≤1000000000)) with
   |false=>exact Ev.some_ (by simp)
   | true=>
     cases(decide (-1000000000≤(rd_T52 l (i:Int)).f1)&&decide ((rd_T52 l (i:Int)).f1≤1000000000)) with
     |false=>exact Ev.some_ (by simp)
     |true=>exact nx.to (by simp;rfl)
theorem qmp (l:List S52) (hl:l.length≤100000000):Ev (fun k=>spec_l18Burst.f k l) (qdj l):=(qmo l hl l.length 0 (by omega)).to (by simp[qdj])
theorem qof {l:List S52} (h:qdj l=true):l.length≤4096∧∀p∈l,inP 1000000000 p:=by
 unfold qdj at h
 rw[Bool.and_eq_true,decide_eq_true_eq,List.all_eq_true] at h
 refine⟨by omega,fun p hp=> ?_⟩
 have:=h.2 p hp
 unfold ptB at this
 simp only[Bool.and_eq_true,decide_eq_true_eq] at this
 unfold inP
 omega
theorem qfd (x:Int) (h: -1000000000000≤x∧x≤1000000000000):spec_l18Size.f x=some (if x<0 then-x else x):=by
 unfold spec_l18Size.f
 split
 · rw[w64 (by omega) (by omega)]
 · rfl
def absI (x:Int):Int:=if x<0 then-x else x
theorem qmq (l:List S52) (hl:l.length≤4096) (hb:∀p∈l,inP 1000000000 p) (w m r s ra si:Int) (hs:1≤si∧si≤10000):∀(d i:Nat),i+d=l.length→Ev (fun k=>spec_l18Begin.l0 k l (i:Int) w m r s ra si) (hrIdx si (l.drop i) (i:Int)):=by
 intro d
 induction d with
 | zero=>
   intro i hi
   refine Ev.succ ?_
   simp only[spec_l18Begin.l0]
   rw[List.drop_of_length_le (by omega)]
   exact Ev.neg (by omega) (Ev.some_ rfl)
 | succ d ih=>
   intro i hi
   have hp:=hb _ (qla (P:=l) (i:=i) (by omega))
   unfold inP at hp
   have hf:=qme hs hp.1 hp.2
   refine Ev.succ ?_
   simp only[spec_l18Begin.l0]
   rw[qmb (by omega),qfd _ (by omega),qfd _ (by omega),qao (e:=i) (by omega),w64 (n:=16*si) (by omega) (by omega)]
   simp only[hrIdx]
   rw[hf]
   refine Ev.pos (by omega) (Ev.pos (by omega) (Ev.next (Ev.here rfl) ?_))
   by_cases h1:(if(rd_T52 l (i:Int)).f0<0 then-(rd_T52 l (i:Int)).f0 else(rd_T52 l (i:Int)).f0)>16*si
   · refine Ev.pos h1 (Ev.some_ ?_)
     rw[if_pos (by rw[decide_eq_true_eq];left;split at h1<;>omega)]
   · refine Ev.neg h1 (Ev.next (Ev.here rfl) ?_)
     by_cases h2:(if(rd_T52 l (i:Int)).f1<0 then-(rd_T52 l (i:Int)).f1 else(rd_T52 l (i:Int)).f1)>16*si
     · refine Ev.pos h2 (Ev.some_ ?_)
       rw[if_pos (by rw[decide_eq_true_eq];right;split at h2<;>omega)]
     · refine Ev.neg h2 ?_
       rw[if_neg (by
        rw[decide_eq_true_eq]
        rintro(h3|h3)
        · split at h1<;>omega
        · split at h2<;>omega)]
       exact ih (i+1) (by omega)
theorem qjf (si:Int):∀(l:List S52) (i:Int),hrIdx si l i= -1∨(i≤hrIdx si l i∧hrIdx si l i<i+l.length)
 |[],i=>Or.inl rfl
 | p ::l,i=>by
   unfold hrIdx
   split
   · right;exact⟨Int.le_refl _,by rw[List.length_cons];omega⟩
   · rcases qjf si l (i+1) with h|h
     · exact Or.inl h
     · right;rw[List.length_cons];omega
theorem qog (l:List S52) (hl:l.length≤8) (hb:∀p∈l,inP 1000000000 p):∀(d i:Nat),i+d=l.length→Ev (fun k=>impl_sum.l0 k l (l.length:Int) (i:Int) (ls0 (l.take i)) (ls1 (l.take i))) (ls0 l,ls1 l):=by
 intro d
 induction d with
 | zero=>
   intro i hi
   refine Ev.succ ?_
   simp only[impl_sum.l0]
   rw[List.take_of_length_le (by omega)]
   exact Ev.neg (by omega) (Ev.some_ rfl)
 | succ d ih=>
   intro i hi
   have hp:=qht (N:=1000000000) (by omega) (l.take (i+1)) (fun p hp=>hb p (List.mem_of_mem_take hp))
   rw[List.length_take,qem (show i<l.length by omega),qcq,qcr] at hp
   have nx:=ih (i+1) (by omega)
   rw[qem (show i<l.length by omega),qcq,qcr] at nx
   refine Ev.succ ?_
   simp only[impl_sum.l0]
   rw[qao (e:=i) (by omega),w64 (n:=ls0 (l.take i)+_) (by omega) (by omega),w64 (n:=ls1 (l.take i)+_) (by omega) (by omega)]
   exact Ev.pos (by omega) (Ev.pos (by omega) (Ev.pos (by omega) nx))
theorem qjg (l:List S52) (hl:l.length≤8) (hb:∀p∈l,inP 1000000000 p):Ev (fun k=>impl_sum.f k l) (ls0 l,ls1 l):=qog l hl hb l.length 0 (by omega)
def seg (air:List S52) (a R:Nat):List S52:=(air.take (a+R)).drop a
theorem qeo {air:List S52} {a R:Nat} (h:a+R≤air.length):(seg air a R).length=R:=qpp h
theorem qfz {air:List S52} (hb:∀p∈air,inP 1000000000 p) (a R:Nat):∀p∈seg air a R,inP 1000000000 p:=fun p hp=>hb p (List.mem_of_mem_take (List.mem_of_mem_drop hp))
theorem qqv {air:List S52} {a R j:Nat} (h:a+R≤air.length) (hj:j<R):rd_T52 (seg air a R) (j:Int)=rd_T52 air ((a+j:Nat):Int):=by
 unfold seg rd_T52
 rw[Int.toNat_natCast,Int.toNat_natCast,List.getD_eq_getElem?_getD,List.getElem?_drop,List.getElem?_take,if_pos (by omega),←List.getD_eq_getElem?_getD]
theorem qoh (air:List S52) (ha:air.length≤4096) (hb:∀p∈air,inP 1000000000 p) (a R:Nat) (h:a+R≤air.length) (hR:R≤8):∀(d i:Nat),i+d=R→Ev (fun k=>spec_l18Sum.l0 k air (a:Int) (R:Int) ((a+i:Nat):Int) (ls0 ((seg air a R).take i)) (ls1 ((seg air a R).take i))) (ls0 (seg air a R),ls1 (seg air a R)):=by
 have hsl:=qeo h
 intro d
 induction d with
 | zero=>
   intro i hi
   refine Ev.succ ?_
   simp only[spec_l18Sum.l0]
   rw[List.take_of_length_le (by omega),w64 (n:=(a:Int)+(R:Int)) (by omega) (by omega)]
   exact Ev.neg (by omega) (Ev.some_ rfl)
 | succ d ih=>
   intro i hi
   have hp:=qht (N:=1000000000) (by omega) ((seg air a R).take (i+1)) (fun p hp=>qfz hb a R p (List.mem_of_mem_take hp))
   rw[List.length_take,qem (show i<(seg air a R).length by omega),qcq,qcr] at hp
   have nx:=ih (i+1) (by omega)
   rw[qem (show i<(seg air a R).length by omega),qcq,qcr] at nx
   rw[qqv h (by omega)] at hp nx
   refine Ev.succ ?_
   simp only[spec_l18Sum.l0]
   rw[qao (e:=a+i) (by omega),w64 (n:=(a:Int)+(R:Int)) (by omega) (by omega),w64 (n:=ls0 _+_) (by omega) (by omega),w64 (n:=ls1 _+_) (by omega) (by omega)]
   exact Ev.pos (by omega) (Ev.pos (by omega) (Ev.pos (by omega) nx))
theorem qjh (air:List S52) (ha:air.length≤4096) (hb:∀p∈air,inP 1000000000 p) (a R:Nat) (h:a+R≤air.length) (hR:R≤8):Ev (fun k=>spec_l18Sum.f k air (a:Int) (R:Int)) (ls0 (seg air a R),ls1 (seg air a R)):=qoh air ha hb a R h hR R 0 (by omega)
theorem qey:∀(d:Nat) (a b:Int),d≤100→Ev (fun k=>spec_l18Quarter.l0 k (d:Int) a b) (qan d a b)
 | 0,a,b,_=>by
   refine Ev.succ ?_
   simp only[spec_l18Quarter.l0]
   exact Ev.neg (by omega) (Ev.some_ rfl)
 | d+1,a,b,h=>by
   refine Ev.succ ?_
   simp only[spec_l18Quarter.l0]
   rw[show wrap64 (((d+1:Nat):Int)-1)=(d:Int) by rw[w64 (by omega) (by omega)];omega]
   exact Ev.pos (by omega) (qey d _ _ (by omega))
def topN (H:Nat):Int:=((2^H:Nat):Int)-1
def putV (H:Nat) (x:Int):Int:=rdv (x+((2^H:Nat):Int)-1) 2
def putC (H:Nat) (x:Int):Int:=if putV H x<0 then 0 else if putV H x>topN H then topN H else putV H x
def qhu (c:Nat):Nat:=c^^^(c / 2)
def putG (H:Nat) (x:Int):Nat:=qhu (putC H x).toNat
theorem qhn:∀c:Fin 16,impl_Gray.f ((c.1:Nat):Int)=some ((qhu c.1:Nat):Int)∧spec_Gray.f ((c.1:Nat):Int)=some ((qhu c.1:Nat):Int)∧qhu c.1<16:=by decide+kernel
theorem qgp {H:Nat} (hH:1≤H∧H≤4):1≤topN H∧topN H≤15:=by
 unfold topN
 rcases(show H=1∨H=2∨H=3∨H=4 by omega) with rfl|rfl|rfl|rfl<;>decide
theorem qkn {H:Nat} (hH:1≤H∧H≤4) (x:Int):0≤putC H x∧putC H x≤15:=by
 have:=qgp hH
 unfold putC
 split
 · omega
 · split<;>omega
theorem qmr {H:Nat} (hH:1≤H∧H≤4) (x:Int):impl_nearer.f (putV H x) 0 (topN H)=some (putC H x):=by
 have:=qgp hH
 unfold impl_nearer.f putC mn mx
 congr 1
 repeat' split
 all_goals omega
theorem qko (H:Nat) (hH:1≤H∧H≤4) (x:Int) (hx: -1000000000≤x∧x≤1000000000) (acc:List Int) (ha:acc.length≤4000):Ev (fun k=>impl_put.f k x (H:Int) acc) (acc++qac (putG H x) H):=by
 have hs:=qot ⟨H,by omega⟩
 simp only at hs
 have hp:2^H≤16:=by have:2^H≤2^4:=Nat.pow_le_pow_right (by omega) hH.2;omega
 have hp0:0<2^H:=Nat.two_pow_pos H
 have hc:=qkn hH x
 have hg:=qhn ⟨(putC H x).toNat,by omega⟩
 simp only at hg
 rw[Int.toNat_of_nonneg hc.1] at hg
 unfold impl_put.f
 rw[hs,w64 (n:=x+((2^H:Nat):Int)) (by omega) (by omega),w64 (n:=x+((2^H:Nat):Int)-1) (by omega) (by omega),w64 (n:=((2^H:Nat):Int)-1) (by omega) (by omega),w64 (n:=(H:Int)-1) (by omega) (by omega)]
 exact Ev.pos (by omega) (Ev.next (qeh _ 2 (by omega) (by omega)) (Ev.next (Ev.here (qmr hH x)) (Ev.next (Ev.here hg.1) (qqs (putG H x) hg.2.2 H acc hH.2 (by omega)))))
theorem qoi:∀(v:Fin 16) (d:Fin 4),Int.tmod (shr .i64 ((v.1:Nat):Int) ((d.1:Nat):Int)) 2=((v.1 / 2^d.1%2:Nat):Int):=by decide+kernel
theorem qoj (v:Nat) (hv:v<16):∀(d:Nat) (acc:List Int),d≤4→acc.length+d≤5000→Ev (fun k=>spec_l13Bits.l0 k (v:Int) acc ((d:Int)-1)) (acc++qac v d):=by
 intro d
 induction d with
 | zero=>
   intro acc hd ha
   refine Ev.succ ?_
   simp only[spec_l13Bits.l0]
   exact Ev.neg (by omega) (Ev.some_ (by simp[qac]))
 | succ d ih=>
   intro acc hd ha
   have hb:=qoi ⟨v,hv⟩ ⟨d,by omega⟩
   simp only at hb
   have e0:(((d+1:Nat):Int)-1)=(d:Int):=by omega
   refine Ev.succ ?_
   simp only[spec_l13Bits.l0]
   rw[e0,wu64 (n:=(d:Int)) (by omega) (by omega),hb,w64 (n:=(d:Int)-1) (by omega) (by omega)]
   have h1:=ih (acc++[((v / 2^d%2:Nat):Int)]) (by omega) (by simp;omega)
   rw[List.append_assoc] at h1
   exact Ev.pos (by omega) (Ev.pos (by omega) (Ev.pos (by omega) h1))
theorem qji (H:Nat) (hH:1≤H∧H≤4) (x:Int) (hx: -1000000000≤x∧x≤1000000000):Ev (fun k=>spec_l13Bits.f k (H:Int) x) (qac (putG H x) H):=by
 have hs:=qot ⟨H,by omega⟩
 simp only at hs
 have hp:2^H≤16:=by have:2^H≤2^4:=Nat.pow_le_pow_right (by omega) hH.2;omega
 have hp0:0<2^H:=Nat.two_pow_pos H
 have hc:=qkn hH x
 have hg:=qhn ⟨(putC H x).toNat,by omega⟩
 simp only at hg
 rw[Int.toNat_of_nonneg hc.1] at hg
 have htop:=qgp hH
 have hend:Ev (fun k=>spec_l13Bits.j1 k (H:Int) (putC H x)) (qac (putG H x) H):=by
  refine Ev.succ ?_
  simp only[spec_l13Bits.j1]
  rw[w64 (n:=(H:Int)-1) (by omega) (by omega)]
  have h1:=qoj (putG H x) hg.2.2 H [] hH.2 (by simp;omega)
  exact Ev.next (Ev.here hg.2.1) h1
 unfold spec_l13Bits.f
 rw[wu64 (n:=(H:Int)) (by omega) (by omega),hs,w64 (n:=((2^H:Nat):Int)-1) (by omega) (by omega),w64 (n:=x+(((2^H:Nat):Int)-1)) (by omega) (by omega)]
 have hv:Ev (fun k=>spec_RoundDiv.f k (x+(((2^H:Nat):Int)-1)) 2) (putV H x):=by
  have:=qei (x+(((2^H:Nat):Int)-1)) 2 (by omega) (by omega)
  unfold putV
  rw[show x+((2^H:Nat):Int)-1=x+(((2^H:Nat):Int)-1) by omega]
  exact this
 refine Ev.pos (by omega) (Ev.next hv ?_)
 have hj:∀y,(if y>topN H then topN H else y)=putC H x→Ev (fun k=>spec_l13Bits.j0 k (H:Int) (((2^H:Nat):Int)-1) y) (qac (putG H x) H):=fun y hy=>by
  refine Ev.succ ?_
  simp only[spec_l13Bits.j0]
  unfold topN at hy
  refine Ev.both (fun h=> ?_) (fun h=> ?_)
  · rw[if_pos h] at hy
    rw[hy]
    exact hend
  · rw[if_neg h] at hy
    rw[hy]
    exact hend
 refine Ev.both (fun h=> ?_) (fun h=> ?_)
 · refine hj 0 ?_
   rw[if_neg (by omega)]
   unfold putC
   rw[if_pos h]
 · refine hj _ ?_
   unfold putC
   rw[if_neg h]
def decB (H:Nat) (P:List S52):Nat→Nat→List Int
 |0,_=>[]
 |d+1,i=>qac (putG H (rd_T52 P (i:Int)).f0) H++(qac (putG H (rd_T52 P (i:Int)).f1) H++decB H P d (i+1))
theorem qfe (H:Nat) (P:List S52):∀d i,(decB H P d i).length=2*H*d
 |0,_=>rfl
 | d+1,i=>by
   simp only[decB,List.length_append,qaq,qfe H P d]
   rw[Nat.mul_add];omega
theorem qjj (H:Nat) (P:List S52):∀d i,∀x∈decB H P d i,x=0∨x=1
 |0,_,x,h=>by cases h
 | d+1,i,x,h=>by
   simp only[decB,List.mem_append] at h
   rcases h with h|h|h
   · exact qcp _ _ x h
   · exact qcp _ _ x h
   · exact qjj H P d (i+1) x h
theorem qjk {H:Nat} (hH:H≤4):wrap64 (Int.tdiv ((2*H:Nat):Int) 2)=(H:Int):=by
 rw[Int.tdiv_eq_ediv_of_nonneg (by omega),w64 (by omega) (by omega)];omega
theorem qjl {H:Nat} (hH:1≤H∧H≤4):qbs ((2*H:Nat):Int)=true:=by unfold qbs;rw[decide_eq_true_eq];omega
theorem samp {x:Int} (h: -1000000000≤x∧x≤1000000000):impl_sample.f x=some true:=by
 unfold impl_sample.f
 rw[if_pos (by omega)]
 simp;omega
theorem qpx (H:Nat) (hH:1≤H∧H≤4) (P:List S52) (hP:∀p∈P,inP 1000000000 p) (hl:2*H*P.length≤1024):∀(d i:Nat) (acc:List Int),i+d=P.length→acc.length=2*H*i→Ev (fun k=>impl_Decide.l0 k (H:Int) acc P (P.length:Int) (i:Int)) (acc++decB H P d i,true):=by
 have hPl:P.length≤1024:=Nat.le_trans (Nat.le_mul_of_pos_left P.length (show 0<2*H by omega)) hl
 intro d
 induction d with
 | zero=>
   intro i acc hi ha
   refine Ev.succ ?_
   simp only[impl_Decide.l0]
   exact Ev.neg (by omega) (Ev.some_ (by simp[decB]))
 | succ d ih=>
   intro i acc hi ha
   have hp:=hP _ (qla (P:=P) (i:=i) (by omega))
   unfold inP at hp
   have hm:2*H*i≤2*H*P.length:=Nat.mul_le_mul_left _ (by omega)
   refine Ev.succ ?_
   simp only[impl_Decide.l0]
   refine Ev.pos (by omega) (Ev.pos (by omega) (Ev.pos (by omega) (Ev.next (Ev.here (samp hp.1)) (Ev.pos rfl (Ev.next (Ev.here (samp hp.2)) (Ev.succ ?_))))))
   simp only[impl_Decide.j2]
   rw[qao (e:=i) (by omega)]
   have h1:=ih (i+1) (acc++qac (putG H (rd_T52 P (i:Int)).f0) H++qac (putG H (rd_T52 P (i:Int)).f1) H) (by omega) (by simp only[List.length_append,qaq];rw[Nat.mul_add];omega)
   refine Ev.neg (by simp) (Ev.next (qko H hH _ hp.1 acc (by omega)) (Ev.next (qko H hH _ hp.2 _ (by rw[List.length_append,qaq];omega)) (h1.to ?_)))
   simp only[decB,List.append_assoc]
theorem qpy (H:Nat) (hH:1≤H∧H≤4) (P:List S52) (hP:∀p∈P,inP 1000000000 p) (hl:2*H*P.length≤1024):Ev (fun k=>impl_Decide.f k ((2*H:Nat):Int) P) (decB H P P.length 0,true):=by
 have e:wrap64 ((P.length:Int)*((2*H:Nat):Int))=((2*H*P.length:Nat):Int):=by
  rw[←Int.natCast_mul,Nat.mul_comm,w64 (by omega) (by omega)]
 unfold impl_Decide.f
 rw[qfn,qjl hH,e]
 refine Ev.next (Ev.here rfl) (Ev.pos rfl (Ev.succ ?_))
 simp only[impl_Decide.j0]
 rw[qjk hH.2]
 exact Ev.neg (by rw[decide_eq_true_eq];exact Int.not_lt.2 (show((2*H*P.length:Nat):Int)≤((1024:Nat):Int) from Int.ofNat_le.2 hl)) (qpx H hH P hP hl P.length 0 [] (by omega) rfl)
theorem qpz (H:Nat) (hH:1≤H∧H≤4) (P:List S52) (hP:∀p∈P,inP 1000000000 p) (hl:2*H*P.length≤1024):∀(d i:Nat) (acc:List Int),i+d=P.length→acc.length=2*H*i→Ev (fun k=>spec_Decide.l0 k ((2*H:Nat):Int) P acc (i:Int)) (acc++decB H P d i,true):=by
 have hPl:P.length≤1024:=Nat.le_trans (Nat.le_mul_of_pos_left P.length (show 0<2*H by omega)) hl
 intro d
 induction d with
 | zero=>
   intro i acc hi ha
   refine Ev.succ ?_
   simp only[spec_Decide.l0]
   exact Ev.neg (by omega) (Ev.some_ (by simp[decB]))
 | succ d ih=>
   intro i acc hi ha
   have hp:=hP _ (qla (P:=P) (i:=i) (by omega))
   unfold inP at hp
   have hm:2*H*i≤2*H*P.length:=Nat.mul_le_mul_left _ (by omega)
   have e0:spec_l5Sample.f (rd_T52 P (i:Int)).f0=some true:=by rw[qlk];simp;omega
   have e1:spec_l5Sample.f (rd_T52 P (i:Int)).f1=some true:=by rw[qlk];simp;omega
   refine Ev.succ ?_
   simp only[spec_Decide.l0]
   refine Ev.pos (by omega) (Ev.pos (by omega) (Ev.next (Ev.here e0) (Ev.pos rfl (Ev.next (Ev.here e1) (Ev.succ ?_)))))
   simp only[spec_Decide.j2]
   rw[qao (e:=i) (by omega),qjk hH.2]
   have h1:=ih (i+1) (acc++qac (putG H (rd_T52 P (i:Int)).f0) H++qac (putG H (rd_T52 P (i:Int)).f1) H) (by omega) (by simp only[List.length_append,qaq];rw[Nat.mul_add];omega)
   refine Ev.neg (by simp) (Ev.pos (by omega) (Ev.pos (by omega) (Ev.next (qji H hH _ hp.1) (Ev.pos (by rw[qaq];omega) (Ev.next (Ev.some_ rfl) (Ev.next (qji H hH _ hp.2) (Ev.pos (by rw[List.length_append,qaq,qaq];omega) (h1.to ?_))))))))
   simp only[decB,List.append_assoc]
theorem qqa (H:Nat) (hH:1≤H∧H≤4) (P:List S52) (hP:∀p∈P,inP 1000000000 p) (hl:2*H*P.length≤1024):Ev (fun k=>spec_Decide.f k ((2*H:Nat):Int) P) (decB H P P.length 0,true):=by
 have e:wrap64 ((P.length:Int)*((2*H:Nat):Int))=((2*H*P.length:Nat):Int):=by
  rw[←Int.natCast_mul,Nat.mul_comm,w64 (by omega) (by omega)]
 unfold spec_Decide.f
 rw[qer,qjl hH,e]
 refine Ev.next (Ev.some_ rfl) (Ev.next (Ev.here rfl) (Ev.pos rfl (Ev.succ ?_)))
 simp only[spec_Decide.j0]
 exact Ev.neg (by rw[decide_eq_true_eq];exact Int.not_lt.2 (show((2*H*P.length:Nat):Int)≤((1024:Nat):Int) from Int.ofNat_le.2 hl)) (qpz H hH P hP hl P.length 0 [] (by omega) rfl)
def scG (Z o:List Int):Nat→Nat→List Int→List Int
 |0,_,acc=>acc
 |d+1,i,acc=>scG Z o d (i+1) (acc.set (rd o (i:Int)).toNat (rd Z (i:Int)))
theorem qkp (Z o:List Int):∀d i acc,(scG Z o d i acc).length=acc.length
 |0,_,_=>rfl
 |d+1,i,acc=>by simp only[scG];rw[qkp Z o d,List.length_set]
theorem qkq (Z o:List Int) (hZ:∀i:Nat,rd Z (i:Int)=0∨rd Z (i:Int)=1):∀d i acc,(∀x∈acc,x=0∨x=1)→∀x∈scG Z o d i acc,x=0∨x=1
 |0,_,acc,h,x,hx=>h x hx
 | d +1,i,acc,h,x,hx=>qkq Z o hZ d (i+1) _ (fun y hy=>by
     rcases List.mem_or_eq_of_mem_set hy with h1|h1
     · exact h y h1
     · rw[h1];exact hZ i) x hx
def qbx (Z:List Int) (r:Nat):List Int:=scG Z (qbe Z.length r) (qbe Z.length r).length 0 (List.replicate Z.length 0)
theorem qms (Z:List Int) (r:Nat):(qbx Z r).length=Z.length:=by unfold qbx;rw[qkp,List.length_replicate]
theorem qmt (Z:List Int) (r:Nat) (h:∀x∈Z,x=0∨x=1):∀x∈qbx Z r,x=0∨x=1:=
 qkq Z _ (qma h) _ _ _ (fun x hx=>Or.inl (List.eq_of_mem_replicate hx))
theorem qqb (Z o:List Int) (n:Nat) (hn:n≤1024) (hZ:Z.length=o.length) (hol:o.length≤100000) (ho:∀x∈o,0≤x∧x<(n:Int)):∀(d i:Nat) (acc:List Int),i+d=o.length→acc.length=n→Ev (fun k=>impl_Unweave.l0 k Z acc o (o.length:Int) (i:Int)) (scG Z o d i acc,true):=by
 intro d
 induction d with
 | zero=>
   intro i acc hi ha
   refine Ev.succ ?_
   simp only[impl_Unweave.l0]
   exact Ev.neg (by omega) (Ev.some_ rfl)
 | succ d ih=>
   intro i acc hi ha
   have hx:=ho _ (rd_mem (xs:=o) (i:=i) (by omega))
   refine Ev.succ ?_
   simp only[impl_Unweave.l0]
   rw[qao (e:=i) (by omega)]
   exact Ev.pos (by omega) (Ev.pos (by omega) (Ev.pos (by omega) (Ev.pos (by omega) (Ev.pos hx.1 (Ev.pos (by omega) (ih (i+1) _ (by omega) (by rw[List.length_set];exact ha)))))))
theorem qqc (Z o:List Int) (n:Nat) (hn:n≤1024) (hZ:Z.length=o.length) (hol:o.length≤100000) (ho:∀x∈o,0≤x∧x<(n:Int)):∀(d i:Nat) (acc:List Int),i+d=o.length→acc.length=n→Ev (fun k=>spec_Unweave.l0 k Z acc o (i:Int)) (scG Z o d i acc,true):=by
 intro d
 induction d with
 | zero=>
   intro i acc hi ha
   refine Ev.succ ?_
   simp only[spec_Unweave.l0]
   exact Ev.neg (by omega) (Ev.some_ rfl)
 | succ d ih=>
   intro i acc hi ha
   have hx:=ho _ (rd_mem (xs:=o) (i:=i) (by omega))
   refine Ev.succ ?_
   simp only[spec_Unweave.l0]
   rw[qao (e:=i) (by omega)]
   exact Ev.pos (by omega) (Ev.pos (by omega) (Ev.pos (by omega) (Ev.pos hx.1 (Ev.pos (by omega) (ih (i+1) _ (by omega) (by rw[List.length_set];exact ha))))))
theorem qqd (Z:List Int) (r:Nat) (hl:Z.length≤1024) (hr:1≤r∧r≤64):Ev (fun k=>impl_Unweave.f k Z (r:Int)) (qbx Z r,true):=by
 have hc:=qev Z.length r hr.1
 have e:impl_weaves.f Z (r:Int)=some true:=by
  unfold impl_weaves.f
  rw[if_pos (by omega),if_pos (by omega)];simp;omega
 unfold impl_Unweave.f
 refine Ev.next (Ev.here e) (Ev.pos rfl ?_)
 rw[Int.toNat_natCast]
 exact Ev.pos (by omega) (Ev.pos (by omega) (Ev.next (qpo Z.length r hl hr) (qqb Z (qbe Z.length r) Z.length hl (by omega) (by omega) (qed _ _ _ _ _) (qbe Z.length r).length 0 (List.replicate Z.length 0) (by omega) (by simp))))
theorem qqe (Z:List Int) (r:Nat) (hl:Z.length≤1024) (hr:1≤r∧r≤64):Ev (fun k=>spec_Unweave.f k Z (r:Int)) (qbx Z r,true):=by
 have hc:=qev Z.length r hr.1
 unfold spec_Unweave.f
 refine Ev.neg (by omega) (Ev.next (Ev.here (qax _ _ _)) (Ev.succ ?_))
 simp only[spec_Unweave.j0]
 rw[Int.toNat_natCast]
 exact Ev.neg (by simp;omega) (Ev.pos (by omega) (Ev.pos (by omega) (Ev.next (qpn Z.length r hl hr) (qqc Z (qbe Z.length r) Z.length hl (by omega) (by omega) (qed _ _ _ _ _) (qbe Z.length r).length 0 (List.replicate Z.length 0) (by omega) (by simp)))))
theorem qok (bs:List Int) (hl:bs.length≤1024) (hb:∀x∈bs,x=0∨x=1):∀(d i:Nat) (acc:List Int),i+d=bs.length→acc.length=(bs.length+7) / 8→Ev (fun k=>spec_Pack8.l0 k bs acc (i:Int)) (qbc bs d i acc,true):=by
 intro d
 induction d with
 | zero=>
   intro i acc hi ha
   refine Ev.succ ?_
   simp only[spec_Pack8.l0]
   exact Ev.neg (by omega) (Ev.some_ rfl)
 | succ d ih=>
   intro i acc hi ha
   have hx:=hb _ (rd_mem (xs:=bs) (i:=i) (by omega))
   have e1:wrap64 (Int.tdiv (i:Int) 8)=((i / 8:Nat):Int):=by rw[Int.tdiv_eq_ediv_of_nonneg (by omega),w64 (by omega) (by omega)];omega
   have e2:IntKind.u64.wrap (wrap64 (7-Int.tmod (i:Int) 8))=((7-i%8:Nat):Int):=by
    rw[Int.tmod_eq_emod_of_nonneg (by omega),w64 (by omega) (by omega),wu64 (by omega) (by omega)];omega
   refine Ev.succ ?_
   simp only[spec_Pack8.l0]
   rw[e1,e2,qao (e:=i) (by omega),qmc (7-i%8) (by omega) _ hx,Int.toNat_natCast]
   refine Ev.pos (by omega) (Ev.pos (by omega) (Ev.pos (by omega) (Ev.pos (by omega) (Ev.pos (by omega) ?_))))
   exact ih (i+1) _ (by omega) (by rw[List.length_set];exact ha)
theorem qol (bs:List Int) (hl:bs.length≤1024) (hb:∀x∈bs,x=0∨x=1):Ev (fun k=>spec_Pack8.f k bs) (qbh bs,true):=by
 have e:wrap64 (Int.tdiv (wrap64 ((bs.length:Int)+7)) 8)=(((bs.length+7) / 8:Nat):Int):=by
  rw[w64 (n:=(bs.length:Int)+7) (by omega) (by omega),Int.tdiv_eq_ediv_of_nonneg (by omega),w64 (by omega) (by omega)];omega
 unfold spec_Pack8.f
 rw[e,Int.toNat_natCast]
 refine Ev.next (qfm bs (by omega)) (Ev.pos (qeb.2 ⟨hb,hl⟩) (Ev.pos (by omega) (Ev.pos (by omega) ?_)))
 exact qok bs hl hb bs.length 0 _ (by omega) (by simp)
def qbo (a b:Int):Nat:=if absI a≥absI b then(if a≤0 then 2 else 0) else(if b>0 then 1 else 3)
def qad (air:List S52) (at_ R q:Nat) (si:Int) (i:Nat):S52:=
 ⟨rdv (qan ((4-q)%4) (ls0 (seg air (at_+R*(1+i)) R)) (ls1 (seg air (at_+R*(1+i)) R))).1 ((R:Int)*si),rdv (qan ((4-q)%4) (ls0 (seg air (at_+R*(1+i)) R)) (ls1 (seg air (at_+R*(1+i)) R))).2 ((R:Int)*si)⟩
def qae (air:List S52) (at_ R q:Nat) (si:Int) (n:Nat):List S52:=(List.range n).map (qad air at_ R q si)
theorem qdd (air:List S52) (at_ R q:Nat) (si:Int) (n:Nat):(qae air at_ R q si n).length=n:=by simp[qae]
theorem qej (air:List S52) (at_ R q:Nat) (si:Int) (n:Nat):qae air at_ R q si (n+1)=qae air at_ R q si n++[qad air at_ R q si n]:=by unfold qae;rw[List.range_succ,List.map_append];rfl
theorem qga {air:List S52} (hb:∀p∈air,inP 1000000000 p) {a R:Nat} (h:a+R≤air.length):(-(1000000000*R)≤ls0 (seg air a R)∧ls0 (seg air a R)≤1000000000*R)∧(-(1000000000*R)≤ls1 (seg air a R)∧ls1 (seg air a R)≤1000000000*R):=by
 have:=qht (N:=1000000000) (by omega) (seg air a R) (qfz hb a R)
 rwa[qeo h] at this
theorem qcz (N:Int) (hN:0≤N∧N≤100000000000):∀(q:Nat) (a b:Int),(-N≤a∧a≤N)→(-N≤b∧b≤N)→(-N≤(qan q a b).1∧(qan q a b).1≤N)∧(-N≤(qan q a b).2∧(qan q a b).2≤N)
 |0,a,b,ha,hb=>⟨ha,hb⟩
 | q+1,a,b,ha,hb=>by
   simp only[qan]
   rw[w64 (by omega) (by omega)]
   exact qcz N hN q (-b) a (by omega) ha
theorem qmu {air:List S52} (hb:∀p∈air,inP 1000000000 p) {at_ R q:Nat} {si:Int} (hs:1≤si∧si≤10000) (hR:1≤R∧R≤8) {i:Nat} (h:at_+R*(1+i)+R≤air.length):inP 1000000000 (qad air at_ R q si i):=by
 have h1:=qga hb h
 have h2:=qcz (1000000000*R) (by omega) ((4-q)%4) _ _ h1.1 h1.2
 have h3:(R:Int)*1≤(R:Int)*si:=Int.mul_le_mul_of_nonneg_left hs.1 (by omega)
 have h4:1000000000*((R:Int)*1)≤1000000000*((R:Int)*si):=Int.mul_le_mul_of_nonneg_left h3 (by omega)
 unfold inP qad
 exact⟨qmn (by omega) (by omega) (by omega),qmn (by omega) (by omega) (by omega)⟩
theorem qjm (x:Int) (h: -1000000000000≤x∧x≤1000000000000):impl_size.f x=some (absI x):=qio h
theorem qjn (x:Int) (h: -1000000000000≤x∧x≤1000000000000):spec_l18Size.f x=some (absI x):=qfd x h
theorem qll {R:Nat} {si:Int} (hR:1≤R∧R≤8) (hs:1≤si∧si≤10000):1≤(R:Int)*si∧(R:Int)*si≤80000:=by
 have h3:(R:Int)*1≤(R:Int)*si:=Int.mul_le_mul_of_nonneg_left hs.1 (by omega)
 have h4:(R:Int)*si≤(R:Int)*10000:=Int.mul_le_mul_of_nonneg_left hs.2 (by omega)
 omega
theorem qmv {at_ R i:Nat} (ha:at_≤4096) (hi:i≤1000) (hR:R≤8):wrap64 ((at_:Int)+wrap64 ((R:Int)*wrap64 (1+(i:Int))))=((at_+R*(1+i):Nat):Int)∧wrap64 ((at_:Int)+wrap64 (((1+i:Nat):Int)*(R:Int)))=((at_+R*(1+i):Nat):Int):=by
 have hm:R*(1+i)≤8*1001:=Nat.mul_le_mul hR (by omega)
 obtain⟨X,hX⟩:∃X,X=R*(1+i):=⟨_,rfl⟩
 have e1:wrap64 (1+(i:Int))=((1+i:Nat):Int):=by rw[w64 (by omega) (by omega)];omega
 have e2:(R:Int)*((1+i:Nat):Int)=(X:Int):=by rw[hX,Int.natCast_mul]
 have e3:((1+i:Nat):Int)*(R:Int)=(X:Int):=by rw[Int.mul_comm];exact e2
 rw[←hX] at hm ⊢
 rw[e1,e2,e3]
 clear e1 e2 e3 hX
 have e4:wrap64 (X:Int)=(X:Int):=w64 (by omega) (by omega)
 rw[e4,w64 (by omega) (by omega)]
 exact⟨by omega,by omega⟩
theorem qho {q:Nat} (hq:q≤3):Int.tmod (wrap64 (4-(q:Int))) 4=(((4-q)%4:Nat):Int):=by
 rw[w64 (by omega) (by omega),Int.tmod_eq_emod_of_nonneg (by omega)];omega
theorem qjo {X R:Nat} (h:X+R≤5000):wrap64 ((X:Int)+(R:Int))=((X+R:Nat):Int):=by rw[w64 (by omega) (by omega)];omega
theorem RS_w {R:Nat} {si:Int} (hR:1≤R∧R≤8) (hs:1≤si∧si≤10000):wrap64 ((R:Int)*si)=(R:Int)*si:=by
 have:=qll hR hs
 exact w64 (by omega) (by omega)
theorem qom (q:Nat) (hq:q≤100) (a b:Int):Ev (fun k=>impl_turned.f k a b (q:Int)) (qan q a b):=by
 unfold impl_turned.f
 exact qfr q hq q 0 a b (by omega)
theorem qon (q:Nat) (hq:q≤100) (a b:Int):Ev (fun k=>spec_l18Quarter.f k a b (q:Int)) (qan q a b):=by
 unfold spec_l18Quarter.f
 exact qey q a b hq
theorem qqf {Q:List Int×Int×Bool→Prop} (air:List S52) (ha:air.length≤4096) (hb:∀p∈air,inP 1000000000 p) (at_ R q n:Nat) (si:Int) (hR:1≤R∧R≤8) (hs:1≤si∧si≤10000) (hq:q≤3) (hn:n≤1000) (hfit:at_+R*(1+n)≤air.length) (x2 x10 w m r s:Int)
 (H:EvP (fun k=>(impl_Decide.f k w (qae air at_ R q si n)).bind fun bt=>if 0≤x10 then(if x10≤(bt.1.length:Int) then(impl_Stir.f k (bt.1.take x10.toNat) 46080 s).bind fun bt2=>(impl_Unweave.f k bt2.1 r).bind fun bt3=>(impl_pack8.f k bt3.1).bind fun t=>(impl_RsMend.f k t m).bind fun bt4=>if bt4.2.2=true then(if 0≤x2 then(if x2≤(bt4.1.length:Int) then some (bt4.1.take x2.toNat,bt4.2.1,true) else none) else none) else some ([],0,false) else none) else none) Q):
 ∀(d i:Nat),i+d=n→EvP (fun k=>impl_Hear.l0 k air x2 (at_:Int) x10 (q:Int) (qae air at_ R q si i) (n:Int) (i:Int) w m r s (R:Int) si) Q:=by
 intro d
 induction d with
 | zero=>
   intro i hi
   have:i=n:=by omega
   subst this
   refine EvP.succ ?_
   simp only[impl_Hear.l0]
   exact EvP.neg (by omega) H
 | succ d ih=>
   intro i hi
   have hle:R*(1+i)+R≤R*(1+n):=by
    have:R*(2+i)≤R*(1+n):=Nat.mul_le_mul_left R (by omega)
    rw[show 2+i=1+i+1 by omega,Nat.mul_succ] at this
    exact this
   have hsg:at_+R*(1+i)+R≤air.length:=by omega
   have hat:at_≤4096:=by omega
   have hi2:i≤1000:=by omega
   have hc:at_+R*(1+i)+R≤5000:=by omega
   have hd2:1+i≤9000000000000000000:=by omega
   have h1:=qga hb hsg
   have h2:=qcz (1000000000*R) (by omega) ((4-q)%4) _ _ h1.1 h1.2
   have h3:=qll hR hs
   have nx:=ih (i+1) (by omega)
   rw[qej] at nx
   have hS:Ev (fun k=>impl_sum.f k ((air.take (at_+R*(1+i)+R)).drop (at_+R*(1+i)))) (ls0 (seg air (at_+R*(1+i)) R),ls1 (seg air (at_+R*(1+i)) R)):=qjg (seg air (at_+R*(1+i)) R) (by rw[qeo hsg];exact hR.2) (qfz hb _ _)
   have hT:=qom ((4-q)%4) (by omega) (ls0 (seg air (at_+R*(1+i)) R)) (ls1 (seg air (at_+R*(1+i)) R))
   have hA:=qeh (qan ((4-q)%4) (ls0 (seg air (at_+R*(1+i)) R)) (ls1 (seg air (at_+R*(1+i)) R))).1 ((R:Int)*si) (by omega) (by omega)
   have hB:=qeh (qan ((4-q)%4) (ls0 (seg air (at_+R*(1+i)) R)) (ls1 (seg air (at_+R*(1+i)) R))).2 ((R:Int)*si) (by omega) (by omega)
   clear h1 h2 h3 H ih
   refine EvP.succ ?_
   simp only[impl_Hear.l0]
   rw[(qmv hat hi2 hR.2).1,qjo hc,qho hq,RS_w hR hs,qao (e:=i) (by omega),Int.toNat_natCast,Int.toNat_natCast]
   refine EvP.pos (by omega) (EvP.pos (by omega) (EvP.pos (by omega) (EvP.pos (by omega) (EvP.on hS ?_))))
   try dsimp only
   refine EvP.on hT ?_
   try dsimp only
   exact EvP.on hA (EvP.on hB (EvP.pos (by rw[qdd];omega) nx))
theorem qqg {Q:List Int×Int×Bool→Prop} (air:List S52) (ha:air.length≤4096) (hb:∀p∈air,inP 1000000000 p) (at_ R q n:Nat) (si:Int) (hR:1≤R∧R≤8) (hs:1≤si∧si≤10000) (hq:q≤3) (hn:n≤1000) (hfit:at_+R*(1+n)≤air.length) (x2 x11 w m r s:Int) (x9:List Int)
 (H:EvP (fun k=>(spec_Decide.f k w (qae air at_ R q si n)).bind fun bt474=>(if bt474.2=true then(if 0≤x11 then(if x11≤(bt474.1.length:Int) then((spec_Stir.f k (bt474.1.take (x11:Int).toNat) 46080 s).bind fun bt482=>((spec_Unweave.f k bt482.1 r).bind fun bt486=>((spec_Pack8.f k bt486.1).bind fun bt490=>((spec_RsMend.f k bt490.1 m).bind fun bt494=>(if bt494.2.2=true then(if 0≤x2 then(if x2≤(bt494.1.length:Int) then(some ((bt494.1.take (x2:Int).toNat),bt494.2.1,true)) else(none)) else(none)) else(some (x9,0,false))))))) else(none)) else(none)) else(some (x9,0,false)))) Q):
 ∀(d i:Nat),i+d=n→EvP (fun k=>spec_Hear.l0 k air x2 x9 (at_:Int) x11 (n:Int) (q:Int) (qae air at_ R q si i) ((1+i:Nat):Int) w m r s (R:Int) si) Q:=by
 intro d
 induction d with
 | zero=>
   intro i hi
   have:i=n:=by omega
   subst this
   refine EvP.succ ?_
   simp only[spec_Hear.l0]
   exact EvP.neg (by omega) H
 | succ d ih=>
   intro i hi
   have hle:R*(1+i)+R≤R*(1+n):=by
    have:R*(2+i)≤R*(1+n):=Nat.mul_le_mul_left R (by omega)
    rw[show 2+i=1+i+1 by omega,Nat.mul_succ] at this
    exact this
   have hsg:at_+R*(1+i)+R≤air.length:=by omega
   have hat:at_≤4096:=by omega
   have hi2:i≤1000:=by omega
   have hc:at_+R*(1+i)+R≤5000:=by omega
   have hd2:1+i≤9000000000000000000:=by omega
   have h1:=qga hb hsg
   have h2:=qcz (1000000000*R) (by omega) ((4-q)%4) _ _ h1.1 h1.2
   have h3:=qll hR hs
   have nx:=ih (i+1) (by omega)
   rw[qej] at nx
   have hS:=qjh air ha hb (at_+R*(1+i)) R hsg hR.2
   have hT:=qon ((4-q)%4) (by omega) (ls0 (seg air (at_+R*(1+i)) R)) (ls1 (seg air (at_+R*(1+i)) R))
   have hA:=qei (qan ((4-q)%4) (ls0 (seg air (at_+R*(1+i)) R)) (ls1 (seg air (at_+R*(1+i)) R))).1 ((R:Int)*si) (by omega) (by omega)
   have hB:=qei (qan ((4-q)%4) (ls0 (seg air (at_+R*(1+i)) R)) (ls1 (seg air (at_+R*(1+i)) R))).2 ((R:Int)*si) (by omega) (by omega)
   clear h1 h2 h3 H ih
   refine EvP.succ ?_
   simp only[spec_Hear.l0]
   rw[(qmv hat hi2 hR.2).2,qho hq,RS_w hR hs,qao (e:=1+i) hd2]
   refine EvP.pos (by omega) (EvP.on hS ?_)
   try dsimp only
   refine EvP.on hT ?_
   try dsimp only
   exact EvP.on hA (EvP.on hB (EvP.pos (by rw[qdd];omega) nx))
def qcd (air:List S52) (at_ R q:Nat) (si:Int) (n H L:Nat) (s:Int) (r:Nat):List Int:=qbx (qaj s ((decB H (qae air at_ R q si n) n 0).take L)) r
structure qbi (air:List S52) (at_ R q n H L M x:Nat) (si s:Int) (r:Nat):Prop where
 jR:1≤R∧R≤8
 jH:1≤H∧H≤4
 jsi:1≤si∧si≤10000
 js:1≤s∧s≤65535
 jr:1≤r∧r≤64
 jq:q≤3
 ja:air.length≤4096
 jb:∀p∈air,inP 1000000000 p
 jfit:at_+R*(1+n)≤air.length
 jL:L=8*(x+2*M)
 jx:1≤x∧x≤40
 jM:1≤M∧M≤8
 jn:L≤2*H*n∧2*H*n<L+2*H
theorem qbi.nle {air:List S52} {at_ R q n H L M x:Nat} {si s:Int} {r:Nat} (h:qbi air at_ R q n H L M x si s r):n≤500∧2*H*n≤1000:=by
 have h1:=h.jn
 have h2:=h.jL
 have h3:=h.jx
 have h4:=h.jM
 have h5:=h.jH
 have h6:2*n≤2*H*n:=Nat.mul_le_mul_right n (by omega)
 omega
theorem qbi.pts {air:List S52} {at_ R q n H L M x:Nat} {si s:Int} {r:Nat} (h:qbi air at_ R q n H L M x si s r):∀p∈qae air at_ R q si n,inP 1000000000 p:=fun p hp=>by
 obtain⟨i,hi,rfl⟩:=List.mem_map.1 hp
 rw[List.mem_range] at hi
 have:R*(1+i)+R≤R*(1+n):=by
  have h2:R*(2+i)≤R*(1+n):=Nat.mul_le_mul_left R (by omega)
  rw[show 2+i=1+i+1 by omega,Nat.mul_succ] at h2
  exact h2
 exact qmu h.jb h.jsi h.jR (by have:=h.jfit;omega)
theorem qbi.bits {air:List S52} {at_ R q n H L M x:Nat} {si s:Int} {r:Nat} (h:qbi air at_ R q n H L M x si s r):(∀y∈(decB H (qae air at_ R q si n) n 0).take L,y=0∨y=1)∧((decB H (qae air at_ R q si n) n 0).take L).length=L:=by
 refine⟨fun y hy=>qjj _ _ _ _ y (List.mem_of_mem_take hy),?_⟩
 rw[List.length_take,qfe]
 have:=h.jn
 omega
theorem qbi.stir {air:List S52} {at_ R q n H L M x:Nat} {si s:Int} {r:Nat} (h:qbi air at_ R q n H L M x si s r):qdh ((decB H (qae air at_ R q si n) n 0).take L) s=(qaj s ((decB H (qae air at_ R q si n) n 0).take L),true):=by
 unfold qdh
 rw[if_pos (qeb.2 ⟨h.bits.1,by rw[h.bits.2];have:=h.nle;have:=h.jn;omega⟩)]
theorem qbi.packed {air:List S52} {at_ R q n H L M x:Nat} {si s:Int} {r:Nat} (h:qbi air at_ R q n H L M x si s r):(qaj s ((decB H (qae air at_ R q si n) n 0).take L)).length=L∧(qcd air at_ R q si n H L s r).length=L∧(∀y∈qcd air at_ R q si n H L s r,y=0∨y=1)∧(qbh (qcd air at_ R q si n H L s r)).length=x+2*M:=by
 have h1:(qaj s ((decB H (qae air at_ R q si n) n 0).take L)).length=L:=by rw[qfp,h.bits.2]
 have h2:(qcd air at_ R q si n H L s r).length=L:=by unfold qcd;rw[qms,h1]
 refine⟨h1,h2,qmt _ _ (qew _ _ h.bits.1),?_⟩
 rw[qkz,h2]
 have:=h.jL
 omega
theorem qmw {air:List S52} {at_ R q n H L M x:Nat} {si s:Int} {r:Nat} (h:qbi air at_ R q n H L M x si s r):∃res:List Int×Int×Bool,isB res.1∧res.1.length≤40∧
 EvP (fun k=>(impl_Decide.f k ((2*H:Nat):Int) (qae air at_ R q si n)).bind fun bt=>if 0≤(L:Int) then(if(L:Int)≤(bt.1.length:Int) then(impl_Stir.f k (bt.1.take (L:Int).toNat) 46080 s).bind fun bt2=>(impl_Unweave.f k bt2.1 (r:Int)).bind fun bt3=>(impl_pack8.f k bt3.1).bind fun t=>(impl_RsMend.f k t (M:Int)).bind fun bt4=>if bt4.2.2=true then(if 0≤(x:Int) then(if(x:Int)≤(bt4.1.length:Int) then some (bt4.1.take (x:Int).toNat,bt4.2.1,true) else none) else none) else some ([],0,false) else none) else none) (· =res)∧
 EvP (fun k=>(spec_Decide.f k ((2*H:Nat):Int) (qae air at_ R q si n)).bind fun bt474=>(if bt474.2=true then(if 0≤(L:Int) then(if(L:Int)≤(bt474.1.length:Int) then((spec_Stir.f k (bt474.1.take (L:Int).toNat) 46080 s).bind fun bt482=>((spec_Unweave.f k bt482.1 (r:Int)).bind fun bt486=>((spec_Pack8.f k bt486.1).bind fun bt490=>((spec_RsMend.f k bt490.1 (M:Int)).bind fun bt494=>(if bt494.2.2=true then(if 0≤(x:Int) then(if(x:Int)≤(bt494.1.length:Int) then(some ((bt494.1.take (x:Int).toNat),bt494.2.1,true)) else(none)) else(none)) else(some (([]:List Int),0,false))))))) else(none)) else(none)) else(some (([]:List Int),0,false)))) (· =res):=by
 have hx:=h.jx
 have hM:=h.jM
 have hL:=h.jL
 have hn:=h.jn
 have hnl:=h.nle
 have hpk:=h.packed
 have hb:=h.bits
 have hpl:=qdd air at_ R q si n
 have hst:=h.stir
 have hpts:=h.pts
 have hdl:=qfe H (qae air at_ R q si n) n 0
 have hs2:=h.js
 have hr2:=h.jr
 have hH:=h.jH
 obtain⟨v,e1,e2,hv⟩:=qmm (qbh (qcd air at_ R q si n H L s r)) (qmd _) M hM (by rw[hpk.2.2.2];omega) (by rw[hpk.2.2.2];omega)
 rw[hpk.2.2.2] at hv
 have hI:=qpy H hH (qae air at_ R q si n) hpts (by rw[hpl];omega)
 have hS:=qqa H hH (qae air at_ R q si n) hpts (by rw[hpl];omega)
 rw[hpl] at hI hS
 generalize hD:decB H (qae air at_ R q si n) n 0=D at*
 have hst1:=qnm (D.take L) s (by rw[hb.2];omega) hs2
 have hst2:=qnl (D.take L) s (by rw[hb.2];omega) hs2
 rw[hst] at hst1 hst2
 have hu1:=qqd (qaj s (D.take L)) r (by rw[hpk.1];omega) hr2
 have hu2:=qqe (qaj s (D.take L)) r (by rw[hpk.1];omega) hr2
 have hbe:qbx (qaj s (D.take L)) r=qcd air at_ R q si n H L s r:=by unfold qcd;rw[hD]
 rw[hbe] at hu1 hu2
 have hp1:=qnq (qcd air at_ R q si n H L s r) (by rw[hpk.2.1];omega) hpk.2.2.1
 have hp2:=qol (qcd air at_ R q si n H L s r) (by rw[hpk.2.1];omega) hpk.2.2.1
 have hend:∃res:List Int×Int×Bool,isB res.1∧res.1.length≤40∧(if v.2.2=true then(if 0≤(x:Int) then(if(x:Int)≤(v.1.length:Int) then some (v.1.take (x:Int).toNat,v.2.1,true) else none) else none) else some (([]:List Int),(0:Int),false))=some res:=by
  rcases hv with⟨h1,h2,h3⟩|⟨h1,h2,h3⟩
  · exact⟨([],0,false),(fun y hy=>by cases hy),Nat.zero_le _,by rw[if_neg (by rw[h3];decide)]⟩
  · refine⟨(v.1.take x,v.2.1,true),(fun y hy=>h1 y (List.mem_of_mem_take hy)),by rw[List.length_take];omega,?_⟩
    rw[if_pos h3,if_pos (by omega),if_pos (by omega),Int.toNat_natCast]
 obtain⟨res,hr1,hr3,hr4⟩:=hend
 refine⟨res,hr1,hr3,?_,?_⟩
 · refine EvP.on hI (EvP.pos (by omega) (EvP.pos (show(L:Int)≤(D.length:Int) by omega) ?_))
   rw[Int.toNat_natCast]
   refine EvP.on hst1 (EvP.on hu1 (EvP.on hp1 (EvP.on e1 ?_)))
   exact⟨res,⟨0,fun k _=>hr4⟩,rfl⟩
 · refine EvP.on hS (EvP.pos rfl (EvP.pos (by omega) (EvP.pos (show(L:Int)≤(D.length:Int) by omega) ?_)))
   rw[Int.toNat_natCast]
   refine EvP.on hst2 (EvP.on hu2 (EvP.on hp2 (EvP.on e2 ?_)))
   exact⟨res,⟨0,fun k _=>hr4⟩,rfl⟩
theorem qmx (a b:Int):qbo a b≤3:=by unfold qbo;split<;>split<;>omega
theorem qoo (x:Int):impl_sentOk.f x=some (decide (1≤x∧x≤40)):=by
 unfold impl_sentOk.f
 by_cases h:x≥1
 · rw[if_pos h]
   congr 1
   rw[Bool.eq_iff_iff,decide_eq_true_eq,decide_eq_true_eq]
   omega
 · rw[if_neg h]
   congr 1
   rw[Bool.eq_iff_iff,decide_eq_true_eq]
   constructor
   · intro e;cases e
   · intro e;omega
theorem qep (air:List S52) (x2 w m r s ra si:Int):Ev (fun k=>impl_Hear.j0 k air x2 true w m r s ra si) ([],0,false):=by
 refine Ev.succ ?_
 simp only[impl_Hear.j0]
 exact Ev.pos trivial (Ev.some_ rfl)
theorem qeq (air:List S52) (x2 w m r s ra si:Int):Ev (fun k=>spec_Hear.j0 k air x2 [] true w m r s ra si) ([],0,false):=by
 refine Ev.succ ?_
 simp only[spec_Hear.j0]
 exact Ev.pos trivial (Ev.some_ rfl)
theorem qmy (air:List S52) (x2 x9 x10 x11 w m r s ra si:Int):Ev (fun k=>impl_Hear.j1 k air x2 x9 x10 x11 true w m r s ra si) ([],0,false):=by
 refine Ev.succ ?_
 simp only[impl_Hear.j1]
 exact Ev.pos trivial (Ev.some_ rfl)
theorem qmz (air:List S52) (x2 x10 x11 x12 w m r s ra si:Int):Ev (fun k=>spec_Hear.j1 k air x2 [] x10 x11 x12 true w m r s ra si) ([],0,false):=by
 refine Ev.succ ?_
 simp only[spec_Hear.j1]
 exact Ev.pos trivial (Ev.some_ rfl)
def symN (H L:Nat):Nat:=(L+2*H-1) / (2*H)
theorem qjp {H L:Nat} (hH:1≤H):L≤2*H*symN H L∧2*H*symN H L<L+2*H:=by
 have h1:=Nat.div_add_mod (L+2*H-1) (2*H)
 have h2:=Nat.mod_lt (L+2*H-1) (show 2*H>0 by omega)
 unfold symN
 omega
theorem qrc {H L:Nat} (hH:1≤H∧H≤4) (hL:L≤1000):wrap64 (Int.tdiv (wrap64 (wrap64 ((L:Int)+((2*H:Nat):Int))-1)) ((2*H:Nat):Int))=((symN H L:Nat):Int)∧symN H L≤1000:=by
 have hle:symN H L≤1000:=by
  have h1:=(qjp (H:=H) (L:=L) hH.1).2
  have h2:2*symN H L≤2*H*symN H L:=Nat.mul_le_mul_right _ (by omega)
  omega
 refine⟨?_,hle⟩
 have e1:wrap64 (wrap64 ((L:Int)+((2*H:Nat):Int))-1)=((L+2*H-1:Nat):Int):=by
  rw[w64 (n:=(L:Int)+_) (by omega) (by omega),w64 (by omega) (by omega)];omega
 rw[e1,Int.tdiv_eq_ediv_of_nonneg (by omega)]
 rw[show((L+2*H-1:Nat):Int) / ((2*H:Nat):Int)=((symN H L:Nat):Int) by unfold symN;rw[Int.natCast_ediv]]
 exact w64 (by omega) (by omega)
theorem qqw {x M:Nat} (hx:x≤40) (hM:M≤8):wrap64 (8*wrap64 ((x:Int)+wrap64 (2*(M:Int))))=((8*(x+2*M):Nat):Int):=by
 rw[w64 (n:=2*(M:Int)) (by omega) (by omega),w64 (n:=(x:Int)+2*(M:Int)) (by omega) (by omega),w64 (by omega) (by omega)];omega
theorem qrd {A a R n:Nat} (ha:a≤4096) (hA:A≤4096) (hR:R≤8) (hn:n≤1000):decide (wrap64 ((A:Int)-(a:Int))<wrap64 ((R:Int)*wrap64 (1+(n:Int))))=decide (A<a+R*(1+n))∧decide (wrap64 ((a:Int)+wrap64 ((R:Int)*wrap64 ((n:Int)+1)))>(A:Int))=decide (A<a+R*(1+n)):=by
 have hm:R*(1+n)≤8*1001:=Nat.mul_le_mul hR (by omega)
 obtain⟨X,hX⟩:∃X,X=R*(1+n):=⟨_,rfl⟩
 have e1:wrap64 (1+(n:Int))=((1+n:Nat):Int):=by rw[w64 (by omega) (by omega)];omega
 have e2:(R:Int)*((1+n:Nat):Int)=(X:Int):=by rw[hX,Int.natCast_mul]
 have e0:(n:Int)+1=1+(n:Int):=by omega
 rw[←hX] at hm ⊢
 rw[e0,e1,e2]
 clear e0 e1 e2 hX
 have e4:wrap64 (X:Int)=(X:Int):=w64 (by omega) (by omega)
 rw[e4]
 clear e4
 rw[w64 (n:=(A:Int)-(a:Int)) (by omega) (by omega),w64 (n:=(a:Int)+(X:Int)) (by omega) (by omega)]
 constructor
 · rw[Bool.eq_iff_iff,decide_eq_true_eq,decide_eq_true_eq];omega
 · rw[Bool.eq_iff_iff,decide_eq_true_eq,decide_eq_true_eq];omega
theorem qkr {air:List S52} (hb:∀p∈air,inP 1000000000 p) {a R:Nat} (h:a+R≤air.length) (hR:R≤8):(-1000000000000≤ls0 (seg air a R)∧ls0 (seg air a R)≤1000000000000)∧(-1000000000000≤ls1 (seg air a R)∧ls1 (seg air a R)≤1000000000000):=by
 have:=qga hb h
 omega
theorem qqh (air:List S52) (ha:air.length≤4096) (hb:∀p∈air,inP 1000000000 p) (a R n:Nat) (hR:1≤R∧R≤8) (h:a+R*(1+n)≤air.length) (x2 x10 w m r s si:Int) {Q:List Int×Int×Bool→Prop}
 (H:EvP (fun k=>impl_Hear.j2 k air x2 (a:Int) x10 (n:Int) ((qbo (ls0 (seg air a R)) (ls1 (seg air a R)):Nat):Int) w m r s (R:Int) si) Q):EvP (fun k=>impl_Hear.j1 k air x2 (a:Int) x10 (n:Int) false w m r s (R:Int) si) Q:=by
 have hle:R≤R*(1+n):=Nat.le_mul_of_pos_right R (by omega)
 have h1:a+R≤air.length:=by omega
 have hbd:=qkr hb h1 hR.2
 have hS:Ev (fun k=>impl_sum.f k ((air.take (a+R)).drop a)) (ls0 (seg air a R),ls1 (seg air a R)):=qjg (seg air a R) (by rw[qeo h1];exact hR.2) (qfz hb _ _)
 have e:=qjo (X:=a) (R:=R) (by omega)
 refine EvP.succ ?_
 simp only[impl_Hear.j1]
 rw[e,Int.toNat_natCast,Int.toNat_natCast]
 clear e
 refine EvP.neg (by decide) (EvP.pos (by omega) (EvP.pos (by omega) (EvP.pos (by omega) (EvP.on hS ?_))))
 try dsimp only
 refine EvP.on (Ev.here (qjm _ hbd.1)) (EvP.on (Ev.here (qjm _ hbd.2)) ?_)
 unfold qbo at H
 refine EvP.both (fun h2=> ?_) (fun h2=> ?_)
 · rw[if_pos h2] at H
   refine EvP.both (fun h3=> ?_) (fun h3=> ?_)
   · rw[if_pos h3] at H;exact H
   · rw[if_neg h3] at H;exact H
 · rw[if_neg h2] at H
   refine EvP.both (fun h3=> ?_) (fun h3=> ?_)
   · rw[if_pos h3] at H;exact H
   · rw[if_neg h3] at H;exact H
theorem qqi (air:List S52) (ha:air.length≤4096) (hb:∀p∈air,inP 1000000000 p) (a R n:Nat) (hR:1≤R∧R≤8) (h:a+R*(1+n)≤air.length) (x2 x11 w m r s si:Int) {Q:List Int×Int×Bool→Prop}
 (H:EvP (fun k=>spec_Hear.j4 k air x2 [] (a:Int) x11 (n:Int) ((qbo (ls0 (seg air a R)) (ls1 (seg air a R)):Nat):Int) w m r s (R:Int) si) Q):EvP (fun k=>spec_Hear.j1 k air x2 [] (a:Int) x11 (n:Int) false w m r s (R:Int) si) Q:=by
 have hle:R≤R*(1+n):=Nat.le_mul_of_pos_right R (by omega)
 have h1:a+R≤air.length:=by omega
 have hbd:=qkr hb h1 hR.2
 have hS:=qjh air ha hb a R h1 hR.2
 generalize ls0 (seg air a R)=A at*
 generalize ls1 (seg air a R)=B at*
 have z1:Ev (fun _=>spec_l18Size.f A) (absI A):=Ev.here (qjn _ hbd.1)
 have z2:Ev (fun _=>spec_l18Size.f B) (absI B):=Ev.here (qjn _ hbd.2)
 have h3t:B>0→absI A<absI B→EvP (fun k=>spec_Hear.j3 k air x2 [] (a:Int) x11 (n:Int) 0 true w m r s (R:Int) si A B) Q:=fun hp hq=>by
  refine EvP.succ ?_
  simp only[spec_Hear.j3]
  unfold qbo at H
  rw[if_neg (by omega),if_pos hp] at H
  exact EvP.pos trivial H
 have h3f:¬(B>0∧absI A<absI B)→¬(absI A≥absI B∧A≤0)→EvP (fun k=>spec_Hear.j3 k air x2 [] (a:Int) x11 (n:Int) 0 false w m r s (R:Int) si A B) Q:=fun hp hn=>by
  refine EvP.succ ?_
  simp only[spec_Hear.j3]
  refine EvP.neg (by decide) (EvP.on z1 (EvP.on z2 ?_))
  unfold qbo at H
  refine EvP.both (fun h4=> ?_) (fun h4=> ?_)
  · rw[if_neg (by omega),if_neg (fun h5=>hp ⟨h5,h4⟩)] at H
    exact H
  · rw[if_pos (by omega),if_neg (fun h5=>hn ⟨by omega,h5⟩)] at H
    exact H
 have h2t:absI A≥absI B→A≤0→EvP (fun k=>spec_Hear.j2 k air x2 [] (a:Int) x11 (n:Int) 0 true w m r s (R:Int) si A B) Q:=fun hp hq=>by
  refine EvP.succ ?_
  simp only[spec_Hear.j2]
  unfold qbo at H
  rw[if_pos hp,if_pos hq] at H
  exact EvP.pos trivial H
 have h2f:¬(absI A≥absI B∧A≤0)→EvP (fun k=>spec_Hear.j2 k air x2 [] (a:Int) x11 (n:Int) 0 false w m r s (R:Int) si A B) Q:=fun hn=>by
  refine EvP.succ ?_
  simp only[spec_Hear.j2]
  refine EvP.neg (by decide) (EvP.on z1 (EvP.on z2 ?_))
  refine EvP.both (fun h4=> ?_) (fun h4=> ?_)
  · by_cases h5:B>0
    · rw[decide_eq_true h5];exact h3t h5 h4
    · rw[decide_eq_false h5];exact h3f (fun h6=>h5 h6.1) hn
  · exact h3f (fun h6=>h4 h6.2) hn
 refine EvP.succ ?_
 simp only[spec_Hear.j1]
 refine EvP.neg (by decide) (EvP.on hS ?_)
 try dsimp only
 refine EvP.on z1 (EvP.on z2 ?_)
 refine EvP.both (fun h4=> ?_) (fun h4=> ?_)
 · by_cases h5:A≤0
   · rw[decide_eq_true h5];exact h2t h4 h5
   · rw[decide_eq_false h5];exact h2f (fun h6=>h5 h6.2)
 · exact h2f (fun h6=>h4 h6.1)
theorem qna (w m r s ra si:Int) (air:List S52) (hlen:air.length≤1048576) (x2:Int):∃res:List Int×Int×Bool,isB res.1∧res.1.length≤40∧Ev (fun k=>impl_Hear.f k w m r s ra si air x2) res∧Ev (fun k=>spec_Hear.f k w m r s ra si air x2) res:=by
 have hfail:isB (([],0,false):List Int×Int×Bool).1∧(([],0,false):List Int×Int×Bool).1.length≤40:=⟨(fun y hy=>by cases hy),Nat.zero_le _⟩
 have hI:impl_burstOk.f air=some (qdj air):=rfl
 have hSb:=qmp air (by omega)
 unfold impl_Hear.f spec_Hear.f
 simp only[qjr,qjs,qoo,hI,qax]
 cases hm:qbw w m r s ra si with
 |false=>exact⟨_,hfail.1,hfail.2,Ev.next (Ev.here rfl) (Ev.neg (by simp) (qep air x2 w m r s ra si)),Ev.next (Ev.some_ rfl) (Ev.next (Ev.here rfl) (Ev.neg (by simp) (qeq air x2 w m r s ra si)))⟩
 | true=>
   cases hbu:qdj air with
   | false=>
     rw[hbu] at hSb
     exact⟨_,hfail.1,hfail.2,Ev.next (Ev.here rfl) (Ev.pos rfl (Ev.next (Ev.here rfl) (Ev.neg (by simp) (qep air x2 w m r s ra si)))),Ev.next (Ev.some_ rfl) (Ev.next (Ev.here rfl) (Ev.pos rfl (Ev.next hSb (Ev.neg (by simp) (qeq air x2 w m r s ra si)))))⟩
   | true=>
     rw[hbu] at hSb
     by_cases hx:1≤x2∧x2≤40
     case neg=>
      have e1:(!decide (1≤x2∧x2≤40))=true:=by rw[decide_eq_false hx];rfl
      have e2:(!(decide (1≤x2)&&decide (x2≤40)))=true:=by rw[Bool.not_eq_true',Bool.and_eq_false_iff,decide_eq_false_iff_not,decide_eq_false_iff_not];omega
      refine⟨_,hfail.1,hfail.2,Ev.next (Ev.here rfl) (Ev.pos rfl (Ev.next (Ev.here rfl) (Ev.pos rfl (Ev.next (Ev.here rfl) ?_)))),Ev.next (Ev.some_ rfl) (Ev.next (Ev.here rfl) (Ev.pos rfl (Ev.next hSb (Ev.pos rfl (Ev.next (Ev.here rfl) ?_)))))⟩
      · rw[e1];exact qep air x2 w m r s ra si
      · rw[e2];exact qeq air x2 w m r s ra si
     case pos=>
      have e1:(!decide (1≤x2∧x2≤40))=false:=by rw[decide_eq_true hx];rfl
      have e2:(!(decide (1≤x2)&&decide (x2≤40)))=false:=by rw[decide_eq_true hx.1,decide_eq_true hx.2];rfl
      obtain⟨hw,hmm,hr,hs,hra,hsi⟩:=qkw.1 hm
      obtain⟨hal,hab⟩:=qof hbu
      obtain⟨H,hH,hHb⟩:∃H:Nat,w=((2*H:Nat):Int)∧1≤H∧H≤4:=⟨(w / 2).toNat,by omega,by omega,by omega⟩
      obtain⟨M,rfl⟩:=Int.eq_ofNat_of_zero_le (show 0≤m by omega)
      obtain⟨R,rfl⟩:=Int.eq_ofNat_of_zero_le (show 0≤ra by omega)
      obtain⟨rr,rfl⟩:=Int.eq_ofNat_of_zero_le (show 0≤r by omega)
      obtain⟨x,rfl⟩:=Int.eq_ofNat_of_zero_le (show 0≤x2 by omega)
      subst hH
      have hL:8*(x+2*M)≤1000:=by omega
      have hidx:=qjf si air 0
      have hbeg:=qmq air hal hab ((2*H:Nat):Int) (M:Int) (rr:Int) s (R:Int) si hsi air.length 0 (by omega)
      rw[List.drop_zero] at hbeg
      have hbeg2:Ev (fun k=>spec_l18Begin.f k ((2*H:Nat):Int) (M:Int) (rr:Int) s (R:Int) si air) (hrIdx si air 0):=hbeg
      have hpt:impl_Point_54.f air si=some (hrIdx si air 0):=by unfold impl_Point_54.f;rw[if_pos (by omega)]
      have hsw:=qrc (H:=H) (L:=8*(x+2*M)) hHb hL
      have hmw:=qqw (x:=x) (M:=M) (by omega) (by omega)
      have hgoal:∃res:List Int×Int×Bool,isB res.1∧res.1.length≤40∧Ev (fun k=>impl_Hear.j0 k air (x:Int) false ((2*H:Nat):Int) (M:Int) (rr:Int) s (R:Int) si) res∧Ev (fun k=>spec_Hear.j0 k air (x:Int) [] false ((2*H:Nat):Int) (M:Int) (rr:Int) s (R:Int) si) res:=by
       rcases hidx with hneg|⟨hp0,hp1⟩
       · refine⟨_,hfail.1,hfail.2,Ev.succ ?_,Ev.succ ?_⟩
         · simp only[impl_Hear.j0]
           exact Ev.neg (by decide) (Ev.next (Ev.here hpt) (Ev.neg (by omega) (Ev.pos (by rw[hneg];decide) (qmy ..))))
         · simp only[spec_Hear.j0]
           exact Ev.neg (by decide) (Ev.next hbeg2 (Ev.neg (by omega) (Ev.pos (by rw[hneg];decide) (qmz ..))))
       · obtain⟨a,hae⟩:=Int.eq_ofNat_of_zero_le hp0
         rw[hae] at hpt hbeg2 hp1
         have hf:=qrd (A:=air.length) (a:=a) (R:=R) (n:=symN H (8*(x+2*M))) (by omega) hal (by omega) hsw.2
         by_cases hfit:air.length<a+R*(1+symN H (8*(x+2*M)))
         · rw[decide_eq_true hfit] at hf
           refine⟨_,hfail.1,hfail.2,Ev.succ ?_,Ev.succ ?_⟩
           · simp only[impl_Hear.j0]
             refine Ev.neg (by decide) (Ev.next (Ev.here hpt) ?_)
             rw[hmw,hsw.1,hf.1]
             exact Ev.neg (by omega) (Ev.neg (by omega) (qmy ..))
           · simp only[spec_Hear.j0]
             refine Ev.neg (by decide) (Ev.next hbeg2 ?_)
             rw[hmw,hsw.1,hf.2]
             exact Ev.neg (by omega) (Ev.neg (by omega) (qmz ..))
         · rw[decide_eq_false hfit] at hf
           have hin:qbi air a R (qbo (ls0 (seg air a R)) (ls1 (seg air a R))) (symN H (8*(x+2*M))) H (8*(x+2*M)) M x si s rr:={
            jR:=by omega
            jH:=hHb
            jsi:=hsi
            js:=hs
            jr:=by omega
            jq:=qmx _ _
            ja:=hal
            jb:=hab
            jfit:=by omega
            jL:=rfl
            jx:=by omega
            jM:=by omega
            jn:=qjp hHb.1}
           obtain⟨res,g1,g2,g3,g4⟩:=qmw hin
           refine⟨res,g1,g2,EvP.ev (EvP.succ ?_),EvP.ev (EvP.succ ?_)⟩
           · simp only[impl_Hear.j0]
             refine EvP.neg (by decide) (EvP.on (Ev.here hpt) ?_)
             rw[hmw,hsw.1,hf.1]
             refine EvP.neg (by omega) (EvP.neg (by omega) (qqh air hal hab a R _ hin.jR hin.jfit _ _ _ _ _ _ _ (EvP.succ ?_)))
             simp only[impl_Hear.j2]
             exact qqf air hal hab a R _ _ si hin.jR hsi hin.jq hsw.2 hin.jfit _ _ _ _ _ _ g3 (symN H (8*(x+2*M))) 0 (by omega)
           · simp only[spec_Hear.j0]
             refine EvP.neg (by decide) (EvP.on hbeg2 ?_)
             rw[hmw,hsw.1,hf.2]
             refine EvP.neg (by omega) (EvP.neg (by omega) (qqi air hal hab a R _ hin.jR hin.jfit _ _ _ _ _ _ _ (EvP.succ ?_)))
             simp only[spec_Hear.j4]
             exact qqg air hal hab a R _ _ si hin.jR hsi hin.jq hsw.2 hin.jfit _ _ _ _ _ _ [] g4 (symN H (8*(x+2*M))) 0 (by omega)
      obtain⟨res,g1,g2,g3,g4⟩:=hgoal
      refine⟨res,g1,g2,Ev.next (Ev.here rfl) (Ev.pos rfl (Ev.next (Ev.here rfl) (Ev.pos rfl (Ev.next (Ev.here rfl) ?_)))),Ev.next (Ev.some_ rfl) (Ev.next (Ev.here rfl) (Ev.pos rfl (Ev.next hSb (Ev.pos rfl (Ev.next (Ev.here rfl) ?_)))))⟩
      · rw[e1];exact g3
      · rw[e2];exact g4
def qcu (x:S87):S52:=⟨x.f0,x.f1⟩
theorem qqx {xs:List S87} {i:Nat} (h:i<xs.length):xs.take (i+1)=xs.take i++[rd_T87 xs (i:Int)]:=by
 rw[show rd_T87 xs (i:Int)=xs[i] by simp[rd_T87,List.getD_eq_getElem?_getD,h]];exact(List.take_append_getElem h).symm
theorem qjv (l:List S87) (hl:l.length≤1048576):∀(d i:Nat) (acc:List S52),i+d=l.length→acc.length=l.length→acc.take i=(l.take i).map qcu→Ev (fun k=>laws_toPointS.l0 k l acc (i:Int)) (l.map qcu):=by
 intro d
 induction d with
 | zero=>
   intro i acc hi ha ht
   refine Ev.succ ?_
   simp only[laws_toPointS.l0]
   refine Ev.neg (by omega) (Ev.some_ ?_)
   rw[List.take_of_length_le (by omega),List.take_of_length_le (by omega)] at ht
   exact ht
 | succ d ih=>
   intro i acc hi ha ht
   refine Ev.succ ?_
   simp only[laws_toPointS.l0,laws_toPoint.f,Option.bind_some]
   rw[qao (e:=i) (by omega),Int.toNat_natCast]
   refine Ev.pos (by omega) (Ev.pos (by omega) (Ev.pos (by omega) (ih (i+1) _ (by omega) (by rw[List.length_set];exact ha) ?_)))
   rw[take_set_end (by omega),qqx (by omega),List.map_append,ht]
   rfl
theorem qjw (l:List S87) (hl:l.length≤1048576):Ev (fun k=>laws_toPointS.f k l) (l.map qcu):=by
 unfold laws_toPointS.f
 refine Ev.pos (by omega) (Ev.pos (by rw[Int.toNat_natCast];omega) ?_)
 rw[Int.toNat_natCast]
 exact qjv l hl l.length 0 _ (by omega) (by simp) (by simp)
theorem FnExactHear (a0_0:Int) (a0_1:Int) (a0_2:Int) (a0_3:Int) (a0_4:Int) (a0_5:Int) (l1:List S87) (a2:Int) (w0_0:(Lit.int .i64 a0_0).wf=true) (w0_1:(Lit.int .i64 a0_1).wf=true) (w0_2:(Lit.int .i64 a0_2).wf=true) (w0_3:(Lit.int .i64 a0_3).wf=true) (w0_4:(Lit.int .i64 a0_4).wf=true) (w0_5:(Lit.int .i64 a0_5).wf=true) (m1:l1.length≤maxLen) (w1:∀x∈l1,((Lit.int .i64 x.f0).wf=true)∧((Lit.int .i64 x.f1).wf=true)) (w2:(Lit.int .i64 a2).wf=true):∃k,laws_FnExactHear.f k a0_0 a0_1 a0_2 a0_3 a0_4 a0_5 l1 a2=some true:=by
 refine Ev.rounds ?_
 have hm:l1.length≤9223372036854775807:=by unfold maxLen at m1;omega
 have hM:laws_toModem.f a0_0 a0_1 a0_2 a0_3 a0_4 a0_5=some (a0_0,a0_1,a0_2,a0_3,a0_4,a0_5):=rfl
 unfold laws_FnExactHear.f laws_szPointS.f
 rw[w64 (n:=1048576-(l1.length:Int)) (by omega) (by omega)]
 by_cases hl:(1048576:Int)-(l1.length:Int)<0
 · rw[if_pos hl]
   exact Ev.next (Ev.some_ rfl) (Ev.pos (by decide) (Ev.some_ rfl))
 · rw[if_neg hl]
   have t:=qjw l1 (by omega)
   have n1:(l1.map qcu).length=l1.length:=List.length_map _
   obtain⟨res,g1,g2,g3,g4⟩:=qna a0_0 a0_1 a0_2 a0_3 a0_4 a0_5 (l1.map qcu) (by omega) a2
   have ee:=qld res.1 res.1 (by omega)
   rw[decide_eq_true rfl] at ee
   have ep:=qju (l1.map qcu) (by omega)
   have mp:=qnv (l1.map qcu) 1 (by omega) (by omega) (by omega)
   have mb:=qiv res.1 1 (by omega) (by omega) (by omega)
   have hh:=qix res.1.length 1 (by omega) (by omega) (by omega)
   refine Ev.next (Ev.some_ rfl) (Ev.neg hl (Ev.next (Ev.here hM) (Ev.next t (Ev.next g4 (Ev.next t (Ev.next (Ev.here hM) (Ev.next g3 (Ev.next ee (Ev.pos (by first|trivial|rfl) (Ev.pos (by first|trivial|rfl) ?_))))))))))
   refine Ev.succ ?_
   simp only[laws_FnExactHear.j0]
   refine Ev.neg (by simp) (Ev.next t (Ev.next ep (Ev.pos (by first|trivial|rfl) (Ev.next mp (Ev.neg (by omega) (Ev.next ee (Ev.pos (by first|trivial|rfl) (Ev.pos (by first|trivial|rfl) ?_))))))))
   refine Ev.succ ?_
   simp only[laws_FnExactHear.j1]
   refine Ev.neg (by simp) (Ev.next mb (Ev.next hh (Ev.neg (by omega) (Ev.pos (by first|trivial|rfl) (Ev.next (Ev.here hM) (Ev.next t (Ev.next g3 (Ev.next ee (Ev.pos (by first|trivial|rfl) (Ev.pos (by first|trivial|rfl) ?_))))))))))
   refine Ev.succ ?_
   simp only[laws_FnExactHear.j2]
   exact Ev.neg (by simp) (Ev.next hh (Ev.neg (by omega) (Ev.pos (by first|trivial|rfl) (Ev.some_ rfl))))
end Go.Proofs.Ytapobpkeefeajaa.Pure
