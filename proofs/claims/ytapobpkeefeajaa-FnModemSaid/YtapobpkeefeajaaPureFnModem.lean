import Derived.Test.YtapobpkeefeajaaPFnModemx25
import Derived.Test.YtapobpkeefeajaaAidV
set_option linter.unusedVariables false
set_option linter.unusedSimpArgs false
namespace Go.Proofs.Ytapobpkeefeajaa.Pure
open Go Go.RowKit Go.Proofs.Ytapobpkeefeajaa.PFnModem Go.Proofs.YtapobpkeefeajaaW.PrintWords Go.Proofs.YtapobpkeefeajaaW.PrintLast Go.Proofs.YtapobpkeefeajaaW.PrintMore
def gfX (a:Nat):Nat:=if 2*a>255 then(2*a)^^^285 else 2*a
def gfI:Nat→Nat→Nat→Nat→Nat
 |0,_,_,r=>r
 |n+1,a,b,r=>gfI n (gfX a) (b / 2) (if b%2=1 then r^^^a else r)
def gfM (a b:Nat):Nat:=gfI 8 a b 0
theorem qqq (a b:Nat):2*(a^^^b)=(2*a)^^^(2*b):=by
 apply Nat.eq_of_testBit_eq
 intro i
 cases i with
 |zero=>simp
 | succ i=>
   rw[Nat.testBit_xor,Nat.testBit_succ,Nat.testBit_succ,Nat.testBit_succ,Nat.mul_div_cancel_left _ (by omega),Nat.mul_div_cancel_left _ (by omega),Nat.mul_div_cancel_left _ (by omega),Nat.testBit_xor]
theorem qll:∀a:Fin 256,gfX a.1=(2*a.1)^^^(if a.1.testBit 7 then 285 else 0)∧gfX a.1<256:=by decide+kernel
theorem qjq {a:Nat} (h:a<256):gfX a=(2*a)^^^(if a.testBit 7 then 285 else 0):=(qll ⟨a,h⟩).1
theorem qbn {a:Nat} (h:a<256):gfX a<256:=(qll ⟨a,h⟩).2
theorem qao {a b:Nat} (ha:a<256) (hb:b<256):a^^^b<256:=Nat.xor_lt_two_pow (n:=8) ha hb
theorem qid {a b:Nat} (ha:a<256) (hb:b<256):gfX (a^^^b)=gfX a^^^gfX b:=by
 rw[qjq ha,qjq hb,qjq (qao ha hb),qqq,Nat.testBit_xor]
 cases a.testBit 7<;>cases b.testBit 7<;>simp
 · rw[Nat.xor_assoc]
 · rw[Nat.xor_assoc,Nat.xor_assoc,Nat.xor_comm 285]
 · rw[show(2*a^^^285)^^^(2*b^^^285)=(2*a^^^2*b)^^^(285^^^285) by rw[Nat.xor_assoc,Nat.xor_assoc,←Nat.xor_assoc 285,Nat.xor_comm 285 (2*b),Nat.xor_assoc (2*b)],Nat.xor_self,Nat.xor_zero]
theorem qjr:gfX 0=0:=rfl
theorem qjo:∀(n a b r:Nat),gfI n a b r=r^^^gfI n a b 0
 |0,_,_,r=>by simp[gfI]
 | n+1,a,b,r=>by
   simp only[gfI]
   rw[qjo n (gfX a) (b / 2) (if b%2=1 then r^^^a else r),qjo n (gfX a) (b / 2) (if b%2=1 then 0^^^a else 0)]
   split
   · rw[Nat.zero_xor,Nat.xor_assoc]
   · rw[Nat.zero_xor]
theorem qgt:∀(n a b:Nat),a<256→gfI n a b 0<256
 |0,_,_,_=>by simp[gfI]
 | n+1,a,b,h=>by
   simp only[gfI]
   rw[qjo]
   refine qao ?_ (qgt n _ _ (qbn h))
   split
   · rw[Nat.zero_xor];exact h
   · omega
theorem qbo (n a b:Nat):gfI (n+1) a b 0=(if b%2=1 then a else 0)^^^gfI n (gfX a) (b / 2) 0:=by
 simp only[gfI]
 rw[qjo,Nat.zero_xor]
theorem qie:∀(n a c b:Nat),a<256→c<256→gfI n (a^^^c) b 0=gfI n a b 0^^^gfI n c b 0
 |0,_,_,_,_,_=>by simp[gfI]
 | n+1,a,c,b,ha,hc=>by
   rw[qbo,qbo,qbo,qid ha hc,qie n _ _ _ (qbn ha) (qbn hc)]
   split
   · rw[Nat.xor_assoc,Nat.xor_assoc,←Nat.xor_assoc c,Nat.xor_comm c,Nat.xor_assoc]
   · simp
theorem qep:∀n b,gfI n 0 b 0=0
 |0,_=>rfl
 |n+1,b=>by rw[qbo,qjr,qep n];simp
theorem qqn:∀(n a b:Nat),a<256→gfI n (gfX a) b 0=gfX (gfI n a b 0)
 |0,_,_,_=>rfl
 | n+1,a,b,h=>by
   rw[qbo,qbo,qid (by split<;>omega) (qgt n _ _ (qbn h)),qqn n _ _ (qbn h)]
   split<;>rfl
theorem qjs (c:Nat):∀(n a b:Nat),a<256→gfI n (gfM a c) b 0=gfM (gfI n a b 0) c
 |0,_,_,_=>(qep 8 c).symm
 | n+1,a,b,h=>by
   have h2:gfX (gfM a c)=gfM (gfX a) c:=(qqn 8 a c h).symm
   rw[qbo,qbo,h2,qjs c n _ _ (qbn h)]
   unfold gfM
   rw[qie 8 _ _ c (by split<;>omega) (qgt n _ _ (qbn h))]
   split
   · rfl
   · rw[qep]
theorem qbm {a:Nat} (h:a<256) (b:Nat):gfM a b<256:=qgt 8 a b h
theorem qfe {a:Nat} (h:a<256) (b c:Nat):gfM (gfM a b) c=gfM (gfM a c) b:=(qjs c 8 a b h).symm
theorem qdc {a c:Nat} (ha:a<256) (hc:c<256) (b:Nat):gfM (a^^^c) b=gfM a b^^^gfM c b:=qie 8 a c b ha hc
theorem qdd:∀b:Fin 256,gfM 1 b.1=b.1:=by decide+kernel
theorem qbk {a b:Nat} (ha:a<256) (hb:b<256):gfM a b=gfM b a:=by
 have h1:=qfe (a:=1) (by omega) a b
 rw[qdd ⟨a,ha⟩,qdd ⟨b,hb⟩] at h1
 exact h1
theorem gfM_one' {a:Nat} (h:a<256):gfM a 1=a:=by rw[qbk h (by omega)];exact qdd ⟨a,h⟩
theorem qbl (b:Nat):gfM 0 b=0:=qep 8 b
theorem qdi {a b c:Nat} (ha:a<256) (hb:b<256) (hc:c<256):gfM (gfM a b) c=gfM a (gfM b c):=by
 rw[qbk ha hb,qfe hb,qbk (qbm hb c) ha]
def gfS:Nat→Nat→Nat→Nat→Nat
 |0,p,_,_=>p
 |n+1,p,a,b=>gfS n (if b / 2^n%2=1 then gfX p^^^a else gfX p) a b
def qbs:Nat→Nat→Nat
 |0,a=>a
 |n+1,a=>qbs n (gfX a)
theorem qin:∀n {a b:Nat},a<256→b<256→qbs n (a^^^b)=qbs n a^^^qbs n b
 |0,_,_,_,_=>rfl
 |n+1,_,_,ha,hb=>by simp only[qbs];rw[qid ha hb,qin n (qbn ha) (qbn hb)]
theorem qjt:∀(n a b:Nat),a<256→gfI (n+1) a b 0=gfI n a b 0^^^(if b / 2^n%2=1 then qbs n a else 0)
 |0,a,b,_=>by rw[qbo];simp[gfI,qbs]
 | n+1,a,b,h=>by
   rw[qbo,qjt n _ _ (qbn h),qbo n a b,Nat.div_div_eq_div_mul,Nat.xor_assoc,show 2*2^n=2^(n+1) by rw[Nat.pow_succ,Nat.mul_comm]]
   rfl
theorem qlm:∀(n p a b:Nat),p<256→a<256→gfS n p a b=qbs n p^^^gfI n a b 0
 |0,p,a,b,_,_=>by simp[gfS,qbs,gfI]
 | n +1,p,a,b,hp,ha=>by
   simp only[gfS]
   rw[qlm n _ a b (by split;exact qao (qbn hp) ha;exact qbn hp) ha,qjt n a b ha]
   split
   · rw[qin n (qbn hp) ha]
     simp only[qbs]
     rw[Nat.xor_assoc,Nat.xor_comm (qbs n a)]
   · simp only[qbs,Nat.xor_zero]
theorem qse {a:Nat} (b:Nat) (ha:a<256):gfS 8 0 a b=gfM a b:=by
 rw[qlm 8 0 a b (by omega) ha]
 have:∀n,qbs n 0=0:=fun n=>by
  induction n with
  |zero=>rfl
  |succ n ih=>simp only[qbs];rw[qjr,ih]
 rw[this,Nat.zero_xor]
 rfl
def xorI (a b:Int):Int:=((a.toNat^^^b.toNat:Nat):Int)
theorem qoy {a b:Int} (ha:0≤a∧a<9223372036854775808) (hb:0≤b∧b<9223372036854775808):bits .xor .i64 a b=xorI a b:=by
 obtain⟨x,rfl⟩:=Int.eq_ofNat_of_zero_le ha.1
 obtain⟨y,rfl⟩:=Int.eq_ofNat_of_zero_le hb.1
 have hx:x%2^IntKind.i64.bits=x:=Nat.mod_eq_of_lt (by show x<2^64;omega)
 have hy:y%2^IntKind.i64.bits=y:=Nat.mod_eq_of_lt (by show y<2^64;omega)
 have hl:x^^^y<2^63:=Nat.xor_lt_two_pow (by omega) (by omega)
 unfold xorI
 simp only[bits,BitVec.toNat_xor,BitVec.ofInt_natCast,BitVec.toNat_ofNat,hx,hy,Int.toNat_natCast]
 rw[IntKind.wrap_i64]
 omega
theorem qbx (a b c:Int):spec_l1In.f a b c=some (decide (b≤a)&&decide (a≤c)):=by
 unfold spec_l1In.f
 by_cases h:a≥b
 · rw[if_pos h];simp[show b≤a from h]
 · rw[if_neg h];simp[show ¬b≤a from h]
theorem qff (a:Int):impl_isByte.f a=some (decide (0≤a∧a≤255)):=by
 unfold impl_isByte.f
 by_cases h:a≥0
 · rw[if_pos h];simp[h]
 · rw[if_neg h];simp;omega
theorem xorN (a b:Nat) (ha:a<9223372036854775808) (hb:b<9223372036854775808):bits .xor .i64 (a:Int) (b:Int)=((a^^^b:Nat):Int):=by
 rw[qoy ⟨by omega,by omega⟩ ⟨by omega,by omega⟩]
 unfold xorI
 simp
theorem qln {a:Nat} (h:a<256):(if wrap64 ((a:Int)*2)>255 then bits .xor .i64 (wrap64 ((a:Int)*2)) 285 else wrap64 ((a:Int)*2))=((gfX a:Nat):Int):=by
 rw[w64 (by omega) (by omega)]
 unfold gfX
 by_cases h2:2*a>255
 · rw[if_pos (by omega),if_pos h2,show((a:Int)*2)=((2*a:Nat):Int) by omega,show(285:Int)=((285:Nat):Int) from rfl,xorN _ _ (by omega) (by omega)]
 · rw[if_neg (by omega),if_neg h2];omega
theorem qnh:∀n a r,gfI n a 0 r=r
 |0,_,_=>rfl
 |n+1,a,r=>by simp only[gfI];rw[if_neg (by decide)];exact qnh n _ _
theorem qni:∀(n a b r:Nat),a<256→b<2^n→b<256→r<256→Ev (fun k=>impl_GfMul.l0 k (a:Int) (b:Int) (r:Int)) ((gfI n a b r:Nat):Int):=by
 intro n
 induction n with
 | zero=>
   intro a b r ha hb _ hr
   refine Ev.succ ?_
   simp only[impl_GfMul.l0]
   exact Ev.neg (by simp at hb;omega) (Ev.some_ rfl)
 | succ n ih=>
   intro a b r ha hb hb2 hr
   refine Ev.succ ?_
   simp only[impl_GfMul.l0]
   by_cases h0:b=0
   · subst h0
     exact Ev.neg (by omega) (Ev.some_ (by rw[qnh]))
   · have hx:=qln ha
     have hxl:=qbn ha
     have hb3:b / 2<2^n:=by rw[Nat.pow_succ] at hb;omega
     have e2:(b:Int) / 2=((b / 2:Nat):Int):=by omega
     have e1:bits .and .i64 (b:Int) 1=((b%2:Nat):Int):=by
      have:=bits_and_mask (b:Int) 1 (by omega)
      rw[show((2:Int)^1-1)=1 by decide] at this
      rw[this];omega
     have er:bits .xor .i64 (r:Int) (a:Int)=((r^^^a:Nat):Int):=xorN r a (by omega) (by omega)
     have hrl:r^^^a<256:=qao hr ha
     have i1:=ih (gfX a) (b / 2) (r^^^a) hxl hb3 (by omega) hrl
     have i0:=ih (gfX a) (b / 2) r hxl hb3 (by omega) hr
     simp only[gfI]
     rw[e1,e2,er]
     clear ih e1 e2 er hb hb3
     refine Ev.pos (by omega) ?_
     by_cases h1:b%2=1
     · rw[if_pos h1]
       refine Ev.pos (by omega) ?_
       by_cases h2:wrap64 ((a:Int)*2)>255
       · rw[if_pos h2] at hx
         rw[hx]
         exact Ev.pos h2 i1
       · rw[if_neg h2] at hx
         rw[hx] at h2 ⊢
         exact Ev.neg h2 i1
     · rw[if_neg h1]
       refine Ev.neg (by omega) ?_
       by_cases h2:wrap64 ((a:Int)*2)>255
       · rw[if_pos h2] at hx
         rw[hx]
         exact Ev.pos h2 i0
       · rw[if_neg h2] at hx
         rw[hx] at h2 ⊢
         exact Ev.neg h2 i0
theorem qdj (a b:Nat) (ha:a<256) (hb:b<256):Ev (fun k=>impl_GfMul.f k (a:Int) (b:Int)) ((gfM a b:Nat):Int):=by
 unfold impl_GfMul.f
 rw[qff,qff]
 simp only[Option.bind_some]
 refine Ev.pos (by simp;omega) ?_
 rw[show(!decide (0≤(b:Int)∧(b:Int)≤255))=false by simp;omega]
 refine Ev.succ ?_
 simp only[impl_GfMul.j0]
 exact Ev.neg (by decide) (qni 8 a b 0 ha hb hb (by omega))
theorem qlo (a:Int):spec_l14Byte.f a=some (decide (0≤a)&&decide (a≤255)):=by
 unfold spec_l14Byte.f;rw[qbx];rfl
theorem qnj (a b:Nat) (ha:a<256) (hb:b<256):∀(n p:Nat),n≤8→p<256→Ev (fun k=>spec_GfMul.l0 k (a:Int) (b:Int) (p:Int) ((n:Int)-1)) ((gfS n p a b:Nat):Int):=by
 intro n
 induction n with
 | zero=>
   intro p _ _
   refine Ev.succ ?_
   simp only[spec_GfMul.l0]
   exact Ev.neg (by omega) (Ev.some_ rfl)
 | succ n ih=>
   intro p hn hp
   have e1:((n+1:Nat):Int)-1=(n:Int):=by omega
   have hx:=qln hp
   rw[show(p:Int)*2=2*(p:Int) by omega] at hx
   have hxl:=qbn hp
   have hw:wrap64 (2*(p:Int))≥256↔wrap64 (2*(p:Int))>255:=by omega
   have e2:shr .i64 (b:Int) (IntKind.u64.wrap (n:Int))=((b / 2^n:Nat):Int):=by
    rw[wu64 (by omega) (by omega)]
    unfold shr
    rw[show min ((n:Int).toNat) IntKind.i64.bits=n by simp[IntKind.bits];omega]
    have:2^n≤256:=by have:=Nat.pow_le_pow_right (n:=2) (by omega) hn;simp at this;exact Nat.le_trans (Nat.pow_le_pow_right (by omega) (by omega:n≤8)) (by decide)
    first
     |(rw[IntKind.wrap_i64];have hd:b / 2^n≤b:=Nat.div_le_self _ _;omega)
     |(simp;omega)
     |simp
   have e3:Int.tmod (((b / 2^n:Nat):Int)) 2=((b / 2^n%2:Nat):Int):=by
    generalize b / 2^n=q
    rw[Int.tmod_eq_emod_of_nonneg (by omega)];omega
   have e4:wrap64 ((n:Int)-1)=(n:Int)-1:=w64 (by omega) (by omega)
   have er:bits .xor .i64 ((gfX p:Nat):Int) (a:Int)=((gfX p^^^a:Nat):Int):=xorN _ _ (by omega) (by omega)
   have i1:=ih (gfX p^^^a) (by omega) (qao hxl ha)
   have i0:=ih (gfX p) (by omega) hxl
   have hu:0≤IntKind.u64.wrap (n:Int):=by rw[wu64 (by omega) (by omega)];omega
   refine Ev.succ ?_
   simp only[spec_GfMul.l0,gfS]
   simp only[e1,e2,e3,e4]
   refine Ev.pos (by omega) ?_
   have bit:∀q:Int,q=((gfX p:Nat):Int)→Ev (fun k=>if 0≤IntKind.u64.wrap (n:Int) then(if((b / 2^n%2:Nat):Int)=1 then spec_GfMul.l0 k (a:Int) (b:Int) (bits .xor .i64 q (a:Int)) ((n:Int)-1) else spec_GfMul.l0 k (a:Int) (b:Int) q ((n:Int)-1)) else none) ((gfS n (if b / 2^n%2=1 then gfX p^^^a else gfX p) a b:Nat):Int):=by
    intro q hq
    subst hq
    rw[er]
    refine Ev.pos hu ?_
    by_cases hb1:b / 2^n%2=1
    · rw[if_pos hb1];exact Ev.pos (by omega) i1
    · rw[if_neg hb1];exact Ev.neg (by omega) i0
   by_cases h2:wrap64 (2*(p:Int))>255
   · rw[if_pos h2] at hx
     exact Ev.pos (hw.2 h2) (bit _ hx)
   · rw[if_neg h2] at hx
     exact Ev.neg (fun h=>h2 (hw.1 h)) (bit _ hx)
theorem qio (a b:Nat) (ha:a<256) (hb:b<256):Ev (fun k=>spec_GfMul.f k (a:Int) (b:Int)) ((gfM a b:Nat):Int):=by
 unfold spec_GfMul.f
 rw[qlo,qlo]
 simp only[Option.bind_some]
 refine Ev.pos (by simp;omega) ?_
 rw[show(!(decide (0≤(b:Int))&&decide ((b:Int)≤255)))=false by simp;omega]
 refine Ev.succ ?_
 simp only[spec_GfMul.j0]
 refine Ev.neg (by decide) ?_
 rw[←qse b ha]
 exact qnj a b ha hb 8 0 (by omega) (by omega)
def gfP:Nat→Nat
 |0=>1
 |n+1=>gfM (gfP n) 2
theorem qcq:∀n,gfP n<256
 |0=>by decide
 |n+1=>qbm (qcq n) 2
theorem qqr (N:Nat) (hN:N≤100):∀d i:Nat,i+d=N→Ev (fun k=>impl_gfPow.l0 k ((gfP i:Nat):Int) (N:Int) (i:Int)) ((gfP N:Nat):Int):=by
 intro d
 induction d with
 | zero=>
   intro i hi
   refine Ev.succ ?_
   simp only[impl_gfPow.l0]
   rw[show i=N by omega]
   exact Ev.neg (by omega) (Ev.some_ rfl)
 | succ d ih=>
   intro i hi
   refine Ev.succ ?_
   simp only[impl_gfPow.l0]
   rw[w64_add (by omega) (by omega)]
   exact Ev.pos (by omega) (Ev.next (qdj (gfP i) 2 (qcq i) (by omega)) (ih (i+1) (by omega)))
theorem qlp (n:Nat) (hn:n≤100):Ev (fun k=>impl_gfPow.f k (n:Int)) ((gfP n:Nat):Int):=by
 unfold impl_gfPow.f
 rw[show Int.tmod (n:Int) 255=(n:Int) by rw[Int.tmod_eq_emod_of_nonneg (by omega)];omega]
 exact qqr n hn n 0 (by omega)
theorem qqs (N:Nat) (hN:N≤100):∀d i:Nat,i+d=N→Ev (fun k=>spec_l14Pow.l0 k (N:Int) ((gfP i:Nat):Int) (i:Int)) ((gfP N:Nat):Int):=by
 have e:Int.tmod (N:Int) 255=(N:Int):=by rw[Int.tmod_eq_emod_of_nonneg (by omega)];omega
 intro d
 induction d with
 | zero=>
   intro i hi
   refine Ev.succ ?_
   simp only[spec_l14Pow.l0]
   rw[show i=N by omega,e]
   exact Ev.neg (by omega) (Ev.some_ rfl)
 | succ d ih=>
   intro i hi
   refine Ev.succ ?_
   simp only[spec_l14Pow.l0]
   rw[w64_add (by omega) (by omega),e]
   exact Ev.pos (by omega) (Ev.next (qio (gfP i) 2 (qcq i) (by omega)) (ih (i+1) (by omega)))
theorem qqt (n:Nat) (hn:n≤100):Ev (fun k=>spec_l14Pow.f k (n:Int)) ((gfP n:Nat):Int):=qqs n hn n 0 (by omega)
def isB (l:List Int):Prop:=∀x∈l,0≤x∧x<256
def gM (a b:Int):Int:=((gfM a.toNat b.toNat:Nat):Int)
theorem qcx {a:Int} (h:0≤a∧a<256) (b:Int):0≤gM a b∧gM a b<256:=by
 have:=qbm (a:=a.toNat) (by omega) b.toNat
 unfold gM;omega
theorem qlq {a b:Int} (ha:0≤a∧a<256) (hb:0≤b∧b<256):gM a b=gM b a:=by
 unfold gM;rw[qbk (by omega) (by omega)]
theorem iGM {a b:Int} (ha:0≤a∧a<256) (hb:0≤b∧b<256):Ev (fun k=>impl_GfMul.f k a b) (gM a b):=by
 have:=qdj a.toNat b.toNat (by omega) (by omega)
 rwa[Int.toNat_of_nonneg ha.1,Int.toNat_of_nonneg hb.1] at this
theorem sGM {a b:Int} (ha:0≤a∧a<256) (hb:0≤b∧b<256):Ev (fun k=>spec_GfMul.f k a b) (gM a b):=by
 have:=qio a.toNat b.toNat (by omega) (by omega)
 rwa[Int.toNat_of_nonneg ha.1,Int.toNat_of_nonneg hb.1] at this
def xB (a b:Int):Int:=bits .xor .i64 a b
theorem qcl {a b:Int} (ha:0≤a∧a<256) (hb:0≤b∧b<256):0≤xB a b∧xB a b<256:=by
 have:=qao (a:=a.toNat) (b:=b.toNat) (by omega) (by omega)
 unfold xB
 rw[←Int.toNat_of_nonneg ha.1,←Int.toNat_of_nonneg hb.1,xorN _ _ (by omega) (by omega)]
 omega
theorem rd_B {l:List Int} (h:isB l) (i:Int):0≤rd l i∧rd l i<256:=by
 unfold rd
 rcases Nat.lt_or_ge i.toNat l.length with h1|h1
 · rw[List.getD_eq_getElem?_getD,List.getElem?_eq_getElem h1];exact h _ (List.getElem_mem h1)
 · rw[List.getD_eq_getElem?_getD,List.getElem?_eq_none h1];simp
theorem qby {l:List Int} (h:isB l) {x:Int} (hx:0≤x∧x<256) (i:Nat):isB (l.set i x):=fun y hy=>by
 rcases List.mem_or_eq_of_mem_set hy with h2|h2
 · exact h y h2
 · rw[h2];exact hx
def qay:Nat→Nat→List Int→Int→List Int→List Int
 |0,_,_,_,acc=>acc
 |d+1,j,g,w,acc=>qay d (j+1) g w (acc.set (j+1) (xB (rd acc ((j+1:Nat):Int)) (gM (rd g (j:Int)) w)))
theorem qfy:∀(d j:Nat) (g:List Int) (w:Int) (acc:List Int),(qay d j g w acc).length=acc.length
 |0,_,_,_,_=>rfl
 |d+1,j,g,w,acc=>by simp only[qay];rw[qfy d];simp
theorem qip:∀(d j:Nat) (g:List Int) (w:Int) (acc:List Int),isB g→isB acc→isB (qay d j g w acc)
 |0,_,_,_,_,_,h=>h
 | d+1,j,g,w,acc,hg,h=>by
   simp only[qay]
   exact qip d _ g w _ hg (qby h (qcl (rd_B h _) (qcx (rd_B hg _) w)) _)
def genL:Nat→List Int
 |0=>[1]
 |i+1=>qay (genL i).length 0 (genL i) ((gfP i:Nat):Int) (genL i++[0])
theorem qbp:∀i,(genL i).length=i+1
 |0=>rfl
 |i+1=>by simp only[genL];rw[qfy];simp[qbp i]
theorem qau {a b:List Int} (ha:isB a) (hb:isB b):isB (a++b):=fun x hx=>by
 rcases List.mem_append.1 hx with h|h
 · exact ha x h
 · exact hb x h
theorem qbw:isB [0]:=fun x hx=>by simp at hx;omega
theorem qch:∀i,isB (genL i)
 |0=>fun x hx=>by simp[genL] at hx;omega
 |i+1=>by simp only[genL];exact qip _ _ _ _ _ (qch i) (qau (qch i) qbw)
def qbg:Nat→Nat→List Int→Int→List Int→List Int
 |0,_,_,_,acc=>acc
 |d+1,j,g,f,acc=>qbg d (j+1) g f (acc.set j (xB (rd acc (j:Int)) (gM f (rd g ((j+1:Nat):Int)))))
theorem qiq:∀(d j:Nat) (g:List Int) (f:Int) (acc:List Int),(qbg d j g f acc).length=acc.length
 |0,_,_,_,_=>rfl
 |d+1,j,g,f,acc=>by simp only[qbg];rw[qiq d];simp
theorem qlr:∀(d j:Nat) (g:List Int) (f:Int) (acc:List Int),isB g→(0≤f∧f<256)→isB acc→isB (qbg d j g f acc)
 |0,_,_,_,_,_,_,h=>h
 | d+1,j,g,f,acc,hg,hf,h=>by
   simp only[qbg]
   exact qlr d _ g f _ hg hf (qby h (qcl (rd_B h _) (qcx hf _)) _)
theorem qfg:∀(d j:Nat) (g:List Int) (f:Int) (acc:List Int) (t:Nat),j+d≤acc.length→rd (qbg d j g f acc) (t:Int)=if j≤t∧t<j+d then xB (rd acc (t:Int)) (gM f (rd g ((t+1:Nat):Int))) else rd acc (t:Int)
 |0,j,_,_,_,t,_=>by simp only[qbg];rw[if_neg (by omega)]
 | d +1,j,g,f,acc,t,h=>by
   simp only[qbg]
   rw[qfg d (j+1) g f _ t (by simp;omega)]
   by_cases e:j=t
   · subst e
     rw[if_neg (by omega),if_pos (by omega),rd_nat,List.getD_eq_getElem?_getD,List.getElem?_set_self (by omega)]
     rfl
   · have e2:rd (acc.set j (xB (rd acc (j:Int)) (gM f (rd g ((j+1:Nat):Int))))) (t:Int)=rd acc (t:Int):=by
      simp[rd_nat,List.getD_eq_getElem?_getD,List.getElem?_set_ne e]
     rw[e2]
     by_cases h2:j+1≤t∧t<j+1+d
     · rw[if_pos h2,if_pos (by omega)]
     · rw[if_neg h2,if_neg (by omega)]
def qap (g r:List Int) (x:Int):List Int:=qbg r.length 0 g (xB (rd r 0) x) (r.drop 1++[0])
def qat (g:List Int):List Int→List Int→List Int
 |r,[]=>r
 |r,x::xs=>qat g (qap g r x) xs
theorem qcd {g r:List Int} (x:Int) (h:0<r.length):(qap g r x).length=r.length:=by
 unfold qap;rw[qiq];simp;omega
theorem qeq {g r:List Int} {x:Int} (hg:isB g) (hr:isB r) (hx:0≤x∧x<256):isB (qap g r x):=
 qlr _ _ _ _ _ hg (qcl (rd_B hr 0) hx) (qau (fun y hy=>hr y (List.mem_of_mem_drop hy)) qbw)
theorem qer (g:List Int):∀(xs r:List Int),0<r.length→(qat g r xs).length=r.length
 |[],_,_=>rfl
 |x::xs,r,h=>by simp only[qat];rw[qer g xs _ (by rw[qcd x h];exact h),qcd x h]
theorem qgk (g:List Int) (hg:isB g):∀(xs r:List Int),isB r→isB xs→isB (qat g r xs)
 |[],_,h,_=>h
 | x::xs,r,h,hx=>by
   simp only[qat]
   exact qgk g hg xs _ (qeq hg h (hx x (by simp))) (fun y hy=>hx y (by simp[hy]))
def rsB (m:Int) (n:Nat):Bool:=decide ((1≤m∧m≤8)∧1≤n∧(n:Int)≤255-2*m)
def rsOf (data:List Int) (m:Int):List Int×Bool:=
 if rsB m data.length=true then(data++qat (genL (2*m).toNat) (List.replicate (2*m).toNat 0) data,true) else([],false)
def horn (z:Nat):Nat→List Int→Nat
 |a,[]=>a
 |a,c::l=>horn z (gfM a z^^^c.toNat) l
def gfPw (z:Nat):Nat→Nat
 |0=>1
 |n+1=>gfM (gfPw z n) z
theorem qdh (z:Nat):∀(p q:List Int) (a:Nat),horn z a (p++q)=horn z (horn z a p) q
 |[],_,_=>rfl
 |c::p,q,a=>by simp only[List.cons_append,horn];exact qdh z p q _
theorem qce {c:Int} (h:0≤c∧c<256):c.toNat<256:=by omega
theorem qfu (z:Nat):∀(l:List Int) (a:Nat),isB l→a<256→horn z a l<256
 |[],_,_,h=>h
 |c::l,a,hl,h=>qfu z l _ (fun x hx=>hl x (List.mem_cons_of_mem _ hx)) (qao (qbm h z) (qce (hl c (List.mem_cons_self ..))))
theorem qek (z:Nat):∀n,gfPw z n<256
 |0=>by show 1<256;decide
 |n+1=>qbm (qek z n) z
theorem xor4 (a b c d:Nat):(a^^^b)^^^(c^^^d)=(a^^^c)^^^(b^^^d):=by
 rw[Nat.xor_assoc,Nat.xor_assoc,←Nat.xor_assoc b c d,Nat.xor_comm b c,Nat.xor_assoc c b d]
theorem qgl (z:Nat):∀(s p q:List Int) (a b:Nat),isB p→isB q→a<256→b<256→p.length=s.length→q.length=s.length→(∀i:Nat,i<s.length→(rd s (i:Int)).toNat=(rd p (i:Int)).toNat^^^(rd q (i:Int)).toNat)→horn z (a^^^b) s=horn z a p^^^horn z b q
 |[],[],[],_,_,_,_,_,_,_,_,_=>rfl
 | c::s,d::p,e::q,a,b,hp,hq,ha,hb,h1,h2,h=>by
   have h0:=h 0 (by simp)
   have e0:c.toNat=d.toNat^^^e.toNat:=h0
   have hd:=qce (hp d (List.mem_cons_self ..))
   have he:=qce (hq e (List.mem_cons_self ..))
   simp only[horn]
   rw[qdc ha hb,e0,xor4]
   refine qgl z s p q _ _ (fun x hx=>hp x (List.mem_cons_of_mem _ hx)) (fun x hx=>hq x (List.mem_cons_of_mem _ hx)) (qao (qbm ha z) hd) (qao (qbm hb z) he) (by simpa using h1) (by simpa using h2) (fun i hi=> ?_)
   exact h (i+1) (by simp;omega)
 |[],_::_,_,_,_,_,_,_,_,h1,_,_=>by simp at h1
 |[],[],_::_,_,_,_,_,_,_,_,h2,_=>by simp at h2
 |_::_,[],_,_,_,_,_,_,_,h1,_,_=>by simp at h1
 |_::_,_::_,[],_,_,_,_,_,_,_,h2,_=>by simp at h2
theorem qgm (z w:Nat) (hw:w<256) (hz:z<256):∀(l:List Int) (a:Nat),isB l→a<256→horn z (gfM a w) (l.map (fun c=>gM c (w:Int)))=gfM (horn z a l) w
 |[],_,_,_=>rfl
 | c::l,a,hl,ha=>by
   have hc:=qce (hl c (List.mem_cons_self ..))
   simp only[List.map_cons,horn]
   have e1:(gM c (w:Int)).toNat=gfM c.toNat w:=by unfold gM;simp
   rw[e1,qfe ha w z,←qdc (qbm ha z) hc]
   exact qgm z w hw hz l _ (fun x hx=>hl x (List.mem_cons_of_mem _ hx)) (qao (qbm ha z) hc)
theorem qir (z:Nat) (l:List Int) (a:Nat):horn z a (l++[0])=gfM (horn z a l) z:=by
 rw[qdh];simp[horn]
theorem qdk (z:Nat):∀(l:List Int) (a:Nat),z<256→isB l→a<256→horn z a l=gfM a (gfPw z l.length)^^^horn z 0 l
 |[],a,_,_,ha=>by simp[horn,gfPw,gfM_one' ha]
 | c::l,a,hz,hl,ha=>by
   have hc:=qce (hl c (List.mem_cons_self ..))
   have hl2:isB l:=fun x hx=>hl x (List.mem_cons_of_mem _ hx)
   have hp:=qek z l.length
   simp only[horn,List.length_cons,gfPw]
   rw[qdk z l _ hz hl2 (qao (qbm ha z) hc),qdk z l (gfM 0 z^^^c.toNat) hz hl2 (qao (qbm (by decide) z) hc),qbl,Nat.zero_xor,qdc (qbm ha z) hc,qdi ha hz hp,qbk hz hp,Nat.xor_assoc]
theorem qee:∀(d j:Nat) (g:List Int) (w:Int) (acc:List Int) (t:Nat),j+d+1≤acc.length→rd (qay d j g w acc) (t:Int)=if j+1≤t∧t<j+1+d then xB (rd acc (t:Int)) (gM (rd g ((t-1:Nat):Int)) w) else rd acc (t:Int)
 |0,j,g,w,acc,t,_=>by simp only[qay];rw[if_neg (by omega)]
 | d +1,j,g,w,acc,t,h=>by
   simp only[qay]
   rw[qee d (j+1) g w _ t (by simp;omega)]
   have hs:rd (acc.set (j+1) (xB (rd acc ((j+1:Nat):Int)) (gM (rd g (j:Int)) w))) (t:Int)=if t=j+1 then xB (rd acc ((j+1:Nat):Int)) (gM (rd g (j:Int)) w) else rd acc (t:Int):=by
    rw[rd_nat,rd_nat,List.getD_eq_getElem?_getD,List.getD_eq_getElem?_getD,List.getElem?_set]
    by_cases h1:j+1=t
    · rw[if_pos h1,if_pos h1.symm,if_pos (by omega)];rfl
    · rw[if_neg h1,if_neg (fun e=>h1 e.symm),rd_nat,List.getD_eq_getElem?_getD]
   rw[hs]
   by_cases h1:t=j+1
   · subst h1
     rw[if_neg (by omega),if_pos rfl,if_pos (by omega),Nat.add_sub_cancel]
   · rw[if_neg h1]
     by_cases h2:j+1+1≤t∧t<j+1+1+d
     · rw[if_pos h2,if_pos (by omega)]
     · rw[if_neg h2,if_neg (by omega)]
theorem qes {a b:Int} (ha:0≤a∧a<256) (hb:0≤b∧b<256):(xB a b).toNat=a.toNat^^^b.toNat:=by
 have h:=xorN a.toNat b.toNat (by omega) (by omega)
 rw[Int.toNat_of_nonneg ha.1,Int.toNat_of_nonneg hb.1] at h
 unfold xB
 rw[h,Int.toNat_natCast]
theorem qnk {l:List Int} (h:isB l) (w:Int):isB (l.map (fun c=>gM c w)):=fun x hx=>by
 obtain⟨c,hc,rfl⟩:=List.mem_map.1 hx
 exact qcx (h c hc) w
theorem qnl {l:List Int} (h:isB l):isB (0::l):=fun x hx=>by
 rcases List.mem_cons.1 hx with rfl|h2
 · omega
 · exact h x h2
theorem qju (l m:List Int) (t:Nat):rd (l++m) (t:Int)=if t<l.length then rd l (t:Int) else rd m ((t-l.length:Nat):Int):=by
 rw[rd_nat,rd_nat,rd_nat,List.getD_eq_getElem?_getD,List.getD_eq_getElem?_getD,List.getD_eq_getElem?_getD,List.getElem?_append]
 split<;>rfl
theorem qls (l:List Int) (f:Int→Int) (hf:f 0=0) (t:Nat):rd (l.map f) (t:Int)=f (rd l (t:Int)):=by
 rw[rd_nat,rd_nat,List.getD_eq_getElem?_getD,List.getD_eq_getElem?_getD,List.getElem?_map]
 cases l[t]? with
 |none=>exact hf.symm
 |some x=>rfl
theorem qlt (w:Int):gM 0 w=0:=by unfold gM;rw[show(0:Int).toNat=0 from rfl,qbl];rfl
theorem qoz (z:Nat) (hz:z<256) (i:Nat):horn z 0 (genL (i+1))=gfM (horn z 0 (genL i)) z^^^gfM (horn z 0 (genL i)) (gfP i):=by
 have hB:=qch i
 have hl:=qbp i
 have hp:=qcq i
 have e1:=qir z (genL i) 0
 have e2:=qgm z (gfP i) hp hz (genL i) 0 hB (by decide)
 rw[qbl] at e2
 rw[←e1,←e2]
 have e3:horn z 0 (0::(genL i).map (fun c=>gM c ((gfP i:Nat):Int)))=horn z 0 ((genL i).map (fun c=>gM c ((gfP i:Nat):Int))):=by
  simp[horn,qbl]
 rw[←e3]
 refine qgl z (genL (i+1)) (genL i++[0]) (0::(genL i).map (fun c=>gM c ((gfP i:Nat):Int))) 0 0 (qau hB qbw) (qnl (qnk hB _)) (by decide) (by decide) (by simp[qbp]) (by simp[qbp]) (fun t ht=> ?_)
 rw[qbp] at ht
 simp only[genL]
 rw[qee _ _ _ _ _ t (by simp[hl])]
 cases t with
 | zero=>
   rw[if_neg (by omega),show rd (0::(genL i).map (fun c=>gM c ((gfP i:Nat):Int))) ((0:Nat):Int)=0 from rfl]
   simp
 | succ t=>
   rw[if_pos (by omega),qes (rd_B (qau hB qbw) _) (qcx (rd_B hB _) _),Nat.add_sub_cancel]
   congr 2
   rw[show rd (0::(genL i).map (fun c=>gM c ((gfP i:Nat):Int))) ((t+1:Nat):Int)=rd ((genL i).map (fun c=>gM c ((gfP i:Nat):Int))) (t:Int) from rfl,qls _ (fun c=>gM c ((gfP i:Nat):Int)) (qlt _)]
theorem qjv (i:Nat):∀N,i<N→horn (gfP i) 0 (genL N)=0
 | N+1,h=>by
   rw[qoz _ (qcq i)]
   by_cases e:i=N
   · rw[e,Nat.xor_self]
   · rw[qjv i N (by omega),qbl,qbl];rfl
theorem qis:∀i,rd (genL i) ((0:Nat):Int)=1
 |0=>rfl
 | i+1=>by
   simp only[genL]
   rw[qee _ _ _ _ _ 0 (by simp),if_neg (by omega),qju,if_pos (by rw[qbp];omega)]
   exact qis i
theorem qnm (z:Nat) (hz:z<256) (g r:List Int) (x:Int) (hx:0≤x∧x<256) (hg:isB g) (hr:isB r) (D:Nat) (hD:0<D) (hl:r.length=D) (hgl:g.length=D+1) (h1:rd g ((0:Nat):Int)=1) (hroot:horn z 0 g=0):
 horn z 0 (qap g r x)=gfM (horn z 0 r) z^^^gfM x.toNat (gfPw z D):=by
 have hZ:=qek z D
 cases r with
 |nil=>simp at hl;omega
 | cons a r1=>
   cases g with
   |nil=>simp at hgl
   | cons b g1=>
     have ha:=hr a (List.mem_cons_self ..)
     have hr1:isB r1:=fun y hy=>hr y (List.mem_cons_of_mem _ hy)
     have hg1:isB g1:=fun y hy=>hg y (List.mem_cons_of_mem _ hy)
     have hl1:r1.length+1=D:=by simpa using hl
     have hgl1:g1.length=D:=by simpa using hgl
     have hb:b=1:=h1
     have hf:=qcl ha hx
     have en:=qce hf
     have hnat:=qce ha
     have hxn:=qce hx
     have et:=qes ha hx
     -- the generator's tail has the value z ^ D
     have eg:horn z 0 g1=gfPw z D:=by
      have h2:=hroot
      simp only[horn] at h2
      rw[qbl,Nat.zero_xor,hb,qdk z g1 _ hz hg1 (by decide),hgl1,show(1:Int).toNat=1 from rfl] at h2
      have h3:gfM 1 (gfPw z D)=gfPw z D:=qdd ⟨gfPw z D,hZ⟩
      rw[h3] at h2
      have h4:=congrArg (fun v=>gfPw z D^^^v) h2
      simp only[←Nat.xor_assoc,Nat.xor_self,Nat.zero_xor,Nat.xor_zero] at h4
      exact h4
     have e2:=qgm z (xB a x).toNat en hz g1 0 hg1 (by decide)
     rw[qbl,eg] at e2
     have e1:=qir z r1 0
     have hS:horn z 0 (qap (b::g1) (a::r1) x)=gfM (horn z 0 r1) z^^^gfM (gfPw z D) (xB a x).toNat:=by
      rw[←e1,←e2]
      have hlen:(qap (b::g1) (a::r1) x).length=D:=by rw[qcd _ (by simp)];simpa using hl
      refine qgl z (qap (b::g1) (a::r1) x) (r1++[0]) (g1.map (fun c=>gM c (((xB a x).toNat:Nat):Int))) 0 0 (qau hr1 qbw) (qnk hg1 _) (by decide) (by decide) (by rw[hlen];simp;omega) (by rw[hlen];simp;omega) (fun t ht=> ?_)
      rw[hlen] at ht
      have e0:qap (b::g1) (a::r1) x=qbg (a::r1).length 0 (b::g1) (xB a x) (r1++[0]):=rfl
      have e5:rd (b::g1) ((t+1:Nat):Int)=rd g1 (t:Int):=rfl
      have e6:gM (xB a x) (rd g1 (t:Int))=gM (rd g1 (t:Int)) (((xB a x).toNat:Nat):Int):=by
       rw[Int.toNat_of_nonneg hf.1]
       exact qlq hf (rd_B hg1 _)
      have e7:rd (g1.map (fun c=>gM c (((xB a x).toNat:Nat):Int))) (t:Int)=gM (rd g1 (t:Int)) (((xB a x).toNat:Nat):Int):=qls _ (fun c=>gM c (((xB a x).toNat:Nat):Int)) (qlt _) t
      have e8:rd (qbg (a::r1).length 0 (b::g1) (xB a x) (r1++[0])) (t:Int)=xB (rd (r1++[0]) (t:Int)) (gM (xB a x) (rd (b::g1) ((t+1:Nat):Int))):=by
       rw[qfg _ _ _ _ _ t (by simp),if_pos (by simp;omega)]
      rw[e0,e8,e5,e6,e7]
      exact qes (rd_B (qau hr1 qbw) _) (qcx (rd_B hg1 _) _)
     have hv:horn z 0 (a::r1)=gfM a.toNat (gfPw z r1.length)^^^horn z 0 r1:=by
      simp only[horn]
      rw[qbl,Nat.zero_xor]
      exact qdk z r1 _ hz hr1 hnat
     have hV:=qfu z r1 0 hr1 (by decide)
     have hP:=qek z r1.length
     have hpw:gfPw z D=gfM (gfPw z r1.length) z:=by rw[←hl1];rfl
     rw[hS,hv,qdc (qbm hnat _) hV,qdi hnat hP hz,←hpw,et,qbk hZ (qao hnat hxn),qdc hnat hxn]
     rw[←Nat.xor_assoc,Nat.xor_comm (gfM (horn z 0 r1) z)]
theorem qit (z:Nat) (hz:z<256) (g:List Int) (hg:isB g) (D:Nat) (hD:0<D) (hgl:g.length=D+1) (h1:rd g ((0:Nat):Int)=1) (hroot:horn z 0 g=0):∀(xs p r:List Int),isB xs→isB p→isB r→r.length=D→horn z 0 r=gfM (horn z 0 p) (gfPw z D)→horn z 0 (p++xs++qat g r xs)=0
 | [],p,r,_,hp,hr,hl,h=>by
   simp only[qat,List.append_nil]
   rw[qdh,qdk z r _ hz hr (qfu z p 0 hp (by decide)),hl,h,Nat.xor_self]
 | x::xs,p,r,hxs,hp,hr,hl,h=>by
   have hx:=hxs x (List.mem_cons_self ..)
   have hP:=qfu z p 0 hp (by decide)
   have hZ:=qek z D
   have h2:=qnm z hz g r x hx hg hr D hD hl hgl h1 hroot
   have e:p++x::xs++qat g r (x::xs)=(p++[x])++xs++qat g (qap g r x) xs:=by simp[qat]
   rw[e]
   refine qit z hz g hg D hD hgl h1 hroot xs (p++[x]) (qap g r x) (fun y hy=>hxs y (List.mem_cons_of_mem _ hy)) (qau hp (fun y hy=>by simp at hy;rw[hy];exact hx)) (qeq hg hr hx) (by rw[qcd _ (by omega)];exact hl) ?_
   have e3:horn z 0 (p++[x])=gfM (horn z 0 p) z^^^x.toNat:=by rw[qdh];rfl
   rw[h2,h,e3,qdc (qbm hP z) (qce hx),qdi hP hZ hz,qbk hZ hz,←qdi hP hz hZ]
theorem qgu (z:Nat):∀n,horn z 0 (List.replicate n 0)=0
 |0=>rfl
 | n+1=>by
   simp only[List.replicate_succ,horn]
   rw[qbl]
   exact qgu z n
theorem qqu (data:List Int) (hb:isB data) (m:Nat) (hm:0<m) (i:Nat) (hi:i<m):horn (gfP i) 0 (data++qat (genL m) (List.replicate m 0) data)=0:=by
 have hz:isB (List.replicate m (0:Int)):=fun x hx=>by rw[List.eq_of_mem_replicate hx];omega
 have:=qit (gfP i) (qcq i) (genL m) (qch m) m hm (qbp m) (qis m) (qjv i m hi) data [] (List.replicate m 0) hb (fun x hx=>by cases hx) hz (by simp) (by rw[qgu];simp[horn,qbl])
 simpa using this
structure GF where
 v:Nat
 lt:v<256
theorem GF.ext' {a b:GF} (h:a.v=b.v):a=b:=by cases a;cases b;simp only at h;subst h;rfl
def GF.of (n:Nat) (h:n<256):GF:=⟨n,h⟩
instance:Add GF:=⟨fun a b=>⟨a.v^^^b.v,qao a.lt b.lt⟩⟩
instance:Mul GF:=⟨fun a b=>⟨gfM a.v b.v,qbm a.lt b.v⟩⟩
instance:OfNat GF 0:=⟨⟨0,by decide⟩⟩
instance:OfNat GF 1:=⟨⟨1,by decide⟩⟩
theorem GF.add_comm (a b:GF):a+b=b+a:=GF.ext' (Nat.xor_comm ..)
theorem GF.add_assoc (a b c:GF):a+b+c=a+(b+c):=GF.ext' (Nat.xor_assoc ..)
theorem GF.mul_comm (a b:GF):a*b=b*a:=GF.ext' (qbk a.lt b.lt)
theorem GF.mul_assoc (a b c:GF):a*b*c=a*(b*c):=GF.ext' (qdi a.lt b.lt c.lt)
theorem GF.add_zero (a:GF):a+0=a:=GF.ext' (Nat.xor_zero _)
theorem GF.zero_add (a:GF):0+a=a:=GF.ext' (Nat.zero_xor _)
theorem GF.add_self (a:GF):a+a=0:=GF.ext' (Nat.xor_self _)
theorem GF.zero_mul (a:GF):0*a=0:=GF.ext' (qbl a.v)
theorem GF.mul_zero (a:GF):a*0=0:=by rw[GF.mul_comm];exact GF.zero_mul a
theorem GF.one_mul (a:GF):1*a=a:=GF.ext' (qdd ⟨a.v,a.lt⟩)
theorem GF.mul_one (a:GF):a*1=a:=by rw[GF.mul_comm];exact GF.one_mul a
theorem GF.add_mul (a b c:GF):(a+b)*c=a*c+b*c:=GF.ext' (qdc a.lt b.lt c.v)
theorem GF.mul_add (a b c:GF):c*(a+b)=c*a+c*b:=by rw[GF.mul_comm,GF.add_mul,GF.mul_comm a,GF.mul_comm b]
instance:Std.Commutative (α:=GF) (· + ·):=⟨GF.add_comm⟩
instance:Std.Associative (α:=GF) (· + ·):=⟨GF.add_assoc⟩
instance:Std.Commutative (α:=GF) (· * ·):=⟨GF.mul_comm⟩
instance:Std.Associative (α:=GF) (· * ·):=⟨GF.mul_assoc⟩
theorem GF.add_eq_zero {a b:GF} (h:a+b=0):a=b:=by
 have:a+b+b=0+b:=by rw[h]
 rw[GF.add_assoc,GF.add_self,GF.add_zero,GF.zero_add] at this
 exact this
theorem GF.one_ne:(1:GF)≠0:=fun h=>by
 have:=congrArg GF.v h
 exact absurd this (by decide)
def powL:Nat→List Nat
 |0=>[1]
 |n+1=>gfX ((powL n).headD 0)::powL n
theorem qjw:(powL 254).length=255∧((List.range 256).all fun a=>a==0||(powL 254).contains a)=true∧gfX ((powL 254).headD 0)=1:=by decide+kernel
def GF.pw (x:GF):Nat→GF
 |0=>1
 |n+1=>GF.pw x n*x
def two:GF:=⟨2,by decide⟩
theorem qif:∀a:Fin 256,gfM a.1 2=gfX a.1:=by decide+kernel
theorem qdu (x:GF) (a:Nat):∀b,x.pw (a+b)=x.pw a*x.pw b
 |0=>(GF.mul_one _).symm
 |b+1=>by show x.pw (a+b)*x=x.pw a*(x.pw b*x);rw[qdu x a b,GF.mul_assoc]
theorem qgn:∀n,((powL n).headD 0=(two.pw n).v)∧∀a∈powL n,∃i,i≤n∧a=(two.pw i).v
 |0=>⟨rfl,fun a h=>⟨0,Nat.le_refl _,by rw[List.mem_singleton.1 h];rfl⟩⟩
 | n +1=>by
   obtain⟨h1,h2⟩:=qgn n
   have e:gfX ((powL n).headD 0)=(two.pw (n+1)).v:=by
    rw[h1]
    exact(qif ⟨_,(two.pw n).lt⟩).symm
   refine⟨e,fun a h=> ?_⟩
   rcases List.mem_cons.1 h with h|h
   · exact⟨n+1,Nat.le_refl _,h.trans e⟩
   · obtain⟨i,hi,e2⟩:=h2 a h
     exact⟨i,by omega,e2⟩
theorem qel (x:GF) (n:Nat):x.pw (n+1)=x.pw n*x:=rfl
theorem qfh:two.pw 255=1:=by
 have h:=(qgn 254).1
 have h2:=qjw.2.2
 rw[h] at h2
 rw[show(255:Nat)=254+1 from rfl,qel]
 generalize two.pw 254=x at h2
 exact GF.ext' ((qif ⟨x.v,x.lt⟩).trans h2)
theorem GF.is_pw (a:GF) (h:a≠0):∃i,i≤254∧a=two.pw i:=by
 have hall:=qjw.2.1
 rw[List.all_eq_true] at hall
 have:=hall a.v (List.mem_range.2 a.lt)
 simp only[Bool.or_eq_true,beq_iff_eq,List.contains_iff_mem] at this
 rcases this with h0|h0
 · exact absurd (GF.ext' h0) h
 · obtain⟨i,hi,e⟩:=(qgn 254).2 _ h0
   exact⟨i,hi,GF.ext' e⟩
def GF.inv (a:GF):GF:=a.pw 254
theorem qet (x:GF) (a:Nat):∀b,(x.pw a).pw b=x.pw (a*b)
 |0=>rfl
 |b+1=>by show(x.pw a).pw b*x.pw a=_;rw[qet x a b,←qdu];rfl
theorem qjx:∀n,(1:GF).pw n=1
 |0=>rfl
 |n+1=>by show(1:GF).pw n*1=1;rw[qjx n,GF.one_mul]
theorem GF.mul_inv {a:GF} (h:a≠0):a*a.inv=1:=by
 obtain⟨i,_,e⟩:=a.is_pw h
 have:a*a.pw 254=a.pw 255:=GF.mul_comm _ _
 show a*a.pw 254=1
 rw[this,e,qet,Nat.mul_comm,←qet,qfh,qjx]
theorem GF.mul_eq_zero {a b:GF} (h:a*b=0) (ha:a≠0):b=0:=by
 have:a.inv*(a*b)=0:=by rw[h,GF.mul_zero]
 rw[←GF.mul_assoc,GF.mul_comm a.inv,GF.mul_inv ha,GF.one_mul] at this
 exact this
theorem GF.mul_ne {a b:GF} (ha:a≠0) (hb:b≠0):a*b≠0:=fun h=>hb (GF.mul_eq_zero h ha)
theorem GF.inv_ne {a:GF} (h:a≠0):a.inv≠0:=fun e=>by
 have:=GF.mul_inv h
 rw[e,GF.mul_zero] at this
 exact GF.one_ne this.symm
def GF.S:Nat→(Nat→GF)→GF
 |0,_=>0
 |n+1,f=>GF.S n f+f n
theorem qak {f g:Nat→GF}:∀n,(∀i,i<n→f i=g i)→GF.S n f=GF.S n g
 |0,_=>rfl
 |n+1,h=>by show GF.S n f+f n=GF.S n g+g n;rw[qak n (fun i hi=>h i (by omega)),h n (by omega)]
theorem qdl:∀n,GF.S n (fun _=>0)=0
 |0=>rfl
 |n+1=>by show GF.S n _+0=0;rw[qdl n,GF.add_zero]
theorem qeu (f g:Nat→GF):∀n,GF.S n (fun i=>f i+g i)=GF.S n f+GF.S n g
 |0=>(GF.add_zero _).symm
 | n+1=>by
   show GF.S n (fun i=>f i+g i)+(f n+g n)=(GF.S n f+f n)+(GF.S n g+g n)
   rw[qeu f g n];ac_rfl
theorem qcj (c:GF) (f:Nat→GF):∀n,GF.S n (fun i=>c*f i)=c*GF.S n f
 |0=>(GF.mul_zero _).symm
 | n+1=>by
   show GF.S n (fun i=>c*f i)+c*f n=c*(GF.S n f+f n)
   rw[qcj c f n,GF.mul_add]
theorem qgv (c:GF) (f:Nat→GF) (n:Nat):GF.S n (fun i=>f i*c)=GF.S n f*c:=by
 rw[GF.mul_comm,←qcj];exact qak n (fun i _=>GF.mul_comm _ _)
theorem qjy (f:Nat→Nat→GF) (m:Nat):∀n,GF.S n (fun i=>GF.S m (fun j=>f i j))=GF.S m (fun j=>GF.S n (fun i=>f i j))
 |0=>(qdl m).symm
 | n+1=>by
   show GF.S n (fun i=>GF.S m (fun j=>f i j))+GF.S m (fun j=>f n j)=GF.S m (fun j=>GF.S n (fun i=>f i j)+f n j)
   rw[qjy f m n,qeu]
theorem qlu (f:Nat→GF):∀n,GF.S (n+1) f=f 0+GF.S n (fun i=>f (i+1))
 |0=>by show(0:GF)+f 0=f 0+0;rw[GF.zero_add,GF.add_zero]
 | n+1=>by
   show GF.S (n+1) f+f (n+1)=f 0+(GF.S n (fun i=>f (i+1))+f (n+1))
   rw[qlu f n,GF.add_assoc]
theorem qdm {f:Nat→GF} {m:Nat}:∀n,m≤n→(∀i,m≤i→i<n→f i=0)→GF.S n f=GF.S m f
 |0,h,_=>by rw[show m=0 by omega]
 | n +1,h,hz=>by
   rcases Nat.lt_or_ge n m with h1|h1
   · rw[show m=n+1 by omega]
   · show GF.S n f+f n=GF.S m f
     rw[hz n h1 (by omega),GF.add_zero]
     exact qdm n h1 (fun i hi h2=>hz i hi (by omega))
theorem qjp {f:Nat→GF} (c n:Nat) (hc:c<n) (hz:∀i,i<n→i≠c→f i=0):GF.S n f=f c:=by
 have e:GF.S n f=GF.S (c+1) f:=qdm n hc (fun i h1 h2=>hz i h2 (by omega))
 rw[e]
 show GF.S c f+f c=f c
 have:GF.S c f=GF.S 0 f:=qdm c (Nat.zero_le _) (fun i _ h2=>hz i (by omega) (by omega))
 rw[this]
 exact GF.zero_add _
theorem qjz:∀(t:Nat) (X y:Nat→GF),(∀i j,i<t→j<t→X i=X j→i=j)→(∀i,i<t→GF.S t (fun j=>y j*(X j).pw i)=0)→∀j,j<t→y j=0
 |0,_,_,_,_,j,hj=>by omega
 | t + 1,X,y,hX,h,j,hj=>by
   have hlow:∀j,j<t→y j=0:=by
    have:=qjz t X (fun j=>y j*(X j+X t)) (fun i j hi hj=>hX i j (by omega) (by omega)) (fun i hi=> ?_)
    · intro j hj
      have h1:=this j hj
      have h1:y j*(X j+X t)=0:=h1
      rw[GF.mul_comm] at h1
      refine GF.mul_eq_zero h1 (fun e=> ?_)
      have:=hX j t (by omega) (by omega) (GF.add_eq_zero e)
      omega
    · have h1:=h (i+1) (by omega)
      have h2:=h i (by omega)
      have h3:GF.S (t+1) (fun j=>y j*(X j+X t)*(X j).pw i)=0:=by
       have e:GF.S (t+1) (fun j=>y j*(X j+X t)*(X j).pw i)=GF.S (t+1) (fun j=>y j*(X j).pw (i+1))+X t*GF.S (t+1) (fun j=>y j*(X j).pw i):=by
        rw[←qcj,←qeu]
        refine qak _ (fun j _=> ?_)
        show y j*(X j+X t)*(X j).pw i=y j*((X j).pw i*X j)+X t*(y j*(X j).pw i)
        rw[GF.mul_add,GF.add_mul]
        have a1:y j*X j*(X j).pw i=y j*((X j).pw i*X j):=by ac_rfl
        have a2:y j*X t*(X j).pw i=X t*(y j*(X j).pw i):=by ac_rfl
        rw[a1,a2]
       rw[e,h1,h2,GF.mul_zero,GF.add_zero]
      have e2:GF.S (t+1) (fun j=>y j*(X j+X t)*(X j).pw i)=GF.S t (fun j=>y j*(X j+X t)*(X j).pw i)+y t*(X t+X t)*(X t).pw i:=rfl
      rw[e2,GF.add_self,GF.mul_zero,GF.zero_mul,GF.add_zero] at h3
      exact h3
   rcases Nat.lt_or_ge j t with h1|h1
   · exact hlow j h1
   · have hj2:j=t:=by omega
     subst hj2
     have h0:=h 0 (by omega)
     have e:GF.S (j+1) (fun i=>y i*(X i).pw 0)=GF.S j (fun i=>y i*(X i).pw 0)+y j*(X j).pw 0:=rfl
     have e2:GF.S j (fun i=>y i*(X i).pw 0)=0:=by
      rw[qak j (g:=fun _=>0) (fun i hi=>by rw[hlow i hi,GF.zero_mul]),qdl]
     rw[e,e2,GF.zero_add] at h0
     have:y j*(1:GF)=0:=h0
     rwa[GF.mul_one] at this
def hr (z:GF):GF→List GF→GF
 |a,[]=>a
 |a,c::l=>hr z (a*z+c) l
def qs (x:GF):GF→List GF→List GF
 |_,[]=>[]
 |a,c::l=>a::qs x (a*x+c) l
theorem qnn (x:GF):∀(a:GF) (l:List GF),(qs x a l).length=l.length
 |_,[]=>rfl
 |a,c::l=>by simp[qs,qnn x _ l]
theorem qqv (z x w a c:GF):(w*(z+x)+a)*z+c=(w*z+a)*(z+x)+(a*x+c):=by
 have e1:(w*(z+x)+a)*z=w*(z+x)*z+a*z:=GF.add_mul _ _ _
 have e2:(w*z+a)*(z+x)=w*z*(z+x)+a*(z+x):=GF.add_mul _ _ _
 have e3:a*(z+x)=a*z+a*x:=GF.mul_add _ _ _
 have em:w*z*(z+x)=w*(z+x)*z:=by rw[GF.mul_assoc,GF.mul_comm z,←GF.mul_assoc]
 rw[e1,e2,e3,em]
 generalize w*(z+x)*z=u
 generalize a*z=p
 generalize a*x=q
 have:u+(p+q)+(q+c)=u+p+(q+q)+c:=by ac_rfl
 rw[this,GF.add_self,GF.add_zero]
theorem qno (z x:GF):∀(l:List GF) (w a:GF),hr z (w*(z+x)+a) l=hr z w (qs x a l)*(z+x)+hr x a l
 |[],_,_=>rfl
 | c::l,w,a=>by
   have h:=qno z x l (w*z+a) (a*x+c)
   rw[←qqv] at h
   simp only[hr,qs]
   exact h
theorem qgw:∀(n:Nat) (l:List GF) (X:Nat→GF),l.length=n→(∀i j,i<n→j<n→X i=X j→i=j)→(∀i,i<n→hr (X i) 0 l=0)→∀c∈l,c=0
 | 0,l,_,hl,_,_,c,hc=>by
   have:l=[]:=List.eq_nil_of_length_eq_zero hl
   rw[this] at hc;cases hc
 |n+1,[],_,hl,_,_,c,hc=>by cases hc
 | n + 1,a::l,X,hl,hX,h,c,hc=>by
   have ha:∀z,hr z 0 (a::l)=hr z a l:=fun z=>by simp only[hr];rw[GF.zero_mul,GF.zero_add]
   have h0:hr (X n) a l=0:=by rw[←ha];exact h n (by omega)
   have hq:=qgw n (qs (X n) a l) X (by rw[qnn];simpa using hl) (fun i j hi hj=>hX i j (by omega) (by omega)) (fun i hi=> ?_)
   · have key:∀(l:List GF) (a:GF),(∀c∈qs (X n) a l,c=0)→hr (X n) a l=0→∀c∈a::l,c=0:=by
      intro l
      induction l with
      | nil=>
        intro a _ h c hc
        rw[List.mem_singleton.1 hc];exact h
      | cons b l ih=>
        intro a hq h c hc
        have e:a=0:=hq a (List.mem_cons_self ..)
        subst e
        have hb:=ih b (fun c hc=>hq c (by simp only[qs];rw[GF.zero_mul,GF.zero_add];exact List.mem_cons_of_mem _ hc)) (by simp only[hr] at h;rw[GF.zero_mul,GF.zero_add] at h;exact h)
        rcases List.mem_cons.1 hc with rfl|hc
        · rfl
        · exact hb c hc
     exact key l a hq h0 c hc
   · have h1:=h i (by omega)
     rw[ha] at h1
     have e:=qno (X i) (X n) l 0 a
     rw[GF.zero_mul,GF.zero_add,h1,h0,GF.add_zero] at e
     have e':=e.symm
     rw[GF.mul_comm] at e'
     refine GF.mul_eq_zero e' (fun e2=> ?_)
     have:=hX i n (by omega) (by omega) (GF.add_eq_zero e2)
     omega
def conv (C s:Nat→GF) (L k:Nat):GF:=GF.S (L+1) (fun i=>C i*s (k-i))
def qeb (C s:Nat→GF) (L n:Nat):Prop:=∀k,L≤k→k<n→conv C s L k=0
theorem qnp (A B s:Nat→GF) (La Lb k:Nat) (h:La+Lb≤k):GF.S (La+1) (fun i=>A i*conv B s Lb (k-i))=GF.S (Lb+1) (fun j=>B j*conv A s La (k-j)):=by
 unfold conv
 have e1:GF.S (La+1) (fun i=>A i*GF.S (Lb+1) (fun j=>B j*s (k-i-j)))=GF.S (La+1) (fun i=>GF.S (Lb+1) (fun j=>A i*B j*s (k-i-j))):=
  qak _ (fun i _=>by rw[←qcj];exact qak _ (fun j _=>(GF.mul_assoc _ _ _).symm))
 have e2:GF.S (Lb+1) (fun j=>B j*GF.S (La+1) (fun i=>A i*s (k-j-i)))=GF.S (Lb+1) (fun j=>GF.S (La+1) (fun i=>A i*B j*s (k-i-j))):=
  qak _ (fun j _=>by
   rw[←qcj]
   refine qak _ (fun i _=> ?_)
   rw[show k-j-i=k-i-j by omega,←GF.mul_assoc,GF.mul_comm (B j)])
 rw[e1,e2,qjy]
theorem qsf {A B s:Nat→GF} {La Lb r:Nat} (hA:A 0=1) (hmA:qeb A s La (r+1)) (hB:B 0=1) (hmB:qeb B s Lb r) (hd:conv B s Lb r≠0):r+1≤La+Lb:=by
 rcases Nat.lt_or_ge r (La+Lb) with h|h
 · omega
 · exfalso
   apply hd
   have e:=qnp A B s La Lb r h
   have l:GF.S (La+1) (fun i=>A i*conv B s Lb (r-i))=conv B s Lb r:=by
    rw[qjp (f:=fun i=>A i*conv B s Lb (r-i)) 0 (La+1) (by omega) (fun i h1 h2=>by
     show A i*conv B s Lb (r-i)=0
     rw[hmB (r-i) (by omega) (by omega),GF.mul_zero])]
    show A 0*conv B s Lb (r-0)=_
    rw[hA,GF.one_mul,Nat.sub_zero]
   have rr:GF.S (Lb+1) (fun j=>B j*conv A s La (r-j))=0:=by
    rw[qak (g:=fun _=>0) (Lb+1) (fun j hj=>by
     show B j*conv A s La (r-j)=0
     rw[hmA (r-j) (by omega) (by omega),GF.mul_zero]),qdl]
   rw[l,rr] at e
   exact e
structure BM (s:Nat→GF) (n:Nat) (C B:Nat→GF) (L m:Nat) (last:GF):Prop where
 c0:C 0=1
 cL:∀i,L<i→C i=0
 mks:qeb C s L n
 ln:L≤n
 m1:1≤m
 la:last≠0
 b0:B 0=1
 old:(L=0∧m=n+1∧last=1∧∀i,0<i→B i=0)∨∃r Lb,r<n∧m=n-r∧L+Lb=r+1∧Lb≤r∧(∀i,Lb<i→B i=0)∧qeb B s Lb r∧conv B s Lb r=last
theorem BM.start (s:Nat→GF):BM s 0 (fun i=>if i=0 then 1 else 0) (fun i=>if i=0 then 1 else 0) 0 1 1 where
 c0:=rfl
 cL:=fun i h=>if_neg (by omega)
 mks:=fun k h1 h2=>by omega
 ln:=Nat.le_refl _
 m1:=Nat.le_refl _
 la:=GF.one_ne
 b0:=rfl
 old:= .inl ⟨rfl,rfl,rfl,fun i h=>if_neg (by omega)⟩
def qbz (C B:Nat→GF) (m:Nat) (f:GF) (i:Nat):GF:=C i+if m≤i then f*B (i-m) else 0
theorem qjk {s:Nat→GF} {n:Nat} {C:Nat→GF} (c0:C 0=1) (mk:qeb C s 0 n):∀k,k<n→s k=0:=fun k hk=>by
 have:=mk k (Nat.zero_le _) hk
 unfold conv at this
 have e:GF.S (0+1) (fun i=>C i*s (k-i))=C 0*s k:=by show 0+C 0*s (k-0)=_;rw[GF.zero_add,Nat.sub_zero]
 rw[e,c0,GF.one_mul] at this
 exact this
theorem BM.skip {s:Nat→GF} {n:Nat} {C B:Nat→GF} {L m:Nat} {last:GF} (h:BM s n C B L m last) (hd:conv C s L n=0):BM s (n+1) C B L (m+1) last where
 c0:=h.c0
 cL:=h.cL
 mks:=fun k h1 h2=>by
  rcases Nat.lt_or_ge k n with h3|h3
  · exact h.mks k h1 h3
  · rw[show k=n by omega];exact hd
 ln:=Nat.le_succ_of_le h.ln
 m1:=by omega
 la:=h.la
 b0:=h.b0
 old:=by
  rcases h.old with⟨a,b,c,d⟩|⟨r,Lb,a,b,c,d,e,f,g⟩
  · exact .inl ⟨a,by omega,c,d⟩
  · exact .inr ⟨r,Lb,by omega,by omega,c,d,e,f,g⟩
theorem qnq {s:Nat→GF} {C B:Nat→GF} {m:Nat} {f:GF} {L Lb L2:Nat} (hL:L≤L2) (hLb:Lb+m≤L2) (cL:∀i,L<i→C i=0) (bL:∀i,Lb<i→B i=0) (k:Nat) (hk:L2≤k):conv (qbz C B m f) s L2 k=conv C s L k+f*conv B s Lb (k-m):=by
 unfold conv
 have e1:GF.S (L2+1) (fun i=>qbz C B m f i*s (k-i))=GF.S (L2+1) (fun i=>C i*s (k-i))+GF.S (L2+1) (fun i=>(if m≤i then f*B (i-m) else 0)*s (k-i)):=by
  rw[←qeu]
  exact qak _ (fun i _=>by show(C i+_)*_=_;rw[GF.add_mul])
 have e2:GF.S (L2+1) (fun i=>C i*s (k-i))=GF.S (L+1) (fun i=>C i*s (k-i)):=
  qdm (L2+1) (by omega) (fun i h1 _=>by show C i*_=0;rw[cL i (by omega),GF.zero_mul])
 have e3:∀d,GF.S (m+d) (fun i=>(if m≤i then f*B (i-m) else 0)*s (k-i))=f*GF.S d (fun i=>B i*s (k-m-i)):=by
  intro d
  induction d with
  | zero=>
    rw[Nat.add_zero,qak (g:=fun _=>0) m (fun i hi=>by rw[if_neg (by omega),GF.zero_mul]),qdl]
    exact(GF.mul_zero _).symm
  | succ d ih=>
    show GF.S (m+d) _+(if m≤m+d then f*B (m+d-m) else 0)*s (k-(m+d))=f*(GF.S d (fun i=>B i*s (k-m-i))+B d*s (k-m-d))
    rw[ih,if_pos (by omega),show m+d-m=d by omega,show k-(m+d)=k-m-d by omega,GF.mul_add,GF.mul_assoc]
 have e4:GF.S (L2+1) (fun i=>(if m≤i then f*B (i-m) else 0)*s (k-i))=f*GF.S (Lb+1) (fun i=>B i*s (k-m-i)):=by
  have h:=e3 (L2+1-m)
  rw[show m+(L2+1-m)=L2+1 by omega] at h
  rw[h]
  congr 1
  exact qdm _ (by omega) (fun i h1 _=>by show B i*_=0;rw[bL i (by omega),GF.zero_mul])
 rw[e1,e2,e4]
theorem BM.turn {s:Nat→GF} {n:Nat} {C B:Nat→GF} {L m:Nat} {last:GF} (h:BM s n C B L m last) {d:GF} (hd:conv C s L n=d) (hne:d≠0):
 (2*L≤n→BM s (n+1) (qbz C B m (d*last.inv)) C (n+1-L) 1 d)∧(¬2*L≤n→BM s (n+1) (qbz C B m (d*last.inv)) B L (m+1) last):=by
 have hf:d*last.inv*last=d:=by rw[GF.mul_assoc,GF.mul_comm last.inv,GF.mul_inv h.la,GF.mul_one]
 have n0:qbz C B m (d*last.inv) 0=1:=by
  unfold qbz
  have:=h.m1
  rw[if_neg (by omega),h.c0,GF.add_zero]
 rcases h.old with⟨hL,hm,hl,hB⟩|⟨r,Lb,hr,hm,hLr,hLb,bL,mkB,cvB⟩
 · -- no register has been left yet
   subst hL
   have hs:=qjk h.c0 h.mks
   have hcl:∀i,n+1<i→qbz C B m (d*last.inv) i=0:=fun i hi=>by
    unfold qbz
    rw[h.cL i (by omega),if_pos (by omega),hB _ (by omega),GF.mul_zero,GF.add_zero]
   refine⟨fun _=>⟨n0,hcl,fun k h1 h2=>by omega,by omega,Nat.le_refl _,hne,h.c0, .inr ⟨n,0,by omega,by omega,by omega,Nat.zero_le _,h.cL,h.mks,hd⟩⟩,fun h2=>absurd (Nat.zero_le _) h2⟩
 · have hnm:n-m=r:=by omega
   have key:∀L2,L≤L2→Lb+m≤L2→qeb (qbz C B m (d*last.inv)) s L2 (n+1):=by
    intro L2 h1 h2 k h3 h4
    rw[qnq h1 h2 h.cL bL k h3]
    rcases Nat.lt_or_ge k n with h5|h5
    · rw[h.mks k (by omega) h5,mkB (k-m) (by omega) (by omega),GF.mul_zero,GF.add_zero]
    · have:k=n:=by omega
      subst this
      rw[hd,hnm,cvB,hf,GF.add_self]
   have hcl:∀L2,L≤L2→Lb+m≤L2→∀i,L2<i→qbz C B m (d*last.inv) i=0:=by
    intro L2 h1 h2 i h3
    unfold qbz
    rw[h.cL i (by omega),if_pos (by omega),bL _ (by omega),GF.mul_zero,GF.add_zero]
   refine⟨fun h2=>⟨n0,hcl _ (by omega) (by omega),key _ (by omega) (by omega),by omega,Nat.le_refl _,hne,h.c0, .inr ⟨n,L,by omega,by omega,by omega,by omega,h.cL,h.mks,hd⟩⟩,fun h2=>⟨n0,hcl _ (by omega) (by omega),key _ (by omega) (by omega),by have:=h.ln;omega,by omega,h.la,h.b0, .inr ⟨r,Lb,by omega,by omega,hLr,hLb,bL,mkB,cvB⟩⟩⟩
theorem BM.short {s:Nat→GF} {n:Nat} {C B A:Nat→GF} {L m La:Nat} {last:GF} (h:BM s n C B L m last) (hA:A 0=1) (hm:qeb A s La n):L≤La:=by
 rcases h.old with⟨hL,_⟩|⟨r,Lb,hr,_,hLr,_,_,mkB,cvB⟩
 · omega
 · have:=qsf (A:=A) (B:=B) (s:=s) (La:=La) (Lb:=Lb) (r:=r) hA (fun k h1 h2=>hm k h1 (by omega)) h.b0 mkB (by rw[cvB];exact h.la)
   omega
def cl (C:Nat→GF):Nat→List GF
 |0=>[]
 |n+1=>cl C n++[C n]
theorem qnr (C:Nat→GF):∀n,(cl C n).length=n
 |0=>rfl
 |n+1=>by simp[cl,qnr C n]
theorem qns (C:Nat→GF):∀(n i:Nat),i<n→C i∈cl C n
 | n+1,i,h=>by
   rcases Nat.lt_or_ge i n with h1|h1
   · exact List.mem_append_left _ (qns C n i h1)
   · rw[show i=n by omega];exact List.mem_append_right _ (List.mem_singleton.2 rfl)
theorem qlv (z:GF):∀(l:List GF) (a c:GF),hr z a (l++[c])=hr z a l*z+c
 |[],_,_=>rfl
 |b::l,a,c=>by simp only[List.cons_append,hr];exact qlv z l _ c
def val (C:Nat→GF) (L:Nat) (z:GF):GF:=GF.S (L+1) (fun i=>C i*z.pw (L-i))
theorem qmo (C:Nat→GF) (z:GF):∀n,hr z 0 (cl C (n+1))=val C n z
 | 0=>by
   show hr z 0 ([]++[C 0])=0+C 0*1
   simp only[List.nil_append,hr]
   rw[GF.zero_mul,GF.mul_one]
 | n+1=>by
   have e:cl C (n+1+1)=cl C (n+1)++[C (n+1)]:=rfl
   rw[e,qlv,qmo C z n]
   unfold val
   show _=GF.S (n+1) (fun i=>C i*z.pw (n+1-i))+C (n+1)*z.pw (n+1-(n+1))
   rw[Nat.sub_self]
   have e2:GF.S (n+1) (fun i=>C i*z.pw (n+1-i))=GF.S (n+1) (fun i=>C i*z.pw (n-i))*z:=by
    rw[←qgv]
    refine qak _ (fun i hi=> ?_)
    rw[show n+1-i=(n-i)+1 by omega,qel,GF.mul_assoc]
   rw[e2]
   show _=_+C (n+1)*1
   rw[GF.mul_one]
theorem qiu (C:Nat→GF) (L:Nat) (hC:C 0=1) (X:Nat→GF) (hX:∀i j,i<L+1→j<L+1→X i=X j→i=j) (h:∀i,i<L+1→val C L (X i)=0):False:=by
 have:=qgw (L+1) (cl C (L+1)) X (qnr C _) hX (fun i hi=>by rw[qmo];exact h i hi) (C 0) (qns C _ 0 (by omega))
 rw[hC] at this
 exact GF.one_ne this
def lam (X:Nat→GF):Nat→Nat→GF
 |0,i=>if i=0 then 1 else 0
 |t+1,i=>lam X t i+if 0<i then X t*lam X t (i-1) else 0
def qgx (X:Nat→GF) (z:GF):Nat→GF
 |0=>1
 |t+1=>qgx X z t*(z+X t)
theorem qka (X:Nat→GF):∀t,lam X t 0=1
 |0=>rfl
 |t+1=>by show lam X t 0+(if 0<0 then _ else 0)=1;rw[if_neg (by omega),qka X t,GF.add_zero]
theorem qig (X:Nat→GF):∀t i,t<i→lam X t i=0
 |0,i,h=>if_neg (by omega)
 | t+1,i,h=>by
   show lam X t i+(if 0<i then X t*lam X t (i-1) else 0)=0
   rw[if_pos (by omega),qig X t i (by omega),qig X t (i-1) (by omega),GF.mul_zero,GF.add_zero]
theorem qlw (X:Nat→GF) (z:GF):∀t,val (lam X t) t z=qgx X z t
 |0=>by show(0:GF)+1*1=1;rw[GF.zero_add,GF.one_mul]
 | t+1=>by
   show val (lam X (t+1)) (t+1) z=qgx X z t*(z+X t)
   rw[←qlw X z t]
   unfold val
   have e1:GF.S (t+1+1) (fun i=>lam X (t+1) i*z.pw (t+1-i))=GF.S (t+1+1) (fun i=>lam X t i*z.pw (t+1-i))+GF.S (t+1+1) (fun i=>(if 0<i then X t*lam X t (i-1) else 0)*z.pw (t+1-i)):=by
    rw[←qeu]
    exact qak _ (fun i _=>GF.add_mul _ _ _)
   have e2:GF.S (t+1+1) (fun i=>lam X t i*z.pw (t+1-i))=GF.S (t+1) (fun i=>lam X t i*z.pw (t-i))*z:=by
    rw[qdm (m:=t+1) (t+1+1) (by omega) (fun i h1 h2=>by rw[qig X t i (by omega),GF.zero_mul]),←qgv]
    refine qak _ (fun i hi=> ?_)
    rw[show t+1-i=(t-i)+1 by omega,qel,GF.mul_assoc]
   have e3:GF.S (t+1+1) (fun i=>(if 0<i then X t*lam X t (i-1) else 0)*z.pw (t+1-i))=GF.S (t+1) (fun i=>lam X t i*z.pw (t-i))*X t:=by
    rw[qlu,if_neg (by omega),GF.zero_mul,GF.zero_add,←qgv]
    refine qak _ (fun i hi=> ?_)
    rw[if_pos (by omega),show i+1-1=i by omega,show t+1-(i+1)=t-i by omega,GF.mul_comm (X t),GF.mul_assoc,GF.mul_assoc,GF.mul_comm (X t)]
   rw[e1,e2,e3,GF.mul_add]
theorem qiv (X:Nat→GF) (z:GF):∀t j,j<t→z=X j→qgx X z t=0
 | t +1,j,h,e=>by
   show qgx X z t*(z+X t)=0
   rcases Nat.lt_or_ge j t with h1|h1
   · rw[qiv X z t j h1 e,GF.zero_mul]
   · rw[show j=t by omega] at e
     rw[e,GF.add_self,GF.mul_zero]
theorem qfz (C:Nat→GF) (s:Nat→GF) (e X:Nat→GF) (t L k:Nat) (hk:L≤k) (hs:∀i,i≤k→s i=GF.S t (fun j=>e j*(X j).pw i)):conv C s L k=GF.S t (fun j=>e j*val C L (X j)*(X j).pw (k-L)):=by
 unfold conv
 have e1:GF.S (L+1) (fun i=>C i*s (k-i))=GF.S (L+1) (fun i=>GF.S t (fun j=>C i*(e j*(X j).pw (k-i)))):=
  qak _ (fun i _=>by rw[hs (k-i) (by omega),←qcj])
 rw[e1,qjy]
 refine qak _ (fun j _=> ?_)
 unfold val
 rw[GF.mul_assoc,←qgv,←qcj]
 refine qak _ (fun i hi=> ?_)
 have e2:(X j).pw (k-i)=(X j).pw (L-i)*(X j).pw (k-L):=by rw[←qdu];congr 1;omega
 rw[e2,←GF.mul_assoc,GF.mul_comm (C i),GF.mul_assoc,←GF.mul_assoc (C i)]
theorem qqw:∀n,0<n→(0:GF).pw n=0
 |n+1,_=>GF.mul_zero _
theorem qmp {s:Nat→GF} {m:Nat} {C B:Nat→GF} {L q:Nat} {last:GF} (h:BM s (2*m) C B L q last) (t:Nat) (e X:Nat→GF) (ht:t≤m) (hs:∀k,k<2*m→s k=GF.S t (fun j=>e j*(X j).pw k)) (he:∀j,j<t→e j≠0) (hX:∀i j,i<t→j<t→X i=X j→i=j) (hX0:∀j,j<t→X j≠0):
 L=t∧C L≠0∧(∀j,j<t→val C L (X j)=0)∧(∀z,val C L z=0→∃j,j<t∧z=X j):=by
 have hmk:qeb (lam X t) s t (2*m):=fun k h1 h2=>by
  rw[qfz _ s e X t t k h1 (fun i hi=>hs i (by omega)),qak (g:=fun _=>0) t (fun j hj=>by
   rw[qlw,qiv X (X j) t j hj rfl,GF.mul_zero,GF.zero_mul]),qdl]
 have hLt:L≤t:=h.short (qka X t) hmk
 have hroot:∀j,j<t→val C L (X j)=0:=by
  have hv:=qjz t X (fun j=>e j*val C L (X j)) hX (fun i hi=>by
   have h1:=h.mks (L+i) (by omega) (by omega)
   rw[qfz C s e X t L (L+i) (by omega) (fun k hk=>hs k (by omega)),show L+i-L=i by omega] at h1
   exact h1)
  exact fun j hj=>GF.mul_eq_zero (hv j hj) (he j hj)
 have hL:L=t:=by
  rcases Nat.lt_or_ge L t with h1|h1
  · exact(qiu C L h.c0 X (fun i j hi hj=>hX i j (by omega) (by omega)) (fun i hi=>hroot i (by omega))).elim
  · omega
 have honly:∀z,val C L z=0→∃j,j<t∧z=X j:=by
  intro z hz
  refine Classical.byContradiction (fun hn=> ?_)
  have hn2:∀j,j<t→z≠X j:=fun j hj e=>hn ⟨j,hj,e⟩
  refine qiu C L h.c0 (fun i=>if i<t then X i else z) (fun i j hi hj e=> ?_) (fun i hi=> ?_)
  · by_cases h1:i<t<;>by_cases h2:j<t
    · rw[if_pos h1,if_pos h2] at e;exact hX i j h1 h2 e
    · rw[if_pos h1,if_neg h2] at e;exact absurd e.symm (hn2 i h1)
    · rw[if_neg h1,if_pos h2] at e;exact absurd e (hn2 j h2)
    · omega
  · by_cases h1:i<t
    · simp only[if_pos h1];exact hroot i h1
    · simp only[if_neg h1];exact hz
 refine⟨hL,fun h0=> ?_,hroot,honly⟩
 have hz:val C L 0=0:=by
  unfold val
  rw[qjp (f:=fun i=>C i*(0:GF).pw (L-i)) L (L+1) (by omega) (fun i h1 h2=>by rw[qqw _ (by omega),GF.mul_zero])]
  rw[h0,GF.zero_mul]
 obtain⟨j,hj,e2⟩:=honly 0 hz
 exact hX0 j hj e2.symm
theorem qnt (z:Nat) (hz:z<256) (l:List Int) (hl:l.length≤1000) (hb:isB l):∀(d i:Nat) (a:Nat),i+d=l.length→a<256→Ev (fun k=>impl_value.l0 k (z:Int) (a:Int) l (l.length:Int) (i:Int)) ((horn z a (l.drop i):Nat):Int):=by
 intro d
 induction d with
 | zero=>
   intro i a hi ha
   refine Ev.succ ?_
   simp only[impl_value.l0]
   rw[List.drop_of_length_le (by omega)]
   exact Ev.neg (by omega) (Ev.some_ rfl)
 | succ d ih=>
   intro i a hi ha
   have hx:=rd_B hb (i:Int)
   have hg:=qbm ha z
   refine Ev.succ ?_
   simp only[impl_value.l0]
   rw[w64_add (i:=(i:Int)) (by omega) (by omega),w64 (n:=rd l (i:Int)) (by omega) (by omega),drop_rd (xs:=l) (i:=i) (by omega)]
   refine Ev.pos (by omega) (Ev.pos (by omega) (Ev.pos (by omega) (Ev.next (qdj a z ha hz) ?_)))
   have e:=xorN (gfM a z) (rd l (i:Int)).toNat (by omega) (by omega)
   rw[Int.toNat_of_nonneg hx.1] at e
   rw[e]
   exact ih (i+1) _ (by omega) (qao hg (by omega))
theorem qiw (l:List Int) (hl:l.length≤1000) (hb:isB l) (i:Nat) (hi:i≤100):Ev (fun k=>impl_value.f k l (i:Int)) ((horn (gfP i) 0 l:Nat):Int):=by
 unfold impl_value.f
 exact Ev.next (qlp i hi) (qnt (gfP i) (qcq i) l hl hb l.length 0 0 (by omega) (by decide))
theorem qqx (l:List Int) (hl:l.length≤1000) (hb:isB l) (n:Nat) (hn:n≤100) (hz:∀i,i<n→horn (gfP i) 0 l=0):∀d i:Nat,i+d=n→Ev (fun k=>impl_RsOk.l0 k l (n:Int) (i:Int)) true:=by
 intro d
 induction d with
 | zero=>
   intro i hi
   refine Ev.succ ?_
   simp only[impl_RsOk.l0]
   exact Ev.neg (by omega) (Ev.some_ rfl)
 | succ d ih=>
   intro i hi
   refine Ev.succ ?_
   simp only[impl_RsOk.l0]
   rw[w64_add (i:=(i:Int)) (by omega) (by omega)]
   exact Ev.pos (by omega) (Ev.next (qiw l hl hb i (by omega)) (Ev.pos (by rw[hz i (by omega)];rfl) (ih (i+1) (by omega))))
theorem qlx (l:List Int) (m:Nat) (hm:1≤m∧m≤8) (h:2*m<l.length) (h2:l.length≤255):impl_wordOk.f l (m:Int)=some true:=by
 have e:impl_isMend.f (m:Int)=some true:=by
  unfold impl_isMend.f
  rw[if_pos (by omega)];simp;omega
 unfold impl_wordOk.f
 rw[e,w64 (by omega) (by omega)]
 simp only[Option.bind_some]
 rw[if_pos trivial,if_pos (by omega)];simp;omega
theorem qqy (l:List Int) (hb:isB l) (m:Nat) (hm:1≤m∧m≤8) (h:2*m<l.length) (h2:l.length≤255) (hz:∀i,i<2*m→horn (gfP i) 0 l=0):Ev (fun k=>impl_RsOk.f k l (m:Int)) true:=by
 unfold impl_RsOk.f
 rw[show wrap64 (2*(m:Int))=((2*m:Nat):Int) by rw[w64 (by omega) (by omega)];omega]
 exact Ev.next (Ev.here (qlx l m hm h h2)) (Ev.pos rfl (qqx l (by omega) hb (2*m) (by omega) hz (2*m) 0 (by omega)))
theorem qpa (N:Nat) (hN:N≤300):∀d i:Nat,i+d=N→Ev (fun k=>impl_gfPow.l0 k ((gfP i:Nat):Int) (N:Int) (i:Int)) ((gfP N:Nat):Int):=by
 intro d
 induction d with
 | zero=>
   intro i hi
   refine Ev.succ ?_
   simp only[impl_gfPow.l0]
   rw[show i=N by omega]
   exact Ev.neg (by omega) (Ev.some_ rfl)
 | succ d ih=>
   intro i hi
   refine Ev.succ ?_
   simp only[impl_gfPow.l0]
   rw[w64_add (by omega) (by omega)]
   exact Ev.pos (by omega) (Ev.next (qdj (gfP i) 2 (qcq i) (by omega)) (ih (i+1) (by omega)))
def tG (x:Int):GF:=⟨x.toNat%256,Nat.mod_lt _ (by decide)⟩
def iG (a:GF):Int:=(a.v:Int)
theorem qcm (a:GF):0≤iG a∧iG a<256:=by have:=a.lt;unfold iG;omega
theorem qdq (a:GF):tG (iG a)=a:=GF.ext' (by have:=a.lt;show(a.v:Int).toNat%256=a.v;omega)
theorem qqo {x:Int} (h:0≤x∧x<256):iG (tG x)=x:=by show((x.toNat%256:Nat):Int)=x;omega
theorem qev {a:GF}:iG a=0↔a=0:=⟨fun h=>GF.ext' (by have:(a.v:Int)=0:=h;show a.v=0;omega),fun h=>by rw[h];rfl⟩
theorem qsg {x y:Int} (hx:0≤x∧x<256) (hy:0≤y∧y<256):tG (bits .xor .i64 x y)=tG x+tG y:=GF.ext' (by
 have h:=qes hx hy
 unfold xB at h
 have b:=qcl hx hy
 unfold xB at b
 show(bits .xor .i64 x y).toNat%256=(x.toNat%256)^^^(y.toNat%256)
 have e1:x.toNat%256=x.toNat:=by omega
 have e2:y.toNat%256=y.toNat:=by omega
 rw[h,e1,e2,Nat.mod_eq_of_lt (qao (by omega) (by omega))])
theorem qgy (a b:GF):bits .xor .i64 (iG a) (iG b)=iG (a+b):=by
 have b1:=qcl (qcm a) (qcm b)
 unfold xB at b1
 rw[←qqo b1,qsg (qcm a) (qcm b),qdq,qdq]
theorem qdf (a b:GF):Ev (fun k=>impl_GfMul.f k (iG a) (iG b)) (iG (a*b)):=qdj a.v b.v a.lt b.lt
def co (l:List Int) (i:Nat):GF:=tG (rd l (i:Int))
theorem qfi {l:List Int} {i:Nat} (h:l.length≤i):rd l (i:Int)=0:=by
 rw[rd_nat,List.getD_eq_getElem?_getD,List.getElem?_eq_none h];rfl
theorem qgz {l:List Int} {i:Nat} (h:l.length≤i):co l i=0:=by unfold co;rw[qfi h];rfl
theorem qbj {l:List Int} (h:isB l) (i:Nat):rd l (i:Int)=iG (co l i):=(qqo (rd_B h _)).symm
theorem qqz (l:List Int) (i:Nat):co (l++[0]) i=co l i:=by
 unfold co
 rw[qju]
 split
 · rfl
 · rename_i h
   rw[qfi (l:=l) (by omega)]
   rcases Nat.eq_zero_or_pos (i-l.length) with e|e
   · rw[e];rfl
   · rw[qfi (l:=[0]) (by simp;omega)]
theorem qha {l:List Int} {j:Nat} (hj:j<l.length) {v:Int} (i:Nat):co (l.set j v) i=if i=j then tG v else co l i:=by
 unfold co
 have h:rd (l.set j v) (i:Int)=if i=j then v else rd l (i:Int):=by
  rw[rd_nat,rd_nat,List.getD_eq_getElem?_getD,List.getD_eq_getElem?_getD,List.getElem?_set]
  by_cases hij:i=j
  · subst hij;simp[hj]
  · rw[if_neg (fun h=>hij h.symm),if_neg hij]
 rw[h]
 split<;>rfl
theorem EvP.on {α β:Type} {g:Nat→Option α} {o:α→Nat→Option β} {P:β→Prop} {a:α} (h:Ev g a) (H:EvP (o a) P):EvP (fun n=>(g n).bind fun x=>o x n) P:=EvP.next (Ev.p h) (fun _ e=>e▸H)
theorem qra (a:GF):∀(d i:Nat),i+d=254→Ev (fun k=>impl_GfInv.l0 k (iG a) (iG (a.pw i)) (i:Int)) (if iG a=0 then 0 else iG a.inv):=by
 intro d
 induction d with
 | zero=>
   intro i hi
   have:i=254:=by omega
   subst this
   refine Ev.succ ?_
   simp only[impl_GfInv.l0]
   refine Ev.neg (by omega) ?_
   exact Ev.cond (fun _=>Ev.some_ rfl) (fun _=>Ev.some_ rfl)
 | succ d ih=>
   intro i hi
   refine Ev.succ ?_
   simp only[impl_GfInv.l0]
   rw[w64_add (i:=(i:Int)) (by omega) (by omega)]
   exact Ev.pos (by omega) (Ev.next (qdf (a.pw i) a) (ih (i+1) (by omega)))
theorem qly {a:GF} (ha:a≠0):Ev (fun k=>impl_GfInv.f k (iG a)) (iG a.inv):=by
 have hb:=qcm a
 unfold impl_GfInv.f
 refine Ev.next (Ev.here (qff _)) (Ev.pos (decide_eq_true (by omega)) ?_)
 have h:=qra a 254 0 (by omega)
 rw[if_neg (fun h=>ha (qev.1 h))] at h
 exact h
theorem qnu (R:List Int→Prop):∀(n:Nat) (c:List Int),c.length=n→n≤1000→isB c→(∀c',isB c'→c'.length≤n→(∀i,co c' i=co c i)→(0<c'.length→rd c' ((c'.length-1:Nat):Int)≠0)→R c')→EvP (fun k=>impl_locator.l4 k c) R
 | 0,c,hc,_,hb,h=>by
   refine EvP.succ ?_
   simp only[impl_locator.l4]
   exact EvP.neg (by omega) (EvP.now (h c hb (by omega) (fun _=>rfl) (fun h2=>by omega)))
 | n +1,c,hc,hn,hb,h=>by
   have w1:wrap64 ((c.length:Int)-1)=((c.length-1:Nat):Int):=by rw[w64 (by omega) (by omega)];omega
   refine EvP.succ ?_
   simp only[impl_locator.l4]
   rw[w1]
   refine EvP.pos (by omega) (EvP.pos (by omega) (EvP.pos (by omega) ?_))
   refine EvP.both (fun h0=>EvP.pos (by omega) ?_) (fun h0=>EvP.now (h c hb (by omega) (fun _=>rfl) (fun _=>h0)))
   rw[Int.toNat_natCast]
   refine qnu R n _ (by rw[List.length_take];omega) (by omega) (fun x hx=>hb x (List.mem_of_mem_take hx)) (fun c' h1 h2 h3 h4=>h c' h1 (by omega) (fun i=> ?_) h4)
   rw[h3]
   unfold co
   rcases Nat.lt_or_ge i (c.length-1) with h5|h5
   · congr 1
     rw[rd_nat,rd_nat,List.getD_eq_getElem?_getD,List.getD_eq_getElem?_getD,List.getElem?_take,if_pos h5]
   · rw[qfi (l:=c.take (c.length-1)) (by rw[List.length_take];omega)]
     rcases Nat.eq_or_lt_of_le h5 with h6|h6
     · rw[←h6,h0]
     · rw[qfi (l:=c) (by omega)]
structure LocSt (S:List Int) (n:Nat) (c b:List Int) (L m:Nat) (last:GF):Prop where
 bm:BM (co S) n (co c) (co b) L m last
 cB:isB c
 bB:isB b
 cl:c.length≤n+1
 bl:b.length+m≤n+2
def qhb (S:List Int) (c:List Int):Prop:=isB c∧c.length≤S.length+1∧(0<c.length→rd c ((c.length-1:Nat):Int)≠0)∧∃B L m last,BM (co S) S.length (co c) B L m last
theorem BM.congr {s:Nat→GF} {n:Nat} {C C' B:Nat→GF} {L m:Nat} {last:GF} (h:BM s n C B L m last) (e:∀i,C' i=C i):BM s n C' B L m last:=by
 have:C'=C:=funext e
 rw[this];exact h
theorem qsh {P:List Int→Prop} (S:List Int) (x5 x7 x8 x9 x18 x19:Int) (b t:List Int) (f:GF) (m N:Nat) (hb:isB b) (hm:m≤1000) (hN:b.length+m≤N) (hN2:N≤2000) (C:Nat→GF)
 (H:∀c',isB c'→c'.length=N→(∀i,co c' i=qbz C (co b) m f i)→EvP (fun k=>if(wrap64 (2*x5))≤x8 then(impl_locator.l0 k S c' t (wrap64 ((wrap64 (x8+1))-x5)) 1 x9 x18 (wrap64 (x19+1))) else(impl_locator.l0 k S c' b x5 (wrap64 ((m:Int)+1)) x7 x18 (wrap64 (x19+1)))) P):
 ∀(d i:Nat) (c:List Int),i+d=b.length→c.length=N→isB c→(∀j,co c j=C j+if m≤j∧j<m+i then f*co b (j-m) else 0)→EvP (fun k=>impl_locator.l3 k S c b x5 (m:Int) x7 x8 x9 t (iG f) x18 x19 (b.length:Int) (i:Int)) P:=by
 intro d
 induction d with
 | zero=>
   intro i c hi hc hcB hco
   refine EvP.succ ?_
   simp only[impl_locator.l3]
   refine EvP.neg (by omega) (H c hcB hc (fun j=> ?_))
   rw[hco j]
   unfold qbz
   by_cases h1:m≤j
   · rw[if_pos h1]
     by_cases h2:j<m+i
     · rw[if_pos ⟨h1,h2⟩]
     · rw[if_neg (fun h=>h2 h.2),qgz (l:=b) (by omega),GF.mul_zero]
   · rw[if_neg h1,if_neg (fun h=>h1 h.1)]
 | succ d ih=>
   intro i c hi hc hcB hco
   have w1:wrap64 ((i:Int)+(m:Int))=((i+m:Nat):Int):=by rw[w64 (by omega) (by omega)];omega
   have hx:bits .xor .i64 (rd c ((i+m:Nat):Int)) (iG (f*co b i))=iG (co c (i+m)+f*co b i):=by rw[qbj hcB,qgy]
   refine EvP.succ ?_
   simp only[impl_locator.l3]
   rw[w1,w64_add (i:=(i:Int)) (by omega) (by omega),qbj hb i,Int.toNat_natCast]
   refine EvP.pos (by omega) (EvP.pos (by omega) (EvP.pos (by omega) (EvP.pos (by omega) (EvP.pos (by omega) (EvP.next (Ev.p (qdf f (co b i))) ?_)))))
   rintro y rfl
   rw[hx]
   refine ih (i+1) _ (by omega) (by rw[List.length_set];exact hc) (qby hcB (qcm _) _) (fun j=> ?_)
   rw[qha (by omega)]
   by_cases h1:j=i+m
   · subst h1
     rw[if_pos rfl,qdq,hco (i+m),if_neg (by omega),if_pos (by omega),GF.add_zero,Nat.add_sub_cancel]
   · rw[if_neg h1,hco j]
     by_cases h2:m≤j∧j<m+i
     · rw[if_pos h2,if_pos (by omega)]
     · rw[if_neg h2,if_neg (by omega)]
theorem qsi {P:List Int→Prop} (S:List Int) (x5 x7 x8 x9 x12 x18 x19:Int) (b t:List Int) (m:Nat) (hm:b.length+m≤2000) (C:Nat→GF) (N:Nat)
 (H:∀c',isB c'→c'.length=N→(∀i,co c' i=C i)→EvP (fun k=>impl_locator.l3 k S c' b x5 (m:Int) x7 x8 x9 t x12 x18 x19 (b.length:Int) 0) P):
 ∀(d:Nat) (c:List Int),b.length+m≤c.length+d→(0<d→c.length+d=b.length+m)→c.length+d=N→isB c→(∀i,co c i=C i)→EvP (fun k=>impl_locator.l2 k S c b x5 (m:Int) x7 x8 x9 t x12 x18 x19) P:=by
 have w1:wrap64 ((b.length:Int)+(m:Int))=((b.length+m:Nat):Int):=by rw[w64 (by omega) (by omega)];omega
 intro d
 induction d with
 | zero=>
   intro c h1 _ h2 h3 h4
   refine EvP.succ ?_
   simp only[impl_locator.l2]
   rw[w1]
   exact EvP.neg (by omega) (H c h3 (by omega) h4)
 | succ d ih=>
   intro c h1 h5 h2 h3 h4
   have h6:=h5 (by omega)
   refine EvP.succ ?_
   simp only[impl_locator.l2]
   rw[w1]
   refine EvP.pos (by omega) (EvP.pos (by omega) (ih _ (by simp;omega) (fun _=>by simp;omega) (by simp;omega) (qau h3 qbw) (fun i=> ?_)))
   rw[qqz,h4]
theorem qsj {P:List Int→Prop} (S:List Int) (c b:List Int) (L n:Nat) (x6 x7 x18:Int) (hS:isB S) (hc:isB c) (hn:n<S.length) (hSl:S.length≤100) (hL:L≤n) (hc0:co c 0=1)
 (H:EvP (fun k=>impl_locator.j2 k S c b (L:Int) x6 x7 (n:Int) (iG (conv (co c) (co S) L n)) x18 (n:Int)) P):
 ∀(d i:Nat),i+d=L+1→1≤i→EvP (fun k=>impl_locator.l1 k S c b (L:Int) x6 x7 (n:Int) (iG (GF.S i (fun j=>co c j*co S (n-j)))) (i:Int) x18 (n:Int)) P:=by
 intro d
 induction d with
 | zero=>
   intro i hi h1
   have:i=L+1:=by omega
   subst this
   refine EvP.succ ?_
   simp only[impl_locator.l1]
   exact EvP.neg (by omega) H
 | succ d ih=>
   intro i hi h1
   have w1:wrap64 ((n:Int)-(i:Int))=((n-i:Nat):Int):=by rw[w64 (by omega) (by omega)];omega
   refine EvP.succ ?_
   simp only[impl_locator.l1]
   refine EvP.pos (by omega) ?_
   by_cases h:(i:Int)<(c.length:Int)
   · rw[w1,w64_add (i:=(i:Int)) (by omega) (by omega),qbj hc i,qbj hS (n-i)]
     refine EvP.pos h (EvP.pos (by omega) (EvP.pos (by omega) (EvP.pos (by omega) (EvP.next (Ev.p (qdf (co c i) (co S (n-i)))) ?_))))
     rintro y rfl
     rw[qgy]
     exact ih (i+1) (by omega) (by omega)
   · refine EvP.neg h ?_
     have e:conv (co c) (co S) L n=GF.S i (fun j=>co c j*co S (n-j)):=qdm (L+1) (by omega) (fun j h2 _=>by
      show co c j*_=0
      rw[qgz (l:=c) (by omega),GF.zero_mul])
     rw[←e]
     exact H
theorem qsk (i:Nat):co [1] i=if i=0 then 1 else 0:=by
 rcases Nat.eq_zero_or_pos i with h|h
 · subst h;rfl
 · rw[if_neg (by omega),qgz (by simp;omega)]
theorem qtm {n L m:Nat} (hn:n≤100) (hL:L≤n) (hm:m≤1000):wrap64 ((n:Int)+1)=((n+1:Nat):Int)∧wrap64 (2*(L:Int))=((2*L:Nat):Int)∧wrap64 (((n+1:Nat):Int)-(L:Int))=((n+1-L:Nat):Int)∧wrap64 ((m:Int)+1)=((m+1:Nat):Int):=by
 refine⟨?_,?_,?_,?_⟩<;>(rw[w64 (by omega) (by omega)];omega)
theorem qrb (S:List Int) (hS:isB S) (hSl:S.length≤100):∀(d n:Nat) (c b:List Int) (L m:Nat) (last:GF),n+d=S.length→LocSt S n c b L m last→EvP (fun k=>impl_locator.l0 k S c b (L:Int) (m:Int) (iG last) (S.length:Int) (n:Int)) (qhb S):=by
 intro d
 induction d with
 | zero=>
   intro n c b L m last hn h
   have e:n=S.length:=by omega
   subst e
   refine EvP.succ ?_
   simp only[impl_locator.l0]
   refine EvP.neg (by omega) (qnu (qhb S) c.length c rfl (by have:=h.cl;omega) h.cB (fun c' h1 h2 h3 h4=>⟨h1,by have:=h.cl;omega,h4,co b,L,m,last,h.bm.congr h3⟩))
 | succ d ih=>
   intro n c b L m last hn h
   have hcl:=h.cl
   have hbl:=h.bl
   have hLn:=h.bm.ln
   have hm1:=h.bm.m1
   have hlast:=h.bm.la
   have hn9:n≤100:=by omega
   refine EvP.succ ?_
   simp only[impl_locator.l0]
   have st:iG (GF.S 1 (fun j=>co c j*co S (n-j)))=rd S (n:Int):=by
    have:GF.S 1 (fun j=>co c j*co S (n-j))=co S n:=by
     show(0:GF)+co c 0*co S (n-0)=co S n
     rw[h.bm.c0,GF.one_mul,GF.zero_add,Nat.sub_zero]
    rw[this,←qbj hS]
   have l1:=qsj (P:=qhb S) S c b L n (m:Int) (iG last) (S.length:Int) hS h.cB (by omega) hSl hLn h.bm.c0 ?_ L 1 (by omega) (by omega)
   · rw[st] at l1
     exact EvP.pos (by omega) (EvP.pos (by omega) (EvP.pos (by omega) l1))
   · refine EvP.succ ?_
     simp only[impl_locator.j2]
     by_cases hd:conv (co c) (co S) L n=0
     · rw[hd]
       rw[w64_add (i:=(n:Int)) (by omega) (by omega),w64_add (i:=(m:Int)) (by omega) (by omega)]
       exact EvP.pos rfl (ih (n+1) c b L (m+1) last (by omega) ⟨h.bm.skip hd,h.cB,h.bB,by omega,by omega⟩)
     · obtain⟨t1,t2⟩:=h.bm.turn (d:=conv (co c) (co S) L n) rfl hd
       have hcl2:slices_Clone_int_int.f c=some c:=by
        unfold slices_Clone_int_int.f
        rw[if_pos (by omega)]
       refine EvP.neg (fun h0=>hd (qev.1 h0)) (EvP.on (Ev.here hcl2) (EvP.on (qly hlast) (EvP.on (qdf _ _) ?_)))
       obtain⟨dd,hdd⟩:∃dd,dd=(b.length+m)-c.length:=⟨_,rfl⟩
       refine qsi S (L:Int) (iG last) (n:Int) (iG (conv (co c) (co S) L n)) _ (S.length:Int) (n:Int) b c m (by omega) (co c) (c.length+dd) (fun c1 h1 h2 h3=> ?_) dd c (by omega) (fun _=>by omega) rfl h.cB (fun _=>rfl)
       refine qsh S (L:Int) (iG last) (n:Int) (iG (conv (co c) (co S) L n)) (S.length:Int) (n:Int) b c (conv (co c) (co S) L n*last.inv) m (c.length+dd) h.bB (by omega) (by omega) (by omega) (co c) (fun c2 g1 g2 g3=> ?_) b.length 0 c1 (by omega) h2 h1 (fun j=>by rw[h3 j,if_neg (by omega),GF.add_zero])
       obtain⟨w1,w2,w3,w4⟩:=qtm (n:=n) (L:=L) (m:=m) hn9 hLn (by omega)
       rw[w1,w2,w3,w4]
       clear w1 w2 w3 w4
       refine EvP.both (fun h5=> ?_) (fun h5=> ?_)
       · exact ih (n+1) c2 c (n+1-L) 1 (conv (co c) (co S) L n) (by omega) ⟨(t1 (by omega)).congr g3,g1,h.cB,by omega,by omega⟩
       · exact ih (n+1) c2 b L (m+1) last (by omega) ⟨(t2 (by omega)).congr g3,g1,h.bB,by omega,by omega⟩
theorem qsl (S:List Int) (hS:isB S) (hSl:S.length≤100):EvP (fun k=>impl_locator.f k S) (qhb S):=by
 unfold impl_locator.f
 have e:∀i,co [1] i=if i=0 then 1 else 0:=qsk
 have f:co [1]=fun i=>if i=0 then 1 else 0:=funext e
 have b1:isB [1]:=fun x hx=>by simp at hx;omega
 have st:LocSt S 0 [1] [1] 0 1 1:=⟨by rw[f];exact BM.start _,b1,b1,by simp,by simp⟩
 exact qrb S hS hSl S.length 0 [1] [1] 0 1 1 (by omega) st
def qdg:Nat→Nat→Bool
 |0,_=>true
 |n+1,a=>gfX a != 1&&qdg n (gfX a)
theorem qrc:qdg 254 1=true:=by decide+kernel
theorem qhc:∀(n i:Nat) (a:Nat),qdg n a=true→a=(two.pw i).v→∀j,1≤j→j≤n→two.pw (i+j)≠1
 |0,i,a,_,_,j,h1,h2=>by omega
 | n +1,i,a,h,e,j,h1,h2=>by
   simp only[qdg,Bool.and_eq_true,bne_iff_ne] at h
   have e2:gfX a=(two.pw (i+1)).v:=by
    rw[e]
    exact(qif ⟨_,(two.pw i).lt⟩).symm
   rcases Nat.eq_or_lt_of_le h1 with h3|h3
   · rw[←h3]
     intro e3
     apply h.1
     rw[e2,e3];rfl
   · have:=qhc n (i+1) (gfX a) h.2 e2 (j-1) (by omega) (by omega)
     rwa[show i+1+(j-1)=i+j by omega] at this
theorem qnv (j:Nat) (h1:1≤j) (h2:j≤254):two.pw j≠1:=by
 have:=qhc 254 0 1 qrc rfl j h1 h2
 rwa[Nat.zero_add] at this
theorem qkb:two≠0:=fun h=>absurd (congrArg GF.v h) (by decide)
theorem qew {x:GF} (h:x≠0):∀n,x.pw n≠0
 |0=>GF.one_ne
 |n+1=>GF.mul_ne (qew h n) h
theorem GF.cancel {a b c:GF} (ha:a≠0) (h:a*b=a*c):b=c:=by
 have:a.inv*(a*b)=a.inv*(a*c):=by rw[h]
 rwa[←GF.mul_assoc,←GF.mul_assoc,GF.mul_comm a.inv,GF.mul_inv ha,GF.one_mul,GF.one_mul] at this
theorem qhd {a b:Nat} (ha:a≤254) (hb:b≤254) (h:two.pw a=two.pw b):a=b:=by
 have key:∀a b,a≤b→b≤254→two.pw a=two.pw b→a=b:=by
  intro a b h1 h2 h3
  rcases Nat.eq_or_lt_of_le h1 with h4|h4
  · exact h4
  · exfalso
    have e:two.pw b=two.pw a*two.pw (b-a):=by rw[←qdu,show a+(b-a)=b by omega]
    rw[e] at h3
    have:two.pw a*1=two.pw a*two.pw (b-a):=by rw[GF.mul_one];exact h3
    exact qnv (b-a) (by omega) (by omega) (GF.cancel (qew qkb a) this).symm
 rcases Nat.le_total a b with h1|h1
 · exact key a b h1 hb h
 · exact(key b a h1 ha h.symm).symm
theorem qmq (n:Nat):two.pw (n%255)=two.pw n:=by
 have e:two.pw n=two.pw (255*(n / 255)+n%255):=by rw[Nat.div_add_mod]
 rw[e,qdu,←qet,qfh,qjx,GF.one_mul]
theorem qfj:∀n,gfP n=(two.pw n).v
 |0=>rfl
 | n+1=>by
   show gfM (gfP n) 2=gfM (two.pw n).v two.v
   rw[qfj n];rfl
theorem qkc (n:Nat) (hn:n≤1000000):Ev (fun k=>impl_gfPow.f k (n:Int)) (iG (two.pw n)):=by
 have e:iG (two.pw n)=((gfP (n%255):Nat):Int):=by rw[←qmq,qfj];rfl
 rw[e]
 unfold impl_gfPow.f
 rw[show Int.tmod (n:Int) 255=((n%255:Nat):Int) by rw[Int.tmod_eq_emod_of_nonneg (by omega)];omega]
 exact qpa (n%255) (by omega) (n%255) 0 (by omega)
theorem qlz (z:GF):∀(l:List Int) (a:GF),isB l→horn z.v a.v l=(hr z a (l.map tG)).v
 |[],_,_=>rfl
 | c::l,a,h=>by
   have hc:=h c (List.mem_cons_self ..)
   have e:(gfM a.v z.v)^^^c.toNat=(a*z+tG c).v:=by
    show _=(a*z).v^^^(tG c).v
    have:(tG c).v=c.toNat:=by show c.toNat%256=c.toNat;omega
    rw[this];rfl
   simp only[horn,List.map_cons,hr]
   rw[e]
   exact qlz z l _ (fun x hx=>h x (List.mem_cons_of_mem _ hx))
theorem qsm (l:List Int):l.map tG=cl (co l) l.length:=by
 have key:∀n,n≤l.length→(l.take n).map tG=cl (co l) n:=by
  intro n
  induction n with
  |zero=>intro _;rfl
  | succ n ih=>
    intro h
    rw[take_rd (xs:=l) (i:=n) (by omega),List.map_append,ih (by omega)]
    rfl
 have:=key l.length (Nat.le_refl _)
 rwa[List.take_of_length_le (Nat.le_refl _)] at this
def wval (l:List Int) (z:GF):GF:=GF.S l.length (fun g=>co l g*z.pw (l.length-1-g))
theorem qfk (z:GF) (l:List Int) (h:isB l):horn z.v 0 l=(wval l z).v:=by
 have e:=qlz z l 0 h
 rw[qsm] at e
 have e0:(0:GF).v=0:=rfl
 rw[e0] at e
 rw[e]
 cases hl:l.length with
 |zero=>unfold wval;rw[hl];rfl
 | succ n=>
   rw[qmo]
   unfold wval val
   rw[hl]
   rfl
theorem qhe (l:List Int) (hl:l.length≤1000) (hb:isB l) (i:Nat) (hi:i≤100):Ev (fun k=>impl_value.f k l (i:Int)) (iG (wval l (two.pw i))):=by
 have:=qiw l hl hb i hi
 rw[qfj,qfk _ _ hb] at this
 exact this
def pick (p:Nat→Bool):Nat→List Nat
 |0=>[]
 |n+1=>if p n=true then pick p n++[n] else pick p n
theorem qct (p:Nat→Bool):∀(n g:Nat),g∈pick p n↔g<n∧p g=true
 |0,g=>by simp[pick]
 | n + 1,g=>by
   unfold pick
   split
   · rename_i h
     rw[List.mem_append,qct p n g,List.mem_singleton]
     constructor
     · rintro(⟨a,b⟩|rfl)
       · exact⟨by omega,b⟩
       · exact⟨by omega,h⟩
     · rintro⟨a,b⟩
       rcases Nat.eq_or_lt_of_le (Nat.le_of_lt_succ a) with h1|h1
       · exact .inr h1
       · exact .inl ⟨h1,b⟩
   · rename_i h
     rw[qct p n g]
     constructor
     · rintro⟨a,b⟩;exact⟨by omega,b⟩
     · rintro⟨a,b⟩
       rcases Nat.eq_or_lt_of_le (Nat.le_of_lt_succ a) with h1|h1
       · rw[h1] at b;exact absurd b h
       · exact⟨h1,b⟩
theorem qkd (p:Nat→Bool) (f:Nat→GF) (hf:∀g,p g≠true→f g=0):∀n,GF.S n f=GF.S (pick p n).length (fun j=>f ((pick p n).getD j 0))
 |0=>rfl
 | n +1=>by
   have ih:=qkd p f hf n
   show GF.S n f+f n=_
   by_cases h:p n=true
   · have e:pick p (n+1)=pick p n++[n]:=by show(if p n=true then _ else _)=_;rw[if_pos h]
     rw[e,List.length_append,List.length_singleton]
     show _=GF.S (pick p n).length (fun j=>f ((pick p n++[n]).getD j 0))+f ((pick p n++[n]).getD (pick p n).length 0)
     rw[qak (g:=fun j=>f ((pick p n).getD j 0)) (pick p n).length (fun j hj=>by simp[List.getD_eq_getElem?_getD,List.getElem?_append_left hj]),←ih]
     simp[List.getD_eq_getElem?_getD]
   · have e:pick p (n+1)=pick p n:=by show(if p n=true then _ else _)=_;rw[if_neg h]
     rw[e,hf n h,GF.add_zero]
     exact ih
theorem qgo (p:Nat→Bool):∀(n i j:Nat),i<(pick p n).length→j<(pick p n).length→(pick p n).getD i 0=(pick p n).getD j 0→i=j
 |0,i,j,h,_,_=>by simp[pick] at h
 | n + 1,i,j,hi,hj,e=>by
   have ih:=qgo p n
   by_cases h:p n=true
   · have e1:pick p (n+1)=pick p n++[n]:=by show(if p n=true then _ else _)=_;rw[if_pos h]
     rw[e1] at hi hj e
     simp only[List.length_append,List.length_singleton] at hi hj
     have low:∀i,i<(pick p n).length→(pick p n++[n]).getD i 0=(pick p n).getD i 0∧(pick p n).getD i 0<n:=fun i hi=>by
      refine⟨by simp[List.getD_eq_getElem?_getD,List.getElem?_append_left hi],?_⟩
      have hm:(pick p n)[i]∈pick p n:=List.getElem_mem hi
      have:=((qct p n _).1 hm).1
      simpa [List.getD_eq_getElem?_getD,hi] using this
     have top:(pick p n++[n]).getD (pick p n).length 0=n:=by simp[List.getD_eq_getElem?_getD]
     rcases Nat.lt_or_ge i (pick p n).length with h1|h1<;>rcases Nat.lt_or_ge j (pick p n).length with h2|h2
     · rw[(low i h1).1,(low j h2).1] at e
       exact ih i j h1 h2 e
     · rw[show j=(pick p n).length by omega,top,(low i h1).1] at e
       have:=(low i h1).2;omega
     · rw[show i=(pick p n).length by omega,top,(low j h2).1] at e
       have:=(low j h2).2;omega
     · omega
   · have e1:pick p (n+1)=pick p n:=by show(if p n=true then _ else _)=_;rw[if_neg h]
     rw[e1] at hi hj e
     exact ih i j hi hj e
def difP (a b:List Int) (g:Nat):Bool:=rd a (g:Int) != rd b (g:Int)
def difs (a b:List Int):List Nat:=pick (difP a b) b.length
def errX (N:Nat) (gs:List Nat) (j:Nat):GF:=two.pw (N-1-gs.getD j 0)
def errE (a b:List Int) (gs:List Nat) (j:Nat):GF:=co a (gs.getD j 0)+co b (gs.getD j 0)
theorem qke {a b:List Int} (hl:a.length=b.length) (i:Nat) (hz:wval b (two.pw i)=0):wval a (two.pw i)=GF.S (difs a b).length (fun j=>errE a b (difs a b) j*(errX b.length (difs a b) j).pw i):=by
 have e1:wval a (two.pw i)=GF.S b.length (fun g=>(co a g+co b g)*(two.pw i).pw (b.length-1-g)):=by
  have h1:GF.S b.length (fun g=>(co a g+co b g)*(two.pw i).pw (b.length-1-g))=GF.S b.length (fun g=>co a g*(two.pw i).pw (b.length-1-g))+GF.S b.length (fun g=>co b g*(two.pw i).pw (b.length-1-g)):=by
   rw[←qeu]
   exact qak _ (fun g _=>GF.add_mul _ _ _)
  have h2:GF.S b.length (fun g=>co b g*(two.pw i).pw (b.length-1-g))=0:=hz
  rw[h1,h2,GF.add_zero]
  unfold wval
  rw[hl]
 rw[e1,qkd (difP a b) _ (fun g hg=> ?_) b.length]
 · refine qak _ (fun j _=> ?_)
   show(co a ((difs a b).getD j 0)+co b ((difs a b).getD j 0))*(two.pw i).pw (b.length-1-(difs a b).getD j 0)=_
   unfold errE errX
   rw[qet,qet,Nat.mul_comm i]
 · have:rd a (g:Int)=rd b (g:Int):=by
    unfold difP at hg
    simpa using hg
   unfold co
   rw[this,GF.add_self,GF.zero_mul]
theorem qem {a b:List Int} {j:Nat} (h:j<(difs a b).length):(difs a b).getD j 0<b.length∧rd a (((difs a b).getD j 0:Nat):Int)≠rd b (((difs a b).getD j 0:Nat):Int):=by
 have hm:(difs a b)[j]∈difs a b:=List.getElem_mem h
 obtain⟨h1,h2⟩:=(qct (difP a b) b.length _).1 hm
 have e:(difs a b).getD j 0=(difs a b)[j]:=by simp[List.getD_eq_getElem?_getD,h]
 rw[e]
 exact⟨h1,by unfold difP at h2;simpa using h2⟩
theorem qrd {a b:List Int} (ha:isB a) (hb:isB b) {j:Nat} (h:j<(difs a b).length):errE a b (difs a b) j≠0:=fun e=>by
 have h2:=(qem h).2
 have e2:=GF.add_eq_zero e
 apply h2
 rw[qbj ha,qbj hb,e2]
theorem qkf {a b:List Int} (hl:b.length≤255) {i j:Nat} (hi:i<(difs a b).length) (hj:j<(difs a b).length) (e:errX b.length (difs a b) i=errX b.length (difs a b) j):i=j:=by
 have h1:=(qem hi).1
 have h2:=(qem hj).1
 have:=qhd (by omega) (by omega) e
 exact qgo (difP a b) b.length i j hi hj (by show(difs a b).getD i 0=(difs a b).getD j 0;omega)
theorem qhf {p q:Nat→Bool}:∀n,(∀g,g<n→p g=q g)→pick p n=pick q n
 |0,_=>rfl
 |n+1,h=>by unfold pick;rw[qhf n (fun g hg=>h g (by omega)),h n (by omega)]
def lowv (c:List Int) (w:GF):GF:=GF.S c.length (fun q=>co c q*w.pw q)
theorem qpb {c:List Int} {L:Nat} (hc:c.length=L+1) {z w:GF} (h:z*w=1):val (co c) L z=z.pw L*lowv c w:=by
 unfold val lowv
 rw[hc,←qcj]
 refine qak _ (fun q hq=> ?_)
 have e:z.pw L=z.pw (L-q)*z.pw q:=by rw[←qdu,show L-q+q=L by omega]
 have e2:z.pw q*w.pw q=1:=by
  clear e hq
  induction q with
  |zero=>exact GF.one_mul 1
  | succ q ih=>
    rw[qel,qel]
    have:z.pw q*z*(w.pw q*w)=z.pw q*w.pw q*(z*w):=by ac_rfl
    rw[this,ih,h,GF.one_mul]
 have e3:z.pw (L-q)*z.pw q*(co c q*w.pw q)=co c q*z.pw (L-q)*(z.pw q*w.pw q):=by ac_rfl
 rw[e,e3,e2,GF.mul_one]
theorem qre {P:List Int×Int×Bool→Prop} (x0:List Int) (x1:Int) (c gone:List Int) (x11 x38 x39:Int) (w:GF) (hcB:isB c) (hcl:c.length≤1000)
 (H:EvP (fun k=>if iG (lowv c w)=0 then(if gone.length<17592186044416 then(impl_RsMend.l1 k x0 x1 c (gone++[x11]) x38 (wrap64 (x39+1))) else none) else(impl_RsMend.l1 k x0 x1 c gone x38 (wrap64 (x39+1)))) P):
 ∀(i:Nat) (a:GF),i≤c.length→a*w.pw i+GF.S i (fun q=>co c q*w.pw q)=lowv c w→EvP (fun k=>impl_RsMend.l2 k x0 x1 c gone x11 (iG w) (iG a) ((i:Int)-1) x38 x39) P:=by
 intro i
 induction i with
 | zero=>
   intro a hi he
   have e:a=lowv c w:=by
    rw[←he]
    show a=a*1+0
    rw[GF.mul_one,GF.add_zero]
   subst e
   refine EvP.succ ?_
   simp only[impl_RsMend.l2]
   exact EvP.neg (by omega) H
 | succ i ih=>
   intro a hi he
   have w1:(((i+1:Nat):Int)-1)=(i:Int):=by omega
   refine EvP.succ ?_
   simp only[impl_RsMend.l2]
   rw[w1,w64 (n:=(i:Int)-1) (by omega) (by omega),qbj hcB i]
   refine EvP.pos (by omega) (EvP.on (qdf a w) (EvP.pos (by omega) (EvP.pos (by omega) ?_)))
   rw[qgy]
   refine ih _ (by omega) ?_
   rw[←he,GF.add_mul]
   show a*w*w.pw i+co c i*w.pw i+GF.S i (fun q=>co c q*w.pw q)=a*(w.pw i*w)+(GF.S i (fun q=>co c q*w.pw q)+co c i*w.pw i)
   have e1:a*w*w.pw i=a*(w.pw i*w):=by ac_rfl
   rw[e1,GF.add_assoc,GF.add_comm (co c i*w.pw i)]
def tryW (N g:Nat):GF:=two.pw (255-(N-1-g)%255)
theorem qrf {N g:Nat} (hN:N≤255):two.pw (N-1-g)*tryW N g=1:=by
 unfold tryW
 rw[←qdu,Nat.mod_eq_of_lt (by omega),show N-1-g+(255-(N-1-g))=255 by omega]
 exact qfh
def qaq (l:List Nat):List Int:=l.map (fun g:Nat=>(g:Int))
theorem qpc {P:List Int×Int×Bool→Prop} (x0 c:List Int) (M:Nat) (hM:M≤8) (hl:x0.length≤255) (hcB:isB c) (hcl:c.length≤1000)
 (H:EvP (fun k=>if((qaq (pick (fun g=>decide (iG (lowv c (tryW x0.length g))=0)) x0.length)).length:Int)>(M:Int) then(impl_RsMend.j3 k x0 (M:Int) (qaq (pick (fun g=>decide (iG (lowv c (tryW x0.length g))=0)) x0.length)) true) else(impl_RsMend.j3 k x0 (M:Int) (qaq (pick (fun g=>decide (iG (lowv c (tryW x0.length g))=0)) x0.length)) (((qaq (pick (fun g=>decide (iG (lowv c (tryW x0.length g))=0)) x0.length)).length:Int) != (wrap64 ((c.length:Int)-1))))) P):
 ∀(d i:Nat),i+d=x0.length→EvP (fun k=>impl_RsMend.l1 k x0 (M:Int) c (qaq (pick (fun g=>decide (iG (lowv c (tryW x0.length g))=0)) i)) (x0.length:Int) (i:Int)) P:=by
 have plen:∀(p:Nat→Bool) n,(pick p n).length≤n:=by
  intro p n
  induction n with
  |zero=>exact Nat.le_refl _
  | succ n ih=>
    unfold pick
    split
    · rw[List.length_append,List.length_singleton];omega
    · omega
 intro d
 induction d with
 | zero=>
   intro i hi
   have:i=x0.length:=by omega
   subst this
   refine EvP.succ ?_
   simp only[impl_RsMend.l1]
   exact EvP.neg (by omega) H
 | succ d ih=>
   intro i hi
   have e:wrap64 (255-Int.tmod (wrap64 (wrap64 ((x0.length:Int)-1)-(i:Int))) 255)=((255-(x0.length-1-i)%255:Nat):Int):=by
    rw[w64 (n:=(x0.length:Int)-1) (by omega) (by omega),w64 (n:=(x0.length:Int)-1-(i:Int)) (by omega) (by omega),Int.tmod_eq_emod_of_nonneg (by omega),w64 (by omega) (by omega)];omega
   have hp:=plen (fun g=>decide (iG (lowv c (tryW x0.length g))=0)) i
   have e2:wrap64 ((c.length:Int)-1)=(c.length:Int)-1:=w64 (by omega) (by omega)
   have ihs:=ih (i+1) (by omega)
   refine EvP.succ ?_
   simp only[impl_RsMend.l1]
   rw[e,e2]
   refine EvP.pos (by omega) (EvP.on (qkc _ (by omega)) ?_)
   refine qre x0 (M:Int) c _ (i:Int) (x0.length:Int) (i:Int) (tryW x0.length i) hcB hcl ?_ c.length 0 (Nat.le_refl _) (by rw[GF.zero_mul,GF.zero_add];rfl)
   rw[w64_add (i:=(i:Int)) (by omega) (by omega)]
   by_cases h:iG (lowv c (tryW x0.length i))=0
   · have e3:qaq (pick (fun g=>decide (iG (lowv c (tryW x0.length g))=0)) (i+1))=qaq (pick (fun g=>decide (iG (lowv c (tryW x0.length g))=0)) i)++[(i:Int)]:=by
      unfold qaq
      show((if decide (iG (lowv c (tryW x0.length i))=0)=true then pick _ i++[i] else pick _ i).map _)=_
      rw[if_pos (decide_eq_true h),List.map_append];rfl
     rw[e3] at ihs
     exact EvP.pos h (EvP.pos (by unfold qaq;rw[List.length_map];omega) ihs)
   · have e3:qaq (pick (fun g=>decide (iG (lowv c (tryW x0.length g))=0)) (i+1))=qaq (pick (fun g=>decide (iG (lowv c (tryW x0.length g))=0)) i):=by
      unfold qaq
      show((if decide (iG (lowv c (tryW x0.length i))=0)=true then pick _ i++[i] else pick _ i).map _)=_
      rw[if_neg (by simpa using h)]
     rw[e3] at ihs
     exact EvP.neg h ihs
theorem qpd (a b:List Int) (hl:a.length=b.length) (hb:b.length≤1000) {P:List Int×Int×Bool→Prop} (H:P (b,((difs a b).length:Int),true)):∀d i:Nat,i+d=b.length→EvP (fun k=>impl_RsMend.l3 k a b ((pick (difP a b) i).length:Int) (b.length:Int) (i:Int)) P:=by
 have plen:∀(p:Nat→Bool) n,(pick p n).length≤n:=by
  intro p n
  induction n with
  |zero=>exact Nat.le_refl _
  | succ n ih=>
    unfold pick
    split
    · rw[List.length_append,List.length_singleton];omega
    · omega
 intro d
 induction d with
 | zero=>
   intro i hi
   have:i=b.length:=by omega
   subst this
   refine EvP.succ ?_
   simp only[impl_RsMend.l3]
   exact EvP.neg (by omega) (EvP.now H)
 | succ d ih=>
   intro i hi
   have hp:=plen (difP a b) i
   have ihs:=ih (i+1) (by omega)
   refine EvP.succ ?_
   simp only[impl_RsMend.l3]
   rw[w64_add (i:=(i:Int)) (by omega) (by omega),w64_add (i:=((pick (difP a b) i).length:Int)) (by omega) (by omega)]
   refine EvP.pos (by omega) (EvP.pos (by omega) (EvP.pos (by omega) (EvP.pos (by omega) ?_)))
   by_cases h:rd b (i:Int)=rd a (i:Int)
   · have e:pick (difP a b) (i+1)=pick (difP a b) i:=by
      show(if difP a b i=true then _ else _)=_
      rw[if_neg (by unfold difP;simp[h])]
     rw[e] at ihs
     exact EvP.pos h ihs
   · have e:(pick (difP a b) (i+1)).length=(pick (difP a b) i).length+1:=by
      show(if difP a b i=true then pick (difP a b) i++[i] else pick (difP a b) i).length=_
      rw[if_pos (by unfold difP;simpa using fun e=>h e.symm)];simp
     rw[e] at ihs
     exact EvP.neg h ihs
theorem qnw (f:Nat→GF):∀(n k:Nat),k<n→co ((List.range n).map (fun i=>iG (f i))) k=f k:=by
 intro n k h
 unfold co
 rw[rd_nat]
 simp only[List.getD_eq_getElem?_getD,List.getElem?_map,List.getElem?_range h,Option.map_some,Option.getD_some]
 exact qdq _
theorem qsn (f:Nat→GF) (n:Nat):isB ((List.range n).map (fun i=>iG (f i))):=fun x hx=>by
 obtain⟨i,_,rfl⟩:=List.mem_map.1 hx
 exact qcm _
theorem qpe {P:List Int×Int×Bool→Prop} (x0:List Int) (x1:Int) (n:Nat) (hn:n≤100) (hl:x0.length≤1000) (hb:isB x0)
 (H:EvP (fun k=>(impl_locator.f k ((List.range n).map (fun i=>iG (wval x0 (two.pw i))))).bind fun t=>impl_RsMend.l1 k x0 x1 t [] (x0.length:Int) 0) P):
 ∀d i:Nat,i+d=n→EvP (fun k=>impl_RsMend.l0 k x0 x1 ((List.range i).map (fun i=>iG (wval x0 (two.pw i)))) (n:Int) (i:Int)) P:=by
 intro d
 induction d with
 | zero=>
   intro i hi
   have:i=n:=by omega
   subst this
   refine EvP.succ ?_
   simp only[impl_RsMend.l0]
   exact EvP.neg (by omega) H
 | succ d ih=>
   intro i hi
   have ihs:=ih (i+1) (by omega)
   rw[List.range_succ,List.map_append] at ihs
   refine EvP.succ ?_
   simp only[impl_RsMend.l0]
   rw[w64_add (i:=(i:Int)) (by omega) (by omega)]
   exact EvP.pos (by omega) (EvP.on (qhe x0 hl hb i (by omega)) (EvP.pos (by simp;omega) ihs))
theorem qmr (W V:List Int) (hW:isB W) (hV:isB V) (hl:V.length=W.length) (M:Nat) (hM:1≤M∧M≤8) (h2:2*M<W.length) (h3:W.length≤255) (hz:∀i,i<2*M→horn (gfP i) 0 W=0) (hd:(difs V W).length≤M)
 (hfill:Ev (fun k=>impl_fill.f k V (qaq (difs V W)) (M:Int)) (W,true)):EvP (fun k=>impl_RsMend.f k V (M:Int)) (fun r=>r.1=W∧r.2.2=true∧r.2.1≤(M:Int)):=by
 have w2:wrap64 (2*(M:Int))=((2*M:Nat):Int):=by rw[w64 (by omega) (by omega)];omega
 have hzW:∀i,i<2*M→wval W (two.pw i)=0:=fun i hi=>by
  have:=hz i hi
  rw[qfj,qfk _ _ hW] at this
  exact GF.ext' this
 unfold impl_RsMend.f
 rw[w2]
 refine EvP.on (Ev.here (qlx V M hM (by omega) (by omega))) (EvP.pos rfl ?_)
 refine qpe V (M:Int) (2*M) (by omega) (by omega) hV ?_ (2*M) 0 (by omega)
 have hS:=qsn (fun i=>wval V (two.pw i)) (2*M)
 have hSl:((List.range (2*M)).map (fun i=>iG (wval V (two.pw i)))).length=2*M:=by simp
 refine EvP.next (qsl _ hS (by omega)) ?_
 rintro c ⟨hcB,hcl,htrim,B,L,m,last,hbm⟩
 rw[hSl] at hbm hcl
 obtain⟨hLt,hCL,hroot,honly⟩:=qmp hbm (difs V W).length (errE V W (difs V W)) (errX W.length (difs V W)) hd (fun k hk=>by
  rw[qnw _ (2*M) k hk]
  exact qke hl k (hzW k hk)) (fun j hj=>qrd hV hW hj) (fun i j hi hj e=>qkf h3 hi hj e) (fun j _=>qew qkb _)
 -- the register's length
 have hclen:c.length=L+1:=by
  have h4:L<c.length:=by
   rcases Nat.lt_or_ge L c.length with h|h
   · exact h
   · exact absurd (qgz h) hCL
  rcases Nat.eq_or_lt_of_le (show L+1≤c.length by omega) with h5|h5
  · exact h5.symm
  · exfalso
    have h6:=htrim (by omega)
    rw[qbj hcB,hbm.cL _ (by omega)] at h6
    exact h6 rfl
 -- the places
 have hpl:pick (fun g=>decide (iG (lowv c (tryW V.length g))=0)) V.length=difs V W:=by
  rw[hl]
  refine qhf _ (fun g hg=> ?_)
  have hv:=qpb (c:=c) (L:=L) hclen (qrf (N:=W.length) (g:=g) h3)
  have hne:=qew (qew qkb (W.length-1-g)) L
  have key:iG (lowv c (tryW W.length g))=0↔difP V W g=true:=by
   rw[qev]
   constructor
   · intro h0
     rw[h0,GF.mul_zero] at hv
     obtain⟨j,hj,e⟩:=honly _ hv
     have hat:=qem hj
     have e2:g=(difs V W).getD j 0:=by
      have:=qhd (a:=W.length-1-g) (b:=W.length-1-(difs V W).getD j 0) (by omega) (by omega) e
      omega
     rw[e2]
     unfold difP
     simpa using hat.2
   · intro h0
     have hm:g∈difs V W:=(qct _ _ _).2 ⟨hg,h0⟩
     obtain⟨j,hj,e⟩:=List.getElem_of_mem hm
     have e2:(difs V W).getD j 0=g:=by simp[List.getD_eq_getElem?_getD,hj,e]
     have hr:=hroot j hj
     have e3:errX W.length (difs V W) j=two.pw (W.length-1-g):=by unfold errX;rw[e2]
     rw[e3,hv] at hr
     exact GF.mul_eq_zero hr hne
  rw[Bool.eq_iff_iff,decide_eq_true_iff]
  exact key
 have hl1:=qpc (P:=fun r=>r.1=W∧r.2.2=true∧r.2.1≤(M:Int)) V c M hM.2 (by omega) hcB (by omega) ?_ V.length 0 (by omega)
 · exact hl1
 · rw[hpl]
   have hil:(qaq (difs V W)).length=(difs V W).length:=by unfold qaq;simp
   have w1:wrap64 ((c.length:Int)-1)=((difs V W).length:Int):=by rw[w64 (by omega) (by omega)];omega
   rw[hil,w1]
   refine EvP.neg (by omega) (EvP.succ ?_)
   simp only[impl_RsMend.j3]
   refine EvP.neg (by simp) (EvP.on hfill (EvP.pos rfl (EvP.on (qqy W hW M hM h2 h3 hz) (EvP.succ ?_))))
   simp only[impl_RsMend.j4]
   exact EvP.neg (by decide) (qpd V W hl (by omega) ⟨rfl,rfl,by show((difs V W).length:Int)≤M;omega⟩ W.length 0 (by omega))
def qdr (x:Int):Bool:=decide (x=0∨x=1)
theorem qld {l:List Int}:l.all qdr=true↔∀x∈l,x=0∨x=1:=by simp[List.all_eq_true,qdr]
def qaz (l:List Int):Bool:=l.all qdr&&decide (l.length≤1024)
theorem qcb {l:List Int}:qaz l=true↔(∀x∈l,x=0∨x=1)∧l.length≤1024:=by
 unfold qaz;rw[Bool.and_eq_true,qld];simp
theorem qms (l:List Int) (hl:l.length≤1048576):∀(d i:Nat),i+d=l.length→Ev (fun k=>spec_BitsOk.l0 k l (i:Int)) ((l.drop i).all qdr&&decide (l.length≤1024)):=by
 intro d
 induction d with
 | zero=>
   intro i hi
   refine Ev.succ ?_
   simp only[spec_BitsOk.l0]
   rw[List.drop_of_length_le (by omega)]
   exact Ev.neg (by omega) (Ev.some_ (by simp;omega))
 | succ d ih=>
   intro i hi
   refine Ev.succ ?_
   simp only[spec_BitsOk.l0,qbx,Option.bind_some]
   refine Ev.pos (by omega) (Ev.pos (by omega) ?_)
   rw[drop_rd (xs:=l) (i:=i) (by omega),w64_add (by omega) (by omega)]
   by_cases h1:rd l i=0∨rd l i=1
   · exact Ev.pos (by simp;omega) ((ih (i+1) (by omega)).to (by simp[qdr,h1]))
   · exact Ev.neg (by simp;omega) (Ev.some_ (by simp[qdr,h1]))
theorem qhg (l:List Int) (hl:l.length≤1048576):Ev (fun k=>spec_BitsOk.f k l) (qaz l):=
 (qms l hl l.length 0 (by omega)).to (by simp[qaz])
theorem qpf (a:Int):impl_isBit.f a=some (decide (a=0∨a=1)):=by
 unfold impl_isBit.f
 by_cases h:a=0
 · simp[h]
 · rw[if_neg h];simp[h];by_cases h1:a=1<;>simp[h1]
theorem qmt (l:List Int) (hl:l.length≤1048576):∀(d i:Nat),i+d=l.length→Ev (fun k=>impl_BitsOk.l0 k l l (l.length:Int) (i:Int)) ((l.drop i).all qdr&&decide (l.length≤1024)):=by
 intro d
 induction d with
 | zero=>
   intro i hi
   refine Ev.succ ?_
   simp only[impl_BitsOk.l0]
   rw[List.drop_of_length_le (by omega)]
   exact Ev.neg (by omega) (Ev.some_ (by simp;omega))
 | succ d ih=>
   intro i hi
   refine Ev.succ ?_
   simp only[impl_BitsOk.l0,qpf,Option.bind_some]
   refine Ev.pos (by omega) (Ev.pos (by omega) (Ev.pos (by omega) ?_))
   rw[drop_rd (xs:=l) (i:=i) (by omega),w64_add (by omega) (by omega)]
   by_cases h1:rd l i=0∨rd l i=1
   · exact Ev.pos (by simp[h1]) ((ih (i+1) (by omega)).to (by simp[qdr,h1]))
   · exact Ev.neg (by simp[h1]) (Ev.some_ (by simp[qdr,h1]))
theorem qhh (l:List Int) (hl:l.length≤1048576):Ev (fun k=>impl_BitsOk.f k l) (qaz l):=
 (qmt l hl l.length 0 (by omega)).to (by simp[qaz])
def qbt (a:Int):Bool:=decide (a=2∨a=4∨a=6∨a=8)
def inB (a b c:Int):Bool:=decide (b≤a)&&decide (a≤c)
theorem qfv {a b c:Int}:inB a b c=true↔b≤a∧a≤c:=by unfold inB;simp
def qai (w m r s ra si:Int):Bool:=qbt w&&inB m 1 8&&inB r 1 64&&inB s 1 65535&&inB ra 1 8&&inB si 1 10000
theorem qav {w m r s ra si:Int}:qai w m r s ra si=true↔(w=2∨w=4∨w=6∨w=8)∧(1≤m∧m≤8)∧(1≤r∧r≤64)∧(1≤s∧s≤65535)∧(1≤ra∧ra≤8)∧(1≤si∧si≤10000):=by
 unfold qai;simp only[Bool.and_eq_true,qfv,qbt,decide_eq_true_eq,and_assoc]
theorem qex (a:Int):impl_isWidth.f a=some (qbt a):=by
 unfold impl_isWidth.f qbt
 by_cases h2:a=2
 · simp[h2]
 · by_cases h4:a=4
   · simp[h4]
   · by_cases h6:a=6
     · simp[h6]
     · simp only[if_neg h2,if_neg h4,if_neg h6,Option.some.injEq]
       by_cases h8:a=8<;>simp[h2,h4,h6,h8]
theorem qnx (a:Int):impl_isMend.f a=some (inB a 1 8):=by
 unfold impl_isMend.f inB
 by_cases h:a≥1<;>simp[h]
theorem qih (a b:Int):impl_is16.f a b=some (inB a b 65535):=by
 unfold impl_is16.f inB
 by_cases h:a≥b<;>simp[h]
theorem qso {a b c:Int} {o:Option Bool}:(if a≥b then(if a≤c then o else some false) else some false)=(if inB a b c=true then o else some false):=by
 unfold inB
 by_cases h:a≥b<;>by_cases h2:a≤c<;>simp[h,h2]
theorem qef (w m r s ra si:Int):impl_ModemOk.f w m r s ra si=some (qai w m r s ra si):=by
 unfold impl_ModemOk.f qai
 simp only[qex,qnx,qih,Option.bind_some,qso]
 have e:(if si≥1 then some (decide (si≤10000)) else some false)=some (inB si 1 10000):=by
  unfold inB
  by_cases h:si≥1<;>simp[h]
 rw[e]
 cases qbt w<;>cases inB m 1 8<;>cases inB r 1 64<;>cases inB s 1 65535<;>cases inB ra 1 8<;>rfl
theorem qga (a:Int):spec_l13Width.f a=some (qbt a):=by
 unfold spec_l13Width.f qbt
 by_cases h2:a=2
 · simp[h2]
 · by_cases h4:a=4
   · simp[h4]
   · by_cases h6:a=6
     · simp[h6]
     · simp only[if_neg h2,if_neg h4,if_neg h6,Option.some.injEq]
       by_cases h8:a=8<;>simp[h2,h4,h6,h8]
theorem qmu (a:Int):spec_l14Mend.f a=some (inB a 1 8):=by unfold spec_l14Mend.f inB;rw[qbx];rfl
theorem qgb (w m r s ra si:Int):spec_ModemOk.f w m r s ra si=some (qai w m r s ra si):=by
 unfold spec_ModemOk.f qai
 have e:∀a b c:Int,spec_l1In.f a b c=some (inB a b c):=qbx
 simp only[qga,qmu,e,Option.bind_some]
 cases qbt w<;>cases inB m 1 8<;>cases inB r 1 64<;>cases inB s 1 65535<;>cases inB ra 1 8<;>rfl
theorem qbd {e:Nat} (h:e≤9000000000000000000):wrap64 ((e:Int)+1)=((e+1:Nat):Int):=by rw[w64 (by omega) (by omega)];omega
theorem Ev.mono {α:Type} {g:Nat→Option α} (m:∀k,LeO (g k) (g (k+1))) {K:Nat} {r:α} (h:g K=some r):Ev g r:=
 ⟨K,fun k hk=>by
  induction hk with
  |refl=>exact h
  |step _ ih=>exact m _ _ ih⟩
def ug (g:Nat):Nat:=g^^^(g / 2)^^^(g / 4)^^^(g / 8)
theorem iUg:∀g:Fin 16,impl_unGray.f 8 ((g.1:Nat):Int)=some ((ug g.1:Nat):Int):=by decide+kernel
theorem sUg:∀g:Fin 16,spec_UnGray.f 8 ((g.1:Nat):Int)=some ((ug g.1:Nat):Int):=by decide+kernel
theorem qsp {v:Int} (h:0≤v∧v≤15):Ev (fun k=>impl_unGray.f k v) ((ug v.toNat:Nat):Int):=by
 have:=iUg ⟨v.toNat,by omega⟩
 simp only[Int.toNat_of_nonneg h.1] at this
 exact Ev.mono (impl_unGray.mono v) this
theorem qsq {v:Int} (h:0≤v∧v≤15):Ev (fun k=>spec_UnGray.f k v) ((ug v.toNat:Nat):Int):=by
 have:=sUg ⟨v.toNat,by omega⟩
 simp only[Int.toNat_of_nonneg h.1] at this
 exact Ev.mono (spec_UnGray.mono v) this
def lvN (l:List Int):Nat→Nat→Int→Int
 |0,_,acc=>acc
 |d+1,i,acc=>lvN l d (i+1) (2*acc+rd l (i:Int))
def lim:Nat→Int
 |0=>15
 |1=>7
 |2=>3
 |3=>1
 |_=>0
theorem qkg:∀d,d+1≤4→2*lim (d+1)+1≤lim d∧lim (d+1)≤15
 |0,_=>by decide
 |1,_=>by decide
 |2,_=>by decide
 |3,_=>by decide
 |_+4,h=>by omega
def qba (l:List Int):Prop:=∀i:Nat,rd l (i:Int)=0∨rd l (i:Int)=1
theorem qck {l:List Int} (h:∀x∈l,x=0∨x=1):qba l:=fun i=>by
 rcases Nat.lt_or_ge i l.length with h1|h1
 · exact h _ (rd_mem h1)
 · left;rw[rd_nat,List.getD_eq_getElem?_getD,List.getElem?_eq_none h1];rfl
theorem qix {s l:List Int} {i:Nat}:∀(d j:Nat) (acc:Int),(∀t:Nat,j≤t→t<j+d→rd s (t:Int)=rd l ((i+t:Nat):Int))→lvN s d j acc=lvN l d (i+j) acc
 |0,_,_,_=>rfl
 | d+1,j,acc,h=>by
   unfold lvN
   rw[h j (by omega) (by omega),qix d (j+1) _ (fun t h1 h2=>h t (by omega) (by omega))]
   rfl
def qey (H:Nat) (t:Int):Int:=wrap64 (wrap64 (2*t)-wrap64 (shl .i64 1 (H:Int)-1))
def lvOf (l:List Int) (H i:Nat):Int:=qey H ((ug (lvN l H i 0).toNat:Nat):Int)
theorem qny (l:List Int) (hb:qba l) (a H:Nat) (hH:H≤4) (ha:a+H≤100000):∀(d i:Nat) (acc:Int),i+d=a+H→d≤4→0≤acc→acc≤lim d→Ev (fun k=>impl_level.l0 k (a:Int) (H:Int) l acc (i:Int)) (qey H ((ug (lvN l d i acc).toNat:Nat):Int)):=by
 have e:wrap64 ((a:Int)+(H:Int))=((a+H:Nat):Int):=by rw[w64 (by omega) (by omega)];omega
 intro d
 induction d with
 | zero=>
   intro i acc hi hd h0 h1
   refine Ev.succ ?_
   simp only[impl_level.l0]
   rw[e]
   refine Ev.neg (by omega) (Ev.next (qsp ⟨h0,h1⟩) (Ev.pos (by omega) (Ev.some_ rfl)))
 | succ d ih=>
   intro i acc hi hd h0 h1
   have hl:=qkg d hd
   have h:=hb i
   have i1:=ih (i+1) (2*acc+rd l (i:Int)) (by omega) (by omega) (by omega) (by omega)
   refine Ev.succ ?_
   simp only[impl_level.l0,lvN]
   rw[e,w64 (n:=acc*2) (by omega) (by omega),w64 (n:=acc*2+rd l (i:Int)) (by omega) (by omega),qbd (e:=i) (by omega),show acc*2=2*acc by omega]
   refine Ev.pos (by omega) ?_
   by_cases hx:(i:Int)<(l.length:Int)
   · exact Ev.pos hx (Ev.pos (by omega) i1)
   · have hz:rd l (i:Int)=0:=by rw[rd_nat,List.getD_eq_getElem?_getD,List.getElem?_eq_none (by omega)];rfl
     rw[hz,Int.add_zero] at i1
     rw[hz,Int.add_zero]
     exact Ev.neg hx i1
theorem qiy (l:List Int) (hb:qba l) (a H:Nat) (hH:1≤H∧H≤4) (ha:a+H≤100000):Ev (fun k=>impl_level.f k (a:Int) (H:Int) l) (lvOf l H a):=by
 have hl:0≤lim H:=by
  obtain⟨h1,h2⟩:=hH
  match H,h1,h2 with
  |1,_,_=>decide
  |2,_,_=>decide
  |3,_,_=>decide
  |4,_,_=>decide
 exact qny l hb a H hH.2 ha H a 0 rfl hH.2 (by omega) hl
theorem qnz (s:List Int) (hb:qba s) (hH:s.length≤4):∀(d i:Nat) (acc:Int),i+d=s.length→d≤4→0≤acc→acc≤lim d→Ev (fun k=>spec_l13Level.l0 k s acc (i:Int)) (qey s.length ((ug (lvN s d i acc).toNat:Nat):Int)):=by
 have e:IntKind.u64.wrap (s.length:Int)=(s.length:Int):=wu64 (by omega) (by omega)
 intro d
 induction d with
 | zero=>
   intro i acc hi hd h0 h1
   refine Ev.succ ?_
   simp only[spec_l13Level.l0]
   rw[e]
   refine Ev.neg (by omega) (Ev.next (qsq ⟨h0,h1⟩) (Ev.pos (by omega) (Ev.some_ rfl)))
 | succ d ih=>
   intro i acc hi hd h0 h1
   have hl:=qkg d hd
   have h:=hb i
   have i1:=ih (i+1) (2*acc+rd s (i:Int)) (by omega) (by omega) (by omega) (by omega)
   refine Ev.succ ?_
   simp only[spec_l13Level.l0,lvN]
   rw[w64 (n:=2*acc) (by omega) (by omega),w64 (n:=2*acc+rd s (i:Int)) (by omega) (by omega),qbd (e:=i) (by omega)]
   exact Ev.pos (by omega) (Ev.pos (by omega) i1)
theorem qpg (P:List Int) (a b t:Nat) (h:a+t<b):rd ((P.take b).drop a) (t:Int)=rd P ((a+t:Nat):Int):=by
 rw[rd_nat,rd_nat,List.getD_eq_getElem?_getD,List.getD_eq_getElem?_getD,List.getElem?_drop,List.getElem?_take,if_pos h]
theorem qsr (l:List Int) (p t:Nat):rd (l++List.replicate p 0) (t:Int)=rd l (t:Int):=by
 rw[rd_nat,rd_nat,List.getD_eq_getElem?_getD,List.getD_eq_getElem?_getD]
 rcases Nat.lt_or_ge t l.length with h|h
 · rw[List.getElem?_append_left h]
 · rw[List.getElem?_append_right h,List.getElem?_eq_none h,List.getElem?_replicate]
   split<;>rfl
theorem qiz (l:List Int) (hb:qba l) (p a H:Nat) (hH:1≤H∧H≤4) (ha:a+H≤(l++List.replicate p 0).length):Ev (fun k=>spec_l13Level.f k (((l++List.replicate p 0).take (a+H)).drop a)) (lvOf l H a):=by
 have hl:0≤lim H:=by
  obtain⟨h1,h2⟩:=hH
  match H,h1,h2 with
  |1,_,_=>decide
  |2,_,_=>decide
  |3,_,_=>decide
  |4,_,_=>decide
 have hlen:(((l++List.replicate p 0).take (a+H)).drop a).length=H:=by
  rw[List.length_drop,List.length_take,Nat.min_eq_left ha];omega
 have hr:∀t:Nat,t<H→rd (((l++List.replicate p 0).take (a+H)).drop a) (t:Int)=rd l ((a+t:Nat):Int):=fun t h=>by
  rw[qpg _ _ _ _ (by omega),qsr]
 generalize ((l++List.replicate p 0).take (a+H)).drop a=s at hlen hr
 have hs:qba s:=fun t=>by
  rcases Nat.lt_or_ge t H with h|h
  · rw[hr t h];exact hb _
  · left;rw[rd_nat,List.getD_eq_getElem?_getD,List.getElem?_eq_none (by omega)];rfl
 have:=qnz s hs (by omega) H 0 0 (by omega) hH.2 (by omega) hl
 rw[qix (l:=l) (i:=a) H 0 0 (fun t _ h=>hr t (by omega)),hlen] at this
 exact this
def qaw (l:List Int) (H:Nat):Nat→Nat→List S52
 |0,_=>[]
 |d+1,i=>⟨lvOf l H i,lvOf l H (i+H)⟩::qaw l H d (i+2*H)
theorem qbu (l:List Int) (H:Nat):∀d i,(qaw l H d i).length=d
 |0,_=>rfl
 |d+1,i=>by simp[qaw,qbu l H d]
def qbv (n W:Nat):Nat:=(W-n%W)%W
theorem qcc {n H:Nat} (hH:1≤H∧H≤4):(n+qbv n (2*H))%(2*H)=0∧qbv n (2*H)<2*H∧∀j,j<qbv n (2*H)→(n+j)%(2*H)≠0:=by
 obtain⟨h1,h2⟩:=hH
 unfold qbv
 match H,h1,h2 with
 |1,_,_=>refine⟨by omega,by omega,fun j h=>by omega⟩
 |2,_,_=>refine⟨by omega,by omega,fun j h=>by omega⟩
 |3,_,_=>refine⟨by omega,by omega,fun j h=>by omega⟩
 |4,_,_=>refine⟨by omega,by omega,fun j h=>by omega⟩
theorem qrg (l:List Int) (hb:qba l) (hl:l.length≤1024) (p H:Nat) (hp:p≤8) (hH:1≤H∧H≤4):∀(d i:Nat) (acc:List S52),i+2*H*d=l.length+p→acc.length≤i→Ev (fun k=>spec_Map.l1 k ((2*H:Nat):Int) acc (l++List.replicate p 0) (H:Int) (i:Int)) (acc++qaw l H d i,true):=by
 have hlen:(l++List.replicate p (0:Int)).length=l.length+p:=by simp
 intro d
 induction d with
 | zero=>
   intro i acc hi ha
   refine Ev.succ ?_
   simp only[spec_Map.l1]
   exact Ev.neg (by rw[hlen];omega) (Ev.some_ (by simp[qaw]))
 | succ d ih=>
   intro i acc hi ha
   rw[Nat.mul_succ] at hi
   have hq:=ih (i+2*H) (acc++[⟨lvOf l H i,lvOf l H (i+H)⟩]) (by omega) (by simp;omega)
   generalize 2*H*d=q at hi
   have e1:wrap64 ((i:Int)+(H:Int))=((i+H:Nat):Int):=by rw[w64 (by omega) (by omega)];omega
   have e2:wrap64 ((i:Int)+((2*H:Nat):Int))=((i+2*H:Nat):Int):=by rw[w64 (by omega) (by omega)];omega
   have v1:=qiz l hb p i H hH (by rw[hlen];omega)
   have v2:=qiz l hb p (i+H) H hH (by rw[hlen];omega)
   rw[show i+H+H=i+2*H by omega] at v2
   refine Ev.succ ?_
   simp only[spec_Map.l1]
   rw[e1,e2,hlen,Int.toNat_natCast,Int.toNat_natCast,Int.toNat_natCast]
   refine Ev.pos (by omega) (Ev.pos (by omega) (Ev.pos (by omega) (Ev.pos (by omega) (Ev.next v1 (Ev.pos (by omega) (Ev.pos (by omega) (Ev.pos (by omega) (Ev.next v2 (Ev.pos (by omega) (hq.to ?_))))))))))
   simp[qaw]
theorem qrh (l:List Int) (H:Nat) (hl:l.length≤1024) (hH:1≤H∧H≤4) {res:List S52×Bool} (R:Ev (fun k=>spec_Map.l1 k ((2*H:Nat):Int) [] (l++List.replicate (qbv l.length (2*H)) 0) (H:Int) 0) res):∀(d j:Nat),j+d=qbv l.length (2*H)→Ev (fun k=>spec_Map.l0 k ((2*H:Nat):Int) [] (l++List.replicate j 0)) res:=by
 obtain⟨f1,f2,f3⟩:=qcc (n:=l.length) hH
 have hm:∀j:Nat,(((l++List.replicate j (0:Int)).length:Nat):Int)%((2*H:Nat):Int)=(((l.length+j)%(2*H):Nat):Int):=fun j=>by
  rw[show(l++List.replicate j (0:Int)).length=l.length+j by simp,Int.natCast_emod]
 have eh:wrap64 (Int.tdiv ((2*H:Nat):Int) 2)=(H:Int):=by
  rw[Int.tdiv_eq_ediv_of_nonneg (by omega),w64 (by omega) (by omega)];omega
 intro d
 induction d with
 | zero=>
   intro j hj
   refine Ev.succ ?_
   simp only[spec_Map.l0]
   rw[hm,eh,show j=qbv l.length (2*H) by omega,f1]
   exact Ev.neg (by omega) (Ev.pos (by omega) R)
 | succ d ih=>
   intro j hj
   have h3:=f3 j (by omega)
   have i1:=ih (j+1) (by omega)
   rw[List.replicate_succ',←List.append_assoc] at i1
   refine Ev.succ ?_
   simp only[spec_Map.l0]
   rw[hm]
   exact Ev.neg (by omega) (Ev.neg (by omega) (Ev.pos (by simp;omega) i1))
def qbq (l:List Int) (H:Nat):List S52×Bool:=if qaz l=true then(qaw l H ((l.length+qbv l.length (2*H)) / (2*H)) 0,true) else([],false)
theorem qez {H:Nat} (hH:1≤H∧H≤4):qbt ((2*H:Nat):Int)=true:=by
 unfold qbt;simp;omega
theorem qcy (n H:Nat) (hH:1≤H∧H≤4):0+2*H*((n+qbv n (2*H)) / (2*H))=n+qbv n (2*H):=by
 rw[Nat.zero_add]
 exact Nat.mul_div_cancel' (Nat.dvd_of_mod_eq_zero (qcc hH).1)
theorem qri (l:List Int) (H:Nat) (hl:l.length≤1048576) (hH:1≤H∧H≤4):Ev (fun k=>spec_Map.f k ((2*H:Nat):Int) l) (qbq l H):=by
 unfold spec_Map.f qbq
 refine Ev.next (Ev.some_ rfl) (Ev.next (qhg l hl) ?_)
 by_cases h:qaz l=true
 · rw[if_pos h]
   have hb:=qcb.1 h
   refine Ev.pos h (Ev.next (Ev.here (qga _)) ?_)
   rw[qez hH]
   refine Ev.succ ?_
   simp only[spec_Map.j0]
   refine Ev.neg (by decide) (Ev.next (Ev.some_ rfl) (Ev.pos (by simp;omega) ?_))
   have h0:=qrh l H hb.2 hH (qrg l (qck hb.1) hb.2 (qbv l.length (2*H)) H (by have:=(qcc (n:=l.length) hH).2.1;omega) hH _ 0 [] (qcy l.length H hH) (by simp)) _ 0 (Nat.zero_add _)
   simp only[List.replicate_zero,List.append_nil,List.nil_append] at h0
   rw[List.nil_append]
   exact h0
 · rw[if_neg h]
   refine Ev.neg h (Ev.succ ?_)
   simp only[spec_Map.j0]
   exact Ev.pos trivial (Ev.some_ rfl)
theorem qrj (l:List Int) (hb:qba l) (hl:l.length≤1024) (p H:Nat) (hp:p<2*H) (hH:1≤H∧H≤4):∀(d i:Nat) (acc:List S52),i+2*H*d=l.length+p→acc.length≤i→Ev (fun k=>impl_Map.l0 k ((2*H:Nat):Int) l (H:Int) acc (i:Int)) (acc++qaw l H d i,true):=by
 intro d
 induction d with
 | zero=>
   intro i acc hi ha
   refine Ev.succ ?_
   simp only[impl_Map.l0]
   exact Ev.neg (by omega) (Ev.some_ (by simp[qaw]))
 | succ d ih=>
   intro i acc hi ha
   rw[Nat.mul_succ] at hi
   have hq:=ih (i+2*H) (acc++[⟨lvOf l H i,lvOf l H (i+H)⟩]) (by omega) (by simp;omega)
   generalize 2*H*d=q at hi
   have e1:wrap64 ((i:Int)+(H:Int))=((i+H:Nat):Int):=by rw[w64 (by omega) (by omega)];omega
   have e2:wrap64 ((i:Int)+((2*H:Nat):Int))=((i+2*H:Nat):Int):=by rw[w64 (by omega) (by omega)];omega
   have v1:=qiy l hb i H hH (by omega)
   have v2:=qiy l hb (i+H) H hH (by omega)
   refine Ev.succ ?_
   simp only[impl_Map.l0]
   rw[e1,e2]
   refine Ev.pos (by omega) (Ev.next v1 (Ev.next v2 (Ev.pos (by omega) (hq.to ?_))))
   simp[qaw]
theorem qrk (l:List Int) (H:Nat) (hl:l.length≤1048576) (hH:1≤H∧H≤4):Ev (fun k=>impl_Map.f k ((2*H:Nat):Int) l) (qbq l H):=by
 unfold impl_Map.f qbq
 refine Ev.next (qhh l hl) ?_
 by_cases h:qaz l=true
 · rw[if_pos h]
   have hb:=qcb.1 h
   have eh:wrap64 (Int.tdiv ((2*H:Nat):Int) 2)=(H:Int):=by
    rw[Int.tdiv_eq_ediv_of_nonneg (by omega),w64 (by omega) (by omega)];omega
   refine Ev.pos h (Ev.next (Ev.here (qex _)) ?_)
   rw[qez hH]
   refine Ev.succ ?_
   simp only[impl_Map.j0]
   rw[eh]
   refine Ev.neg (by decide) ?_
   exact qrj l (qck hb.1) hb.2 (qbv l.length (2*H)) H (qcc (n:=l.length) hH).2.1 hH _ 0 [] (qcy l.length H hH) (by simp)
 · rw[if_neg h]
   refine Ev.neg h (Ev.succ ?_)
   simp only[impl_Map.j0]
   exact Ev.pos trivial (Ev.some_ rfl)
theorem qoa (l:List Int) (H:Nat) (hH:1≤H∧H≤4):(qbq l H).1.length≤1100:=by
 unfold qbq
 split
 · rename_i h
   have hb:=(qcb.1 h).2
   have:=(qcc (n:=l.length) hH).2.1
   simp only[qbu]
   exact Nat.le_trans (Nat.div_le_self _ _) (by omega)
 · simp
theorem qph (v q:Int) (hq:1≤q∧q≤1000000) (hv: -100000≤v∧v≤100000) (hb: -1000000000000≤v*q∧v*q≤1000000000000):Ev (fun k=>impl_RoundDiv.f k (v*q) q) v:=by
 have e1:Int.tdiv (v*q) q=v:=Int.mul_tdiv_cancel v (by omega)
 have e2:Int.tmod (v*q) q=0:=Int.mul_tmod_left v q
 have hd:impl_down.f (v*q) q=some (v,0):=by
  unfold impl_down.f
  rw[e1,e2,if_neg (by omega),if_neg (by omega),w64 (by omega) (by omega)]
 have hg:impl_big18.f (v*q)=some true:=by
  unfold impl_big18.f
  rw[if_pos (by omega)]
  simp;omega
 unfold impl_RoundDiv.f
 refine Ev.neg (by omega) (Ev.neg (by omega) (Ev.next (Ev.here hg) (Ev.succ ?_)))
 simp only[impl_RoundDiv.j0]
 refine Ev.neg (by simp) (Ev.next (Ev.here hd) ?_)
 simp only
 rw[w64 (n:=q-0) (by omega) (by omega)]
 exact Ev.neg (by omega) (Ev.some_ rfl)
theorem qrl:∀g:Fin 16,impl_Gray.f ((ug g.1:Nat):Int)=some ((g.1:Nat):Int):=by decide+kernel
theorem qmv:∀g:Fin 16,ug g.1<16∧(g.1<2→ug g.1<2)∧(g.1<4→ug g.1<4)∧(g.1<8→ug g.1<8):=by decide+kernel
theorem qss:∀(H:Fin 5) (t:Fin 16),1≤H.1→wrap64 (wrap64 (qey H.1 ((t.1:Nat):Int)+shl .i64 1 ((H.1:Nat):Int))-1)=((t.1:Nat):Int)*2:=by decide+kernel
def qam (v:Nat):Nat→List Int
 |0=>[]
 |d+1=>((v / 2^d%2:Nat):Int)::qam v d
theorem qpi:∀(v:Fin 16) (d:Fin 4),bits .and .i64 (shr .i64 ((v.1:Nat):Int) ((d.1:Nat):Int)) 1=((v.1 / 2^d.1%2:Nat):Int):=by decide+kernel
theorem qob (v:Nat) (hv:v<16):∀(d:Nat) (acc:List Int),d≤4→acc.length+d≤5000→Ev (fun k=>impl_put.l0 k acc (v:Int) ((d:Int)-1)) (acc++qam v d):=by
 intro d
 induction d with
 | zero=>
   intro acc hd ha
   refine Ev.succ ?_
   simp only[impl_put.l0]
   exact Ev.neg (by omega) (Ev.some_ (by simp[qam]))
 | succ d ih=>
   intro acc hd ha
   have e:=qpi ⟨v,hv⟩ ⟨d,by omega⟩
   simp only at e
   refine Ev.succ ?_
   simp only[impl_put.l0]
   rw[show((d+1:Nat):Int)-1=(d:Int) by omega,w64 (n:=(d:Int)-1) (by omega) (by omega),e]
   refine Ev.pos (by omega) (Ev.pos (by omega) (Ev.pos (by omega) ((ih _ (by omega) (by simp;omega)).to ?_)))
   simp[qam]
theorem qrm:∀(H:Fin 5) (t:Fin 16),t.1<2^H.1→impl_nearer.f ((t.1:Nat):Int) 0 (wrap64 (shl .i64 1 ((H.1:Nat):Int)-1))=some ((t.1:Nat):Int):=by decide+kernel
theorem qst (H:Nat) (hH:1≤H∧H≤4) (g:Nat) (hg:g<16) (hu:ug g<2^H) (acc:List Int) (ha:acc.length≤4000):Ev (fun k=>impl_put.f k (qey H ((ug g:Nat):Int)) (H:Int) acc) (acc++qam g H):=by
 have hl:=(qmv ⟨g,hg⟩).1
 simp only at hl
 have e1:=qss ⟨H,by omega⟩ ⟨ug g,hl⟩ hH.1
 have e2:=qrm ⟨H,by omega⟩ ⟨ug g,hl⟩ hu
 have e3:=qrl ⟨g,hg⟩
 simp only at e1 e2 e3
 have e4:=qph ((ug g:Nat):Int) 2 (by omega) (by omega) (by omega)
 unfold impl_put.f
 rw[e1,w64 (n:=(H:Int)-1) (by omega) (by omega)]
 exact Ev.pos (by omega) (Ev.next e4 (Ev.next (Ev.here e2) (Ev.next (Ev.here e3) (qob g hg H acc hH.2 (by omega)))))
theorem qii {l:List Int} (hb:qba l):∀(d i a:Nat),∃v:Nat,lvN l d i (a:Int)=(v:Int)∧v / 2^d=a
 |0,i,a=>⟨a,rfl,by simp⟩
 | d +1,i,a=>by
   have h:=hb i
   obtain⟨b,hb2⟩:∃b:Nat,rd l (i:Int)=(b:Int):=h.elim (fun h=>⟨0,h⟩) (fun h=>⟨1,h⟩)
   obtain⟨v,hv,h2⟩:=qii hb d (i+1) (2*a+b)
   refine⟨v,?_,?_⟩
   · simp only[lvN]
     rw[hb2,show 2*(a:Int)+(b:Int)=((2*a+b:Nat):Int) by omega]
     exact hv
   · rw[Nat.pow_succ,←Nat.div_div_eq_div_mul,h2];omega
def rdN (l:List Int):Nat→Nat→List Int
 |0,_=>[]
 |d+1,i=>rd l (i:Int)::rdN l d (i+1)
theorem qkh {l:List Int} (hb:qba l):∀(d i a v:Nat),lvN l d i (a:Int)=(v:Int)→qam v d=rdN l d i
 |0,_,_,_,_=>rfl
 | d+1,i,a,v,hv=>by
   have h:=hb i
   obtain⟨b,hb2⟩:∃b:Nat,rd l (i:Int)=(b:Int):=h.elim (fun h=>⟨0,h⟩) (fun h=>⟨1,h⟩)
   simp only[lvN] at hv
   rw[hb2,show 2*(a:Int)+(b:Int)=((2*a+b:Nat):Int) by omega] at hv
   obtain⟨u,hu,h2⟩:=qii hb d (i+1) (2*a+b)
   have e:u=v:=by omega
   subst e
   simp only[qam,rdN]
   rw[qkh hb d (i+1) (2*a+b) u hv,h2,hb2,show(2*a+b)%2=b by omega]
theorem qen (l:List Int):∀d i,(rdN l d i).length=d
 |0,_=>rfl
 |d+1,i=>by simp[rdN,qen l d]
theorem qma (l:List Int):∀(d e i:Nat),rdN l (d+e) i=rdN l d i++rdN l e (i+d)
 |0,e,i=>by simp[rdN]
 | d+1,e,i=>by
   rw[show d+1+e=(d+e)+1 by omega]
   simp only[rdN,List.cons_append]
   rw[qma l d e (i+1),show i+1+d=i+(d+1) by omega]
theorem qdn (a b:Nat) (ha:a<256) (hb:b<256):xB (a:Int) (b:Int)=((a^^^b:Nat):Int):=xorN a b (by omega) (by omega)
theorem toB {a:Int} (h:0≤a∧a<256):∃n:Nat,a=(n:Int)∧n<256:=⟨a.toNat,by omega,by omega⟩
theorem qrn {a b:Int} (ha:0≤a∧a<256) (hb:0≤b∧b<256):xB a b=xB b a:=by
 obtain⟨x,rfl,hx⟩:=toB ha
 obtain⟨y,rfl,hy⟩:=toB hb
 rw[qdn _ _ hx hy,qdn _ _ hy hx,Nat.xor_comm]
theorem qpj {a b c:Int} (ha:0≤a∧a<256) (hb:0≤b∧b<256) (hc:0≤c∧c<256):xB (xB a b) c=xB (xB a c) b:=by
 obtain⟨x,rfl,hx⟩:=toB ha
 obtain⟨y,rfl,hy⟩:=toB hb
 obtain⟨z,rfl,hz⟩:=toB hc
 rw[qdn _ _ hx hy,qdn _ _ hx hz,qdn _ _ (qao hx hy) hz,qdn _ _ (qao hx hz) hy,Nat.xor_assoc,Nat.xor_assoc,Nat.xor_comm y]
theorem qij {a:Int} (ha:0≤a∧a<256):xB a 0=a∧xB 0 a=a:=by
 obtain⟨x,rfl,hx⟩:=toB ha
 have h1:=qdn x 0 hx (by omega)
 have h2:=qdn 0 x (by omega) hx
 rw[Nat.xor_zero] at h1
 rw[Nat.zero_xor] at h2
 exact⟨h1,h2⟩
def layG:Nat→Nat→Nat→List Int→Int→List Int→List Int
 |0,_,_,_,_,R=>R
 |d+1,k,i,g,x,R=>layG d (k+1) i g x (R.set (i+k) (xB (rd R ((i+k:Nat):Int)) (gM (rd g (k:Int)) x)))
theorem qki:∀(d k i:Nat) (g:List Int) (x:Int) (R:List Int),(layG d k i g x R).length=R.length
 |0,_,_,_,_,_=>rfl
 |d+1,k,i,g,x,R=>by simp only[layG];rw[qki d];simp
theorem qoc:∀(d k i:Nat) (g:List Int) (x:Int) (R:List Int),isB g→isB R→isB (layG d k i g x R)
 |0,_,_,_,_,_,_,h=>h
 | d+1,k,i,g,x,R,hg,h=>by
   simp only[layG]
   exact qoc d _ _ g x _ hg (qby h (qcl (rd_B h _) (qcx (rd_B hg _) _)) _)
theorem qgp:∀(d k i:Nat) (g:List Int) (x:Int) (R:List Int) (t:Nat),i+k+d≤R.length→rd (layG d k i g x R) (t:Int)=if i+k≤t∧t<i+k+d then xB (rd R (t:Int)) (gM (rd g ((t-i:Nat):Int)) x) else rd R (t:Int)
 |0,k,i,_,_,_,t,_=>by simp only[layG];rw[if_neg (by omega)]
 | d +1,k,i,g,x,R,t,h=>by
   simp only[layG]
   rw[qgp d (k+1) i g x _ t (by simp;omega)]
   by_cases e:i+k=t
   · subst e
     rw[if_neg (by omega),if_pos (by omega),rd_nat,List.getD_eq_getElem?_getD,List.getElem?_set_self (by omega),show i+k-i=k by omega]
     rfl
   · have e2:rd (R.set (i+k) (xB (rd R ((i+k:Nat):Int)) (gM (rd g (k:Int)) x))) (t:Int)=rd R (t:Int):=by
      simp[rd_nat,List.getD_eq_getElem?_getD,List.getElem?_set_ne e]
     rw[e2]
     by_cases h2:i+(k+1)≤t∧t<i+(k+1)+d
     · rw[if_pos h2,if_pos (by omega)]
     · rw[if_neg h2,if_neg (by omega)]
def qmw (data R r:List Int) (i D:Nat):Prop:=(∀j,j<D→rd R ((i+j:Nat):Int)=xB (rd r (j:Int)) (rd data ((i+j:Nat):Int)))∧∀p,i+D≤p→rd R (p:Int)=rd data (p:Int)
theorem qmb {l:List Int} {p:Nat} (h:l.length≤p):rd l (p:Int)=0:=by rw[rd_nat,List.getD_eq_getElem?_getD,List.getElem?_eq_none h];rfl
theorem qpk {data R r g:List Int} {i D:Nat} (hD:0<D) (hr:r.length=D) (hg:g.length=D+1) (hgB:isB g) (hrB:isB r) (hdB:isB data) (hRl:i+D+1≤R.length) (h:qmw data R r i D):
 qmw data (layG (D+1) 0 i g (rd R (i:Int)) R) (qap g r (rd data (i:Int))) (i+1) D:=by
 have hx:rd R (i:Int)=xB (rd r 0) (rd data (i:Int)):=by have:=h.1 0 hD;simpa using this
 rw[hx]
 have hfB:=qcl (rd_B hrB 0) (rd_B hdB (i:Int))
 refine⟨fun j hj=> ?_,fun p hp=> ?_⟩
 · rw [qgp _ _ _ _ _ _ _ (by omega),if_pos (by omega),show i+1+j-i=j+1 by omega]
   unfold qap
   rw[qfg _ _ _ _ _ _ (by simp;omega),if_pos (by omega),qlq (rd_B hgB _) hfB]
   have hgb:=qcx hfB (rd g ((j+1:Nat):Int))
   have hdb:=rd_B hdB ((i+1+j:Nat):Int)
   by_cases hj2:j+1<D
   · have e:=h.1 (j+1) hj2
     rw[show i+(j+1)=i+1+j by omega] at e
     have e2:rd (r.drop 1++[0]) (j:Int)=rd r ((j+1:Nat):Int):=by
      rw[rd_nat,rd_nat,List.getD_eq_getElem?_getD,List.getD_eq_getElem?_getD,List.getElem?_append_left (by simp;omega),List.getElem?_drop,Nat.add_comm 1 j]
     rw[e,e2]
     exact qpj (rd_B hrB _) hdb hgb
   · have e:=h.2 (i+1+j) (by omega)
     have e2:rd (r.drop 1++[0]) (j:Int)=0:=by
      rw[rd_nat,List.getD_eq_getElem?_getD,List.getElem?_append_right (by simp;omega)]
      simp
      cases h3:j-(r.length-1) with
      |zero=>rfl
      |succ q=>rfl
     rw[e,e2,(qij hgb).2]
     exact qrn hdb hgb
 · rw[qgp _ _ _ _ _ _ _ (by omega),if_neg (by omega)]
   exact h.2 p (by omega)
theorem qsu (data r:List Int) (hr:isB r) (hl:data.length+r.length≤1000):∀(d i:Nat),i+d=r.length→Ev (fun k=>impl_RsCode.l5 k (data++r.take i) r (r.length:Int) (i:Int)) (data++r,true):=by
 intro d
 induction d with
 | zero=>
   intro i hi
   refine Ev.succ ?_
   simp only[impl_RsCode.l5]
   rw[List.take_of_length_le (show r.length≤i by omega)]
   exact Ev.neg (by omega) (Ev.some_ rfl)
 | succ d ih=>
   intro i hi
   have hb:=rd_B hr (i:Int)
   have h2:=ih (i+1) (by omega)
   rw[take_rd (xs:=r) (i:=i) (by omega),←List.append_assoc] at h2
   refine Ev.succ ?_
   simp only[impl_RsCode.l5]
   rw[w64_add (by omega) (by omega),Int.emod_eq_of_lt hb.1 hb.2]
   exact Ev.pos (by omega) (Ev.pos (by omega) (Ev.pos (by omega) (Ev.pos (by simp;omega) h2)))
theorem qsv (data g:List Int) (hg:isB g) (hgl:g.length≤100) (i:Nat) (hi:i≤300) (x x90 x91:Int) (hx:0≤x∧x<256) {res:List Int×Bool}:∀(d k:Nat) (R:List Int),k+d=g.length→isB R→i+g.length≤R.length→Ev (fun q=>impl_RsCode.l3 q data g (layG d k i g x R) x90 (wrap64 (x91+1))) res→Ev (fun q=>impl_RsCode.l4 q data g R (i:Int) x x90 x91 (g.length:Int) (k:Int)) res:=by
 intro d
 induction d with
 | zero=>
   intro k R hk hR hRl H
   refine Ev.succ ?_
   simp only[impl_RsCode.l4]
   exact Ev.neg (by omega) H
 | succ d ih=>
   intro k R hk hR hRl H
   have w:=w64_add (i:=(k:Int)) (by omega) (by omega)
   have w2:wrap64 ((i:Int)+(k:Int))=((i+k:Nat):Int):=by rw[w64 (by omega) (by omega)];omega
   have hb:=rd_B hg (k:Int)
   refine Ev.succ ?_
   simp only[impl_RsCode.l4]
   rw[w,w2]
   refine Ev.pos (by omega) (Ev.pos (by omega) (Ev.pos (by omega) (Ev.pos (by omega) (Ev.pos (by omega) (Ev.next (iGM hb hx) ?_)))))
   rw[Int.toNat_natCast]
   exact ih (k+1) _ (by omega) (qby hR (qcl (rd_B hR _) (qcx hb _)) _) (by simpa using hRl) H
theorem qkj {l:List Int} (h:l.length≤1000):slices_Clone_int_int.f l=some l∧slices_Clone_byte_byte.f l=some l:=by
 unfold slices_Clone_int_int.f slices_Clone_byte_byte.f
 rw[if_pos (by omega)]
 exact⟨rfl,rfl⟩
theorem qsw (data g:List Int) (hdB:isB data) (hdl:data.length≤300) (hg:isB g) (D:Nat) (hD:0<D) (hD2:D≤50) (hgl:g.length=D+1):∀(d i:Nat) (R r:List Int),i+d=data.length→R.length=data.length+D→isB R→isB r→r.length=D→qmw data R r i D→Ev (fun k=>impl_RsCode.l3 k data g R (data.length:Int) (i:Int)) (data++qat g r (data.drop i),true):=by
 intro d
 induction d with
 | zero=>
   intro i R r hi hRl hR hr hrl h
   have e:R.drop data.length=r:=by
    apply List.ext_getElem
    · simp;omega
    · intro j h1 h2
      have hw:=h.1 j (by omega)
      rw[show i=data.length by omega,qmb (l:=data) (by omega),(qij (rd_B hr _)).1,rd_get R _ (by omega),rd_get r _ h2] at hw
      rw[List.getElem_drop]
      exact hw
   refine Ev.succ ?_
   simp only[impl_RsCode.l3,(qkj (l:=data) (by omega)).2,Option.bind_some]
   rw[List.drop_of_length_le (show data.length≤i by omega),Int.toNat_natCast,e]
   refine Ev.neg (by omega) (Ev.pos (by omega) (Ev.pos (by omega) ?_))
   have h4:=qsu data r hr (by omega) r.length 0 (by omega)
   simp only[List.take_zero,List.append_nil] at h4
   exact h4
 | succ d ih=>
   intro i R r hi hRl hR hr hrl h
   have w:=w64_add (i:=(i:Int)) (by omega) (by omega)
   refine Ev.succ ?_
   simp only[impl_RsCode.l3]
   refine Ev.pos (by omega) (Ev.pos (by omega) (Ev.pos (by omega) ?_))
   refine qsv data g hg (by omega) i (by omega) _ _ _ (rd_B hR _) g.length 0 R (by omega) hR (by omega) ?_
   rw[w,drop_rd (xs:=data) (i:=i) (by omega),hgl]
   exact ih (i+1) _ (qap g r (rd data (i:Int))) (by omega) (by rw[qki];exact hRl) (qoc _ _ _ _ _ _ hg hR) (qeq hg hr (rd_B hdB _)) (by rw[qcd _ (by omega)];exact hrl) (qpk hD hrl hgl hg hr hdB (by omega) h)
theorem qsx (data g:List Int) (hdB:isB data) (hdl:data.length≤300) (D:Nat) {res:List Int×Bool} (H:Ev (fun k=>impl_RsCode.l3 k data g (data++List.replicate D 0) (data.length:Int) 0) res):∀d i:Nat,i+d=data.length→Ev (fun k=>impl_RsCode.l2 k data g (data.take i++List.replicate (d+D) 0) data (data.length:Int) (i:Int)) res:=by
 intro d
 induction d with
 | zero=>
   intro i hi
   refine Ev.succ ?_
   simp only[impl_RsCode.l2]
   rw[List.take_of_length_le (show data.length≤i by omega),Nat.zero_add]
   exact Ev.neg (by omega) H
 | succ d ih=>
   intro i hi
   have hx:=rd_B hdB (i:Int)
   have h2:=ih (i+1) (by omega)
   have e:(data.take i++List.replicate (d+1+D) 0).set i (rd data (i:Int))=data.take (i+1)++List.replicate (d+D) 0:=by
    rw[List.set_append,if_neg (by simp;omega),take_rd (xs:=data) (i:=i) (by omega),show d+1+D=(d+D)+1 by omega,List.replicate_succ]
    simp[Nat.min_eq_left (show i≤data.length by omega)]
   refine Ev.succ ?_
   simp only[impl_RsCode.l2]
   rw[w64_add (by omega) (by omega),w64 (n:=rd data (i:Int)) (by omega) (by omega),Int.toNat_natCast,e]
   exact Ev.pos (by omega) (Ev.pos (by omega) (Ev.pos (by omega) (Ev.pos (by simp;omega) h2)))
theorem qsy (data:List Int) (x1:Int) (g:List Int) (hg:isB g) (hgl:g.length≤100) (i:Nat) (hi:i≤50) (x40:Int) {res:List Int×Bool}:∀(d j:Nat) (acc:List Int),j+d=g.length→isB acc→acc.length=g.length+1→Ev (fun k=>impl_RsCode.l0 k data x1 (qay d j g ((gfP i:Nat):Int) acc) x40 (wrap64 ((i:Int)+1))) res→Ev (fun k=>impl_RsCode.l1 k data x1 g ((gfP i:Nat):Int) acc x40 (i:Int) (g.length:Int) (j:Int)) res:=by
 have hp:=qcq i
 intro d
 induction d with
 | zero=>
   intro j acc hj ha hal H
   refine Ev.succ ?_
   simp only[impl_RsCode.l1]
   exact Ev.neg (by omega) H
 | succ d ih=>
   intro j acc hj ha hal H
   have w:=w64_add (i:=(j:Int)) (by omega) (by omega)
   have hb:=rd_B hg (j:Int)
   refine Ev.succ ?_
   simp only[impl_RsCode.l1]
   rw[w]
   refine Ev.pos (by omega) (Ev.pos (by omega) (Ev.pos (by omega) (Ev.pos (by omega) (Ev.pos (by omega) (Ev.next (iGM hb ⟨by omega,by omega⟩) ?_)))))
   rw[show((j:Int)+1)=((j+1:Nat):Int) by omega,Int.toNat_natCast]
   exact ih (j+1) _ (by omega) (qby ha (qcl (rd_B ha _) (qcx hb _)) _) (by simpa using hal) H
theorem qsz (data:List Int) (hdB:isB data) (hdl:data.length≤300) (M:Nat) (hM:1≤M∧M≤8):∀d i:Nat,i+d=2*M→Ev (fun k=>impl_RsCode.l0 k data (M:Int) (genL i) ((2*M:Nat):Int) (i:Int)) (data++qat (genL (2*M)) (List.replicate (2*M) 0) data,true):=by
 have w2:wrap64 (2*(M:Int))=((2*M:Nat):Int):=by rw[w64 (by omega) (by omega)];omega
 have w4:wrap64 ((data.length:Int)+((2*M:Nat):Int))=((data.length+2*M:Nat):Int):=by rw[w64 (by omega) (by omega)];omega
 intro d
 induction d with
 | zero=>
   intro i hi
   refine Ev.succ ?_
   simp only[impl_RsCode.l0]
   rw[w2,w4,Int.toNat_natCast]
   refine Ev.neg (by omega) (Ev.pos (by omega) (Ev.pos (by omega) ?_))
   rw[show genL i=genL (2*M) by rw[show i=2*M by omega]]
   have hz:isB (List.replicate (2*M) (0:Int)):=fun x hx=>by rw[List.eq_of_mem_replicate hx];omega
   have h3:=qsw data (genL (2*M)) hdB hdl (qch _) (2*M) (by omega) (by omega) (qbp _) data.length 0 (data++List.replicate (2*M) 0) (List.replicate (2*M) 0) (by omega) (by simp) (qau hdB hz) hz (by simp) ?_
   · rw[List.drop_zero] at h3
     have h2:=qsx data (genL (2*M)) hdB hdl (2*M) h3 data.length 0 (by omega)
     rw[List.take_zero,List.nil_append] at h2
     exact h2
   · have hrz:∀j:Nat,rd (List.replicate (2*M) (0:Int)) (j:Int)=0:=fun j=>by
      rw[rd_nat,List.getD_eq_getElem?_getD,List.getElem?_replicate]
      split<;>rfl
     have hall:∀p:Nat,rd (data++List.replicate (2*M) 0) (p:Int)=rd data (p:Int):=fun p=>by
      rcases Nat.lt_or_ge p data.length with h|h
      · rw[rd_nat,rd_nat,List.getD_eq_getElem?_getD,List.getD_eq_getElem?_getD,List.getElem?_append_left h]
      · rw[qmb h,rd_nat,List.getD_eq_getElem?_getD,List.getElem?_append_right h,List.getElem?_replicate]
        split<;>rfl
     refine⟨fun j hj=> ?_,fun p _=>hall p⟩
     rw[hall,hrz,(qij (rd_B hdB _)).2]
 | succ d ih=>
   intro i hi
   have hl:=qbp i
   have h2:=ih (i+1) (by omega)
   have w3:wrap64 ((i:Int)+1)=((i+1:Nat):Int):=by rw[w64 (by omega) (by omega)];omega
   refine Ev.succ ?_
   simp only[impl_RsCode.l0,(qkj (l:=genL i) (by omega)).1,Option.bind_some]
   refine Ev.pos (by omega) (Ev.next (qlp i (by omega)) (Ev.pos (by omega) ?_))
   refine qsy data (M:Int) (genL i) (qch i) (by omega) i (by omega) _ (genL i).length 0 _ (by omega) (qau (qch i) qbw) (by simp) ?_
   rw[w3]
   exact h2
theorem qta (data:List Int) (m:Int) (hdb:isB data) (hdl:data.length≤1048576):Ev (fun k=>impl_RsCode.f k data m) (rsOf data m):=by
 have bad:Ev (fun k=>impl_RsCode.j0 k data m true) ([],false):=by
  refine Ev.succ ?_
  simp only[impl_RsCode.j0]
  exact Ev.pos trivial (Ev.some_ rfl)
 have hmend:impl_isMend.f m=some (inB m 1 8):=by
  unfold impl_isMend.f inB
  by_cases h:m≥1<;>simp[h]
 unfold impl_RsCode.f rsOf rsB
 refine Ev.next (Ev.here hmend) ?_
 by_cases h1:1≤m∧m≤8
 · refine Ev.pos (qfv.2 h1) ?_
   rw[w64 (n:=2*m) (by omega) (by omega),w64 (by omega) (by omega)]
   by_cases h0:data.length=0
   · rw[if_neg (by simp;omega)]
     exact Ev.pos (by omega) bad
   · refine Ev.neg (by omega) ?_
     by_cases h2:(data.length:Int)≤255-2*m
     · rw[if_pos (by simp;omega),show decide ((data.length:Int)>255-2*m)=false by simp;omega]
       obtain⟨M,rfl⟩:=Int.eq_ofNat_of_zero_le (show 0≤m by omega)
       refine Ev.succ ?_
       simp only[impl_RsCode.j0]
       rw[show(2*(M:Int)).toNat=2*M by omega,show wrap64 (2*(M:Int))=((2*M:Nat):Int) by rw[w64 (by omega) (by omega)];omega]
       exact Ev.neg (by decide) (qsz data hdb (by omega) M (by omega) (2*M) 0 (by omega))
     · rw[if_neg (by simp;omega),show decide ((data.length:Int)>255-2*m)=true by simp;omega]
       exact bad
 · rw[if_neg (by simp;omega)]
   exact Ev.neg (fun h=>h1 (qfv.1 h)) bad
theorem qtb (data r:List Int) (hr:isB r) (hl:data.length+r.length≤1000):∀(d i:Nat),i+d=r.length→Ev (fun k=>spec_RsCode.l4 k r (data++r.take i) (i:Int)) (data++r,true):=by
 intro d
 induction d with
 | zero=>
   intro i hi
   refine Ev.succ ?_
   simp only[spec_RsCode.l4]
   rw[List.take_of_length_le (by omega)]
   exact Ev.neg (by omega) (Ev.some_ rfl)
 | succ d ih=>
   intro i hi
   have hb:=rd_B hr (i:Int)
   have h2:=ih (i+1) (by omega)
   rw[take_rd (xs:=r) (i:=i) (by omega),←List.append_assoc] at h2
   refine Ev.succ ?_
   simp only[spec_RsCode.l4]
   rw[w64_add (by omega) (by omega),Int.emod_eq_of_lt hb.1 hb.2]
   exact Ev.pos (by omega) (Ev.pos (by omega) (Ev.pos (by simp;omega) h2))
theorem qtc (data g:List Int) (hg:isB g) (hgl:g.length≤100) (x11 f:Int) (hf:0≤f∧f<256) {res:List Int×Bool}:∀(d j:Nat) (acc:List Int),j+d=acc.length→isB acc→acc.length+1=g.length→Ev (fun k=>spec_RsCode.l2 k data g (qbg d j g f acc) (wrap64 (x11+1))) res→Ev (fun k=>spec_RsCode.l3 k data g acc x11 f (j:Int)) res:=by
 intro d
 induction d with
 | zero=>
   intro j acc hj ha hal H
   refine Ev.succ ?_
   simp only[spec_RsCode.l3]
   exact Ev.neg (by omega) H
 | succ d ih=>
   intro j acc hj ha hal H
   have hb:=rd_B hg ((j+1:Nat):Int)
   have w:=w64_add (i:=(j:Int)) (by omega) (by omega)
   refine Ev.succ ?_
   simp only[spec_RsCode.l3]
   rw[w]
   refine Ev.pos (by omega) (Ev.pos (by omega) (Ev.pos (by omega) (Ev.pos (by omega) (Ev.next (sGM hf hb) ?_))))
   rw[Int.toNat_natCast]
   exact ih (j+1) _ (by simp;omega) (qby ha (qcl (rd_B ha _) (qcx hf _)) _) (by simpa using hal) H
theorem qtd (data g:List Int) (hg:isB g) (hgl:g.length≤100) (hdb:isB data) (hdl:data.length≤300):∀(d i:Nat) (r:List Int),i+d=data.length→isB r→r.length+1=g.length→0<r.length→Ev (fun k=>spec_RsCode.l2 k data g r (i:Int)) (data++qat g r (data.drop i),true):=by
 intro d
 induction d with
 | zero=>
   intro i r hi hr hrl h0
   refine Ev.succ ?_
   simp only[spec_RsCode.l2,Option.bind_some,List.nil_append]
   rw[List.drop_of_length_le (show data.length≤i by omega)]
   refine Ev.neg (by omega) (Ev.pos (by simp;omega) ?_)
   have h4:=qtb data r hr (by omega) r.length 0 (by omega)
   simp only[List.take_zero,List.append_nil] at h4
   exact h4
 | succ d ih=>
   intro i r hi hr hrl h0
   have hx:=rd_B hdb (i:Int)
   have hf:=qcl (rd_B hr 0) hx
   have e:data.drop i=rd data (i:Int)::data.drop (i+1):=drop_rd (by omega)
   have w:=w64_add (i:=(i:Int)) (by omega) (by omega)
   refine Ev.succ ?_
   simp only[spec_RsCode.l2,Option.bind_some,List.nil_append]
   rw[w64 (n:=rd data (i:Int)) (by omega) (by omega)]
   refine Ev.pos (by omega) (Ev.pos (by omega) (Ev.pos (by omega) (Ev.pos (by omega) (Ev.pos (by simp;omega) (Ev.pos (by simp;omega) ?_)))))
   refine qtc data g hg hgl (i:Int) _ hf r.length 0 _ (by simp;omega) (qau (fun y hy=>hr y (List.mem_of_mem_drop hy)) qbw) (by simp;omega) ?_
   rw[w,e]
   exact ih (i+1) _ (by omega) (qeq hg hr hx) ((congrArg (· +1) (qcd (g:=g) (rd data (i:Int)) h0)).trans hrl) (Nat.lt_of_lt_of_eq h0 (qcd (g:=g) (rd data (i:Int)) h0).symm)
theorem qte (data:List Int) (m:Int) (g:List Int) (hg:isB g) (hgl:g.length≤100) (i:Nat) (hi:i≤50) {res:List Int×Bool}:∀(d j:Nat) (acc:List Int),j+d=g.length→isB acc→acc.length=g.length+1→Ev (fun k=>spec_RsCode.l0 k data m (qay d j g ((gfP i:Nat):Int) acc) (wrap64 ((i:Int)+1))) res→Ev (fun k=>spec_RsCode.l1 k data m g (i:Int) acc (j:Int)) res:=by
 have hp:=qcq i
 intro d
 induction d with
 | zero=>
   intro j acc hj ha hal H
   refine Ev.succ ?_
   simp only[spec_RsCode.l1]
   exact Ev.neg (by omega) H
 | succ d ih=>
   intro j acc hj ha hal H
   have w:=w64_add (i:=(j:Int)) (by omega) (by omega)
   have hb:=rd_B hg (j:Int)
   refine Ev.succ ?_
   simp only[spec_RsCode.l1]
   rw[w]
   refine Ev.pos (by omega) (Ev.pos (by omega) (Ev.pos (by omega) (Ev.pos (by omega) (Ev.next (qqt i (by omega)) (Ev.next (sGM hb ⟨by omega,by omega⟩) ?_)))))
   rw[show((j:Int)+1)=((j+1:Nat):Int) by omega,Int.toNat_natCast]
   exact ih (j+1) _ (by omega) (qby ha (qcl (rd_B ha _) (qcx hb _)) _) (by simpa using hal) H
theorem qtf (data:List Int) (hdb:isB data) (hdl:data.length≤300) (M:Nat) (hM:1≤M∧M≤8):∀d i:Nat,i+d=2*M→Ev (fun k=>spec_RsCode.l0 k data (M:Int) (genL i) (i:Int)) (data++qat (genL (2*M)) (List.replicate (2*M) 0) data,true):=by
 have w2:wrap64 (2*(M:Int))=((2*M:Nat):Int):=by rw[w64 (by omega) (by omega)];omega
 intro d
 induction d with
 | zero=>
   intro i hi
   have hl:=qbp i
   refine Ev.succ ?_
   simp only[spec_RsCode.l0]
   rw[w2,Int.toNat_natCast]
   refine Ev.neg (by omega) (Ev.pos (by omega) (Ev.pos (by omega) ?_))
   have:=qtd data (genL i) (qch i) (by omega) hdb hdl data.length 0 (List.replicate (2*M) 0) (by omega) (fun x hx=>by rw[List.eq_of_mem_replicate hx];omega) (by simp;omega) (by simp;omega)
   rw[List.drop_zero,show genL i=genL (2*M) by rw[show i=2*M by omega]] at this
   rw[show genL i=genL (2*M) by rw[show i=2*M by omega]]
   exact this
 | succ d ih=>
   intro i hi
   have hl:=qbp i
   have h2:=ih (i+1) (by omega)
   have w3:wrap64 ((i:Int)+1)=((i+1:Nat):Int):=by rw[w64 (by omega) (by omega)];omega
   refine Ev.succ ?_
   simp only[spec_RsCode.l0,Option.bind_some,List.nil_append]
   rw[w2]
   refine Ev.pos (by omega) (Ev.pos (by simp;omega) (Ev.pos (by omega) ?_))
   refine qte data (M:Int) (genL i) (qch i) (by omega) i (by omega) (genL i).length 0 _ (by omega) (qau (qch i) qbw) (by simp) ?_
   rw[w3]
   exact h2
theorem qro (a:Int):spec_l14Mend.f a=some (decide (1≤a)&&decide (a≤8)):=by
 unfold spec_l14Mend.f;rw[qbx];rfl
theorem qtg (data:List Int) (m:Int) (hdb:isB data) (hdl:data.length≤1048576):Ev (fun k=>spec_RsCode.f k data m) (rsOf data m):=by
 have bad:Ev (fun k=>spec_RsCode.j0 k data m true) ([],false):=by
  refine Ev.succ ?_
  simp only[spec_RsCode.j0]
  exact Ev.pos trivial (Ev.some_ rfl)
 unfold spec_RsCode.f rsOf rsB
 refine Ev.next (Ev.here (qro m)) ?_
 by_cases h1:1≤m∧m≤8
 · refine Ev.pos (by simp[h1]) ?_
   rw[w64 (n:=2*m) (by omega) (by omega),w64 (by omega) (by omega)]
   refine Ev.next (Ev.here (qbx _ _ _)) ?_
   by_cases h2:1≤data.length∧(data.length:Int)≤255-2*m
   · rw[if_pos (by simp;omega),show(!(decide (1≤(data.length:Int))&&decide ((data.length:Int)≤255-2*m)))=false by simp;omega]
     obtain⟨M,rfl⟩:=Int.eq_ofNat_of_zero_le (show 0≤m by omega)
     refine Ev.succ ?_
     simp only[spec_RsCode.j0]
     rw[show(2*(M:Int)).toNat=2*M by omega]
     exact Ev.neg (by decide) (qtf data hdb (by omega) M (by omega) (2*M) 0 (by omega))
   · rw[if_neg (by simp;omega),show(!(decide (1≤(data.length:Int))&&decide ((data.length:Int)≤255-2*m)))=true by simp;omega]
     exact bad
 · rw[if_neg (by simp;omega)]
   exact Ev.neg (by simp;omega) bad
def qan (b:List Int):Nat→Nat→List Int
 |0,_=>[]
 |d+1,i=>rd b ((i / 8:Nat):Int) / 2^(7-i%8)%2::qan b d (i+1)
def qac (b:List Int):List Int:=qan b (8*b.length) 0
theorem qfl (b:List Int):∀d i,(qan b d i).length=d
 |0,_=>rfl
 |d+1,i=>by simp[qan,qfl b d]
theorem qca (b:List Int):(qac b).length=8*b.length:=qfl b _ _
theorem qfm (b:List Int):∀d i,∀x∈qan b d i,x=0∨x=1
 |0,_,x,h=>by cases h
 | d +1,i,x,h=>by
   simp only[qan,List.mem_cons] at h
   rcases h with rfl|h
   · generalize rd b ((i / 8:Nat):Int) / 2^(7-i%8)=y
     omega
   · exact qfm b d (i+1) x h
theorem qfn (b:List Int):∀x∈qac b,x=0∨x=1:=qfm b _ _
theorem qod (x:Int) (s:Nat) (hs:s≤7):shr .u8 x (s:Int)=x / 2^s:=by
 unfold shr
 rw[show min ((s:Int).toNat) IntKind.u8.bits=s by simp[IntKind.bits];omega]
theorem qoe {x:Int} (h0:0≤x) (h1:x<256) (s:Nat):0≤x / 2^s∧x / 2^s<256:=by
 have hp:(0:Int)<2^s:=Int.pow_pos (by omega)
 have a:=Int.ediv_nonneg h0 (Int.le_of_lt hp)
 have b:=Int.ediv_le_self (2^s) h0
 omega
theorem qof {v:Int} (h0:0≤v) (h1:v<256):bits .and .u8 v 1=v%2:=by
 have h:∀n:Fin 256,bits .and .u8 ((n.val:Nat):Int) 1=((n.val:Nat):Int)%2:=by decide+kernel
 obtain⟨n,rfl⟩:=Int.eq_ofNat_of_zero_le h0
 exact h ⟨n,by omega⟩
theorem qmx (b:List Int) (hl:b.length≤1048576) (hb:∀x∈b,0≤x∧x<256):∀(d j:Nat) (out:List Int),j+d=b.length→out.length=8*j→Ev (fun k=>impl_unpack8.l0 k out b (b.length:Int) (j:Int)) (out++qan b (8*d) (8*j)):=by
 intro d
 induction d with
 | zero=>
   intro j out hj ho
   refine Ev.succ ?_
   simp only[impl_unpack8.l0]
   exact Ev.neg (by omega) (Ev.some_ (by simp[qan]))
 | succ d ih=>
   intro j out hj ho
   have hbit:=hb _ (rd_mem (xs:=b) (i:=j) (by omega))
   have l1:∀(m i:Nat) (acc:List Int),i+m=8*j+8→m≤8→acc.length=i→Ev (fun k=>impl_unpack8.l1 k acc (rd b (j:Int)) ((m:Int)-1) b (b.length:Int) (j:Int)) (acc++qan b (m+8*d) i):=by
    intro m
    induction m with
    | zero=>
      intro i acc hi hm ha
      refine Ev.succ ?_
      simp only[impl_unpack8.l1]
      rw[w64_add (i:=(j:Int)) (by omega) (by omega)]
      refine Ev.neg (by omega) ((ih (j+1) acc (by omega) (by omega)).to ?_)
      rw[Nat.zero_add,show 8*(j+1)=i by omega]
    | succ m ihm=>
      intro i acc hi hm ha
      have hd:=qoe hbit.1 hbit.2 m
      refine Ev.succ ?_
      simp only[impl_unpack8.l1]
      rw[show(((m+1:Nat):Int)-1)=(m:Int) by omega,w64 (n:=(m:Int)-1) (by omega) (by omega),qod _ m (by omega),qof hd.1 hd.2,w64 (n:=rd b (j:Int) / 2^m%2) (by omega) (by omega)]
      refine Ev.pos (by omega) (Ev.pos (by omega) (Ev.pos (by omega) ((ihm (i+1) _ (by omega) (by omega) (by simp;omega)).to ?_)))
      rw[show m+1+8*d=(m+8*d)+1 by omega]
      simp only[qan]
      rw[show i / 8=j by omega,show 7-i%8=m by omega,List.append_assoc]
      rfl
   refine Ev.succ ?_
   simp only[impl_unpack8.l0]
   refine Ev.pos (by omega) (Ev.pos (by omega) (Ev.pos (by omega) ((l1 8 (8*j) out (by omega) (by omega) ho).to ?_)))
   rw[show 8*(d+1)=8+8*d by omega]
theorem qmy (b:List Int) (hl:b.length≤1048576) (hb:∀x∈b,0≤x∧x<256):Ev (fun k=>impl_unpack8.f k b) (qac b):=
 qmx b hl hb b.length 0 [] (by omega) rfl
theorem qrp (x:Int) (h:0≤x∧x<256) (i:Nat):Int.tmod (wrap64 (shr .u8 x (IntKind.u64.wrap (wrap64 (7-Int.tmod (i:Int) 8))))) 2=x / 2^(7-i%8)%2:=by
 have e:IntKind.u64.wrap (wrap64 (7-Int.tmod (i:Int) 8))=((7-i%8:Nat):Int):=by
  rw[Int.tmod_eq_emod_of_nonneg (by omega),w64 (by omega) (by omega),wu64 (by omega) (by omega)];omega
 have hd:=qoe h.1 h.2 (7-i%8)
 rw[e,qod _ _ (by omega),w64 (by omega) (by omega),Int.tmod_eq_emod_of_nonneg (by omega)]
theorem qle (b:List Int) (hl:b.length≤128) (hb:isB b):∀(d i:Nat) (acc:List Int),i+d=8*b.length→acc.length=i→Ev (fun k=>spec_Unpack8.l0 k b ((8*b.length:Nat):Int) acc (i:Int)) (acc++qan b d i,true):=by
 have w8:wrap64 (8*(b.length:Int))=((8*b.length:Nat):Int):=by rw[w64 (by omega) (by omega)];omega
 intro d
 induction d with
 | zero=>
   intro i acc hi ha
   refine Ev.succ ?_
   simp only[spec_Unpack8.l0,w8]
   exact Ev.neg (by omega) (Ev.some_ (by simp[qan]))
 | succ d ih=>
   intro i acc hi ha
   have e1:wrap64 (Int.tdiv (i:Int) 8)=((i / 8:Nat):Int):=by rw[Int.tdiv_eq_ediv_of_nonneg (by omega),w64 (by omega) (by omega)];omega
   have e2:=qrp _ (rd_B hb ((i / 8:Nat):Int)) i
   have hu:0≤IntKind.u64.wrap (wrap64 (7-Int.tmod (i:Int) 8)):=by
    rw[Int.tmod_eq_emod_of_nonneg (by omega),w64 (by omega) (by omega),wu64 (by omega) (by omega)];omega
   refine Ev.succ ?_
   simp only[spec_Unpack8.l0,w8]
   rw[e1,e2]
   refine Ev.pos (by omega) (Ev.pos (by omega) (Ev.pos (by omega) (Ev.pos hu (Ev.neg (by omega) ?_))))
   refine Ev.succ ?_
   simp only[spec_Unpack8.j2]
   refine Ev.neg (by decide) (Ev.pos (by omega) (Ev.pos (by omega) ?_))
   rw[qbd (e:=i) (by omega)]
   refine(ih (i+1) _ (by omega) (by simp;omega)).to ?_
   simp only[qan,List.append_assoc,List.cons_append,List.nil_append]
theorem qlf (b:List Int) (hl:b.length≤128) (hb:isB b):Ev (fun k=>spec_Unpack8.f k b (wrap64 (8*(b.length:Int)))) (qac b,true):=by
 have w8:wrap64 (8*(b.length:Int))=((8*b.length:Nat):Int):=by rw[w64 (by omega) (by omega)];omega
 have e:wrap64 (Int.tdiv (wrap64 (((8*b.length:Nat):Int)+7)) 8)=(b.length:Int):=by
  rw[w64 (n:=((8*b.length:Nat):Int)+7) (by omega) (by omega),Int.tdiv_eq_ediv_of_nonneg (by omega),w64 (by omega) (by omega)];omega
 rw[w8]
 unfold spec_Unpack8.f
 refine Ev.next (Ev.some_ rfl) (Ev.next (Ev.here (qbx _ _ _)) (Ev.pos (by simp;omega) ?_))
 rw[e]
 refine Ev.succ ?_
 simp only[spec_Unpack8.j0]
 exact Ev.neg (by simp) (qle b hl hb (8*b.length) 0 [] (by omega) rfl)
def qah (n w c:Nat):Nat→Nat→List Int
 |0,_=>[]
 |d+1,j=>if j*w+c<n then((j*w+c:Nat):Int)::qah n w c d (j+1) else qah n w c d (j+1)
def qae (n w r:Nat):Nat→Nat→List Int
 |0,_=>[]
 |d+1,c=>qah n w c r 0++qae n w r d (c+1)
theorem qfo (n w c:Nat):∀d j,∀x∈qah n w c d j,0≤x∧x<(n:Int)
 |0,_,x,h=>by cases h
 | d +1,j,x,h=>by
   unfold qah at h
   split at h
   · rcases List.mem_cons.1 h with h|h
     · omega
     · exact qfo n w c d (j+1) x h
   · exact qfo n w c d (j+1) x h
theorem qds (n w c:Nat):∀d j,(qah n w c d j).length≤d
 |0,_=>Nat.le_refl _
 | d+1,j=>by
   have:=qds n w c d (j+1)
   unfold qah
   split
   · simp;omega
   · omega
theorem qcu (n w r:Nat):∀d c,∀x∈qae n w r d c,0≤x∧x<(n:Int)
 |0,_,x,h=>by cases h
 | d+1,c,x,h=>by
   unfold qae at h
   rcases List.mem_append.1 h with h|h
   · exact qfo n w c r 0 x h
   · exact qcu n w r d (c+1) x h
theorem qhi (n w r:Nat) (hr:r≤64):∀d c,(qae n w r d c).length≤64*d
 |0,_=>Nat.le_refl _
 | d+1,c=>by
   have h1:=qhi n w r hr d (c+1)
   have h2:=qds n w c r 0
   unfold qae
   simp;omega
theorem mulW {j w r:Nat} (hj:j≤r) (hr:r≤64) (hw:w≤2000):j*w≤128000:=
 Nat.le_trans (Nat.mul_le_mul (Nat.le_trans hj hr) hw) (by decide)
theorem qqp {j w c:Nat} (h:j*w≤128000) (hc:c≤2000):wrap64 (wrap64 ((j:Int)*(w:Int))+(c:Int))=((j*w+c:Nat):Int):=by
 have e:(j:Int)*(w:Int)=((j*w:Nat):Int):=by simp
 rw[e]
 generalize j*w=q at*
 rw[w64 (n:=(q:Int)) (by omega) (by omega),w64 (by omega) (by omega)];omega
theorem qrq (n w r c:Nat) (hn:n≤1024) (hr:r≤64) (hw:w≤2000) (hc:c≤2000) {res:List Int}:∀(d j:Nat) (acc:List Int),j+d=r→acc.length≤64*c+j→Ev (fun k=>spec_l13Order.l0 k (n:Int) (r:Int) (w:Int) (acc++qah n w c d j) ((c+1:Nat):Int)) res→Ev (fun k=>spec_l13Order.l1 k (n:Int) (r:Int) (w:Int) acc (c:Int) (j:Int)) res:=by
 intro d
 induction d with
 | zero=>
   intro j acc hj ha H
   refine Ev.succ ?_
   simp only[spec_l13Order.l1]
   rw[qbd (e:=c) (by omega)]
   simp only[qah,List.append_nil] at H
   exact Ev.neg (by omega) H
 | succ d ih=>
   intro j acc hj ha H
   have hq:=mulW (j:=j) (w:=w) (r:=r) (by omega) hr hw
   have e:=qqp hq hc
   refine Ev.succ ?_
   simp only[spec_l13Order.l1]
   rw[e,qbd (e:=j) (by omega)]
   refine Ev.pos (by omega) ?_
   by_cases h:j*w+c<n
   · simp only[qah,if_pos h] at H
     refine Ev.pos (by omega) (Ev.pos (by omega) (ih (j+1) _ (by omega) (by simp;omega) ?_))
     rw[List.append_assoc]
     exact H
   · simp only[qah,if_neg h] at H
     exact Ev.neg (by omega) (ih (j+1) _ (by omega) (by omega) H)
theorem qrr (n w r:Nat) (hn:n≤1024) (hr:r≤64) (hw:w≤2000):∀(d c:Nat) (acc:List Int),c+d=w→acc.length≤64*c→Ev (fun k=>spec_l13Order.l0 k (n:Int) (r:Int) (w:Int) acc (c:Int)) (acc++qae n w r d c):=by
 intro d
 induction d with
 | zero=>
   intro c acc hc ha
   refine Ev.succ ?_
   simp only[spec_l13Order.l0]
   exact Ev.neg (by omega) (Ev.some_ (by simp[qae]))
 | succ d ih=>
   intro c acc hc ha
   have hl:=qds n w c r 0
   refine Ev.succ ?_
   simp only[spec_l13Order.l0]
   refine Ev.pos (by omega) (qrq n w r c hn hr hw (by omega) r 0 acc (by omega) (by omega) ?_)
   refine(ih (c+1) _ (by omega) (by simp;omega)).to ?_
   simp[qae]
theorem qrs (n w r c:Nat) (hn:n≤1024) (hr:r≤64) (hw:w≤2000) (hc:c≤2000) {res:List Int}:∀(d j:Nat) (acc:List Int),j+d=r→acc.length≤64*c+j→Ev (fun k=>impl_woven.l0 k (n:Int) (r:Int) (w:Int) (acc++qah n w c d j) (w:Int) ((c+1:Nat):Int)) res→Ev (fun k=>impl_woven.l1 k (n:Int) (r:Int) (w:Int) acc (c:Int) (w:Int) (c:Int) (r:Int) (j:Int)) res:=by
 intro d
 induction d with
 | zero=>
   intro j acc hj ha H
   refine Ev.succ ?_
   simp only[impl_woven.l1]
   rw[qbd (e:=c) (by omega)]
   simp only[qah,List.append_nil] at H
   exact Ev.neg (by omega) H
 | succ d ih=>
   intro j acc hj ha H
   have hq:=mulW (j:=j) (w:=w) (r:=r) (by omega) hr hw
   have e:=qqp hq hc
   refine Ev.succ ?_
   simp only[impl_woven.l1]
   rw[e,qbd (e:=j) (by omega)]
   refine Ev.pos (by omega) ?_
   by_cases h:j*w+c<n
   · simp only[qah,if_pos h] at H
     refine Ev.pos (by omega) (Ev.pos (by omega) (ih (j+1) _ (by omega) (by simp;omega) ?_))
     rw[List.append_assoc]
     exact H
   · simp only[qah,if_neg h] at H
     exact Ev.neg (by omega) (ih (j+1) _ (by omega) (by omega) H)
theorem qrt (n w r:Nat) (hn:n≤1024) (hr:r≤64) (hw:w≤2000):∀(d c:Nat) (acc:List Int),c+d=w→acc.length≤64*c→Ev (fun k=>impl_woven.l0 k (n:Int) (r:Int) (w:Int) acc (w:Int) (c:Int)) (acc++qae n w r d c):=by
 intro d
 induction d with
 | zero=>
   intro c acc hc ha
   refine Ev.succ ?_
   simp only[impl_woven.l0]
   exact Ev.neg (by omega) (Ev.some_ (by simp[qae]))
 | succ d ih=>
   intro c acc hc ha
   have hl:=qds n w c r 0
   refine Ev.succ ?_
   simp only[impl_woven.l0]
   refine Ev.pos (by omega) (qrs n w r c hn hr hw (by omega) r 0 acc (by omega) (by omega) ?_)
   refine(ih (c+1) _ (by omega) (by simp;omega)).to ?_
   simp[qae]
def cols (n r:Nat):Nat:=(n+r-1) / r
theorem qfw (n r:Nat) (hn:n≤1024) (hr:1≤r∧r≤64):cols n r≤2000:=
 Nat.le_trans (Nat.div_le_self _ _) (by omega)
theorem qkk (n r:Nat) (hn:n≤1024) (hr:1≤r∧r≤64):wrap64 (Int.tdiv (wrap64 (wrap64 ((n:Int)+(r:Int))-1)) (r:Int))=((cols n r:Nat):Int):=by
 have h:=qfw n r hn hr
 rw[w64 (n:=(n:Int)+(r:Int)) (by omega) (by omega),w64 (n:=(n:Int)+(r:Int)-1) (by omega) (by omega),show(n:Int)+(r:Int)-1=((n+r-1:Nat):Int) by omega,Int.tdiv_eq_ediv_of_nonneg (by omega)]
 have e:((n+r-1:Nat):Int) / (r:Int)=((cols n r:Nat):Int):=by unfold cols;simp
 rw[e,w64 (by omega) (by omega)]
def qar (n r:Nat):List Int:=qae n (cols n r) r (cols n r) 0
theorem qfp (n r:Nat) (hn:n≤1024) (hr:1≤r∧r≤64):(qar n r).length≤128000:=by
 have:=qhi n (cols n r) r hr.2 (cols n r) 0
 have h2:=qfw n r hn hr
 unfold qar;omega
theorem qru (n r:Nat) (hn:n≤1024) (hr:1≤r∧r≤64):Ev (fun k=>spec_l13Order.f k (n:Int) (r:Int)) (qar n r):=by
 unfold spec_l13Order.f qar
 rw[qkk n r hn hr]
 exact Ev.neg (by omega) ((qrr n (cols n r) r hn hr.2 (qfw n r hn hr) (cols n r) 0 [] (by omega) (by simp)).to (by simp))
theorem qmc (n r:Nat) (hn:n≤1024) (hr:1≤r∧r≤64):Ev (fun k=>impl_woven.f k (n:Int) (r:Int)) (qar n r):=by
 unfold impl_woven.f qar
 rw[qkk n r hn hr]
 exact Ev.neg (by omega) ((qrt n (cols n r) r hn hr.2 (qfw n r hn hr) (cols n r) 0 [] (by omega) (by simp)).to (by simp))
def qaj (l:List Int) (r:Nat):List Int:=(qar l.length r).map (fun x=>rd l x)
theorem qog (l o:List Int) (hl:l.length≤1024) (hol:o.length≤128000) (ho:∀x∈o,0≤x∧x<(l.length:Int)):∀(d i:Nat),i+d=o.length→Ev (fun k=>spec_Weave.l0 k l ((o.take i).map (fun x=>rd l x)) o (i:Int)) (o.map (fun x=>rd l x),true):=by
 intro d
 induction d with
 | zero=>
   intro i hi
   refine Ev.succ ?_
   simp only[spec_Weave.l0]
   refine Ev.neg (by omega) (Ev.some_ ?_)
   rw[List.take_of_length_le (by omega)]
 | succ d ih=>
   intro i hi
   have hx:=ho _ (rd_mem (xs:=o) (i:=i) (by omega))
   refine Ev.succ ?_
   simp only[spec_Weave.l0]
   rw[qbd (e:=i) (by omega)]
   refine Ev.pos (by omega) (Ev.pos (by omega) (Ev.pos hx.1 (Ev.pos hx.2 (Ev.pos (by simp;omega) ?_))))
   have:=ih (i+1) (by omega)
   rw[take_rd (xs:=o) (i:=i) (by omega),List.map_append] at this
   exact this
theorem qoh (l o:List Int) (hl:l.length≤1024) (hol:o.length≤128000) (ho:∀x∈o,0≤x∧x<(l.length:Int)):∀(d i:Nat),i+d=o.length→Ev (fun k=>impl_Weave.l0 k l ((o.take i).map (fun x=>rd l x)) o (o.length:Int) (i:Int)) (o.map (fun x=>rd l x),true):=by
 intro d
 induction d with
 | zero=>
   intro i hi
   refine Ev.succ ?_
   simp only[impl_Weave.l0]
   refine Ev.neg (by omega) (Ev.some_ ?_)
   rw[List.take_of_length_le (by omega)]
 | succ d ih=>
   intro i hi
   have hx:=ho _ (rd_mem (xs:=o) (i:=i) (by omega))
   refine Ev.succ ?_
   simp only[impl_Weave.l0]
   rw[qbd (e:=i) (by omega)]
   refine Ev.pos (by omega) (Ev.pos (by omega) (Ev.pos (by omega) (Ev.pos hx.1 (Ev.pos hx.2 (Ev.pos (by simp;omega) ?_)))))
   have:=ih (i+1) (by omega)
   rw[take_rd (xs:=o) (i:=i) (by omega),List.map_append] at this
   exact this
theorem qoi (l:List Int) (r:Nat) (hl:l.length≤1024) (hr:1≤r∧r≤64):Ev (fun k=>spec_Weave.f k l (r:Int)) (qaj l r,true):=by
 unfold spec_Weave.f
 refine Ev.next (Ev.some_ rfl) (Ev.neg (by omega) (Ev.next (Ev.here (qbx _ _ _)) ?_))
 rw[show(!(decide ((1:Int)≤(r:Int))&&decide ((r:Int)≤64)))=false by simp;omega]
 refine Ev.succ ?_
 simp only[spec_Weave.j0]
 refine Ev.neg (by decide) (Ev.next (qru l.length r hl hr) ?_)
 exact qog l (qar l.length r) hl (qfp _ _ hl hr) (qcu _ _ _ _ _) (qar l.length r).length 0 (by omega)
theorem qoj (l:List Int) (r:Nat) (hl:l.length≤1024) (hr:1≤r∧r≤64):Ev (fun k=>impl_Weave.f k l (r:Int)) (qaj l r,true):=by
 unfold impl_Weave.f
 have e:impl_weaves.f l (r:Int)=some true:=by
  unfold impl_weaves.f
  rw[if_pos (by omega),if_pos (by omega)];simp;omega
 refine Ev.next (Ev.here e) (Ev.pos rfl (Ev.next (qmc l.length r hl hr) ?_))
 exact qoh l (qar l.length r) hl (qfp _ _ hl hr) (qcu _ _ _ _ _) (qar l.length r).length 0 (by omega)
theorem qhj (l:List Int) (r:Nat) (hl:l.length≤1024) (hr:1≤r∧r≤64):(qaj l r).length≤128000:=by
 unfold qaj;rw[List.length_map];exact qfp _ _ hl hr
theorem qth {s:Int} (h:0≤s∧s<65536):bits .and .i64 s 1=s%2:=by
 have:=bits_and_mask s 1 (by omega)
 rw[show((2:Int)^1-1)=1 by decide] at this
 rw[this];omega
theorem qtn {a b:Int} (ha:0≤a∧a<65536) (hb:0≤b∧b<65536):0≤bits .xor .i64 a b∧bits .xor .i64 a b<65536:=by
 have h:a.toNat^^^b.toNat<65536:=Nat.xor_lt_two_pow (n:=16) (by omega) (by omega)
 rw[←Int.toNat_of_nonneg ha.1,←Int.toNat_of_nonneg hb.1,xorN _ _ (by omega) (by omega)]
 omega
def qcf (s:Int):Int:=if s%2=1 then bits .xor .i64 (s / 2) 46080 else s / 2
theorem qkl {s:Int} (h:0≤s∧s<65536):0≤qcf s∧qcf s<65536:=by
 unfold qcf
 split
 · exact qtn (by omega) (by omega)
 · omega
def qad:Int→List Int→List Int
 |_,[]=>[]
 |s,x::xs=>bits .xor .i64 x (s%2)::qad (qcf s) xs
theorem qcn:∀(s:Int) (l:List Int),(qad s l).length=l.length
 |_,[]=>rfl
 |s,x::xs=>by simp[qad,qcn _ xs]
def qbh (l:List Int) (s:Int):List Int×Bool:=if qaz l=true then(qad s l,true) else([],false)
theorem qpl (l:List Int) (hl:l.length≤1024):∀(d i:Nat) (s:Int) (acc:List Int),i+d=l.length→acc.length=i→0≤s∧s<65536→Ev (fun k=>spec_Stir.l0 k l 46080 acc s (i:Int)) (acc++qad s (l.drop i),true):=by
 intro d
 induction d with
 | zero=>
   intro i s acc hi ha hs
   refine Ev.succ ?_
   simp only[spec_Stir.l0]
   rw[List.drop_of_length_le (by omega)]
   exact Ev.neg (by omega) (Ev.some_ (by simp[qad]))
 | succ d ih=>
   intro i s acc hi ha hs
   have e1:Int.tmod s 2=s%2:=Int.tmod_eq_emod_of_nonneg hs.1
   have e2:wrap64 (Int.tdiv s 2)=s / 2:=by rw[Int.tdiv_eq_ediv_of_nonneg hs.1,w64 (by omega) (by omega)]
   have hn:=qkl hs
   have i1:=ih (i+1) (qcf s) (acc++[bits .xor .i64 (rd l (i:Int)) (s%2)]) (by omega) (by simp;omega) hn
   have e3:acc++[bits .xor .i64 (rd l (i:Int)) (s%2)]++qad (qcf s) (l.drop (i+1))=acc++qad s (l.drop i):=by
    rw[drop_rd (xs:=l) (i:=i) (by omega)]
    simp[qad]
   rw[e3] at i1
   refine Ev.succ ?_
   simp only[spec_Stir.l0]
   rw[e1,e2,qbd (e:=i) (by omega)]
   refine Ev.pos (by omega) (Ev.pos (by omega) (Ev.pos (by omega) (Ev.next (Ev.some_ rfl) ?_)))
   unfold qcf at i1
   by_cases h:s%2=1
   · rw[if_pos h] at i1;exact Ev.pos h i1
   · rw[if_neg h] at i1;exact Ev.neg h i1
theorem qpm (l:List Int) (hl:l.length≤1024):∀(d i:Nat) (s:Int) (acc:List Int),i+d=l.length→acc.length=i→0≤s∧s<65536→Ev (fun k=>impl_Stir.l0 k 46080 s acc l (l.length:Int) (i:Int)) (acc++qad s (l.drop i),true):=by
 intro d
 induction d with
 | zero=>
   intro i s acc hi ha hs
   refine Ev.succ ?_
   simp only[impl_Stir.l0]
   rw[List.drop_of_length_le (by omega)]
   exact Ev.neg (by omega) (Ev.some_ (by simp[qad]))
 | succ d ih=>
   intro i s acc hi ha hs
   have e1:=qth hs
   have hn:=qkl hs
   have i1:=ih (i+1) (qcf s) (acc++[bits .xor .i64 (rd l (i:Int)) (s%2)]) (by omega) (by simp;omega) hn
   have e3:acc++[bits .xor .i64 (rd l (i:Int)) (s%2)]++qad (qcf s) (l.drop (i+1))=acc++qad s (l.drop i):=by
    rw[drop_rd (xs:=l) (i:=i) (by omega)]
    simp[qad]
   rw[e3] at i1
   refine Ev.succ ?_
   simp only[impl_Stir.l0]
   rw[e1,qbd (e:=i) (by omega)]
   refine Ev.pos (by omega) (Ev.pos (by omega) (Ev.pos (by omega) (Ev.pos (by omega) (Ev.next (Ev.some_ rfl) ?_))))
   unfold qcf at i1
   by_cases h:s%2=1
   · rw[if_pos h] at i1;exact Ev.pos h i1
   · rw[if_neg h] at i1;exact Ev.neg h i1
theorem qfq {l:List Int} (h:qaz l=true):l.length≤1024:=(qcb.1 h).2
theorem qpn (l:List Int) (s:Int) (hl:l.length≤1048576) (hs:1≤s∧s≤65535):Ev (fun k=>spec_Stir.f k l 46080 s) (qbh l s):=by
 unfold spec_Stir.f qbh
 refine Ev.next (Ev.some_ rfl) (Ev.next (qhg l hl) ?_)
 by_cases h:qaz l=true
 · rw[if_pos h]
   refine Ev.pos h (Ev.next (Ev.here (qbx _ _ _)) (Ev.pos (by decide) (Ev.next (Ev.here (qbx _ _ _)) ?_)))
   rw[show(!(decide ((1:Int)≤s)&&decide (s≤65535)))=false by simp;omega]
   refine Ev.succ ?_
   simp only[spec_Stir.j0]
   exact Ev.neg (by decide) (qpl l (qfq h) l.length 0 s [] (by omega) rfl (by omega))
 · rw[if_neg h]
   refine Ev.neg h (Ev.succ ?_)
   simp only[spec_Stir.j0]
   exact Ev.pos trivial (Ev.some_ rfl)
theorem qkm (l:List Int) (s:Int) (hl:l.length≤1048576) (hs:1≤s∧s≤65535):Ev (fun k=>impl_Stir.f k l 46080 s) (qbh l s):=by
 unfold impl_Stir.f qbh
 refine Ev.next (qhh l hl) ?_
 by_cases h:qaz l=true
 · rw[if_pos h]
   refine Ev.pos h (Ev.next (Ev.here (qih _ _)) (Ev.pos (by decide) (Ev.next (Ev.here (qih _ _)) ?_)))
   rw[show(!(inB s 1 65535))=false by rw[qfv.2 hs];rfl]
   refine Ev.succ ?_
   simp only[impl_Stir.j0]
   exact Ev.neg (by decide) (qpm l (qfq h) l.length 0 s [] (by omega) rfl (by omega))
 · rw[if_neg h]
   refine Ev.neg h (Ev.succ ?_)
   simp only[impl_Stir.j0]
   exact Ev.pos trivial (Ev.some_ rfl)
theorem qhk (l:List Int) (s:Int):(qbh l s).1.length≤1024:=by
 unfold qbh
 split
 · rename_i h;rw[qcn];exact qfq h
 · simp
def qal (ra si:Int) (p:S52):List S52:=List.replicate ra.toNat ⟨wrap64 (p.f0*si),wrap64 (p.f1*si)⟩
def qbe (ra si:Int):List S52→List S52
 |[]=>[]
 |p::xs=>qal ra si p++qbe ra si xs
theorem qhl (ra si:Int) (h:ra≤8):∀l,(qbe ra si l).length≤8*l.length
 |[]=>Nat.le_refl _
 | p::xs=>by
   have:=qhl ra si h xs
   simp only[qbe,qal,List.length_append,List.length_replicate,List.length_cons]
   omega
theorem qkn {xs:List S52} {i:Nat} (h:i<xs.length):xs.drop i=rd_T52 xs (i:Int)::xs.drop (i+1):=by
 rw[show rd_T52 xs (i:Int)=xs[i] by simp[rd_T52,List.getD_eq_getElem?_getD,h]];exact List.drop_eq_getElem_cons h
theorem qpo (P:List S52) (R:Nat) (hR:1≤R∧R≤8) (x0 x1 x2 x3 si:Int) (i:Nat) (hi:i<P.length) (hP:P.length≤1100) {res:List S52×Bool}:∀(d j:Nat) (acc:List S52),j+d=R→acc.length≤8+8*i+j→Ev (fun k=>spec_Send.l1 k (acc++List.replicate d ⟨wrap64 ((rd_T52 P (i:Int)).f0*si),wrap64 ((rd_T52 P (i:Int)).f1*si)⟩) P ((i+1:Nat):Int) x0 x1 x2 x3 (R:Int) si) res→Ev (fun k=>spec_Send.l2 k acc P (i:Int) (j:Int) x0 x1 x2 x3 (R:Int) si) res:=by
 intro d
 induction d with
 | zero=>
   intro j acc hj ha H
   refine Ev.succ ?_
   simp only[spec_Send.l2]
   rw[qbd (e:=i) (by omega)]
   simp only[List.replicate_zero,List.append_nil] at H
   exact Ev.neg (by omega) H
 | succ d ih=>
   intro j acc hj ha H
   refine Ev.succ ?_
   simp only[spec_Send.l2]
   rw[qbd (e:=j) (by omega)]
   refine Ev.pos (by omega) (Ev.pos (by omega) (Ev.pos (by omega) (Ev.pos (by omega) (ih (j+1) _ (by omega) (by simp;omega) ?_))))
   rw[List.append_assoc]
   exact H
theorem qpp (P:List S52) (R:Nat) (hR:1≤R∧R≤8) (x0 x1 x2 x3 si:Int) (hP:P.length≤1100):∀(d i:Nat) (acc:List S52),i+d=P.length→acc.length≤8+8*i→Ev (fun k=>spec_Send.l1 k acc P (i:Int) x0 x1 x2 x3 (R:Int) si) (acc++qbe (R:Int) si (P.drop i),true):=by
 intro d
 induction d with
 | zero=>
   intro i acc hi ha
   refine Ev.succ ?_
   simp only[spec_Send.l1]
   rw[List.drop_of_length_le (by omega)]
   exact Ev.neg (by omega) (Ev.some_ (by simp[qbe]))
 | succ d ih=>
   intro i acc hi ha
   refine Ev.succ ?_
   simp only[spec_Send.l1]
   refine Ev.pos (by omega) (qpo P R hR x0 x1 x2 x3 si i (by omega) hP R 0 acc (by omega) (by omega) ?_)
   refine(ih (i+1) _ (by omega) (by simp;omega)).to ?_
   rw[qkn (xs:=P) (i:=i) (by omega)]
   simp only[qbe,qal,Int.toNat_natCast,List.append_assoc]
theorem qpq (P:List S52) (R:Nat) (hR:1≤R∧R≤8) (x0 x1 x2 x3 si:Int) (hP:P.length≤1100):∀(d j:Nat) (acc:List S52),j+d=R→acc.length=j→Ev (fun k=>spec_Send.l0 k acc P (j:Int) x0 x1 x2 x3 (R:Int) si) (acc++List.replicate d ⟨wrap64 (32*si),0⟩++qbe (R:Int) si P,true):=by
 intro d
 induction d with
 | zero=>
   intro j acc hj ha
   refine Ev.succ ?_
   simp only[spec_Send.l0]
   have:=qpp P R hR x0 x1 x2 x3 si hP P.length 0 acc (by omega) (by omega)
   rw[List.drop_zero] at this
   exact Ev.neg (by omega) (this.to (by simp))
 | succ d ih=>
   intro j acc hj ha
   refine Ev.succ ?_
   simp only[spec_Send.l0]
   rw[qbd (e:=j) (by omega)]
   refine Ev.pos (by omega) (Ev.pos (by omega) ((ih (j+1) _ (by omega) (by simp;omega)).to ?_))
   simp[List.replicate_succ]
theorem qko (p:S52) (R:Nat) (hR:1≤R∧R≤8):impl_Point_43.f [p] (R:Int)=some (List.replicate R p):=by
 unfold impl_Point_43.f
 rw[if_pos ⟨rfl,by omega,by omega⟩,Int.toNat_natCast]
 rfl
theorem qpr (P:List S52) (R:Nat) (hR:1≤R∧R≤8) (x0 x1 x2 x3 si:Int) (hP:P.length≤1100):∀(d i:Nat) (acc:List S52),i+d=P.length→acc.length≤8+8*i→Ev (fun k=>impl_Send.l0 k acc P (P.length:Int) (i:Int) x0 x1 x2 x3 (R:Int) si) (acc++qbe (R:Int) si (P.drop i),true):=by
 intro d
 induction d with
 | zero=>
   intro i acc hi ha
   refine Ev.succ ?_
   simp only[impl_Send.l0]
   rw[List.drop_of_length_le (by omega)]
   exact Ev.neg (by omega) (Ev.some_ (by simp[qbe]))
 | succ d ih=>
   intro i acc hi ha
   refine Ev.succ ?_
   simp only[impl_Send.l0]
   rw[qbd (e:=i) (by omega)]
   refine Ev.pos (by omega) (Ev.pos (by omega) (Ev.pos (by omega) (Ev.next (Ev.here (qko _ R hR)) (Ev.pos (by simp;omega) ((ih (i+1) _ (by omega) (by simp;omega)).to ?_)))))
   rw[qkn (xs:=P) (i:=i) (by omega)]
   simp only[qbe,qal,Int.toNat_natCast,List.append_assoc]
def qaf (w m r s ra si:Int) (data:List Int):List S52:=
 (qbq (qbh (qaj (qac (rsOf data m).1) r.toNat) s).1 (w / 2).toNat).1
def qbi (w m r s ra si:Int) (data:List Int):List S52×Bool:=
 if qai w m r s ra si=true∧1≤data.length∧data.length≤40 then(List.replicate ra.toNat ⟨wrap64 (32*si),0⟩++qbe ra si (qaf w m r s ra si data),true) else([],false)
theorem qci {w m r s ra si:Int} {data:List Int} (h:qai w m r s ra si=true):(qaf w m r s ra si data).length≤1100:=by
 have:=qav.1 h
 exact qoa _ _ (by omega)
theorem qgq {data:List Int} {m:Int} (hb:isB data) (hm:1≤m∧m≤8) (hl:1≤data.length∧data.length≤40):isB (rsOf data m).1∧(rsOf data m).1.length≤56:=by
 have hz:isB (List.replicate (2*m).toNat (0:Int)):=fun x hx=>by rw[List.eq_of_mem_replicate hx];omega
 unfold rsOf
 rw[if_pos (by unfold rsB;simp;omega)]
 refine⟨qau hb (qgk _ (qch _) _ _ hz hb),?_⟩
 simp only[List.length_append]
 rw[qer _ _ _ (by simp;omega)]
 simp;omega
theorem qhm {w m r s ra si:Int} (h:qai w m r s ra si=true):∃H:Nat,(1≤H∧H≤4)∧w=((2*H:Nat):Int)∧(w / 2).toNat=H:=by
 have:=(qav.1 h).1
 exact⟨(w / 2).toNat,by omega,by omega,rfl⟩
theorem qps (w m r s ra si:Int) (data:List Int) (hb:isB data) (hl:data.length≤1048576):Ev (fun k=>spec_Send.f k w m r s ra si data) (qbi w m r s ra si data):=by
 have bad:∀b:Bool,b=true→Ev (fun k=>spec_Send.j0 k data [] b w m r s ra si) ([],false):=fun b h=>by
  refine Ev.succ ?_
  simp only[spec_Send.j0]
  exact Ev.pos h (Ev.some_ rfl)
 unfold spec_Send.f qbi
 refine Ev.next (Ev.some_ rfl) (Ev.next (Ev.here (qgb _ _ _ _ _ _)) ?_)
 by_cases h:qai w m r s ra si=true
 · refine Ev.pos h (Ev.next (Ev.here (qbx _ _ _)) ?_)
   by_cases h2:1≤data.length∧data.length≤40
   · rw[if_pos ⟨h,h2⟩,show(!(decide ((1:Int)≤(data.length:Int))&&decide ((data.length:Int)≤40)))=false by simp;omega]
     have hm:=qav.1 h
     obtain⟨H,hH,hw,hw2⟩:=qhm h
     obtain⟨rb,rl⟩:=qgq hb hm.2.1 h2
     have hp:=qci (data:=data) h
     unfold qaf at hp ⊢
     rw[hw2] at hp ⊢
     have ul:=qca (rsOf data m).1
     obtain⟨r',hr'⟩:=Int.eq_ofNat_of_zero_le (show 0≤r by omega)
     obtain⟨R,hR⟩:=Int.eq_ofNat_of_zero_le (show 0≤ra by omega)
     subst hr' hR
     rw[Int.toNat_natCast,Int.toNat_natCast] at*
     have wl:=qhj (qac (rsOf data m).1) r' (by omega) (by omega)
     have sl:=qhk (qaj (qac (rsOf data m).1) r') s
     refine Ev.succ ?_
     simp only[spec_Send.j0]
     refine Ev.neg (by decide) (Ev.next (qtg data m hb hl) (Ev.next (qlf _ (by omega) rb) (Ev.next (qoi _ r' (by simp only;omega) (by omega)) (Ev.next (qpn _ s (by simp only;omega) hm.2.2.2.1) ?_))))
     rw[hw]
     refine Ev.next (qri _ H (by simp only;omega) hH) ?_
     have:=qpq (qbq (qbh (qaj (qac (rsOf data m).1) r') s).1 H).1 R (by omega) ((2*H:Nat):Int) m (r':Int) s si hp R 0 [] (by omega) rfl
     exact this
   · rw[if_neg (fun h3=>h2 h3.2)]
     exact bad _ (by simp;omega)
 · rw[if_neg (fun h3=>h h3.1)]
   exact Ev.neg h (bad _ rfl)
theorem qpt (w m r s ra si:Int) (data:List Int) (hb:isB data) (hl:data.length≤1048576):Ev (fun k=>impl_Send.f k w m r s ra si data) (qbi w m r s ra si data):=by
 have bad:∀b:Bool,b=true→Ev (fun k=>impl_Send.j0 k data b w m r s ra si) ([],false):=fun b h=>by
  refine Ev.succ ?_
  simp only[impl_Send.j0]
  exact Ev.pos h (Ev.some_ rfl)
 have hs:impl_sentOk.f (data.length:Int)=some (decide (1≤data.length∧data.length≤40)):=by
  unfold impl_sentOk.f
  by_cases h:(data.length:Int)≥1
  · rw[if_pos h];simp only[Option.some.injEq,decide_eq_decide];omega
  · rw[if_neg h,decide_eq_false (by omega)]
 unfold impl_Send.f qbi
 refine Ev.next (Ev.here (qef _ _ _ _ _ _)) ?_
 by_cases h:qai w m r s ra si=true
 · refine Ev.pos h (Ev.next (Ev.here hs) ?_)
   by_cases h2:1≤data.length∧data.length≤40
   · rw[if_pos ⟨h,h2⟩,decide_eq_true h2]
     have hm:=qav.1 h
     obtain⟨H,hH,hw,hw2⟩:=qhm h
     obtain⟨rb,rl⟩:=qgq hb hm.2.1 h2
     have hp:=qci (data:=data) h
     unfold qaf at hp ⊢
     rw[hw2] at hp ⊢
     have ul:=qca (rsOf data m).1
     obtain⟨r',hr'⟩:=Int.eq_ofNat_of_zero_le (show 0≤r by omega)
     obtain⟨R,hR⟩:=Int.eq_ofNat_of_zero_le (show 0≤ra by omega)
     subst hr' hR
     rw[Int.toNat_natCast,Int.toNat_natCast] at*
     have wl:=qhj (qac (rsOf data m).1) r' (by omega) (by omega)
     have sl:=qhk (qaj (qac (rsOf data m).1) r') s
     refine Ev.succ ?_
     simp only[impl_Send.j0]
     refine Ev.neg (by decide) (Ev.next (qta data m hb hl) (Ev.next (qmy _ (by omega) rb) (Ev.next (qoj _ r' (by omega) (by omega)) (Ev.next (qkm _ s (by simp only;omega) hm.2.2.2.1) ?_))))
     rw[hw]
     refine Ev.next (qrk _ H (by simp only;omega) hH) (Ev.next (Ev.here (qko _ R (by omega))) ?_)
     have:=qpr (qbq (qbh (qaj (qac (rsOf data m).1) r') s).1 H).1 R (by omega) ((2*H:Nat):Int) m (r':Int) s si hp _ 0 (List.replicate R ⟨wrap64 (32*si),0⟩) (Nat.zero_add _) (by simp;omega)
     rw[List.drop_zero] at this
     exact this
   · rw[if_neg (fun h3=>h2 h3.2),decide_eq_false h2]
     exact bad _ rfl
 · rw[if_neg (fun h3=>h h3.1)]
   exact Ev.neg h (bad _ rfl)
theorem qpu:∀(H:Fin 5) (t:Fin 16),t.1<2^H.1→ -15≤qey H.1 ((t.1:Nat):Int)∧qey H.1 ((t.1:Nat):Int)≤15:=by decide+kernel
theorem qmd {l:List Int} (hb:qba l) (H a:Nat) (hH:1≤H∧H≤4):∃v:Nat,lvN l H a 0=(v:Int)∧v<16∧ug v<2^H∧qam v H=rdN l H a:=by
 obtain⟨v,hv,h2⟩:=qii hb H a 0
 have hz:((0:Nat):Int)=0:=rfl
 rw[hz] at hv
 have hlt:v<2^H:=by
  rcases Nat.lt_or_ge v (2^H) with h|h
  · exact h
  · have:=Nat.div_pos h (Nat.two_pow_pos H);omega
 have h16:v<16:=Nat.lt_of_lt_of_le hlt (by have:2^H≤2^4:=Nat.pow_le_pow_right (by omega) hH.2;omega)
 refine⟨v,hv,h16,?_,qkh hb H a 0 v hv⟩
 have u:=qmv ⟨v,h16⟩
 simp only at u
 obtain⟨h1,h2⟩:=hH
 match H,h1,h2 with
 |1,_,_=>exact u.2.1 (by simpa using hlt)
 |2,_,_=>exact u.2.2.1 (by simpa using hlt)
 |3,_,_=>exact u.2.2.2 (by simpa using hlt)
 |4,_,_=>exact u.1
theorem qkp {l:List Int} (hb:qba l) (H a:Nat) (hH:1≤H∧H≤4) (acc:List Int) (ha:acc.length≤4000):Ev (fun k=>impl_put.f k (lvOf l H a) (H:Int) acc) (acc++rdN l H a):=by
 obtain⟨v,hv,h16,hu,hd⟩:=qmd hb H a hH
 unfold lvOf
 rw[hv,Int.toNat_natCast,←hd]
 exact qst H hH v h16 hu acc ha
theorem qme {l:List Int} (hb:qba l) (H a:Nat) (hH:1≤H∧H≤4): -15≤lvOf l H a∧lvOf l H a≤15:=by
 obtain⟨v,hv,h16,hu,hd⟩:=qmd hb H a hH
 have hl:=(qmv ⟨v,h16⟩).1
 simp only at hl
 unfold lvOf
 rw[hv,Int.toNat_natCast]
 exact qpu ⟨H,by omega⟩ ⟨ug v,hl⟩ hu
theorem qkq (l:List Int) (H:Nat):∀(d i j:Nat),j<d→rd_T52 (qaw l H d i) (j:Int)=⟨lvOf l H (i+2*H*j),lvOf l H (i+2*H*j+H)⟩
 |d+1,i,0,_=>rfl
 | d+1,i,j+1,h=>by
   have:=qkq l H d (i+2*H) j (by omega)
   rw[show i+2*H+2*H*j=i+2*H*(j+1) by rw[Nat.mul_succ];omega] at this
   exact this
theorem qgc (v q e:Int) (hq:1≤q∧q≤1000000) (hv: -100000≤v∧v≤100000) (hb: -1000000000000≤v*q∧v*q≤1000000000000) (he: -q<2*e∧2*e<q):Ev (fun k=>impl_RoundDiv.f k (v*q+e) q) v:=by
 have hg:impl_big18.f (v*q+e)=some true:=by
  unfold impl_big18.f
  rw[if_pos (by omega)]
  simp;omega
 have hqv:(v-1)*q=v*q-q:=by rw[Int.sub_mul,Int.one_mul]
 have hqv2:(v+1)*q=v*q+q:=by rw[Int.add_mul,Int.one_mul]
 -- the quotient, towards zero, and its rest
 have hdiv:=Int.mul_tdiv_add_tmod (v*q+e) q
 have hlt:=Int.tmod_lt_of_pos (v*q+e) (show 0<q by omega)
 have hgt: -q<Int.tmod (v*q+e) q:=by
  have:=Int.lt_tmod_of_pos (v*q+e) (show 0<q by omega)
  omega
 have hsame:0≤v*q+e→0≤Int.tmod (v*q+e) q:=fun h=>Int.tmod_nonneg q h
 have hneg:v*q+e≤0→Int.tmod (v*q+e) q≤0:=fun h=>by
  have:=Int.tmod_nonneg (a:= -(v*q+e)) q (by omega)
  rw[Int.neg_tmod] at this
  omega
 obtain⟨T,hT⟩:∃T,T=Int.tdiv (v*q+e) q:=⟨_,rfl⟩
 obtain⟨r,hr⟩:∃r,r=Int.tmod (v*q+e) q:=⟨_,rfl⟩
 rw[←hT,←hr] at hdiv
 rw[←hr] at hlt hgt hsame hneg
 rw[Int.mul_comm q T] at hdiv
 -- T is v, v - 1 or v + 1
 have hT1:T≤v+1:=by
  rcases(show(v+1)<T∨T≤(v+1) by omega) with h|h
  · have:(v+2)*q≤T*q:=Int.mul_le_mul_of_nonneg_right (by omega) (by omega)
    rw[Int.add_mul] at this
    omega
  · exact h
 have hT2:v-1≤T:=by
  rcases(show T<(v-1)∨(v-1)≤T by omega) with h|h
  · have:T*q≤(v-2)*q:=Int.mul_le_mul_of_nonneg_right (by omega) (by omega)
    rw[Int.sub_mul] at this
    omega
  · exact h
 have hcase:(T=v∧r=e)∨(T=v-1∧r=e+q)∨(T=v+1∧r=e-q):=by
  rcases(show T<v∨v≤T by omega) with h|h
  · have:T=v-1:=by omega
    subst this
    right;left
    exact⟨rfl,by omega⟩
  · rcases(show v<T∨T≤v by omega) with h3|h3
    · have:T=v+1:=by omega
      subst this
      right;right
      exact⟨rfl,by omega⟩
    · have:T=v:=by omega
      subst this
      left
      exact⟨rfl,by omega⟩
 unfold impl_RoundDiv.f
 refine Ev.neg (by omega) (Ev.neg (by omega) (Ev.next (Ev.here hg) (Ev.succ ?_)))
 simp only[impl_RoundDiv.j0]
 have hd:impl_down.f (v*q+e) q=some (if e<0 then v-1 else v,if e<0 then e+q else e):=by
  unfold impl_down.f
  rw[←hT,←hr,if_neg (by omega)]
  rcases hcase with⟨h1,h2⟩|⟨h1,h2⟩|⟨h1,h2⟩
  · by_cases h3:e<0
    · rw[if_pos h3,if_pos h3,if_pos (by omega),h1,h2,w64 (n:=v) (by omega) (by omega),w64 (n:=v-1) (by omega) (by omega),w64 (by omega) (by omega)]
    · rw[if_neg h3,if_neg h3,if_neg (by omega),h1,h2,w64 (n:=v) (by omega) (by omega)]
  · have h3:e<0:=by omega
    rw[if_pos h3,if_pos h3,if_neg (by omega),h1,h2,w64 (n:=v-1) (by omega) (by omega)]
  · have h3:¬e<0:=by omega
    rw[if_neg h3,if_neg h3,if_pos (by omega),h1,h2,w64 (n:=v+1) (by omega) (by omega),w64 (n:=v+1-1) (by omega) (by omega),w64 (by omega) (by omega),show v+1-1=v by omega,show e-q+q=e by omega]
 refine Ev.neg (by simp) (Ev.next (Ev.here hd) ?_)
 simp only
 by_cases h3:e<0
 · rw[if_pos h3,if_pos h3,w64 (n:=q-(e+q)) (by omega) (by omega),w64 (n:=v-1+1) (by omega) (by omega)]
   exact Ev.pos (by omega) (Ev.some_ (by omega))
 · rw[if_neg h3,if_neg h3,w64 (n:=q-e) (by omega) (by omega)]
   exact Ev.neg (by omega) (Ev.some_ rfl)
theorem qja (a q:Int) (hq:1≤q∧q≤1000000) (ha: -1000000000000≤a∧a≤1000000000000):∃v,Ev (fun k=>impl_RoundDiv.f k a q) v∧ -1000000000002≤v∧v≤1000000000002∧(q*(v-1)≤a∧a≤q*(v+1)):=by
 have hg:impl_big18.f a=some true:=by
  unfold impl_big18.f
  rw[if_pos (by omega)]
  simp;omega
 have hdiv:=Int.mul_tdiv_add_tmod a q
 have hlt:=Int.tmod_lt_of_pos a (show 0<q by omega)
 have hgt: -q<Int.tmod a q:=by
  have:=Int.lt_tmod_of_pos a (show 0<q by omega)
  omega
 have hb: -1000000000000≤Int.tdiv a q∧Int.tdiv a q≤1000000000000:=by
  have:=Int.natAbs_tdiv_le_natAbs a q
  omega
 obtain⟨T,hT⟩:∃T,T=Int.tdiv a q:=⟨_,rfl⟩
 obtain⟨r,hr⟩:∃r,r=Int.tmod a q:=⟨_,rfl⟩
 rw[←hT] at hdiv hb
 rw[←hr] at hdiv hlt hgt
 have m1:q*(T-1)=q*T-q:=by rw[Int.mul_sub,Int.mul_one]
 have m2:q*(T+1)=q*T+q:=by rw[Int.mul_add,Int.mul_one]
 have m3:q*(T-1-1)=q*T-q-q:=by rw[Int.mul_sub,m1,Int.mul_one]
 have m4:q*(T+1+1)=q*T+q+q:=by rw[Int.mul_add,m2,Int.mul_one]
 have m0:q*(T-1+1)=q*T:=by rw[show T-1+1=T by omega]
 have m5:q*(T+1-1)=q*T:=by rw[show T+1-1=T by omega]
 have ev:∀(x y:Int),impl_down.f a q=some (x,y)→0≤y∧y<q→(-1000000000001≤x∧x≤1000000000001)→Ev (fun k=>impl_RoundDiv.f k a q) (if y≥q-y then x+1 else x):=by
  intro x y hd hy hx
  unfold impl_RoundDiv.f
  refine Ev.neg (by omega) (Ev.neg (by omega) (Ev.next (Ev.here hg) (Ev.succ ?_)))
  simp only[impl_RoundDiv.j0]
  refine Ev.neg (by simp) (Ev.next (Ev.here hd) ?_)
  simp only
  rw[w64 (n:=q-y) (by omega) (by omega),w64 (n:=x+1) (by omega) (by omega)]
  exact Ev.cond (fun _=>Ev.some_ rfl) (fun _=>Ev.some_ rfl)
 by_cases h0:r<0
 · have hd:impl_down.f a q=some (T-1,r+q):=by
    unfold impl_down.f
    rw[←hT,←hr,if_neg (by omega),if_pos h0,w64 (n:=T) (by omega) (by omega),w64 (n:=T-1) (by omega) (by omega),w64 (n:=r+q) (by omega) (by omega)]
   refine⟨_,ev _ _ hd (by omega) (by omega),?_,?_,?_⟩
   · split<;>omega
   · split<;>omega
   · split
     · rw[show T-1+1-1=T-1 by omega,show T-1+1+1=T+1 by omega];omega
     · omega
 · have hd:impl_down.f a q=some (T,r):=by
    unfold impl_down.f
    rw[←hT,←hr,if_neg (by omega),if_neg h0,w64 (n:=T) (by omega) (by omega)]
   refine⟨_,ev _ _ hd (by omega) (by omega),?_,?_,?_⟩
   · split<;>omega
   · split<;>omega
   · split<;>omega
theorem qpv:∀c:Fin 16,∃g:Fin 16,impl_Gray.f ((c.1:Nat):Int)=some ((g.1:Nat):Int):=by decide+kernel
theorem qto:∀H:Fin 5,shl .i64 1 ((H.1:Nat):Int)=((2^H.1:Nat):Int):=by decide+kernel
theorem qmf (H:Nat) (hH:1≤H∧H≤4) (x:Int) (hx: -1000000000≤x∧x≤1000000000):∃g:Nat,g<16∧∀acc:List Int,acc.length≤4000→Ev (fun k=>impl_put.f k x (H:Int) acc) (acc++qam g H):=by
 have hs:=qto ⟨H,by omega⟩
 simp only at hs
 have hp:2^H≤16:=by have:2^H≤2^4:=Nat.pow_le_pow_right (by omega) hH.2;omega
 have hp0:0<2^H:=Nat.two_pow_pos H
 obtain⟨v,hv,b1,b2,_⟩:=qja (x+((2^H:Nat):Int)-1) 2 (by omega) (by omega)
 obtain⟨c,hc⟩:∃c:Nat,impl_nearer.f v 0 (((2^H:Nat):Int)-1)=some (c:Int)∧c<16:=by
  refine⟨(mn (mx v 0) (((2^H:Nat):Int)-1)).toNat,?_,?_⟩
  · unfold impl_nearer.f mn mx
    rw[Int.toNat_of_nonneg (by split<;>split at* <;>omega)]
  · unfold mn mx
    split<;>split at* <;>omega
 obtain⟨g,hg⟩:=qpv ⟨c,hc.2⟩
 simp only at hg
 refine⟨g.1,g.2,fun acc ha=> ?_⟩
 unfold impl_put.f
 rw[hs,w64 (n:=x+((2^H:Nat):Int)) (by omega) (by omega),w64 (n:=x+((2^H:Nat):Int)-1) (by omega) (by omega),w64 (n:=((2^H:Nat):Int)-1) (by omega) (by omega),w64 (n:=(H:Int)-1) (by omega) (by omega)]
 exact Ev.pos (by omega) (Ev.next hv (Ev.next (Ev.here hc.1) (Ev.next (Ev.here hg) (qob g.1 g.2 H acc hH.2 (by omega)))))
theorem qcz (v:Nat):∀d,(qam v d).length=d
 |0=>rfl
 |d+1=>by simp[qam,qcz v d]
theorem qdv (v:Nat):∀d,∀x∈qam v d,x=0∨x=1
 |0,x,h=>by cases h
 | d+1,x,h=>by
   simp only[qam,List.mem_cons] at h
   rcases h with rfl|h
   · omega
   · exact qdv v d x h
theorem qik (l:List Int):∀(d i b:Nat),b<d→rd (rdN l d i) (b:Int)=rd l ((i+b:Nat):Int)
 |d+1,i,0,_=>rfl
 | d+1,i,b+1,h=>by
   have:=qik l d (i+1) b (by omega)
   rw[show i+1+b=i+(b+1) by omega] at this
   exact this
structure qfx (X:List Int) (H:Nat) (PH:List S52) (Y:List Int) (n:Nat):Prop where
 len:Y.length=2*H*n
 bit:∀x∈Y,x=0∨x=1
 same:∀j,j<n→rd_T52 PH (j:Int)=⟨lvOf X H (2*H*j),lvOf X H (2*H*j+H)⟩→∀b,b<2*H→rd Y ((2*H*j+b:Nat):Int)=rd X ((2*H*j+b:Nat):Int)
theorem qfx.next {X:List Int} {H:Nat} {PH:List S52} {Y z:List Int} {n:Nat} (h:qfx X H PH Y n) (hz:z.length=2*H) (hb:∀x∈z,x=0∨x=1) (hs:rd_T52 PH (n:Int)=⟨lvOf X H (2*H*n),lvOf X H (2*H*n+H)⟩→∀b,b<2*H→rd z (b:Int)=rd X ((2*H*n+b:Nat):Int)):qfx X H PH (Y++z) (n+1) where
 len:=by rw[List.length_append,h.len,hz,Nat.mul_succ]
 bit:=fun x hx=>by
  rcases List.mem_append.1 hx with hx|hx
  · exact h.bit x hx
  · exact hb x hx
 same:=fun j hj e b hb2=>by
  rw[qju]
  rcases Nat.lt_or_ge j n with h1|h1
  · have hm:2*H*(j+1)≤2*H*n:=Nat.mul_le_mul_left _ h1
    rw[Nat.mul_succ] at hm
    rw[if_pos (by rw[h.len];omega)]
    exact h.same j h1 e b hb2
  · have hj2:j=n:=by omega
    subst hj2
    rw[if_neg (by rw[h.len];omega),h.len,show 2*H*j+b-2*H*j=b by omega]
    exact hs e b hb2
theorem qmz (X:List Int) (hX:qba X) (H n:Nat) (hH:1≤H∧H≤4) (hn:2*H*n≤1024) (PH:List S52) (hP:PH.length=n) (hPb:∀p∈PH,(-1000000000≤p.f0∧p.f0≤1000000000)∧(-1000000000≤p.f1∧p.f1≤1000000000)):∀(d i:Nat) (acc:List Int),i+d=n→qfx X H PH acc i→EvP (fun k=>impl_Decide.l0 k (H:Int) acc PH (n:Int) (i:Int)) (fun r=>r.2=true∧qfx X H PH r.1 n):=by
 have nn:n≤1024:=by
  have:1*n≤2*H*n:=Nat.mul_le_mul_right n (by omega)
  omega
 intro d
 induction d with
 | zero=>
   intro i acc hi ha
   have:i=n:=by omega
   subst this
   refine EvP.succ ?_
   simp only[impl_Decide.l0]
   exact EvP.neg (by omega) (EvP.now ⟨rfl,ha⟩)
 | succ d ih=>
   intro i acc hi ha
   have hp:=hPb (rd_T52 PH (i:Int)) (by
    rw[show rd_T52 PH (i:Int)=PH[i]'(by omega) by simp[rd_T52,List.getD_eq_getElem?_getD,show i<PH.length by omega]]
    exact List.getElem_mem _)
   have sm:∀x:Int,-1000000000≤x∧x≤1000000000→impl_sample.f x=some true:=fun x h=>by
    unfold impl_sample.f;rw[if_pos (by omega),decide_eq_true (by omega)]
   have hm:2*H*(i+1)≤2*H*n:=Nat.mul_le_mul_left _ (by omega)
   rw[Nat.mul_succ] at hm
   have hal:=ha.len
   refine EvP.succ ?_
   simp only[impl_Decide.l0]
   refine EvP.pos (by omega) (EvP.pos (by omega) (EvP.pos (by omega) (EvP.next (Ev.p (Ev.here (sm _ hp.1))) ?_)))
   rintro y rfl
   refine EvP.pos rfl (EvP.next (Ev.p (Ev.here (sm _ hp.2))) ?_)
   rintro y rfl
   refine EvP.succ ?_
   simp only[impl_Decide.j2]
   rw[qbd (e:=i) (by omega)]
   refine EvP.neg (by decide) ?_
   by_cases he:rd_T52 PH (i:Int)=⟨lvOf X H (2*H*i),lvOf X H (2*H*i+H)⟩
   · have p1:=qkp hX H (2*H*i) hH acc (by omega)
     have p2:=qkp hX H (2*H*i+H) hH (acc++rdN X H (2*H*i)) (by rw[List.length_append,qen];omega)
     rw[he]
     refine EvP.next (Ev.p p1) ?_
     rintro y rfl
     refine EvP.next (Ev.p p2) ?_
     rintro y rfl
     have e:acc++rdN X H (2*H*i)++rdN X H (2*H*i+H)=acc++rdN X (2*H) (2*H*i):=by
      rw[show 2*H=H+H by omega,qma,List.append_assoc]
     rw[e]
     refine ih (i+1) _ (by omega) (ha.next (qen _ _ _) (fun x hx=> ?_) (fun _ b hb=>qik X (2*H) (2*H*i) b hb))
     obtain⟨b,hb,rfl⟩:=List.getElem_of_mem hx
     rw[qen] at hb
     have e2:=qik X (2*H) (2*H*i) b hb
     rw[rd_get _ b (by rw[qen];exact hb)] at e2
     rw[e2]
     exact hX _
   · obtain⟨g1,_,q1⟩:=qmf H hH _ hp.1
     obtain⟨g2,_,q2⟩:=qmf H hH _ hp.2
     refine EvP.next (Ev.p (q1 acc (by omega))) ?_
     rintro y rfl
     refine EvP.next (Ev.p (q2 (acc++qam g1 H) (by rw[List.length_append,qcz];omega))) ?_
     rintro y rfl
     rw[List.append_assoc]
     refine ih (i+1) _ (by omega) (ha.next (by rw[List.length_append,qcz,qcz];omega) (fun x hx=> ?_) (fun h=>absurd h he))
     rcases List.mem_append.1 hx with hx|hx
     · exact qdv _ _ x hx
     · exact qdv _ _ x hx
theorem qna (X:List Int) (hX:qba X) (H n:Nat) (hH:1≤H∧H≤4) (hn:2*H*n≤1024) (PH:List S52) (hP:PH.length=n) (hPb:∀p∈PH,(-1000000000≤p.f0∧p.f0≤1000000000)∧(-1000000000≤p.f1∧p.f1≤1000000000)):EvP (fun k=>impl_Decide.f k ((2*H:Nat):Int) PH) (fun r=>r.2=true∧qfx X H PH r.1 n):=by
 have e1:wrap64 ((PH.length:Int)*((2*H:Nat):Int))=((2*H*n:Nat):Int):=by
  have:(PH.length:Int)*((2*H:Nat):Int)=((2*H*n:Nat):Int):=by rw[hP,Nat.mul_comm (2*H) n];simp
  rw[this,w64 (by omega) (by omega)]
 have e2:impl_isWidth.f ((2*H:Nat):Int)=some true:=by rw[qex,qez hH]
 have e3:wrap64 (Int.tdiv ((2*H:Nat):Int) 2)=(H:Int):=by
  rw[Int.tdiv_eq_ediv_of_nonneg (by omega),w64 (by omega) (by omega)];omega
 unfold impl_Decide.f
 rw[e1]
 refine EvP.next (Ev.p (Ev.here e2)) ?_
 rintro y rfl
 refine EvP.pos rfl ?_
 rw[decide_eq_false (by omega)]
 refine EvP.succ ?_
 simp only[impl_Decide.j0]
 rw[e3,hP]
 exact EvP.neg (by decide) (qmz X hX H n hH hn PH hP hPb n 0 [] (by omega) ⟨rfl,(fun x hx=>by cases hx),(fun j hj=>by omega)⟩)
def qco (bs acc:List Int) (i:Nat):Int:=bits .or .u8 (rd acc ((i / 8:Nat):Int)) (rd bs (i:Int)*2^(7-i%8))
def qag (bs:List Int):Nat→Nat→List Int→List Int
 |0,_,acc=>acc
 |d+1,i,acc=>qag bs d (i+1) (acc.set (i / 8) (qco bs acc i))
def qaa (bs:List Int):List Int:=qag bs bs.length 0 (List.replicate ((bs.length+7) / 8) 0)
theorem qpw (s:Nat) (hs:s≤7) (b:Int) (hb:b=0∨b=1):shl .u8 (b%256) (s:Int)=b*2^s:=by
 have h:∀s:Fin 8,shl .u8 (0%256) (s.val:Int)=0*2^s.val∧shl .u8 (1%256) (s.val:Int)=1*2^s.val:=by decide
 rcases hb with rfl|rfl
 · exact(h ⟨s,by omega⟩).1
 · exact(h ⟨s,by omega⟩).2
theorem qhn (bs acc:List Int) (i:Nat):0≤qco bs acc i∧qco bs acc i<256:=by
 unfold qco bits
 simp only[IntKind.wrap_u8]
 omega
theorem qda (bs:List Int):∀(d i:Nat) (acc:List Int),(qag bs d i acc).length=acc.length
 |0,_,_=>rfl
 |d+1,i,acc=>by simp only[qag];rw[qda bs d];simp
theorem qjb (bs:List Int):∀(d i:Nat) (acc:List Int),(∀x∈acc,0≤x∧x<256)→∀x∈qag bs d i acc,0≤x∧x<256
 |0,_,_,h=>h
 | d +1,i,acc,h=>qjb bs d (i+1) _ (fun x hx=>by
     rcases List.mem_or_eq_of_mem_set hx with hx|rfl
     · exact h x hx
     · exact qhn bs acc i)
theorem qec (bs:List Int):∀x∈qaa bs,0≤x∧x<256:=qjb bs _ _ _ (fun x hx=>by rw[List.eq_of_mem_replicate hx];omega)
theorem qbf (bs:List Int):(qaa bs).length=(bs.length+7) / 8:=by unfold qaa;rw[qda];simp
theorem qgd {a b:Int} (ha:0≤a∧a<256) (hb:0≤b∧b<256):bits .or .u8 a b=((a.toNat|||b.toNat:Nat):Int):=by
 obtain⟨x,rfl⟩:=Int.eq_ofNat_of_zero_le ha.1
 obtain⟨y,rfl⟩:=Int.eq_ofNat_of_zero_le hb.1
 have hx:x%2^IntKind.u8.bits=x:=Nat.mod_eq_of_lt (by show x<2^8;omega)
 have hy:y%2^IntKind.u8.bits=y:=Nat.mod_eq_of_lt (by show y<2^8;omega)
 have hl:x|||y<2^8:=Nat.or_lt_two_pow (by omega) (by omega)
 simp only[bits,BitVec.toNat_or,BitVec.ofInt_natCast,BitVec.toNat_ofNat,hx,hy,Int.toNat_natCast]
 rw[IntKind.wrap_u8]
 omega
def qbc (x:Int) (t:Nat):Int:=x / 2^t%2
theorem qed (x t:Nat):qbc (x:Int) t=if x.testBit t then 1 else 0:=by
 unfold qbc
 have e:(x:Int) / 2^t%2=((x / 2^t%2:Nat):Int):=by norm_cast
 rw[e,Nat.testBit_eq_decide_div_mod_eq]
 by_cases h:x / 2^t%2=1
 · rw[h];simp
 · simp[h];omega
theorem qpx {a:Int} (ha:0≤a∧a<256) (c:Int) (hc:c=0∨c=1) (s t:Nat) (hs:s≤7):qbc (bits .or .u8 a (c*2^s)) t=if t=s∧c=1 then 1 else qbc a t:=by
 have hp:(2:Int)^s≤128:=by
  have:(2:Nat)^s≤2^7:=Nat.pow_le_pow_right (by omega) (by omega)
  exact_mod_cast this
 have hp0:(0:Int)<2^s:=Int.pow_pos (by omega)
 obtain⟨x,rfl⟩:=Int.eq_ofNat_of_zero_le ha.1
 rcases hc with rfl|rfl
 · rw[qgd ha (by omega)]
   simp
 · rw[qgd ha (by omega)]
   have e:((1:Int)*2^s).toNat=2^s:=by
    rw[Int.one_mul]
    have:((2^s:Nat):Int)=(2:Int)^s:=by norm_cast
    omega
   rw[e,qed,qed,Int.toNat_natCast,Nat.testBit_or,Nat.testBit_two_pow]
   by_cases h:t=s
   · subst h;simp
   · have h2:¬s=t:=fun h3=>h h3.symm
     simp[h,h2]
theorem qok (l:List Int) (j i:Nat) (v:Int) (h:j<l.length):rd (l.set j v) (i:Int)=if i=j then v else rd l (i:Int):=by
 rw[rd_nat,rd_nat,List.getD_eq_getElem?_getD,List.getD_eq_getElem?_getD,List.getElem?_set]
 by_cases hij:i=j
 · subst hij;simp[h]
 · rw[if_neg (fun h=>hij h.symm),if_neg hij]
theorem qdt (bs:List Int) (hb:∀x∈bs,x=0∨x=1):∀(d i:Nat) (acc:List Int),i+d=bs.length→acc.length=(bs.length+7) / 8→(∀x∈acc,0≤x∧x<256)→(∀j,j<i→qbc (rd acc ((j / 8:Nat):Int)) (7-j%8)=rd bs (j:Int))→(∀j,i≤j→j<bs.length→qbc (rd acc ((j / 8:Nat):Int)) (7-j%8)=0)→∀j,j<bs.length→qbc (rd (qag bs d i acc) ((j / 8:Nat):Int)) (7-j%8)=rd bs (j:Int):=by
 intro d
 induction d with
 | zero=>
   intro i acc hi ha hx h1 h2 j hj
   exact h1 j (by omega)
 | succ d ih=>
   intro i acc hi ha hx h1 h2
   simp only[qag]
   have hm:=hx _ (rd_mem (xs:=acc) (i:=i / 8) (by omega))
   have hbi:=hb _ (rd_mem (xs:=bs) (i:=i) (by omega))
   have key:∀j,qbc (rd (acc.set (i / 8) (qco bs acc i)) ((j / 8:Nat):Int)) (7-j%8)=if j=i∧rd bs (i:Int)=1 then 1 else qbc (rd acc ((j / 8:Nat):Int)) (7-j%8):=by
    intro j
    rw[qok _ _ _ _ (by omega)]
    by_cases h:j / 8=i / 8
    · rw[if_pos h]
      unfold qco
      rw[qpx hm _ hbi _ _ (by omega),h]
      by_cases h3:j=i
      · subst h3;simp
      · rw[if_neg (fun h4=>by omega),if_neg (fun h4=>h3 h4.1)]
    · rw[if_neg h,if_neg (fun h4=>h (by rw[h4.1]))]
   refine ih (i+1) _ (by omega) (by simpa using ha) (fun x h=> ?_) (fun j hj=> ?_) (fun j hj hj2=> ?_)
   · rcases List.mem_or_eq_of_mem_set h with h|rfl
     · exact hx x h
     · exact qhn bs acc i
   · rw[key j]
     by_cases h:j=i
     · subst h
       rcases hbi with h0|h0
       · rw[if_neg (fun h4=>by omega),h2 j (by omega) (by omega),h0]
       · rw[if_pos ⟨rfl,h0⟩,h0]
     · rw[if_neg (fun h4=>h h4.1)];exact h1 j (by omega)
   · rw[key j,if_neg (fun h4=>by omega)];exact h2 j (by omega) hj2
theorem qti (n j:Nat):rd (List.replicate n 0) (j:Int)=0:=by
 rw[rd_nat,List.getD_eq_getElem?_getD,List.getElem?_replicate]
 split<;>rfl
theorem qcp (bs:List Int) (hb:∀x∈bs,x=0∨x=1):∀j,j<bs.length→qbc (rd (qaa bs) ((j / 8:Nat):Int)) (7-j%8)=rd bs (j:Int):=by
 unfold qaa
 exact qdt bs hb bs.length 0 _ (by omega) (by simp) (fun x hx=>by rw[List.eq_of_mem_replicate hx];omega) (fun j hj=>by omega) (fun j _ _=>by rw[qti];simp[qbc])
theorem qho (n w c:Nat):∀(d j t:Nat),j≤t→t<j+d→t*w+c<n→((t*w+c:Nat):Int)∈qah n w c d j
 |0,j,t,h1,h2,_=>by omega
 | d +1,j,t,h1,h2,h=>by
   unfold qah
   by_cases e:t=j
   · subst e
     rw[if_pos h]
     exact List.mem_cons_self ..
   · have:=qho n w c d (j+1) t (by omega) (by omega) h
     split
     · exact List.mem_cons_of_mem _ this
     · exact this
theorem qhp (n w r:Nat):∀(d c t s:Nat),c≤s→s<c+d→t<r→t*w+s<n→((t*w+s:Nat):Int)∈qae n w r d c
 |0,c,t,s,h1,h2,_,_=>by omega
 | d +1,c,t,s,h1,h2,hr,h=>by
   unfold qae
   by_cases e:s=c
   · subst e
     exact List.mem_append_left _ (qho n w s r 0 t (by omega) (by omega) h)
   · exact List.mem_append_right _ (qhp n w r d (c+1) t s (by omega) (by omega) hr h)
theorem qkr (n r:Nat) (hr:1≤r):n≤r*cols n r:=by
 unfold cols
 have h:=Nat.div_add_mod (n+r-1) r
 have h2:=Nat.mod_lt (n+r-1) (show r>0 by omega)
 generalize r*((n+r-1) / r)=q at*
 omega
theorem qol (n r:Nat) (hr:1≤r) (j:Nat) (hj:j<n):(j:Int)∈qar n r:=by
 have hf:=qkr n r hr
 have hc:0<cols n r:=by
  rcases Nat.eq_zero_or_pos (cols n r) with h|h
  · rw[h] at hf;omega
  · exact h
 have e:j / cols n r*cols n r+j%cols n r=j:=by rw[Nat.mul_comm];exact Nat.div_add_mod _ _
 have hm:=Nat.mod_lt j hc
 have hd:j / cols n r<r:=(Nat.div_lt_iff_lt_mul hc).2 (by omega)
 have:=qhp n (cols n r) r (cols n r) 0 (j / cols n r) (j%cols n r) (by omega) (by omega) hd (by omega)
 rw[e] at this
 exact this
theorem qge (n w c:Nat) (hc:c<w):∀(d j:Nat),(qah (n+1) w c d j).length=(qah n w c d j).length+if n%w=c∧j≤n / w∧n / w<j+d then 1 else 0
 | 0,j=>by
   rw[if_neg (by omega)];rfl
 | d + 1,j=>by
   have ih:=qge n w c hc d (j+1)
   have hn:n / w*w+n%w=n:=by rw[Nat.mul_comm];exact Nat.div_add_mod _ _
   unfold qah
   by_cases h:j*w+c=n
   · have e1:n / w=j:=by
      rw[←h,Nat.mul_comm,Nat.mul_add_div (by omega),Nat.div_eq_of_lt hc,Nat.add_zero]
     have e2:n%w=c:=by
      rw[←h,Nat.mul_comm,Nat.mul_add_mod,Nat.mod_eq_of_lt hc]
     rw[if_neg (by omega)] at ih
     rw[if_pos (by omega),if_neg (by omega),if_pos ⟨e2,by omega,by omega⟩,List.length_cons,ih]
   · have e3:(n%w=c∧j≤n / w∧n / w<j+(d+1))↔(n%w=c∧j+1≤n / w∧n / w<j+1+d):=by
      constructor
      · rintro⟨a,b,e⟩
        refine⟨a,?_,by omega⟩
        rcases Nat.lt_or_ge j (n / w) with h2|h2
        · exact h2
        · exfalso
          apply h
          have:n / w=j:=by omega
          rw[this,a] at hn
          exact hn
      · rintro⟨a,b,e⟩
        exact⟨a,by omega,by omega⟩
     simp only[e3]
     by_cases h2:j*w+c<n
     · rw[if_pos (by omega),if_pos h2,List.length_cons,List.length_cons,ih];omega
     · rw[if_neg (by omega),if_neg h2,ih]
theorem qgf (n w r:Nat):∀(d c:Nat),c+d≤w→(qae (n+1) w r d c).length=(qae n w r d c).length+if c≤n%w∧n%w<c+d∧n / w<r then 1 else 0
 | 0,c,_=>by
   rw[if_neg (by omega)];rfl
 | d + 1,c,h=>by
   have ih:=qgf n w r d (c+1) (by omega)
   have hr:=qge n w c (by omega) r 0
   unfold qae
   rw[List.length_append,List.length_append,ih,hr]
   generalize n / w=q at*
   generalize n%w=s at*
   by_cases h1:q<r
   · by_cases h2:s=c
     · rw[if_pos ⟨h2,by omega,by omega⟩,if_neg (by omega),if_pos ⟨by omega,by omega,h1⟩];omega
     · rw[if_neg (fun h3=>h2 h3.1)]
       by_cases h3:c+1≤s∧s<c+1+d
       · rw[if_pos ⟨h3.1,h3.2,h1⟩,if_pos ⟨by omega,by omega,h1⟩];omega
       · rw[if_neg (fun h4=>h3 ⟨h4.1,h4.2.1⟩),if_neg (fun h4=>h3 ⟨by omega,by omega⟩)];omega
   · rw[if_neg (fun h3=>by omega),if_neg (fun h3=>h1 h3.2.2),if_neg (fun h3=>h1 h3.2.2)];omega
theorem qgg (w c:Nat):∀(d j:Nat),qah 0 w c d j=[]
 |0,_=>rfl
 |d+1,j=>by unfold qah;rw[if_neg (by omega)];exact qgg w c d (j+1)
theorem qeg (w r:Nat):∀(d c:Nat),qae 0 w r d c=[]
 |0,_=>rfl
 |d+1,c=>by unfold qae;rw[qgg,qeg w r d (c+1)];rfl
theorem qfr (w r:Nat) (hw:0<w):∀n,n≤r*w→(qae n w r w 0).length=n
 |0,_=>by rw[qeg];rfl
 | n+1,h=>by
   rw[qgf n w r w 0 (by omega),qfr w r hw n (by omega),if_pos ⟨by omega,by have:=Nat.mod_lt n hw;omega,(Nat.div_lt_iff_lt_mul hw).2 (by omega)⟩]
theorem qeh (n r:Nat) (hr:1≤r):(qar n r).length=n:=by
 have hf:=qkr n r hr
 rcases Nat.eq_zero_or_pos n with h|h
 · subst h
   unfold qar
   rw[qeg];rfl
 · have hc:0<cols n r:=by
    rcases Nat.eq_zero_or_pos (cols n r) with h|h
    · rw[h] at hf;omega
    · exact h
   exact qfr (cols n r) r hc n hf
theorem qdp (l:List Int) (r:Nat) (hr:1≤r):(qaj l r).length=l.length:=by
 unfold qaj;rw[List.length_map,qeh _ _ hr]
theorem qdw (bs:List Int) (hl:bs.length≤1000000) (hb:∀x∈bs,x=0∨x=1):∀(d i:Nat) (acc:List Int),i+d=bs.length→acc.length=(bs.length+7) / 8→Ev (fun k=>impl_pack8.l0 k acc bs (bs.length:Int) (i:Int)) (qag bs d i acc):=by
 intro d
 induction d with
 | zero=>
   intro i acc hi _
   refine Ev.succ ?_
   simp only[impl_pack8.l0]
   exact Ev.neg (by omega) (Ev.some_ rfl)
 | succ d ih=>
   intro i acc hi ha
   have hbit:=hb _ (rd_mem (xs:=bs) (i:=i) (by omega))
   have e1:wrap64 (Int.tdiv (i:Int) 8)=((i / 8:Nat):Int):=by rw[Int.tdiv_eq_ediv_of_nonneg (by omega),w64 (by omega) (by omega)];omega
   have e2:wrap64 (7-Int.tmod (i:Int) 8)=((7-i%8:Nat):Int):=by rw[Int.tmod_eq_emod_of_nonneg (by omega),w64 (by omega) (by omega)];omega
   refine Ev.succ ?_
   simp only[impl_pack8.l0,qag,e1,e2,qpw (7-i%8) (by omega) _ hbit]
   refine Ev.pos (by omega) (Ev.pos (by omega) (Ev.pos (by omega) (Ev.pos (by omega) (Ev.pos (by omega) (Ev.pos (by omega) ?_)))))
   rw[w64 (n:=(i:Int)+1) (by omega) (by omega),show((i:Int)+1)=((i+1:Nat):Int) by omega]
   exact ih (i+1) _ (by omega) (by simpa using ha)
theorem qdx (bs:List Int) (hl:bs.length≤1000000) (hb:∀x∈bs,x=0∨x=1):Ev (fun k=>impl_pack8.f k bs) (qaa bs):=by
 have e1:wrap64 (Int.tdiv (wrap64 ((bs.length:Int)+7)) 8)=(((bs.length+7) / 8:Nat):Int):=by
  rw[w64 (n:=(bs.length:Int)+7) (by omega) (by omega),Int.tdiv_eq_ediv_of_nonneg (by omega),w64 (by omega) (by omega)];omega
 unfold impl_pack8.f qaa
 simp only[e1,Int.toNat_natCast]
 exact Ev.pos (by omega) (Ev.pos (by omega) (qdw bs hl hb bs.length 0 _ (by omega) (by simp)))
theorem qmg {x y:Nat} (hx:x<256) (hy:y<256) (h:∀t,t<8→qbc (x:Int) t=qbc (y:Int) t):x=y:=by
 apply Nat.eq_of_testBit_eq
 intro i
 by_cases hi:i<8
 · have:=h i hi
   rw[qed,qed] at this
   cases e1:x.testBit i<;>cases e2:y.testBit i<;>simp[e1,e2] at this ⊢
 · have hp:2^8≤2^i:=Nat.pow_le_pow_right (by omega) (by omega)
   rw[Nat.testBit_lt_two_pow (by omega),Nat.testBit_lt_two_pow (by omega)]
theorem qgh (b:List Int):∀(d i j:Nat),j<d→rd (qan b d i) (j:Int)=qbc (rd b (((i+j) / 8:Nat):Int)) (7-(i+j)%8)
 |d+1,i,0,_=>rfl
 | d+1,i,j+1,h=>by
   have:=qgh b d (i+1) j (by omega)
   rw[show i+1+j=i+(j+1) by omega] at this
   exact this
theorem qjl (b:List Int) (hb:∀x∈b,0≤x∧x<256):qaa (qac b)=b:=by
 have hl:(qaa (qac b)).length=b.length:=by rw[qbf,qca];omega
 apply List.ext_getElem hl
 intro j h1 h2
 have e1:(qaa (qac b))[j]=rd (qaa (qac b)) (j:Int):=(rd_get _ j h1).symm
 have e2:b[j]=rd b (j:Int):=(rd_get _ j h2).symm
 have g1:=qec (qac b) _ (rd_mem (xs:=qaa (qac b)) (i:=j) h1)
 have g2:=hb _ (rd_mem (xs:=b) (i:=j) h2)
 rw[e1,e2]
 have key:∀t,t<8→qbc (rd (qaa (qac b)) (j:Int)) t=qbc (rd b (j:Int)) t:=by
  intro t ht
  have hj:8*j+(7-t)<(qac b).length:=by rw[qca];omega
  have k1:=qcp (qac b) (qfn b) (8*j+(7-t)) hj
  have k2:rd (qac b) ((8*j+(7-t):Nat):Int)=qbc (rd b (((8*j+(7-t)) / 8:Nat):Int)) (7-(8*j+(7-t))%8):=by
   have:=qgh b (8*b.length) 0 (8*j+(7-t)) (by omega)
   rw[Nat.zero_add] at this
   exact this
  rw[k2,show(8*j+(7-t)) / 8=j by omega,show 7-(8*j+(7-t))%8=t by omega] at k1
  exact k1
 obtain⟨x,hx⟩:=Int.eq_ofNat_of_zero_le g1.1
 obtain⟨y,hy⟩:=Int.eq_ofNat_of_zero_le g2.1
 rw[hx,hy] at key ⊢
 rw[hx] at g1
 rw[hy] at g2
 rw[qmg (x:=x) (y:=y) (by omega) (by omega) key]
theorem qom {x b:Int} (hx:x=0∨x=1) (hb:b=0∨b=1):(bits .xor .i64 x b=0∨bits .xor .i64 x b=1)∧bits .xor .i64 (bits .xor .i64 x b) b=x:=by
 rcases hx with rfl|rfl<;>rcases hb with rfl|rfl<;>decide
theorem qei:∀(l:List Int) (s:Int),(∀x∈l,x=0∨x=1)→∀x∈qad s l,x=0∨x=1
 |[],_,_,x,h=>by cases h
 | y::l,s,hl,x,h=>by
   rcases List.mem_cons.1 h with rfl|h
   · exact(qom (hl y (List.mem_cons_self ..)) (b:=s%2) (by omega)).1
   · exact qei l _ (fun z hz=>hl z (List.mem_cons_of_mem _ hz)) x h
theorem qgi:∀(l:List Int) (s:Int),(∀x∈l,x=0∨x=1)→qad s (qad s l)=l
 |[],_,_=>rfl
 | y::l,s,hl=>by
   simp only[qad]
   rw[(qom (hl y (List.mem_cons_self ..)) (b:=s%2) (by omega)).2,qgi l _ (fun z hz=>hl z (List.mem_cons_of_mem _ hz))]
def keyS:Int→Nat→Int
 |s,0=>s%2
 |s,k+1=>keyS (qcf s) k
theorem qfa:∀(l:List Int) (s:Int) (k:Nat),k<l.length→rd (qad s l) (k:Int)=bits .xor .i64 (rd l (k:Int)) (keyS s k)
 |x::l,s,0,_=>rfl
 | x::l,s,k+1,h=>by
   have:=qfa l (qcf s) k (by simpa using h)
   exact this
theorem qlg (Z o:List Int) (n:Nat) (hn:n≤1024) (hZ:Z.length=o.length) (hol:o.length≤100000) (ho:∀x∈o,0≤x∧x<(n:Int)):∀(d i:Nat) (acc:List Int),i+d=o.length→acc.length=n→(∀j:Nat,(∃k,k<i∧rd o (k:Int)=(j:Int)∧rd acc (j:Int)=rd Z (k:Int))∨∀k,k<i→rd o (k:Int)≠(j:Int))→EvP (fun k=>impl_Unweave.l0 k Z acc o (o.length:Int) (i:Int)) (fun r=>r.2=true∧r.1.length=n∧∀j:Nat,(j:Int)∈o→∃k,k<o.length∧rd o (k:Int)=(j:Int)∧rd r.1 (j:Int)=rd Z (k:Int)):=by
 intro d
 induction d with
 | zero=>
   intro i acc hi ha hs
   refine EvP.succ ?_
   simp only[impl_Unweave.l0]
   refine EvP.neg (by omega) (EvP.now ⟨rfl,ha,fun j hj=> ?_⟩)
   rcases hs j with⟨k,h1,h2,h3⟩|h
   · exact⟨k,by omega,h2,h3⟩
   · obtain⟨k,hk,e⟩:=List.getElem_of_mem hj
     exact absurd ((rd_get o k hk).trans e) (h k (by omega))
 | succ d ih=>
   intro i acc hi ha hs
   have hx:=ho _ (rd_mem (xs:=o) (i:=i) (by omega))
   refine EvP.succ ?_
   simp only[impl_Unweave.l0]
   rw[qbd (e:=i) (by omega)]
   refine EvP.pos (by omega) (EvP.pos (by omega) (EvP.pos (by omega) (EvP.pos (by omega) (EvP.pos hx.1 (EvP.pos (by omega) (ih (i+1) _ (by omega) (by simpa using ha) (fun j=> ?_)))))))
   have es:=qok acc (rd o (i:Int)).toNat j (rd Z (i:Int)) (by omega)
   by_cases h:rd o (i:Int)=(j:Int)
   · exact .inl ⟨i,by omega,h,by rw[es,if_pos (by omega)]⟩
   · rw[es,if_neg (by omega)]
     rcases hs j with⟨k,h1,h2,h3⟩|h4
     · exact .inl ⟨k,by omega,h2,h3⟩
     · refine .inr (fun k hk=> ?_)
       rcases Nat.eq_or_lt_of_le (Nat.le_of_lt_succ hk) with h5|h5
       · rw[h5];exact h
       · exact h4 k h5
theorem qlh (Z:List Int) (r:Nat) (hl:Z.length≤1024) (hr:1≤r∧r≤64):EvP (fun k=>impl_Unweave.f k Z (r:Int)) (fun q=>q.2=true∧q.1.length=Z.length∧∀j,j<Z.length→∃k,k<Z.length∧rd (qar Z.length r) (k:Int)=(j:Int)∧rd q.1 (j:Int)=rd Z (k:Int)):=by
 have hc:=qeh Z.length r hr.1
 have e:impl_weaves.f Z (r:Int)=some true:=by
  unfold impl_weaves.f
  rw[if_pos (by omega),if_pos (by omega)];simp;omega
 unfold impl_Unweave.f
 refine EvP.on (Ev.here e) (EvP.pos rfl ?_)
 rw[Int.toNat_natCast]
 refine EvP.pos (by omega) (EvP.pos (by omega) (EvP.on (qmc Z.length r hl hr) ?_))
 have:=qlg Z (qar Z.length r) Z.length hl (by omega) (by omega) (qcu _ _ _ _ _) (qar Z.length r).length 0 (List.replicate Z.length 0) (by omega) (by simp) (fun j=> .inr (fun k hk=>by omega))
 refine this.mono (fun q h=>⟨h.1,h.2.1,fun j hj=> ?_⟩)
 have:=h.2.2 j (qol _ _ hr.1 j hj)
 rw[hc] at this
 exact this
theorem qil (p:Nat→Bool):∀(n:Nat) (L:List Nat),(∀g,g<n→p g=true→g∈L)→(pick p n).length≤L.length
 |0,L,_=>Nat.zero_le _
 | n +1,L,h=>by
   by_cases hp:p n=true
   · have hm:=h n (by omega) hp
     have:=qil p n (L.erase n) (fun g hg hpg=>(List.mem_erase_of_ne (by omega)).2 (h g (by omega) hpg))
     rw[List.length_erase_of_mem hm] at this
     have hpos:0<L.length:=List.length_pos_of_mem hm
     show(if p n=true then pick p n++[n] else pick p n).length≤_
     rw[if_pos hp,List.length_append,List.length_singleton]
     omega
   · have:=qil p n L (fun g hg hpg=>h g (by omega) hpg)
     show(if p n=true then pick p n++[n] else pick p n).length≤_
     rw[if_neg hp]
     exact this
theorem qpy (A B:List Int) (hA:∀x∈A,x=0∨x=1) (hB:∀x∈B,x=0∨x=1) (hl:A.length=B.length) (h8:B.length%8=0) (g:Nat) (hg:g<(qaa B).length) (hd:difP (qaa A) (qaa B) g=true):∃t,t<B.length∧t / 8=g∧rd A (t:Int)≠rd B (t:Int):=by
 refine Classical.byContradiction (fun hn=> ?_)
 have he:∀t,t<B.length→t / 8=g→rd A (t:Int)=rd B (t:Int):=fun t h1 h2=>Classical.byContradiction (fun h3=>hn ⟨t,h1,h2,h3⟩)
 have hlB:=qbf B
 have hlA:=qbf A
 have b1:=qec A _ (rd_mem (xs:=qaa A) (i:=g) (by omega))
 have b2:=qec B _ (rd_mem (xs:=qaa B) (i:=g) (by omega))
 unfold difP at hd
 have hne:rd (qaa A) (g:Int)≠rd (qaa B) (g:Int):=by simpa using hd
 apply hne
 have key:∀t,t<8→qbc (rd (qaa A) (g:Int)) t=qbc (rd (qaa B) (g:Int)) t:=by
  intro t ht
  have hj:8*g+(7-t)<B.length:=by omega
  have k1:=qcp A hA (8*g+(7-t)) (by omega)
  have k2:=qcp B hB (8*g+(7-t)) hj
  rw[show(8*g+(7-t)) / 8=g by omega,show 7-(8*g+(7-t))%8=t by omega] at k1 k2
  rw[k1,k2]
  exact he _ hj (by omega)
 obtain⟨x,hx⟩:=Int.eq_ofNat_of_zero_le b1.1
 obtain⟨y,hy⟩:=Int.eq_ofNat_of_zero_le b2.1
 rw[hx,hy] at key ⊢
 rw[hx] at b1
 rw[hy] at b2
 rw[qmg (x:=x) (y:=y) (by omega) (by omega) key]
def qcr (W:Nat) (hs:List Nat):List Nat:=hs.flatMap (fun j=>(List.range W).map (fun b=>W*j+b))
theorem qhq (W:Nat):∀hs,(qcr W hs).length=W*hs.length
 |[]=>rfl
 | j::hs=>by
   have:=qhq W hs
   unfold qcr at this ⊢
   rw[List.flatMap_cons,List.length_append,this,List.length_map,List.length_range,List.length_cons,Nat.mul_succ];omega
theorem qnb {W:Nat} (hW:0<W) {hs:List Nat} {k:Nat} (h:k / W∈hs):k∈qcr W hs:=by
 unfold qcr
 rw[List.mem_flatMap]
 exact⟨k / W,h,List.mem_map.2 ⟨k%W,List.mem_range.2 (Nat.mod_lt _ hW),Nat.div_add_mod _ _⟩⟩
def qcs (l:List S52):Bool:=decide ((l.length:Int)≤4096)&&l.all ptB
def qab:Nat→Int→Int→Int×Int
 |0,a,b=>(a,b)
 |d+1,a,b=>qab d (wrap64 (-b)) a
theorem qhr:∀d,qab d 0 0=(0,0)
 |0=>rfl
 |d+1=>by simp only[qab];rw[show wrap64 (-0)=0 by rw[w64 (by omega) (by omega)];rfl];exact qhr d
theorem qfb (q:Nat) (hq:q≤100):∀(d i:Nat) (a b:Int),i+d=q→Ev (fun k=>impl_turned.l0 k (q:Int) (i:Int) a b) (qab d a b)
 | 0,i,a,b,hi=>by
   refine Ev.succ ?_
   simp only[impl_turned.l0]
   exact Ev.neg (by omega) (Ev.some_ rfl)
 | d+1,i,a,b,hi=>by
   refine Ev.succ ?_
   simp only[impl_turned.l0]
   rw[qbd (e:=i) (by omega)]
   exact Ev.pos (by omega) (qfb q hq d (i+1) _ _ (by omega))
def qas (q:Nat) (x:S52):S52:=⟨(qab q x.f0 x.f1).1,(qab q x.f0 x.f1).2⟩
theorem qon (q:Nat):qas q z52=z52:=by
 unfold qas z52;simp only[qhr]
def blkR (R:Nat):List S52→List S52
 |[]=>[]
 |p::xs=>List.replicate R p++blkR R xs
theorem qfc (R:Nat):∀l,(blkR R l).length=R*l.length
 |[]=>rfl
 |p::xs=>by simp only[blkR,List.length_append,List.length_replicate,List.length_cons];rw[qfc R xs,Nat.mul_succ];omega
theorem qtp (q:Nat) (hq:q≤3):Int.tmod (wrap64 (4-(q:Int))) 4=(((4-q)%4:Nat):Int):=by
 rw[w64 (by omega) (by omega),Int.tmod_eq_emod_of_nonneg (by omega)];omega
theorem qli (q:Nat) (hq:q≤3) (a b:Int) (ha: -9000000000000≤a∧a≤9000000000000) (hb: -9000000000000≤b∧b≤9000000000000):qab ((4-q)%4) (qab q a b).1 (qab q a b).2=(a,b):=by
 have n:∀x:Int,-9000000000000≤x∧x≤9000000000000→wrap64 (-x)= -x:=fun x h=>w64 (by omega) (by omega)
 have na:=n a ha
 have nb:=n b hb
 have nna:=n (-a) (by omega)
 have nnb:=n (-b) (by omega)
 rw[Int.neg_neg] at nna nnb
 match q,hq with
 |0,_=>rfl
 | 1,_=>
   show qab 3 (wrap64 (-b)) a=(a,b)
   simp only[qab,na,nb,Int.neg_neg,nna,nnb]
 | 2,_=>
   show qab 2 (qab 2 a b).1 (qab 2 a b).2=(a,b)
   simp only[qab,na,nb,Int.neg_neg,nna,nnb]
 | 3,_=>
   show qab 1 (qab 3 a b).1 (qab 3 a b).2=(a,b)
   simp only[qab,na,nb,Int.neg_neg,nna,nnb]
theorem qoo (c:Int) (q:Nat) (hq:q≤3) (a b:Int) (ha: -1000000000≤a∧a≤1000000000) (hb: -1000000000≤b∧b≤1000000000) (ha2: -9000000000000≤c*a∧c*a≤9000000000000) (hb2: -9000000000000≤c*b∧c*b≤9000000000000):(c*(qab q a b).1,c*(qab q a b).2)=qab q (c*a) (c*b):=by
 have n:∀x:Int,-9000000000000≤x∧x≤9000000000000→wrap64 (-x)= -x:=fun x h=>w64 (by omega) (by omega)
 have na:=n a (by omega)
 have nb:=n b (by omega)
 have wb:wrap64 b=b:=w64 (by omega) (by omega)
 have wcb:wrap64 (c*b)=c*b:=w64 (by omega) (by omega)
 have ma:=n (c*a) (by omega)
 have mb:=n (c*b) (by omega)
 have mna:=n (-(c*a)) (by omega)
 have mnb:=n (-(c*b)) (by omega)
 match q,hq with
 |0,_=>rfl
 |1,_=>simp only[qab,nb,mb,Int.mul_neg]
 |2,_=>simp only[qab,na,nb,ma,mb,Int.mul_neg]
 |3,_=>simp only[qab,na,nb,ma,mb,Int.mul_neg,Int.neg_neg,wb,wcb]
theorem qdy (N:Int) (hN:0≤N∧N≤1000000000):∀(q:Nat) (a b:Int),(-N≤a∧a≤N)→(-N≤b∧b≤N)→(-N≤(qab q a b).1∧(qab q a b).1≤N)∧(-N≤(qab q a b).2∧(qab q a b).2≤N)
 |0,_,_,ha,hb=>⟨ha,hb⟩
 | q+1,a,b,ha,hb=>by
   simp only[qab]
   rw[w64 (n:= -b) (by omega) (by omega)]
   exact qdy N hN q _ _ (by omega) ha
theorem qhs {x:Int} (h: -1000000000000≤x∧x≤1000000000000):impl_size.f x=some (if x<0 then-x else x):=by
 unfold impl_size.f mx
 rw[w64 (by omega) (by omega)]
 congr 1
 split<;>split<;>omega
theorem qjc {si:Int} (hs:1≤si∧si≤10000) {p:S52} (hp: -1000000000≤p.f0∧p.f0≤1000000000) (hq: -1000000000≤p.f1∧p.f1≤1000000000):hrFar si p=decide ((16*si<p.f0∨16*si< -p.f0)∨(16*si<p.f1∨16*si< -p.f1)):=by
 have w:wrap64 (16*si)=16*si:=w64 (by omega) (by omega)
 unfold hrFar impl_Hear_1.f
 rw[qhs (x:=p.f0) (by omega),qhs (x:=p.f1) (by omega),w]
 simp only[Option.bind_some]
 by_cases h1:(if p.f0<0 then-p.f0 else p.f0)>16*si
 · rw[if_pos h1,decide_eq_true (by split at h1<;>omega)];rfl
 · rw[if_neg h1]
   by_cases h2:(if p.f1<0 then-p.f1 else p.f1)>16*si
   · rw[decide_eq_true h2,decide_eq_true (by split at h2<;>omega)];rfl
   · rw[decide_eq_false h2,decide_eq_false (by split at h1<;>split at h2<;>omega)];rfl
def scP (si:Int) (p:S52):S52:=⟨wrap64 (p.f0*si),wrap64 (p.f1*si)⟩
theorem qht (R:Nat) (si:Int):∀P,qbe (R:Int) si P=blkR R (P.map (scP si))
 |[]=>rfl
 |p::xs=>by simp only[qbe,List.map_cons,blkR];rw[qht R si xs];rfl
theorem qdb {a si:Int} (ha: -32≤a∧a≤32) (hs:1≤si∧si≤10000): -320000≤a*si∧a*si≤320000:=by
 have h1:a*si≤32*si:=Int.mul_le_mul_of_nonneg_right ha.2 (by omega)
 have h2: -32*si≤a*si:=Int.mul_le_mul_of_nonneg_right ha.1 (by omega)
 omega
theorem qmh {R a:Int} (hR:0≤R∧R≤8) (ha: -320000≤a∧a≤320000): -9000000≤R*a∧R*a≤9000000:=by
 have h1:R*a≤R*320000:=Int.mul_le_mul_of_nonneg_left ha.2 hR.1
 have h2:R* -320000≤R*a:=Int.mul_le_mul_of_nonneg_left ha.1 hR.1
 omega
theorem qrv {N:Int} (hN:0≤N∧N≤1000000000) (q:Nat) {p:S52} (h0: -N≤p.f0∧p.f0≤N) (h1: -N≤p.f1∧p.f1≤N):(-N≤(qas q p).f0∧(qas q p).f0≤N)∧(-N≤(qas q p).f1∧(qas q p).f1≤N):=qdy N hN q _ _ h0 h1
def qfs (P:List S52):Prop:=∀p∈P,(-15≤p.f0∧p.f0≤15)∧(-15≤p.f1∧p.f1≤15)
theorem qhu {P:List S52} {i:Nat} (h:i<P.length):rd_T52 P (i:Int)∈P:=by
 rw[show rd_T52 P (i:Int)=P[i] by simp[rd_T52,List.getD_eq_getElem?_getD,h]]
 exact List.getElem_mem h
theorem qop {xs:List S52} {i:Nat} (h:i<xs.length):xs.take (i+1)=xs.take i++[rd_T52 xs (i:Int)]:=by
 rw[show rd_T52 xs (i:Int)=xs[i] by simp[rd_T52,List.getD_eq_getElem?_getD,h]];exact(List.take_append_getElem h).symm
theorem qpz {R i d T:Nat} (hT:T=R*(i+1)) (h:T≤4000) (hi:i≤1000) (hd:d≤200) (hR:R≤8):wrap64 ((d:Int)+wrap64 ((R:Int)*wrap64 (1+(i:Int))))=((d+T:Nat):Int)∧wrap64 (((d+T:Nat):Int)+(R:Int))=((d+T+R:Nat):Int):=by
 have e0:(R:Int)*(1+(i:Int))=(T:Int):=by rw[hT,Int.add_comm];simp
 refine⟨?_,?_⟩
 · rw[w64 (n:=1+(i:Int)) (by omega) (by omega),e0,w64 (n:=(T:Int)) (by omega) (by omega),w64 (by omega) (by omega)];omega
 · rw[w64 (by omega) (by omega)];omega
theorem qrw {n H:Nat} (hH:1≤H∧H≤4) (hn:n≤1000):wrap64 (Int.tdiv (wrap64 (wrap64 ((n:Int)+((2*H:Nat):Int))-1)) ((2*H:Nat):Int))=(((n+qbv n (2*H)) / (2*H):Nat):Int):=by
 rw[w64 (n:=(n:Int)+((2*H:Nat):Int)) (by omega) (by omega),w64 (n:=(n:Int)+((2*H:Nat):Int)-1) (by omega) (by omega),Int.tdiv_eq_ediv_of_nonneg (by omega)]
 obtain⟨h1,h2⟩:=hH
 unfold qbv
 match H,h1,h2 with
 |1,_,_=>rw[w64 (by omega) (by omega)];omega
 |2,_,_=>rw[w64 (by omega) (by omega)];omega
 |3,_,_=>rw[w64 (by omega) (by omega)];omega
 |4,_,_=>rw[w64 (by omega) (by omega)];omega
theorem qmi (w m r s si:Int) (R:Nat) (data:List Int) (hs:1≤si∧si≤10000) (h:qai w m r s (R:Int) si=true∧1≤data.length∧data.length≤40):qbi w m r s (R:Int) si data=(blkR R (⟨32*si,0⟩::(qaf w m r s (R:Int) si data).map (scP si)),true):=by
 unfold qbi
 rw[if_pos h,qht,w64 (n:=32*si) (by omega) (by omega),Int.toNat_natCast]
 rfl
theorem qgr (R:Nat):∀(l:List S52) (p:S52),p∈blkR R l→p∈l
 |[],p,h=>h
 | x::xs,p,h=>by
   rcases List.mem_append.1 h with h|h
   · rw[List.eq_of_mem_replicate h];exact List.mem_cons_self ..
   · exact List.mem_cons_of_mem _ (qgr R xs p h)
theorem qej {l:List Int} (hb:qba l) (H:Nat) (hH:1≤H∧H≤4):∀(d i:Nat),qfs (qaw l H d i)
 |0,_=>fun p hp=>by cases hp
 | d+1,i=>fun p hp=>by
   rcases List.mem_cons.1 hp with rfl|hp
   · exact⟨qme hb H _ hH,qme hb H _ hH⟩
   · exact qej hb H hH d _ p hp
theorem qrx {d R n:Nat} (hd:d≤200) (hn:n≤300) (hT:R*(n+1)≤3000):decide (wrap64 (((d+R*(n+1):Nat):Int)-(d:Int))<wrap64 ((R:Int)*wrap64 (1+(n:Int))))=false:=by
 rw[decide_eq_false_iff_not]
 have e:(R:Int)*(1+(n:Int))=((R*(n+1):Nat):Int):=by rw[Int.add_comm];simp
 rw[w64 (n:=1+(n:Int)) (by omega) (by omega),e]
 generalize R*(n+1)=T at*
 rw[w64 (n:=((d+T:Nat):Int)-(d:Int)) (by omega) (by omega),w64 (n:=(T:Int)) (by omega) (by omega)]
 omega
theorem qqa {a M L:Nat} (ha:a≤40) (hM:M≤8) (h:L=8*(a+2*M)):wrap64 (8*wrap64 ((a:Int)+wrap64 (2*(M:Int))))=(L:Int):=by
 rw[w64 (n:=2*(M:Int)) (by omega) (by omega),w64 (n:=(a:Int)+2*(M:Int)) (by omega) (by omega),w64 (by omega) (by omega)];omega
theorem qqb {d R:Nat} (hd:d≤200) (hR:R≤8):wrap64 ((d:Int)+(R:Int))=((d+R:Nat):Int):=by rw[w64 (by omega) (by omega)];omega
def ls0:List S52→Int
 |[]=>0
 |p::l=>p.f0+ls0 l
def ls1:List S52→Int
 |[]=>0
 |p::l=>p.f1+ls1 l
theorem qks (p:S52):∀l,ls0 (l++[p])=ls0 l+p.f0
 |[]=>by simp[ls0]
 |q::l=>by simp only[List.cons_append,ls0];rw[qks p l];omega
theorem qkt (p:S52):∀l,ls1 (l++[p])=ls1 l+p.f1
 |[]=>by simp[ls1]
 |q::l=>by simp only[List.cons_append,ls1];rw[qkt p l];omega
def inP (N:Int) (p:S52):Prop:=(-N≤p.f0∧p.f0≤N)∧(-N≤p.f1∧p.f1≤N)
theorem qhv {N:Int} (hN:0≤N):∀l:List S52,(∀p∈l,inP N p)→(-(N*l.length)≤ls0 l∧ls0 l≤N*l.length)∧(-(N*l.length)≤ls1 l∧ls1 l≤N*l.length)
 |[],_=>by simp[ls0,ls1]
 | p::l,h=>by
   have ih:=qhv hN l (fun q hq=>h q (List.mem_cons_of_mem _ hq))
   have hp:=h p (List.mem_cons_self ..)
   unfold inP at hp
   simp only[ls0,ls1,List.length_cons]
   have e:N*((l.length+1:Nat):Int)=N*l.length+N:=by rw[Int.natCast_add,Int.mul_add];simp
   rw[e]
   omega
theorem qry (l:List S52) (hl:l.length≤8) (hb:∀p∈l,inP 1000000 p):∀(d i:Nat),i+d=l.length→Ev (fun k=>impl_sum.l0 k l (l.length:Int) (i:Int) (ls0 (l.take i)) (ls1 (l.take i))) (ls0 l,ls1 l):=by
 intro d
 induction d with
 | zero=>
   intro i hi
   refine Ev.succ ?_
   simp only[impl_sum.l0]
   rw[List.take_of_length_le (by omega)]
   exact Ev.neg (by omega) (Ev.some_ rfl)
 | succ d ih=>
   intro i hi
   have b:=qhv (N:=1000000) (by omega) (l.take (i+1)) (fun p hp=>hb p (List.mem_of_mem_take hp))
   have hlen:(l.take (i+1)).length≤8:=by rw[List.length_take];omega
   have ihs:=ih (i+1) (by omega)
   rw[qop (by omega)] at ihs b hlen
   rw[qks,qkt] at ihs b
   refine Ev.succ ?_
   simp only[impl_sum.l0]
   rw[w64 (n:=ls0 (l.take i)+(rd_T52 l (i:Int)).f0) (by omega) (by omega),w64 (n:=ls1 (l.take i)+(rd_T52 l (i:Int)).f1) (by omega) (by omega),qbd (e:=i) (by omega)]
   exact Ev.pos (by omega) (Ev.pos (by omega) (Ev.pos (by omega) ihs))
theorem qmj (l:List S52) (hl:l.length≤8) (hb:∀p∈l,inP 1000000 p):Ev (fun k=>impl_sum.f k l) (ls0 l,ls1 l):=qry l hl hb l.length 0 (by omega)
def near (b:Int) (c p:S52):Prop:=(-b≤p.f0-c.f0∧p.f0-c.f0≤b)∧(-b≤p.f1-c.f1∧p.f1-c.f1≤b)
theorem qim {b:Int} (c:S52):∀l:List S52,(∀p∈l,near b c p)→(-(b*l.length)≤ls0 l-l.length*c.f0∧ls0 l-l.length*c.f0≤b*l.length)∧(-(b*l.length)≤ls1 l-l.length*c.f1∧ls1 l-l.length*c.f1≤b*l.length)
 |[],_=>by simp[ls0,ls1]
 | p::l,h=>by
   have ih:=qim c l (fun q hq=>h q (List.mem_cons_of_mem _ hq))
   have hp:=h p (List.mem_cons_self ..)
   unfold near at hp
   simp only[ls0,ls1,List.length_cons]
   have e:b*((l.length+1:Nat):Int)=b*l.length+b:=by rw[Int.natCast_add,Int.mul_add];simp
   have e0:((l.length+1:Nat):Int)*c.f0=l.length*c.f0+c.f0:=by rw[Int.natCast_add,Int.add_mul];simp
   have e1:((l.length+1:Nat):Int)*c.f1=l.length*c.f1+c.f1:=by rw[Int.natCast_add,Int.add_mul];simp
   rw[e,e0,e1]
   omega
theorem qoq (q:Nat) (hq:q≤3) (a b c d:Int) (ha: -9000000000≤a∧a≤9000000000) (hb: -9000000000≤b∧b≤9000000000) (hc: -9000000000≤c∧c≤9000000000) (hd: -9000000000≤d∧d≤9000000000):qab q (a+c) (b+d)=((qab q a b).1+(qab q c d).1,(qab q a b).2+(qab q c d).2):=by
 have n:∀x:Int,-19000000000≤x∧x≤19000000000→wrap64 (-x)= -x:=fun x h=>w64 (by omega) (by omega)
 have n1:=n a (by omega)
 have n2:=n b (by omega)
 have n3:=n c (by omega)
 have n4:=n d (by omega)
 have n5:wrap64 (-a+ -c)= -a+ -c:=w64 (by omega) (by omega)
 have n6:wrap64 (-b+ -d)= -b+ -d:=w64 (by omega) (by omega)
 have m1:wrap64 b=b:=w64 (by omega) (by omega)
 have m2:wrap64 d=d:=w64 (by omega) (by omega)
 have m3:wrap64 (b+d)=b+d:=w64 (by omega) (by omega)
 match q,hq with
 |0,_=>rfl
 |1,_=>simp only[qab,Int.neg_add,n2,n4,n6]
 |2,_=>simp only[qab,Int.neg_add,n1,n2,n3,n4,n5,n6]
 |3,_=>simp only[qab,Int.neg_add,n1,n2,n3,n4,n5,n6,Int.neg_neg,m1,m2,m3]
theorem qku {si:Int}:∀(d:Nat) (l:List S52) (i:Int),(∀j,j<d→hrFar si (rd_T52 l (j:Int))=false)→d<l.length→hrFar si (rd_T52 l (d:Int))=true→hrIdx si l i=i+d
 | 0,p::l,i,_,_,h=>by
   have:hrFar si p=true:=h
   simp[hrIdx,this]
 | d+1,p::l,i,hz,hl,h=>by
   have h0:hrFar si p=false:=hz 0 (by omega)
   simp only[hrIdx]
   rw[if_neg (by rw[h0];decide),qku d l (i+1) (fun j hj=>hz (j+1) (by omega)) (by simpa using hl) h]
   omega
theorem qmk {l:List S52} {a R:Nat} (h:a+R≤l.length) {p:S52} (hp:p∈(l.take (a+R)).drop a):∃i,i<R∧p=rd_T52 l ((a+i:Nat):Int):=by
 obtain⟨i,hi,e⟩:=List.getElem_of_mem hp
 have hi2:i<R:=by rw[List.length_drop,List.length_take] at hi;omega
 refine⟨i,hi2,?_⟩
 rw[←e,List.getElem_drop,List.getElem_take]
 unfold rd_T52
 rw[Int.toNat_natCast]
 simp[List.getD_eq_getElem?_getD,show a+i<l.length by omega]
theorem qml {l:List S52} {a R:Nat} (h:a+R≤l.length):((l.take (a+R)).drop a).length=R:=by
 rw[List.length_drop,List.length_take];omega
structure Heard (air:List S52) (R d q:Nat) (si b:Int) (P:List S52) (hs:List Nat):Prop where
 len:air.length=d+R*(P.length+1)
 bd:∀p∈air,inP 1000000 p
 b0:0≤b∧2*b<si
 ahead:∀i,i<d→inP (16*si) (rd_T52 air (i:Int))
 head:∀i,i<R→near b (qas q ⟨32*si,0⟩) (rd_T52 air ((d+i:Nat):Int))
 sym:∀j,j<P.length→j∉hs→∀i,i<R→near b (qas q (scP si (rd_T52 P (j:Int)))) (rd_T52 air ((d+R*(j+1)+i:Nat):Int))
theorem qor {air:List S52} (hb:∀p∈air,inP 1000000 p) {a R:Nat}:∀p∈(air.take (a+R)).drop a,inP 1000000 p:=fun p hp=>hb p (List.mem_of_mem_take (List.mem_of_mem_drop hp))
theorem qnc (q:Nat) (hq:q≤3) (R:Nat) (hR:1≤R∧R≤8) (si b:Int) (hs:1≤si∧si≤10000) (hb:0≤b∧2*b<si) (l:List S52) (hl:l.length=R) (hbd:∀p∈l,inP 1000000 p) (hn:∀p∈l,near b (qas q ⟨32*si,0⟩) p) (c:Nat→Int→Option (List Int×Int×Bool)) {P:List Int×Int×Bool→Prop} (H:EvP (fun k=>c k (q:Int)) P):
 EvP (fun k=>(impl_sum.f k l).bind fun bt580=>(impl_size.f bt580.1).bind fun t583=>(impl_size.f bt580.2).bind fun t584=>(if t583≥t584 then(if bt580.1≤0 then c k 2 else c k 0) else(if bt580.2>0 then c k 1 else c k 3))) P:=by
 have hsum:=qmj l (by omega) hbd
 have bb:=qhv (N:=1000000) (by omega) l hbd
 have nn:=qim (b:=b) (qas q ⟨32*si,0⟩) l hn
 rw[hl] at bb nn
 refine EvP.on hsum (EvP.on (Ev.here (qhs (by simp only;omega))) (EvP.on (Ev.here (qhs (by simp only;omega))) ?_))
 have g:si≤(R:Int)*si:=by
  have:1*si≤(R:Int)*si:=Int.mul_le_mul_of_nonneg_right (by omega) (by omega)
  omega
 have gb:2*(b*(R:Int))<(R:Int)*si:=by
  have h1:(R:Int)*(2*b+1)≤(R:Int)*si:=Int.mul_le_mul_of_nonneg_left (by omega) (by omega)
  have h2:(R:Int)*(2*b+1)=2*(b*(R:Int))+(R:Int):=by rw[Int.mul_add,Int.mul_one,Int.mul_comm (R:Int),Int.mul_assoc]
  omega
 have g32:(R:Int)*(32*si)=32*((R:Int)*si):=by rw[←Int.mul_assoc,Int.mul_comm (R:Int) 32,Int.mul_assoc]
 have n1:wrap64 (-(0:Int))=0:=by rw[w64 (by omega) (by omega)];rfl
 have n2:wrap64 (-(32*si))= -(32*si):=w64 (by omega) (by omega)
 have gn:(R:Int)* -(32*si)= -(32*((R:Int)*si)):=by rw[Int.mul_neg,g32]
 have hna:∀x:Int,(if x<0 then-x else x)=((x.natAbs:Nat):Int):=fun x=>by split<;>omega
 clear hsum bb hn hbd
 simp only[hna]
 generalize ls0 l=s0 at*
 generalize ls1 l=s1 at*
 generalize (R:Int)*si=G at*
 generalize b*(R:Int)=E at*
 match q,hq with
 | 0,_=>
   simp only[qas,qab,Int.mul_zero,g32] at nn
   exact EvP.pos (by omega) (EvP.neg (by omega) H)
 | 1,_=>
   simp only[qas,qab,n1,Int.mul_zero,g32] at nn
   exact EvP.neg (by omega) (EvP.pos (by omega) H)
 | 2,_=>
   simp only[qas,qab,n1,n2,Int.mul_zero,gn] at nn
   exact EvP.pos (by omega) (EvP.pos (by omega) H)
 | 3,_=>
   simp only[qas,qab,n1,n2,Int.mul_zero,gn] at nn
   exact EvP.neg (by omega) (EvP.neg (by omega) H)
theorem qos (q:Nat) (hq:q≤3) (si b:Int) (hs:1≤si∧si≤10000) (hb:0≤b∧2*b<si) (p:S52) (hp:inP 1000000 p) (h:near b (qas q ⟨32*si,0⟩) p):hrFar si p=true:=by
 unfold inP at hp
 unfold near at h
 rw[qjc hs (by omega) (by omega),decide_eq_true_eq]
 have n1:wrap64 (-(0:Int))=0:=by rw[w64 (by omega) (by omega)];rfl
 have n2:wrap64 (-(32*si))= -(32*si):=w64 (by omega) (by omega)
 match q,hq with
 |0,_=>simp only[qas,qab] at h;omega
 |1,_=>simp only[qas,qab,n1] at h;omega
 |2,_=>simp only[qas,qab,n1,n2] at h;omega
 |3,_=>simp only[qas,qab,n1,n2] at h;omega
theorem qlj {si:Int} (hs:1≤si∧si≤10000) {p:S52} (h:inP (16*si) p):hrFar si p=false:=by
 unfold inP at h
 rw[qjc hs (by omega) (by omega),decide_eq_false_iff_not]
 omega
theorem qot (q:Nat) (hq:q≤3) (R:Nat) (hR:1≤R∧R≤8) (si b:Int) (hs:1≤si∧si≤10000) (hb:0≤b∧2*b<si) (p:S52) (hp:(-15≤p.f0∧p.f0≤15)∧(-15≤p.f1∧p.f1≤15)) (l:List S52) (hl:l.length=R) (hbd:∀x∈l,inP 1000000 x) (hn:∀x∈l,near b (qas q (scP si p)) x):
 Ev (fun k=>impl_RoundDiv.f k (qab ((4-q)%4) (ls0 l) (ls1 l)).1 (wrap64 ((R:Int)*si))) p.f0∧Ev (fun k=>impl_RoundDiv.f k (qab ((4-q)%4) (ls0 l) (ls1 l)).2 (wrap64 ((R:Int)*si))) p.f1:=by
 have b0:=qdb (a:=p.f0) (by omega) hs
 have b1:=qdb (a:=p.f1) (by omega) hs
 have eS:scP si p=⟨p.f0*si,p.f1*si⟩:=by unfold scP;rw[w64 (by omega) (by omega),w64 (by omega) (by omega)]
 have nn:=qim (b:=b) (qas q (scP si p)) l hn
 rw[hl,eS] at nn
 have bb:=qhv (N:=1000000) (by omega) l hbd
 rw[hl] at bb
 have hRsi:1≤(R:Int)*si∧(R:Int)*si≤80000:=by
  have h1:(R:Int)*si≤8*si:=Int.mul_le_mul_of_nonneg_right (by omega) (by omega)
  have h2:1*si≤(R:Int)*si:=Int.mul_le_mul_of_nonneg_right (by omega) (by omega)
  omega
 have gb:2*(b*(R:Int))<(R:Int)*si:=by
  have h1:(R:Int)*(2*b+1)≤(R:Int)*si:=Int.mul_le_mul_of_nonneg_left (by omega) (by omega)
  have h2:(R:Int)*(2*b+1)=2*(b*(R:Int))+(R:Int):=by rw[Int.mul_add,Int.mul_one,Int.mul_comm (R:Int),Int.mul_assoc]
  omega
 have c0:=qmh (R:=(R:Int)) (by omega) b0
 have c1:=qmh (R:=(R:Int)) (by omega) b1
 have em:=qoo (R:Int) q hq (p.f0*si) (p.f1*si) (by omega) (by omega) (by omega) (by omega)
 have er:=qli q hq ((R:Int)*(p.f0*si)) ((R:Int)*(p.f1*si)) (by omega) (by omega)
 -- the sums, as the sent ones and what is behind the point
 have m0:(R:Int)*(qas q ⟨p.f0*si,p.f1*si⟩).f0=(qab q ((R:Int)*(p.f0*si)) ((R:Int)*(p.f1*si))).1:=congrArg Prod.fst em
 have m1:(R:Int)*(qas q ⟨p.f0*si,p.f1*si⟩).f1=(qab q ((R:Int)*(p.f0*si)) ((R:Int)*(p.f1*si))).2:=congrArg Prod.snd em
 have tb:=qdy 9000000 (by omega) q ((R:Int)*(p.f0*si)) ((R:Int)*(p.f1*si)) (by omega) (by omega)
 rw[m0,m1] at nn
 obtain⟨E,hE⟩:∃E,E=b*(R:Int):=⟨_,rfl⟩
 rw[←hE] at nn gb
 have hE0:0≤E∧E≤100000:=by
  have:0≤b*(R:Int):=Int.mul_nonneg hb.1 (by omega)
  omega
 obtain⟨e0,he0⟩:∃e,e=ls0 l-(qab q ((R:Int)*(p.f0*si)) ((R:Int)*(p.f1*si))).1:=⟨_,rfl⟩
 obtain⟨e1,he1⟩:∃e,e=ls1 l-(qab q ((R:Int)*(p.f0*si)) ((R:Int)*(p.f1*si))).2:=⟨_,rfl⟩
 rw[←he0,←he1] at nn
 have hl0:ls0 l=(qab q ((R:Int)*(p.f0*si)) ((R:Int)*(p.f1*si))).1+e0:=by omega
 have hl1:ls1 l=(qab q ((R:Int)*(p.f0*si)) ((R:Int)*(p.f1*si))).2+e1:=by omega
 have lin:=qoq ((4-q)%4) (by omega) (qab q ((R:Int)*(p.f0*si)) ((R:Int)*(p.f1*si))).1 (qab q ((R:Int)*(p.f0*si)) ((R:Int)*(p.f1*si))).2 e0 e1 (by omega) (by omega) (by omega) (by omega)
 rw[←hl0,←hl1,er] at lin
 have eb:=qdy E (by omega) ((4-q)%4) e0 e1 (by omega) (by omega)
 have w:=w64 (n:=(R:Int)*si) (by omega) (by omega)
 have mm:∀a:Int,(R:Int)*(a*si)=a*((R:Int)*si):=fun a=>by rw[←Int.mul_assoc,Int.mul_comm (R:Int) a,Int.mul_assoc]
 rw[lin,w]
 simp only
 rw[mm,mm]
 rw[mm] at c0 c1
 generalize (R:Int)*si=G at*
 exact⟨qgc p.f0 G _ (by omega) (by omega) (by omega) (by omega),qgc p.f1 G _ (by omega) (by omega) (by omega) (by omega)⟩
structure qhw (P:List S52) (hs:List Nat) (PH:List S52) (n:Nat):Prop where
 len:PH.length=n
 bd:∀p∈PH,(-1000000000≤p.f0∧p.f0≤1000000000)∧(-1000000000≤p.f1∧p.f1≤1000000000)
 same:∀j,j<n→j∉hs→rd_T52 PH (j:Int)=rd_T52 P (j:Int)
theorem qqc (l:List S52) (p:S52) (j:Nat):rd_T52 (l++[p]) (j:Int)=if j<l.length then rd_T52 l (j:Int) else if j=l.length then p else z52:=by
 unfold rd_T52
 rw[Int.toNat_natCast,List.getD_eq_getElem?_getD,List.getD_eq_getElem?_getD,List.getElem?_append]
 split
 · rfl
 · split
   · rename_i h;subst h;simp
   · rename_i h1 h2
     rw[List.getElem?_eq_none (by simp;omega)];rfl
theorem qhw.next {P:List S52} {hs:List Nat} {PH:List S52} {n:Nat} (h:qhw P hs PH n) (p:S52) (hb:(-1000000000≤p.f0∧p.f0≤1000000000)∧(-1000000000≤p.f1∧p.f1≤1000000000)) (hs2:n∉hs→p=rd_T52 P (n:Int)):qhw P hs (PH++[p]) (n+1) where
 len:=by rw[List.length_append,h.len,List.length_singleton]
 bd:=fun x hx=>by
  rcases List.mem_append.1 hx with hx|hx
  · exact h.bd x hx
  · rw[List.mem_singleton.1 hx];exact hb
 same:=fun j hj hn=>by
  rw[qqc]
  rcases Nat.lt_or_ge j n with h1|h1
  · rw[if_pos (by rw[h.len];exact h1)];exact h.same j h1 hn
  · have:j=n:=by omega
    subst this
    rw[if_neg (by rw[h.len];omega),if_pos h.len.symm]
    exact hs2 hn
theorem qjd {a q:Int} (hq:1≤q∧q≤1000000) (ha: -20000000≤a∧a≤20000000):∃v,Ev (fun k=>impl_RoundDiv.f k a q) v∧ -1000000000≤v∧v≤1000000000:=by
 obtain⟨v,hv,_,_,h1,h2⟩:=qja a q hq (by omega)
 refine⟨v,hv,?_,?_⟩
 · rcases(show v+1<0∨0≤v+1 by omega) with h|h
   · have:q*(v+1)≤1*(v+1):=by
      have:=Int.mul_le_mul_of_nonpos_right (c:=v+1) hq.1 (by omega)
      exact this
     omega
   · omega
 · rcases(show 0<v-1∨v-1≤0 by omega) with h|h
   · have:1*(v-1)≤q*(v-1):=Int.mul_le_mul_of_nonneg_right hq.1 (by omega)
     omega
   · omega
theorem qqd (air:List S52) (R d q:Nat) (si b:Int) (P:List S52) (hs:List Nat) (h:Heard air R d q si b P hs) (hR:1≤R∧R≤8) (hd:d≤200) (hq:q≤3) (hsi:1≤si∧si≤10000) (hP:qfs P) (hPl:P.length≤500) (x2 x10 w m r s:Int) {Q:List Int×Int×Bool→Prop}
 (H:∀PH,qhw P hs PH P.length→EvP (fun k=>(impl_Decide.f k w PH).bind fun bt=>if 0≤x10 then(if x10≤(bt.1.length:Int) then(impl_Stir.f k (bt.1.take x10.toNat) 46080 s).bind fun bt2=>(impl_Unweave.f k bt2.1 r).bind fun bt3=>(impl_pack8.f k bt3.1).bind fun t=>(impl_RsMend.f k t m).bind fun bt4=>if bt4.2.2=true then(if 0≤x2 then(if x2≤(bt4.1.length:Int) then some (bt4.1.take x2.toNat,bt4.2.1,true) else none) else none) else some ([],0,false) else none) else none) Q):
 ∀(n i:Nat) (PH:List S52),i+n=P.length→qhw P hs PH i→EvP (fun k=>impl_Hear.l0 k air x2 (d:Int) x10 (q:Int) PH (P.length:Int) (i:Int) w m r s (R:Int) si) Q:=by
 intro n
 induction n with
 | zero=>
   intro i PH hi hG
   have:i=P.length:=by omega
   subst this
   refine EvP.succ ?_
   simp only[impl_Hear.l0]
   exact EvP.neg (by omega) (H PH hG)
 | succ n ih=>
   intro i PH hi hG
   have hlen:=h.len
   obtain⟨T,hT⟩:∃T,T=R*(i+1):=⟨_,rfl⟩
   have hRi:T≤4000:=by rw[hT];exact Nat.le_trans (Nat.mul_le_mul hR.2 (show i+1≤500 by omega)) (by decide)
   have hRt:T+R≤R*(P.length+1):=by rw[hT,←Nat.mul_succ];exact Nat.mul_le_mul_left R (by omega)
   have hfit:d+T+R≤air.length:=by omega
   have hcl:=qml (l:=air) (a:=d+T) (R:=R) hfit
   have hcb:=qor h.bd (a:=d+T) (R:=R)
   have hsum:=qmj ((air.take (d+T+R)).drop (d+T)) (by omega) hcb
   have bb:=qhv (N:=1000000) (by omega) _ hcb
   rw[hcl] at bb
   have hT2:=qfb ((4-q)%4) (by omega) ((4-q)%4) 0 (ls0 ((air.take (d+T+R)).drop (d+T))) (ls1 ((air.take (d+T+R)).drop (d+T))) (by omega)
   have hT3:Ev (fun k=>impl_turned.f k (ls0 ((air.take (d+T+R)).drop (d+T))) (ls1 ((air.take (d+T+R)).drop (d+T))) (Int.tmod (wrap64 (4-(q:Int))) 4)) (qab ((4-q)%4) (ls0 ((air.take (d+T+R)).drop (d+T))) (ls1 ((air.take (d+T+R)).drop (d+T)))):=by
    unfold impl_turned.f
    rw[qtp q hq]
    exact hT2
   have tb:=qdy 8000000 (by omega) ((4-q)%4) (ls0 ((air.take (d+T+R)).drop (d+T))) (ls1 ((air.take (d+T+R)).drop (d+T))) (by omega) (by omega)
   have hRsi:1≤(R:Int)*si∧(R:Int)*si≤80000:=by
    have h1:(R:Int)*si≤8*si:=Int.mul_le_mul_of_nonneg_right (by omega) (by omega)
    have h2:1*si≤(R:Int)*si:=Int.mul_le_mul_of_nonneg_right (by omega) (by omega)
    omega
   have hw:wrap64 ((R:Int)*si)=(R:Int)*si:=w64 (by omega) (by omega)
   -- what is told of this symbol
   obtain⟨v0,v1,e0,e1,hbd,hsame⟩:∃v0 v1,Ev (fun k=>impl_RoundDiv.f k (qab ((4-q)%4) (ls0 ((air.take (d+T+R)).drop (d+T))) (ls1 ((air.take (d+T+R)).drop (d+T)))).1 (wrap64 ((R:Int)*si))) v0∧Ev (fun k=>impl_RoundDiv.f k (qab ((4-q)%4) (ls0 ((air.take (d+T+R)).drop (d+T))) (ls1 ((air.take (d+T+R)).drop (d+T)))).2 (wrap64 ((R:Int)*si))) v1∧((-1000000000≤v0∧v0≤1000000000)∧(-1000000000≤v1∧v1≤1000000000))∧(i∉hs→(⟨v0,v1⟩:S52)=rd_T52 P (i:Int)):=by
    by_cases hi2:i∈hs
    · obtain⟨v0,a0,a1,a2⟩:=qjd (a:=(qab ((4-q)%4) (ls0 ((air.take (d+T+R)).drop (d+T))) (ls1 ((air.take (d+T+R)).drop (d+T)))).1) (q:=(R:Int)*si) (by omega) (by omega)
      obtain⟨v1,c0,c1,c2⟩:=qjd (a:=(qab ((4-q)%4) (ls0 ((air.take (d+T+R)).drop (d+T))) (ls1 ((air.take (d+T+R)).drop (d+T)))).2) (q:=(R:Int)*si) (by omega) (by omega)
      rw[hw]
      exact⟨v0,v1,a0,c0,⟨⟨a1,a2⟩,c1,c2⟩,fun hn=>absurd hi2 hn⟩
    · have hp:=hP _ (qhu (P:=P) (i:=i) (by omega))
      have hn:∀x∈(air.take (d+T+R)).drop (d+T),near b (qas q (scP si (rd_T52 P (i:Int)))) x:=fun x hx=>by
       obtain⟨t,ht,rfl⟩:=qmk hfit hx
       have:=h.sym i (by omega) hi2 t ht
       rw[←hT] at this
       exact this
      obtain⟨a0,c0⟩:=qot q hq R hR si b hsi h.b0 (rd_T52 P (i:Int)) hp _ hcl hcb hn
      exact⟨_,_,a0,c0,by omega,fun _=>rfl⟩
   clear hT2 tb bb hw hRsi
   have hio:i≤1000:=by omega
   have hPHl:=hG.len
   have hG2:=hG.next ⟨v0,v1⟩ hbd hsame
   have ihs:=ih (i+1) _ (by omega) hG2
   clear hbd hsame
   have q1:(i:Int)<(P.length:Int):=by omega
   have q2:(0:Int)≤((d+T:Nat):Int):=by omega
   have q3:((d+T:Nat):Int)≤((d+T+R:Nat):Int):=by omega
   have q4:((d+T+R:Nat):Int)≤(air.length:Int):=by omega
   have q5:PH.length<8796093022208:=by omega
   obtain⟨w1,w2⟩:=qpz (d:=d) hT hRi hio hd hR.2
   have w3:=qbd (e:=i) (Nat.le_trans hio (by decide))
   refine EvP.succ ?_
   simp only[impl_Hear.l0]
   rw[w1,w2,w3,Int.toNat_natCast,Int.toNat_natCast]
   exact EvP.pos q1 (EvP.pos q2 (EvP.pos q3 (EvP.pos q4 (EvP.on hsum (EvP.on hT3 (EvP.on e0 (EvP.on e1 (EvP.pos q5 ihs))))))))
def qdz:Prop:=∀(W V:List Int) (M:Nat),isB W→isB V→V.length=W.length→(1≤M∧M≤8)→2*M<W.length→W.length≤255→(∀i,i<2*M→horn (gfP i) 0 W=0)→(difs V W).length≤M→Ev (fun k=>impl_fill.f k V (qaq (difs V W)) (M:Int)) (W,true)
theorem qou (U:List Int) (hU:∀x∈U,x=0∨x=1) (h8:U.length%8=0) (r:Nat) (hr:1≤r∧r≤64) (s:Int) (X Y A:List Int) (W:Nat) (hW:0<W) (hs:List Nat) (hX:X=qad s (qaj U r)) (hYl:Y.length=X.length) (hY:∀k,k<X.length→k / W∉hs→rd Y (k:Int)=rd X (k:Int)) (hA:∀x∈A,x=0∨x=1) (hAl:A.length=U.length) (hAk:∀j,j<U.length→∃k,k<U.length∧rd (qar U.length r) (k:Int)=(j:Int)∧rd A (j:Int)=rd (qad s Y) (k:Int)):
 (difs (qaa A) (qaa U)).length≤W*hs.length:=by
 have hVl:=qdp U r hr.1
 have hVb:∀x∈qaj U r,x=0∨x=1:=by
  intro x hx
  unfold qaj at hx
  obtain⟨y,hy,rfl⟩:=List.mem_map.1 hx
  have hyb:=qcu _ _ _ _ _ y hy
  have t:=qck hU y.toNat
  rwa[Int.toNat_of_nonneg hyb.1] at t
 have hXl:X.length=U.length:=by rw[hX,qcn,hVl]
 have hback:=qgi (qaj U r) s hVb
 rw[←hX] at hback
 unfold difs
 refine Nat.le_trans (qil _ _ ((qcr W hs).map (fun k:Nat=>(rd (qar U.length r) (k:Int)).toNat / 8)) (fun g hg hd=> ?_)) (by rw[List.length_map,qhq];exact Nat.le_refl _)
 obtain⟨t,ht,h1,h2⟩:=qpy A U hA hU hAl h8 g hg hd
 obtain⟨k,hk,h3,h4⟩:=hAk t ht
 refine List.mem_map.2 ⟨k,qnb hW ?_,by rw[h3,Int.toNat_natCast];exact h1⟩
 refine Classical.byContradiction (fun hn=> ?_)
 apply h2
 have e1:=hY k (by omega) hn
 have e2:rd (qad s Y) (k:Int)=rd (qad s X) (k:Int):=by rw[qfa Y s k (by omega),qfa X s k (by omega),e1]
 have e3:rd (qaj U r) (k:Int)=rd U (rd (qar U.length r) (k:Int)):=by
  unfold qaj
  have hol:=qeh U.length r hr.1
  rw[rd_nat,rd_get (qar U.length r) k (by omega)]
  simp[List.getD_eq_getElem?_getD,show k<(qar U.length r).length by omega]
 rw[h4,e2,hback,e3,h3]
theorem qkv (A:List Int):isB (qaa A):=qec A
theorem qnd (hF:qdz) (w m r s ra si:Int) (data:List Int) (hb:isB data) (hl:1≤data.length∧data.length≤40) (h:qai w m r s ra si=true) (d q:Nat) (hd:d≤200) (hq:q≤3) (b:Int) (hs:List Nat) (air:List S52)
 (hH:Heard air ra.toNat d q si b (qaf w m r s ra si data) hs) (hfew:w*(hs.length:Int)≤m) (hair:air.length≤4096):EvP (fun k=>impl_Hear.f k w m r s ra si air (data.length:Int)) (fun o=>o.1=data∧o.2.2=true∧o.2.1≤m):=by
 have hm:=qav.1 h
 obtain⟨H,hHH,hw,hw2⟩:=qhm h
 obtain⟨r',hr'⟩:=Int.eq_ofNat_of_zero_le (show 0≤r by omega)
 obtain⟨R,hR⟩:=Int.eq_ofNat_of_zero_le (show 0≤ra by omega)
 obtain⟨M,hM⟩:=Int.eq_ofNat_of_zero_le (show 0≤m by omega)
 subst hr' hR hM
 rw[Int.toNat_natCast] at hH
 obtain⟨hwm,hmm,hrr,hss,hRR,hsi⟩:=hm
 have hrs:rsOf data (M:Int)=(data++qat (genL (2*M)) (List.replicate (2*M) 0) data,true):=by
  unfold rsOf
  rw[if_pos (by unfold rsB;simp;omega),show(2*(M:Int)).toNat=2*M by omega]
 have hz:isB (List.replicate (2*M) (0:Int)):=fun x hx=>by rw[List.eq_of_mem_replicate hx];omega
 obtain⟨W,hW⟩:∃W,W=data++qat (genL (2*M)) (List.replicate (2*M) 0) data:=⟨_,rfl⟩
 have hWl:W.length=data.length+2*M:=by rw[hW,List.length_append,qer _ _ _ (by simp;omega),List.length_replicate]
 have hWb:isB W:=by rw[hW];exact qau hb (qgk _ (qch _) _ _ hz hb)
 have hWz:∀i,i<2*M→horn (gfP i) 0 W=0:=fun i hi=>by rw[hW];exact qqu data hb (2*M) (by omega) i hi
 have hWt:W.take data.length=data:=by rw[hW];simp
 obtain⟨U,hU⟩:∃U,U=qac W:=⟨_,rfl⟩
 have hUl:U.length=8*(data.length+2*M):=by rw[hU,qca,hWl]
 have hUb:∀x∈U,x=0∨x=1:=by rw[hU];exact qfn W
 have hUW:qaa U=W:=by rw[hU];exact qjl W hWb
 obtain⟨V,hV⟩:∃V,V=qaj U r':=⟨_,rfl⟩
 have hVl:V.length=U.length:=by rw[hV,qdp U r' (by omega)]
 have hVb:∀x∈V,x=0∨x=1:=by
  rw[hV]
  intro x hx
  unfold qaj at hx
  obtain⟨y,hy,rfl⟩:=List.mem_map.1 hx
  have hyb:=qcu _ _ _ _ _ y hy
  have t:=qck hUb y.toNat
  rwa[Int.toNat_of_nonneg hyb.1] at t
 have hVB:qaz V=true:=qcb.2 ⟨hVb,by omega⟩
 obtain⟨X,hX⟩:∃X,X=qad s V:=⟨_,rfl⟩
 have hst:qbh V s=(X,true):=by unfold qbh;rw[if_pos hVB,hX]
 have hXl:X.length=V.length:=by rw[hX,qcn]
 have hXb:∀x∈X,x=0∨x=1:=by rw[hX];exact qei V s hVb
 have hXB:qaz X=true:=qcb.2 ⟨hXb,by omega⟩
 obtain⟨n,hn⟩:∃n,n=(X.length+qbv X.length (2*H)) / (2*H):=⟨_,rfl⟩
 have hP:qaf w (M:Int) (r':Int) s (R:Int) si data=qaw X H n 0:=by
  unfold qaf
  rw[hrs,hw2,Int.toNat_natCast]
  simp only
  rw[←hW,←hU,←hV,hst]
  unfold qbq
  rw[if_pos hXB,hn]
 have hrn:=qcy X.length H hHH
 rw[←hn,Nat.zero_add] at hrn
 have hpf:=qcc (n:=X.length) hHH
 have hn5:n≤300:=by
  have:2*n≤2*H*n:=Nat.mul_le_mul_right n (by omega)
  omega
 have hsm:=qej (qck hXb) H hHH n 0
 rw[hP] at hH
 have hlen:=hH.len
 rw[qbu] at hlen
 have hRn:R*(n+1)≤3000:=Nat.le_trans (Nat.mul_le_mul (show R≤8 by omega) (show n+1≤301 by omega)) (by decide)
 have hfew2:2*H*hs.length≤M:=by
  rw[hw] at hfew
  have e:((2*H:Nat):Int)*(hs.length:Int)=((2*H*hs.length:Nat):Int):=by simp
  rw[e] at hfew
  omega
 rw[hw] at h ⊢
 have hR2:R≤R*(n+1):=Nat.le_mul_of_pos_right R (by omega)
 -- what is checked ahead
 have hburst:impl_burstOk.f air=some true:=by
  show some (decide ((air.length:Int)≤4096)&&air.all ptB)=some true
  rw[Option.some.injEq,Bool.and_eq_true,decide_eq_true_eq,List.all_eq_true]
  refine⟨by omega,fun p hp=> ?_⟩
  have:=hH.bd p hp
  unfold inP at this
  unfold ptB
  simp;omega
 have hsent:impl_sentOk.f (data.length:Int)=some true:=by
  unfold impl_sentOk.f
  rw[if_pos (by omega),decide_eq_true (by omega)]
 have hidx:hrIdx si air 0=(d:Int):=by
  rw[qku d air 0 (fun j hj=>qlj hsi (hH.ahead j hj)) (by omega) (qos q hq si b hsi hH.b0 _ (hH.bd _ (qhu (by omega))) (by have:=hH.head 0 (by omega);rwa[Nat.add_zero] at this))]
  omega
 have hpt:impl_Point_54.f air si=some (d:Int):=by
  unfold impl_Point_54.f
  rw[if_pos (by omega),hidx]
 have hfit0:d+R≤air.length:=by omega
 have hcl:=qml (l:=air) (a:=d) (R:=R) hfit0
 have hcb:=qor hH.bd (a:=d) (R:=R)
 have hcn:∀p∈(air.take (d+R)).drop d,near b (qas q ⟨32*si,0⟩) p:=fun p hp=>by
  obtain⟨t,ht,rfl⟩:=qmk hfit0 hp
  exact hH.head t ht
 have hloop:=qqd air R d q si b (qaw X H n 0) hs hH (by omega) hd hq hsi hsm (by rw[qbu];omega) (data.length:Int) (X.length:Int) ((2*H:Nat):Int) (M:Int) (r':Int) s (Q:=fun o=>o.1=data∧o.2.2=true∧o.2.1≤(M:Int)) (fun PH hG=>by
  rw[qbu] at hG
  refine EvP.next (qna X (qck hXb) H n hHH (by omega) PH hG.len hG.bd) ?_
  rintro⟨Y,f⟩ ⟨_,hY⟩
  have hYl:=hY.len
  simp only at hYl hY ⊢
  refine EvP.pos (by omega) (EvP.pos (by omega) ?_)
  rw[Int.toNat_natCast]
  obtain⟨Y2,hY2⟩:∃Y2,Y2=Y.take X.length:=⟨_,rfl⟩
  have hY2l:Y2.length=X.length:=by rw[hY2,List.length_take];omega
  have hY2b:∀x∈Y2,x=0∨x=1:=fun x hx=>hY.bit x (by rw[hY2] at hx;exact List.mem_of_mem_take hx)
  have hY2B:qaz Y2=true:=qcb.2 ⟨hY2b,by omega⟩
  have hY2s:∀k,k<X.length→k / (2*H)∉hs→rd Y2 (k:Int)=rd X (k:Int):=fun k hk hn2=>by
   have hm2:=Nat.mod_lt k (show 0<2*H by omega)
   have hdm:=Nat.div_add_mod k (2*H)
   have hj:k / (2*H)<n:=by
    rcases Nat.lt_or_ge (k / (2*H)) n with h1|h1
    · exact h1
    · have:2*H*n≤2*H*(k / (2*H)):=Nat.mul_le_mul_left _ h1
      omega
   have e1:rd Y2 (k:Int)=rd Y (k:Int):=by
    rw[hY2,rd_nat,rd_nat,List.getD_eq_getElem?_getD,List.getD_eq_getElem?_getD,List.getElem?_take,if_pos hk]
   have hPHs:=hG.same (k / (2*H)) hj hn2
   have hmr:=qkq X H n 0 (k / (2*H)) hj
   rw[Nat.zero_add] at hmr
   have:=hY.same (k / (2*H)) hj (hPHs.trans hmr) (k%(2*H)) hm2
   rw[hdm] at this
   rw[e1,this]
  have hY2t:qbh Y2 s=(qad s Y2,true):=by unfold qbh;rw[if_pos hY2B]
  have hstir:Ev (fun k=>impl_Stir.f k Y2 46080 s) (qad s Y2,true):=(qkm Y2 s (by omega) hss).to hY2t
  have hZl:(qad s Y2).length=U.length:=by rw[qcn];omega
  have hZb:=qei Y2 s hY2b
  rw[←hY2]
  refine EvP.on hstir (EvP.next (qlh (qad s Y2) r' (by omega) (by omega)) ?_)
  rintro⟨A,g⟩ ⟨_,hAl,hAk⟩
  simp only at hAl hAk ⊢
  rw[hZl] at hAl hAk
  have hAb:∀x∈A,x=0∨x=1:=fun x hx=>by
   obtain⟨j,hj,rfl⟩:=List.getElem_of_mem hx
   obtain⟨k,hk,_,e⟩:=hAk j (by omega)
   rw[rd_get A j hj] at e
   rw[e]
   exact hZb _ (rd_mem (by omega))
  refine EvP.on (qdx A (by omega) hAb) ?_
  have hWp:(qaa A).length=W.length:=by rw[qbf];omega
  have hdif:(difs (qaa A) W).length≤M:=by
   have:=qou U hUb (by omega) r' (by omega) s X Y2 A (2*H) (by omega) hs (by rw[hX,hV]) hY2l hY2s hAb hAl hAk
   rw[hUW] at this
   omega
  refine EvP.next (qmr W (qaa A) hWb (qkv A) hWp M (by omega) (by omega) (by omega) hWz hdif (hF W (qaa A) M hWb (qkv A) hWp (by omega) (by omega) (by omega) hWz hdif)) ?_
  rintro⟨o1,o2,o3⟩ ⟨h1,h2,h3⟩
  simp only at h1 h2 h3 ⊢
  subst h1
  refine EvP.pos h2 (EvP.pos (by omega) (EvP.pos (by omega) (EvP.now ⟨?_,rfl,h3⟩)))
  rw[Int.toNat_natCast]
  exact hWt) n 0 [] (by rw[qbu];omega) ⟨rfl,(fun p hp=>by cases hp),(fun j hj=>by omega)⟩
 rw[qbu] at hloop
 have hx8:X.length=8*(data.length+2*M):=by omega
 have hx9:X.length≤1000:=by omega
 have hd0:¬((d:Int)<0):=by omega
 have hH0:¬(((2*H:Nat):Int)=0):=by omega
 have hd1:(0:Int)≤(d:Int):=by omega
 have hd2:(d:Int)≤((d+R:Nat):Int):=by omega
 have hd3:((d+R:Nat):Int)≤(air.length:Int):=by omega
 have hM8:M≤8:=by omega
 have hR8:R≤8:=by omega
 have hR1:1≤R∧R≤8:=by omega
 have hS:=qrw (n:=X.length) (H:=H) hHH hx9
 rw[←hn] at hS
 have hN:=qqa hl.2 hM8 hx8
 have hfit:=qrx hd hn5 hRn
 rw[←hlen] at hfit
 have hcut1:=qqb hd hR8
 unfold impl_Hear.f
 refine EvP.on (Ev.here (qef _ _ _ _ _ _)) (EvP.pos h (EvP.on (Ev.here hburst) (EvP.pos rfl (EvP.on (Ev.here hsent) (EvP.succ ?_)))))
 simp only[impl_Hear.j0]
 refine EvP.neg (by decide) (EvP.on (Ev.here hpt) (EvP.neg hH0 (EvP.neg hd0 ?_)))
 rw[hN,hS,hfit]
 refine EvP.succ ?_
 simp only[impl_Hear.j1]
 rw[hcut1,Int.toNat_natCast,Int.toNat_natCast]
 refine EvP.neg (by decide) (EvP.pos hd1 (EvP.pos hd2 (EvP.pos hd3 ?_)))
 refine qnc q hq R hR1 si b hsi hH.b0 _ hcl hcb hcn (fun k y=>impl_Hear.j2 k air (data.length:Int) (d:Int) (X.length:Int) (n:Int) y ((2*H:Nat):Int) (M:Int) (r':Int) s (R:Int) si) ?_
 refine EvP.succ ?_
 simp only[impl_Hear.j2]
 exact hloop
def addP (x y:S52):S52:=⟨wrap64 (x.f0+y.f0),wrap64 (x.f1+y.f1)⟩
def qax (q:Nat) (no:List S52):Nat→List S52→List S52
 |_,[]=>[]
 |i,p::l=>addP (qas q p) (rd_T52 no (i:Int))::qax q no (i+1) l
theorem qdo (q:Nat) (no:List S52):∀(i:Nat) (l:List S52),(qax q no i l).length=l.length
 |_,[]=>rfl
 |i,p::l=>by simp[qax,qdo q no _ l]
theorem qhx (q:Nat) (no:List S52) (p:S52):∀(i:Nat) (l:List S52),qax q no i (l++[p])=qax q no i l++[addP (qas q p) (rd_T52 no ((i+l.length:Nat):Int))]
 |i,[]=>rfl
 | i,x::l=>by
   simp only[List.cons_append,qax,List.length_cons]
   rw[qhx q no p (i+1) l,show i+1+l.length=i+(l.length+1) by omega]
theorem qje (q:Nat) (no:List S52):∀(l:List S52) (i j:Nat),j<l.length→rd_T52 (qax q no i l) (j:Int)=addP (qas q (rd_T52 l (j:Int))) (rd_T52 no ((i+j:Nat):Int))
 |p::l,i,0,_=>rfl
 | p::l,i,j+1,h=>by
   have:=qje q no l (i+1) j (by simpa using h)
   rw[show i+1+j=i+(j+1) by omega] at this
   exact this
theorem qrz (a b:List S52) (x v:S52) (n:Nat) (h:a.length=n):(a++x::b).set n v=a++v::b:=by
 subst h
 rw[List.set_append_right _ _ (Nat.le_refl _),Nat.sub_self];rfl
theorem qtj (a b:List S52) (x:S52) (n:Nat) (h:a.length=n):rd_T52 (a++x::b) (n:Int)=x:=by
 subst h
 unfold rd_T52
 rw[Int.toNat_natCast,List.getD_eq_getElem?_getD,List.getElem?_append_right (Nat.le_refl _),Nat.sub_self];rfl
theorem qqe (q:Nat) (hq:q≤100) (no:List S52) (orig:List S52) (hn:orig.length≤10000) (hno:orig.length≤no.length) (hb:qcs (qax q no 0 orig)=true):∀(d i:Nat),i+d=orig.length→Ev (fun k=>impl_Air.l0 k (q:Int) no (qax q no 0 (orig.take i)++orig.drop i) (orig.length:Int) (i:Int)) (qax q no 0 orig,true):=by
 intro d
 induction d with
 | zero=>
   intro i hi
   rw[List.take_of_length_le (by omega),List.drop_of_length_le (by omega),List.append_nil]
   refine Ev.succ ?_
   simp only[impl_Air.l0]
   exact Ev.neg (by omega) (Ev.next (Ev.here (r:=qcs (qax q no 0 orig)) rfl) (Ev.pos hb (Ev.some_ rfl)))
 | succ d ih=>
   intro i hi
   have hl:(qax q no 0 (orig.take i)).length=i:=by rw[qdo,List.length_take];omega
   have ihs:=ih (i+1) (by omega)
   rw[qop (by omega),qhx,List.length_take,show 0+min i orig.length=i by omega,List.append_assoc] at ihs
   rw[qkn (xs:=orig) (i:=i) (by omega)]
   refine Ev.succ ?_
   simp only[impl_Air.l0]
   rw[qbd (e:=i) (by omega),Int.toNat_natCast,qtj _ _ _ i hl]
   refine Ev.pos (by omega) (Ev.pos (by omega) (Ev.pos (by rw[List.length_append,List.length_cons,List.length_drop];omega) (Ev.next (qfb q hq q 0 _ _ (by omega)) (Ev.pos (by omega) ?_))))
   rw[qrz _ _ _ _ i hl]
   exact ihs
theorem qqf (l no:List S52) (d q:Nat) (hd:d≤200) (hq:q≤3) (hl:d+l.length≤4096) (hno:no.length=d+l.length) (h1:qcs l=true) (h2:qcs no=true) (h3:qcs (qax q no 0 (List.replicate d z52++l))=true):Ev (fun k=>impl_Air.f k l (d:Int) (q:Int) no) (qax q no 0 (List.replicate d z52++l),true):=by
 have hlen:(List.replicate d z52++l).length=d+l.length:=by simp
 unfold impl_Air.f
 refine Ev.next (Ev.here (r:=qcs l) rfl) (Ev.pos h1 (Ev.next (Ev.here (r:=qcs no) rfl) (Ev.pos h2 (Ev.neg (by omega) (Ev.neg (by omega) (Ev.neg (by omega) (Ev.neg (by omega) ?_)))))))
 rw[w64 (n:=(l.length:Int)+(d:Int)) (by omega) (by omega)]
 refine Ev.neg (by omega) ?_
 rw[show decide ((no.length:Int)>(l.length:Int)+(d:Int))=false from decide_eq_false (by omega)]
 refine Ev.succ ?_
 simp only[impl_Air.j0]
 refine Ev.neg (by decide) (Ev.pos (by omega) (Ev.pos (by rw[Int.toNat_natCast];omega) (Ev.next (Ev.some_ rfl) (Ev.pos (by rw[Int.toNat_natCast];simp;omega) (Ev.next (Ev.some_ rfl) ?_)))))
 rw[Int.toNat_natCast]
 exact qqe q (by omega) no (List.replicate d z52++l) (by omega) (by omega) h3 (List.replicate d z52++l).length 0 (by omega)
theorem qgs (R:Nat):∀(l:List S52) (k i:Nat),k<l.length→i<R→rd_T52 (blkR R l) ((R*k+i:Nat):Int)=rd_T52 l (k:Int)
 | p::xs,0,i,_,hi=>by
   unfold rd_T52
   rw[Int.toNat_natCast,Nat.mul_zero,Nat.zero_add]
   simp only[blkR]
   rw[List.getD_eq_getElem?_getD,List.getElem?_append_left (by simpa using hi),List.getElem?_replicate,if_pos hi]
   rfl
 | p::xs,k+1,i,h,hi=>by
   have ih:=qgs R xs k i (by simpa using h) hi
   unfold rd_T52 at ih ⊢
   rw[Int.toNat_natCast] at ih ⊢
   simp only[blkR]
   rw[Nat.mul_succ,List.getD_eq_getElem?_getD,List.getElem?_append_right (by rw[List.length_replicate];omega),List.length_replicate,show R*k+R+i-R=R*k+i by omega,←List.getD_eq_getElem?_getD,ih]
   rfl
theorem qmm (d:Nat) (l:List S52) (j:Nat):rd_T52 (List.replicate d z52++l) ((d+j:Nat):Int)=rd_T52 l (j:Int):=by
 unfold rd_T52
 rw[Int.toNat_natCast,Int.toNat_natCast,List.getD_eq_getElem?_getD,List.getElem?_append_right (by simp),List.length_replicate,show d+j-d=j by omega,←List.getD_eq_getElem?_getD]
theorem qsa (d:Nat) (l:List S52) (j:Nat) (h:j<d):rd_T52 (List.replicate d z52++l) (j:Int)=z52:=by
 unfold rd_T52
 rw[Int.toNat_natCast,List.getD_eq_getElem?_getD,List.getElem?_append_left (by simpa using h),List.getElem?_replicate,if_pos h];rfl
theorem qsb {p x:S52} (hp:inP 500000 p) (hx:inP 500000 x):addP p x=⟨p.f0+x.f0,p.f1+x.f1⟩:=by
 unfold inP at hp hx
 unfold addP
 rw[w64 (by omega) (by omega),w64 (by omega) (by omega)]
structure qcw (no:List S52) (N d R:Nat) (b:Int) (hurt:List Int):Prop where
 len:no.length=N
 bd:∀p∈no,inP 300000 p
 small:∀p,p<N→(∀x∈hurt,¬((d:Int)+x*(R:Int)≤(p:Int)∧(p:Int)<(d:Int)+x*(R:Int)+(R:Int)))→inP b (rd_T52 no (p:Int))
def qhy (hurt:List Int):List Nat:=hurt.map (fun x=>x.toNat-1)
theorem qqg (R d q:Nat) (si b:Int) (P:List S52) (hurt:List Int) (no:List S52) (hR:1≤R∧R≤8) (hsi:1≤si∧si≤10000) (hq:q≤3) (hP:qfs P) (hb:0≤b∧2*b<si) (hh:∀x∈hurt,1≤x) (hno:qcw no (d+R*(P.length+1)) d R b hurt):
 Heard (qax q no 0 (List.replicate d z52++blkR R (⟨32*si,0⟩::P.map (scP si)))) R d q si b P (qhy hurt):=by
 have hblen:(blkR R (⟨32*si,0⟩::P.map (scP si))).length=R*(P.length+1):=by rw[qfc];simp
 have holen:(List.replicate d z52++blkR R (⟨32*si,0⟩::P.map (scP si))).length=d+R*(P.length+1):=by rw[List.length_append,List.length_replicate,hblen]
 -- the sent points
 have hQ:∀p∈(⟨32*si,0⟩::P.map (scP si):List S52),inP 320000 p:=by
  intro p hp
  rcases List.mem_cons.1 hp with rfl|hp
  · unfold inP;simp only;omega
  · obtain⟨y,hy,rfl⟩:=List.mem_map.1 hp
    have h:=hP y hy
    have b0:=qdb (a:=y.f0) (by omega) hsi
    have b1:=qdb (a:=y.f1) (by omega) hsi
    have e:scP si y=⟨y.f0*si,y.f1*si⟩:=by unfold scP;rw[w64 (by omega) (by omega),w64 (by omega) (by omega)]
    rw[e]
    exact⟨b0,b1⟩
 have hO:∀p∈(List.replicate d z52++blkR R (⟨32*si,0⟩::P.map (scP si))),inP 320000 p:=by
  intro p hp
  rcases List.mem_append.1 hp with hp|hp
  · rw[List.eq_of_mem_replicate hp];unfold inP z52;simp
  · exact hQ p (qgr R _ p hp)
 have hT:∀j,j<d+R*(P.length+1)→inP 500000 (qas q (rd_T52 (List.replicate d z52++blkR R (⟨32*si,0⟩::P.map (scP si))) (j:Int))):=fun j hj=>by
  have h1:=hO _ (qhu (P:=List.replicate d z52++blkR R (⟨32*si,0⟩::P.map (scP si))) (i:=j) (by omega))
  unfold inP at h1
  have:=qrv (N:=320000) (by omega) q h1.1 h1.2
  unfold inP
  omega
 have hN:∀j,j<d+R*(P.length+1)→inP 300000 (rd_T52 no (j:Int)):=fun j hj=>hno.bd _ (qhu (by rw[hno.len];exact hj))
 have get:∀j,j<d+R*(P.length+1)→rd_T52 (qax q no 0 (List.replicate d z52++blkR R (⟨32*si,0⟩::P.map (scP si)))) (j:Int)=⟨(qas q (rd_T52 (List.replicate d z52++blkR R (⟨32*si,0⟩::P.map (scP si))) (j:Int))).f0+(rd_T52 no (j:Int)).f0,(qas q (rd_T52 (List.replicate d z52++blkR R (⟨32*si,0⟩::P.map (scP si))) (j:Int))).f1+(rd_T52 no (j:Int)).f1⟩:=fun j hj=>by
  rw[qje q no _ 0 j (by omega),Nat.zero_add,qsb (hT j hj) (by have:=hN j hj;unfold inP at this ⊢;omega)]
 have hnear:∀j c,j<d+R*(P.length+1)→rd_T52 (List.replicate d z52++blkR R (⟨32*si,0⟩::P.map (scP si))) (j:Int)=c→inP b (rd_T52 no (j:Int))→near b (qas q c) (rd_T52 (qax q no 0 (List.replicate d z52++blkR R (⟨32*si,0⟩::P.map (scP si)))) (j:Int)):=fun j c hj hc hb2=>by
  rw[get j hj,hc]
  unfold inP at hb2
  unfold near
  simp only
  omega
 have hRk:∀k i,k≤P.length→i<R→d+R*k+i<d+R*(P.length+1):=fun k i hk hi=>by
  have:R*(k+1)≤R*(P.length+1):=Nat.mul_le_mul_left R (by omega)
  rw[Nat.mul_succ] at this
  omega
 refine⟨by rw[qdo,holen],fun p hp=> ?_,hb,fun i hi=> ?_,fun i hi=> ?_,fun j hj hn i hi=> ?_⟩
 · obtain⟨j,hj,e⟩:=List.getElem_of_mem hp
   rw[qdo,holen] at hj
   have e2:rd_T52 (qax q no 0 (List.replicate d z52++blkR R (⟨32*si,0⟩::P.map (scP si)))) (j:Int)=p:=by
    rw[←e];simp[rd_T52,List.getD_eq_getElem?_getD,qdo,show j<d+(blkR R (⟨32*si,0⟩::P.map (scP si))).length by omega]
   rw[←e2,get j hj]
   have h1:=hT j hj
   have h2:=hN j hj
   unfold inP at h1 h2 ⊢
   simp only
   omega
 · have hi2:i<d+R*(P.length+1):=by omega
   rw[get i hi2,qsa d _ i hi,qon]
   have:=hno.small i hi2 (fun x hx=>by
    have h1:=hh x hx
    have h2:0≤x*(R:Int):=Int.mul_nonneg (by omega) (by omega)
    omega)
   unfold inP z52 at*
   simp only
   omega
 · have hi2:=hRk 0 i (by omega) hi
   rw[Nat.mul_zero,Nat.add_zero] at hi2
   refine hnear (d+i) ⟨32*si,0⟩ hi2 ?_ (hno.small _ hi2 (fun x hx=> ?_))
   · rw[qmm]
     have:=qgs R (⟨32*si,0⟩::P.map (scP si)) 0 i (by simp) hi
     rw[Nat.mul_zero,Nat.zero_add] at this
     rw[this];rfl
   · have h1:=hh x hx
     have h2:1*(R:Int)≤x*(R:Int):=Int.mul_le_mul_of_nonneg_right h1 (by omega)
     omega
 · have hi2:=hRk (j+1) i (by omega) hi
   refine hnear (d+R*(j+1)+i) (scP si (rd_T52 P (j:Int))) hi2 ?_ (hno.small _ hi2 (fun x hx=> ?_))
   · rw[Nat.add_assoc,qmm,qgs R _ (j+1) i (by simp;omega) hi]
     unfold rd_T52
     simp[List.getD_eq_getElem?_getD,hj]
   · rintro⟨h3,h4⟩
     apply hn
     have h1:=hh x hx
     -- the hurt symbol is this one
     obtain⟨y,rfl⟩:=Int.eq_ofNat_of_zero_le (show 0≤x by omega)
     have e1:(y:Int)*(R:Int)=((R*y:Nat):Int):=by rw[Nat.mul_comm];simp
     rw[e1] at h3 h4
     have h5:y=j+1:=by
      rcases Nat.lt_or_ge y (j+1) with h6|h6
      · have:R*(y+1)≤R*(j+1):=Nat.mul_le_mul_left R h6
        rw[Nat.mul_succ] at this
        omega
      · rcases Nat.eq_or_lt_of_le h6 with h7|h7
        · exact h7.symm
        · have:R*(j+1+1)≤R*y:=Nat.mul_le_mul_left R h7
          rw[Nat.mul_succ] at this
          omega
     exact List.mem_map.2 ⟨(y:Int),hx,by rw[Int.toNat_natCast];omega⟩
theorem qqh (l:List Int):∀(d i:Nat) (h:Int),i+d=l.length→(i:Int)≤4000→EvP (fun k=>spec_l1New.l0 k l h (i:Int)) (fun r=>r.1=l∧r.2.1=0):=by
 intro d
 induction d with
 | zero=>
   intro i h hi _
   refine EvP.succ ?_
   simp only[spec_l1New.l0]
   exact EvP.neg (by omega) (EvP.now ⟨rfl,rfl⟩)
 | succ d ih=>
   intro i h hi hi2
   refine EvP.succ ?_
   simp only[spec_l1New.l0]
   refine EvP.pos (by omega) ?_
   by_cases h4:(i:Int)<4000
   · rw[w64_add (by omega) (by omega)]
     exact EvP.pos h4 (EvP.pos (by omega) (ih (i+1) _ (by omega) (by omega)))
   · exact EvP.neg h4 (EvP.now ⟨rfl,rfl⟩)
theorem qqi (l:List Int):EvP (fun k=>spec_l1New.f k l) (fun r=>r.1=l∧r.2.1=0):=qqh l l.length 0 _ (by omega) (by omega)
theorem qcv (l:List Int) (p h:Int) (h0:0≤p) (h1:p≤l.length) (hl:l.length≤1048576):∃r,spec_l1Byte.f l p h=some r∧(0≤r.1∧r.1≤255)∧0≤r.2.1∧r.2.1≤l.length:=by
 unfold spec_l1Byte.f
 by_cases hp:p<(l.length:Int)
 · rw[if_pos hp,if_pos h0]
   refine⟨_,rfl,bits_and_le _ 255 (by omega) (by omega),?_⟩
   simp only
   rw[w64_add h0 (by omega)]
   omega
 · rw[if_neg hp]
   exact⟨_,rfl,bits_and_le _ 255 (by omega) (by omega),h0,h1⟩
theorem qbb (l:List Int) (p h n:Int) (h0:0≤p) (h1:p≤l.length) (hl:l.length≤1048576):∃r,spec_l1Below.f l p h n=some r∧(0≤r.1∧(r.1<n∨r.1=0))∧0≤r.2.1∧r.2.1≤l.length:=by
 unfold spec_l1Below.f
 by_cases hn:n≤0
 · rw[if_pos hn];exact⟨_,rfl,⟨by simp, .inr rfl⟩,h0,h1⟩
 rw[if_neg hn]
 have tm:∀x:Int,0≤x→0≤Int.tmod x n∧Int.tmod x n<n:=fun x hx=>by
  rw[Int.tmod_eq_emod_of_nonneg hx]
  exact⟨Int.emod_nonneg _ (by omega),Int.emod_lt_of_pos _ (by omega)⟩
 by_cases h2:n≤256
 · rw[if_pos h2]
   obtain⟨r,e,hb,hp⟩:=qcv l p h h0 h1 hl
   rw[e]
   simp only[Option.bind_some]
   rw[if_neg (by omega)]
   exact⟨_,rfl,⟨(tm _ hb.1).1, .inl (tm _ hb.1).2⟩,hp⟩
 · rw[if_neg h2]
   obtain⟨r,e,hb,hp⟩:=qcv l p h h0 h1 hl
   obtain⟨r2,e2,hb2,hp2⟩:=qcv l r.2.1 r.2.2 hp.1 hp.2 hl
   obtain⟨r3,e3,hb3,hp3⟩:=qcv l r2.2.1 r2.2.2 hp2.1 hp2.2 hl
   obtain⟨r4,e4,hb4,hp4⟩:=qcv l r3.2.1 r3.2.2 hp3.1 hp3.2 hl
   rw[e];simp only[Option.bind_some]
   rw[e2];simp only[Option.bind_some]
   rw[e3];simp only[Option.bind_some]
   rw[e4];simp only[Option.bind_some]
   rw[if_neg (by omega),w64 (n:=r.1*16777216) (by omega) (by omega),w64 (n:=r2.1*65536) (by omega) (by omega),w64 (n:=r3.1*256) (by omega) (by omega),w64 (n:=r.1*16777216+_) (by omega) (by omega),w64 (n:=r.1*16777216+_+_) (by omega) (by omega),w64 (n:=r.1*16777216+_+_+_) (by omega) (by omega)]
   exact⟨_,rfl,⟨(tm _ (by omega)).1, .inl (tm _ (by omega)).2⟩,hp4⟩
theorem qkw (l:List Int) (p h:Int) (xs:List Int) (h0:0≤p) (h1:p≤l.length) (hl:l.length≤1048576) (hx:0<xs.length):∃r,spec_l1PickInt.f l p h xs=some r∧r.1∈xs∧0≤r.2.1∧r.2.1≤l.length:=by
 unfold spec_l1PickInt.f
 obtain⟨r,e,hb,hp⟩:=qbb l p h xs.length h0 h1 hl
 rw[e]
 simp only[Option.bind_some]
 rw[if_pos hb.1,if_pos (by omega)]
 refine⟨_,rfl,?_,hp⟩
 have:r.1=((r.1.toNat:Nat):Int):=by omega
 simp only
 rw[this]
 exact rd_mem (by omega)
theorem qjf (l:List Int) (hl:l.length≤1048576) (hb:∀x∈l,0≤x∧x<256) (i:Nat) (hi:i≤1000):∃v,laws_at.f l (i:Int)=some v∧0≤v∧v<256:=by
 unfold laws_at.f
 by_cases h:(i:Int)<(l.length:Int)
 · have hm:=hb _ (rd_mem (xs:=l) (i:=i) (by omega))
   rw[if_pos h,if_pos (by omega),w64 (n:=rd l (i:Int)) (by omega) (by omega)]
   exact⟨_,rfl,hm⟩
 · rw[if_neg h,w64 (n:=(i:Int)*7) (by omega) (by omega),w64 (n:=(i:Int)*7+(l.length:Int)) (by omega) (by omega),Int.tmod_eq_emod_of_nonneg (by omega)]
   exact⟨_,rfl,by omega,by omega⟩
theorem wf8 {x:Int} (h:(Lit.int .u8 x).wf=true):0≤x∧x<256:=by
 have h2:=h
 simp[Lit.wf,IntKind.min,IntKind.max,IntKind.signed,IntKind.bits] at h2
 omega
theorem qjm (l:List Int) (hl:l.length≤1048576) (n:Nat) (hn:n≤1000):∀(d i:Nat) (acc:List Int) (p h:Int),i+d=n→acc.length=i→isB acc→0≤p→p≤l.length→EvP (fun k=>spec_l14DrawBytes.l0 k (n:Int) acc (i:Int) l p h) (fun r=>isB r.1∧r.1.length=n∧0≤r.2.1∧r.2.1≤l.length):=by
 intro d
 induction d with
 | zero=>
   intro i acc p h hi ha hb h0 h1
   refine EvP.succ ?_
   simp only[spec_l14DrawBytes.l0]
   exact EvP.neg (by omega) (EvP.now ⟨hb,by simp only;omega,h0,h1⟩)
 | succ d ih=>
   intro i acc p h hi ha hb h0 h1
   obtain⟨r,e,hr,hp⟩:=qcv l p h h0 h1 hl
   refine EvP.succ ?_
   simp only[spec_l14DrawBytes.l0]
   rw[qbd (e:=i) (by omega)]
   refine EvP.pos (by omega) (EvP.next (Ev.p (Ev.here e)) ?_)
   rintro r rfl
   refine EvP.pos (by omega) (ih (i+1) _ _ _ (by omega) (by simp;omega) ?_ hp.1 hp.2)
   intro x hx
   rcases List.mem_append.1 hx with hx|hx
   · exact hb x hx
   · simp at hx;omega
theorem qjn (l:List Int) (hl:l.length≤1048576) (n:Nat) (hn:n≤1000) (p h:Int) (h0:0≤p) (h1:p≤l.length):EvP (fun k=>spec_l14DrawBytes.f k l p h (n:Int)) (fun r=>isB r.1∧r.1.length=n∧0≤r.2.1∧r.2.1≤l.length):=by
 unfold spec_l14DrawBytes.f
 exact qjm l hl n hn n 0 [] p h (by omega) rfl (fun x hx=>by cases hx) h0 h1
theorem qkx (l:List Int) (hl:l.length≤1048576) (N:Nat) (hN:N≤100000) (S:Int) (hS:0≤S∧S≤10000):∀(d i:Nat) (acc:List S52) (p h:Int),i+d=N→acc.length=i→(∀x∈acc,inP S x)→0≤p→p≤l.length→EvP (fun k=>spec_l18DrawNoise.l0 k (N:Int) S acc (i:Int) l p h) (fun r=>r.1.length=N∧∀x∈r.1,inP S x):=by
 have w1:wrap64 (wrap64 (2*S)+1)=2*S+1:=by rw[w64 (n:=2*S) (by omega) (by omega),w64 (by omega) (by omega)]
 intro d
 induction d with
 | zero=>
   intro i acc p h hi ha hb h0 h1
   refine EvP.succ ?_
   simp only[spec_l18DrawNoise.l0]
   exact EvP.neg (by omega) (EvP.now ⟨by simp only;omega,hb⟩)
 | succ d ih=>
   intro i acc p h hi ha hb h0 h1
   obtain⟨r,e,hr,hp⟩:=qbb l p h (2*S+1) h0 h1 hl
   obtain⟨r2,e2,hr2,hp2⟩:=qbb l r.2.1 r.2.2 (2*S+1) hp.1 hp.2 hl
   refine EvP.succ ?_
   simp only[spec_l18DrawNoise.l0]
   rw[w1]
   refine EvP.pos (by omega) (EvP.on (Ev.here e) (EvP.on (Ev.here e2) (EvP.pos (by omega) ?_)))
   rw[qbd (e:=i) (by omega),w64 (n:=r.1-S) (by omega) (by omega),w64 (n:=r2.1-S) (by omega) (by omega)]
   refine ih (i+1) _ _ _ (by omega) (by simp;omega) (fun x hx=> ?_) hp2.1 hp2.2
   rcases List.mem_append.1 hx with hx|hx
   · exact hb x hx
   · rw[List.mem_singleton.1 hx]
     unfold inP
     simp only
     omega
theorem qky (l:List Int) (hl:l.length≤1048576) (N:Nat) (hN:N≤100000) (S:Int) (hS:0≤S∧S≤10000) (p h:Int) (h0:0≤p) (h1:p≤l.length):EvP (fun k=>spec_l18DrawNoise.f k l p h (N:Int) S) (fun r=>r.1.length=N∧∀x∈r.1,inP S x):=by
 unfold spec_l18DrawNoise.f
 exact qkx l hl N hN S hS N 0 [] p h (by omega) rfl (fun x hx=>by cases hx) h0 h1
structure WayOk (w m r s ra si:Int) (data:List Int) (delay quarter:Int) (noise:List S52) (hurt:List Int):Prop where
 ok:qai w m r s ra si=true
 db:isB data
 dl:1≤data.length∧data.length≤40
 de:0≤delay∧delay≤200
 qu:0≤quarter∧quarter≤3
 nl:(noise.length:Int)=delay+((qbi w m r s ra si data).1.length:Int)
 nb:∀x∈noise,inP ((si-1) / 2) x
 hu:∀x∈hurt,1≤x∧x≤100000
 hl:(hurt.length:Int)≤m / w
theorem qne (l:List Int) (hlen:l.length≤1048576) (w m r s ra si:Int) (data:List Int) (delay quarter:Int) (burst:List S52) (S:Int) (most:Nat) (hS:S=(si-1) / 2) (hm:(most:Int)≤m / w) (hb:burst=(qbi w m r s ra si data).1) (ok:qai w m r s ra si=true) (db:isB data) (dl:1≤data.length∧data.length≤40) (de:0≤delay∧delay≤200) (qu:0≤quarter∧quarter≤3) (hmost:most≤100) (hbl:burst.length≤10000):
 ∀(e:Nat) (acc:List Int) (at_ p h:Int),acc.length+e≤most→(∀x∈acc,1≤x∧x≤100000)→(1≤at_∧at_+10*e≤2000)→0≤p→p≤l.length→EvP (fun k=>spec_DrawWay.l0 k data delay quarter burst S acc at_ (e:Int) l p h w m r s ra si) (fun o=>WayOk o.1 o.2.1 o.2.2.1 o.2.2.2.1 o.2.2.2.2.1 o.2.2.2.2.2.1 o.2.2.2.2.2.2.1 o.2.2.2.2.2.2.2.1 o.2.2.2.2.2.2.2.2.1 o.2.2.2.2.2.2.2.2.2.1 o.2.2.2.2.2.2.2.2.2.2):=by
 have hmo:=qav.1 ok
 obtain⟨D,hD⟩:=Int.eq_ofNat_of_zero_le de.1
 have fin:∀(acc:List Int) (p h:Int),acc.length≤most→(∀x∈acc,1≤x∧x≤100000)→0≤p→p≤l.length→EvP (fun k=>(spec_l18DrawNoise.f k l p h (wrap64 (delay+(burst.length:Int))) S).bind fun bt=>some (w,m,r,s,ra,si,data,delay,quarter,bt.1,acc)) (fun o=>WayOk o.1 o.2.1 o.2.2.1 o.2.2.2.1 o.2.2.2.2.1 o.2.2.2.2.2.1 o.2.2.2.2.2.2.1 o.2.2.2.2.2.2.2.1 o.2.2.2.2.2.2.2.2.1 o.2.2.2.2.2.2.2.2.2.1 o.2.2.2.2.2.2.2.2.2.2):=by
  intro acc p h ha hb2 h0 h1
  have wn:wrap64 (delay+(burst.length:Int))=((D+burst.length:Nat):Int):=by rw[w64 (by omega) (by omega)];omega
  rw[wn]
  refine EvP.next (qky l hlen (D+burst.length) (by omega) S (by omega) p h h0 h1) ?_
  rintro o ⟨h2,h3⟩
  refine EvP.now ⟨ok,db,dl,de,qu,?_,?_,hb2,?_⟩
  · show((o.1.length:Nat):Int)=delay+_
    rw[←hb];omega
  · intro x hx
    have:=h3 x hx
    rwa[hS] at this
  · show((acc.length:Nat):Int)≤m / w
    omega
 intro e
 induction e with
 | zero=>
   intro acc at_ p h h1 h2 h3 h4 h5
   refine EvP.succ ?_
   simp only[spec_DrawWay.l0]
   exact EvP.neg (by omega) (fin acc p h (by omega) h2 h4 h5)
 | succ e ih=>
   intro acc at_ p h h1 h2 h3 h4 h5
   obtain⟨r2,e2,hr2,hp2⟩:=qbb l p h 9 h4 h5 hlen
   refine EvP.succ ?_
   simp only[spec_DrawWay.l0]
   refine EvP.pos (by omega) (EvP.both (fun _=>EvP.pos (by omega) (EvP.on (Ev.here e2) ?_)) (fun _=>fin acc p h (by omega) h2 h4 h5))
   rw[w64 (n:=at_+1) (by omega) (by omega),w64 (n:=at_+1+r2.1) (by omega) (by omega),show wrap64 (((e+1:Nat):Int)-1)=(e:Int) by rw[w64 (by omega) (by omega)];omega]
   refine ih _ _ _ _ (by simp;omega) (fun x hx=> ?_) (by omega) hp2.1 hp2.2
   rcases List.mem_append.1 hx with hx|hx
   · exact h2 x hx
   · rw[List.mem_singleton.1 hx];omega
theorem qhz {w m r s ra si:Int} (ok:qai w m r s ra si=true):spec_Budget.f w m r s ra si=some ((si-1) / 2,m / w):=by
 have hmo:=qav.1 ok
 unfold spec_Budget.f
 rw[qgb,ok]
 simp only[Option.bind_some]
 have e1:wrap64 (Int.tdiv (wrap64 (si-1)) 2)=(si-1) / 2:=by rw[w64 (n:=si-1) (by omega) (by omega),Int.tdiv_eq_ediv_of_nonneg (by omega),w64 (by omega) (by omega)]
 have e2:wrap64 (Int.tdiv m w)=m / w:=by
  have h1:m / w≤m:=Int.ediv_le_self _ (by omega)
  have h2:0≤m / w:=Int.ediv_nonneg (by omega) (by omega)
  rw[Int.tdiv_eq_ediv_of_nonneg (by omega),w64 (by omega) (by omega)]
 rw[if_pos trivial,if_neg (by omega),e1,e2]
theorem qnf {w m r s ra si:Int} (ok:qai w m r s ra si=true):impl_Budget.f w m r s ra si=some ((si-1) / 2,m / w):=by
 have hmo:=qav.1 ok
 unfold impl_Budget.f
 rw[qef,ok]
 simp only[Option.bind_some]
 have e1:wrap64 (Int.tdiv (wrap64 (si-1)) 2)=(si-1) / 2:=by rw[w64 (n:=si-1) (by omega) (by omega),Int.tdiv_eq_ediv_of_nonneg (by omega),w64 (by omega) (by omega)]
 have e2:wrap64 (Int.tdiv m w)=m / w:=by
  have h1:m / w≤m:=Int.ediv_le_self _ (by omega)
  have h2:0≤m / w:=Int.ediv_nonneg (by omega) (by omega)
  rw[Int.tdiv_eq_ediv_of_nonneg (by omega),w64 (by omega) (by omega)]
 rw[if_pos trivial,if_neg (by omega),e1,e2]
theorem qng (l:List Int) (hl:l.length≤1048576):EvP (fun k=>spec_DrawWay.f k l) (fun o=>WayOk o.1 o.2.1 o.2.2.1 o.2.2.2.1 o.2.2.2.2.1 o.2.2.2.2.2.1 o.2.2.2.2.2.2.1 o.2.2.2.2.2.2.2.1 o.2.2.2.2.2.2.2.2.1 o.2.2.2.2.2.2.2.2.2.1 o.2.2.2.2.2.2.2.2.2.2):=by
 unfold spec_DrawWay.f
 refine EvP.next (qqi l) ?_
 rintro⟨l',p',h'⟩ ⟨rfl,hp⟩
 simp only at hp
 subst hp
 obtain⟨r1,e1,b1,p1⟩:=qkw l' 0 h' [2,4,6,8] (by omega) (by omega) hl (by decide)
 obtain⟨r2,e2,b2,p2⟩:=qbb l' r1.2.1 r1.2.2 8 p1.1 p1.2 hl
 obtain⟨r3,e3,b3,p3⟩:=qbb l' r2.2.1 r2.2.2 20 p2.1 p2.2 hl
 obtain⟨r4,e4,b4,p4⟩:=qbb l' r3.2.1 r3.2.2 65535 p3.1 p3.2 hl
 obtain⟨r5,e5,b5,p5⟩:=qbb l' r4.2.1 r4.2.2 4 p4.1 p4.2 hl
 obtain⟨r6,e6,b6,p6⟩:=qbb l' r5.2.1 r5.2.2 300 p5.1 p5.2 hl
 obtain⟨r7,e7,b7,p7⟩:=qbb l' r6.2.1 r6.2.2 12 p6.1 p6.2 hl
 refine EvP.on (Ev.here e1) (EvP.on (Ev.here e2) (EvP.on (Ev.here e3) (EvP.on (Ev.here e4) (EvP.on (Ev.here e5) (EvP.on (Ev.here e6) (EvP.on (Ev.here e7) ?_))))))
 rw[w64 (n:=1+r2.1) (by omega) (by omega),w64 (n:=1+r3.1) (by omega) (by omega),w64 (n:=1+r4.1) (by omega) (by omega),w64 (n:=1+r5.1) (by omega) (by omega),w64 (n:=1+r6.1) (by omega) (by omega),w64 (n:=1+r7.1) (by omega) (by omega)]
 obtain⟨DL,hDL⟩:=Int.eq_ofNat_of_zero_le (show 0≤1+r7.1 by omega)
 rw[hDL]
 have ok:qai r1.1 (1+r2.1) (1+r3.1) (1+r4.1) (1+r5.1) (1+r6.1)=true:=by
  refine qav.2 ⟨by simp at b1;omega,by omega,by omega,by omega,by omega,by omega⟩
 refine EvP.next (qjn l' hl DL (by omega) r7.2.1 r7.2.2 p7.1 p7.2) ?_
 rintro r8 ⟨d1,d2,p8⟩
 obtain⟨r9,e9,b9,p9⟩:=qbb l' r8.2.1 r8.2.2 20 p8.1 p8.2 hl
 obtain⟨r10,e10,b10,p10⟩:=qbb l' r9.2.1 r9.2.2 4 p9.1 p9.2 hl
 obtain⟨r11,e11,b11,p11⟩:=qbb l' r10.2.1 r10.2.2 5 p10.1 p10.2 hl
 have hmd:=qav.1 ok
 have q0:0≤(1+r2.1) / r1.1:=Int.ediv_nonneg (by omega) (by omega)
 have q1:(1+r2.1) / r1.1≤1+r2.1:=Int.ediv_le_self _ (by omega)
 obtain⟨r12,e12,b12,p12⟩:=qbb l' r11.2.1 r11.2.2 ((1+r2.1) / r1.1+1) p11.1 p11.2 hl
 have hs:=qps r1.1 (1+r2.1) (1+r3.1) (1+r4.1) (1+r5.1) (1+r6.1) r8.1 d1 (by omega)
 refine EvP.on (Ev.here e9) (EvP.on (Ev.here e10) (EvP.on hs (EvP.on (Ev.here (qhz ok)) (EvP.on (Ev.here e11) ?_))))
 rw[w64 (n:=(1+r2.1) / r1.1+1) (by omega) (by omega),w64 (n:=1+r11.1) (by omega) (by omega)]
 refine EvP.on (Ev.here e12) ?_
 obtain⟨E,hE⟩:=Int.eq_ofNat_of_zero_le (show 0≤r12.1 by omega)
 rw[hE]
 have hp1100:=qci (data:=r8.1) ok
 have hbl:(qbi r1.1 (1+r2.1) (1+r3.1) (1+r4.1) (1+r5.1) (1+r6.1) r8.1).1.length≤10000:=by
  unfold qbi
  split
  · have h2:=qhl (1+r5.1) (1+r6.1) (by omega) (qaf r1.1 (1+r2.1) (1+r3.1) (1+r4.1) (1+r5.1) (1+r6.1) r8.1)
    simp only[List.length_append,List.length_replicate]
    omega
  · simp
 exact qne l' hl _ _ _ _ _ _ r8.1 r9.1 r10.1 _ _ E rfl (by omega) rfl ok d1 (by omega) (by omega) (by omega) (by omega) hbl E [] _ _ _ (by simp) (fun x hx=>by cases hx) (by omega) p12.1 p12.2
theorem qlk (l:List Int) (H:Nat) (hH:1≤H∧H≤4):qfs (qbq l H).1:=by
 unfold qbq
 split
 · rename_i h
   exact qej (qck (qcb.1 h).1) H hH _ _
 · exact fun p hp=>by cases hp
theorem qfd {w m r s ra si:Int} {data:List Int} (h:qai w m r s ra si=true):qfs (qaf w m r s ra si data):=by
 have:=qav.1 h
 exact qlk _ _ (by omega)
theorem qft {w m r s ra si:Int} {data:List Int} (hb:isB data) (hl:1≤data.length∧data.length≤40) (h:qai w m r s ra si=true):(qaf w m r s ra si data).length≤300:=by
 have hm:=qav.1 h
 obtain⟨H,hH,hw,hw2⟩:=qhm h
 obtain⟨rb,rl⟩:=qgq hb hm.2.1 hl
 have ul:=qca (rsOf data m).1
 have wl:=qdp (qac (rsOf data m).1) r.toNat (by omega)
 unfold qaf
 rw[hw2]
 unfold qbh
 split
 · unfold qbq
   split
   · have hs:=qcn s (qaj (qac (rsOf data m).1) r.toNat)
     simp only
     rw[qbu]
     have hpf:=qcc (n:=(qad s (qaj (qac (rsOf data m).1) r.toNat)).length) hH
     have hmr:=qcy (qad s (qaj (qac (rsOf data m).1) r.toNat)).length H hH
     rw[Nat.zero_add] at hmr
     generalize ((qad s (qaj (qac (rsOf data m).1) r.toNat)).length+qbv (qad s (qaj (qac (rsOf data m).1) r.toNat)).length (2*H)) / (2*H)=n at*
     have:2*n≤2*H*n:=Nat.mul_le_mul_right n (by omega)
     omega
   · simp
 · unfold qbq
   split
   · simp only
     rw[qbu]
     have hpf:=qcc (n:=([]:List Int).length) hH
     have hmr:=qcy ([]:List Int).length H hH
     rw[Nat.zero_add] at hmr
     generalize (([]:List Int).length+qbv ([]:List Int).length (2*H)) / (2*H)=n at*
     have:2*n≤2*H*n:=Nat.mul_le_mul_right n (by omega)
     simp only[List.length_nil] at hmr hpf
     omega
   · simp
theorem qcw.put {no:List S52} {N d R:Nat} {b:Int} {hurt:List Int} (h:qcw no N d R b hurt) (p:Nat) (v:S52) (hv:inP 300000 v) (hx:∃x∈hurt,(d:Int)+x*(R:Int)≤(p:Int)∧(p:Int)<(d:Int)+x*(R:Int)+(R:Int)):qcw (no.set p v) N d R b hurt where
 len:=by rw[List.length_set];exact h.len
 bd:=fun y hy=>by
  rcases List.mem_or_eq_of_mem_set hy with hy|rfl
  · exact h.bd y hy
  · exact hv
 small:=fun j hj hn=>by
  obtain⟨x,hx1,hx2⟩:=hx
  have hne:p≠j:=fun e=>hn x hx1 (by rw[←e];exact hx2)
  have e:rd_T52 (no.set p v) (j:Int)=rd_T52 no (j:Int):=by
   unfold rd_T52
   rw[Int.toNat_natCast,List.getD_eq_getElem?_getD,List.getD_eq_getElem?_getD,List.getElem?_set,if_neg hne]
  rw[e]
  exact h.small j hj hn
theorem qov (hF:qdz) (l0:List Int) (w m r s ra si:Int) (data:List Int) (D Qt R:Nat) (hR:ra=(R:Int)) (no:List S52) (hurt:List Int) (ok:qai w m r s ra si=true) (db:isB data) (dl:1≤data.length∧data.length≤40) (hD:D≤200) (hq:Qt≤3) (hhu:∀x∈hurt,1≤x∧x≤100000) (hhl:(hurt.length:Int)≤m / w) (hno:qcw no (D+R*((qaf w m r s ra si data).length+1)) D R ((si-1) / 2) hurt):
 Ev (fun k=>(impl_Air.f k (qbi w m r s ra si data).1 (D:Int) (Qt:Int) no).bind fun bt578=>((impl_Hear.f k w m r s ra si bt578.1 (data.length:Int)).bind fun bt582=>(if bt578.2=true then(if bt582.2.2=true then((laws_sameBytes.f bt582.1 data).bind fun t587=>(if t587=true then(some (decide (bt582.2.1≤m))) else(some false))) else(some false)) else(some false)))) true:=by
 have hm:=qav.1 ok
 subst hR
 have hb:0≤(si-1) / 2∧2*((si-1) / 2)<si:=by omega
 have hH:=qqg R D Qt si ((si-1) / 2) (qaf w m r s (R:Int) si data) hurt no (by omega) (by omega) hq (qfd ok) hb (fun x hx=>(hhu x hx).1) hno
 have hsend:=qmi w m r s si R data (by omega) ⟨ok,dl⟩
 have hn3:=qft db dl ok
 have hRn:R*((qaf w m r s (R:Int) si data).length+1)≤3000:=Nat.le_trans (Nat.mul_le_mul (show R≤8 by omega) (show(qaf w m r s (R:Int) si data).length+1≤301 by omega)) (by decide)
 have hbl:(blkR R (⟨32*si,0⟩::(qaf w m r s (R:Int) si data).map (scP si))).length=R*((qaf w m r s (R:Int) si data).length+1):=by rw[qfc];simp
 have hpt:∀N p,N≤1000000000→inP N p→ptB p=true:=fun N p h1 h2=>by
  unfold inP at h2
  unfold ptB
  simp;omega
 have hair:=qqf (blkR R (⟨32*si,0⟩::(qaf w m r s (R:Int) si data).map (scP si))) no D Qt hD hq (by omega) (by rw[hno.len,hbl]) ?_ ?_ ?_
 · rw[hsend]
   refine Ev.next hair ?_
   have hear:=qnd hF w m r s (R:Int) si data db dl ok D Qt hD hq ((si-1) / 2) (qhy hurt) _ (by rw[Int.toNat_natCast];exact hH) (by
    have e:((qhy hurt).length:Int)=(hurt.length:Int):=by unfold qhy;rw[List.length_map]
    rw[e]
    have h1:w*(hurt.length:Int)≤w*(m / w):=Int.mul_le_mul_of_nonneg_left hhl (by omega)
    have h2:=Int.mul_ediv_self_le (x:=m) (k:=w) (by omega)
    omega) (by rw[hH.len];omega)
   obtain⟨⟨o1,o2,o3⟩,he,h1,h2,h3⟩:=hear
   simp only at h1 h2 h3
   subst h1
   have es:laws_sameBytes.f o1 o1=some true:=by unfold laws_sameBytes.f;simp
   exact Ev.next he (Ev.pos rfl (Ev.pos h2 (Ev.next (Ev.here es) (Ev.pos rfl (Ev.some_ (decide_eq_true h3))))))
 · unfold qcs
   rw[Bool.and_eq_true,decide_eq_true_eq,List.all_eq_true]
   refine⟨by omega,fun p hp=>hpt 320000 p (by omega) ?_⟩
   have hp2:=qgr R _ p hp
   rcases List.mem_cons.1 hp2 with rfl|hp2
   · unfold inP;simp only;omega
   · obtain⟨y,hy,rfl⟩:=List.mem_map.1 hp2
     have h:=qfd ok y hy
     have b0:=qdb (a:=y.f0) (by omega) (show 1≤si∧si≤10000 by omega)
     have b1:=qdb (a:=y.f1) (by omega) (show 1≤si∧si≤10000 by omega)
     have e:scP si y=⟨y.f0*si,y.f1*si⟩:=by unfold scP;rw[w64 (by omega) (by omega),w64 (by omega) (by omega)]
     rw[e]
     exact⟨b0,b1⟩
 · unfold qcs
   rw[Bool.and_eq_true,decide_eq_true_eq,List.all_eq_true]
   exact⟨by rw[hno.len];omega,fun p hp=>hpt 300000 p (by omega) (hno.bd p hp)⟩
 · unfold qcs
   rw[Bool.and_eq_true,decide_eq_true_eq,List.all_eq_true]
   exact⟨by rw[hH.len];omega,fun p hp=>hpt 1000000 p (by omega) (hH.bd p hp)⟩
theorem qow {D R x i:Nat} (hD:D≤200) (hR:R≤8) (hx:x≤100000) (hi:i≤8):wrap64 (wrap64 ((D:Int)+wrap64 ((x:Int)*(R:Int)))+(i:Int))=((D+x*R+i:Nat):Int):=by
 have h:x*R≤100000*8:=Nat.mul_le_mul hx hR
 have e:(x:Int)*(R:Int)=((x*R:Nat):Int):=by simp
 rw[e]
 generalize x*R=y at*
 rw[w64 (n:=(y:Int)) (by omega) (by omega),w64 (n:=(D:Int)+(y:Int)) (by omega) (by omega),w64 (by omega) (by omega)];omega
theorem qqj {a b:Nat} (ha:a≤100) (hb:b≤8):wrap64 ((a:Int)+(b:Int))=((a+b:Nat):Int)∧wrap64 (((a+b:Nat):Int)+1)=((a+b+1:Nat):Int):=by
 refine⟨?_,?_⟩<;>(rw[w64 (by omega) (by omega)];omega)
theorem qkz {u:Int} (h:0≤u∧u<256):wrap64 (wrap64 (u*2000)-250000)=u*2000-250000:=by rw[w64 (n:=u*2000) (by omega) (by omega),w64 (by omega) (by omega)]
theorem qqk (hF:qdz) (l0:List Int) (hl0:l0.length≤1048576) (hb0:∀x∈l0,0≤x∧x<256) (w m r s ra si:Int) (data:List Int) (D Qt R:Nat) (hR:ra=(R:Int)) (hurt:List Int) (ok:qai w m r s ra si=true) (db:isB data) (dl:1≤data.length∧data.length≤40) (hD:D≤200) (hq:Qt≤3) (hhu:∀x∈hurt,1≤x∧x≤100000) (hhl:(hurt.length:Int)≤m / w):
 ∀(e i:Nat) (no:List S52),i+e=hurt.length→qcw no (D+R*((qaf w m r s ra si data).length+1)) D R ((si-1) / 2) hurt→Ev (fun k=>laws_FnModem.l0 k l0 data (D:Int) (Qt:Int) no hurt (qbi w m r s ra si data).1 (i:Int) w m r s ra si) true:=by
 have hm:=qav.1 ok
 have hq8:m / w≤m:=Int.ediv_le_self _ (by omega)
 intro e
 induction e with
 | zero=>
   intro i no hi hno
   refine Ev.succ ?_
   simp only[laws_FnModem.l0]
   exact Ev.neg (by omega) (qov hF l0 w m r s ra si data D Qt R hR no hurt ok db dl hD hq hhu hhl hno)
 | succ e ih=>
   intro i no hi hno
   refine Ev.succ ?_
   simp only[laws_FnModem.l0]
   refine Ev.pos (by omega) ?_
   have hx:=hhu _ (rd_mem (xs:=hurt) (i:=i) (by omega))
   obtain⟨x,hxe⟩:=Int.eq_ofNat_of_zero_le (show 0≤rd hurt (i:Int) by omega)
   have hRR:R≤8:=by omega
   have hi8:i≤100:=by omega
   have inner:∀(f j:Nat) (no:List S52),j+f=R→qcw no (D+R*((qaf w m r s ra si data).length+1)) D R ((si-1) / 2) hurt→Ev (fun k=>laws_FnModem.l1 k l0 data (D:Int) (Qt:Int) no hurt (qbi w m r s ra si data).1 (i:Int) (j:Int) w m r s ra si) true:=by
    intro f
    induction f with
    | zero=>
      intro j no hj hno
      have ihs:=ih (i+1) no (by omega) hno
      refine Ev.succ ?_
      simp only[laws_FnModem.l1]
      rw[qbd (e:=i) (by omega)]
      exact Ev.neg (by omega) ihs
    | succ f ihf=>
      intro j no hj hno
      have hj8:j≤8:=by omega
      obtain⟨u,eu,hu⟩:=qjf l0 hl0 hb0 (i+j) (Nat.le_trans (Nat.add_le_add hi8 hj8) (by decide))
      obtain⟨v,ev,hv⟩:=qjf l0 hl0 hb0 (i+j+1) (Nat.le_trans (Nat.add_le_add (Nat.add_le_add hi8 hj8) (Nat.le_refl 1)) (by decide))
      have g1:(j:Int)<ra:=by omega
      have g2:(0:Int)≤(i:Int):=by omega
      have g3:(i:Int)<(hurt.length:Int):=by omega
      have keep:=ihf (j+1) no (by omega) hno
      have put:=ihf (j+1) (no.set (D+x*R+j) ⟨u*2000-250000,v*2000-250000⟩) (by omega) (hno.put _ _ (by unfold inP;simp only;omega) ⟨rd hurt (i:Int),rd_mem (by omega),by
       rw[hxe]
       have e1:(x:Int)*(R:Int)=((x*R:Nat):Int):=by simp
       rw[e1]
       generalize x*R=y at*
       omega⟩)
      have hxl:x≤100000:=by omega
      have hidx:=qow (D:=D) (R:=R) (x:=x) (i:=j) hD hRR hxl hj8
      obtain⟨h1,h2⟩:=qqj hi8 hj8
      have wu:=qkz hu
      have wv:=qkz hv
      have wj:=qbd (e:=j) (Nat.le_trans hj8 (by decide))
      refine Ev.succ ?_
      simp only[laws_FnModem.l1]
      rw[hxe,hR,hidx,h1,h2,wj,Int.toNat_natCast]
      rw[hR] at g1 keep put
      refine Ev.pos g1 (Ev.pos g2 (Ev.pos g3 ?_))
      by_cases h5:((D+x*R+j:Nat):Int)<(no.length:Int)
      · refine Ev.pos h5 (Ev.next (Ev.here eu) (Ev.next (Ev.here ev) ?_))
        rw[wu,wv]
        exact Ev.pos (Int.natCast_nonneg _) put
      · exact Ev.neg h5 keep
   exact inner R 0 no (by omega) hno
def dot (n:Nat) (r z:Nat→GF):GF:=GF.S n (fun j=>r j*z j)
def ker (R n:Nat) (M:Nat→Nat→GF) (z:Nat→GF):Prop:=∀i,i<R→dot n (M i) z=0
theorem qsc (n:Nat) (r s z:Nat→GF):dot n (fun j=>r j+s j) z=dot n r z+dot n s z:=by
 unfold dot
 rw[←qeu]
 exact qak n (fun j _=>GF.add_mul _ _ _)
theorem qmn (n:Nat) (c:GF) (r z:Nat→GF):dot n (fun j=>c*r j) z=c*dot n r z:=by
 unfold dot
 rw[←qcj]
 exact qak n (fun j _=>GF.mul_assoc _ _ _)
theorem qjg {n:Nat} {r s z:Nat→GF} (h:∀j,j<n→r j=s j):dot n r z=dot n s z:=qak n (fun j hj=>by rw[h j hj])
structure Step (R n c p:Nat) (M N:Nat→Nat→GF):Prop where
 cR:c<R
 pR:p<R
 cn:c<n
 ne:M p c≠0
 top:∀j,j<n→N c j=M p j*(M p c).inv
 other:∀i,i<R→i≠c→∀j,j<n→N i j=(if i=p then M c j else M i j)+(if i=p then M c c else M i c)*N c j
theorem Step.row {R n c p:Nat} {M N:Nat→Nat→GF} (h:Step R n c p M N) (z:Nat→GF):dot n (N c) z=(M p c).inv*dot n (M p) z:=by
 rw[←qmn]
 exact qjg (fun j hj=>by rw[h.top j hj,GF.mul_comm])
theorem Step.rest {R n c p:Nat} {M N:Nat→Nat→GF} (h:Step R n c p M N) (z:Nat→GF) (i:Nat) (hi:i<R) (hc:i≠c):dot n (N i) z=dot n (if i=p then M c else M i) z+(if i=p then M c c else M i c)*dot n (N c) z:=by
 rw[←qmn,←qsc]
 refine qjg (fun j hj=> ?_)
 rw[h.other i hi hc j hj]
 split<;>rfl
theorem Step.ker {R n c p:Nat} {M N:Nat→Nat→GF} (h:Step R n c p M N) (z:Nat→GF):ker R n N z↔ker R n M z:=by
 constructor
 · intro hk
   have hc:=hk c h.cR
   rw[h.row] at hc
   have hp:dot n (M p) z=0:=GF.mul_eq_zero hc (GF.inv_ne h.ne)
   intro i hi
   by_cases h1:i=p
   · rw[h1];exact hp
   · by_cases h2:i=c
     · -- row c stands at place p now
       subst h2
       have:=hk p h.pR
       rw[h.rest z p h.pR (fun e=>h1 e.symm),if_pos rfl,hk i h.cR,GF.mul_zero,GF.add_zero] at this
       exact this
     · have:=hk i hi
       rw[h.rest z i hi h2,if_neg h1,hk c h.cR,GF.mul_zero,GF.add_zero] at this
       exact this
 · intro hk
   have hc:dot n (N c) z=0:=by rw[h.row,hk p h.pR,GF.mul_zero]
   intro i hi
   by_cases h1:i=c
   · rw[h1];exact hc
   · rw[h.rest z i hi h1,hc,GF.mul_zero,GF.add_zero]
     split
     · exact hk c h.cR
     · exact hk i hi
def qeo (R c:Nat) (M:Nat→Nat→GF):Prop:=∀i,i<R→∀j,j<c→M i j=if i=j then 1 else 0
theorem Step.unit {R n c p:Nat} {M N:Nat→Nat→GF} (h:Step R n c p M N) (hp:c≤p) (hu:qeo R c M):qeo R (c+1) N:=by
 have hcp:∀j,j<c→M p j=0:=fun j hj=>by rw[hu p h.pR j hj,if_neg (by omega)]
 have hcc:∀j,j<c→M c j=0:=fun j hj=>by rw[hu c h.cR j hj,if_neg (by omega)]
 have hNc:∀j,j<c→N c j=0:=fun j hj=>by rw[h.top j (by have:=h.cn;omega),hcp j hj,GF.zero_mul]
 have hone:N c c=1:=by rw[h.top c h.cn,GF.mul_inv h.ne]
 intro i hi j hj
 by_cases h1:i=c
 · subst h1
   rcases Nat.lt_or_ge j i with h2|h2
   · rw[hNc j h2,if_neg (by omega)]
   · rw[show j=i by omega,hone,if_pos rfl]
 · rw[h.other i hi h1 j (by have:=h.cn;omega)]
   rcases Nat.lt_or_ge j c with h2|h2
   · rw[hNc j h2,GF.mul_zero,GF.add_zero]
     by_cases h3:i=p
     · rw[if_pos h3,hcc j h2,if_neg (by omega)]
     · rw[if_neg h3,hu i hi j h2]
   · have h4:j=c:=by omega
     subst h4
     rw[hone,GF.mul_one,GF.add_self,if_neg h1]
structure Solv (R t:Nat) (M:Nat→Nat→GF) (e:Nat→GF):Prop where
 sol:ker R (t+1) M (fun j=>if j<t then e j else 1)
 ind:∀y:Nat→GF,y t=0→ker R (t+1) M y→∀j,j<t→y j=0
theorem Solv.step {R t c p:Nat} {M N:Nat→Nat→GF} {e:Nat→GF} (h:Solv R t M e) (hs:Step R (t+1) c p M N):Solv R t N e:=
 ⟨(hs.ker _).2 h.sol,fun y h0 hk=>h.ind y h0 ((hs.ker _).1 hk)⟩
theorem Solv.pivot {R t c:Nat} {M:Nat→Nat→GF} {e:Nat→GF} (h:Solv R t M e) (hc:c<t) (hu:qeo R c M):∃p,c≤p∧p<R∧M p c≠0:=by
 refine Classical.byContradiction (fun hn=> ?_)
 have hz:∀p,c≤p→p<R→M p c=0:=fun p h1 h2=>Classical.byContradiction (fun h3=>hn ⟨p,h1,h2,h3⟩)
 have hy:=h.ind (fun j=>if j<c then M j c else if j=c then 1 else 0) (by show(if t<c then _ else if t=c then _ else(0:GF))=0;rw[if_neg (by omega),if_neg (by omega)]) (fun i hi=> ?_) c hc
 · have:(if c<c then M c c else if c=c then(1:GF) else 0)=0:=hy
   rw[if_neg (by omega),if_pos rfl] at this
   exact GF.one_ne this
 · show GF.S (t+1) (fun j=>M i j*(if j<c then M j c else if j=c then 1 else 0))=0
   rw[qdm (m:=c+1) (t+1) (by omega) (fun j h1 h2=>by rw[if_neg (by omega),if_neg (by omega),GF.mul_zero])]
   show GF.S c (fun j=>M i j*(if j<c then M j c else if j=c then 1 else 0))+M i c*(if c<c then M c c else if c=c then 1 else 0)=0
   rw[if_neg (Nat.lt_irrefl c),if_pos rfl,GF.mul_one]
   rcases Nat.lt_or_ge i c with h1|h1
   · rw[qjp (f:=fun j=>M i j*(if j<c then M j c else if j=c then 1 else 0)) i c h1 (fun j h2 h3=>by
      show M i j*_=0
      rw[hu i hi j h2,if_neg (fun e=>h3 e.symm),GF.zero_mul])]
     show M i i*(if i<c then M i c else _)+M i c=0
     rw[if_pos h1,hu i hi i h1,if_pos rfl,GF.one_mul,GF.add_self]
   · rw[hz i h1 hi,GF.add_zero,qak (g:=fun _=>0) c (fun j hj=>by rw[hu i hi j hj,if_neg (by omega),GF.zero_mul]),qdl]
theorem Solv.read {R t:Nat} {M:Nat→Nat→GF} {e:Nat→GF} (h:Solv R t M e) (hu:qeo R t M):∀i,i<R→M i t=if i<t then e i else 0:=by
 intro i hi
 have h1:=h.sol i hi
 have h2:GF.S t (fun j=>M i j*(if j<t then e j else 1))+M i t*(if t<t then e t else 1)=0:=h1
 rw[if_neg (Nat.lt_irrefl t),GF.mul_one] at h2
 by_cases h3:i<t
 · rw[if_pos h3]
   rw[qjp (f:=fun j=>M i j*(if j<t then e j else 1)) i t h3 (fun j h4 h5=>by
    show M i j*_=0
    rw[hu i hi j h4,if_neg (fun e=>h5 e.symm),GF.zero_mul])] at h2
   have h4:M i i*(if i<t then e i else 1)+M i t=0:=h2
   rw[if_pos h3,hu i hi i h3,if_pos rfl,GF.one_mul] at h4
   exact(GF.add_eq_zero h4).symm
 · rw[if_neg h3]
   rw[qak (g:=fun _=>0) t (fun j hj=>by rw[hu i hi j hj,if_neg (by omega),GF.zero_mul]),qdl,GF.zero_add] at h2
   exact h2
theorem qcg {rows:List (List Int)} (h:∀r∈rows,isB r) (i:Nat):isB (rows.getD i []):=by
 by_cases hi:i<rows.length
 · rw[List.getD_eq_getElem?_getD,List.getElem?_eq_getElem hi];exact h _ (List.getElem_mem hi)
 · rw[List.getD_eq_getElem?_getD,List.getElem?_eq_none (by omega)];intro x hx;cases hx
structure flR (R m:Nat) (rows:List (List Int)):Prop where
 n:rows.length=R
 b:∀r∈rows,isB r
 l:∀i,i<R→(rows.getD i []).length=m
theorem qea {rows:List (List Int)} {i j:Nat} (hi:i<rows.length) (x:List Int):(rows.set i x).getD j []=if j=i then x else rows.getD j []:=by
 rw[List.getD_eq_getElem?_getD,List.getElem?_set]
 by_cases h:i=j
 · subst h;simp[hi]
 · rw[if_neg h,if_neg (fun e=>h e.symm),List.getD_eq_getElem?_getD]
theorem flR.set {R m:Nat} {rows:List (List Int)} (h:flR R m rows) {i:Nat} (hi:i<R) {x:List Int} (hx:isB x) (hl:x.length=m):flR R m (rows.set i x) where
 n:=by rw[List.length_set];exact h.n
 b := fun r hr => by rcases List.mem_or_eq_of_mem_set hr with h1|h1
                     · exact h.b r h1
                     · rw[h1];exact hx
 l :=fun j hj=>by
   rw[qea (by rw[h.n];exact hi)]
   split
   · exact hl
   · exact h.l j hj
def MG (rows:List (List Int)) (i j:Nat):GF:=co (rows.getD i []) j
theorem qla (V:List Int) (hl:V.length≤255) (hb:isB V) (i:Nat) (hi:i≤100):∀(gs:List Nat) (acc:List Int),(∀g∈gs,g<V.length)→Ev (fun k=>flRow k V (i:Int) (qaq gs) acc) (acc++gs.map (fun g=>iG (two.pw ((V.length-1-g)*i)))++[iG (wval V (two.pw i))])
 | [],acc,_=>by
   simp only[qaq,List.map_nil,flRow,List.append_nil]
   exact Ev.next (qhe V (by omega) hb i hi) (Ev.some_ rfl)
 | g::gs,acc,hg=>by
   have h1:=hg g (by simp)
   have h2:(V.length-1-g)*i≤254*100:=Nat.mul_le_mul (by omega) hi
   have e1:wrap64 (wrap64 ((V.length:Int)-1)-(g:Int))=((V.length-1-g:Nat):Int):=by
    rw[w64 (n:=(V.length:Int)-1) (by omega) (by omega),w64 (by omega) (by omega)];omega
   have e2:wrap64 (((V.length-1-g:Nat):Int)*(i:Int))=(((V.length-1-g)*i:Nat):Int):=by
    rw[←Int.natCast_mul,w64 (by omega) (by omega)]
   simp only[qaq,List.map_cons,flRow]
   rw[e1,e2]
   refine Ev.next (qkc _ (by omega)) ?_
   have:=qla V hl hb i hi gs (acc++[iG (two.pw ((V.length-1-g)*i))]) (fun q hq=>hg q (by simp[hq]))
   simp only[qaq,List.append_assoc,List.singleton_append,List.cons_append,List.nil_append] at this ⊢
   exact this
def qbr (V:List Int) (gs:List Nat) (i:Nat):List Int:=gs.map (fun g=>iG (two.pw ((V.length-1-g)*i)))++[iG (wval V (two.pw i))]
theorem qjh (V:List Int) (hl:V.length≤255) (hb:isB V) (gs:List Nat) (hg:∀g∈gs,g<V.length):∀(d i:Nat),i+d≤100→Ev (fun k=>flRows k V (qaq gs) d i ((List.range i).map (qbr V gs))) ((List.range (i+d)).map (qbr V gs))
 |0,i,_=>by simp only[flRows];exact Ev.some_ rfl
 | d+1,i,hi=>by
   simp only[flRows]
   refine Ev.next (qla V hl hb i (by omega) gs [] hg) ?_
   have:=qjh V hl hb gs hg d (i+1) (by omega)
   rw[List.range_succ,List.map_append] at this
   rw[show i+(d+1)=i+1+d by omega]
   exact this
theorem qsd (V:List Int) (gs:List Nat) (i:Nat):isB (qbr V gs i):=qau (fun x hx=>by
 obtain⟨g,_,rfl⟩:=List.mem_map.1 hx
 exact qcm _) (fun x hx=>by rw[List.mem_singleton.1 hx];exact qcm _)
theorem qql (V:List Int) (gs:List Nat) (i j:Nat) (hj:j≤gs.length):co (qbr V gs i) j=if j<gs.length then(two.pw (V.length-1-gs.getD j 0)).pw i else wval V (two.pw i):=by
 unfold co qbr
 rw[rd_nat,List.getD_eq_getElem?_getD]
 by_cases h:j<gs.length
 · rw[if_pos h,List.getElem?_append_left (by simpa using h),List.getElem?_map,List.getElem?_eq_getElem h]
   simp only[Option.map_some,Option.getD_some,qdq]
   rw[qet,List.getD_eq_getElem?_getD,List.getElem?_eq_getElem h]
   rfl
 · rw[if_neg h,List.getElem?_append_right (by simp;omega)]
   have:j-(gs.map fun g=>iG (two.pw ((V.length-1-g)*i))).length=0:=by simp;omega
   rw[this]
   simp only[List.getElem?_cons_zero,Option.getD_some,qdq]
theorem qia (v:GF):∀(d j:Nat) (a:List Int),isB a→j+d=a.length→EvP (fun k=>flScale k (iG v) d j a) (fun r=>isB r∧r.length=a.length∧∀t,t<a.length→co r t=if j≤t then co a t*v else co a t)
 | 0,j,a,hb,hj=>by
   simp only[flScale]
   exact EvP.now ⟨hb,rfl,fun t ht=>by rw[if_neg (by omega)]⟩
 | d +1,j,a,hb,hj=>by
   simp only[flScale]
   rw[qbj hb]
   refine EvP.on (qdf _ _) ?_
   refine EvP.mono (qia v d (j+1) (a.set j (iG (co a j*v))) (qby hb (qcm _) j) (by rw[List.length_set];omega)) ?_
   rintro r ⟨h1,h2,h3⟩
   rw[List.length_set] at h2 h3
   refine⟨h1,h2,fun t ht=> ?_⟩
   rw[h3 t ht,qha (by omega),qdq]
   by_cases e:t=j
   · subst e;rw[if_neg (by omega),if_pos rfl,if_pos (Nat.le_refl _)]
   · rw[if_neg e]
     by_cases e2:j+1≤t
     · rw[if_pos e2,if_pos (by omega)]
     · rw[if_neg e2,if_neg (by omega)]
theorem qlb (f:GF) (b:List Int) (hbb:isB b):∀(d j:Nat) (a:List Int),isB a→j+d=a.length→EvP (fun k=>flXor k (iG f) b d j a) (fun r=>isB r∧r.length=a.length∧∀t,t<a.length→co r t=if j≤t then co a t+f*co b t else co a t)
 | 0,j,a,hb,hj=>by
   simp only[flXor]
   exact EvP.now ⟨hb,rfl,fun t ht=>by rw[if_neg (by omega)]⟩
 | d +1,j,a,hb,hj=>by
   simp only[flXor]
   rw[qbj hb,qbj hbb]
   refine EvP.on (qdf _ _) ?_
   rw[qgy]
   refine EvP.mono (qlb f b hbb d (j+1) (a.set j (iG (co a j+f*co b j))) (qby hb (qcm _) j) (by rw[List.length_set];omega)) ?_
   rintro r ⟨h1,h2,h3⟩
   rw[List.length_set] at h2 h3
   refine⟨h1,h2,fun t ht=> ?_⟩
   rw[h3 t ht,qha (by omega),qdq]
   by_cases e:t=j
   · subst e;rw[if_neg (by omega),if_pos rfl,if_pos (Nat.le_refl _)]
   · rw[if_neg e]
     by_cases e2:j+1≤t
     · rw[if_pos e2,if_pos (by omega)]
     · rw[if_neg e2,if_neg (by omega)]
theorem qib (R m c:Nat) (hc:c<R) (hcm:c<m):∀(d i:Nat) (rows:List (List Int)),flR R m rows→i+d=R→EvP (fun k=>flClear k m c d i rows) (fun r=>flR R m r∧∀p,p<R→∀t,t<m→MG r p t=if i≤p∧p≠c then MG rows p t+MG rows p c*MG rows c t else MG rows p t)
 | 0,i,rows,h,hi=>by
   simp only[flClear]
   exact EvP.now ⟨h,fun p hp t ht=>by rw[if_neg (by omega)]⟩
 | d + 1,i,rows,h,hi=>by
   have hstep:EvP (fun k=>(if i≠c∧rd (rows.getD i []) (c:Int)≠0 then(flXor k (rd (rows.getD i []) (c:Int)) (rows.getD c []) m 0 (rows.getD i [])).bind fun r=>some (rows.set i r) else some rows)) (fun r=>flR R m r∧∀p,p<R→∀t,t<m→MG r p t=if p=i∧p≠c then MG rows p t+MG rows p c*MG rows c t else MG rows p t):=by
    refine EvP.both (fun hcd=> ?_) (fun hcd=> ?_)
    · rw[qbj (qcg h.b i)]
      refine EvP.next (qlb _ _ (qcg h.b c) m 0 (rows.getD i []) (qcg h.b i) (by rw[h.l i (by omega)];omega)) ?_
      rintro r ⟨h1,h2,h3⟩
      rw[h.l i (by omega)] at h2 h3
      refine EvP.now ⟨h.set (by omega) h1 h2,fun p hp t ht=> ?_⟩
      unfold MG
      rw[qea (by rw[h.n];omega)]
      by_cases e:p=i
      · subst e
        rw[if_pos rfl,if_pos ⟨rfl,hcd.1⟩,h3 t ht,if_pos (Nat.zero_le _)]
      · rw[if_neg e,if_neg (fun q=>e q.1)]
    · refine EvP.now ⟨h,fun p hp t ht=> ?_⟩
      by_cases e:p=i∧p≠c
      · rw[if_pos e]
        have:rd (rows.getD i []) (c:Int)=0:=by
         apply Classical.byContradiction
         intro hne
         exact hcd ⟨by rw[←e.1];exact e.2,hne⟩
        have e2:MG rows p c=0:=by unfold MG co;rw[e.1,this];rfl
        rw[e2,GF.zero_mul,GF.add_zero]
      · rw[if_neg e]
   simp only[flClear]
   refine EvP.next hstep ?_
   rintro r1 ⟨g1,g2⟩
   refine EvP.mono (qib R m c hc hcm d (i+1) r1 g1 (by omega)) ?_
   rintro r ⟨h1,h2⟩
   refine⟨h1,fun p hp t ht=> ?_⟩
   rw[h2 p hp t ht,g2 p hp t ht,g2 p hp c hcm,g2 c hc t ht]
   rw[if_neg (show ¬(c=i∧c≠c) from fun q=>q.2 rfl)]
   by_cases e:p=c
   · subst e
     rw[if_neg (fun q=>q.2 rfl),if_neg (fun q=>q.2 rfl),if_neg (fun q=>q.2 rfl)]
   · by_cases e2:p=i
     · rw[if_neg (show ¬(i+1≤p∧p≠c) by omega),if_pos ⟨e2,e⟩,if_pos ⟨by omega,e⟩]
     · rw[if_neg (show ¬(p=i∧p≠c) from fun q=>e2 q.1),if_neg (show ¬(p=i∧p≠c) from fun q=>e2 q.1)]
       by_cases e3:i+1≤p
       · rw[if_pos ⟨e3,e⟩,if_pos ⟨by omega,e⟩]
       · rw[if_neg (fun q=>e3 q.1),if_neg (by omega)]
theorem qgj (rows:List (List Int)) (c:Int):∀(d p:Nat),p+d=rows.length→(∃q,p≤q∧q<rows.length∧rd (rows.getD q []) c≠0)→p≤flFind rows c d p∧flFind rows c d p<rows.length∧rd (rows.getD (flFind rows c d p) []) c≠0
 |0,p,h,⟨q,h1,h2,_⟩=>by omega
 | d +1,p,h,⟨q,h1,h2,h3⟩=>by
   unfold flFind
   by_cases e:rd (rows.getD p []) c=0
   · rw[if_pos e]
     have:=qgj rows c d (p+1) (by omega) ⟨q,by
      rcases Nat.eq_or_lt_of_le h1 with h4|h4
      · subst h4;exact absurd e h3
      · omega,h2,h3⟩
     exact⟨by omega,this.2⟩
   · rw[if_neg e];exact⟨Nat.le_refl _,by omega,e⟩
theorem qic {rows:List (List Int)} {p q:Nat} (hp:p<rows.length) (hq:q<rows.length) (j:Nat):(flSwap rows p q).getD j []=if j=q then rows.getD p [] else if j=p then rows.getD q [] else rows.getD j []:=by
 unfold flSwap
 rw[qea (by rw[List.length_set];exact hq),qea hp]
theorem flR.swap {R m:Nat} {rows:List (List Int)} (h:flR R m rows) {p q:Nat} (hp:p<R) (hq:q<R):flR R m (flSwap rows p q):=
 (h.set hp (qcg h.b q) (h.l q hq)).set hq (qcg h.b p) (h.l p hp)
theorem qox (R n c:Nat) (hc:c<n) (rows:List (List Int)) (h:flR R (n+1) rows) (hcR:c<R) (hp:∃p,c≤p∧p<R∧MG rows p c≠0):EvP (fun k=>flStep k (n+1) c rows) (fun r=>flR R (n+1) r∧∃p,c≤p∧Step R (n+1) c p (MG rows) (MG r)):=by
 obtain⟨f1,f2,f3⟩:=qgj rows (c:Int) (rows.length-c) c (by rw[h.n];omega) (by
  obtain⟨p,h1,h2,h3⟩:=hp
  exact⟨p,h1,by rw[h.n];exact h2,fun e=>h3 (by unfold MG co;rw[e];rfl)⟩)
 unfold flStep
 refine EvP.pos f2 ?_
 obtain⟨p,hpe⟩:∃p,p=flFind rows (c:Int) (rows.length-c) c:=⟨_,rfl⟩
 rw[←hpe] at f1 f2 f3 ⊢
 rw[h.n] at f2
 have hS:=h.swap hcR f2
 have hgc:(flSwap rows c p).getD c []=rows.getD p []:=by
  rw[qic (by rw[h.n];exact hcR) (by rw[h.n];exact f2)]
  by_cases e:c=p
  · rw[if_pos e,e]
  · rw[if_neg e,if_pos rfl]
 rw[hgc,qbj (qcg h.b p)]
 have hne:co (rows.getD p []) c≠0:=fun e=>f3 (by rw[qbj (qcg h.b p),e];rfl)
 refine EvP.on (qly hne) ?_
 refine EvP.next (qia _ (n+1) 0 (rows.getD p []) (qcg h.b p) (by rw[h.l p f2];omega)) ?_
 rintro r ⟨r1,r2,r3⟩
 rw[h.l p f2] at r2 r3
 have hQ:=hS.set hcR r1 r2
 rw[show rows.length=R from h.n]
 refine EvP.mono (qib R (n+1) c hcR (by omega) R 0 _ hQ (by omega)) ?_
 rintro q ⟨q1,q2⟩
 have hM:∀i,i<R→∀t,t<n+1→MG ((flSwap rows c p).set c r) i t=if i=c then co (rows.getD p []) t*(co (rows.getD p []) c).inv else if i=p then MG rows c t else MG rows i t:=by
  intro i hi t ht
  unfold MG
  rw[qea (by rw[hS.n];exact hcR)]
  by_cases e:i=c
  · rw[if_pos e,if_pos e,r3 t ht,if_pos (Nat.zero_le _)]
  · rw[if_neg e,if_neg e,qic (by rw[h.n];exact hcR) (by rw[h.n];exact f2)]
    by_cases e2:i=p
    · rw[if_pos e2,if_pos e2]
    · rw[if_neg e2,if_neg e,if_neg e2]
 refine⟨q1,p,f1,hcR,f2,by omega,hne,fun j hj=> ?_,fun i hi hic j hj=> ?_⟩
 · rw[q2 c hcR j hj,if_neg (fun z=>z.2 rfl),hM c hcR j hj,if_pos rfl]
   rfl
 · rw[q2 i hi j hj,if_pos ⟨Nat.zero_le _,hic⟩,q2 c hcR j hj,if_neg (show ¬(0≤c∧c≠c) from fun z=>z.2 rfl),hM i hi j hj,hM i hi c (by omega),if_neg hic,if_neg hic]
theorem qji (R n:Nat) (hnR:n≤R) (e:Nat→GF):∀(d c:Nat) (rows:List (List Int)),c+d=n→flR R (n+1) rows→Solv R n (MG rows) e→qeo R c (MG rows)→EvP (fun k=>flElim k (n+1) d c rows) (fun r=>flR R (n+1) r∧Solv R n (MG r) e∧qeo R n (MG r))
 | 0,c,rows,hd,h,hs,hu=>by
   simp only[flElim]
   exact EvP.now ⟨h,hs,by rw[show n=c by omega];exact hu⟩
 | d+1,c,rows,hd,h,hs,hu=>by
   simp only[flElim]
   refine EvP.next (qox R n c (by omega) rows h (by omega) (hs.pivot (by omega) hu)) ?_
   rintro r ⟨r1,p,r2,r3⟩
   exact qji R n hnR e d (c+1) r (by omega) r1 (hs.step r3) (r3.unit r2 hu)
theorem qtk (a b:GF):Go.bits .xor .u8 (iG a) (IntKind.u8.wrap (iG b))=iG (a+b):=by
 have ha:=a.lt
 have hb:=b.lt
 have e1:IntKind.u8.wrap (iG b)=iG b:=by rw[IntKind.wrap_u8];have:=qcm b;omega
 rw[e1]
 show Go.bits .xor .u8 ((a.v:Nat):Int) ((b.v:Nat):Int)=(((a.v^^^b.v:Nat)):Int)
 have hx:a.v%2^IntKind.u8.bits=a.v:=Nat.mod_eq_of_lt (by show a.v<2^8;omega)
 have hy:b.v%2^IntKind.u8.bits=b.v:=Nat.mod_eq_of_lt (by show b.v<2^8;omega)
 have hl:a.v^^^b.v<2^8:=Nat.xor_lt_two_pow (by omega) (by omega)
 simp only[Go.bits,BitVec.toNat_xor,BitVec.ofInt_natCast,BitVec.toNat_ofNat,hx,hy]
 rw[IntKind.wrap_u8]
 omega
theorem qtl {a b:List Int} (ha:isB a) (hb:isB b) (hl:a.length=b.length) (h:∀q,q<a.length→co a q=co b q):a=b:=by
 apply List.ext_getElem hl
 intro i h1 h2
 have e1:=qbj ha i
 have e2:=qbj hb i
 rw[rd_nat,List.getD_eq_getElem?_getD,List.getElem?_eq_getElem h1] at e1
 rw[rd_nat,List.getD_eq_getElem?_getD,List.getElem?_eq_getElem h2] at e2
 have e3:a[i]=iG (co a i):=e1
 have e4:b[i]=iG (co b i):=e2
 rw[e3,e4,h i h1]
theorem qjj (W V:List Int) (hW:isB W) (hV:isB V) (hl:V.length=W.length) (rows:List (List Int)) (hb:∀r∈rows,isB r) (he:∀i,i<(difs V W).length→MG rows i (difs V W).length=errE V W (difs V W) i):
 ∀(d i:Nat) (out:List Int),i+d=(difs V W).length→isB out→out.length=V.length→(∀q,q<V.length→co out q=if(∃j,j<i∧(difs V W).getD j 0=q) then co W q else co V q)→flOut rows (difs V W).length (qaq ((difs V W).drop i)) i out=W
 | 0, i,out,hd,ho,hol,hq=>by
   rw[List.drop_of_length_le (by omega)]
   show out=W
   refine qtl ho hW (by omega) (fun q hq2=> ?_)
   rw[hq q (by omega)]
   by_cases e:∃j,j<i∧(difs V W).getD j 0=q
   · rw[if_pos e]
   · rw[if_neg e]
     apply Classical.byContradiction
     intro hne
     have hm:q∈difs V W:=(qct _ _ _).2 ⟨by omega,by
      unfold difP
      have:rd V (q:Int)≠rd W (q:Int):=fun e2=>hne (by unfold co;rw[e2])
      simpa using this⟩
     obtain⟨j,hj,e2⟩:=List.getElem_of_mem hm
     exact e ⟨j,by omega,by simp[List.getD_eq_getElem?_getD,hj,e2]⟩
 | d +1,i,out,hd,ho,hol,hq=>by
   have hi:i<(difs V W).length:=by omega
   have hat:=qem hi
   have eg:(difs V W).getD i 0=(difs V W)[i]:=by simp[List.getD_eq_getElem?_getD,hi]
   rw[List.drop_eq_getElem_cons hi,←eg]
   generalize hg:(difs V W).getD i 0=g at hat
   have hnew:¬ ∃j,j<i∧(difs V W).getD j 0=g:=fun⟨j,hj,e⟩=>by
    have:=qgo (difP V W) W.length j i (by show j<(difs V W).length;omega) hi (by show(difs V W).getD j 0=(difs V W).getD i 0;rw[e,hg])
    omega
   have hog:co out g=co V g:=by rw[hq g (by omega),if_neg hnew]
   have hx:Go.bits .xor .u8 (rd out (g:Int)) (IntKind.u8.wrap (rd (rows.getD i []) ((difs V W).length:Int)))=iG (co W g):=by
    have h1:=he i hi
    unfold MG at h1
    rw[qbj ho,qbj (qcg hb i),h1,qtk,hog]
    unfold errE
    rw[hg,←GF.add_assoc,GF.add_self,GF.zero_add]
   show flOut rows (difs V W).length (qaq ((difs V W).drop (i+1))) (i+1) (out.set ((g:Nat):Int).toNat (Go.bits .xor .u8 (rd out (g:Int)) (IntKind.u8.wrap (rd (rows.getD i []) ((difs V W).length:Int)))))=W
   rw[hx,Int.toNat_natCast]
   refine qjj W V hW hV hl rows hb he d (i+1) _ (by omega) (qby ho (qcm _) g) (by rw[List.length_set];exact hol) (fun q hqq=> ?_)
   rw[qha (by omega),qdq]
   by_cases e:q=g
   · rw[if_pos e,if_pos ⟨i,by omega,by rw[hg,e]⟩,e]
   · rw [if_neg e,hq q hqq]
     by_cases e2:∃j,j<i∧(difs V W).getD j 0=q
     · rw[if_pos e2,if_pos (by obtain⟨j,h1,h2⟩:=e2;exact⟨j,by omega,h2⟩)]
     · rw[if_neg e2,if_neg (fun⟨j,h1,h2⟩=>by
        rcases Nat.eq_or_lt_of_le (Nat.le_of_lt_succ h1) with h3|h3
        · exact e (by rw[←h2,h3,hg])
        · exact e2 ⟨j,h3,h2⟩)]
theorem qqm (W V:List Int) (M:Nat) (hW:isB W) (hV:isB V) (hl:V.length=W.length) (hM:1≤M∧M≤8) (h2:2*M<W.length) (h3:W.length≤255) (hz:∀i,i<2*M→horn (gfP i) 0 W=0) (hd:(difs V W).length≤M):
 Ev (fun k=>impl_fill.f k V (qaq (difs V W)) (M:Int)) (W,true):=by
 have hg:∀g∈difs V W,g<V.length:=fun g hg=>by have:=((qct _ _ _).1 hg).1;omega
 have hil:(qaq (difs V W)).length=(difs V W).length:=by unfold qaq;simp
 have hin:flIn V (qaq (difs V W)) (M:Int):=by
  refine⟨by omega,by rw[hil];omega,by omega,fun g h=> ?_⟩
  obtain⟨q,hq,rfl⟩:=List.mem_map.1 h
  have:=hg q hq
  omega
 have hzW:∀i,i<2*M→wval W (two.pw i)=0:=fun i hi=>by
  have:=hz i hi
  rw[qfj,qfk _ _ hW] at this
  exact GF.ext' this
 unfold impl_fill.f
 refine Ev.pos hin ?_
 rw[show(2*(M:Int)).toNat=2*M by omega,hil]
 have hrows:=qjh V (by omega) hV (difs V W) hg (2*M) 0 (by omega)
 rw[Nat.zero_add] at hrows
 refine Ev.next (a:=(List.range (2*M)).map (qbr V (difs V W))) hrows ?_
 have hget:∀i,i<2*M→((List.range (2*M)).map (qbr V (difs V W))).getD i []=qbr V (difs V W) i:=fun i hi=>by
  simp only[List.getD_eq_getElem?_getD,List.getElem?_map,List.getElem?_range hi,Option.map_some,Option.getD_some]
 have hR:flR (2*M) ((difs V W).length+1) ((List.range (2*M)).map (qbr V (difs V W))):={
  n:=by simp
  b:=fun r hr=>by obtain⟨i,_,rfl⟩:=List.mem_map.1 hr;exact qsd _ _ _
  l:=fun i hi=>by rw[hget i hi];simp[qbr]}
 have hMG:∀i,i<2*M→∀j,j≤(difs V W).length→MG ((List.range (2*M)).map (qbr V (difs V W))) i j=if j<(difs V W).length then(errX V.length (difs V W) j).pw i else wval V (two.pw i):=fun i hi j hj=>by
  unfold MG
  rw[hget i hi,qql _ _ _ _ hj]
  rfl
 have hsolv:Solv (2*M) (difs V W).length (MG ((List.range (2*M)).map (qbr V (difs V W)))) (errE V W (difs V W)):=by
  refine⟨fun i hi=> ?_,fun y h0 hk=> ?_⟩
  · show GF.S (difs V W).length (fun j=>MG _ i j*(if j<(difs V W).length then errE V W (difs V W) j else 1))+MG _ i (difs V W).length*(if(difs V W).length<(difs V W).length then _ else 1)=0
    rw[if_neg (Nat.lt_irrefl _),GF.mul_one,hMG i hi _ (Nat.le_refl _),if_neg (Nat.lt_irrefl _),qke hl i (hzW i hi)]
    rw[qak (g:=fun j=>errE V W (difs V W) j*(errX W.length (difs V W) j).pw i) _ (fun j hj=>by
     rw[hMG i hi j (by omega),if_pos hj,if_pos hj,GF.mul_comm,hl])]
    exact GF.add_self _
  · refine qjz (difs V W).length (errX V.length (difs V W)) y (fun i j hi hj e=>qkf h3 hi hj (by rw[←hl];exact e)) (fun i hi=> ?_)
    have h1:=hk i (by omega)
    have h2:GF.S (difs V W).length (fun j=>MG ((List.range (2*M)).map (qbr V (difs V W))) i j*y j)+MG ((List.range (2*M)).map (qbr V (difs V W))) i (difs V W).length*y (difs V W).length=0:=h1
    rw[h0,GF.mul_zero,GF.add_zero] at h2
    rw[←h2]
    exact qak _ (fun j hj=>by rw[hMG i (by omega) j (by omega),if_pos hj,GF.mul_comm])
 refine EvP.ev ?_
 refine EvP.next (qji (2*M) (difs V W).length (by omega) (errE V W (difs V W)) (difs V W).length 0 _ (by omega) hR hsolv (fun i _ j hj=>by omega)) ?_
 rintro r ⟨r1,r2,r3⟩
 have hread:=r2.read r3
 have hbad:flBad (difs V W).length r=false:=by
  unfold flBad
  rw[List.any_eq_false]
  intro x hx
  obtain⟨j,hj,e⟩:=List.getElem_of_mem hx
  rw[List.length_drop,r1.n] at hj
  rw[List.getElem_drop] at e
  have h4:=hread ((difs V W).length+j) (by omega)
  rw[if_neg (by omega)] at h4
  unfold MG at h4
  rw[List.getD_eq_getElem?_getD,List.getElem?_eq_getElem (by rw[r1.n];omega),Option.getD_some,e] at h4
  have hxb:isB x:=r1.b x (List.mem_of_mem_drop hx)
  rw[qbj hxb,h4]
  decide
 rw[hbad]
 refine EvP.neg (by decide) ?_
 refine EvP.on (Ev.here (show slices_Clone_byte_byte.f V=some V by unfold slices_Clone_byte_byte.f;rw[if_pos (by omega)])) ?_
 refine EvP.now ?_
 have:=qjj W V hW hV hl r r1.b (fun i hi=>by rw[hread i (by omega),if_pos hi]) (difs V W).length 0 V (by omega) hV rfl (fun q hq=>by rw[if_neg (fun⟨j,hj,_⟩=>by omega)])
 rw[List.drop_zero] at this
 rw[this]
theorem FnModem_of (hF:qdz) (l0:List Int) (hl:l0.length≤1048576) (hb0:∀x∈l0,0≤x∧x<256):∃k,laws_FnModem.f k l0=some true:=by
 refine EvP.law ?_
 unfold laws_FnModem.f
 refine EvP.on (Ev.here (r:=decide ((l0.length:Int)>1048576)) rfl) ?_
 refine EvP.neg (by simp;omega) (EvP.next (qng l0 hl) ?_)
 rintro⟨w,m,r,s,ra,si,data,delay,quarter,noise,hurt⟩ h
 dsimp only at h
 obtain⟨ok,db,dl,de,qu,nl,nb,hu,hhl⟩:=h
 have hm:=qav.1 ok
 have hi:=qpt w m r s ra si data db (by omega)
 have e1:(qbi w m r s ra si data).2=true:=by unfold qbi;rw[if_pos ⟨ok,dl⟩]
 obtain⟨D,rfl⟩:=Int.eq_ofNat_of_zero_le de.1
 obtain⟨Qt,rfl⟩:=Int.eq_ofNat_of_zero_le qu.1
 obtain⟨R,hR⟩:=Int.eq_ofNat_of_zero_le (show 0≤ra by omega)
 have hsl:(qbi w m r s ra si data).1.length=R*((qaf w m r s ra si data).length+1):=by
  subst hR
  rw[qmi w m r s si R data (by omega) ⟨ok,dl⟩,qfc];simp
 have hn3:=qft db dl ok
 have hRn:R*((qaf w m r s ra si data).length+1)≤3000:=Nat.le_trans (Nat.mul_le_mul (show R≤8 by omega) (show(qaf w m r s ra si data).length+1≤301 by omega)) (by decide)
 have hno:qcw noise (D+R*((qaf w m r s ra si data).length+1)) D R ((si-1) / 2) hurt:=by
  refine⟨by omega,fun p hp=> ?_,fun p hp _=>nb _ (qhu (by omega))⟩
  have:=nb p hp
  unfold inP at this ⊢
  omega
 refine EvP.on hi (EvP.on (Ev.here (qnf ok)) (EvP.on (Ev.here (qhz ok)) (EvP.pos e1 (EvP.pos rfl (EvP.pos rfl (Ev.p ?_))))))
 have hne:((noise.length:Int) != wrap64 ((D:Int)+((qbi w m r s ra si data).1.length:Int)))=false:=by
  rw[w64 (by omega) (by omega)]
  simp only[bne_eq_false_iff_eq]
  omega
 simp only
 rw[hne]
 refine Ev.succ ?_
 simp only[laws_FnModem.j0]
 exact Ev.neg (by decide) (qqk hF l0 hl hb0 w m r s ra si data D Qt R hR hurt ok db dl (by omega) (by omega) hu hhl hurt.length 0 noise (by omega) hno)
theorem qlc:qdz:=fun W V M hW hV hl hM h2 h3 hz hd=>qqm W V M hW hV hl hM h2 h3 hz hd
theorem FnModem (l0:List Int) (m0:l0.length≤maxLen) (w0:∀x∈l0,(Lit.int .u8 x).wf=true):∃k,laws_FnModem.f k l0=some true:=by
 have hb0:∀x∈l0,0≤x∧x<256:=fun x hx=>wf8 (w0 x hx)
 by_cases hbig:(l0.length:Int)>1048576
 · refine EvP.law ?_
   unfold laws_FnModem.f
   exact EvP.on (Ev.here (r:=decide ((l0.length:Int)>1048576)) rfl) (EvP.pos (decide_eq_true hbig) (EvP.now rfl))
 · exact FnModem_of qlc l0 (by omega) hb0
end Go.Proofs.Ytapobpkeefeajaa.Pure
