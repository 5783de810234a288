-- A turned copy of the print's text.
import Derived.Test.YtapobpkeefeajaaPFnModemx0
namespace Go.Proofs.Ytapobpkeefeajaa.PFnModem
open Go.RowKit Go.Proofs.YtapobpkeefeajaaW.PrintWords Go.Proofs.YtapobpkeefeajaaW.PrintLast Go.Proofs.YtapobpkeefeajaaW.PrintMore
attribute [local go_sem] max2_int min2_int max_two min_two max_three min_three max_four min_four
set_option maxHeartbeats 8000000
set_option maxRecDepth 100000
set_option linter.unusedVariables false
set_option linter.unusedSimpArgs false
def bits_Mul64.f (a0:Int) (a1:Int):Option (Int×Int):=some (IntKind.u64.wrap ((IntKind.u64.wrap ((IntKind.u64.wrap ((a0 / 4294967296)*(a1 / 4294967296)))+((IntKind.u64.wrap ((IntKind.u64.wrap ((a0 / 4294967296)*(Go.bits .and .u64 a1 4294967295)))+((IntKind.u64.wrap ((Go.bits .and .u64 a0 4294967295)*(Go.bits .and .u64 a1 4294967295))) / 4294967296))) / 4294967296)))+((IntKind.u64.wrap ((Go.bits .and .u64 (IntKind.u64.wrap ((IntKind.u64.wrap ((a0 / 4294967296)*(Go.bits .and .u64 a1 4294967295)))+((IntKind.u64.wrap ((Go.bits .and .u64 a0 4294967295)*(Go.bits .and .u64 a1 4294967295))) / 4294967296))) 4294967295)+(IntKind.u64.wrap ((Go.bits .and .u64 a0 4294967295)*(a1 / 4294967296))))) / 4294967296)),IntKind.u64.wrap (a0*a1))
theorem bits_Mul64.calls (a0:Int) (a1:Int) (r1:Int) (r2:Int) (w:World) (h:bits_Mul64.f a0 a1=some (r1,r2)):
    Calls Try.prog 122 #[.int .u64 a0, .int .u64 a1] w fun e w'=>e= .returned (.tuple #[.int .u64 r1, .int .u64 r2])∧Drawn0 w w':=by
  have H:(some (IntKind.u64.wrap ((IntKind.u64.wrap ((IntKind.u64.wrap ((a0 / 4294967296)*(a1 / 4294967296)))+((IntKind.u64.wrap ((IntKind.u64.wrap ((a0 / 4294967296)*(Go.bits .and .u64 a1 4294967295)))+((IntKind.u64.wrap ((Go.bits .and .u64 a0 4294967295)*(Go.bits .and .u64 a1 4294967295))) / 4294967296))) / 4294967296)))+((IntKind.u64.wrap ((Go.bits .and .u64 (IntKind.u64.wrap ((IntKind.u64.wrap ((a0 / 4294967296)*(Go.bits .and .u64 a1 4294967295)))+((IntKind.u64.wrap ((Go.bits .and .u64 a0 4294967295)*(Go.bits .and .u64 a1 4294967295))) / 4294967296))) 4294967295)+(IntKind.u64.wrap ((Go.bits .and .u64 a0 4294967295)*(a1 / 4294967296))))) / 4294967296)),IntKind.u64.wrap (a0*a1)))=some (r1,r2):=h
  clear h
  simp only[Option.some.injEq,Prod.mk.injEq] at H
  obtain⟨rfl,rfl⟩:=H
  go_enter Try.func122,Try.ntmps122
  go_wp2
  go_ret2
  exact⟨by first|rfl|(simp;done)|(simp[*];done),by repeat(first|exact Drawn0.refl _|apply Drawn0.step)⟩
def bits_Mul.f (a0:Int) (a1:Int):Option (Int×Int):=(bits_Mul64.f a0 a1).bind fun bt133=>(some (bt133.1,bt133.2))
theorem bits_Mul.calls (a0:Int) (a1:Int) (r1:Int) (r2:Int) (w:World) (h:bits_Mul.f a0 a1=some (r1,r2)):
    Calls Try.prog 94 #[.int .u64 a0, .int .u64 a1] w fun e w'=>e= .returned (.tuple #[.int .u64 r1, .int .u64 r2])∧Drawn0 w w':=by
  have H:((bits_Mul64.f a0 a1).bind fun bt133=>(some (bt133.1,bt133.2)))=some (r1,r2):=h
  clear h
  replace H:=Option.bind_eq_some_iff.mp H
  obtain⟨⟨t133,t134⟩,A30,H⟩:=H
  replace H:(some (t133,t134))=some (r1,r2):=H
  have A3:=Aside0.mk A30
  clear A30
  simp only[Option.some.injEq,Prod.mk.injEq] at H
  obtain⟨rfl,rfl⟩:=H
  go_enter Try.func94,Try.ntmps94
  go_wp2_with (first|((with_reducible refine gate_callee (f:=122) rfl ?_);refine goesL_ (some 25) rfl rfl Try.func122 (by kernel_rfl) rfl #[.int .u64 a0, .int .u64 a1] rfl (by(try simp only[List.map_toArray,List.map_cons,List.map_nil]);first|done|rfl|(simp only[List.length_drop,List.length_take];rfl)) ?_;(with_reducible refine(bits_Mul64.calls a0 a1 t133 t134 _ A3.out).mono ?_);rintro e w' ⟨rfl,⟨nd,rfl⟩⟩;refine⟨_,rfl,?_⟩))
  go_ret2
  exact⟨by first|rfl|(simp;done)|(simp[*];done),by repeat(first|exact Drawn0.refl _|apply Drawn0.step)⟩
theorem rp_copy {P:Program} (w:World) (dT sT ty elem:TypeId) (b o dLen dCap:Nat) (a:Addr) (sLen sCap:Nat) (cs:List Value)
    (hu:P.underlying dT=some (.slice elem)) (hs:(P.info? elem).map (·.size)=some 2) (hn:cs.length=2*Nat.min sLen dLen)
    (hsrc:∀j v,cs[j]? =some v→w.cell? (a.add j)=some v) (hc:∀j,j<cs.length→(w.cell? ⟨b,o+j,none⟩).isSome=true) (hf:∀j,j<cs.length→w.frozen? ⟨b,o+j,none⟩=false) (h1:∀v∈cs,v.oneCell'=true):
    (Builtin.copy_ #[dT,sT] ty #[.slice (some ⟨b,o,none⟩) dLen dCap, .slice (some a) sLen sCap]).run P w= .ok (goInt (Nat.min sLen dLen:Nat)) (w.setCells b o cs):=by
  have hl:=run_loadCells_list (P:=P) w a cs hsrc
  have hst:=run_storeCells_cells (P:=P) b o cs 0 w (by simpa using hc) (by simpa using hf) h1
  cases hq:P.info? elem with
  |none=>simp[hq] at hs
  | some i=>
    have hi:i.size=2:=by simpa [hq] using hs
    have hn2:Nat.min sLen dLen*2=cs.length:=by omega
    simp[Builtin.copy_,run_underlying hu,Builtin.lenOf,Builtin.firstCells,sizeOf,typeInfo,hq,hi,hn2,hl,hst]
def rp_flat:List S52→List Value
  |[]=>[]
  |p::ys=> .int .i64 p.f0:: .int .i64 p.f1::rp_flat ys
theorem rp_flat_len:∀ys:List S52,(rp_flat ys).length=2*ys.length
  |[]=>rfl
  |p::ys=>by simp only[rp_flat,List.length_cons,rp_flat_len ys];omega
theorem rp_flat_one:∀ys:List S52,∀v∈rp_flat ys,v.oneCell'=true
  |[]=>by simp[rp_flat]
  | p::ys=>by
    intro v hv
    simp only[rp_flat,List.mem_cons] at hv
    rcases hv with rfl|rfl|hv
    · rfl
    · rfl
    · exact rp_flat_one ys v hv
theorem rp_flat_get:∀(ys:List S52) (i:Nat),i<ys.length→(rp_flat ys)[2*i]? =some (.int .i64 (ys.getD i z52).f0)∧(rp_flat ys)[2*i+1]? =some (.int .i64 (ys.getD i z52).f1)
  |[],i,h=>by simp at h
  |p::ys,0,_=>⟨rfl,rfl⟩
  | p::ys,i+1,h=>by
    have:=rp_flat_get ys i (by simpa using h)
    rw[show 2*(i+1)=2*i+1+1 by omega,show 2*i+1+1+1=(2*i+1)+1+1 by omega]
    simp only[rp_flat,List.getElem?_cons_succ]
    exact this
theorem rp_src {w:World} {ad:Addr} {n:Nat} {xs:List S52} (h:Kd.C k52 w (some ad) n xs) (hn:n=xs.length) (m:Nat) (hm:m≤n):∀j v,(rp_flat (xs.take m))[j]? =some v→w.cell? (ad.add j)=some v:=by
  intro j v hv
  have hlen:=rp_flat_len (xs.take m)
  have hjl:j<(rp_flat (xs.take m)).length:=by
    rcases Nat.lt_or_ge j (rp_flat (xs.take m)).length with h1|h1
    · exact h1
    · rw[List.getElem?_eq_none h1] at hv;cases hv
  have hml:(xs.take m).length=m:=by simp;omega
  have hi:j / 2<m:=by omega
  obtain⟨g1,g2⟩:=rp_flat_get (xs.take m) (j / 2) (by omega)
  have hd:(xs.take m).getD (j / 2) z52=xs.getD (j / 2) z52:=by simp[List.getD_eq_getElem?_getD,List.getElem?_take,hi]
  rw[hd] at g1 g2
  obtain⟨ad',e,h1,h2⟩:=at_T52 h ((j / 2:Nat):Int) (by omega) (by omega)
  cases e
  have hr:rd_T52 xs ((j / 2:Nat):Int)=xs.getD (j / 2) z52:=rfl
  rw[hr] at h1 h2
  rcases Nat.mod_two_eq_zero_or_one j with hz|hz
  · have ej:j=2*(j / 2):=by omega
    rw[ej] at hv
    rw[g1] at hv
    obtain rfl:=Option.some.inj hv
    rw[show ad.add j=ad.add (((j / 2:Nat):Int).toNat*2) from congrArg ad.add (by omega)]
    exact h1
  · have ej:j=2*(j / 2)+1:=by omega
    rw[ej] at hv
    rw[g2] at hv
    obtain rfl:=Option.some.inj hv
    rw[show ad.add j=ad.add (((j / 2:Nat):Int).toNat*2+1) from congrArg ad.add (by omega),add_field _ _ 1 (by omega)]
    exact h2
theorem rp_splice {W0:World} {g n cap:Nat} {ok:Nat→Prop}:∀(ys:List S52) (W:World) (o:Nat) (xs:List S52),Kd.R k52 52 W W0.heap.size ok (.slice (some ⟨g,0,none⟩) n cap) xs→n=xs.length→o+ys.length≤n→Below W0.heap.size W0 W→W0.heap.size≤g→
    Kd.R k52 52 (W.setCells g (o*2) (rp_flat ys)) W0.heap.size ok (.slice (some ⟨g,0,none⟩) n cap) (xs.take o++ys++xs.drop (o+ys.length))∧Below W0.heap.size W0 (W.setCells g (o*2) (rp_flat ys))
  | [],W,o,xs,h,_,_,hB,_=>by
    simp only[rp_flat,World.setCells,List.append_nil,List.length_nil,Nat.add_zero,List.take_append_drop]
    exact⟨h,hB⟩
  | p ::ys,W,o,xs,h,hn,ho,hB,hg=>by
    simp only[List.length_cons] at ho
    obtain⟨c,hcl,hM,hcc,hfr⟩:=Kd.R_elem h z52 (o:Int) (by omega) (by omega)
    have hs:=Kd.R_seg h (o:Int) (by omega) (by omega) (c:=c) (seg:=[.int .i64 p.f0, .int .i64 p.f1]) (j:=0) hcl hcc (show 2≤2 by omega) (x':=p) (okp:=fun k=>ok k∧k≠g) (by
      have:c.length=2:=hcl
      simp only[List.take_zero,List.nil_append,List.length_cons,List.length_nil,Nat.zero_add]
      rw[List.drop_of_length_le (by omega),List.append_nil]
      exact k52_mkM _ _ _ _) (fun _ hk=>hk)
    have hsz:k52.sz=2:=rfl
    simp only[hsz,Int.toNat_natCast,Nat.add_zero] at hs
    have e:W.setCells g (o*2) (rp_flat (p::ys))=(W.setCells g (o*2) [.int .i64 p.f0, .int .i64 p.f1]).setCells g ((o+1)*2) (rp_flat ys):=by
      simp only[rp_flat,World.setCells]
      rw[show o*2+1+1=(o+1)*2 by omega]
    have hB2:Below W0.heap.size W0 (W.setCells g (o*2) [.int .i64 p.f0, .int .i64 p.f1]):=by
      simp only[World.setCells]
      exact below_set (below_set hB hg) hg
    have ih:=rp_splice (W0:=W0) ys _ (o+1) (xs.set o p) hs.1 (by simpa using hn) (by omega) hB2 hg
    rw[e]
    refine⟨?_,ih.2⟩
    have e2:(xs.set o p).take (o+1)++ys++(xs.set o p).drop (o+1+ys.length)=xs.take o++(p::ys)++xs.drop (o+(ys.length+1)):=by
      have hol:o<xs.length:=by omega
      have t1:(xs.set o p).take (o+1)=xs.take o++[p]:=by
        rw[List.take_set,List.take_succ_eq_append_getElem hol,List.set_append]
        simp[Nat.min_eq_left (Nat.le_of_lt hol)]
      have t2:(xs.set o p).drop (o+1+ys.length)=xs.drop (o+(ys.length+1)):=by
        rw[List.drop_set,if_pos (by omega)]
        congr 1
        omega
      rw[t1,t2]
      simp
    rw[List.length_cons,←e2]
    exact ih.1
def impl_Point_43.f (l0:List S52) (a1:Int):Option (List S52):=if l0.length=1∧1≤a1∧a1≤8 then some (List.replicate a1.toNat (l0.getD 0 z52)) else none
theorem rp_mul:∀c:Fin 9,bits_Mul.f 1 ((c.1:Nat):Int)=some (0,((c.1:Nat):Int)):=by decide+kernel
theorem rp_wpl {P:Program} {ops:Array Oper} {rest:List Oper} {o:Oper} {a:Act} {Q:Exit→Act→World→Prop} {w:World} (hgd:o.guard=none) (d s:Operand) (dT sT:TypeId) (ho:o.op= .call {callee:= .builtin .copy,args:= #[d,s],argTypes:= #[dT,sT]}) (x y:Value) (hx:a.eval d=x) (hy:a.eval s=y) (v:Value) (w1:World) (hrun:(Builtin.copy_ #[dT,sT] o.type #[x,y]).run P w= .ok v w1) (h:wpList P ops Q rest (a.put o.dst v) w1):wpList P ops Q (o::rest) a w:=by
  refine wpList_plain hgd fun K hK=> ?_
  unfold Oper.wp
  simp[execOp,ho,resolve,invoke,builtin,hx,hy,hrun,Result.andThen]
  exact hK _ _ h
def impl_Point_43.T9:Bool×List (List Nat×List Nat):=(true,[([],[]),([],[]),([],[]),([1,2],[1,2]),([],[]),([],[]),([4,5],[4,5]),([3,6],[3,6]),([0,7],[0,7]),([8,7,0,1,2,3,4,5,6,7,8],[0,2,5,8])])
def impl_Point_43.B9:List Nat:=[0,0,0,6,0,0,48,126,255,511]
theorem impl_Point_43.tab9:rtab .any (opsOf Try.f43 9)=impl_Point_43.T9:=by kernel_rfl
theorem impl_Point_43.bits9:waitsOk impl_Point_43.T9.2 impl_Point_43.B9=true:=by kernel_rfl
theorem rp_exec {P:Program} {a:Act} {w w1:World} {oi:Oper} {v:Value} {d s:Operand} {dT sT:TypeId} (ho:oi.op= .call {callee:= .builtin .copy,args:= #[d,s],argTypes:= #[dT,sT]}) (x y:Value) (hx:a.eval d=x) (hy:a.eval s=y) (ty:TypeId) (hty:oi.type=ty) (hrun:(Builtin.copy_ #[dT,sT] ty #[x,y]).run P w= .ok v w1):(execOp a.eval oi).run P w= .ok (.value v) w1:=by
  subst hty
  simp[execOp,ho,resolve,invoke,builtin,hx,hy,hrun,Result.andThen]
/-- n of c are there. -/
def rpX (c:Nat) (p:S52) (n:Nat):List S52:=List.replicate n p++List.replicate (c-n) z52
theorem rpX_len {c n:Nat} (p:S52) (h:n≤c):(rpX c p n).length=c:=by simp[rpX];omega
theorem rpX_step {c n m:Nat} (p:S52) (h:n+m≤c) (hm:m≤n):(rpX c p n).take n++(rpX c p n).take m++(rpX c p n).drop (n+m)=rpX c p (n+m):=by
  unfold rpX
  have h1:(List.replicate n p++List.replicate (c-n) z52).take n=List.replicate n p:=by
    rw[List.take_append_of_le_length (by simp),List.take_of_length_le (by simp)]
  have h2:(List.replicate n p++List.replicate (c-n) z52).take m=List.replicate m p:=by
    rw[List.take_append_of_le_length (by simpa using hm),List.take_replicate,Nat.min_eq_left hm]
  have h3:(List.replicate n p++List.replicate (c-n) z52).drop (n+m)=List.replicate (c-(n+m)) z52:=by
    rw[List.drop_append,List.drop_of_length_le (by simp),List.nil_append,List.length_replicate,List.drop_replicate]
    congr 1
    omega
  rw[h1,h2,h3,List.replicate_append_replicate]
theorem rp_size:(Try.prog.info? 52).map (·.size)=some 2:=by kernel_rfl
/-- The run of copy(new[n:], new[:n]). -/
theorem rp_run {w W:World} {g c cap n ty:Nat} {p:S52} (hR:Kd.R k52 52 W w.heap.size (fun _=>True) (.slice (some ⟨g,0,none⟩) c cap) (rpX c p n)) (hn:n<c):
    (Builtin.copy_ #[25,25] ty #[.slice (some ⟨g,n*2,none⟩) (c-n) (cap-n), .slice (some ⟨g,0,none⟩) n cap]).run Try.prog W= .ok (goInt (Nat.min n (c-n):Nat)) (W.setCells g (n*2) (rp_flat ((rpX c p n).take (Nat.min n (c-n))))):=by
  have hl:=rpX_len p (Nat.le_of_lt hn)
  have hml:((rpX c p n).take (Nat.min n (c-n))).length=Nat.min n (c-n):=by
    rw[List.length_take,hl]
    have:Nat.min n (c-n)≤c-n:=Nat.min_le_right _ _
    omega
  have hC:=(Kd.R_reads' hR).2.2
  have hcell:∀j,j<(rp_flat ((rpX c p n).take (Nat.min n (c-n)))).length→(W.cell? ⟨g,n*2+j,none⟩).isSome=true∧W.frozen? ⟨g,n*2+j,none⟩=false:=by
    intro j hj
    rw[rp_flat_len,hml] at hj
    have hj2:Nat.min n (c-n)≤c-n:=Nat.min_le_right _ _
    obtain⟨cs,hcl,hM,hcc,hfr⟩:=Kd.R_elem hR z52 ((n+j / 2:Nat):Int) (by omega) (by omega)
    obtain rfl:=k52_openM hM
    have hsz:k52.sz=2:=rfl
    simp only[hsz,Int.toNat_natCast] at hcc hfr
    have e:n*2+j=(n+j / 2)*2+j%2:=by omega
    rw[e]
    refine⟨?_,hfr (j%2)⟩
    rcases Nat.mod_two_eq_zero_or_one j with hz|hz
    · rw[hz,hcc 0 _ rfl];rfl
    · rw[hz,hcc 1 _ rfl];rfl
  refine rp_copy W 25 25 ty 52 g (n*2) (c-n) (cap-n) ⟨g,0,none⟩ n cap _ Try.underlying25 ?_ ?_ ?_ (fun j hj=>(hcell j hj).1) (fun j hj=>(hcell j hj).2) (rp_flat_one _)
  · exact rp_size
  · rw[rp_flat_len,hml]
  · exact rp_src (by rw[hl] at hC;exact hC) hl.symm _ (by have:Nat.min n (c-n)≤n:=Nat.min_le_left _ _;omega)
theorem rp_first {w W:World} {g c cap c0 ty:Nat} {p:S52} {ad:Addr} (hC:Kd.C k52 w (some ad) 1 [p]) (hB:Below w.heap.size w W) (hR:Kd.R k52 52 W w.heap.size (fun _=>True) (.slice (some ⟨g,0,none⟩) c cap) (rpX c p 0)) (hc:1≤c):
    (Builtin.copy_ #[25,25] ty #[.slice (some ⟨g,0,none⟩) c cap, .slice (some ad) 1 c0]).run Try.prog W= .ok (goInt (1:Nat)) (W.setCells g 0 (rp_flat [p])):=by
  have hm:Nat.min 1 c=1:=Nat.min_eq_left hc
  have:=rp_copy (P:=Try.prog) W 25 25 ty 52 g 0 c cap ad 1 c0 (rp_flat [p]) Try.underlying25 rp_size (by rw[hm];rfl) (rp_src (xs:=[p]) (Kd.C_below hC hB) rfl 1 (Nat.le_refl _)) ?_ ?_ (rp_flat_one _)
  · rw[hm] at this
    exact this
  all_goals
    intro j hj
    obtain⟨cs,hcl,hM,hcc,hfr⟩:=Kd.R_elem hR z52 0 (by omega) (by omega)
    obtain rfl:=k52_openM hM
    have hsz:k52.sz=2:=rfl
    simp only[hsz,Int.toNat_zero,Nat.zero_mul,Nat.zero_add] at hcc hfr ⊢
    have hj2:j<2:=hj
    first
    |exact hfr j
    | (rcases(show j=0∨j=1 by omega) with rfl|rfl
       · rw[hcc 0 _ rfl];rfl
       · rw[hcc 1 _ rfl];rfl)
theorem rp_first2 {w W:World} {g c cap:Nat} {p:S52} (hR:Kd.R k52 52 W w.heap.size (fun _=>True) (.slice (some ⟨g,0,none⟩) c cap) (rpX c p 0)) (hB:Below w.heap.size w W) (hg:w.heap.size≤g) (hc:1≤c):
    Kd.R k52 52 (W.setCells g 0 (rp_flat [p])) w.heap.size (fun _=>True) (.slice (some ⟨g,0,none⟩) c cap) (rpX c p 1)∧Below w.heap.size w (W.setCells g 0 (rp_flat [p])):=by
  have:=rp_splice (W0:=w) [p] W 0 _ hR (rpX_len p (Nat.zero_le _)).symm (by simpa using hc) hB hg
  have e:(rpX c p 0).take 0++[p]++(rpX c p 0).drop (0+[p].length)=rpX c p 1:=by
    unfold rpX
    simp
  rw[e] at this
  exact this
theorem impl_Point_43.calls (A0:Option Addr) (c0:Nat) (l0:List S52) (a1:Int) (r:List S52) (w:World) (hr0:Kd.C k52 w A0 l0.length l0) (hc0:l0.length≤c0) (h:impl_Point_43.f l0 a1=some r):
    Calls Try.prog 43 #[.slice A0 l0.length c0, .int .i64 a1] w fun e w'=>∃v0_:Value,e= .returned (v0_)∧Kd.R k52 52 w' w.heap.size (fun _=>True) v0_ r∧Below w.heap.size w w':=by
  have hu52:=Try.underlying52
  have HL:(l0.length=1∧1≤a1∧a1≤8)∧r=List.replicate a1.toNat (l0.getD 0 z52):=by
    unfold impl_Point_43.f at h
    split at h
    · exact⟨by assumption,(Option.some.inj h).symm⟩
    · cases h
  clear h
  obtain⟨⟨hl,h1,h8⟩,rfl⟩:=HL
  obtain⟨c,rfl⟩:=Int.eq_ofNat_of_zero_le (show 0≤a1 by omega)
  have hc1:1≤c:=by omega
  have hc8:c≤8:=by omega
  clear h1 h8
  obtain⟨p,rfl⟩:∃p,l0=[p]:=by
    match l0,hl with
    |[p],_=>exact⟨p,rfl⟩
  obtain⟨ad,e0,hx0,hx1⟩:=at_T52 hr0 0 (by omega) (by omega)
  subst e0
  have HR:=Aside0.mk (show Kd.C k52 w (some ad) 1 [p] from hr0)
  show Calls Try.prog 43 #[.slice (some ad) 1 c0, .int .i64 (c:Int)] w fun e w'=>∃v0_:Value,e= .returned (v0_)∧Kd.R k52 52 w' w.heap.size (fun _=>True) v0_ (List.replicate c p)∧Below w.heap.size w w'
  clear hr0 hc0 hl hx0 hx1
  have hmul:=rp_mul ⟨c,by omega⟩
  simp only at hmul
  have HM:=Aside0.mk hmul
  have HC:=Aside0.mk (And.intro hc1 hc8)
  have t1:decide ((c:Int)<0)=false:=by simp
  have t2:IntKind.u64.wrap (c:Int)=(c:Int):=by rw[IntKind.wrap_u64];omega
  have t3:decide ((9223372036854775807:Int)<(c:Int))=false:=by simp;omega
  have t4:IntKind.i64.wrap (c:Int)=(c:Int):=by rw[IntKind.wrap_i64];omega
  clear hmul hc1 hc8
  have HB:=Aside0.mk (Below.refl w.heap.size w)
  go_enter Try.func43,Try.ntmps43
  go_wp2_with (first|(go_at_call 94;(with_reducible refine(bits_Mul.calls 1 (c:Int) 0 (c:Int) _ HM.out).mono ?_);rintro e w' ⟨rfl,⟨nd,rfl⟩⟩)|((with_reducible refine gate_dst (N:=30) rfl ?_);refine Kd.R_make k52 (w0:=w) w.heap.size 52 rfl (N:=30) rfl 25 (.tmp 29) (.tmp 29) rfl (c:Int) ?hx ?hy Try.underlying25 (.agg #[.int .i64 0, .int .i64 0]) 16 info52 rfl (by decide) (by decide) z52 (ok:=fun _=>True) (okp:=fun _=>True) (k52_mkM _ _ _ _) (fun _ h=>h) trivial (by omega) (by have:=HC.out.2;omega) ?hB ?hS ?_;(case hx=>rfl);(case hy=>rfl);(case hB=>exact pw_below_drewN HB.out _);(case hS=>exact Nat.le_refl _);intro v1 w1 ho hb hg hnew;have HB1:=Aside0.mk hb;have HO0:=Aside0.mk ho;clear ho hb hg hnew))
  obtain⟨g,cap,ev,hgB,hgl,cells,hcells⟩:=Kd.R_form HO0.out (by have:=HC.out;simp;omega)
  have hlr:(List.replicate (c:Int).toNat z52).length=c:=by simp
  rw[hlr] at ev
  subst ev
  have ho2:=HO0.out
  have HO:=Aside0.mk (show Kd.R k52 52 w1 w.heap.size (fun _=>True) (.slice (some ⟨g,0,none⟩) c cap) (rpX c p 0) from by unfold rpX;simpa using ho2)
  have GB:=Aside0.mk hgB
  clear ho2 HO0 hgB hgl hcells hlr
  have hcp:=rp_first (ty:=3) (c0:=c0) HR.out HB1.out HO.out HC.out.1
  have hx2:=rp_first2 HO.out HB1.out GB.out HC.out.1
  have HX:=Aside0.mk hx2.1
  have HB2:=Aside0.mk hx2.2
  clear hx2 HB1 HO
  rw[hcp]
  clear hcp
  go_wp2
  (try simp only[Act.put,List.setIfInBounds_toArray,List.set_cons_zero,List.set_cons_succ])
  go_loopg [8] c (fun kq v8 w'=>∃n:Nat,v8= .int .i64 (n:Int)∧Aside0 (1≤n∧n≤c∧c-n<kq)∧Aside0 (Kd.R k52 52 w' w.heap.size (fun _=>True) (.slice (some ⟨g,0,none⟩) c cap) (rpX c p n))∧Aside0 (Below w.heap.size w w'))
  case atStart=>exact⟨1,rfl,⟨by have:=HC.out;omega⟩,HX,HB2⟩
  case round=>
    obtain⟨n,rfl,HN,HO,HB⟩:=hrel
    cases gk with
    |zero=>exact absurd HN.out.2.2 (by omega)
    | succ k1=>
      by_cases hn:n<c
      · have u1:decide ((n:Int)<(c:Int))=true:=by simp;omega
        have hcap:=(Kd.R_reads' HO.out).2.1
        obtain⟨i52,hi52,_,hs52,_⟩:=info_parts info52
        have cA:=cut_from (P:=Try.prog) 25 52 .i64 Try.underlying25 hi52 2 hs52 (some ⟨g,0,none⟩) c cap (n:Int) (by omega) (by omega)
        have cB:=cut_to (P:=Try.prog) 25 52 .i64 Try.underlying25 hi52 (some ⟨g,0,none⟩) c cap (n:Int) (by omega) (by omega) hcap
        simp only[Int.toNat_natCast] at cA cB
        rw[if_neg (by omega),Option.map_some,add_plain] at cA
        try go_wp2
        have n0_:=Aside0.mk (Kd.R_drew HO.out)
        have n1_:=Aside0.mk (below_drew1 HB.out)
        clear HO HB
        have HO:=n0_
        have HB:=n1_
        clear n0_ n1_
        have hrun:=rp_run (ty:=3) HO.out hn
        have hm1:Nat.min n (c-n)≤n:=Nat.min_le_left _ _
        have hm2:Nat.min n (c-n)≤c-n:=Nat.min_le_right _ _
        have hm3:1≤Nat.min n (c-n):=Nat.le_min.2 ⟨HN.out.1,by omega⟩
        have hsp:=rp_splice (W0:=w) ((rpX c p n).take (Nat.min n (c-n))) _ n _ HO.out (rpX_len p (Nat.le_of_lt hn)).symm (by rw[List.length_take,rpX_len p (Nat.le_of_lt hn)];omega) HB.out GB.out
        rw[show((rpX c p n).take (Nat.min n (c-n))).length=Nat.min n (c-n) by rw[List.length_take,rpX_len p (Nat.le_of_lt hn)];omega,rpX_step p (by omega) hm1] at hsp
        have HO2:=Aside0.mk hsp.1
        have HB2:=Aside0.mk hsp.2
        have HN2:=Aside0.mk (show 1≤n+Nat.min n (c-n)∧n+Nat.min n (c-n)≤c∧c-(n+Nat.min n (c-n))<k1 by have:=HN.out;omega)
        have HW:=Aside0.mk (show wrap64 ((n:Int)+((Nat.min n (c-n):Nat):Int))=((n+Nat.min n (c-n):Nat):Int) by have:=HC.out;unfold wrap64;omega)
        clear hm1 hm2 hm3 hsp hcap hn
        refine start_ (n:=10) (S:=fun w'=>True) (ds:=[]) #[false,false,false,false,false,false,false,false,false,false] (by kernel_rfl) rfl rfl trivial (fun hHeld=> ?_);refine with_tabW impl_Point_43.tab9 impl_Point_43.bits9 (fun HT_ HW_=> ?_)
        refine pure_ (i:=0) (N:=some 38) (v:= ?_) (a':= ?_) #[true,false,false,false,false,false,false,false,false,false] rfl rfl (any_of HT_.out (by kernel_rfl)) (fun _ _ _ h=>h) (Or.inl ⟨by rfl,?_⟩) ?_ ?_
        rotate_left
        · intro w'
          go_simp
          with_reducible rfl
        rotate_left
        · simp only[Act.put,List.setIfInBounds_toArray,List.set_cons_zero,List.set_cons_succ,i64_w,i32_w]
          rfl
        refine pure_ (i:=1) (N:=some 39) (v:= ?_) (a':= ?_) #[true,true,false,false,false,false,false,false,false,false] rfl rfl (any_of HT_.out (by kernel_rfl)) (fun _ _ _ h=>h) (Or.inl ⟨by rfl,?_⟩) ?_ ?_
        rotate_left
        · intro w'
          go_simp
          with_reducible rfl
        rotate_left
        · simp only[Act.put,List.setIfInBounds_toArray,List.set_cons_zero,List.set_cons_succ,i64_w,i32_w]
          rfl
        refine pure_ (i:=2) (N:=some 40) (v:= ?_) (a':= ?_) #[true,true,true,false,false,false,false,false,false,false] rfl rfl (any_of HT_.out (by kernel_rfl)) (fun _ _ _ h=>h) (Or.inl ⟨by rfl,?_⟩) ?_ ?_
        rotate_left
        · intro w'
          go_simp
          with_reducible rfl
        rotate_left
        · simp only[Act.put,List.setIfInBounds_toArray,List.set_cons_zero,List.set_cons_succ,i64_w,i32_w]
          rfl
        refine pure_ (i:=3) (N:=some 41) (v:= ?_) (a':= ?_) #[true,true,true,true,false,false,false,false,false,false] rfl rfl (any_of HT_.out (by kernel_rfl)) (fun _ _ _ h=>h) (Or.inl ⟨by rfl,?_⟩) ?_ ?_
        rotate_left
        · intro w'
          go_simp
          with_reducible rfl
        rotate_left
        · simp only[Act.put,List.setIfInBounds_toArray,List.set_cons_zero,List.set_cons_succ,i64_w,i32_w]
          rfl
        refine pure_ (i:=4) (N:=some 42) (v:= ?_) (a':= ?_) #[true,true,true,true,true,false,false,false,false,false] rfl rfl (any_of HT_.out (by kernel_rfl)) (fun _ _ _ h=>h) (Or.inl ⟨by rfl,?_⟩) ?_ ?_
        rotate_left
        · intro w'
          go_simp
          with_reducible rfl
        rotate_left
        · simp only[Act.put,List.setIfInBounds_toArray,List.set_cons_zero,List.set_cons_succ,i64_w,i32_w]
          rfl
        refine pure_ (i:=5) (N:=some 43) (v:= ?_) (a':= ?_) #[true,true,true,true,true,true,false,false,false,false] rfl rfl (any_of HT_.out (by kernel_rfl)) (fun _ _ _ h=>h) (Or.inl ⟨by rfl,?_⟩) ?_ ?_
        rotate_left
        · intro w'
          go_simp
          with_reducible rfl
        rotate_left
        · simp only[Act.put,List.setIfInBounds_toArray,List.set_cons_zero,List.set_cons_succ,i64_w,i32_w]
          rfl
        refine pure_ (i:=6) (N:=some 44) (v:= ?_) (a':= ?_) #[true,true,true,true,true,true,true,false,false,false] rfl rfl (any_of HT_.out (by kernel_rfl)) (fun _ _ _ h=>h) (Or.inl ⟨by rfl,?_⟩) ?_ ?_
        rotate_left
        · intro w'
          go_simp
          with_reducible rfl
        rotate_left
        · simp only[Act.put,List.setIfInBounds_toArray,List.set_cons_zero,List.set_cons_succ,i64_w,i32_w]
          rfl
        refine one_ (i:=7) (N:=some 45) #[true,true,true,true,true,true,true,true,false,false] rfl rfl (one_of HT_.out (by kernel_rfl)) (by decide) (fun K hK=> ?_)
        refine value_ (by rfl) rfl (rp_exec rfl (.slice (some ⟨g,n*2,none⟩) (c-n) (cap-n)) (.slice (some ⟨g,0,none⟩) n cap) rfl rfl 3 rfl hrun) ?_
        refine hK.out _ _ trivial (fun hHeld=> ?_)
        clear hK K
        refine norm_ (a':= ?_) ?_ ?_
        rotate_left
        · show Act.put _ (some 45) _=_
          simp only[Act.put,List.setIfInBounds_toArray,List.set_cons_zero,List.set_cons_succ,i64_w,i32_w]
          rfl
        refine pure_ (i:=8) (N:=some 46) (v:= ?_) (a':= ?_) #[true,true,true,true,true,true,true,true,true,false] rfl rfl (any_of HT_.out (by kernel_rfl)) (fun _ _ _ h=>h) (Or.inl ⟨by rfl,?_⟩) ?_ ?_
        rotate_left
        · intro w'
          go_simp
          with_reducible rfl
        rotate_left
        · simp only[Act.put,List.setIfInBounds_toArray,List.set_cons_zero,List.set_cons_succ,i64_w,i32_w]
          rfl
        refine pure_ (i:=9) (N:=some 8) (v:= ?_) (a':= ?_) #[true,true,true,true,true,true,true,true,true,true] rfl rfl (any_of HT_.out (by kernel_rfl)) (fun _ _ _ h=>h) (Or.inl ⟨by rfl,?_⟩) ?_ ?_
        rotate_left
        · intro w'
          go_simp
          with_reducible rfl
        rotate_left
        · simp only[Act.put,List.setIfInBounds_toArray,List.set_cons_zero,List.set_cons_succ,i64_w,i32_w]
          rfl
        refine done_ (done_of HT_.out (by kernel_rfl)) ?_
        try go_wp2
        go_roundg k1
        case measure=>omega
        case rel=>exact⟨n+Nat.min n (c-n),congrArg _ (by first|exact HW.out|(simpa using HW.out)),HN2,HO2,HB2⟩
      · have u1:decide ((n:Int)<(c:Int))=false:=by simp;omega
        go_wp2
        go_ret
        have hnc:n=c:=by have:=HN.out;omega
        subst hnc
        refine⟨_,rfl,?_,HB.out⟩
        have:=HO.out
        unfold rpX at this
        rw[Nat.sub_self,List.replicate_zero,List.append_nil] at this
        exact this
end Go.Proofs.Ytapobpkeefeajaa.PFnModem
