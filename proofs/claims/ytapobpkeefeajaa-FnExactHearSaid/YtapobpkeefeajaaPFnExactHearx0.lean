-- A turned copy of the print's text.
import Derived.Test.YtapobpkeefeajaaProg
import Derived.Below
import Derived.Deep.Draws
import Derived.Deep.AppendLies
import Derived.Maps.AppendAt
import Derived.OwnWalk
import Derived.Laws.BytesArg
import Derived.Laws.MakeOwn
import Derived.Laws.OwnMore
import Derived.Deep.OwnRows
import Derived.Tactics
import Derived.Lib.ConvBytes
import Derived.Laws.Slices
import Derived.WalkKit
import Derived.KernelRfl
import Derived.RowKit3
import Derived.Deep.LoopGhost
import Derived.Deep.QuietTactic
import Derived.BigQuiet
import Derived.WideLaws
import Derived.Deep.DeepCutAuto
import Derived.Deep.CutBlock
import Derived.Deep.RegionHeld3
import Derived.Laws.Rows
import Derived.Lib.AppendStr
import Derived.ArgAppend
import Derived.Laws.IdiomCopy
import Derived.OrdersHeld
import Derived.Laws.BitsLemmas
import Derived.RowKit
import Derived.Laws.IdiomCopy
import Derived.Lib.OthersKept
import Derived.Laws.RangeAny
import Derived.LoopTactic
import Derived.Lib.SliceRun
import Derived.StillTailTactics
import Derived.Maps.OwnSet
import Derived.Deep.RegionLaw
import Derived.Test.YtapobpkeefeajaaVWords
import Derived.Test.YtapobpkeefeajaaVLast
import Derived.Test.YtapobpkeefeajaaVTab
import Derived.Test.YtapobpkeefeajaaVFour
import Derived.Test.YtapobpkeefeajaaVQPut
import Derived.Test.YtapobpkeefeajaaVApart
import Derived.Test.YtapobpkeefeajaaVArr
import Derived.Test.YtapobpkeefeajaaVZeros
import Derived.Test.YtapobpkeefeajaaVFoot
import Derived.Test.YtapobpkeefeajaaVKept
import Derived.Test.YtapobpkeefeajaaVShare
import Derived.Test.YtapobpkeefeajaaVN
import Derived.Test.YtapobpkeefeajaaVFootNe
import Derived.Test.YtapobpkeefeajaaVAt
import Derived.Test.YtapobpkeefeajaaVEqStruct
import Derived.Test.YtapobpkeefeajaaVRepsOne
import Derived.Test.YtapobpkeefeajaaVInv
import Derived.Test.YtapobpkeefeajaaVInvWords
import Derived.Test.YtapobpkeefeajaaVGuard
import Derived.Test.YtapobpkeefeajaaVNEv
import Derived.Test.YtapobpkeefeajaaVMore
namespace Go.Proofs.Ytapobpkeefeajaa.PFnExactHear
open Go.RowKit Go.Proofs.YtapobpkeefeajaaW.PrintWords Go.Proofs.YtapobpkeefeajaaW.PrintLast Go.Proofs.YtapobpkeefeajaaW.PrintMore
attribute [local go_sem] max2_int min2_int max_two min_two max_three min_three max_four min_four
set_option linter.unusedVariables false
set_option linter.unusedSimpArgs false
def errW:Option Int→Value
 |none=> .nilIface
 |some c=> .iface 0 (.int .i64 c)
theorem errW_none:errW none= .nilIface:=rfl
theorem errW_some (c:Int):errW (some c)= .iface 0 (.int .i64 c):=rfl
theorem info3:(Try.prog.info? 3).map (fun i=>(i.zero,i.size,i.bytes))=some (some (.int .i64 0),1,8):=by kernel_rfl
theorem info5:(Try.prog.info? 5).map (fun i=>(i.zero,i.size,i.bytes))=some (some (.int .u8 0),1,1):=by kernel_rfl
theorem info46:(Try.prog.info? 46).map (fun i=>(i.zero,i.size,i.bytes))=some (some (.slice none 0 0),1,24):=by kernel_rfl
theorem info52:(Try.prog.info? 52).map (fun i=>(i.zero,i.size,i.bytes))=some (some (.agg #[(.int .i64 0),(.int .i64 0)]),2,16):=by kernel_rfl
-- the values' own types
/-! #### struct type 52 -/
structure S52 where
  f0:Int
  f1:Int
def z52:S52:=⟨(0:Int),(0:Int)⟩
def k52:Kd S52:=Kd.iso (Kd.pair (Kd.int .i64) (Kd.int .i64)) (fun x:S52=>(x.f0,x.f1))
theorem k52_open {w:World} {x:S52} {cs:List Value} (h:k52.K w x cs):cs=[.int .i64 x.f0, .int .i64 x.f1]:=by
 obtain⟨_,_,rfl,rfl,rfl⟩:=h
 exact rfl
theorem k52_openM {w:World} {base:Nat} {ok:Nat→Prop} {x:S52} {cs:List Value} (h:k52.M w base ok x cs):cs=[.int .i64 x.f0, .int .i64 x.f1]:=by
 obtain⟨_,_,rfl,rfl,rfl⟩:=h
 exact rfl
theorem k52_mk (w:World) (x:S52):k52.K w x [.int .i64 x.f0, .int .i64 x.f1]:=⟨[.int .i64 x.f0],[.int .i64 x.f1],rfl,rfl,rfl⟩
theorem k52_mkM (w:World) (base:Nat) (ok:Nat→Prop) (x:S52):k52.M w base ok x [.int .i64 x.f0, .int .i64 x.f1]:=⟨[.int .i64 x.f0],[.int .i64 x.f1],rfl,rfl,rfl⟩
def rd_T52 (xs:List S52) (i:Int):S52:=xs.getD i.toNat z52
theorem at_T52 {w:World} {A:Option Addr} {n:Nat} {xs:List S52} (h:Kd.C k52 w A n xs) (i:Int) (h0:0≤i) (h1:i<n):∃ad,A=some ad∧w.cell? (ad.add (i.toNat*2))=some (.int .i64 (rd_T52 xs i).f0)∧w.cell? ⟨(ad.add (i.toNat*2)).block,(ad.add (i.toNat*2)).off+1,none⟩=some (.int .i64 (rd_T52 xs i).f1):=by
 obtain⟨ad,c,e,_,hK,hc0⟩:=Kd.C_get h z52 i h0 h1
 have hc:∀j u,c[j]? =some u→w.cell? (ad.add (i.toNat*2+j))=some u:=hc0
 obtain rfl:=k52_open hK
 exact⟨ad,e,hc 0 _ rfl,by rw[←add_field _ _ 1 (by omega)];exact hc 1 _ rfl⟩
/-! #### struct type 87 -/
structure S87 where
  f0:Int
  f1:Int
def z87:S87:=⟨(0:Int),(0:Int)⟩
def k87:Kd S87:=Kd.iso (Kd.pair (Kd.int .i64) (Kd.int .i64)) (fun x:S87=>(x.f0,x.f1))
theorem k87_open {w:World} {x:S87} {cs:List Value} (h:k87.K w x cs):cs=[.int .i64 x.f0, .int .i64 x.f1]:=by
 obtain⟨_,_,rfl,rfl,rfl⟩:=h
 exact rfl
theorem k87_openM {w:World} {base:Nat} {ok:Nat→Prop} {x:S87} {cs:List Value} (h:k87.M w base ok x cs):cs=[.int .i64 x.f0, .int .i64 x.f1]:=by
 obtain⟨_,_,rfl,rfl,rfl⟩:=h
 exact rfl
theorem k87_mk (w:World) (x:S87):k87.K w x [.int .i64 x.f0, .int .i64 x.f1]:=⟨[.int .i64 x.f0],[.int .i64 x.f1],rfl,rfl,rfl⟩
theorem k87_mkM (w:World) (base:Nat) (ok:Nat→Prop) (x:S87):k87.M w base ok x [.int .i64 x.f0, .int .i64 x.f1]:=⟨[.int .i64 x.f0],[.int .i64 x.f1],rfl,rfl,rfl⟩
def rd_T87 (xs:List S87) (i:Int):S87:=xs.getD i.toNat z87
theorem at_T87 {w:World} {A:Option Addr} {n:Nat} {xs:List S87} (h:Kd.C k87 w A n xs) (i:Int) (h0:0≤i) (h1:i<n):∃ad,A=some ad∧w.cell? (ad.add (i.toNat*2))=some (.int .i64 (rd_T87 xs i).f0)∧w.cell? ⟨(ad.add (i.toNat*2)).block,(ad.add (i.toNat*2)).off+1,none⟩=some (.int .i64 (rd_T87 xs i).f1):=by
 obtain⟨ad,c,e,_,hK,hc0⟩:=Kd.C_get h z87 i h0 h1
 have hc:∀j u,c[j]? =some u→w.cell? (ad.add (i.toNat*2+j))=some u:=hc0
 obtain rfl:=k87_open hK
 exact⟨ad,e,hc 0 _ rfl,by rw[←add_field _ _ 1 (by omega)];exact hc 1 _ rfl⟩
def rd_L4 (xs:List (List Int)) (i:Int):(List Int):=xs.getD i.toNat ([]:List Int)
theorem at_L4 {w:World} {A:Option Addr} {n:Nat} {xs:List (List Int)} (h:Kd.C (Kd.slice 3 (Kd.int .i64)) w A n xs) (i:Int) (h0:0≤i) (h1:i<n):∃ad A0 c0,A=some ad∧w.cell? (ad.add i.toNat)=some (.slice A0 (rd_L4 xs i).length c0)∧(rd_L4 xs i).length≤c0∧(Kd.int .i64).C w A0 (rd_L4 xs i).length (rd_L4 xs i):=by
 obtain⟨ad,c,e,_,hK,hc0⟩:=Kd.C_get h ([]:List Int) i h0 h1
 have hc:∀j u,c[j]? =some u→w.cell? (ad.add (i.toNat*1+j))=some u:=hc0
 obtain⟨A0,c0,rfl,l0,g0⟩:=hK
 exact⟨ad,A0,c0,e,by have hq:=hc 0 _ rfl;rwa[Nat.mul_one,Nat.add_zero] at hq,l0,g0⟩
theorem zc2 {w:World} {g:Nat} {t:TypeId} {a0 a1:Value} (h:w.heap[g]? =some (.cells #[a0,a1] t (0,0))):w.cell? ⟨g,0,none⟩=some a0∧w.cell? ⟨g,1,none⟩=some a1∧w.frozen? ⟨g,0,none⟩=false∧w.frozen? ⟨g,1,none⟩=false:=
 ⟨(blk_cell h 0).trans rfl,(blk_cell h 1).trans rfl,blk_frozen h 0,blk_frozen h 1⟩
theorem zc6 {w:World} {g:Nat} {t:TypeId} {a0 a1 a2 a3 a4 a5:Value} (h:w.heap[g]? =some (.cells #[a0,a1,a2,a3,a4,a5] t (0,0))):w.cell? ⟨g,0,none⟩=some a0∧w.cell? ⟨g,1,none⟩=some a1∧w.cell? ⟨g,2,none⟩=some a2∧w.cell? ⟨g,3,none⟩=some a3∧w.cell? ⟨g,4,none⟩=some a4∧w.cell? ⟨g,5,none⟩=some a5∧w.frozen? ⟨g,0,none⟩=false∧w.frozen? ⟨g,1,none⟩=false∧w.frozen? ⟨g,2,none⟩=false∧w.frozen? ⟨g,3,none⟩=false∧w.frozen? ⟨g,4,none⟩=false∧w.frozen? ⟨g,5,none⟩=false:=
 ⟨(blk_cell h 0).trans rfl,(blk_cell h 1).trans rfl,(blk_cell h 2).trans rfl,(blk_cell h 3).trans rfl,(blk_cell h 4).trans rfl,(blk_cell h 5).trans rfl,blk_frozen h 0,blk_frozen h 1,blk_frozen h 2,blk_frozen h 3,blk_frozen h 4,blk_frozen h 5⟩
theorem zr {P p:Prop} (x:Aside0 P) (h:P→p:=by intro h_;(with_reducible repeat(first|apply zRa|apply zRn|apply zRd));first|exact h_|(subst_vars;exact h_)):p:=h x.out
theorem zc {P p:Prop} (x:P) (h:P→p:=by intro h_;repeat(first|(with_reducible exact h_)|(with_reducible first|refine zCa ?_ _|refine zCn ?_ _|refine zCd ?_)|exact h_)):p:=h x
theorem zg {p:Prop} (h:p:=by(try simp only[List.map_toArray,List.map_cons,List.map_nil]);first|done|rfl|(simp only[List.length_drop,List.length_take];rfl)):p:=h
theorem zs {p:Prop} (h:p:=by first|rfl|(simp;done)|(simp[*];done)):p:=h
theorem zq {p:Prop} (h:p:=by first|rfl|(simp[errW_none,errW_some]<;>rfl)|(simp[*,errW_none,errW_some]<;>rfl)):p:=h
theorem zl1 {P p:Prop} (x:Aside0 P) (h:P→p:=by intro _;omega):p:=h x.out
theorem zl2 {P Q p:Prop} (x:Aside0 P) (y:Aside0 Q) (h:P→Q→p:=by intro _ _;omega):p:=h x.out y.out
theorem zd {p:Prop} (h:p:=by repeat(first|exact Drawn0.refl _|apply Drawn0.step)):p:=h
theorem zo {p:Prop} (h:p:=by first|omega|exact Nat.le_refl _):p:=h
theorem zz {p:Prop} (h:p:=by first|exact Kd.R_nil _ _ _ _ _|exact Kd.N_nil _ _ _ _ _|exact Kd.V_nil _ _ _ _ _|exact Kd.Q_nil _ _ _ _ _|exact Kd.S_nil _ _ _ _ _):p:=h
theorem zh {p:Prop} (h:p:=by first|(go_simp;done)|(go_simp;rfl)):p:=h
theorem ze {p:Prop} (h:p:=by kernel_rfl):p:=h
theorem za {p:Prop} (h:p:=by simp only[Act.put,List.setIfInBounds_toArray,List.set_cons_zero,List.set_cons_succ,i64_w,i32_w];rfl):p:=h
theorem zv {p:Prop} (h:p:=by intro w';go_simp;with_reducible rfl):p:=h
theorem zb {p:Prop} (h:p:=by repeat(first|(with_reducible first|exact HB.out|apply zBa|apply zBn|apply zBd)|exact HB.out)):p:=h
theorem zk {p:Prop} (h:p:=by repeat(first|(with_reducible first|exact HK.out|apply KeepBut.set_|apply keep_drewN|apply keep_drew|apply keep_alloc)|exact HK.out)):p:=h
theorem zn {P p:Prop} (x:Aside0 P) (h:P→p:=by intro h_;(with_reducible repeat(first|apply zNn|apply zNd|apply zNa));exact h_):p:=h x.out
theorem zb1 {p:Prop} (h:p:=by repeat(first|(with_reducible first|exact HB.out|apply zBa|apply zBn|apply zBd|refine zBs ?_ GE101.out)|exact HB.out)):p:=h
theorem zb2 {p:Prop} (h:p:=by repeat(first|(with_reducible first|exact HB.out|apply zBa|apply zBn|apply zBd|refine zBs ?_ GE101.out|refine zBs ?_ GE102.out)|exact HB.out)):p:=h
theorem zb3 {p:Prop} (h:p:=by repeat(first|(with_reducible first|exact HB.out|apply zBa|apply zBn|apply zBd|refine zBs ?_ GE101.out|refine zBs ?_ GE102.out|refine zBs ?_ GE103.out)|exact HB.out)):p:=h
theorem zb4 {p:Prop} (h:p:=by repeat(first|(with_reducible first|exact HB.out|apply zBa|apply zBn|apply zBd|refine zBs ?_ GE104.out)|exact HB.out)):p:=h
theorem zb5 {p:Prop} (h:p:=by repeat(first|(with_reducible first|exact HB.out|apply zBa|apply zBn|apply zBd|refine zBs ?_ GE104.out|refine zBs ?_ GE105.out)|exact HB.out)):p:=h
theorem zb6 {p:Prop} (h:p:=by repeat(first|(with_reducible first|exact HB.out|apply zBa|apply zBn|apply zBd|refine zBs ?_ GE510.out)|exact HB.out)):p:=h
theorem zb7 {p:Prop} (h:p:=by repeat(first|(with_reducible first|exact HB.out|apply zBa|apply zBn|apply zBd|refine zBs ?_ GE571.out)|exact HB.out)):p:=h
theorem zb8 {p:Prop} (h:p:=by repeat(first|(with_reducible first|exact HB.out|apply zBa|apply zBn|apply zBd|refine zBs ?_ GE571.out|refine zBs ?_ GE582.out)|exact HB.out)):p:=h
theorem zb9 {p:Prop} (h:p:=by repeat(first|(with_reducible first|exact HB.out|apply zBa|apply zBn|apply zBd|refine zBs ?_ GE571.out|refine zBs ?_ GE582.out|refine zBs ?_ GE593.out)|exact HB.out)):p:=h
theorem zb10 {p:Prop} (h:p:=by repeat(first|(with_reducible first|exact HB.out|apply zBa|apply zBn|apply zBd|refine zBs ?_ GE219.out)|exact HB.out)):p:=h
theorem zb11 {p:Prop} (h:p:=by repeat(first|(with_reducible first|exact HB.out|apply zBa|apply zBn|apply zBd|refine zBs ?_ GE243.out)|exact HB.out)):p:=h
theorem zb12 {p:Prop} (h:p:=by repeat(first|(with_reducible first|exact HB.out|apply zBa|apply zBn|apply zBd|refine zBs ?_ GE248.out)|exact HB.out)):p:=h
theorem zb13 {p:Prop} (h:p:=by repeat(first|(with_reducible first|exact HB.out|apply zBa|apply zBn|apply zBd|refine zBs ?_ GE248.out|refine zBs ?_ GE249.out)|exact HB.out)):p:=h
theorem zb14 {p:Prop} (h:p:=by repeat(first|(with_reducible first|exact HB.out|apply zBa|apply zBn|apply zBd|refine zBs ?_ GE252.out)|exact HB.out)):p:=h
theorem zb15 {p:Prop} (h:p:=by repeat(first|(with_reducible first|exact HB.out|apply zBa|apply zBn|apply zBd|refine zBs ?_ GE252.out|refine zBs ?_ GE253.out)|exact HB.out)):p:=h
theorem zb16 {p:Prop} (h:p:=by repeat(first|(with_reducible first|exact HB.out|apply zBa|apply zBn|apply zBd|refine zBs ?_ GE114.out)|exact HB.out)):p:=h
theorem zb17 {p:Prop} (h:p:=by repeat(first|(with_reducible first|exact HB.out|apply zBa|apply zBn|apply zBd|refine zBs ?_ GE127.out)|exact HB.out)):p:=h
theorem zb18 {p:Prop} (h:p:=by repeat(first|(with_reducible first|exact HB.out|apply zBa|apply zBn|apply zBd|refine zBs ?_ GE130.out)|exact HB.out)):p:=h
theorem zb19 {p:Prop} (h:p:=by repeat(first|(with_reducible first|exact HB.out|apply zBa|apply zBn|apply zBd|refine zBs ?_ GE444.out)|exact HB.out)):p:=h
theorem zb20 {p:Prop} (h:p:=by repeat(first|(with_reducible first|exact HB.out|apply zBa|apply zBn|apply zBd|refine zBs ?_ GE444.out|refine zBs ?_ GE454.out)|exact HB.out)):p:=h
theorem zb21 {p:Prop} (h:p:=by repeat(first|(with_reducible first|exact HB.out|apply zBa|apply zBn|apply zBd|refine zBs ?_ GE444.out|refine zBs ?_ GE454.out|refine zBs ?_ GE468.out)|exact HB.out)):p:=h
theorem zb22 {p:Prop} (h:p:=by repeat(first|(with_reducible first|exact HB.out|apply zBa|apply zBn|apply zBd|refine zBs ?_ GE502.out)|exact HB.out)):p:=h
theorem zb23 {p:Prop} (h:p:=by repeat(first|(with_reducible first|exact HB.out|apply zBa|apply zBn|apply zBd|refine zBs ?_ GE502.out|refine zBs ?_ GE503.out)|exact HB.out)):p:=h
theorem zb24 {p:Prop} (h:p:=by repeat(first|(with_reducible first|exact HB.out|apply zBa|apply zBn|apply zBd|refine zBs ?_ GE502.out|refine zBs ?_ GE503.out|refine zBs ?_ GE504.out)|exact HB.out)):p:=h
theorem zb25 {p:Prop} (h:p:=by repeat(first|(with_reducible first|exact HB.out|apply zBa|apply zBn|apply zBd|refine zBs ?_ GE513.out)|exact HB.out)):p:=h
theorem zb26 {p:Prop} (h:p:=by repeat(first|(with_reducible first|exact HB.out|apply zBa|apply zBn|apply zBd|refine zBs ?_ GE132.out)|exact HB.out)):p:=h
theorem zb27 {p:Prop} (h:p:=by repeat(first|(with_reducible first|exact HB.out|apply zBa|apply zBn|apply zBd|refine zBs ?_ GE132.out|refine zBs ?_ GE133.out)|exact HB.out)):p:=h
theorem zb28 {p:Prop} (h:p:=by repeat(first|(with_reducible first|exact HB.out|apply zBa|apply zBn|apply zBd|refine zBs ?_ GE134.out)|exact HB.out)):p:=h
theorem zb29 {p:Prop} (h:p:=by repeat(first|(with_reducible first|exact HB.out|apply zBa|apply zBn|apply zBd|refine zBs ?_ GE134.out|refine zBs ?_ GE135.out)|exact HB.out)):p:=h
theorem zb30 {p:Prop} (h:p:=by repeat(first|(with_reducible first|exact HB.out|apply zBa|apply zBn|apply zBd|refine zBs ?_ GE134.out|refine zBs ?_ GE135.out|refine zBs ?_ GE137.out)|exact HB.out)):p:=h
theorem zb31 {p:Prop} (h:p:=by repeat(first|(with_reducible first|exact HB.out|apply zBa|apply zBn|apply zBd|refine zBs ?_ GE519.out)|exact HB.out)):p:=h
theorem zv1 {p:Prop} (h:p:=by rintro w' ⟨s0⟩;go_simp;with_reducible rfl):p:=h
theorem zv2 {p:Prop} (h:p:=by rintro w' ⟨s0,s1⟩;go_simp;with_reducible rfl):p:=h
theorem zv3 {p:Prop} (h:p:=by rintro w' ⟨s0,s1,s2⟩;go_simp;with_reducible rfl):p:=h
theorem zv4 {p:Prop} (h:p:=by rintro w' ⟨s0,s1,s2,s3⟩;go_simp;with_reducible rfl):p:=h
theorem zv5 {p:Prop} (h:p:=by rintro w' ⟨s0,s1,s2,s3,s4⟩;go_simp;with_reducible rfl):p:=h
theorem zv6 {p:Prop} (h:p:=by rintro w' ⟨s0,s1,s2,s3,s4,s5⟩;go_simp;with_reducible rfl):p:=h
theorem zv7 {p:Prop} (h:p:=by rintro w' ⟨s0,s1,s2,s3,s4,s5,s6⟩;go_simp;with_reducible rfl):p:=h
theorem zv8 {p:Prop} (h:p:=by rintro w' ⟨s0,s1,s2,s3,s4,s5,s6,s7⟩;go_simp;with_reducible rfl):p:=h
theorem zv9 {p:Prop} (h:p:=by rintro w' ⟨s0,s1,s2,s3,s4,s5,s6,s7,s8⟩;go_simp;with_reducible rfl):p:=h
theorem zv10 {p:Prop} (h:p:=by rintro w' ⟨s0,s1,s2,s3,s4,s5,s6,s7,s8,s9⟩;go_simp;with_reducible rfl):p:=h
theorem zv11 {p:Prop} (h:p:=by rintro w' ⟨s0,s1,s2,s3,s4,s5,s6,s7,s8,s9,s10⟩;go_simp;with_reducible rfl):p:=h
theorem zv12 {p:Prop} (h:p:=by rintro w' ⟨s0,s1,s2,s3,s4,s5,s6,s7,s8,s9,s10,s11⟩;go_simp;with_reducible rfl):p:=h
theorem zv13 {p:Prop} (h:p:=by rintro w' ⟨s0,s1,s2,s3,s4,s5,s6,s7,s8,s9,s10,s11,s12⟩;go_simp;with_reducible rfl):p:=h
theorem zv14 {p:Prop} (h:p:=by rintro w' ⟨s0,s1,s2,s3,s4,s5,s6,s7,s8,s9,s10,s11,s12,s13⟩;go_simp;with_reducible rfl):p:=h
theorem zv15 {p:Prop} (h:p:=by rintro w' ⟨s0,s1,s2,s3,s4,s5,s6,s7,s8,s9,s10,s11,s12,s13,s14⟩;go_simp;with_reducible rfl):p:=h
theorem zw {a b g:Nat} (hg:g=a) (x:b≤a):b≤g:=hg▸x
theorem zy {α:Type} {y z:α} {P p:Prop} (e:y=z) (x:P) (h:y=z→P→p:=by intro e_ h_;subst e_;exact h_):p:=h e x
theorem zFT:¬(false=true):=by decide
section
variable {α β:Type} {c:Prop} [Decidable c] {x y:Option α} {r:α}
theorem zB2 {t:Bool} (H:(if t=true then x else y)=some r):(t=true∧x=some r)∨(t=false∧y=some r):=by cases t<;>simp_all
theorem zI2 (H:(if c then x else y)=some r):(c∧x=some r)∨(¬c∧y=some r):=by split at H<;>simp_all
theorem zIN (H:(if c then x else none)=some r):c∧x=some r:=by split at H<;>simp_all
theorem zID (H:(if c then x else none)=some r):decide c=true∧x=some r:=by split at H<;>simp_all
theorem zIM (H:(if c then x else none)=some r):Aside0 c∧x=some r:=⟨⟨(zIN H).1⟩,(zIN H).2⟩
theorem zP {f:β→Option α} {z:Option β} (H:z.bind f=some r):∃a,Aside0 (z=some a)∧f a=some r:=by
 obtain⟨a,h,h2⟩:=Option.bind_eq_some_iff.mp H
 exact⟨a,⟨h⟩,h2⟩
theorem zY {f:β→Option α} {z:β} (H:(some z).bind f=some r):∃a,Aside0 (a=z)∧f a=some r:=⟨z,⟨rfl⟩,H⟩
end
theorem zS1 {p0 q:Prop} (x0:p0) (h:Aside0 p0→q):q:=h ⟨x0⟩
theorem zS2 {p0 p1 q:Prop} (x0:p0) (x1:p1) (h:Aside0 p0→Aside0 p1→q):q:=h ⟨x0⟩ ⟨x1⟩
theorem zS3 {p0 p1 p2 q:Prop} (x0:p0) (x1:p1) (x2:p2) (h:Aside0 p0→Aside0 p1→Aside0 p2→q):q:=h ⟨x0⟩ ⟨x1⟩ ⟨x2⟩
theorem zS4 {p0 p1 p2 p3 q:Prop} (x0:p0) (x1:p1) (x2:p2) (x3:p3) (h:Aside0 p0→Aside0 p1→Aside0 p2→Aside0 p3→q):q:=h ⟨x0⟩ ⟨x1⟩ ⟨x2⟩ ⟨x3⟩
theorem zS5 {p0 p1 p2 p3 p4 q:Prop} (x0:p0) (x1:p1) (x2:p2) (x3:p3) (x4:p4) (h:Aside0 p0→Aside0 p1→Aside0 p2→Aside0 p3→Aside0 p4→q):q:=h ⟨x0⟩ ⟨x1⟩ ⟨x2⟩ ⟨x3⟩ ⟨x4⟩
theorem zS6 {p0 p1 p2 p3 p4 p5 q:Prop} (x0:p0) (x1:p1) (x2:p2) (x3:p3) (x4:p4) (x5:p5) (h:Aside0 p0→Aside0 p1→Aside0 p2→Aside0 p3→Aside0 p4→Aside0 p5→q):q:=h ⟨x0⟩ ⟨x1⟩ ⟨x2⟩ ⟨x3⟩ ⟨x4⟩ ⟨x5⟩
theorem zS7 {p0 p1 p2 p3 p4 p5 p6 q:Prop} (x0:p0) (x1:p1) (x2:p2) (x3:p3) (x4:p4) (x5:p5) (x6:p6) (h:Aside0 p0→Aside0 p1→Aside0 p2→Aside0 p3→Aside0 p4→Aside0 p5→Aside0 p6→q):q:=h ⟨x0⟩ ⟨x1⟩ ⟨x2⟩ ⟨x3⟩ ⟨x4⟩ ⟨x5⟩ ⟨x6⟩
theorem zS8 {p0 p1 p2 p3 p4 p5 p6 p7 q:Prop} (x0:p0) (x1:p1) (x2:p2) (x3:p3) (x4:p4) (x5:p5) (x6:p6) (x7:p7) (h:Aside0 p0→Aside0 p1→Aside0 p2→Aside0 p3→Aside0 p4→Aside0 p5→Aside0 p6→Aside0 p7→q):q:=h ⟨x0⟩ ⟨x1⟩ ⟨x2⟩ ⟨x3⟩ ⟨x4⟩ ⟨x5⟩ ⟨x6⟩ ⟨x7⟩
theorem zS9 {p0 p1 p2 p3 p4 p5 p6 p7 p8 q:Prop} (x0:p0) (x1:p1) (x2:p2) (x3:p3) (x4:p4) (x5:p5) (x6:p6) (x7:p7) (x8:p8) (h:Aside0 p0→Aside0 p1→Aside0 p2→Aside0 p3→Aside0 p4→Aside0 p5→Aside0 p6→Aside0 p7→Aside0 p8→q):q:=h ⟨x0⟩ ⟨x1⟩ ⟨x2⟩ ⟨x3⟩ ⟨x4⟩ ⟨x5⟩ ⟨x6⟩ ⟨x7⟩ ⟨x8⟩
theorem zS10 {p0 p1 p2 p3 p4 p5 p6 p7 p8 p9 q:Prop} (x0:p0) (x1:p1) (x2:p2) (x3:p3) (x4:p4) (x5:p5) (x6:p6) (x7:p7) (x8:p8) (x9:p9) (h:Aside0 p0→Aside0 p1→Aside0 p2→Aside0 p3→Aside0 p4→Aside0 p5→Aside0 p6→Aside0 p7→Aside0 p8→Aside0 p9→q):q:=h ⟨x0⟩ ⟨x1⟩ ⟨x2⟩ ⟨x3⟩ ⟨x4⟩ ⟨x5⟩ ⟨x6⟩ ⟨x7⟩ ⟨x8⟩ ⟨x9⟩
theorem zS11 {p0 p1 p2 p3 p4 p5 p6 p7 p8 p9 p10 q:Prop} (x0:p0) (x1:p1) (x2:p2) (x3:p3) (x4:p4) (x5:p5) (x6:p6) (x7:p7) (x8:p8) (x9:p9) (x10:p10) (h:Aside0 p0→Aside0 p1→Aside0 p2→Aside0 p3→Aside0 p4→Aside0 p5→Aside0 p6→Aside0 p7→Aside0 p8→Aside0 p9→Aside0 p10→q):q:=h ⟨x0⟩ ⟨x1⟩ ⟨x2⟩ ⟨x3⟩ ⟨x4⟩ ⟨x5⟩ ⟨x6⟩ ⟨x7⟩ ⟨x8⟩ ⟨x9⟩ ⟨x10⟩
theorem zu {P:Program} {ops:Array Oper} {Q:Exit→Act→World→Prop} {md:Region.Mode} {S:World→Prop} {ds:List Nat} {oi:Oper} {fuel:Nat} {l l':Array Bool} {a:Act} {w:World} {v:Value} {a':Act} (i:Nat) (N:Tmp) (h:wpAnyLast P md ops Q S ds fuel l' a' w) (hl:l.setIfInBounds i true=l':=by simp only[zL1,zL2,zL3];rfl) (hi:ops[i]? =some oi:=by rfl) (hN:oi.dst=some N:=by rfl) (hc:anyB md ops l l' i=true:=by exact any_of HT_.out ze) (hy:Yields P ops oi v a:=by exact Or.inl ⟨by rfl,zv⟩) (ha:a.put (some N) v=a':=by exact za) (hQ:∀c a w,Q (.panic c) (a.put oi.dst v) w→Q (.panic c) a w:=by exact fun _ _ _ h=>h):wpAnyLast P md ops Q S ds (fuel+1) l a w:=pure_ l' hi hN hc hQ hy ha h
theorem zt2 {P:Program} {ops:Array Oper} {Q:Exit→Act→World→Prop} {md:Region.Mode} {S:World→Prop} {ds:List Nat} {oi:Oper} {fuel:Nat} {l l':Array Bool} {a:Act} {w:World} {v:Value} {a':Act} (i:Nat) (N:Tmp) (h:wpAnyLast P md ops Q S ds fuel l' a' w) (hl:l.setIfInBounds i true=l':=by simp only[zL1,zL2,zL3];rfl) (hi:ops[i]? =some oi:=by rfl) (hN:oi.dst=some N:=by rfl) (hc:takeB md ops ds l l' i=true:=by exact take_ofW HT_.out HW_.out ze) (hy:YieldsIf P ops S oi v a:=by exact Or.inl ⟨by rfl,zv2⟩) (hS:S w:=by exact hHeld) (ha:a.put (some N) v=a':=by exact za) (hQ:∀c a w,Q (.panic c) (a.put oi.dst v) w→Q (.panic c) a w:=by exact fun _ _ _ h=>h):wpAnyLast P md ops Q S ds (fuel+1) l a w:=take_ l' hi hN hc hQ hy hS ha h
theorem zt3 {P:Program} {ops:Array Oper} {Q:Exit→Act→World→Prop} {md:Region.Mode} {S:World→Prop} {ds:List Nat} {oi:Oper} {fuel:Nat} {l l':Array Bool} {a:Act} {w:World} {v:Value} {a':Act} (i:Nat) (N:Tmp) (h:wpAnyLast P md ops Q S ds fuel l' a' w) (hl:l.setIfInBounds i true=l':=by simp only[zL1,zL2,zL3];rfl) (hi:ops[i]? =some oi:=by rfl) (hN:oi.dst=some N:=by rfl) (hc:takeB md ops ds l l' i=true:=by exact take_ofW HT_.out HW_.out ze) (hy:YieldsIf P ops S oi v a:=by exact Or.inl ⟨by rfl,zv3⟩) (hS:S w:=by exact hHeld) (ha:a.put (some N) v=a':=by exact za) (hQ:∀c a w,Q (.panic c) (a.put oi.dst v) w→Q (.panic c) a w:=by exact fun _ _ _ h=>h):wpAnyLast P md ops Q S ds (fuel+1) l a w:=take_ l' hi hN hc hQ hy hS ha h
theorem zt4 {P:Program} {ops:Array Oper} {Q:Exit→Act→World→Prop} {md:Region.Mode} {S:World→Prop} {ds:List Nat} {oi:Oper} {fuel:Nat} {l l':Array Bool} {a:Act} {w:World} {v:Value} {a':Act} (i:Nat) (N:Tmp) (h:wpAnyLast P md ops Q S ds fuel l' a' w) (hl:l.setIfInBounds i true=l':=by simp only[zL1,zL2,zL3];rfl) (hi:ops[i]? =some oi:=by rfl) (hN:oi.dst=some N:=by rfl) (hc:takeB md ops ds l l' i=true:=by exact take_ofW HT_.out HW_.out ze) (hy:YieldsIf P ops S oi v a:=by exact Or.inl ⟨by rfl,zv4⟩) (hS:S w:=by exact hHeld) (ha:a.put (some N) v=a':=by exact za) (hQ:∀c a w,Q (.panic c) (a.put oi.dst v) w→Q (.panic c) a w:=by exact fun _ _ _ h=>h):wpAnyLast P md ops Q S ds (fuel+1) l a w:=take_ l' hi hN hc hQ hy hS ha h
theorem zt6 {P:Program} {ops:Array Oper} {Q:Exit→Act→World→Prop} {md:Region.Mode} {S:World→Prop} {ds:List Nat} {oi:Oper} {fuel:Nat} {l l':Array Bool} {a:Act} {w:World} {v:Value} {a':Act} (i:Nat) (N:Tmp) (h:wpAnyLast P md ops Q S ds fuel l' a' w) (hl:l.setIfInBounds i true=l':=by simp only[zL1,zL2,zL3];rfl) (hi:ops[i]? =some oi:=by rfl) (hN:oi.dst=some N:=by rfl) (hc:takeB md ops ds l l' i=true:=by exact take_ofW HT_.out HW_.out ze) (hy:YieldsIf P ops S oi v a:=by exact Or.inl ⟨by rfl,zv6⟩) (hS:S w:=by exact hHeld) (ha:a.put (some N) v=a':=by exact za) (hQ:∀c a w,Q (.panic c) (a.put oi.dst v) w→Q (.panic c) a w:=by exact fun _ _ _ h=>h):wpAnyLast P md ops Q S ds (fuel+1) l a w:=take_ l' hi hN hc hQ hy hS ha h
theorem zt8 {P:Program} {ops:Array Oper} {Q:Exit→Act→World→Prop} {md:Region.Mode} {S:World→Prop} {ds:List Nat} {oi:Oper} {fuel:Nat} {l l':Array Bool} {a:Act} {w:World} {v:Value} {a':Act} (i:Nat) (N:Tmp) (h:wpAnyLast P md ops Q S ds fuel l' a' w) (hl:l.setIfInBounds i true=l':=by simp only[zL1,zL2,zL3];rfl) (hi:ops[i]? =some oi:=by rfl) (hN:oi.dst=some N:=by rfl) (hc:takeB md ops ds l l' i=true:=by exact take_ofW HT_.out HW_.out ze) (hy:YieldsIf P ops S oi v a:=by exact Or.inl ⟨by rfl,zv8⟩) (hS:S w:=by exact hHeld) (ha:a.put (some N) v=a':=by exact za) (hQ:∀c a w,Q (.panic c) (a.put oi.dst v) w→Q (.panic c) a w:=by exact fun _ _ _ h=>h):wpAnyLast P md ops Q S ds (fuel+1) l a w:=take_ l' hi hN hc hQ hy hS ha h
end Go.Proofs.Ytapobpkeefeajaa.PFnExactHear
