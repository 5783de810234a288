-- Written by a turned copy of the print (see the notes of this repo): plain functions and their walks. Lean checks it.
import Derived.Test.YtanohnlddaneeaaGreatDoorPFnQtyBackx0
namespace Go.Proofs.YtanohnlddaneeaaGreatDoor.PFnQtyBack
open Go.RowKit Go.Proofs.YtanohnlddaneeaaGreatDoorW.PrintWords Go.Proofs.YtanohnlddaneeaaGreatDoorW.PrintLast Go.Proofs.YtanohnlddaneeaaGreatDoorW.PrintMore
attribute [local go_sem] max2_int min2_int max_two min_two max_three min_three max_four min_four   -- for this text's walks alone
set_option linter.unusedVariables false
set_option linter.unusedSimpArgs false

/-! ### laws_big: function 4 -/
def laws_big.f (l0:List Int):Option (Bool):=some (decide ((l0.length:Int)>1048576))
set_option maxHeartbeats 8000000 in
set_option maxRecDepth 100000 in
theorem laws_big.calls (A0:Option Addr) (c0:Nat) (l0:List Int) (r:Bool) (w:World) (hr0:Kd.C (Kd.int .u8) w A0 l0.length l0) (hc0:l0.length≤c0) (h:laws_big.f l0=some r):
    Calls Tryz.prog 4 #[.slice A0 l0.length c0] w fun e w'=>e= .returned (.bool r)∧Drawn0 w w':=by
  have HR0:=Aside0.mk hr0
  have HC0:=Aside0.mk hc0
  clear hr0 hc0
  have H:(some (decide ((l0.length:Int)>1048576)))=some r:=h
  clear h
  obtain rfl:=Option.some.inj H
  go_enter Tryz.func4,Tryz.ntmps4
  go_wp2
  go_ret
  exact⟨by first|rfl|(simp;done)|(simp[*];done),by repeat(first|exact Drawn0.refl _|apply Drawn0.step)⟩

/-- A state of type 68 at block g of W; what its slices lead to came in by w0. -/
def IsS68 (w0 W:World) (g:Nat) (f0:List Int) (f1:Int) (f2:Int):Prop:=∃A0 c0,W.heap[g]? =some (.cells #[.slice A0 f0.length c0, .int .i64 f1, .int .i64 f2] 68 (0,0))∧w0.heap.size≤g∧Kd.C (Kd.int .u8) w0 A0 f0.length f0
theorem IsS68.grown {w0 W:World} {g:Nat} {f0:List Int} {f1:Int} {f2:Int} {W1:World} {row:Option Nat} (h:IsS68 w0 W g f0 f1 f2) (hw:W.grownBy W1 row) (hne:some g≠row):IsS68 w0 W1 g f0 f1 f2:=by
  obtain⟨A0,c0,hb,hg,hr0⟩:=h
  exact⟨A0,c0,blk_grown hb hw hne,hg,hr0⟩
theorem IsS68.own_neN {w0 W:World} {g:Nat} {f0:List Int} {f1:Int} {f2:Int} {α:Type} {d:Kd α} {e:Nat} {base:Nat} {ok:Nat→Prop} {v:Value} {xs:List α} (h:IsS68 w0 W g f0 f1 f2) (ho:Kd.N d e W base ok v xs) (ht:e≠68):some g≠v.ownBlock:=by
  obtain⟨A0,c0,hb,hg,hr0⟩:=h
  exact Kd.N_ne ho hb ht
theorem IsS68.fresh {w0 W:World} {g:Nat} {f0:List Int} {f1:Int} {f2:Int} (h:IsS68 w0 W g f0 f1 f2):∀k,W.heap.size≤k→k≠g:=by
  obtain⟨A0,c0,hb,hg,hr0⟩:=h
  exact Kd.freshB hb
theorem IsS68.kept {w0 W:World} {g:Nat} {f0:List Int} {f1:Int} {f2:Int} {W1:World} {S:Nat→Prop} (h:IsS68 w0 W g f0 f1 f2) (hk:Kept W W1 S) (hne:¬S g):IsS68 w0 W1 g f0 f1 f2:=by
  obtain⟨A0,c0,hb,hg,hr0⟩:=h
  exact⟨A0,c0,blk_kept hb hk hne,hg,hr0⟩
theorem IsS68.below {w0 W:World} {g:Nat} {f0:List Int} {f1:Int} {f2:Int} {W1:World} (h:IsS68 w0 W g f0 f1 f2) (hw:Below W.heap.size W W1):IsS68 w0 W1 g f0 f1 f2:=h.grown (grown_of_below hw none) (by simp)
theorem IsS68.alloc {w0 W:World} {g:Nat} {f0:List Int} {f1:Int} {f2:Int} (h:IsS68 w0 W g f0 f1 f2) (o:Obj):IsS68 w0 (W.alloc o) g f0 f1 f2:=h.below (below_alloc (Below.refl _ _) o)
theorem IsS68.drewN {w0 W:World} {g:Nat} {f0:List Int} {f1:Int} {f2:Int} (h:IsS68 w0 W g f0 f1 f2) (m:Nat):IsS68 w0 (W.drewN m) g f0 f1 f2:=h
theorem IsS68.drew {w0 W:World} {g:Nat} {f0:List Int} {f1:Int} {f2:Int} (h:IsS68 w0 W g f0 f1 f2):IsS68 w0 W.drew g f0 f1 f2:=h
theorem IsS68.at_ {w0 W:World} {g:Nat} {f0:List Int} {f1:Int} {f2:Int} {w':World} {m:Nat} (hq:W.drewN m=w') (h:IsS68 w0 W g f0 f1 f2):IsS68 w0 w' g f0 f1 f2:=by subst hq;exact IsS68.drewN h m
theorem IsS68.apart {w0 W:World} {g:Nat} {f0:List Int} {f1:Int} {f2:Int} {α:Type} {d:Kd α} {e:Nat} {base:Nat} {ok:Nat→Prop} {v:Value} {xs:List α} (h:IsS68 w0 W g f0 f1 f2) (ho:d.R e W base ok v xs) (ht:∀q,q∈e::d.E→q≠68):d.R e W base (fun k=>ok k∧k≠g) v xs:=by
  obtain⟨A0,c0,hb,hg,hr0⟩:=h
  exact Kd.R_types ho hb ht
theorem IsS68.own_ne {w0 W:World} {g:Nat} {f0:List Int} {f1:Int} {f2:Int} {α:Type} {d:Kd α} {e:Nat} {base:Nat} {ok:Nat→Prop} {v:Value} {xs:List α} (h:IsS68 w0 W g f0 f1 f2) (ho:d.R e W base ok v xs) (ht:e≠68):some g≠v.ownBlock:=by
  obtain⟨A0,c0,hb,hg,hr0⟩:=h
  exact Kd.R_ne ho hb ht
theorem IsS68.apartQ {w0 W:World} {g:Nat} {f0:List Int} {f1:Int} {f2:Int} {α:Type} {d:Kd α} {e:Nat} {base:Nat} {ok:Nat→Prop} {v:Value} {xs:List α} (h:IsS68 w0 W g f0 f1 f2) (ho:d.Q e W base ok v xs) (ht:∀q,q∈e::d.E→q≠68):d.Q e W base (fun k=>ok k∧k≠g) v xs:=by
  obtain⟨A0,c0,hb,hg,hr0⟩:=h
  exact Kd.Q_types ho hb ht
theorem IsS68.own_neQ {w0 W:World} {g:Nat} {f0:List Int} {f1:Int} {f2:Int} {α:Type} {d:Kd α} {e:Nat} {base:Nat} {ok:Nat→Prop} {v:Value} {xs:List α} (h:IsS68 w0 W g f0 f1 f2) (ho:d.Q e W base ok v xs) (ht:e≠68):some g≠v.ownBlock:=by
  obtain⟨A0,c0,hb,hg,hr0⟩:=h
  exact Kd.Q_ne ho hb ht
theorem IsS68.apartS {w0 W:World} {g:Nat} {f0:List Int} {f1:Int} {f2:Int} {α:Type} {d:Kd α} {e:Nat} {base:Nat} {ok:Nat→Prop} {v:Value} {xs:List α} (h:IsS68 w0 W g f0 f1 f2) (ho:d.S e W base ok v xs) (ht:∀q,q∈e::d.E→q≠68):d.S e W base (fun k=>ok k∧k≠g) v xs:=by
  obtain⟨A0,c0,hb,hg,hr0⟩:=h
  exact Kd.S_types ho hb ht
theorem IsS68.own_neS {w0 W:World} {g:Nat} {f0:List Int} {f1:Int} {f2:Int} {α:Type} {d:Kd α} {e:Nat} {base:Nat} {ok:Nat→Prop} {v:Value} {xs:List α} (h:IsS68 w0 W g f0 f1 f2) (ho:d.S e W base ok v xs) (ht:e≠68):some g≠v.ownBlock:=by
  obtain⟨A0,c0,hb,hg,hr0⟩:=h
  exact Kd.S_ne ho hb ht
theorem IsS68.lt {w0 W:World} {g:Nat} {f0:List Int} {f1:Int} {f2:Int} (h:IsS68 w0 W g f0 f1 f2):g<W.heap.size:=by
  obtain⟨A0,c0,hb,hg,hr0⟩:=h
  exact blk_lt hb
theorem IsS68.ge {w0 W:World} {g:Nat} {f0:List Int} {f1:Int} {f2:Int} (h:IsS68 w0 W g f0 f1 f2):w0.heap.size≤g:=by
  obtain⟨A0,c0,hb,hg,hr0⟩:=h
  exact hg
theorem IsS68.ne_blk {w0 W:World} {g:Nat} {f0:List Int} {f1:Int} {f2:Int} {a:Nat} {cs:Array Value} {t:TypeId} {fr:Nat×Nat} (h:IsS68 w0 W g f0 f1 f2) (hb2:W.heap[a]? =some (.cells cs t fr)) (ht:t≠68):g≠a:=by
  obtain⟨A0,c0,hb,hg,hr0⟩:=h
  rintro rfl
  rw[hb] at hb2
  injection hb2 with hb2
  injection hb2 with _ ht2
  exact ht ht2.symm
theorem IsS68.far {w0 W:World} {g:Nat} {f0:List Int} {f1:Int} {f2:Int} {p:Addr} (h:IsS68 w0 W g f0 f1 f2) (hne:g≠p.block) (u:Value):IsS68 w0 (W.setCell p u) g f0 f1 f2:=by
  obtain⟨A0,c0,hb,hg,hr0⟩:=h
  exact⟨A0,c0,blk_far hb hne u,hg,hr0⟩
theorem cellS68_0 {W:World} {g:Nat} {A0:Option Addr} {c0:Nat} {f0:List Int} {f1:Int} {f2:Int} (h:W.heap[g]? =some (.cells #[.slice A0 f0.length c0, .int .i64 f1, .int .i64 f2] 68 (0,0))):W.cell? ⟨g,0,none⟩=some (.slice A0 f0.length c0):=(blk_cell h 0).trans rfl
theorem cellS68_1 {W:World} {g:Nat} {A0:Option Addr} {c0:Nat} {f0:List Int} {f1:Int} {f2:Int} (h:W.heap[g]? =some (.cells #[.slice A0 f0.length c0, .int .i64 f1, .int .i64 f2] 68 (0,0))):W.cell? ⟨g,1,none⟩=some (.int .i64 f1):=(blk_cell h 1).trans rfl
theorem IsS68.set_1 {w0 W:World} {g:Nat} {f0:List Int} {f1:Int} {f2:Int} (h:IsS68 w0 W g f0 f1 f2) (x:Int):IsS68 w0 (W.setCell ⟨g,1,none⟩ (.int .i64 x)) g f0 x f2:=by
  obtain⟨A0,c0,hb,hg,hr0⟩:=h
  exact⟨A0,c0,by simpa using blk_set hb 1 (.int .i64 x),hg,hr0⟩
theorem cellS68_2 {W:World} {g:Nat} {A0:Option Addr} {c0:Nat} {f0:List Int} {f1:Int} {f2:Int} (h:W.heap[g]? =some (.cells #[.slice A0 f0.length c0, .int .i64 f1, .int .i64 f2] 68 (0,0))):W.cell? ⟨g,2,none⟩=some (.int .i64 f2):=(blk_cell h 2).trans rfl
theorem IsS68.set_2 {w0 W:World} {g:Nat} {f0:List Int} {f1:Int} {f2:Int} (h:IsS68 w0 W g f0 f1 f2) (x:Int):IsS68 w0 (W.setCell ⟨g,2,none⟩ (.int .i64 x)) g f0 f1 x:=by
  obtain⟨A0,c0,hb,hg,hr0⟩:=h
  exact⟨A0,c0,by simpa using blk_set hb 2 (.int .i64 x),hg,hr0⟩
theorem IsS68.new (w0 W:World) (A0:Option Addr) (c0:Nat) (f0:List Int) (f1:Int) (f2:Int) (hB:Below w0.heap.size w0 W) (hr0:Kd.C (Kd.int .u8) w0 A0 f0.length f0):IsS68 w0 (W.alloc (.cells #[.slice A0 f0.length c0, .int .i64 f1, .int .i64 f2] 68)) W.heap.size f0 f1 f2:=⟨A0,c0,by simpa using heap_alloc_new W _,hB.size,hr0⟩

/-! ### spec_l1Byte: function 57 -/
def spec_l1Byte.f (s0_0:List Int) (s0_1:Int) (s0_2:Int):Option (Int×Int×Int):=if s0_1<(s0_0.length:Int) then(if 0≤s0_1 then(some (Go.bits .and .i64 (wrap64 ((Go.bits .and .i64 (Go.bits .xor .i64 ((wrap64 ((wrap64 (s0_2*6364136223846793005))+1442695040888963407)) / 8589934592) ((wrap64 ((wrap64 (s0_2*6364136223846793005))+1442695040888963407)) / 35184372088832)) 255)+(wrap64 (rd s0_0 s0_1)))) 255,wrap64 (s0_1+1),wrap64 ((wrap64 (s0_2*6364136223846793005))+1442695040888963407))) else(none)) else(some (Go.bits .and .i64 (Go.bits .xor .i64 ((wrap64 ((wrap64 (s0_2*6364136223846793005))+1442695040888963407)) / 8589934592) ((wrap64 ((wrap64 (s0_2*6364136223846793005))+1442695040888963407)) / 35184372088832)) 255,s0_1,wrap64 ((wrap64 (s0_2*6364136223846793005))+1442695040888963407)))
set_option maxHeartbeats 8000000 in
set_option maxRecDepth 100000 in
theorem spec_l1Byte.calls (g:Nat) (s0_0:List Int) (s0_1:Int) (s0_2:Int) (r1:Int) (r2:Int) (r3:Int) (w0 w:World) (hI:IsS68 w0 w g s0_0 s0_1 s0_2) (hB:Below w0.heap.size w0 w) (h:spec_l1Byte.f s0_0 s0_1 s0_2=some (r1,r2,r3)):
    Calls Tryz.prog 57 #[.pointer (some ⟨g,0,none⟩)] w fun e w'=>e= .returned (.int .i64 r1)∧IsS68 w0 w' g s0_0 r2 r3∧Below w0.heap.size w0 w'∧KeepBut w w' g none:=by
  have HI0:=Aside0.mk hI
  have HK:=Aside0.mk (KeepBut.refl w g none)
  have HL:=Aside0.mk hB.size
  clear hI
  have HW0:=Aside0.mk hB.size
  have HB:=Aside0.mk hB
  clear hB
  have H:(if s0_1<(s0_0.length:Int) then(if 0≤s0_1 then(some (Go.bits .and .i64 (wrap64 ((Go.bits .and .i64 (Go.bits .xor .i64 ((wrap64 ((wrap64 (s0_2*6364136223846793005))+1442695040888963407)) / 8589934592) ((wrap64 ((wrap64 (s0_2*6364136223846793005))+1442695040888963407)) / 35184372088832)) 255)+(wrap64 (rd s0_0 s0_1)))) 255,wrap64 (s0_1+1),wrap64 ((wrap64 (s0_2*6364136223846793005))+1442695040888963407))) else(none)) else(some (Go.bits .and .i64 (Go.bits .xor .i64 ((wrap64 ((wrap64 (s0_2*6364136223846793005))+1442695040888963407)) / 8589934592) ((wrap64 ((wrap64 (s0_2*6364136223846793005))+1442695040888963407)) / 35184372088832)) 255,s0_1,wrap64 ((wrap64 (s0_2*6364136223846793005))+1442695040888963407))))=some (r1,r2,r3):=h
  clear h
  by_cases c2:s0_1<(s0_0.length:Int)
  · rw[if_pos c2] at H
    have c2b0:decide (s0_1<(s0_0.length:Int))=true:=decide_eq_true c2
    clear c2
    by_cases c3:0≤s0_1
    · rw[if_pos c3] at H
      have c3b0:decide (0≤s0_1)=true:=decide_eq_true c3
      clear c3
      simp only[Option.some.injEq,Prod.mk.injEq] at H
      obtain⟨rfl,rfl,rfl⟩:=H
      obtain⟨ASz4_0,cSz4_0,HGz4,hgz4,HSz4_0⟩:=HI0.out
      have hcz4_0:=cellS68_0 HGz4
      have hcz4_1:=cellS68_1 HGz4
      have hcz4_2:=cellS68_2 HGz4
      have hfz4_1:=blk_frozen HGz4 1
      have hfz4_2:=blk_frozen HGz4 2
      clear HGz4 hgz4
      have p101:0≤(s0_1:Int):=of_decide_eq_true (by first|(with_reducible assumption)|assumption)
      have q101:s0_1<(s0_0.length:Int):=of_decide_eq_true (by first|(with_reducible assumption)|assumption)
      obtain⟨ad101,e101,hx101_0⟩:=Kd.at_int HSz4_0 s0_1 p101 q101
      cases e101
      have hn101_0:ad101.block≠g:=Nat.ne_of_lt (Nat.lt_of_lt_of_le (by have:=World.block_lt_of_cell? _ _ hx101_0;first|rwa[add_block] at this|exact this) (IsS68.ge HI0.out))
      replace hx101_0:=pw_cell_below HB.out hx101_0
      replace hx101_0:=(cell_far (p:=⟨g,2,none⟩) (by first|(rw[add_block];exact hn101_0)|(show(Addr.add _ _).block≠_;rw[add_block];exact hn101_0)|exact hn101_0) (.int .i64 (wrap64 ((wrap64 (s0_2*6364136223846793005))+1442695040888963407)))).trans hx101_0
      (try have hy101_0:=fun(n_:Nat)=>(show(((w.drewN n_).setCell ⟨g,2,none⟩ (.int .i64 (wrap64 ((wrap64 (s0_2*6364136223846793005))+1442695040888963407))))).cell? _=some _ from hx101_0))
      clear hn101_0
      replace p101:=eq_true p101
      replace q101:=eq_true q101
      go_enter Tryz.func57,Tryz.ntmps57
      go_wp2
      repeat(go_quiet (fail);try go_wp2)
      go_ret
      exact⟨by first|rfl|(simp[errW_none,errW_some]<;>rfl)|(simp[*,errW_none,errW_some]<;>rfl),by repeat(first|(with_reducible first|exact HI0.out|apply IsS68.alloc|apply IsS68.drewN|apply IsS68.drew|apply IsS68.set_1|apply IsS68.set_2)|exact HI0.out),by repeat(first|(with_reducible first|exact HB.out|apply below_alloc|apply pw_below_drewN|apply below_drew1|refine below_set ?_ (IsS68.ge HI0.out))|exact HB.out),by repeat(first|(with_reducible first|exact HK.out|apply KeepBut.set_|apply keep_drewN|apply keep_drew|apply keep_alloc)|exact HK.out)⟩
    · rw[if_neg c3] at H
      exact absurd H (by simp)
  · rw[if_neg c2] at H
    have c2b0:decide (s0_1<(s0_0.length:Int))=false:=decide_eq_false c2
    clear c2
    simp only[Option.some.injEq,Prod.mk.injEq] at H
    obtain⟨rfl,rfl,rfl⟩:=H
    obtain⟨ASz5_0,cSz5_0,HGz5,hgz5,HSz5_0⟩:=HI0.out
    have hcz5_0:=cellS68_0 HGz5
    have hcz5_1:=cellS68_1 HGz5
    have hcz5_2:=cellS68_2 HGz5
    have hfz5_1:=blk_frozen HGz5 1
    have hfz5_2:=blk_frozen HGz5 2
    clear HGz5 hgz5
    go_enter Tryz.func57,Tryz.ntmps57
    go_wp2
    repeat(go_quiet (fail);try go_wp2)
    go_ret
    exact⟨by first|rfl|(simp[errW_none,errW_some]<;>rfl)|(simp[*,errW_none,errW_some]<;>rfl),by repeat(first|(with_reducible first|exact HI0.out|apply IsS68.alloc|apply IsS68.drewN|apply IsS68.drew|apply IsS68.set_1|apply IsS68.set_2)|exact HI0.out),by repeat(first|(with_reducible first|exact HB.out|apply below_alloc|apply pw_below_drewN|apply below_drew1|refine below_set ?_ (IsS68.ge HI0.out))|exact HB.out),by repeat(first|(with_reducible first|exact HK.out|apply KeepBut.set_|apply keep_drewN|apply keep_drew|apply keep_alloc)|exact HK.out)⟩

/-! ### spec_l1Below: function 29 -/
def spec_l1Below.f (s0_0:List Int) (s0_1:Int) (s0_2:Int) (a1:Int):Option (Int×Int×Int):=if a1≤0 then(some (0,s0_1,s0_2)) else(if a1≤256 then((spec_l1Byte.f s0_0 s0_1 s0_2).bind fun bt102=>(if a1=0 then(none) else(some (Int.tmod bt102.1 a1,bt102.2.1,bt102.2.2)))) else((spec_l1Byte.f s0_0 s0_1 s0_2).bind fun bt105=>((spec_l1Byte.f s0_0 bt105.2.1 bt105.2.2).bind fun bt108=>((spec_l1Byte.f s0_0 bt108.2.1 bt108.2.2).bind fun bt111=>((spec_l1Byte.f s0_0 bt111.2.1 bt111.2.2).bind fun bt114=>(if a1=0 then(none) else(some (Int.tmod (wrap64 ((wrap64 ((wrap64 ((wrap64 (bt105.1*16777216))+(wrap64 (bt108.1*65536))))+(wrap64 (bt111.1*256))))+bt114.1)) a1,bt114.2.1,bt114.2.2))))))))
set_option maxHeartbeats 8000000 in
set_option maxRecDepth 100000 in
theorem spec_l1Below.calls (g:Nat) (s0_0:List Int) (s0_1:Int) (s0_2:Int) (a1:Int) (r1:Int) (r2:Int) (r3:Int) (w0 w:World) (hI:IsS68 w0 w g s0_0 s0_1 s0_2) (hB:Below w0.heap.size w0 w) (h:spec_l1Below.f s0_0 s0_1 s0_2 a1=some (r1,r2,r3)):
    Calls Tryz.prog 29 #[.pointer (some ⟨g,0,none⟩), .int .i64 a1] w fun e w'=>e= .returned (.int .i64 r1)∧IsS68 w0 w' g s0_0 r2 r3∧Below w0.heap.size w0 w'∧KeepBut w w' g none:=by
  have HI0:=Aside0.mk hI
  have HK:=Aside0.mk (KeepBut.refl w g none)
  have HL:=Aside0.mk hB.size
  clear hI
  have HW0:=Aside0.mk hB.size
  have HB:=Aside0.mk hB
  clear hB
  have H:(if a1≤0 then(some (0,s0_1,s0_2)) else(if a1≤256 then((spec_l1Byte.f s0_0 s0_1 s0_2).bind fun bt102=>(if a1=0 then(none) else(some (Int.tmod bt102.1 a1,bt102.2.1,bt102.2.2)))) else((spec_l1Byte.f s0_0 s0_1 s0_2).bind fun bt105=>((spec_l1Byte.f s0_0 bt105.2.1 bt105.2.2).bind fun bt108=>((spec_l1Byte.f s0_0 bt108.2.1 bt108.2.2).bind fun bt111=>((spec_l1Byte.f s0_0 bt111.2.1 bt111.2.2).bind fun bt114=>(if a1=0 then(none) else(some (Int.tmod (wrap64 ((wrap64 ((wrap64 ((wrap64 (bt105.1*16777216))+(wrap64 (bt108.1*65536))))+(wrap64 (bt111.1*256))))+bt114.1)) a1,bt114.2.1,bt114.2.2)))))))))=some (r1,r2,r3):=h
  clear h
  by_cases c3:a1≤0
  · rw[if_pos c3] at H
    have c3b0:decide (a1≤0)=true:=decide_eq_true c3
    clear c3
    simp only[Option.some.injEq,Prod.mk.injEq] at H
    obtain⟨rfl,rfl,rfl⟩:=H
    go_enter Tryz.func29,Tryz.ntmps29
    go_wp2
    go_ret
    exact⟨by first|rfl|(simp[errW_none,errW_some]<;>rfl)|(simp[*,errW_none,errW_some]<;>rfl),by repeat(first|(with_reducible first|exact HI0.out|apply IsS68.alloc|apply IsS68.drewN|apply IsS68.drew|apply IsS68.set_1|apply IsS68.set_2)|exact HI0.out),by repeat(first|(with_reducible first|exact HB.out|apply below_alloc|apply pw_below_drewN|apply below_drew1|refine below_set ?_ (IsS68.ge HI0.out))|exact HB.out),by repeat(first|(with_reducible first|exact HK.out|apply KeepBut.set_|apply keep_drewN|apply keep_drew|apply keep_alloc)|exact HK.out)⟩
  · rw [if_neg c3] at H
    have c3b0:decide (a1≤0)=false:=decide_eq_false c3
    clear c3
    by_cases c4:a1≤256
    · rw[if_pos c4] at H
      have c4b0:decide (a1≤256)=true:=decide_eq_true c4
      clear c4
      replace H:=Option.bind_eq_some_iff.mp H
      obtain⟨⟨t102,t103,t104⟩,A50,H⟩:=H
      replace H:(if a1=0 then(none) else(some (Int.tmod t102 a1,t103,t104)))=some (r1,r2,r3):=H
      have A5:=Aside0.mk A50
      clear A50
      by_cases c6:a1=0
      · rw[if_pos c6] at H
        exact absurd H (by simp)
      · rw[if_neg c6] at H
        have c6b0:(a1==0)=false:=beq_eq_false_iff_ne.mpr c6
        have c6b1:(a1 != 0)=true:=bne_iff_ne.mpr c6
        simp only[Option.some.injEq,Prod.mk.injEq] at H
        obtain⟨rfl,rfl,rfl⟩:=H
        go_enter Tryz.func29,Tryz.ntmps29
        go_wp2_with (first|((with_reducible refine gate_callee (f:=57) rfl ?_);refine goesL_ (some 14) rfl rfl Tryz.func57 (by kernel_rfl) rfl #[.pointer (some ⟨g,0,none⟩)] rfl (by(try simp only[List.map_toArray,List.map_cons,List.map_nil]);first|done|rfl|(simp only[List.length_drop,List.length_take];rfl)) ?_;(with_reducible refine(spec_l1Byte.calls g s0_0 s0_1 s0_2 t102 t103 t104 w0 _ ?side1 ?side2 A5.out).mono ?_);(case side1=>repeat(first|(with_reducible first|exact HI0.out|apply IsS68.alloc|apply IsS68.drewN|apply IsS68.drew|apply IsS68.set_1|apply IsS68.set_2)|exact HI0.out));(case side2=>repeat(first|(with_reducible first|exact HB.out|apply below_alloc|apply pw_below_drewN|apply below_drew1|refine below_set ?_ (IsS68.ge HI0.out))|exact HB.out));rintro e w7 ⟨rfl,hi,hb,hk⟩;refine⟨_,rfl,?_⟩;have n0_:=Aside0.mk (KeepBut.trans (by repeat(first|(with_reducible first|exact HK.out|apply KeepBut.set_|apply keep_drewN|apply keep_drew|apply keep_alloc)|exact HK.out)) hk (.inl rfl));have n1_:=Aside0.mk (hb);have n2_:=Aside0.mk (hi);clear HK;clear HB;clear HI0;have HK:=n0_;have HB:=n1_;have HI0:=n2_;clear n0_ n1_ n2_;(try clear hb);(try clear hb2);(try clear hk);(try clear hi)))
        go_ret
        exact⟨by first|rfl|(simp[errW_none,errW_some]<;>rfl)|(simp[*,errW_none,errW_some]<;>rfl),by repeat(first|(with_reducible first|exact HI0.out|apply IsS68.alloc|apply IsS68.drewN|apply IsS68.drew|apply IsS68.set_1|apply IsS68.set_2)|exact HI0.out),by repeat(first|(with_reducible first|exact HB.out|apply below_alloc|apply pw_below_drewN|apply below_drew1|refine below_set ?_ (IsS68.ge HI0.out))|exact HB.out),by repeat(first|(with_reducible first|exact HK.out|apply KeepBut.set_|apply keep_drewN|apply keep_drew|apply keep_alloc)|exact HK.out)⟩
    · rw[if_neg c4] at H
      have c4b0:decide (a1≤256)=false:=decide_eq_false c4
      clear c4
      replace H:=Option.bind_eq_some_iff.mp H
      obtain⟨⟨t105,t106,t107⟩,A80,H⟩:=H
      replace H:((spec_l1Byte.f s0_0 t106 t107).bind fun bt108=>((spec_l1Byte.f s0_0 bt108.2.1 bt108.2.2).bind fun bt111=>((spec_l1Byte.f s0_0 bt111.2.1 bt111.2.2).bind fun bt114=>(if a1=0 then(none) else(some (Int.tmod (wrap64 ((wrap64 ((wrap64 ((wrap64 (t105*16777216))+(wrap64 (bt108.1*65536))))+(wrap64 (bt111.1*256))))+bt114.1)) a1,bt114.2.1,bt114.2.2))))))=some (r1,r2,r3):=H
      have A8:=Aside0.mk A80
      clear A80
      replace H:=Option.bind_eq_some_iff.mp H
      obtain⟨⟨t108,t109,t110⟩,A90,H⟩:=H
      replace H:((spec_l1Byte.f s0_0 t109 t110).bind fun bt111=>((spec_l1Byte.f s0_0 bt111.2.1 bt111.2.2).bind fun bt114=>(if a1=0 then(none) else(some (Int.tmod (wrap64 ((wrap64 ((wrap64 ((wrap64 (t105*16777216))+(wrap64 (t108*65536))))+(wrap64 (bt111.1*256))))+bt114.1)) a1,bt114.2.1,bt114.2.2)))))=some (r1,r2,r3):=H
      have A9:=Aside0.mk A90
      clear A90
      replace H:=Option.bind_eq_some_iff.mp H
      obtain⟨⟨t111,t112,t113⟩,A100,H⟩:=H
      replace H:((spec_l1Byte.f s0_0 t112 t113).bind fun bt114=>(if a1=0 then(none) else(some (Int.tmod (wrap64 ((wrap64 ((wrap64 ((wrap64 (t105*16777216))+(wrap64 (t108*65536))))+(wrap64 (t111*256))))+bt114.1)) a1,bt114.2.1,bt114.2.2))))=some (r1,r2,r3):=H
      have A10:=Aside0.mk A100
      clear A100
      replace H:=Option.bind_eq_some_iff.mp H
      obtain⟨⟨t114,t115,t116⟩,A110,H⟩:=H
      replace H:(if a1=0 then(none) else(some (Int.tmod (wrap64 ((wrap64 ((wrap64 ((wrap64 (t105*16777216))+(wrap64 (t108*65536))))+(wrap64 (t111*256))))+t114)) a1,t115,t116)))=some (r1,r2,r3):=H
      have A11:=Aside0.mk A110
      clear A110
      by_cases c12:a1=0
      · rw[if_pos c12] at H
        exact absurd H (by simp)
      · rw[if_neg c12] at H
        have c12b0:(a1==0)=false:=beq_eq_false_iff_ne.mpr c12
        have c12b1:(a1 != 0)=true:=bne_iff_ne.mpr c12
        simp only[Option.some.injEq,Prod.mk.injEq] at H
        obtain⟨rfl,rfl,rfl⟩:=H
        go_enter Tryz.func29,Tryz.ntmps29
        go_wp2_with (first|((with_reducible refine gate_callee (f:=57) rfl ?_);refine goesL_ (some 18) rfl rfl Tryz.func57 (by kernel_rfl) rfl #[.pointer (some ⟨g,0,none⟩)] rfl (by(try simp only[List.map_toArray,List.map_cons,List.map_nil]);first|done|rfl|(simp only[List.length_drop,List.length_take];rfl)) ?_;(with_reducible refine(spec_l1Byte.calls g s0_0 s0_1 s0_2 t105 t106 t107 w0 _ ?side1 ?side2 A8.out).mono ?_);(case side1=>repeat(first|(with_reducible first|exact HI0.out|apply IsS68.alloc|apply IsS68.drewN|apply IsS68.drew|apply IsS68.set_1|apply IsS68.set_2)|exact HI0.out));(case side2=>repeat(first|(with_reducible first|exact HB.out|apply below_alloc|apply pw_below_drewN|apply below_drew1|refine below_set ?_ (IsS68.ge HI0.out))|exact HB.out));rintro e w13 ⟨rfl,hi,hb,hk⟩;refine⟨_,rfl,?_⟩;have n0_:=Aside0.mk (KeepBut.trans (by repeat(first|(with_reducible first|exact HK.out|apply KeepBut.set_|apply keep_drewN|apply keep_drew|apply keep_alloc)|exact HK.out)) hk (.inl rfl));have n1_:=Aside0.mk (hb);have n2_:=Aside0.mk (hi);clear HK;clear HB;clear HI0;have HK:=n0_;have HB:=n1_;have HI0:=n2_;clear n0_ n1_ n2_;(try clear hb);(try clear hb2);(try clear hk);(try clear hi))|((with_reducible refine gate_callee (f:=57) rfl ?_);refine goesL_ (some 20) rfl rfl Tryz.func57 (by kernel_rfl) rfl #[.pointer (some ⟨g,0,none⟩)] rfl (by(try simp only[List.map_toArray,List.map_cons,List.map_nil]);first|done|rfl|(simp only[List.length_drop,List.length_take];rfl)) ?_;(with_reducible refine(spec_l1Byte.calls g s0_0 t106 t107 t108 t109 t110 w0 _ ?side1 ?side2 A9.out).mono ?_);(case side1=>repeat(first|(with_reducible first|exact HI0.out|apply IsS68.alloc|apply IsS68.drewN|apply IsS68.drew|apply IsS68.set_1|apply IsS68.set_2)|exact HI0.out));(case side2=>repeat(first|(with_reducible first|exact HB.out|apply below_alloc|apply pw_below_drewN|apply below_drew1|refine below_set ?_ (IsS68.ge HI0.out))|exact HB.out));rintro e w14 ⟨rfl,hi,hb,hk⟩;refine⟨_,rfl,?_⟩;have n0_:=Aside0.mk (KeepBut.trans (by repeat(first|(with_reducible first|exact HK.out|apply KeepBut.set_|apply keep_drewN|apply keep_drew|apply keep_alloc)|exact HK.out)) hk (.inl rfl));have n1_:=Aside0.mk (hb);have n2_:=Aside0.mk (hi);clear HK;clear HB;clear HI0;have HK:=n0_;have HB:=n1_;have HI0:=n2_;clear n0_ n1_ n2_;(try clear hb);(try clear hb2);(try clear hk);(try clear hi))|((with_reducible refine gate_callee (f:=57) rfl ?_);refine goesL_ (some 22) rfl rfl Tryz.func57 (by kernel_rfl) rfl #[.pointer (some ⟨g,0,none⟩)] rfl (by(try simp only[List.map_toArray,List.map_cons,List.map_nil]);first|done|rfl|(simp only[List.length_drop,List.length_take];rfl)) ?_;(with_reducible refine(spec_l1Byte.calls g s0_0 t109 t110 t111 t112 t113 w0 _ ?side1 ?side2 A10.out).mono ?_);(case side1=>repeat(first|(with_reducible first|exact HI0.out|apply IsS68.alloc|apply IsS68.drewN|apply IsS68.drew|apply IsS68.set_1|apply IsS68.set_2)|exact HI0.out));(case side2=>repeat(first|(with_reducible first|exact HB.out|apply below_alloc|apply pw_below_drewN|apply below_drew1|refine below_set ?_ (IsS68.ge HI0.out))|exact HB.out));rintro e w15 ⟨rfl,hi,hb,hk⟩;refine⟨_,rfl,?_⟩;have n0_:=Aside0.mk (KeepBut.trans (by repeat(first|(with_reducible first|exact HK.out|apply KeepBut.set_|apply keep_drewN|apply keep_drew|apply keep_alloc)|exact HK.out)) hk (.inl rfl));have n1_:=Aside0.mk (hb);have n2_:=Aside0.mk (hi);clear HK;clear HB;clear HI0;have HK:=n0_;have HB:=n1_;have HI0:=n2_;clear n0_ n1_ n2_;(try clear hb);(try clear hb2);(try clear hk);(try clear hi))|((with_reducible refine gate_callee (f:=57) rfl ?_);refine goesL_ (some 24) rfl rfl Tryz.func57 (by kernel_rfl) rfl #[.pointer (some ⟨g,0,none⟩)] rfl (by(try simp only[List.map_toArray,List.map_cons,List.map_nil]);first|done|rfl|(simp only[List.length_drop,List.length_take];rfl)) ?_;(with_reducible refine(spec_l1Byte.calls g s0_0 t112 t113 t114 t115 t116 w0 _ ?side1 ?side2 A11.out).mono ?_);(case side1=>repeat(first|(with_reducible first|exact HI0.out|apply IsS68.alloc|apply IsS68.drewN|apply IsS68.drew|apply IsS68.set_1|apply IsS68.set_2)|exact HI0.out));(case side2=>repeat(first|(with_reducible first|exact HB.out|apply below_alloc|apply pw_below_drewN|apply below_drew1|refine below_set ?_ (IsS68.ge HI0.out))|exact HB.out));rintro e w16 ⟨rfl,hi,hb,hk⟩;refine⟨_,rfl,?_⟩;have n0_:=Aside0.mk (KeepBut.trans (by repeat(first|(with_reducible first|exact HK.out|apply KeepBut.set_|apply keep_drewN|apply keep_drew|apply keep_alloc)|exact HK.out)) hk (.inl rfl));have n1_:=Aside0.mk (hb);have n2_:=Aside0.mk (hi);clear HK;clear HB;clear HI0;have HK:=n0_;have HB:=n1_;have HI0:=n2_;clear n0_ n1_ n2_;(try clear hb);(try clear hb2);(try clear hk);(try clear hi)))
        go_ret
        exact⟨by first|rfl|(simp[errW_none,errW_some]<;>rfl)|(simp[*,errW_none,errW_some]<;>rfl),by repeat(first|(with_reducible first|exact HI0.out|apply IsS68.alloc|apply IsS68.drewN|apply IsS68.drew|apply IsS68.set_1|apply IsS68.set_2)|exact HI0.out),by repeat(first|(with_reducible first|exact HB.out|apply below_alloc|apply pw_below_drewN|apply below_drew1|refine below_set ?_ (IsS68.ge HI0.out))|exact HB.out),by repeat(first|(with_reducible first|exact HK.out|apply KeepBut.set_|apply keep_drewN|apply keep_drew|apply keep_alloc)|exact HK.out)⟩

/-! ### spec_l1In: function 51 -/
def spec_l1In.f (a0:Int) (a1:Int) (a2:Int):Option (Bool):=if a0≥a1 then(some (decide (a0≤a2))) else(some false)
set_option maxHeartbeats 8000000 in
set_option maxRecDepth 100000 in
theorem spec_l1In.calls (a0:Int) (a1:Int) (a2:Int) (r:Bool) (w:World) (h:spec_l1In.f a0 a1 a2=some r):
    Calls Tryz.prog 51 #[.int .i64 a0, .int .i64 a1, .int .i64 a2] w fun e w'=>e= .returned (.bool r)∧Drawn0 w w':=by
  have H:(if a0≥a1 then(some (decide (a0≤a2))) else(some false))=some r:=h
  clear h
  by_cases c4:a0≥a1
  · rw[if_pos c4] at H
    have c4b0:decide (a1≤a0)=true:=decide_eq_true c4
    clear c4
    obtain rfl:=Option.some.inj H
    go_enter Tryz.func51,Tryz.ntmps51
    go_wp2
    go_ret
    exact⟨by first|rfl|(simp;done)|(simp[*];done),by repeat(first|exact Drawn0.refl _|apply Drawn0.step)⟩
  · rw[if_neg c4] at H
    have c4b0:decide (a1≤a0)=false:=decide_eq_false c4
    clear c4
    obtain rfl:=Option.some.inj H
    go_enter Tryz.func51,Tryz.ntmps51
    go_wp2
    go_ret
    exact⟨by first|rfl|(simp;done)|(simp[*];done),by repeat(first|exact Drawn0.refl _|apply Drawn0.step)⟩

/-! ### spec_l5Sample: function 50 -/
def spec_l5Sample.f (a0:Int):Option (Bool):=(spec_l1In.f a0 (-1000000000) 1000000000).bind fun t117=>(some t117)
set_option maxHeartbeats 8000000 in
set_option maxRecDepth 100000 in
theorem spec_l5Sample.calls (a0:Int) (r:Bool) (w:World) (h:spec_l5Sample.f a0=some r):
    Calls Tryz.prog 50 #[.int .i64 a0] w fun e w'=>e= .returned (.bool r)∧Drawn0 w w':=by
  have H:((spec_l1In.f a0 (-1000000000) 1000000000).bind fun t117=>(some t117))=some r:=h
  clear h
  replace H:=Option.bind_eq_some_iff.mp H
  obtain⟨t117,A20,H⟩:=H
  replace H:(some t117)=some r:=H
  have A2:=Aside0.mk A20
  clear A20
  obtain rfl:=Option.some.inj H
  go_enter Tryz.func50,Tryz.ntmps50
  go_wp2_with (first|((with_reducible refine gate_callee (f:=51) rfl ?_);refine goesL_ (some 4) rfl rfl Tryz.func51 (by kernel_rfl) rfl #[.int .i64 a0, .int .i64 (-1000000000), .int .i64 1000000000] rfl (by(try simp only[List.map_toArray,List.map_cons,List.map_nil]);first|done|rfl|(simp only[List.length_drop,List.length_take];rfl)) ?_;(with_reducible refine(spec_l1In.calls a0 (-1000000000) 1000000000 t117 _ A2.out).mono ?_);rintro e w' ⟨rfl,⟨nd,rfl⟩⟩;refine⟨_,rfl,?_⟩))
  go_ret
  exact⟨by first|rfl|(simp;done)|(simp[*];done),by repeat(first|exact Drawn0.refl _|apply Drawn0.step)⟩

/-! ### spec_QtyOk: function 19 -/
def spec_QtyOk.j0:Nat→Bool→Int→Int→Int→Int→Option (Bool)
  |0,_,_,_,_,_=>none
  |k+1,x24,x119000,x119001,x119002,x119003=>if x24=true then(some false) else(if x119000=0 then(some (x119001==0)) else(some ((Int.tmod x119000 10) != 0)))
def spec_QtyOk.f (k:Nat) (a0_0:Int) (a0_1:Int) (a0_2:Int) (a0_3:Int):Option (Bool):=(spec_l5Sample.f a0_0).bind fun t119=>(if t119=true then((spec_l1In.f a0_2 (-9) 9).bind fun t120=>(if t120=true then((spec_l1In.f a0_3 (-9) 9).bind fun t121=>(if t121=true then((spec_l1In.f a0_1 (-30) 30).bind fun t122=>(spec_QtyOk.j0 k (!t122) a0_0 a0_1 a0_2 a0_3)) else(spec_QtyOk.j0 k true a0_0 a0_1 a0_2 a0_3))) else(spec_QtyOk.j0 k true a0_0 a0_1 a0_2 a0_3))) else(spec_QtyOk.j0 k true a0_0 a0_1 a0_2 a0_3))
theorem spec_QtyOk.mono_l:∀k,(∀y0 y1 y2 y3 y4,LeO (spec_QtyOk.j0 k y0 y1 y2 y3 y4) (spec_QtyOk.j0 (k+1) y0 y1 y2 y3 y4))
  |0=>fun _ _ _ _ _ r h=>by simp[spec_QtyOk.j0] at h
  | k +1=>by
    have ih0:=spec_QtyOk.mono_l k
    · intro y0 y1 y2 y3 y4
      unfold spec_QtyOk.j0
      repeat' first
      |(with_reducible exact ih0 _ _ _ _ _)
      |(with_reducible exact LeO.refl _)
      |(with_reducible exact LeO.none _)
      |(with_reducible refine LeO.ite ?_ ?_)
      |(with_reducible refine LeO.bind ?_ (fun _=> ?_))
      |exact ih0 _ _ _ _ _
      |exact LeO.none _
      |refine LeO.ite ?_ ?_
      |refine LeO.bind ?_ (fun _=> ?_)
theorem spec_QtyOk.mono:∀a0 a1 a2 a3 k,LeO (spec_QtyOk.f k a0 a1 a2 a3) (spec_QtyOk.f (k+1) a0 a1 a2 a3):=by
  intro a0 a1 a2 a3 k
  have ih0:=spec_QtyOk.mono_l k
  unfold spec_QtyOk.f
  repeat' first
      |(with_reducible exact ih0 _ _ _ _ _)
      |(with_reducible exact LeO.refl _)
      |(with_reducible exact LeO.none _)
      |(with_reducible refine LeO.ite ?_ ?_)
      |(with_reducible refine LeO.bind ?_ (fun _=> ?_))
      |exact ih0 _ _ _ _ _
      |exact LeO.none _
      |refine LeO.ite ?_ ?_
      |refine LeO.bind ?_ (fun _=> ?_)
set_option maxHeartbeats 8000000 in
set_option maxRecDepth 100000 in
theorem spec_QtyOk.calls (k:Nat) (a0_0:Int) (a0_1:Int) (a0_2:Int) (a0_3:Int) (r:Bool) (w:World) (h:spec_QtyOk.f k a0_0 a0_1 a0_2 a0_3=some r):
    Calls Tryz.prog 19 #[.agg #[.int .i64 a0_0, .int .i64 a0_1, .int .i64 a0_2, .int .i64 a0_3]] w fun e w'=>e= .returned (.bool r)∧Below w.heap.size w w':=by
  have hu25:=Tryz.underlying25
  have HB:=Aside0.mk (Below.refl w.heap.size w)
  have H:((spec_l5Sample.f a0_0).bind fun t119=>(if t119=true then((spec_l1In.f a0_2 (-9) 9).bind fun t120=>(if t120=true then((spec_l1In.f a0_3 (-9) 9).bind fun t121=>(if t121=true then((spec_l1In.f a0_1 (-30) 30).bind fun t122=>(spec_QtyOk.j0 k (!t122) a0_0 a0_1 a0_2 a0_3)) else(spec_QtyOk.j0 k true a0_0 a0_1 a0_2 a0_3))) else(spec_QtyOk.j0 k true a0_0 a0_1 a0_2 a0_3))) else(spec_QtyOk.j0 k true a0_0 a0_1 a0_2 a0_3)))=some r:=h
  clear h
  have HC2:=Aside0.mk H
  clear H
  go_enter Tryz.func19,Tryz.ntmps19
  go_upto_region 1 with(first|((with_reducible refine gate_dst (N:=1) rfl ?_);refine box_event ?hg (N:=1) ?hd (cs:= #[.int .i64 a0_0, .int .i64 a0_1, .int .i64 a0_2, .int .i64 a0_3]) (t:=25) ?hr ?_;(case hd=>rfl);(case hg=>rfl);(case hr=>first|(go_simp;done)|(go_simp;rfl));intro gb118 hg w3 hbox hb;have n0_:=Aside0.mk (below_step (by repeat(first|(with_reducible first|exact HB.out|apply below_alloc|apply pw_below_drewN|apply below_drew1)|exact HB.out)) hb);have n1_:=Aside0.mk (hbox);have n2_:=Aside0.mk ((by rw[hg];exact(below_size (by repeat(first|(with_reducible first|exact HB.out|apply below_alloc|apply pw_below_drewN|apply below_drew1)|exact HB.out))):w.heap.size≤gb118));have n3_:=Aside0.mk ((by rw[hg];exact(below_size (by repeat(first|(with_reducible first|exact HB.out|apply below_alloc|apply pw_below_drewN|apply below_drew1)|exact HB.out))):w.heap.size≤gb118));clear HB;have HB:=n0_;have BK118:=n1_;have GW118:=n2_;have GE118:=n3_;clear n0_ n1_ n2_ n3_;clear hb hbox hg))
  (try simp only[Act.put,List.setIfInBounds_toArray,List.set_cons_zero,List.set_cons_succ])
  go_cut [24] (fun v24 wc=>∃(kq:Nat) (x24_1:Bool),v24= .bool x24_1∧Aside0 (spec_QtyOk.j0 kq x24_1 a0_0 a0_1 a0_2 a0_3=some r)∧Aside0 (kq≤k)∧Aside0 (wc.heap[gb118]? =some (.cells #[.int .i64 a0_0, .int .i64 a0_1, .int .i64 a0_2, .int .i64 a0_3] 25 (0,0)))∧Aside0 (Below w.heap.size w wc))
  case first=>
    have H:=HC2.out
    clear HC2
    replace H:=Option.bind_eq_some_iff.mp H
    obtain⟨t119,A40,H⟩:=H
    replace H:(if t119=true then((spec_l1In.f a0_2 (-9) 9).bind fun t120=>(if t120=true then((spec_l1In.f a0_3 (-9) 9).bind fun t121=>(if t121=true then((spec_l1In.f a0_1 (-30) 30).bind fun t122=>(spec_QtyOk.j0 k (!t122) a0_0 a0_1 a0_2 a0_3)) else(spec_QtyOk.j0 k true a0_0 a0_1 a0_2 a0_3))) else(spec_QtyOk.j0 k true a0_0 a0_1 a0_2 a0_3))) else(spec_QtyOk.j0 k true a0_0 a0_1 a0_2 a0_3))=some r:=H
    have A4:=Aside0.mk A40
    clear A40
    by_cases c5:t119=true
    · subst c5
      have H1:((spec_l1In.f a0_2 (-9) 9).bind fun t120=>(if t120=true then((spec_l1In.f a0_3 (-9) 9).bind fun t121=>(if t121=true then((spec_l1In.f a0_1 (-30) 30).bind fun t122=>(spec_QtyOk.j0 k (!t122) a0_0 a0_1 a0_2 a0_3)) else(spec_QtyOk.j0 k true a0_0 a0_1 a0_2 a0_3))) else(spec_QtyOk.j0 k true a0_0 a0_1 a0_2 a0_3)))=some r:=by rw[if_pos rfl] at H;exact H
      clear H
      have H:=H1
      clear H1
      replace H:=Option.bind_eq_some_iff.mp H
      obtain⟨t120,A60,H⟩:=H
      replace H:(if t120=true then((spec_l1In.f a0_3 (-9) 9).bind fun t121=>(if t121=true then((spec_l1In.f a0_1 (-30) 30).bind fun t122=>(spec_QtyOk.j0 k (!t122) a0_0 a0_1 a0_2 a0_3)) else(spec_QtyOk.j0 k true a0_0 a0_1 a0_2 a0_3))) else(spec_QtyOk.j0 k true a0_0 a0_1 a0_2 a0_3))=some r:=H
      have A6:=Aside0.mk A60
      clear A60
      by_cases c7:t120=true
      · subst c7
        have H1:((spec_l1In.f a0_3 (-9) 9).bind fun t121=>(if t121=true then((spec_l1In.f a0_1 (-30) 30).bind fun t122=>(spec_QtyOk.j0 k (!t122) a0_0 a0_1 a0_2 a0_3)) else(spec_QtyOk.j0 k true a0_0 a0_1 a0_2 a0_3)))=some r:=by rw[if_pos rfl] at H;exact H
        clear H
        have H:=H1
        clear H1
        replace H:=Option.bind_eq_some_iff.mp H
        obtain⟨t121,A80,H⟩:=H
        replace H:(if t121=true then((spec_l1In.f a0_1 (-30) 30).bind fun t122=>(spec_QtyOk.j0 k (!t122) a0_0 a0_1 a0_2 a0_3)) else(spec_QtyOk.j0 k true a0_0 a0_1 a0_2 a0_3))=some r:=H
        have A8:=Aside0.mk A80
        clear A80
        by_cases c9:t121=true
        · subst c9
          have H1:((spec_l1In.f a0_1 (-30) 30).bind fun t122=>(spec_QtyOk.j0 k (!t122) a0_0 a0_1 a0_2 a0_3))=some r:=by rw[if_pos rfl] at H;exact H
          clear H
          have H:=H1
          clear H1
          replace H:=Option.bind_eq_some_iff.mp H
          obtain⟨t122,A100,H⟩:=H
          replace H:(spec_QtyOk.j0 k (!t122) a0_0 a0_1 a0_2 a0_3)=some r:=H
          have A10:=Aside0.mk A100
          clear A100
          have H':=Aside0.mk H
          clear H
          have hcz11_0:w3.cell? ⟨gb118,0,none⟩=some (.int .i64 a0_0):=(blk_cell BK118.out 0).trans rfl
          have hcz11_1:w3.cell? ⟨gb118,1,none⟩=some (.int .i64 a0_1):=(blk_cell BK118.out 1).trans rfl
          have hcz11_2:w3.cell? ⟨gb118,2,none⟩=some (.int .i64 a0_2):=(blk_cell BK118.out 2).trans rfl
          have hcz11_3:w3.cell? ⟨gb118,3,none⟩=some (.int .i64 a0_3):=(blk_cell BK118.out 3).trans rfl
          have hfz11_0:=blk_frozen BK118.out 0
          have hfz11_1:=blk_frozen BK118.out 1
          have hfz11_2:=blk_frozen BK118.out 2
          have hfz11_3:=blk_frozen BK118.out 3
          go_wp2_with (first|((with_reducible refine gate_callee (f:=50) rfl ?_);refine goesL_ (some 5) rfl rfl Tryz.func50 (by kernel_rfl) rfl #[.int .i64 a0_0] rfl (by(try simp only[List.map_toArray,List.map_cons,List.map_nil]);first|done|rfl|(simp only[List.length_drop,List.length_take];rfl)) ?_;(with_reducible refine(spec_l5Sample.calls a0_0 true _ A4.out).mono ?_);rintro e w' ⟨rfl,⟨nd,rfl⟩⟩;refine⟨_,rfl,?_⟩)|(go_at_call 51;(with_reducible refine(spec_l1In.calls a0_2 (-9) 9 true _ A6.out).mono ?_);rintro e w' ⟨rfl,⟨nd,rfl⟩⟩)|(go_at_call 51;(with_reducible refine(spec_l1In.calls a0_3 (-9) 9 true _ A8.out).mono ?_);rintro e w' ⟨rfl,⟨nd,rfl⟩⟩)|(go_at_call 51;(with_reducible refine(spec_l1In.calls a0_1 (-30) 30 t122 _ A10.out).mono ?_);rintro e w' ⟨rfl,⟨nd,rfl⟩⟩))
          go_meet
          case rel=>exact⟨_,(!t122),(by first|rfl|(simp;done)|(simp[*];done)),H',⟨by first|omega|exact Nat.le_refl _⟩,⟨by(with_reducible repeat(first|refine blk_drewN ?_ _|refine blk_drew ?_|refine blk_alloc ?_ _));exact BK118.out⟩,⟨by repeat(first|(with_reducible first|exact HB.out|apply below_alloc|apply pw_below_drewN|apply below_drew1|refine below_set ?_ GE118.out)|exact HB.out)⟩⟩
        · replace c9:=Bool.eq_false_iff.mpr c9
          subst c9
          have H1:(spec_QtyOk.j0 k true a0_0 a0_1 a0_2 a0_3)=some r:=by rw[if_neg (show ¬(false=true) by decide)] at H;exact H
          clear H
          have H:=H1
          clear H1
          have H':=Aside0.mk H
          clear H
          have hcz12_0:w3.cell? ⟨gb118,0,none⟩=some (.int .i64 a0_0):=(blk_cell BK118.out 0).trans rfl
          have hcz12_1:w3.cell? ⟨gb118,1,none⟩=some (.int .i64 a0_1):=(blk_cell BK118.out 1).trans rfl
          have hcz12_2:w3.cell? ⟨gb118,2,none⟩=some (.int .i64 a0_2):=(blk_cell BK118.out 2).trans rfl
          have hcz12_3:w3.cell? ⟨gb118,3,none⟩=some (.int .i64 a0_3):=(blk_cell BK118.out 3).trans rfl
          have hfz12_0:=blk_frozen BK118.out 0
          have hfz12_1:=blk_frozen BK118.out 1
          have hfz12_2:=blk_frozen BK118.out 2
          have hfz12_3:=blk_frozen BK118.out 3
          go_wp2_with (first|((with_reducible refine gate_callee (f:=50) rfl ?_);refine goesL_ (some 5) rfl rfl Tryz.func50 (by kernel_rfl) rfl #[.int .i64 a0_0] rfl (by(try simp only[List.map_toArray,List.map_cons,List.map_nil]);first|done|rfl|(simp only[List.length_drop,List.length_take];rfl)) ?_;(with_reducible refine(spec_l5Sample.calls a0_0 true _ A4.out).mono ?_);rintro e w' ⟨rfl,⟨nd,rfl⟩⟩;refine⟨_,rfl,?_⟩)|(go_at_call 51;(with_reducible refine(spec_l1In.calls a0_2 (-9) 9 true _ A6.out).mono ?_);rintro e w' ⟨rfl,⟨nd,rfl⟩⟩)|(go_at_call 51;(with_reducible refine(spec_l1In.calls a0_3 (-9) 9 false _ A8.out).mono ?_);rintro e w' ⟨rfl,⟨nd,rfl⟩⟩))
          go_meet
          case rel=>exact⟨_,(true),(by first|rfl|(simp;done)|(simp[*];done)),H',⟨by first|omega|exact Nat.le_refl _⟩,⟨by(with_reducible repeat(first|refine blk_drewN ?_ _|refine blk_drew ?_|refine blk_alloc ?_ _));exact BK118.out⟩,⟨by repeat(first|(with_reducible first|exact HB.out|apply below_alloc|apply pw_below_drewN|apply below_drew1|refine below_set ?_ GE118.out)|exact HB.out)⟩⟩
      · replace c7:=Bool.eq_false_iff.mpr c7
        subst c7
        have H1:(spec_QtyOk.j0 k true a0_0 a0_1 a0_2 a0_3)=some r:=by rw[if_neg (show ¬(false=true) by decide)] at H;exact H
        clear H
        have H:=H1
        clear H1
        have H':=Aside0.mk H
        clear H
        have hcz13_0:w3.cell? ⟨gb118,0,none⟩=some (.int .i64 a0_0):=(blk_cell BK118.out 0).trans rfl
        have hcz13_1:w3.cell? ⟨gb118,1,none⟩=some (.int .i64 a0_1):=(blk_cell BK118.out 1).trans rfl
        have hcz13_2:w3.cell? ⟨gb118,2,none⟩=some (.int .i64 a0_2):=(blk_cell BK118.out 2).trans rfl
        have hcz13_3:w3.cell? ⟨gb118,3,none⟩=some (.int .i64 a0_3):=(blk_cell BK118.out 3).trans rfl
        have hfz13_0:=blk_frozen BK118.out 0
        have hfz13_1:=blk_frozen BK118.out 1
        have hfz13_2:=blk_frozen BK118.out 2
        have hfz13_3:=blk_frozen BK118.out 3
        go_wp2_with (first|((with_reducible refine gate_callee (f:=50) rfl ?_);refine goesL_ (some 5) rfl rfl Tryz.func50 (by kernel_rfl) rfl #[.int .i64 a0_0] rfl (by(try simp only[List.map_toArray,List.map_cons,List.map_nil]);first|done|rfl|(simp only[List.length_drop,List.length_take];rfl)) ?_;(with_reducible refine(spec_l5Sample.calls a0_0 true _ A4.out).mono ?_);rintro e w' ⟨rfl,⟨nd,rfl⟩⟩;refine⟨_,rfl,?_⟩)|(go_at_call 51;(with_reducible refine(spec_l1In.calls a0_2 (-9) 9 false _ A6.out).mono ?_);rintro e w' ⟨rfl,⟨nd,rfl⟩⟩))
        go_meet
        case rel=>exact⟨_,(true),(by first|rfl|(simp;done)|(simp[*];done)),H',⟨by first|omega|exact Nat.le_refl _⟩,⟨by(with_reducible repeat(first|refine blk_drewN ?_ _|refine blk_drew ?_|refine blk_alloc ?_ _));exact BK118.out⟩,⟨by repeat(first|(with_reducible first|exact HB.out|apply below_alloc|apply pw_below_drewN|apply below_drew1|refine below_set ?_ GE118.out)|exact HB.out)⟩⟩
    · replace c5:=Bool.eq_false_iff.mpr c5
      subst c5
      have H1:(spec_QtyOk.j0 k true a0_0 a0_1 a0_2 a0_3)=some r:=by rw[if_neg (show ¬(false=true) by decide)] at H;exact H
      clear H
      have H:=H1
      clear H1
      have H':=Aside0.mk H
      clear H
      have hcz14_0:w3.cell? ⟨gb118,0,none⟩=some (.int .i64 a0_0):=(blk_cell BK118.out 0).trans rfl
      have hcz14_1:w3.cell? ⟨gb118,1,none⟩=some (.int .i64 a0_1):=(blk_cell BK118.out 1).trans rfl
      have hcz14_2:w3.cell? ⟨gb118,2,none⟩=some (.int .i64 a0_2):=(blk_cell BK118.out 2).trans rfl
      have hcz14_3:w3.cell? ⟨gb118,3,none⟩=some (.int .i64 a0_3):=(blk_cell BK118.out 3).trans rfl
      have hfz14_0:=blk_frozen BK118.out 0
      have hfz14_1:=blk_frozen BK118.out 1
      have hfz14_2:=blk_frozen BK118.out 2
      have hfz14_3:=blk_frozen BK118.out 3
      go_wp2_with (first|((with_reducible refine gate_callee (f:=50) rfl ?_);refine goesL_ (some 5) rfl rfl Tryz.func50 (by kernel_rfl) rfl #[.int .i64 a0_0] rfl (by(try simp only[List.map_toArray,List.map_cons,List.map_nil]);first|done|rfl|(simp only[List.length_drop,List.length_take];rfl)) ?_;(with_reducible refine(spec_l5Sample.calls a0_0 false _ A4.out).mono ?_);rintro e w' ⟨rfl,⟨nd,rfl⟩⟩;refine⟨_,rfl,?_⟩))
      go_meet
      case rel=>exact⟨_,(true),(by first|rfl|(simp;done)|(simp[*];done)),H',⟨by first|omega|exact Nat.le_refl _⟩,⟨by(with_reducible repeat(first|refine blk_drewN ?_ _|refine blk_drew ?_|refine blk_alloc ?_ _));exact BK118.out⟩,⟨by repeat(first|(with_reducible first|exact HB.out|apply below_alloc|apply pw_below_drewN|apply below_drew1|refine below_set ?_ GE118.out)|exact HB.out)⟩⟩
  case rest=>
    clear HC2
    try clear c1
    try clear p2
    try clear c5
    try clear c7
    try clear c9
    try clear hcz11_0
    try clear hcz11_1
    try clear hcz11_2
    try clear hcz11_3
    try clear hcz12_0
    try clear hcz12_1
    try clear hcz12_2
    try clear hcz12_3
    try clear hcz13_0
    try clear hcz13_1
    try clear hcz13_2
    try clear hcz13_3
    try clear hcz14_0
    try clear hcz14_1
    try clear hcz14_2
    try clear hcz14_3
    try clear hfz11_0
    try clear hfz11_1
    try clear hfz11_2
    try clear hfz11_3
    try clear hfz12_0
    try clear hfz12_1
    try clear hfz12_2
    try clear hfz12_3
    try clear hfz13_0
    try clear hfz13_1
    try clear hfz13_2
    try clear hfz13_3
    try clear hfz14_0
    try clear hfz14_1
    try clear hfz14_2
    try clear hfz14_3
    obtain⟨kq,x24_1,rfl,HA,HJ1,BK118,HB⟩:=hcut
    cases kq with
    |zero=>exact absurd HA.out (by simp[spec_QtyOk.j0])
    | succ kj1=>
      have H:=HA.out
      clear HA
      simp only[spec_QtyOk.j0] at H
      by_cases c15:x24_1=true
      · subst c15
        have H1:(some false)=some r:=by rw[if_pos rfl] at H;exact H
        clear H
        have H:=H1
        clear H1
        obtain rfl:=Option.some.inj H
        go_wp2
        go_ret
        exact⟨by first|rfl|(simp[errW_none,errW_some]<;>rfl)|(simp[*,errW_none,errW_some]<;>rfl),by repeat(first|(with_reducible first|exact HB.out|apply below_alloc|apply pw_below_drewN|apply below_drew1|refine below_set ?_ GE118.out)|exact HB.out)⟩
      · replace c15:=Bool.eq_false_iff.mpr c15
        subst c15
        have H1:(if a0_0=0 then(some (a0_1==0)) else(some ((Int.tmod a0_0 10) != 0)))=some r:=by rw[if_neg (show ¬(false=true) by decide)] at H;exact H
        clear H
        have H:=H1
        clear H1
        by_cases c16:a0_0=0
        · rw[if_pos c16] at H
          have c16b0:(a0_0==0)=true:=beq_iff_eq.mpr c16
          have c16b1:(a0_0 != 0)=false:=bne_eq_false_iff_eq.mpr c16
          clear c16
          obtain rfl:=Option.some.inj H
          have hcz17_0:wc.cell? ⟨gb118,0,none⟩=some (.int .i64 a0_0):=(blk_cell BK118.out 0).trans rfl
          have hcz17_1:wc.cell? ⟨gb118,1,none⟩=some (.int .i64 a0_1):=(blk_cell BK118.out 1).trans rfl
          have hcz17_2:wc.cell? ⟨gb118,2,none⟩=some (.int .i64 a0_2):=(blk_cell BK118.out 2).trans rfl
          have hcz17_3:wc.cell? ⟨gb118,3,none⟩=some (.int .i64 a0_3):=(blk_cell BK118.out 3).trans rfl
          have hfz17_0:=blk_frozen BK118.out 0
          have hfz17_1:=blk_frozen BK118.out 1
          have hfz17_2:=blk_frozen BK118.out 2
          have hfz17_3:=blk_frozen BK118.out 3
          go_wp2
          go_ret
          exact⟨by first|rfl|(simp[errW_none,errW_some]<;>rfl)|(simp[*,errW_none,errW_some]<;>rfl),by repeat(first|(with_reducible first|exact HB.out|apply below_alloc|apply pw_below_drewN|apply below_drew1|refine below_set ?_ GE118.out)|exact HB.out)⟩
        · rw[if_neg c16] at H
          have c16b0:(a0_0==0)=false:=beq_eq_false_iff_ne.mpr c16
          have c16b1:(a0_0 != 0)=true:=bne_iff_ne.mpr c16
          obtain rfl:=Option.some.inj H
          have hcz18_0:wc.cell? ⟨gb118,0,none⟩=some (.int .i64 a0_0):=(blk_cell BK118.out 0).trans rfl
          have hcz18_1:wc.cell? ⟨gb118,1,none⟩=some (.int .i64 a0_1):=(blk_cell BK118.out 1).trans rfl
          have hcz18_2:wc.cell? ⟨gb118,2,none⟩=some (.int .i64 a0_2):=(blk_cell BK118.out 2).trans rfl
          have hcz18_3:wc.cell? ⟨gb118,3,none⟩=some (.int .i64 a0_3):=(blk_cell BK118.out 3).trans rfl
          have hfz18_0:=blk_frozen BK118.out 0
          have hfz18_1:=blk_frozen BK118.out 1
          have hfz18_2:=blk_frozen BK118.out 2
          have hfz18_3:=blk_frozen BK118.out 3
          go_wp2
          go_ret
          exact⟨by first|rfl|(simp[errW_none,errW_some]<;>rfl)|(simp[*,errW_none,errW_some]<;>rfl),by repeat(first|(with_reducible first|exact HB.out|apply below_alloc|apply pw_below_drewN|apply below_drew1|refine below_set ?_ GE118.out)|exact HB.out)⟩

/-! ### spec_l20Qty: function 32 -/
mutual
def spec_l20Qty.j0:Nat→Int→Int→Int→Int→Option (Int×Int×Int×Int×Bool)
  |0,_,_,_,_=>none
  |k+1,x0,x1,x2,x3=>spec_l20Qty.l0 k x0 x1 x2 x3
def spec_l20Qty.l0:Nat→Int→Int→Int→Int→Option (Int×Int×Int×Int×Bool)
  |0,_,_,_,_=>none
  |k+1,x0,x1,x2,x3=>if x0=0 then((spec_QtyOk.f k x0 x1 x2 x3).bind fun t125=>(if t125=true then(some (x0,x1,x2,x3,true)) else(some (0,0,0,0,false)))) else(if(Int.tmod x0 10)=0 then(spec_l20Qty.l0 k (wrap64 (Int.tdiv x0 10)) (wrap64 (x1+1)) x2 x3) else((spec_QtyOk.f k x0 x1 x2 x3).bind fun t127=>(if t127=true then(some (x0,x1,x2,x3,true)) else(some (0,0,0,0,false)))))
end
def spec_l20Qty.f (k:Nat) (a0:Int) (a1:Int) (a2:Int) (a3:Int):Option (Int×Int×Int×Int×Bool):=if a0=0 then(spec_l20Qty.j0 k a0 0 a2 a3) else(spec_l20Qty.j0 k a0 a1 a2 a3)
theorem spec_l20Qty.mono_l:∀k,(∀y0 y1 y2 y3,LeO (spec_l20Qty.j0 k y0 y1 y2 y3) (spec_l20Qty.j0 (k+1) y0 y1 y2 y3))∧(∀y0 y1 y2 y3,LeO (spec_l20Qty.l0 k y0 y1 y2 y3) (spec_l20Qty.l0 (k+1) y0 y1 y2 y3))
  |0=>⟨fun _ _ _ _ r h=>by simp[spec_l20Qty.j0] at h,fun _ _ _ _ r h=>by simp[spec_l20Qty.l0] at h⟩
  | k +1=>by
    obtain⟨ih0,ih1⟩:=spec_l20Qty.mono_l k
    refine⟨?_,?_⟩
    · intro y0 y1 y2 y3
      unfold spec_l20Qty.j0
      repeat' first
      |(with_reducible exact ih0 _ _ _ _)
      |(with_reducible exact ih1 _ _ _ _)
      |(with_reducible exact spec_QtyOk.mono _ _ _ _ _)
      |(with_reducible exact LeO.refl _)
      |(with_reducible exact LeO.none _)
      |(with_reducible refine LeO.ite ?_ ?_)
      |(with_reducible refine LeO.bind ?_ (fun _=> ?_))
      |exact ih0 _ _ _ _
      |exact ih1 _ _ _ _
      |exact spec_QtyOk.mono _ _ _ _ _
      |exact LeO.none _
      |refine LeO.ite ?_ ?_
      |refine LeO.bind ?_ (fun _=> ?_)
    · intro y0 y1 y2 y3
      unfold spec_l20Qty.l0
      repeat' first
      |(with_reducible exact ih0 _ _ _ _)
      |(with_reducible exact ih1 _ _ _ _)
      |(with_reducible exact spec_QtyOk.mono _ _ _ _ _)
      |(with_reducible exact LeO.refl _)
      |(with_reducible exact LeO.none _)
      |(with_reducible refine LeO.ite ?_ ?_)
      |(with_reducible refine LeO.bind ?_ (fun _=> ?_))
      |exact ih0 _ _ _ _
      |exact ih1 _ _ _ _
      |exact spec_QtyOk.mono _ _ _ _ _
      |exact LeO.none _
      |refine LeO.ite ?_ ?_
      |refine LeO.bind ?_ (fun _=> ?_)
theorem spec_l20Qty.mono:∀a0 a1 a2 a3 k,LeO (spec_l20Qty.f k a0 a1 a2 a3) (spec_l20Qty.f (k+1) a0 a1 a2 a3):=by
  intro a0 a1 a2 a3 k
  obtain⟨ih0,ih1⟩:=spec_l20Qty.mono_l k
  unfold spec_l20Qty.f
  repeat' first
      |(with_reducible exact ih0 _ _ _ _)
      |(with_reducible exact ih1 _ _ _ _)
      |(with_reducible exact spec_QtyOk.mono _ _ _ _ _)
      |(with_reducible exact LeO.refl _)
      |(with_reducible exact LeO.none _)
      |(with_reducible refine LeO.ite ?_ ?_)
      |(with_reducible refine LeO.bind ?_ (fun _=> ?_))
      |exact ih0 _ _ _ _
      |exact ih1 _ _ _ _
      |exact spec_QtyOk.mono _ _ _ _ _
      |exact LeO.none _
      |refine LeO.ite ?_ ?_
      |refine LeO.bind ?_ (fun _=> ?_)
set_option maxHeartbeats 8000000 in
set_option maxRecDepth 100000 in
theorem spec_l20Qty.calls (k:Nat) (a0:Int) (a1:Int) (a2:Int) (a3:Int) (r1:Int) (r2:Int) (r3:Int) (r4:Int) (r5:Bool) (w:World) (h:spec_l20Qty.f k a0 a1 a2 a3=some (r1,r2,r3,r4,r5)):
    Calls Tryz.prog 32 #[.int .i64 a0, .int .i64 a1, .int .i64 a2, .int .i64 a3] w fun e w'=>e= .returned (.tuple #[.agg #[.int .i64 r1, .int .i64 r2, .int .i64 r3, .int .i64 r4], .bool r5])∧Below w.heap.size w w':=by
  have hu25:=Tryz.underlying25
  have HB:=Aside0.mk (Below.refl w.heap.size w)
  have H:(if a0=0 then(spec_l20Qty.j0 k a0 0 a2 a3) else(spec_l20Qty.j0 k a0 a1 a2 a3))=some (r1,r2,r3,r4,r5):=h
  clear h
  have HC5:=Aside0.mk H
  clear H
  go_enter Tryz.func32,Tryz.ntmps32
  go_upto_if 12 with(first|((with_reducible refine gate_dst (N:=8) rfl ?_);refine box_event ?hg (N:=8) ?hd (cs:= #[.int .i64 0, .int .i64 0, .int .i64 0, .int .i64 0]) (t:=25) ?hr ?_;(case hd=>rfl);(case hg=>rfl);(case hr=>first|(go_simp;done)|(go_simp;rfl));intro gb123 hg w6 hbox hb;have n0_:=Aside0.mk (below_step (by repeat(first|(with_reducible first|exact HB.out|apply below_alloc|apply pw_below_drewN|apply below_drew1)|exact HB.out)) hb);have n1_:=Aside0.mk (hbox);have n2_:=Aside0.mk ((by rw[hg];exact(below_size (by repeat(first|(with_reducible first|exact HB.out|apply below_alloc|apply pw_below_drewN|apply below_drew1)|exact HB.out))):w.heap.size≤gb123));have n3_:=Aside0.mk ((by rw[hg];exact(below_size (by repeat(first|(with_reducible first|exact HB.out|apply below_alloc|apply pw_below_drewN|apply below_drew1)|exact HB.out))):w.heap.size≤gb123));clear HB;have HB:=n0_;have BK123:=n1_;have GW123:=n2_;have GE123:=n3_;clear n0_ n1_ n2_ n3_;clear hb hbox hg))
  (try simp only[Act.put,List.setIfInBounds_toArray,List.set_cons_zero,List.set_cons_succ])
  go_cut [1] (fun v1 wc=>∃(kq:Nat) (x1_4:Int),v1= .int .i64 x1_4∧Aside0 (spec_l20Qty.j0 kq a0 x1_4 a2 a3=some (r1,r2,r3,r4,r5))∧Aside0 (kq≤k)∧Aside0 (wc.heap[gb123]? =some (.cells #[.int .i64 0, .int .i64 0, .int .i64 0, .int .i64 0] 25 (0,0)))∧Aside0 (Below w.heap.size w wc))
  case first=>
    have H:=HC5.out
    clear HC5
    by_cases c7:a0=0
    · rw[if_pos c7] at H
      have c7b0:(a0==0)=true:=beq_iff_eq.mpr c7
      have c7b1:(a0 != 0)=false:=bne_eq_false_iff_eq.mpr c7
      clear c7
      (first|rw[c7b0]|(simp only[i64_w,i32_w];rw[c7b0])|skip)
      have H':=Aside0.mk H
      clear H
      go_wp2
      go_meet
      case rel=>exact⟨_,(0),(by first|rfl|(simp;done)|(simp[*];done)),H',⟨by first|omega|exact Nat.le_refl _⟩,⟨by(with_reducible repeat(first|refine blk_drewN ?_ _|refine blk_drew ?_|refine blk_alloc ?_ _));exact BK123.out⟩,⟨by repeat(first|(with_reducible first|exact HB.out|apply below_alloc|apply pw_below_drewN|apply below_drew1|refine below_set ?_ GE123.out)|exact HB.out)⟩⟩
    · rw[if_neg c7] at H
      have c7b0:(a0==0)=false:=beq_eq_false_iff_ne.mpr c7
      have c7b1:(a0 != 0)=true:=bne_iff_ne.mpr c7
      (first|rw[c7b0]|(simp only[i64_w,i32_w];rw[c7b0])|skip)
      have H':=Aside0.mk H
      clear H
      go_wp2
      go_meet
      case rel=>exact⟨_,(a1),(by first|rfl|(simp;done)|(simp[*];done)),H',⟨by first|omega|exact Nat.le_refl _⟩,⟨by(with_reducible repeat(first|refine blk_drewN ?_ _|refine blk_drew ?_|refine blk_alloc ?_ _));exact BK123.out⟩,⟨by repeat(first|(with_reducible first|exact HB.out|apply below_alloc|apply pw_below_drewN|apply below_drew1|refine below_set ?_ GE123.out)|exact HB.out)⟩⟩
  case rest =>
    clear HC5
    try clear p2
    try clear c3
    try clear c7
    try clear c7b0
    try clear c7b1
    obtain⟨kq,x1_4,rfl,HA,HJ4,BK123,HB⟩:=hcut
    cases kq with
    |zero=>exact absurd HA.out (by simp[spec_l20Qty.j0])
    | succ kj4=>
      have H:=HA.out
      clear HA
      simp only[spec_l20Qty.j0] at H
      have H':=Aside0.mk H
      clear H
      go_wp2
      (try simp only[Act.put,List.setIfInBounds_toArray,List.set_cons_zero,List.set_cons_succ])
      go_loopg [0,1] kj4 (fun kq v0 v1 w'=>∃(x0_2:Int) (x1_2:Int),v0= .int .i64 x0_2∧v1= .int .i64 x1_2∧Aside0 (spec_l20Qty.l0 kq x0_2 x1_2 a2 a3=some (r1,r2,r3,r4,r5))∧Aside0 (kq≤kj4)∧Aside0 (w'.heap[gb123]? =some (.cells #[.int .i64 0, .int .i64 0, .int .i64 0, .int .i64 0] 25 (0,0)))∧Aside0 (Below w.heap.size w w'))
      case atStart=>exact⟨(a0),(x1_4),(by first|rfl|(simp;done)|(simp[*];done)),(by first|rfl|(simp;done)|(simp[*];done)),H',⟨Nat.le_refl _⟩,⟨by(with_reducible repeat(first|refine blk_drewN ?_ _|refine blk_drew ?_|refine blk_alloc ?_ _));exact BK123.out⟩,⟨by repeat(first|(with_reducible first|exact HB.out|apply below_alloc|apply pw_below_drewN|apply below_drew1|refine below_set ?_ GE123.out)|exact HB.out)⟩⟩
      case round=>
        clear H'
        try clear p2
        try clear c3
        try clear c7
        try clear c7b0
        try clear c7b1
        try clear p2
        obtain⟨x0_2,x1_2,rfl,rfl,HA,HK2,BK123,HB⟩:=hrel
        cases gk with
        |zero=>exact absurd HA.out (by simp[spec_l20Qty.l0])
        | succ k2=>
          have H:=HA.out
          clear HA
          simp only[spec_l20Qty.l0] at H
          by_cases c8:x0_2=0
          · rw[if_pos c8] at H
            have c8b0:(x0_2==0)=true:=beq_iff_eq.mpr c8
            have c8b1:(x0_2 != 0)=false:=bne_eq_false_iff_eq.mpr c8
            clear c8
            replace H:=Option.bind_eq_some_iff.mp H
            obtain⟨t125,A90,H⟩:=H
            replace H:(if t125=true then(some (x0_2,x1_2,a2,a3,true)) else(some (0,0,0,0,false)))=some (r1,r2,r3,r4,r5):=H
            have A9:=Aside0.mk A90
            clear A90
            by_cases c10:t125=true
            · subst c10
              have H1:(some (x0_2,x1_2,a2,a3,true))=some (r1,r2,r3,r4,r5):=by rw[if_pos rfl] at H;exact H
              clear H
              have H:=H1
              clear H1
              simp only[Option.some.injEq,Prod.mk.injEq] at H
              obtain⟨rfl,rfl,rfl,rfl,rfl⟩:=H
              go_wp2_with (first|((with_reducible refine gate_dst (N:=10) rfl ?_);refine box_event ?hg (N:=10) ?hd (cs:= #[.int .i64 0, .int .i64 0, .int .i64 0, .int .i64 0]) (t:=25) ?hr ?_;(case hd=>rfl);(case hg=>rfl);(case hr=>first|(go_simp;done)|(go_simp;rfl));intro gb124 hg w11 hbox hb;have n0_:=Aside0.mk (blk_below (g:=gb123) (o:= .cells #[.int .i64 0, .int .i64 0, .int .i64 0, .int .i64 0] 25 (0,0)) (by(with_reducible repeat(first|refine blk_drewN ?_ _|refine blk_drew ?_|refine blk_alloc ?_ _));exact BK123.out) hb);have n1_:=Aside0.mk (below_step (by repeat(first|(with_reducible first|exact HB.out|apply below_alloc|apply pw_below_drewN|apply below_drew1|refine below_set ?_ GE123.out)|exact HB.out)) hb);have n2_:=Aside0.mk (hbox);have n3_:=Aside0.mk ((by rw[hg];exact(below_size (by repeat(first|(with_reducible first|exact HB.out|apply below_alloc|apply pw_below_drewN|apply below_drew1|refine below_set ?_ GE123.out)|exact HB.out))):w.heap.size≤gb124));have n4_:=Aside0.mk ((by rw[hg];exact(below_size (by repeat(first|(with_reducible first|exact HB.out|apply below_alloc|apply pw_below_drewN|apply below_drew1|refine below_set ?_ GE123.out)|exact HB.out))):w.heap.size≤gb124));have n5_:=Aside0.mk ((by rw[hg];exact Nat.ne_of_lt (blk_lt (g:=gb123) (o:= .cells #[.int .i64 0, .int .i64 0, .int .i64 0, .int .i64 0] 25 (0,0)) (by(with_reducible repeat(first|refine blk_drewN ?_ _|refine blk_drew ?_|refine blk_alloc ?_ _));exact BK123.out)):gb123≠gb124));have n6_:=Aside0.mk ((by rw[hg];exact Nat.ne_of_gt (blk_lt (g:=gb123) (o:= .cells #[.int .i64 0, .int .i64 0, .int .i64 0, .int .i64 0] 25 (0,0)) (by(with_reducible repeat(first|refine blk_drewN ?_ _|refine blk_drew ?_|refine blk_alloc ?_ _));exact BK123.out)):gb124≠gb123));clear BK123;clear HB;have BK123:=n0_;have HB:=n1_;have BK124:=n2_;have GW124:=n3_;have GE124:=n4_;have NB123_124:=n5_;have NB124_123:=n6_;clear n0_ n1_ n2_ n3_ n4_ n5_ n6_;clear hb hbox hg;have hnb12:=NB124_123.out;have hnc12:=NB123_124.out;have hcz13_0:w11.cell? ⟨gb124,0,none⟩=some (.int .i64 0):=(blk_cell BK124.out 0).trans rfl;have hcz13_1:w11.cell? ⟨gb124,1,none⟩=some (.int .i64 0):=(blk_cell BK124.out 1).trans rfl;have hcz13_2:w11.cell? ⟨gb124,2,none⟩=some (.int .i64 0):=(blk_cell BK124.out 2).trans rfl;have hcz13_3:w11.cell? ⟨gb124,3,none⟩=some (.int .i64 0):=(blk_cell BK124.out 3).trans rfl;have hfz13_0:=blk_frozen BK124.out 0;have hfz13_1:=blk_frozen BK124.out 1;have hfz13_2:=blk_frozen BK124.out 2;have hfz13_3:=blk_frozen BK124.out 3)|((with_reducible refine gate_callee (f:=19) rfl ?_);refine goesL_ (some 30) rfl rfl Tryz.func19 (by kernel_rfl) rfl #[.agg #[.int .i64 x0_2, .int .i64 x1_2, .int .i64 a2, .int .i64 a3]] rfl (by(try simp only[List.map_toArray,List.map_cons,List.map_nil]);first|done|rfl|(simp only[List.length_drop,List.length_take];rfl)) ?_;(with_reducible refine(spec_QtyOk.calls k2 x0_2 x1_2 a2 a3 true _ A9.out).mono ?_);rintro e w14 ⟨rfl,hb⟩;refine⟨_,rfl,?_⟩;have n0_:=Aside0.mk (blk_below (g:=gb123) (o:= .cells #[.int .i64 0, .int .i64 0, .int .i64 0, .int .i64 0] 25 (0,0)) (by(with_reducible repeat(first|refine blk_drewN ?_ _|refine blk_drew ?_|refine blk_alloc ?_ _));refine blk_far ?_ NB123_124.out _;(with_reducible repeat(first|refine blk_drewN ?_ _|refine blk_drew ?_|refine blk_alloc ?_ _));refine blk_far ?_ NB123_124.out _;(with_reducible repeat(first|refine blk_drewN ?_ _|refine blk_drew ?_|refine blk_alloc ?_ _));refine blk_far ?_ NB123_124.out _;(with_reducible repeat(first|refine blk_drewN ?_ _|refine blk_drew ?_|refine blk_alloc ?_ _));refine blk_far ?_ NB123_124.out _;(with_reducible repeat(first|refine blk_drewN ?_ _|refine blk_drew ?_|refine blk_alloc ?_ _));exact BK123.out) hb);have n1_:=Aside0.mk (blk_below (g:=gb124) (o:= .cells #[.int .i64 x0_2, .int .i64 x1_2, .int .i64 a2, .int .i64 a3] 25 (0,0)) (by(with_reducible repeat(first|refine blk_drewN ?_ _|refine blk_drew ?_|refine blk_alloc ?_ _));refine blk_put (cs:= #[.int .i64 x0_2, .int .i64 x1_2, .int .i64 a2, .int .i64 0]) ?_ 3 _ rfl;(with_reducible repeat(first|refine blk_drewN ?_ _|refine blk_drew ?_|refine blk_alloc ?_ _));refine blk_put (cs:= #[.int .i64 x0_2, .int .i64 x1_2, .int .i64 0, .int .i64 0]) ?_ 2 _ rfl;(with_reducible repeat(first|refine blk_drewN ?_ _|refine blk_drew ?_|refine blk_alloc ?_ _));refine blk_put (cs:= #[.int .i64 x0_2, .int .i64 0, .int .i64 0, .int .i64 0]) ?_ 1 _ rfl;(with_reducible repeat(first|refine blk_drewN ?_ _|refine blk_drew ?_|refine blk_alloc ?_ _));refine blk_put (cs:= #[.int .i64 0, .int .i64 0, .int .i64 0, .int .i64 0]) ?_ 0 _ rfl;(with_reducible repeat(first|refine blk_drewN ?_ _|refine blk_drew ?_|refine blk_alloc ?_ _));exact BK124.out) hb);have n2_:=Aside0.mk (below_step (by repeat(first|(with_reducible first|exact HB.out|apply below_alloc|apply pw_below_drewN|apply below_drew1|refine below_set ?_ GE123.out|refine below_set ?_ GE124.out)|exact HB.out)) hb);clear BK123;clear BK124;clear HB;have BK123:=n0_;have BK124:=n1_;have HB:=n2_;clear n0_ n1_ n2_;(try clear hb);(try clear hb2);(try clear hk);(try clear hi);have hcz15_0:w14.cell? ⟨gb124,0,none⟩=some (.int .i64 x0_2):=(blk_cell BK124.out 0).trans rfl;have hcz15_1:w14.cell? ⟨gb124,1,none⟩=some (.int .i64 x1_2):=(blk_cell BK124.out 1).trans rfl;have hcz15_2:w14.cell? ⟨gb124,2,none⟩=some (.int .i64 a2):=(blk_cell BK124.out 2).trans rfl;have hcz15_3:w14.cell? ⟨gb124,3,none⟩=some (.int .i64 a3):=(blk_cell BK124.out 3).trans rfl;have hfz15_0:=blk_frozen BK124.out 0;have hfz15_1:=blk_frozen BK124.out 1;have hfz15_2:=blk_frozen BK124.out 2;have hfz15_3:=blk_frozen BK124.out 3;have hcz16_0:w14.cell? ⟨gb123,0,none⟩=some (.int .i64 0):=(blk_cell BK123.out 0).trans rfl;have hcz16_1:w14.cell? ⟨gb123,1,none⟩=some (.int .i64 0):=(blk_cell BK123.out 1).trans rfl;have hcz16_2:w14.cell? ⟨gb123,2,none⟩=some (.int .i64 0):=(blk_cell BK123.out 2).trans rfl;have hcz16_3:w14.cell? ⟨gb123,3,none⟩=some (.int .i64 0):=(blk_cell BK123.out 3).trans rfl;have hfz16_0:=blk_frozen BK123.out 0;have hfz16_1:=blk_frozen BK123.out 1;have hfz16_2:=blk_frozen BK123.out 2;have hfz16_3:=blk_frozen BK123.out 3))
              refine bodyPost_ret (results_ct rfl _ _ gb123 25 #[.int .i64 x0_2, .int .i64 x1_2, .int .i64 a2, .int .i64 a3] (0,0) _ rfl (by(with_reducible repeat(first|refine blk_drewN ?_ _|refine blk_drew ?_|refine blk_alloc ?_ _));refine blk_put (cs:= #[.int .i64 x0_2, .int .i64 x1_2, .int .i64 a2, .int .i64 0]) ?_ 3 _ rfl;(with_reducible repeat(first|refine blk_drewN ?_ _|refine blk_drew ?_|refine blk_alloc ?_ _));refine blk_put (cs:= #[.int .i64 x0_2, .int .i64 x1_2, .int .i64 0, .int .i64 0]) ?_ 2 _ rfl;(with_reducible repeat(first|refine blk_drewN ?_ _|refine blk_drew ?_|refine blk_alloc ?_ _));refine blk_put (cs:= #[.int .i64 x0_2, .int .i64 0, .int .i64 0, .int .i64 0]) ?_ 1 _ rfl;(with_reducible repeat(first|refine blk_drewN ?_ _|refine blk_drew ?_|refine blk_alloc ?_ _));refine blk_put (cs:= #[.int .i64 0, .int .i64 0, .int .i64 0, .int .i64 0]) ?_ 0 _ rfl;(with_reducible repeat(first|refine blk_drewN ?_ _|refine blk_drew ?_|refine blk_alloc ?_ _));exact BK123.out) Tryz.underlying25 rfl (by kernel_rfl)) rfl ?_
              exact⟨by first|rfl|(simp[errW_none,errW_some]<;>rfl)|(simp[*,errW_none,errW_some]<;>rfl),by repeat(first|(with_reducible first|exact HB.out|apply below_alloc|apply pw_below_drewN|apply below_drew1|refine below_set ?_ GE123.out|refine below_set ?_ GE124.out)|exact HB.out)⟩
            · replace c10:=Bool.eq_false_iff.mpr c10
              subst c10
              have H1:(some (0,0,0,0,false))=some (r1,r2,r3,r4,r5):=by rw[if_neg (show ¬(false=true) by decide)] at H;exact H
              clear H
              have H:=H1
              clear H1
              simp only[Option.some.injEq,Prod.mk.injEq] at H
              obtain⟨rfl,rfl,rfl,rfl,rfl⟩:=H
              go_wp2_with (first|((with_reducible refine gate_dst (N:=10) rfl ?_);refine box_event ?hg (N:=10) ?hd (cs:= #[.int .i64 0, .int .i64 0, .int .i64 0, .int .i64 0]) (t:=25) ?hr ?_;(case hd=>rfl);(case hg=>rfl);(case hr=>first|(go_simp;done)|(go_simp;rfl));intro gb124 hg w17 hbox hb;have n0_:=Aside0.mk (blk_below (g:=gb123) (o:= .cells #[.int .i64 0, .int .i64 0, .int .i64 0, .int .i64 0] 25 (0,0)) (by(with_reducible repeat(first|refine blk_drewN ?_ _|refine blk_drew ?_|refine blk_alloc ?_ _));exact BK123.out) hb);have n1_:=Aside0.mk (below_step (by repeat(first|(with_reducible first|exact HB.out|apply below_alloc|apply pw_below_drewN|apply below_drew1|refine below_set ?_ GE123.out)|exact HB.out)) hb);have n2_:=Aside0.mk (hbox);have n3_:=Aside0.mk ((by rw[hg];exact(below_size (by repeat(first|(with_reducible first|exact HB.out|apply below_alloc|apply pw_below_drewN|apply below_drew1|refine below_set ?_ GE123.out)|exact HB.out))):w.heap.size≤gb124));have n4_:=Aside0.mk ((by rw[hg];exact(below_size (by repeat(first|(with_reducible first|exact HB.out|apply below_alloc|apply pw_below_drewN|apply below_drew1|refine below_set ?_ GE123.out)|exact HB.out))):w.heap.size≤gb124));have n5_:=Aside0.mk ((by rw[hg];exact Nat.ne_of_lt (blk_lt (g:=gb123) (o:= .cells #[.int .i64 0, .int .i64 0, .int .i64 0, .int .i64 0] 25 (0,0)) (by(with_reducible repeat(first|refine blk_drewN ?_ _|refine blk_drew ?_|refine blk_alloc ?_ _));exact BK123.out)):gb123≠gb124));have n6_:=Aside0.mk ((by rw[hg];exact Nat.ne_of_gt (blk_lt (g:=gb123) (o:= .cells #[.int .i64 0, .int .i64 0, .int .i64 0, .int .i64 0] 25 (0,0)) (by(with_reducible repeat(first|refine blk_drewN ?_ _|refine blk_drew ?_|refine blk_alloc ?_ _));exact BK123.out)):gb124≠gb123));clear BK123;clear HB;have BK123:=n0_;have HB:=n1_;have BK124:=n2_;have GW124:=n3_;have GE124:=n4_;have NB123_124:=n5_;have NB124_123:=n6_;clear n0_ n1_ n2_ n3_ n4_ n5_ n6_;clear hb hbox hg;have hnb18:=NB124_123.out;have hnc18:=NB123_124.out;have hcz19_0:w17.cell? ⟨gb124,0,none⟩=some (.int .i64 0):=(blk_cell BK124.out 0).trans rfl;have hcz19_1:w17.cell? ⟨gb124,1,none⟩=some (.int .i64 0):=(blk_cell BK124.out 1).trans rfl;have hcz19_2:w17.cell? ⟨gb124,2,none⟩=some (.int .i64 0):=(blk_cell BK124.out 2).trans rfl;have hcz19_3:w17.cell? ⟨gb124,3,none⟩=some (.int .i64 0):=(blk_cell BK124.out 3).trans rfl;have hfz19_0:=blk_frozen BK124.out 0;have hfz19_1:=blk_frozen BK124.out 1;have hfz19_2:=blk_frozen BK124.out 2;have hfz19_3:=blk_frozen BK124.out 3)|((with_reducible refine gate_callee (f:=19) rfl ?_);refine goesL_ (some 30) rfl rfl Tryz.func19 (by kernel_rfl) rfl #[.agg #[.int .i64 x0_2, .int .i64 x1_2, .int .i64 a2, .int .i64 a3]] rfl (by(try simp only[List.map_toArray,List.map_cons,List.map_nil]);first|done|rfl|(simp only[List.length_drop,List.length_take];rfl)) ?_;(with_reducible refine(spec_QtyOk.calls k2 x0_2 x1_2 a2 a3 false _ A9.out).mono ?_);rintro e w20 ⟨rfl,hb⟩;refine⟨_,rfl,?_⟩;have n0_:=Aside0.mk (blk_below (g:=gb123) (o:= .cells #[.int .i64 0, .int .i64 0, .int .i64 0, .int .i64 0] 25 (0,0)) (by(with_reducible repeat(first|refine blk_drewN ?_ _|refine blk_drew ?_|refine blk_alloc ?_ _));refine blk_far ?_ NB123_124.out _;(with_reducible repeat(first|refine blk_drewN ?_ _|refine blk_drew ?_|refine blk_alloc ?_ _));refine blk_far ?_ NB123_124.out _;(with_reducible repeat(first|refine blk_drewN ?_ _|refine blk_drew ?_|refine blk_alloc ?_ _));refine blk_far ?_ NB123_124.out _;(with_reducible repeat(first|refine blk_drewN ?_ _|refine blk_drew ?_|refine blk_alloc ?_ _));refine blk_far ?_ NB123_124.out _;(with_reducible repeat(first|refine blk_drewN ?_ _|refine blk_drew ?_|refine blk_alloc ?_ _));exact BK123.out) hb);have n1_:=Aside0.mk (blk_below (g:=gb124) (o:= .cells #[.int .i64 x0_2, .int .i64 x1_2, .int .i64 a2, .int .i64 a3] 25 (0,0)) (by(with_reducible repeat(first|refine blk_drewN ?_ _|refine blk_drew ?_|refine blk_alloc ?_ _));refine blk_put (cs:= #[.int .i64 x0_2, .int .i64 x1_2, .int .i64 a2, .int .i64 0]) ?_ 3 _ rfl;(with_reducible repeat(first|refine blk_drewN ?_ _|refine blk_drew ?_|refine blk_alloc ?_ _));refine blk_put (cs:= #[.int .i64 x0_2, .int .i64 x1_2, .int .i64 0, .int .i64 0]) ?_ 2 _ rfl;(with_reducible repeat(first|refine blk_drewN ?_ _|refine blk_drew ?_|refine blk_alloc ?_ _));refine blk_put (cs:= #[.int .i64 x0_2, .int .i64 0, .int .i64 0, .int .i64 0]) ?_ 1 _ rfl;(with_reducible repeat(first|refine blk_drewN ?_ _|refine blk_drew ?_|refine blk_alloc ?_ _));refine blk_put (cs:= #[.int .i64 0, .int .i64 0, .int .i64 0, .int .i64 0]) ?_ 0 _ rfl;(with_reducible repeat(first|refine blk_drewN ?_ _|refine blk_drew ?_|refine blk_alloc ?_ _));exact BK124.out) hb);have n2_:=Aside0.mk (below_step (by repeat(first|(with_reducible first|exact HB.out|apply below_alloc|apply pw_below_drewN|apply below_drew1|refine below_set ?_ GE123.out|refine below_set ?_ GE124.out)|exact HB.out)) hb);clear BK123;clear BK124;clear HB;have BK123:=n0_;have BK124:=n1_;have HB:=n2_;clear n0_ n1_ n2_;(try clear hb);(try clear hb2);(try clear hk);(try clear hi);have hcz21_0:w20.cell? ⟨gb123,0,none⟩=some (.int .i64 0):=(blk_cell BK123.out 0).trans rfl;have hcz21_1:w20.cell? ⟨gb123,1,none⟩=some (.int .i64 0):=(blk_cell BK123.out 1).trans rfl;have hcz21_2:w20.cell? ⟨gb123,2,none⟩=some (.int .i64 0):=(blk_cell BK123.out 2).trans rfl;have hcz21_3:w20.cell? ⟨gb123,3,none⟩=some (.int .i64 0):=(blk_cell BK123.out 3).trans rfl;have hfz21_0:=blk_frozen BK123.out 0;have hfz21_1:=blk_frozen BK123.out 1;have hfz21_2:=blk_frozen BK123.out 2;have hfz21_3:=blk_frozen BK123.out 3))
              refine bodyPost_ret (results_ct rfl _ _ gb123 25 #[.int .i64 0, .int .i64 0, .int .i64 0, .int .i64 0] (0,0) _ rfl (by(with_reducible repeat(first|refine blk_drewN ?_ _|refine blk_drew ?_|refine blk_alloc ?_ _));refine blk_put (cs:= #[.int .i64 0, .int .i64 0, .int .i64 0, .int .i64 0]) ?_ 3 _ rfl;(with_reducible repeat(first|refine blk_drewN ?_ _|refine blk_drew ?_|refine blk_alloc ?_ _));refine blk_put (cs:= #[.int .i64 0, .int .i64 0, .int .i64 0, .int .i64 0]) ?_ 2 _ rfl;(with_reducible repeat(first|refine blk_drewN ?_ _|refine blk_drew ?_|refine blk_alloc ?_ _));refine blk_put (cs:= #[.int .i64 0, .int .i64 0, .int .i64 0, .int .i64 0]) ?_ 1 _ rfl;(with_reducible repeat(first|refine blk_drewN ?_ _|refine blk_drew ?_|refine blk_alloc ?_ _));refine blk_put (cs:= #[.int .i64 0, .int .i64 0, .int .i64 0, .int .i64 0]) ?_ 0 _ rfl;(with_reducible repeat(first|refine blk_drewN ?_ _|refine blk_drew ?_|refine blk_alloc ?_ _));exact BK123.out) Tryz.underlying25 rfl (by kernel_rfl)) rfl ?_
              exact⟨by first|rfl|(simp[errW_none,errW_some]<;>rfl)|(simp[*,errW_none,errW_some]<;>rfl),by repeat(first|(with_reducible first|exact HB.out|apply below_alloc|apply pw_below_drewN|apply below_drew1|refine below_set ?_ GE123.out|refine below_set ?_ GE124.out)|exact HB.out)⟩
          · rw [if_neg c8] at H
            have c8b0:(x0_2==0)=false:=beq_eq_false_iff_ne.mpr c8
            have c8b1:(x0_2 != 0)=true:=bne_iff_ne.mpr c8
            by_cases c22:(Int.tmod x0_2 10)=0
            · rw[if_pos c22] at H
              have c22b0:((Int.tmod x0_2 10)==0)=true:=beq_iff_eq.mpr c22
              have c22b1:((Int.tmod x0_2 10) != 0)=false:=bne_eq_false_iff_eq.mpr c22
              clear c22
              have H':=Aside0.mk H
              clear H
              go_wp2
              go_roundg k2
              case measure=>have:=HJ4.out;have:=HK2.out;omega
              case rel=>exact⟨(wrap64 (Int.tdiv x0_2 10)),(wrap64 (x1_2+1)),(by first|rfl|(simp;done)|(simp[*];done)),(by first|rfl|(simp;done)|(simp[*];done)),H',⟨by have:=HJ4.out;have:=HK2.out;omega⟩,⟨by(with_reducible repeat(first|refine blk_drewN ?_ _|refine blk_drew ?_|refine blk_alloc ?_ _));exact BK123.out⟩,⟨by repeat(first|(with_reducible first|exact HB.out|apply below_alloc|apply pw_below_drewN|apply below_drew1|refine below_set ?_ GE123.out)|exact HB.out)⟩⟩
            · rw[if_neg c22] at H
              have c22b0:((Int.tmod x0_2 10)==0)=false:=beq_eq_false_iff_ne.mpr c22
              have c22b1:((Int.tmod x0_2 10) != 0)=true:=bne_iff_ne.mpr c22
              replace H:=Option.bind_eq_some_iff.mp H
              obtain⟨t127,A230,H⟩:=H
              replace H:(if t127=true then(some (x0_2,x1_2,a2,a3,true)) else(some (0,0,0,0,false)))=some (r1,r2,r3,r4,r5):=H
              have A23:=Aside0.mk A230
              clear A230
              by_cases c24:t127=true
              · subst c24
                have H1:(some (x0_2,x1_2,a2,a3,true))=some (r1,r2,r3,r4,r5):=by rw[if_pos rfl] at H;exact H
                clear H
                have H:=H1
                clear H1
                simp only[Option.some.injEq,Prod.mk.injEq] at H
                obtain⟨rfl,rfl,rfl,rfl,rfl⟩:=H
                go_wp2_with (first|((with_reducible refine gate_dst (N:=10) rfl ?_);refine box_event ?hg (N:=10) ?hd (cs:= #[.int .i64 0, .int .i64 0, .int .i64 0, .int .i64 0]) (t:=25) ?hr ?_;(case hd=>rfl);(case hg=>rfl);(case hr=>first|(go_simp;done)|(go_simp;rfl));intro gb126 hg w25 hbox hb;have n0_:=Aside0.mk (blk_below (g:=gb123) (o:= .cells #[.int .i64 0, .int .i64 0, .int .i64 0, .int .i64 0] 25 (0,0)) (by(with_reducible repeat(first|refine blk_drewN ?_ _|refine blk_drew ?_|refine blk_alloc ?_ _));exact BK123.out) hb);have n1_:=Aside0.mk (below_step (by repeat(first|(with_reducible first|exact HB.out|apply below_alloc|apply pw_below_drewN|apply below_drew1|refine below_set ?_ GE123.out)|exact HB.out)) hb);have n2_:=Aside0.mk (hbox);have n3_:=Aside0.mk ((by rw[hg];exact(below_size (by repeat(first|(with_reducible first|exact HB.out|apply below_alloc|apply pw_below_drewN|apply below_drew1|refine below_set ?_ GE123.out)|exact HB.out))):w.heap.size≤gb126));have n4_:=Aside0.mk ((by rw[hg];exact(below_size (by repeat(first|(with_reducible first|exact HB.out|apply below_alloc|apply pw_below_drewN|apply below_drew1|refine below_set ?_ GE123.out)|exact HB.out))):w.heap.size≤gb126));have n5_:=Aside0.mk ((by rw[hg];exact Nat.ne_of_lt (blk_lt (g:=gb123) (o:= .cells #[.int .i64 0, .int .i64 0, .int .i64 0, .int .i64 0] 25 (0,0)) (by(with_reducible repeat(first|refine blk_drewN ?_ _|refine blk_drew ?_|refine blk_alloc ?_ _));exact BK123.out)):gb123≠gb126));have n6_:=Aside0.mk ((by rw[hg];exact Nat.ne_of_gt (blk_lt (g:=gb123) (o:= .cells #[.int .i64 0, .int .i64 0, .int .i64 0, .int .i64 0] 25 (0,0)) (by(with_reducible repeat(first|refine blk_drewN ?_ _|refine blk_drew ?_|refine blk_alloc ?_ _));exact BK123.out)):gb126≠gb123));clear BK123;clear HB;have BK123:=n0_;have HB:=n1_;have BK126:=n2_;have GW126:=n3_;have GE126:=n4_;have NB123_126:=n5_;have NB126_123:=n6_;clear n0_ n1_ n2_ n3_ n4_ n5_ n6_;clear hb hbox hg;have hnb26:=NB126_123.out;have hnc26:=NB123_126.out;have hcz27_0:w25.cell? ⟨gb126,0,none⟩=some (.int .i64 0):=(blk_cell BK126.out 0).trans rfl;have hcz27_1:w25.cell? ⟨gb126,1,none⟩=some (.int .i64 0):=(blk_cell BK126.out 1).trans rfl;have hcz27_2:w25.cell? ⟨gb126,2,none⟩=some (.int .i64 0):=(blk_cell BK126.out 2).trans rfl;have hcz27_3:w25.cell? ⟨gb126,3,none⟩=some (.int .i64 0):=(blk_cell BK126.out 3).trans rfl;have hfz27_0:=blk_frozen BK126.out 0;have hfz27_1:=blk_frozen BK126.out 1;have hfz27_2:=blk_frozen BK126.out 2;have hfz27_3:=blk_frozen BK126.out 3)|((with_reducible refine gate_callee (f:=19) rfl ?_);refine goesL_ (some 30) rfl rfl Tryz.func19 (by kernel_rfl) rfl #[.agg #[.int .i64 x0_2, .int .i64 x1_2, .int .i64 a2, .int .i64 a3]] rfl (by(try simp only[List.map_toArray,List.map_cons,List.map_nil]);first|done|rfl|(simp only[List.length_drop,List.length_take];rfl)) ?_;(with_reducible refine(spec_QtyOk.calls k2 x0_2 x1_2 a2 a3 true _ A23.out).mono ?_);rintro e w28 ⟨rfl,hb⟩;refine⟨_,rfl,?_⟩;have n0_:=Aside0.mk (blk_below (g:=gb123) (o:= .cells #[.int .i64 0, .int .i64 0, .int .i64 0, .int .i64 0] 25 (0,0)) (by(with_reducible repeat(first|refine blk_drewN ?_ _|refine blk_drew ?_|refine blk_alloc ?_ _));refine blk_far ?_ NB123_126.out _;(with_reducible repeat(first|refine blk_drewN ?_ _|refine blk_drew ?_|refine blk_alloc ?_ _));refine blk_far ?_ NB123_126.out _;(with_reducible repeat(first|refine blk_drewN ?_ _|refine blk_drew ?_|refine blk_alloc ?_ _));refine blk_far ?_ NB123_126.out _;(with_reducible repeat(first|refine blk_drewN ?_ _|refine blk_drew ?_|refine blk_alloc ?_ _));refine blk_far ?_ NB123_126.out _;(with_reducible repeat(first|refine blk_drewN ?_ _|refine blk_drew ?_|refine blk_alloc ?_ _));exact BK123.out) hb);have n1_:=Aside0.mk (blk_below (g:=gb126) (o:= .cells #[.int .i64 x0_2, .int .i64 x1_2, .int .i64 a2, .int .i64 a3] 25 (0,0)) (by(with_reducible repeat(first|refine blk_drewN ?_ _|refine blk_drew ?_|refine blk_alloc ?_ _));refine blk_put (cs:= #[.int .i64 x0_2, .int .i64 x1_2, .int .i64 a2, .int .i64 0]) ?_ 3 _ rfl;(with_reducible repeat(first|refine blk_drewN ?_ _|refine blk_drew ?_|refine blk_alloc ?_ _));refine blk_put (cs:= #[.int .i64 x0_2, .int .i64 x1_2, .int .i64 0, .int .i64 0]) ?_ 2 _ rfl;(with_reducible repeat(first|refine blk_drewN ?_ _|refine blk_drew ?_|refine blk_alloc ?_ _));refine blk_put (cs:= #[.int .i64 x0_2, .int .i64 0, .int .i64 0, .int .i64 0]) ?_ 1 _ rfl;(with_reducible repeat(first|refine blk_drewN ?_ _|refine blk_drew ?_|refine blk_alloc ?_ _));refine blk_put (cs:= #[.int .i64 0, .int .i64 0, .int .i64 0, .int .i64 0]) ?_ 0 _ rfl;(with_reducible repeat(first|refine blk_drewN ?_ _|refine blk_drew ?_|refine blk_alloc ?_ _));exact BK126.out) hb);have n2_:=Aside0.mk (below_step (by repeat(first|(with_reducible first|exact HB.out|apply below_alloc|apply pw_below_drewN|apply below_drew1|refine below_set ?_ GE123.out|refine below_set ?_ GE126.out)|exact HB.out)) hb);clear BK123;clear BK126;clear HB;have BK123:=n0_;have BK126:=n1_;have HB:=n2_;clear n0_ n1_ n2_;(try clear hb);(try clear hb2);(try clear hk);(try clear hi);have hcz29_0:w28.cell? ⟨gb126,0,none⟩=some (.int .i64 x0_2):=(blk_cell BK126.out 0).trans rfl;have hcz29_1:w28.cell? ⟨gb126,1,none⟩=some (.int .i64 x1_2):=(blk_cell BK126.out 1).trans rfl;have hcz29_2:w28.cell? ⟨gb126,2,none⟩=some (.int .i64 a2):=(blk_cell BK126.out 2).trans rfl;have hcz29_3:w28.cell? ⟨gb126,3,none⟩=some (.int .i64 a3):=(blk_cell BK126.out 3).trans rfl;have hfz29_0:=blk_frozen BK126.out 0;have hfz29_1:=blk_frozen BK126.out 1;have hfz29_2:=blk_frozen BK126.out 2;have hfz29_3:=blk_frozen BK126.out 3;have hcz30_0:w28.cell? ⟨gb123,0,none⟩=some (.int .i64 0):=(blk_cell BK123.out 0).trans rfl;have hcz30_1:w28.cell? ⟨gb123,1,none⟩=some (.int .i64 0):=(blk_cell BK123.out 1).trans rfl;have hcz30_2:w28.cell? ⟨gb123,2,none⟩=some (.int .i64 0):=(blk_cell BK123.out 2).trans rfl;have hcz30_3:w28.cell? ⟨gb123,3,none⟩=some (.int .i64 0):=(blk_cell BK123.out 3).trans rfl;have hfz30_0:=blk_frozen BK123.out 0;have hfz30_1:=blk_frozen BK123.out 1;have hfz30_2:=blk_frozen BK123.out 2;have hfz30_3:=blk_frozen BK123.out 3))
                refine bodyPost_ret (results_ct rfl _ _ gb123 25 #[.int .i64 x0_2, .int .i64 x1_2, .int .i64 a2, .int .i64 a3] (0,0) _ rfl (by(with_reducible repeat(first|refine blk_drewN ?_ _|refine blk_drew ?_|refine blk_alloc ?_ _));refine blk_put (cs:= #[.int .i64 x0_2, .int .i64 x1_2, .int .i64 a2, .int .i64 0]) ?_ 3 _ rfl;(with_reducible repeat(first|refine blk_drewN ?_ _|refine blk_drew ?_|refine blk_alloc ?_ _));refine blk_put (cs:= #[.int .i64 x0_2, .int .i64 x1_2, .int .i64 0, .int .i64 0]) ?_ 2 _ rfl;(with_reducible repeat(first|refine blk_drewN ?_ _|refine blk_drew ?_|refine blk_alloc ?_ _));refine blk_put (cs:= #[.int .i64 x0_2, .int .i64 0, .int .i64 0, .int .i64 0]) ?_ 1 _ rfl;(with_reducible repeat(first|refine blk_drewN ?_ _|refine blk_drew ?_|refine blk_alloc ?_ _));refine blk_put (cs:= #[.int .i64 0, .int .i64 0, .int .i64 0, .int .i64 0]) ?_ 0 _ rfl;(with_reducible repeat(first|refine blk_drewN ?_ _|refine blk_drew ?_|refine blk_alloc ?_ _));exact BK123.out) Tryz.underlying25 rfl (by kernel_rfl)) rfl ?_
                exact⟨by first|rfl|(simp[errW_none,errW_some]<;>rfl)|(simp[*,errW_none,errW_some]<;>rfl),by repeat(first|(with_reducible first|exact HB.out|apply below_alloc|apply pw_below_drewN|apply below_drew1|refine below_set ?_ GE123.out|refine below_set ?_ GE126.out)|exact HB.out)⟩
              · replace c24:=Bool.eq_false_iff.mpr c24
                subst c24
                have H1:(some (0,0,0,0,false))=some (r1,r2,r3,r4,r5):=by rw[if_neg (show ¬(false=true) by decide)] at H;exact H
                clear H
                have H:=H1
                clear H1
                simp only[Option.some.injEq,Prod.mk.injEq] at H
                obtain⟨rfl,rfl,rfl,rfl,rfl⟩:=H
                go_wp2_with (first|((with_reducible refine gate_dst (N:=10) rfl ?_);refine box_event ?hg (N:=10) ?hd (cs:= #[.int .i64 0, .int .i64 0, .int .i64 0, .int .i64 0]) (t:=25) ?hr ?_;(case hd=>rfl);(case hg=>rfl);(case hr=>first|(go_simp;done)|(go_simp;rfl));intro gb126 hg w31 hbox hb;have n0_:=Aside0.mk (blk_below (g:=gb123) (o:= .cells #[.int .i64 0, .int .i64 0, .int .i64 0, .int .i64 0] 25 (0,0)) (by(with_reducible repeat(first|refine blk_drewN ?_ _|refine blk_drew ?_|refine blk_alloc ?_ _));exact BK123.out) hb);have n1_:=Aside0.mk (below_step (by repeat(first|(with_reducible first|exact HB.out|apply below_alloc|apply pw_below_drewN|apply below_drew1|refine below_set ?_ GE123.out)|exact HB.out)) hb);have n2_:=Aside0.mk (hbox);have n3_:=Aside0.mk ((by rw[hg];exact(below_size (by repeat(first|(with_reducible first|exact HB.out|apply below_alloc|apply pw_below_drewN|apply below_drew1|refine below_set ?_ GE123.out)|exact HB.out))):w.heap.size≤gb126));have n4_:=Aside0.mk ((by rw[hg];exact(below_size (by repeat(first|(with_reducible first|exact HB.out|apply below_alloc|apply pw_below_drewN|apply below_drew1|refine below_set ?_ GE123.out)|exact HB.out))):w.heap.size≤gb126));have n5_:=Aside0.mk ((by rw[hg];exact Nat.ne_of_lt (blk_lt (g:=gb123) (o:= .cells #[.int .i64 0, .int .i64 0, .int .i64 0, .int .i64 0] 25 (0,0)) (by(with_reducible repeat(first|refine blk_drewN ?_ _|refine blk_drew ?_|refine blk_alloc ?_ _));exact BK123.out)):gb123≠gb126));have n6_:=Aside0.mk ((by rw[hg];exact Nat.ne_of_gt (blk_lt (g:=gb123) (o:= .cells #[.int .i64 0, .int .i64 0, .int .i64 0, .int .i64 0] 25 (0,0)) (by(with_reducible repeat(first|refine blk_drewN ?_ _|refine blk_drew ?_|refine blk_alloc ?_ _));exact BK123.out)):gb126≠gb123));clear BK123;clear HB;have BK123:=n0_;have HB:=n1_;have BK126:=n2_;have GW126:=n3_;have GE126:=n4_;have NB123_126:=n5_;have NB126_123:=n6_;clear n0_ n1_ n2_ n3_ n4_ n5_ n6_;clear hb hbox hg;have hnb32:=NB126_123.out;have hnc32:=NB123_126.out;have hcz33_0:w31.cell? ⟨gb126,0,none⟩=some (.int .i64 0):=(blk_cell BK126.out 0).trans rfl;have hcz33_1:w31.cell? ⟨gb126,1,none⟩=some (.int .i64 0):=(blk_cell BK126.out 1).trans rfl;have hcz33_2:w31.cell? ⟨gb126,2,none⟩=some (.int .i64 0):=(blk_cell BK126.out 2).trans rfl;have hcz33_3:w31.cell? ⟨gb126,3,none⟩=some (.int .i64 0):=(blk_cell BK126.out 3).trans rfl;have hfz33_0:=blk_frozen BK126.out 0;have hfz33_1:=blk_frozen BK126.out 1;have hfz33_2:=blk_frozen BK126.out 2;have hfz33_3:=blk_frozen BK126.out 3)|((with_reducible refine gate_callee (f:=19) rfl ?_);refine goesL_ (some 30) rfl rfl Tryz.func19 (by kernel_rfl) rfl #[.agg #[.int .i64 x0_2, .int .i64 x1_2, .int .i64 a2, .int .i64 a3]] rfl (by(try simp only[List.map_toArray,List.map_cons,List.map_nil]);first|done|rfl|(simp only[List.length_drop,List.length_take];rfl)) ?_;(with_reducible refine(spec_QtyOk.calls k2 x0_2 x1_2 a2 a3 false _ A23.out).mono ?_);rintro e w34 ⟨rfl,hb⟩;refine⟨_,rfl,?_⟩;have n0_:=Aside0.mk (blk_below (g:=gb123) (o:= .cells #[.int .i64 0, .int .i64 0, .int .i64 0, .int .i64 0] 25 (0,0)) (by(with_reducible repeat(first|refine blk_drewN ?_ _|refine blk_drew ?_|refine blk_alloc ?_ _));refine blk_far ?_ NB123_126.out _;(with_reducible repeat(first|refine blk_drewN ?_ _|refine blk_drew ?_|refine blk_alloc ?_ _));refine blk_far ?_ NB123_126.out _;(with_reducible repeat(first|refine blk_drewN ?_ _|refine blk_drew ?_|refine blk_alloc ?_ _));refine blk_far ?_ NB123_126.out _;(with_reducible repeat(first|refine blk_drewN ?_ _|refine blk_drew ?_|refine blk_alloc ?_ _));refine blk_far ?_ NB123_126.out _;(with_reducible repeat(first|refine blk_drewN ?_ _|refine blk_drew ?_|refine blk_alloc ?_ _));exact BK123.out) hb);have n1_:=Aside0.mk (blk_below (g:=gb126) (o:= .cells #[.int .i64 x0_2, .int .i64 x1_2, .int .i64 a2, .int .i64 a3] 25 (0,0)) (by(with_reducible repeat(first|refine blk_drewN ?_ _|refine blk_drew ?_|refine blk_alloc ?_ _));refine blk_put (cs:= #[.int .i64 x0_2, .int .i64 x1_2, .int .i64 a2, .int .i64 0]) ?_ 3 _ rfl;(with_reducible repeat(first|refine blk_drewN ?_ _|refine blk_drew ?_|refine blk_alloc ?_ _));refine blk_put (cs:= #[.int .i64 x0_2, .int .i64 x1_2, .int .i64 0, .int .i64 0]) ?_ 2 _ rfl;(with_reducible repeat(first|refine blk_drewN ?_ _|refine blk_drew ?_|refine blk_alloc ?_ _));refine blk_put (cs:= #[.int .i64 x0_2, .int .i64 0, .int .i64 0, .int .i64 0]) ?_ 1 _ rfl;(with_reducible repeat(first|refine blk_drewN ?_ _|refine blk_drew ?_|refine blk_alloc ?_ _));refine blk_put (cs:= #[.int .i64 0, .int .i64 0, .int .i64 0, .int .i64 0]) ?_ 0 _ rfl;(with_reducible repeat(first|refine blk_drewN ?_ _|refine blk_drew ?_|refine blk_alloc ?_ _));exact BK126.out) hb);have n2_:=Aside0.mk (below_step (by repeat(first|(with_reducible first|exact HB.out|apply below_alloc|apply pw_below_drewN|apply below_drew1|refine below_set ?_ GE123.out|refine below_set ?_ GE126.out)|exact HB.out)) hb);clear BK123;clear BK126;clear HB;have BK123:=n0_;have BK126:=n1_;have HB:=n2_;clear n0_ n1_ n2_;(try clear hb);(try clear hb2);(try clear hk);(try clear hi);have hcz35_0:w34.cell? ⟨gb123,0,none⟩=some (.int .i64 0):=(blk_cell BK123.out 0).trans rfl;have hcz35_1:w34.cell? ⟨gb123,1,none⟩=some (.int .i64 0):=(blk_cell BK123.out 1).trans rfl;have hcz35_2:w34.cell? ⟨gb123,2,none⟩=some (.int .i64 0):=(blk_cell BK123.out 2).trans rfl;have hcz35_3:w34.cell? ⟨gb123,3,none⟩=some (.int .i64 0):=(blk_cell BK123.out 3).trans rfl;have hfz35_0:=blk_frozen BK123.out 0;have hfz35_1:=blk_frozen BK123.out 1;have hfz35_2:=blk_frozen BK123.out 2;have hfz35_3:=blk_frozen BK123.out 3))
                refine bodyPost_ret (results_ct rfl _ _ gb123 25 #[.int .i64 0, .int .i64 0, .int .i64 0, .int .i64 0] (0,0) _ rfl (by(with_reducible repeat(first|refine blk_drewN ?_ _|refine blk_drew ?_|refine blk_alloc ?_ _));refine blk_put (cs:= #[.int .i64 0, .int .i64 0, .int .i64 0, .int .i64 0]) ?_ 3 _ rfl;(with_reducible repeat(first|refine blk_drewN ?_ _|refine blk_drew ?_|refine blk_alloc ?_ _));refine blk_put (cs:= #[.int .i64 0, .int .i64 0, .int .i64 0, .int .i64 0]) ?_ 2 _ rfl;(with_reducible repeat(first|refine blk_drewN ?_ _|refine blk_drew ?_|refine blk_alloc ?_ _));refine blk_put (cs:= #[.int .i64 0, .int .i64 0, .int .i64 0, .int .i64 0]) ?_ 1 _ rfl;(with_reducible repeat(first|refine blk_drewN ?_ _|refine blk_drew ?_|refine blk_alloc ?_ _));refine blk_put (cs:= #[.int .i64 0, .int .i64 0, .int .i64 0, .int .i64 0]) ?_ 0 _ rfl;(with_reducible repeat(first|refine blk_drewN ?_ _|refine blk_drew ?_|refine blk_alloc ?_ _));exact BK123.out) Tryz.underlying25 rfl (by kernel_rfl)) rfl ?_
                exact⟨by first|rfl|(simp[errW_none,errW_some]<;>rfl)|(simp[*,errW_none,errW_some]<;>rfl),by repeat(first|(with_reducible first|exact HB.out|apply below_alloc|apply pw_below_drewN|apply below_drew1|refine below_set ?_ GE123.out|refine below_set ?_ GE126.out)|exact HB.out)⟩

/-! ### spec_l1Once: function 38 -/
def spec_l1Once.f (s0_0:List Int) (s0_1:Int) (s0_2:Int) (a1:Int):Option (Bool×Int×Int):=(spec_l1Below.f s0_0 s0_1 s0_2 a1).bind fun bt128=>(some ((bt128.1==0),bt128.2.1,bt128.2.2))
set_option maxHeartbeats 8000000 in
set_option maxRecDepth 100000 in
theorem spec_l1Once.calls (g:Nat) (s0_0:List Int) (s0_1:Int) (s0_2:Int) (a1:Int) (r1:Bool) (r2:Int) (r3:Int) (w0 w:World) (hI:IsS68 w0 w g s0_0 s0_1 s0_2) (hB:Below w0.heap.size w0 w) (h:spec_l1Once.f s0_0 s0_1 s0_2 a1=some (r1,r2,r3)):
    Calls Tryz.prog 38 #[.pointer (some ⟨g,0,none⟩), .int .i64 a1] w fun e w'=>e= .returned (.bool r1)∧IsS68 w0 w' g s0_0 r2 r3∧Below w0.heap.size w0 w'∧KeepBut w w' g none:=by
  have HI0:=Aside0.mk hI
  have HK:=Aside0.mk (KeepBut.refl w g none)
  have HL:=Aside0.mk hB.size
  clear hI
  have HW0:=Aside0.mk hB.size
  have HB:=Aside0.mk hB
  clear hB
  have H:((spec_l1Below.f s0_0 s0_1 s0_2 a1).bind fun bt128=>(some ((bt128.1==0),bt128.2.1,bt128.2.2)))=some (r1,r2,r3):=h
  clear h
  replace H:=Option.bind_eq_some_iff.mp H
  obtain⟨⟨t128,t129,t130⟩,A30,H⟩:=H
  replace H:(some ((t128==0),t129,t130))=some (r1,r2,r3):=H
  have A3:=Aside0.mk A30
  clear A30
  simp only[Option.some.injEq,Prod.mk.injEq] at H
  obtain⟨rfl,rfl,rfl⟩:=H
  go_enter Tryz.func38,Tryz.ntmps38
  go_wp2_with (first|((with_reducible refine gate_callee (f:=29) rfl ?_);refine goesL_ (some 7) rfl rfl Tryz.func29 (by kernel_rfl) rfl #[.pointer (some ⟨g,0,none⟩), .int .i64 a1] rfl (by(try simp only[List.map_toArray,List.map_cons,List.map_nil]);first|done|rfl|(simp only[List.length_drop,List.length_take];rfl)) ?_;(with_reducible refine(spec_l1Below.calls g s0_0 s0_1 s0_2 a1 t128 t129 t130 w0 _ ?side1 ?side2 A3.out).mono ?_);(case side1=>repeat(first|(with_reducible first|exact HI0.out|apply IsS68.alloc|apply IsS68.drewN|apply IsS68.drew|apply IsS68.set_1|apply IsS68.set_2)|exact HI0.out));(case side2=>repeat(first|(with_reducible first|exact HB.out|apply below_alloc|apply pw_below_drewN|apply below_drew1|refine below_set ?_ (IsS68.ge HI0.out))|exact HB.out));rintro e w4 ⟨rfl,hi,hb,hk⟩;refine⟨_,rfl,?_⟩;have n0_:=Aside0.mk (KeepBut.trans (by repeat(first|(with_reducible first|exact HK.out|apply KeepBut.set_|apply keep_drewN|apply keep_drew|apply keep_alloc)|exact HK.out)) hk (.inl rfl));have n1_:=Aside0.mk (hb);have n2_:=Aside0.mk (hi);clear HK;clear HB;clear HI0;have HK:=n0_;have HB:=n1_;have HI0:=n2_;clear n0_ n1_ n2_;(try clear hb);(try clear hb2);(try clear hk);(try clear hi)))
  go_ret
  exact⟨by first|rfl|(simp[errW_none,errW_some]<;>rfl)|(simp[*,errW_none,errW_some]<;>rfl),by repeat(first|(with_reducible first|exact HI0.out|apply IsS68.alloc|apply IsS68.drewN|apply IsS68.drew|apply IsS68.set_1|apply IsS68.set_2)|exact HI0.out),by repeat(first|(with_reducible first|exact HB.out|apply below_alloc|apply pw_below_drewN|apply below_drew1|refine below_set ?_ (IsS68.ge HI0.out))|exact HB.out),by repeat(first|(with_reducible first|exact HK.out|apply KeepBut.set_|apply keep_drewN|apply keep_drew|apply keep_alloc)|exact HK.out)⟩

/-! ### spec_l1PickInt: function 39 -/
def spec_l1PickInt.f (s0_0:List Int) (s0_1:Int) (s0_2:Int) (l1:List Int):Option (Int×Int×Int):=(spec_l1Below.f s0_0 s0_1 s0_2 (l1.length:Int)).bind fun bt131=>(if 0≤bt131.1 then(if bt131.1<(l1.length:Int) then(some (rd l1 bt131.1,bt131.2.1,bt131.2.2)) else(none)) else(none))
set_option maxHeartbeats 8000000 in
set_option maxRecDepth 100000 in
theorem spec_l1PickInt.calls (g:Nat) (s0_0:List Int) (s0_1:Int) (s0_2:Int) (A1:Option Addr) (c1:Nat) (l1:List Int) (r1:Int) (r2:Int) (r3:Int) (w0 w:World) (hI:IsS68 w0 w g s0_0 s0_1 s0_2) (hB:Below w0.heap.size w0 w) (hr1:Kd.C (Kd.int .i64) w A1 l1.length l1) (hc1:l1.length≤c1) (hf1:∀ad,A1=some ad→0<l1.length→ad.block≠g) (h:spec_l1PickInt.f s0_0 s0_1 s0_2 l1=some (r1,r2,r3)):
    Calls Tryz.prog 39 #[.pointer (some ⟨g,0,none⟩), .slice A1 l1.length c1] w fun e w'=>e= .returned (.int .i64 r1)∧IsS68 w0 w' g s0_0 r2 r3∧Below w0.heap.size w0 w'∧KeepBut w w' g none:=by
  have HR1:=Aside0.mk hr1
  have HC1:=Aside0.mk hc1
  clear hr1 hc1
  have HI0:=Aside0.mk hI
  have HK:=Aside0.mk (KeepBut.refl w g none)
  have HL:=Aside0.mk hB.size
  clear hI
  have HW0:=Aside0.mk hB.size
  have HB:=Aside0.mk hB
  clear hB
  have H:((spec_l1Below.f s0_0 s0_1 s0_2 (l1.length:Int)).bind fun bt131=>(if 0≤bt131.1 then(if bt131.1<(l1.length:Int) then(some (rd l1 bt131.1,bt131.2.1,bt131.2.2)) else(none)) else(none)))=some (r1,r2,r3):=h
  clear h
  replace H:=Option.bind_eq_some_iff.mp H
  obtain⟨⟨t131,t132,t133⟩,A30,H⟩:=H
  replace H:(if 0≤t131 then(if t131<(l1.length:Int) then(some (rd l1 t131,t132,t133)) else(none)) else(none))=some (r1,r2,r3):=H
  have A3:=Aside0.mk A30
  clear A30
  by_cases c4:0≤t131
  · rw[if_pos c4] at H
    have c4b0:decide (0≤t131)=true:=decide_eq_true c4
    clear c4
    by_cases c5:t131<(l1.length:Int)
    · rw[if_pos c5] at H
      have c5b0:decide (t131<(l1.length:Int))=true:=decide_eq_true c5
      clear c5
      simp only[Option.some.injEq,Prod.mk.injEq] at H
      obtain⟨rfl,rfl,rfl⟩:=H
      go_enter Tryz.func39,Tryz.ntmps39
      go_wp2_with (first|((with_reducible refine gate_callee (f:=29) rfl ?_);refine goesL_ (some 9) rfl rfl Tryz.func29 (by kernel_rfl) rfl #[.pointer (some ⟨g,0,none⟩), .int .i64 (l1.length:Int)] rfl (by(try simp only[List.map_toArray,List.map_cons,List.map_nil]);first|done|rfl|(simp only[List.length_drop,List.length_take];rfl)) ?_;(with_reducible refine(spec_l1Below.calls g s0_0 s0_1 s0_2 (l1.length:Int) t131 t132 t133 w0 _ ?side1 ?side2 A3.out).mono ?_);(case side1=>repeat(first|(with_reducible first|exact HI0.out|apply IsS68.alloc|apply IsS68.drewN|apply IsS68.drew|apply IsS68.set_1|apply IsS68.set_2)|exact HI0.out));(case side2=>repeat(first|(with_reducible first|exact HB.out|apply below_alloc|apply pw_below_drewN|apply below_drew1|refine below_set ?_ (IsS68.ge HI0.out))|exact HB.out));rintro e w6 ⟨rfl,hi,hb,hk⟩;refine⟨_,rfl,?_⟩;have n0_:=Aside0.mk (KeepBut.trans (by repeat(first|(with_reducible first|exact HK.out|apply KeepBut.set_|apply keep_drewN|apply keep_drew|apply keep_alloc)|exact HK.out)) hk (.inl rfl));have n1_:=Aside0.mk (hb);have n2_:=Aside0.mk (hi);clear HK;clear HB;clear HI0;have HK:=n0_;have HB:=n1_;have HI0:=n2_;clear n0_ n1_ n2_;(try clear hb);(try clear hb2);(try clear hk);(try clear hi);have p134:0≤(t131:Int):=of_decide_eq_true (by first|(with_reducible assumption)|assumption);have q134:t131<(l1.length:Int):=of_decide_eq_true (by first|(with_reducible assumption)|assumption);obtain⟨ad134,e134,hx134_0⟩:=Kd.at_int HR1.out t131 p134 q134;cases e134;replace hx134_0:=keep_cell HK.out hx134_0 (by first|(rw[add_block];exact hf1 _ rfl (by omega))|exact hf1 _ rfl (by omega)|exact hf1 ad134 rfl (by omega));replace p134:=eq_true p134;replace q134:=eq_true q134))
      go_ret
      exact⟨by first|rfl|(simp[errW_none,errW_some]<;>rfl)|(simp[*,errW_none,errW_some]<;>rfl),by repeat(first|(with_reducible first|exact HI0.out|apply IsS68.alloc|apply IsS68.drewN|apply IsS68.drew|apply IsS68.set_1|apply IsS68.set_2)|exact HI0.out),by repeat(first|(with_reducible first|exact HB.out|apply below_alloc|apply pw_below_drewN|apply below_drew1|refine below_set ?_ (IsS68.ge HI0.out))|exact HB.out),by repeat(first|(with_reducible first|exact HK.out|apply KeepBut.set_|apply keep_drewN|apply keep_drew|apply keep_alloc)|exact HK.out)⟩
    · rw[if_neg c5] at H
      exact absurd H (by simp)
  · rw[if_neg c4] at H
    exact absurd H (by simp)

end Go.Proofs.YtanohnlddaneeaaGreatDoor.PFnQtyBack
