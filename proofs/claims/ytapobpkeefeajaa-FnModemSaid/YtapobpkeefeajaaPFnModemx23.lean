-- A turned copy of the print's text.
import Derived.Test.YtapobpkeefeajaaPFnModemx0
import Derived.Test.YtapobpkeefeajaaPFnModemx17
namespace Go.Proofs.Ytapobpkeefeajaa.PFnModem
open Go.RowKit Go.Proofs.YtapobpkeefeajaaW.PrintWords Go.Proofs.YtapobpkeefeajaaW.PrintLast Go.Proofs.YtapobpkeefeajaaW.PrintMore
attribute [local go_sem] max2_int min2_int max_two min_two max_three min_three max_four min_four
set_option maxHeartbeats 8000000
set_option maxRecDepth 100000
set_option linter.unusedVariables false
set_option linter.unusedSimpArgs false
def spec_Budget.f (a0_0:Int) (a0_1:Int) (a0_2:Int) (a0_3:Int) (a0_4:Int) (a0_5:Int):Option (Int×Int):=(spec_ModemOk.f a0_0 a0_1 a0_2 a0_3 a0_4 a0_5).bind fun t432=>(if t432=true then(if a0_0=0 then(none) else(some (wrap64 (Int.tdiv (wrap64 (a0_5-1)) 2),wrap64 (Int.tdiv a0_1 a0_0)))) else(some (0,0)))
theorem spec_Budget.calls (a0_0:Int) (a0_1:Int) (a0_2:Int) (a0_3:Int) (a0_4:Int) (a0_5:Int) (r1:Int) (r2:Int) (w:World) (H:spec_Budget.f a0_0 a0_1 a0_2 a0_3 a0_4 a0_5=some (r1,r2)):
 Calls Try.prog 28 #[.agg #[.int .i64 a0_0, .int .i64 a0_1, .int .i64 a0_2, .int .i64 a0_3, .int .i64 a0_4, .int .i64 a0_5]] w fun e w'=>e= .returned (.tuple #[.int .i64 r1, .int .i64 r2])∧Below w.heap.size w w':=by
 have hu28:=Try.underlying28
 have HB:=zM (Below.refl w.heap.size w)
 unfold spec_Budget.f at H
 replace H:=zP H
 obtain⟨t432,A2,H⟩:=H
 by_cases c3:t432=true
 case neg=>
  replace c3:=Bool.eq_false_iff.mpr c3
  subst c3
  rw[if_neg zFT] at H
  simp only[Option.some.injEq,Prod.mk.injEq] at H
  obtain⟨rfl,rfl⟩:=H
  go_enter Try.func28,Try.ntmps28
  go_wp2_with (first|((with_reducible refine gate_dst (N:=1) rfl ?_);refine box_event ?hg (N:=1) ?hd (cs:= #[.int .i64 a0_0, .int .i64 a0_1, .int .i64 a0_2, .int .i64 a0_3, .int .i64 a0_4, .int .i64 a0_5]) (t:=28) ?hr ?_;(case hd|hg=>rfl);(case hr=>exact zh);intro gb431 hg w9 hbox hb;have n0_:=zM (below_step zb hb);have n1_:=zM (hbox);have n2_:=zM ((zw hg (below_size zb)));have n3_:=zM n2_.out;clear HB;have HB:=n0_;have BK431:=n1_;have GW431:=n2_;have GE431:=n3_;clear n0_ n1_ n2_ n3_;clear hb hbox hg;obtain⟨hcz10_0,hcz10_1,hcz10_2,hcz10_3,hcz10_4,hcz10_5,hfz10_0,hfz10_1,hfz10_2,hfz10_3,hfz10_4,hfz10_5⟩:=zc6 BK431.out)|(go_at_call 29;(with_reducible refine(spec_ModemOk.calls a0_0 a0_1 a0_2 a0_3 a0_4 a0_5 false _ A2.out).mono ?_);rintro e w11 ⟨rfl,hb⟩;refine zS2 (zNb (g:=gb431) (o:= .cells #[.int .i64 a0_0, .int .i64 a0_1, .int .i64 a0_2, .int .i64 a0_3, .int .i64 a0_4, .int .i64 a0_5] 28 (0,0)) (zn BK431) hb) (below_step zb8 hb) ?_;clear BK431 HB;intro BK431 HB;(try clear hb);(try clear hb2);(try clear hk);(try clear hi)))
  repeat(go_quiet (first|((with_reducible refine gate_dst (N:=1) rfl ?_);refine box_event ?hg (N:=1) ?hd (cs:= #[.int .i64 a0_0, .int .i64 a0_1, .int .i64 a0_2, .int .i64 a0_3, .int .i64 a0_4, .int .i64 a0_5]) (t:=28) ?hr ?_;(case hd|hg=>rfl);(case hr=>exact zh);intro gb431 hg w9 hbox hb;have n0_:=zM (below_step zb hb);have n1_:=zM (hbox);have n2_:=zM ((zw hg (below_size zb)));have n3_:=zM n2_.out;clear HB;have HB:=n0_;have BK431:=n1_;have GW431:=n2_;have GE431:=n3_;clear n0_ n1_ n2_ n3_;clear hb hbox hg;obtain⟨hcz10_0,hcz10_1,hcz10_2,hcz10_3,hcz10_4,hcz10_5,hfz10_0,hfz10_1,hfz10_2,hfz10_3,hfz10_4,hfz10_5⟩:=zc6 BK431.out)|(go_at_call 29;(with_reducible refine(spec_ModemOk.calls a0_0 a0_1 a0_2 a0_3 a0_4 a0_5 false _ A2.out).mono ?_);rintro e w11 ⟨rfl,hb⟩;refine zS2 (zNb (g:=gb431) (o:= .cells #[.int .i64 a0_0, .int .i64 a0_1, .int .i64 a0_2, .int .i64 a0_3, .int .i64 a0_4, .int .i64 a0_5] 28 (0,0)) (zn BK431) hb) (below_step zb8 hb) ?_;clear BK431 HB;intro BK431 HB;(try clear hb);(try clear hb2);(try clear hk);(try clear hi)));try go_wp2_with (first|((with_reducible refine gate_dst (N:=1) rfl ?_);refine box_event ?hg (N:=1) ?hd (cs:= #[.int .i64 a0_0, .int .i64 a0_1, .int .i64 a0_2, .int .i64 a0_3, .int .i64 a0_4, .int .i64 a0_5]) (t:=28) ?hr ?_;(case hd|hg=>rfl);(case hr=>exact zh);intro gb431 hg w9 hbox hb;have n0_:=zM (below_step zb hb);have n1_:=zM (hbox);have n2_:=zM ((zw hg (below_size zb)));have n3_:=zM n2_.out;clear HB;have HB:=n0_;have BK431:=n1_;have GW431:=n2_;have GE431:=n3_;clear n0_ n1_ n2_ n3_;clear hb hbox hg;obtain⟨hcz10_0,hcz10_1,hcz10_2,hcz10_3,hcz10_4,hcz10_5,hfz10_0,hfz10_1,hfz10_2,hfz10_3,hfz10_4,hfz10_5⟩:=zc6 BK431.out)|(go_at_call 29;(with_reducible refine(spec_ModemOk.calls a0_0 a0_1 a0_2 a0_3 a0_4 a0_5 false _ A2.out).mono ?_);rintro e w11 ⟨rfl,hb⟩;refine zS2 (zNb (g:=gb431) (o:= .cells #[.int .i64 a0_0, .int .i64 a0_1, .int .i64 a0_2, .int .i64 a0_3, .int .i64 a0_4, .int .i64 a0_5] 28 (0,0)) (zn BK431) hb) (below_step zb8 hb) ?_;clear BK431 HB;intro BK431 HB;(try clear hb);(try clear hb2);(try clear hk);(try clear hi))))
  go_ret2
  exact⟨zq,zb8⟩
 subst c3
 rw[if_pos rfl] at H
 replace H:=zI2 H
 rcases H with⟨c4,H⟩|⟨c4,H⟩
 case inl=>
  exact absurd H (by simp)
 have c4b0:(a0_0==0)=false:=beq_eq_false_iff_ne.mpr c4
 have c4b1:(a0_0 != 0)=true:=bne_iff_ne.mpr c4
 simp only[Option.some.injEq,Prod.mk.injEq] at H
 obtain⟨rfl,rfl⟩:=H
 go_enter Try.func28,Try.ntmps28
 go_wp2_with (first|((with_reducible refine gate_dst (N:=1) rfl ?_);refine box_event ?hg (N:=1) ?hd (cs:= #[.int .i64 a0_0, .int .i64 a0_1, .int .i64 a0_2, .int .i64 a0_3, .int .i64 a0_4, .int .i64 a0_5]) (t:=28) ?hr ?_;(case hd|hg=>rfl);(case hr=>exact zh);intro gb431 hg w5 hbox hb;have n0_:=zM (below_step zb hb);have n1_:=zM (hbox);have n2_:=zM ((zw hg (below_size zb)));have n3_:=zM n2_.out;clear HB;have HB:=n0_;have BK431:=n1_;have GW431:=n2_;have GE431:=n3_;clear n0_ n1_ n2_ n3_;clear hb hbox hg;obtain⟨hcz6_0,hcz6_1,hcz6_2,hcz6_3,hcz6_4,hcz6_5,hfz6_0,hfz6_1,hfz6_2,hfz6_3,hfz6_4,hfz6_5⟩:=zc6 BK431.out)|(go_at_call 29;(with_reducible refine(spec_ModemOk.calls a0_0 a0_1 a0_2 a0_3 a0_4 a0_5 true _ A2.out).mono ?_);rintro e w7 ⟨rfl,hb⟩;refine zS2 (zNb (g:=gb431) (o:= .cells #[.int .i64 a0_0, .int .i64 a0_1, .int .i64 a0_2, .int .i64 a0_3, .int .i64 a0_4, .int .i64 a0_5] 28 (0,0)) (zn BK431) hb) (below_step zb8 hb) ?_;clear BK431 HB;intro BK431 HB;(try clear hb);(try clear hb2);(try clear hk);(try clear hi);obtain⟨hcz8_0,hcz8_1,hcz8_2,hcz8_3,hcz8_4,hcz8_5,hfz8_0,hfz8_1,hfz8_2,hfz8_3,hfz8_4,hfz8_5⟩:=zc6 BK431.out))
 repeat(go_quiet (first|((with_reducible refine gate_dst (N:=1) rfl ?_);refine box_event ?hg (N:=1) ?hd (cs:= #[.int .i64 a0_0, .int .i64 a0_1, .int .i64 a0_2, .int .i64 a0_3, .int .i64 a0_4, .int .i64 a0_5]) (t:=28) ?hr ?_;(case hd|hg=>rfl);(case hr=>exact zh);intro gb431 hg w5 hbox hb;have n0_:=zM (below_step zb hb);have n1_:=zM (hbox);have n2_:=zM ((zw hg (below_size zb)));have n3_:=zM n2_.out;clear HB;have HB:=n0_;have BK431:=n1_;have GW431:=n2_;have GE431:=n3_;clear n0_ n1_ n2_ n3_;clear hb hbox hg;obtain⟨hcz6_0,hcz6_1,hcz6_2,hcz6_3,hcz6_4,hcz6_5,hfz6_0,hfz6_1,hfz6_2,hfz6_3,hfz6_4,hfz6_5⟩:=zc6 BK431.out)|(go_at_call 29;(with_reducible refine(spec_ModemOk.calls a0_0 a0_1 a0_2 a0_3 a0_4 a0_5 true _ A2.out).mono ?_);rintro e w7 ⟨rfl,hb⟩;refine zS2 (zNb (g:=gb431) (o:= .cells #[.int .i64 a0_0, .int .i64 a0_1, .int .i64 a0_2, .int .i64 a0_3, .int .i64 a0_4, .int .i64 a0_5] 28 (0,0)) (zn BK431) hb) (below_step zb8 hb) ?_;clear BK431 HB;intro BK431 HB;(try clear hb);(try clear hb2);(try clear hk);(try clear hi);obtain⟨hcz8_0,hcz8_1,hcz8_2,hcz8_3,hcz8_4,hcz8_5,hfz8_0,hfz8_1,hfz8_2,hfz8_3,hfz8_4,hfz8_5⟩:=zc6 BK431.out));try go_wp2_with (first|((with_reducible refine gate_dst (N:=1) rfl ?_);refine box_event ?hg (N:=1) ?hd (cs:= #[.int .i64 a0_0, .int .i64 a0_1, .int .i64 a0_2, .int .i64 a0_3, .int .i64 a0_4, .int .i64 a0_5]) (t:=28) ?hr ?_;(case hd|hg=>rfl);(case hr=>exact zh);intro gb431 hg w5 hbox hb;have n0_:=zM (below_step zb hb);have n1_:=zM (hbox);have n2_:=zM ((zw hg (below_size zb)));have n3_:=zM n2_.out;clear HB;have HB:=n0_;have BK431:=n1_;have GW431:=n2_;have GE431:=n3_;clear n0_ n1_ n2_ n3_;clear hb hbox hg;obtain⟨hcz6_0,hcz6_1,hcz6_2,hcz6_3,hcz6_4,hcz6_5,hfz6_0,hfz6_1,hfz6_2,hfz6_3,hfz6_4,hfz6_5⟩:=zc6 BK431.out)|(go_at_call 29;(with_reducible refine(spec_ModemOk.calls a0_0 a0_1 a0_2 a0_3 a0_4 a0_5 true _ A2.out).mono ?_);rintro e w7 ⟨rfl,hb⟩;refine zS2 (zNb (g:=gb431) (o:= .cells #[.int .i64 a0_0, .int .i64 a0_1, .int .i64 a0_2, .int .i64 a0_3, .int .i64 a0_4, .int .i64 a0_5] 28 (0,0)) (zn BK431) hb) (below_step zb8 hb) ?_;clear BK431 HB;intro BK431 HB;(try clear hb);(try clear hb2);(try clear hk);(try clear hi);obtain⟨hcz8_0,hcz8_1,hcz8_2,hcz8_3,hcz8_4,hcz8_5,hfz8_0,hfz8_1,hfz8_2,hfz8_3,hfz8_4,hfz8_5⟩:=zc6 BK431.out)))
 go_ret2
 exact⟨zq,zb8⟩
/-- A state of type 99 at block g of W; what its slices lead to came in by w0. -/
def IsS99 (w0 W:World) (g:Nat) (f0:List Int) (f1:Int) (f2:Int):Prop:=∃A0 c0,W.heap[g]? =some (.cells #[.slice A0 f0.length c0, .int .i64 f1, .int .i64 f2] 99 (0,0))∧w0.heap.size≤g∧Kd.C (Kd.int .u8) w0 A0 f0.length f0
theorem IsS99.grown {w0 W:World} {g:Nat} {f0:List Int} {f1:Int} {f2:Int} {W1:World} {row:Option Nat} (h:IsS99 w0 W g f0 f1 f2) (hw:W.grownBy W1 row) (hne:some g≠row):IsS99 w0 W1 g f0 f1 f2:=by
 obtain⟨A0,c0,hb,hg,hr0⟩:=h
 exact⟨A0,c0,blk_grown hb hw hne,hg,hr0⟩
theorem IsS99.own_neN {w0 W:World} {g:Nat} {f0:List Int} {f1:Int} {f2:Int} {α:Type} {d:Kd α} {e:Nat} {base:Nat} {ok:Nat→Prop} {v:Value} {xs:List α} (h:IsS99 w0 W g f0 f1 f2) (ho:Kd.N d e W base ok v xs) (ht:e≠99):some g≠v.ownBlock:=by
 obtain⟨A0,c0,hb,hg,hr0⟩:=h
 exact Kd.N_ne ho hb ht
theorem IsS99.fresh {w0 W:World} {g:Nat} {f0:List Int} {f1:Int} {f2:Int} (h:IsS99 w0 W g f0 f1 f2):∀k,W.heap.size≤k→k≠g:=by
 obtain⟨A0,c0,hb,hg,hr0⟩:=h
 exact Kd.freshB hb
theorem IsS99.kept {w0 W:World} {g:Nat} {f0:List Int} {f1:Int} {f2:Int} {W1:World} {S:Nat→Prop} (h:IsS99 w0 W g f0 f1 f2) (hk:Kept W W1 S) (hne:¬S g):IsS99 w0 W1 g f0 f1 f2:=by
 obtain⟨A0,c0,hb,hg,hr0⟩:=h
 exact⟨A0,c0,blk_kept hb hk hne,hg,hr0⟩
theorem IsS99.below {w0 W:World} {g:Nat} {f0:List Int} {f1:Int} {f2:Int} {W1:World} (h:IsS99 w0 W g f0 f1 f2) (hw:Below W.heap.size W W1):IsS99 w0 W1 g f0 f1 f2:=h.grown (grown_of_below hw none) (by simp)
theorem IsS99.alloc {w0 W:World} {g:Nat} {f0:List Int} {f1:Int} {f2:Int} (h:IsS99 w0 W g f0 f1 f2) (o:Obj):IsS99 w0 (W.alloc o) g f0 f1 f2:=h.below (zBa (Below.refl _ _) o)
theorem IsS99.drewN {w0 W:World} {g:Nat} {f0:List Int} {f1:Int} {f2:Int} (h:IsS99 w0 W g f0 f1 f2) (m:Nat):IsS99 w0 (W.drewN m) g f0 f1 f2:=h
theorem IsS99.drew {w0 W:World} {g:Nat} {f0:List Int} {f1:Int} {f2:Int} (h:IsS99 w0 W g f0 f1 f2):IsS99 w0 W.drew g f0 f1 f2:=h
theorem IsS99.at_ {w0 W:World} {g:Nat} {f0:List Int} {f1:Int} {f2:Int} {w':World} {m:Nat} (hq:W.drewN m=w') (h:IsS99 w0 W g f0 f1 f2):IsS99 w0 w' g f0 f1 f2:=by subst hq;exact IsS99.drewN h m
theorem IsS99.apart {w0 W:World} {g:Nat} {f0:List Int} {f1:Int} {f2:Int} {α:Type} {d:Kd α} {e:Nat} {base:Nat} {ok:Nat→Prop} {v:Value} {xs:List α} (h:IsS99 w0 W g f0 f1 f2) (ho:d.R e W base ok v xs) (ht:∀q,q∈e::d.E→q≠99):d.R e W base (fun k=>ok k∧k≠g) v xs:=by
 obtain⟨A0,c0,hb,hg,hr0⟩:=h
 exact Kd.R_types ho hb ht
theorem IsS99.own_ne {w0 W:World} {g:Nat} {f0:List Int} {f1:Int} {f2:Int} {α:Type} {d:Kd α} {e:Nat} {base:Nat} {ok:Nat→Prop} {v:Value} {xs:List α} (h:IsS99 w0 W g f0 f1 f2) (ho:d.R e W base ok v xs) (ht:e≠99):some g≠v.ownBlock:=by
 obtain⟨A0,c0,hb,hg,hr0⟩:=h
 exact Kd.R_ne ho hb ht
theorem IsS99.apartQ {w0 W:World} {g:Nat} {f0:List Int} {f1:Int} {f2:Int} {α:Type} {d:Kd α} {e:Nat} {base:Nat} {ok:Nat→Prop} {v:Value} {xs:List α} (h:IsS99 w0 W g f0 f1 f2) (ho:d.Q e W base ok v xs) (ht:∀q,q∈e::d.E→q≠99):d.Q e W base (fun k=>ok k∧k≠g) v xs:=by
 obtain⟨A0,c0,hb,hg,hr0⟩:=h
 exact Kd.Q_types ho hb ht
theorem IsS99.own_neQ {w0 W:World} {g:Nat} {f0:List Int} {f1:Int} {f2:Int} {α:Type} {d:Kd α} {e:Nat} {base:Nat} {ok:Nat→Prop} {v:Value} {xs:List α} (h:IsS99 w0 W g f0 f1 f2) (ho:d.Q e W base ok v xs) (ht:e≠99):some g≠v.ownBlock:=by
 obtain⟨A0,c0,hb,hg,hr0⟩:=h
 exact Kd.Q_ne ho hb ht
theorem IsS99.apartS {w0 W:World} {g:Nat} {f0:List Int} {f1:Int} {f2:Int} {α:Type} {d:Kd α} {e:Nat} {base:Nat} {ok:Nat→Prop} {v:Value} {xs:List α} (h:IsS99 w0 W g f0 f1 f2) (ho:d.S e W base ok v xs) (ht:∀q,q∈e::d.E→q≠99):d.S e W base (fun k=>ok k∧k≠g) v xs:=by
 obtain⟨A0,c0,hb,hg,hr0⟩:=h
 exact Kd.S_types ho hb ht
theorem IsS99.own_neS {w0 W:World} {g:Nat} {f0:List Int} {f1:Int} {f2:Int} {α:Type} {d:Kd α} {e:Nat} {base:Nat} {ok:Nat→Prop} {v:Value} {xs:List α} (h:IsS99 w0 W g f0 f1 f2) (ho:d.S e W base ok v xs) (ht:e≠99):some g≠v.ownBlock:=by
 obtain⟨A0,c0,hb,hg,hr0⟩:=h
 exact Kd.S_ne ho hb ht
theorem IsS99.lt {w0 W:World} {g:Nat} {f0:List Int} {f1:Int} {f2:Int} (h:IsS99 w0 W g f0 f1 f2):g<W.heap.size:=by
 obtain⟨A0,c0,hb,hg,hr0⟩:=h
 exact blk_lt hb
theorem IsS99.ge {w0 W:World} {g:Nat} {f0:List Int} {f1:Int} {f2:Int} (h:IsS99 w0 W g f0 f1 f2):w0.heap.size≤g:=by
 obtain⟨A0,c0,hb,hg,hr0⟩:=h
 exact hg
theorem IsS99.ne_blk {w0 W:World} {g:Nat} {f0:List Int} {f1:Int} {f2:Int} {a:Nat} {cs:Array Value} {t:TypeId} {fr:Nat×Nat} (h:IsS99 w0 W g f0 f1 f2) (hb2:W.heap[a]? =some (.cells cs t fr)) (ht:t≠99):g≠a:=by
 obtain⟨A0,c0,hb,hg,hr0⟩:=h
 rintro rfl
 rw[hb] at hb2
 injection hb2 with hb2
 injection hb2 with _ ht2
 exact ht ht2.symm
theorem IsS99.far {w0 W:World} {g:Nat} {f0:List Int} {f1:Int} {f2:Int} {p:Addr} (h:IsS99 w0 W g f0 f1 f2) (hne:g≠p.block) (u:Value):IsS99 w0 (W.setCell p u) g f0 f1 f2:=by
 obtain⟨A0,c0,hb,hg,hr0⟩:=h
 exact⟨A0,c0,zNf hb hne u,hg,hr0⟩
theorem cellS99_0 {W:World} {g:Nat} {A0:Option Addr} {c0:Nat} {f0:List Int} {f1:Int} {f2:Int} (h:W.heap[g]? =some (.cells #[.slice A0 f0.length c0, .int .i64 f1, .int .i64 f2] 99 (0,0))):W.cell? ⟨g,0,none⟩=some (.slice A0 f0.length c0):=(blk_cell h 0).trans rfl
theorem cellS99_1 {W:World} {g:Nat} {A0:Option Addr} {c0:Nat} {f0:List Int} {f1:Int} {f2:Int} (h:W.heap[g]? =some (.cells #[.slice A0 f0.length c0, .int .i64 f1, .int .i64 f2] 99 (0,0))):W.cell? ⟨g,1,none⟩=some (.int .i64 f1):=(blk_cell h 1).trans rfl
theorem IsS99.set_1 {w0 W:World} {g:Nat} {f0:List Int} {f1:Int} {f2:Int} (h:IsS99 w0 W g f0 f1 f2) (x:Int):IsS99 w0 (W.setCell ⟨g,1,none⟩ (.int .i64 x)) g f0 x f2:=by
 obtain⟨A0,c0,hb,hg,hr0⟩:=h
 exact⟨A0,c0,by simpa using blk_set hb 1 (.int .i64 x),hg,hr0⟩
theorem cellS99_2 {W:World} {g:Nat} {A0:Option Addr} {c0:Nat} {f0:List Int} {f1:Int} {f2:Int} (h:W.heap[g]? =some (.cells #[.slice A0 f0.length c0, .int .i64 f1, .int .i64 f2] 99 (0,0))):W.cell? ⟨g,2,none⟩=some (.int .i64 f2):=(blk_cell h 2).trans rfl
theorem IsS99.set_2 {w0 W:World} {g:Nat} {f0:List Int} {f1:Int} {f2:Int} (h:IsS99 w0 W g f0 f1 f2) (x:Int):IsS99 w0 (W.setCell ⟨g,2,none⟩ (.int .i64 x)) g f0 f1 x:=by
 obtain⟨A0,c0,hb,hg,hr0⟩:=h
 exact⟨A0,c0,by simpa using blk_set hb 2 (.int .i64 x),hg,hr0⟩
theorem IsS99.new (w0 W:World) (A0:Option Addr) (c0:Nat) (f0:List Int) (f1:Int) (f2:Int) (hB:Below w0.heap.size w0 W) (hr0:Kd.C (Kd.int .u8) w0 A0 f0.length f0):IsS99 w0 (W.alloc (.cells #[.slice A0 f0.length c0, .int .i64 f1, .int .i64 f2] 99)) W.heap.size f0 f1 f2:=⟨A0,c0,by simpa using heap_alloc_new W _,hB.size,hr0⟩
def spec_l1New.l0:Nat→List Int→Int→Int→Option (List Int×Int×Int)
 |0,_,_,_=>none
 |k+1,x0,x3,x4=>if x4<(x0.length:Int) then(if x4<4000 then(if 0≤x4 then(spec_l1New.l0 k x0 (Go.bits .and .i64 (wrap64 ((wrap64 ((wrap64 (x3*131))+(wrap64 (rd x0 x4))))+7)) 1073741823) (wrap64 (x4+1))) else(none)) else(some (x0,0,x3))) else(some (x0,0,x3))
def spec_l1New.f (k:Nat) (l0:List Int):Option (List Int×Int×Int):=spec_l1New.l0 k l0 (wrap64 (71933+(l0.length:Int))) 0
theorem spec_l1New.calls (k:Nat) (A0:Option Addr) (c0:Nat) (l0:List Int) (r1:List Int) (r2:Int) (r3:Int) (w0 w:World) (hB:Below w0.heap.size w0 w) (hr0:Kd.C (Kd.int .u8) w0 A0 l0.length l0) (hc0:l0.length≤c0) (H:spec_l1New.f k l0=some (r1,r2,r3)):
 Calls Try.prog 45 #[.slice A0 l0.length c0] w fun e w'=>∃g_:Nat,e= .returned (.pointer (some ⟨g_,0,none⟩))∧IsS99 w0 w' g_ r1 r2 r3∧Below w0.heap.size w0 w'∧Below w.heap.size w w':=by
 have hu99:=Try.underlying99
 have HR0:=zM hr0
 have HC0:=zM hc0
 clear hr0 hc0
 have HBW:=zM (Below.refl w.heap.size w)
 have HW0:=zM hB.size
 have HB:=zM hB
 clear hB
 unfold spec_l1New.f at H
 have H':=zM H
 clear H
 go_enter Try.func45,Try.ntmps45
 go_wp2
 (try simp only[Act.put,zL1,zL2,zL3])
 go_loopg [3,4] k (fun kq v3 v4 w'=>∃(x3_1:Int) (x4_1:Int),v3= .int .i64 x3_1∧v4= .int .i64 x4_1∧Aside0 (spec_l1New.l0 kq l0 x3_1 x4_1=some (r1,r2,r3))∧Aside0 (kq≤k)∧Aside0 (Below w.heap.size w w')∧Aside0 (Below w0.heap.size w0 w'))
 case atStart=>exact⟨(wrap64 (71933+(l0.length:Int))),(0),zs,zs,H',⟨Nat.le_refl _⟩,⟨by repeat(first|(with_reducible first|exact HBW.out|apply zBa|apply zBn|apply zBd)|exact HBW.out)⟩,⟨zb⟩⟩
 case round=>
  clear H'
  obtain⟨x3_1,x4_1,rfl,rfl,HA,HK1,HBW,HB⟩:=hrel
  cases gk with
  |zero=>exact absurd HA.out (by simp[spec_l1New.l0])
  | succ k1=>
   have H:=HA.out
   clear HA
   simp only[spec_l1New.l0] at H
   replace H:=zI2 H
   rcases H with⟨c2,H⟩|⟨c2,H⟩
   case inr=>
    have c2b0:=decide_eq_false c2
    clear c2
    simp only[Option.some.injEq,Prod.mk.injEq] at H
    obtain⟨rfl,rfl,rfl⟩:=H
    go_wp2_with (first|((with_reducible refine gate_dst (N:=31) rfl ?_);refine box_event ?hg (N:=31) ?hd (cs:= #[.slice A0 l0.length c0, .int .i64 0, .int .i64 x3_1]) (t:=99) ?hr ?_;(case hd|hg=>rfl);(case hr=>exact zh);intro gb435 hg w6 hbox hb;refine zS5 (below_step HBW.out hb) (below_step zb hb) (hbox) ((by rw[hg];exact(below_size (by repeat(first|(with_reducible first|exact HBW.out|apply zBa|apply zBn|apply zBd)|exact HBW.out))):w.heap.size≤gb435)) ((Nat.le_trans HW0.out (by rw[hg];exact(below_size (by repeat(first|(with_reducible first|exact HBW.out|apply zBa|apply zBn|apply zBd)|exact HBW.out))):w.heap.size≤gb435):w0.heap.size≤gb435)) ?_;clear HBW HB;intro HBW HB BK435 GW435 GE435;clear hb hbox hg))
    go_ret
    exact⟨_,rfl,(show IsS99 w0 _ gb435 l0 0 x3_1 from⟨_,_,zn BK435,GE435.out,HR0.out⟩),zb9,by repeat(first|(with_reducible first|exact HBW.out|apply zBa|apply zBn|apply zBd|refine zBs ?_ GW435.out)|exact HBW.out)⟩
   have c2b0:=zE c2
   clear c2
   replace H:=zI2 H
   rcases H with⟨c3,H⟩|⟨c3,H⟩
   case inl=>
    have c3b0:=zE c3
    clear c3
    replace H:=zID H
    obtain⟨c4b0,H⟩:=H
    have H':=zM H
    clear H
    have p433:0≤(x4_1:Int):=zT (by assumption)
    have q433:x4_1<(l0.length:Int):=zT (by assumption)
    obtain⟨ad433,e433,hx433_0⟩:=Kd.at_int HR0.out x4_1 p433 q433
    cases e433
    replace hx433_0:=pw_cell_below HB.out hx433_0
    replace p433:=eq_true p433
    replace q433:=eq_true q433
    go_wp2
    go_roundg k1
    case measure=>have:=HK1.out;omega
    case rel=>exact⟨(Go.bits .and .i64 (wrap64 ((wrap64 ((wrap64 (x3_1*131))+(wrap64 (rd l0 x4_1))))+7)) 1073741823),(wrap64 (x4_1+1)),zs,zs,H',⟨zl1 HK1⟩,⟨by repeat(first|(with_reducible first|exact HBW.out|apply zBa|apply zBn|apply zBd)|exact HBW.out)⟩,⟨zb⟩⟩
   have c3b0:=decide_eq_false c3
   clear c3
   simp only[Option.some.injEq,Prod.mk.injEq] at H
   obtain⟨rfl,rfl,rfl⟩:=H
   go_wp2_with (first|((with_reducible refine gate_dst (N:=31) rfl ?_);refine box_event ?hg (N:=31) ?hd (cs:= #[.slice A0 l0.length c0, .int .i64 0, .int .i64 x3_1]) (t:=99) ?hr ?_;(case hd|hg=>rfl);(case hr=>exact zh);intro gb434 hg w5 hbox hb;refine zS5 (below_step HBW.out hb) (below_step zb hb) (hbox) ((by rw[hg];exact(below_size (by repeat(first|(with_reducible first|exact HBW.out|apply zBa|apply zBn|apply zBd)|exact HBW.out))):w.heap.size≤gb434)) ((Nat.le_trans HW0.out (by rw[hg];exact(below_size (by repeat(first|(with_reducible first|exact HBW.out|apply zBa|apply zBn|apply zBd)|exact HBW.out))):w.heap.size≤gb434):w0.heap.size≤gb434)) ?_;clear HBW HB;intro HBW HB BK434 GW434 GE434;clear hb hbox hg))
   go_ret
   exact⟨_,rfl,(show IsS99 w0 _ gb434 l0 0 x3_1 from⟨_,_,zn BK434,GE434.out,HR0.out⟩),zb10,by repeat(first|(with_reducible first|exact HBW.out|apply zBa|apply zBn|apply zBd|refine zBs ?_ GW434.out)|exact HBW.out)⟩
def spec_l1Byte.f (s0_0:List Int) (s0_1:Int) (s0_2:Int):Option (Int×Int×Int):=if s0_1<(s0_0.length:Int) then(if 0≤s0_1 then(some (Go.bits .and .i64 (wrap64 ((Go.bits .and .i64 (Go.bits .xor .i64 ((wrap64 ((wrap64 (s0_2*6364136223846793005))+1442695040888963407)) / 8589934592) ((wrap64 ((wrap64 (s0_2*6364136223846793005))+1442695040888963407)) / 35184372088832)) 255)+(wrap64 (rd s0_0 s0_1)))) 255,wrap64 (s0_1+1),wrap64 ((wrap64 (s0_2*6364136223846793005))+1442695040888963407))) else(none)) else(some (Go.bits .and .i64 (Go.bits .xor .i64 ((wrap64 ((wrap64 (s0_2*6364136223846793005))+1442695040888963407)) / 8589934592) ((wrap64 ((wrap64 (s0_2*6364136223846793005))+1442695040888963407)) / 35184372088832)) 255,s0_1,wrap64 ((wrap64 (s0_2*6364136223846793005))+1442695040888963407)))
theorem spec_l1Byte.calls (g:Nat) (s0_0:List Int) (s0_1:Int) (s0_2:Int) (r1:Int) (r2:Int) (r3:Int) (w0 w:World) (hI:IsS99 w0 w g s0_0 s0_1 s0_2) (hB:Below w0.heap.size w0 w) (H:spec_l1Byte.f s0_0 s0_1 s0_2=some (r1,r2,r3)):
 Calls Try.prog 95 #[.pointer (some ⟨g,0,none⟩)] w fun e w'=>e= .returned (.int .i64 r1)∧IsS99 w0 w' g s0_0 r2 r3∧Below w0.heap.size w0 w'∧KeepBut w w' g none:=by
 have HI0:=zM hI
 have HK:=zM (KeepBut.refl w g none)
 have HL:=zM hB.size
 clear hI
 have HW0:=zM hB.size
 have HB:=zM hB
 clear hB
 unfold spec_l1Byte.f at H
 replace H:=zI2 H
 rcases H with⟨c2,H⟩|⟨c2,H⟩
 case inr=>
  have c2b0:=decide_eq_false c2
  clear c2
  simp only[Option.some.injEq,Prod.mk.injEq] at H
  obtain⟨rfl,rfl,rfl⟩:=H
  obtain⟨ASz5_0,cSz5_0,HGz5,hgz5,HSz5_0⟩:=HI0.out
  have hcz5_0:=cellS99_0 HGz5
  have hcz5_1:=cellS99_1 HGz5
  have hcz5_2:=cellS99_2 HGz5
  have hfz5_1:=blk_frozen HGz5 1
  have hfz5_2:=blk_frozen HGz5 2
  clear HGz5 hgz5
  go_enter Try.func95,Try.ntmps95
  go_wp2
  repeat(go_quiet (fail);try go_wp2)
  go_ret
  exact⟨zq,zi HI0,zb11,zk⟩
 have c2b0:=zE c2
 clear c2
 replace H:=zID H
 obtain⟨c3b0,H⟩:=H
 simp only[Option.some.injEq,Prod.mk.injEq] at H
 obtain⟨rfl,rfl,rfl⟩:=H
 obtain⟨ASz4_0,cSz4_0,HGz4,hgz4,HSz4_0⟩:=HI0.out
 have hcz4_0:=cellS99_0 HGz4
 have hcz4_1:=cellS99_1 HGz4
 have hcz4_2:=cellS99_2 HGz4
 have hfz4_1:=blk_frozen HGz4 1
 have hfz4_2:=blk_frozen HGz4 2
 clear HGz4 hgz4
 have p436:0≤(s0_1:Int):=zT (by assumption)
 have q436:s0_1<(s0_0.length:Int):=zT (by assumption)
 obtain⟨ad436,e436,hx436_0⟩:=Kd.at_int HSz4_0 s0_1 p436 q436
 cases e436
 have hn436_0:ad436.block≠g:=Nat.ne_of_lt (Nat.lt_of_lt_of_le (by have:=zW _ _ hx436_0;first|rwa[add_block] at this|exact this) (IsS99.ge HI0.out))
 replace hx436_0:=pw_cell_below HB.out hx436_0
 replace hx436_0:=(cell_far (p:=⟨g,2,none⟩) (by first|(rw[add_block];exact hn436_0)|(show(Addr.add _ _).block≠_;rw[add_block];exact hn436_0)|exact hn436_0) (.int .i64 (wrap64 ((wrap64 (s0_2*6364136223846793005))+1442695040888963407)))).trans hx436_0
 (try have hy436_0:=fun(n_:Nat)=>(show(((w.drewN n_).setCell ⟨g,2,none⟩ (.int .i64 (wrap64 ((wrap64 (s0_2*6364136223846793005))+1442695040888963407))))).cell? _=some _ from hx436_0))
 clear hn436_0
 replace p436:=eq_true p436
 replace q436:=eq_true q436
 go_enter Try.func95,Try.ntmps95
 go_wp2
 repeat(go_quiet (fail);try go_wp2)
 go_ret
 exact⟨zq,zi HI0,zb11,zk⟩
def spec_l1Below.f (s0_0:List Int) (s0_1:Int) (s0_2:Int) (a1:Int):Option (Int×Int×Int):=if a1≤0 then(some (0,s0_1,s0_2)) else(if a1≤256 then((spec_l1Byte.f s0_0 s0_1 s0_2).bind fun bt437=>(if a1=0 then(none) else(some (Int.tmod bt437.1 a1,bt437.2.1,bt437.2.2)))) else((spec_l1Byte.f s0_0 s0_1 s0_2).bind fun bt440=>((spec_l1Byte.f s0_0 bt440.2.1 bt440.2.2).bind fun bt443=>((spec_l1Byte.f s0_0 bt443.2.1 bt443.2.2).bind fun bt446=>((spec_l1Byte.f s0_0 bt446.2.1 bt446.2.2).bind fun bt449=>(if a1=0 then(none) else(some (Int.tmod (wrap64 ((wrap64 ((wrap64 ((wrap64 (bt440.1*16777216))+(wrap64 (bt443.1*65536))))+(wrap64 (bt446.1*256))))+bt449.1)) a1,bt449.2.1,bt449.2.2))))))))
theorem spec_l1Below.calls (g:Nat) (s0_0:List Int) (s0_1:Int) (s0_2:Int) (a1:Int) (r1:Int) (r2:Int) (r3:Int) (w0 w:World) (hI:IsS99 w0 w g s0_0 s0_1 s0_2) (hB:Below w0.heap.size w0 w) (H:spec_l1Below.f s0_0 s0_1 s0_2 a1=some (r1,r2,r3)):
 Calls Try.prog 47 #[.pointer (some ⟨g,0,none⟩), .int .i64 a1] w fun e w'=>e= .returned (.int .i64 r1)∧IsS99 w0 w' g s0_0 r2 r3∧Below w0.heap.size w0 w'∧KeepBut w w' g none:=by
 have HI0:=zM hI
 have HK:=zM (KeepBut.refl w g none)
 have HL:=zM hB.size
 clear hI
 have HW0:=zM hB.size
 have HB:=zM hB
 clear hB
 unfold spec_l1Below.f at H
 replace H:=zI2 H
 rcases H with⟨c3,H⟩|⟨c3,H⟩
 case inl=>
  have c3b0:=zE c3
  clear c3
  simp only[Option.some.injEq,Prod.mk.injEq] at H
  obtain⟨rfl,rfl,rfl⟩:=H
  go_enter Try.func47,Try.ntmps47
  go_wp2
  go_ret
  exact⟨zq,zi HI0,zb11,zk⟩
 have c3b0:=decide_eq_false c3
 clear c3
 replace H:=zI2 H
 rcases H with⟨c4,H⟩|⟨c4,H⟩
 case inl=>
  have c4b0:=zE c4
  clear c4
  replace H:=zP H
  obtain⟨⟨t437,t438,t439⟩,A5,H⟩:=H
  dsimp only at H
  replace H:=zI2 H
  rcases H with⟨c6,H⟩|⟨c6,H⟩
  case inl=>
   exact absurd H (by simp)
  have c6b0:(a1==0)=false:=beq_eq_false_iff_ne.mpr c6
  have c6b1:(a1 != 0)=true:=bne_iff_ne.mpr c6
  simp only[Option.some.injEq,Prod.mk.injEq] at H
  obtain⟨rfl,rfl,rfl⟩:=H
  go_enter Try.func47,Try.ntmps47
  go_wp2_with (first|((with_reducible refine gate_callee (f:=95) rfl ?_);refine goesL_ (some 14) rfl rfl Try.func95 ze rfl #[.pointer (some ⟨g,0,none⟩)] rfl zg ?_;(with_reducible refine(spec_l1Byte.calls g s0_0 s0_1 s0_2 t437 t438 t439 w0 _ ?side1 ?side2 A5.out).mono ?_);(case side1=>exact zi HI0);(case side2=>exact zb11);rintro e w7 ⟨rfl,hi,hb,hk⟩;refine⟨_,rfl,?_⟩;refine zS3 (KeepBut.trans zk hk (.inl rfl)) (hb) (hi) ?_;clear HK HB HI0;intro HK HB HI0;(try clear hb);(try clear hb2);(try clear hk);(try clear hi)))
  go_ret
  exact⟨zq,zi HI0,zb11,zk⟩
 have c4b0:=decide_eq_false c4
 clear c4
 replace H:=zP H
 obtain⟨⟨t440,t441,t442⟩,A8,H⟩:=H
 dsimp only at H
 replace H:=zP H
 obtain⟨⟨t443,t444,t445⟩,A9,H⟩:=H
 dsimp only at H
 replace H:=zP H
 obtain⟨⟨t446,t447,t448⟩,A10,H⟩:=H
 dsimp only at H
 replace H:=zP H
 obtain⟨⟨t449,t450,t451⟩,A11,H⟩:=H
 dsimp only at H
 replace H:=zI2 H
 rcases H with⟨c12,H⟩|⟨c12,H⟩
 case inl=>
  exact absurd H (by simp)
 have c12b0:(a1==0)=false:=beq_eq_false_iff_ne.mpr c12
 have c12b1:(a1 != 0)=true:=bne_iff_ne.mpr c12
 simp only[Option.some.injEq,Prod.mk.injEq] at H
 obtain⟨rfl,rfl,rfl⟩:=H
 go_enter Try.func47,Try.ntmps47
 go_wp2_with (first|((with_reducible refine gate_callee (f:=95) rfl ?_);refine goesL_ (some 18) rfl rfl Try.func95 ze rfl #[.pointer (some ⟨g,0,none⟩)] rfl zg ?_;(with_reducible refine(spec_l1Byte.calls g s0_0 s0_1 s0_2 t440 t441 t442 w0 _ ?side1 ?side2 A8.out).mono ?_);(case side1=>exact zi HI0);(case side2=>exact zb11);rintro e w13 ⟨rfl,hi,hb,hk⟩;refine⟨_,rfl,?_⟩;refine zS3 (KeepBut.trans zk hk (.inl rfl)) (hb) (hi) ?_;clear HK HB HI0;intro HK HB HI0;(try clear hb);(try clear hb2);(try clear hk);(try clear hi))|((with_reducible refine gate_callee (f:=95) rfl ?_);refine goesL_ (some 20) rfl rfl Try.func95 ze rfl #[.pointer (some ⟨g,0,none⟩)] rfl zg ?_;(with_reducible refine(spec_l1Byte.calls g s0_0 t441 t442 t443 t444 t445 w0 _ ?side1 ?side2 A9.out).mono ?_);(case side1=>exact zi HI0);(case side2=>exact zb11);rintro e w14 ⟨rfl,hi,hb,hk⟩;refine⟨_,rfl,?_⟩;refine zS3 (KeepBut.trans zk hk (.inl rfl)) (hb) (hi) ?_;clear HK HB HI0;intro HK HB HI0;(try clear hb);(try clear hb2);(try clear hk);(try clear hi))|((with_reducible refine gate_callee (f:=95) rfl ?_);refine goesL_ (some 22) rfl rfl Try.func95 ze rfl #[.pointer (some ⟨g,0,none⟩)] rfl zg ?_;(with_reducible refine(spec_l1Byte.calls g s0_0 t444 t445 t446 t447 t448 w0 _ ?side1 ?side2 A10.out).mono ?_);(case side1=>exact zi HI0);(case side2=>exact zb11);rintro e w15 ⟨rfl,hi,hb,hk⟩;refine⟨_,rfl,?_⟩;refine zS3 (KeepBut.trans zk hk (.inl rfl)) (hb) (hi) ?_;clear HK HB HI0;intro HK HB HI0;(try clear hb);(try clear hb2);(try clear hk);(try clear hi))|((with_reducible refine gate_callee (f:=95) rfl ?_);refine goesL_ (some 24) rfl rfl Try.func95 ze rfl #[.pointer (some ⟨g,0,none⟩)] rfl zg ?_;(with_reducible refine(spec_l1Byte.calls g s0_0 t447 t448 t449 t450 t451 w0 _ ?side1 ?side2 A11.out).mono ?_);(case side1=>exact zi HI0);(case side2=>exact zb11);rintro e w16 ⟨rfl,hi,hb,hk⟩;refine⟨_,rfl,?_⟩;refine zS3 (KeepBut.trans zk hk (.inl rfl)) (hb) (hi) ?_;clear HK HB HI0;intro HK HB HI0;(try clear hb);(try clear hb2);(try clear hk);(try clear hi)))
 go_ret
 exact⟨zq,zi HI0,zb11,zk⟩
def spec_l1PickInt.f (s0_0:List Int) (s0_1:Int) (s0_2:Int) (l1:List Int):Option (Int×Int×Int):=(spec_l1Below.f s0_0 s0_1 s0_2 (l1.length:Int)).bind fun bt452=>(if 0≤bt452.1 then(if bt452.1<(l1.length:Int) then(some (rd l1 bt452.1,bt452.2.1,bt452.2.2)) else(none)) else(none))
theorem spec_l1PickInt.calls (g:Nat) (s0_0:List Int) (s0_1:Int) (s0_2:Int) (A1:Option Addr) (c1:Nat) (l1:List Int) (r1:Int) (r2:Int) (r3:Int) (w0 w:World) (hI:IsS99 w0 w g s0_0 s0_1 s0_2) (hB:Below w0.heap.size w0 w) (hr1:Kd.C (Kd.int .i64) w A1 l1.length l1) (hc1:l1.length≤c1) (hf1:∀ad,A1=some ad→0<l1.length→ad.block≠g) (H:spec_l1PickInt.f s0_0 s0_1 s0_2 l1=some (r1,r2,r3)):
 Calls Try.prog 50 #[.pointer (some ⟨g,0,none⟩), .slice A1 l1.length c1] w fun e w'=>e= .returned (.int .i64 r1)∧IsS99 w0 w' g s0_0 r2 r3∧Below w0.heap.size w0 w'∧KeepBut w w' g none:=by
 have HR1:=zM hr1
 have HC1:=zM hc1
 clear hr1 hc1
 have HI0:=zM hI
 have HK:=zM (KeepBut.refl w g none)
 have HL:=zM hB.size
 clear hI
 have HW0:=zM hB.size
 have HB:=zM hB
 clear hB
 unfold spec_l1PickInt.f at H
 replace H:=zP H
 obtain⟨⟨t452,t453,t454⟩,A3,H⟩:=H
 dsimp only at H
 replace H:=zID H
 obtain⟨c4b0,H⟩:=H
 replace H:=zID H
 obtain⟨c5b0,H⟩:=H
 simp only[Option.some.injEq,Prod.mk.injEq] at H
 obtain⟨rfl,rfl,rfl⟩:=H
 go_enter Try.func50,Try.ntmps50
 go_wp2_with (first|((with_reducible refine gate_callee (f:=47) rfl ?_);refine goesL_ (some 9) rfl rfl Try.func47 ze rfl #[.pointer (some ⟨g,0,none⟩), .int .i64 (l1.length:Int)] rfl zg ?_;(with_reducible refine(spec_l1Below.calls g s0_0 s0_1 s0_2 (l1.length:Int) t452 t453 t454 w0 _ ?side1 ?side2 A3.out).mono ?_);(case side1=>exact zi HI0);(case side2=>exact zb11);rintro e w6 ⟨rfl,hi,hb,hk⟩;refine⟨_,rfl,?_⟩;refine zS3 (KeepBut.trans zk hk (.inl rfl)) (hb) (hi) ?_;clear HK HB HI0;intro HK HB HI0;(try clear hb);(try clear hb2);(try clear hk);(try clear hi);have p455:0≤(t452:Int):=zT (by assumption);have q455:t452<(l1.length:Int):=zT (by assumption);obtain⟨ad455,e455,hx455_0⟩:=Kd.at_int HR1.out t452 p455 q455;cases e455;replace hx455_0:=keep_cell HK.out hx455_0 (by first|(rw[add_block];exact hf1 _ rfl (by omega))|exact hf1 _ rfl (by omega)|exact hf1 ad455 rfl (by omega));replace p455:=eq_true p455;replace q455:=eq_true q455))
 go_ret
 exact⟨zq,zi HI0,zb11,zk⟩
def spec_l14DrawBytes.l0:Nat→Int→List Int→Int→List Int→Int→Int→Option (List Int×Int×Int)
 |0,_,_,_,_,_,_=>none
 |k+1,x1,x5,x6,x1000,x1001,x1002=>if x6<x1 then((spec_l1Byte.f x1000 x1001 x1002).bind fun bt459=>(if x5.length<140737488355328 then(spec_l14DrawBytes.l0 k x1 (x5++[(bt459.1)%256]) (wrap64 (x6+1)) x1000 bt459.2.1 bt459.2.2) else(none))) else(some (x5,x1001,x1002))
def spec_l14DrawBytes.f (k:Nat) (s0_0:List Int) (s0_1:Int) (s0_2:Int) (a1:Int):Option (List Int×Int×Int):=spec_l14DrawBytes.l0 k a1 (([]:List Int)) 0 s0_0 s0_1 s0_2
theorem spec_l14DrawBytes.calls (k:Nat) (g:Nat) (s0_0:List Int) (s0_1:Int) (s0_2:Int) (a1:Int) (r1:List Int) (r2:Int) (r3:Int) (w0 w:World) (hI:IsS99 w0 w g s0_0 s0_1 s0_2) (hB:Below w0.heap.size w0 w) (H:spec_l14DrawBytes.f k s0_0 s0_1 s0_2 a1=some (r1,r2,r3)):
 Calls Try.prog 51 #[.pointer (some ⟨g,0,none⟩), .int .i64 a1] w fun e w'=>∃v0_:Value,e= .returned (v0_)∧Kd.R (Kd.int .u8) 5 w' w.heap.size (fun _=>True) v0_ r1∧IsS99 w0 w' g s0_0 r2 r3∧Below w0.heap.size w0 w'∧KeepBut w w' g none:=by
 have HI0:=zM hI
 have HK:=zM (KeepBut.refl w g none)
 have HL:=zM hB.size
 clear hI
 have HW0:=zM hB.size
 have HB:=zM hB
 clear hB
 unfold spec_l14DrawBytes.f at H
 obtain⟨y456,hy456⟩:∃y_:List Int,y_=(([]:List Int)):=⟨_,rfl⟩
 replace H:(spec_l14DrawBytes.l0 k a1 y456 0 s0_0 s0_1 s0_2)=some (r1,r2,r3):=zy hy456 H
 have Ny456:=zM hy456
 clear hy456
 have H':=zM H
 clear H
 go_enter Try.func51,Try.ntmps51
 go_wp2_with (first|((with_reducible refine gate_dst (N:=7) rfl ?_);refine Kd.R_lit (Kd.int .u8) _ 5 ?hg (N:=7) ?hd (xs:=([]:List Int)) (inner:=[]) (ok:=fun _=>True) (okp:=fun _=>True) ?hr ?hp (fun _ hk=>hk) trivial (Below.refl _ _) (Nat.le_refl _) (by simp) ?_;(case hd|hg=>rfl);(case hr=>exact zh);(case hp=>exact(Reps.none _ _));intro v457 w3 ho4 hb hg_ hnew_;clear hg_ hnew_;(first|rw[←Ny456.out] at ho4|simp only[Int.reduceToNat,←Ny456.out] at ho4);refine zS4 (Kd.R_lower ho4 (keep_size (w:=w) (g:=g) (row:=none) zk)) (IsS99.below (zi HI0) hb) (KeepBut.trans zk (KeepBut.of_below hb g none) (.inl rfl)) (below_step zb11 hb) ?_;clear HI0 HK HB;intro HO458 HI0 HK HB;clear hb ho4))
 (try simp only[Act.put,zL1,zL2,zL3])
 go_loopg [5,6] k (fun kq v5 v6 w'=>∃(x5_1:List Int) (x6_1:Int) (x1001_1:Int) (x1002_1:Int),v6= .int .i64 x6_1∧Aside0 (spec_l14DrawBytes.l0 kq a1 x5_1 x6_1 s0_0 x1001_1 x1002_1=some (r1,r2,r3))∧Aside0 (kq≤k)∧Aside0 (Kd.R (Kd.int .u8) 5 w' w.heap.size (fun _=>True) v5 x5_1)∧Aside0 (IsS99 w0 w' g s0_0 x1001_1 x1002_1)∧Aside0 (KeepBut w w' g none)∧Aside0 (Below w0.heap.size w0 w'))
 case atStart=>exact⟨(y456),(0),(s0_1),(s0_2),zs,H',⟨Nat.le_refl _⟩,⟨zr HO458⟩,⟨zi HI0⟩,⟨zk⟩,⟨zb11⟩⟩
 case round=>
  clear H'
  obtain⟨x5_1,x6_1,x1001_1,x1002_1,rfl,HA,HK1,HO_5,HI0,HK,HB⟩:=hrel
  cases gk with
  |zero=>exact absurd HA.out (by simp[spec_l14DrawBytes.l0])
  | succ k1=>
   have H:=HA.out
   clear HA
   simp only[spec_l14DrawBytes.l0] at H
   replace H:=zI2 H
   rcases H with⟨c5,H⟩|⟨c5,H⟩
   case inr=>
    have c5b0:=decide_eq_false c5
    clear c5
    simp only[Option.some.injEq,Prod.mk.injEq] at H
    obtain⟨rfl,rfl,rfl⟩:=H
    go_wp2
    go_ret
    exact⟨_,zq,zr HO_5,zi HI0,zb11,zk⟩
   have c5b0:=zE c5
   clear c5
   replace H:=zP H
   obtain⟨⟨t459,t460,t461⟩,A6,H⟩:=H
   dsimp only at H
   replace H:=zIM H
   obtain⟨LMc7,H⟩:=H
   obtain⟨y462,hy462⟩:∃y_:List Int,y_=(x5_1++[(t459)%256]):=⟨_,rfl⟩
   rw[←hy462] at H
   have Ny462:=zM hy462
   clear hy462
   have H':=zM H
   clear H
   go_wp2_with (first|((with_reducible refine gate_callee (f:=95) rfl ?_);refine goesL_ (some 15) rfl rfl Try.func95 ze rfl #[.pointer (some ⟨g,0,none⟩)] rfl zg ?_;(with_reducible refine(spec_l1Byte.calls g s0_0 x1001_1 x1002_1 t459 t460 t461 w0 _ ?side1 ?side2 A6.out).mono ?_);(case side1=>exact zi HI0);(case side2=>exact zb11);rintro e w8 ⟨rfl,hi,hb,hk⟩;refine⟨_,rfl,?_⟩;refine zS4 (Kd.R_mono (Kd.R_keep (IsS99.apart (show IsS99 w0 _ g s0_0 x1001_1 x1002_1 from zi HI0) (zr HO_5) (by decide)) hk (fun _ h=>h.2)) (fun _ h=>h.1)) (KeepBut.trans zk hk (.inl rfl)) (hb) (hi) ?_;clear HO_5 HK HB HI0;intro HO_5 HK HB HI0;(try clear hb);(try clear hb2);(try clear hk);(try clear hi))|((with_reducible refine gate_builtin (b:= .append) (xs:= #[.tmp 13, .tmp 17]) rfl ?_);at_builtin;refine Kd.R_append (Kd.int .u8) w.heap.size rfl (.tmp 13) (.tmp 17) 24 5 (.int .u8 0) 1 rfl Try.underlying24 info5 rfl (by decide) (by omega) u5 x5_1 ((t459)%256) [.int .u8 ((t459)%256)] (fun _=>True) (fun _=>False) rfl rfl ?aP (fun _ hk=>hk.elim) ?aF ?aO (Below.refl _ _) ?aS ?aL ?_;(case aP=>exact rfl);(case aF=>exact(fun _ _=>trivial));(case aO=>exact(zr HO_5));(case aS=>exact(keep_size (w:=w) (g:=g) (row:=none) zk));(case aL=>have:=LMc7.out;omega);intro v463 w9 ho hb hg hat;(first|rw[←Ny462.out] at ho|simp only[Int.reduceToNat,←Ny462.out] at ho);refine zS4 (IsS99.grown (zi HI0) hg (IsS99.own_ne HI0.out HO_5.out (by decide))) (below_weaken zb11 HL.out hb) (KeepBut.trans zk (KeepBut.of_grown hg g) (Kd.R_base2 HO_5.out)) (ho) ?_;clear HI0 HB HK HO_5;intro HI0 HB HK HO464;clear ho hb hg hat))
   go_roundg k1
   case measure=>have:=HK1.out;omega
   case rel=>exact⟨(y462),(wrap64 (x6_1+1)),(t460),(t461),zs,H',⟨zl1 HK1⟩,⟨zr HO464⟩,⟨zi HI0⟩,⟨zk⟩,⟨zb11⟩⟩
def spec_l18DrawNoise.l0:Nat→Int→Int→List (S52)→Int→List Int→Int→Int→Option ((List (S52))×Int×Int)
 |0,_,_,_,_,_,_,_=>none
 |k+1,x1,x2,x7,x8,x1000,x1001,x1002=>if x8<x1 then((spec_l1Below.f x1000 x1001 x1002 (wrap64 ((wrap64 (2*x2))+1))).bind fun bt468=>((spec_l1Below.f x1000 bt468.2.1 bt468.2.2 (wrap64 ((wrap64 (2*x2))+1))).bind fun bt471=>(if x7.length<8796093022208 then(spec_l18DrawNoise.l0 k x1 x2 (x7++[(⟨wrap64 (bt468.1-x2),wrap64 (bt471.1-x2)⟩:S52)]) (wrap64 (x8+1)) x1000 bt471.2.1 bt471.2.2) else(none)))) else(some (x7,x1001,x1002))
def spec_l18DrawNoise.f (k:Nat) (s0_0:List Int) (s0_1:Int) (s0_2:Int) (a1:Int) (a2:Int):Option ((List (S52))×Int×Int):=spec_l18DrawNoise.l0 k a1 a2 (([]:List (S52))) 0 s0_0 s0_1 s0_2
theorem spec_l18DrawNoise.calls (k:Nat) (g:Nat) (s0_0:List Int) (s0_1:Int) (s0_2:Int) (a1:Int) (a2:Int) (r1:List (S52)) (r2:Int) (r3:Int) (w0 w:World) (hI:IsS99 w0 w g s0_0 s0_1 s0_2) (hB:Below w0.heap.size w0 w) (H:spec_l18DrawNoise.f k s0_0 s0_1 s0_2 a1 a2=some (r1,r2,r3)):
 Calls Try.prog 74 #[.pointer (some ⟨g,0,none⟩), .int .i64 a1, .int .i64 a2] w fun e w'=>∃v0_:Value,e= .returned (v0_)∧Kd.R k52 52 w' w.heap.size (fun _=>True) v0_ r1∧IsS99 w0 w' g s0_0 r2 r3∧Below w0.heap.size w0 w'∧KeepBut w w' g none:=by
 have hu52:=Try.underlying52
 have HI0:=zM hI
 have HK:=zM (KeepBut.refl w g none)
 have HL:=zM hB.size
 clear hI
 have HW0:=zM hB.size
 have HB:=zM hB
 clear hB
 unfold spec_l18DrawNoise.f at H
 obtain⟨y465,hy465⟩:∃y_:List (S52),y_=(([]:List (S52))):=⟨_,rfl⟩
 rw[←hy465] at H
 have Ny465:=zM hy465
 clear hy465
 have H':=zM H
 clear H
 go_enter Try.func74,Try.ntmps74
 go_wp2_with (first|((with_reducible refine gate_dst (N:=9) rfl ?_);refine Kd.R_lit k52 _ 52 ?hg (N:=9) ?hd (xs:=([]:List (S52))) (inner:=[]) (ok:=fun _=>True) (okp:=fun _=>True) ?hr ?hp (fun _ hk=>hk) trivial (Below.refl _ _) (Nat.le_refl _) (by simp) ?_;(case hd|hg=>rfl);(case hr=>exact zh);(case hp=>exact(Reps.none _ _));intro v466 w4 ho5 hb hg_ hnew_;clear hg_ hnew_;(first|rw[←Ny465.out] at ho5|simp only[Int.reduceToNat,←Ny465.out] at ho5);refine zS4 (Kd.R_lower ho5 (keep_size (w:=w) (g:=g) (row:=none) zk)) (IsS99.below (zi HI0) hb) (KeepBut.trans zk (KeepBut.of_below hb g none) (.inl rfl)) (below_step zb11 hb) ?_;clear HI0 HK HB;intro HO467 HI0 HK HB;clear hb ho5))
 (try simp only[Act.put,zL1,zL2,zL3])
 go_loopg [7,8] k (fun kq v7 v8 w'=>∃(x7_1:List (S52)) (x8_1:Int) (x1001_1:Int) (x1002_1:Int),v8= .int .i64 x8_1∧Aside0 (spec_l18DrawNoise.l0 kq a1 a2 x7_1 x8_1 s0_0 x1001_1 x1002_1=some (r1,r2,r3))∧Aside0 (kq≤k)∧Aside0 (Kd.R k52 52 w' w.heap.size (fun _=>True) v7 x7_1)∧Aside0 (IsS99 w0 w' g s0_0 x1001_1 x1002_1)∧Aside0 (KeepBut w w' g none)∧Aside0 (Below w0.heap.size w0 w'))
 case atStart=>exact⟨(y465),(0),(s0_1),(s0_2),zs,H',⟨Nat.le_refl _⟩,⟨zr HO467⟩,⟨zi HI0⟩,⟨zk⟩,⟨zb11⟩⟩
 case round=>
  clear H'
  obtain⟨x7_1,x8_1,x1001_1,x1002_1,rfl,HA,HK1,HO_7,HI0,HK,HB⟩:=hrel
  cases gk with
  |zero=>exact absurd HA.out (by simp[spec_l18DrawNoise.l0])
  | succ k1=>
   have H:=HA.out
   clear HA
   simp only[spec_l18DrawNoise.l0] at H
   replace H:=zI2 H
   rcases H with⟨c6,H⟩|⟨c6,H⟩
   case inr=>
    have c6b0:=decide_eq_false c6
    clear c6
    simp only[Option.some.injEq,Prod.mk.injEq] at H
    obtain⟨rfl,rfl,rfl⟩:=H
    go_wp2
    go_ret
    exact⟨_,zq,zr HO_7,zi HI0,zb11,zk⟩
   have c6b0:=zE c6
   clear c6
   replace H:=zP H
   obtain⟨⟨t468,t469,t470⟩,A7,H⟩:=H
   dsimp only at H
   replace H:=zP H
   obtain⟨⟨t471,t472,t473⟩,A8,H⟩:=H
   dsimp only at H
   replace H:=zIM H
   obtain⟨LMc9,H⟩:=H
   obtain⟨y474,hy474⟩:∃y_:List (S52),y_=(x7_1++[(⟨wrap64 (t468-a2),wrap64 (t471-a2)⟩:S52)]):=⟨_,rfl⟩
   rw[←hy474] at H
   have Ny474:=zM hy474
   clear hy474
   have H':=zM H
   clear H
   go_wp2_with (first|((with_reducible refine gate_callee (f:=47) rfl ?_);refine goesL_ (some 20) rfl rfl Try.func47 ze rfl #[.pointer (some ⟨g,0,none⟩), .int .i64 (wrap64 ((wrap64 (2*a2))+1))] rfl zg ?_;(with_reducible refine(spec_l1Below.calls g s0_0 x1001_1 x1002_1 (wrap64 ((wrap64 (2*a2))+1)) t468 t469 t470 w0 _ ?side1 ?side2 A7.out).mono ?_);(case side1=>exact zi HI0);(case side2=>exact zb11);rintro e w10 ⟨rfl,hi,hb,hk⟩;refine⟨_,rfl,?_⟩;refine zS4 (Kd.R_mono (Kd.R_keep (IsS99.apart (show IsS99 w0 _ g s0_0 x1001_1 x1002_1 from zi HI0) (zr HO_7) (by decide)) hk (fun _ h=>h.2)) (fun _ h=>h.1)) (KeepBut.trans zk hk (.inl rfl)) (hb) (hi) ?_;clear HO_7 HK HB HI0;intro HO_7 HK HB HI0;(try clear hb);(try clear hb2);(try clear hk);(try clear hi))|((with_reducible refine gate_callee (f:=47) rfl ?_);refine goesL_ (some 27) rfl rfl Try.func47 ze rfl #[.pointer (some ⟨g,0,none⟩), .int .i64 (wrap64 ((wrap64 (2*a2))+1))] rfl zg ?_;(with_reducible refine(spec_l1Below.calls g s0_0 t469 t470 (wrap64 ((wrap64 (2*a2))+1)) t471 t472 t473 w0 _ ?side1 ?side2 A8.out).mono ?_);(case side1=>exact zi HI0);(case side2=>exact zb11);rintro e w11 ⟨rfl,hi,hb,hk⟩;refine⟨_,rfl,?_⟩;refine zS4 (Kd.R_mono (Kd.R_keep (IsS99.apart (show IsS99 w0 _ g s0_0 t469 t470 from zi HI0) (zr HO_7) (by decide)) hk (fun _ h=>h.2)) (fun _ h=>h.1)) (KeepBut.trans zk hk (.inl rfl)) (hb) (hi) ?_;clear HO_7 HK HB HI0;intro HO_7 HK HB HI0;(try clear hb);(try clear hb2);(try clear hk);(try clear hi))|((with_reducible refine gate_builtin (b:= .append) (xs:= #[.tmp 15, .tmp 31]) rfl ?_);at_builtin;refine Kd.R_append k52 w.heap.size rfl (.tmp 15) (.tmp 31) 25 52 (.agg #[(.int .i64 0),(.int .i64 0)]) 16 rfl Try.underlying25 info52 rfl (by decide) (by omega) u7 x7_1 (⟨wrap64 (t468-a2),wrap64 (t471-a2)⟩:S52) [.int .i64 (wrap64 (t468-a2)), .int .i64 (wrap64 (t471-a2))] (fun _=>True) (fun _=>False) rfl rfl ?aP (fun _ hk=>hk.elim) ?aF ?aO (Below.refl _ _) ?aS ?aL ?_;(case aP=>exact k52_mkM _ _ _ (⟨wrap64 (t468-a2),wrap64 (t471-a2)⟩:S52));(case aF=>exact(fun _ _=>trivial));(case aO=>exact(zr HO_7));(case aS=>exact(keep_size (w:=w) (g:=g) (row:=none) zk));(case aL=>have:=LMc9.out;omega);intro v475 w12 ho hb hg hat;(first|rw[←Ny474.out] at ho|simp only[Int.reduceToNat,←Ny474.out] at ho);refine zS4 (IsS99.grown (zi HI0) hg (IsS99.own_ne HI0.out HO_7.out (by decide))) (below_weaken zb11 HL.out hb) (KeepBut.trans zk (KeepBut.of_grown hg g) (Kd.R_base2 HO_7.out)) (ho) ?_;clear HI0 HB HK HO_7;intro HI0 HB HK HO476;clear ho hb hg hat))
   go_roundg k1
   case measure=>have:=HK1.out;omega
   case rel=>exact⟨(y474),(wrap64 (x8_1+1)),(t472),(t473),zs,H',⟨zl1 HK1⟩,⟨zr HO476⟩,⟨zi HI0⟩,⟨zk⟩,⟨zb11⟩⟩
end Go.Proofs.Ytapobpkeefeajaa.PFnModem
