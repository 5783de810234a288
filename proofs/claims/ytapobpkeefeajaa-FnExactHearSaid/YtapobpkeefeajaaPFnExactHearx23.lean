-- A turned copy of the print's text.
import Derived.Test.YtapobpkeefeajaaPFnExactHearx0
import Derived.Test.YtapobpkeefeajaaPFnExactHearx18
import Derived.Test.YtapobpkeefeajaaPFnExactHearx19
import Derived.Test.YtapobpkeefeajaaPFnExactHearx21
import Derived.Test.YtapobpkeefeajaaPFnExactHearx22
namespace Go.Proofs.Ytapobpkeefeajaa.PFnExactHear
open Go.RowKit Go.Proofs.YtapobpkeefeajaaW.PrintWords Go.Proofs.YtapobpkeefeajaaW.PrintLast Go.Proofs.YtapobpkeefeajaaW.PrintMore
attribute [local go_sem] max2_int min2_int max_two min_two max_three min_three max_four min_four
set_option maxHeartbeats 8000000
set_option maxRecDepth 100000
set_option linter.unusedVariables false
set_option linter.unusedSimpArgs false
mutual
def spec_RsMend.l0:Nat→List Int→Int→List Int→Int→Option (List Int×Int×Bool)
 |0,_,_,_,_=>none
 |k+1,x0,x1,x7,x9=>if x9≤x1 then((spec_l14Places.f k x7 x9 (x0.length:Int)).bind fun bt434=>(if bt434.2=true then((spec_l14Put.f k x0 x7 bt434.1 x1).bind fun bt438=>(if bt438.2=true then(spec_RsMend.l1 k x0 bt438.1 0 0) else(spec_RsMend.l0 k x0 x1 x7 (wrap64 (x9+1))))) else(spec_RsMend.l0 k x0 x1 x7 (wrap64 (x9+1))))) else(some ((([]:List Int)),0,false))
def spec_RsMend.l1:Nat→List Int→List Int→Int→Int→Option (List Int×Int×Bool)
 |0,_,_,_,_=>none
 |k+1,x0,x12,x14,x15=>if x15<(x0.length:Int) then(if 0≤x15 then(if x15<(x12.length:Int) then(if(rd x12 x15)=(rd x0 x15) then(spec_RsMend.l1 k x0 x12 x14 (wrap64 (x15+1))) else(spec_RsMend.l1 k x0 x12 (wrap64 (x14+1)) (wrap64 (x15+1)))) else(none)) else(none)) else(some (x12,x14,true))
end
def spec_RsMend.f (k:Nat) (l0:List Int) (a1:Int):Option (List Int×Int×Bool):=(spec_l14Word.f l0 a1).bind fun t417=>(if t417=true then((spec_l14Signs.f k l0 a1).bind fun bt421=>(if bt421.2=true then((some (([]:List Int):List Int)).bind fun y425=>(if y425.length+l0.length<140737488355328 then(some ((y425++l0),0,true)) else(none))) else(spec_RsMend.l0 k l0 a1 bt421.1 1))) else(some ((([]:List Int)),0,false)))
theorem spec_RsMend.calls (k:Nat) (A0:Option Addr) (c0:Nat) (l0:List Int) (a1:Int) (r1:List Int) (r2:Int) (r3:Bool) (w:World) (hr0:Kd.C (Kd.int .u8) w A0 l0.length l0) (hc0:l0.length≤c0) (H:spec_RsMend.f k l0 a1=some (r1,r2,r3)):
 Calls Try.prog 72 #[.slice A0 l0.length c0, .int .i64 a1] w fun e w'=>∃v0_:Value,e= .returned (.tuple #[v0_, .int .i64 r2, .bool r3])∧Kd.R (Kd.int .u8) 5 w' w.heap.size (fun _=>True) v0_ r1∧Below w.heap.size w w':=by
 have HR0:=zM hr0
 have HC0:=zM hc0
 clear hr0 hc0
 have HB:=zM (Below.refl w.heap.size w)
 unfold spec_RsMend.f at H
 replace H:=zP H
 obtain⟨t417,A3,H⟩:=H
 by_cases c4:t417=true
 case neg=>
  replace c4:=Bool.eq_false_iff.mpr c4
  subst c4
  rw[if_neg zFT] at H
  obtain⟨y418,hy418⟩:∃y_:List Int,y_=(([]:List Int)):=⟨_,rfl⟩
  replace H:(some (y418,0,false))=some (r1,r2,r3):=zy hy418 H
  have Ny418:=zM hy418
  clear hy418
  simp only[Option.some.injEq,Prod.mk.injEq] at H
  obtain⟨rfl,rfl,rfl⟩:=H
  go_enter Try.func72,Try.ntmps72
  go_wp2_with (first|(go_at_call 113;(with_reducible refine(spec_l14Word.calls _ _ l0 a1 false _ ?side1 ?side2 A3.out).mono ?_);(case side1=>exact zc HR0.out);(case side2=>exact HC0.out);rintro e w' ⟨rfl,⟨nd,rfl⟩⟩;(try first|exact⟨rfl,_,zD _ _ _⟩|exact⟨rfl,_,Eq.trans (zD _ _ _) (congrArg (World.drewN _) (Nat.add_assoc _ _ _))⟩))|((with_reducible refine gate_dst (N:=20) rfl ?_);refine Kd.R_lit (Kd.int .u8) _ 5 ?hg (N:=20) ?hd (xs:=([]:List Int)) (inner:=[]) (ok:=fun _=>True) (okp:=fun _=>True) ?hr ?hp (fun _ hk=>hk) trivial (Below.refl _ _) (Nat.le_refl _) (by simp) ?_;(case hd|hg=>rfl);(case hr=>exact zh);(case hp=>exact(Reps.none _ _));intro v419 w36 ho37 hb hg_ hnew_;clear hg_ hnew_;(first|rw[←Ny418.out] at ho37|simp only[Int.reduceToNat,←Ny418.out] at ho37);refine zS2 (Kd.R_lower ho37 (below_size zb)) (below_step zb hb) ?_;clear HB;intro HO420 HB;clear hb ho37))
  repeat(go_quiet (first|(go_at_call 113;(with_reducible refine(spec_l14Word.calls _ _ l0 a1 false _ ?side1 ?side2 A3.out).mono ?_);(case side1=>exact zc HR0.out);(case side2=>exact HC0.out);rintro e w' ⟨rfl,⟨nd,rfl⟩⟩;(try first|exact⟨rfl,_,zD _ _ _⟩|exact⟨rfl,_,Eq.trans (zD _ _ _) (congrArg (World.drewN _) (Nat.add_assoc _ _ _))⟩))|((with_reducible refine gate_dst (N:=20) rfl ?_);refine Kd.R_lit (Kd.int .u8) _ 5 ?hg (N:=20) ?hd (xs:=([]:List Int)) (inner:=[]) (ok:=fun _=>True) (okp:=fun _=>True) ?hr ?hp (fun _ hk=>hk) trivial (Below.refl _ _) (Nat.le_refl _) (by simp) ?_;(case hd|hg=>rfl);(case hr=>exact zh);(case hp=>exact(Reps.none _ _));intro v419 w36 ho37 hb hg_ hnew_;clear hg_ hnew_;(first|rw[←Ny418.out] at ho37|simp only[Int.reduceToNat,←Ny418.out] at ho37);refine zS2 (Kd.R_lower ho37 (below_size zb)) (below_step zb hb) ?_;clear HB;intro HO420 HB;clear hb ho37));try go_wp2_with (first|(go_at_call 113;(with_reducible refine(spec_l14Word.calls _ _ l0 a1 false _ ?side1 ?side2 A3.out).mono ?_);(case side1=>exact zc HR0.out);(case side2=>exact HC0.out);rintro e w' ⟨rfl,⟨nd,rfl⟩⟩;(try first|exact⟨rfl,_,zD _ _ _⟩|exact⟨rfl,_,Eq.trans (zD _ _ _) (congrArg (World.drewN _) (Nat.add_assoc _ _ _))⟩))|((with_reducible refine gate_dst (N:=20) rfl ?_);refine Kd.R_lit (Kd.int .u8) _ 5 ?hg (N:=20) ?hd (xs:=([]:List Int)) (inner:=[]) (ok:=fun _=>True) (okp:=fun _=>True) ?hr ?hp (fun _ hk=>hk) trivial (Below.refl _ _) (Nat.le_refl _) (by simp) ?_;(case hd|hg=>rfl);(case hr=>exact zh);(case hp=>exact(Reps.none _ _));intro v419 w36 ho37 hb hg_ hnew_;clear hg_ hnew_;(first|rw[←Ny418.out] at ho37|simp only[Int.reduceToNat,←Ny418.out] at ho37);refine zS2 (Kd.R_lower ho37 (below_size zb)) (below_step zb hb) ?_;clear HB;intro HO420 HB;clear hb ho37)))
  go_ret3
  exact⟨_,zq,zr HO420,zb⟩
 subst c4
 rw[if_pos rfl] at H
 replace H:=zP H
 obtain⟨⟨t421,t422⟩,A5,H⟩:=H
 dsimp only at H
 by_cases c6:t422=true
 case pos=>
  subst c6
  rw[if_pos rfl] at H
  replace H:=zY H
  obtain⟨y425,Ny425,H⟩:=H
  replace H:=zIM H
  obtain⟨LMc7,H⟩:=H
  obtain⟨y428,hy428⟩:∃y_:List Int,y_=(y425++l0):=⟨_,rfl⟩
  rw[←hy428] at H
  have Ny428:=zM hy428
  clear hy428
  simp only[Option.some.injEq,Prod.mk.injEq] at H
  obtain⟨rfl,rfl,rfl⟩:=H
  go_enter Try.func72,Try.ntmps72
  go_wp2_with (first|(go_at_call 113;(with_reducible refine(spec_l14Word.calls _ _ l0 a1 true _ ?side1 ?side2 A3.out).mono ?_);(case side1=>exact zc HR0.out);(case side2=>exact HC0.out);rintro e w' ⟨rfl,⟨nd,rfl⟩⟩;(try first|exact⟨rfl,_,zD _ _ _⟩|exact⟨rfl,_,Eq.trans (zD _ _ _) (congrArg (World.drewN _) (Nat.add_assoc _ _ _))⟩))|(go_at_call 114;(with_reducible refine(spec_l14Signs.calls k _ _ l0 a1 t421 true _ ?side1 ?side2 A5.out).mono ?_);(case side1=>exact zc HR0.out);(case side2=>exact HC0.out);rintro e w8 ⟨v423,rfl,ho0,hb⟩;refine zS2 (Kd.R_lower ho0 (below_size zb)) (below_step zb hb) ?_;clear HB;intro HO424 HB;(try clear hb);(try clear hb2);(try clear hk);(try clear hi);(try clear ho0))|((with_reducible refine gate_dst (N:=28) rfl ?_);refine Kd.R_lit (Kd.int .u8) _ 5 ?hg (N:=28) ?hd (xs:=([]:List Int)) (inner:=[]) (ok:=fun _=>True) (okp:=fun _=>True) ?hr ?hp (fun _ hk=>hk) trivial (Below.refl _ _) (Nat.le_refl _) (by simp) ?_;(case hd|hg=>rfl);(case hr=>exact zh);(case hp=>exact(Reps.none _ _));intro v426 w9 ho10 hb hg_ hnew_;clear hg_ hnew_;(first|rw[←Ny425.out] at ho10|simp only[Int.reduceToNat,←Ny425.out] at ho10);refine zS3 (Kd.R_below (zr HO424) hb) (Kd.R_lower ho10 (below_size zb)) (below_step zb hb) ?_;clear HO424 HB;intro HO424 HO427 HB;clear hb ho10)|((with_reducible refine gate_builtin (b:= .append) (xs:= #[.tmp 28, .tmp 29]) rfl ?_);at_builtin;refine Kd.R_append_rows (Kd.int .u8) (w0:=w) w.heap.size rfl (.tmp 28) (.tmp 29) 24 5 (.int .u8 0) 1 rfl Try.underlying24 info5 rfl (by decide) (by omega) v426 y425 l0 _ _ _ (fun _=>True) (fun _=>False) rfl rfl ?aO ?aR (fun _ _ h=>h) (fun _ h=>h.elim) ?aF ?aB ?aS ?aL ?_;(case aR=>exact zc (Kd.C_below HR0.out HB.out));(case aB=>exact zb);(case aF=>exact(fun _ _=>trivial));(case aO=>exact(zr HO427));(case aS=>exact(below_size zb));(case aL=>have:=LMc7.out;omega);intro v429 w11 ho hb hg hat;(first|rw[←Ny428.out] at ho|simp only[Int.reduceToNat,←Ny428.out] at ho);refine zS3 (Kd.R_over' (zr HO424) (Kd.R_typed (zr HO427)) (by decide) hg) (hb) (ho) ?_;clear HO424 HB HO427;intro HO424 HB HO430;clear ho hb hg hat))
  repeat(go_quiet (first|(go_at_call 113;(with_reducible refine(spec_l14Word.calls _ _ l0 a1 true _ ?side1 ?side2 A3.out).mono ?_);(case side1=>exact zc HR0.out);(case side2=>exact HC0.out);rintro e w' ⟨rfl,⟨nd,rfl⟩⟩;(try first|exact⟨rfl,_,zD _ _ _⟩|exact⟨rfl,_,Eq.trans (zD _ _ _) (congrArg (World.drewN _) (Nat.add_assoc _ _ _))⟩))|(go_at_call 114;(with_reducible refine(spec_l14Signs.calls k _ _ l0 a1 t421 true _ ?side1 ?side2 A5.out).mono ?_);(case side1=>exact zc HR0.out);(case side2=>exact HC0.out);rintro e w8 ⟨v423,rfl,ho0,hb⟩;refine zS2 (Kd.R_lower ho0 (below_size zb)) (below_step zb hb) ?_;clear HB;intro HO424 HB;(try clear hb);(try clear hb2);(try clear hk);(try clear hi);(try clear ho0))|((with_reducible refine gate_dst (N:=28) rfl ?_);refine Kd.R_lit (Kd.int .u8) _ 5 ?hg (N:=28) ?hd (xs:=([]:List Int)) (inner:=[]) (ok:=fun _=>True) (okp:=fun _=>True) ?hr ?hp (fun _ hk=>hk) trivial (Below.refl _ _) (Nat.le_refl _) (by simp) ?_;(case hd|hg=>rfl);(case hr=>exact zh);(case hp=>exact(Reps.none _ _));intro v426 w9 ho10 hb hg_ hnew_;clear hg_ hnew_;(first|rw[←Ny425.out] at ho10|simp only[Int.reduceToNat,←Ny425.out] at ho10);refine zS3 (Kd.R_below (zr HO424) hb) (Kd.R_lower ho10 (below_size zb)) (below_step zb hb) ?_;clear HO424 HB;intro HO424 HO427 HB;clear hb ho10)|((with_reducible refine gate_builtin (b:= .append) (xs:= #[.tmp 28, .tmp 29]) rfl ?_);at_builtin;refine Kd.R_append_rows (Kd.int .u8) (w0:=w) w.heap.size rfl (.tmp 28) (.tmp 29) 24 5 (.int .u8 0) 1 rfl Try.underlying24 info5 rfl (by decide) (by omega) v426 y425 l0 _ _ _ (fun _=>True) (fun _=>False) rfl rfl ?aO ?aR (fun _ _ h=>h) (fun _ h=>h.elim) ?aF ?aB ?aS ?aL ?_;(case aR=>exact zc (Kd.C_below HR0.out HB.out));(case aB=>exact zb);(case aF=>exact(fun _ _=>trivial));(case aO=>exact(zr HO427));(case aS=>exact(below_size zb));(case aL=>have:=LMc7.out;omega);intro v429 w11 ho hb hg hat;(first|rw[←Ny428.out] at ho|simp only[Int.reduceToNat,←Ny428.out] at ho);refine zS3 (Kd.R_over' (zr HO424) (Kd.R_typed (zr HO427)) (by decide) hg) (hb) (ho) ?_;clear HO424 HB HO427;intro HO424 HB HO430;clear ho hb hg hat));try go_wp2_with (first|(go_at_call 113;(with_reducible refine(spec_l14Word.calls _ _ l0 a1 true _ ?side1 ?side2 A3.out).mono ?_);(case side1=>exact zc HR0.out);(case side2=>exact HC0.out);rintro e w' ⟨rfl,⟨nd,rfl⟩⟩;(try first|exact⟨rfl,_,zD _ _ _⟩|exact⟨rfl,_,Eq.trans (zD _ _ _) (congrArg (World.drewN _) (Nat.add_assoc _ _ _))⟩))|(go_at_call 114;(with_reducible refine(spec_l14Signs.calls k _ _ l0 a1 t421 true _ ?side1 ?side2 A5.out).mono ?_);(case side1=>exact zc HR0.out);(case side2=>exact HC0.out);rintro e w8 ⟨v423,rfl,ho0,hb⟩;refine zS2 (Kd.R_lower ho0 (below_size zb)) (below_step zb hb) ?_;clear HB;intro HO424 HB;(try clear hb);(try clear hb2);(try clear hk);(try clear hi);(try clear ho0))|((with_reducible refine gate_dst (N:=28) rfl ?_);refine Kd.R_lit (Kd.int .u8) _ 5 ?hg (N:=28) ?hd (xs:=([]:List Int)) (inner:=[]) (ok:=fun _=>True) (okp:=fun _=>True) ?hr ?hp (fun _ hk=>hk) trivial (Below.refl _ _) (Nat.le_refl _) (by simp) ?_;(case hd|hg=>rfl);(case hr=>exact zh);(case hp=>exact(Reps.none _ _));intro v426 w9 ho10 hb hg_ hnew_;clear hg_ hnew_;(first|rw[←Ny425.out] at ho10|simp only[Int.reduceToNat,←Ny425.out] at ho10);refine zS3 (Kd.R_below (zr HO424) hb) (Kd.R_lower ho10 (below_size zb)) (below_step zb hb) ?_;clear HO424 HB;intro HO424 HO427 HB;clear hb ho10)|((with_reducible refine gate_builtin (b:= .append) (xs:= #[.tmp 28, .tmp 29]) rfl ?_);at_builtin;refine Kd.R_append_rows (Kd.int .u8) (w0:=w) w.heap.size rfl (.tmp 28) (.tmp 29) 24 5 (.int .u8 0) 1 rfl Try.underlying24 info5 rfl (by decide) (by omega) v426 y425 l0 _ _ _ (fun _=>True) (fun _=>False) rfl rfl ?aO ?aR (fun _ _ h=>h) (fun _ h=>h.elim) ?aF ?aB ?aS ?aL ?_;(case aR=>exact zc (Kd.C_below HR0.out HB.out));(case aB=>exact zb);(case aF=>exact(fun _ _=>trivial));(case aO=>exact(zr HO427));(case aS=>exact(below_size zb));(case aL=>have:=LMc7.out;omega);intro v429 w11 ho hb hg hat;(first|rw[←Ny428.out] at ho|simp only[Int.reduceToNat,←Ny428.out] at ho);refine zS3 (Kd.R_over' (zr HO424) (Kd.R_typed (zr HO427)) (by decide) hg) (hb) (ho) ?_;clear HO424 HB HO427;intro HO424 HB HO430;clear ho hb hg hat)))
  go_ret3
  exact⟨_,zq,zr HO430,zb⟩
 replace c6:=Bool.eq_false_iff.mpr c6
 subst c6
 rw[if_neg zFT] at H
 have H':=zM H
 clear H
 go_enter Try.func72,Try.ntmps72
 go_wp2_with (first|(go_at_call 113;(with_reducible refine(spec_l14Word.calls _ _ l0 a1 true _ ?side1 ?side2 A3.out).mono ?_);(case side1=>exact zc HR0.out);(case side2=>exact HC0.out);rintro e w' ⟨rfl,⟨nd,rfl⟩⟩;(try first|exact⟨rfl,_,zD _ _ _⟩|exact⟨rfl,_,Eq.trans (zD _ _ _) (congrArg (World.drewN _) (Nat.add_assoc _ _ _))⟩))|(go_at_call 114;(with_reducible refine(spec_l14Signs.calls k _ _ l0 a1 t421 false _ ?side1 ?side2 A5.out).mono ?_);(case side1=>exact zc HR0.out);(case side2=>exact HC0.out);rintro e w12 ⟨v423,rfl,ho0,hb⟩;refine zS2 (Kd.R_lower ho0 (below_size zb)) (below_step zb hb) ?_;clear HB;intro HO424 HB;(try clear hb);(try clear hb2);(try clear hk);(try clear hi);(try clear ho0)))
 repeat(go_quiet (first|(go_at_call 113;(with_reducible refine(spec_l14Word.calls _ _ l0 a1 true _ ?side1 ?side2 A3.out).mono ?_);(case side1=>exact zc HR0.out);(case side2=>exact HC0.out);rintro e w' ⟨rfl,⟨nd,rfl⟩⟩;(try first|exact⟨rfl,_,zD _ _ _⟩|exact⟨rfl,_,Eq.trans (zD _ _ _) (congrArg (World.drewN _) (Nat.add_assoc _ _ _))⟩))|(go_at_call 114;(with_reducible refine(spec_l14Signs.calls k _ _ l0 a1 t421 false _ ?side1 ?side2 A5.out).mono ?_);(case side1=>exact zc HR0.out);(case side2=>exact HC0.out);rintro e w12 ⟨v423,rfl,ho0,hb⟩;refine zS2 (Kd.R_lower ho0 (below_size zb)) (below_step zb hb) ?_;clear HB;intro HO424 HB;(try clear hb);(try clear hb2);(try clear hk);(try clear hi);(try clear ho0)));try go_wp2_with (first|(go_at_call 113;(with_reducible refine(spec_l14Word.calls _ _ l0 a1 true _ ?side1 ?side2 A3.out).mono ?_);(case side1=>exact zc HR0.out);(case side2=>exact HC0.out);rintro e w' ⟨rfl,⟨nd,rfl⟩⟩;(try first|exact⟨rfl,_,zD _ _ _⟩|exact⟨rfl,_,Eq.trans (zD _ _ _) (congrArg (World.drewN _) (Nat.add_assoc _ _ _))⟩))|(go_at_call 114;(with_reducible refine(spec_l14Signs.calls k _ _ l0 a1 t421 false _ ?side1 ?side2 A5.out).mono ?_);(case side1=>exact zc HR0.out);(case side2=>exact HC0.out);rintro e w12 ⟨v423,rfl,ho0,hb⟩;refine zS2 (Kd.R_lower ho0 (below_size zb)) (below_step zb hb) ?_;clear HB;intro HO424 HB;(try clear hb);(try clear hb2);(try clear hk);(try clear hi);(try clear ho0))))
 (try simp only[Act.put,zL1,zL2,zL3])
 go_loopg [9] k (fun kq v9 w'=>∃(x9_1:Int),v9= .int .i64 x9_1∧Aside0 (spec_RsMend.l0 kq l0 a1 t421 x9_1=some (r1,r2,r3))∧Aside0 (kq≤k)∧Aside0 (Kd.R (Kd.int .i64) 3 w' w.heap.size (fun _=>True) v423 t421)∧Aside0 (Below w.heap.size w w'))
 case atStart=>exact⟨(1),zs,H',⟨Nat.le_refl _⟩,⟨zr HO424⟩,⟨zb⟩⟩
 case round=>
  clear H'
  try clear p2
  try clear c4
  try clear c6
  try clear c7
  obtain⟨x9_1,rfl,HA,HK1,HO_7,HB⟩:=hrel
  cases gk with
  |zero=>exact absurd HA.out (by simp[spec_RsMend.l0])
  | succ k1=>
   have H:=HA.out
   clear HA
   simp only[spec_RsMend.l0] at H
   replace H:=zI2 H
   rcases H with⟨c13,H⟩|⟨c13,H⟩
   case inr=>
    have c13b0:=decide_eq_false c13
    clear c13
    obtain⟨y431,hy431⟩:∃y_:List Int,y_=(([]:List Int)):=⟨_,rfl⟩
    replace H:(some (y431,0,false))=some (r1,r2,r3):=zy hy431 H
    have Ny431:=zM hy431
    clear hy431
    simp only[Option.some.injEq,Prod.mk.injEq] at H
    obtain⟨rfl,rfl,rfl⟩:=H
    go_wp2_with (first|((with_reducible refine gate_dst (N:=75) rfl ?_);refine Kd.R_lit (Kd.int .u8) _ 5 ?hg (N:=75) ?hd (xs:=([]:List Int)) (inner:=[]) (ok:=fun _=>True) (okp:=fun _=>True) ?hr ?hp (fun _ hk=>hk) trivial (Below.refl _ _) (Nat.le_refl _) (by simp) ?_;(case hd|hg=>rfl);(case hr=>exact zh);(case hp=>exact(Reps.none _ _));intro v432 w34 ho35 hb hg_ hnew_;clear hg_ hnew_;(first|rw[←Ny431.out] at ho35|simp only[Int.reduceToNat,←Ny431.out] at ho35);refine zS3 (Kd.R_below (zr HO_7) hb) (Kd.R_lower ho35 (below_size zb)) (below_step zb hb) ?_;clear HO_7 HB;intro HO_7 HO433 HB;clear hb ho35))
    repeat(go_quiet (first|((with_reducible refine gate_dst (N:=75) rfl ?_);refine Kd.R_lit (Kd.int .u8) _ 5 ?hg (N:=75) ?hd (xs:=([]:List Int)) (inner:=[]) (ok:=fun _=>True) (okp:=fun _=>True) ?hr ?hp (fun _ hk=>hk) trivial (Below.refl _ _) (Nat.le_refl _) (by simp) ?_;(case hd|hg=>rfl);(case hr=>exact zh);(case hp=>exact(Reps.none _ _));intro v432 w34 ho35 hb hg_ hnew_;clear hg_ hnew_;(first|rw[←Ny431.out] at ho35|simp only[Int.reduceToNat,←Ny431.out] at ho35);refine zS3 (Kd.R_below (zr HO_7) hb) (Kd.R_lower ho35 (below_size zb)) (below_step zb hb) ?_;clear HO_7 HB;intro HO_7 HO433 HB;clear hb ho35));try go_wp2_with (first|((with_reducible refine gate_dst (N:=75) rfl ?_);refine Kd.R_lit (Kd.int .u8) _ 5 ?hg (N:=75) ?hd (xs:=([]:List Int)) (inner:=[]) (ok:=fun _=>True) (okp:=fun _=>True) ?hr ?hp (fun _ hk=>hk) trivial (Below.refl _ _) (Nat.le_refl _) (by simp) ?_;(case hd|hg=>rfl);(case hr=>exact zh);(case hp=>exact(Reps.none _ _));intro v432 w34 ho35 hb hg_ hnew_;clear hg_ hnew_;(first|rw[←Ny431.out] at ho35|simp only[Int.reduceToNat,←Ny431.out] at ho35);refine zS3 (Kd.R_below (zr HO_7) hb) (Kd.R_lower ho35 (below_size zb)) (below_step zb hb) ?_;clear HO_7 HB;intro HO_7 HO433 HB;clear hb ho35)))
    go_ret3
    exact⟨_,zq,zr HO433,zb⟩
   have c13b0:=zE c13
   clear c13
   replace H:=zP H
   obtain⟨⟨t434,t435⟩,A14,H⟩:=H
   dsimp only at H
   by_cases c15:t435=true
   case neg=>
    replace c15:=Bool.eq_false_iff.mpr c15
    subst c15
    rw[if_neg zFT] at H
    have H':=zM H
    clear H
    obtain⟨Ao32,co32,eo32⟩:=Kd.R_slice HO_7.out
    subst eo32
    go_wp2_with (first|(go_at_call 115;(with_reducible refine(spec_l14Places.calls k1 _ _ t421 x9_1 (l0.length:Int) t434 false _ ?side1 ?side2 A14.out).mono ?_);(case side1=>exact zc (Kd.R_reads' HO_7.out).2.2);(case side2=>exact(Kd.R_reads' HO_7.out).2.1);rintro e w33 ⟨v436,rfl,ho0,hb⟩;refine zS3 (Kd.R_elder' (zr HO_7) (Kd.R_base ho0) hb) (Kd.R_lower (Kd.R_new' ho0 (Kd.R_lt (zr HO_7))) (below_size zb)) (below_step zb hb) ?_;clear HO_7 HB;intro HO_7 HO437 HB;(try clear hb);(try clear hb2);(try clear hk);(try clear hi);(try clear ho0)))
    repeat(go_quiet (first|(go_at_call 115;(with_reducible refine(spec_l14Places.calls k1 _ _ t421 x9_1 (l0.length:Int) t434 false _ ?side1 ?side2 A14.out).mono ?_);(case side1=>exact zc (Kd.R_reads' HO_7.out).2.2);(case side2=>exact(Kd.R_reads' HO_7.out).2.1);rintro e w33 ⟨v436,rfl,ho0,hb⟩;refine zS3 (Kd.R_elder' (zr HO_7) (Kd.R_base ho0) hb) (Kd.R_lower (Kd.R_new' ho0 (Kd.R_lt (zr HO_7))) (below_size zb)) (below_step zb hb) ?_;clear HO_7 HB;intro HO_7 HO437 HB;(try clear hb);(try clear hb2);(try clear hk);(try clear hi);(try clear ho0)));try go_wp2_with (first|(go_at_call 115;(with_reducible refine(spec_l14Places.calls k1 _ _ t421 x9_1 (l0.length:Int) t434 false _ ?side1 ?side2 A14.out).mono ?_);(case side1=>exact zc (Kd.R_reads' HO_7.out).2.2);(case side2=>exact(Kd.R_reads' HO_7.out).2.1);rintro e w33 ⟨v436,rfl,ho0,hb⟩;refine zS3 (Kd.R_elder' (zr HO_7) (Kd.R_base ho0) hb) (Kd.R_lower (Kd.R_new' ho0 (Kd.R_lt (zr HO_7))) (below_size zb)) (below_step zb hb) ?_;clear HO_7 HB;intro HO_7 HO437 HB;(try clear hb);(try clear hb2);(try clear hk);(try clear hi);(try clear ho0))))
    go_roundg k1
    case measure=>have:=HK1.out;omega
    case rel=>exact⟨(wrap64 (x9_1+1)),zs,H',⟨zl1 HK1⟩,⟨by(with_reducible repeat(first|apply zRa|apply zRn|apply zRd));first|exact Kd.R_mono HO_7.out (fun _ hk=>trivial)|(subst_vars;exact Kd.R_mono HO_7.out (fun _ hk=>trivial))⟩,⟨zb⟩⟩
   subst c15
   rw[if_pos rfl] at H
   replace H:=zP H
   obtain⟨⟨t438,t439⟩,A16,H⟩:=H
   dsimp only at H
   by_cases c17:t439=true
   case neg=>
    replace c17:=Bool.eq_false_iff.mpr c17
    subst c17
    rw[if_neg zFT] at H
    have H':=zM H
    clear H
    obtain⟨Ao28,co28,eo28⟩:=Kd.R_slice HO_7.out
    subst eo28
    go_wp2_with (first|(go_at_call 115;(with_reducible refine(spec_l14Places.calls k1 _ _ t421 x9_1 (l0.length:Int) t434 true _ ?side1 ?side2 A14.out).mono ?_);(case side1=>exact zc (Kd.R_reads' HO_7.out).2.2);(case side2=>exact(Kd.R_reads' HO_7.out).2.1);rintro e w29 ⟨v436,rfl,ho0,hb⟩;refine zS3 (Kd.R_elder' (zr HO_7) (Kd.R_base ho0) hb) (Kd.R_lower (Kd.R_new' ho0 (Kd.R_lt (zr HO_7))) (below_size zb)) (below_step zb hb) ?_;clear HO_7 HB;intro HO_7 HO437 HB;(try clear hb);(try clear hb2);(try clear hk);(try clear hi);(try clear ho0);obtain⟨Ao30,co30,eo30⟩:=Kd.R_slice HO437.out;subst eo30)|(go_at_call 116;(with_reducible refine(spec_l14Put.calls k1 _ _ l0 _ _ t421 _ _ t434 a1 t438 false _ ?side1 ?side2 ?side3 ?side4 ?side5 ?side6 A16.out).mono ?_);(case side1=>exact zc (Kd.C_below HR0.out HB.out));(case side2=>exact HC0.out);(case side3=>exact zc (Kd.R_reads' HO_7.out).2.2);(case side4=>exact(Kd.R_reads' HO_7.out).2.1);(case side5=>exact zc (Kd.R_reads' HO437.out).2.2);(case side6=>exact(Kd.R_reads' HO437.out).2.1);rintro e w31 ⟨v440,rfl,ho0,hb⟩;refine zS4 (Kd.R_below (zr HO_7) hb) (Kd.R_below (zr HO437) hb) (Kd.R_lower ho0 (below_size zb)) (below_step zb hb) ?_;clear HO_7 HO437 HB;intro HO_7 HO437 HO441 HB;(try clear hb);(try clear hb2);(try clear hk);(try clear hi);(try clear ho0)))
    repeat(go_quiet (first|(go_at_call 115;(with_reducible refine(spec_l14Places.calls k1 _ _ t421 x9_1 (l0.length:Int) t434 true _ ?side1 ?side2 A14.out).mono ?_);(case side1=>exact zc (Kd.R_reads' HO_7.out).2.2);(case side2=>exact(Kd.R_reads' HO_7.out).2.1);rintro e w29 ⟨v436,rfl,ho0,hb⟩;refine zS3 (Kd.R_elder' (zr HO_7) (Kd.R_base ho0) hb) (Kd.R_lower (Kd.R_new' ho0 (Kd.R_lt (zr HO_7))) (below_size zb)) (below_step zb hb) ?_;clear HO_7 HB;intro HO_7 HO437 HB;(try clear hb);(try clear hb2);(try clear hk);(try clear hi);(try clear ho0);obtain⟨Ao30,co30,eo30⟩:=Kd.R_slice HO437.out;subst eo30)|(go_at_call 116;(with_reducible refine(spec_l14Put.calls k1 _ _ l0 _ _ t421 _ _ t434 a1 t438 false _ ?side1 ?side2 ?side3 ?side4 ?side5 ?side6 A16.out).mono ?_);(case side1=>exact zc (Kd.C_below HR0.out HB.out));(case side2=>exact HC0.out);(case side3=>exact zc (Kd.R_reads' HO_7.out).2.2);(case side4=>exact(Kd.R_reads' HO_7.out).2.1);(case side5=>exact zc (Kd.R_reads' HO437.out).2.2);(case side6=>exact(Kd.R_reads' HO437.out).2.1);rintro e w31 ⟨v440,rfl,ho0,hb⟩;refine zS4 (Kd.R_below (zr HO_7) hb) (Kd.R_below (zr HO437) hb) (Kd.R_lower ho0 (below_size zb)) (below_step zb hb) ?_;clear HO_7 HO437 HB;intro HO_7 HO437 HO441 HB;(try clear hb);(try clear hb2);(try clear hk);(try clear hi);(try clear ho0)));try go_wp2_with (first|(go_at_call 115;(with_reducible refine(spec_l14Places.calls k1 _ _ t421 x9_1 (l0.length:Int) t434 true _ ?side1 ?side2 A14.out).mono ?_);(case side1=>exact zc (Kd.R_reads' HO_7.out).2.2);(case side2=>exact(Kd.R_reads' HO_7.out).2.1);rintro e w29 ⟨v436,rfl,ho0,hb⟩;refine zS3 (Kd.R_elder' (zr HO_7) (Kd.R_base ho0) hb) (Kd.R_lower (Kd.R_new' ho0 (Kd.R_lt (zr HO_7))) (below_size zb)) (below_step zb hb) ?_;clear HO_7 HB;intro HO_7 HO437 HB;(try clear hb);(try clear hb2);(try clear hk);(try clear hi);(try clear ho0);obtain⟨Ao30,co30,eo30⟩:=Kd.R_slice HO437.out;subst eo30)|(go_at_call 116;(with_reducible refine(spec_l14Put.calls k1 _ _ l0 _ _ t421 _ _ t434 a1 t438 false _ ?side1 ?side2 ?side3 ?side4 ?side5 ?side6 A16.out).mono ?_);(case side1=>exact zc (Kd.C_below HR0.out HB.out));(case side2=>exact HC0.out);(case side3=>exact zc (Kd.R_reads' HO_7.out).2.2);(case side4=>exact(Kd.R_reads' HO_7.out).2.1);(case side5=>exact zc (Kd.R_reads' HO437.out).2.2);(case side6=>exact(Kd.R_reads' HO437.out).2.1);rintro e w31 ⟨v440,rfl,ho0,hb⟩;refine zS4 (Kd.R_below (zr HO_7) hb) (Kd.R_below (zr HO437) hb) (Kd.R_lower ho0 (below_size zb)) (below_step zb hb) ?_;clear HO_7 HO437 HB;intro HO_7 HO437 HO441 HB;(try clear hb);(try clear hb2);(try clear hk);(try clear hi);(try clear ho0))))
    go_roundg k1
    case measure=>have:=HK1.out;omega
    case rel=>exact⟨(wrap64 (x9_1+1)),zs,H',⟨zl1 HK1⟩,⟨by(with_reducible repeat(first|apply zRa|apply zRn|apply zRd));first|exact Kd.R_mono HO_7.out (fun _ hk=>trivial)|(subst_vars;exact Kd.R_mono HO_7.out (fun _ hk=>trivial))⟩,⟨zb⟩⟩
   subst c17
   rw[if_pos rfl] at H
   have H':=zM H
   clear H
   obtain⟨Ao18,co18,eo18⟩:=Kd.R_slice HO_7.out
   subst eo18
   go_wp2_with (first|(go_at_call 115;(with_reducible refine(spec_l14Places.calls k1 _ _ t421 x9_1 (l0.length:Int) t434 true _ ?side1 ?side2 A14.out).mono ?_);(case side1=>exact zc (Kd.R_reads' HO_7.out).2.2);(case side2=>exact(Kd.R_reads' HO_7.out).2.1);rintro e w19 ⟨v436,rfl,ho0,hb⟩;refine zS3 (Kd.R_elder' (zr HO_7) (Kd.R_base ho0) hb) (Kd.R_lower (Kd.R_new' ho0 (Kd.R_lt (zr HO_7))) (below_size zb)) (below_step zb hb) ?_;clear HO_7 HB;intro HO_7 HO437 HB;(try clear hb);(try clear hb2);(try clear hk);(try clear hi);(try clear ho0);obtain⟨Ao20,co20,eo20⟩:=Kd.R_slice HO437.out;subst eo20)|(go_at_call 116;(with_reducible refine(spec_l14Put.calls k1 _ _ l0 _ _ t421 _ _ t434 a1 t438 true _ ?side1 ?side2 ?side3 ?side4 ?side5 ?side6 A16.out).mono ?_);(case side1=>exact zc (Kd.C_below HR0.out HB.out));(case side2=>exact HC0.out);(case side3=>exact zc (Kd.R_reads' HO_7.out).2.2);(case side4=>exact(Kd.R_reads' HO_7.out).2.1);(case side5=>exact zc (Kd.R_reads' HO437.out).2.2);(case side6=>exact(Kd.R_reads' HO437.out).2.1);rintro e w21 ⟨v440,rfl,ho0,hb⟩;refine zS4 (Kd.R_below (zr HO_7) hb) (Kd.R_below (zr HO437) hb) (Kd.R_lower ho0 (below_size zb)) (below_step zb hb) ?_;clear HO_7 HO437 HB;intro HO_7 HO437 HO441 HB;(try clear hb);(try clear hb2);(try clear hk);(try clear hi);(try clear ho0)))
   repeat(go_quiet (first|(go_at_call 115;(with_reducible refine(spec_l14Places.calls k1 _ _ t421 x9_1 (l0.length:Int) t434 true _ ?side1 ?side2 A14.out).mono ?_);(case side1=>exact zc (Kd.R_reads' HO_7.out).2.2);(case side2=>exact(Kd.R_reads' HO_7.out).2.1);rintro e w19 ⟨v436,rfl,ho0,hb⟩;refine zS3 (Kd.R_elder' (zr HO_7) (Kd.R_base ho0) hb) (Kd.R_lower (Kd.R_new' ho0 (Kd.R_lt (zr HO_7))) (below_size zb)) (below_step zb hb) ?_;clear HO_7 HB;intro HO_7 HO437 HB;(try clear hb);(try clear hb2);(try clear hk);(try clear hi);(try clear ho0);obtain⟨Ao20,co20,eo20⟩:=Kd.R_slice HO437.out;subst eo20)|(go_at_call 116;(with_reducible refine(spec_l14Put.calls k1 _ _ l0 _ _ t421 _ _ t434 a1 t438 true _ ?side1 ?side2 ?side3 ?side4 ?side5 ?side6 A16.out).mono ?_);(case side1=>exact zc (Kd.C_below HR0.out HB.out));(case side2=>exact HC0.out);(case side3=>exact zc (Kd.R_reads' HO_7.out).2.2);(case side4=>exact(Kd.R_reads' HO_7.out).2.1);(case side5=>exact zc (Kd.R_reads' HO437.out).2.2);(case side6=>exact(Kd.R_reads' HO437.out).2.1);rintro e w21 ⟨v440,rfl,ho0,hb⟩;refine zS4 (Kd.R_below (zr HO_7) hb) (Kd.R_below (zr HO437) hb) (Kd.R_lower ho0 (below_size zb)) (below_step zb hb) ?_;clear HO_7 HO437 HB;intro HO_7 HO437 HO441 HB;(try clear hb);(try clear hb2);(try clear hk);(try clear hi);(try clear ho0)));try go_wp2_with (first|(go_at_call 115;(with_reducible refine(spec_l14Places.calls k1 _ _ t421 x9_1 (l0.length:Int) t434 true _ ?side1 ?side2 A14.out).mono ?_);(case side1=>exact zc (Kd.R_reads' HO_7.out).2.2);(case side2=>exact(Kd.R_reads' HO_7.out).2.1);rintro e w19 ⟨v436,rfl,ho0,hb⟩;refine zS3 (Kd.R_elder' (zr HO_7) (Kd.R_base ho0) hb) (Kd.R_lower (Kd.R_new' ho0 (Kd.R_lt (zr HO_7))) (below_size zb)) (below_step zb hb) ?_;clear HO_7 HB;intro HO_7 HO437 HB;(try clear hb);(try clear hb2);(try clear hk);(try clear hi);(try clear ho0);obtain⟨Ao20,co20,eo20⟩:=Kd.R_slice HO437.out;subst eo20)|(go_at_call 116;(with_reducible refine(spec_l14Put.calls k1 _ _ l0 _ _ t421 _ _ t434 a1 t438 true _ ?side1 ?side2 ?side3 ?side4 ?side5 ?side6 A16.out).mono ?_);(case side1=>exact zc (Kd.C_below HR0.out HB.out));(case side2=>exact HC0.out);(case side3=>exact zc (Kd.R_reads' HO_7.out).2.2);(case side4=>exact(Kd.R_reads' HO_7.out).2.1);(case side5=>exact zc (Kd.R_reads' HO437.out).2.2);(case side6=>exact(Kd.R_reads' HO437.out).2.1);rintro e w21 ⟨v440,rfl,ho0,hb⟩;refine zS4 (Kd.R_below (zr HO_7) hb) (Kd.R_below (zr HO437) hb) (Kd.R_lower ho0 (below_size zb)) (below_step zb hb) ?_;clear HO_7 HO437 HB;intro HO_7 HO437 HO441 HB;(try clear hb);(try clear hb2);(try clear hk);(try clear hi);(try clear ho0))))
   (try simp only[Act.put,zL1,zL2,zL3])
   go_loopg [14,15] k1 (fun kq v14 v15 w'=>∃(x14_2:Int) (x15_2:Int),v14= .int .i64 x14_2∧v15= .int .i64 x15_2∧Aside0 (spec_RsMend.l1 kq l0 t438 x14_2 x15_2=some (r1,r2,r3))∧Aside0 (kq≤k1)∧Aside0 (Kd.R (Kd.int .u8) 5 w' w.heap.size (fun _=>True) v440 t438)∧Aside0 (Below w.heap.size w w'))
   case atStart=>exact⟨(0),(0),zs,zs,H',⟨Nat.le_refl _⟩,⟨zr HO441⟩,⟨zb⟩⟩
   case round=>
    clear H'
    try clear c1
    try clear p2
    try clear c4
    try clear c6
    try clear p6
    try clear c7
    try clear c13
    try clear c13b0
    try clear c15
    try clear c17
    try clear p2
    obtain⟨x14_2,x15_2,rfl,rfl,HA,HK2,HO_12,HB⟩:=hrel
    cases gk with
    |zero=>exact absurd HA.out (by simp[spec_RsMend.l1])
    | succ k2=>
     have H:=HA.out
     clear HA
     simp only[spec_RsMend.l1] at H
     replace H:=zI2 H
     rcases H with⟨c22,H⟩|⟨c22,H⟩
     case inr=>
      have c22b0:=decide_eq_false c22
      clear c22
      simp only[Option.some.injEq,Prod.mk.injEq] at H
      obtain⟨rfl,rfl,rfl⟩:=H
      go_wp2
      repeat(go_quiet (fail);try go_wp2)
      go_ret3
      exact⟨_,zq,zr HO_12,zb⟩
     have c22b0:=zE c22
     clear c22
     replace H:=zID H
     obtain⟨c23b0,H⟩:=H
     replace H:=zID H
     obtain⟨c24b0,H⟩:=H
     replace H:=zI2 H
     rcases H with⟨c25,H⟩|⟨c25,H⟩
     case inl=>
      have c25b0:((rd t438 x15_2)==(rd l0 x15_2))=true:=beq_iff_eq.mpr c25
      have c25b1:((rd t438 x15_2) != (rd l0 x15_2))=false:=bne_eq_false_iff_eq.mpr c25
      clear c25
      have H':=zM H
      clear H
      obtain⟨Ao26,co26,eo26⟩:=Kd.R_slice HO_12.out
      subst eo26
      have p442:0≤(x15_2:Int):=zT (by assumption)
      have q442:x15_2<(t438.length:Int):=zT (by assumption)
      obtain⟨ad442,e442,hx442_0⟩:=Kd.at_int (Kd.R_reads' HO_12.out).2.2 x15_2 p442 q442
      cases e442
      replace p442:=eq_true p442
      replace q442:=eq_true q442
      have p443:0≤(x15_2:Int):=zT (by assumption)
      have q443:x15_2<(l0.length:Int):=zT (by assumption)
      obtain⟨ad443,e443,hx443_0⟩:=Kd.at_int HR0.out x15_2 p443 q443
      cases e443
      replace hx443_0:=(HB.out.cell (zW w _ hx443_0)).trans hx443_0
      replace p443:=eq_true p443
      replace q443:=eq_true q443
      go_wp2
      repeat(go_quiet (fail);try go_wp2)
      go_roundg k2
      case measure=>have:=HK1.out;have:=HK2.out;omega
      case rel=>exact⟨(x14_2),(wrap64 (x15_2+1)),zs,zs,H',⟨zl2 HK1 HK2⟩,⟨zr HO_12⟩,⟨zb⟩⟩
     have c25b0:((rd t438 x15_2)==(rd l0 x15_2))=false:=beq_eq_false_iff_ne.mpr c25
     have c25b1:((rd t438 x15_2) != (rd l0 x15_2))=true:=bne_iff_ne.mpr c25
     have H':=zM H
     clear H
     obtain⟨Ao27,co27,eo27⟩:=Kd.R_slice HO_12.out
     subst eo27
     have p442:0≤(x15_2:Int):=zT (by assumption)
     have q442:x15_2<(t438.length:Int):=zT (by assumption)
     obtain⟨ad442,e442,hx442_0⟩:=Kd.at_int (Kd.R_reads' HO_12.out).2.2 x15_2 p442 q442
     cases e442
     replace p442:=eq_true p442
     replace q442:=eq_true q442
     have p443:0≤(x15_2:Int):=zT (by assumption)
     have q443:x15_2<(l0.length:Int):=zT (by assumption)
     obtain⟨ad443,e443,hx443_0⟩:=Kd.at_int HR0.out x15_2 p443 q443
     cases e443
     replace hx443_0:=(HB.out.cell (zW w _ hx443_0)).trans hx443_0
     replace p443:=eq_true p443
     replace q443:=eq_true q443
     go_wp2
     repeat(go_quiet (fail);try go_wp2)
     go_roundg k2
     case measure=>have:=HK1.out;have:=HK2.out;omega
     case rel=>exact⟨(wrap64 (x14_2+1)),(wrap64 (x15_2+1)),zs,zs,H',⟨zl2 HK1 HK2⟩,⟨zr HO_12⟩,⟨zb⟩⟩
end Go.Proofs.Ytapobpkeefeajaa.PFnExactHear
