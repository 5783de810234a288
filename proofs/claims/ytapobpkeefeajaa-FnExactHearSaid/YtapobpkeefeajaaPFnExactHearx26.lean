-- A turned copy of the print's text.
import Derived.Test.YtapobpkeefeajaaPFnExactHearx0
import Derived.Test.YtapobpkeefeajaaPFnExactHearx1
import Derived.Test.YtapobpkeefeajaaPFnExactHearx13
import Derived.Test.YtapobpkeefeajaaPFnExactHearx14
import Derived.Test.YtapobpkeefeajaaPFnExactHearx24
import Derived.Test.YtapobpkeefeajaaPFnExactHearx25
namespace Go.Proofs.Ytapobpkeefeajaa.PFnExactHear
open Go.RowKit Go.Proofs.YtapobpkeefeajaaW.PrintWords Go.Proofs.YtapobpkeefeajaaW.PrintLast Go.Proofs.YtapobpkeefeajaaW.PrintMore
attribute [local go_sem] max2_int min2_int max_two min_two max_three min_three max_four min_four
set_option maxHeartbeats 8000000
set_option maxRecDepth 100000
set_option linter.unusedVariables false
set_option linter.unusedSimpArgs false
theorem laws_markByteS.callsC (k:Nat) (P0_:Nat→Prop) (A9:Option Addr) (n9 c9 d9:Nat) (l0:List Int) (a1:Int) (r1:Int) (r2:List Int) (w0 w:World) (hB:Below w0.heap.size w0 w) (ho0:Kd.R (Kd.int .u8) 5 w w0.heap.size P0_ (.slice A9 n9 d9) l0) (h:laws_markByteS.f k l0 a1=some (r1,r2)):
 Calls Try.prog 13 #[.slice A9 n9 c9, .int .i64 a1] w fun e w'=>e= .returned (.int .i64 r1)∧Kd.R (Kd.int .u8) 5 w' w0.heap.size (fun k_=>(P0_ k_∨w.heap.size≤k_)) (.slice A9 n9 d9) r2∧Below w0.heap.size w0 w'∧Kept w w' (fun k_=>P0_ k_):=by
 have HO0:=zM (show Kd.R (Kd.int .u8) 5 w w0.heap.size (fun k_=>(P0_ k_∨w.heap.size≤k_)) (.slice A9 n9 d9) l0 from Kd.R_mono ho0 (fun k_ hk=>(.inl hk)))
 have HK:=zM (Kept.refl w (fun k_=>P0_ k_))
 have HW0:=zM hB.size
 have HB:=zM hB
 clear hB
 have H:(laws_markByteS.l0 k l0 a1 0)=some (r1,r2):=h
 clear h
 have H':=zM H
 clear H
 go_enter Try.func13,Try.ntmps13
 go_wp2
 (try simp only[Act.put,zL1,zL2,zL3])
 go_loopg [1,5] k (fun kq v1 v5 w'=>∃(x0_1:List Int) (x1_1:Int) (x5_1:Int),v1= .int .i64 x1_1∧v5= .int .i64 x5_1∧Aside0 (laws_markByteS.l0 kq x0_1 x1_1 x5_1=some (r1,r2))∧Aside0 (kq≤k)∧Aside0 (Kd.R (Kd.int .u8) 5 w' w0.heap.size (fun k_=>(P0_ k_∨w.heap.size≤k_)) (.slice A9 n9 d9) x0_1)∧Aside0 (Kept w w' (fun k_=>P0_ k_))∧Aside0 (Below w0.heap.size w0 w'))
 case atStart=>exact⟨(l0),(a1),(0),zs,zs,H',⟨Nat.le_refl _⟩,⟨zr HO0⟩,⟨by repeat(first|(with_reducible first|exact HK.out|apply Kept.alloc|apply Kept.drewN|apply Kept.drew)|exact HK.out)⟩,⟨zb⟩⟩
 case round=>
  clear H'
  try clear c1
  try clear p2
  obtain⟨x0_1,x1_1,x5_1,rfl,rfl,HA,HK1,HO_0,HK,HB⟩:=hrel
  cases gk with
  |zero=>exact absurd HA.out (by simp[laws_markByteS.l0])
  | succ k1=>
   have H:=HA.out
   clear HA
   simp only[laws_markByteS.l0] at H
   replace H:=zI2 H
   rcases H with⟨c3,H⟩|⟨c3,H⟩
   case inr=>
    have c3b0:=decide_eq_false c3
    clear c3
    simp only[Option.some.injEq,Prod.mk.injEq] at H
    obtain⟨rfl,rfl⟩:=H
    have hn9:n9=x0_1.length:=(Kd.R_reads' HO_0.out).1
    have c3b0n:decide (x5_1<(n9:Int))=false:=by rw[hn9];exact c3b0
    go_wp2
    go_ret
    exact⟨zq,zr HO_0,zb,by repeat(first|(with_reducible first|exact HK.out|apply Kept.alloc|apply Kept.drewN|apply Kept.drew)|exact HK.out)⟩
   have c3b0:=zE c3
   clear c3
   replace H:=zID H
   obtain⟨c4b0,H⟩:=H
   obtain⟨y111,hy111⟩:∃y_:List Int,y_=(x0_1.set (x5_1:Int).toNat ((x1_1)%256)):=⟨_,rfl⟩
   rw[←hy111] at H
   have Ny111:=zM hy111
   clear hy111
   have H':=zM H
   clear H
   have hn9:n9=x0_1.length:=(Kd.R_reads' HO_0.out).1
   have c3b0n:decide (x5_1<(n9:Int))=true:=by rw[hn9];exact c3b0
   have p5:0≤(x5_1:Int):=zT (by assumption)
   have q5:(x5_1:Int)<((x0_1.length:Int):Int):=zT (by assumption)
   obtain⟨go5,co5,eo5,gb5,gl5,cl5,HG5⟩:=Kd.R_form HO_0.out (by omega)
   injection eo5 with ea_ en_ ec_
   subst ea_
   clear en_ ec_
   have GB5:=zM gb5
   have GG5:=zM HG5
   clear gb5 gl5 HG5
   have HMgo5:=zM (show(P0_ go5∨w.heap.size≤go5) from(HO_0.out.1 _ rfl))
   have q5n:(x5_1:Int)<(n9:Int):=by rw[hn9];exact q5
   obtain⟨hx5_0,hf5_0⟩:=Kd.R_celln 0 HO_0.out (x5_1:Int) p5 q5n
   replace p5:=eq_true p5
   replace q5:=eq_true q5
   have q5m:=eq_true q5n
   have HP7:=Kd.R_putg HO_0.out (x5_1:Int) ((x1_1)%256)
   go_wp2_with (first|((with_reducible refine gate_store (t:=5) (p:=16) rfl ?_);refine store_event (t:=5) (p:=16) (v:= ?vo_w8) (w1:=(wr.setCell ⟨go5,(x5_1:Int).toNat,none⟩ (.int .u8 ((x1_1)%256)))) ?hg ?ho ?hn ?hr ?_;(case ho=>rfl);(case hg=>rfl);(case hn=>rfl);(case hr=>exact zh);intro w8 hw;have hg:wr.grownBy w8 (some go5):=(by rw[hw];exact HP7.2);have hp_:Kd.R (Kd.int .u8) 5 w8 w0.heap.size (fun k_=>(P0_ k_∨w.heap.size≤k_)) (.slice (some ⟨go5,0,none⟩) n9 d9) y111:=(by rw[hw,Ny111.out];exact HP7.1);clear HP7;refine zS3 (hp_) ((by rw[hw];exact zBs (HB.out) GB5.out:Below w0.heap.size w0 w8)) (Kept.of_grown (S:=(fun k_=>P0_ k_)) hg (by repeat(first|(with_reducible first|exact HK.out|apply Kept.alloc|apply Kept.drewN|apply Kept.drew)|exact HK.out)) (fun k_ e_=>(HO_0.out.1 k_ e_))) ?_;clear HO_0 HB HK;intro HO_0 HB HK;clear hg hw hp_))
   go_roundg k1
   case measure=>have:=HK1.out;omega
   case rel=>exact⟨(y111),(wrap64 (x1_1+1)),(wrap64 (x5_1+1)),zs,zs,H',⟨zl1 HK1⟩,⟨zr HO_0⟩,⟨by repeat(first|(with_reducible first|exact HK.out|apply Kept.alloc|apply Kept.drewN|apply Kept.drew)|exact HK.out)⟩,⟨zb⟩⟩
mutual
def laws_FnExactHear.j0:Nat→List (S87)→Int→List Int→Int→Bool→List (S52)→List Int→Int→Bool→Bool→Int→Int→Int→Int→Int→Int→Option (Bool)
 |0,_,_,_,_,_,_,_,_,_,_,_,_,_,_,_,_=>none
 |k+1,x1,x2,x8,x9,x10,x11,x12,x13,x14,x60,x514000,x514001,x514002,x514003,x514004,x514005=>if x60=true then(some false) else((laws_toPointS.f k x1).bind fun t544=>((laws_eqPointS.f k x11 t544).bind fun t547=>(if t547=true then((laws_markPointS.f k x11 1).bind fun bt548=>(if bt548.1<0 then(laws_FnExactHear.j1 k x1 x2 x8 x9 x10 x12 true x514000 x514001 x514002 x514003 x514004 x514005) else((laws_eqByteS.f k x12 x8).bind fun t550=>(if t550=true then(if x13=x9 then(laws_FnExactHear.j1 k x1 x2 x8 x9 x10 x12 (x14 != x10) x514000 x514001 x514002 x514003 x514004 x514005) else(laws_FnExactHear.j1 k x1 x2 x8 x9 x10 x12 true x514000 x514001 x514002 x514003 x514004 x514005)) else(laws_FnExactHear.j1 k x1 x2 x8 x9 x10 x12 true x514000 x514001 x514002 x514003 x514004 x514005))))) else(some false))))
def laws_FnExactHear.j1:Nat→List (S87)→Int→List Int→Int→Bool→List Int→Bool→Int→Int→Int→Int→Int→Int→Option (Bool)
 |0,_,_,_,_,_,_,_,_,_,_,_,_,_=>none
 |k+1,x1,x2,x8,x9,x10,x12,x86,x514000,x514001,x514002,x514003,x514004,x514005=>if x86=true then(some false) else((laws_markByteS.f k x12 1).bind fun bt551=>((laws_heldByteS.f k bt551.2 1).bind fun t553=>(if t553<0 then(some false) else(if t553=bt551.1 then((laws_toModem.f x514000 x514001 x514002 x514003 x514004 x514005).bind fun bt554=>((laws_toPointS.f k x1).bind fun t560=>((impl_Hear.f k bt554.1 bt554.2.1 bt554.2.2.1 bt554.2.2.2.1 bt554.2.2.2.2.1 bt554.2.2.2.2.2 t560 x2).bind fun bt563=>((laws_eqByteS.f k bt563.1 x8).bind fun t568=>(if t568=true then(if bt563.2.1=x9 then(laws_FnExactHear.j2 k bt551.2 bt551.1 (bt563.2.2 != x10)) else(laws_FnExactHear.j2 k bt551.2 bt551.1 true)) else(laws_FnExactHear.j2 k bt551.2 bt551.1 true)))))) else(some false)))))
def laws_FnExactHear.j2:Nat→List Int→Int→Bool→Option (Bool)
 |0,_,_,_=>none
 |k+1,x12,x16,x121=>if x121=true then(some false) else((laws_heldByteS.f k x12 1).bind fun t569=>(if t569<0 then(some false) else(if t569=x16 then(some true) else(some false))))
end
def laws_FnExactHear.f (k:Nat) (a0_0:Int) (a0_1:Int) (a0_2:Int) (a0_3:Int) (a0_4:Int) (a0_5:Int) (l1:List (S87)) (a2:Int):Option (Bool):=(laws_szPointS.f l1 1048576).bind fun t514=>(if t514<0 then(some true) else((laws_toModem.f a0_0 a0_1 a0_2 a0_3 a0_4 a0_5).bind fun bt515=>((laws_toPointS.f k l1).bind fun t521=>((spec_Hear.f k bt515.1 bt515.2.1 bt515.2.2.1 bt515.2.2.2.1 bt515.2.2.2.2.1 bt515.2.2.2.2.2 t521 a2).bind fun bt524=>((laws_toPointS.f k l1).bind fun t529=>((laws_toModem.f a0_0 a0_1 a0_2 a0_3 a0_4 a0_5).bind fun bt532=>((impl_Hear.f k bt532.1 bt532.2.1 bt532.2.2.1 bt532.2.2.2.1 bt532.2.2.2.2.1 bt532.2.2.2.2.2 t529 a2).bind fun bt538=>((laws_eqByteS.f k bt538.1 bt524.1).bind fun t543=>(if t543=true then(if bt538.2.1=bt524.2.1 then(laws_FnExactHear.j0 k l1 a2 bt524.1 bt524.2.1 bt524.2.2 t529 bt538.1 bt538.2.1 bt538.2.2 (bt538.2.2 != bt524.2.2) a0_0 a0_1 a0_2 a0_3 a0_4 a0_5) else(laws_FnExactHear.j0 k l1 a2 bt524.1 bt524.2.1 bt524.2.2 t529 bt538.1 bt538.2.1 bt538.2.2 true a0_0 a0_1 a0_2 a0_3 a0_4 a0_5)) else(laws_FnExactHear.j0 k l1 a2 bt524.1 bt524.2.1 bt524.2.2 t529 bt538.1 bt538.2.1 bt538.2.2 true a0_0 a0_1 a0_2 a0_3 a0_4 a0_5))))))))))
theorem laws_FnExactHear.calls (k:Nat) (a0_0:Int) (a0_1:Int) (a0_2:Int) (a0_3:Int) (a0_4:Int) (a0_5:Int) (A1:Option Addr) (c1:Nat) (l1:List (S87)) (a2:Int) (r:Bool) (w:World) (hr1:Kd.C k87 w A1 l1.length l1) (hc1:l1.length≤c1) (hr_:r=true) (H:laws_FnExactHear.f k a0_0 a0_1 a0_2 a0_3 a0_4 a0_5 l1 a2=some r):
 Calls Try.prog 5 #[.agg #[.int .i64 a0_0, .int .i64 a0_1, .int .i64 a0_2, .int .i64 a0_3, .int .i64 a0_4, .int .i64 a0_5], .slice A1 l1.length c1, .int .i64 a2] w fun e w'=>e= .returned (.bool r)∧Below w.heap.size w w':=by
 have hu23:=Try.underlying23
 have HR1:=zM hr1
 have HC1:=zM hc1
 clear hr1 hc1
 have HB:=zM (Below.refl w.heap.size w)
 unfold laws_FnExactHear.f at H
 replace H:=zP H
 obtain⟨t514,A4,H⟩:=H
 replace H:=zI2 H
 rcases H with⟨c5,H⟩|⟨c5,H⟩
 case inl=>
  have c5b0:=zE c5
  clear c5
  obtain rfl:=zI H
  go_enter Try.func5,Try.ntmps5
  go_wp2_with (first|((with_reducible refine gate_dst (N:=3) rfl ?_);refine box_event ?hg (N:=3) ?hd (cs:= #[.int .i64 a0_0, .int .i64 a0_1, .int .i64 a0_2, .int .i64 a0_3, .int .i64 a0_4, .int .i64 a0_5]) (t:=23) ?hr ?_;(case hd|hg=>rfl);(case hr=>exact zh);intro gb513 hg w6 hbox hb;have n0_:=zM (below_step zb hb);have n1_:=zM (hbox);have n2_:=zM ((zw hg (below_size zb)));have n3_:=zM n2_.out;clear HB;have HB:=n0_;have BK513:=n1_;have GW513:=n2_;have GE513:=n3_;clear n0_ n1_ n2_ n3_;clear hb hbox hg)|((with_reducible refine gate_callee (f:=22) rfl ?_);refine goesL_ (some 23) rfl rfl Try.func22 ze rfl #[.slice A1 l1.length c1, .int .i64 1048576] rfl zg ?_;(with_reducible refine(laws_szPointS.calls _ _ l1 1048576 t514 _ ?side1 ?side2 A4.out).mono ?_);(case side1=>exact zc (Kd.C_below HR1.out HB.out));(case side2=>exact HC1.out);rintro e w' ⟨rfl,⟨nd,rfl⟩⟩;refine⟨_,rfl,?_⟩))
  go_ret
  exact⟨zq,zb25⟩
 have c5b0:=decide_eq_false c5
 clear c5
 replace H:=zP H
 obtain⟨⟨t515,t516,t517,t518,t519,t520⟩,A7,H⟩:=H
 dsimp only at H
 replace H:=zP H
 obtain⟨t521,A8,H⟩:=H
 replace H:=zP H
 obtain⟨⟨t524,t527,t528⟩,A9,H⟩:=H
 dsimp only at H
 replace H:=zP H
 obtain⟨t529,A10,H⟩:=H
 replace H:=zP H
 obtain⟨⟨t532,t533,t534,t535,t536,t537⟩,A11,H⟩:=H
 dsimp only at H
 replace H:=zP H
 obtain⟨⟨t538,t541,t542⟩,A12,H⟩:=H
 dsimp only at H
 have HC13:=zM H
 clear H
 go_enter Try.func5,Try.ntmps5
 go_upto_region 8 with(first|((with_reducible refine gate_dst (N:=3) rfl ?_);refine box_event ?hg (N:=3) ?hd (cs:= #[.int .i64 a0_0, .int .i64 a0_1, .int .i64 a0_2, .int .i64 a0_3, .int .i64 a0_4, .int .i64 a0_5]) (t:=23) ?hr ?_;(case hd|hg=>rfl);(case hr=>exact zh);intro gb513 hg w14 hbox hb;have n0_:=zM (below_step zb hb);have n1_:=zM (hbox);have n2_:=zM ((zw hg (below_size zb)));have n3_:=zM n2_.out;clear HB;have HB:=n0_;have BK513:=n1_;have GW513:=n2_;have GE513:=n3_;clear n0_ n1_ n2_ n3_;clear hb hbox hg)|((with_reducible refine gate_callee (f:=22) rfl ?_);refine goesL_ (some 23) rfl rfl Try.func22 ze rfl #[.slice A1 l1.length c1, .int .i64 1048576] rfl zg ?_;(with_reducible refine(laws_szPointS.calls _ _ l1 1048576 t514 _ ?side1 ?side2 A4.out).mono ?_);(case side1=>exact zc (Kd.C_below HR1.out HB.out));(case side2=>exact HC1.out);rintro e w' ⟨rfl,⟨nd,rfl⟩⟩;refine⟨_,rfl,?_⟩;obtain⟨hcz15_0,hcz15_1,hcz15_2,hcz15_3,hcz15_4,hcz15_5,hfz15_0,hfz15_1,hfz15_2,hfz15_3,hfz15_4,hfz15_5⟩:=zc6 BK513.out)|((with_reducible refine gate_callee (f:=8) rfl ?_);refine goesL_ (some 28) rfl rfl Try.func8 ze rfl #[.agg #[.int .i64 a0_0, .int .i64 a0_1, .int .i64 a0_2, .int .i64 a0_3, .int .i64 a0_4, .int .i64 a0_5]] rfl zg ?_;(with_reducible refine(laws_toModem.calls a0_0 a0_1 a0_2 a0_3 a0_4 a0_5 t515 t516 t517 t518 t519 t520 _ A7.out).mono ?_);rintro e w16 ⟨rfl,hb⟩;refine⟨_,rfl,?_⟩;refine zS2 (zNb (g:=gb513) (o:= .cells #[.int .i64 a0_0, .int .i64 a0_1, .int .i64 a0_2, .int .i64 a0_3, .int .i64 a0_4, .int .i64 a0_5] 23 (0,0)) (zn BK513) hb) (below_step zb25 hb) ?_;clear BK513 HB;intro BK513 HB;(try clear hb);(try clear hb2);(try clear hk);(try clear hi))|((with_reducible refine gate_callee (f:=24) rfl ?_);refine goesL_ (some 30) rfl rfl Try.func24 ze rfl #[.slice A1 l1.length c1] rfl zg ?_;(with_reducible refine(laws_toPointS.calls k _ _ l1 t521 _ ?side1 ?side2 A8.out).mono ?_);(case side1=>exact zc (Kd.C_below HR1.out HB.out));(case side2=>exact HC1.out);rintro e w17 ⟨v522,rfl,ho0,hb⟩;refine⟨_,rfl,?_⟩;refine zS3 (Kd.R_lower ho0 (below_size zb25)) (zNb (g:=gb513) (o:= .cells #[.int .i64 a0_0, .int .i64 a0_1, .int .i64 a0_2, .int .i64 a0_3, .int .i64 a0_4, .int .i64 a0_5] 23 (0,0)) (zn BK513) hb) (below_step zb25 hb) ?_;clear BK513 HB;intro HO523 BK513 HB;(try clear hb);(try clear hb2);(try clear hk);(try clear hi);(try clear ho0);obtain⟨Ao18,co18,eo18⟩:=Kd.R_slice HO523.out;subst eo18)|((with_reducible refine gate_callee (f:=23) rfl ?_);refine goesL_ (some 32) rfl rfl Try.func23 ze rfl #[.agg #[.int .i64 t515, .int .i64 t516, .int .i64 t517, .int .i64 t518, .int .i64 t519, .int .i64 t520], .slice Ao18 t521.length co18, .int .i64 a2] rfl zg ?_;(with_reducible refine(spec_Hear.calls k t515 t516 t517 t518 t519 t520 _ _ t521 a2 t524 t527 t528 _ ?side1 ?side2 A9.out).mono ?_);(case side1=>exact zc (Kd.R_reads' HO523.out).2.2);(case side2=>exact(Kd.R_reads' HO523.out).2.1);rintro e w19 ⟨v525,rfl,ho0,hb⟩;refine⟨_,rfl,?_⟩;refine zS4 (Kd.R_below (zr HO523) hb) (Kd.R_lower ho0 (below_size zb25)) (zNb (g:=gb513) (o:= .cells #[.int .i64 a0_0, .int .i64 a0_1, .int .i64 a0_2, .int .i64 a0_3, .int .i64 a0_4, .int .i64 a0_5] 23 (0,0)) (zn BK513) hb) (below_step zb25 hb) ?_;clear HO523 BK513 HB;intro HO523 HO526 BK513 HB;(try clear hb);(try clear hb2);(try clear hk);(try clear hi);(try clear ho0))|((with_reducible refine gate_callee (f:=24) rfl ?_);refine goesL_ (some 37) rfl rfl Try.func24 ze rfl #[.slice A1 l1.length c1] rfl zg ?_;(with_reducible refine(laws_toPointS.calls k _ _ l1 t529 _ ?side1 ?side2 A10.out).mono ?_);(case side1=>exact zc (Kd.C_below HR1.out HB.out));(case side2=>exact HC1.out);rintro e w20 ⟨v530,rfl,ho0,hb⟩;refine⟨_,rfl,?_⟩;refine zS5 (Kd.R_elder' (zr HO523) (Kd.R_base ho0) hb) (Kd.R_below (zr HO526) hb) (Kd.R_lower (Kd.R_new' ho0 (Kd.R_lt (zr HO523))) (below_size zb25)) (zNb (g:=gb513) (o:= .cells #[.int .i64 a0_0, .int .i64 a0_1, .int .i64 a0_2, .int .i64 a0_3, .int .i64 a0_4, .int .i64 a0_5] 23 (0,0)) (zn BK513) hb) (below_step zb25 hb) ?_;clear HO523 HO526 BK513 HB;intro HO523 HO526 HO531 BK513 HB;(try clear hb);(try clear hb2);(try clear hk);(try clear hi);(try clear ho0);obtain⟨hcz21_0,hcz21_1,hcz21_2,hcz21_3,hcz21_4,hcz21_5,hfz21_0,hfz21_1,hfz21_2,hfz21_3,hfz21_4,hfz21_5⟩:=zc6 BK513.out)|((with_reducible refine gate_callee (f:=8) rfl ?_);refine goesL_ (some 40) rfl rfl Try.func8 ze rfl #[.agg #[.int .i64 a0_0, .int .i64 a0_1, .int .i64 a0_2, .int .i64 a0_3, .int .i64 a0_4, .int .i64 a0_5]] rfl zg ?_;(with_reducible refine(laws_toModem.calls a0_0 a0_1 a0_2 a0_3 a0_4 a0_5 t532 t533 t534 t535 t536 t537 _ A11.out).mono ?_);rintro e w22 ⟨rfl,hb⟩;refine⟨_,rfl,?_⟩;refine zS5 (Kd.R_below (zr HO523) hb) (Kd.R_below (zr HO526) hb) (Kd.R_below (zr HO531) hb) (zNb (g:=gb513) (o:= .cells #[.int .i64 a0_0, .int .i64 a0_1, .int .i64 a0_2, .int .i64 a0_3, .int .i64 a0_4, .int .i64 a0_5] 23 (0,0)) (zn BK513) hb) (below_step zb25 hb) ?_;clear HO523 HO526 HO531 BK513 HB;intro HO523 HO526 HO531 BK513 HB;(try clear hb);(try clear hb2);(try clear hk);(try clear hi);obtain⟨Ao23,co23,eo23⟩:=Kd.R_slice HO531.out;subst eo23)|((with_reducible refine gate_callee (f:=20) rfl ?_);refine goesL_ (some 43) rfl rfl Try.func20 ze rfl #[.agg #[.int .i64 t532, .int .i64 t533, .int .i64 t534, .int .i64 t535, .int .i64 t536, .int .i64 t537], .slice Ao23 t529.length co23, .int .i64 a2] rfl zg ?_;(with_reducible refine(impl_Hear.calls k t532 t533 t534 t535 t536 t537 _ _ t529 a2 t538 t541 t542 _ ?side1 ?side2 A12.out).mono ?_);(case side1=>exact zc (Kd.R_reads' HO531.out).2.2);(case side2=>exact(Kd.R_reads' HO531.out).2.1);rintro e w24 ⟨A8,c8,d8,rfl,ho0,hc8,hb⟩;refine⟨_,rfl,?_⟩;refine zS6 (Kd.R_below (zr HO523) hb) (Kd.R_elder' (zr HO526) (Kd.R_base ho0) hb) (Kd.R_below (zr HO531) hb) (Kd.R_lower (Kd.R_new' ho0 (Kd.R_lt (zr HO526))) (below_size zb25)) (zNb (g:=gb513) (o:= .cells #[.int .i64 a0_0, .int .i64 a0_1, .int .i64 a0_2, .int .i64 a0_3, .int .i64 a0_4, .int .i64 a0_5] 23 (0,0)) (zn BK513) hb) (below_step zb25 hb) ?_;clear HO523 HO526 HO531 BK513 HB;intro HO523 HO526 HO531 HO540 BK513 HB;(try clear hb);(try clear hb2);(try clear hk);(try clear hi);(try clear ho0)))
 (try simp only[Act.put,zL1,zL2,zL3])
 go_cut [60] (fun v60 wc=>∃(kq:Nat) (x60_12:Bool),v60= .bool x60_12∧Aside0 (laws_FnExactHear.j0 kq l1 a2 t524 t527 t528 t529 t538 t541 t542 x60_12 a0_0 a0_1 a0_2 a0_3 a0_4 a0_5=some r)∧Aside0 (kq≤k)∧Aside0 (Kd.R (Kd.int .u8) 5 wc w.heap.size (fun k_=>some k_≠(.slice A8 t538.length d8:Value).ownBlock) v525 t524)∧Aside0 (Kd.R k52 52 wc w.heap.size (fun _=>True) (.slice Ao23 t529.length co23) t529)∧Aside0 (Kd.R (Kd.int .u8) 5 wc w.heap.size (fun k_=>some k_≠(v525:Value).ownBlock) (.slice A8 t538.length d8) t538)∧Aside0 (wc.heap[gb513]? =some (.cells #[.int .i64 a0_0, .int .i64 a0_1, .int .i64 a0_2, .int .i64 a0_3, .int .i64 a0_4, .int .i64 a0_5] 23 (0,0)))∧Aside0 (Below w.heap.size w wc))
 case first=>
  have H:=HC13.out
  clear HC13
  replace H:=zP H
  obtain⟨t543,A25,H⟩:=H
  by_cases c26:t543=true
  case neg=>
   replace c26:=Bool.eq_false_iff.mpr c26
   subst c26
   rw[if_neg zFT] at H
   have H':=zM H
   clear H
   obtain⟨Ao33,co33,eo33⟩:=Kd.R_slice HO526.out
   subst eo33
   go_wp2_with (first|((with_reducible refine gate_callee (f:=12) rfl ?_);refine goesL_ (some 49) rfl rfl Try.func12 ze rfl #[.slice A8 t538.length c8, .slice Ao33 t524.length co33] rfl zg ?_;(with_reducible refine(laws_eqByteS.calls k _ _ t538 _ _ t524 false _ ?side1 ?side2 ?side3 ?side4 A25.out).mono ?_);(case side1=>exact zc (Kd.R_reads' HO540.out).2.2);(case side2=>exact hc8);(case side3=>exact zc (Kd.R_reads' HO526.out).2.2);(case side4=>exact(Kd.R_reads' HO526.out).2.1);rintro e w' ⟨rfl,⟨nd,rfl⟩⟩;refine⟨_,rfl,?_⟩))
   go_meet
   case rel=>exact⟨_,(true),zs,H',⟨zo⟩,⟨by(with_reducible repeat(first|apply zRa|apply zRn|apply zRd));first|exact Kd.R_mono HO526.out (fun _ hk=>hk.2)|(subst_vars;exact Kd.R_mono HO526.out (fun _ hk=>hk.2))⟩,⟨by(with_reducible repeat(first|apply zRa|apply zRn|apply zRd));first|exact Kd.R_mono HO531.out (fun _ hk=>trivial)|(subst_vars;exact Kd.R_mono HO531.out (fun _ hk=>trivial))⟩,⟨by(with_reducible repeat(first|apply zRa|apply zRn|apply zRd));first|exact Kd.R_mono HO540.out (fun _ hk=>hk.2)|(subst_vars;exact Kd.R_mono HO540.out (fun _ hk=>hk.2))⟩,⟨zn BK513⟩,⟨zb25⟩⟩
  subst c26
  rw[if_pos rfl] at H
  replace H:=zI2 H
  rcases H with⟨c27,H⟩|⟨c27,H⟩
  case inr=>
   have c27b0:(t541==t527)=false:=beq_eq_false_iff_ne.mpr c27
   have c27b1:(t541 != t527)=true:=bne_iff_ne.mpr c27
   (first|rw[c27b0]|(simp only[i64_w,i32_w];rw[c27b0])|skip)
   have H':=zM H
   clear H
   obtain⟨Ao31,co31,eo31⟩:=Kd.R_slice HO526.out
   subst eo31
   go_wp2_with (first|((with_reducible refine gate_callee (f:=12) rfl ?_);refine goesL_ (some 49) rfl rfl Try.func12 ze rfl #[.slice A8 t538.length c8, .slice Ao31 t524.length co31] rfl zg ?_;(with_reducible refine(laws_eqByteS.calls k _ _ t538 _ _ t524 true _ ?side1 ?side2 ?side3 ?side4 A25.out).mono ?_);(case side1=>exact zc (Kd.R_reads' HO540.out).2.2);(case side2=>exact hc8);(case side3=>exact zc (Kd.R_reads' HO526.out).2.2);(case side4=>exact(Kd.R_reads' HO526.out).2.1);rintro e w' ⟨rfl,⟨nd,rfl⟩⟩;refine⟨_,rfl,?_⟩))
   go_meet
   case rel=>exact⟨_,(true),zs,H',⟨zo⟩,⟨by(with_reducible repeat(first|apply zRa|apply zRn|apply zRd));first|exact Kd.R_mono HO526.out (fun _ hk=>hk.2)|(subst_vars;exact Kd.R_mono HO526.out (fun _ hk=>hk.2))⟩,⟨by(with_reducible repeat(first|apply zRa|apply zRn|apply zRd));first|exact Kd.R_mono HO531.out (fun _ hk=>trivial)|(subst_vars;exact Kd.R_mono HO531.out (fun _ hk=>trivial))⟩,⟨by(with_reducible repeat(first|apply zRa|apply zRn|apply zRd));first|exact Kd.R_mono HO540.out (fun _ hk=>hk.2)|(subst_vars;exact Kd.R_mono HO540.out (fun _ hk=>hk.2))⟩,⟨zn BK513⟩,⟨zb25⟩⟩
  have c27b0:(t541==t527)=true:=beq_iff_eq.mpr c27
  have c27b1:(t541 != t527)=false:=bne_eq_false_iff_eq.mpr c27
  clear c27
  (first|rw[c27b0]|(simp only[i64_w,i32_w];rw[c27b0])|skip)
  have H':=zM H
  clear H
  obtain⟨Ao29,co29,eo29⟩:=Kd.R_slice HO526.out
  subst eo29
  go_wp2_with (first|((with_reducible refine gate_callee (f:=12) rfl ?_);refine goesL_ (some 49) rfl rfl Try.func12 ze rfl #[.slice A8 t538.length c8, .slice Ao29 t524.length co29] rfl zg ?_;(with_reducible refine(laws_eqByteS.calls k _ _ t538 _ _ t524 true _ ?side1 ?side2 ?side3 ?side4 A25.out).mono ?_);(case side1=>exact zc (Kd.R_reads' HO540.out).2.2);(case side2=>exact hc8);(case side3=>exact zc (Kd.R_reads' HO526.out).2.2);(case side4=>exact(Kd.R_reads' HO526.out).2.1);rintro e w' ⟨rfl,⟨nd,rfl⟩⟩;refine⟨_,rfl,?_⟩))
  go_meet
  case rel=>exact⟨_,((t542 != t528)),zs,H',⟨zo⟩,⟨by(with_reducible repeat(first|apply zRa|apply zRn|apply zRd));first|exact Kd.R_mono HO526.out (fun _ hk=>hk.2)|(subst_vars;exact Kd.R_mono HO526.out (fun _ hk=>hk.2))⟩,⟨by(with_reducible repeat(first|apply zRa|apply zRn|apply zRd));first|exact Kd.R_mono HO531.out (fun _ hk=>trivial)|(subst_vars;exact Kd.R_mono HO531.out (fun _ hk=>trivial))⟩,⟨by(with_reducible repeat(first|apply zRa|apply zRn|apply zRd));first|exact Kd.R_mono HO540.out (fun _ hk=>hk.2)|(subst_vars;exact Kd.R_mono HO540.out (fun _ hk=>hk.2))⟩,⟨zn BK513⟩,⟨zb25⟩⟩
 case rest=>
  clear HC13
  try clear c1
  try clear c2
  try clear p2
  try clear c5
  try clear c5b0
  try clear c8
  try clear c12
  try clear c20
  try clear c22
  try clear c23
  try clear c24
  try clear c26
  try clear c27
  try clear c27b0
  try clear c27b1
  try clear hcz15_0
  try clear hcz15_1
  try clear hcz15_2
  try clear hcz15_3
  try clear hcz15_4
  try clear hcz15_5
  try clear hcz21_0
  try clear hcz21_1
  try clear hcz21_2
  try clear hcz21_3
  try clear hcz21_4
  try clear hcz21_5
  try clear hfz15_0
  try clear hfz15_1
  try clear hfz15_2
  try clear hfz15_3
  try clear hfz15_4
  try clear hfz15_5
  try clear hfz21_0
  try clear hfz21_1
  try clear hfz21_2
  try clear hfz21_3
  try clear hfz21_4
  try clear hfz21_5
  obtain⟨kq,x60_12,rfl,HA,HJ12,HO_8,HO_11,HO_12,BK513,HB⟩:=hcut
  cases kq with
  |zero=>exact absurd HA.out (by simp[laws_FnExactHear.j0])
  | succ kj12=>
   have H:=HA.out
   clear HA
   simp only[laws_FnExactHear.j0] at H
   by_cases c34:x60_12=true
   case pos=>
    subst c34
    rw[if_pos rfl] at H
    exact absurd (zI H) (by rw[hr_];decide)
   replace c34:=Bool.eq_false_iff.mpr c34
   subst c34
   rw[if_neg zFT] at H
   replace H:=zP H
   obtain⟨t544,A35,H⟩:=H
   replace H:=zP H
   obtain⟨t547,A36,H⟩:=H
   by_cases c37:t547=true
   case neg=>
    replace c37:=Bool.eq_false_iff.mpr c37
    subst c37
    rw[if_neg zFT] at H
    exact absurd (zI H) (by rw[hr_];decide)
   subst c37
   rw[if_pos rfl] at H
   replace H:=zP H
   obtain⟨⟨t548,t549⟩,A38,H⟩:=H
   dsimp only at H
   have HC39:=zM H
   clear H
   go_upto_region 14 with(first|((with_reducible refine gate_callee (f:=24) rfl ?_);refine goesL_ (some 63) rfl rfl Try.func24 ze rfl #[.slice A1 l1.length c1] rfl zg ?_;(with_reducible refine(laws_toPointS.calls kj12 _ _ l1 t544 _ ?side1 ?side2 A35.out).mono ?_);(case side1=>exact zc (Kd.C_below HR1.out HB.out));(case side2=>exact HC1.out);rintro e w40 ⟨v545,rfl,ho0,hb⟩;refine⟨_,rfl,?_⟩;refine zS6 (Kd.R_below (zr HO_8) hb) (Kd.R_elder' (zr HO_11) (Kd.R_base ho0) hb) (Kd.R_below (zr HO_12) hb) (Kd.R_lower (Kd.R_new' ho0 (Kd.R_lt (zr HO_11))) (below_size zb25)) (zNb (g:=gb513) (o:= .cells #[.int .i64 a0_0, .int .i64 a0_1, .int .i64 a0_2, .int .i64 a0_3, .int .i64 a0_4, .int .i64 a0_5] 23 (0,0)) (zn BK513) hb) (below_step zb25 hb) ?_;clear HO_8 HO_11 HO_12 BK513 HB;intro HO_8 HO_11 HO_12 HO546 BK513 HB;(try clear hb);(try clear hb2);(try clear hk);(try clear hi);(try clear ho0);obtain⟨Ao41,co41,eo41⟩:=Kd.R_slice HO546.out;subst eo41)|((with_reducible refine gate_callee (f:=11) rfl ?_);refine goesL_ (some 64) rfl rfl Try.func11 ze rfl #[.slice Ao23 t529.length co23, .slice Ao41 t544.length co41] rfl zg ?_;(with_reducible refine(laws_eqPointS.calls kj12 _ _ t529 _ _ t544 true _ ?side1 ?side2 ?side3 ?side4 A36.out).mono ?_);(case side1=>exact zc (Kd.R_reads' HO_11.out).2.2);(case side2=>exact(Kd.R_reads' HO_11.out).2.1);(case side3=>exact zc (Kd.R_reads' HO546.out).2.2);(case side4=>exact(Kd.R_reads' HO546.out).2.1);rintro e w42 ⟨rfl,hb⟩;refine⟨_,rfl,?_⟩;refine zS6 (Kd.R_below (zr HO_8) hb) (Kd.R_below (zr HO_11) hb) (Kd.R_below (zr HO_12) hb) (Kd.R_below (zr HO546) hb) (zNb (g:=gb513) (o:= .cells #[.int .i64 a0_0, .int .i64 a0_1, .int .i64 a0_2, .int .i64 a0_3, .int .i64 a0_4, .int .i64 a0_5] 23 (0,0)) (zn BK513) hb) (below_step zb25 hb) ?_;clear HO_8 HO_11 HO_12 HO546 BK513 HB;intro HO_8 HO_11 HO_12 HO546 BK513 HB;(try clear hb);(try clear hb2);(try clear hk);(try clear hi))|((with_reducible refine gate_callee (f:=14) rfl ?_);refine goesL_ (some 68) rfl rfl Try.func14 ze rfl #[.slice Ao23 t529.length co23, .int .i64 1] rfl zg ?_;(with_reducible refine(laws_markPointS.calls kj12 (fun k_=>some k_=(.slice Ao23 t529.length co23:Value).ownBlock) (.slice Ao23 t529.length co23) t529 1 t548 t549 w _ ?side1 ?side2 A38.out).mono ?_);(case side1=>exact zb25);(case side2=>exact Kd.R_tight rfl HO_11.out);rintro e w43 ⟨rfl,hy0,hb,hkp⟩;refine⟨_,rfl,?_⟩;refine zS6 (Kd.R_mono (ok':=fun k_=>some k_≠(.slice A8 t538.length d8:Value).ownBlock) (Kd.R_keptB ((Kd.R_apart' HO_8.out (Kd.R_typed HO_11.out) (by decide))) hkp (fun k_ hk_ hs_=>(hk_.2) hs_)) (fun k_ hk_=>hk_.1.1)) (Kd.R_reok rfl hy0 (fun k_ e_=>HO_11.out.1 k_ e_)) (Kd.R_mono (ok':=fun k_=>some k_≠(v525:Value).ownBlock) (Kd.R_keptB ((Kd.R_apart' HO_12.out (Kd.R_typed HO_11.out) (by decide))) hkp (fun k_ hk_ hs_=>(hk_.2) hs_)) (fun k_ hk_=>hk_.1.1)) (blk_kept (zn BK513) hkp (fun hs_=>(fun e_=>(Kd.R_ne HO_11.out BK513.out (by decide)) e_) hs_)) (Kd.R_mono (ok':=fun k_=>some k_≠(.slice Ao23 t529.length co23:Value).ownBlock) (Kd.R_keptB (HO546.out) hkp (fun k_ hk_ hs_=>(hk_.2) hs_)) (fun k_ hk_=>hk_.1.2)) (hb) ?_;clear HO_8 HO_11 HO_12 BK513 HO546 HB;intro HO_8 HO_11 HO_12 BK513 HO546 HB;(try clear hb);(try clear hkp);(try clear hy0)))
   (try simp only[Act.put,zL1,zL2,zL3])
   go_cut [86] (fun v86 wc=>∃(kq:Nat) (x86_38:Bool),v86= .bool x86_38∧Aside0 (laws_FnExactHear.j1 kq l1 a2 t524 t527 t528 t538 x86_38 a0_0 a0_1 a0_2 a0_3 a0_4 a0_5=some r)∧Aside0 (kq≤kj12)∧Aside0 (Kd.R (Kd.int .u8) 5 wc w.heap.size (fun k_=>some k_≠(.slice A8 t538.length d8:Value).ownBlock) v525 t524)∧Aside0 (Kd.R (Kd.int .u8) 5 wc w.heap.size (fun k_=>some k_≠(v525:Value).ownBlock) (.slice A8 t538.length d8) t538)∧Aside0 (wc.heap[gb513]? =some (.cells #[.int .i64 a0_0, .int .i64 a0_1, .int .i64 a0_2, .int .i64 a0_3, .int .i64 a0_4, .int .i64 a0_5] 23 (0,0)))∧Aside0 (Below w.heap.size w wc))
   case first=>
    have H:=HC39.out
    clear HC39
    replace H:=zI2 H
    rcases H with⟨c44,H⟩|⟨c44,H⟩
    case inl=>
     have c44b0:=zE c44
     clear c44
     (first|rw[c44b0]|(simp only[i64_w,i32_w];rw[c44b0])|skip)
     have H':=zM H
     clear H
     go_wp2
     go_meet
     case rel=>exact⟨_,(true),zs,H',⟨by have:=HJ12.out;first|omega|exact Nat.le_refl _⟩,⟨zr HO_8⟩,⟨zr HO_12⟩,⟨zn BK513⟩,⟨zb25⟩⟩
    have c44b0:=decide_eq_false c44
    clear c44
    (first|rw[c44b0]|(simp only[i64_w,i32_w];rw[c44b0])|skip)
    replace H:=zP H
    obtain⟨t550,A45,H⟩:=H
    by_cases c46:t550=true
    case neg=>
     replace c46:=Bool.eq_false_iff.mpr c46
     subst c46
     rw[if_neg zFT] at H
     have H':=zM H
     clear H
     obtain⟨Ao53,co53,eo53⟩:=Kd.R_slice HO_8.out
     subst eo53
     go_wp2_with (first|(go_at_call 12;(with_reducible refine(laws_eqByteS.calls kj12 _ _ t538 _ _ t524 false _ ?side1 ?side2 ?side3 ?side4 A45.out).mono ?_);(case side1=>exact zc (Kd.R_reads' HO_12.out).2.2);(case side2=>exact hc8);(case side3=>exact zc (Kd.R_reads' HO_8.out).2.2);(case side4=>exact(Kd.R_reads' HO_8.out).2.1);rintro e w' ⟨rfl,⟨nd,rfl⟩⟩))
     go_meet
     case rel=>exact⟨_,(true),zs,H',⟨by have:=HJ12.out;first|omega|exact Nat.le_refl _⟩,⟨zr HO_8⟩,⟨zr HO_12⟩,⟨zn BK513⟩,⟨zb25⟩⟩
    subst c46
    rw[if_pos rfl] at H
    replace H:=zI2 H
    rcases H with⟨c47,H⟩|⟨c47,H⟩
    case inr=>
     have c47b0:(t541==t527)=false:=beq_eq_false_iff_ne.mpr c47
     have c47b1:(t541 != t527)=true:=bne_iff_ne.mpr c47
     have H':=zM H
     clear H
     obtain⟨Ao51,co51,eo51⟩:=Kd.R_slice HO_8.out
     subst eo51
     go_wp2_with (first|(go_at_call 12;(with_reducible refine(laws_eqByteS.calls kj12 _ _ t538 _ _ t524 true _ ?side1 ?side2 ?side3 ?side4 A45.out).mono ?_);(case side1=>exact zc (Kd.R_reads' HO_12.out).2.2);(case side2=>exact hc8);(case side3=>exact zc (Kd.R_reads' HO_8.out).2.2);(case side4=>exact(Kd.R_reads' HO_8.out).2.1);rintro e w' ⟨rfl,⟨nd,rfl⟩⟩))
     go_meet
     case rel=>exact⟨_,(true),zs,H',⟨by have:=HJ12.out;first|omega|exact Nat.le_refl _⟩,⟨zr HO_8⟩,⟨zr HO_12⟩,⟨zn BK513⟩,⟨zb25⟩⟩
    have c47b0:(t541==t527)=true:=beq_iff_eq.mpr c47
    have c47b1:(t541 != t527)=false:=bne_eq_false_iff_eq.mpr c47
    clear c47
    have H':=zM H
    clear H
    obtain⟨Ao49,co49,eo49⟩:=Kd.R_slice HO_8.out
    subst eo49
    go_wp2_with (first|(go_at_call 12;(with_reducible refine(laws_eqByteS.calls kj12 _ _ t538 _ _ t524 true _ ?side1 ?side2 ?side3 ?side4 A45.out).mono ?_);(case side1=>exact zc (Kd.R_reads' HO_12.out).2.2);(case side2=>exact hc8);(case side3=>exact zc (Kd.R_reads' HO_8.out).2.2);(case side4=>exact(Kd.R_reads' HO_8.out).2.1);rintro e w' ⟨rfl,⟨nd,rfl⟩⟩))
    go_meet
    case rel=>exact⟨_,((t542 != t528)),zs,H',⟨by have:=HJ12.out;first|omega|exact Nat.le_refl _⟩,⟨zr HO_8⟩,⟨zr HO_12⟩,⟨zn BK513⟩,⟨zb25⟩⟩
   case rest=>
    clear HC39
    try clear c1
    try clear c2
    try clear p2
    try clear c3
    try clear c4
    try clear c5
    try clear c5b0
    try clear c8
    try clear c11
    try clear c12
    try clear c14
    try clear c20
    try clear c22
    try clear c23
    try clear c24
    try clear c26
    try clear c27
    try clear c27b0
    try clear c27b1
    try clear c34
    try clear c37
    try clear c44
    try clear c44b0
    try clear c46
    try clear c47
    try clear c47b0
    try clear c47b1
    try clear hcz15_0
    try clear hcz15_1
    try clear hcz15_2
    try clear hcz15_3
    try clear hcz15_4
    try clear hcz15_5
    try clear hcz21_0
    try clear hcz21_1
    try clear hcz21_2
    try clear hcz21_3
    try clear hcz21_4
    try clear hcz21_5
    try clear hfz15_0
    try clear hfz15_1
    try clear hfz15_2
    try clear hfz15_3
    try clear hfz15_4
    try clear hfz15_5
    try clear hfz21_0
    try clear hfz21_1
    try clear hfz21_2
    try clear hfz21_3
    try clear hfz21_4
    try clear hfz21_5
    try clear p2
    obtain⟨kq,x86_38,rfl,HA,HJ38,HO_8,HO_12,BK513,HB⟩:=hcut
    cases kq with
    |zero=>exact absurd HA.out (by simp[laws_FnExactHear.j1])
    | succ kj38=>
     have H:=HA.out
     clear HA
     simp only[laws_FnExactHear.j1] at H
     by_cases c54:x86_38=true
     case pos=>
      subst c54
      rw[if_pos rfl] at H
      exact absurd (zI H) (by rw[hr_];decide)
     replace c54:=Bool.eq_false_iff.mpr c54
     subst c54
     rw[if_neg zFT] at H
     replace H:=zP H
     obtain⟨⟨t551,t552⟩,A55,H⟩:=H
     dsimp only at H
     replace H:=zP H
     obtain⟨t553,A56,H⟩:=H
     replace H:=zI2 H
     rcases H with⟨c57,H⟩|⟨c57,H⟩
     case inl=>
      have c57b0:=zE c57
      clear c57
      exact absurd (zI H) (by rw[hr_];decide)
     have c57b0:=decide_eq_false c57
     clear c57
     replace H:=zI2 H
     rcases H with⟨c58,H⟩|⟨c58,H⟩
     case inr=>
      have c58b0:(t553==t551)=false:=beq_eq_false_iff_ne.mpr c58
      have c58b1:(t553 != t551)=true:=bne_iff_ne.mpr c58
      exact absurd (zI H) (by rw[hr_];decide)
     have c58b0:(t553==t551)=true:=beq_iff_eq.mpr c58
     have c58b1:(t553 != t551)=false:=bne_eq_false_iff_eq.mpr c58
     clear c58
     replace H:=zP H
     obtain⟨⟨t554,t555,t556,t557,t558,t559⟩,A59,H⟩:=H
     dsimp only at H
     replace H:=zP H
     obtain⟨t560,A60,H⟩:=H
     replace H:=zP H
     obtain⟨⟨t563,t566,t567⟩,A61,H⟩:=H
     dsimp only at H
     have HC62:=zM H
     clear H
     go_upto_region 25 with(first|((with_reducible refine gate_callee (f:=13) rfl ?_);refine goesL_ (some 89) rfl rfl Try.func13 ze rfl #[.slice A8 t538.length c8, .int .i64 1] rfl zg ?_;(with_reducible refine(laws_markByteS.callsC kj38 (fun k_=>some k_=(.slice A8 t538.length d8:Value).ownBlock) A8 t538.length c8 d8 t538 1 t551 t552 w _ ?side1 ?side2 A55.out).mono ?_);(case side1=>exact zb25);(case side2=>exact Kd.R_tight rfl HO_12.out);rintro e w64 ⟨rfl,hy0,hb,hkp⟩;refine⟨_,rfl,?_⟩;refine zS4 (Kd.R_mono (ok':=fun k_=>some k_≠(.slice A8 t538.length d8:Value).ownBlock) (Kd.R_keptB (HO_8.out) hkp (fun k_ hk_ hs_=>(hk_) hs_)) (fun k_ hk_=>hk_.1)) (Kd.R_reok rfl hy0 (fun k_ e_=>HO_12.out.1 k_ e_)) (blk_kept (zn BK513) hkp (fun hs_=>(fun e_=>(Kd.R_ne HO_12.out BK513.out (by decide)) e_) hs_)) (hb) ?_;clear HO_8 HO_12 BK513 HB;intro HO_8 HO_12 BK513 HB;(try clear hb);(try clear hkp);(try clear hy0))|((with_reducible refine gate_callee (f:=25) rfl ?_);refine goesL_ (some 92) rfl rfl Try.func25 ze rfl #[.slice A8 t552.length c8, .int .i64 1] rfl (by(try simp only[List.map_toArray,List.map_cons,List.map_nil]);first|done|(rw[show t552.length=t538.length from(Kd.R_reads' HO_12.out).1.symm]<;>rfl)|rfl|(simp only[List.length_drop,List.length_take];rfl)) ?_;(with_reducible refine(laws_heldByteS.calls kj38 _ _ t552 1 t553 _ ?side1 ?side2 A56.out).mono ?_);(case side1=>exact zc (Kd.R_reads' HO_12.out).2.2);(case side2=>rw[show t552.length=t538.length from(Kd.R_reads' HO_12.out).1.symm];exact hc8);rintro e w' ⟨rfl,⟨nd,rfl⟩⟩;refine⟨_,rfl,?_⟩;obtain⟨hcz65_0,hcz65_1,hcz65_2,hcz65_3,hcz65_4,hcz65_5,hfz65_0,hfz65_1,hfz65_2,hfz65_3,hfz65_4,hfz65_5⟩:=zc6 BK513.out)|((with_reducible refine gate_callee (f:=8) rfl ?_);refine goesL_ (some 100) rfl rfl Try.func8 ze rfl #[.agg #[.int .i64 a0_0, .int .i64 a0_1, .int .i64 a0_2, .int .i64 a0_3, .int .i64 a0_4, .int .i64 a0_5]] rfl zg ?_;(with_reducible refine(laws_toModem.calls a0_0 a0_1 a0_2 a0_3 a0_4 a0_5 t554 t555 t556 t557 t558 t559 _ A59.out).mono ?_);rintro e w66 ⟨rfl,hb⟩;refine⟨_,rfl,?_⟩;refine zS4 (Kd.R_below (zr HO_8) hb) (Kd.R_below (zr HO_12) hb) (zNb (g:=gb513) (o:= .cells #[.int .i64 a0_0, .int .i64 a0_1, .int .i64 a0_2, .int .i64 a0_3, .int .i64 a0_4, .int .i64 a0_5] 23 (0,0)) (zn BK513) hb) (below_step zb25 hb) ?_;clear HO_8 HO_12 BK513 HB;intro HO_8 HO_12 BK513 HB;(try clear hb);(try clear hb2);(try clear hk);(try clear hi))|((with_reducible refine gate_callee (f:=24) rfl ?_);refine goesL_ (some 102) rfl rfl Try.func24 ze rfl #[.slice A1 l1.length c1] rfl zg ?_;(with_reducible refine(laws_toPointS.calls kj38 _ _ l1 t560 _ ?side1 ?side2 A60.out).mono ?_);(case side1=>exact zc (Kd.C_below HR1.out HB.out));(case side2=>exact HC1.out);rintro e w67 ⟨v561,rfl,ho0,hb⟩;refine⟨_,rfl,?_⟩;refine zS5 (Kd.R_below (zr HO_8) hb) (Kd.R_below (zr HO_12) hb) (Kd.R_lower ho0 (below_size zb25)) (zNb (g:=gb513) (o:= .cells #[.int .i64 a0_0, .int .i64 a0_1, .int .i64 a0_2, .int .i64 a0_3, .int .i64 a0_4, .int .i64 a0_5] 23 (0,0)) (zn BK513) hb) (below_step zb25 hb) ?_;clear HO_8 HO_12 BK513 HB;intro HO_8 HO_12 HO562 BK513 HB;(try clear hb);(try clear hb2);(try clear hk);(try clear hi);(try clear ho0);obtain⟨Ao68,co68,eo68⟩:=Kd.R_slice HO562.out;subst eo68)|((with_reducible refine gate_callee (f:=20) rfl ?_);refine goesL_ (some 104) rfl rfl Try.func20 ze rfl #[.agg #[.int .i64 t554, .int .i64 t555, .int .i64 t556, .int .i64 t557, .int .i64 t558, .int .i64 t559], .slice Ao68 t560.length co68, .int .i64 a2] rfl zg ?_;(with_reducible refine(impl_Hear.calls kj38 t554 t555 t556 t557 t558 t559 _ _ t560 a2 t563 t566 t567 _ ?side1 ?side2 A61.out).mono ?_);(case side1=>exact zc (Kd.R_reads' HO562.out).2.2);(case side2=>exact(Kd.R_reads' HO562.out).2.1);rintro e w69 ⟨A7,c7,d7,rfl,ho0,hc7,hb⟩;refine⟨_,rfl,?_⟩;refine zS6 (Kd.R_elder' (zr HO_8) (Kd.R_base ho0) hb) (Kd.R_elder' (zr HO_12) (Kd.R_base ho0) hb) (Kd.R_below (zr HO562) hb) (Kd.R_lower (Kd.R_new' (Kd.R_new' ho0 (Kd.R_lt (zr HO_8))) (Kd.R_lt (zr HO_12))) (below_size zb25)) (zNb (g:=gb513) (o:= .cells #[.int .i64 a0_0, .int .i64 a0_1, .int .i64 a0_2, .int .i64 a0_3, .int .i64 a0_4, .int .i64 a0_5] 23 (0,0)) (zn BK513) hb) (below_step zb25 hb) ?_;clear HO_8 HO_12 HO562 BK513 HB;intro HO_8 HO_12 HO562 HO565 BK513 HB;(try clear hb);(try clear hb2);(try clear hk);(try clear hi);(try clear ho0)))
     (try simp only[Act.put,zL1,zL2,zL3])
     go_cut [121] (fun v121 wc=>∃(kq:Nat) (x121_61:Bool),v121= .bool x121_61∧Aside0 (laws_FnExactHear.j2 kq t552 t551 x121_61=some r)∧Aside0 (kq≤kj38)∧Aside0 (Kd.R (Kd.int .u8) 5 wc w.heap.size (fun _=>True) (.slice A8 t538.length d8) t552)∧Aside0 (wc.heap[gb513]? =some (.cells #[.int .i64 a0_0, .int .i64 a0_1, .int .i64 a0_2, .int .i64 a0_3, .int .i64 a0_4, .int .i64 a0_5] 23 (0,0)))∧Aside0 (Below w.heap.size w wc))
     case first=>
      have H:=HC62.out
      clear HC62
      replace H:=zP H
      obtain⟨t568,A70,H⟩:=H
      by_cases c71:t568=true
      case neg=>
       replace c71:=Bool.eq_false_iff.mpr c71
       subst c71
       rw[if_neg zFT] at H
       have H':=zM H
       clear H
       obtain⟨Ao78,co78,eo78⟩:=Kd.R_slice HO_8.out
       subst eo78
       go_wp2_with (first|((with_reducible refine gate_callee (f:=12) rfl ?_);refine goesL_ (some 110) rfl rfl Try.func12 ze rfl #[.slice A7 t563.length c7, .slice Ao78 t524.length co78] rfl zg ?_;(with_reducible refine(laws_eqByteS.calls kj38 _ _ t563 _ _ t524 false _ ?side1 ?side2 ?side3 ?side4 A70.out).mono ?_);(case side1=>exact zc (Kd.R_reads' HO565.out).2.2);(case side2=>exact hc7);(case side3=>exact zc (Kd.R_reads' HO_8.out).2.2);(case side4=>exact(Kd.R_reads' HO_8.out).2.1);rintro e w' ⟨rfl,⟨nd,rfl⟩⟩;refine⟨_,rfl,?_⟩))
       go_meet
       case rel=>exact⟨_,(true),zs,H',⟨by have:=HJ12.out;have:=HJ38.out;first|omega|exact Nat.le_refl _⟩,⟨by(with_reducible repeat(first|apply zRa|apply zRn|apply zRd));first|exact Kd.R_mono HO_12.out (fun _ hk=>trivial)|(subst_vars;exact Kd.R_mono HO_12.out (fun _ hk=>trivial))⟩,⟨zn BK513⟩,⟨zb25⟩⟩
      subst c71
      rw[if_pos rfl] at H
      replace H:=zI2 H
      rcases H with⟨c72,H⟩|⟨c72,H⟩
      case inr=>
       have c72b0:(t566==t527)=false:=beq_eq_false_iff_ne.mpr c72
       have c72b1:(t566 != t527)=true:=bne_iff_ne.mpr c72
       (first|rw[c72b0]|(simp only[i64_w,i32_w];rw[c72b0])|skip)
       have H':=zM H
       clear H
       obtain⟨Ao76,co76,eo76⟩:=Kd.R_slice HO_8.out
       subst eo76
       go_wp2_with (first|((with_reducible refine gate_callee (f:=12) rfl ?_);refine goesL_ (some 110) rfl rfl Try.func12 ze rfl #[.slice A7 t563.length c7, .slice Ao76 t524.length co76] rfl zg ?_;(with_reducible refine(laws_eqByteS.calls kj38 _ _ t563 _ _ t524 true _ ?side1 ?side2 ?side3 ?side4 A70.out).mono ?_);(case side1=>exact zc (Kd.R_reads' HO565.out).2.2);(case side2=>exact hc7);(case side3=>exact zc (Kd.R_reads' HO_8.out).2.2);(case side4=>exact(Kd.R_reads' HO_8.out).2.1);rintro e w' ⟨rfl,⟨nd,rfl⟩⟩;refine⟨_,rfl,?_⟩))
       go_meet
       case rel=>exact⟨_,(true),zs,H',⟨by have:=HJ12.out;have:=HJ38.out;first|omega|exact Nat.le_refl _⟩,⟨by(with_reducible repeat(first|apply zRa|apply zRn|apply zRd));first|exact Kd.R_mono HO_12.out (fun _ hk=>trivial)|(subst_vars;exact Kd.R_mono HO_12.out (fun _ hk=>trivial))⟩,⟨zn BK513⟩,⟨zb25⟩⟩
      have c72b0:(t566==t527)=true:=beq_iff_eq.mpr c72
      have c72b1:(t566 != t527)=false:=bne_eq_false_iff_eq.mpr c72
      clear c72
      (first|rw[c72b0]|(simp only[i64_w,i32_w];rw[c72b0])|skip)
      have H':=zM H
      clear H
      obtain⟨Ao74,co74,eo74⟩:=Kd.R_slice HO_8.out
      subst eo74
      go_wp2_with (first|((with_reducible refine gate_callee (f:=12) rfl ?_);refine goesL_ (some 110) rfl rfl Try.func12 ze rfl #[.slice A7 t563.length c7, .slice Ao74 t524.length co74] rfl zg ?_;(with_reducible refine(laws_eqByteS.calls kj38 _ _ t563 _ _ t524 true _ ?side1 ?side2 ?side3 ?side4 A70.out).mono ?_);(case side1=>exact zc (Kd.R_reads' HO565.out).2.2);(case side2=>exact hc7);(case side3=>exact zc (Kd.R_reads' HO_8.out).2.2);(case side4=>exact(Kd.R_reads' HO_8.out).2.1);rintro e w' ⟨rfl,⟨nd,rfl⟩⟩;refine⟨_,rfl,?_⟩))
      go_meet
      case rel=>exact⟨_,((t567 != t528)),zs,H',⟨by have:=HJ12.out;have:=HJ38.out;first|omega|exact Nat.le_refl _⟩,⟨by(with_reducible repeat(first|apply zRa|apply zRn|apply zRd));first|exact Kd.R_mono HO_12.out (fun _ hk=>trivial)|(subst_vars;exact Kd.R_mono HO_12.out (fun _ hk=>trivial))⟩,⟨zn BK513⟩,⟨zb25⟩⟩
     case rest=>
      clear HC62
      try clear c1
      try clear c2
      try clear p2
      try clear c3
      try clear c4
      try clear c5
      try clear c5b0
      try clear c7
      try clear c8
      try clear c11
      try clear c12
      try clear c13
      try clear c14
      try clear c20
      try clear c22
      try clear c23
      try clear c24
      try clear c25
      try clear c26
      try clear c27
      try clear c27b0
      try clear c27b1
      try clear c34
      try clear c37
      try clear c44
      try clear c44b0
      try clear c46
      try clear c47
      try clear c47b0
      try clear c47b1
      try clear c54
      try clear c57
      try clear c57b0
      try clear c58
      try clear c58b0
      try clear c58b1
      try clear c71
      try clear c72
      try clear c72b0
      try clear c72b1
      try clear hcz15_0
      try clear hcz15_1
      try clear hcz15_2
      try clear hcz15_3
      try clear hcz15_4
      try clear hcz15_5
      try clear hcz21_0
      try clear hcz21_1
      try clear hcz21_2
      try clear hcz21_3
      try clear hcz21_4
      try clear hcz21_5
      try clear hcz65_0
      try clear hcz65_1
      try clear hcz65_2
      try clear hcz65_3
      try clear hcz65_4
      try clear hcz65_5
      try clear hfz15_0
      try clear hfz15_1
      try clear hfz15_2
      try clear hfz15_3
      try clear hfz15_4
      try clear hfz15_5
      try clear hfz21_0
      try clear hfz21_1
      try clear hfz21_2
      try clear hfz21_3
      try clear hfz21_4
      try clear hfz21_5
      try clear hfz65_0
      try clear hfz65_1
      try clear hfz65_2
      try clear hfz65_3
      try clear hfz65_4
      try clear hfz65_5
      try clear p2
      obtain⟨kq,x121_61,rfl,HA,HJ61,HO_12,BK513,HB⟩:=hcut
      have hl12_61:=(Kd.R_reads' HO_12.out).1
      rw[hl12_61] at HO_12
      (try simp only[hl12_61])
      (try simp only[hl12_61] at BK513)
      cases kq with
      |zero=>exact absurd HA.out (by simp[laws_FnExactHear.j2])
      | succ kj61=>
       have H:=HA.out
       clear HA
       simp only[laws_FnExactHear.j2] at H
       by_cases c79:x121_61=true
       case pos=>
        subst c79
        rw[if_pos rfl] at H
        exact absurd (zI H) (by rw[hr_];decide)
       replace c79:=Bool.eq_false_iff.mpr c79
       subst c79
       rw[if_neg zFT] at H
       replace H:=zP H
       obtain⟨t569,A80,H⟩:=H
       replace H:=zI2 H
       rcases H with⟨c81,H⟩|⟨c81,H⟩
       case inl=>
        have c81b0:=zE c81
        (try(have c81w_hl12_61:=c81b0;simp only[hl12_61] at c81w_hl12_61))
        clear c81
        exact absurd (zI H) (by rw[hr_];decide)
       have c81b0:=decide_eq_false c81
       (try(have c81w_hl12_61:=c81b0;simp only[hl12_61] at c81w_hl12_61))
       clear c81
       replace H:=zI2 H
       rcases H with⟨c82,H⟩|⟨c82,H⟩
       case inr=>
        have c82b0:(t569==t551)=false:=beq_eq_false_iff_ne.mpr c82
        have c82b1:(t569 != t551)=true:=bne_iff_ne.mpr c82
        (try(have c82w_hl12_61:=c82b0;simp only[hl12_61] at c82w_hl12_61))
        exact absurd (zI H) (by rw[hr_];decide)
       have c82b0:(t569==t551)=true:=beq_iff_eq.mpr c82
       have c82b1:(t569 != t551)=false:=bne_eq_false_iff_eq.mpr c82
       (try(have c82w_hl12_61:=c82b0;simp only[hl12_61] at c82w_hl12_61))
       clear c82
       obtain rfl:=zI H
       go_wp2_with (first|((with_reducible refine gate_callee (f:=25) rfl ?_);refine goesL_ (some 124) rfl rfl Try.func25 ze rfl #[.slice A8 t552.length c8, .int .i64 1] rfl zg ?_;(with_reducible refine(laws_heldByteS.calls kj61 _ _ t552 1 t569 _ ?side1 ?side2 A80.out).mono ?_);(case side1=>exact zc (Kd.R_reads' HO_12.out).2.2);(case side2=>exact Nat.le_trans (Nat.le_of_eq hl12_61.symm) hc8);rintro e w' ⟨rfl,⟨nd,rfl⟩⟩;refine⟨_,rfl,?_⟩))
       go_ret
       exact⟨zq,zb25⟩
end Go.Proofs.Ytapobpkeefeajaa.PFnExactHear
