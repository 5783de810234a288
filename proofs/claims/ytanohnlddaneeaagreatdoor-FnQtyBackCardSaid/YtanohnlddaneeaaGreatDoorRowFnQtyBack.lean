/- The law FnQtyBack answers true for every value of its parameters, where Go's own tables that it reads hold what the library's text lays (the card ties them). -/
import Derived.Test.YtanohnlddaneeaaGreatDoorCards
import Derived.Test.YtanohnlddaneeaaGreatDoorTie
import Derived.Test.YtanohnlddaneeaaGreatDoorPFnQtyBackx14
import Derived.Test.YtanohnlddaneeaaGreatDoorPureFnQtyBack
import Derived.Test.YtanohnlddaneeaaGreatDoorDecV
import Derived.Test.YtanohnlddaneeaaGreatDoorShelf
import Derived.ChangeVars
import Derived.Carry
import Derived.Maps.OwnSet
import Derived.WideKeyElems2
import Derived.WalkKit
import Derived.ProofKit
import Derived.OpenShut
import Derived.ShutString
import Derived.ChangeOld
import Derived.Below
import Derived.SizedLaws
import Derived.LaidMore
import Derived.LaidLaws
import Derived.Stop.Joined
import Derived.SevenTiedAt
import Derived.PinnedBridge
import Derived.Lib.LaidU8
import Derived.Shelf.Vars
import Derived.MakeChecks
namespace Go.Proofs.YtanohnlddaneeaaGreatDoor.fnQtyBack
open Go.ChangeShapes Go.WideShapes Go.ChangeAt Go.RowKit Go.Proofs.YtanohnlddaneeaaGreatDoorW.PrintWords
open Go.ChangeMaps (open_string shut_string)
set_option linter.unusedVariables false
set_option linter.unusedSimpArgs false
theorem own:ownKnob Tryz.prog.godebug=none:=by kernel_rfl
theorem laidOut:laidOutB Tryz.prog=true:=by kernel_rfl
section
variable {H:Type} {enc:TypeId×Value→H}
theorem handed {a:Assume} {C:Checked} {os:Os} {f:FuncId} {fn:Func} {s:ChangeSpec} {conds:List PathCond} {apart fresh handsOn again:Bool} {X:World→Array Value→Prop}
    (hX:∀(w w':World) (args:Array Value),w.heap=w'.heap→X w args→X w' args)
    (own:ownKnob C.prog.godebug=none) (started:os.Started) (noInit:C.prog.inits.idxOf? f=none) (hfn:C.prog.funcs[f]? =some fn)
    (witness:∃(w:World) (tape:Tape) (i:Input),w.os=os∧(w.forCall tape i).Shaped C.prog∧i.vars=[]∧Input.okWide C.prog (w.forCall tape i) .any w.heap.size f i∧
      ((s.pre enc C.prog fn conds apart (w.forCall tape i).memory i.args∧X (w.forCall tape i).memory i.args)∧sizedMet enc C.prog fn (OpenSpec.ofChange s) apart (w.forCall tape i).memory i.args)∧a.holds C.prog (lone (Frame.enter C.prog f i.args .normal) [] (w.forCall tape i)))
    (contract:∀(W:World) (base:Nat) (args:Array Value) (ds gs:List (DataW H)) (before:List MemPlace),
      (∀(j:Nat) t v,fn.params[j]? =some t→args[j]? =some v→Value.okWide C.prog W .any base t v)→
      DataW.Whole enc C.prog fn.params.toList s.vars apart W args.toList ds gs before→W.ShapedOpen C.prog→X W args→
      Calls C.prog f args W fun e W'=>∃v,e= .returned v∧s.post enc C.prog fn apart fresh handsOn again W args v W'):
    ReturnsInHanded a C os f .any (fun w args=>(s.pre enc C.prog fn conds apart w args∧X w args)∧sizedMet enc C.prog fn (OpenSpec.ofChange s) apart w args) (s.post enc C.prog fn apart fresh handsOn again):=by
  refine returnsInHanded_of_calls own started noInit witness ?_
  intro w tape i _ hsh _ hok hpre hholds
  obtain⟨_,_,_,fn',hfn',_,_,_,_,hval⟩:=hok
  have e:fn'=fn:=Option.some.inj (hfn'.symm.trans hfn)
  subst e
  obtain⟨⟨⟨ds,gs,before,hw,hc⟩,hx⟩,hz⟩:=hpre
  have hw':=DataW.Whole.of_heap (w':=w.forCall tape i) (by rfl) hw
  refine(contract (w.forCall tape i) w.heap.size i.args ds gs before hval hw' hsh (hX _ _ _ (by rfl) hx)).mono fun e W' ⟨v,he,hp⟩=> ?_
  subst he
  exact ChangeSpec.post_blind hp
end
theorem tabIs_of_reads {P:Program} {W:World} {name:String} {k:IntKind} {zs:List Int} {g:Nat} {t e:TypeId} {n:Nat}
    (hg:P.globalNamed name=some g) (hty:(P.globals[g]?).map (·.type)=some t) (ht:P.underlying t=some (.array n e)) (he:P.underlying e=some (.int k)) (hce:P.cellsOf e=1) (hct:P.cellsOf t=n)
    (h:Lib.VarReads P W name (Lib.tabData k zs)):Lib.TabIs P W name k zs:=by
  obtain⟨g',t',cs,fuel,p,hg',ht',hvar,hd⟩:=h
  obtain rfl:=Option.some.inj (hg.symm.trans hg')
  obtain rfl:=Option.some.inj (hty.symm.trans ht')
  unfold Lib.TabIs
  rw[hvar,←Lib.cells_of_tab ht he hce hct hd]
theorem iface_of_reads {P:Program} {W:World} {name:String} {g:Nat} {t:TypeId} {ms:Array (String×TypeId)} {nm:String} {D:DataW Unit}
    (hg:P.globalNamed name=some g) (hty:(P.globals[g]?).map (·.type)=some t) (ht:P.underlying t=some (.interface ms))
    (h:Lib.VarReads P W name (.iface nm D)):∃u v,W.cell? ⟨g,0,none⟩=some (.iface u v):=by
  obtain⟨g',t',cs,fuel,p,hg',ht',hvar,hd⟩:=h
  obtain rfl:=Option.some.inj (hg.symm.trans hg')
  obtain rfl:=Option.some.inj (hty.symm.trans ht')
  obtain⟨f1,u,v,hcs,_,_⟩:=iface_of_trod ht hd
  refine⟨u,v,?_⟩
  rw[World.var?_cell hg hvar 0,←Array.getElem?_toList,hcs]
  rfl
theorem var?_below {P:Program} {B g:Nat} {W W':World} {n:String} {cs:Array Value} (h:Below B W W') (hg:P.globalNamed n=some g) (hgB:g<B) (hv:W.var? P n=some cs):W'.var? P n=some cs:=by
  unfold World.var? at hv ⊢
  simp only[hg,Option.bind_some] at hv ⊢
  rw[h.block g hgB]
  exact hv
theorem u8x:U8Extra Tryz.prog Tryz.lays197_ren:={n3:=by kernel_rfl,n4:=by kernel_rfl,y3:=by kernel_rfl,y4:=by kernel_rfl,c5:=by kernel_rfl,c119:=by kernel_rfl,c138:=by kernel_rfl}
theorem gPref:Tryz.prog.globalNamed "loop.example/g00043/impl.prefixes" =some 0:=by kernel_rfl
theorem tPref:(Tryz.prog.globals[0]?).map (·.type)=some 87:=by kernel_rfl
theorem gw_of {W:World} (hL:laidMetH Tryz.prog Rows.fnQtyBackRow.laid W) (hsh:W.ShapedOpen Tryz.prog):Gw W:=by
  rw[MakeChecks.laidMetH_plain _ _ _ (by kernel_rfl)] at hL
  refine⟨?_,?_,?_,?_,?_,?_⟩
  · refine tabIs_of_reads (g:=6) (t:=127) (e:=96) (n:=20) (by kernel_rfl) (by kernel_rfl) Tryz.underlying127 Tryz.underlying96 (by kernel_rfl) (by kernel_rfl) ?_
    exact Lib.laidMet.reads hL (n:= "internal/strconv.uint64pow10") (d:=Rows.laid_internal_strconv_uint64pow10) (by simp[Rows.fnQtyBackRow])
  · exact cell_of_shapedOpen_int (P:=Tryz.prog) (g:=1) (t:=3) (zero:= #[.int .i64 0]) hsh (of_decide_eq_true (by kernel_rfl)) (by kernel_rfl) rfl (by kernel_rfl) (by kernel_rfl) Tryz.underlying3
  · refine utf8Tabs_of_reads {Tryz.lays197 with} u8x ?_ ?_
    · rw[←Pinned.utf8First_eq]
      exact Lib.laidMet.reads hL (n:= "unicode/utf8.first") (d:=Rows.laid_unicode_utf8_first) (by simp[Rows.fnQtyBackRow])
    · rw[show Lib.acceptData=Rows.laid_unicode_utf8_acceptRanges by kernel_rfl]
      exact Lib.laidMet.reads hL (n:= "unicode/utf8.acceptRanges") (d:=Rows.laid_unicode_utf8_acceptRanges) (by simp[Rows.fnQtyBackRow])
  · exact iface_of_reads (t:=46) (by kernel_rfl) (by kernel_rfl) Tryz.underlying46 (Lib.laidMet.reads hL (n:= "strconv.ErrSyntax") (d:=Rows.laid_strconv_ErrSyntax) (by simp[Rows.fnQtyBackRow]))
  · exact iface_of_reads (t:=46) (by kernel_rfl) (by kernel_rfl) Tryz.underlying46 (Lib.laidMet.reads hL (n:= "strconv.ErrRange") (d:=Rows.laid_strconv_ErrRange) (by simp[Rows.fnQtyBackRow]))
  · obtain⟨g',t',cs,fuel,p,hg',ht',hvar,hd⟩:=Lib.laidMet.reads hL (n:= "loop.example/g00043/impl.prefixes") (d:=Rows.laid_loop_example_g00043_impl_prefixes) (by simp[Rows.fnQtyBackRow])
    obtain rfl:=Option.some.inj (gPref.symm.trans hg')
    obtain rfl:=Option.some.inj (tPref.symm.trans ht')
    rcases WideElems.open_map Tryz.underlying87 hd with⟨_,hx⟩|⟨bm,es,clock,m,_,hcs,hb,_,F,hx⟩
    · have:=congrArg Prod.fst hx
      cases this
    · refine⟨bm,es.size,?_,?_⟩
      · rw[World.var?_cell hg' hvar 0,←Array.getElem?_toList,hcs]
        rfl
      · have hown:=World.ownsMap_of_fit (R:=plainElem Tryz.prog 3) hb F (fun x _ z hz=>elemAt_plainElem_int Tryz.underlying3 hz)
        have h1:=congrArg Prod.fst hx
        simp only at h1
        rw[←h1] at hown
        exact hown
def firstCells:Array Value:=((List.range 256).map fun c=>Value.int .u8 (Lib.firstT c:Int)).toArray
/-- A world that meets the condition: what the door's own run leaves, and Go's table of UTF-8's first bytes beside it. -/
noncomputable def start (os:Os):World:=
  let w0:=World.doorLaid Tryz.prog 107 os
  {w0 with heap:=w0.heap.modify 2 fun
      | .cells _ t frozen=> .cells firstCells t frozen
      |o=>o}
set_option maxRecDepth 100000 in
theorem met (os:Os) (args:Array Value):laidMetH Tryz.prog Rows.fnQtyBackRow.laid ((start os).forCall (fun _ _=>0) ⟨#[],args,[]⟩).memory:=
  laidMetH_of_parts3 (fuel:=8) (laidMet_of_run' 8 (by kernel_rfl) (by kernel_rfl)) (by kernel_rfl) (by kernel_rfl)
set_option maxRecDepth 100000 in
theorem lifted (os:Os) (started:os.Started) (H:Type) (enc:TypeId×Value→H):
    ReturnsInHanded {} Tryz.checked os 3 .any (fun w args=>(Rows.fnQtyBackSpec.pre enc Tryz.prog Tryz.f3 [] false w args∧laidMetH Tryz.prog Rows.fnQtyBackRow.laid w)∧sizedMet enc Tryz.prog Tryz.f3 (OpenSpec.ofChange Rows.fnQtyBackSpec) false w args) (Rows.fnQtyBackSpec.post enc Tryz.prog Tryz.f3 false true false false):=by
  refine handed (C:=Tryz.checked) (X:=fun w _=>laidMetH Tryz.prog Rows.fnQtyBackRow.laid w) (fun _ _ _ hh h=>h.of_heap hh) own started (by kernel_rfl) Tryz.func3
    (ChangeSpec.witness_shaped (enc:=enc) (C:=Tryz.checked) (os:=os) (X:=fun w _=>laidMetH Tryz.prog Rows.fnQtyBackRow.laid w) false (start os) #[.slice none 0 0, .slice none 0 0] 8 rfl (World.shaped_of_RefB (by kernel_rfl) (by kernel_rfl)) (by kernel_rfl) (by kernel_rfl) (by kernel_rfl) (met os _)) ?_
  intro W base args ds gs before hval0 hW hsh hL
  have hG:=gw_of hL hsh
  have hval:∀(j:Nat) t v,Tryz.f3.params[j]? =some t→args[j]? =some v→Value.okWide Tryz.prog W .any base t v:=hval0
  have hW':=hW
  obtain⟨p,q,hA0,hV,rfl,hfz,hnd⟩:=hW
  have hA:DataW.TrodAll enc Tryz.prog W 0 (fun _=>true) true Tryz.f3.params.toList args.toList ds p:=hA0
  rw[Tryz.params3] at hA hval
  obtain⟨v0,vs0,d0,ds0,p0,q0,hargs,rfl,rfl,h0,r0⟩:=trodAll_cons hA
  obtain⟨v1,vs1,d1,ds1,p1,q1,rfl,rfl,rfl,h1,r1⟩:=trodAll_cons r0
  obtain⟨rfl,rfl,rfl⟩:=trodAll_nil r1
  obtain rfl:args= #[v0,v1]:=by cases args;simp_all
  have hV1:DataW.TrodVars enc Tryz.prog W (fun _=>true) ["loop.example/g00043/impl.prefixes"] gs q:=hV
  obtain⟨g,t,cs,fuel,dm,p',rfl,hg,ht,hvar,hd,rfl⟩:=trodVars_one hV1
  obtain rfl:=Option.some.inj (gPref.symm.trans hg)
  obtain rfl:=Option.some.inj (tPref.symm.trans ht)
  have hltv:∀x∈p',x.block<W.heap.size:=fun x hx=>hW'.lt x (List.mem_append_right _ (List.mem_append_right _ hx))
  have h0lt:0<W.heap.size:=by obtain⟨_,_,hc,_⟩:=hG.pre;exact Lib.lt_of_cell hc
  obtain⟨mv,hcs,hmv⟩:∃mv:Value,cs= #[mv]∧mv.cells= #[mv]:=by
    rcases WideElems.open_map Tryz.underlying87 hd with⟨h,_⟩|⟨bm,_,_,_,_,h,_⟩
    · exact⟨.map none,by cases cs;simp_all,rfl⟩
    · exact⟨.map (some bm),by cases cs;simp_all,rfl⟩
  subst hcs
  obtain⟨A0,len0,cap0,rfl⟩:=okWide_slice Tryz.underlying22 (hval 0 22 v0 rfl rfl)
  have k0:=h0
  have lt0:∀x∈p0,x.block<W.heap.size:=by obtain⟨m,hm⟩:=k0;exact DataW.trod_lt m _ _ _ hm
  obtain⟨l0,e0,c0,r50,m0,w0⟩:=Dec.arg_slice (e':=0) Tryz.underlying22 (by kernel_rfl) (Dec.int Tryz.underlying5) h0
  subst e0
  obtain⟨A1,len1,cap1,rfl⟩:=okWide_slice Tryz.underlying22 (hval 1 22 v1 rfl rfl)
  have k1:=h1
  have lt1:∀x∈p1,x.block<W.heap.size:=by obtain⟨m,hm⟩:=k1;exact DataW.trod_lt m _ _ _ hm
  obtain⟨l1,e1,c1,r51,m1,w1⟩:=Dec.arg_slice (e':=0) Tryz.underlying22 (by kernel_rfl) (Dec.int Tryz.underlying5) h1
  subst e1
  clear hA0 hval0
  obtain⟨k,h⟩:=Pure.FnQtyBack _ _ m0 w0 m1 w1
  refine(PFnQtyBack.laws_FnQtyBack.calls k A0 cap0 l0 A1 cap1 l1 true W r50 c0 r51 c1 rfl h hG).mono fun e W' ⟨he,bel⟩=> ?_
  subst he
  obtain⟨fuel',hd'⟩:=Below.trod laidOut (by kernel_rfl) (of_decide_eq_true (by kernel_rfl)) (v:=mv) (⟨fuel,by rw[hmv];exact hd⟩:DataW.Trod enc Tryz.prog W 0 (fun _=>true) true 87 mv dm p') bel hltv
  have hv':=trodVars_mk1 (enc:=enc) (spare:=fun b=>decide (b<W.heap.size)) hg ht (var?_below bel hg h0lt hvar) (by rw[hmv] at hd';exact hd')
  exact⟨_,rfl,_,_,_,[],_,_,hW',trodAll_mk1 (shut_bool Tryz.underlying4 _),(trodAll_cons_mk (Below.trod laidOut (by kernel_rfl) (of_decide_eq_true (by kernel_rfl)) k0 bel lt0) (trodAll_cons_mk (Below.trod laidOut (by kernel_rfl) (of_decide_eq_true (by kernel_rfl)) k1 bel lt1) trodAll_mk0)),hv',bel.frame _,fun h=>by cases h⟩
theorem over:Rows.fnQtyBackRow.holds Tryz.pinned (OpenSpec.ofChange Rows.fnQtyBackSpec):=
  OpenClaim.holds_of_wide 3 Tryz.f3 rfl rfl rfl rfl rfl rfl rfl ⟨rfl,rfl,rfl,rfl,rfl⟩ rfl rfl rfl rfl rfl (by kernel_rfl) Tryz.func3 (by kernel_rfl)
    (of_decide_eq_true (by kernel_rfl)) (by unfold Func.isWrapper;first|(rw[if_pos (by decide+kernel)];kernel_rfl)|(rw[if_neg (by decide+kernel)];exact⟨rfl,rfl⟩))
    (fun os started H enc _=>lifted os started H enc)
theorem proved:Rows.FnQtyBackCardSaid:=
  Claim7.holds_tied_plain_at .later [] [.data, .data, .data, .data, .sentinel, .sentinel, .mapped, .pinned] true (true, "4e57379c7186f6ee88154bbef4d3a3f18f7a0e7e43b3511f0115a4c42a1311c5") true
    over (fun _ h=>by cases h) (by kernel_rfl) (fun _ h=>by cases h) fnQtyBack_row_tie rfl ⟨rfl,rfl⟩ (by kernel_rfl) rfl
    (fun f fn hf hfn=>by
      obtain rfl:f=3:=Option.some.inj ((show Tryz.prog.funcNamed "loop.example/g00043/laws.FnQtyBack" =some 3 by kernel_rfl).symm.trans hf) |>.symm
      obtain rfl:fn=Tryz.f3:=(Option.some.inj (Tryz.func3.symm.trans hfn)).symm
      exact⟨by kernel_rfl,fun j t ht=>by
        rw[Tryz.params3] at ht
        have hm:t∈[22,22]:=by simpa using Array.mem_of_getElem? ht
        have hall:([22,22].all fun u=> !Tryz.prog.wantsStandIn u)=true:=by kernel_rfl
        exact(show Tryz.prog.wantsStandIn t=false by simpa using List.all_eq_true.1 hall t hm)⟩)
    (by kernel_rfl)
#print axioms proved
end Go.Proofs.YtanohnlddaneeaaGreatDoor.fnQtyBack
namespace Go.Proofs.YtanohnlddaneeaaGreatDoor
theorem fnQtyBack_holds:Rows.FnQtyBackCardSaid:=fnQtyBack.proved
end Go.Proofs.YtanohnlddaneeaaGreatDoor
