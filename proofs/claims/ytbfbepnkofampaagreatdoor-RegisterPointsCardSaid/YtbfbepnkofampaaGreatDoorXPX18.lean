import Derived.Stop.LaidErr
import Derived.Test.YtbfbepnkofampaaGreatDoorCards
import Derived.Test.YtbfbepnkofampaaGreatDoorTie
import Derived.Test.YtbfbepnkofampaaGreatDoorXPX08
set_option maxRecDepth 100000
set_option synthInstance.maxSize 2000
set_option synthInstance.maxHeartbeats 400000
set_option maxHeartbeats 8000000
set_option linter.all false
section
namespace Go.Rg
open Go Go.Bp Go.RowKit Go.Walk Go.Proofs Go.ChangeShapes Go.WideShapes Go.ChangeAt
def listed:List (String×DataW Unit):=Go.Proofs.YtbfbepnkofampaaGreatDoor.Rows.registerHeldRow.laid
theorem star_err: "*" ++ "errors.errorString" = "*errors.errorString" :=by decide
theorem rowPtr(u:TypeId)(h:Tryz.prog.typeName? 3 u=some "*errors.errorString"):u=377:=
 typeName_ptr_named (nm:= "errors.errorString") (by rw[star_err];kernel_rfl) (by kernel_rfl) (by decide) u (by rw[star_err];exact h)
theorem Ki{W:World}(h:laidMetH Tryz.prog listed W)(hs:W.ShapedOpen Tryz.prog):Env W:=by
 rw[MakeChecks.laidMetH_plain _ _ _ (by kernel_rfl)] at h
 have h2:=h.tail.tail;have h4:=h2.tail.tail;have h5:=h4.tail;have tab:=Lib.tabIs_of_head (zs:=Lib.pow10Tab) (k:=.u64) (g:=5) (t:=374) (n:=20) (e:=257) (by kernel_rfl) (by kernel_rfl) Tryz.underlying374 Tryz.underlying257 (by kernel_rfl) (by kernel_rfl) h2
 obtain⟨a1,s1,hv1,_⟩:=laid_sentinel h4 (show Tryz.prog.globalNamed "strconv.ErrRange" =some 2 by kernel_rfl) (ti:=216) (by kernel_rfl) Tryz.underlying216 rowPtr Tryz.underlying377 Tryz.underlying379 rfl rfl Tryz.underlying9 (by kernel_rfl) (by kernel_rfl)
 obtain⟨a2,s2,hv2,_⟩:=laid_sentinel h5 (show Tryz.prog.globalNamed "strconv.ErrSyntax" =some 1 by kernel_rfl) (ti:=216) (by kernel_rfl) Tryz.underlying216 rowPtr Tryz.underlying377 Tryz.underlying379 rfl rfl Tryz.underlying9 (by kernel_rfl) (by kernel_rfl)
 refine⟨?_,?_,?_,tab⟩
 ·exact cell_of_shapedOpen_int (P:=Tryz.prog) (g:=0) (t:=3) (zero:=#[.int .i64 0]) hs (of_decide_eq_true (by kernel_rfl)) (by kernel_rfl) rfl (by kernel_rfl) (by kernel_rfl) Tryz.underlying3
 ·exact⟨_,_,by simpa using World.var?_cell (show Tryz.prog.globalNamed "strconv.ErrSyntax" =some 1 by kernel_rfl) hv2 0⟩
 ·exact⟨_,_,by simpa using World.var?_cell (show Tryz.prog.globalNamed "strconv.ErrRange" =some 2 by kernel_rfl) hv1 0⟩
theorem kZ{H:Type}{enc:TypeId×Value→H}{a:Assume}{C:Checked}{os:Os}{f:FuncId}{fn:Func}{s:ChangeSpec}{conds:List PathCond}{apart fresh handsOn again:Bool}{X:World→Array Value→Prop}
 (hX:∀(w w':World)(args:Array Value),w.heap=w'.heap→X w args→X w' args)
 (own:ownKnob C.prog.godebug=none)(started:os.Started)(noInit:C.prog.inits.idxOf? f=none)(hfn:C.prog.funcs[f]? =some fn)
 (witness:∃(w:World)(tape:Tape)(i:Input),w.os=os∧(w.forCall tape i).Shaped C.prog∧i.vars=[]∧Input.okWide C.prog (w.forCall tape i) .any w.heap.size f i∧
  ((s.pre enc C.prog fn conds apart (w.forCall tape i).memory i.args∧X (w.forCall tape i).memory i.args)∧sizedMet enc C.prog fn (OpenSpec.ofChange s) apart (w.forCall tape i).memory i.args)∧a.holds C.prog (lone (Frame.enter C.prog f i.args .normal) [] (w.forCall tape i)))
 (contract:∀(W:World)(base:Nat)(args:Array Value)(ds gs:List (DataW H))(before:List MemPlace),
  (∀(j:Nat)t v,fn.params[j]? =some t→args[j]? =some v→Value.okWide C.prog W .any base t v)→
  DataW.Whole enc C.prog fn.params.toList s.vars apart W args.toList ds gs before→X W args→W.ShapedOpen C.prog→sizedMet enc C.prog fn (OpenSpec.ofChange s) apart W args→
  Calls C.prog f args W fun e W'=>∃v,e=.returned v∧s.post enc C.prog fn apart fresh handsOn again W args v W'):
 ReturnsInHanded a C os f .any (fun w args=>(s.pre enc C.prog fn conds apart w args∧X w args)∧sizedMet enc C.prog fn (OpenSpec.ofChange s) apart w args) (s.post enc C.prog fn apart fresh handsOn again):=by
 refine returnsInHanded_of_calls own started noInit witness ?_;intro w tape i _ hsh _ hok hpre hholds;obtain⟨_,_,_,fn',hfn',_,_,_,_,hval⟩:=hok;have e:fn'=fn:=Option.some.inj (hfn'.symm.trans hfn);subst e;obtain⟨⟨⟨ds,gs,before,hw,hc⟩,hx⟩,hz⟩:=hpre;have hw':=DataW.Whole.of_heap (w':=w.forCall tape i) (by rfl) hw
 have hz':sizedMet enc C.prog fn' (OpenSpec.ofChange s) apart (w.forCall tape i) i.args:=by
  obtain⟨h1,ds,gs,before,h2,h3⟩:=hz;exact⟨h1,ds,gs,before,DataW.Whole.of_heap (w':=w.forCall tape i) (by rfl) h2,h3⟩
 refine(contract (w.forCall tape i) w.heap.size i.args ds gs before hval hw' (hX _ _ _ (by rfl) hx) hsh hz').mono fun e W' ⟨v,he,hp⟩=> ?_
 subst he;exact ChangeSpec.post_blind hp
theorem own_knob:ownKnob Tryz.prog.godebug=none:=by kernel_rfl
theorem laid_out:laidOutB Tryz.prog=true:=by kernel_rfl
end Go.Rg
end
section
namespace Go.Proofs.YtbfbepnkofampaaGreatDoor
open Go Go.Bp Go.Rg Go.Walk Go.RowKit Go.Proofs Go.ChangeShapes Go.WideShapes Go.ChangeAt
theorem loP:laidOutB Tryz.pinned.checked.prog=true:=by kernel_rfl
theorem mrP:mapsRowed Tryz.pinned.checked.prog=true:=by kernel_rfl
theorem meP:Tryz.pinned.checked.prog.mayEnter=true:=by kernel_rfl
theorem liP:(Rows.registerHeldRow.lifted==Tryz.pinned.checked.prog.liftsFinal)=true:=by kernel_rfl
theorem shP:Tryz.pinned.checked.prog.stopsHeard=true:=by kernel_rfl
theorem mkP:(Tryz.pinned.checked.prog.make==some Rows.registerHeldRow.make)=true:=by kernel_rfl
theorem looksP:true=Tryz.pinned.checked.prog.looks []:=by kernel_rfl
theorem mainP:Tryz.pinned.checked.prog.mainIs=some ((true,"4970e1223911c70aa7bcdc0bdc6bbce8f6a3c11b3c24a4250f4776a5114b5b9d").1,(true,"4970e1223911c70aa7bcdc0bdc6bbce8f6a3c11b3c24a4250f4776a5114b5b9d").2.toList):=by kernel_rfl
theorem nm4:(Rows.registerPointsRow.named==Tryz.pinned.checked.prog.varsNamed 4)=true:=by kernel_rfl
end Go.Proofs.YtbfbepnkofampaaGreatDoor
end
