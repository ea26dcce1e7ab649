import Derived.Shelf.SlIterI.Nil
import Derived.Shelf.SortM.Plain
import Derived.Shelf.SortM.SortNone
import Derived.Test.YtbfbepnkofampaaGreatDoorXP22
set_option maxRecDepth 100000
set_option synthInstance.maxSize 2000
set_option synthInstance.maxHeartbeats 400000
set_option maxHeartbeats 8000000
set_option linter.all false
section
namespace Go.Rg
open Go Go.Bp Go.RowKit Go.Walk Go.Proofs
instance{W:World}{g:Nat}{d:Int}{l:List Span}[h:BlkC W g 3 [.int .i64 d]]:PredC Span W (.func (.func 195) #[] #[.pointer (some ⟨g,0,none⟩)]) l (fun s=>inB d s.lo s.hi):=
 ⟨_,_,rfl,enters_of Tryz.func195 (by kernel_rfl) rfl,fun x hx W' hE=>by
  have i1:BlkC W' g 3 [.int .i64 d]:=⟨h.h.ext hE⟩;obtain⟨lo,hi⟩:=x;have go:Calls Tryz.prog 195 #[.agg #[.int .i64 lo,.int .i64 hi],.pointer (some ⟨g,0,none⟩)] W' (RB W' (inB d lo hi)):=by
   obtain⟨b,hb⟩:∃b,inB d lo hi=b:=⟨_,rfl⟩;have hb2:outB lo hi [d]= !b:=by rw[bL,hb]
   rw[hb];clear hb;go_enter Tryz.func195,Tryz.ntmps195
   go_wp2_with (first|(with_reducible refine aA ?_)|(with_reducible refine aB ?_;first|rintro _ V ⟨rfl,(_:StepC _ _)⟩)|(with_reducible refine aH ?_;intro V g _ _ _)|(with_reducible refine aD ?_;intro V g _ _ _))
   go_ret
   exact⟨by simp,⟨ExtC.h⟩⟩
  exact go.mono fun e W2 ⟨h,hE⟩=>⟨h,hE.h⟩⟩
theorem Nb(v:Value)(l:List Span)(d:Int)(w:World)[h:ListC Span w v l]:Calls Tryz.prog 129 #[v,.int .i64 d] w (RB w (hasDay l d)):=by
 have hb:(l.any fun s=>inB d s.lo s.hi)=hasDay l d:=rfl
 have i1:=ListB.mk h.h;clear h;go_enter Tryz.func129,Tryz.ntmps129
 go_wp2_with (first|(with_reducible refine aB ?_;first|rintro _ V ⟨rfl,(_:StepC _ _)⟩)|(with_reducible refine aH ?_;intro V g _ _ _))
 go_ret
 exact⟨rfl,⟨ExtC.h⟩⟩
instance{W:World}{v:Value}{l:List Span}{d:Int}[h:ListC Span W v l]:FunC Tryz.prog 129 #[v,.int .i64 d] W (RB W (hasDay l d)):=⟨Nb v l d W⟩
def banN(co bs:List Span)(d:Int):Int:=if hasDay co d=true then 1 else if hasDay bs d=true then 2 else 0
theorem Bm(gf gt:Nat)(vC vD vT:Value)(vl vf vb born d:Int)(ve vc vp vg:Value)(co bs:List Span)(w:World)[hB:BlkC w gf 121 [vC,vD,vT,.int .i64 vl,.int .i64 vf,.int .i64 vb,.int .i64 born,ve,vc,vp,.map (some gt),vg]][h1:ListC Span w vc co][h2:ListC Span w vp bs]:Calls Tryz.prog 70 #[.pointer (some ⟨gf,0,none⟩),.int .i64 d] w (RI w (banN co bs d)):=by
 have i1:=ListB.mk h1.h;have i2:=ListB.mk h2.h;obtain⟨b1,hb1⟩:∃b,hasDay co d=b:=⟨_,rfl⟩;obtain⟨b2,hb2⟩:∃b,hasDay bs d=b:=⟨_,rfl⟩;unfold banN;rw[hb1,hb2];clear h1 h2
 cases b1
 ·cases b2
  ·go_enter Tryz.func70,Tryz.ntmps70
   go_wp2_with (first|(with_reducible refine aA ?_)|(with_reducible refine aB ?_;first|rintro _ V ⟨rfl,(_:StepC _ _)⟩))
   go_ret
   exact⟨rfl,⟨ExtC.h⟩⟩
  ·go_enter Tryz.func70,Tryz.ntmps70
   go_wp2_with (first|(with_reducible refine aA ?_)|(with_reducible refine aB ?_;first|rintro _ V ⟨rfl,(_:StepC _ _)⟩))
   go_ret
   exact⟨rfl,⟨ExtC.h⟩⟩
 ·go_enter Tryz.func70,Tryz.ntmps70
  go_wp2_with (first|(with_reducible refine aA ?_)|(with_reducible refine aB ?_;first|rintro _ V ⟨rfl,(_:StepC _ _)⟩))
  go_ret
  exact⟨rfl,⟨ExtC.h⟩⟩
class BanE (co bs:List Span) (d:Int) (n:outParam Int):Prop where h:banN co bs d=n
instance{gf gt:Nat}{vC vD vT:Value}{vl vf vb born d:Int}{ve vc vp vg:Value}{co bs:List Span}{W:World}{n:Int}[hB:BlkC W gf 121 [vC,vD,vT,.int .i64 vl,.int .i64 vf,.int .i64 vb,.int .i64 born,ve,vc,vp,.map (some gt),vg]][h1:ListC Span W vc co][h2:ListC Span W vp bs][e:BanE co bs d n]:FunC Tryz.prog 70 #[.pointer (some ⟨gf,0,none⟩),.int .i64 d] W (RI W n):=⟨by rw[←e.h];exact Bm gf gt vC vD vT vl vf vb born d ve vc vp vg co bs W⟩
def errForm(e:Int):List PanicEntry:=[{v:=.iface 32 (.int .i64 e),recovered:=false}]
theorem Qa(e:Int)(w:World):Calls Tryz.prog 85 #[.bool true,.int .i64 e] w fun o w'=>o=.returned (.tuple #[])∧StepC w w':=by
 go_enter Tryz.func85,Tryz.ntmps85
 go_wp2
 (first|refine bodyPost_end (results_none rfl _ _ _) (by rfl) ?_)
 exact⟨rfl,⟨Ext.refl _⟩⟩
theorem qK(e:Int)(w:World):Calls Tryz.prog 85 #[.bool false,.int .i64 e] w fun o w'=>o=.panicked (errForm e)∧w'=w:=by
 go_enter Tryz.func85,Tryz.ntmps85
 go_wp2
 exact⟨rfl,rfl,rfl⟩
theorem tassert(e:Int)(w:World):(Instr.typeAssert (.iface 32 (.int .i64 e)) 20 32 false).run Tryz.prog w=.ok (.int .i64 e) w:=by
 kernel_rfl
theorem Fz(g4 g5:Nat)(a4 a5:Value)(e:Int)(w:World)(h4:BlkC w g4 115 [a4])(h5:BlkC w g5 32 [a5]):
 CallsD Tryz.prog 114 #[.pointer (some ⟨g4,0,none⟩),.pointer (some ⟨g5,0,none⟩)] (.panicking (errForm e)) w fun o u' w'=>
  o=.returned (.tuple #[])∧u'=.panicking [{v:=.iface 32 (.int .i64 e),recovered:=true}]∧Blk w' g4 115 #[.pointer none]∧Blk w' g5 32 #[.int .i64 e]∧∀v0:World,Ext v0 w→v0.heap.size≤g4→v0.heap.size≤g5→Ext v0 w':=by
 have n45:g4≠g5:=fun h=>by subst h;have h1:=h4.h;have h2:=h5.h;unfold Blk at h1 h2;rw[h1] at h2;injection h2 with h2;injection h2 with _ h2;cases h2
 refine callsD_of_wpS Tryz.func114 rfl fun c₀ cs hu=> ?_
 apply wpS_seq;apply wpS_region;simp[wpOpsS,go_sem,recoverD,hu,errForm,Tryz.ntmps114,Exit.thenS];apply wpS_seq;apply wpS_region;simp[wpOpsS,go_sem,Tryz.ntmps114,Exit.thenS];refine wpS_cond (t:=true) (by simp[Act.eval,Array.replicate]) ?_
 simp only[if_true];apply wpS_of_wp;have hta:=fun W=>tassert e W
 have ne1:NeC g4 g5:=⟨n45⟩;have ne2:NeC g5 g4:=⟨n45.symm⟩;simp only[List.size_toArray,List.length_cons,List.length_nil,Nat.reduceAdd,Nat.reduceSub,Array.replicate_succ,Array.replicate_zero,List.push_toArray,List.append_toArray,List.nil_append,List.cons_append,List.setIfInBounds_toArray,List.set_cons_zero,List.set_cons_succ];refine gM ?_;refine dA ((.take 0 (.take 1 (.one 2 (.one 3 .nil))))) (fun _=>True) trivial (fun hHd=> ?_) (hQ:=by intro _ _ _ _ _ h;exact absurd h.1 (fun e=>by cases e))
 repeat' first|((with_reducible refine aX ?_);(first|(refine tk (v:= ?_) ?_ hHd ?_;rotate_left;(·(intro wq hSw;go_simp;(try with_reducible rfl)))));(try simp only[pS]))|((with_reducible refine bC ?_);refine aQ (by simp only[gS];rfl) ?_)|(with_reducible refine aI ?_;intro Vs hS hSB)|((with_reducible refine bD ?_);clear hHd;refine aM trivial (fun hHd=> ?_);(try simp only[pS]))|(with_reducible refine aF ?_)
 all_goals
  refine⟨rfl,?_⟩;refine⟨rfl,_,rfl,.tuple #[],by simp[results,Tryz.results114],rfl,rfl,(inferInstance:BlkC Vs g4 115 [.pointer none]).h,(inferInstance:BlkC Vs g5 32 [.int .i64 e]).h,fun v0 hv l4 l5=> ?_⟩
  have c1:StepC v0 w:=⟨hv⟩;have c2:AtC v0 g4:=⟨l4⟩;have c3:AtC v0 g5:=⟨l5⟩;exact ExtC.h
theorem Ke(g4 g5:Nat)(w:World):
 CallsD Tryz.prog 114 #[.pointer (some ⟨g4,0,none⟩),.pointer (some ⟨g5,0,none⟩)] .returning w fun e u' w'=>e=.returned (.tuple #[])∧u'=.returning∧w'=w:=by
 refine callsD_of_wpS Tryz.func114 rfl fun c₀ cs hu=> ?_
 apply wpS_seq;apply wpS_region;simp[wpOpsS,go_sem,recoverD,hu,Tryz.ntmps114,Exit.thenS];apply wpS_seq;apply wpS_region;simp[wpOpsS,go_sem,Tryz.ntmps114,Exit.thenS];refine wpS_cond (t:=false) (by simp[Act.eval,Array.replicate]) ?_
 simp only[Bool.false_eq_true,if_false];refine wpS_of_wp (wp_skip ?_)
 cases c₀
 simp_all[bodyPostS,results,Tryz.results114]
theorem Nn(g3 g4 gf:Nat)(vC vD vT:Value)(vl vf vb born i k d c o t q p u m e:Int)(ve vc vp vm vg pe:Value)(r:Rules)(w:World)[hB:BlkC w gf 121 [vC,vD,vT,.int .i64 vl,.int .i64 vf,.int .i64 vb,.int .i64 born,ve,vc,vp,vm,vg]][hR:RulesC w (.agg #[vC,vD,vT,.int .i64 vl,.int .i64 vf,.int .i64 vb]) r][h0:SysOk r.sys][b3:BlkC w g3 31 [.int .i64 born,pe]][b4:BlkC w g4 115 [.pointer (some ⟨gf,0,none⟩)]](he:r.eventErr born ⟨k,d,⟨c,o⟩,t,q,p,u,m⟩=e):
 Calls Tryz.prog 117 #[.int .i64 i,.agg #[.int .i64 k,.int .i64 d,.int .i64 c,.int .i64 o,.int .i64 t,.int .i64 q,.int .i64 p,.int .i64 u,.int .i64 m],.pointer (some ⟨g4,0,none⟩),.pointer (some ⟨g3,0,none⟩)] w (RI w e):=by
 have i1:=EvE.mk he;have i2:=RulesB.mk hR.h;clear he hR;go_enter Tryz.func117,Tryz.ntmps117
 go_wp2_with (first|(with_reducible refine aH ?_;intro V g _ _ _))
 refine aP ((.take 0 (.take 1 (.take 2 (.take 3 (.take 4 (.take 5 (.take 6 (.one 7 (.take 8 .nil)))))))))) (fun hHd=> ?_) (hQ:=by intro _ _ _ _ _ h;exact h)
 repeat' first|((with_reducible refine aX ?_);(first|(refine tk (v:= ?_) ?_ hHd ?_;rotate_left;(·(intro W' h;have:=StepC.mk h;first|with_reducible exact aJ)))|(refine tk (v:= ?_) ?_ hHd ?_;rotate_left;(·(intro wq hSw;go_simp;(try with_reducible rfl)))));(try simp only[pS]))|((with_reducible refine bC ?_);refine aQ (by simp only[gS];rfl) ?_)|((with_reducible refine aN ?_);first|(rintro _ V ⟨rfl,(_:StepC _ _)⟩;refine⟨_,rfl,?_⟩))|((with_reducible refine bD ?_);clear hHd;refine aM ExtC.h (fun hHd=> ?_);(try simp only[pS]))|(with_reducible refine aF ?_)
 go_wp2
 go_ret
 exact⟨rfl,⟨ExtC.h⟩⟩
instance{W:World}{g3 g4 gf:Nat}{vC vD vT:Value}{vl vf vb born:Int}{ve vc vp vm vg pe:Value}{r:Rules}{l:List Event}[hB:BlkC W gf 121 [vC,vD,vT,.int .i64 vl,.int .i64 vf,.int .i64 vb,.int .i64 born,ve,vc,vp,vm,vg]][hR:RulesC W (.agg #[vC,vD,vT,.int .i64 vl,.int .i64 vf,.int .i64 vb]) r][h0:SysOk r.sys][b3:BlkC W g3 31 [.int .i64 born,pe]][b4:BlkC W g4 115 [.pointer (some ⟨gf,0,none⟩)]]:
 ChkC Event W (.func (.func 117) #[] #[.pointer (some ⟨g4,0,none⟩),.pointer (some ⟨g3,0,none⟩)]) l (fun _ x=>r.eventErr born x):=
 ⟨_,_,_,rfl,enters_of Tryz.func117 (by kernel_rfl) rfl,fun k hk W' hE=>by
  have i1:BlkC W' gf 121 [vC,vD,vT,.int .i64 vl,.int .i64 vf,.int .i64 vb,.int .i64 born,ve,vc,vp,vm,vg]:=⟨hB.h.ext hE⟩;have i2:RulesC W' (.agg #[vC,vD,vT,.int .i64 vl,.int .i64 vf,.int .i64 vb]) r:=⟨hR.h.ext hE⟩;have i3:BlkC W' g3 31 [.int .i64 born,pe]:=⟨b3.h.ext hE⟩;have i4:BlkC W' g4 115 [.pointer (some ⟨gf,0,none⟩)]:=⟨b4.h.ext hE⟩;exact(Nn g3 g4 gf vC vD vT vl vf vb born _ _ _ _ _ _ _ _ _ _ _ ve vc vp vm vg pe r W' rfl).mono fun e W2 ⟨h,hE⟩=>⟨h,hE.h⟩⟩
instance{W:World}{e:Int}:FunC Tryz.prog 85 #[.bool true,.int .i64 e] W (fun o w'=>o=.returned (.tuple #[])∧StepC W w'):=⟨Qa e W⟩
class PersBad (r:Rules) (p:Person) (e:outParam Int):Prop where h:r.personErr p=e∧e≠0
class PersOk (r:Rules) (p:Person):Prop where h:r.personErr p=0
abbrev RNil(W:World)(n:Int)(e:Ending)(W':World):Prop:=e=.returned (.tuple #[.pointer none,.int .i64 n])∧StepC W W'
theorem trunc(W:World)(k:Nat)(hk:k≤W.heap.size):∃T:World,T.heap.size=k∧Ext T W∧(∀a,Ext a W→a.heap.size≤k→Ext a T)∧∀g t l,BlkC W g t l→g<k→BlkC T g t l:=by
 have hsz:(W.heap.extract 0 k).size=k:=by simp;omega
 have hg:∀j,j<k→(W.heap.extract 0 k)[j]? =W.heap[j]? :=fun j hj=>by
  rw[Array.getElem?_extract];simp;omega
 refine⟨{W with heap:=W.heap.extract 0 k},hsz,⟨rfl,rfl,rfl,by show(W.heap.extract 0 k).size≤_;omega,fun j hj=> ?_⟩,fun a ha hak=>⟨ha.os,ha.tape,ha.output,by show _≤(W.heap.extract 0 k).size;omega,fun j hj=> ?_⟩,fun g t l hb hgk=>⟨?_⟩⟩
 ·have hj':j<k:=by rw[←hsz];exact hj
  exact(hg j hj').symm
 ·show(W.heap.extract 0 k)[j]? =_
  rw[hg j (by omega)];exact ha.block j hj
 ·have h:=hb.h;unfold Blk at h⊢;show(W.heap.extract 0 k)[g]? =_
  rw[hg g hgk];exact h
def openDefer(g4 g5:Nat):List Deferred:=[{target:=.fn (.func 114) #[.pointer (some ⟨g4,0,none⟩),.pointer (some ⟨g5,0,none⟩)],args:=#[]}]
theorem mF{a:Array Value}{g4 g5:Nat}{w:World}{u:Value}{e:Int}(h4:a.getD 4 undef=.pointer (some ⟨g4,0,none⟩))(h5:a.getD 5 undef=.pointer (some ⟨g5,0,none⟩))(hB4:Blk w g4 115 #[u])(hB5:Blk w g5 32 #[.int .i64 e]):
 (results Tryz.f61 a).run Tryz.prog w=.ok (.tuple #[u,.int .i64 e]) w:=by
 have hl4:(loadVar 115 ⟨g4,0,none⟩).run Tryz.prog w=.ok u w:=jB (ScalT.h (P:=Tryz.prog) (t:=115)) (by simpa using hB4.cell 0)
 have hl5:(loadVar 32 ⟨g5,0,none⟩).run Tryz.prog w=.ok (.int .i64 e) w:=jB (ScalT.h (P:=Tryz.prog) (t:=32)) (by simpa using hB5.cell 0)
 have h4':a[4]?.getD undef=.pointer (some ⟨g4,0,none⟩):=by simpa [Array.getD_eq_getD_getElem?] using h4
 have h5':a[5]?.getD undef=.pointer (some ⟨g5,0,none⟩):=by simpa [Array.getD_eq_getD_getElem?] using h5
 simp[results,Tryz.results61,h4',h5',asAddr,hl4,hl5,Result.andThen,Sem.run_bind]
theorem kN{v0 w:World}{g4 g5:Nat}{a4 a5:Value}{e:Int}{a:Act}(hd:a.defers=openDefer g4 g5)(h4:a.tmps.getD 4 undef=.pointer (some ⟨g4,0,none⟩))(h5:a.tmps.getD 5 undef=.pointer (some ⟨g5,0,none⟩))
 (b4:BlkC w g4 115 [a4])(b5:BlkC w g5 32 [a5])(hE:Ext v0 w)(l4:AtC v0 g4)(l5:AtC v0 g5):
 bodyPostD Tryz.prog Tryz.f61 (RNil v0 e) (.panic (errForm e)) a w:=by
 show Leaves Tryz.prog Tryz.f61 a.tmps _ a.defers (.panicking (errForm e)) w
 rw[hd];refine leaves_cons (f:=114) (args:=#[.pointer (some ⟨g4,0,none⟩),.pointer (some ⟨g5,0,none⟩)]) (by simp) (by simp[go_sem]) ?_
 refine(Fz g4 g5 _ _ e w b4 b5).mono ?_;rintro o u' w'' ⟨rfl,rfl,h4',h5',hn⟩;show Leaves Tryz.prog Tryz.f61 a.tmps _ [] .returning w''
 exact⟨_,mF h4 h5 h4' h5',rfl,⟨hn v0 hE l4.h l5.h⟩⟩
theorem Es{w:World}{g4 g5:Nat}{u:Value}{e:Int}{a:Act}{R:Ending→World→Prop}(hd:a.defers=openDefer g4 g5)(h4:a.tmps.getD 4 undef=.pointer (some ⟨g4,0,none⟩))(h5:a.tmps.getD 5 undef=.pointer (some ⟨g5,0,none⟩))
 (b4:BlkC w g4 115 [u])(b5:BlkC w g5 32 [.int .i64 e])(hR:R (.returned (.tuple #[u,.int .i64 e])) w):
 bodyPostD Tryz.prog Tryz.f61 R .ret a w:=by
 show Leaves Tryz.prog Tryz.f61 a.tmps _ a.defers .returning w
 rw[hd];refine leaves_cons (f:=114) (args:=#[.pointer (some ⟨g4,0,none⟩),.pointer (some ⟨g5,0,none⟩)]) (by simp) (by simp[go_sem]) ?_
 refine(Ke g4 g5 w).mono ?_;rintro o u' w'' ⟨rfl,rfl,rfl⟩;show Leaves Tryz.prog Tryz.f61 a.tmps _ [] .returning _
 exact⟨_,mF h4 h5 b4.h b5.h,hR⟩
theorem jT{r:Rules}(h:r.check.2.2=0):r.check=(0,0,0):=by
 unfold Rules.check at h⊢;split at h
 ·rename_i h1;exact absurd h h1
 ·rename_i h1;split at h
  ·simp at h
  ·rename_i h2;split at h
   ·rename_i h3;exact absurd h h3
   ·rename_i h3;split at h
    ·simp at h
    ·rename_i h4;rw[if_neg h1,if_neg h2,if_neg h3,if_neg h4]
theorem zP{r:Rules}{p:Person}{e:Int}(h:r.personErr p=e)(he:e≠0):
 (r.check.2.2=e)∨(r.check=(0,0,0)∧outB 0 40000 [p.born]=true∧e=7)∨(r.check=(0,0,0)∧outB 0 40000 [p.born]=false∧30<p.events.length∧e=3)∨
  (r.check=(0,0,0)∧outB 0 40000 [p.born]=false∧p.events.length≤30∧(firstE p.events fun _ x=>r.eventErr p.born x).2=e):=by
 unfold Rules.personErr at h;split at h
 ·exact .inl h
 ·rename_i h1;have hc:r.check=(0,0,0):=jT (by simpa using h1)
  rw[bL];split at h
  ·rename_i h2;exact .inr (.inl ⟨hc,by rw[h2];rfl,h.symm⟩)
  ·rename_i h2;have h2:inB p.born 0 40000=true:=by simpa using h2
   split at h
   ·rename_i h3;exact .inr (.inr (.inl ⟨hc,by rw[h2];rfl,h3,h.symm⟩))
   ·rename_i h3;exact .inr (.inr (.inr ⟨hc,by rw[h2];rfl,by omega,h⟩))
theorem Jh(r:Rules)(vC vD vT:Value)(vl vf vb born e:Int)(A:Option Addr)(l:List Event)(c:Nat)(w:World)(h:RulesV w (.agg #[vC,vD,vT,.int .i64 vl,.int .i64 vf,.int .i64 vb]) r)(hl:ListV w (.slice A l.length c) l)(hp:r.personErr ⟨born,l⟩=e)(he:e≠0)
 (hx:(r.check=(0,0,0)∧outB 0 40000 [born]=false∧l.length≤30∧(firstE l fun _ x=>r.eventErr born x).2=e)→Calls Tryz.prog 61 #[.agg #[vC,vD,vT,.int .i64 vl,.int .i64 vf,.int .i64 vb],.agg #[.int .i64 born,.slice A l.length c]] w (RNil w e)):
 Calls Tryz.prog 61 #[.agg #[vC,vD,vT,.int .i64 vl,.int .i64 vf,.int .i64 vb],.agg #[.int .i64 born,.slice A l.length c]] w (RNil w e):=by
 have i1:=RulesB.mk h;have i2:=ListB.mk hl;have hcap:=hl.caps;rcases zP hp he with h1|⟨hc,h2,rfl⟩|⟨hc,h2,h3,rfl⟩|⟨hc,h2,h3,h4⟩
 ·obtain⟨⟨pp,pa,e1⟩,hk⟩:∃x,r.check=x:=⟨_,rfl⟩;rw[hk] at h1;simp only at h1;subst h1;have i3:=RChkE.mk hk;have q:(e1==0)=false:=by simpa using he
  clear hk hp he;go_enter_defers Tryz.func61,Tryz.ntmps61
  go_wp2_with (first|(with_reducible refine aH (d:=some 2) ?_;intro V2 g2 hE2 hB2 hA2)|(with_reducible refine aH (d:=some 3) ?_;intro V3 g3 hE3 hB3 hA3)|(with_reducible refine aR (d:=some 4) ?_;intro V4 g4 hE4 hB4 hA4)|(with_reducible refine aR (d:=some 5) ?_;intro V5 g5 hE5 hB5 hA5)|(with_reducible refine aI ?_;intro Vs hS hSB)|(first|(with_reducible refine aA ?_)|(with_reducible refine aB ?_;first|rintro _ V ⟨rfl,(_:StepC _ _)⟩))|(go_at_call 85;refine(qK _ _).mono ?_;rintro _ Vm ⟨rfl,rfl⟩))
  show bodyPostD _ _ _ (.panic (errForm e1)) _ _
  exact kN (g4:=g4) (g5:=g5) rfl rfl rfl (by infer_instance) (by infer_instance) ExtC.h (AtC.up hA4) (AtC.up hA5)
 ·have i3:=RChkE.mk hc;clear hc hp;go_enter_defers Tryz.func61,Tryz.ntmps61
  go_wp2_with (first|(with_reducible refine aH (d:=some 2) ?_;intro V2 g2 hE2 hB2 hA2)|(with_reducible refine aH (d:=some 3) ?_;intro V3 g3 hE3 hB3 hA3)|(with_reducible refine aR (d:=some 4) ?_;intro V4 g4 hE4 hB4 hA4)|(with_reducible refine aR (d:=some 5) ?_;intro V5 g5 hE5 hB5 hA5)|(with_reducible refine aI ?_;intro Vs hS hSB)|(first|(with_reducible refine aA ?_)|(with_reducible refine aB ?_;first|rintro _ V ⟨rfl,(_:StepC _ _)⟩)|(with_reducible refine aD ?_;intro V g _ _ _))|(go_at_call 85;refine(qK _ _).mono ?_;rintro _ Vm ⟨rfl,rfl⟩))
  show bodyPostD _ _ _ (.panic (errForm 7)) _ _
  exact kN (g4:=g4) (g5:=g5) rfl rfl rfl (by infer_instance) (by infer_instance) ExtC.h (AtC.up hA4) (AtC.up hA5)
 ·have i3:=RChkE.mk hc;have q:decide ((l.length:Int)≤30)=false:=by simp only at h3;simp;omega
  clear hc hp h3;go_enter_defers Tryz.func61,Tryz.ntmps61
  go_wp2_with (first|(with_reducible refine aH (d:=some 2) ?_;intro V2 g2 hE2 hB2 hA2)|(with_reducible refine aH (d:=some 3) ?_;intro V3 g3 hE3 hB3 hA3)|(with_reducible refine aR (d:=some 4) ?_;intro V4 g4 hE4 hB4 hA4)|(with_reducible refine aR (d:=some 5) ?_;intro V5 g5 hE5 hB5 hA5)|(with_reducible refine aI ?_;intro Vs hS hSB)|(first|(with_reducible refine aA ?_)|(with_reducible refine aB ?_;first|rintro _ V ⟨rfl,(_:StepC _ _)⟩)|(with_reducible refine aD ?_;intro V g _ _ _))|(go_at_call 85;refine(qK _ _).mono ?_;rintro _ Vm ⟨rfl,rfl⟩))
  show bodyPostD _ _ _ (.panic (errForm 3)) _ _
  exact kN (g4:=g4) (g5:=g5) rfl rfl rfl (by infer_instance) (by infer_instance) ExtC.h (AtC.up hA4) (AtC.up hA5)
 ·exact hx ⟨hc,h2,h3,h4⟩
instance(priority:=600)loadFldS{P:Program}{W:World}{t:TypeId}{p:Addr}{l s:List Value}{i n:Nat}[x:StrucT P t n][y:CellsC W p l][z:SubC l (i+1) n s]:LoadC P W t ⟨p.block,p.off+(i+1),none⟩ (.agg s.toArray):=⟨by
 refine qP x.h (fun j u hu=> ?_) z.h.2
 have e:(⟨p.block,p.off+(i+1),none⟩:Addr).add j=p.add (i+1+j):=by
  unfold Addr.add;by_cases h:j=0
  ·subst h;simp
  ·simp[h];omega
 rw[e];refine y.h (i+1+j) u ?_;have:j<s.length:=(List.getElem?_eq_some_iff.1 hu).1;rw[←z.h.1,List.getElem?_take_of_lt (by have:=z.h.2;omega),List.getElem?_drop] at hu
 exact hu⟩
instance spanOne{W:World}{g:Nat}{lo hi:Int}[h:BlkC W g 95 [.int .i64 lo,.int .i64 hi]]:ListC Span W (.slice (some ⟨g,0,none⟩) 1 1) [⟨lo,hi⟩]:=
 ⟨ListV.blk h.h rfl rfl (by decide)⟩
theorem Aw(lo hi d:Int):hasDay [⟨lo,hi⟩] d=inB d lo hi:=by simp[hasDay]
theorem nA{W:World}{vC vD vT:Value}{vl vf vb:Int}{r:Rules}(h:RulesV W (.agg #[vC,vD,vT,.int .i64 vl,.int .i64 vf,.int .i64 vb]) r){k:Nat}(hk:k<r.sys.classes.length):
 ∃ad n c nm a il q,vC=.slice (some ad) n c∧n=r.sys.classes.length∧n≤c∧c≤9223372036854775807∧Cells W (ad.add (k*5)) [.string nm,.slice a il q,.int .i64 (r.sys.at_ (k:Int)).needs,.int .i64 (r.sys.at_ (k:Int)).age,.int .i64 (r.sys.at_ (k:Int)).term]:=by
 obtain⟨A,n,c,A',c',A2,c2,e,hn,hC,hD,hT⟩:=h.h;injection e with e
 have e:=congrArg Array.toList e;simp at e;obtain⟨rfl,rfl,rfl,-⟩:=e;obtain⟨m,hm1,hm2,-⟩:=hC.h;have hml:m.length=r.sys.classes.length:=by rw[←hm1,List.length_map]
 obtain⟨ad,rfl,hc⟩:=hm2.elem (i:=k) (by omega)
 have hcap:=hm2.caps;have hat:r.sys.at_ (k:Int)=(m[k]'(by omega)).c:=by rw[Sys.at_eq hk];simp only[←hm1];rw[List.getElem_map]
 rw[hat];exact⟨ad,n,c,_,_,_,_,rfl,hn,by omega,by omega,hc⟩
theorem pQ{W:World}{vC vD vT:Value}{vl vf vb:Int}{r:Rules}(h:RulesV W (.agg #[vC,vD,vT,.int .i64 vl,.int .i64 vf,.int .i64 vb]) r){k:Nat}(hk:k<r.treaties.length):
 ∃ad c,vT=.slice (some ad) r.treaties.length c∧r.treaties.length≤c∧c≤9223372036854775807∧Cells W (ad.add (k*5)) (Enc.enc r.treaties[k]):=by
 obtain⟨A,n,c,A',c',A2,c2,e,hn,hC,hD,hT⟩:=h.h;injection e with e
 have e:=congrArg Array.toList e;simp at e;obtain⟨rfl,rfl,rfl,-⟩:=e;obtain⟨ad,rfl,hc⟩:=hT.elem (i:=k) hk;have hcap:=hT.caps;exact⟨ad,c2,rfl,by omega,by omega,hc⟩
theorem lN{s:Sys}(h:s.check=(0,0,0)){k:Nat}(hk:k<s.classes.length): -1≤(s.at_ (k:Int)).needs∧(s.at_ (k:Int)).needs<s.classes.length∧0≤(s.at_ (k:Int)).age∧(s.at_ (k:Int)).age≤100∧0≤(s.at_ (k:Int)).term∧(s.at_ (k:Int)).term≤100:=by
 have ho:=Sys.ok_of (by rw[h])
 have:=Sys.clsErr_0 (ho.cls k hk);rw[Sys.at_eq hk];obtain⟨_,_,_,h4,_,h6,h7⟩:=this;rw[inB_t] at h4 h6 h7;omega
theorem Nd(gf gt:Nat)(vC vD vT:Value)(vl vf vb born d c e:Int)(ve vc vp vg:Value)(r:Rules)(w:World)[hB:BlkC w gf 121 [vC,vD,vT,.int .i64 vl,.int .i64 vf,.int .i64 vb,.int .i64 born,ve,vc,vp,.map (some gt),vg]][hR:RulesC w (.agg #[vC,vD,vT,.int .i64 vl,.int .i64 vf,.int .i64 vb]) r][h0:SysOk r.sys](hc:0≤c∧c<r.sys.classes.length)(he:r.endOf d c=e):Calls Tryz.prog 182 #[.pointer (some ⟨gf,0,none⟩),.int .i64 d,.int .i64 c] w (RI w e):=by
 obtain⟨k,rfl⟩:∃k:Nat,c=(k:Int):=⟨c.toNat,by omega⟩
 have hk:k<r.sys.classes.length:=by omega
 obtain⟨ad,n,q,nm,a,il,p,rfl,hn,hnq,hq,hC⟩:=nA hR.h hk;have hb:=lN h0.h hk;have i1:=CellsB.mk hC;have lk:k<n:=by omega
 obtain⟨tm,htm⟩:∃t,(r.sys.at_ (k:Int)).term=t:=⟨_,rfl⟩;obtain⟨⟨pd,pe⟩,hpl⟩:∃x,plusAns d tm 0=x:=⟨_,rfl⟩;have i2:=PlusE.mk hpl;have hE:e=if tm=0 then 40001 else if pe=0 then pd else 40001:=by
  rw[←he];unfold Rules.endOf;simp only;rw[htm,hpl]
 rw[htm] at hb i1;clear he hC hR h0 hpl htm hn hc hk;by_cases z1:pe=0
 ·subst z1;rw[if_pos rfl] at hE;by_cases z2:0<tm
  ·rw[if_neg (by omega)] at hE
   subst hE;go_enter Tryz.func182,Tryz.ntmps182
   go_wp2_with (first|(with_reducible refine aA ?_)|(with_reducible refine aB ?_;first|rintro _ V ⟨rfl,(_:StepC _ _)⟩))
   go_ret
   exact⟨rfl,⟨ExtC.h⟩⟩
  ·rw[if_pos (by omega)] at hE
   subst hE;go_enter Tryz.func182,Tryz.ntmps182
   go_wp2_with (first|(with_reducible refine aA ?_)|(with_reducible refine aB ?_;first|rintro _ V ⟨rfl,(_:StepC _ _)⟩))
   go_ret
   exact⟨rfl,⟨ExtC.h⟩⟩
 ·have z1':(pe==0)=false:=by simp[z1]
  rw[if_neg z1,ite_self] at hE;subst hE;go_enter Tryz.func182,Tryz.ntmps182
  go_wp2_with (first|(with_reducible refine aA ?_)|(with_reducible refine aB ?_;first|rintro _ V ⟨rfl,(_:StepC _ _)⟩))
  go_ret
  exact⟨rfl,⟨ExtC.h⟩⟩
class EndE (r:Rules) (d c:Int) (e:outParam Int):Prop where
 bd:0≤c∧c<r.sys.classes.length
 h:r.endOf d c=e
instance{gf gt:Nat}{vC vD vT:Value}{vl vf vb born d c e:Int}{ve vc vp vg:Value}{r:Rules}{w:World}[hB:BlkC w gf 121 [vC,vD,vT,.int .i64 vl,.int .i64 vf,.int .i64 vb,.int .i64 born,ve,vc,vp,.map (some gt),vg]][hR:RulesC w (.agg #[vC,vD,vT,.int .i64 vl,.int .i64 vf,.int .i64 vb]) r][h0:SysOk r.sys][z:EndE r d c e]:FunC Tryz.prog 182 #[.pointer (some ⟨gf,0,none⟩),.int .i64 d,.int .i64 c] w (RI w e):=⟨Nd gf gt vC vD vT vl vf vb born d c e ve vc vp vg r w z.bd z.h⟩
theorem xE(gf gt:Nat)(vC vD vT:Value)(vl vf vb born k d c o t q p u m y1 y2 n:Int)(ve vc vp vg:Value)(co bs:List Span)(w:World)[hB:BlkC w gf 121 [vC,vD,vT,.int .i64 vl,.int .i64 vf,.int .i64 vb,.int .i64 born,ve,vc,vp,.map (some gt),vg]][h1:ListC Span w vc co][h2:ListC Span w vp bs][e:BanE co bs d n]:Calls Tryz.prog 178 #[.pointer (some ⟨gf,0,none⟩),.agg #[.int .i64 k,.int .i64 d,.int .i64 c,.int .i64 o,.int .i64 t,.int .i64 q,.int .i64 p,.int .i64 u,.int .i64 m],.agg #[.int .i64 y1,.int .i64 y2]] w (RB w (decide (n=0))):=by
 have i1:=ListB.mk h1.h;have i2:=ListB.mk h2.h;clear h1 h2;go_enter Tryz.func178,Tryz.ntmps178
 go_wp2_with (first|(with_reducible refine aA ?_)|(with_reducible refine aB ?_;first|rintro _ V ⟨rfl,(_:StepC _ _)⟩)|(with_reducible refine aH ?_;intro V g _ _ _))
 go_ret
 exact⟨rfl,⟨ExtC.h⟩⟩
theorem sZ(gf gt:Nat)(vC vD vT:Value)(vl vf vb born k d c o t q p u m y1 y2:Int)(ve vc vp vg:Value)(r:Rules)(w:World)[hB:BlkC w gf 121 [vC,vD,vT,.int .i64 vl,.int .i64 vf,.int .i64 vb,.int .i64 born,ve,vc,vp,.map (some gt),vg]][hR:RulesC w (.agg #[vC,vD,vT,.int .i64 vl,.int .i64 vf,.int .i64 vb]) r](hk:k=1→0≤t∧t<r.treaties.length)(b:Bool)(hb:b= !(decide (k=1)&& !inB d (r.daysOf ⟨k,d,⟨c,o⟩,t,q,p,u,m⟩).lo (r.daysOf ⟨k,d,⟨c,o⟩,t,q,p,u,m⟩).hi)):Calls Tryz.prog 179 #[.pointer (some ⟨gf,0,none⟩),.agg #[.int .i64 k,.int .i64 d,.int .i64 c,.int .i64 o,.int .i64 t,.int .i64 q,.int .i64 p,.int .i64 u,.int .i64 m],.agg #[.int .i64 y1,.int .i64 y2]] w (RB w b):=by
 have Hb:=Lib.hid hb;clear hb;by_cases z:k=1
 ·subst z;obtain⟨j,rfl⟩:∃j:Nat,t=(j:Int):=⟨t.toNat,by have:=hk rfl;omega⟩
  have hj:j<r.treaties.length:=by have:=hk rfl;omega
  obtain⟨ad,n,rfl,hn,hn2,hC⟩:=pQ hR.h hj;obtain⟨tl,htl⟩:∃n,r.treaties.length=n:=⟨_,rfl⟩;have hdd:r.daysOf ⟨1,d,⟨c,o⟩,(j:Int),q,p,u,m⟩=r.treaties[j].days:=by unfold Rules.daysOf;simp[List.getD,hj]
  obtain⟨⟨nm,⟨rc,ro⟩,lo,hi⟩,hx⟩:∃x,r.treaties[j]=x:=⟨_,rfl⟩;rw[hx] at hC hdd;rw[hdd] at Hb;have i1:CellsB w (ad.add (j*5)) [.string nm,.int .i64 rc,.int .i64 ro,.int .i64 lo,.int .i64 hi]:=⟨hC⟩;simp only[htl] at hB hn;have lj:j<tl:=by omega
  clear hx hC hdd hk hR hj htl;go_enter Tryz.func179,Tryz.ntmps179
  go_wp2_with (first|(with_reducible refine aH ?_;intro V g _ _ _))
  refine aP ((.take 0 (.take 1 (.take 2 (.take 3 (.take 4 (.take 5 (.take 6 (.take 7 (.take 8 (.take 9 (.take 10 (.take 11 (.take 12 (.take 13 (.take 14 (.take 16 (.take 17 (.one 15 (.one 18 (.take 19 (.take 20 .nil)))))))))))))))))))))) (fun hHd=> ?_) (hQ:=by intro _ _ _ _ _ h;exact h)
  repeat' first|((with_reducible refine aX ?_);(first|(refine tk (v:= ?_) ?_ hHd ?_;rotate_left;(·(intro W' h;have:=StepC.mk h;first|with_reducible exact aJ)))|(refine tk (v:= ?_) ?_ hHd ?_;rotate_left;(·(intro wq hSw;go_simp;(try with_reducible rfl))))|(refine tw (v:= ?_) ?_ hHd ?_;rotate_left;(·(intro W' h;have:=StepC.mk h;first|with_reducible exact aJ)))|(refine tw (v:= ?_) ?_ hHd ?_;rotate_left;(·(intro wq hSw;go_simp;(try with_reducible rfl)))));(try simp only[pS]))|((with_reducible refine bC ?_);refine aQ (by simp only[gS];rfl) ?_)|(with_reducible refine aD ?_;intro V g _ _ _)|(with_reducible refine bH ?_)|((first|with_reducible refine cG ?_);first|(rintro _ V ⟨rfl,(_:StepC _ _)⟩;refine⟨_,rfl,?_⟩))|((with_reducible refine bD ?_);clear hHd;refine aM ExtC.h (fun hHd=> ?_);(try simp only[pS]))|(with_reducible refine aF ?_)
  all_goals
   simp only[Exit.then];go_wp2
   go_ret
   have e:=Hb.out;subst e;exact⟨by rw[Aw];simp,⟨ExtC.h⟩⟩
 ·have z1:(k !=1)=true:=by simp[z]
  clear hR hk;go_enter Tryz.func179,Tryz.ntmps179
  go_wp2_with (first|(with_reducible refine aH ?_;intro V g _ _ _))
  refine aP ((.take 0 (.take 1 (.take 2 (.take 3 (.take 4 (.take 5 (.take 6 (.take 7 (.take 8 (.take 9 (.take 10 (.take 11 (.take 12 (.take 13 (.take 14 (.take 16 (.take 17 (.one 15 (.one 18 (.take 19 (.take 20 .nil)))))))))))))))))))))) (fun hHd=> ?_) (hQ:=by intro _ _ _ _ _ h;exact h)
  repeat' first|((with_reducible refine aX ?_);(first|(refine tk (v:= ?_) ?_ hHd ?_;rotate_left;(·(intro W' h;have:=StepC.mk h;first|with_reducible exact aJ)))|(refine tk (v:= ?_) ?_ hHd ?_;rotate_left;(·(intro wq hSw;go_simp;(try with_reducible rfl))))|(refine ts hHd ?_));(try simp only[pS]))|((with_reducible refine bC ?_);refine aQ (by simp only[gS];rfl) ?_)|(with_reducible refine fO ?_)|((with_reducible refine bD ?_);clear hHd;refine aM ExtC.h (fun hHd=> ?_);(try simp only[pS]))|(with_reducible refine aF ?_)
  all_goals
   simp only[Exit.then];go_wp2
   go_ret
   have e:=Hb.out;subst e;exact⟨by simp[z],⟨ExtC.h⟩⟩
theorem Ct(gf gt:Nat)(vC vD vT:Value)(vl vf vb born d y1 y2:Int)(vk vr1 vr2 vt vq vp' vu vm:Int)(ve vc vp vg:Value)(r:Rules)(w:World)[hB:BlkC w gf 121 [vC,vD,vT,.int .i64 vl,.int .i64 vf,.int .i64 vb,.int .i64 born,ve,vc,vp,.map (some gt),vg]][hR:RulesC w (.agg #[vC,vD,vT,.int .i64 vl,.int .i64 vf,.int .i64 vb]) r](hc:0≤y1∧y1<r.sys.classes.length)(a e:Int)(ha:ageAns born d=(a,e)):Calls Tryz.prog 180 #[.pointer (some ⟨gf,0,none⟩),.agg #[.int .i64 vk,.int .i64 d,.int .i64 vr1,.int .i64 vr2,.int .i64 vt,.int .i64 vq,.int .i64 vp',.int .i64 vu,.int .i64 vm],.agg #[.int .i64 y1,.int .i64 y2]] w (RB w (decide ((r.sys.at_ y1).age≤a))):=by
 obtain⟨k,rfl⟩:∃k:Nat,y1=(k:Int):=⟨y1.toNat,by omega⟩
 have hk:k<r.sys.classes.length:=by omega
 obtain⟨ad,n,q,nm,ai,il,p,rfl,hn,hnq,hq,hC⟩:=nA hR.h hk;have i1:=CellsB.mk hC;have lk:k<n:=by omega
 have i2:=AgeE.mk ha;obtain⟨ag,hag⟩:∃t,(r.sys.at_ (k:Int)).age=t:=⟨_,rfl⟩;rw[hag] at i1⊢;clear hC hR ha hag hn hc hk;go_enter Tryz.func180,Tryz.ntmps180
 go_wp2_with (first|(with_reducible refine aH ?_;intro V g _ _ _))
 refine aP ((.take 0 (.take 1 (.take 2 (.take 3 (.take 4 (.take 5 (.one 6 (.take 7 (.take 8 (.take 9 (.take 10 (.take 11 .nil))))))))))))) (fun hHd=> ?_) (hQ:=by intro _ _ _ _ _ h;exact h)
 repeat' first|((with_reducible refine aX ?_);(first|(refine tk (v:= ?_) ?_ hHd ?_;rotate_left;(·(intro W' h;have:=StepC.mk h;first|with_reducible exact aJ)))|(refine tk (v:= ?_) ?_ hHd ?_;rotate_left;(·(intro wq hSw;go_simp;(try with_reducible rfl)))));(try simp only[pS]))|((with_reducible refine bC ?_);refine aQ (by simp only[gS];rfl) ?_)|((with_reducible refine aN ?_);first|(rintro _ V ⟨rfl,(_:StepC _ _)⟩;refine⟨_,rfl,?_⟩))|((with_reducible refine bD ?_);clear hHd;refine aM ExtC.h (fun hHd=> ?_);(try simp only[pS]))|(with_reducible refine aF ?_)
 go_wp2
 refine aP ((.take 0 (.take 1 (.take 2 (.take 3 (.take 4 (.take 5 (.take 6 (.take 7 (.take 8 (.take 9 (.take 10 (.take 11 (.take 12 (.take 13 (.take 14 .nil)))))))))))))))) (fun hHd=> ?_) (hQ:=by intro _ _ _ _ _ h;exact h)
 repeat' first|((with_reducible refine aX ?_);(first|(refine tk (v:= ?_) ?_ hHd ?_;rotate_left;(·(intro W' h;have:=StepC.mk h;first|with_reducible exact aJ)))|(refine tk (v:= ?_) ?_ hHd ?_;rotate_left;(·(intro wq hSw;go_simp;(try with_reducible rfl)))));(try simp only[pS]))|(with_reducible refine aF ?_)
 go_wp2
 go_ret
 exact⟨by simp,⟨ExtC.h⟩⟩
end Go.Rg
end
