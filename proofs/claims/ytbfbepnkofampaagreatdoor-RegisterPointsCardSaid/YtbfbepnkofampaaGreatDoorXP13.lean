import Derived.Test.YtbfbepnkofampaaGreatDoorXP12
set_option maxRecDepth 100000
set_option linter.all false
section
namespace Go.Walk
open Go Go.Bp Go.RowKit
class CtlC (a:outParam World) (b:World) (v0:outParam World):Prop where
 h:∃row,a.grownBy b row∧∀r,row=some r→v0.heap.size≤r∧∃o,a.heap[r]? =some o∧o.isCells=false
class KfC (B:Nat) (a b:World):Prop where h:KeepsFrom B a b
section
variable{a b b' v0 W:World}{g n size m B:Nat}{t e:TypeId}{l cs:List Value}{v:Value}
theorem KeepsFrom.ofExt(h:Ext a b):KeepsFrom B a b:=⟨h.size,fun k o _ hk _=>h.heap_some hk⟩
theorem KeepsFrom.ofGrown{row:Option Nat}(h:a.grownBy b row)(hr:∀r,row=some r→∀o,a.heap[r]? =some o→o.isCells=true∨r<B):KeepsFrom B a b:=
 ⟨h.size,fun k o hB hk ho=>(h.block k (Array.getElem?_eq_some_iff.1 hk).1 (fun e=>by
  rcases hr k e.symm o hk with h|h
  ·rw[h] at ho;cases ho
  ·omega)).trans hk⟩
instance(priority:=2000)KfC.refl:KfC B a a:=⟨KeepsFrom.refl _ _⟩
instance(priority:=900)KfC.step[s:StepC b' b][x:KfC B a b']:KfC B a b:=⟨x.h.trans (KeepsFrom.ofExt s.h)⟩
instance(priority:=800)KfC.store[s:StoreC b' b g][y:BlkC b' g t l][x:KfC B a b']:KfC B a b:=⟨x.h.trans (KeepsFrom.ofGrown s.h fun r e o ho=>by
 cases e;have:=y.h;unfold Blk at this;rw[this] at ho;injection ho with ho;subst ho;exact .inl rfl)⟩
theorem RowC.cells_{B':World}(r:RowC W v B' e size m cs){g:Nat}(h:v.ownBlock=some g):∃c z,W.heap[g]? =some (.cells c e z):=by
 rcases r.h.2 with ⟨rfl,_⟩|⟨g',cap,cur,rfl,hb,hh,_⟩
 ·simp[Value.ownBlock] at h
 ·have e:g'=g:=by simpa [Value.ownBlock] using h
  subst e;exact⟨_,_,hh⟩
instance(priority:=850)KfC.grow{B':World}[s:GrowC b' b B' v][y:RowC b' v B' e size m cs][x:KfC B a b']:KfC B a b:=⟨x.h.trans (KeepsFrom.ofGrown s.h fun r e o ho=>by
 obtain⟨c,z,h⟩:=y.cells_ e;rw[h] at ho;injection ho with ho;subst ho;exact .inl rfl)⟩
instance(priority:=850)ExtC.ctl[s:CtlC b' b v0][y:ExtC a v0][x:ExtC a b']:ExtC a b:=⟨by
 obtain⟨row,h1,h2⟩:=s.h;exact x.h.grown h1 x.h.size fun k hk=>Nat.le_trans y.h.size (h2 k hk).1⟩
instance(priority:=850)BlkC.ctl[s:CtlC a b v0][x:BlkC a g t l]:BlkC b g t l:=⟨by
 obtain⟨row,h1,h2⟩:=s.h;refine x.h.grown h1 (fun e=> ?_)
 obtain⟨_,o,ho,hc⟩:=h2 g e.symm;have:=x.h;unfold Blk at this;rw[this] at ho;injection ho with ho;subst ho;cases hc⟩
instance(priority:=850)RowC.ctl{B':World}[s:CtlC a b v0][x:RowC a v B' e size m cs]:RowC b v B' e size m cs:=⟨by
 obtain⟨row,h1,h2⟩:=s.h;refine x.h.kept h1 ?_
 cases hv:v.ownBlock with
 |none=>exact .inl rfl
 |some g=>
  refine .inr fun e=> ?_
  obtain⟨c,z,hh⟩:=x.cells_ hv;obtain⟨_,o,ho,hc⟩:=h2 g e.symm;rw[hh] at ho;injection ho with ho;subst ho;cases hc⟩
class TyNe (t e:Nat):Prop where h:t≠e
instance(priority:=300)NrC.ty{B':World}[r:RowC W v B' e size n cs][q:BlkC W g t l][x:TyNe t e]:NrC W g v:=⟨fun h=>by
 obtain⟨c,z,hh⟩:=r.cells_ h.symm;have:=q.h;unfold Blk at this;rw[hh] at this;injection this with this;injection this with _ this;exact x.h this.symm⟩
instance(priority:=300)RrC.ty{B B':World}{v2:Value}{size2 m2:Nat}{e2:TypeId}{cs2:List Value}[r:RowC W v B e size m cs][q:RowC W v2 B' e2 size2 m2 cs2][x:TyNe e e2]:RrC W v v2:=⟨fun g h h2=>by
 obtain⟨c,z,hh⟩:=r.cells_ h;obtain⟨c2,z2,hh2⟩:=q.cells_ h2;rw[hh] at hh2;injection hh2 with hh2;injection hh2 with _ hh2;exact x.h hh2⟩
theorem cL{β:Type}{I:β→World→Prop}{v0:World}(h:∀s A B,CtlC A B v0→I s A→I s B):OwnFrom v0.heap.size I:=fun s A B row hs hg hr=>h s A B ⟨row,hg,hr⟩ hs
end
theorem Fy{a b v0:World}{p:Addr}{l:List Value}(h:Cells a p l)(c:CtlC a b v0):Cells b p l:=fun j u hj=>by
 obtain⟨row,h1,h2⟩:=c.h;exact cell_kept (h j u hj) h1 (fun r e=>(h2 r e).2)
theorem yY{a b v0:World}{s n:Nat}{v:Value}{l:List Value}(h:Sl a s v n l)(c:CtlC a b v0):Sl b s v n l:=by
 obtain⟨A,k,h1,h2,h3,h4,h5⟩:=h;exact⟨A,k,h1,h2,h3,h4,fun hp=>by obtain⟨ad,h6,h7⟩:=h5 hp;exact⟨ad,h6,Fy h7 c⟩⟩
theorem rAct1(p:Tmp)(v:Value)(a:Act):roundAct #[p] #[v] a={tmps:=a.tmps.setIfInBounds p v,defers:=[]}:=by simp[roundAct]
theorem rAct2(p q:Tmp)(u v:Value)(a:Act):roundAct #[p,q] #[u,v] a={tmps:=(a.tmps.setIfInBounds p u).setIfInBounds q v,defers:=[]}:=by simp[roundAct]
theorem gI{W v0:World}{D:Nat}{o o':Obj}(hk:W.heap[D]? =some o)(h:v0.heap.size≤D)(hc:o.isCells=false:=by rfl):CtlC W (W.putObj D o') v0:=⟨some D,grownBy_putObj' W D _,fun r e=>by cases e;exact⟨h,o,hk,hc⟩⟩
theorem Gy{α:Type}[Enc α]{V B:World}{A:Option Addr}{c n g sz:Nat}{t e:TypeId}{l m:List α}{x:α}{cs:List Value}(h:l=m++ [x])(hb:BlkC V g t [.slice A n c])(hr:RowC V (.slice A n c) B e sz n cs)(hn:n=m.length+1:=by rfl)(hc:cs=encL m++Enc.enc x:=by rfl)(hs:sz=Enc.size α:=by rfl):
 ∃A2 c2,Blk V g t #[.slice A2 l.length c2]∧V.ownsRow B.heap.size e (Enc.size α) (.slice A2 l.length c2) l.length (encL l):=by
 subst h hn hc hs;exact⟨A,c,by simpa using hb.h,by rw[encL_snoc];simpa using hr.h⟩
def SeqG{α:Type}(P:Program)(g:Nat)(lb:Array Value)(xs:List α)(encs:α→Array Value)(Rel:World→World→Prop)(St:Nat→World→Prop):Prop:=
 ∀(l:Nat)(J Jx:Nat→World→Prop)(W:World),(∀k A B,J k A→Rel A B→J k B)→(∀k A B,Jx k A→Rel A B→Jx k B)→
  (∀k(hk:k<xs.length)W1,J k W1→St k W1→YieldAt Fence.wide 0 P l (encs xs[k]) W1 fun e W'=>
   (e=.returned (.bool true)∧J (k+1) W'∧St k W')∨(e=.returned (.bool false)∧Jx (k+1) W'))→
  J 0 W→St 0 W→
  Calls P g (#[.func (.yield l) #[] #[]]++lb) W fun e W'=>(∃v,e=.returned v)∧(J xs.length W'∨∃k,k≤xs.length∧Jx k W')
def postG(B:Nat)(I St:Nat→World→Prop)(Ix:Go.Code→Nat→World→Prop)(k:Nat)(W:World):Exit→Act→World→Prop
 | .normal,_,W'=>KeepsFrom B W W'∧I (k+1) W'∧St k W'
 | .ret,_,W'=>KeepsFrom B W W'∧Ix .ret (k+1) W'
 | .exit id,_,W'=>KeepsFrom B W W'∧Ix (.exit id) (k+1) W'
 | .goto t,_,W'=>KeepsFrom B W W'∧Ix (.goto t) (k+1) W'
 | .panic _,_,_=>False
 | .outgrown,_,_=>False
section
variable{P:Program}{α:Type}{g:Operand}{ps:Array Tmp}{assign body:Go.Code}{Q:Exit→Act→World→Prop}{a:Act}{w:World}
 {gf:Nat}{lb:Array Value}{xs:List α}{encs:α→Array Value}{Rel:World→World→Prop}{St:Nat→World→Prop}
theorem eE(hg:a.eval g=.func (.func gf) #[] lb)(eg:∀args w,(callFunc gf args).run P w=.ok (.enter gf args) w)
 (hseq:SeqG P gf lb xs encs Rel St)(hps:∀x,(encs x).size=ps.size)(hRk:∀A B,Rel A B→KeepsFrom w.heap.size A B)(hSt:OwnFrom w.heap.size St)
 (I:Nat→World→Prop)(Ix:Go.Code→Nat→World→Prop)(hI:OwnFrom w.heap.size I)(hIr:∀k A B,I k A→Rel A B→I k B)(hIx:∀c,OwnFrom w.heap.size (Ix c))(hIxr:∀c k A B,Ix c k A→Rel A B→Ix c k B)
 (h0:I 0 w)(hs0:St 0 w)
 (hround:∀(l k:Nat)(hk:k<xs.length)(W:World),w.heap.size≤l→I k W→St k W→
  assign.wpIn (Fence.wide.inRound l) 0 P (Exit.then (fun a' V=>Ext W V∧∀V2,CtlC V V2 w→(∃r,V2.heap[l]? =some (.loop r))→body.wpIn (Fence.wide.inRound l) 0 P (postG w.heap.size I St Ix k V2) a' V2) (fun _ _ _=>False)) (roundAct ps (encs xs[k]) a) W)
 (hdone:∀(D:Nat)(W:World),w.heap.size≤D→I xs.length W→W.heap[D]? =some (.deferred (some []))→Q .normal {a with defers:={target:=.collected D,args:=#[]}::a.defers} W)
 (hstop:∀(D k:Nat)(c:Go.Code)(W:World),w.heap.size≤D→k≤xs.length→Ix c k W→W.heap[D]? =some (.deferred (some []))→c.wp P Q {a with defers:={target:=.collected D,args:=#[]}::a.defers} W):
 (Go.Code.rangeFunc g ps assign body).wp P Q a w:=by
 refine wpIn_wide (n:=0).1 (wpIn_rangeFunc ?_);intro fn hfn;rw[show Fence.wide.round=none from rfl]
 obtain⟨rec,hrec⟩:∃rec:LoopState→Option Go.Code→Loop,rec=fun st pe=>{state:=st,pending:=pe,fn,tmps:=a.tmps,params:=ps,assign,body,defers:=w.heap.size}:=⟨_,rfl⟩
 obtain⟨W1,hW1⟩:∃W1,(w.alloc (.deferred (some []))).alloc (.loop (rec .ready none))=W1:=⟨_,rfl⟩;have hs1:W1.heap.size=w.heap.size+2:=by rw[←hW1];simp
 have hL1:W1.heap[w.heap.size+1]? =some (.loop (rec .ready none)):=by
  rw[←hW1];have:=World.alloc_heap_new (w.alloc (.deferred (some []))) (.loop (rec .ready none));rwa [World.size_alloc] at this
 have hK1:W1.heap[w.heap.size]? =some (.deferred (some [])):=by
  rw[←hW1];exact(Below.heap_alloc _ _ _ (by simp)).trans (World.alloc_heap_new w _)
 have hI1:I 0 W1:=by rw[←hW1];exact hI.alloc _ (hI.alloc _ h0)
 have hS1:St 0 W1:=by rw[←hW1];exact hSt.alloc _ (hSt.alloc _ hs0)
 refine⟨w.heap.size+1,[{target:=.collected w.heap.size,args:=#[]}],W1,{target:=.fn (.func gf) lb,args:=#[.func (.yield (w.heap.size+1)) #[] #[]]},W1,gf,
  #[.func (.yield (w.heap.size+1)) #[] #[]]++lb,W1,?_,?_,?_,?_,fun h=>by simp[Fence.wide] at h,?_⟩
 ·rw[←hW1,hrec];exact run_enterLoop_outer _ _ _ _ _
 ·simp only[resolve,hg];simp[go_sem]
 ·intro f' hf';trivial
 ·simp[invoke,go_sem,eg]
 ·refine callsIn_wide.2 (Calls.mono (hseq (w.heap.size+1)
   (fun k W=>I k W∧W.heap[w.heap.size+1]? =some (.loop (rec .ready none))∧W.heap[w.heap.size]? =some (.deferred (some [])))
   (fun k W=>∃c,Ix c k W∧W.heap[w.heap.size+1]? =some (.loop (rec .done (some c)))∧W.heap[w.heap.size]? =some (.deferred (some [])))
   W1 ?_ ?_ ?_ ⟨hI1,hL1,hK1⟩ hS1) ?_)
  ·rintro k A B ⟨h1,h2,h3⟩ hb;exact⟨hIr k A B h1 hb,(hRk _ _ hb).same _ _ (by omega) h2 rfl,(hRk _ _ hb).same _ _ (Nat.le_refl _) h3 rfl⟩
  ·rintro k A B ⟨c,h1,h2,h3⟩ hb;exact⟨c,hIxr c k A B h1 hb,(hRk _ _ hb).same _ _ (by omega) h2 rfl,(hRk _ _ hb).same _ _ (Nat.le_refl _) h3 rfl⟩
  ·-- one round
   rintro k hkx W ⟨hi,hl,hk⟩ hst;have hy:=run_yield (P:=P) (args:=encs xs[k]) hl (by rw[hrec];exact hps _)
   rw[hrec] at hy;refine⟨fn,_,assign,body,hy,roundIn_of_wpIn hfn (wpIn_mono (hround _ k hkx W (by omega) hi hst) (fun e a' V he=> ?_))⟩
   cases e<;>try exact he.elim
   obtain⟨hE,hb⟩:=he;have hl:=hE.heap_some hl;have hk:=hE.heap_some hk;have hlt:w.heap.size+1<V.heap.size:=(Array.getElem?_eq_some_iff.1 hl).1;refine⟨_,run_beginRound hl (by rw[hrec]),?_⟩
   have hl2:(V.putObj (w.heap.size+1) (.loop {rec .ready none with state:=.busy})).heap[w.heap.size+1]? =some (.loop {rec .ready none with state:=.busy}):=World.putObj_heap_same hlt
   have hk2:(V.putObj (w.heap.size+1) (.loop {rec .ready none with state:=.busy})).heap[w.heap.size]? =some (.deferred (some [])):=(World.putObj_heap_other (by omega)).trans hk
   refine wpIn_mono (hb _ ⟨_,grownBy_putObj' V _ _,fun r e=>by cases e;exact⟨by omega,_,hl,rfl⟩⟩ ⟨_,hl2⟩) ?_
   have fin:∀(jump:Option Go.Code)(W3:World),KeepsFrom w.heap.size (V.putObj (w.heap.size+1) (.loop {rec .ready none with state:=.busy})) W3→
    (Instr.endRound (w.heap.size+1) jump).run P W3=.ok (.bool jump.isNone) (W3.putObj (w.heap.size+1) (.loop (rec (if jump.isNone then .ready else .done) jump)))∧
    W3.heap[w.heap.size+1]? =some (.loop {rec .ready none with state:=.busy})∧
    (W3.putObj (w.heap.size+1) (.loop (rec (if jump.isNone then .ready else .done) jump))).heap[w.heap.size+1]? =some (.loop (rec (if jump.isNone then .ready else .done) jump))∧
    (W3.putObj (w.heap.size+1) (.loop (rec (if jump.isNone then .ready else .done) jump))).heap[w.heap.size]? =some (.deferred (some [])):=fun jump W3 hk3=>by
    have hl3:=hk3.same _ _ (by omega) hl2 rfl
    have:=run_endRound (P:=P) jump hl3;rw[hrec] at this⊢;exact⟨this,by rw[hrec] at hl3;exact hl3,World.putObj_heap_same (Array.getElem?_eq_some_iff.1 hl3).1,(World.putObj_heap_other (by omega)).trans (hk3.same _ _ (Nat.le_refl _) hk2 rfl)⟩
   rintro e a3 W3 hp
   cases e with
   |normal=>
    obtain⟨hk3,hi3,hs3⟩:=hp;obtain⟨hr,hl3,hl4,hk4⟩:=fin none W3 hk3;exact⟨_,_,hr,.inl ⟨rfl,⟨hI.putObj _ hi3 (by omega) hl3 rfl,hl4,hk4⟩,hSt.putObj _ hs3 (by omega) hl3 rfl⟩⟩
   |ret=>
    obtain⟨hk3,hi3⟩:=hp;obtain⟨hr,hl3,hl4,hk4⟩:=fin (some .ret) W3 hk3;exact⟨_,_,hr,.inr ⟨rfl,.ret,(hIx _).putObj _ hi3 (by omega) hl3 rfl,hl4,hk4⟩⟩
   |exit id=>
    obtain⟨hk3,hi3⟩:=hp;obtain⟨hr,hl3,hl4,hk4⟩:=fin (some (.exit id)) W3 hk3;exact⟨_,_,hr,.inr ⟨rfl,.exit id,(hIx _).putObj _ hi3 (by omega) hl3 rfl,hl4,hk4⟩⟩
   |goto t'=>
    obtain⟨hk3,hi3⟩:=hp;obtain⟨hr,hl3,hl4,hk4⟩:=fin (some (.goto t')) W3 hk3;exact⟨_,_,hr,.inr ⟨rfl,.goto t',(hIx _).putObj _ hi3 (by omega) hl3 rfl,hl4,hk4⟩⟩
   |panic ch=>exact hp.elim
   |outgrown=>exact hp.elim
  ·-- behind the iterator
   rintro e W2 ⟨⟨v,rfl⟩,(⟨hi,hl,hk⟩|⟨k,hkx,c,hi,hl,hk⟩)⟩
   ·exact⟨none,_,by have:=run_endLoop (P:=P) hl (by rw[hrec];simp);rw[hrec] at this;exact this,hdone _ _ (Nat.le_refl _) (hI.putObj _ hi (by omega) hl rfl) ((World.putObj_heap_other (by omega)).trans hk)⟩
   ·exact⟨some c,_,by have:=run_endLoop (P:=P) hl (by rw[hrec];simp);rw[hrec] at this;exact this,wpIn_wide.2 (hstop _ k c _ (Nat.le_refl _) hkx ((hIx c).putObj _ hi (by omega) hl rfl) ((World.putObj_heap_other (by omega)).trans hk))⟩
theorem nV{l₀ n:Nat}{r₀:Loop}(hl₀:w.heap[l₀]? =some (.loop r₀))(hg:a.eval g=.func (.func gf) #[] lb)(eg:∀args w,(callFunc gf args).run P w=.ok (.enter gf args) w)
 (hseq:SeqG P gf lb xs encs Rel St)(hps:∀x,(encs x).size=ps.size)(hRk:∀A B,Rel A B→KeepsFrom w.heap.size A B)(hSt:OwnFrom w.heap.size St)
 (I:Nat→World→Prop)(Ix:Go.Code→Nat→World→Prop)(hI:OwnFrom w.heap.size I)(hIr:∀k A B,I k A→Rel A B→I k B)(hIx:∀c,OwnFrom w.heap.size (Ix c))(hIxr:∀c k A B,Ix c k A→Rel A B→Ix c k B)
 (h0:I 0 w)(hs0:St 0 w)
 (hround:∀(l k:Nat)(hk:k<xs.length)(W:World),w.heap.size≤l→I k W→St k W→
  assign.wpIn (Fence.wide.inRound l) 0 P (Exit.then (fun a' V=>Ext W V∧∀V2,CtlC V V2 w→(∃r,V2.heap[l]? =some (.loop r))→body.wpIn (Fence.wide.inRound l) 0 P (postG w.heap.size I St Ix k V2) a' V2) (fun _ _ _=>False)) (roundAct ps (encs xs[k]) a) W)
 (hdone:∀(W:World),I xs.length W→Q .normal a W)
 (hstop:∀(k:Nat)(c:Go.Code)(W:World),k≤xs.length→Ix c k W→c.wpIn (Fence.wide.inRound l₀) n P Q a W):
 (Go.Code.rangeFunc g ps assign body).wpIn (Fence.wide.inRound l₀) n P Q a w:=by
 refine wpIn_rangeFunc ?_;intro fn hfn;rw[show(Fence.wide.inRound l₀).round=some l₀ from rfl]
 obtain⟨rec,hrec⟩:∃rec:LoopState→Option Go.Code→Loop,rec=fun st pe=>{state:=st,pending:=pe,fn,tmps:=a.tmps,params:=ps,assign,body,defers:=r₀.defers}:=⟨_,rfl⟩
 obtain⟨W1,hW1⟩:∃W1,w.alloc (.loop (rec .ready none))=W1:=⟨_,rfl⟩;have hL1:W1.heap[w.heap.size]? =some (.loop (rec .ready none)):=by rw[←hW1];exact World.alloc_heap_new w _
 have hI1:I 0 W1:=by rw[←hW1];exact hI.alloc _ h0
 have hS1:St 0 W1:=by rw[←hW1];exact hSt.alloc _ hs0
 refine⟨w.heap.size,[],W1,{target:=.fn (.func gf) lb,args:=#[.func (.yield w.heap.size) #[] #[]]},W1,gf,
  #[.func (.yield w.heap.size) #[] #[]]++lb,W1,?_,?_,?_,?_,fun h=>by simp[Fence.wide,Fence.inRound] at h,?_⟩
 ·rw[←hW1,hrec];exact run_enterLoop_inner hl₀ _ _ _ _ _
 ·simp only[resolve,hg];simp[go_sem]
 ·intro f' hf';trivial
 ·simp[invoke,go_sem,eg]
 ·refine CallsIn.inRound l₀ (callsIn_wide.2 (Calls.mono (hseq w.heap.size
   (fun k W=>I k W∧W.heap[w.heap.size]? =some (.loop (rec .ready none)))
   (fun k W=>∃c,Ix c k W∧W.heap[w.heap.size]? =some (.loop (rec .done (some c))))
   W1 ?_ ?_ ?_ ⟨hI1,hL1⟩ hS1) ?_))
  ·rintro k A B ⟨h1,h2⟩ hb;exact⟨hIr k A B h1 hb,(hRk _ _ hb).same _ _ (Nat.le_refl _) h2 rfl⟩
  ·rintro k A B ⟨c,h1,h2⟩ hb;exact⟨c,hIxr c k A B h1 hb,(hRk _ _ hb).same _ _ (Nat.le_refl _) h2 rfl⟩
  ·rintro k hkx W ⟨hi,hl⟩ hst;have hy:=run_yield (P:=P) (args:=encs xs[k]) hl (by rw[hrec];exact hps _)
   rw[hrec] at hy;refine⟨fn,_,assign,body,hy,roundIn_of_wpIn hfn (wpIn_mono (hround _ k hkx W (Nat.le_refl _) hi hst) (fun e a' V he=> ?_))⟩
   cases e<;>try exact he.elim
   obtain⟨hE,hb⟩:=he;have hl:=hE.heap_some hl;have hlt:w.heap.size<V.heap.size:=(Array.getElem?_eq_some_iff.1 hl).1;refine⟨_,run_beginRound hl (by rw[hrec]),?_⟩
   have hl2:(V.putObj w.heap.size (.loop {rec .ready none with state:=.busy})).heap[w.heap.size]? =some (.loop {rec .ready none with state:=.busy}):=World.putObj_heap_same hlt
   refine wpIn_mono (hb _ ⟨_,grownBy_putObj' V _ _,fun r e=>by cases e;exact⟨Nat.le_refl _,_,hl,rfl⟩⟩ ⟨_,hl2⟩) ?_
   have fin:∀(jump:Option Go.Code)(W3:World),KeepsFrom w.heap.size (V.putObj w.heap.size (.loop {rec .ready none with state:=.busy})) W3→
    (Instr.endRound w.heap.size jump).run P W3=.ok (.bool jump.isNone) (W3.putObj w.heap.size (.loop (rec (if jump.isNone then .ready else .done) jump)))∧
    W3.heap[w.heap.size]? =some (.loop {rec .ready none with state:=.busy})∧
    (W3.putObj w.heap.size (.loop (rec (if jump.isNone then .ready else .done) jump))).heap[w.heap.size]? =some (.loop (rec (if jump.isNone then .ready else .done) jump)):=fun jump W3 hk3=>by
    have hl3:=hk3.same _ _ (Nat.le_refl _) hl2 rfl;have:=run_endRound (P:=P) jump hl3;rw[hrec] at this⊢;exact⟨this,by rw[hrec] at hl3;exact hl3,World.putObj_heap_same (Array.getElem?_eq_some_iff.1 hl3).1⟩
   rintro e a3 W3 hp
   cases e with
   |normal=>
    obtain⟨hk3,hi3,hs3⟩:=hp;obtain⟨hr,hl3,hl4⟩:=fin none W3 hk3;exact⟨_,_,hr,.inl ⟨rfl,⟨hI.putObj _ hi3 (Nat.le_refl _) hl3 rfl,hl4⟩,hSt.putObj _ hs3 (Nat.le_refl _) hl3 rfl⟩⟩
   |ret=>
    obtain⟨hk3,hi3⟩:=hp;obtain⟨hr,hl3,hl4⟩:=fin (some .ret) W3 hk3;exact⟨_,_,hr,.inr ⟨rfl,.ret,(hIx _).putObj _ hi3 (Nat.le_refl _) hl3 rfl,hl4⟩⟩
   |exit id=>
    obtain⟨hk3,hi3⟩:=hp;obtain⟨hr,hl3,hl4⟩:=fin (some (.exit id)) W3 hk3;exact⟨_,_,hr,.inr ⟨rfl,.exit id,(hIx _).putObj _ hi3 (Nat.le_refl _) hl3 rfl,hl4⟩⟩
   |goto t'=>
    obtain⟨hk3,hi3⟩:=hp;obtain⟨hr,hl3,hl4⟩:=fin (some (.goto t')) W3 hk3;exact⟨_,_,hr,.inr ⟨rfl,.goto t',(hIx _).putObj _ hi3 (Nat.le_refl _) hl3 rfl,hl4⟩⟩
   |panic ch=>exact hp.elim
   |outgrown=>exact hp.elim
  ·rintro e W2 ⟨⟨v,rfl⟩,(⟨hi,hl⟩|⟨k,hkx,c,hi,hl⟩)⟩
   ·exact⟨none,_,by have:=run_endLoop (P:=P) hl (by rw[hrec];simp);rw[hrec] at this;exact this,hdone _ (hI.putObj _ hi (Nat.le_refl _) hl rfl)⟩
   ·exact⟨some c,_,by have:=run_endLoop (P:=P) hl (by rw[hrec];simp);rw[hrec] at this;exact this,hstop k c _ hkx ((hIx c).putObj _ hi (Nat.le_refl _) hl rfl)⟩
end
end Go.Walk
end
section
namespace Go.Walk
open Go Go.Bp Go.RowKit
section
variable{P:Program}{ops:Array Oper}{Q:Exit→Act→World→Prop}{A:Act}{W:World}{rest:List Oper}{n l:Nat}
variable{d:Option Tmp}{ty t:TypeId}{pos:String}{after:Array Edge}{x:Operand}{p:Addr}{v:Value}{gd:Option (Tmp×Bool)}
theorem pX{id:Nat}{r:List Oper}(h:wpListIn Fence.wide 1 P r.toArray Q r A W):(Go.Code.region id r.toArray false).wp P Q A W:=wpIn_wide (n:=1).1 (wpIn_region_lit h)
theorem Ah[c:LoadC P W t p v](k:wpListIn Fence.wide n P ops Q rest (A.put d v) W)(hx:A.eval x=.pointer (some p):=by with_unfolding_all rfl)(hw:Region.wanted (⟨d,.load t x,ty,pos,after,gd⟩:Oper) (yielded ops A.tmps)=true:=by with_unfolding_all rfl):
 wpListIn Fence.wide n P ops Q (⟨d,.load t x,ty,pos,after,gd⟩::rest) A W:=by
 refine wpListIn_step fun K hK=> ?_
 rw[if_pos hw];refine⟨fun _ _=>trivial,?_⟩
 have h:(execOp A.eval (⟨d,.load t x,ty,pos,after,gd⟩:Oper)).run P W=.ok (.value v) W:=by simp[execOp,Instr.loadAt,hx,Instr.sureAddr,c.h,Result.andThen]
 have e:(⟨d,.load t x,ty,pos,after,gd⟩:Oper).semAt Fence.wide.round A.eval=execOp A.eval (⟨d,.load t x,ty,pos,after,gd⟩:Oper):=Oper.semAt_eq _ _ _ (fun c h=>by cases h)
 rw[e,h];exact hK _ _ k
theorem Ce{args:Array Value}{ar:Array Operand}{ats:Array TypeId}{R:Ending→World→Prop}(hY:YieldAt Fence.wide 0 P l args W R)(k:∀e W',R e W'→∃v,e=.returned v∧wpListIn Fence.wide 1 P ops Q rest (A.put d v) W')
 (h:A.eval x=.func (.yield l) #[] #[]∧ar.map A.eval=args:=by(refine⟨by with_unfolding_all rfl,?_⟩;(simp[Act.eval];with_unfolding_all rfl)))(hw:Region.wanted (⟨d,.call {callee:=.value x,args:=ar,argTypes:=ats},ty,pos,after,gd⟩:Oper) (yielded ops A.tmps)=true:=by with_unfolding_all rfl):
 wpListIn Fence.wide 1 P ops Q (⟨d,.call {callee:=.value x,args:=ar,argTypes:=ats},ty,pos,after,gd⟩::rest) A W:=by
 refine wpListIn_step fun K hK=> ?_
 rw[if_pos hw];refine⟨fun _ _=>trivial,?_⟩
 obtain⟨fn,tmps,assign,body,hy,hR⟩:=hY;have e:(⟨d,.call {callee:=.value x,args:=ar,argTypes:=ats},ty,pos,after,gd⟩:Oper).semAt Fence.wide.round A.eval=execOp A.eval (⟨d,.call {callee:=.value x,args:=ar,argTypes:=ats},ty,pos,after,gd⟩:Oper):=Oper.semAt_eq _ _ _ (fun c h=>by cases h)
 have hr:(execOp A.eval (⟨d,.call {callee:=.value x,args:=ar,argTypes:=ats},ty,pos,after,gd⟩:Oper)).run P W=.ok (.round l fn tmps assign body) W:=by
  rw[←h.2] at hy;simp[execOp,resolve,invoke,Deferred.ofValue,h.1,hy,Result.andThen,Sem.run_bind]
 rw[e,hr];refine⟨fun h=>by simp[Fence.wide] at h,hR.mono ?_⟩
 intro e W' he;obtain⟨v,rfl,hk⟩:=k e W' he;exact hK _ _ hk
end
end Go.Walk
end
section
namespace Go.Walk
open Go Go.Bp Go.RowKit
class KeyC (κ:outParam Type) [outParam (Enc κ)] (P:Program) (kt:TypeId):Prop where
 no:∀(w:World)(a:κ)(es:List MapEntry),(∀e∈es,∃b:κ,e.key=Enc.val b)→(∀e∈es,e.key≠Enc.val a)→(Instr.findKey kt (Enc.val a) es).run P w=.ok none w
 yes:∀(w:World)(a:κ)(es:List MapEntry)(j:Nat)(h:j<es.length),(∀e∈es,∃b:κ,e.key=Enc.val b)→es[j].key=Enc.val a→(∀q(hq:q<j),es[q].key≠Enc.val a)→(Instr.findKey kt (Enc.val a) es).run P w=.ok (some (j,es[j].val)) w
 check:∀(w:World)(b:Bool)(a:κ),(Instr.checkKey b 10000 kt (Enc.val a)).run P w=.ok () w
 bits:∀a:κ,Instr.sameBits 10000 (Enc.val a) (Enc.val a)=true
 inj:∀{a b:κ},Enc.val a=Enc.val b→a=b
section
variable{κ:Type}[Enc κ]
structure EntL(es:List MapEntry)(clock:Nat)(m:List (κ×Int)):Prop where
 map:es.map (fun e=>(e.key,e.val))=m.map (fun p=>(Enc.val p.1,Value.int .i64 p.2))
 born:∀e∈es,e.born<clock
 rises:es.Pairwise fun x y=>x.born<y.born
 nodup:(m.map Prod.fst).Nodup
def MapL(w:World)(g:Nat)(m:List (κ×Int)):Prop:=∃es clock,w.heap[g]? =some (.map es clock)∧EntL es.toList clock m
variable[DecidableEq κ]
def getL(m:List (κ×Int))(k:κ):Option Int:=(m.find? fun p=>decide (p.1=k)).map Prod.snd
def putL(m:List (κ×Int))(k:κ)(v:Int):List (κ×Int):=if k∈m.map Prod.fst then m.map (fun p=>if p.1=k then(k,v) else p) else m++ [(k,v)]
def delL(m:List (κ×Int))(k:κ):List (κ×Int):=m.filter fun p=>decide (p.1≠k)
end
section
variable{κ:Type}[Enc κ]{w w' W:World}{g:Nat}{m:List (κ×Int)}{es:List MapEntry}{c:Nat}
theorem EntL.len(h:EntL es c m):es.length=m.length:=by have:=congrArg List.length h.map;simpa using this
theorem EntL.at_(h:EntL es c m){i:Nat}(hi:i<es.length):es[i].key=Enc.val (m[i]'(by rw[←h.len];exact hi)).1∧es[i].val=.int .i64 (m[i]'(by rw[←h.len];exact hi)).2:=by
 have h1:=congrArg (fun l=>l[i]?) h.map
 have hi2:i<m.length:=by rw[←h.len];exact hi
 simp only[List.getElem?_map,List.getElem?_eq_getElem hi,List.getElem?_eq_getElem hi2,Option.map_some,Option.some.injEq,Prod.mk.injEq] at h1;exact h1
theorem EntL.keys(h:EntL es c m):∀e∈es,∃a:κ,e.key=Enc.val a:=by
 intro e he;obtain⟨i,hi,rfl⟩:=List.mem_iff_getElem.1 he;exact⟨_,(h.at_ hi).1⟩
theorem MapL.ext(h:MapL w g m)(e:Ext w w'):MapL w' g m:=by obtain⟨es,c,h1,h2⟩:=h;exact⟨es,c,e.heap_some h1,h2⟩
theorem MapL.lt(h:MapL w g m):g<w.heap.size:=by obtain⟨es,c,h1,_⟩:=h;exact(Array.getElem?_eq_some_iff.1 h1).1
theorem MapL.grown{row:Option Nat}(h:MapL w g m)(hg:w.grownBy w' row)(hne:some g≠row):MapL w' g m:=by
 have hlt:=h.lt;obtain⟨es,c,h1,h2⟩:=h;exact⟨es,c,(hg.block g hlt hne).trans h1,h2⟩
theorem MapL.ctl(h:MapL w g m):∃o,w.heap[g]? =some o∧o.isCells=false:=by obtain⟨es,c,h1,_⟩:=h;exact⟨_,h1,rfl⟩
theorem MapL.nodup(h:MapL w g m):(m.map Prod.fst).Nodup:=by obtain⟨_,_,_,h2⟩:=h;exact h2.nodup
variable[DecidableEq κ]{P:Program}{t kt e:TypeId}
theorem getL_none{k:κ}:getL m k=none↔k∉m.map Prod.fst:=by
 unfold getL;rw[Option.map_eq_none_iff,List.find?_eq_none];constructor
 ·intro h hm;obtain⟨p,hp,e⟩:=List.mem_map.1 hm;exact h p hp (decide_eq_true e)
 ·intro h p hp e;exact h (List.mem_map.2 ⟨p,hp,of_decide_eq_true e⟩)
theorem Da(hn:(m.map Prod.fst).Nodup){i:Nat}(hi:i<m.length):getL m m[i].1=some m[i].2:=by
 unfold getL;have:(m.find? fun p=>decide (p.1=m[i].1))=some m[i]:=by
  rw[List.find?_eq_some_iff_getElem];refine⟨by simp,i,hi,rfl,fun j hj=> ?_⟩
  have goal:m[j].1≠m[i].1→(!decide (m[j].1=m[i].1))=true:=fun h=>by simp[h]
  refine goal fun e=> ?_
  have:=List.pairwise_iff_getElem.1 hn j i (by simp;omega) (by simpa using hi) hj
  simp at this;exact this e
 rw[this];rfl
theorem sY{k:κ}{v:Int}(hn:(m.map Prod.fst).Nodup):getL m k=some v↔(k,v)∈m:=by
 constructor
 ·intro h;unfold getL at h;obtain⟨p,hp,rfl⟩:=Option.map_eq_some_iff.1 h;have h1:=List.find?_some hp;have h2:=List.mem_of_find?_eq_some hp;simp only[decide_eq_true_eq] at h1;subst h1;exact h2
 ·intro h;obtain⟨i,hi,e⟩:=List.mem_iff_getElem.1 h;have:=Da hn hi;rw[e] at this;exact this
theorem EntL.look(K:KeyC κ P kt)(h:EntL es c m)(w:World)(k:κ):
 (k∉m.map Prod.fst∧(∀e∈es,e.key≠Enc.val k)∧(Instr.findKey kt (Enc.val k) es).run P w=.ok none w)∨
 (∃(i:Nat)(hi:i<es.length),∃hm:i<m.length,m[i].1=k∧es[i].key=Enc.val k∧(Instr.findKey kt (Enc.val k) es).run P w=.ok (some (i,.int .i64 m[i].2)) w):=by
 by_cases hk:k∈m.map Prod.fst
 ·right
  obtain⟨p,hp,rfl⟩:=List.mem_map.1 hk;obtain⟨i,hi,rfl⟩:=List.mem_iff_getElem.1 hp;have hie:i<es.length:=by rw[h.len];exact hi
  refine⟨i,hie,hi,rfl,(h.at_ hie).1,?_⟩;rw[K.yes w m[i].1 es i hie h.keys (h.at_ hie).1 fun q hq e=> ?_,(h.at_ hie).2]
  have hqe:q<es.length:=by omega
  rw[(h.at_ hqe).1] at e;have:=List.pairwise_iff_getElem.1 h.nodup q i (by simp;omega) (by simpa using hi) hq
  simp at this;exact this (K.inj e)
 ·left
  have hno:∀e∈es,e.key≠Enc.val k:=by
   intro e he heq;obtain⟨i,hi,rfl⟩:=List.mem_iff_getElem.1 he;rw[(h.at_ hi).1] at heq;exact hk (List.mem_map.2 ⟨_,List.getElem_mem _,K.inj heq⟩)
  exact⟨hk,hno,K.no w k es h.keys hno⟩
theorem Dz[K:KeyC κ P kt](ht:P.underlying t=some (.map kt e))(hz:∀w,(zeroValue e).run P w=.ok (.int .i64 0) w)(h:MapL w g m)(k:κ)(b:Bool):
 (Instr.lookup t (.map (some g)) (Enc.val k) b).run P w=.ok (if b then .tuple #[.int .i64 ((getL m k).getD 0),.bool (getL m k).isSome] else .int .i64 ((getL m k).getD 0)) w:=by
 obtain⟨es,c,h1,hE⟩:=h;have hck:=K.check w es.isEmpty k;unfold Instr.lookup;simp only[Sem.run_bind,run_underlying ht,Result.andThen_ok,MapKept.run_getObj_map h1,Sem.run_pure,hck];rcases hE.look K w k with ⟨h2,_,h3⟩|⟨i,hi,hm,h2,_,h3⟩
 ·rw[h3,getL_none.2 h2]
  cases b<;>simp[hz]
 ·have hg:=Da hE.nodup hm;rw[h2] at hg;rw[h3,hg]
  cases b<;>simp
theorem qA{k:κ}{v:Int}(h:k∉m.map Prod.fst):putL m k v=m++ [(k,v)]:=by unfold putL;rw[if_neg h]
theorem Mh(hn:(m.map Prod.fst).Nodup){i:Nat}(hi:i<m.length)(v:Int):putL m m[i].1 v=m.set i (m[i].1,v):=by
 unfold putL;rw[if_pos (List.mem_map.2 ⟨_,List.getElem_mem hi,rfl⟩)];apply List.ext_getElem (by simp)
 intro j h1 h2;rw[List.getElem_map,List.getElem_set];have hj:j<m.length:=by simpa using h1
 by_cases e:i=j
 ·subst e;simp
 ·rw[if_neg e,if_neg];intro h;rcases Nat.lt_or_gt_of_ne e with hl|hl
  ·have:=List.pairwise_iff_getElem.1 hn i j (by simpa using hi) (by simpa using hj) hl
   simp at this;exact this h.symm
  ·have:=List.pairwise_iff_getElem.1 hn j i (by simpa using hj) (by simpa using hi) hl
   simp at this;exact this h
theorem lE{k:κ}{v:Int}(hn:(m.map Prod.fst).Nodup):((putL m k v).map Prod.fst).Nodup:=by
 unfold putL;split
 ·rename_i h;have:(m.map fun p=>if p.1=k then(k,v) else p).map Prod.fst=m.map Prod.fst:=by
   rw[List.map_map];apply List.map_congr_left;intro p _;simp only[Function.comp];split<;>simp_all
  rw[this];exact hn
 ·rename_i h;rw[List.map_append,List.nodup_append];refine⟨hn,by simp,fun a ha b hb=> ?_⟩
  simp at hb;subst hb;intro e;subst e;exact h ha
theorem EntL.push{es:Array MapEntry}(h:EntL es.toList c m){k:κ}(hk:k∉m.map Prod.fst)(v:Int):EntL (es.push {key:=Enc.val k,val:=.int .i64 v,born:=c}).toList (c+1) (m++ [(k,v)]):=by
 have hl:(es.push {key:=Enc.val k,val:=Value.int .i64 v,born:=c}).toList=es.toList++ [{key:=Enc.val k,val:=.int .i64 v,born:=c}]:=by simp
 rw[hl];refine⟨by rw[List.map_append,List.map_append,h.map];rfl,fun e he=> ?_,?_,?_⟩
 ·rcases List.mem_append.1 he with he|he
  ·have:=h.born e he;omega
  ·simp at he;rw[he];simp
 ·rw[List.pairwise_append];refine⟨h.rises,by simp,fun x hx y hy=> ?_⟩
  simp at hy;rw[hy];exact h.born x hx
 ·have:=lE (v:=v) (k:=k) h.nodup;rwa [qA hk] at this
theorem EntL.modify{es:Array MapEntry}(h:EntL es.toList c m){i:Nat}(hi:i<es.toList.length)(hm:i<m.length)(v:Int)(f:MapEntry→MapEntry)(hf:∀e:MapEntry,e.key=Enc.val m[i].1→(f e).key=e.key∧(f e).val=.int .i64 v∧(f e).born=e.born):
 EntL (es.modify i f).toList c (m.set i (m[i].1,v)):=by
 have hlen:(es.modify i f).toList.length=es.toList.length:=by simp
 have hl:∀j(hj:j<es.toList.length),(es.modify i f).toList[j]'(by rw[hlen];exact hj)=if i=j then f es.toList[j] else es.toList[j]:=by
  intro j hj;rw[Array.getElem_toList,Array.getElem_modify];split<;>simp[Array.getElem_toList]
 have hb:∀j(hj:j<es.toList.length),((es.modify i f).toList[j]'(by rw[hlen];exact hj)).born=es.toList[j].born:=by
  intro j hj;rw[hl j hj];split
  ·rename_i e;subst e;exact(hf _ (h.at_ hi).1).2.2
  ·rfl
 refine⟨?_,fun e he=> ?_,?_,?_⟩
 ·apply List.ext_getElem (by simp;have:=h.len;simpa using this)
  intro j h1 h2;have hj:j<es.toList.length:=by simpa using h1
  have hjm:j<m.length:=by simpa using h2
  rw[List.getElem_map,List.getElem_map,List.getElem_set,hl j hj];by_cases e:i=j
  ·subst e;obtain⟨a1,a2,_⟩:=hf _ (h.at_ hi).1;simp only[if_true];rw[a1,a2,(h.at_ hi).1]
  ·rw[if_neg e,if_neg e,(h.at_ hj).1,(h.at_ hj).2]
 ·obtain⟨j,hj,rfl⟩:=List.mem_iff_getElem.1 he;rw[hlen] at hj;rw[hb j hj];exact h.born _ (List.getElem_mem hj)
 ·rw[List.pairwise_iff_getElem];intro p q hp hq hpq;rw[hlen] at hp hq;rw[hb p hp,hb q hq];exact List.pairwise_iff_getElem.1 h.rises p q hp hq hpq
 ·have:(m.set i (m[i].1,v)).map Prod.fst=m.map Prod.fst:=by
   rw[List.map_set];apply List.ext_getElem (by simp)
   intro j h1 h2;rw[List.getElem_set];split
   ·rename_i e;subst e;simp
   ·rfl
  rw[this];exact h.nodup
theorem Ii[K:KeyC κ P kt](ht:P.underlying t=some (.map kt e))(h:MapL w g m)(k:κ)(v:Int):
 ∃W,(Instr.mapUpdate t (.map (some g)) (Enc.val k) (.int .i64 v)).run P w=.ok () W∧MapL W g (putL m k v)∧w.grownBy W (some g):=by
 obtain⟨es,c,h1,hE⟩:=h;have hlt:=(Array.getElem?_eq_some_iff.1 h1).1;have hck:=K.check w false k;rcases hE.look K w k with ⟨h2,_,h3⟩|⟨i,hi,hm,h2,h4,h3⟩
 ·refine⟨w.putObj g (.map (es.push {key:=Enc.val k,val:=.int .i64 v,born:=c}) (c+1)),?_,⟨_,_,World.putObj_heap_same hlt,?_⟩,grownBy_putObj' w g _⟩
  ·unfold Instr.mapUpdate;simp only[Sem.run_bind,run_underlying ht,Result.andThen_ok,MapKept.run_getObj_map h1,hck,h3];simp[MapKept.run_setObj_map _ h1,World.putObj]
  ·rw[qA h2];exact hE.push h2 v
 ·refine⟨w.putObj g (.map (es.modify i fun e=>{e with key:=Enc.val k,val:=.int .i64 v}) c),?_,⟨_,_,World.putObj_heap_same hlt,?_⟩,grownBy_putObj' w g _⟩
  ·have hi':i<es.size:=by simpa using hi
   have hkk:es[i].key=Enc.val k:=by simpa using h4
   have hes:es[i]? =some es[i]:=Array.getElem?_eq_getElem hi';unfold Instr.mapUpdate;simp only[Sem.run_bind,run_underlying ht,Result.andThen_ok,MapKept.run_getObj_map h1,hck,h3];simp only[Sem.run_pure,Result.andThen_ok,hes,Option.map_some,Option.getD_some,hkk,Instr.keyThatStays,K.bits,if_true,Sem.run_bind,MapKept.run_setObj_map _ h1];rfl
  ·have:=hE.modify hi hm v (fun e=>{e with key:=Enc.val k,val:=.int .i64 v}) (fun e he=>⟨by rw[he,h2],rfl,rfl⟩)
   rw[←Mh hE.nodup hm v,h2] at this;exact this
theorem fA{k:κ}(hn:(m.map Prod.fst).Nodup):((delL m k).map Prod.fst).Nodup:=by
 unfold delL;exact hn.sublist (List.filter_sublist.map _)
theorem Dc{k:κ}(h:k∉m.map Prod.fst):delL m k=m:=by
 unfold delL;rw[List.filter_eq_self];intro p hp;simp only[decide_eq_true_eq];rintro rfl;exact h (List.mem_map.2 ⟨p,hp,rfl⟩)
theorem Nf(hn:(m.map Prod.fst).Nodup){i:Nat}(hi:i<m.length):delL m m[i].1=m.eraseIdx i:=by
 unfold delL;induction m generalizing i with
 |nil=>simp at hi
 |cons p m ih=>
  rw[List.map_cons,List.nodup_cons] at hn
  cases i with
  |zero=>
   simp only[List.getElem_cons_zero,List.eraseIdx_cons_zero];rw[List.filter_cons_of_neg (by simp)]
   rw[List.filter_eq_self];intro q hq;simp only[decide_eq_true_eq];intro e;exact hn.1 (List.mem_map.2 ⟨q,hq,e⟩)
  |succ i=>
   have hi':i<m.length:=by simpa using hi
   simp only[List.getElem_cons_succ,List.eraseIdx_cons_succ];rw[List.filter_cons_of_pos,ih hn.2 hi'];simp only[decide_eq_true_eq];intro e;exact hn.1 (List.mem_map.2 ⟨_,List.getElem_mem hi',e.symm⟩)
theorem EntL.erase{es:Array MapEntry}(h:EntL es.toList c m){i:Nat}(hi:i<es.size):EntL (es.eraseIdxIfInBounds i).toList c (m.eraseIdx i):=by
 have e1:(es.eraseIdxIfInBounds i).toList=es.toList.eraseIdx i:=by simp[Array.eraseIdxIfInBounds,hi]
 rw[e1];have key:∀{α β:Type}(f:α→β)(l:List α)(i:Nat),(l.eraseIdx i).map f=(l.map f).eraseIdx i:=by
  intro α β f l;induction l with
  |nil=>intro i;simp
  |cons a l ih=>intro i;cases i<;>simp[ih]
 refine⟨by rw[key,key,h.map],fun e he=>h.born e (List.mem_of_mem_eraseIdx he),h.rises.sublist (List.eraseIdx_sublist _ _),?_⟩
 rw[key];exact h.nodup.sublist (List.eraseIdx_sublist _ _)
theorem Ik[K:KeyC κ P kt]{ty:TypeId}(ht:P.underlying t=some (.map kt e))(h:MapL w g m)(k:κ):
 ∃W,(Builtin.delete_ #[t,kt] ty #[.map (some g),Enc.val k]).run P w=.ok (.tuple #[]) W∧MapL W g (delL m k)∧w.grownBy W (some g):=by
 obtain⟨es,c,h1,hE⟩:=h;have hlt:=(Array.getElem?_eq_some_iff.1 h1).1;have hck:=K.check w es.isEmpty k;rcases hE.look K w k with ⟨h2,_,h3⟩|⟨i,hi,hm,h2,h4,h3⟩
 ·refine⟨w.putObj g (.map es c),?_,⟨_,_,World.putObj_heap_same hlt,by rw[Dc h2];exact hE⟩,grownBy_putObj' w g _⟩
  simp[Builtin.delete_,Sem.run_bind,run_underlying ht,MapKept.run_getObj_map h1,hck,h3,MapKept.run_setObj_map _ h1,World.putObj]
 ·have hi':i<es.size:=by simpa using hi
  refine⟨w.putObj g (.map (es.eraseIdxIfInBounds i) c),?_,⟨_,_,World.putObj_heap_same hlt,by rw[←h2,Nf hE.nodup hm];exact hE.erase hi'⟩,grownBy_putObj' w g _⟩
  simp[Builtin.delete_,Sem.run_bind,run_underlying ht,MapKept.run_getObj_map h1,hck,h3,MapKept.run_setObj_map _ h1,World.putObj]
theorem zA{ty:TypeId}(ht:P.underlying t=some (.map kt e))(h:MapL w g m):
 ∃W,(Builtin.clear_ #[t] ty #[.map (some g)]).run P w=.ok (.tuple #[]) W∧MapL W g ([]:List (κ×Int))∧w.grownBy W (some g):=by
 obtain⟨es,c,h1,hE⟩:=h;have hlt:=(Array.getElem?_eq_some_iff.1 h1).1;refine⟨w.putObj g (.map #[] c),?_,⟨_,_,World.putObj_heap_same hlt,⟨rfl,by simp,by simp,by simp⟩⟩,grownBy_putObj' w g _⟩
 simp[Builtin.clear_,Sem.run_bind,run_underlying ht,MapKept.run_getObj_map h1,MapKept.run_setObj_map _ h1,World.putObj]
end
end Go.Walk
end
