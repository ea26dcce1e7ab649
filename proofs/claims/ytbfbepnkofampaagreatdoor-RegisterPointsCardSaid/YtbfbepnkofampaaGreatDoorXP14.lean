import Derived.Test.YtbfbepnkofampaaGreatDoorXP13
set_option maxRecDepth 100000
set_option linter.all false
section
namespace Go.Walk
open Go Go.Bp Go.RowKit
section
variable{κ:Type}[Enc κ]{w w' W:World}{g r:Nat}{m left:List (κ×Int)}
def RngL(w:World)(r g:Nat)(m left:List (κ×Int)):Prop:=∃es clock since seen c0,w.heap[g]? =some (.map es clock)∧EntL es.toList clock m∧w.heap[r]? =some (.mapIter (some g) since seen c0)∧
 (∀x∈es.toList,x.born<since)∧since≤c0∧since≤clock∧(leftOf es seen).toList.map (fun e=>(e.key,e.val))=left.map (fun p=>(Enc.val p.1,Value.int .i64 p.2))∧(left.map Prod.fst).Nodup
theorem RngL.map(h:RngL w r g m left):MapL w g m:=by obtain⟨es,c,_,_,_,h1,h2,_⟩:=h;exact⟨es,c,h1,h2⟩
theorem RngL.lt(h:RngL w r g m left):r<w.heap.size:=by obtain⟨_,_,_,_,_,_,_,h3,_⟩:=h;exact(Array.getElem?_eq_some_iff.1 h3).1
theorem RngL.ctl(h:RngL w r g m left):∃o,w.heap[r]? =some o∧o.isCells=false:=by obtain⟨_,_,_,_,_,_,_,h3,_⟩:=h;exact⟨_,h3,rfl⟩
theorem RngL.grown{row:Option Nat}(h:RngL w r g m left)(hg:w.grownBy w' row)(h1:some g≠row)(h2:some r≠row):RngL w' r g m left:=by
 have l1:=h.map.lt;have l2:=h.lt;obtain⟨es,c,s,sn,c0,a1,a2,a3,a4⟩:=h;exact⟨es,c,s,sn,c0,(hg.block g l1 h1).trans a1,a2,(hg.block r l2 h2).trans a3,a4⟩
theorem RngL.ext(h:RngL w r g m left)(e:Ext w w'):RngL w' r g m left:=by
 obtain⟨es,c,s,sn,c0,a1,a2,a3,a4⟩:=h;exact⟨es,c,s,sn,c0,e.heap_some a1,a2,e.heap_some a3,a4⟩
theorem yZ{P:Program}{t kt e:TypeId}(ht:P.underlying t=some (.map kt e))(h:MapL w g m):
 ∃W r,(Instr.range t (.map (some g))).run P w=.ok (.pointer (some ⟨r,0,none⟩)) W∧RngL W r g m m∧Ext w W∧w.heap.size≤r:=by
 obtain⟨es,c,h1,hE⟩:=h;refine⟨w.alloc (.mapIter (some g) c #[] c),w.heap.size,?_,⟨es,c,c,#[],c,?_,hE,?_,fun x hx=>hE.born x hx,Nat.le_refl _,Nat.le_refl _,?_,hE.nodup⟩,Ext.ofAlloc _ _,Nat.le_refl _⟩
 ·simp[Instr.range,Sem.run_bind,run_underlying ht,MapKept.run_getObj_map h1,run_newObj_alloc,Result.andThen]
 ·exact(Ext.ofAlloc w _).heap_some h1
 ·exact heap_alloc_new w _
 ·have:leftOf es #[]=es:=by unfold leftOf;rw[Array.filter_eq_self];simp
  rw[this,hE.map]
def NowL(w:World)(r:Nat)(p:κ×Int):Prop:=∃(g:Nat)(es:Array MapEntry)(clock s:Nat)(sn:Array Nat)(e:MapEntry),w.heap[g]? =some (.map es clock)∧w.heap[r]? =some (.mapIter (some g) s (sn.push e.born) clock)∧e∈es.toList∧(es.toList.map (·.born)).Nodup∧e.key=Enc.val p.1∧e.val=.int .i64 p.2
theorem NowL.run{P:Program}{p:κ×Int}(h:NowL w r p):(Instr.entry (.pointer (some ⟨r,0,none⟩))).run P w=.ok (.tuple #[Enc.val p.1,.int .i64 p.2]) w:=by
 obtain⟨g,es,c,s,sn,x,a1,a2,a3,a4,a5,a6⟩:=h;rw[run_entry_at w r g s sn es c x a2 a1 a3 a4,a5,a6]
variable[DecidableEq κ]
theorem Dy{P:Program}{ty:TypeId}{kt:TypeId}[K:KeyC κ P kt](h:RngL w r g m left):
 (left=[]∧(Instr.next (.pointer (some ⟨r,0,none⟩)) false ty).run P w=.ok (.tuple #[.bool false]) w)∨
 ∃(p:κ×Int)(W:World),p∈left∧(Instr.next (.pointer (some ⟨r,0,none⟩)) false ty).run P w=.ok (.tuple #[.bool true,Enc.val p.1,.int .i64 p.2]) W∧RngL W r g m (delL left p.1)∧w.grownBy W (some r)∧NowL W r p:=by
 classical
 have hlt:=h.lt;obtain⟨es,c,s,sn,c0,a1,a2,a3,a4,a5,a6,a7,a8⟩:=h;have hll:(leftOf es sn).toList.length=left.length:=by have:=congrArg List.length a7;simpa using this
 rcases run_next_at (P:=P) w ty r g s c0 sn es c a3 a1 a4 a5 with ⟨h1,h2⟩|⟨e,he,w1,hw,h2⟩
 ·left
  exact⟨List.length_eq_zero_iff.1 (by rw[←hll];simpa using h1),h2⟩
 ·right
  obtain⟨i,hi,rfl⟩:=List.mem_iff_getElem.1 he;have hil:i<left.length:=by rw[←hll];exact hi
  have hp:(leftOf es sn).toList[i].key=Enc.val left[i].1∧(leftOf es sn).toList[i].val=.int .i64 left[i].2:=by
   have h3:=congrArg (fun l=>l[i]?) a7
   simp only[List.getElem?_map,List.getElem?_eq_getElem hi,List.getElem?_eq_getElem hil,Option.map_some,Option.some.injEq,Prod.mk.injEq] at h3;exact h3
  rw[hp.1,hp.2] at h2;have hne:r≠g:=by rintro rfl;rw[a1] at a3;cases a3
  have hlt1:r<w1.heap.size:=by rcases hw with rfl|rfl<;>exact hlt
  have hb1:w1.heap[g]? =some (.map es c):=by rcases hw with rfl|rfl<;>exact a1
  have hR:(ChangeMaps.setBlock w1 r (.mapIter (some g) s (sn.push (leftOf es sn).toList[i].born) c)).heap[r]? =some (.mapIter (some g) s (sn.push (leftOf es sn).toList[i].born) c):=by simp[ChangeMaps.setBlock,Array.getElem?_setIfInBounds,hlt1]
  have hG:(ChangeMaps.setBlock w1 r (.mapIter (some g) s (sn.push (leftOf es sn).toList[i].born) c)).heap[g]? =some (.map es c):=by
   rw[show(ChangeMaps.setBlock w1 r (.mapIter (some g) s (sn.push (leftOf es sn).toList[i].born) c)).heap[g]? =w1.heap[g]? from by simp[ChangeMaps.setBlock,Array.getElem?_setIfInBounds,hne]]
   exact hb1
  refine⟨left[i],_,List.getElem_mem hil,h2,⟨es,c,s,sn.push (leftOf es sn).toList[i].born,c,?_,a2,?_,a4,a6,a6,?_,fA a8⟩,?_,⟨g,es,c,s,sn,(leftOf es sn).toList[i],hG,hR,?_,?_,hp.1,hp.2⟩⟩;rotate_right 2
  ·have key:∀x∈(leftOf es sn).toList,x∈es.toList:=fun x hx=>by
    unfold leftOf at hx;rw[Array.toList_filter] at hx;exact(List.mem_filter.1 hx).1
   exact key _ (List.getElem_mem hi)
  ·rw[List.Nodup,List.pairwise_map];exact a2.rises.imp fun h=>by omega
  ·show(ChangeMaps.setBlock w1 r _).heap[g]? =_
   rw[show(ChangeMaps.setBlock w1 r (.mapIter (some g) s (sn.push (leftOf es sn).toList[i].born) c)).heap[g]? =w1.heap[g]? from by simp[ChangeMaps.setBlock,Array.getElem?_setIfInBounds,hne]]
   exact hb1
  ·simp[ChangeMaps.setBlock,Array.getElem?_setIfInBounds,hlt1]
  ·-- what is left
   have hmem0:∀x∈(leftOf es sn).toList,x∈es.toList:=fun x hx=>by
    unfold leftOf at hx;rw[Array.toList_filter] at hx;exact(List.mem_filter.1 hx).1
   have hmem:(leftOf es sn).toList[i]∈es.toList:=hmem0 _ (List.getElem_mem hi);have hs:(leftOf es (sn.push (leftOf es sn).toList[i].born)).toList=(leftOf es sn).toList.filter (fun x=>decide (x.born≠(leftOf es sn).toList[i].born)):=by
    generalize (leftOf es sn).toList[i].born=b;unfold leftOf;simp only[Array.toList_filter,List.filter_filter];apply List.filter_congr;intro x _;simp only[Array.contains_push];by_cases h:x.born=b<;>simp[h,Bool.and_comm]
   rw[hs]
   -- born and key tell entries apart alike
   have hkb:∀x∈(leftOf es sn).toList,(x.born≠(leftOf es sn).toList[i].born)↔x.key≠Enc.val left[i].1:=by
    intro x hx;have hxm:x∈es.toList:=hmem0 x hx;constructor
    ·intro h1 h2;apply h1;obtain⟨p,hp1,rfl⟩:=List.mem_iff_getElem.1 hxm;obtain⟨q,hq1,hq2⟩:=List.mem_iff_getElem.1 hmem;have k1:=(a2.at_ hp1).1;have k2:=(a2.at_ hq1).1;rw[h2] at k1;rw[hq2,hp.1] at k2;have e1:=K.inj (k1.symm.trans k2);have:p=q:=by
      have hn:=a2.nodup;rcases Nat.lt_trichotomy p q with h|h|h
      ·have:=List.pairwise_iff_getElem.1 hn p q (by simp;rw[←a2.len];exact hp1) (by simp;rw[←a2.len];exact hq1) h
       simp at this;exact absurd e1 this
      ·exact h
      ·have:=List.pairwise_iff_getElem.1 hn q p (by simp;rw[←a2.len];exact hq1) (by simp;rw[←a2.len];exact hp1) h
       simp at this;exact absurd e1.symm this
     subst this;rw[hq2]
    ·intro h1 h2;apply h1;obtain⟨p,hp1,rfl⟩:=List.mem_iff_getElem.1 hxm;obtain⟨q,hq1,hq2⟩:=List.mem_iff_getElem.1 hmem;have:p=q:=by
      rcases Nat.lt_trichotomy p q with h|h|h
      ·have:=List.pairwise_iff_getElem.1 a2.rises p q hp1 hq1 h;rw[hq2] at this;omega
      ·exact h
      ·have:=List.pairwise_iff_getElem.1 a2.rises q p hq1 hp1 h;rw[hq2] at this;omega
     subst this;rw[hq2];exact hp.1
   have hf:(leftOf es sn).toList.filter (fun x=>decide (x.born≠(leftOf es sn).toList[i].born))=(leftOf es sn).toList.filter (fun x=>decide (x.key≠Enc.val left[i].1)):=by
    apply List.filter_congr;intro x hx;exact decide_eq_decide.2 (hkb x hx)
   rw[hf];unfold delL;have gen:∀(l1:List MapEntry)(l2:List (κ×Int))(k:κ),l1.map (fun e=>(e.key,e.val))=l2.map (fun p=>(Enc.val p.1,Value.int .i64 p.2))→
    (l1.filter fun x=>decide (x.key≠Enc.val k)).map (fun e=>(e.key,e.val))=(l2.filter fun p=>decide (p.1≠k)).map (fun p=>(Enc.val p.1,Value.int .i64 p.2)):=by
    intro l1;induction l1 with
    |nil=>intro l2 k h;cases l2 with
     |nil=>rfl
     |cons=>cases h
    |cons a l1 ih=>
     intro l2 k h
     cases l2 with
     |nil=>cases h
     |cons b l2=>
      simp only[List.map_cons,List.cons.injEq,Prod.mk.injEq] at h;obtain⟨⟨h1,h2⟩,h3⟩:=h;have:(a.key≠Enc.val k)↔(b.1≠k):=by
       rw[h1];exact⟨fun h e=>h (by rw[e]),fun h e=>h (K.inj e)⟩
      rw[List.filter_cons,List.filter_cons];by_cases hb:b.1=k
      ·rw[if_neg (by simp[h1,hb]),if_neg (by simp[hb])];exact ih _ _ h3
      ·rw[if_pos (decide_eq_true (this.2 hb)),if_pos (decide_eq_true hb),List.map_cons,List.map_cons,ih _ _ h3,h1,h2]
   exact gen _ _ _ a7
  ·have:(ChangeMaps.setBlock w1 r (.mapIter (some g) s (sn.push (leftOf es sn).toList[i].born) c))=w1.putObj r (.mapIter (some g) s (sn.push (leftOf es sn).toList[i].born) c):=rfl;rw[this];have hd:w.grownBy w1 none:=by rcases hw with rfl|rfl;exact World.grownBy.refl _ _;exact grown_of_ext (Ext.todrew (Ext.refl _))
   have hp:=grownBy_putObj' w1 r (.mapIter (some g) s (sn.push (leftOf es sn).toList[i].born) c);exact⟨hp.os.trans hd.os,hp.tape.trans hd.tape,hp.output.trans hd.output,Nat.le_trans hd.size hp.size,fun j hj hr=>(hp.block j (Nat.lt_of_lt_of_le hj hd.size) hr).trans (hd.block j hj (by simp))⟩
open Classical in
theorem mL{k:Value}:∀{l:List MapEntry}(i:Nat)(hi:i<l.length),l[i].key=k→(∀j(hj:j<l.length),l[j].key=k→j=i)→l.eraseIdx i=l.filter fun x=>decide (x.key≠k)
 | [],_,hi,_,_=>by simp at hi
 |a::l,0,hi,h4,hk=>by
  simp only[List.getElem_cons_zero] at h4;rw[List.eraseIdx_cons_zero,List.filter_cons_of_neg (by simp[h4])]
  symm;rw[List.filter_eq_self]
  intro x hx;obtain⟨j,hj,rfl⟩:=List.mem_iff_getElem.1 hx;apply decide_eq_true;intro e;have:=hk (j+1) (by simpa using hj) (by simpa using e)
  omega
 |a::l,i+1,hi,h4,hk=>by
  simp only[List.getElem_cons_succ] at h4;have ha:a.key≠k:=fun e=>by have:=hk 0 (by simp) (by simpa using e);omega
  rw[List.eraseIdx_cons_succ,List.filter_cons,if_pos (by simpa using ha)]
  congr 1
  exact mL i (by simpa using hi) h4 fun j hj e=>by have:=hk (j+1) (by simpa using hj) (by simpa using e);omega
theorem Ij{P:Program}{t kt e ty:TypeId}[K:KeyC κ P kt](ht:P.underlying t=some (.map kt e))(h:RngL w r g m left)(k:κ):
 ∃W,(Builtin.delete_ #[t,kt] ty #[.map (some g),Enc.val k]).run P w=.ok (.tuple #[]) W∧RngL W r g (delL m k) (delL left k)∧w.grownBy W (some g):=by
 classical
 have hlt:=h.map.lt;obtain⟨es,c,s,sn,c0,a1,a2,a3,a4,a5,a6,a7,a8⟩:=h;have hne:g≠r:=by rintro rfl;rw[a1] at a3;cases a3
 have hck:=K.check w es.isEmpty k;have gen:∀(l1:List MapEntry)(l2:List (κ×Int)),l1.map (fun e=>(e.key,e.val))=l2.map (fun p=>(Enc.val p.1,Value.int .i64 p.2))→
  (l1.filter fun x=>decide (x.key≠Enc.val k)).map (fun e=>(e.key,e.val))=(l2.filter fun p=>decide (p.1≠k)).map (fun p=>(Enc.val p.1,Value.int .i64 p.2)):=by
  intro l1;induction l1 with
  |nil=>intro l2 h;cases l2 with
   |nil=>rfl
   |cons=>cases h
  |cons a l1 ih=>
   intro l2 h
   cases l2 with
   |nil=>cases h
   |cons b l2=>
    simp only[List.map_cons,List.cons.injEq,Prod.mk.injEq] at h;obtain⟨⟨h1,h2⟩,h3⟩:=h;have:(a.key≠Enc.val k)↔(b.1≠k):=by
     rw[h1];exact⟨fun h e=>h (by rw[e]),fun h e=>h (K.inj e)⟩
    rw[List.filter_cons,List.filter_cons];by_cases hb:b.1=k
    ·rw[if_neg (by simp[h1,hb]),if_neg (by simp[hb])];exact ih _ h3
    ·rw[if_pos (decide_eq_true (this.2 hb)),if_pos (decide_eq_true hb),List.map_cons,List.map_cons,ih _ h3,h1,h2]
 -- the entries behind the strike, as a filter
 obtain⟨es',he',hrun⟩:∃es':Array MapEntry,es'.toList=es.toList.filter (fun x=>decide (x.key≠Enc.val k))∧(Builtin.delete_ #[t,kt] ty #[.map (some g),Enc.val k]).run P w=.ok (.tuple #[]) (w.putObj g (.map es' c)):=by
  rcases a2.look K w k with ⟨h2,h2',h3⟩|⟨i,hi,hm,h2,h4,h3⟩
  ·refine⟨es,?_,?_⟩
   ·symm;rw[List.filter_eq_self];intro x hx;exact decide_eq_true (h2' x hx)
   ·simp[Builtin.delete_,Sem.run_bind,run_underlying ht,MapKept.run_getObj_map a1,hck,h3,MapKept.run_setObj_map _ a1,World.putObj]
  ·have hi':i<es.size:=by simpa using hi
   refine⟨es.eraseIdxIfInBounds i,?_,?_⟩
   ·have e1:(es.eraseIdxIfInBounds i).toList=es.toList.eraseIdx i:=by simp[Array.eraseIdxIfInBounds,hi']
    rw[e1];have hk:∀j(hj:j<es.toList.length),es.toList[j].key=Enc.val k→j=i:=by
     intro j hj hjk;rw[(a2.at_ hj).1] at hjk;have e2:=K.inj hjk;rcases Nat.lt_trichotomy j i with h|h|h
     ·have:=List.pairwise_iff_getElem.1 a2.nodup j i (by simp;rw[←a2.len];exact hj) (by simpa using hm) h
      simp at this;exact absurd (e2.trans h2.symm) this
     ·exact h
     ·have:=List.pairwise_iff_getElem.1 a2.nodup i j (by simpa using hm) (by simp;rw[←a2.len];exact hj) h
      simp at this;exact absurd (h2.trans e2.symm) this
    exact mL i hi h4 hk
   ·simp[Builtin.delete_,Sem.run_bind,run_underlying ht,MapKept.run_getObj_map a1,hck,h3,MapKept.run_setObj_map _ a1,World.putObj]
 refine⟨w.putObj g (.map es' c),hrun,⟨es',c,s,sn,c0,World.putObj_heap_same hlt,⟨?_,?_,?_,fA a2.nodup⟩,(World.putObj_heap_other hne.symm).trans a3,?_,a5,a6,?_,fA a8⟩,grownBy_putObj' w g _⟩
 ·rw[he'];unfold delL;exact gen _ _ a2.map
 ·intro e he;rw[he'] at he;exact a2.born e (List.mem_filter.1 he).1
 ·rw[he'];exact a2.rises.sublist List.filter_sublist
 ·intro x hx;rw[he'] at hx;exact a4 x ((List.mem_filter.1 hx).1)
 ·have e2:(leftOf es' sn).toList=(leftOf es sn).toList.filter (fun x=>decide (x.key≠Enc.val k)):=by
   unfold leftOf;rw[Array.toList_filter,Array.toList_filter,he',List.filter_filter,List.filter_filter];apply List.filter_congr;intro x _;rw[Bool.and_comm]
  rw[e2];unfold delL;exact gen _ _ a7
end
class NcC (a:outParam World) (b:World) (g:outParam Nat):Prop where
 h:a.grownBy b (some g)
 c:∃o,a.heap[g]? =some o∧o.isCells=false
class MapC (κ:outParam Type) [i:outParam (Enc κ)] (W:World) (g:Nat) (m:outParam (List (κ×Int))):Prop where h:MapL W g m
class RngC (κ:outParam Type) [i:outParam (Enc κ)] (W:World) (r:Nat) (g:outParam Nat) (m left:outParam (List (κ×Int))):Prop where h:RngL W r g m left
class MapNe (g g':Nat):Prop where h:g≠g'
section
variable{κ:Type}[Enc κ]{a b b' v0 W:World}{g g' r n size q B:Nat}{m left:List (κ×Int)}{t e:TypeId}{l cs:List Value}{v:Value}
instance(priority:=800)ExtC.nc[s:NcC b' b g][q:AtC v0 g][y:ExtC a v0][x:ExtC a b']:ExtC a b:=⟨fM x.h s.h (Nat.le_trans y.h.size q.h) x.h.size⟩
instance(priority:=800)BlkC.nc[s:NcC a b g'][x:BlkC a g t l]:BlkC b g t l:=⟨x.h.grown s.h (fun e=>by
 obtain⟨o,ho,hc⟩:=s.c;injection e with e
 have:=x.h;unfold Blk at this;rw[e,ho] at this;injection this with this;subst this;cases hc)⟩
theorem RowC.not_ctl{B':World}(x:RowC a v B' e size n cs){g:Nat}(hc:∃o,a.heap[g]? =some o∧o.isCells=false):v.ownBlock≠some g:=fun hv=>by
 obtain⟨c,z,hh⟩:=x.cells_ hv;obtain⟨o,ho,hc⟩:=hc;rw[hh] at ho;injection ho with ho;subst ho;cases hc
instance(priority:=800)RowC.nc{B':World}[s:NcC a b g][x:RowC a v B' e size n cs]:RowC b v B' e size n cs:=⟨x.h.kept s.h (by
 cases hv:v.ownBlock with
 |none=>exact .inl rfl
 |some g'=>exact .inr fun e=>x.not_ctl s.c (by rw[hv];exact e))⟩
instance(priority:=900)MapC.step[s:StepC a b][x:MapC κ a g m]:MapC κ b g m:=⟨x.h.ext s.h⟩
instance(priority:=800)MapC.store[s:StoreC a b g'][y:BlkC a g' t l][x:MapC κ a g m]:MapC κ b g m:=⟨x.h.grown s.h (fun e=>by
 injection e with e;subst e
 obtain⟨o,ho,hc⟩:=x.h.ctl;have:=y.h;unfold Blk at this;rw[ho] at this;injection this with this;subst this;cases hc)⟩
instance(priority:=850)MapC.grow{B B':World}[s:GrowC a b B v][y:RowC a v B' e size n cs][x:MapC κ a g m]:MapC κ b g m:=⟨x.h.grown s.h (fun e=>y.not_ctl x.h.ctl e.symm)⟩
instance(priority:=850)MapC.ctl{m':List (κ×Int)}[s:CtlC a b v0][x:MapC κ a g m][y:MapC κ v0 g m']:MapC κ b g m:=⟨by
 obtain⟨row,h1,h2⟩:=s.h;exact x.h.grown h1 (fun e=>by have:=(h2 g e.symm).1;have:=y.h.lt;omega)⟩
instance(priority:=800)MapC.nc[s:NcC a b g'][x:MapC κ a g m][n:MapNe g g']:MapC κ b g m:=⟨x.h.grown s.h (fun e=>n.h (Option.some.inj e))⟩
instance(priority:=900)RngC.step[s:StepC a b][x:RngC κ a r g m left]:RngC κ b r g m left:=⟨x.h.ext s.h⟩
instance(priority:=850)RngC.grow{B B':World}[s:GrowC a b B v][y:RowC a v B' e size n cs][x:RngC κ a r g m left]:RngC κ b r g m left:=⟨x.h.grown s.h (fun e=>y.not_ctl x.h.map.ctl e.symm) (fun e=>y.not_ctl x.h.ctl e.symm)⟩
instance(priority:=800)RngC.nc[s:NcC a b g'][x:RngC κ a r g m left][n:MapNe g g'][n':MapNe r g']:RngC κ b r g m left:=⟨x.h.grown s.h (fun e=>n.h (Option.some.inj e)) (fun e=>n'.h (Option.some.inj e))⟩
instance MapNe.old{κ':Type}[Enc κ']{m':List (κ'×Int)}[q:AtC a g'][x:MapC κ' a g m']:MapNe g g':=⟨fun e=>by have:=x.h.lt;have:=q.h;omega⟩
instance MapNe.new{κ':Type}[Enc κ']{m':List (κ'×Int)}[q:AtC a g][x:MapC κ' a g' m']:MapNe g g':=⟨fun e=>by have:=x.h.lt;have:=q.h;omega⟩
theorem KfC.nc(s:NcC b' b g)(hg:g<B)[x:KfC B a b']:KfC B a b:=⟨x.h.trans (KeepsFrom.ofGrown s.h fun r e o ho=>by cases e;exact .inr hg)⟩
end
class MapT (P:Program) (t:TypeId) (kt:outParam TypeId):Prop where h:∃e,P.underlying t=some (.map kt e)∧∀w,(zeroValue e).run P w=.ok (.int .i64 0) w
section
variable{κ:Type}[Enc κ][DecidableEq κ]{W:World}{g r:Nat}{m left:List (κ×Int)}{P:Program}{t kt ty:TypeId}{k:κ}{v:Int}
variable{ops:Array Oper}{Q:Exit→Act→World→Prop}{A:Act}{rest:List Oper}{d:Option Tmp}{pos:String}{after:Array Edge}{x y z:Operand}{u:Value}
theorem tR(t:TypeId)(W:World):(Instr.makeMap t none).run P W=.ok (.map (some W.heap.size)) (W.alloc (.map #[] 0)):=by
 simp[Instr.makeMap,Sem.run_bind,run_newObj_alloc,Result.andThen]
theorem iG[q:MapT P t kt](κ:Type)[Enc κ](k:∀W' g,StepC W W'→MapC κ W' g []→AtC W g→wpList P ops Q rest (A.put d (.map (some g))) W'):
 wpList P ops Q (⟨d,.makeMap t none,ty,pos,after,none⟩::rest) A W:=
 wpList_plain rfl fun K hK=>by
  have h:(execOp A.eval (⟨d,.makeMap t none,ty,pos,after,none⟩:Oper)).run P W=.ok (.value (.map (some W.heap.size))) (W.alloc (.map #[] 0)):=by
   simp[execOp,tR,Result.andThen]
  unfold Oper.wp;rw[h];exact hK _ _ (k _ _ ⟨Ext.ofAlloc _ _⟩ ⟨#[],0,heap_alloc_new W _,⟨rfl,by simp,by simp,by simp⟩⟩ ⟨Nat.le_refl _⟩)
theorem zZ{b:Bool}[q:MapT P t kt][K:KeyC κ P kt](k':wpList P ops Q rest (A.put d (if b then .tuple #[.int .i64 ((getL m k).getD 0),.bool (getL m k).isSome] else .int .i64 ((getL m k).getD 0))) W)
 (h:A.eval x=.map (some g)∧MapC κ W g m∧A.eval y=Enc.val k:=by(refine⟨by with_unfolding_all rfl,?_⟩;refine⟨by infer_instance,by with_unfolding_all rfl⟩)):wpList P ops Q (⟨d,.lookup t x y b,ty,pos,after,none⟩::rest) A W:=
 wpList_plain rfl fun K' hK=>by
  obtain⟨e,ht,hz⟩:=q.h;have hr:=Dz (P:=P) ht hz h.2.1.h k b;have h':(execOp A.eval (⟨d,.lookup t x y b,ty,pos,after,none⟩:Oper)).run P W=.ok (.value (if b then .tuple #[.int .i64 ((getL m k).getD 0),.bool (getL m k).isSome] else .int .i64 ((getL m k).getD 0))) W:=by
   simp only[execOp,h.1,h.2.2,Sem.run_bind,hr];rfl
  unfold Oper.wp;rw[h'];exact hK _ _ k'
theorem Cs[q:MapT P t kt][K:KeyC κ P kt](k':∀W',NcC W W' g→MapC κ W' g (putL m k v)→wpList P ops Q rest (A.put d undef) W')
 (h:A.eval x=.map (some g)∧MapC κ W g m∧A.eval y=Enc.val k∧A.eval z=.int .i64 v:=by(refine⟨by with_unfolding_all rfl,?_⟩;refine⟨by infer_instance,by with_unfolding_all rfl,by with_unfolding_all rfl⟩)):wpList P ops Q (⟨d,.mapUpdate t x y z,ty,pos,after,none⟩::rest) A W:=
 wpList_plain rfl fun K' hK=>by
  obtain⟨e,ht,hz⟩:=q.h;obtain⟨W',hr,hm,hg⟩:=Ii (P:=P) ht h.2.1.h k v;have h':(execOp A.eval (⟨d,.mapUpdate t x y z,ty,pos,after,none⟩:Oper)).run P W=.ok .skip W':=by
   simp only[execOp,h.1,h.2.2.1,h.2.2.2,Sem.run_bind,hr];rfl
  unfold Oper.wp;rw[h'];exact hK _ _ (k' _ ⟨hg,h.2.1.h.ctl⟩ ⟨hm⟩)
theorem Pc[q:MapT P t kt][K:KeyC κ P kt](k':∀W',NcC W W' g→MapC κ W' g (delL m k)→wpList P ops Q rest (A.put d (.tuple #[])) W')
 (h:A.eval x=.map (some g)∧MapC κ W g m∧A.eval y=Enc.val k:=by(refine⟨by with_unfolding_all rfl,?_⟩;refine⟨by infer_instance,by with_unfolding_all rfl⟩)):wpList P ops Q (⟨d,.call {callee:=.builtin .delete,args:=#[x,y],argTypes:=#[t,kt]},ty,pos,after,none⟩::rest) A W:=
 wpList_plain rfl fun K' hK=>by
  obtain⟨e,ht,hz⟩:=q.h;obtain⟨W',hr,hm,hg⟩:=Ik (P:=P) (ty:=ty) ht h.2.1.h k;have h':(execOp A.eval (⟨d,.call {callee:=.builtin .delete,args:=#[x,y],argTypes:=#[t,kt]},ty,pos,after,none⟩:Oper)).run P W=.ok (.value (.tuple #[])) W':=by
   rw[←h.1,←h.2.2] at hr;simp[execOp,resolve,invoke,builtin,Sem.run_bind,hr,Result.andThen]
  unfold Oper.wp;rw[h'];exact hK _ _ (k' _ ⟨hg,h.2.1.h.ctl⟩ ⟨hm⟩)
theorem Qt[q:MapT P t kt][K:KeyC κ P kt](k':∀W',NcC W W' g→RngC κ W' r g (delL m k) (delL left k)→wpList P ops Q rest (A.put d (.tuple #[])) W')
 (hR:RngC κ W r g m left)(h:A.eval x=.map (some g)∧A.eval y=Enc.val k:=by(refine⟨by with_unfolding_all rfl,by with_unfolding_all rfl⟩)):wpList P ops Q (⟨d,.call {callee:=.builtin .delete,args:=#[x,y],argTypes:=#[t,kt]},ty,pos,after,none⟩::rest) A W:=
 wpList_plain rfl fun K' hK=>by
  obtain⟨e,ht,hz⟩:=q.h;obtain⟨W',hr,hm,hg⟩:=Ij (P:=P) (ty:=ty) ht hR.h k;have h':(execOp A.eval (⟨d,.call {callee:=.builtin .delete,args:=#[x,y],argTypes:=#[t,kt]},ty,pos,after,none⟩:Oper)).run P W=.ok (.value (.tuple #[])) W':=by
   rw[←h.1,←h.2] at hr;simp[execOp,resolve,invoke,builtin,Sem.run_bind,hr,Result.andThen]
  unfold Oper.wp;rw[h'];exact hK _ _ (k' _ ⟨hg,hR.h.map.ctl⟩ ⟨hm⟩)
theorem De[q:MapT P t kt](k':∀W',NcC W W' g→MapC κ W' g []→wpList P ops Q rest (A.put d (.tuple #[])) W')
 (h:A.eval x=.map (some g)∧MapC κ W g m:=by(refine⟨by with_unfolding_all rfl,?_⟩;infer_instance)):wpList P ops Q (⟨d,.call {callee:=.builtin .clear,args:=#[x],argTypes:=#[t]},ty,pos,after,none⟩::rest) A W:=
 wpList_plain rfl fun K' hK=>by
  obtain⟨e,ht,hz⟩:=q.h;obtain⟨W',hr,hm,hg⟩:=zA (P:=P) (ty:=ty) ht h.2.h;have h':(execOp A.eval (⟨d,.call {callee:=.builtin .clear,args:=#[x],argTypes:=#[t]},ty,pos,after,none⟩:Oper)).run P W=.ok (.value (.tuple #[])) W':=by
   rw[←h.1] at hr;simp[execOp,resolve,invoke,builtin,Sem.run_bind,hr,Result.andThen]
  unfold Oper.wp;rw[h'];exact hK _ _ (k' _ ⟨hg,h.2.h.ctl⟩ ⟨hm⟩)
theorem tV[q:MapT P t kt](k':∀W' r,StepC W W'→RngC κ W' r g m m→AtC W r→wpList P ops Q rest (A.put d (.pointer (some ⟨r,0,none⟩))) W')
 (h:A.eval x=.map (some g)∧MapC κ W g m:=by(refine⟨by with_unfolding_all rfl,?_⟩;infer_instance)):wpList P ops Q (⟨d,.range t x,ty,pos,after,none⟩::rest) A W:=
 wpList_plain rfl fun K' hK=>by
  obtain⟨e,ht,hz⟩:=q.h;obtain⟨W',r,hr,hm,hg,hl⟩:=yZ (P:=P) ht h.2.h;have h':(execOp A.eval (⟨d,.range t x,ty,pos,after,none⟩:Oper)).run P W=.ok (.value (.pointer (some ⟨r,0,none⟩))) W':=by
   simp only[execOp,h.1,Sem.run_bind,hr];rfl
  unfold Oper.wp;rw[h'];exact hK _ _ (k' _ _ ⟨hg⟩ ⟨hm⟩ ⟨hl⟩)
class NowC (κ:outParam Type) [i:outParam (Enc κ)] (W:World) (r:Nat) (p:outParam (κ×Int)):Prop where h:NowL W r p
theorem lL{p:κ×Int}(k':wpList P ops Q rest (A.put d (.tuple #[Enc.val p.1,.int .i64 p.2])) W)(h:A.eval x=.pointer (some ⟨r,0,none⟩)∧NowC κ W r p:=by(refine⟨by with_unfolding_all rfl,?_⟩;infer_instance)):wpList P ops Q (⟨d,.entry x,ty,pos,after,none⟩::rest) A W:=
 wpList_plain rfl fun K' hK=>by
  have hr:=h.2.h.run (P:=P);have h':(execOp A.eval (⟨d,.entry x,ty,pos,after,none⟩:Oper)).run P W=.ok (.value (.tuple #[Enc.val p.1,.int .i64 p.2])) W:=by
   simp only[execOp,h.1,Sem.run_bind,hr];rfl
  unfold Oper.wp;rw[h'];exact hK _ _ k'
theorem Jl{kt:TypeId}[K:KeyC κ P kt](hR:RngC κ W r g m left)(k0:left=[]→wpList P ops Q rest (A.put d (.tuple #[.bool false])) W)
 (k':∀(p:κ×Int)W',p∈left→NcC W W' r→RngC κ W' r g m (delL left p.1)→NowC κ W' r p→wpList P ops Q rest (A.put d (.tuple #[.bool true,Enc.val p.1,.int .i64 p.2])) W')
 (h:A.eval x=.pointer (some ⟨r,0,none⟩):=by with_unfolding_all rfl):wpList P ops Q (⟨d,.next x false,ty,pos,after,none⟩::rest) A W:=
 wpList_plain rfl fun K' hK=>by
  rcases Dy (P:=P) (ty:=ty) (kt:=kt) hR.h with ⟨h1,hr⟩|⟨p,W',hp,hr,hm,hg,hn⟩
  ·have h':(execOp A.eval (⟨d,.next x false,ty,pos,after,none⟩:Oper)).run P W=.ok (.value (.tuple #[.bool false])) W:=by
    simp only[execOp,h,Sem.run_bind,hr];rfl
   unfold Oper.wp;rw[h'];exact hK _ _ (k0 h1)
  ·have h':(execOp A.eval (⟨d,.next x false,ty,pos,after,none⟩:Oper)).run P W=.ok (.value (.tuple #[.bool true,Enc.val p.1,.int .i64 p.2])) W':=by
    simp only[execOp,h,Sem.run_bind,hr];rfl
   unfold Oper.wp;rw[h'];exact hK _ _ (k' _ _ hp ⟨hg,hR.h.ctl⟩ ⟨hm⟩ ⟨hn⟩)
end
end Go.Walk
end
section
namespace Go.Walk
open Go Go.Bp Go.RowKit
section
variable{κ:Type}[Enc κ][DecidableEq κ]{W:World}{g r:Nat}{m left:List (κ×Int)}{P:Program}{t ty:TypeId}
variable{ops:Array Oper}{Q:Exit→Act→World→Prop}{A:Act}{rest:List Oper}{d:Option Tmp}{pos:String}{after:Array Edge}{x:Operand}
theorem mH(kt:TypeId)[K:KeyC κ P kt](hR:RngC κ W r g m [])(k0:wpList P ops Q rest (A.put d (.tuple #[.bool false])) W)
 (h:A.eval x=.pointer (some ⟨r,0,none⟩):=by with_unfolding_all rfl):wpList P ops Q (⟨d,.next x false,ty,pos,after,none⟩::rest) A W:=
 Jl (kt:=kt) hR (fun _=>k0) (fun p W' hp=>by cases hp) h
theorem uC(kt:TypeId)[K:KeyC κ P kt](hR:RngC κ W r g m left)(hne:left≠ [])
 (k':∀(p:κ×Int)W',p∈left→NcC W W' r→RngC κ W' r g m (delL left p.1)→NowC κ W' r p→wpList P ops Q rest (A.put d (.tuple #[.bool true,Enc.val p.1,.int .i64 p.2])) W')
 (h:A.eval x=.pointer (some ⟨r,0,none⟩):=by with_unfolding_all rfl):wpList P ops Q (⟨d,.next x false,ty,pos,after,none⟩::rest) A W:=
 Jl (kt:=kt) hR (fun e=>absurd e hne) k' h
theorem xN(hn:(left.map Prod.fst).Nodup){p:κ×Int}(hp:p∈left):left.Perm (p::delL left p.1):=by
 induction left with
 |nil=>cases hp
 |cons q l ih=>
  rw[List.map_cons,List.nodup_cons] at hn;rcases List.mem_cons.1 hp with e|hp'
  ·subst e;have:delL (p::l) p.1=l:=by
    unfold delL;rw[List.filter_cons_of_neg (by simp),List.filter_eq_self]
    intro q hq;apply decide_eq_true;intro e;exact hn.1 (List.mem_map.2 ⟨q,hq,e⟩)
   rw[this]
  ·have hne:q.1≠p.1:=fun e=>hn.1 (List.mem_map.2 ⟨p,hp',e.symm⟩)
   have:delL (q::l) p.1=q::delL l p.1:=by unfold delL;rw[List.filter_cons,if_pos (decide_eq_true hne)]
   rw[this];exact((ih hn.2 hp').cons q).trans (List.Perm.swap p q _)
theorem oX(hn:(left.map Prod.fst).Nodup){p:κ×Int}(hp:p∈left):(delL left p.1).length+1=left.length:=by have:=(xN hn hp).length_eq;simpa using this.symm
theorem RngL.nodup(h:RngL W r g m left):(left.map Prod.fst).Nodup:=by obtain⟨_,_,_,_,_,_,_,_,_,_,_,_,h⟩:=h;exact h
end
end Go.Walk
end
section
namespace Go.Walk
open Go Go.Bp Go.RowKit
class LstC (α:outParam Type) [i:outParam (Enc α)] (W:World) (v:Value) (l:outParam (List α)):Prop where h:ListV W v l
section
variable{α:Type}[Enc α]{a b v0 W:World}{v:Value}{l:List α}{g:Nat}
instance(priority:=900)LstC.step[s:StepC a b][x:LstC α a v l]:LstC α b v l:=⟨x.h.ext s.h⟩
instance(priority:=850)LstC.ctl[s:CtlC a b v0][x:LstC α a v l]:LstC α b v l:=⟨yY x.h s⟩
instance(priority:=800)LstC.nc[s:NcC a b g][x:LstC α a v l]:LstC α b v l:=⟨by
 obtain⟨A,k,h1,h2,h3,h4,h5⟩:=x.h;exact⟨A,k,h1,h2,h3,h4,fun hp=>by
  obtain⟨ad,h6,h7⟩:=h5 hp;exact⟨ad,h6,fun j u hj=>cell_kept (h7 j u hj) s.h (fun r e=>by cases e;exact s.c)⟩⟩⟩
theorem nQ{B:Nat}{Wx:World}(h:CtlC a b v0)(k:KeepsFrom B Wx a)(hx:Wx.heap.size≤v0.heap.size):KeepsFrom B Wx b:=by
 obtain⟨row,h1,h2⟩:=h.h;exact⟨Nat.le_trans k.size h1.size,fun i o hi ho hc=>by
  have:=k.same i o hi ho hc;refine(h1.block i (Array.getElem?_eq_some_iff.1 this).1 (fun e=> ?_)).trans this
  have h3:=(h2 i e.symm).1;have h4:=(Array.getElem?_eq_some_iff.1 ho).1;omega⟩
class LtB (g B:Nat):Prop where h:g<B
instance(priority:=800)KfC.ncI{B:Nat}{b':World}[s:NcC b' b g][q:LtB g B][x:KfC B a b']:KfC B a b:=KfC.nc s q.h
instance(priority:=850)KfC.ctl{B:Nat}{b':World}[s:CtlC b' b v0][q:ExtC a v0][x:KfC B a b']:KfC B a b:=⟨nQ s x.h q.h.size⟩
end
section
variable{P:Program}{ops:Array Oper}{Q:Exit→Act→World→Prop}{a:Act}{w:World}{id l n:Nat}
theorem fE(t:OTree)(h:Ext w w.drew→wpTree P ops Q (Ext w) t a w.drew)(hm:P.follows .mixedOrders=true:=by kernel_rfl)(hd:noDefer ops=true:=by kernel_rfl)(hL:¬LetsOut Q:=by rintro⟨_,_,h⟩;exact h)(hs:Region.noSelect ops=true:=by kernel_rfl)(hf:Nat.ble t.depth ops.size=true:=by kernel_rfl)(hok:okTree .any ops t (Array.replicate ops.size false)=true:=by kernel_rfl)(hQ:∀c(a:Act)(d:Tmp)(v:Value)(w:World),Q (.panic c) (a.put (some d) v) w→Q (.panic c) a w:=by intro _ _ _ _ _ h;exact h):
 (Go.Code.region id ops true).wpIn (Fence.wide.inRound l) n P Q a w:=
 gZ t (Ext w) hm hd hL hs hf hok hQ (Ext.todrew (Ext.refl _)) h
theorem Lu(t:OTree)(S:World→Prop)(hS:S w.drew)(h:S w.drew→wpTree P ops Q S t a w.drew)(hm:P.follows .mixedOrders=true:=by kernel_rfl)(hd:noDefer ops=true:=by kernel_rfl)(hL:¬LetsOut Q:=by rintro⟨_,_,h⟩;exact h)(hs:Region.noSelect ops=true:=by kernel_rfl)(hf:Nat.ble t.depth ops.size=true:=by kernel_rfl)(hok:okTree .any ops t (Array.replicate ops.size false)=true:=by kernel_rfl)(hQ:∀c(a:Act)(d:Tmp)(v:Value)(w:World),Q (.panic c) (a.put (some d) v) w→Q (.panic c) a w:=by intro _ _ _ _ _ h;exact h):
 (Go.Code.region id ops true).wpIn (Fence.wide.inRound l) n P Q a w:=
 gZ t S hm hd hL hs hf hok hQ hS h
end
end Go.Walk
end
section
namespace Go.Bp
open Go.RowKit
section
variable{t:TypeId}
end
variable{P:Program}
def marks(l:List Nat):List Deferred:=l.map fun D=>{target:=.collected D,args:=#[]}
end Go.Bp
end
section
namespace Go.Bp
open Go.RowKit
section
variable{P:Program}{ops:Array Oper}{Q:Exit→Act→World→Prop}{a:Act}{w:World}{n l id:Nat}
end
section
variable{P:Program}{ops:Array Oper}{Q:Exit→Act→World→Prop}{a:Act}{w:World}{n l:Nat}{r:List Oper}
def calmList(r:List Oper):Bool:=r.all fun o=>match o.op with| .defer _=>false|_=>true
theorem wW(hQ:¬LetsOut Q)(hd:calmList r=true)(h:wpList P ops Q r a w):wpListIn (Fence.wide.inRound l) n P ops Q r a w:=by
 refine jY hQ r a w (fun o ho c e=> ?_) h
 unfold calmList at hd;rw[List.all_eq_true] at hd;have:=hd o ho;rw[e] at this;cases this
end
theorem aK{P:Program}{Q:Exit→Act→World→Prop}{a:Act}{w:World}{n l id:Nat}{r:List Oper}(hQ:¬LetsOut Q)(hd:calmList r=true)(h:wpList P r.toArray Q r a w):(Go.Code.region id r.toArray false).wpIn (Fence.wide.inRound l) n P Q a w:=
 wpIn_region_lit (wW hQ hd h)
variable{P:Program}
end Go.Bp
end
