import Derived.Test.YtbfbepnkofampaaGreatDoorXP01
set_option maxRecDepth 100000
set_option linter.all false
section
namespace Go.Walk
open Go Go.Bp Go.RowKit
class StepC (a:outParam World) (b:World):Prop where h:Ext a b
class StoreC (a:outParam World) (b:World) (g:outParam Nat):Prop where h:a.grownBy b (some g)
class ExtC (a b:World):Prop where h:Ext a b
class AtC (a:outParam World) (g:Nat):Prop where h:a.heap.size≤g
class BlkC (W:World) (g:Nat) (t:outParam TypeId) (l:outParam (List Value)):Prop where h:Blk W g t l.toArray
class NeC (g g':Nat):Prop where h:g≠g'
section
variable{a b b' v0 W:World}{g g' i n:Nat}{t e:TypeId}{l s:List Value}{v u:Value}{P:Program}{p:Addr}
instance(priority:=2000)ExtC.refl:ExtC a a:=⟨Ext.refl _⟩
instance(priority:=900)ExtC.step[s:StepC b' b][x:ExtC a b']:ExtC a b:=⟨x.h.trans s.h⟩
instance(priority:=800)ExtC.store[s:StoreC b' b g][q:AtC v0 g][y:ExtC a v0][x:ExtC a b']:ExtC a b:=⟨fM x.h s.h (Nat.le_trans y.h.size q.h) x.h.size⟩
instance StepC.drew:StepC W W.drew:=⟨Ext.todrew (Ext.refl _)⟩
instance(priority:=900)BlkC.step[s:StepC a b][x:BlkC a g t l]:BlkC b g t l:=⟨x.h.ext s.h⟩
instance(priority:=800)BlkC.store[s:StoreC a b g'][x:BlkC a g t l][n:NeC g g']:BlkC b g t l:=⟨x.h.grown s.h (fun e=>n.h (Option.some.inj e))⟩
instance NeC.old[q:AtC a g'][x:BlkC a g t l]:NeC g g':=⟨fun e=>by have:=x.h.lt;have:=q.h;omega⟩
instance NeC.new[q:AtC a g][x:BlkC a g' t l]:NeC g g':=⟨fun e=>by have:=x.h.lt;have:=q.h;omega⟩
class LoadC (P:Program) (W:World) (t:TypeId) (p:Addr) (v:outParam Value):Prop where h:(loadVar t p).run P W=.ok v W
def scal:TypeDesc→Bool| .struct _=>false| .array _ _=>false|_=>true
class ScalT (P:Program) (t:TypeId):Prop where h:∃dsc,P.underlying t=some dsc∧scal dsc=true
theorem jB(h:∃dsc,P.underlying t=some dsc∧scal dsc=true)(hc:W.cell? p=some v):(loadVar t p).run P W=.ok v W:=by
 obtain⟨d,h1,h2⟩:=h
 cases d<;>first|exact Jv h1 rfl hc|exact absurd h2 (by simp[scal])
class StrucT (P:Program) (t:TypeId) (n:outParam Nat):Prop where h:(∃fs,P.underlying t=some (.struct fs))∧(P.info? t).map TypeInfo.size=some n
class NthC (l:List Value) (i:Nat) (v:outParam Value):Prop where h:l[i]? =some v
instance:NthC (v::l) 0 v:=⟨rfl⟩
instance[x:NthC l i v]:NthC (u::l) (i+1) v:=⟨by simpa using x.h⟩
class TakeC (l:List Value) (n:Nat) (s:outParam (List Value)):Prop where h:l.take n=s∧s.length=n
instance:TakeC l 0 []:=⟨rfl,rfl⟩
instance[x:TakeC l n s]:TakeC (u::l) (n+1) (u::s):=⟨by simp[x.h.1],by simp[x.h.2]⟩
class SubC (l:List Value) (i n:Nat) (s:outParam (List Value)):Prop where h:(l.drop i).take n=s∧s.length=n
instance[x:TakeC l n s]:SubC l 0 n s:=⟨by simpa using x.h⟩
instance[x:SubC l i n s]:SubC (u::l) (i+1) n s:=⟨by simpa using x.h⟩
class CellsC (W:World) (p:Addr) (l:outParam (List Value)):Prop where h:Cells W p l
class CellsB (w:outParam World) (p:Addr) (l:outParam (List Value)):Prop where h:Cells w p l
instance[x:CellsB a p l][y:ExtC a W]:CellsC W p l:=⟨x.h.ext y.h⟩
theorem qP(hs:(∃fs,P.underlying t=some (.struct fs))∧(P.info? t).map TypeInfo.size=some n)(h:Cells W p s)(hl:s.length=n):(loadVar t p).run P W=.ok (.agg s.toArray) W:=by
 obtain⟨⟨fs,h1⟩,h2⟩:=hs
 cases hi:P.info? t with
 |none=>rw[hi] at h2;cases h2
 |some i=>
  rw[hi] at h2;have:i.size=n:=by simpa using h2
  exact wU h1 hi (by omega) h
instance LoadC.scal[x:ScalT P t][y:BlkC W g e l][z:NthC l i v]:LoadC P W t ⟨g,i,none⟩ v:=⟨by
 exact jB x.h (by rw[y.h.cell];simpa using z.h)⟩
instance LoadC.struc[x:StrucT P t n][y:BlkC W g e l][z:SubC l i n s]:LoadC P W t ⟨g,i,none⟩ (.agg s.toArray):=⟨by
 refine qP x.h (fun j u hu=> ?_) z.h.2
 have e:(⟨g,i,none⟩:Addr).add j=⟨g,i+j,none⟩:=by unfold Addr.add;split<;>simp_all
 rw[e,y.h.cell];have:j<s.length:=(List.getElem?_eq_some_iff.1 hu).1;rw[←z.h.1,List.getElem?_take_of_lt (by have:=z.h.2;omega),List.getElem?_drop] at hu
 simpa using hu⟩
instance(priority:=500)LoadC.cell[x:ScalT P t][y:CellsC W p l][z:NthC l 0 v]:LoadC P W t p v:=⟨by
 have:=y.h 0 v z.h;rw[add_zero'] at this;exact jB x.h this⟩
instance(priority:=600)LoadC.fld[x:ScalT P t][y:CellsC W p l][z:NthC l (i+1) v]:LoadC P W t ⟨p.block,p.off+(i+1),none⟩ v:=⟨by
 have:=y.h (i+1) v z.h;have e:p.add (i+1)=⟨p.block,p.off+(i+1),none⟩:=by simp[Addr.add]
 rw[e] at this;exact jB x.h this⟩
instance(priority:=500)LoadC.cells[x:StrucT P t n][y:CellsC W p l][z:TakeC l n s]:LoadC P W t p (.agg s.toArray):=⟨by
 refine qP x.h (fun j u hu=>y.h j u ?_) z.h.2
 have:j<s.length:=(List.getElem?_eq_some_iff.1 hu).1;rw[←z.h.1,List.getElem?_take_of_lt (by have:=z.h.2;omega)] at hu
 exact hu⟩
class FunC (P:Program) (f:FuncId) (args:Array Value) (W:World) (R:outParam (Ending→World→Prop)):Prop where h:Calls P f args W R
theorem aB{f:FuncId}{args:Array Value}{R Q:Ending→World→Prop}[c:FunC P f args W R](k:∀e W',R e W'→Q e W'):Calls P f args W Q:=c.h.mono k
variable{ops:Array Oper}{Q:Exit→Act→World→Prop}{A:Act}{rest:List Oper}
variable{d:Option Tmp}{ty ty':TypeId}{pos pos':String}{after after':Array Edge}{x y:Operand}
theorem aA[l:LoadC P W t p v](k:wpList P ops Q rest (A.put d v) W)(hx:A.eval x=.pointer (some p):=by with_unfolding_all rfl):wpList P ops Q (⟨d,.load t x,ty,pos,after,none⟩::rest) A W:=
 Pu hx l.h k
theorem aH(k:∀W' g,StepC W W'→BlkC W' g e l→AtC W g→wpList P ops Q rest (A.put d (.pointer (some ⟨g,0,none⟩))) W')(hc:(A.eval x).cells=l.toArray:=by(simp[Act.eval,Act.put,Value.cells];with_unfolding_all rfl)):
 wpList P ops Q (⟨d,.box e x,ty,pos,after,none⟩::rest) A W:=
 Ri fun W' g hE hB hg=>k W' g ⟨hE⟩ ⟨by rw[←hc];exact hB⟩ ⟨hg⟩
class ZeroT (P:Program) (e:TypeId) (z:outParam (List Value)):Prop where h:∃zv b,(P.info? e).map (fun i=>(i.zero,i.size,i.bytes))=some (some zv,z.length,b)∧zv.cells=z.toArray∧b≤1000
theorem ZeroT.size{P:Program}{e:TypeId}{z:List Value}(h:ZeroT P e z):(P.info? e).map TypeInfo.size=some z.length:=by
 obtain⟨zv,b,h1,_,_⟩:=h.h
 cases hi:P.info? e with
 |none=>rw[hi] at h1;cases h1
 |some i=>rw[hi] at h1;simp at h1⊢;exact h1.2.1
theorem aR{z:List Value}[q:ZeroT P e z](k:∀W' g,StepC W W'→BlkC W' g e z→AtC W g→wpList P ops Q rest (A.put d (.pointer (some ⟨g,0,none⟩))) W'):wpList P ops Q (⟨d,.alloc e,ty,pos,after,none⟩::rest) A W:=by
 obtain⟨zv,b,h1,h2,_⟩:=q.h;exact Cp h1 fun W' g hE hB hg=>k W' g ⟨hE⟩ ⟨by rw[←h2];exact hB⟩ ⟨hg⟩
theorem aG{uu:Tmp}{z:List Value}[q:ZeroT P e z]
 (k:∀W' g,StepC W W'→BlkC W' g e l→AtC W g→wpList P ops Q rest ((A.put (some uu) (.pointer (some ⟨g,0,none⟩))).put d undef) W')
 (hy:∀g,((A.put (some uu) (.pointer (some ⟨g,0,none⟩))).eval y).cells=l.toArray:=by(intro g;simp[Act.eval,Act.put,Value.cells];with_unfolding_all rfl))
 (hu:∀g,(A.put (some uu) (.pointer (some ⟨g,0,none⟩))).eval x=.pointer (some ⟨g,0,none⟩):=by(intro g;with_unfolding_all rfl))(hn:l.length=z.length:=by with_unfolding_all rfl)(h1:∀c∈l,c.oneCell'=true:=by simp[Value.oneCell']):
 wpList P ops Q (⟨some uu,.alloc e,ty,pos,after,none⟩::⟨d,.store e x y,ty',pos',after',none⟩::rest) A W:=by
 obtain⟨zv,b,i1,i2,_⟩:=q.h;refine Cp i1 fun W1 g hE hB hg=> ?_
 refine lY (hu g) rfl hB (n:=z.length) q.size ?_ (by rw[i2];simp) ?_ fun W' hB' hgr=> ?_
 ·rw[hy g];simpa using hn
 ·rw[hy g];simpa using h1
 ·rw[hy g,Em (by rw[i2];simpa using hn)] at hB'
  exact k W' g ⟨⟨hgr.os.trans hE.os,hgr.tape.trans hE.tape,hgr.output.trans hE.output,Nat.le_trans hE.size hgr.size,fun j hj=>(hgr.block j (Nat.lt_of_lt_of_le hj hE.size) (fun e=>by injection e;omega)).trans (hE.block j hj)⟩⟩ ⟨by simpa using hB'⟩ ⟨hg⟩
theorem aI{z:List Value}{off:Nat}{s':List Value}[q:ZeroT P t z]
 (k:∀W',StoreC W W' g→BlkC W' g e s'→wpList P ops Q rest (A.put d undef) W')
 (h:A.eval x=.pointer (some ⟨g,off,none⟩)∧BlkC W g e l∧(A.eval y).cells=s.toArray∧putAt l.toArray off s=s'.toArray∧s.length=z.length∧off+z.length≤l.length∧∀c∈s,c.oneCell'=true:=by
  (refine⟨by with_unfolding_all rfl,?_⟩;refine⟨by infer_instance,?_⟩;refine⟨by(simp[Act.eval,Act.put,Value.cells];with_unfolding_all rfl),?_⟩;refine⟨by(simp[putAt];with_unfolding_all rfl),?_⟩;refine⟨by with_unfolding_all rfl,by simp,by simp[Value.oneCell']⟩)):
 wpList P ops Q (⟨d,.store t x y,ty,pos,after,none⟩::rest) A W:=
 lY h.1 rfl h.2.1.h (n:=z.length) q.size (by rw[h.2.2.1];simpa using h.2.2.2.2.1) (by simpa using h.2.2.2.2.2.1) (by rw[h.2.2.1];simpa using h.2.2.2.2.2.2) fun W' hB hg=>k W' ⟨hg⟩ ⟨by rw[h.2.2.1] at hB;simp only at hB;rw[h.2.2.2.1] at hB;exact hB⟩
theorem aJ{gd:Option (Tmp×Bool)}[c:LoadC P W t p v](hx:A.eval x=.pointer (some p):=by with_unfolding_all rfl):
 (execOp A.eval (⟨d,.load t x,ty,pos,after,gd⟩:Oper)).run P W=.ok (.value v) W:=by
 simp[execOp,Instr.loadAt,hx,Instr.sureAddr,c.h,Result.andThen]
class SlT (P:Program) (t:TypeId) (e:outParam TypeId):Prop where h:P.underlying t=some (.slice e)
theorem set_list:∀(vs:List Value)(off j:Nat)(cs:List Value),off+j+vs.length≤cs.length→
 ((vs.zipIdx j).foldl (fun(c:Array Value)(q:Value×Nat)=>c.setIfInBounds (off+q.2) q.1) cs.toArray)=(cs.take (off+j)++vs++cs.drop (off+j+vs.length)).toArray
 | [],off,j,cs,h=>by simp
 |v::vs,off,j,cs,h=>by
  simp only[List.length_cons] at h;rw[List.zipIdx_cons,List.foldl_cons,List.setIfInBounds_toArray,set_list vs off (j+1) _ (by simp;omega)]
  congr 1
  have e1:(cs.set (off+j) v).take (off+(j+1))=cs.take (off+j)++ [v]:=by
   rw[show off+(j+1)=off+j+1 by omega,List.take_set,List.take_succ_eq_append_getElem (by omega),List.set_append_right _ _ (by simp[Nat.min_le_left])]
   simp[show off+j≤cs.length by omega]
  have e2:(cs.set (off+j) v).drop (off+(j+1)+vs.length)=cs.drop (off+j+(vs.length+1)):=by
   rw[List.drop_set_of_lt (by omega)];congr 1;omega
  rw[e1,e2];simp
theorem qV{size:Nat}:∀(vs:List Value)(k:Nat)(cs:List Value),(∀v∈vs,v.cells.size=size)→cs.length=(k+vs.length)*size→
 Instr.fill (fun i=>some (i*size,size)) cs.toArray ((vs.zipIdx k).map fun q=>(q.2,q.1))=some (cs.take (k*size)++vs.flatMap fun v=>v.cells.toList).toArray
 | [],k,cs,_,hl=>by
  simp only[List.length_nil,Nat.add_zero] at hl;simp only[List.zipIdx_nil,List.map_nil,Instr.fill,List.flatMap_nil,List.append_nil];rw[←hl,List.take_length]
 |v::vs,k,cs,hv,hl=>by
  have h1:=hv v (by simp)
  have h2:(k+(vs.length+1))*size=k*size+size+vs.length*size:=by rw[Nat.add_mul,Nat.add_mul];omega
  simp only[List.length_cons] at hl;rw[List.zipIdx_cons,List.map_cons];unfold Instr.fill;simp only;rw[if_neg (by simp only[List.size_toArray,h1];simp;omega)]
  have h3:v.cells.zipIdx.foldl (fun(c:Array Value)(q:Value×Nat)=>c.setIfInBounds (k*size+q.2) q.1) cs.toArray=(cs.take (k*size)++v.cells.toList++cs.drop (k*size+size)).toArray:=by
   have:=set_list v.cells.toList (k*size) 0 cs (by simp only[Array.length_toList,h1];omega)
   simp only[Nat.add_zero,Array.length_toList,h1] at this;rw[←this,←Array.foldl_toList];simp
  rw[h3];have hl':(cs.take (k*size)++v.cells.toList++cs.drop (k*size+size)).length=(k+1+vs.length)*size:=by
   have:(k+1+vs.length)*size=k*size+size+vs.length*size:=by rw[Nat.add_mul,Nat.add_mul];omega
   simp[h1];omega
  rw[qV vs (k+1) _ (fun u hu=>hv u (by simp[hu])) hl']
  congr 2
  rw[List.flatMap_cons,←List.append_assoc];congr 1
  rw[List.take_left' (by simp[h1,Nat.add_mul];omega)]
theorem aD{n:Nat}{parts:Array (Nat×Operand)}{z:List Value}[st:SlT P t e][q:ZeroT P e z]
 (k:∀W' g,StepC W W'→BlkC W' g e l→AtC W g→wpList P ops Q rest (A.put d (.slice (some ⟨g,0,none⟩) n n)) W')
 (h:parts.toList.map (·.1)=List.range n∧(∀p∈parts.toList,(A.eval p.2).cells.size=z.length)∧(parts.toList.flatMap fun p=>(A.eval p.2).cells.toList)=l∧n*z.length≤16777216∧0<z.length:=by
  (refine⟨by with_unfolding_all rfl,by(simp[Act.eval,Act.put,Value.cells]),?_⟩;refine⟨by(simp[Act.eval,Act.put,Value.cells];with_unfolding_all rfl),by simp,by simp⟩)):
 wpList P ops Q (⟨d,.buildSlice t n parts,ty,pos,after,none⟩::rest) A W:=by
 obtain⟨h1,h2,h3,h4,h5⟩:=h;obtain⟨zv,b,i1,i2,_⟩:=q.h;obtain⟨i,hi0,hz,hs,hby⟩:=info_parts i1;refine Iz (e:=e) (cs:=l.toArray) ?_ fun W' g hE hB hg=>k W' g ⟨hE⟩ ⟨hB⟩ ⟨hg⟩
 have hn:parts.toList.length=n:=by have:=congrArg List.length h1;simpa using this
 have hp:(parts.map fun(i,x)=>(i,A.eval x)).toList=((parts.toList.map fun p=>A.eval p.2).zipIdx 0).map fun q=>(q.2,q.1):=by
  apply List.ext_getElem?;intro j;have hj:(parts.toList.map (·.1))[j]? =(List.range n)[j]? :=by rw[h1]
  by_cases hjn:j<parts.toList.length
  ·have hj2:j<n:=by omega
   rw[List.getElem?_map,List.getElem?_range hj2,List.getElem?_eq_getElem hjn] at hj;simp only[Option.map_some,Option.some.injEq] at hj;simp only[Array.toList_map,List.getElem?_map,List.getElem?_zipIdx,List.getElem?_eq_getElem hjn,Option.map_some,Nat.zero_add];rw[hj]
  ·simp only[Array.toList_map,List.getElem?_map,List.getElem?_zipIdx,List.getElem?_eq_none (show parts.toList.length≤j by omega),Option.map_none]
 have hv:∀v∈parts.toList.map (fun p=>A.eval p.2),v.cells.size=z.length:=by
  intro v hv;obtain⟨p,hp,rfl⟩:=List.mem_map.1 hv;exact h2 p hp
 have hzs:zv.cells.size=z.length:=by rw[i2];simp
 have hf:=qV (size:=z.length) (parts.toList.map fun p=>A.eval p.2) 0 ((List.range (n*z.length)).map fun j=>zv.cells[j%zv.cells.size]!) hv (by simp[hn])
 have hll:((parts.toList.map fun p=>A.eval p.2).flatMap fun v=>v.cells.toList)=l:=by rw[List.flatMap_map];exact h3
 rw[hll] at hf;simp only[Nat.zero_mul,List.take_zero,List.nil_append] at hf;have hr:(Array.range (n*z.length)).map (fun j=>zv.cells[j%zv.cells.size]!)=((List.range (n*z.length)).map fun j=>zv.cells[j%zv.cells.size]!).toArray:=by
  apply Array.ext';simp
 unfold Instr.buildSlice;have h6:¬(n*z.length>16777216):=by omega
 have hfl:Instr.fill (fun i=>some (i*z.length,z.length)) ((Array.range (n*z.length)).map fun j=>zv.cells[j%zv.cells.size]!) (parts.map fun(i,x)=>(i,A.eval x)).toList=some l.toArray:=by rw[hr,hp];exact hf
 by_cases h0:n*z.length=0
 ·have hn0:n=0:=by rcases Nat.mul_eq_zero.1 h0 with h|h<;>omega
  subst hn0;have hpn:parts.toList=[]:=List.length_eq_zero_iff.1 hn;have hpa:parts=#[]:=by apply Array.ext';simpa using hpn
  subst hpa;have:l=[]:=by rw[←h3];rfl
  subst this;simp[run_underlying st.h,sizeOf,typeInfo,hi0,hs,Instr.fill,newRow,newObj,Sem.run];congr 2
  apply Array.ext';simp
 ·simp[run_underlying st.h,sizeOf,typeInfo,zeroValue,hi0,hz,hs,h0,h6,newRow,newObj];have hfl':Instr.fill (fun i=>some (i*z.length,z.length)) ((Array.range (n*z.length)).map fun j=>zv.cells[j%zv.cells.size]!) (List.map (fun x=>(x.fst,A.eval x.snd)) parts.toList)=some l.toArray:=by simpa using hfl
  rw[hfl'];simp[Sem.run]
class RowC (W:World) (v:Value) (b:outParam World) (e:outParam TypeId) (size n:outParam Nat) (cells:outParam (List Value)):Prop where h:W.ownsRow b.heap.size e size v n cells
class GrowC (a:outParam World) (b:World) (B:outParam World) (v:outParam Value):Prop where
 h:a.grownBy b v.ownBlock
 k:∀g,v.ownBlock=some g→B.heap.size≤g
section
variable{B B' c:World}{v2:Value}{size size2 m m2:Nat}{e2 t2:TypeId}{cs cs2 l2:List Value}
theorem RowC.fresh(r:RowC W v B e size m cs)(hg:W.heap.size≤g):some g≠v.ownBlock:=by
 intro he;rcases r.h.2 with ⟨rfl,_⟩|⟨g',cap,cur,rfl,hb,hh,_⟩
 ·simp[Value.ownBlock] at he
 ·have e:g=g':=by simpa [Value.ownBlock] using he
  have:=(Array.getElem?_eq_some_iff.1 hh).1;omega
theorem RowC.from_(r:RowC W v B e size m cs)(h:v.ownBlock=some g):B.heap.size≤g∧g<W.heap.size:=by
 rcases r.h.2 with ⟨rfl,_⟩|⟨g',cap,cur,rfl,hb,hh,_⟩
 ·simp[Value.ownBlock] at h
 ·have e:g'=g:=by simpa [Value.ownBlock] using h
  have:=(Array.getElem?_eq_some_iff.1 hh).1;omega
class NrC (W:World) (g:Nat) (v:Value):Prop where h:some g≠v.ownBlock
instance NrC.old{W:World}{b:World}[r:RowC W v b e size m cs][q:BlkC b g t l]:NrC W g v:=⟨fun h=>by have:=(r.from_ h.symm).1;have:=q.h.lt;omega⟩
instance NrC.new[q:AtC a g][r:RowC a v B e size m cs]:NrC W g v:=⟨r.fresh q.h⟩
class RrC (W:World) (v v2:Value):Prop where h:∀g,v.ownBlock=some g→v2.ownBlock≠some g
instance RrC.one[r:RowC W v2 B e size m cs][q:RowC B v B' e2 size2 m2 cs2]:RrC W v v2:=⟨fun g h h2=>by have:=(r.from_ h2).1;have:=(q.from_ h).2;omega⟩
instance(priority:=850)ExtC.grow[s:GrowC b' b B v][y:ExtC a B][x:ExtC a b']:ExtC a b:=⟨x.h.grown s.h x.h.size fun k hk=>Nat.le_trans y.h.size (s.k k hk)⟩
instance(priority:=850)BlkC.grow[s:GrowC a b B v][x:BlkC a g t l][n:NrC a g v]:BlkC b g t l:=⟨x.h.grown s.h n.h⟩
instance(priority:=900)RowC.step[s:StepC a b][x:RowC a v B e size m cs]:RowC b v B e size m cs:=⟨mC x.h s.h⟩
instance(priority:=800)RowC.store[s:StoreC a b g][x:RowC a v B e size m cs][n:NrC a g v]:RowC b v B e size m cs:=⟨sO x.h s.h fun h=>n.h h.symm⟩
instance(priority:=850)RowC.grow[s:GrowC a b B' v2][x:RowC a v B e size m cs][n:RrC a v v2]:RowC b v B e size m cs:=⟨x.h.kept s.h (by
 cases h:v.ownBlock with
 |none=>exact .inl rfl
 |some g=>exact .inr fun h2=>n.h g h (h2▸rfl))⟩
theorem RowC.nil:RowC W (.slice none 0 0) B e size 0 []:=⟨World.ownsRow_nil W B.heap.size e size⟩
theorem bR{z:List Value}{A0:Option Addr}{c0:Nat}[st:SlT P t e][q:ZeroT P e z]
 (k:∀A' c' W',RowC W' (.slice A' (n+m) c') B e size (n+m) (cs++l)→GrowC W W' B (.slice A0 n c0)→wpList P ops Q rest (A.put d (.slice A' (n+m) c')) W')
 (h:A.eval x=.slice A0 n c0∧RowC W (.slice A0 n c0) B e size n cs∧A.eval y=.slice (some ⟨g,0,none⟩) m m∧BlkC W g e2 l∧size=z.length∧l.length=m*z.length∧(∀u∈l,u.oneCell'=true)∧ExtC B W∧0<z.length∧n+m≤100000000:=by
  (refine⟨by with_unfolding_all rfl,?_⟩;refine⟨by infer_instance,?_⟩;refine⟨by with_unfolding_all rfl,?_⟩;refine⟨by infer_instance,by simp,by simp,by simp[Value.oneCell'],by infer_instance,by simp,by(first|omega|(simp;omega))⟩)):
 wpList P ops Q (⟨d,.call {callee:=.builtin .append,args:=#[x,y],argTypes:=#[t,t]},ty,pos,after,none⟩::rest) A W:=by
 obtain⟨h1,h2,h3,h4,rfl,h5,h6,h7,h8,h9⟩:=h;obtain⟨zv,b,i1,i2,i3⟩:=q.h;have hb:(n+m)*b≤100000000*1000:=Nat.mul_le_mul h9 i3;refine wH st.h i1 (by rw[i2];simp) h8 h1 h2.h h3 (fun _=>⟨_,rfl,?_⟩) h5 h6 (by omega) (by unfold maxLen;omega) h7.h.size fun v' W' r1 r2 r3=> ?_
 ·have:=h4.h.cells;simpa using this
 ·obtain⟨A',c',rfl,_⟩:=Sl.of_own r1;exact k A' c' W' ⟨r1⟩ ⟨r2,fun g hg=>(h2.from_ hg).1⟩
end
theorem aN{f:FuncId}{ar:Array Operand}{ats:Array TypeId}{args:Array Value}{R:Ending→World→Prop}
 (k:∀e W',R e W'→∃v,e=.returned v∧wpList P ops Q rest (A.put d v) W')
 (h:ar.map A.eval=args∧FunC P f args W R∧(execOp A.eval (⟨d,.call {callee:=.value (Operand.func f),args:=ar,argTypes:=ats},ty,pos,after,none⟩:Oper)).run P W=.ok (.enter f args) W:=by
  (refine⟨by(simp[Act.eval];with_unfolding_all rfl),?_⟩;refine⟨by infer_instance,by go_simp⟩)):
 wpList P ops Q (⟨d,.call {callee:=.value (Operand.func f),args:=ar,argTypes:=ats},ty,pos,after,none⟩::rest) A W:=
 Iy rfl h.2.1.h h.2.2 k
theorem Me{gd:Option (Tmp×Bool)}(hw:Region.wanted (⟨d,.load t x,ty,pos,after,gd⟩:Oper) (yielded ops A.tmps)=true)(hx:A.eval x=.pointer (some p))(hl:(loadVar t p).run P W=.ok v W)(k:wpList P ops Q rest (A.put d v) W):wpList P ops Q (⟨d,.load t x,ty,pos,after,gd⟩::rest) A W:=by
 refine wpList_step fun K hK=> ?_
 rw[if_pos hw];have h:(execOp A.eval (⟨d,.load t x,ty,pos,after,gd⟩:Oper)).run P W=.ok (.value v) W:=by simp[execOp,Instr.loadAt,hx,Instr.sureAddr,hl,Result.andThen]
 unfold Oper.wp;rw[h];exact hK _ _ k
theorem bA{gd:Tmp×Bool}[l:LoadC P W t p v](k:wpList P ops Q rest (A.put d v) W)(hx:A.eval x=.pointer (some p):=by with_unfolding_all rfl)(hw:Region.wanted (⟨d,.load t x,ty,pos,after,some gd⟩:Oper) (yielded ops A.tmps)=true:=by with_unfolding_all rfl):
 wpList P ops Q (⟨d,.load t x,ty,pos,after,some gd⟩::rest) A W:=Me hw hx l.h k
end
end Go.Walk
end
section
namespace Go.Bp
open Go.RowKit
structure Fault where
 name:ByteArray
 points:Int
 limit:Int
structure Code where
 faults:List Fault
 man:List ByteArray
 all:Int
structure Line where
 no:Int
 what:Int
 sum:Int
structure Sheet where
 lines:Int
 kept:List Line
def encI(xs:List Int):List Value:=xs.map (Value.int .i64)
def encS(xs:List ByteArray):List Value:=xs.map Value.string
def encF:List Fault→List Value
 | []=>[]
 |f::fs=>.string f.name:: .int .i64 f.points:: .int .i64 f.limit::encF fs
def encL:List Line→List Value
 | []=>[]
 |x::xs=>.int .i64 x.no:: .int .i64 x.what:: .int .i64 x.sum::encL xs
theorem encL_len(fs:List Line):(encL fs).length=fs.length*3:=by
 induction fs with
 |nil=>rfl
 |cons f fs ih=>simp only[encL,List.length_cons,ih];omega
theorem encL_get(fs:List Line):∀(k:Nat)(h:k<fs.length),(encL fs)[k*3]? =some (.int .i64 fs[k].no)∧(encL fs)[k*3+1]? =some (.int .i64 fs[k].what)∧(encL fs)[k*3+2]? =some (.int .i64 fs[k].sum):=by
 induction fs with
 |nil=>intro k h;simp at h
 |cons f fs ih=>
  intro k h
  cases k with
  |zero=>simp[encL]
  |succ k=>
   have:=ih k (by simpa using h)
   rw[show(k+1)*3=k*3+3 by omega]
   simpa [encL] using this
theorem encL_app(a b:List Line):encL (a++b)=encL a++encL b:=by
 induction a with
 |nil=>rfl
 |cons f fs ih=>simp[encL,ih]
def Ints(w:World)(v:Value)(xs:List Int):Prop:=Sl w 1 v xs.length (encI xs)
def Strs(w:World)(v:Value)(xs:List ByteArray):Prop:=Sl w 1 v xs.length (encS xs)
def Faults(w:World)(v:Value)(xs:List Fault):Prop:=Sl w 3 v xs.length (encF xs)
def Lines(w:World)(v:Value)(xs:List Line):Prop:=Sl w 3 v xs.length (encL xs)
def Code.names(c:Code):List ByteArray:=c.faults.map Fault.name++c.man
def Code.wf(c:Code):Prop:=∀s∈c.names,s.size≤maxLen
def CodeV(w:World)(v:Value)(c:Code):Prop:=∃fv mv,v=.agg #[fv,mv,.int .i64 c.all]∧Faults w fv c.faults∧Strs w mv c.man∧c.wf
def SheetV(w:World)(v:Value)(s:Sheet):Prop:=∃kv,v=.agg #[.int .i64 s.lines,kv]∧Lines w kv s.kept
theorem Ints.d{w:World}{v:Value}{c:List Int}(h:Ints w v c):Ints w.drew v c:=h
theorem Strs.d{w:World}{v:Value}{c:List ByteArray}(h:Strs w v c):Strs w.drew v c:=h
theorem Faults.d{w:World}{v:Value}{c:List Fault}(h:Faults w v c):Faults w.drew v c:=h
theorem Lines.d{w:World}{v:Value}{c:List Line}(h:Lines w v c):Lines w.drew v c:=h
theorem CodeV.d{w:World}{v:Value}{c:Code}(h:CodeV w v c):CodeV w.drew v c:=h
theorem SheetV.d{w:World}{v:Value}{c:Sheet}(h:SheetV w v c):SheetV w.drew v c:=h
namespace Code
def things(c:Code):Nat:=c.faults.length+c.man.length
def pts(c:Code)(w:Int):Int:=if w<c.faults.length then(c.faults[w.toNat]?.map Fault.points).getD 0 else 0
end Code
def inB(n lo hi:Int):Bool:=decide (lo≤n)&&decide (n≤hi)
theorem inB_t{n lo hi:Int}:inB n lo hi=true↔lo≤n∧n≤hi:=by simp[inB]
theorem inB_f{n lo hi:Int}:inB n lo hi=false↔n<lo∨hi<n:=by simp only[inB,Bool.and_eq_false_iff,decide_eq_false_iff_not];omega
def numbers(m:Nat):List Int:=(List.range m).map fun i=>((i+1:Nat):Int)
def nameCh(b:UInt8):Bool:=inB b.toNat 97 122||inB b.toNat 48 57
def isName(s:ByteArray):Bool:=inB s.size 1 16&&(match s.data.toList with| []=>false|b::_=>inB b.toNat 97 122)&&s.data.toList.all nameCh
def nameErr(l:List ByteArray)(i:Nat):Int:=if isName (l.getD i ByteArray.empty)=false then 6 else if l.getD i ByteArray.empty∈l.take i then 5 else 0
namespace Code
def pointsAt(c:Code)(i:Nat):Int:=(c.faults[i]?.map Fault.points).getD 0
def limitAt(c:Code)(i:Nat):Int:=(c.faults[i]?.map Fault.limit).getD 0
def errAt(c:Code)(i:Nat):Int:=
 if nameErr c.names i≠0 then nameErr c.names i
 else if i<c.faults.length∧¬(inB (c.pointsAt i) 0 20=true∧inB (c.limitAt i) 0 12=true) then 7 else 0
def check(c:Code):Int×Int×Int:=
 if¬(inB c.faults.length 1 6=true∧c.man.length≤3) then(1,0,3) else
 match(List.range c.things).find? (fun i=>c.errAt i !=0) with
 |some i=>if i<c.faults.length then(2,i,c.errAt i) else(3,i-c.faults.length,c.errAt i)
 |none=>if inB c.all 0 240=true then(0,0,0) else(4,0,7)
end Code
theorem Bb{p:Nat→Bool}{n i:Nat}(hi:i<n)(hp:p i=true)(hb:∀j,j<i→p j=false):(List.range n).find? p=some i:=by
 rw[List.find?_eq_some_iff_append];refine⟨hp,List.range i,(List.range' (i+1) (n-i-1)),?_,?_⟩
 ·apply List.ext_getElem
  ·simp;omega
  ·intro j h1 h2;simp only[List.getElem_range,List.getElem_append,List.length_range,List.getElem_cons,List.getElem_range'];split
   ·rfl
   ·split<;>omega
 ·intro a ha;simp at ha;simp[hb a ha]
theorem find_none{p:Nat→Bool}{n:Nat}(hb:∀j,j<n→p j=false):(List.range n).find? p=none:=by
 rw[List.find?_eq_none];intro x hx;simp at hx;simp[hb x hx]
namespace Code
variable{c:Code}
theorem check_1(h:¬(inB c.faults.length 1 6=true∧c.man.length≤3)):c.check=(1,0,3):=by simp only[check];rw[if_pos h]
theorem check_4(h:inB c.faults.length 1 6=true)(h':c.man.length≤3)(hb:∀j,j<c.things→c.errAt j=0)(ha:inB c.all 0 240=false):c.check=(4,0,7):=by
 simp only[check];rw[if_neg (by simp[h,h']),find_none (fun j hj=>by simp[hb j hj])]
 simp[ha]
end Code
def idxP{α:Type}(p:α→Bool)(l:List α):Int:=match l.findIdx? p with|some i=>i|none=> -1
theorem fZ{α:Type}{p:α→Bool}{l:List α}{k:Nat}(hk:k<l.length)(hp:p l[k]=true)(hb:∀x∈l.take k,p x=false):idxP p l=k:=by
 unfold idxP;rw[show l.findIdx? p=some k from ?_]
 rw[List.findIdx?_eq_some_iff_getElem];refine⟨hk,hp,fun j hj=> ?_⟩
 have:=hb l[j] (by rw[List.mem_take_iff_getElem];exact⟨j,by omega,rfl⟩)
 simp[this]
theorem dQ{α:Type}{p:α→Bool}{l:List α}(hb:∀x∈l,p x=false):idxP p l= -1:=by
 unfold idxP;rw[List.findIdx?_eq_none_iff.2 (by intro x hx;simp[hb x hx])]
theorem fY{α:Type}(p:α→Bool)(l:List α):decide (0≤idxP p l)=l.any p:=by
 unfold idxP
 cases h:l.findIdx? p with
 |none=>
  rw[List.findIdx?_eq_none_iff] at h;have:l.any p=false:=by rw[List.any_eq_false];intro x hx;simp[h x hx]
  simp[this]
 |some i=>
  rw[List.findIdx?_eq_some_iff_getElem] at h;obtain⟨hi,hp,_⟩:=h;have:l.any p=true:=by rw[List.any_eq_true];exact⟨l[i],List.getElem_mem hi,hp⟩
  simp[this]
theorem bV{α:Type}{p:α→Bool}{l:List α}{k:Nat}(hk:k<l.length)(hb:∀x∈l.take k,p x=false)(hp:p l[k]=false):∀x∈l.take (k+1),p x=false:=by
 intro x hx;rw[Dr _ hk] at hx;rcases List.mem_append.1 hx with h|h
 ·exact hb x h
 ·simp at h;rw[h];exact hp
end Go.Bp
end
