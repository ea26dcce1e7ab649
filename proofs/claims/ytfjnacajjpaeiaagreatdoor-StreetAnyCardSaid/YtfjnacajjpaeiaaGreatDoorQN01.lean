/- Chapter 03: contracts of functions of the program and of the reference, and plain laws (out of NSA NSB NSC SY4 SOR). No condition of its own. -/
import Derived.Test.YtfjnacajjpaeiaaGreatDoorQD01
set_option maxRecDepth 100000
set_option linter.all false
section
namespace Go.Walk
open Go Go.Bp Go.RowKit Go.Proofs
class StepC (a:outParam World) (b:World):Prop where h:Ext a b
class StoreC (a:outParam World) (b:World) (g:outParam Nat):Prop where h:a.grownBy b (some g)
class ExtC (a b:World):Prop where h:Ext a b
class AtC (a:outParam World) (g:Nat):Prop where h:a.heap.size≤g
class BlkC (W:World) (g:Nat) (t:outParam TypeId) (l:outParam (List Value)):Prop where h:Blk W g t l.toArray
class NeC (g g':Nat):Prop where h:g≠g'
section
variable{a b b' v0 W:World}{g g' i n:Nat}{t e:TypeId}{l s:List Value}{v u:Value}{P:Program}{p:Addr}
instance(priority:=2000)ExtC.refl:ExtC a a:=⟨Ext.refl _⟩
instance(priority:=900)ExtC.step[s:StepC b' b][x:ExtC a b']:ExtC a b:=⟨x.h.trans s.h⟩
instance(priority:=800)ExtC.store[s:StoreC b' b g][q:AtC v0 g][y:ExtC a v0][x:ExtC a b']:ExtC a b:=⟨bI x.h s.h (Nat.le_trans y.h.size q.h) x.h.size⟩
instance StepC.drew:StepC W W.drew:=⟨Ext.todrew (Ext.refl _)⟩
instance StepC.drewN:StepC W (W.drewN n):=⟨(Ext.refl _).drewN n⟩
instance(priority:=900)BlkC.step[s:StepC a b][x:BlkC a g t l]:BlkC b g t l:=⟨x.h.ext s.h⟩
instance(priority:=800)BlkC.store[s:StoreC a b g'][x:BlkC a g t l][n:NeC g g']:BlkC b g t l:=⟨x.h.grown s.h (fun e=>n.h (Option.some.inj e))⟩
instance NeC.old[q:AtC a g'][x:BlkC a g t l]:NeC g g':=⟨fun e=>by have:=x.h.lt;have:=q.h;omega⟩
instance NeC.new[q:AtC a g][x:BlkC a g' t l]:NeC g g':=⟨fun e=>by have:=x.h.lt;have:=q.h;omega⟩
class LoadC (P:Program) (W:World) (t:TypeId) (p:Addr) (v:outParam Value):Prop where h:(loadVar t p).run P W=.ok v W
def scal:TypeDesc→Bool| .struct _=>false| .array _ _=>false|_=>true
class ScalT (P:Program) (t:TypeId):Prop where h:∃dsc,P.underlying t=some dsc∧scal dsc=true
theorem Tr(h:∃dsc,P.underlying t=some dsc∧scal dsc=true)(hc:W.cell? p=some v):(loadVar t p).run P W=.ok v W:=by
 obtain⟨d,h1,h2⟩:=h
 cases d<;>first|exact aY h1 rfl hc|exact absurd h2 (by simp[scal])
class StrucT (P:Program) (t:TypeId) (n:outParam Nat):Prop where h:(∃fs,P.underlying t=some (.struct fs))∧(P.info? t).map TypeInfo.size=some n
class NthC (l:List Value) (i:Nat) (v:outParam Value):Prop where h:l[i]? =some v
instance:NthC (v::l) 0 v:=⟨rfl⟩
instance[x:NthC l i v]:NthC (u::l) (i+1) v:=⟨by simpa using x.h⟩
class TakeC (l:List Value) (n:Nat) (s:outParam (List Value)):Prop where h:l.take n=s∧s.length=n
instance:TakeC l 0 []:=⟨rfl,rfl⟩
instance[x:TakeC l n s]:TakeC (u::l) (n+1) (u::s):=⟨by simp[x.h.1],by simp[x.h.2]⟩
class SubC (l:List Value) (i n:Nat) (s:outParam (List Value)):Prop where h:(l.drop i).take n=s∧s.length=n
instance[x:TakeC l n s]:SubC l 0 n s:=⟨by simpa using x.h⟩
instance[x:SubC l i n s]:SubC (u::l) (i+1) n s:=⟨by simpa using x.h⟩
class CellsC (W:World) (p:Addr) (l:outParam (List Value)):Prop where h:cS W p l
class CellsB (w:outParam World) (p:Addr) (l:outParam (List Value)):Prop where h:cS w p l
instance[x:CellsB a p l][y:ExtC a W]:CellsC W p l:=⟨x.h.ext y.h⟩
theorem Tu(hs:(∃fs,P.underlying t=some (.struct fs))∧(P.info? t).map TypeInfo.size=some n)(h:cS W p s)(hl:s.length=n):(loadVar t p).run P W=.ok (.agg s.toArray) W:=by
 obtain⟨⟨fs,h1⟩,h2⟩:=hs
 cases hi:P.info? t with
 |none=>rw[hi] at h2;cases h2
 |some i=>
  rw[hi] at h2;have:i.size=n:=by simpa using h2
  exact eH h1 hi (by omega) h
instance LoadC.scal[x:ScalT P t][y:BlkC W g e l][z:NthC l i v]:LoadC P W t ⟨g,i,none⟩ v:=⟨by
 exact Tr x.h (by rw[y.h.cell];simpa using z.h)⟩
instance LoadC.struc[x:StrucT P t n][y:BlkC W g e l][z:SubC l i n s]:LoadC P W t ⟨g,i,none⟩ (.agg s.toArray):=⟨by
 refine Tu x.h (fun j u hu=> ?_) z.h.2
 have e:(⟨g,i,none⟩:Addr).add j=⟨g,i+j,none⟩:=by unfold Addr.add;split<;>simp_all
 rw[e,y.h.cell];have:j<s.length:=(List.getElem?_eq_some_iff.1 hu).1;rw[←z.h.1,List.getElem?_take_of_lt (by have:=z.h.2;omega),List.getElem?_drop] at hu
 simpa using hu⟩
instance(priority:=500)LoadC.cell[x:ScalT P t][y:CellsC W p l][z:NthC l 0 v]:LoadC P W t p v:=⟨by
 have:=y.h 0 v z.h;rw[rN] at this;exact Tr x.h this⟩
instance(priority:=600)LoadC.fld[x:ScalT P t][y:CellsC W p l][z:NthC l (i+1) v]:LoadC P W t ⟨p.block,p.off+(i+1),none⟩ v:=⟨by
 have:=y.h (i+1) v z.h;have e:p.add (i+1)=⟨p.block,p.off+(i+1),none⟩:=by simp[Addr.add]
 rw[e] at this;exact Tr x.h this⟩
instance(priority:=500)LoadC.cells[x:StrucT P t n][y:CellsC W p l][z:TakeC l n s]:LoadC P W t p (.agg s.toArray):=⟨by
 refine Tu x.h (fun j u hu=>y.h j u ?_) z.h.2
 have:j<s.length:=(List.getElem?_eq_some_iff.1 hu).1;rw[←z.h.1,List.getElem?_take_of_lt (by have:=z.h.2;omega)] at hu
 exact hu⟩
class FunC (P:Program) (f:FuncId) (args:Array Value) (W:World) (R:outParam (Ending→World→Prop)):Prop where h:Calls P f args W R
theorem qA{f:FuncId}{args:Array Value}{R Q:Ending→World→Prop}[c:FunC P f args W R](k:∀e W',R e W'→Q e W'):Calls P f args W Q:=c.h.mono k
variable{ops:Array Oper}{Q:Exit→Act→World→Prop}{A:Act}{rest:List Oper}
variable{d:Option Tmp}{ty ty':TypeId}{pos pos':String}{after after':Array Edge}{x y:Operand}
theorem pZ[l:LoadC P W t p v](k:wpList P ops Q rest (A.put d v) W)(hx:A.eval x=.pointer (some p):=by with_unfolding_all rfl):wpList P ops Q (⟨d,.load t x,ty,pos,after,none⟩::rest) A W:=
 aC hx l.h k
theorem Tq(k:∀W' g,StepC W W'→BlkC W' g e l→AtC W g→wpList P ops Q rest (A.put d (.pointer (some ⟨g,0,none⟩))) W')(hc:(A.eval x).cells=l.toArray:=by(simp[Act.eval,Act.put,Value.cells];with_unfolding_all rfl)):
 wpList P ops Q (⟨d,.box e x,ty,pos,after,none⟩::rest) A W:=
 aF fun W' g hE hB hg=>k W' g ⟨hE⟩ ⟨by rw[←hc];exact hB⟩ ⟨hg⟩
class ZeroT (P:Program) (e:TypeId) (z:outParam (List Value)):Prop where h:∃zv b,(P.info? e).map (fun i=>(i.zero,i.size,i.bytes))=some (some zv,z.length,b)∧zv.cells=z.toArray∧b≤1000
theorem ZeroT.size{P:Program}{e:TypeId}{z:List Value}(h:ZeroT P e z):(P.info? e).map TypeInfo.size=some z.length:=by
 obtain⟨zv,b,h1,_,_⟩:=h.h
 cases hi:P.info? e with
 |none=>rw[hi] at h1;cases h1
 |some i=>rw[hi] at h1;simp at h1⊢;exact h1.2.1
theorem Ua{z:List Value}[q:ZeroT P e z](k:∀W' g,StepC W W'→BlkC W' g e z→AtC W g→wpList P ops Q rest (A.put d (.pointer (some ⟨g,0,none⟩))) W'):wpList P ops Q (⟨d,.alloc e,ty,pos,after,none⟩::rest) A W:=by
 obtain⟨zv,b,h1,h2,_⟩:=q.h;exact aS h1 fun W' g hE hB hg=>k W' g ⟨hE⟩ ⟨by rw[←h2];exact hB⟩ ⟨hg⟩
theorem oQ{uu:Tmp}{z:List Value}[q:ZeroT P e z]
 (k:∀W' g,StepC W W'→BlkC W' g e l→AtC W g→wpList P ops Q rest ((A.put (some uu) (.pointer (some ⟨g,0,none⟩))).put d undef) W')
 (hy:∀g,((A.put (some uu) (.pointer (some ⟨g,0,none⟩))).eval y).cells=l.toArray:=by(intro g;simp[Act.eval,Act.put,Value.cells];with_unfolding_all rfl))
 (hu:∀g,(A.put (some uu) (.pointer (some ⟨g,0,none⟩))).eval x=.pointer (some ⟨g,0,none⟩):=by(intro g;with_unfolding_all rfl))(hn:l.length=z.length:=by with_unfolding_all rfl)(h1:∀c∈l,c.oneCell'=true:=by simp[Value.oneCell']):
 wpList P ops Q (⟨some uu,.alloc e,ty,pos,after,none⟩::⟨d,.store e x y,ty',pos',after',none⟩::rest) A W:=by
 obtain⟨zv,b,i1,i2,_⟩:=q.h;refine aS i1 fun W1 g hE hB hg=> ?_
 refine aK (hu g) rfl hB (n:=z.length) q.size ?_ (by rw[i2];simp) ?_ fun W' hB' hgr=> ?_
 ·rw[hy g];simpa using hn
 ·rw[hy g];simpa using h1
 ·rw[hy g,Fo (by rw[i2];simpa using hn)] at hB'
  exact k W' g ⟨⟨hgr.os.trans hE.os,hgr.tape.trans hE.tape,hgr.output.trans hE.output,Nat.le_trans hE.size hgr.size,fun j hj=>(hgr.block j (Nat.lt_of_lt_of_le hj hE.size) (fun e=>by injection e;omega)).trans (hE.block j hj)⟩⟩ ⟨by simpa using hB'⟩ ⟨hg⟩
theorem pX{z:List Value}{off:Nat}{s':List Value}[q:ZeroT P t z]
 (k:∀W',StoreC W W' g→BlkC W' g e s'→wpList P ops Q rest (A.put d undef) W')
 (h:A.eval x=.pointer (some ⟨g,off,none⟩)∧BlkC W g e l∧(A.eval y).cells=s.toArray∧aI l.toArray off s=s'.toArray∧s.length=z.length∧off+z.length≤l.length∧∀c∈s,c.oneCell'=true:=by
  (refine⟨by with_unfolding_all rfl,?_⟩;refine⟨by infer_instance,?_⟩;refine⟨by(simp[Act.eval,Act.put,Value.cells];with_unfolding_all rfl),?_⟩;refine⟨by(simp[aI];with_unfolding_all rfl),?_⟩;refine⟨by with_unfolding_all rfl,by simp,by simp[Value.oneCell']⟩)):
 wpList P ops Q (⟨d,.store t x y,ty,pos,after,none⟩::rest) A W:=
 aK h.1 rfl h.2.1.h (n:=z.length) q.size (by rw[h.2.2.1];simpa using h.2.2.2.2.1) (by simpa using h.2.2.2.2.2.1) (by rw[h.2.2.1];simpa using h.2.2.2.2.2.2) fun W' hB hg=>k W' ⟨hg⟩ ⟨by rw[h.2.2.1] at hB;simp only at hB;rw[h.2.2.2.1] at hB;exact hB⟩
theorem Ue{gd:Option (Tmp×Bool)}[c:LoadC P W t p v](hx:A.eval x=.pointer (some p):=by with_unfolding_all rfl):
 (execOp A.eval (⟨d,.load t x,ty,pos,after,gd⟩:Oper)).run P W=.ok (.value v) W:=by
 simp[execOp,Instr.loadAt,hx,Instr.sureAddr,c.h,Result.andThen]
class SlT (P:Program) (t:TypeId) (e:outParam TypeId):Prop where h:P.underlying t=some (.slice e)
theorem Tt:∀(vs:List Value)(off j:Nat)(cs:List Value),off+j+vs.length≤cs.length→
 ((vs.zipIdx j).foldl (fun(c:Array Value)(q:Value×Nat)=>c.setIfInBounds (off+q.2) q.1) cs.toArray)=(cs.take (off+j)++vs++cs.drop (off+j+vs.length)).toArray
 | [],off,j,cs,h=>by simp
 |v::vs,off,j,cs,h=>by
  simp only[List.length_cons] at h;rw[List.zipIdx_cons,List.foldl_cons,List.setIfInBounds_toArray,Tt vs off (j+1) _ (by simp;omega)]
  congr 1
  have e1:(cs.set (off+j) v).take (off+(j+1))=cs.take (off+j)++ [v]:=by
   rw[show off+(j+1)=off+j+1 by omega,List.take_set,List.take_succ_eq_append_getElem (by omega),List.set_append_right _ _ (by simp[Nat.min_le_left])]
   simp[show off+j≤cs.length by omega]
  have e2:(cs.set (off+j) v).drop (off+(j+1)+vs.length)=cs.drop (off+j+(vs.length+1)):=by
   rw[List.drop_set_of_lt (by omega)];congr 1;omega
  rw[e1,e2];simp
theorem Tv{size:Nat}:∀(vs:List Value)(k:Nat)(cs:List Value),(∀v∈vs,v.cells.size=size)→cs.length=(k+vs.length)*size→
 Instr.fill (fun i=>some (i*size,size)) cs.toArray ((vs.zipIdx k).map fun q=>(q.2,q.1))=some (cs.take (k*size)++vs.flatMap fun v=>v.cells.toList).toArray
 | [],k,cs,_,hl=>by
  simp only[List.length_nil,Nat.add_zero] at hl;simp only[List.zipIdx_nil,List.map_nil,Instr.fill,List.flatMap_nil,List.append_nil];rw[←hl,List.take_length]
 |v::vs,k,cs,hv,hl=>by
  have h1:=hv v (by simp)
  have h2:(k+(vs.length+1))*size=k*size+size+vs.length*size:=by rw[Nat.add_mul,Nat.add_mul];omega
  simp only[List.length_cons] at hl;rw[List.zipIdx_cons,List.map_cons];unfold Instr.fill;simp only;rw[if_neg (by simp only[List.size_toArray,h1];simp;omega)]
  have h3:v.cells.zipIdx.foldl (fun(c:Array Value)(q:Value×Nat)=>c.setIfInBounds (k*size+q.2) q.1) cs.toArray=(cs.take (k*size)++v.cells.toList++cs.drop (k*size+size)).toArray:=by
   have:=Tt v.cells.toList (k*size) 0 cs (by simp only[Array.length_toList,h1];omega)
   simp only[Nat.add_zero,Array.length_toList,h1] at this;rw[←this,←Array.foldl_toList];simp
  rw[h3];have hl':(cs.take (k*size)++v.cells.toList++cs.drop (k*size+size)).length=(k+1+vs.length)*size:=by
   have:(k+1+vs.length)*size=k*size+size+vs.length*size:=by rw[Nat.add_mul,Nat.add_mul];omega
   simp[h1];omega
  rw[Tv vs (k+1) _ (fun u hu=>hv u (by simp[hu])) hl']
  congr 2
  rw[List.flatMap_cons,←List.append_assoc];congr 1
  rw[List.take_left' (by simp[h1,Nat.add_mul];omega)]
theorem oR{n:Nat}{parts:Array (Nat×Operand)}{z:List Value}[st:SlT P t e][q:ZeroT P e z]
 (k:∀W' g,StepC W W'→BlkC W' g e l→AtC W g→wpList P ops Q rest (A.put d (.slice (some ⟨g,0,none⟩) n n)) W')
 (h:parts.toList.map (·.1)=List.range n∧(∀p∈parts.toList,(A.eval p.2).cells.size=z.length)∧(parts.toList.flatMap fun p=>(A.eval p.2).cells.toList)=l∧n*z.length≤16777216∧0<z.length:=by
  (refine⟨by with_unfolding_all rfl,by(simp[Act.eval,Act.put,Value.cells]),?_⟩;refine⟨by(simp[Act.eval,Act.put,Value.cells];with_unfolding_all rfl),by simp,by simp⟩)):
 wpList P ops Q (⟨d,.buildSlice t n parts,ty,pos,after,none⟩::rest) A W:=by
 obtain⟨h1,h2,h3,h4,h5⟩:=h;obtain⟨zv,b,i1,i2,_⟩:=q.h;obtain⟨i,hi0,hz,hs,hby⟩:=info_parts i1;refine eV (e:=e) (cs:=l.toArray) ?_ fun W' g hE hB hg=>k W' g ⟨hE⟩ ⟨hB⟩ ⟨hg⟩
 have hn:parts.toList.length=n:=by have:=congrArg List.length h1;simpa using this
 have hp:(parts.map fun(i,x)=>(i,A.eval x)).toList=((parts.toList.map fun p=>A.eval p.2).zipIdx 0).map fun q=>(q.2,q.1):=by
  apply List.ext_getElem?;intro j;have hj:(parts.toList.map (·.1))[j]? =(List.range n)[j]? :=by rw[h1]
  by_cases hjn:j<parts.toList.length
  ·have hj2:j<n:=by omega
   rw[List.getElem?_map,List.getElem?_range hj2,List.getElem?_eq_getElem hjn] at hj;simp only[Option.map_some,Option.some.injEq] at hj;simp only[Array.toList_map,List.getElem?_map,List.getElem?_zipIdx,List.getElem?_eq_getElem hjn,Option.map_some,Nat.zero_add];rw[hj]
  ·simp only[Array.toList_map,List.getElem?_map,List.getElem?_zipIdx,List.getElem?_eq_none (show parts.toList.length≤j by omega),Option.map_none]
 have hv:∀v∈parts.toList.map (fun p=>A.eval p.2),v.cells.size=z.length:=by
  intro v hv;obtain⟨p,hp,rfl⟩:=List.mem_map.1 hv;exact h2 p hp
 have hzs:zv.cells.size=z.length:=by rw[i2];simp
 have hf:=Tv (size:=z.length) (parts.toList.map fun p=>A.eval p.2) 0 ((List.range (n*z.length)).map fun j=>zv.cells[j%zv.cells.size]!) hv (by simp[hn])
 have hll:((parts.toList.map fun p=>A.eval p.2).flatMap fun v=>v.cells.toList)=l:=by rw[List.flatMap_map];exact h3
 rw[hll] at hf;simp only[Nat.zero_mul,List.take_zero,List.nil_append] at hf;have hr:(Array.range (n*z.length)).map (fun j=>zv.cells[j%zv.cells.size]!)=((List.range (n*z.length)).map fun j=>zv.cells[j%zv.cells.size]!).toArray:=by
  apply Array.ext';simp
 unfold Instr.buildSlice;have h6:¬(n*z.length>16777216):=by omega
 have hfl:Instr.fill (fun i=>some (i*z.length,z.length)) ((Array.range (n*z.length)).map fun j=>zv.cells[j%zv.cells.size]!) (parts.map fun(i,x)=>(i,A.eval x)).toList=some l.toArray:=by rw[hr,hp];exact hf
 by_cases h0:n*z.length=0
 ·have hn0:n=0:=by rcases Nat.mul_eq_zero.1 h0 with h|h<;>omega
  subst hn0;have hpn:parts.toList=[]:=List.length_eq_zero_iff.1 hn;have hpa:parts=#[]:=by apply Array.ext';simpa using hpn
  subst hpa;have:l=[]:=by rw[←h3];rfl
  subst this;simp[run_underlying st.h,sizeOf,typeInfo,hi0,hs,Instr.fill,newRow,newObj,Sem.run];congr 2
  apply Array.ext';simp
 ·simp[run_underlying st.h,sizeOf,typeInfo,zeroValue,hi0,hz,hs,h0,h6,newRow,newObj];have hfl':Instr.fill (fun i=>some (i*z.length,z.length)) ((Array.range (n*z.length)).map fun j=>zv.cells[j%zv.cells.size]!) (List.map (fun x=>(x.fst,A.eval x.snd)) parts.toList)=some l.toArray:=by simpa using hfl
  rw[hfl'];simp[Sem.run]
class RowC (W:World) (v:Value) (b:outParam World) (e:outParam TypeId) (size n:outParam Nat) (cells:outParam (List Value)):Prop where h:W.ownsRow b.heap.size e size v n cells
class GrowC (a:outParam World) (b:World) (B:outParam World) (v:outParam Value):Prop where
 h:a.grownBy b v.ownBlock
 k:∀g,v.ownBlock=some g→B.heap.size≤g
section
variable{B B' c:World}{v2:Value}{size size2 m m2:Nat}{e2 t2:TypeId}{cs cs2 l2:List Value}
theorem RowC.fresh(r:RowC W v B e size m cs)(hg:W.heap.size≤g):some g≠v.ownBlock:=by
 intro he;rcases r.h.2 with ⟨rfl,_⟩|⟨g',cap,cur,rfl,hb,hh,_⟩
 ·simp[Value.ownBlock] at he
 ·have e:g=g':=by simpa [Value.ownBlock] using he
  have:=(Array.getElem?_eq_some_iff.1 hh).1;omega
theorem RowC.from_(r:RowC W v B e size m cs)(h:v.ownBlock=some g):B.heap.size≤g∧g<W.heap.size:=by
 rcases r.h.2 with ⟨rfl,_⟩|⟨g',cap,cur,rfl,hb,hh,_⟩
 ·simp[Value.ownBlock] at h
 ·have e:g'=g:=by simpa [Value.ownBlock] using h
  have:=(Array.getElem?_eq_some_iff.1 hh).1;omega
class NrC (W:World) (g:Nat) (v:Value):Prop where h:some g≠v.ownBlock
instance NrC.old{W:World}{b:World}[r:RowC W v b e size m cs][q:BlkC b g t l]:NrC W g v:=⟨fun h=>by have:=(r.from_ h.symm).1;have:=q.h.lt;omega⟩
instance NrC.new[q:AtC a g][r:RowC a v B e size m cs]:NrC W g v:=⟨r.fresh q.h⟩
class RrC (W:World) (v v2:Value):Prop where h:∀g,v.ownBlock=some g→v2.ownBlock≠some g
instance RrC.one[r:RowC W v2 B e size m cs][q:RowC B v B' e2 size2 m2 cs2]:RrC W v v2:=⟨fun g h h2=>by have:=(r.from_ h2).1;have:=(q.from_ h).2;omega⟩
instance RrC.two[r:RowC W v B e size m cs][q:RowC B v2 B' e2 size2 m2 cs2]:RrC W v v2:=⟨fun g h h2=>by have:=(r.from_ h).1;have:=(q.from_ h2).2;omega⟩
instance(priority:=850)ExtC.grow[s:GrowC b' b B v][y:ExtC a B][x:ExtC a b']:ExtC a b:=⟨x.h.grown s.h x.h.size fun k hk=>Nat.le_trans y.h.size (s.k k hk)⟩
instance(priority:=850)BlkC.grow[s:GrowC a b B v][x:BlkC a g t l][n:NrC a g v]:BlkC b g t l:=⟨x.h.grown s.h n.h⟩
instance(priority:=900)RowC.step[s:StepC a b][x:RowC a v B e size m cs]:RowC b v B e size m cs:=⟨kJ x.h s.h⟩
instance(priority:=800)RowC.store[s:StoreC a b g][x:RowC a v B e size m cs][n:NrC a g v]:RowC b v B e size m cs:=⟨fM x.h s.h fun h=>n.h h.symm⟩
instance(priority:=850)RowC.grow[s:GrowC a b B' v2][x:RowC a v B e size m cs][n:RrC a v v2]:RowC b v B e size m cs:=⟨x.h.kept s.h (by
 cases h:v.ownBlock with
 |none=>exact .inl rfl
 |some g=>exact .inr fun h2=>n.h g h (h2▸rfl))⟩
theorem RowC.nil:RowC W (.slice none 0 0) B e size 0 []:=⟨World.ownsRow_nil W B.heap.size e size⟩
theorem oS{z:List Value}{A0:Option Addr}{c0:Nat}[st:SlT P t e][q:ZeroT P e z]
 (k:∀A' c' W',RowC W' (.slice A' (n+m) c') B e size (n+m) (cs++l)→GrowC W W' B (.slice A0 n c0)→wpList P ops Q rest (A.put d (.slice A' (n+m) c')) W')
 (h:A.eval x=.slice A0 n c0∧RowC W (.slice A0 n c0) B e size n cs∧A.eval y=.slice (some ⟨g,0,none⟩) m m∧BlkC W g e2 l∧size=z.length∧l.length=m*z.length∧(∀u∈l,u.oneCell'=true)∧ExtC B W∧0<z.length∧n+m≤100000000:=by
  (refine⟨by with_unfolding_all rfl,?_⟩;refine⟨by infer_instance,?_⟩;refine⟨by with_unfolding_all rfl,?_⟩;refine⟨by infer_instance,by simp,by simp,by simp[Value.oneCell'],by infer_instance,by simp,by(first|omega|(simp;omega))⟩)):
 wpList P ops Q (⟨d,.call {callee:=.builtin .append,args:=#[x,y],argTypes:=#[t,t]},ty,pos,after,none⟩::rest) A W:=by
 obtain⟨h1,h2,h3,h4,rfl,h5,h6,h7,h8,h9⟩:=h;obtain⟨zv,b,i1,i2,i3⟩:=q.h;have hb:(n+m)*b≤100000000*1000:=Nat.mul_le_mul h9 i3;refine qF st.h i1 (by rw[i2];simp) h8 h1 h2.h h3 (fun _=>⟨_,rfl,?_⟩) h5 h6 (by omega) (by unfold maxLen;omega) h7.h.size fun v' W' r1 r2 r3=> ?_
 ·have:=h4.h.cells;simpa using this
 ·obtain⟨A',c',rfl,_⟩:=Sl.of_own r1;exact k A' c' W' ⟨r1⟩ ⟨r2,fun g hg=>(h2.from_ hg).1⟩
end
theorem Tx{f:FuncId}{ar:Array Operand}{ats:Array TypeId}{args:Array Value}{R:Ending→World→Prop}
 (k:∀e W',R e W'→∃v,e=.returned v∧wpList P ops Q rest (A.put d v) W')
 (h:ar.map A.eval=args∧FunC P f args W R∧(execOp A.eval (⟨d,.call {callee:=.value (Operand.func f),args:=ar,argTypes:=ats},ty,pos,after,none⟩:Oper)).run P W=.ok (.enter f args) W:=by
  (refine⟨by(simp[Act.eval];with_unfolding_all rfl),?_⟩;refine⟨by infer_instance,by go_simp⟩)):
 wpList P ops Q (⟨d,.call {callee:=.value (Operand.func f),args:=ar,argTypes:=ats},ty,pos,after,none⟩::rest) A W:=
 bD rfl h.2.1.h h.2.2 k
theorem Ul{gd:Option (Tmp×Bool)}(hw:Region.wanted (⟨d,.load t x,ty,pos,after,gd⟩:Oper) (yielded ops A.tmps)=true)(hx:A.eval x=.pointer (some p))(hl:(loadVar t p).run P W=.ok v W)(k:wpList P ops Q rest (A.put d v) W):wpList P ops Q (⟨d,.load t x,ty,pos,after,gd⟩::rest) A W:=by
 refine wpList_step fun K hK=> ?_
 rw[if_pos hw];have h:(execOp A.eval (⟨d,.load t x,ty,pos,after,gd⟩:Oper)).run P W=.ok (.value v) W:=by simp[execOp,Instr.loadAt,hx,Instr.sureAddr,hl,Result.andThen]
 unfold Oper.wp;rw[h];exact hK _ _ k
theorem pY{gd:Tmp×Bool}[l:LoadC P W t p v](k:wpList P ops Q rest (A.put d v) W)(hx:A.eval x=.pointer (some p):=by with_unfolding_all rfl)(hw:Region.wanted (⟨d,.load t x,ty,pos,after,some gd⟩:Oper) (yielded ops A.tmps)=true:=by with_unfolding_all rfl):
 wpList P ops Q (⟨d,.load t x,ty,pos,after,some gd⟩::rest) A W:=Ul hw hx l.h k
end
end Go.Walk
end
section
namespace Go.Walk
open Go Go.Bp Go.RowKit Go.Proofs
instance:ScalT Tryz.prog 3:=⟨_,Tryz.underlying3,rfl⟩
instance:ScalT Tryz.prog 4:=⟨_,Tryz.underlying4,rfl⟩
instance:ScalT Tryz.prog 5:=⟨_,Tryz.underlying5,rfl⟩
instance:ScalT Tryz.prog 9:=⟨_,Tryz.underlying9,rfl⟩
instance:ScalT Tryz.prog 22:=⟨_,Tryz.underlying22,rfl⟩
instance:ScalT Tryz.prog 23:=⟨_,Tryz.underlying23,rfl⟩
instance:ScalT Tryz.prog 26:=⟨_,Tryz.underlying26,rfl⟩
instance:ScalT Tryz.prog 32:=⟨_,Tryz.underlying32,rfl⟩
instance:ScalT Tryz.prog 41:=⟨_,Tryz.underlying41,rfl⟩
instance:StrucT Tryz.prog 25 4:=⟨⟨_,Tryz.underlying25⟩,by kernel_rfl⟩
instance:StrucT Tryz.prog 43 5:=⟨⟨_,Tryz.underlying43⟩,by kernel_rfl⟩
instance:StrucT Tryz.prog 36 5:=⟨⟨_,Tryz.underlying36⟩,by kernel_rfl⟩
instance:StrucT Tryz.prog 82 2:=⟨⟨_,Tryz.underlying82⟩,by kernel_rfl⟩
instance:StrucT Tryz.prog 34 2:=⟨⟨_,Tryz.underlying34⟩,by kernel_rfl⟩
instance:StrucT Tryz.prog 87 7:=⟨⟨_,Tryz.underlying87⟩,by kernel_rfl⟩
instance:ZeroT Tryz.prog 3 [.int .i64 0]:=⟨.int .i64 0,8,by kernel_rfl,by rfl,by decide⟩
instance:ZeroT Tryz.prog 43 [.int .i64 0,.int .i64 0,.int .i64 0,.int .i64 0,.slice none 0 0]:=⟨.agg #[.int .i64 0,.int .i64 0,.int .i64 0,.int .i64 0,.slice none 0 0],56,by kernel_rfl,by simp[Value.cells],by decide⟩
instance:ZeroT Tryz.prog 36 [.slice none 0 0,.int .i64 0,.int .i64 0,.int .i64 0,.int .i64 0]:=⟨.agg #[.slice none 0 0,.int .i64 0,.int .i64 0,.int .i64 0,.int .i64 0],56,by kernel_rfl,by simp[Value.cells],by decide⟩
instance:ZeroT Tryz.prog 82 [.int .i64 0,.bool false]:=⟨.agg #[.int .i64 0,.bool false],16,by kernel_rfl,by simp[Value.cells],by decide⟩
instance:SlT Tryz.prog 32 82:=⟨Tryz.underlying32⟩
instance:SlT Tryz.prog 23 87:=⟨Tryz.underlying23⟩
instance:SlT Tryz.prog 41 3:=⟨Tryz.underlying41⟩
end Go.Walk
end
section
namespace Go.Walk
open Go Go.Bp Go.St Go.RowKit Go.Proofs
class TownB (w:outParam World) (v:Value) (t:outParam Town):Prop where h:aM w v t
class TownC (W:World) (v:Value) (t:outParam Town):Prop where h:aM W v t
class IntsB (w:outParam World) (v:Value) (l:outParam (List Int)):Prop where h:bG w v l
class IntsC (W:World) (v:Value) (l:outParam (List Int)):Prop where h:bG W v l
class StepsB (w:outParam World) (v:Value) (l:outParam (List Step)):Prop where h:bY w v l
class StepsC (W:World) (v:Value) (l:outParam (List Step)):Prop where h:bY W v l
class TaskC (W:World) (v:Value) (k:outParam Task):Prop where h:bA W v k
class TourC (W:World) (v:Value) (x:outParam Tour):Prop where h:nJ W v x
class EnvB (w:outParam World):Prop where h:Env w
class EnvC (W:World):Prop where h:Env W
section
variable{a W:World}{v u:Value}{t:Town}{k:Task}{x:Tour}{l:List Int}{s:List Step}{r:List (List Int)}
instance[p:TownB a v t][q:ExtC a W]:TownC W v t:=⟨p.h.ext q.h⟩
instance[p:IntsB a v l][q:ExtC a W]:IntsC W v l:=⟨p.h.ext q.h⟩
instance[p:StepsB a v s][q:ExtC a W]:StepsC W v s:=⟨p.h.ext q.h⟩
instance[p:EnvB a][q:ExtC a W]:EnvC W:=⟨p.h.ext q.h⟩
instance{A B S T:Int}[p:IntsC W v l]:TaskC W (.agg #[.int .i64 A,.int .i64 B,.int .i64 S,.int .i64 T,v]) ⟨A,B,S,T,l⟩:=⟨⟨v,rfl,p.h⟩⟩
instance{M L H S:Int}[p:StepsC W v s]:TourC W (.agg #[v,.int .i64 M,.int .i64 L,.int .i64 H,.int .i64 S]) ⟨s,M,L,H,S⟩:=⟨⟨v,rfl,p.h⟩⟩
theorem Ub{b:World}{n:Nat}(p:RowC W v b 82 2 n (dJ s)):bY W v s:=by
 have h:=Sl.of_own p.h;have h1:=p.h.1;rw[Gp] at h1;have:n=s.length:=by omega
 subst this;exact h
instance{b:World}{n:Nat}[p:RowC W v b 82 2 n (dJ s)]:StepsC W v s:=⟨Ub p⟩
end
/-! What the functions answer, by names. -/
class TaskE (t:Town) (k:Task) (e:outParam Int):Prop where h:t.taskErr k=e
class FindE (t:Town) (k:Task) (x:outParam Tour) (e:outParam Int):Prop where h:t.findAns k=(x,e)
class DriveE (t:Town) (a time:Int) (l:List Step) (x:outParam Tour) (b e:outParam Int):Prop where h:t.driveAns a time l=(x,b,e)
class LessE (a b:Int) (r:outParam Int):Prop where h:cH a b=r∧(0≤a∧a≤1000000)∧(0≤b∧b≤1000000)
class SetsE (n:Int) (M:outParam Int):Prop where h:∃m:Nat,n=m∧m≤61∧(2:Int)^m=M
section
variable{W W':World}{v u z:Value}{t:Town}{k:Task}{x y:Tour}{l:List Int}{s s':List Step}{r:List (List Int)}{a b c n M:Int}{e:Ending}
abbrev RI(W:World)(n:Int)(e:Ending)(W':World):Prop:=e=.returned (.int .i64 n)∧StepC W W'
abbrev RB(W:World)(n:Bool)(e:Ending)(W':World):Prop:=e=.returned (.bool n)∧StepC W W'
abbrev ROI(W:World)(x:Tour)(n:Int)(e:Ending)(W':World):Prop:=∃A c,e=.returned (.tuple #[.agg #[.slice A x.steps.length c,.int .i64 x.metres,.int .i64 x.lo,.int .i64 x.hi,.int .i64 x.shown],.int .i64 n])∧StepsB W' (.slice A x.steps.length c) x.steps∧StepC W W'
abbrev Uv(W:World)(x:Tour)(m n:Int)(e:Ending)(W':World):Prop:=∃A c,e=.returned (.tuple #[.agg #[.slice A x.steps.length c,.int .i64 x.metres,.int .i64 x.lo,.int .i64 x.hi,.int .i64 x.shown],.int .i64 m,.int .i64 n])∧StepsB W' (.slice A x.steps.length c) x.steps∧StepC W W'
abbrev RSt(W:World)(s:List Step)(e:Ending)(W':World):Prop:=∃A c,e=.returned (.slice A s.length c)∧StepsB W' (.slice A s.length c) s∧StepC W W'
theorem roi(h:Pf W x a e W'):ROI W x a e W':=by
 obtain⟨v,rfl,hO,hE⟩:=h;obtain⟨s,rfl,hs⟩:=hO.tour;obtain⟨A,c,rfl,_⟩:=id hs;exact⟨A,c,rfl,⟨hs⟩,⟨hE⟩⟩
theorem Ux(h:Ln W x a b e W'):Uv W x a b e W':=by
 obtain⟨v,rfl,hO,hE⟩:=h;obtain⟨s,rfl,hs⟩:=hO.tour;obtain⟨A,c,rfl,_⟩:=id hs;exact⟨A,c,rfl,⟨hs⟩,⟨hE⟩⟩
instance[p:TownC W v t][q:TaskC W u k][i:TaskE t k n]:FunC Tryz.prog 38 #[v,u] W (RI W n):=⟨(fN _ _ _ _ _ p.h q.h).mono fun e W' ⟨h,hE⟩=>⟨by rw[←i.h];exact h,⟨hE⟩⟩⟩
instance[p:EnvC W]:FunC Tryz.prog 19 #[] W (RB W true):=⟨(dS _ p.h).mono fun e W' ⟨h,hE⟩=>⟨h,⟨hE⟩⟩⟩
instance[p:TownC W v t][q:TaskC W u k][i:FindE t k x n]:FunC Tryz.prog 23 #[v,u] W (ROI W x n):=⟨(gQ _ _ _ _ _ p.h q.h).mono fun e W' h=>roi (by rw[i.h] at h;exact h)⟩
instance[p:TownC W v t][q:StepsC W u s][i:DriveE t a b s x c n]:FunC Tryz.prog 20 #[v,.int .i64 a,.int .i64 b,u] W (Uv W x c n):=⟨(vF _ _ _ _ _ _ _ p.h q.h).mono fun e W' h=>Ux (by rw[i.h] at h;exact h)⟩
instance[p:LessE a b c]:FunC Tryz.prog 44 #[.int .i64 a,.int .i64 b] W (RI W c):=⟨(fI _ _ p.h.2.1 p.h.2.2 _).mono fun e W' ⟨h,hE⟩=>⟨by rw[←p.h.1];exact h,⟨hE▸Ext.refl _⟩⟩⟩
instance[p:SetsE a M]:FunC Tryz.prog 42 #[.int .i64 a] W (RI W M):=⟨by obtain⟨m,rfl,h1,rfl⟩:=p.h;exact(jP _ h1 _).mono fun e W' ⟨h,hE⟩=>⟨h,⟨hE▸Ext.refl _⟩⟩⟩
instance:FunC Tryz.prog 45 #[.int .i64 a,.int .i64 b] W (fun e W'=>e=.returned (.agg #[.int .i64 a,.int .i64 b])∧StepC W W'):=⟨(zG a b W).mono fun e W' ⟨h,hE⟩=>⟨h,⟨hE⟩⟩⟩
instance[p:StepsC W v s][q:StepsC W u s']:FunC Tryz.prog 34 #[v,u] W (RB W (decide (s=s'))):=⟨(fV _ _ _ _ _ p.h q.h).mono fun e W' ⟨h,hE⟩=>⟨h,⟨hE⟩⟩⟩
instance[p:TourC W v x][q:TourC W u y]:FunC Tryz.prog 22 #[v,u] W (RB W (kT x y)):=⟨(pP _ _ _ _ _ p.h q.h).mono fun e W' ⟨h,hE⟩=>⟨h,⟨hE⟩⟩⟩
end
end Go.Walk
end
section
namespace Go.St
open Go Go.Bp Go.RowKit Go.Proofs Go.Walk
def Uo(xs:List Nat):List Value:=xs.map fun n:Nat=>Value.int .u8 (n:Int)
def Ts(w:World)(v:Value)(xs:List Nat):Prop:=Sl w 1 v xs.length (Uo xs)∧∀x∈xs,x<256
theorem Ts.ext{w w':World}{v:Value}{xs:List Nat}(h:Ts w v xs)(e:Ext w w'):Ts w' v xs:=⟨Sl.ext h.1 e,h.2⟩
namespace Town
variable{t:Town}{k:Task}
end Town
set_option synthInstance.maxSize 2000
set_option synthInstance.maxHeartbeats 400000
set_option maxHeartbeats 8000000
end Go.St
end
section
namespace Go.St
open Go Go.Bp Go.RowKit Go.Proofs Go.ChangeShapes Go.WideShapes Go.ChangeAt
def Zc(xs:List Int):List Value:=xs.map fun n=>Value.int .i16 n
def Yn(w:World)(v:Value)(xs:List Int):Prop:=Sl w 1 v xs.length (Zc xs)∧∀x∈xs,-32768≤x∧x≤32767
theorem Yn.ext{w w':World}{v:Value}{xs:List Int}(h:Yn w v xs)(e:Ext w w'):Yn w' v xs:=⟨Sl.ext h.1 e,h.2⟩
section
variable{H:Type}{enc:TypeId×Value→H}{w:World}{b0:Nat}
end
end Go.St
end
