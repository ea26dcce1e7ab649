import Derived.Deep.AppendLies
import Derived.Deep.RegionHeld3
import Derived.Lib.Hide
import Derived.WalkLawsBesides
import Derived.WalkSpells
set_option maxRecDepth 100000
set_option linter.all false
section
namespace Go.Bp
open Go.RowKit
theorem La(a b:ByteArray):(a==b)=decide (a=b):=by
 cases a with|mk x=>cases b with|mk y=>
 show(x==y)=_
 by_cases h:x=y<;>simp[h]
theorem tE(a b:ByteArray):(a.toList==b.toList)=decide (a=b):=by
 rw[ByteArray.toList_eq,ByteArray.toList_eq];by_cases h:a=b
 ·simp[h]
 ·have:a.data.toList≠b.data.toList:=fun e=>h (Go.WideShapes.bytes_inj e)
  rw[beq_eq_false_iff_ne.2 this];simp[h]
instance:LawfulBEq ByteArray where
 eq_of_beq:=by intro a b h;rw[La] at h;simpa using h
 rfl:=by intro a;rw[La];simp
abbrev Ext(w w':World):Prop:=Below w.heap.size w w'
theorem Ext.refl(w:World):Ext w w:=Below.refl _ _
theorem Ext.trans{a b c:World}(h:Ext a b)(k:Ext b c):Ext a c:=Below.trans h (k.mono h.size)
theorem Ext.ofAlloc(w:World)(o:Obj):Ext w (w.alloc o):=(Below.refl _ _).alloc (Nat.le_refl _) o
theorem Ext.todrew{w w':World}(h:Ext w w'):Ext w w'.drew:=⟨h.os,h.tape,h.output,h.size,h.block⟩
theorem Ext.drewN{w w':World}(h:Ext w w')(n:Nat):Ext w (w'.drewN n):=⟨h.os,h.tape,h.output,h.size,h.block⟩
theorem Ext.cell_some{w w':World}(h:Ext w w'){p:Addr}{v:Value}(hc:w.cell? p=some v):w'.cell? p=some v:=
 (Below.cell h (World.block_lt_of_cell? w p hc)).trans hc
theorem Ext.heap_some{w w':World}(h:Ext w w'){g:Nat}{o:Obj}(hc:w.heap[g]? =some o):w'.heap[g]? =some o:=
 (h.block g (Array.getElem?_eq_some_iff.1 hc).1).trans hc
theorem rL(a:Addr)(i j:Nat):(a.add i).add j=a.add (i+j):=by
 unfold Addr.add;by_cases hi:i=0<;>by_cases hj:j=0<;>simp[hi,hj,Nat.add_assoc]
theorem add_zero'(a:Addr):a.add 0=a:=by simp[Addr.add]
def Cells(w:World)(a:Addr)(cs:List Value):Prop:=∀j u,cs[j]? =some u→w.cell? (a.add j)=some u
theorem Cells.ext{w w':World}{a:Addr}{cs:List Value}(h:Cells w a cs)(e:Ext w w'):Cells w' a cs:=fun j u hu=>e.cell_some (h j u hu)
theorem Cells.d{w:World}{a:Addr}{cs:List Value}(h:Cells w a cs):Cells w.drew a cs:=h
theorem Cells.sub{w:World}{a:Addr}{cs cs':List Value}(h:Cells w a cs)(i:Nat)(hs:∀j u,cs'[j]? =some u→cs[i+j]? =some u):Cells w (a.add i) cs':=by
 intro j u hu;rw[rL];exact h _ _ (hs j u hu)
theorem Cells.nil(w:World)(a:Addr):Cells w a []:=fun j u hu=>by simp at hu
def Blk(w:World)(g:Nat)(t:TypeId)(cs:Array Value):Prop:=w.heap[g]? =some (.cells cs t (0,0))
section
variable{w w':World}{g:Nat}{t:TypeId}{cs:Array Value}
theorem Blk.lt(h:Blk w g t cs):g<w.heap.size:=(Array.getElem?_eq_some_iff.1 h).1
theorem Blk.cell(h:Blk w g t cs)(i:Nat):w.cell? ⟨g,i,none⟩=cs[i]? :=cell_of_row w g i cs t (0,0) h
theorem Blk.frozen(h:Blk w g t cs)(i:Nat):w.frozen? ⟨g,i,none⟩=false:=by
 unfold Blk at h;simp[World.frozen?,h]
theorem Blk.new(w:World)(t:TypeId)(cs:Array Value):Blk (w.alloc (.cells cs t)) w.heap.size t cs:=heap_alloc_new w _
theorem Blk.ext(h:Blk w g t cs)(e:Ext w w'):Blk w' g t cs:=e.heap_some h
theorem Blk.d(h:Blk w g t cs):Blk w.drew g t cs:=h
theorem Blk.grown{row:Option Nat}(h:Blk w g t cs)(hb:w.grownBy w' row)(hg:some g≠row):Blk w' g t cs:=(hb.block g h.lt hg).trans h
theorem Blk.cells(h:Blk w g t cs):Cells w ⟨g,0,none⟩ cs.toList:=by
 intro j u hu;have:(⟨g,0,none⟩:Addr).add j=⟨g,j,none⟩:=by unfold Addr.add;split<;>simp_all
 rw[this,h.cell];simpa using hu
end
theorem Dr{α:Type}(l:List α){k:Nat}(hk:k<l.length):l.take (k+1)=l.take k++ [l[k]]:=List.take_succ_eq_append_getElem hk
def Sl(w:World)(size:Nat)(v:Value)(n:Nat)(xs:List Value):Prop:=
 ∃A c,v=.slice A n c∧n≤c∧c≤maxLen∧xs.length=n*size∧(0<n→∃ad,A=some ad∧Cells w ad xs)
theorem Sl.ext{w w':World}{size n:Nat}{v:Value}{xs:List Value}(h:Sl w size v n xs)(e:Ext w w'):Sl w' size v n xs:=by
 obtain⟨A,c,hv,h1,h2,h3,h4⟩:=h;exact⟨A,c,hv,h1,h2,h3,fun hn=>let⟨ad,ha,hc⟩:=h4 hn;⟨ad,ha,hc.ext e⟩⟩
theorem Sl.d{w:World}{size n:Nat}{v:Value}{xs:List Value}(h:Sl w size v n xs):Sl w.drew size v n xs:=h
theorem Sl.none_(w:World)(size:Nat):Sl w size (.slice none 0 0) 0 []:=⟨none,0,rfl,Nat.le_refl _,Nat.zero_le _,by simp,fun h=>absurd h (by omega)⟩
theorem Sl.of_own{w:World}{base size n:Nat}{e:TypeId}{v:Value}{xs:List Value}(h:w.ownsRow base e size v n xs):Sl w size v n xs:=by
 rcases h.2 with ⟨rfl,rfl⟩|⟨g,cap,cur,rfl,hb,hg,hn,hm,hc,ht⟩
 ·have:=h.1;simp at this;subst this;exact Sl.none_ w size
 ·exact⟨_,_,rfl,hn,hm,h.1,fun _=>⟨_,rfl,h.cells (g:=g) rfl⟩⟩
theorem eP{k:IntKind}{a b:Int}(h:a=b):Ending.returned (.int k a)=.returned (.int k b):=by rw[h]
theorem fT{a b:Bool}(h:a=b):Ending.returned (.bool a)=.returned (.bool b):=by rw[h]
section
variable{P:Program}{ops:Array Oper}{Q:Exit→Act→World→Prop}{a:Act}{w:World}{rest:List Oper}
variable{d:Option Tmp}{ty:TypeId}{pos:String}{after:Array Edge}
theorem Co{o:Oper}(hg:o.guard=none){v:Value}(h:(execOp a.eval o).run P w=.ok (.value v) w)(k:wpList P ops Q rest (a.put o.dst v) w):wpList P ops Q (o::rest) a w:=
 wpList_plain hg fun K hK=>by unfold Oper.wp;rw[h];exact hK _ _ k
theorem Jv{t:TypeId}{dsc:TypeDesc}{p:Addr}{v:Value}(ht:P.underlying t=some dsc)(hagg:(match dsc with| .struct _| .array _ _=>true|_=>false)=false)(hc:w.cell? p=some v):
 (loadVar t p).run P w=.ok v w:=by
 unfold loadVar isAgg;simp only[Sem.run_bind,run_underlying ht,Result.andThen_ok]
 cases dsc<;>simp_all[Sem.run_bind]
theorem Ext.c{w w':World}(h:Ext w w'){p:Addr}{v:Value}(hc:w.cell? p=some v):w'.cell? p=some v:=Ext.cell_some h hc
theorem wU{t:TypeId}{fs:Array Field}{i:TypeInfo}{p:Addr}{cs:List Value}(ht:P.underlying t=some (.struct fs))(hi:P.info? t=some i)(hs:i.size=cs.length)(hc:Cells w p cs):
 (loadVar t p).run P w=.ok (.agg cs.toArray) w:=by
 have h:=run_loadCells_list (P:=P) w p cs hc;unfold loadVar isAgg;simp[Sem.run_bind,run_underlying ht,sizeOf,typeInfo,hi,hs,h]
theorem Pu{t:TypeId}{x:Operand}{p:Addr}{v:Value}(hx:a.eval x=.pointer (some p))(hl:(loadVar t p).run P w=.ok v w)
 (k:wpList P ops Q rest (a.put d v) w):wpList P ops Q (⟨d,.load t x,ty,pos,after,none⟩::rest) a w:=
 Co rfl (by simp[execOp,Instr.loadAt,hx,Instr.sureAddr,hl]) k
theorem Ri{e:TypeId}{x:Operand}(k:∀W g,Ext w W→Blk W g e (a.eval x).cells→w.heap.size≤g→wpList P ops Q rest (a.put d (.pointer (some ⟨g,0,none⟩))) W):
 wpList P ops Q (⟨d,.box e x,ty,pos,after,none⟩::rest) a w:=
 wpList_plain rfl fun K hK=>by
  have h:(execOp a.eval (⟨d,.box e x,ty,pos,after,none⟩:Oper)).run P w=.ok (.value (.pointer (some ⟨w.heap.size,0,none⟩))) (w.alloc (.cells (a.eval x).cells e)):=by
   simp[execOp,Instr.box,newVar,newRow,newObj,Sem.run]
  unfold Oper.wp;rw[h];exact hK _ _ (k _ _ (Ext.ofAlloc _ _) (Blk.new _ _ _) (Nat.le_refl _))
theorem Iz{t e:TypeId}{n:Nat}{parts:Array (Nat×Operand)}{cs:Array Value}(h:(Instr.buildSlice t n (parts.map fun(i,x)=>(i,a.eval x))).run P w=.ok (.slice (some ⟨w.heap.size,0,none⟩) n n) (w.alloc (.cells cs e)))
 (k:∀W g,Ext w W→Blk W g e cs→w.heap.size≤g→wpList P ops Q rest (a.put d (.slice (some ⟨g,0,none⟩) n n)) W):
 wpList P ops Q (⟨d,.buildSlice t n parts,ty,pos,after,none⟩::rest) a w:=
 wpList_plain rfl fun K hK=>by
  have h':(execOp a.eval (⟨d,.buildSlice t n parts,ty,pos,after,none⟩:Oper)).run P w=.ok (.value (.slice (some ⟨w.heap.size,0,none⟩) n n)) (w.alloc (.cells cs e)):=by
   simp[execOp,h]
  unfold Oper.wp;rw[h'];exact hK _ _ (k _ _ (Ext.ofAlloc _ _) (Blk.new _ _ _) (Nat.le_refl _))
theorem wH{s x:Operand}{t e:TypeId}{z:Value}{size bytes:Nat}(ht:P.underlying t=some (.slice e))(hi:(P.info? e).map (fun i=>(i.zero,i.size,i.bytes))=some (some z,size,bytes))(hzs:z.cells.size=size)(hsz:0<size)
 {B:Nat}{v:Value}{n:Nat}{xs:List Value}(hs:a.eval s=v)(hown:w.ownsRow B e size v n xs)
 {A:Option Addr}{m c:Nat}{news:List Value}(hx:a.eval x=.slice A m c)(hr:0<m→∃ad,A=some ad∧Cells w ad news)(hl:news.length=m*size)(h1:∀u∈news,u.oneCell'=true)
 (hbytes:(n+m)*bytes≤140737488355328)(h63:n+m≤maxLen)(hB:B≤w.heap.size)
 (k:∀v' W,W.ownsRow B e size v' (n+m) (xs++news)→w.grownBy W v.ownBlock→(v'.ownBlock=v.ownBlock∨v'.ownBlock=some w.heap.size)→wpList P ops Q rest (a.put d v') W):
 wpList P ops Q (⟨d,.call {callee:=.builtin .append,args:=#[s,x],argTypes:=#[t,t]},ty,pos,after,none⟩::rest) a w:=by
 obtain⟨i,hi0,hz,h2,h3⟩:=info_parts hi;refine wpList_plain rfl fun K hK=> ?_
 have key:∃v' w',(Builtin.append_ #[t,t] ty #[v,.slice A m c]).run P w=.ok v' w'∧w'.ownsRow B e size v' (n+m) (xs++news)∧w.grownBy w' v.ownBlock∧
  (v'.ownBlock=v.ownBlock∨v'.ownBlock=some w.heap.size):=by
  by_cases hm:m=0
  ·subst hm;have hn:news=[]:=List.eq_nil_of_length_eq_zero (by simpa using hl)
   subst hn
   cases A with
   |some ad=>
    obtain⟨v',w',hrun,h4,h5,_,h7⟩:=run_append_own_at (P:=P) w B t ty e i z size bytes ht hi0 hz h2 h3 hzs hsz v n xs hown ad 0 c [] (by simp) (by simp) (by simp) h63 hbytes hB
    exact⟨v',w',hrun,h4,h5,h7⟩
   |none=>
    refine⟨v,w,?_,by simpa using hown,World.grownBy.refl w _,.inl rfl⟩
    rcases hown.2 with ⟨rfl,rfl⟩|⟨g,cap,cur,rfl,_,_,hnc,_⟩
    ·simp[Builtin.append_,run_underlying ht,sizeOf,typeInfo,hi0,Builtin.lenOf,Builtin.firstCells]
    ·simp[Builtin.append_,run_underlying ht,sizeOf,typeInfo,hi0,Builtin.lenOf,Builtin.firstCells,hnc,storeCells]
  ·obtain⟨ad,rfl,hc⟩:=hr (by omega)
   obtain⟨v',w',hrun,h4,h5,_,h7⟩:=run_append_own_at (P:=P) w B t ty e i z size bytes ht hi0 hz h2 h3 hzs hsz v n xs hown ad m c news hl hc h1 h63 hbytes hB;exact⟨v',w',hrun,h4,h5,h7⟩
 obtain⟨v',w',hrun,h4,h5,h7⟩:=key;unfold Oper.wp execOp;simp only[resolve,invoke,builtin,Sem.run_bind,Sem.run_pure,Result.andThen_ok,List.map_toArray,List.map_cons,List.map_nil,hs,hx,hrun];exact hK _ _ (k v' w' h4 h5 h7)
theorem Blk.notown{w:World}{g:Nat}{t:TypeId}{cs:Array Value}{B:Nat}{e:TypeId}{size n:Nat}{v:Value}{xs:List Value}(h:Blk w g t cs)(hown:w.ownsRow B e size v n xs)(hne:e≠t∨g<B):some g≠v.ownBlock:=by
 intro he;rcases hown.2 with ⟨rfl,_⟩|⟨g',cap,cur,rfl,hb,hh,_⟩
 ·simp[Value.ownBlock] at he
 ·obtain rfl:g=g':=by simpa [Value.ownBlock] using he
  rcases hne with hne|hne
  ·unfold Blk at h;rw[h] at hh;injection hh with hh;injection hh with _ ht;exact hne ht.symm
  ·omega
theorem mC{w W:World}{B:Nat}{e:TypeId}{size n:Nat}{v:Value}{xs:List Value}(hown:w.ownsRow B e size v n xs)(h:Ext w W):W.ownsRow B e size v n xs:=
 hown.kept (row:=none) ⟨h.os,h.tape,h.output,h.size,fun k hk _=>h.block k hk⟩ (by cases hv:v.ownBlock<;>simp)
end
end Go.Bp
end
section
namespace Go.Bp
open Go.RowKit
def putAt(cs:Array Value)(o:Nat)(vs:List Value):Array Value:=(cs.toList.take o++vs++cs.toList.drop (o+vs.length)).toArray
theorem Em{cs:Array Value}{vs:List Value}(h:vs.length=cs.size):putAt cs 0 vs=vs.toArray:=by
 unfold putAt;simp only[List.take_zero,List.nil_append,Nat.zero_add];rw[List.drop_of_length_le (by simp[h])];simp
section
variable{P:Program}{ops:Array Oper}{Q:Exit→Act→World→Prop}{a:Act}{w:World}{rest:List Oper}
variable{d:Option Tmp}{ty ty':TypeId}{pos pos':String}{after after':Array Edge}
theorem Cp{e:TypeId}{z:Value}{s b:Nat}(hi:(P.info? e).map (fun i=>(i.zero,i.size,i.bytes))=some (some z,s,b))
 (k:∀W g,Ext w W→Blk W g e z.cells→w.heap.size≤g→wpList P ops Q rest (a.put d (.pointer (some ⟨g,0,none⟩))) W):
 wpList P ops Q (⟨d,.alloc e,ty,pos,after,none⟩::rest) a w:=by
 obtain⟨i,hi0,hz,_,_⟩:=info_parts hi;refine wpList_plain rfl fun K hK=> ?_
 have h:(execOp a.eval (⟨d,.alloc e,ty,pos,after,none⟩:Oper)).run P w=.ok (.value (.pointer (some ⟨w.heap.size,0,none⟩))) (w.alloc (.cells z.cells e)):=by
  simp[execOp,Instr.alloc,zeroValue,typeInfo,hi0,hz,newVar,newRow,newObj,Sem.run]
 unfold Oper.wp;rw[h];exact hK _ _ (k _ _ (Ext.ofAlloc _ _) (Blk.new _ _ _) (Nat.le_refl _))
theorem lY{t e:TypeId}{x y:Operand}{g off n:Nat}{cs:Array Value}{v:Value}(hx:a.eval x=.pointer (some ⟨g,off,none⟩))(hy:a.eval y=v)(hb:Blk w g e cs)
 (hi:(P.info? t).map TypeInfo.size=some n)(hn:v.cells.size=n)(hf:off+n≤cs.size)(h1:∀u∈v.cells.toList,u.oneCell'=true)
 (k:∀W,Blk W g e (putAt cs off v.cells.toList)→w.grownBy W (some g)→wpList P ops Q rest (a.put d undef) W):
 wpList P ops Q (⟨d,.store t x y,ty,pos,after,none⟩::rest) a w:=by
 cases hin:P.info? t with
 |none=>rw[hin] at hi;cases hi
 |some i=>
  rw[hin] at hi;have hs:i.size=n:=by simpa using hi
  have hst:=run_storeCells_at P g off e v.cells.toList 0 cs w hb (by simpa [hn] using hf) h1
  simp only[Nat.add_zero] at hst;refine wpList_plain rfl fun K hK=> ?_
  have h:(execOp a.eval (⟨d,.store t x y,ty,pos,after,none⟩:Oper)).run P w=.ok .skip (w.setRow g (putAt cs off v.cells.toList)):=by
   simp only[execOp,Instr.storeAt,hx,hy,Instr.sureAddr,Sem.run_bind,Sem.run_pure,Result.andThen_ok,storeVar,sizeOf,typeInfo,program,Sem.run,hin,hs,hn];simp[hst,putAt,Result.andThen,sizeOf,typeInfo,hin,hs]
  unfold Oper.wp;rw[h];exact hK _ _ (k _ (setRow_heap w g cs _ e _ hb) ⟨rfl,rfl,rfl,by simp[World.setRow],fun j _ hj=>setRow_other w g j _ (fun e=>hj (by rw[e]))⟩)
end
theorem fM{B:Nat}{w0 w W:World}{g:Nat}(h:Below B w0 w)(hg:w.grownBy W (some g))(hB:B≤g)(hs:B≤w.heap.size):Below B w0 W:=
 h.grown hg hs (fun k e=>by injection e;omega)
theorem sO{w W:World}{B g:Nat}{e:TypeId}{size n:Nat}{v:Value}{xs:List Value}(hown:w.ownsRow B e size v n xs)(hg:w.grownBy W (some g))(hne:v.ownBlock≠some g):W.ownsRow B e size v n xs:=
 hown.kept hg (.inr hne)
theorem zS{w:World}{B g:Nat}{e t:TypeId}{size n:Nat}{v:Value}{xs:List Value}{cs:Array Value}(hown:w.ownsRow B e size v n xs)(hb:Blk w g t cs)(hne:e≠t∨g<B):v.ownBlock≠some g:=
 fun h=>hb.notown hown hne h.symm
theorem Pq{P:Program}{fn:Func}{R:Ending→World→Prop}{x u:Tmp}{t:TypeId}{a:Act}{w:World}{p:Addr}{v:Value}(h:fn.results=#[.cell x t,.tmp u])(hd:a.defers=[])
 (hx:a.tmps.getD x undef=.pointer (some p))(hl:(loadVar t p).run P w=.ok v w)(hR:R (.returned (.tuple #[v,a.tmps.getD u undef])) w):bodyPost P fn R .ret a w:=
 bodyPost_ret (by rw[results_cell_tmp h,hx];simp[asAddr,hl,Result.andThen]) hd hR
theorem Pr{P:Program}{fn:Func}{R:Ending→World→Prop}{x:Tmp}{t:TypeId}{a:Act}{w:World}{p:Addr}{v:Value}(h:fn.results=#[.cell x t])(hd:a.defers=[])
 (hx:a.tmps.getD x undef=.pointer (some p))(hl:(loadVar t p).run P w=.ok v w)(hR:R (.returned v) w):bodyPost P fn R .ret a w:=
 have hx':a.tmps[x]?.getD undef=.pointer (some p):=by simpa [Array.getD_eq_getD_getElem?] using hx
 bodyPost_ret (by simp[results,h,hx',asAddr,hl,Result.andThen]) hd hR
section
variable{P:Program}{ops:Array Oper}{Q:Exit→Act→World→Prop}{a:Act}{w:World}{rest:List Oper}
variable{d:Option Tmp}{ty:TypeId}{pos:String}{after:Array Edge}
theorem rU(z:Value)(n:Nat):madeCells #[z] n=Array.replicate n z:=by
 apply Array.ext
 ·simp[madeCells]
 ·intro i h1 h2;simp[madeCells,Nat.mod_one]
theorem Pt{t e:TypeId}{x y:Operand}{z:Value}{n b:Nat}(ht:P.underlying t=some (.slice e))(hi:(P.info? e).map (fun i=>(i.zero,i.size,i.bytes))=some (some z,1,b))(hz:z.cells=#[z])(hn:n≤1000000)(hb:b≤1000)
 (hx:a.eval x=.int .i64 n)(hy:a.eval y=.int .i64 n)
 (k:∀W g,Ext w W→Blk W g e (Array.replicate n z)→w.heap.size≤g→wpList P ops Q rest (a.put d (.slice (some ⟨g,0,none⟩) n n)) W):
 wpList P ops Q (⟨d,.makeSlice t x y,ty,pos,after,none⟩::rest) a w:=by
 obtain⟨i,hi0,hz0,hs,hby⟩:=info_parts hi;have hbn:b*n≤1000*1000000:=Nat.mul_le_mul hb hn;have hbi:(i.bytes:Int)*(n:Int)≤281474976710656:=by
  rw[hby];have h3:((b*n:Nat):Int)≤281474976710656:=by omega
  rwa [Int.natCast_mul] at h3
 have hr:=run_make (P:=P) w t e i z ht hi0 hz0 .i64 .i64 (n:Int) (n:Int) (by omega) (by omega) hbi (by omega)
 simp only[Int.toNat_natCast,hs,Nat.mul_one,hz,rU] at hr;refine wpList_plain rfl fun K hK=> ?_
 have h:(execOp a.eval (⟨d,.makeSlice t x y,ty,pos,after,none⟩:Oper)).run P w=.ok (.value (.slice (some ⟨w.heap.size,0,none⟩) n n)) (w.alloc (.cells (Array.replicate n z) e)):=by
  simp[execOp,hx,hy,hr,Result.andThen]
 unfold Oper.wp;rw[h];exact hK _ _ (k _ _ (Ext.ofAlloc _ _) (Blk.new _ _ _) (Nat.le_refl _))
theorem Iw{t e:TypeId}{x y:Operand}{g off:Nat}{cs:Array Value}{v:Value}(hx:a.eval x=.pointer (some ⟨g,off,none⟩))(hy:a.eval y=v)(hb:Blk w g e cs)
 (hi:(P.info? t).map TypeInfo.size=some 1)(hn:v.cells=#[v])(hf:off<cs.size)(h1:v.oneCell'=true)
 (k:∀W,Blk W g e (cs.setIfInBounds off v)→w.grownBy W (some g)→wpList P ops Q rest (a.put d undef) W):
 wpList P ops Q (⟨d,.store t x y,ty,pos,after,none⟩::rest) a w:=by
 refine lY hx hy hb hi (by rw[hn];rfl) (by omega) (by rw[hn];simpa using h1) fun W hB hg=>k W ?_ hg
 have:putAt cs off v.cells.toList=cs.setIfInBounds off v:=by
  rw[hn];apply Array.ext';simp only[putAt,Array.toList_setIfInBounds,List.length_cons,List.length_nil];rw[List.set_eq_take_append_cons_drop];simp[hf]
 rwa [this] at hB
end
end Go.Bp
end
section
namespace Go.Bp
open Go.RowKit
section
variable{P:Program}{md:Region.Mode}{ops:Array Oper}{Q:Exit→Act→World→Prop}{S:World→Prop}
theorem Mg(hQ:∀c(a:Act)(d:Tmp)(v:Value)(w:World),Q (.panic c) (a.put (some d) v) w→Q (.panic c) a w):∀c(a:Act)(d:Option Tmp)(v:Value)(w:World),Q (.panic c) (a.put d v) w→Q (.panic c) a w
 |c,a,some d,v,w,h=>hQ c a d v w h
 |_,_,none,_,_,h=>h
variable{i:Nat}{r:List (Nat×Bool)}{o:Oper}{a:Act}{w:World}
end
end Go.Bp
end
section
namespace Go.Bp
open Go.RowKit
section
variable{P:Program}{ops:Array Oper}{Q:Exit→Act→World→Prop}{a:Act}{w:World}{rest:List Oper}
theorem Iy{o:Oper}(hg:o.guard=none){f:FuncId}{args:Array Value}{R:Ending→World→Prop}(hc:Calls P f args w R)(hr:(execOp a.eval o).run P w=.ok (.enter f args) w)
 (hn:∀e w',R e w'→∃v,e=.returned v∧wpList P ops Q rest (a.put o.dst v) w'):wpList P ops Q (o::rest) a w:=by
 refine wpList_plain hg fun K hK=> ?_
 unfold Oper.wp;rw[hr];refine Calls.mono hc fun e w' he=> ?_
 obtain⟨v,rfl,hk⟩:=hn e w' he;exact hK _ _ hk
end
inductive OTree where
 |nil
 |take (i:Nat) (r:OTree)
 |one (i:Nat) (r:OTree)
 |two (i:Nat) (r:OTree) (j:Nat) (s:OTree)
def OTree.depth:OTree→Nat
 | .nil=>0
 | .take _ r=>r.depth+1
 | .one _ r=>r.depth+1
 | .two _ r _ s=>max r.depth s.depth+1
section
variable{P:Program}{md:Region.Mode}{ops:Array Oper}{Q:Exit→Act→World→Prop}{S:World→Prop}
def okTree(md:Region.Mode)(ops:Array Oper):OTree→Array Bool→Bool
 | .nil,l=>(Region.ready md ops l).isEmpty
 | .take i r,l=>Region.free md ops l i&&(Region.ready md ops l).contains i&&okTree md ops r (l.setIfInBounds i true)
 | .one i r,l=>(Region.ready md ops l== [i])&&okTree md ops r (l.setIfInBounds i true)
 | .two i r j s,l=>(Region.ready md ops l== [i,j])&&okTree md ops r (l.setIfInBounds i true)&&okTree md ops s (l.setIfInBounds j true)
def wpTree(P:Program)(ops:Array Oper)(Q:Exit→Act→World→Prop)(S:World→Prop):OTree→Act→World→Prop
 | .nil,a,w=>Q .normal a w
 | .take i r,a,w=>∃oi v,ops[i]? =some oi∧YieldsIf P ops S oi v a∧S w∧wpTree P ops Q S r (a.put oi.dst v) w
 | .one i r,a,w=>wpOp P ops Q i (fun a' w'=>S w'∧wpTree P ops Q S r a' w') a w
 | .two i r j s,a,w=>wpOp P ops Q i (fun a' w'=>S w'∧wpTree P ops Q S r a' w') a w∧wpOp P ops Q j (fun a' w'=>S w'∧wpTree P ops Q S s a' w') a w
theorem dE(hs:Region.noSelect ops=true)(hQ:∀c(a:Act)(d:Tmp)(v:Value)(w:World),Q (.panic c) (a.put (some d) v) w→Q (.panic c) a w):
 ∀(t:OTree)(l:Array Bool)(fuel:Nat)(a:Act)(w:World),t.depth≤fuel→okTree md ops t l=true→wpTree P ops Q S t a w→wpAnyH P md ops Q S fuel l a w
 | .nil,l,fuel,a,w,_,hok,h=>wpAnyH_done (by simpa [okTree] using hok) h fuel
 | .take i r,l,0,a,w,hf,_,_=>by simp[OTree.depth] at hf
 | .one i r,l,0,a,w,hf,_,_=>by simp[OTree.depth] at hf
 | .two i r j s,l,0,a,w,hf,_,_=>by simp[OTree.depth] at hf
 | .take i r,l,fuel+1,a,w,hf,hok,h=>by
  obtain⟨oi,v,ho,hy,hS,h⟩:=h;simp only[okTree,Bool.and_eq_true] at hok;exact wpAnyH_take ho hs hok.1.1 hok.1.2 (fun c a w h=>Mg hQ c a oi.dst v w h) hy hS (dE hs hQ r _ fuel _ _ (by simpa [OTree.depth] using hf) hok.2 h)
 | .one i r,l,fuel+1,a,w,hf,hok,h=>by
  simp only[okTree,Bool.and_eq_true,beq_iff_eq] at hok;refine wpAnyH_all hok.1 (by simp) fun j hj=> ?_
  obtain rfl:j=i:=by simpa using hj
  exact wpOp_mono (fun a' w' h'=>⟨h'.1,dE hs hQ r _ fuel _ _ (by simpa [OTree.depth] using hf) hok.2 h'.2⟩) h
 | .two i r j s,l,fuel+1,a,w,hf,hok,h=>by
  simp only[okTree,Bool.and_eq_true,beq_iff_eq] at hok;obtain⟨h1,h2⟩:=h;have hd:r.depth≤fuel∧s.depth≤fuel:=by simp only[OTree.depth] at hf;omega
  refine wpAnyH_all hok.1.1 (by simp) fun k hk=> ?_
  have hk:k=i∨k=j:=by simpa using hk
  rcases hk with rfl|rfl
  ·exact wpOp_mono (fun a' w' h'=>⟨h'.1,dE hs hQ r _ fuel _ _ hd.1 hok.1.2 h'.2⟩) h1
  ·exact wpOp_mono (fun a' w' h'=>⟨h'.1,dE hs hQ s _ fuel _ _ hd.2 hok.2 h'.2⟩) h2
theorem pB{id:Nat}{a:Act}{w:World}(t:OTree)(S:World→Prop)(hm:P.follows .mixedOrders=true)
 (hs:Region.noSelect ops=true)(hf:Nat.ble t.depth ops.size=true)(hok:okTree .any ops t (Array.replicate ops.size false)=true)
 (hQ:∀c(a:Act)(d:Tmp)(v:Value)(w:World),Q (.panic c) (a.put (some d) v) w→Q (.panic c) a w)
 (hS:S w.drew)(h:S w.drew→wpTree P ops Q S t a w.drew):(Code.region id ops true).wp P Q a w:=
 wp_region_held_drew (S:=S) hm hS fun hS=>dE hs hQ t _ _ _ _ (Nat.le_of_ble_eq_true hf) hok (h hS)
variable{i j:Nat}{r s:OTree}{o:Oper}{a:Act}{w:World}
theorem aF(h:Q .normal a w):wpTree P ops Q S .nil a w:=h
theorem Pj{v:Value}(ho:ops[i]? =some o)(hg:o.guard=none)(hy:∀w,S w→(execOp a.eval o).run P w=.ok (.value v) w)(hS:S w)
 (k:wpTree P ops Q S r (a.put o.dst v) w):wpTree P ops Q S (.take i r) a w:=
 ⟨o,v,ho,.inl ⟨by simp[Region.wanted,hg],hy⟩,hS,k⟩
def thenTree(P:Program)(ops:Array Oper)(Q:Exit→Act→World→Prop)(S:World→Prop)(r:OTree):Exit→Act→World→Prop
 | .normal,a,w=>S w∧wpTree P ops Q S r a w
 |e,a,w=>Q e a w
theorem yR{next:Act→World→Prop}{x:Result Next}(h:o.upon P a next (thenTree P ops Q S r) x):o.upon P a next Q x:=by
 cases x with
 |ok n w'=>
  cases n with
  |enter f args=>exact Calls.mono h fun e w'' he=>by cases e<;>exact he
  |_=>exact h
 |halt x w'=>
  cases x<;>exact h
theorem mZ(ho:ops[i]? =some o)(h:wpList P ops (thenTree P ops Q S r) [o] a w):wpOp P ops Q i (fun a' w'=>S w'∧wpTree P ops Q S r a' w') a w:=by
 unfold wpOp;simp only[ho];unfold wpList at h;split
 ·rename_i hw;rw[if_pos hw] at h;rcases h with h|⟨h1,⟨a2,w2,h2⟩⟩
  ·exact .inl (yR h)
  ·exact .inr ⟨h1,⟨a2,w2,h2⟩⟩
 ·rename_i hw;rw[if_neg hw] at h;exact h
theorem aQ(ho:ops[i]? =some o)(h:wpList P ops (thenTree P ops Q S r) [o] a w):wpTree P ops Q S (.one i r) a w:=mZ ho h
theorem dV{o':Oper}(ho:ops[i]? =some o)(ho':ops[j]? =some o')(h:wpList P ops (thenTree P ops Q S r) [o] a w)(h':wpList P ops (thenTree P ops Q S s) [o'] a w):wpTree P ops Q S (.two i r j s) a w:=
 ⟨mZ ho h,mZ ho' h'⟩
theorem aM(hS:S w)(k:S w→wpTree P ops Q S r a w):wpList P ops (thenTree P ops Q S r) [] a w:=⟨hS,k hS⟩
end
section
variable{P:Program}{ops:Array Oper}{Q:Exit→Act→World→Prop}{S:World→Prop}{a:Act}{w:World}{rest l:List Oper}{r:OTree}
theorem aX{i:Nat}(h:wpTree P ops Q S (.take i r) a w):wpTree P ops Q S (.take i r) a w:=h
theorem bC{i:Nat}(h:wpTree P ops Q S (.one i r) a w):wpTree P ops Q S (.one i r) a w:=h
theorem gK{i j:Nat}{s:OTree}(h:wpTree P ops Q S (.two i r j s) a w):wpTree P ops Q S (.two i r j s) a w:=h
theorem bD(h:wpList P ops Q [] a w):wpList P ops Q [] a w:=h
end
theorem pS:(∀(a:Act)(v:Value)(d:Tmp),a.put (some d) v=⟨a.tmps.setIfInBounds d v,a.defers⟩)∧(∀(a:Act)(v:Value),a.put none v=a)∧(∀(l:List Value)(i:Nat)(x:Value),l.toArray.setIfInBounds i x=(l.set i x).toArray)∧(∀(x:Value)(l:List Value)(y:Value),(x::l).set 0 y=y::l)∧(∀(x:Value)(l:List Value)(y:Value)(i:Nat),(x::l).set (i+1) y=x::l.set i y):=
 ⟨fun _ _ _=>rfl,fun _ _=>rfl,fun _ _ _=>List.setIfInBounds_toArray ..,fun _ _ _=>rfl,fun _ _ _ _=>rfl⟩
theorem gS:(∀(l:List Oper)(i:Nat),l.toArray[i]? =l[i]?)∧(∀(x:Oper)(l:List Oper)(i:Nat),(x::l)[i+1]? =l[i]?)∧(∀(x:Oper)(l:List Oper),(x::l)[0]? =some x):=
 ⟨fun _ _=>List.getElem?_toArray ..,fun _ _ _=>List.getElem?_cons_succ ..,fun _ _=>List.getElem?_cons_zero ..⟩
section
variable{P:Program}{ops:Array Oper}{Q:Exit→Act→World→Prop}{S:World→Prop}{a:Act}{w:World}{rest l:List Oper}{r:OTree}
theorem dA{id:Nat}{a:Act}{w:World}(t:OTree)(S:World→Prop)(hS:S w.drew)(h:S w.drew→wpTree P ops Q S t a w.drew)(hm:P.follows .mixedOrders=true:=by kernel_rfl)(hs:Region.noSelect ops=true:=by kernel_rfl)(hf:Nat.ble t.depth ops.size=true:=by kernel_rfl)(hok:okTree .any ops t (Array.replicate ops.size false)=true:=by kernel_rfl)(hQ:∀c(a:Act)(d:Tmp)(v:Value)(w:World),Q (.panic c) (a.put (some d) v) w→Q (.panic c) a w:=by intro _ _ _ _ _ h;first|exact h|exact absurd h.1 (fun e=>by cases e)):(Code.region id ops true).wp P Q a w:=pB t S hm hs hf hok hQ hS h
theorem tk{i:Nat}{o:Oper}{v:Value}(hy:∀w,S w→(execOp a.eval o).run P w=.ok (.value v) w)(hS:S w)(k:wpTree P ops Q S r (a.put o.dst v) w)(ho:ops[i]? =some o:=by simp only[gS];rfl)(hg:o.guard=none:=by rfl):wpTree P ops Q S (.take i r) a w:=Pj ho hg hy hS k
end
end Go.Bp
end
