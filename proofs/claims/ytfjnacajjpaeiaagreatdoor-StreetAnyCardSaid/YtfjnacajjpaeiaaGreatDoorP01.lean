/- Chapter 03: contracts of functions of the program and of the reference, and plain laws (out of Base Spec Loads StA StB StC StD StE StF Tx). No condition of its own. -/
import Derived.Deep.AppendLies
import Derived.Lib.AtoiAll
import Derived.Lib.ItoaMem
import Derived.Lib.Split
import Derived.Test.YtfjnacajjpaeiaaGreatDoorProg
import Derived.WalkLawsBesides
import Derived.WalkSpells
set_option maxRecDepth 100000
set_option linter.all false
section
namespace Go.Bp
open Go.RowKit
theorem Lg(a b:ByteArray):(a==b)=decide (a=b):=by
 cases a with|mk x=>cases b with|mk y=>
 show(x==y)=_
 by_cases h:x=y<;>simp[h]
theorem Bf(a b:ByteArray):(a.toList==b.toList)=decide (a=b):=by
 rw[ByteArray.toList_eq,ByteArray.toList_eq];by_cases h:a=b
 ·simp[h]
 ·have:a.data.toList≠b.data.toList:=fun e=>h (Go.WideShapes.bytes_inj e)
  rw[beq_eq_false_iff_ne.2 this];simp[h]
instance:LawfulBEq ByteArray where
 eq_of_beq:=by intro a b h;rw[Lg] at h;simpa using h
 rfl:=by intro a;rw[Lg];simp
abbrev Ext(w w':World):Prop:=Below w.heap.size w w'
theorem Ext.refl(w:World):Ext w w:=Below.refl _ _
theorem Ext.trans{a b c:World}(h:Ext a b)(k:Ext b c):Ext a c:=Below.trans h (k.mono h.size)
theorem Ext.ofAlloc(w:World)(o:Obj):Ext w (w.alloc o):=(Below.refl _ _).alloc (Nat.le_refl _) o
theorem Ext.undrew{w w':World}(h:Ext w.drew w'):Ext w w':=⟨h.os,h.tape,h.output,h.size,h.block⟩
theorem Ext.todrew{w w':World}(h:Ext w w'):Ext w w'.drew:=⟨h.os,h.tape,h.output,h.size,h.block⟩
theorem Ext.drewN{w w':World}(h:Ext w w')(n:Nat):Ext w (w'.drewN n):=⟨h.os,h.tape,h.output,h.size,h.block⟩
theorem Ext.le{w w':World}(h:Ext w w'):w.heap.size≤w'.heap.size:=h.size
theorem Ext.cell_some{w w':World}(h:Ext w w'){p:Addr}{v:Value}(hc:w.cell? p=some v):w'.cell? p=some v:=
 (Below.cell h (World.block_lt_of_cell? w p hc)).trans hc
theorem Ext.heap_some{w w':World}(h:Ext w w'){g:Nat}{o:Obj}(hc:w.heap[g]? =some o):w'.heap[g]? =some o:=
 (h.block g (Array.getElem?_eq_some_iff.1 hc).1).trans hc
theorem mI(a:Addr)(i j:Nat):(a.add i).add j=a.add (i+j):=by
 unfold Addr.add;by_cases hi:i=0<;>by_cases hj:j=0<;>simp[hi,hj,Nat.add_assoc]
theorem rN(a:Addr):a.add 0=a:=by simp[Addr.add]
def cS(w:World)(a:Addr)(cs:List Value):Prop:=∀j u,cs[j]? =some u→w.cell? (a.add j)=some u
theorem cS.ext{w w':World}{a:Addr}{cs:List Value}(h:cS w a cs)(e:Ext w w'):cS w' a cs:=fun j u hu=>e.cell_some (h j u hu)
theorem cS.d{w:World}{a:Addr}{cs:List Value}(h:cS w a cs):cS w.drew a cs:=h
theorem cS.sub{w:World}{a:Addr}{cs cs':List Value}(h:cS w a cs)(i:Nat)(hs:∀j u,cs'[j]? =some u→cs[i+j]? =some u):cS w (a.add i) cs':=by
 intro j u hu;rw[mI];exact h _ _ (hs j u hu)
theorem cS.nil(w:World)(a:Addr):cS w a []:=fun j u hu=>by simp at hu
def Blk(w:World)(g:Nat)(t:TypeId)(cs:Array Value):Prop:=w.heap[g]? =some (.cells cs t (0,0))
section
variable{w w':World}{g:Nat}{t:TypeId}{cs:Array Value}
theorem Blk.lt(h:Blk w g t cs):g<w.heap.size:=(Array.getElem?_eq_some_iff.1 h).1
theorem Blk.cell(h:Blk w g t cs)(i:Nat):w.cell? ⟨g,i,none⟩=cs[i]? :=cell_of_row w g i cs t (0,0) h
theorem Blk.frozen(h:Blk w g t cs)(i:Nat):w.frozen? ⟨g,i,none⟩=false:=by
 unfold Blk at h;simp[World.frozen?,h]
theorem Blk.new(w:World)(t:TypeId)(cs:Array Value):Blk (w.alloc (.cells cs t)) w.heap.size t cs:=heap_alloc_new w _
theorem Blk.ext(h:Blk w g t cs)(e:Ext w w'):Blk w' g t cs:=e.heap_some h
theorem Blk.d(h:Blk w g t cs):Blk w.drew g t cs:=h
theorem Blk.grown{row:Option Nat}(h:Blk w g t cs)(hb:w.grownBy w' row)(hg:some g≠row):Blk w' g t cs:=(hb.block g h.lt hg).trans h
theorem Blk.cells(h:Blk w g t cs):cS w ⟨g,0,none⟩ cs.toList:=by
 intro j u hu;have:(⟨g,0,none⟩:Addr).add j=⟨g,j,none⟩:=by unfold Addr.add;split<;>simp_all
 rw[this,h.cell];simpa using hu
end
theorem mC{α:Type}{n x:α}{l:List α}(h:n∉l)(hx:n≠x):n∉l++ [x]:=by
 intro hm;rcases List.mem_append.1 hm with h1|h1
 ·exact h h1
 ·exact hx (by simpa using h1)
theorem cI{α:Type}(l:List α){k:Nat}(hk:k<l.length):l.take (k+1)=l.take k++ [l[k]]:=List.take_succ_eq_append_getElem hk
def Sl(w:World)(size:Nat)(v:Value)(n:Nat)(xs:List Value):Prop:=
 ∃A c,v=.slice A n c∧n≤c∧c≤maxLen∧xs.length=n*size∧(0<n→∃ad,A=some ad∧cS w ad xs)
theorem Sl.ext{w w':World}{size n:Nat}{v:Value}{xs:List Value}(h:Sl w size v n xs)(e:Ext w w'):Sl w' size v n xs:=by
 obtain⟨A,c,hv,h1,h2,h3,h4⟩:=h;exact⟨A,c,hv,h1,h2,h3,fun hn=>let⟨ad,ha,hc⟩:=h4 hn;⟨ad,ha,hc.ext e⟩⟩
theorem Sl.d{w:World}{size n:Nat}{v:Value}{xs:List Value}(h:Sl w size v n xs):Sl w.drew size v n xs:=h
theorem Sl.none_(w:World)(size:Nat):Sl w size (.slice none 0 0) 0 []:=⟨none,0,rfl,Nat.le_refl _,Nat.zero_le _,by simp,fun h=>absurd h (by omega)⟩
theorem Sl.of_own{w:World}{base size n:Nat}{e:TypeId}{v:Value}{xs:List Value}(h:w.ownsRow base e size v n xs):Sl w size v n xs:=by
 rcases h.2 with ⟨rfl,rfl⟩|⟨g,cap,cur,rfl,hb,hg,hn,hm,hc,ht⟩
 ·have:=h.1;simp at this;subst this;exact Sl.none_ w size
 ·exact⟨_,_,rfl,hn,hm,h.1,fun _=>⟨_,rfl,h.cells (g:=g) rfl⟩⟩
theorem lI{k:IntKind}{a b:Int}(h:a=b):Ending.returned (.int k a)=.returned (.int k b):=by rw[h]
theorem jR{a b:Bool}(h:a=b):Ending.returned (.bool a)=.returned (.bool b):=by rw[h]
section
variable{P:Program}{ops:Array Oper}{Q:Exit→Act→World→Prop}{a:Act}{w:World}{rest:List Oper}
variable{d:Option Tmp}{ty:TypeId}{pos:String}{after:Array Edge}
theorem Om{o:Oper}(hg:o.guard=none){v:Value}(h:(execOp a.eval o).run P w=.ok (.value v) w)(k:wpList P ops Q rest (a.put o.dst v) w):wpList P ops Q (o::rest) a w:=
 wpList_plain hg fun K hK=>by unfold Oper.wp;rw[h];exact hK _ _ k
theorem aY{t:TypeId}{dsc:TypeDesc}{p:Addr}{v:Value}(ht:P.underlying t=some dsc)(hagg:(match dsc with| .struct _| .array _ _=>true|_=>false)=false)(hc:w.cell? p=some v):
 (loadVar t p).run P w=.ok v w:=by
 unfold loadVar isAgg;simp only[Sem.run_bind,run_underlying ht,Result.andThen_ok]
 cases dsc<;>simp_all[Sem.run_bind]
theorem rl{P:Program}{w:World}{t:TypeId}{dsc:TypeDesc}{p:Addr}{v:Value}(ht:P.underlying t=some dsc)(hc:w.cell? p=some v)(hagg:(match dsc with| .struct _| .array _ _=>true|_=>false)=false:=by rfl):∀W,Ext w W→(loadVar t p).run P W=.ok v W:=fun _ h=>aY ht hagg (Ext.cell_some h hc)
theorem Ext.c{w w':World}(h:Ext w w'){p:Addr}{v:Value}(hc:w.cell? p=some v):w'.cell? p=some v:=Ext.cell_some h hc
theorem eH{t:TypeId}{fs:Array Field}{i:TypeInfo}{p:Addr}{cs:List Value}(ht:P.underlying t=some (.struct fs))(hi:P.info? t=some i)(hs:i.size=cs.length)(hc:cS w p cs):
 (loadVar t p).run P w=.ok (.agg cs.toArray) w:=by
 have h:=run_loadCells_list (P:=P) w p cs hc;unfold loadVar isAgg;simp[Sem.run_bind,run_underlying ht,sizeOf,typeInfo,hi,hs,h]
theorem aC{t:TypeId}{x:Operand}{p:Addr}{v:Value}(hx:a.eval x=.pointer (some p))(hl:(loadVar t p).run P w=.ok v w)
 (k:wpList P ops Q rest (a.put d v) w):wpList P ops Q (⟨d,.load t x,ty,pos,after,none⟩::rest) a w:=
 Om rfl (by simp[execOp,Instr.loadAt,hx,Instr.sureAddr,hl]) k
theorem aF{e:TypeId}{x:Operand}(k:∀W g,Ext w W→Blk W g e (a.eval x).cells→w.heap.size≤g→wpList P ops Q rest (a.put d (.pointer (some ⟨g,0,none⟩))) W):
 wpList P ops Q (⟨d,.box e x,ty,pos,after,none⟩::rest) a w:=
 wpList_plain rfl fun K hK=>by
  have h:(execOp a.eval (⟨d,.box e x,ty,pos,after,none⟩:Oper)).run P w=.ok (.value (.pointer (some ⟨w.heap.size,0,none⟩))) (w.alloc (.cells (a.eval x).cells e)):=by
   simp[execOp,Instr.box,newVar,newRow,newObj,Sem.run]
  unfold Oper.wp;rw[h];exact hK _ _ (k _ _ (Ext.ofAlloc _ _) (Blk.new _ _ _) (Nat.le_refl _))
theorem eV{t e:TypeId}{n:Nat}{parts:Array (Nat×Operand)}{cs:Array Value}(h:(Instr.buildSlice t n (parts.map fun(i,x)=>(i,a.eval x))).run P w=.ok (.slice (some ⟨w.heap.size,0,none⟩) n n) (w.alloc (.cells cs e)))
 (k:∀W g,Ext w W→Blk W g e cs→w.heap.size≤g→wpList P ops Q rest (a.put d (.slice (some ⟨g,0,none⟩) n n)) W):
 wpList P ops Q (⟨d,.buildSlice t n parts,ty,pos,after,none⟩::rest) a w:=
 wpList_plain rfl fun K hK=>by
  have h':(execOp a.eval (⟨d,.buildSlice t n parts,ty,pos,after,none⟩:Oper)).run P w=.ok (.value (.slice (some ⟨w.heap.size,0,none⟩) n n)) (w.alloc (.cells cs e)):=by
   simp[execOp,h]
  unfold Oper.wp;rw[h'];exact hK _ _ (k _ _ (Ext.ofAlloc _ _) (Blk.new _ _ _) (Nat.le_refl _))
theorem zM(P:Program)(w:World){t e:TypeId}{v z:Value}(ht:P.underlying t=some (.slice e))(hi:(P.info? e).map (fun i=>(i.zero,i.size))=some (some z,1))(hz:z.cells.size=1)(hv:v.cells=#[v]):
 (Instr.buildSlice t 1 #[(0,v)]).run P w=.ok (.slice (some ⟨w.heap.size,0,none⟩) 1 1) (w.alloc (.cells #[v] e)):=by
 cases h:P.info? e with
 |none=>rw[h] at hi;cases hi
 |some i=>
  rw[h] at hi;simp only[Option.map_some,Option.some.injEq,Prod.mk.injEq] at hi;obtain⟨h0,h1⟩:=hi
  cases i
  dsimp only at h0 h1;subst h0 h1;simp[Instr.buildSlice,run_underlying ht,sizeOf,typeInfo,zeroValue,h,Instr.fill,hz,hv,newRow,newObj,Sem.run,Array.range];congr 2
theorem qF{s x:Operand}{t e:TypeId}{z:Value}{size bytes:Nat}(ht:P.underlying t=some (.slice e))(hi:(P.info? e).map (fun i=>(i.zero,i.size,i.bytes))=some (some z,size,bytes))(hzs:z.cells.size=size)(hsz:0<size)
 {B:Nat}{v:Value}{n:Nat}{xs:List Value}(hs:a.eval s=v)(hown:w.ownsRow B e size v n xs)
 {A:Option Addr}{m c:Nat}{news:List Value}(hx:a.eval x=.slice A m c)(hr:0<m→∃ad,A=some ad∧cS w ad news)(hl:news.length=m*size)(h1:∀u∈news,u.oneCell'=true)
 (hbytes:(n+m)*bytes≤140737488355328)(h63:n+m≤maxLen)(hB:B≤w.heap.size)
 (k:∀v' W,W.ownsRow B e size v' (n+m) (xs++news)→w.grownBy W v.ownBlock→(v'.ownBlock=v.ownBlock∨v'.ownBlock=some w.heap.size)→wpList P ops Q rest (a.put d v') W):
 wpList P ops Q (⟨d,.call {callee:=.builtin .append,args:=#[s,x],argTypes:=#[t,t]},ty,pos,after,none⟩::rest) a w:=by
 obtain⟨i,hi0,hz,h2,h3⟩:=info_parts hi;refine wpList_plain rfl fun K hK=> ?_
 have key:∃v' w',(Builtin.append_ #[t,t] ty #[v,.slice A m c]).run P w=.ok v' w'∧w'.ownsRow B e size v' (n+m) (xs++news)∧w.grownBy w' v.ownBlock∧
  (v'.ownBlock=v.ownBlock∨v'.ownBlock=some w.heap.size):=by
  by_cases hm:m=0
  ·subst hm;have hn:news=[]:=List.eq_nil_of_length_eq_zero (by simpa using hl)
   subst hn
   cases A with
   |some ad=>
    obtain⟨v',w',hrun,h4,h5,_,h7⟩:=run_append_own_at (P:=P) w B t ty e i z size bytes ht hi0 hz h2 h3 hzs hsz v n xs hown ad 0 c [] (by simp) (by simp) (by simp) h63 hbytes hB
    exact⟨v',w',hrun,h4,h5,h7⟩
   |none=>
    refine⟨v,w,?_,by simpa using hown,World.grownBy.refl w _,.inl rfl⟩
    rcases hown.2 with ⟨rfl,rfl⟩|⟨g,cap,cur,rfl,_,_,hnc,_⟩
    ·simp[Builtin.append_,run_underlying ht,sizeOf,typeInfo,hi0,Builtin.lenOf,Builtin.firstCells]
    ·simp[Builtin.append_,run_underlying ht,sizeOf,typeInfo,hi0,Builtin.lenOf,Builtin.firstCells,hnc,storeCells]
  ·obtain⟨ad,rfl,hc⟩:=hr (by omega)
   obtain⟨v',w',hrun,h4,h5,_,h7⟩:=run_append_own_at (P:=P) w B t ty e i z size bytes ht hi0 hz h2 h3 hzs hsz v n xs hown ad m c news hl hc h1 h63 hbytes hB;exact⟨v',w',hrun,h4,h5,h7⟩
 obtain⟨v',w',hrun,h4,h5,h7⟩:=key;unfold Oper.wp execOp;simp only[resolve,invoke,builtin,Sem.run_bind,Sem.run_pure,Result.andThen_ok,List.map_toArray,List.map_cons,List.map_nil,hs,hx,hrun];exact hK _ _ (k v' w' h4 h5 h7)
theorem nY{w W w0:World}{B:Nat}{e:TypeId}{size n:Nat}{v:Value}{xs:List Value}(h:Below B w0 w)(hown:w.ownsRow B e size v n xs)(hg:w.grownBy W v.ownBlock)(hB:B≤w.heap.size):Below B w0 W:=
 h.grown hg hB (fun k hk=>(hown.lt k hk).1)
theorem Blk.notown{w:World}{g:Nat}{t:TypeId}{cs:Array Value}{B:Nat}{e:TypeId}{size n:Nat}{v:Value}{xs:List Value}(h:Blk w g t cs)(hown:w.ownsRow B e size v n xs)(hne:e≠t∨g<B):some g≠v.ownBlock:=by
 intro he;rcases hown.2 with ⟨rfl,_⟩|⟨g',cap,cur,rfl,hb,hh,_⟩
 ·simp[Value.ownBlock] at he
 ·obtain rfl:g=g':=by simpa [Value.ownBlock] using he
  rcases hne with hne|hne
  ·unfold Blk at h;rw[h] at hh;injection hh with hh;injection hh with _ ht;exact hne ht.symm
  ·omega
theorem kJ{w W:World}{B:Nat}{e:TypeId}{size n:Nat}{v:Value}{xs:List Value}(hown:w.ownsRow B e size v n xs)(h:Ext w W):W.ownsRow B e size v n xs:=
 hown.kept (row:=none) ⟨h.os,h.tape,h.output,h.size,fun k hk _=>h.block k hk⟩ (by cases hv:v.ownBlock<;>simp)
end
end Go.Bp
end
section
namespace Go.Bp
open Go.RowKit
structure Fault where
 name:ByteArray
 points:Int
 limit:Int
structure Code where
 faults:List Fault
 man:List ByteArray
 all:Int
structure Line where
 no:Int
 what:Int
 sum:Int
structure Sheet where
 lines:Int
 kept:List Line
def gA(xs:List Int):List Value:=xs.map (Value.int .i64)
def rJ(xs:List ByteArray):List Value:=xs.map Value.string
def Rr:List Fault→List Value
 | []=>[]
 |f::fs=>.string f.name:: .int .i64 f.points:: .int .i64 f.limit::Rr fs
def Qd:List Line→List Value
 | []=>[]
 |x::xs=>.int .i64 x.no:: .int .i64 x.what:: .int .i64 x.sum::Qd xs
theorem Kw(xs:List Int)(k:Nat)(h:k<xs.length):(gA xs)[k]? =some (.int .i64 xs[k]):=by simp[gA,h]
theorem Av(xs:List ByteArray)(k:Nat)(h:k<xs.length):(rJ xs)[k]? =some (.string xs[k]):=by simp[rJ,h]
theorem Ku(xs:List ByteArray):(rJ xs).length=xs.length:=by simp[rJ]
def bG(w:World)(v:Value)(xs:List Int):Prop:=Sl w 1 v xs.length (gA xs)
def Strs(w:World)(v:Value)(xs:List ByteArray):Prop:=Sl w 1 v xs.length (rJ xs)
def nM(w:World)(v:Value)(xs:List Fault):Prop:=Sl w 3 v xs.length (Rr xs)
def qW(w:World)(v:Value)(xs:List Line):Prop:=Sl w 3 v xs.length (Qd xs)
theorem bG.ext{w w':World}{v:Value}{xs:List Int}(h:bG w v xs)(e:Ext w w'):bG w' v xs:=Sl.ext h e
theorem Strs.ext{w w':World}{v:Value}{xs:List ByteArray}(h:Strs w v xs)(e:Ext w w'):Strs w' v xs:=Sl.ext h e
theorem nM.ext{w w':World}{v:Value}{xs:List Fault}(h:nM w v xs)(e:Ext w w'):nM w' v xs:=Sl.ext h e
theorem qW.ext{w w':World}{v:Value}{xs:List Line}(h:qW w v xs)(e:Ext w w'):qW w' v xs:=Sl.ext h e
def Code.names(c:Code):List ByteArray:=c.faults.map Fault.name++c.man
def Code.wf(c:Code):Prop:=∀s∈c.names,s.size≤maxLen
def sV(w:World)(v:Value)(c:Code):Prop:=∃fv mv,v=.agg #[fv,mv,.int .i64 c.all]∧nM w fv c.faults∧Strs w mv c.man∧c.wf
def nK(w:World)(v:Value)(s:Sheet):Prop:=∃kv,v=.agg #[.int .i64 s.lines,kv]∧qW w kv s.kept
theorem sV.of{w:World}{fv mv:Value}{c:Code}(h1:nM w fv c.faults)(h2:Strs w mv c.man)(h3:c.wf):sV w (.agg #[fv,mv,.int .i64 c.all]) c:=⟨fv,mv,rfl,h1,h2,h3⟩
theorem nK.of{w:World}{kv:Value}{s:Sheet}(h:qW w kv s.kept):nK w (.agg #[.int .i64 s.lines,kv]) s:=⟨kv,rfl,h⟩
theorem sV.ext{w w':World}{v:Value}{c:Code}(h:sV w v c)(e:Ext w w'):sV w' v c:=by
 obtain⟨fv,mv,hv,h1,h2,h3⟩:=h;exact⟨fv,mv,hv,h1.ext e,h2.ext e,h3⟩
theorem nK.ext{w w':World}{v:Value}{c:Sheet}(h:nK w v c)(e:Ext w w'):nK w' v c:=by
 obtain⟨kv,hv,h1⟩:=h;exact⟨kv,hv,h1.ext e⟩
theorem bG.d{w:World}{v:Value}{c:List Int}(h:bG w v c):bG w.drew v c:=h
theorem Strs.d{w:World}{v:Value}{c:List ByteArray}(h:Strs w v c):Strs w.drew v c:=h
theorem nM.d{w:World}{v:Value}{c:List Fault}(h:nM w v c):nM w.drew v c:=h
theorem qW.d{w:World}{v:Value}{c:List Line}(h:qW w v c):qW w.drew v c:=h
theorem sV.d{w:World}{v:Value}{c:Code}(h:sV w v c):sV w.drew v c:=h
theorem nK.d{w:World}{v:Value}{c:Sheet}(h:nK w v c):nK w.drew v c:=h
namespace Code
def things(c:Code):Nat:=c.faults.length+c.man.length
def pts(c:Code)(w:Int):Int:=if w<c.faults.length then(c.faults[w.toNat]?.map Fault.points).getD 0 else 0
def total(c:Code)(l:List Int):Int:=(l.map c.pts).sum
end Code
def inB(n lo hi:Int):Bool:=decide (lo≤n)&&decide (n≤hi)
theorem aV{n lo hi:Int}:inB n lo hi=true↔lo≤n∧n≤hi:=by simp[inB]
theorem Ki{n lo hi:Int}:inB n lo hi=false↔n<lo∨hi<n:=by simp only[inB,Bool.and_eq_false_iff,decide_eq_false_iff_not];omega
def Sh(m:Nat):List Int:=(List.range m).map fun i=>((i+1:Nat):Int)
def iA(B:Nat)(w:World)(v:Value)(xs:List Int):Prop:=w.ownsRow B 3 1 v xs.length (gA xs)
theorem iA.ext{B:Nat}{w w':World}{v:Value}{xs:List Int}(h:iA B w v xs)(e:Ext w w'):iA B w' v xs:=kJ h e
theorem iA.ints{B:Nat}{w:World}{v:Value}{xs:List Int}(h:iA B w v xs):bG w v xs:=Sl.of_own h
theorem iA.nil(B:Nat)(w:World):iA B w (.slice none 0 0) []:=World.ownsRow_nil w B 3 1
def Lq(B:Nat)(w:World)(v:Value)(xs:List ByteArray):Prop:=w.ownsRow B 9 1 v xs.length (rJ xs)
theorem Lq.ext{B:Nat}{w w':World}{v:Value}{xs:List ByteArray}(h:Lq B w v xs)(e:Ext w w'):Lq B w' v xs:=kJ h e
theorem Lq.nil(B:Nat)(w:World):Lq B w (.slice none 0 0) []:=World.ownsRow_nil w B 9 1
def Dv(B:Nat)(w:World)(v:Value)(xs:List Line):Prop:=w.ownsRow B 99 3 v xs.length (Qd xs)
theorem Dv.ext{B:Nat}{w w':World}{v:Value}{xs:List Line}(h:Dv B w v xs)(e:Ext w w'):Dv B w' v xs:=kJ h e
theorem Dv.lines{B:Nat}{w:World}{v:Value}{xs:List Line}(h:Dv B w v xs):qW w v xs:=Sl.of_own h
theorem Dv.nil(B:Nat)(w:World):Dv B w (.slice none 0 0) []:=World.ownsRow_nil w B 99 3
def gG(b:UInt8):Bool:=inB b.toNat 97 122||inB b.toNat 48 57
def dM(s:ByteArray):Bool:=inB s.size 1 16&&(match s.data.toList with| []=>false|b::_=>inB b.toNat 97 122)&&s.data.toList.all gG
def dL(l:List ByteArray)(i:Nat):Int:=if dM (l.getD i ByteArray.empty)=false then 6 else if l.getD i ByteArray.empty∈l.take i then 5 else 0
namespace Code
def pointsAt(c:Code)(i:Nat):Int:=(c.faults[i]?.map Fault.points).getD 0
def limitAt(c:Code)(i:Nat):Int:=(c.faults[i]?.map Fault.limit).getD 0
def errAt(c:Code)(i:Nat):Int:=
 if dL c.names i≠0 then dL c.names i
 else if i<c.faults.length∧¬(inB (c.pointsAt i) 0 20=true∧inB (c.limitAt i) 0 12=true) then 7 else 0
def check(c:Code):Int×Int×Int:=
 if¬(inB c.faults.length 1 6=true∧c.man.length≤3) then(1,0,3) else
 match(List.range c.things).find? (fun i=>c.errAt i !=0) with
 |some i=>if i<c.faults.length then(2,i,c.errAt i) else(3,i-c.faults.length,c.errAt i)
 |none=>if inB c.all 0 240=true then(0,0,0) else(4,0,7)
end Code
theorem pM{p:Nat→Bool}{n i:Nat}(hi:i<n)(hp:p i=true)(hb:∀j,j<i→p j=false):(List.range n).find? p=some i:=by
 rw[List.find?_eq_some_iff_append];refine⟨hp,List.range i,(List.range' (i+1) (n-i-1)),?_,?_⟩
 ·apply List.ext_getElem
  ·simp;omega
  ·intro j h1 h2;simp only[List.getElem_range,List.getElem_append,List.length_range,List.getElem_cons,List.getElem_range'];split
   ·rfl
   ·split<;>omega
 ·intro a ha;simp at ha;simp[hb a ha]
theorem find_none{p:Nat→Bool}{n:Nat}(hb:∀j,j<n→p j=false):(List.range n).find? p=none:=by
 rw[List.find?_eq_none];intro x hx;simp at hx;simp[hb x hx]
namespace Code
variable{c:Code}
theorem check_1(h:¬(inB c.faults.length 1 6=true∧c.man.length≤3)):c.check=(1,0,3):=by simp only[check];rw[if_pos h]
end Code
theorem qM{l:List ByteArray}{i:Nat}(h:dM (l.getD i ByteArray.empty)=false):dL l i=6:=by unfold dL;rw[if_pos h]
theorem oL{l:List ByteArray}{i:Nat}(h:dM (l.getD i ByteArray.empty)=true)(h2:l.getD i ByteArray.empty∈l.take i):dL l i=5:=by unfold dL;rw[if_neg (by rw[h];simp),if_pos h2]
theorem uG{l:List ByteArray}{i:Nat}(h:dM (l.getD i ByteArray.empty)=true)(h2:l.getD i ByteArray.empty∉l.take i):dL l i=0:=by unfold dL;rw[if_neg (by rw[h];simp),if_neg h2]
theorem gF{l:List ByteArray}{i:Nat}(h:i<l.length):l.getD i ByteArray.empty=l[i]:=by simp[List.getD,h]
def mQ{α:Type}(p:α→Bool)(l:List α):Int:=match l.findIdx? p with|some i=>i|none=> -1
theorem nX{α:Type}{p:α→Bool}{l:List α}{k:Nat}(hk:k<l.length)(hp:p l[k]=true)(hb:∀x∈l.take k,p x=false):mQ p l=k:=by
 unfold mQ;rw[show l.findIdx? p=some k from ?_]
 rw[List.findIdx?_eq_some_iff_getElem];refine⟨hk,hp,fun j hj=> ?_⟩
 have:=hb l[j] (by rw[List.mem_take_iff_getElem];exact⟨j,by omega,rfl⟩)
 simp[this]
theorem lM{α:Type}{p:α→Bool}{l:List α}(hb:∀x∈l,p x=false):mQ p l= -1:=by
 unfold mQ;rw[List.findIdx?_eq_none_iff.2 (by intro x hx;simp[hb x hx])]
theorem nW{α:Type}(p:α→Bool)(l:List α):decide (0≤mQ p l)=l.any p:=by
 unfold mQ
 cases h:l.findIdx? p with
 |none=>
  rw[List.findIdx?_eq_none_iff] at h;have:l.any p=false:=by rw[List.any_eq_false];intro x hx;simp[h x hx]
  simp[this]
 |some i=>
  rw[List.findIdx?_eq_some_iff_getElem] at h;obtain⟨hi,hp,_⟩:=h;have:l.any p=true:=by rw[List.any_eq_true];exact⟨l[i],List.getElem_mem hi,hp⟩
  simp[this]
theorem eG{α:Type}{p:α→Bool}{l:List α}{k:Nat}(hk:k<l.length)(hb:∀x∈l.take k,p x=false)(hp:p l[k]=false):∀x∈l.take (k+1),p x=false:=by
 intro x hx;rw[cI _ hk] at hx;rcases List.mem_append.1 hx with h|h
 ·exact hb x h
 ·simp at h;rw[h];exact hp
end Go.Bp
end
section
namespace Go.Bp
open Go.RowKit Go.Proofs
section
variable{w:World}{ad:Addr}{k:Nat}
theorem cS.i{xs:List Int}(h:cS w ad (gA xs))(hk:k<xs.length):w.cell? (ad.add k)=some (.int .i64 xs[k]):=h k _ (Kw _ _ hk)
theorem cS.s{xs:List ByteArray}(h:cS w ad (rJ xs))(hk:k<xs.length):w.cell? (ad.add k)=some (.string xs[k]):=h k _ (Av _ _ hk)
theorem iJ{P:Program}{t n:Nat}(h:(P.info? t).map TypeInfo.size=some n):∃i,P.info? t=some i∧i.size=n:=by
 cases hi:P.info? t with
 |none=>rw[hi] at h;cases h
 |some i=>rw[hi] at h;exact⟨i,rfl,by simpa using h⟩
end
theorem ti3:(Tryz.prog.info? 3).map (fun i=>(i.zero,i.size,i.bytes))=some (some (.int .i64 0),1,8):=by kernel_rfl
theorem Rc:(Tryz.prog.info? 41).map (fun i=>(i.zero,i.size,i.bytes))=some (some (.slice none 0 0),1,24):=by kernel_rfl
theorem ti2{P:Program}{e:TypeId}{z:Value}{s b:Nat}(h:(P.info? e).map (fun i=>(i.zero,i.size,i.bytes))=some (some z,s,b)):(P.info? e).map (fun i=>(i.zero,i.size))=some (some z,s):=by
 cases hi:P.info? e with
 |none=>rw[hi] at h;cases h
 |some i=>rw[hi] at h;simp at h⊢;exact⟨h.1,h.2.1⟩
section
variable{ops:Array Oper}{Q:Exit→Act→World→Prop}{a:Act}{w:World}{rest:List Oper}
variable{d:Option Tmp}{ty:TypeId}{pos:String}{after:Array Edge}
theorem Oq{P:Program}{t e:TypeId}{x:Operand}{z:Value}{b:Nat}(ht:P.underlying t=some (.slice e))(hi:(P.info? e).map (fun i=>(i.zero,i.size,i.bytes))=some (some z,1,b))(hz:z.cells.size=1)(hv:(a.eval x).cells=#[a.eval x])
 (k:∀W g,Ext w W→Blk W g e #[a.eval x]→w.heap.size≤g→wpList P ops Q rest (a.put d (.slice (some ⟨g,0,none⟩) 1 1)) W):
 wpList P ops Q (⟨d,.buildSlice t 1 #[(0,x)],ty,pos,after,none⟩::rest) a w:=
 eV (by have:=zM P w (v:=a.eval x) ht (ti2 hi) hz hv;simpa using this) k
theorem Jm{x:Operand}{n:Int}(hx:a.eval x=.int .i64 n)
 (k:∀W g,Ext w W→Blk W g 3 #[.int .i64 n]→w.heap.size≤g→wpList Tryz.prog ops Q rest (a.put d (.slice (some ⟨g,0,none⟩) 1 1)) W):
 wpList Tryz.prog ops Q (⟨d,.buildSlice 41 1 #[(0,x)],ty,pos,after,none⟩::rest) a w:=
 Oq Tryz.underlying41 ti3 rfl (by rw[hx];rfl) (by rw[hx];exact k)
end
end Go.Bp
end
section
namespace Go.St
structure Arc where
 st:Int
 bk:Bool
 p:Int
 q:Int
 m:Int
 sh:Int
section
variable(less:Int→Int→Int)(arcs:List Arc)(to:Int)
inductive Way:Int→Int→Int→Int→Prop
 |nil:Way to 0 0 0
 |cons {a:Arc} {s m k:Int} (h:a∈arcs) (w:Way a.q (less s a.sh) m k):Way a.p s (m+a.m) (k+1)
def le2(a b:Int×Int):Prop:=a.1<b.1∨a.1=b.1∧a.2≤b.2
theorem le2.refl(a:Int×Int):le2 a a:=.inr ⟨rfl,Int.le_refl _⟩
theorem le2.trans{a b c:Int×Int}(h:le2 a b)(k:le2 b c):le2 a c:=by unfold le2 at *;omega
theorem le2.anti{a b:Int×Int}(h:le2 a b)(k:le2 b a):a=b:=by
 unfold le2 at*;exact Prod.ext (by omega) (by omega)
theorem le2.total(a b:Int×Int):le2 a b∨le2 b a:=by unfold le2;omega
def Br(p s:Int)(c:Int×Int):Prop:=Way less arcs to p s c.1 c.2∧∀m k,Way less arcs to p s m k→le2 c (m,k)
theorem Br.uniq{p s:Int}{c d:Int×Int}(h:Br less arcs to p s c)(k:Br less arcs to p s d):c=d:=(h.2 _ _ k.1).anti (k.2 _ _ h.1)
abbrev Tab:=Int→Int→Option (Int×Int)
def fJ(T:Tab):Prop:=∀p s c,T p s=some c→Way less arcs to p s c.1 c.2
def eY(D:Int→Prop)(T:Tab):Prop:=T to 0=some (0,0)∧∀a∈arcs,∀s,D s→∀c,T a.q (less s a.sh)=some c→∃d,T a.p s=some d∧le2 d (c.1+a.m,c.2+1)
theorem Way.nonneg(hm:∀a∈arcs,1≤a.m){p s m k:Int}(h:Way less arcs to p s m k):0≤k∧k≤m:=by
 induction h with
 |nil=>omega
 |cons h _ ih=>have:=hm _ h;omega
theorem jI{D:Int→Prop}(hD:∀s b,D s→D (less s b)){T:Tab}(hT:eY less arcs to D T){p s m k:Int}(h:Way less arcs to p s m k):D s→∃d,T p s=some d∧le2 d (m,k):=by
 induction h with
 |nil=>exact fun _=>⟨_,hT.1,le2.refl _⟩
 | @cons a s m k ha _ ih=>
  intro hs;obtain⟨d,h1,h2⟩:=ih (hD s a.sh hs);obtain⟨e,h3,h4⟩:=hT.2 a ha s hs d h1;refine⟨e,h3,h4.trans ?_⟩;unfold le2 at *;omega
theorem pU{D:Int→Prop}(hD:∀s b,D s→D (less s b)){T:Tab}(hS:fJ less arcs to T)(hT:eY less arcs to D T){p s:Int}(hs:D s)(c:Int×Int):T p s=some c↔Br less arcs to p s c:=by
 constructor
 ·intro h;refine⟨hS _ _ _ h,fun m k hw=> ?_⟩
  obtain⟨d,h1,h2⟩:=jI less arcs to hD hT hw hs;rw[h] at h1;rw[Option.some.inj h1];exact h2
 ·intro h;obtain⟨d,h1,h2⟩:=jI less arcs to hD hT h.1 hs;have h3:=h.2 _ _ (hS _ _ _ h1);rw[h1,h2.anti h3]
theorem yY{D:Int→Prop}(hD:∀s b,D s→D (less s b)){T:Tab}(hS:fJ less arcs to T)(hT:eY less arcs to D T){p s:Int}(hs:D s):T p s=none↔∀m k,¬Way less arcs to p s m k:=by
 constructor
 ·intro h m k hw;obtain⟨d,h1,_⟩:=jI less arcs to hD hT hw hs;rw[h] at h1;cases h1
 ·intro h
  cases e:T p s with
  |none=>rfl
  |some c=>exact absurd (hS _ _ _ e) (h _ _)
theorem Is{D:Int→Prop}(hD:∀s b,D s→D (less s b)){T U:Tab}(hS:fJ less arcs to T)(hT:eY less arcs to D T)(hS':fJ less arcs to U)(hU:eY less arcs to D U){p s:Int}(hs:D s):T p s=U p s:=by
 cases e:T p s with
 |none=>
  have:=(yY less arcs to hD hS hT hs).1 e;exact((yY less arcs to hD hS' hU hs).2 this).symm
 |some c=>
  have:=(pU less arcs to hD hS hT hs c).1 e;exact((pU less arcs to hD hS' hU hs c).2 this).symm
noncomputable def vC(p s:Int):Option (Int×Int):=open Classical in if h:∃c,Br less arcs to p s c then some h.choose else none
def put(T:Tab)(p s:Int)(c:Int×Int):Tab:=fun x y=>if x=p∧y=s then some c else T x y
theorem fZ(T:Tab)(p s:Int)(c:Int×Int):put T p s c p s=some c:=by simp[put]
theorem dY(T:Tab){p s x y:Int}(c:Int×Int)(h:¬(x=p∧y=s)):put T p s c x y=T x y:=by simp[put,h]
theorem fJ.put{T:Tab}(h:fJ less arcs to T){p s:Int}{c:Int×Int}(hw:Way less arcs to p s c.1 c.2):fJ less arcs to (put T p s c):=by
 intro x y d hd;by_cases e:x=p∧y=s
 ·obtain⟨rfl,rfl⟩:=e;rw[fZ] at hd;obtain rfl:=Option.some.inj hd;exact hw
 ·rw[dY T c e] at hd;exact h _ _ _ hd
end
/-! ### The program's search, from the end on: a table, and the stands that are still to be looked at -/
section
variable(less:Int→Int→Int)(arcs:List Arc)(to:Int)(D:Int→Prop)
def Dw(T:Tab)(todo:List (Int×Int)):Prop:=
 fJ less arcs to T∧T to 0=some (0,0)∧(∀x∈todo,(T x.1 x.2).isSome=true)∧
 ∀a∈arcs,∀s,D s→∀c,T a.q (less s a.sh)=some c→(a.q,less s a.sh)∉todo→∃d,T a.p s=some d∧le2 d (c.1+a.m,c.2+1)
theorem Dw.closed{T:Tab}(h:Dw less arcs to D T []):eY less arcs to D T:=⟨h.2.1,fun a ha s hs c hc=>h.2.2.2 a ha s hs c hc (by simp)⟩
def kQ(q t:Int)(c:Int×Int)(P:Arc→Int→Prop)(T:Tab)(todo:List (Int×Int)):Prop:=
 fJ less arcs to T∧T to 0=some (0,0)∧T q t=some c∧(∀x∈todo,(T x.1 x.2).isSome=true)∧
 (∀a∈arcs,∀s,D s→∀d,T a.q (less s a.sh)=some d→(a.q,less s a.sh)∉todo→¬(a.q=q∧less s a.sh=t)→∃e,T a.p s=some e∧le2 e (d.1+a.m,d.2+1))∧
 ∀a∈arcs,a.q=q→∀s,D s→less s a.sh=t→P a s→∃e,T a.p s=some e∧le2 e (c.1+a.m,c.2+1)
variable{less arcs to D}
theorem Dw.start{T:Tab}{todo rest:List (Int×Int)}{q t:Int}{c:Int×Int}(h:Dw less arcs to D T todo)(hc:T q t=some c)(hr:∀x,x∈todo↔x=(q,t)∨x∈rest):kQ less arcs to D q t c (fun _ _=>False) T rest:=by
 refine⟨h.1,h.2.1,hc,fun x hx=>h.2.2.1 x ((hr x).2 (.inr hx)),fun a ha s hs d hd hn hne=>h.2.2.2 a ha s hs d hd fun hm=> ?_,fun _ _ _ _ _ _ hf=>hf.elim⟩
 rcases(hr _).1 hm with e|e
 ·exact hne ⟨congrArg Prod.fst e,congrArg Prod.snd e⟩
 ·exact hn e
theorem kQ.stop{T:Tab}{todo:List (Int×Int)}{q t:Int}{c:Int×Int}{P:Arc→Int→Prop}(h:kQ less arcs to D q t c P T todo)(hP:∀a∈arcs,a.q=q→∀s,D s→less s a.sh=t→P a s):Dw less arcs to D T todo:=by
 obtain⟨h1,h2,h3,h4,h5,h6⟩:=h;refine⟨h1,h2,h4,fun a ha s hs d hd hn=> ?_⟩
 by_cases e:a.q=q∧less s a.sh=t
 ·have hd2:=hd;rw[e.1,e.2,h3] at hd2;rw[←Option.some.inj hd2];exact h6 a ha e.1 s hs e.2 (hP a ha e.1 s hs e.2)
 ·exact h5 a ha s hs d hd hn e
theorem kQ.skip{T:Tab}{todo:List (Int×Int)}{q t:Int}{c:Int×Int}{P:Arc→Int→Prop}(h:kQ less arcs to D q t c P T todo){b:Arc}{u:Int}{d:Int×Int}(hd:T b.p u=some d)(hle:le2 d (c.1+b.m,c.2+1)):
 kQ less arcs to D q t c (fun a s=>P a s∨(a=b∧s=u)) T todo:=by
 obtain⟨h1,h2,h3,h4,h5,h6⟩:=h;refine⟨h1,h2,h3,h4,h5,fun a ha hq s hs ht hP=> ?_⟩
 rcases hP with hP|⟨rfl,rfl⟩
 ·exact h6 a ha hq s hs ht hP
 ·exact⟨d,hd,hle⟩
theorem kQ.mono{T:Tab}{todo:List (Int×Int)}{q t:Int}{c:Int×Int}{P Q:Arc→Int→Prop}(h:kQ less arcs to D q t c P T todo)(hQ:∀a∈arcs,a.q=q→∀s,D s→less s a.sh=t→Q a s→P a s):kQ less arcs to D q t c Q T todo:=by
 obtain⟨h1,h2,h3,h4,h5,h6⟩:=h;exact⟨h1,h2,h3,h4,h5,fun a ha hq s hs ht hP=>h6 a ha hq s hs ht (hQ a ha hq s hs ht hP)⟩
theorem kQ.better{T:Tab}{todo todo':List (Int×Int)}{q t:Int}{c:Int×Int}{P:Arc→Int→Prop}(h:kQ less arcs to D q t c P T todo)(hm:∀a∈arcs,1≤a.m)(hne:∀a∈arcs,a.p≠a.q)
 {b:Arc}(hb:b∈arcs)(hbq:b.q=q){u:Int}(hu:less u b.sh=t)(hn:∀d,T b.p u=some d→¬le2 d (c.1+b.m,c.2+1))(ht:∀x,x∈todo'↔x=(b.p,u)∨x∈todo):
 kQ less arcs to D q t c (fun a s=>P a s∨(a=b∧s=u)) (put T b.p u (c.1+b.m,c.2+1)) todo':=by
 obtain⟨h1,h2,h3,h4,h5,h6⟩:=h;have hw:=h1 _ _ _ h3;have hn0:=Way.nonneg less arcs to hm hw;have hbm:=hm b hb;have hpq:¬(q=b.p∧t=u):=fun e=>hne b hb (by rw[hbq];exact e.1.symm)
 have hto:¬(to=b.p∧(0:Int)=u):=by
  rintro⟨e1,e2⟩;refine hn (0,0) (by rw[←e1,←e2];exact h2) ?_
  unfold le2;simp only;omega
 have low:∀x y e,T x y=some e→∃f,put T b.p u (c.1+b.m,c.2+1) x y=some f∧le2 f e:=by
  intro x y e he;by_cases exy:x=b.p∧y=u
  ·obtain⟨rfl,rfl⟩:=exy;refine⟨_,fZ T _ _ _,?_⟩;rcases le2.total e (c.1+b.m,c.2+1) with k|k
   ·exact absurd k (hn e he)
   ·exact k
  ·exact⟨e,by rw[dY T _ exy];exact he,le2.refl e⟩
 refine⟨fJ.put less arcs to h1 ?_,?_,?_,?_,?_,?_⟩
 ·have:Way less arcs to b.q (less u b.sh) c.1 c.2:=by rw[hbq,hu];exact hw
  exact Way.cons hb this
 ·rw[dY T _ hto];exact h2
 ·rw[dY T _ hpq];exact h3
 ·intro x hx;rcases(ht x).1 hx with rfl|hx
  ·rw[fZ];rfl
  ·obtain⟨e,he⟩:=Option.isSome_iff_exists.1 (h4 x hx);obtain⟨f,hf,_⟩:=low _ _ _ he;rw[hf];rfl
 ·intro a ha s hs d hd hnm hne2;have hk:¬(a.q=b.p∧less s a.sh=u):=fun e=>hnm ((ht _).2 (.inl (Prod.ext e.1 e.2)))
  rw[dY T _ hk] at hd;obtain⟨e,he,hle⟩:=h5 a ha s hs d hd (fun hm'=>hnm ((ht _).2 (.inr hm'))) hne2
  obtain⟨f,hf,hfe⟩:=low _ _ _ he;exact⟨f,hf,hfe.trans hle⟩
 ·intro a ha hq s hs hts hP;rcases hP with hP|⟨rfl,rfl⟩
  ·obtain⟨e,he,hle⟩:=h6 a ha hq s hs hts hP;obtain⟨f,hf,hfe⟩:=low _ _ _ he;exact⟨f,hf,hfe.trans hle⟩
  ·exact⟨_,fZ T _ _ _,le2.refl _⟩
end
/-! ### Why the search ends: the costs only fall -/
def wt(B:Nat):Option (Int×Int)→Nat
 |none=>(B+1)*(B+1)
 |some c=>c.1.toNat*(B+1)+c.2.toNat
def pot(B:Nat)(L:List (Int×Int))(T:Tab):Nat:=(L.map fun x=>wt B (T x.1 x.2)).sum
theorem Ls{B:Nat}{o:Option (Int×Int)}{n:Int×Int}(h0:0≤n.2)(h1:n.2≤n.1)(h2:n.1≤B)(ho:∀d,o=some d→0≤d.1∧0≤d.2∧¬le2 d n):wt B (some n)+1≤wt B o:=by
 obtain⟨a,ha⟩:∃a:Nat,n.1=a:=⟨n.1.toNat,by omega⟩
 obtain⟨b,hb⟩:∃b:Nat,n.2=b:=⟨n.2.toNat,by omega⟩
 have hab:b≤a:=by omega
 have haB:a≤B:=by omega
 have e1:wt B (some n)=a*(B+1)+b:=by show n.1.toNat*(B+1)+n.2.toNat=_;rw[ha,hb];simp
 rw[e1]
 cases o with
 |none=>
  show a*(B+1)+b+1≤(B+1)*(B+1)
  have:a*(B+1)≤B*(B+1):=Nat.mul_le_mul_right _ haB;have e:(B+1)*(B+1)=B*(B+1)+(B+1):=by rw[Nat.add_mul];omega
  omega
 |some d=>
  obtain⟨k1,k2,k3⟩:=ho d rfl;obtain⟨x,hx⟩:∃a:Nat,d.1=a:=⟨d.1.toNat,by omega⟩
  obtain⟨y,hy⟩:∃a:Nat,d.2=a:=⟨d.2.toNat,by omega⟩
  have e2:wt B (some d)=x*(B+1)+y:=by show d.1.toNat*(B+1)+d.2.toNat=_;rw[hx,hy];simp
  rw[e2];unfold le2 at k3;have hc:a<x∨(a=x∧b<y):=by omega
  rcases hc with hc|⟨rfl,hc⟩
  ·have:(a+1)*(B+1)≤x*(B+1):=Nat.mul_le_mul_right _ hc;rw[Nat.add_mul] at this;omega
  ·omega
theorem wH{B:Nat}{T:Tab}{p s:Int}{c:Int×Int}:∀{L:List (Int×Int)},(p,s)∉L→pot B L (put T p s c)=pot B L T
 | [],_=>rfl
 |x::L,h=>by
  have hx:¬(x.1=p∧x.2=s):=fun e=>h (by rw[show(p,s)=x from Prod.ext e.1.symm e.2.symm];simp)
  have ih:=wH (B:=B) (T:=T) (c:=c) (L:=L) (fun hm=>h (List.mem_cons_of_mem _ hm))
  unfold pot at ih⊢;simp only[List.map_cons,List.sum_cons,dY T c hx,ih]
theorem Ej{B:Nat}{T:Tab}{p s:Int}{c:Int×Int}(hw:wt B (some c)+1≤wt B (T p s)):∀{L:List (Int×Int)},L.Nodup→(p,s)∈L→pot B L (put T p s c)+1≤pot B L T
 | [],_,h=>by simp at h
 |x::L,hn,h=>by
  rw[List.nodup_cons] at hn;by_cases e:x=(p,s)
  ·subst e;have:=wH (B:=B) (T:=T) (c:=c) hn.1;unfold pot at this⊢;simp only[List.map_cons,List.sum_cons,fZ,this];omega
  ·have hm:(p,s)∈L:=by simpa [Ne.symm e] using h
   have hx:¬(x.1=p∧x.2=s):=fun k=>e (Prod.ext k.1 k.2)
   have ih:=Ej hw hn.2 hm;unfold pot at ih⊢;simp only[List.map_cons,List.sum_cons,dY T c hx];omega
def cnt(L:List (Int×Int))(T:Tab):Nat:=(L.filter fun x=>(T x.1 x.2).isSome).length
theorem Ky(L:List (Int×Int))(T:Tab):cnt L T≤L.length:=List.length_filter_le _ _
theorem uX{T:Tab}{p s:Int}{c:Int×Int}:∀{L:List (Int×Int)},cnt L T≤cnt L (put T p s c)
 | []=>Nat.le_refl _
 |x::L=>by
  have ih:=uX (T:=T) (p:=p) (s:=s) (c:=c) (L:=L);unfold cnt at ih⊢;simp only[List.filter_cons];by_cases e:x.1=p∧x.2=s
  ·have h2:put T p s c x.1 x.2=some c:=by rw[e.1,e.2];exact fZ T p s c
   rw[h2];simp only[Option.isSome_some,if_true,List.length_cons];split<;>simp<;>omega
  ·rw[dY T c e];split<;>simp<;>omega
theorem Eu{T:Tab}{p s:Int}{c:Int×Int}(h0:T p s=none):∀{L:List (Int×Int)},(p,s)∈L→cnt L T+1≤cnt L (put T p s c)
 | [],h=>by simp at h
 |x::L,h=>by
  by_cases e:x=(p,s)
  ·subst e;have ih:=uX (T:=T) (p:=p) (s:=s) (c:=c) (L:=L);unfold cnt at ih⊢;simp only[List.filter_cons,h0,fZ];simp;omega
  ·have hm:(p,s)∈L:=by simpa [Ne.symm e] using h
   have hx:¬(x.1=p∧x.2=s):=fun k=>e (Prod.ext k.1 k.2)
   have ih:=Eu (c:=c) h0 hm;unfold cnt at ih⊢;simp only[List.filter_cons,dY T c hx];split<;>simp<;>omega
def kR(L:List (Int×Int))(T:Tab):Prop:=∀p s c,T p s=some c→(p,s)∈L∧0≤c.1∧0≤c.2∧c.2≤c.1∧c.1≤10000*(cnt L T:Int)
theorem kR.put{L:List (Int×Int)}{T:Tab}(h:kR L T){q t p s m:Int}{c:Int×Int}(hc:T q t=some c)(hm:1≤m)(hm2:m≤10000)(hL:(p,s)∈L)(hn:∀d,T p s=some d→¬le2 d (c.1+m,c.2+1)):
 kR L (put T p s (c.1+m,c.2+1)):=by
 intro x y e he;obtain⟨_,c1,c2,c3,c4⟩:=h _ _ _ hc;have hcm:cnt L T≤cnt L (Go.St.put T p s (c.1+m,c.2+1)):=uX;by_cases exy:x=p∧y=s
 ·obtain⟨rfl,rfl⟩:=exy;rw[fZ] at he;obtain rfl:=Option.some.inj he;refine⟨hL,by simp only;omega,by simp only;omega,by simp only;omega,?_⟩
  simp only
  cases h0:T x y with
  |none=>
   have:=Eu (c:=(c.1+m,c.2+1)) h0 hL;omega
  |some d=>
   have h1:=hn d h0;obtain⟨_,_,_,_,d4⟩:=h _ _ _ h0;unfold le2 at h1;simp only at h1;omega
 ·rw[dY T _ exy] at he;obtain⟨e0,e1,e2,e3,e4⟩:=h _ _ _ he;exact⟨e0,e1,e2,e3,by omega⟩
theorem wI{L:List (Int×Int)}(hL:L.Nodup){T:Tab}(h:kR L T){q t p s m:Int}{c:Int×Int}(hc:T q t=some c)(hm:1≤m)(hm2:m≤10000)(hp:(p,s)∈L)(hn:∀d,T p s=some d→¬le2 d (c.1+m,c.2+1)):
 pot (10000*L.length) L (put T p s (c.1+m,c.2+1))+1≤pot (10000*L.length) L T:=by
 have hb:=h.put hc hm hm2 hp hn;obtain⟨_,b1,b2,b3,b4⟩:=hb p s _ (fZ T p s _);have hcl:=Ky L (put T p s (c.1+m,c.2+1));simp only at b1 b2 b3 b4;refine Ej (Ls b2 b3 (by rw[Int.natCast_mul];simp only;omega) fun d hd=> ?_) hL hp
 obtain⟨_,d1,d2,_,_⟩:=h _ _ _ hd;exact⟨d1,d2,hn d hd⟩
end Go.St
end
section
namespace Go.St
section
variable{less:Int→Int→Int}{arcs:List Arc}{to:Int}{D:Int→Prop}
theorem Way.zero{p s m:Int}(hm:∀a∈arcs,1≤a.m)(h:Way less arcs to p s m 0):p=to∧s=0∧m=0:=by
 generalize hk:(0:Int)=k at h
 cases h with
 |nil=>exact⟨rfl,rfl,rfl⟩
 |cons ha w=>have:=Way.nonneg less arcs to hm w;omega
theorem Way.step{p s m k:Int}(h:Way less arcs to p s m k)(hk:k≠0):∃a∈arcs,a.p=p∧Way less arcs to a.q (less s a.sh) (m-a.m) (k-1):=by
 cases h with
 |nil=>exact absurd rfl hk
 | @cons a _ m k ha w=>
  refine⟨a,ha,rfl,?_⟩;rw[show m+a.m-a.m=m by omega,show k+1-1=k by omega];exact w
def jA(less:Int→Int→Int)(T:Tab)(p s:Int)(c:Int×Int)(a:Arc):Bool:=decide (a.p=p)&&decide (T a.q (less s a.sh)=some (c.1-a.m,c.2-1))
theorem mD(hD:∀s b,D s→D (less s b)){T:Tab}(hS:fJ less arcs to T)(hT:eY less arcs to D T){p s:Int}(hs:D s){c:Int×Int}(hc:T p s=some c)(h0:c.2≠0):
 ∃a,arcs.find? (jA less T p s c)=some a∧a∈arcs∧a.p=p∧T a.q (less s a.sh)=some (c.1-a.m,c.2-1):=by
 obtain⟨a,ha,hp,hw⟩:=(hS _ _ _ hc).step h0;have hb:=(pU less arcs to hD hS hT hs c).1 hc;have key:T a.q (less s a.sh)=some (c.1-a.m,c.2-1):=by
  obtain⟨d,h1,h2⟩:=jI less arcs to hD hT hw (hD s a.sh hs);have h3:Way less arcs to a.p s (d.1+a.m) (d.2+1):=Way.cons ha (hS _ _ _ h1);rw[hp] at h3;have h4:=hb.2 _ _ h3;rw[h1];congr 1
  unfold le2 at h2 h4;simp only at h2 h4;exact Prod.ext (by simp only;omega) (by simp only;omega)
 have hl:jA less T p s c a=true:=by unfold jA;simp[hp,key]
 cases e:arcs.find? (jA less T p s c) with
 |none=>exact absurd hl (by simpa using List.find?_eq_none.1 e a ha)
 |some b=>
  have hb:=List.find?_some e;unfold jA at hb;simp only[Bool.and_eq_true,decide_eq_true_eq] at hb;exact⟨b,rfl,List.mem_of_find?_eq_some e,hb.1,hb.2⟩
def cF(less:Int→Int→Int)(arcs:List Arc)(T:Tab):Nat→Int→Int→Int→List Arc
 |0,_,_,_=>[]
 |n+1,p,s,m=>match arcs.find? (jA less T p s (m,(n:Int)+1)) with
  |some a=>a::cF less arcs T n a.q (less s a.sh) (m-a.m)
  |none=>[]
inductive Goes (less:Int→Int→Int) (arcs:List Arc) (to:Int):Int→Int→Int→List Arc→Prop
 |nil:Goes less arcs to to 0 0 []
 |cons {a:Arc} {s m:Int} {l:List Arc} (h:a∈arcs) (g:Goes less arcs to a.q (less s a.sh) m l):Goes less arcs to a.p s (m+a.m) (a::l)
theorem Goes.way{p s m:Int}{l:List Arc}(h:Goes less arcs to p s m l):Way less arcs to p s m l.length:=by
 induction h with
 |nil=>exact Way.nil
 |cons ha _ ih=>rw[List.length_cons,Int.natCast_add];exact Way.cons ha ih
theorem Way.goes{p s m k:Int}(h:Way less arcs to p s m k):∃l,Goes less arcs to p s m l∧(l.length:Int)=k:=by
 induction h with
 |nil=>exact⟨[],Goes.nil,rfl⟩
 | @cons a _ _ _ ha _ ih=>obtain⟨l,h1,h2⟩:=ih;exact⟨a::l,Goes.cons ha h1,by rw[List.length_cons,Int.natCast_add];omega⟩
theorem rF(hm:∀a∈arcs,1≤a.m)(hD:∀s b,D s→D (less s b)){T:Tab}(hS:fJ less arcs to T)(hT:eY less arcs to D T):∀(n:Nat)(p s m:Int),D s→T p s=some (m,(n:Int))→Goes less arcs to p s m (cF less arcs T n p s m)∧(cF less arcs T n p s m).length=n
 |0,p,s,m,_,hc=>by
  obtain⟨rfl,rfl,rfl⟩:=Way.zero hm (hS _ _ _ hc);exact⟨Goes.nil,rfl⟩
 |n+1,p,s,m,hs,hc=>by
  have e1:((n+1:Nat):Int)=(n:Int)+1:=by omega
  rw[e1] at hc;obtain⟨a,h1,h2,h3,h4⟩:=mD hD hS hT hs hc (by simp only;omega)
  simp only at h4;rw[show(n:Int)+1-1=n by omega] at h4
  obtain⟨h5,h6⟩:=rF hm hD hS hT n a.q (less s a.sh) (m-a.m) (hD _ _ hs) h4;have e2:cF less arcs T (n+1) p s m=a::cF less arcs T n a.q (less s a.sh) (m-a.m):=by
   conv=>lhs;unfold cF
   rw[h1]
  rw[e2];refine⟨?_,by rw[List.length_cons,h6]⟩
  have:=Goes.cons (s:=s) h2 h5;rw[h3,show m-a.m+a.m=m by omega] at this
  exact this
structure Pass(less:Int→Int→Int)(arcs:List Arc)(to:Int)(L:List (Int×Int))(T0 T:Tab)(ch:Bool)(P:Arc→Int→Prop):Prop where
 sound:fJ less arcs to T
 base:T to 0=some (0,0)
 bound:kR L T
 same:ch=false→T=T0∧∀a∈arcs,∀s,P a s→∀c,T a.q (less s a.sh)=some c→∃d,T a.p s=some d∧le2 d (c.1+a.m,c.2+1)
 fell:ch=true→pot (10000*L.length) L T+1≤pot (10000*L.length) L T0
 most:pot (10000*L.length) L T≤pot (10000*L.length) L T0
variable{L:List (Int×Int)}
theorem Pass.start{T:Tab}(h1:fJ less arcs to T)(h2:T to 0=some (0,0))(h3:kR L T):Pass less arcs to L T T false (fun _ _=>False):=
 ⟨h1,h2,h3,fun _=>⟨rfl,fun _ _ _ hf=>hf.elim⟩,fun e=>(by cases e),Nat.le_refl _⟩
theorem Pass.skip{T0 T:Tab}{ch:Bool}{P:Arc→Int→Prop}(h:Pass less arcs to L T0 T ch P){b:Arc}{u:Int}(hb:∀c,T b.q (less u b.sh)=some c→∃d,T b.p u=some d∧le2 d (c.1+b.m,c.2+1)):
 Pass less arcs to L T0 T ch (fun a s=>P a s∨(a=b∧s=u)):=by
 refine⟨h.sound,h.base,h.bound,fun e=>⟨(h.same e).1,fun a ha s hP c hc=> ?_⟩,h.fell,h.most⟩
 rcases hP with hP|⟨rfl,rfl⟩
 ·exact(h.same e).2 a ha s hP c hc
 ·exact hb c hc
theorem Pass.better(hm:∀a∈arcs,1≤a.m∧a.m≤10000)(hL:L.Nodup){T0 T:Tab}{ch:Bool}{P:Arc→Int→Prop}(h:Pass less arcs to L T0 T ch P){b:Arc}(hb:b∈arcs){u:Int}(hbu:(b.p,u)∈L){c:Int×Int}(hc:T b.q (less u b.sh)=some c)
 (hn:∀d,T b.p u=some d→¬le2 d (c.1+b.m,c.2+1))(Q:Arc→Int→Prop):Pass less arcs to L T0 (put T b.p u (c.1+b.m,c.2+1)) true Q:=by
 have hbm:=hm b hb;have hp:=wI hL h.bound hc hbm.1 hbm.2 hbu hn;have hmost:=h.most;refine⟨fJ.put less arcs to h.sound (Way.cons hb (h.sound _ _ _ hc)),?_,h.bound.put hc hbm.1 hbm.2 hbu hn,fun e=>(by cases e),fun _=>by omega,by omega⟩
 have hto:¬(to=b.p∧(0:Int)=u):=by
  rintro⟨e1,e2⟩;refine hn (0,0) (by rw[←e1,←e2];exact h.base) ?_
  obtain⟨_,c1,c2,_,_⟩:=h.bound _ _ _ hc;unfold le2;simp only;omega
 rw[dY T _ hto];exact h.base
theorem Pass.closed{T0 T:Tab}{P:Arc→Int→Prop}(h:Pass less arcs to L T0 T false P)(hP:∀a∈arcs,∀s,D s→P a s):eY less arcs to D T:=
 ⟨h.base,fun a ha s hs c hc=>(h.same rfl).2 a ha s (hP a ha s hs) c hc⟩
end
end Go.St
end
section
namespace Go.St
def gO(a b:Nat):Nat:=a^^^(a&&&b)
theorem dZ(a b i:Nat):(gO a b).testBit i=(a.testBit i&& !(b.testBit i)):=by
 unfold gO;rw[Nat.testBit_xor,Nat.testBit_and]
 cases a.testBit i<;>cases b.testBit i<;>rfl
theorem Ag{a b n:Nat}(h:a<2^n):gO a b<2^n:=by
 apply Nat.lt_pow_two_of_testBit;intro i hi;rw[dZ,Nat.testBit_lt_two_pow (Nat.lt_of_lt_of_le h (Nat.pow_le_pow_right (by omega) hi))]
 rfl
theorem gH{a b:Nat}:gO a b=0↔∀i,a.testBit i=true→b.testBit i=true:=by
 constructor
 ·intro h i hi;have:=dZ a b i;rw[h,Nat.zero_testBit,hi] at this
  cases hb:b.testBit i
  ·rw[hb] at this;simp at this
  ·rfl
 ·intro h;apply Nat.eq_of_testBit_eq;intro i;rw[dZ,Nat.zero_testBit]
  cases ha:a.testBit i
  ·rfl
  ·rw[h i ha];rfl
theorem wM(a b:Nat):gO a b&&&b=0:=by
 apply Nat.eq_of_testBit_eq;intro i;rw[Nat.testBit_and,dZ,Nat.zero_testBit]
 cases a.testBit i<;>cases b.testBit i<;>rfl
def aE(a b:Int):Int:=((gO a.toNat b.toNat:Nat):Int)
def bP(a b:Int):Int:=((a.toNat|||b.toNat:Nat):Int)
def Lp(n:Nat)(show_ s:Int):Prop:=0≤s∧s<2^n∧aE s show_=0
theorem cM(a b:Int):0≤aE a b:=Int.natCast_nonneg _
theorem lL{a b:Int}{n:Nat}(h0:0≤a)(h:a<2^n):aE a b<2^n:=by
 obtain⟨m,rfl⟩:∃m:Nat,a=m:=⟨a.toNat,by omega⟩
 unfold aE;have h2:m<2^n:=by exact_mod_cast h
 have:=Ag (b:=b.toNat) h2;simp only[Int.toNat_natCast];exact_mod_cast this
theorem Cr{n:Nat}{w:Int}(s b:Int)(h:Lp n w s):Lp n w (aE s b):=by
 refine⟨cM _ _,lL h.1 h.2.1,?_⟩;have h3:=h.2.2;unfold aE at h3⊢;have h4:gO s.toNat w.toNat=0:=by exact_mod_cast h3
 simp only[Int.toNat_natCast];rw[gH] at h4;have:gO (gO s.toNat b.toNat) w.toNat=0:=by
  rw[gH];intro i hi;rw[dZ] at hi;exact h4 i (by simp at hi;exact hi.1)
 exact_mod_cast this
theorem uH{a:Int}:aE 0 a=0:=by
 unfold aE;have:gO (0:Int).toNat a.toNat=0:=by rw[gH];intro i hi;simp at hi
 exact_mod_cast this
theorem sK(a b c:Int):aE (aE a b) c=aE a (bP b c):=by
 unfold aE bP;simp only[Int.toNat_natCast];congr 1
 apply Nat.eq_of_testBit_eq;intro i;rw[dZ,dZ,dZ,Nat.testBit_or]
 cases a.toNat.testBit i<;>cases b.toNat.testBit i<;>cases c.toNat.testBit i<;>rfl
end Go.St
end
section
namespace Go.St
def Sub(a b:Int):Prop:=∀i,a.toNat.testBit i=true→b.toNat.testBit i=true
theorem Sub.refl(a:Int):Sub a a:=fun _ h=>h
theorem Sub.trans{a b c:Int}(h:Sub a b)(k:Sub b c):Sub a c:=fun i hi=>k i (h i hi)
theorem Sub.zero{a:Int}(h0:0≤a)(h:Sub a 0):a=0:=by
 have:a.toNat=0:=by
  apply Nat.eq_of_testBit_eq;intro i;rw[Nat.zero_testBit]
  cases e:a.toNat.testBit i
  ·rfl
  ·have:=h i e;simp at this
 omega
theorem nT(a b:Int)(i:Nat):(aE a b).toNat.testBit i=(a.toNat.testBit i&& !(b.toNat.testBit i)):=by
 unfold aE;rw[Int.toNat_natCast];exact dZ _ _ i
theorem lS(a b:Int)(i:Nat):(bP a b).toNat.testBit i=(a.toNat.testBit i||b.toNat.testBit i):=by
 unfold bP;rw[Int.toNat_natCast,Nat.testBit_or]
theorem Sub.less{a b:Int}(c:Int)(h:Sub a b):Sub (aE a c) (aE b c):=by
 intro i hi;rw[nT] at hi⊢;simp only[Bool.and_eq_true] at hi⊢;exact⟨h i hi.1,hi.2⟩
section
variable{arcs:List Arc}{to:Int}
theorem Way.part{p s m k:Int}(w:Way aE arcs to p s m k):∀u,0≤u→Sub u s→Way aE arcs to p u m k:=by
 induction w with
 |nil=>intro u h0 hu;rw[hu.zero h0];exact Way.nil
 | @cons a s m k ha _ ih=>intro u h0 hu;exact Way.cons ha (ih _ (cM _ _) (hu.less a.sh))
theorem Way.join{x p s m k:Int}(w:Way aE arcs x p s m k){t m' k':Int}(v:Way aE arcs to x t m' k'):∀u,0≤u→Sub u (bP s t)→Way aE arcs to p u (m+m') (k+k'):=by
 induction w with
 |nil=>
  intro u h0 hu;rw[Int.zero_add,Int.zero_add];refine v.part u h0 fun i hi=> ?_
  have:=hu i hi;rw[lS] at this;simpa using this
 | @cons a s m k ha _ ih=>
  intro u h0 hu;have:=ih (aE u a.sh) (cM _ _) (fun i hi=>by
   rw[nT] at hi;simp only[Bool.and_eq_true] at hi;have h2:=hu i hi.1;rw[lS] at h2⊢;rw[nT];simp only[Bool.or_eq_true] at h2⊢;rcases h2 with h2|h2
   ·left;rw[h2,hi.2];rfl
   ·exact .inr h2)
  have h3:=Way.cons ha this;rwa [show m+m'+a.m=m+a.m+m' by omega,show k+k'+1=k+1+k' by omega] at h3
theorem Way.snoc{b:Arc}(hb:b∈arcs){p s m k:Int}(w:Way aE arcs b.p p s m k):∀u,0≤u→Sub (aE u b.sh) s→Way aE arcs b.q p u (m+b.m) (k+1):=by
 intro u h0 hu;have h1:Way aE arcs b.q b.p b.sh (0+b.m) (0+1):=Way.cons hb (by
  have:aE b.sh b.sh=0:=by
   unfold aE;have:gO b.sh.toNat b.sh.toNat=0:=by rw[gH];exact fun i hi=>hi
   exact_mod_cast this
  rw[this];exact Way.nil)
 rw[Int.zero_add,Int.zero_add] at h1;refine w.join h1 u h0 fun i hi=> ?_
 rw[lS];have h2:=hu i;rw[nT,hi] at h2
 cases e:b.sh.toNat.testBit i
 ·rw[e] at h2;simp at h2;simp[h2]
 ·simp
theorem Way.back(hr:∀a∈arcs,∃b∈arcs,b.p=a.q∧b.q=a.p∧b.m=a.m∧b.sh=a.sh){p s m k:Int}(w:Way aE arcs to p s m k):0≤s→Way aE arcs p to s m k:=by
 induction w with
 |nil=>exact fun _=>Way.nil
 | @cons a s m k ha _ ih=>
  intro h0;obtain⟨b,hb,h1,h2,h3,h4⟩:=hr a ha;have h5:=ih (cM _ _);rw[←h1] at h5;have h6:=Way.snoc hb h5 s h0 (by rw[h4];exact Sub.refl _)
  rwa [h2,h3] at h6
def dT(T:Tab)(p s:Int):Int:=match T p s with|some c=>c.1|none=> -1
def gR(p s:Int):List Arc→List (Int×Int)
 | []=>[(p,s)]
 |a::l=>(p,s)::gR a.q (aE s a.sh) l
theorem qC(p s:Int):∀l:List Arc,(gR p s l).length=l.length+1
 | []=>rfl
 |a::l=>by simp[gR,qC]
theorem sE{D:Int→Prop}(hm:∀a∈arcs,1≤a.m)(hD:∀s b,D s→D (aE s b)){T:Tab}(hS:fJ aE arcs to T)(hT:eY aE arcs to D T):∀(n:Nat)(p s m:Int),D s→T p s=some (m,(n:Int))→
 (gR p s (cF aE arcs T n p s m)).Nodup∧∀x∈gR p s (cF aE arcs T n p s m),∃c,T x.1 x.2=some c∧c.2≤n
 |0,p,s,m,_,hc=>by
  refine⟨by simp[cF,gR],fun x hx=> ?_⟩
  simp[cF,gR] at hx;subst hx;exact⟨_,hc,by simp⟩
 |n+1,p,s,m,hs,hc=>by
  have hc0:=hc;have e1:((n+1:Nat):Int)=(n:Int)+1:=by omega
  rw[e1] at hc;obtain⟨a,h1,h2,h3,h4⟩:=mD hD hS hT hs hc (by simp only;omega)
  simp only at h4;rw[show(n:Int)+1-1=n by omega] at h4
  have e2:cF aE arcs T (n+1) p s m=a::cF aE arcs T n a.q (aE s a.sh) (m-a.m):=by
   conv=>lhs;unfold cF
   rw[h1]
  obtain⟨i1,i2⟩:=sE hm hD hS hT n a.q (aE s a.sh) (m-a.m) (hD _ _ hs) h4;rw[e2];refine⟨?_,fun x hx=> ?_⟩
  ·show((p,s)::gR a.q (aE s a.sh) _).Nodup
   rw[List.nodup_cons];refine⟨fun hx=> ?_,i1⟩
   obtain⟨c,k1,k2⟩:=i2 _ hx;simp only at k1;rw[hc0] at k1;have:=Option.some.inj k1;subst this;simp only at k2;omega
  ·rcases List.mem_cons.1 (show x∈(p,s)::gR a.q (aE s a.sh) _ from hx) with rfl|hx
   ·exact⟨_,hc0,by simp⟩
   ·obtain⟨c,k1,k2⟩:=i2 _ hx;exact⟨c,k1,by omega⟩
end
end Go.St
end
section
namespace Go.St
theorem wA{a b:Int}{n:Nat}(h0:0≤a)(h:a<2^n)(h1:0≤b)(h2:b<2^n):0≤bP a b∧bP a b<2^n:=by
 obtain⟨x,rfl⟩:∃m:Nat,a=m:=⟨a.toNat,by omega⟩
 obtain⟨y,rfl⟩:∃m:Nat,b=m:=⟨b.toNat,by omega⟩
 unfold bP;refine⟨Int.natCast_nonneg _,?_⟩;have:=Nat.or_lt_two_pow (n:=n) (x:=x) (y:=y) (by exact_mod_cast h) (by exact_mod_cast h2)
 simp only[Int.toNat_natCast];exact_mod_cast this
end Go.St
end
section
namespace Go.St
open Go.Bp
structure Street where
 a:Int
 b:Int
 metres:Int
 lo:Int
 hi:Int
 both:Bool
 shows:List Int
structure Town where
 places:List ByteArray
 shows:List ByteArray
 times:List ByteArray
 streets:List Street
structure Step where
 st:Int
 bk:Bool
 deriving DecidableEq
structure Task where
 a:Int
 b:Int
 show_:Int
 time:Int
 closed:List Int
structure Tour where
 steps:List Step
 metres:Int
 lo:Int
 hi:Int
 shown:Int
namespace Town
variable(t:Town)
def sets:Int:=2^t.shows.length
def streetErr(s:Street):Int:=
 if inB s.a 0 (t.places.length-1)=false∨inB s.b 0 (t.places.length-1)=false then 4
 else if s.a=s.b then 2
 else if s.shows.length≠t.times.length then 3
 else if inB s.metres 1 10000=false∨inB s.lo 0 60=false∨inB s.hi 0 60=false∨(s.shows.all fun n=>inB n 0 (t.sets-1))=false then 7
 else if s.lo>s.hi then 2 else 0
end Town
def aP(l:List ByteArray):Int×Int:=match(List.range l.length).find? fun i=>decide (dL l i≠0) with
 |some i=>((i:Int),dL l i)
 |none=>(0,0)
namespace Town
variable(t:Town)
def streetsErr:Int×Int:=match(List.range t.streets.length).find? fun i=>decide (t.streetErr (t.streets.getD i ⟨0,0,0,0,0,false,[]⟩)≠0) with
 |some i=>((i:Int),t.streetErr (t.streets.getD i ⟨0,0,0,0,0,false,[]⟩))
 |none=>(0,0)
def check:Int×Int×Int:=
 if inB t.places.length 1 16=false∨6<t.shows.length∨inB t.times.length 1 4=false∨40<t.streets.length then(1,0,3)
 else if(aP t.places).2≠0 then(2,(aP t.places).1,(aP t.places).2)
 else if(aP t.shows).2≠0 then(3,(aP t.shows).1,(aP t.shows).2)
 else if(aP t.times).2≠0 then(4,(aP t.times).1,(aP t.times).2)
 else if t.streetsErr.2≠0 then(5,t.streetsErr.1,t.streetsErr.2)
 else(0,0,0)
def at_(i:Int):Street:=t.streets.getD i.toNat ⟨0,0,0,0,0,false,[]⟩
def ends(x:Step):Int×Int:=if x.bk=true then((t.at_ x.st).b,(t.at_ x.st).a) else((t.at_ x.st).a,(t.at_ x.st).b)
def stepErr(at0:Int)(x:Step):Int:=
 if inB x.st 0 (t.streets.length-1)=false then 4 else if x.bk=true∧(t.at_ x.st).both=false then 2 else if(t.ends x).1≠at0 then 9 else 0
def follow:Int→List Step→Int×Int
 |at0,[]=>(at0,0)
 |at0,x::l=>if t.stepErr at0 x≠0 then(0,t.stepErr at0 x) else follow (t.ends x).2 l
def stepsErr(at0:Int)(l:List Step):Int×Int:=if 1100<l.length then(0,3) else t.follow at0 l
def shownAt(time:Int)(x:Step):Int:=(t.at_ x.st).shows.getD time.toNat 0
def tourOf(time:Int)(l:List Step):Tour:=
 ⟨l,l.foldl (fun n x=>n+(t.at_ x.st).metres) 0,l.foldl (fun n x=>n+(t.at_ x.st).lo) 0,l.foldl (fun n x=>n+(t.at_ x.st).hi) 0,l.foldl (fun n x=>bP n (t.shownAt time x)) 0⟩
def driveAns(a time:Int)(l:List Step):Tour×Int×Int:=
 if t.check.2.2≠0 then(⟨[],0,0,0,0⟩,0,t.check.2.2)
 else if inB a 0 (t.places.length-1)=false∨inB time 0 (t.times.length-1)=false then(⟨[],0,0,0,0⟩,0,4)
 else if(t.stepsErr a l).2≠0 then(⟨[],0,0,0,0⟩,0,(t.stepsErr a l).2)
 else(t.tourOf time l,(t.stepsErr a l).1,0)
def taskErr(k:Task):Int:=
 if t.check.2.2≠0 then t.check.2.2
 else if inB k.a 0 (t.places.length-1)=false∨inB k.b 0 (t.places.length-1)=false∨inB k.time 0 (t.times.length-1)=false then 4
 else if inB k.show_ 0 (t.sets-1)=false then 7
 else if 40<k.closed.length then 3
 else if(k.closed.all fun n=>inB n 0 (t.streets.length-1))=false then 4 else 0
def arcsTo(k:Task)(n:Nat):List Arc:=(List.range n).flatMap fun i:Nat=>
 if(i:Int)∈k.closed then [] else
  let s:=t.at_ i
  ⟨(i:Int),false,s.a,s.b,s.metres,s.shows.getD k.time.toNat 0⟩::if s.both=true then [⟨(i:Int),true,s.b,s.a,s.metres,s.shows.getD k.time.toNat 0⟩] else []
def arcs(k:Task):List Arc:=t.arcsTo k t.streets.length
noncomputable def cost(k:Task)(p s:Int):Option (Int×Int):=open Classical in if Lp t.shows.length k.show_ s then vC aE (t.arcs k) k.b p s else none
noncomputable def bestSteps(k:Task):List Step:=match t.cost k k.a k.show_ with
 |some c=>(cF aE (t.arcs k) (t.cost k) c.2.toNat k.a k.show_ c.1).map fun x=>⟨x.st,x.bk⟩
 |none=>[]
noncomputable def findAns(k:Task):Tour×Int:=
 if t.taskErr k≠0 then(⟨[],0,0,0,0⟩,t.taskErr k) else if t.cost k k.a k.show_=none then(⟨[],0,0,0,0⟩,9) else(t.tourOf k.time (t.bestSteps k),0)
noncomputable def tableAns(k:Task):List (List Int)×Int:=
 if t.taskErr k≠0 then([],t.taskErr k)
 else((List.range t.places.length).map fun p:Nat=>(List.range (2^t.shows.length)).map fun s:Nat=>dT (t.cost k) p s,0)
end Town
end Go.St
end
section
namespace Go.Bp
open Go.RowKit
def S(l:List UInt8):ByteArray:=⟨l.toArray⟩
theorem Lm(a b:List UInt8):S a++S b=S (a++b):=by
 apply Go.WideShapes.bytes_inj;simp[S]
theorem rO(s:ByteArray):S s.data.toList=s:=Go.WideShapes.bytes_inj (by simp[S])
theorem iX(l:List UInt8):(S l).data.toList=l:=by simp[S]
theorem fD(l:List UInt8):(S l).size=l.length:=by simp[S,ByteArray.size]
def iP:Nat→Nat→List UInt8
 |0,_=>[]
 |f+1,n=>(if 10≤n then iP f (n/10) else [])++ [UInt8.ofNat (48+n%10)]
def bO(n:Nat):List UInt8:=iP (n+1) n
theorem uV:∀(f n:Nat),n<f→∀g,n<g→iP f n=iP g n
 |0,n,h,_,_=>by omega
 |f+1,n,h,0,hg=>by omega
 |f+1,n,h,g+1,hg=>by
  unfold iP;by_cases h10:10≤n
  ·rw[if_pos h10,if_pos h10,uV f (n/10) (by omega) g (by omega)]
  ·rw[if_neg h10,if_neg h10]
theorem yG{n:Nat}(h:n<10):bO n=[UInt8.ofNat (48+n%10)]:=by
 unfold bO iP;rw[if_neg (by omega)];rfl
theorem Di{n:Nat}(h:10≤n):bO n=bO (n/10)++ [UInt8.ofNat (48+n%10)]:=by
 unfold bO;rw[iP,if_pos h,uV n (n/10) (by omega) (n/10+1) (by omega)]
theorem sQ:∀(f n:Nat),(iP f n).length≤f
 |0,_=>by simp[iP]
 |f+1,n=>by
  unfold iP;have:=sQ f (n/10);rw[List.length_append];split<;>simp<;>omega
theorem uU(n:Nat):(bO n).length≤n+1:=sQ _ _
def zF(s:ByteArray)(b:UInt8):Nat→List ByteArray×Nat
 |0=>([],0)
 |i+1=>if s.data.toList.getD i 0=b then((zF s b i).1++ [s.extract (zF s b i).2 i],i+1) else zF s b i
def split(s:ByteArray)(b:UInt8):List ByteArray:=(zF s b s.size).1++ [s.extract (zF s b s.size).2 s.size]
/-! ### numerals -/
theorem rK(n:Nat):Lib.decDigits n=bO n:=by
 induction n using Nat.strongRecOn with
 |_ n ih=>
  by_cases h:n<10
  ·rw[Lib.decDigits,dif_pos h,yG h,Nat.mod_eq_of_lt h]
  ·rw[Lib.decDigits,dif_neg h,Di (by omega),ih (n/10) (by omega)]
theorem nC{n:Int}(h:0≤n):Lib.itoa n=bO n.toNat:=by
 unfold Lib.itoa;rw[if_neg (by omega),rK]
def sZ(l:List UInt8):Option Int:=match Lib.atoiAll l with| .ok v=>if Lib.itoa v=l then some v else none|_=>none
end Go.Bp
end
