import Derived.Test.YtbfbepnkofampaaGreatDoorXP02
set_option maxRecDepth 100000
set_option linter.all false
section
namespace Go.Walk
open Go Go.Bp Go.RowKit
class Enc (α:Type) where
 size:Nat
 enc:α→List Value
 val:α→Value
 len:∀x,(enc x).length=size
 one:∀x,∀u∈enc x,u.oneCell'=true
def encL{α:Type}[Enc α](l:List α):List Value:=l.flatMap Enc.enc
instance:Enc Int:=⟨1,fun x=>[.int .i64 x],fun x=>.int .i64 x,fun _=>rfl,by simp[Value.oneCell']⟩
instance:Enc ByteArray:=⟨1,fun x=>[.string x],fun x=>.string x,fun _=>rfl,by simp[Value.oneCell']⟩
instance:Enc Bool:=⟨1,fun x=>[.bool x],fun x=>.bool x,fun _=>rfl,by simp[Value.oneCell']⟩
section
variable{α:Type}[Enc α]{l m:List α}{x:α}{W a b B:World}{v:Value}{n c k s:Nat}{A0:Option Addr}{e:TypeId}
theorem encL_len(l:List α):(encL l).length=l.length*Enc.size α:=by
 unfold encL;induction l with
 |nil=>simp
 |cons x l ih=>rw[List.flatMap_cons,List.length_append,Enc.len,ih,List.length_cons,Nat.add_mul];omega
theorem xL(l:List α):∀u∈encL l,u.oneCell'=true:=by
 intro u hu;obtain⟨x,_,h⟩:=List.mem_flatMap.1 hu;exact Enc.one x u h
theorem encL_app(l m:List α):encL (l++m)=encL l++encL m:=by unfold encL;rw[List.flatMap_append]
theorem encL_snoc(l:List α)(x:α):encL (l++ [x])=encL l++Enc.enc x:=by unfold encL;simp
theorem eZ(l:List α)(x:α):encL (x::l)=Enc.enc x++encL l:=by unfold encL;simp
theorem encL_nil:encL ([]:List α)=[]:=rfl
theorem nO(l:List α):∀k,k≤l.length→encL (l.drop k)=(encL l).drop (k*Enc.size α):=by
 induction l with
 |nil=>intro k _;simp[encL]
 |cons x l ih=>
  intro k hk
  cases k with
  |zero=>simp
  |succ k=>
   rw[List.drop_succ_cons,ih k (by simpa using hk),eZ,show(k+1)*Enc.size α=(Enc.enc x).length+k*Enc.size α by rw[Enc.len,Nat.add_mul];omega,←List.drop_drop,List.drop_left]
theorem nN(l:List α):∀k,k≤l.length→encL (l.take k)=(encL l).take (k*Enc.size α):=by
 induction l with
 |nil=>intro k _;simp[encL]
 |cons x l ih=>
  intro k hk
  cases k with
  |zero=>simp[encL]
  |succ k=>
   rw[List.take_succ_cons,eZ,ih k (by simpa using hk),eZ,List.take_append,Enc.len,List.take_of_length_le (l:=Enc.enc x) (by rw[Enc.len,Nat.add_mul];omega),show(k+1)*Enc.size α-Enc.size α=k*Enc.size α by rw[Nat.add_mul];omega]
theorem encL_get(l:List α){i:Nat}(h:i<l.length):∀j u,(Enc.enc l[i])[j]? =some u→(encL l)[i*Enc.size α+j]? =some u:=by
 intro j u hu;have h1:=nO l i (by omega)
 rw[List.drop_eq_getElem_cons h,eZ] at h1;have h2:(Enc.enc l[i]++encL (l.drop (i+1)))[j]? =some u:=by
  rw[List.getElem?_append_left];exact hu;exact(List.getElem?_eq_some_iff.1 hu).1
 rw[h1,List.getElem?_drop] at h2;exact h2
theorem Kk(l:List α){i:Nat}(h:i<l.length)(x:α):encL (l.set i x)=(encL l).take (i*Enc.size α)++Enc.enc x++(encL l).drop ((i+1)*Enc.size α):=by
 rw[List.set_eq_take_append_cons_drop,if_pos h,encL_app,eZ,nN l i (by omega),nO l (i+1) (by omega),List.append_assoc]
def ListV(W:World)(v:Value)(l:List α):Prop:=Sl W (Enc.size α) v l.length (encL l)
theorem ListV.ext(h:ListV a v l)(e:Ext a b):ListV b v l:=Sl.ext h e
theorem ListV.form(h:ListV W v l):∃A c,v=.slice A l.length c∧l.length≤c∧c≤maxLen:=by
 obtain⟨A,c,h1,h2,h3,_⟩:=h;exact⟨A,c,h1,h2,h3⟩
theorem ListV.caps(h:ListV W (.slice A0 n c) l):n=l.length∧l.length≤c∧c≤2^63-1:=by
 obtain⟨A,c',e,h1,h2,_⟩:=h;injection e with _ e2 e3
 subst e3;unfold maxLen at h2;exact⟨e2,h1,h2⟩
theorem ListV.elem{i:Nat}(h:ListV W (.slice A0 n c) l)(hi:i<l.length):∃ad,A0=some ad∧Cells W (ad.add (i*Enc.size α)) (Enc.enc l[i]):=by
 obtain⟨A,c',e,h1,h2,h3,h4⟩:=h;injection e with e1 e2 e3
 obtain⟨ad,rfl,hc⟩:=h4 (by omega)
 exact⟨ad,e1,hc.sub _ (encL_get l hi)⟩
theorem ListV.nil:ListV W (.slice none 0 0) ([]:List α):=Sl.none_ W _
theorem ListV.cells{cs:List Value}{ad:Addr}(h:Cells W ad cs)(he:cs=encL l)(hn:n=l.length)(h1:n≤c)(h2:c≤maxLen):ListV W (.slice (some ad) n c) l:=by
 subst he hn;exact⟨some ad,c,rfl,h1,h2,encL_len l,fun _=>⟨ad,rfl,h⟩⟩
theorem ListV.blk{cs:Array Value}{g:Nat}(h:Blk W g e cs)(he:cs=(encL l).toArray)(hn:n=l.length)(h2:n≤maxLen):ListV W (.slice (some ⟨g,0,none⟩) n n) l:=by
 subst he;exact ListV.cells (by simpa using h.cells) rfl hn (Nat.le_refl _) h2
theorem ListV.upto(h:ListV W (.slice A0 n c) l)(hk:k≤n):ListV W (.slice A0 k c) (l.take k):=by
 obtain⟨A,c',e,h1,h2,h3,h4⟩:=h;injection e with e1 e2 e3
 subst e1 e2 e3;have hl:(l.take k).length=k:=by rw[List.length_take];omega
 refine⟨A0,c,by rw[hl],by omega,h2,by rw[encL_len],fun hp=> ?_⟩
 obtain⟨ad,rfl,hc⟩:=h4 (by omega)
 refine⟨ad,rfl,?_⟩;rw[nN l k hk];intro j u hu;rw[List.getElem?_take] at hu;split at hu
 ·exact hc j u hu
 ·cases hu
def partAt(A:Option Addr)(c k s:Nat):Option Addr:=if c=k then A else A.map (·.add (k*s))
theorem ListV.from_(h:ListV W (.slice A0 n c) l)(hk:k≤n):ListV W (.slice (partAt A0 c k (Enc.size α)) (n-k) (c-k)) (l.drop k):=by
 obtain⟨A,c',e,h1,h2,h3,h4⟩:=h;injection e with e1 e2 e3
 subst e1 e2 e3;have hl:(l.drop k).length=l.length-k:=List.length_drop;refine⟨_,_,by rw[hl],by omega,by omega,by rw[encL_len],fun hp=> ?_⟩
 obtain⟨ad,rfl,hc⟩:=h4 (by omega)
 unfold partAt;rw[if_neg (by omega)]
 refine⟨_,rfl,?_⟩;rw[nO l k hk];exact hc.sub _ fun j u hu=>by rwa [List.getElem?_drop] at hu
class ListB (α:outParam Type) [i:outParam (Enc α)] (w:outParam World) (v:Value) (l:outParam (List α)):Prop where h:ListV w v l
class ListC (α:Type) [Enc α] (W:World) (v:Value) (l:outParam (List α)):Prop where h:ListV W v l
instance[p:ListB α a v l][q:ExtC a W]:ListC α W v l:=⟨p.h.ext q.h⟩
theorem RowC.list{cs:List Value}(h:RowC W v B e s n cs)(hc:cs=encL l)(hs:s=Enc.size α)(hn:n=l.length):ListV W v l:=by
 subst hc hs hn;exact Sl.of_own h.h
instance[p:RowC W v B e (Enc.size α) l.length (encL l)]:ListC α W v l:=⟨p.list rfl rfl rfl⟩
theorem RowC.cast{cs cs':List Value}{n':Nat}(h:RowC W v B e s n cs)(hc:cs=cs')(hn:n=n'):RowC W v B e s n' cs':=by subst hc hn;exact h
end
section
variable{a W B:World}{g n m c0 c1 size k c:Nat}{t e:TypeId}{l cs:List Value}{v:Value}{P:Program}
variable{ops:Array Oper}{Q:Exit→Act→World→Prop}{A:Act}{rest:List Oper}
variable{d:Option Tmp}{ty:TypeId}{pos:String}{after:Array Edge}{x y:Operand}{z:List Value}{A0 A1:Option Addr}
theorem Id(h:ZeroT P e z):∃i,P.info? e=some i∧i.size=z.length:=by
 have:=h.size
 cases hi:P.info? e with
 |none=>rw[hi] at this;cases this
 |some i=>rw[hi] at this;exact⟨i,rfl,by simpa using this⟩
theorem pP{gd:Option (Tmp×Bool)}[st:SlT P t e][q:ZeroT P e z](h:A.eval x=.slice A0 n c∧A.eval y=.int .i64 (k:Int)∧k≤c∧v=.slice A0 k c:=by refine⟨by with_unfolding_all rfl,by with_unfolding_all rfl,by omega,by with_unfolding_all rfl⟩):
 (execOp A.eval (⟨d,.slice t x none (some y) none,ty,pos,after,gd⟩:Oper)).run P W=.ok (.value v) W:=by
 obtain⟨h1,h2,h3,rfl⟩:=h;obtain⟨i,hi,hs⟩:=Id q;have hb:(Instr.sliceBound (.int .i64 (k:Int)) c .sliceAcap).run P W=.ok k W:=by rw[run_sliceBound _ _ _ _ _ (by omega) (by omega)];simp
 simp[execOp,h1,h2,Instr.sliceAt,run_underlying st.h,Instr.slice,Instr.sliceBounds,hb,sizeOf,typeInfo,hi,hs,Result.andThen];intro _
 cases A0<;>simp[Addr.add]
theorem vO{gd:Option (Tmp×Bool)}{sz:Nat}[st:SlT P t e][q:ZeroT P e z](h:A.eval x=.slice A0 n c∧A.eval y=.int .i64 (k:Int)∧k≤n∧n≤c∧z.length=sz∧v=.slice (partAt A0 c k sz) (n-k) (c-k):=by refine⟨by with_unfolding_all rfl,by with_unfolding_all rfl,by omega,by omega,by(simp;with_unfolding_all rfl),by with_unfolding_all rfl⟩):
 (execOp A.eval (⟨d,.slice t x (some y) none none,ty,pos,after,gd⟩:Oper)).run P W=.ok (.value v) W:=by
 obtain⟨h1,h2,h3,h4,rfl,rfl⟩:=h;obtain⟨i,hi,hs⟩:=Id q;have hb:(Instr.sliceBound (.int .i64 (k:Int)) n .sliceB).run P W=.ok k W:=by rw[run_sliceBound _ _ _ _ _ (by omega) (by omega)];simp
 simp[execOp,h1,h2,Instr.sliceAt,run_underlying st.h,Instr.slice,Instr.sliceBounds,hb,sizeOf,typeInfo,hi,hs,Result.andThen,partAt]
theorem cG{f:FuncId}{ar:Array Operand}{ats:Array TypeId}{args:Array Value}{R:Ending→World→Prop}{gd:Tmp×Bool}
 (k:∀e W',R e W'→∃v,e=.returned v∧wpList P ops Q rest (A.put d v) W')
 (h:ar.map A.eval=args∧FunC P f args W R∧(execOp A.eval (⟨d,.call {callee:=.value (Operand.func f),args:=ar,argTypes:=ats},ty,pos,after,some gd⟩:Oper)).run P W=.ok (.enter f args) W∧Region.wanted (⟨d,.call {callee:=.value (Operand.func f),args:=ar,argTypes:=ats},ty,pos,after,some gd⟩:Oper) (yielded ops A.tmps)=true:=by
  (refine⟨by(simp[Act.eval];with_unfolding_all rfl),?_⟩;refine⟨by infer_instance,by go_simp,by with_unfolding_all rfl⟩)):
 wpList P ops Q (⟨d,.call {callee:=.value (Operand.func f),args:=ar,argTypes:=ats},ty,pos,after,some gd⟩::rest) A W:=by
 refine wpList_step fun K hK=> ?_
 rw[if_pos h.2.2.2];unfold Oper.wp;rw[h.2.2.1];refine Calls.mono h.2.1.h fun e w' he=> ?_
 obtain⟨v,rfl,hk⟩:=k e w' he;exact hK _ _ hk
theorem unguard{o:Op}{gd:Tmp×Bool}(k:wpList P ops Q (⟨d,o,ty,pos,after,none⟩::rest) A W)(hw:Region.wanted (⟨d,o,ty,pos,after,some gd⟩:Oper) (yielded ops A.tmps)=true:=by with_unfolding_all rfl):wpList P ops Q (⟨d,o,ty,pos,after,some gd⟩::rest) A W:=by
 unfold wpList at k⊢;rw[if_pos (by simp[Region.wanted])] at k
 rw[if_pos hw];exact k
theorem bH{t:TypeId}{n:Nat}{parts:Array (Nat×Operand)}{gd:Tmp×Bool}(k:wpList P ops Q (⟨d,.buildSlice t n parts,ty,pos,after,none⟩::rest) A W)(hw:Region.wanted (⟨d,.buildSlice t n parts,ty,pos,after,some gd⟩:Oper) (yielded ops A.tmps)=true:=by with_unfolding_all rfl):wpList P ops Q (⟨d,.buildSlice t n parts,ty,pos,after,some gd⟩::rest) A W:=unguard k hw
class SlC (W:World) (v:Value) (size n:outParam Nat) (cells:outParam (List Value)):Prop where h:Sl W size v n cells∧∀u∈cells,u.oneCell'=true
instance{α:Type}[i:Enc α]{l:List α}[p:ListB α a v l][q:ExtC a W]:SlC W v (Enc.size α) l.length (encL l):=⟨p.h.ext q.h,xL l⟩
class OneT (P:Program) (e:TypeId) (z:outParam Value):Prop where h:∃b,(P.info? e).map (fun i=>(i.zero,i.size,i.bytes))=some (some z,1,b)∧z.cells=#[z]∧b≤1000
theorem qM{zv:Value}[st:SlT P t e][q:OneT P e zv]
 (k:∀W' g,StepC W W'→Blk W' g e (Array.replicate n zv)→AtC W g→wpList P ops Q rest (A.put d (.slice (some ⟨g,0,none⟩) n n)) W')
 (h:A.eval x=.int .i64 (n:Int)∧A.eval y=.int .i64 (n:Int)∧n≤1000000:=by refine⟨by with_unfolding_all rfl,by with_unfolding_all rfl,by omega⟩):
 wpList P ops Q (⟨d,.makeSlice t x y,ty,pos,after,none⟩::rest) A W:=by
 obtain⟨b,h1,h2,h3⟩:=q.h;exact Pt st.h h1 h2 h.2.2 h3 h.1 h.2.1 fun W g a b c=>k W g ⟨a⟩ b ⟨c⟩
theorem kV{sz:Nat}[st:SlT P t e][q:ZeroT P e z]
 (k:∀W' g,StepC W W'→RowC W' (.slice (some ⟨g,0,none⟩) 0 0) W e sz 0 []→wpList P ops Q rest (A.put d (.slice (some ⟨g,0,none⟩) 0 0)) W')
 (h:z.length=sz∧0<z.length:=by(refine⟨by(simp;with_unfolding_all rfl),by simp⟩)):
 wpList P ops Q (⟨d,.buildSlice t 0 #[],ty,pos,after,none⟩::rest) A W:=by
 obtain⟨rfl,hz⟩:=h;refine aD (z:=z) (l:=[]) (fun W' g h1 h2 h3=>k W' g h1 ⟨by simp,.inr ⟨g,0,#[],rfl,h3.h,?_,?_⟩⟩) ⟨by rfl,by simp,by rfl,by simp,hz⟩
 ·exact h2.h
 ·simp
theorem kK[st:SlT P t e][q:ZeroT P e z]
 (k:∀A' c' W',RowC W' (.slice A' (n+m) c') B e size (n+m) (cs++l)→GrowC W W' B (.slice A0 n c0)→wpList P ops Q rest (A.put d (.slice A' (n+m) c')) W')
 (h:A.eval x=.slice A0 n c0∧RowC W (.slice A0 n c0) B e size n cs∧A.eval y=.slice A1 m c1∧SlC W (.slice A1 m c1) size m l∧size=z.length∧ExtC B W∧0<z.length∧n+m≤100000000:=by
  (refine⟨by with_unfolding_all rfl,?_⟩;refine⟨by infer_instance,?_⟩;refine⟨by with_unfolding_all rfl,?_⟩;refine⟨by infer_instance,by simp,by infer_instance,by simp,by(first|omega|(simp;omega))⟩)):
 wpList P ops Q (⟨d,.call {callee:=.builtin .append,args:=#[x,y],argTypes:=#[t,t]},ty,pos,after,none⟩::rest) A W:=by
 obtain⟨h1,h2,h3,h4,rfl,h7,h8,h9⟩:=h;obtain⟨zv,b,i1,i2,i3⟩:=q.h;have hb:(n+m)*b≤100000000*1000:=Nat.mul_le_mul h9 i3;obtain⟨⟨A2,c2,e2,_,_,s3,s4⟩,s5⟩:=h4.h;injection e2 with e21 _ e23
 subst e21 e23;refine wH st.h i1 (by rw[i2];simp) h8 h1 h2.h h3 s4 s3 s5 (by omega) (by unfold maxLen;omega) h7.h.size fun v' W' r1 r2 r3=> ?_
 obtain⟨A',c',rfl,_⟩:=Sl.of_own r1;exact k A' c' W' ⟨r1⟩ ⟨r2,fun g hg=>(h2.from_ hg).1⟩
theorem vS(h:RowC W (.slice A0 n c) B e size n cs)(hn:0<n):∃g,A0=some ⟨g,0,none⟩:=by
 rcases h.h.2 with ⟨h1,_⟩|⟨g,cap,cur,h1,_⟩
 ·injection h1 with _ h2;omega
 ·injection h1 with h2;exact⟨g,h2⟩
theorem Eb{v:Value}{off:Nat}[q:ZeroT P t z](h:RowC W (.slice (some ⟨g,0,none⟩) n c) B e size n cs)
 (k:∀W',RowC W' (.slice (some ⟨g,0,none⟩) n c) B e size n (cs.set off v)→GrowC W W' B (.slice (some ⟨g,0,none⟩) n c)→wpList P ops Q rest (A.put d undef) W')
 (hz:A.eval x=.pointer (some ⟨g,off,none⟩)∧A.eval y=v∧v.cells=#[v]∧v.oneCell'=true∧z.length=1∧off<n*size:=by
  (refine⟨by with_unfolding_all rfl,by with_unfolding_all rfl,by with_unfolding_all rfl,by with_unfolding_all rfl,by with_unfolding_all rfl,by omega⟩)):
 wpList P ops Q (⟨d,.store t x y,ty,pos,after,none⟩::rest) A W:=by
 obtain⟨hx,hy,hv,h1,hz1,ho⟩:=hz;have hi:=q.size;rw[hz1] at hi;rcases h.h.2 with ⟨h',_⟩|⟨g',cap',cur,h',hb,hg,hnc,hcm,hcs,htake⟩
 ·simp at h'
 ·simp only[Value.slice.injEq,Option.some.injEq,Addr.mk.injEq,and_true,true_and] at h';obtain⟨rfl,rfl⟩:=h';have hsz:off+1≤cur.size:=by rw[hcs];have:=Nat.mul_le_mul_right size hnc;omega
  refine lY hx hy (show Blk W g e cur from hg) hi (by rw[hv];rfl) hsz (by rw[hv];simpa using h1) fun W' hB hgr=>k W' ⟨by simpa using h.h.1,.inr ⟨g,c,_,rfl,hb,hB,hnc,hcm,?_,?_⟩⟩ ⟨hgr,fun g2 hg2=> ?_⟩
  ·rw[hv];simp[putAt];omega
  ·rw[hv];simp only[putAt];simp;have e2:cur.toList.take off++v::cur.toList.drop (off+1)=cur.toList.set off v:=by
    rw[List.set_eq_take_append_cons_drop,if_pos (by simp;omega)]
   rw[e2,List.take_set,htake]
  ·have:g=g2:=by simpa [Value.ownBlock] using hg2
   subst this;exact hb
theorem aP{id:Nat}{a:Act}{w:World}(t:OTree)(h:Ext w w.drew→wpTree P ops Q (Ext w) t a w.drew)(hm:P.follows .mixedOrders=true:=by kernel_rfl)(hs:Region.noSelect ops=true:=by kernel_rfl)(hf:Nat.ble t.depth ops.size=true:=by kernel_rfl)(hok:okTree .any ops t (Array.replicate ops.size false)=true:=by kernel_rfl)(hQ:∀c(a:Act)(d:Tmp)(v:Value)(w:World),Q (.panic c) (a.put (some d) v) w→Q (.panic c) a w:=by intro _ _ _ _ _ h;first|exact h|exact absurd h.1 (fun e=>by cases e)):(Code.region id ops true).wp P Q a w:=
 dA t (Ext w) (Ext.todrew (Ext.refl _)) h hm hs hf hok hQ
theorem bN{a b c:World}{r:Option Nat}(h:a.grownBy b r)(k:b.grownBy c r):a.grownBy c r:=⟨k.os.trans h.os,k.tape.trans h.tape,k.output.trans h.output,Nat.le_trans h.size k.size,fun j hj hr=>(k.block j (Nat.lt_of_lt_of_le hj h.size) hr).trans (h.block j hj hr)⟩
theorem grown_of_ext{a b:World}{r:Option Nat}(h:Ext a b):a.grownBy b r:=⟨h.os,h.tape,h.output,h.size,fun j hj _=>h.block j hj⟩
def firstT:List (Bool×Int)→Int→Int
 | [],z=>z
 |(true,a)::_,_=>a
 |(false,_)::l,z=>firstT l z
abbrev RI(W:World)(n:Int)(e:Ending)(W':World):Prop:=e=.returned (.int .i64 n)∧StepC W W'
abbrev RB(W:World)(n:Bool)(e:Ending)(W':World):Prop:=e=.returned (.bool n)∧StepC W W'
abbrev RTx(W:World)(s:ByteArray)(e:Ending)(W':World):Prop:=e=.returned (.string s)∧StepC W W'
abbrev RII(W:World)(m n:Int)(e:Ending)(W':World):Prop:=e=.returned (.tuple #[.int .i64 m,.int .i64 n])∧StepC W W'
abbrev RIII(W:World)(l m n:Int)(e:Ending)(W':World):Prop:=e=.returned (.tuple #[.int .i64 l,.int .i64 m,.int .i64 n])∧StepC W W'
abbrev RL{α:Type}[Enc α](W:World)(l:List α)(e:Ending)(W':World):Prop:=∃A c,e=.returned (.slice A l.length c)∧ListB α W' (.slice A l.length c) l∧StepC W W'
abbrev RLI{α:Type}[Enc α](W:World)(l:List α)(n:Int)(e:Ending)(W':World):Prop:=∃A c,e=.returned (.tuple #[.slice A l.length c,.int .i64 n])∧ListB α W' (.slice A l.length c) l∧StepC W W'
end
end Go.Walk
end
section
namespace Go.Rg
open Go.Bp
def leap(y:Int):Bool:=decide (y.tmod 4=0)&&(decide (y.tmod 100≠0)||decide (y.tmod 400=0))
def lens(lp:Bool):List Int:=[31,if lp then 29 else 28,31,30,31,30,31,31,30,31,30,31]
def monthLen(lp:Bool)(m:Int):Int:=(lens lp).getD (m-1).toNat 0
def yearDays(n:Int):Int:=if n=0 then 0 else 365*n+(n+3).tdiv 4-(n-1).tdiv 100
def before(lp:Bool)(m:Int):Int:=((lens lp).take (m-1).toNat).foldl (· + ·) 0
def dayOf(y m d:Int):Int×Int:=
 if inB m 1 12=false∨inB d 1 (monthLen (leap y) m)=false then(0,6)
 else if inB y 2000 2200=false then(0,7)
 else if 40000<yearDays (y-2000)+d-1+before (leap y) m then(0,7) else(yearDays (y-2000)+d-1+before (leap y) m,0)
def monthDay:List Int→Int→Int→Int×Int
 | [],m,r=>(m,r+1)
 |n::l,m,r=>if r<n then(m,r+1) else monthDay l (m+1) (r-n)
def yearOf(day:Int):Int:=((List.range 111).countP fun n=>decide (yearDays ((n:Nat)+1:Nat)≤day):Nat)
structure Date where
 year:Int
 month:Int
 day:Int
 deriving DecidableEq
def dateOf(day:Int):Date:=
 let n:=yearOf day
 let p:=monthDay (lens (leap (2000+n))) 1 (day-yearDays n)
 ⟨2000+n,p.1,p.2⟩
def dateAns(day:Int):Date×Int:=if inB day 0 40000=false then(⟨0,0,0⟩,7) else(dateOf day,0)
def plusAns(day years months:Int):Int×Int:=
 if inB day 0 40000=false∨inB years 0 100=false∨inB months 0 1200=false then(0,7)
 else
  let d:=dateOf day
  let k:=months+d.month-1
  let y:=d.year+years+k.tdiv 12
  let m:=k.tmod 12+1
  dayOf y m (min d.day (monthLen (leap y) m))
def ageAns(born day:Int):Int×Int:=
 if inB born 0 40000=false∨inB day 0 40000=false then(0,7)
 else if day<born then(0,2)
 else
  let a:=dateOf born
  let b:=dateOf day
  let bd:=min a.day (monthLen (leap b.year) a.month)
  (if b.month<a.month∨b.month=a.month∧b.day<bd then b.year-a.year-1 else b.year-a.year,0)
theorem yearDays_all:((List.range 203).all fun n=>decide (yearDays ((n:Nat)+1:Nat)=yearDays (n:Nat)+(if leap ((2000+n:Nat):Int) then 366 else 365)))=true:=by decide +kernel
theorem fC{n:Nat}(h:n<203):yearDays ((n:Int)+1)=yearDays n+(if leap (2000+n) then 366 else 365):=by
 have:=List.all_eq_true.1 yearDays_all n (List.mem_range.2 h);have:=of_decide_eq_true this;push_cast at this
 exact this
theorem fD{a b:Nat}(h:a≤b)(hb:b≤203):yearDays a≤yearDays b:=by
 induction b with
 |zero=>
  have:a=0:=by omega
  subst this;exact Int.le_refl _
 |succ b ih=>
  by_cases hab:a=b+1
  ·subst hab;exact Int.le_refl _
  ·have h1:=ih (by omega) (by omega)
   have h2:=fC (n:=b) (by omega)
   push_cast
   rw[h2];split<;>omega
theorem Dp{day:Int}{n:Nat}(hn:n≤110)(h1:yearDays n≤day)(h2:day<yearDays ((n:Int)+1)):yearOf day=n:=by
 have key:∀m:Nat,m≤111→((List.range m).countP fun k=>decide (yearDays ((k:Nat)+1:Nat)≤day))=min m n:=by
  intro m;induction m with
  |zero=>intro _;simp
  |succ m ih=>
   intro hm;rw[List.range_succ,List.countP_append,ih (by omega)]
   by_cases hmn:m<n
   ·have h4:yearDays ((m:Nat)+1:Nat)≤day:=Int.le_trans (fD (show m+1≤n by omega) (by omega)) h1
    simp only[List.countP_cons,List.countP_nil,decide_eq_true_eq,if_pos h4];omega
   ·have h3:=fD (show n+1≤m+1 by omega) (by omega)
    have h4:¬yearDays ((m:Nat)+1:Nat)≤day:=by push_cast at h3⊢;omega
    simp only[List.countP_cons,List.countP_nil,decide_eq_true_eq,if_neg h4];omega
 unfold yearOf;rw[key 111 (by omega),Nat.min_eq_right (by omega)]
theorem yearDays_110:40000<yearDays 110:=by decide +kernel
theorem oT{day:Int}(h0:0≤day)(h:day≤40000):∃n:Nat,n≤109∧yearOf day=n∧yearDays n≤day∧day<yearDays ((n:Int)+1):=by
 have key:∀m:Nat,m≤110→day<yearDays m→∃n:Nat,n<m∧yearDays n≤day∧day<yearDays ((n:Int)+1):=by
  intro m;induction m with
  |zero=>intro _ h;exact absurd h (by show¬day<yearDays 0;rw[show yearDays 0=0 from rfl];omega)
  |succ m ih=>
   intro hm h;by_cases hd:yearDays m≤day
   ·exact⟨m,by omega,hd,by push_cast at h;exact h⟩
   ·obtain⟨n,h1,h2,h3⟩:=ih (by omega) (by omega)
    exact⟨n,by omega,h2,h3⟩
 obtain⟨n,h1,h2,h3⟩:=key 110 (by omega) (by have:=yearDays_110;show day<yearDays 110;omega)
 exact⟨n,by omega,Dp (by omega) h2 h3,h2,h3⟩
def longRef(y m:Int):Int:=if m=4∨m=6∨m=9∨m=11 then 30 else if m≠2 then 31 else if y.tmod 400=0∨y.tmod 4=0∧y.tmod 100≠0 then 29 else 28
theorem gP{y m:Int}(h:inB m 1 12=true):longRef y m=monthLen (leap y) m:=by
 have hm:=inB_t.1 h;have h2:(if y.tmod 400=0∨y.tmod 4=0∧y.tmod 100≠0 then(29:Int) else 28)=if leap y then 29 else 28:=by
  have:(y.tmod 400=0∨y.tmod 4=0∧y.tmod 100≠0)↔leap y=true:=by
   unfold leap;simp only[Bool.and_eq_true,Bool.or_eq_true,decide_eq_true_eq];constructor
   ·rintro(h|h)
    ·refine⟨?_,.inr h⟩;have:=Int.dvd_of_tmod_eq_zero h;exact Int.tmod_eq_zero_of_dvd (by omega)
    ·exact⟨h.1,.inl h.2⟩
   ·rintro⟨h1,h2|h2⟩
    ·exact .inr ⟨h1,h2⟩
    ·exact .inl h2
  by_cases hl:leap y=true
  ·rw[if_pos (this.2 hl),if_pos hl]
  ·rw[if_neg (fun h=>hl (this.1 h)),if_neg hl]
 unfold longRef monthLen lens;rw[h2];have:m=1∨m=2∨m=3∨m=4∨m=5∨m=6∨m=7∨m=8∨m=9∨m=10∨m=11∨m=12:=by omega
 rcases this with rfl|rfl|rfl|rfl|rfl|rfl|rfl|rfl|rfl|rfl|rfl|rfl<;>simp
def nextMD(lp:Bool)(p:Int×Int):Int×Int:=if p.2+1>monthLen lp p.1 then(p.1+1,1) else(p.1,p.2+1)
def yearLen(lp:Bool):Int:=if lp then 366 else 365
theorem md_all:([true,false].all fun lp=>(List.range (if lp then 366 else 365)).all fun r=>
 inB (monthDay (lens lp) 1 (r:Nat)).1 1 12&&inB (monthDay (lens lp) 1 (r:Nat)).2 1 (monthLen lp (monthDay (lens lp) 1 (r:Nat)).1)&&decide (before lp (monthDay (lens lp) 1 (r:Nat)).1+(monthDay (lens lp) 1 (r:Nat)).2-1=(r:Nat)))=true:=by decide +kernel
theorem Cw{lp:Bool}{r:Nat}(h:(r:Int)<yearLen lp):
 inB (monthDay (lens lp) 1 r).1 1 12=true∧inB (monthDay (lens lp) 1 r).2 1 (monthLen lp (monthDay (lens lp) 1 r).1)=true∧before lp (monthDay (lens lp) 1 r).1+(monthDay (lens lp) 1 r).2-1=r:=by
 have h0:=List.all_eq_true.1 md_all lp (by cases lp<;>simp)
 have h1:=List.all_eq_true.1 h0 r (List.mem_range.2 (by unfold yearLen at h;cases lp<;>simp at h⊢ <;>omega))
 simp only[Bool.and_eq_true,decide_eq_true_eq] at h1;exact⟨h1.1.1,h1.1.2,h1.2⟩
theorem before_all:([true,false].all fun lp=>(List.range 12).all fun m=>decide (before lp ((m:Nat)+2:Nat)=before lp ((m:Nat)+1:Nat)+monthLen lp ((m:Nat)+1:Nat))&&decide (28≤monthLen lp ((m:Nat)+1:Nat))&&decide (monthLen lp ((m:Nat)+1:Nat)≤31))=true:=by decide +kernel
theorem bW(lp:Bool){m:Int}(h:inB m 1 12=true):before lp (m+1)=before lp m+monthLen lp m∧28≤monthLen lp m∧monthLen lp m≤31:=by
 have hm:=inB_t.1 h;obtain⟨k,rfl⟩:∃k:Nat,m=k+1:=⟨(m-1).toNat,by omega⟩
 have h0:=List.all_eq_true.1 before_all lp (by cases lp<;>simp)
 have h1:=List.all_eq_true.1 h0 k (List.mem_range.2 (by omega))
 simp only[Bool.and_eq_true,decide_eq_true_eq] at h1;push_cast at h1
 exact⟨by rw[show(k:Int)+1+1=k+2 by omega];exact h1.1.1,h1.1.2,h1.2⟩
theorem mT(lp:Bool):before lp 1=0:=by cases lp<;>rfl
theorem Gc(lp:Bool):before lp 13=yearLen lp:=by cases lp<;>rfl
theorem kJ(lp:Bool){a b:Int}(ha:1≤a)(h:a<b)(hb:b≤13):before lp a+monthLen lp a≤before lp b:=by
 obtain⟨k,rfl⟩:∃k:Nat,b=a+1+k:=⟨(b-a-1).toNat,by omega⟩
 clear h;induction k with
 |zero=>have:=(bW lp (m:=a) (inB_t.2 (by omega))).1;simp only[Int.natCast_zero,Int.add_zero];omega
 |succ k ih=>
  have h1:=ih (by push_cast at hb;omega)
  have h2:=bW lp (m:=a+1+k) (inB_t.2 (by push_cast at hb;omega))
  rw[show a+1+((k+1:Nat):Int)=a+1+k+1 by push_cast;omega,h2.1]
  omega
def ord(y m d:Int):Int:=yearDays (y-2000)+d-1+before (leap y) m
theorem fV{n:Int}(h0:0≤n)(h:n<203):yearDays (n+1)=yearDays n+yearLen (leap (2000+n)):=by
 obtain⟨k,rfl⟩:∃k:Nat,n=k:=⟨n.toNat,by omega⟩
 have:=fC (n:=k) (by omega)
 rw[this];unfold yearLen;rfl
structure Valid(y m d:Int):Prop where
 hy:2000≤y∧y≤2202
 hm:inB m 1 12=true
 hd:inB d 1 (monthLen (leap y) m)=true
theorem wP{y m d:Int}(h:Valid y m d):yearDays (y-2000)≤ord y m d∧ord y m d<yearDays (y-2000+1):=by
 have hm:=inB_t.1 h.hm;have hd:=inB_t.1 h.hd;have hy:=h.hy;have e:=fV (n:=y-2000) (by omega) (by omega)
 rw[show 2000+(y-2000)=y by omega] at e
 have b1:0≤before (leap y) m:=by
  by_cases h1:m=1
  ·rw[h1,mT];omega
  ·have:=kJ (leap y) (a:=1) (b:=m) (by omega) (by omega) (by omega)
   rw[mT] at this;have:=(bW (leap y) (m:=1) rfl).2.1;omega
 have b2:=kJ (leap y) (a:=m) (b:=13) (by omega) (by omega) (by omega)
 rw[Gc] at b2;unfold ord;rw[e];omega
theorem qH{y m d y' m' d':Int}(h:Valid y m d)(h':Valid y' m' d'):ord y m d≤ord y' m' d'↔y<y'∨y=y'∧(m<m'∨m=m'∧d≤d'):=by
 have o1:=wP h;have o2:=wP h';have key:∀{a b:Int},2000≤a→a<b→b≤2202→yearDays (a-2000+1)≤yearDays (b-2000):=by
  intro a b h1 h2 h3;have:=fD (a:=(a-2000+1).toNat) (b:=(b-2000).toNat) (by omega) (by omega)
  rwa [show(((a-2000+1).toNat:Nat):Int)=a-2000+1 by omega,show(((b-2000).toNat:Nat):Int)=b-2000 by omega] at this
 have mk:∀{m d m' d':Int},Valid y m d→Valid y m' d'→m<m'→ord y m d<ord y m' d':=by
  intro m d m' d' h h' hm;have a1:=inB_t.1 h.hm;have a2:=inB_t.1 h.hd;have a3:=inB_t.1 h'.hm;have a4:=inB_t.1 h'.hd;have:=kJ (leap y) (a:=m) (b:=m') (by omega) hm (by omega)
  unfold ord;omega
 rcases Int.lt_trichotomy y y' with hy|hy|hy
 ·have:=key h.hy.1 hy h'.hy.2;constructor
  ·intro _;exact .inl hy
  ·intro _;omega
 ·subst hy;rcases Int.lt_trichotomy m m' with hm|hm|hm
  ·have:=mk h h' hm;constructor
   ·intro _;exact .inr ⟨rfl,.inl hm⟩
   ·intro _;omega
  ·subst hm;unfold ord;constructor
   ·intro _;exact .inr ⟨rfl,.inr ⟨rfl,by omega⟩⟩
   ·rintro(h|⟨_,h|⟨_,h⟩⟩)<;>omega
  ·have:=mk h' h hm;constructor
   ·intro _;omega
   ·rintro(h|⟨_,h|⟨h,_⟩⟩)<;>omega
 ·have:=key h'.hy.1 hy h.hy.2;constructor
  ·intro _;omega
  ·rintro(h|⟨h,_⟩)<;>omega
theorem fG{day:Int}(h0:0≤day)(h:day≤40000):Valid (dateOf day).year (dateOf day).month (dateOf day).day∧(dateOf day).year≤2109∧ord (dateOf day).year (dateOf day).month (dateOf day).day=day:=by
 obtain⟨n,hn,e,h1,h2⟩:=oT h0 h;have e2:=fV (n:=n) (by omega) (by omega)
 obtain⟨r,hr⟩:∃r:Nat,day-yearDays n=r:=⟨(day-yearDays n).toNat,by omega⟩
 obtain⟨m1,m2,m3⟩:=Cw (lp:=leap (2000+n)) (r:=r) (by rw[e2] at h2;omega)
 have ed:dateOf day=⟨2000+n,(monthDay (lens (leap (2000+n))) 1 r).1,(monthDay (lens (leap (2000+n))) 1 r).2⟩:=by
  unfold dateOf;simp only[e];rw[hr]
 rw[ed];refine⟨⟨by simp only;omega,m1,m2⟩,by simp only;omega,?_⟩
 unfold ord;simp only;rw[show(2000+(n:Int)-2000)=n by omega]
 omega
theorem uK{y m d:Int}(hm:inB m 1 12=true)(hd:inB d 1 (monthLen (leap y) m)=true):dayOf y m d=if inB y 2000 2200=false then(0,7) else if 40000<ord y m d then(0,7) else(ord y m d,0):=by
 unfold dayOf;rw[if_neg (by rw[hm,hd];simp)]
 rfl
def nextD(d:Date):Date:=
 let e:Date:=if longRef d.year d.month<d.day+1 then⟨d.year,d.month+1,1⟩ else⟨d.year,d.month,d.day+1⟩
 if 12<e.month then⟨e.year+1,1,e.day⟩ else e
theorem next_all:([true,false].all fun lp=>(List.range (if lp then 365 else 364)).all fun r=>decide (monthDay (lens lp) 1 ((r:Nat)+1:Nat)=nextMD lp (monthDay (lens lp) 1 (r:Nat))))=true:=by decide +kernel
theorem Mo{y:Int}{r:Nat}(h:(r:Int)+1<yearLen (leap y)):
 nextD ⟨y,(monthDay (lens (leap y)) 1 r).1,(monthDay (lens (leap y)) 1 r).2⟩=⟨y,(monthDay (lens (leap y)) 1 ((r:Int)+1)).1,(monthDay (lens (leap y)) 1 ((r:Int)+1)).2⟩:=by
 obtain⟨m1,m2,_⟩:=Cw (lp:=leap y) (r:=r) (by omega)
 have m4:=(Cw (lp:=leap y) (r:=r+1) (by push_cast;omega)).1
 have h0:=List.all_eq_true.1 next_all (leap y) (by cases leap y<;>simp)
 have h1:=of_decide_eq_true (List.all_eq_true.1 h0 r (List.mem_range.2 (by unfold yearLen at h;cases hl:leap y<;>rw[hl] at h<;>simp at h⊢ <;>omega)))
 push_cast at h1 m4
 rw[h1] at m4⊢;clear h0 h1;generalize monthDay (lens (leap y)) 1 (r:Int)=q at m1 m2 m4⊢;obtain⟨m,d⟩:=q;unfold nextMD at m4⊢;unfold nextD;simp only[gP m1] at m1 m4⊢;by_cases hc:monthLen (leap y) m<d+1
 ·simp only[gt_iff_lt,if_pos hc] at m4⊢;have m5:=inB_t.1 m4;rw[if_neg (by omega)]
 ·have m5:=inB_t.1 m1;simp only[gt_iff_lt,if_neg hc];rw[if_neg (by omega)]
def stepD(y:Int):Nat→Date
 |0=>⟨y,1,1⟩
 |j+1=>nextD (stepD y j)
theorem pJ(y:Int):∀j:Nat,(j:Int)<yearLen (leap y)→stepD y j=⟨y,(monthDay (lens (leap y)) 1 j).1,(monthDay (lens (leap y)) 1 j).2⟩
 |0,_=>by show(⟨y,1,1⟩:Date)=_;cases leap y<;>rfl
 |j+1,h=>by
  push_cast at h⊢
  rw[stepD,pJ y j (by omega),Mo h]
theorem Kt{day:Int}(h0:0≤day)(h:day≤40000):stepD (2000+yearOf day) (day-yearDays (yearOf day)).toNat=dateOf day:=by
 obtain⟨n,hn,e,h1,h2⟩:=oT h0 h;have e2:=fV (n:=n) (by omega) (by omega)
 rw[e,pJ _ _ (by rw[e2] at h2;omega)]
 unfold dateOf;simp only[e];rw[show(((day-yearDays (n:Int)).toNat:Nat):Int)=day-yearDays n by omega]
end Go.Rg
end
