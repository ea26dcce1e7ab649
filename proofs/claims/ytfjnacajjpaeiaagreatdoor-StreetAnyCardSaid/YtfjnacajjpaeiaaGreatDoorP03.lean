/- Chapter 03: contracts of functions of the program and of the reference, and plain laws (out of OwnQ OwnS Rf Rm RfT Ri RfB RfC SK1 R1 R3). No condition of its own. -/
import Derived.Deep.LoopGhost
import Derived.Laws.CopyOwn
import Derived.OrdersIn
import Derived.RangeFuncNested
import Derived.Test.YtfjnacajjpaeiaaGreatDoorP02
set_option maxRecDepth 100000
set_option linter.all false
section
namespace Go.Bp
open Go.RowKit Go.Proofs
def OwnAt(w:World)(base:Nat)(e:TypeId)(size:Nat)(v:Value)(n:Nat)(xs:List Value):Prop:=
 xs.length=n*size∧((v=.slice none 0 0∧n=0)∨
  ∃g o cap cur,v=.slice (some ⟨g,o,none⟩) n cap∧base≤g∧w.heap[g]? =some (.cells cur e (0,0))∧n≤cap∧cap≤maxLen∧o+cap*size≤cur.size∧(cur.toList.drop o).take (n*size)=xs)
section
variable{w:World}{base:Nat}{e:TypeId}{size:Nat}{v:Value}{n:Nat}{xs:List Value}
theorem OwnAt.nil(w:World)(base:Nat)(e:TypeId)(size:Nat):OwnAt w base e size (.slice none 0 0) 0 []:=⟨by simp,.inl ⟨rfl,rfl⟩⟩
theorem OwnAt.lt(h:OwnAt w base e size v n xs):∀k,v.ownBlock=some k→base≤k∧k<w.heap.size:=by
 intro k hk;rcases h.2 with ⟨rfl,_⟩|⟨g,o,cap,cur,rfl,hb,hg,_⟩
 ·simp[Value.ownBlock] at hk
 ·simp[Value.ownBlock] at hk;subst hk;exact⟨hb,(Array.getElem?_eq_some_iff.1 hg).1⟩
theorem OwnAt.kept{w':World}{row:Option Nat}(h:OwnAt w base e size v n xs)(hg:w.grownBy w' row)(hne:v.ownBlock=none∨v.ownBlock≠row):OwnAt w' base e size v n xs:=by
 refine⟨h.1,?_⟩;rcases h.2 with hn|⟨g,o,cap,cur,rfl,hb,hgg,rest⟩
 ·exact .inl hn
 ·refine .inr ⟨g,o,cap,cur,rfl,hb,?_,rest⟩;rw[hg.block g (Array.getElem?_eq_some_iff.1 hgg).1 (by simpa [Value.ownBlock] using hne)]
  exact hgg
theorem OwnAt.ext{w':World}(h:OwnAt w base e size v n xs)(hE:Ext w w'):OwnAt w' base e size v n xs:=by
 refine⟨h.1,?_⟩;rcases h.2 with hn|⟨g,o,cap,cur,rfl,hb,hgg,rest⟩
 ·exact .inl hn
 ·exact .inr ⟨g,o,cap,cur,rfl,hb,hE.heap_some hgg,rest⟩
theorem OwnAt.ne{g:Nat}{t:TypeId}{cs:Array Value}(h:OwnAt w base e size v n xs)(hb:Blk w g t cs)(ht:t≠e):v.ownBlock=none∨v.ownBlock≠some g:=by
 rcases h.2 with ⟨rfl,_⟩|⟨g',o,cap,cur,rfl,_,hgg,_⟩
 ·exact .inl rfl
 ·right
  intro hk;simp[Value.ownBlock] at hk;subst hk;unfold Blk at hb;rw[hb] at hgg;simp only[Option.some.injEq,Obj.cells.injEq] at hgg;exact ht hgg.2.1
theorem Bi(g o j:Nat):(⟨g,o,none⟩:Addr).add j=⟨g,o+j,none⟩:=by unfold Addr.add;split<;>simp_all
theorem OwnAt.cells(h:OwnAt w base e size v n xs)(hn:0<n):∃ad c,v=.slice (some ad) n c∧n≤c∧c≤maxLen∧cS w ad xs:=by
 rcases h.2 with ⟨_,rfl⟩|⟨g,o,cap,cur,rfl,_,hg,h4,h5,h6,h7⟩
 ·omega
 ·refine⟨⟨g,o,none⟩,cap,rfl,h4,h5,fun j u hu=> ?_⟩
  rw[Bi,cell_of_row w g (o+j) cur e (0,0) hg];rw[←h7,List.getElem?_take] at hu;split at hu
  ·rw[List.getElem?_drop] at hu;simpa using hu
  ·cases hu
theorem OwnAt.sl(h:OwnAt w base e size v n xs):Sl w size v n xs:=by
 by_cases hn:0<n
 ·obtain⟨ad,c,rfl,h1,h2,h3⟩:=h.cells hn;exact⟨some ad,c,rfl,h1,h2,h.1,fun _=>⟨ad,rfl,h3⟩⟩
 ·rcases h.2 with ⟨rfl,rfl⟩|⟨g,o,cap,cur,rfl,_,hg,h4,h5,h6,h7⟩
  ·exact⟨none,0,rfl,Nat.le_refl _,Nat.zero_le _,h.1,fun k=>absurd k hn⟩
  ·exact⟨_,cap,rfl,h4,h5,h.1,fun k=>absurd k hn⟩
end
section
variable{P:Program}(w:World)
theorem qD(t ty e:TypeId)(i:TypeInfo)(ht:P.underlying t=some (.slice e))(hi:P.info? e=some i)
 (g o sLen sCap:Nat)(cur:Array Value)(hg:w.heap[g]? =some (.cells cur e (0,0)))
 (a:Addr)(m c:Nat)(news:List Value)(hl:news.length=m*i.size)(hnews:∀j u,news[j]? =some u→w.cell? (a.add j)=some u)(h1:∀u∈news,u.oneCell'=true)
 (hroom:sLen+m≤sCap)(hfit:o+sLen*i.size+news.length≤cur.size):
 (Builtin.append_ #[t,t] ty #[.slice (some ⟨g,o,none⟩) sLen sCap,.slice (some a) m c]).run P w=
  .ok (.slice (some ⟨g,o,none⟩) (sLen+m) sCap) (w.setRow g (cur.toList.take (o+sLen*i.size)++news++cur.toList.drop (o+sLen*i.size+news.length)).toArray):=by
 have hf:=run_firstCells_some (P:=P) w i.size m a m c news hl hnews;have hst:=run_storeCells_at P g (o+sLen*i.size) e news 0 cur w hg (by simpa using hfit) h1
 simp only[Nat.add_zero] at hst;simp[Builtin.append_,run_underlying ht,sizeOf,typeInfo,hi,Builtin.lenOf,hroom,hf,Bi,hst]
theorem vP(base:Nat)(t ty e:TypeId)(i:TypeInfo)(z:Value)(size bytes:Nat)(ht:P.underlying t=some (.slice e))(hi:P.info? e=some i)(hz:i.zero=some z)
 (hsize:i.size=size)(hby:i.bytes=bytes)(hzs:z.cells.size=size)(hsz:0<size)
 (v:Value)(n:Nat)(xs:List Value)(hown:OwnAt w base e size v n xs)
 (a:Addr)(m c:Nat)(news:List Value)(hl:news.length=m*size)(hnews:∀j u,news[j]? =some u→w.cell? (a.add j)=some u)(h1:∀u∈news,u.oneCell'=true)(hm0:0<m)
 (h63:n+m≤maxLen)(hbytes:(n+m)*bytes≤140737488355328)(hbase:base≤w.heap.size):
 ∃v' w',(Builtin.append_ #[t,t] ty #[v,.slice (some a) m c]).run P w=.ok v' w'∧OwnAt w' base e size v' (n+m) (xs++news)∧w.grownBy w' v.ownBlock∧
  ∃g,v'.ownBlock=some g∧(v.ownBlock=some g∨w.heap.size≤g):=by
 subst hsize;subst hby;have hsmall:n+m≤9223372036854775807:=by simp only[maxLen] at h63;omega
 have hlen:(xs++news).length=(n+m)*i.size:=by rw[List.length_append,hown.1,hl,Nat.add_mul]
 have grown:∀(old:Nat),old<n+m→∀(row:Option Nat),
  OwnAt (w.drew.alloc (.cells (xs.toArray++news.toArray++Builtin.zeroCells z.cells (grownCap w (n+m) old e-(n+m))) e)) base e i.size
   (.slice (some ⟨w.heap.size,0,none⟩) (n+m) (grownCap w (n+m) old e)) (n+m) (xs++news)∧
  w.grownBy (w.drew.alloc (.cells (xs.toArray++news.toArray++Builtin.zeroCells z.cells (grownCap w (n+m) old e-(n+m))) e)) row:=by
  intro old ho row;have hge:=grownCap_ge w (n+m) old e;have hcm:grownCap w (n+m) old e≤maxLen:=grownCap_le_maxLen w (n+m) old e h63;refine⟨⟨hlen,.inr ⟨w.heap.size,0,_,_,rfl,hbase,heap_alloc_new w.drew _,hge,hcm,?_,?_⟩⟩,⟨rfl,rfl,rfl,by simp,fun k hk _=>Go.heap_alloc_old w.drew _ hk⟩⟩
  ·simp only[Array.size_append,List.size_toArray,size_zeroCells,hzs,hown.1,hl,←Nat.add_mul,Nat.zero_add];exact Nat.mul_le_mul_right _ (by omega)
  ·simp only[Array.toList_append,List.append_assoc,List.drop_zero];rw[←List.append_assoc,←hlen];exact List.take_left
 rcases hown.2 with ⟨rfl,rfl⟩|⟨g,o,cap,cur,rfl,hbg,hg,hnc,hcm,hcs,htake⟩
 ·have hx:xs=[]:=List.eq_nil_of_length_eq_zero (by simpa using hown.1)
  subst hx;have hr:=run_append_nil (P:=P) w t ty e i z ht hi hz a m c news hl hnews (by omega) (by omega) (by have hb:=hbytes;simp only[Nat.zero_add] at hb;omega)
  have hgr:=grown 0 (by omega) (Value.ownBlock (.slice none 0 0))
  simp only[Nat.zero_add,List.nil_append,Array.empty_append] at hgr⊢;exact⟨_,_,hr,hgr.1,hgr.2,_,rfl,.inr (Nat.le_refl _)⟩
 ·by_cases hroom:n+m≤cap
  ·have hfit:o+n*i.size+news.length≤cur.size:=by
    have:=Nat.mul_le_mul_right i.size hroom;rw[Nat.add_mul] at this;omega
   have hr:=qD (P:=P) w t ty e i ht hi g o n cap cur hg a m c news hl hnews h1 hroom hfit;refine⟨_,_,hr,⟨hlen,.inr ⟨g,o,cap,_,rfl,hbg,setRow_heap w g cur _ e _ hg,hroom,hcm,?_,?_⟩⟩,⟨rfl,rfl,rfl,by simp,fun k _ hk=>setRow_other w g k _ (fun e=>hk (by simp[Value.ownBlock,e]))⟩,g,rfl,.inl rfl⟩
   ·simp only[List.size_toArray,List.length_append,List.length_take,List.length_drop,Array.length_toList];omega
   ·have e1:(cur.toList.take (o+n*i.size)).drop o=xs:=by
     rw[List.drop_take,show o+n*i.size-o=n*i.size by omega];exact htake
    rw[List.append_assoc,List.drop_append_of_le_length (by simp;omega),e1,←List.append_assoc,←hlen]
    exact List.take_left
  ·have holds:∀j u,xs[j]? =some u→w.cell? ((⟨g,o,none⟩:Addr).add j)=some u:=by
    intro j u hu;rw[Bi,cell_of_row w g (o+j) cur e (0,0) hg];rw[←htake,List.getElem?_take] at hu;split at hu
    ·rw[List.getElem?_drop] at hu;simpa using hu
    ·cases hu
   have hr:=run_append_grow (P:=P) w t ty e i z ht hi hz ⟨g,o,none⟩ n cap xs hown.1 holds a m c news hl hnews (by omega) (by omega) (growslice_fits (by omega) hbytes)
   have hgr:=grown cap (by omega) (Value.ownBlock (.slice (some ⟨g,o,none⟩) n cap))
   exact⟨_,_,hr,hgr.1,hgr.2,_,rfl,.inr (Nat.le_refl _)⟩
theorem lE{ops:Array Oper}{rest:List Oper}{o:Oper}{a:Act}{Q:Exit→Act→World→Prop}(hgd:o.guard=none)(s x:Operand)(t:TypeId)
 (ho:o.op=.call {callee:=.builtin .append,args:=#[s,x],argTypes:=#[t,t]})
 (base:Nat)(e:TypeId)(i:TypeInfo)(z:Value)(size bytes:Nat)(ht:P.underlying t=some (.slice e))(hi:P.info? e=some i)(hz:i.zero=some z)
 (hsize:i.size=size)(hby:i.bytes=bytes)(hzs:z.cells.size=size)(hsz:0<size)
 (v:Value)(n:Nat)(xs:List Value)(hs:a.eval s=v)(hown:OwnAt w base e size v n xs)
 (ad:Addr)(m c:Nat)(news:List Value)(hx:a.eval x=.slice (some ad) m c)(hl:news.length=m*size)(hnews:∀j u,news[j]? =some u→w.cell? (ad.add j)=some u)(h1:∀u∈news,u.oneCell'=true)(hm0:0<m)
 (h63:n+m≤maxLen)(hbytes:(n+m)*bytes≤140737488355328)(hbase:base≤w.heap.size)
 (h:∀v' w',OwnAt w' base e size v' (n+m) (xs++news)→w.grownBy w' v.ownBlock→(∃g,v'.ownBlock=some g∧(v.ownBlock=some g∨w.heap.size≤g))→wpList P ops Q rest (a.put o.dst v') w'):wpList P ops Q (o::rest) a w:=by
 refine wpList_plain hgd fun _ hK=> ?_
 obtain⟨v',w',hr,h2,h3,h4⟩:=vP (P:=P) w base t o.type e i z size bytes ht hi hz hsize hby hzs hsz v n xs hown ad m c news hl hnews h1 hm0 h63 hbytes hbase;unfold Oper.wp execOp;simp only[ho,resolve,invoke,builtin,Sem.run_bind,Sem.run_pure,Result.andThen_ok,List.map_toArray,List.map_cons,List.map_nil,hs,hx,hr];exact hK _ _ (h v' w' h2 h3 h4)
end
theorem OwnAt.tail{w:World}{base:Nat}{e:TypeId}{size g o n cap:Nat}{ys xs:List Value}(h:OwnAt w base e size (.slice (some ⟨g,o,none⟩) (n+1) cap) (n+1) (ys++xs))(hy:ys.length=size):OwnAt w base e size (.slice (some ⟨g,o+size,none⟩) n (cap-1)) n xs:=by
 have hl:=h.1;rw[List.length_append,hy,Nat.add_mul] at hl;refine⟨by omega,?_⟩
 rcases h.2 with ⟨h1,_⟩|⟨g',o',cap',cur,h1,hb,hg,h4,h5,h6,h7⟩
 ·cases h1
 ·simp only[Value.slice.injEq,Option.some.injEq,Addr.mk.injEq,and_true,true_and] at h1;obtain⟨⟨rfl,rfl⟩,rfl⟩:=h1;refine .inr ⟨g,o+size,cap-1,cur,rfl,hb,hg,by omega,by omega,?_,?_⟩
  ·have:(cap-1)*size+size=cap*size:=by
    rw[←Nat.succ_mul];congr 1;omega
   omega
  ·rw[Nat.add_mul,Nat.one_mul] at h7;have h8:=congrArg (List.drop size) h7;rw[List.drop_take,List.drop_drop,List.drop_append_of_le_length (by omega),←hy,List.drop_length,List.nil_append] at h8
   rw[hy] at h8;rw[←h8];congr 1
   omega
end Go.Bp
end
section
namespace Go.Bp
open Go.RowKit
def Kv(x:Int×Int):List Value:=[.int .i64 x.1,.int .i64 x.2]
def eE(xs:List (Int×Int)):List Value:=xs.flatMap Kv
theorem iH(x:Int×Int)(l:List (Int×Int)):eE (x::l)=.int .i64 x.1:: .int .i64 x.2::eE l:=rfl
theorem Gr(a b:List (Int×Int)):eE (a++b)=eE a++eE b:=by unfold eE;rw[List.flatMap_append]
theorem wV(l:List (Int×Int)):(eE l).length=l.length*2:=by
 induction l with
 |nil=>rfl
 |cons x l ih=>rw[iH];simp only[List.length_cons,ih];omega
theorem wW(l:List (Int×Int)):∀(k:Nat)(h:k<l.length),(eE l)[k*2]? =some (.int .i64 l[k].1)∧(eE l)[k*2+1]? =some (.int .i64 l[k].2):=by
 induction l with
 |nil=>intro k h;simp at h
 |cons x l ih=>
  intro k h
  cases k with
  |zero=>simp[iH]
  |succ k=>
   have:=ih k (by simpa using h)
   rw[show(k+1)*2=k*2+2 by omega]
   simpa [iH] using this
theorem wU:∀(l:List (Int×Int))(i:Nat)(x:Int×Int),i<l.length→eE (l.set i x)=(eE l).take (i*2)++Kv x++(eE l).drop (i*2+2)
 | [],i,x,h=>by simp at h
 |y::l,0,x,h=>by simp[iH,Kv]
 |y::l,i+1,x,h=>by
  rw[List.set_cons_succ,iH,wU l i x (by simpa using h),iH,show(i+1)*2=i*2+1+1 by omega,List.take_succ_cons,List.take_succ_cons,show i*2+1+1+2=(i*2+2)+1+1 by omega,List.drop_succ_cons,List.drop_succ_cons]
  simp
structure Row(W:World)(e:TypeId)(g o cap:Nat)(cur:Array Value)(xs:List (Int×Int)):Prop where
 blk:Blk W g e cur
 fit:o+cap*2≤cur.size
 len:xs.length≤cap
 read:(cur.toList.drop o).take (xs.length*2)=eE xs
section
variable{W W':World}{e:TypeId}{g o cap:Nat}{cur:Array Value}{xs:List (Int×Int)}
theorem Row.ext(h:Row W e g o cap cur xs)(hE:Ext W W'):Row W' e g o cap cur xs:=⟨h.blk.ext hE,h.fit,h.len,h.read⟩
theorem Row.d(h:Row W e g o cap cur xs):Row W.drew e g o cap cur xs:=⟨h.blk,h.fit,h.len,h.read⟩
theorem Row.cells(h:Row W e g o cap cur xs):cS W ⟨g,o,none⟩ (eE xs):=by
 intro j u hu;rw[Bi,h.blk.cell];rw[←h.read,List.getElem?_take] at hu;split at hu
 ·rw[List.getElem?_drop] at hu;simpa using hu
 ·cases hu
theorem Row.at_(h:Row W e g o cap cur xs){k:Nat}(hk:k<xs.length):cS W ⟨g,o+k*2,none⟩ [.int .i64 xs[k].1,.int .i64 xs[k].2]:=by
 intro j u hu;have h2:=wW xs k hk;have h3:=h.cells (k*2+j) u (by
  rcases j with _|_|j
  ·simpa [h2.1] using hu
  ·simpa [h2.2] using hu
  ·simp at hu)
 rw[Bi] at h3⊢;rw[show o+k*2+j=o+(k*2+j) by omega];exact h3
theorem Row.put(h:Row W e g o cap cur xs){i:Nat}(hi:i<xs.length)(x:Int×Int)(hb:Blk W' g e (aI cur (o+i*2) [.int .i64 x.1,.int .i64 x.2])):Row W' e g o cap (aI cur (o+i*2) [.int .i64 x.1,.int .i64 x.2]) (xs.set i x):=by
 have hf:=h.fit;have hl:=h.len;have hi2:o+i*2+2≤cur.size:=by have:=Nat.mul_le_mul_right 2 hl;omega
 refine⟨hb,?_,by simpa using hl,?_⟩
 ·simp only[aI,List.size_toArray,List.length_append,List.length_take,List.length_drop,Array.length_toList,List.length_cons,List.length_nil];omega
 ·have hxl:=congrArg List.length h.read;rw[List.length_take,List.length_drop,Array.length_toList,wV] at hxl;rw[wU xs i x hi,←h.read,List.length_set];simp only[aI,List.length_cons,List.length_nil];rw[List.append_assoc,List.drop_append_of_le_length (by simp;omega),List.drop_take,show o+i*2-o=i*2 by omega,List.take_take,Nat.min_eq_left (by omega),List.drop_take,List.drop_drop]
  have e1:(List.take (i*2) (List.drop o cur.toList)).length=i*2:=by simp;omega
  have e2:xs.length*2=i*2+(2+(xs.length*2-(i*2+2))):=by omega
  rw[e2,List.take_append,e1,Nat.add_sub_cancel_left,List.append_assoc];congr 1
  ·exact List.take_of_length_le (by rw[e1];omega)
  ·unfold Kv;rw[List.take_append];refine congr (congrArg _ ?_) ?_
   ·exact List.take_of_length_le (by simp only[List.length_cons,List.length_nil];omega)
   ·simp only[List.length_cons,List.length_nil];rw[show 2+(xs.length*2-(i*2+2))-(0+1+1)=xs.length*2-(i*2+2) by omega,show o+i*2+(0+1+1)=o+(i*2+2) by omega]
    congr 1
    omega
theorem Mf{B n:Nat}{v:Value}(h:OwnAt W B e 2 v n (eE xs))(hn:xs.length=n)(h0:0<n):∃g o cap cur,v=.slice (some ⟨g,o,none⟩) n cap∧B≤g∧n≤cap∧cap≤maxLen∧Row W e g o cap cur xs:=by
 subst hn;rcases h.2 with ⟨_,h2⟩|⟨g,o,cap,cur,rfl,hb,hg,h4,h5,h6,h7⟩
 ·omega
 ·exact⟨g,o,cap,cur,rfl,hb,h4,h5,hg,h6,h4,h7⟩
theorem Ek{B:Nat}(h:Row W e g o cap cur xs)(hb:B≤g)(hc:cap≤maxLen):OwnAt W B e 2 (.slice (some ⟨g,o,none⟩) xs.length cap) xs.length (eE xs):=
 ⟨wV xs,.inr ⟨g,o,cap,cur,rfl,hb,h.blk,h.len,hc,h.fit,h.read⟩⟩
end
theorem pK(W:World)(r:Option Nat):W.grownBy W r:=⟨rfl,rfl,rfl,Nat.le_refl _,fun _ _ _=>rfl⟩
theorem gP{A B C:World}{r:Option Nat}(h:A.grownBy B r)(k:B.grownBy C r):A.grownBy C r:=
 ⟨k.os.trans h.os,k.tape.trans h.tape,k.output.trans h.output,Nat.le_trans h.size k.size,fun i hi hn=>(k.block i (Nat.lt_of_lt_of_le hi h.size) hn).trans (h.block i hi hn)⟩
theorem bQ{A B C:World}{r:Option Nat}(h:A.grownBy B r)(k:Ext B C):A.grownBy C r:=
 ⟨k.os.trans h.os,k.tape.trans h.tape,k.output.trans h.output,Nat.le_trans h.size k.size,fun i hi hn=>(k.block i (Nat.lt_of_lt_of_le hi h.size)).trans (h.block i hi hn)⟩
theorem jX{A B C:World}{r:Option Nat}(h:Ext A B)(k:B.grownBy C r):A.grownBy C r:=
 ⟨k.os.trans h.os,k.tape.trans h.tape,k.output.trans h.output,Nat.le_trans h.size k.size,fun i hi hn=>(k.block i (Nat.lt_of_lt_of_le hi h.size) hn).trans (h.block i hi)⟩
def Sw(W0:World)(e:TypeId)(g o cap:Nat)(xs0:List (Int×Int))(W:World):Prop:=
 W0.grownBy W (some g)∧∃cur xs,Row W e g o cap cur xs∧xs.Perm xs0
section
variable{W0 W W':World}{e:TypeId}{g o cap:Nat}{xs0:List (Int×Int)}
theorem Sw.ext(h:Sw W0 e g o cap xs0 W)(k:Ext W W'):Sw W0 e g o cap xs0 W':=by
 obtain⟨h1,cur,xs,h2,h3⟩:=h;exact⟨bQ h1 k,cur,xs,h2.ext k,h3⟩
end
end Go.Bp
end
section
namespace Go.Bp
open Go.RowKit
structure Up(B:Nat)(W W':World):Prop where
 size:W.heap.size≤W'.heap.size
 block:∀k,B≤k→k<W.heap.size→W'.heap[k]? =W.heap[k]?
theorem Up.refl(B:Nat)(W:World):Up B W W:=⟨Nat.le_refl _,fun _ _ _=>rfl⟩
theorem Up.trans{B:Nat}{X Y Z:World}(h:Up B X Y)(k:Up B Y Z):Up B X Z:=⟨Nat.le_trans h.size k.size,fun i hB hi=>(k.block i hB (by have:=h.size;omega)).trans (h.block i hB hi)⟩
theorem Up.mono{B C:Nat}{X Y:World}(h:Up B X Y)(hB:B≤C):Up C X Y:=⟨h.size,fun i hi hl=>h.block i (by omega) hl⟩
theorem Up.ofExt{B:Nat}{X Y:World}(h:Ext X Y):Up B X Y:=⟨h.size,fun i _ hi=>h.block i hi⟩
theorem Up.grown{B:Nat}{X Y:World}{row:Option Nat}(hg:X.grownBy Y row)(hr:∀g,row=some g→g<B):Up B X Y:=
 ⟨hg.size,fun k hB hk=>hg.block k hk (fun e=>by have:=hr k e.symm;omega)⟩
theorem Up.putObj{B:Nat}(W:World)(l:Nat)(o:Obj)(hl:l<B):Up B W (W.putObj l o):=⟨by simp,fun k hk _=>World.putObj_heap_other (by omega)⟩
theorem mF{A B:World}(h:Ext A B):A.grownBy B none:=⟨h.os,h.tape,h.output,h.size,fun k hk _=>h.block k hk⟩
section
variable{P:Program}{ops:Array Oper}{Q:Exit→Act→World→Prop}{n:Nat}
theorem qK{o:Oper}{a:Act}{w:World}{l:Nat}{next next':Act→World→Prop}(hd:∀c,o.op≠ .defer c)(hn:∀a w,next a w→next' a w)(h:o.wp P a w next Q):o.wpIn (Fence.wide.inRound l) n P a w next' Q:=by
 refine⟨fun _ _=>trivial,?_⟩
 have e:o.semAt (Fence.wide.inRound l).round a.eval=execOp a.eval o:=Oper.semAt_eq _ _ _ hd;rw[e];unfold Oper.wp at h
 cases hr:(execOp a.eval o).run P w with
 |ok x w'=>
  rw[hr] at h
  cases x with
  |value v=>exact hn _ _ h
  |skip=>exact hn _ _ h
  |defer d=>exact hn _ _ h
  |enter f args=>
   refine⟨fun h=>by simp[Fence.wide,Fence.inRound] at h,?_⟩
   refine CallsIn.inRound l (callsIn_wide.2 (Calls.mono h fun e w'' he=> ?_))
   cases e with
   |returned v=>exact hn _ _ he
   |panicked c=>exact he
   |outgrown=>exact he
  |row r args=>
   refine⟨fun h=>by simp[Fence.wide,Fence.inRound] at h,fun c cs _=> ?_⟩
   obtain⟨v,w2,h1,h2⟩:=h c cs;exact⟨v,w2,hn _ _ h1,stepsIn_wide.2 h2⟩
  |_=>exact h.elim
 |halt x w'=>
  rw[hr] at h
  cases x with
  |panic v=>exact h
  |_=>exact h.elim
end
end Go.Bp
end
section
namespace Go.Bp
open Go.RowKit
variable{P:Program}{fn:Func}{R:Ending→World→Prop}
theorem nH{f:FuncId}{c:Go.Code}{args:Array Value}{w:World}(hf:P.funcs[f]? =some fn)(hb:fn.body=some c)
 (h:c.wp P (bodyPostM Fence.wide 0 P fn R) {tmps:=args++Array.replicate (fn.ntmps-args.size) undef,defers:=[]} w):Calls P f args w R:=
 callsIn_wide.1 (callsIn_of_wp_marks (n:=0) hf hb trivial (wpIn_wide.2 h) rfl)
theorem jS{e:Exit}{a:Act}{w:World}(h:bodyPost P fn R e a w):bodyPostM Fence.wide 0 P fn R e a w:=by
 cases e with
 |normal=>obtain⟨hd,v,hr,hR⟩:=h;show LeavesInM Fence.wide 0 P fn a.tmps R a.defers .returning w;rw[hd];exact⟨v,hr,hR⟩
 |ret=>obtain⟨hd,v,hr,hR⟩:=h;show LeavesInM Fence.wide 0 P fn a.tmps R a.defers .returning w;rw[hd];exact⟨v,hr,hR⟩
 |panic ch=>obtain⟨hd,hR⟩:=h;show LeavesInM Fence.wide 0 P fn a.tmps R a.defers (.panicking ch) w;rw[hd];exact hR
 |outgrown=>exact h
 |exit id=>exact h.elim
 |goto l=>exact h.elim
theorem pD{a:Act}{w:World}{D:Nat}(hd:a.defers=[{target:=.collected D,args:=#[]}])(hK:w.heap[D]? =some (.deferred (some [])))
 (h:bodyPost P fn R .ret {a with defers:=[]} (w.putObj D (.deferred none))):bodyPostM Fence.wide 0 P fn R .ret a w:=by
 obtain⟨_,v,hr,hR⟩:=h;show LeavesInM Fence.wide 0 P fn a.tmps R a.defers .returning w
 rw[hd];exact⟨by simp,.inl ⟨D,_,rfl,run_takeDeferred hK,v,hr,hR⟩⟩
theorem oA{B D:Nat}{w0 w:World}(h:Below B w0 w)(hB:B≤D)(o:Obj):Below B w0 (w.putObj D o):=
 ⟨h.os,h.tape,h.output,by simpa using h.size,fun k hk=>(World.putObj_heap_other (by omega)).trans (h.block k hk)⟩
def fH(ps:Array Tmp)(vs:Array Value)(a:Act):Act:={tmps:=(ps.zip vs).foldl (fun t(p,v)=>t.setIfInBounds p v) a.tmps,defers:=[]}
end Go.Bp
end
section
namespace Go.Bp
open Go.RowKit
structure UpT(t:TypeId)(B:Nat)(W W':World):Prop where
 size:W.heap.size≤W'.heap.size
 block:∀k,B≤k→k<W.heap.size→(∀cs fz,W.heap[k]? ≠some (.cells cs t fz))→W'.heap[k]? =W.heap[k]?
section
variable{t:TypeId}
theorem UpT.refl(B:Nat)(W:World):UpT t B W W:=⟨Nat.le_refl _,fun _ _ _ _=>rfl⟩
theorem UpT.trans{B:Nat}{X Y Z:World}(h:UpT t B X Y)(k:UpT t B Y Z):UpT t B X Z:=⟨Nat.le_trans h.size k.size,fun i hB hi hn=>by
 have e:=h.block i hB hi hn;exact(k.block i hB (by have:=h.size;omega) (fun cs fz=>by rw[e];exact hn cs fz)).trans e⟩
theorem UpT.mono{B C:Nat}{X Y:World}(h:UpT t B X Y)(hB:B≤C):UpT t C X Y:=⟨h.size,fun i hi hl hn=>h.block i (by omega) hl hn⟩
theorem UpT.ofExt{B:Nat}{X Y:World}(h:Ext X Y):UpT t B X Y:=⟨h.size,fun i _ hi _=>h.block i hi⟩
theorem UpT.grown{B:Nat}{X Y:World}{row:Option Nat}(hg:X.grownBy Y row)(hr:∀g,row=some g→g<B∨∃cs fz,X.heap[g]? =some (.cells cs t fz)):UpT t B X Y:=
 ⟨hg.size,fun k hB hk hn=>hg.block k hk (fun e=>by
  rcases hr k e.symm with h|⟨cs,fz,h⟩
  ·omega
  ·exact hn cs fz h)⟩
theorem UpT.putObj{B:Nat}(W:World)(l:Nat)(o:Obj)(hl:l<B):UpT t B W (W.putObj l o):=⟨by simp,fun k hk _ _=>World.putObj_heap_other (by omega)⟩
theorem UpT.some{B k:Nat}{X Y:World}{o:Obj}(h:UpT t B X Y)(hB:B≤k)(ho:X.heap[k]? =some o)(hn:∀cs fz,o≠ .cells cs t fz):Y.heap[k]? =Option.some o:=
 (h.block k hB (Array.getElem?_eq_some_iff.1 ho).1 (fun cs fz e=>by rw[ho] at e;exact hn cs fz (Option.some.inj e))).trans ho
theorem UpT.blk{B g:Nat}{X Y:World}{t':TypeId}{cs:Array Value}(h:UpT t B X Y)(hB:B≤g)(hb:Blk X g t' cs)(ht:t'≠t):Blk Y g t' cs:=
 h.some hB hb (fun cs' fz e=>by simp only[Obj.cells.injEq] at e;exact ht e.2.1)
end
def Qn{α:Type}(t:TypeId)(P:Program)(g:Nat)(lb:Array Value)(encs:α→Array Value)(G:List α→α→Prop)(Dt:World→Prop)(S Sp:List α→Prop)(N:Nat):Prop:=
 ∀(l:Nat)(J Jx:List α→World→Prop)(W:World),(∀s A B,J s A→Ext A B→J s B)→(∀s A B,Jx s A→Ext A B→Jx s B)→(∀s A,J s A→Dt A)→
  (∀pre x W1,J pre W1→G pre x→pre.length<N→W.heap.size≤W1.heap.size→YieldAt Fence.wide 0 P l (encs x) W1 fun e W'=>
   (e=.returned (.bool true)∧J (pre++ [x]) W'∧UpT t W.heap.size W1 W')∨(e=.returned (.bool false)∧Jx (pre++ [x]) W'))→
  J [] W→
  Calls P g (#[.func (.yield l) #[] #[]]++lb) W fun e W'=>(∃v,e=.returned v)∧((∃xs,S xs∧J xs W')∨(∃pre,Sp pre∧Jx pre W'))
def Ot{α:Type}(t:TypeId)(B:Nat)(I:List α→World→Prop)(Ix:Go.Code→List α→World→Prop)(xs:List α)(W:World):Exit→Act→World→Prop
 | .normal,_,W'=>UpT t B W W'∧I xs W'
 | .ret,_,W'=>UpT t B W W'∧Ix .ret xs W'
 | .exit id,_,W'=>UpT t B W W'∧Ix (.exit id) xs W'
 | .goto t',_,W'=>UpT t B W W'∧Ix (.goto t') xs W'
 | .panic _,_,_=>False
 | .outgrown,_,_=>False
theorem tL{P:Program}{α:Type}{t:TypeId}{g:Operand}{ps:Array Tmp}{assign body:Go.Code}{Q:Exit→Act→World→Prop}{a:Act}{w:World}
 {gf:Nat}{lb:Array Value}(hg:a.eval g=.func (.func gf) #[] lb)(eg:∀args w,(callFunc gf args).run P w=.ok (.enter gf args) w)
 {encs:α→Array Value}{G:List α→α→Prop}{Dt:World→Prop}{S Sp:List α→Prop}{N:Nat}(hseq:Qn t P gf lb encs G Dt S Sp N)(hps:∀x,(encs x).size=ps.size)
 (I:List α→World→Prop)(Ix:Go.Code→List α→World→Prop)(hI:OwnFrom w.heap.size I)(hIx:∀c,OwnFrom w.heap.size (Ix c))(hDt:∀s A,I s A→Dt A)(h0:I [] w)(Ax:α→Act→World→Prop)(hAx:∀x a',OwnFrom w.heap.size (fun(_:Unit)W=>Ax x a' W))
 (hassign:∀(l:Nat)(pre:List α)(x:α)(W:World)(K:Act→World→Prop),I pre W→G pre x→w.heap.size<W.heap.size→(∀a' W',Ext W W'→Ax x a' W'→K a' W')→
  assign.wpIn (Fence.wide.inRound l) 0 P (Exit.then K (fun _ _ _=>False)) {tmps:=(ps.zip (encs x)).foldl (fun t(p,v)=>t.setIfInBounds p v) a.tmps,defers:=[]} W)
 (hbody:∀(l:Nat)(pre:List α)(x:α)(a':Act)(W:World),I pre W→G pre x→Ax x a' W→pre.length<N→w.heap.size<W.heap.size→body.wpIn (Fence.wide.inRound l) 0 P (Ot t w.heap.size I Ix (pre++ [x]) W) a' W)
 (hdone:∀(D:Nat)(xs:List α)(W:World),w.heap.size≤D→S xs→I xs W→W.heap[D]? =some (.deferred (some []))→Q .normal {a with defers:={target:=.collected D,args:=#[]}::a.defers} W)
 (hstop:∀(D:Nat)(c:Go.Code)(pre:List α)(W:World),w.heap.size≤D→Sp pre→Ix c pre W→W.heap[D]? =some (.deferred (some []))→c.wp P Q {a with defers:={target:=.collected D,args:=#[]}::a.defers} W):
 (Go.Code.rangeFunc g ps assign body).wp P Q a w:=by
 refine wpIn_wide (n:=0).1 (wpIn_rangeFunc ?_);intro fn hfn;rw[show Fence.wide.round=none from rfl]
 obtain⟨rec,hrec⟩:∃rec:LoopState→Option Go.Code→Loop,rec=fun st pe=>{state:=st,pending:=pe,fn,tmps:=a.tmps,params:=ps,assign,body,defers:=w.heap.size}:=⟨_,rfl⟩
 obtain⟨W1,hW1⟩:∃W1,(w.alloc (.deferred (some []))).alloc (.loop (rec .ready none))=W1:=⟨_,rfl⟩;have hs1:W1.heap.size=w.heap.size+2:=by rw[←hW1];simp
 have hL1:W1.heap[w.heap.size+1]? =some (.loop (rec .ready none)):=by
  rw[←hW1];have:=World.alloc_heap_new (w.alloc (.deferred (some []))) (.loop (rec .ready none));rwa [World.size_alloc] at this
 have hK1:W1.heap[w.heap.size]? =some (.deferred (some [])):=by
  rw[←hW1];exact(Below.heap_alloc _ _ _ (by simp)).trans (World.alloc_heap_new w _)
 have hI1:I [] W1:=by rw[←hW1];exact hI.alloc _ (hI.alloc _ h0)
 refine⟨w.heap.size+1,[{target:=.collected w.heap.size,args:=#[]}],W1,{target:=.fn (.func gf) lb,args:=#[.func (.yield (w.heap.size+1)) #[] #[]]},W1,gf,
  #[.func (.yield (w.heap.size+1)) #[] #[]]++lb,W1,?_,?_,?_,?_,fun h=>by simp[Fence.wide] at h,?_⟩
 ·rw[←hW1,hrec];exact run_enterLoop_outer _ _ _ _ _
 ·simp only[resolve,hg];simp[go_sem]
 ·intro f' hf';trivial
 ·simp[invoke,go_sem,eg]
 ·refine callsIn_wide.2 (Calls.mono (hseq (w.heap.size+1)
   (fun pre W=>I pre W∧W.heap[w.heap.size+1]? =some (.loop (rec .ready none))∧W.heap[w.heap.size]? =some (.deferred (some [])))
   (fun pre W=>∃c,Ix c pre W∧W.heap[w.heap.size+1]? =some (.loop (rec .done (some c)))∧W.heap[w.heap.size]? =some (.deferred (some [])))
   W1 ?_ ?_ (fun s A hs=>hDt s A hs.1) ?_ ⟨hI1,hL1,hK1⟩) ?_)
  ·rintro s A B ⟨h1,h2,h3⟩ hb;exact⟨hI s A B none h1 (mF hb) (fun r e=>by cases e),hb.heap_some h2,hb.heap_some h3⟩
  ·rintro s A B ⟨c,h1,h2,h3⟩ hb;exact⟨c,hIx c s A B none h1 (mF hb) (fun r e=>by cases e),hb.heap_some h2,hb.heap_some h3⟩
  ·-- one round
   rintro pre x W ⟨hi,hl,hk⟩ hG hlen hsz;have hlt0:w.heap.size+1<W.heap.size:=(Array.getElem?_eq_some_iff.1 hl).1;have hy:=run_yield (P:=P) (args:=encs x) hl (by rw[hrec];exact hps x)
   rw[hrec] at hy;refine⟨fn,_,assign,body,hy,roundIn_of_wpIn hfn (hassign _ pre x W _ hi hG (by omega) (fun a' V hE hax=> ?_))⟩
   have hi:=hI _ _ _ none hi (mF hE) (fun r e=>by cases e)
   have hl:=hE.heap_some hl;have hk:=hE.heap_some hk;have hlt:w.heap.size+1<V.heap.size:=(Array.getElem?_eq_some_iff.1 hl).1;refine⟨_,run_beginRound hl (by rw[hrec]),?_⟩
   have hl2:(V.putObj (w.heap.size+1) (.loop {rec .ready none with state:=.busy})).heap[w.heap.size+1]? =some (.loop {rec .ready none with state:=.busy}):=World.putObj_heap_same hlt
   have hk2:(V.putObj (w.heap.size+1) (.loop {rec .ready none with state:=.busy})).heap[w.heap.size]? =some (.deferred (some [])):=(World.putObj_heap_other (by omega)).trans hk
   have hw2:UpT t W1.heap.size W (V.putObj (w.heap.size+1) (.loop {rec .ready none with state:=.busy})):=(UpT.ofExt hE).trans (UpT.putObj _ _ _ (by omega))
   refine wpIn_mono (hbody _ pre x a' _ (hI.putObj _ hi (by omega) hl rfl) hG ((hAx x a').putObj (s:=()) _ hax (by omega) hl rfl) hlen (by simp;omega)) ?_
   have fin:∀(jump:Option Go.Code)(W3:World),UpT t w.heap.size (V.putObj (w.heap.size+1) (.loop {rec .ready none with state:=.busy})) W3→
    (Instr.endRound (w.heap.size+1) jump).run P W3=.ok (.bool jump.isNone) (W3.putObj (w.heap.size+1) (.loop (rec (if jump.isNone then .ready else .done) jump)))∧
    W3.heap[w.heap.size+1]? =some (.loop {rec .ready none with state:=.busy})∧
    (W3.putObj (w.heap.size+1) (.loop (rec (if jump.isNone then .ready else .done) jump))).heap[w.heap.size+1]? =some (.loop (rec (if jump.isNone then .ready else .done) jump))∧
    (W3.putObj (w.heap.size+1) (.loop (rec (if jump.isNone then .ready else .done) jump))).heap[w.heap.size]? =some (.deferred (some [])):=fun jump W3 hk3=>by
    have hl3:=hk3.some (by omega) hl2 (fun cs fz e=>by cases e)
    have:=run_endRound (P:=P) jump hl3;rw[hrec] at this⊢;exact⟨this,by rw[hrec] at hl3;exact hl3,World.putObj_heap_same (Array.getElem?_eq_some_iff.1 hl3).1,(World.putObj_heap_other (by omega)).trans (hk3.some (Nat.le_refl _) hk2 (fun cs fz e=>by cases e))⟩
   rintro e a3 W3 hp
   cases e with
   |normal=>
    obtain⟨hk3,hi3⟩:=hp;obtain⟨hr,hl3,hl4,hk4⟩:=fin none W3 hk3;exact⟨_,_,hr,.inl ⟨rfl,⟨hI.putObj _ hi3 (by omega) hl3 rfl,hl4,hk4⟩,(hw2.trans (hk3.mono (by omega))).trans (UpT.putObj _ _ _ (by omega))⟩⟩
   |ret=>
    obtain⟨hk3,hi3⟩:=hp;obtain⟨hr,hl3,hl4,hk4⟩:=fin (some .ret) W3 hk3;exact⟨_,_,hr,.inr ⟨rfl,.ret,(hIx _).putObj _ hi3 (by omega) hl3 rfl,hl4,hk4⟩⟩
   |exit id=>
    obtain⟨hk3,hi3⟩:=hp;obtain⟨hr,hl3,hl4,hk4⟩:=fin (some (.exit id)) W3 hk3;exact⟨_,_,hr,.inr ⟨rfl,.exit id,(hIx _).putObj _ hi3 (by omega) hl3 rfl,hl4,hk4⟩⟩
   |goto t'=>
    obtain⟨hk3,hi3⟩:=hp;obtain⟨hr,hl3,hl4,hk4⟩:=fin (some (.goto t')) W3 hk3;exact⟨_,_,hr,.inr ⟨rfl,.goto t',(hIx _).putObj _ hi3 (by omega) hl3 rfl,hl4,hk4⟩⟩
   |panic ch=>exact hp.elim
   |outgrown=>exact hp.elim
  ·-- behind the iterator
   rintro e W2 ⟨⟨v,rfl⟩,(⟨xs,hS,hi,hl,hk⟩|⟨pre,hSp,c,hi,hl,hk⟩)⟩
   ·exact⟨none,_,by have:=run_endLoop (P:=P) hl (by rw[hrec];simp);rw[hrec] at this;exact this,hdone _ xs _ (Nat.le_refl _) hS (hI.putObj _ hi (by omega) hl rfl) ((World.putObj_heap_other (by omega)).trans hk)⟩
   ·exact⟨some c,_,by have:=run_endLoop (P:=P) hl (by rw[hrec];simp);rw[hrec] at this;exact this,wpIn_wide.2 (hstop _ c pre _ (Nat.le_refl _) hSp ((hIx c).putObj _ hi (by omega) hl rfl) ((World.putObj_heap_other (by omega)).trans hk))⟩
variable{P:Program}
def kG:List Nat→World→World
 | [],w=>w
 |D::l,w=>kG l (w.putObj D (.deferred none))
def marks(l:List Nat):List Deferred:=l.map fun D=>{target:=.collected D,args:=#[]}
theorem oJ{B:Nat}:∀(l:List Nat){w0 w:World},Below B w0 w→(∀D∈l,B≤D)→Below B w0 (kG l w)
 | [],_,_,h,_=>h
 |D::l,_,_,h,hl=>oJ l (oA h (hl D (by simp)) _) (fun E hE=>hl E (by simp[hE]))
theorem lW:∀(l:List Nat)(w:World)(k:Nat),k∉l→(kG l w).heap[k]? =w.heap[k]?
 | [],_,_,_=>rfl
 |D::l,w,k,h=>by
  rw[kG,lW l _ k (fun hm=>h (by simp[hm]))]
  exact World.putObj_heap_other (fun e=>h (by simp[e]))
theorem qO{fn:Func}{R:Ending→World→Prop}{tmps:Array Value}:∀(l:List Nat)(w:World),l.Nodup→(∀D∈l,w.heap[D]? =some (.deferred (some [])))→
 LeavesInM Fence.wide 0 P fn tmps R [] .returning (kG l w)→LeavesInM Fence.wide 0 P fn tmps R (marks l) .returning w
 | [],_,_,_,h=>h
 |D::l,w,hn,hl,h=>by
  rw[List.nodup_cons] at hn;refine⟨by simp,.inl ⟨D,_,rfl,run_takeDeferred (hl D (by simp)),qO l _ hn.2 (fun E hE=> ?_) h⟩⟩
  have:E≠D:=fun e=>hn.1 (e▸hE)
  exact(World.putObj_heap_other (by omega)).trans (hl E (by simp[hE]))
theorem zT{fn:Func}{R:Ending→World→Prop}{a:Act}{w:World}{l:List Nat}(hd:a.defers=marks l)(hn:l.Nodup)(hK:∀D∈l,w.heap[D]? =some (.deferred (some [])))
 (h:bodyPost P fn R .ret {a with defers:=[]} (kG l w)):bodyPostM Fence.wide 0 P fn R .ret a w:=by
 obtain⟨_,v,hr,hR⟩:=h;show LeavesInM Fence.wide 0 P fn a.tmps R a.defers .returning w
 rw[hd];exact qO l w hn hK ⟨v,hr,hR⟩
end Go.Bp
end
section
namespace Go.Bp
open Go.RowKit
section
variable{P:Program}{md:Region.Mode}{ops:Array Oper}{Q:Exit→Act→World→Prop}{n:Nat}
def kL(ops:Array Oper):Bool:=ops.all fun o=>match o.op with| .defer _=>false|_=>true
theorem uF(h:kL ops=true){i:Nat}{o:Oper}(ho:ops[i]? =some o):∀c,o.op≠ .defer c:=by
 intro c e;unfold kL at h;rw[Array.all_eq_true] at h;obtain⟨hi,rfl⟩:=Array.getElem?_eq_some_iff.1 ho;have:=h i hi;rw[e] at this;cases this
theorem xM{i l:Nat}{K K':Act→World→Prop}{a:Act}{w:World}(hd:kL ops=true)(hQ:¬LetsOut Q)(hK:∀a w,K a w→K' a w)(h:wpOp P ops Q i K a w):wpOpIn (Fence.wide.inRound l) n P ops Q i K' a w:=by
 unfold wpOpIn;unfold wpOp at h
 cases ho:ops[i]? with
 |none=>rw[ho] at h;exact hK _ _ h
 |some o=>
  rw[ho] at h;simp only at h⊢;split at h
  ·rename_i hw;rw[if_pos hw];rcases h with h|⟨_,h2⟩
   ·exact qK (uF hd ho) hK h
   ·exact absurd h2 hQ
  ·rename_i hw;rw[if_neg hw];exact⟨fun _ _=>trivial,hK _ _ h⟩
theorem mR{l:Nat}(hd:kL ops=true)(hQ:¬LetsOut Q):∀(fuel:Nat)(cX:Array Bool)(a:Act)(w:World),wpAny P md ops Q fuel cX a w→wpAnyIn (Fence.wide.inRound l) n P md ops Q fuel cX a w
 |0,_,_,_,h=>h
 |fuel+1,cX,a,w,h=>by
  refine⟨h.1,fun i hi=> ?_⟩
  exact xM hd hQ (fun a' w' h'=>mR hd hQ fuel _ a' w' h') (h.2 i hi)
theorem bK{id l:Nat}{a:Act}{w:World}(t:OTree)(S:World→Prop)(hm:P.follows .mixedOrders=true)(hd:kL ops=true)(hL:¬LetsOut Q)
 (hs:Region.noSelect ops=true)(hf:Nat.ble t.depth ops.size=true)(hok:fO .any ops t (Array.replicate ops.size false)=true)
 (hQ:∀c(a:Act)(d:Tmp)(v:Value)(w:World),Q (.panic c) (a.put (some d) v) w→Q (.panic c) a w)
 (hS:S w.drew)(h:S w.drew→cU P ops Q S t a w.drew):(Code.region id ops true).wpIn (Fence.wide.inRound l) n P Q a w:=
 wpIn_region_any hm (mR hd hL _ _ _ _ (wpAny_of_held _ _ _ _ (eS hs hQ t _ _ _ _ (Nat.le_of_ble_eq_true hf) hok (h hS))))
theorem jU{l:Nat}(hQ:¬LetsOut Q):∀(r:List Oper)(a:Act)(w:World),(∀o∈r,∀c,o.op≠ .defer c)→wpList P ops Q r a w→wpListIn (Fence.wide.inRound l) n P ops Q r a w
 | [],_,_,_,h=>h
 |o::r,a,w,hd,h=>by
  have ih:=fun a w h=>jU (l:=l) hQ r a w (fun o ho=>hd o (by simp[ho])) h
  unfold wpListIn;unfold wpList at h;split at h
  ·rename_i hw;rw[if_pos hw];rcases h with h|⟨_,h2⟩
   ·exact qK (hd o (by simp)) (fun a w h=>ih a w h) h
   ·exact absurd h2 hQ
  ·rename_i hw;rw[if_neg hw];first|exact⟨fun _ _=>trivial,ih _ _ h⟩|exact ih _ _ h
end
end Go.Bp
end
section
namespace Go.Bp
open Go.RowKit
section
variable{P:Program}{ops:Array Oper}{Q:Exit→Act→World→Prop}{a:Act}{w:World}{n l id:Nat}
theorem zZ(h:kL ops=true):∀o∈ops.toList,∀c,o.op≠ .defer c:=by
 intro o ho;obtain⟨i,hi,rfl⟩:=List.getElem_of_mem ho;exact uF h (i:=i) (by simp)
theorem tW(hQ:¬LetsOut Q)(hd:kL ops=true)(h:wpList P ops Q ops.toList a w):(Go.Code.region id ops false).wpIn (Fence.wide.inRound l) n P Q a w:=
 wpIn_region_list (jU hQ _ _ _ (zZ hd) h)
end
section
variable{P:Program}{ops:Array Oper}{Q:Exit→Act→World→Prop}{a:Act}{w:World}{n l:Nat}{r:List Oper}
def vA(r:List Oper):Bool:=r.all fun o=>match o.op with| .defer _=>false|_=>true
theorem Af(hQ:¬LetsOut Q)(hd:vA r=true)(h:wpList P ops Q r a w):wpListIn (Fence.wide.inRound l) n P ops Q r a w:=by
 refine jU hQ r a w (fun o ho c e=> ?_) h
 unfold vA at hd;rw[List.all_eq_true] at hd;have:=hd o ho;rw[e] at this;cases this
end
theorem qE{P:Program}{Q:Exit→Act→World→Prop}{a:Act}{w:World}{n l id:Nat}{r:List Oper}(hQ:¬LetsOut Q)(hd:vA r=true)(h:wpList P r.toArray Q r a w):(Go.Code.region id r.toArray false).wpIn (Fence.wide.inRound l) n P Q a w:=
 wpIn_region_lit (Af hQ hd h)
theorem rC(p:Tmp)(v:Value)(a:Act):fH #[p] #[v] a={tmps:=a.tmps.setIfInBounds p v,defers:=[]}:=by simp[fH]
theorem Lu{P:Program}{c:Go.Code}{Q:Exit→Act→World→Prop}{a:Act}{w:World}{F:Nat→Act}{R:Nat→World→Prop}(h:c.wp P (fun e a' w'=>e=.normal∧∃g,a'=F g∧R g w') a w)(k:∀g w',R g w'→Q .normal (F g) w'):c.wp P Q a w:=
 Code.wp_mono (fun e a' w' ⟨he,g,ha,hR⟩=>by subst he;subst ha;exact k g w' hR) h
theorem Lt{P:Program}{c:Go.Code}{Q:Exit→Act→World→Prop}{a:Act}{w:World}{F:Nat→Nat→Nat→Nat→Act}{R:Nat→Nat→Nat→Nat→World→Prop}(h:c.wp P (fun e a' w'=>e=.normal∧∃g1 g2 g3 g4,a'=F g1 g2 g3 g4∧R g1 g2 g3 g4 w') a w)(k:∀g1 g2 g3 g4 w',R g1 g2 g3 g4 w'→Q .normal (F g1 g2 g3 g4) w'):c.wp P Q a w:=
 Code.wp_mono (fun e a' w' ⟨he,g1,g2,g3,g4,ha,hR⟩=>by subst he;subst ha;exact k g1 g2 g3 g4 w' hR) h
variable{P:Program}
theorem jJ{α:Type}{t:TypeId}{g:Operand}{ps:Array Tmp}{ri:Nat}{p d:Tmp}{e ty1 ty2:TypeId}{pos1 pos2:String}{aft:Array Edge}{body:Go.Code}{Q:Exit→Act→World→Prop}{a:Act}{w:World}{z:Value}{s b:Nat}{val:α→Value}
 {gf:Nat}{lb:Array Value}(hg:a.eval g=.func (.func gf) #[] lb)(eg:∀args w,(callFunc gf args).run P w=.ok (.enter gf args) w)
 {encs:α→Array Value}{G:List α→α→Prop}{Dt:World→Prop}{S Sp:List α→Prop}{N:Nat}(hseq:Qn t P gf lb encs G Dt S Sp N)(hps:∀x,(encs x).size=ps.size)
 (hi:(P.info? e).map (fun i=>(i.zero,i.size,i.bytes))=some (some z,s,b))(hvs:∀x,(val x).cells.size=s)(hz:z.cells.size=s)(hv1:∀x,∀c∈(val x).cells.toList,c.oneCell'=true)
 (hp:∀x k,((fH ps (encs x) a).put (some d) (.pointer (some ⟨k,0,none⟩))).eval (.tmp p)=val x)(hdd:∀x k,((fH ps (encs x) a).put (some d) (.pointer (some ⟨k,0,none⟩))).eval (.tmp d)=.pointer (some ⟨k,0,none⟩))
 (I:List α→World→Prop)(Ix:Go.Code→List α→World→Prop)(hI:OwnFrom w.heap.size I)(hIx:∀c,OwnFrom w.heap.size (Ix c))(hDt:∀s A,I s A→Dt A)(h0:I [] w)
 (hbody:∀(l:Nat)(pre:List α)(x:α)(k:Nat)(W:World),I pre W→G pre x→w.heap.size≤k→Blk W k e (val x).cells→pre.length<N→w.heap.size<W.heap.size→body.wpIn (Fence.wide.inRound l) 0 P (Ot t w.heap.size I Ix (pre++ [x]) W) ((fH ps (encs x) a).put (some d) (.pointer (some ⟨k,0,none⟩))) W)
 (hdone:∀(D:Nat)(xs:List α)(W:World),w.heap.size≤D→S xs→I xs W→W.heap[D]? =some (.deferred (some []))→Q .normal {a with defers:={target:=.collected D,args:=#[]}::a.defers} W)
 (hstop:∀(D:Nat)(c:Go.Code)(pre:List α)(W:World),w.heap.size≤D→Sp pre→Ix c pre W→W.heap[D]? =some (.deferred (some []))→c.wp P Q {a with defers:={target:=.collected D,args:=#[]}::a.defers} W):
 (Go.Code.rangeFunc g ps (Go.Code.region ri #[{dst:=some d,op:=Op.alloc e,type:=ty1,pos:=pos1,after:=#[],guard:=none},{dst:=none,op:=Op.store e (Operand.tmp d) (Operand.tmp p),type:=ty2,pos:=pos2,after:=aft,guard:=none}] false) body).wp P Q a w:=by
 refine tL hg eg hseq hps I Ix hI hIx hDt h0 (fun x a' W=>∃k,w.heap.size≤k∧Blk W k e (val x).cells∧a'=(fH ps (encs x) a).put (some d) (.pointer (some ⟨k,0,none⟩))) ?_ ?_ ?_ hdone hstop
 ·rintro x a' _ A B row ⟨k,h1,h2,h3⟩ hg hr;refine⟨k,h1,?_,h3⟩;refine h2.grown hg (fun e=> ?_)
  obtain⟨_,o,ho,hc⟩:=hr k e.symm;unfold Blk at h2;rw[h2] at ho;injection ho with ho;subst ho;cases hc
 ·intro l pre x W K _ _ hs hK;refine tW (by rintro⟨_,_,h⟩;exact h) (by simp[kL]) ?_
  refine aO (e:=e) (u:=d) (v:=val x) hi (fun k=>hp x k) (fun k=>hdd x k) (hvs x) hz (hv1 x) fun W' k hE hB hk=> ?_
  exact hK _ _ hE ⟨k,by omega,hB,rfl⟩
 ·rintro l pre x a' W h1 h2 ⟨k,h3,h4,rfl⟩ h5 h6;exact hbody l pre x k W h1 h2 h3 h4 h5 h6
end Go.Bp
end
section
namespace Go.Bp
open Go.RowKit
def _root_.Go.Act.sets(a:Act)(ks:List Nat)(x:Nat→Value):Act:={a with tmps:=ks.foldl (fun t k=>t.setIfInBounds k (x k)) a.tmps}
theorem tB{P:Program}{c:Go.Code}{Q:Exit→Act→World→Prop}{a:Act}{w:World}(ks:List Nat)(R:(Nat→Value)→World→Prop)(h:c.wp P (fun e a' w'=>(e=.normal→∃x,a'=Act.sets a ks x∧R x w')∧(e≠ .normal→Q e a' w')) a w)(k:∀x w',R x w'→Q .normal (Act.sets a ks x) w'):c.wp P Q a w:=by
 refine Code.wp_mono (fun e a' w' ⟨h1,h2⟩=> ?_) h
 by_cases he:e=.normal
 ·subst he;obtain⟨x,rfl,hR⟩:=h1 rfl;exact k x w' hR
 ·exact h2 he
def _root_.Go.Act.get(a:Act)(k:Nat):Value:=(a.tmps[k]?).getD undef
theorem bL{a a':Act}{ks:List Nat}{T:(Nat→Value)→Prop}(h:a'=Act.sets a ks a'.get)(hT:T a'.get):∃x,a'=Act.sets a ks x∧T x:=⟨_,h,hT⟩
theorem Es{a a':Act}{ks:List Nat}(h:a'=Act.sets a ks a'.get):∃x,a'=Act.sets a ks x:=⟨_,h⟩
theorem eF{P:Program}{c:Go.Code}{Q:Exit→Act→World→Prop}{a:Act}{w:World}(ks:List Nat)(R:(Nat→Value)→World→Prop)(h:c.wp P (fun e a' w'=>e=.normal∧∃x,a'=Act.sets a ks x∧R x w') a w)(k:∀x w',R x w'→Q .normal (Act.sets a ks x) w'):c.wp P Q a w:=
 Code.wp_mono (fun e a' w' ⟨he,x,ha,hR⟩=>by subst he;subst ha;exact k x w' hR) h
theorem pR{P:Program}{c:Go.Code}{Q:Exit→Act→World→Prop}{a:Act}{w:World}(e0:Exit)(ks:List Nat)(R:(Nat→Value)→World→Prop)(h:c.wp P (fun e a' w'=>e=e0∧∃x,a'=Act.sets a ks x∧R x w') a w)(k:∀x w',R x w'→Q e0 (Act.sets a ks x) w'):c.wp P Q a w:=
 Code.wp_mono (fun e a' w' ⟨he,x,ha,hR⟩=>by subst he;subst ha;exact k x w' hR) h
end Go.Bp
end
section
namespace Go.St
open Go Go.Bp Go.RowKit Go.Proofs
theorem Fa:((List.range 65).all fun a=>decide (bits .and .u64 (a:Int) 4294967295=(a:Int)))=true:=by decide +kernel
theorem Bw{a:Nat}(h:a≤64):bits .and .u64 (a:Int) 4294967295=(a:Int):=by
 have:=List.all_eq_true.1 Fa a (List.mem_range.2 (by omega))
 exact of_decide_eq_true this
theorem Fw(n:Nat)(h:n≤64)(w:World):Calls Tryz.prog 125 #[.int .u64 1,.int .u64 n] w (fun e w'=>e=.returned (.tuple #[.int .u64 0,.int .u64 n])∧Ext w w'):=by
 have hE:=Ext.refl w;have a1:bits .and .u64 1 4294967295=1:=Bw (a:=1) (by omega)
 have a0:bits .and .u64 0 4294967295=0:=Bw (a:=0) (by omega)
 have an:=Bw h;have d0:(n:Int)/4294967296=0:=by omega
 have w0:IntKind.u64.wrap (n:Int)=(n:Int):=by simp[IntKind.wrap,IntKind.bits,IntKind.signed];omega
 go_enter Tryz.func125,Tryz.ntmps125
 go_wp2
 go_ret2
 exact⟨rfl,hE⟩
theorem Mq(n:Nat)(h:n≤64)(w:World):Calls Tryz.prog 103 #[.int .u64 1,.int .u64 n] w (fun e w'=>e=.returned (.tuple #[.int .u64 0,.int .u64 n])∧Ext w w'):=by
 have hE:=Ext.refl w;go_enter Tryz.func103,Tryz.ntmps103
 go_wp2_with (first|(go_at_call 125;((with_reducible refine(Fw n h _).mono ?_);rintro e Wc1 ⟨rfl,hEc1⟩;(try replace hE:=hE.trans hEc1))))
 go_ret2
 exact⟨rfl,hE⟩
def mX(m n:Nat):Array Value:=(List.replicate m (Value.int .i64 (-1))++List.replicate (n-m) (Value.int .i64 0)).toArray
theorem Fj{m n:Nat}(h:m≤n):(mX m n).size=n:=by simp[mX];omega
theorem Jg{m n j:Nat}(h:j<m):(mX m n)[j]? =some (.int .i64 (-1)):=by
 unfold mX;rw[List.getElem?_toArray,List.getElem?_append_left (by simp;exact h)]
 simp[h]
theorem Fi{m n c:Nat}(h:m+c≤n):((mX m n).toList.take m++List.replicate c (Value.int .i64 (-1))++(mX m n).toList.drop (m+c)).toArray=mX (m+c) n:=by
 unfold mX;congr 1
 rw[List.take_append_of_le_length (by simp),List.take_of_length_le (by simp),List.drop_append,List.drop_of_length_le (by simp),List.length_replicate,List.drop_replicate]
 simp only[List.nil_append];rw[List.replicate_append_replicate,show n-m-(m+c-m)=n-(m+c) by omega]
theorem xV(w:World)(g:Nat)(cs:Array Value):w.grownBy (w.setRow g cs) (some g):=⟨rfl,rfl,rfl,by simp[World.setRow],fun k _ hk=>setRow_other w g k _ (fun e=>hk (by simp[e]))⟩
section
variable{ops:Array Oper}{Q:Exit→Act→World→Prop}{a:Act}{w:World}{d:Option Tmp}{ty:TypeId}{pos:String}{after:Array Edge}{rest:List Oper}
theorem Pr{o:Oper}(hg:o.guard=none){v:Value}{W:World}(h:(execOp a.eval o).run Tryz.prog w=.ok (.value v) W)(k:wpList Tryz.prog ops Q rest (a.put o.dst v) W):wpList Tryz.prog ops Q (o::rest) a w:=
 wpList_plain hg fun K hK=>by unfold Oper.wp;rw[h];exact hK _ _ k
theorem Mg{x y:Operand}{g off dl dc g' sl sc:Nat}{cur src:Array Value}(hx:a.eval x=.slice (some ⟨g,off,none⟩) dl dc)(hy:a.eval y=.slice (some ⟨g',0,none⟩) sl sc)(hB:Blk w g 3 cur)(hS:Blk w g' 3 src)
 (c:Nat)(hc:c=Nat.min sl dl)(h1:∀j,j<c→src[j]? =some (.int .i64 (-1)))(hfit:off+c≤cur.size)
 (k:∀W,Blk W g 3 (cur.toList.take off++List.replicate c (Value.int .i64 (-1))++cur.toList.drop (off+c)).toArray→w.grownBy W (some g)→wpList Tryz.prog ops Q rest (a.put d (.int .i64 c)) W):
 wpList Tryz.prog ops Q (⟨d,.call {callee:=.builtin .copy,args:=#[x,y],argTypes:=#[41,41]},ty,pos,after,none⟩::rest) a w:=by
 have hsrc:∀(j:Nat)(v:Value),(List.replicate c (Value.int .i64 (-1)))[j]? =some v→w.cell? ((⟨g',0,none⟩:Addr).add j)=some v:=by
  intro j v hj;rw[List.getElem?_replicate] at hj;split at hj
  ·rename_i hlt;injection hj with hj;subst hj
   have:=hS.cell j;rw[h1 j hlt] at this;have e:(⟨g',0,none⟩:Addr).add j=⟨g',j,none⟩:=by unfold Addr.add;split<;>simp_all
   rw[e];exact this
  ·cases hj
 have hrun:=run_copy_row (P:=Tryz.prog) w 41 41 ty 3 g off dl dc ⟨g',0,none⟩ sl sc cur 3 (List.replicate c (Value.int .i64 (-1))) Tryz.underlying41 (by kernel_rfl) hB (by simpa using hc) hsrc (by simpa using hfit) (fun v hv=>by rw[List.mem_replicate] at hv;rw[hv.2];rfl)
 simp only[List.length_replicate] at hrun;refine Pr (o:=⟨d,.call {callee:=.builtin .copy,args:=#[x,y],argTypes:=#[41,41]},ty,pos,after,none⟩) rfl (v:=.int .i64 c) (W:=w.setRow g (cur.toList.take off++List.replicate c (Value.int .i64 (-1))++cur.toList.drop (off+c)).toArray) ?_ (k _ (setRow_heap w g cur _ 3 _ hB) (xV w g _));simp only[execOp];simp[resolve,invoke,builtin,hx,hy,hrun,goInt]
theorem Eg{x y:Operand}{g m n dl dc g' sl sc c:Nat}{src:Array Value}(hx:a.eval x=.slice (some ⟨g,m,none⟩) dl dc)(hy:a.eval y=.slice (some ⟨g',0,none⟩) sl sc)(hB:Blk w g 3 (mX m n))(hS:Blk w g' 3 src)
 (hc:c=Nat.min sl dl)(h1:∀j,j<c→src[j]? =some (.int .i64 (-1)))(hfit:m+c≤n)
 (k:∀W,Blk W g 3 (mX (m+c) n)→w.grownBy W (some g)→wpList Tryz.prog ops Q rest (a.put d (.int .i64 c)) W):
 wpList Tryz.prog ops Q (⟨d,.call {callee:=.builtin .copy,args:=#[x,y],argTypes:=#[41,41]},ty,pos,after,none⟩::rest) a w:=by
 refine Mg hx hy hB hS c hc h1 (by rw[Fj (by omega)];exact hfit) fun W hW hg=>k W ?_ hg
 rw[Fi hfit] at hW;exact hW
end
theorem Pk:(Tryz.prog.info? 3).map (fun i=>(i.zero,i.size,i.bytes))=some (some (.int .i64 0),1,8):=by kernel_rfl
theorem Dy{x:Int}(h: -9223372036854775808≤x)(h2:x≤9223372036854775807):IntKind.i64.wrap x=x:=by simp[IntKind.wrap,IntKind.bits,IntKind.signed];omega
theorem Ce(g n:Nat)(h1:1≤n)(h:n≤64)(w:World)(hB:Blk w g 3 #[.int .i64 (-1)]):Calls Tryz.prog 71 #[.slice (some ⟨g,0,none⟩) 1 1,.int .i64 n] w (fun e w'=>∃g',e=.returned (.slice (some ⟨g',0,none⟩) n n)∧w.heap.size≤g'∧Blk w' g' 3 (mX n n)∧Ext w w'):=by
 have hE:=Ext.refl w;have w0:IntKind.u64.wrap (n:Int)=(n:Int):=by simp[IntKind.wrap,IntKind.bits,IntKind.signed];omega
 have w1:IntKind.i64.wrap (n:Int)=(n:Int):=Dy (by omega) (by omega)
 have n0:¬((n:Int)<0):=by omega
 have n1:¬((9223372036854775807:Int)<(n:Int)):=by omega
 go_enter Tryz.func71,Tryz.ntmps71
 have mn:Nat.min 1 n=1:=Nat.min_eq_left h1;obtain⟨r7,r7e⟩:∃f:Nat→Array Oper→Bool→Go.Code,f=Go.Code.region:=⟨_,rfl⟩;rw[show Go.Code.region 7=r7 7 by rw[r7e]]
 replace r7e:=Lib.hid r7e;go_wp2_with (first|(go_at_call 103;((with_reducible refine(Mq n h _).mono ?_);rintro e Wc1 ⟨rfl,hEc1⟩;(try replace hE:=hE.trans hEc1);(try replace hB:=hB.ext hEc1);have hE1s:=hE.size))|(((with_reducible refine Ch (d:=some 30) (z:=.int .i64 0) (n:=n) (b:=8) Tryz.underlying41 Pk ?_ ?_ ?_ ?_ ?_ ?_);rfl;omega;omega;rfl;rfl;intro W30 g30 hE30 hB30 hg30;replace hE:=hE.trans hE30;have hS:=hB.ext hE30;replace hg30:=Nat.le_trans hE1s hg30;have hB0:Blk W30 g30 3 (mX 0 n):=(by simpa [mX] using hB30))))
 have e7:=r7e.out;subst e7;go_wp2_with (first|((with_reducible refine Eg (d:=some 33) (g:=g30) (m:=0) (g':=g) (dl:=n) (dc:=n) (sl:=1) (sc:=1) (c:=1) ?_ ?_ hB0 hS ?_ ?_ ?_ ?_);rfl;rfl;exact mn.symm;(intro j hj;obtain rfl:j=0:=(by omega);rfl);omega;intro W33 hB33 hg33;replace hE:=bI hE hg33 hg30 hE.size))
 simp only[Nat.zero_add] at hB33;clear hB hS hB0;go_loopw [8] (fun i wr=>∃m:Nat,i=.int .i64 m∧1≤m∧m≤n∧Blk wr g30 3 (mX m n)∧Ext w wr) (fun i _=>n-(intOf i).toNat)
 case atStart=>exact⟨1,rfl,by omega,by omega,hB33,hE⟩
 case round=>
  obtain⟨m,rfl,hm1,hmn,hB,hX⟩:=hrel;clear hB33 hE;by_cases hlt:m<n
  ·have z:(m:Int)<(n:Int):=by omega
   have z1:(m:Int)≤(n:Int):=by omega
   obtain⟨c,hc⟩:∃c,Nat.min m (n-m)=c:=⟨_,rfl⟩;have hc1:1≤c:=by rw[←hc];exact Nat.le_min.2 ⟨hm1,by omega⟩
   have hcm:c≤m:=by rw[←hc];exact Nat.min_le_left _ _
   have hcn:m+c≤n:=by
    have:c≤n-m:=by rw[←hc];exact Nat.min_le_right _ _
    omega
   have wc:IntKind.i64.wrap ((m:Int)+(c:Int))=(m:Int)+(c:Int):=Dy (by omega) (by omega)
   go_wp2
   have hBd:=hB.d;have hXd:=Ext.todrew (Ext.refl wr);apply eF [38,39,40,41,42,43,44,45,46,8] (fun x w'=>x 8=.int .i64 ((m+c:Nat):Int)∧Blk w' g30 3 (mX (m+c) n)∧wr.grownBy w' (some g30))
   case h=>
    refine aR (.take 0 (.take 1 (.take 2 (.take 3 (.take 4 (.take 5 (.take 6 (.one 7 (.take 8 (.take 9 .nil)))))))))) (fun w'=>True) ?_ (fun hHd=> ?_)
    ·exact True.intro
    repeat' first|((with_reducible refine aB ?_);(first|((with_reducible refine aB (i:=3) ?_);refine tk (v:=.slice (some ⟨g30,m,none⟩) (n-m) (n-m)) ?_ hHd ?_;(·(intro wq hSw;go_simp;omega)))|((with_reducible refine aB (i:=6) ?_);refine tk (v:=.slice (some ⟨g30,0,none⟩) m n) ?_ hHd ?_;(·(intro wq hSw;go_simp;done)))|(refine tk (v:= ?_) ?_ hHd ?_;rotate_left;(·(intro wq hSw;(try dsimp only at hSw);go_simp;(try with_reducible rfl)))));(try simp only[pS]))|((with_reducible refine bC ?_);refine aQ (by simp only[gS];rfl) ?_)|((with_reducible refine aH (d:=some 45) ?_);(((with_reducible refine Eg (d:=some 45) (g:=g30) (m:=m) (n:=n) (g':=g30) (dl:=n-m) (dc:=n-m) (sl:=m) (sc:=n) (c:=c) ?_ ?_ hBd hBd ?_ ?_ ?_ ?_);rfl;rfl;exact hc.symm;(intro j hj;exact Jg (by omega));omega;intro W45 hB45 hg45)))|((with_reducible refine bB ?_);clear hHd;refine aJ ?_ (fun hHd=> ?_);(·exact True.intro);(try simp only[pS]))|(with_reducible refine aG ?_)
    all_goals
     refine⟨rfl,?_⟩;refine bL ?_ ?_
     ·simp only[Act.sets,Act.put,List.foldl_cons,List.foldl_nil,List.setIfInBounds_toArray,List.set_cons_zero,List.set_cons_succ,Act.get];rfl
     exact⟨by push_cast;rfl,hB45,jX hXd hg45⟩
   rintro x W45 ⟨hx,hB45,hg45⟩;simp only[Act.sets,Act.put,List.foldl_cons,List.foldl_nil,List.setIfInBounds_toArray,List.set_cons_zero,List.set_cons_succ,hx];go_wp2
   go_roundw
   case rel=>exact⟨m+c,rfl,by omega,hcn,hB45,bI hX hg45 hg30 hX.size⟩
   case measure=>simp[intOf];omega
  ·obtain rfl:m=n:=by omega
   have z:¬((m:Int)<(m:Int)):=by omega
   go_wp2
   go_ret
   exact⟨g30,rfl,hg30,hB,hX⟩
end Go.St
end
section
namespace Go.Bp
open Go.RowKit Go.Proofs
theorem vH(v u:Value)(xs ys:List Int)(w:World)(h:bG w v xs)(h':bG w u ys):
 Calls Tryz.prog 37 #[v,u] w fun e w'=>e=.returned (.bool (decide (xs=ys)))∧Ext w w':=by
 obtain⟨A,c,rfl,h1,h2,h3,h4⟩:=h;obtain⟨A',c',rfl,h1',h2',h3',h4'⟩:=h';unfold maxLen at h2 h2';clear h3 h3';by_cases hl:xs.length=ys.length
 ·have hl1:((xs.length:Int) !=(ys.length:Int))=false:=by simp[hl]
  go_enter Tryz.func37,Tryz.ntmps37
  have Hl:=Lib.hid hl;clear hl;go_wp2
  go_loopw [5] (fun i wr=>Ext w wr∧∃k:Nat,k≤xs.length∧i=.int .i64 k∧xs.take k=ys.take k) (fun i _=>xs.length-(intOf i).toNat)
  case atStart=>exact⟨Ext.refl _,0,by omega,rfl,by simp⟩
  case round=>
   obtain⟨hE,k,hk,rfl,hn⟩:=hrel;have Hn:=Lib.hid hn;clear hn;by_cases hlt:k<xs.length
   ·obtain⟨ad,rfl,hc⟩:=h4 (by omega)
    have hlt':k<ys.length:=by rw[←Hl.out];exact hlt
    obtain⟨ad',rfl,hc'⟩:=h4' (by omega)
    have e1:=(hc.ext hE).i hlt;have e2:=(hc'.ext hE).i hlt';clear h4 h4' hc hc';go_wp2
    go_quiet (fail)
    go_wp2
    ·go_ret
     have he:(xs[k] !=ys[k])=true:=by assumption
     refine⟨?_,hE.drewN _⟩;have hne:xs≠ys:=fun e=>by subst e;simp at he
     simp[hne]
    ·have he:(xs[k] !=ys[k])=false:=by assumption
     go_roundw
     case rel=>
      refine⟨hE.drewN _,k+1,by omega,by go_num,?_⟩
      rw[cI _ hlt,cI _ hlt',Hn.out];simp at he;rw[he]
     case measure=>simp[intOf];omega
   ·go_wp2
    go_ret
    obtain rfl:k=xs.length:=by omega
    have this:=Hn.out;rw[List.take_length,Hl.out,List.take_length] at this;exact⟨by simp[this],hE⟩
 ·have hl1:((xs.length:Int) !=(ys.length:Int))=true:=by rw[bne_iff_ne];omega
  go_enter Tryz.func37,Tryz.ntmps37
  have Hl:=Lib.hid hl;clear hl;go_wp2
  go_ret
  exact⟨by simp;intro e;exact Hl.out (by rw[e]),Ext.refl w⟩
end Go.Bp
end
section
namespace Go.Bp
open Go.RowKit Go.Proofs
theorem uN{s:ByteArray}(h:inB s.size 1 16=false):dM s=false:=by simp[dM,h]
theorem wO{s:ByteArray}(h0:0<s.size)(h:inB s[0].toNat 97 122=false):dM s=false:=by
 unfold dM
 cases hl:s.data.toList with
 |nil=>simp
 |cons b r=>
  have:s[0]=b:=by
   have:s.data.toList[0]'(by rw[hl];simp)=b:=by simp[hl]
   show s.data[0]=b;simpa using this
  rw[this] at h;simp[h]
theorem wP{s:ByteArray}{k:Nat}(hk:k<s.size)(h:gG s[k]=false):dM s=false:=by
 unfold dM;have:s.data.toList.all gG=false:=by
  rw[List.all_eq_false];exact⟨s[k],by rw[List.mem_iff_getElem];exact⟨k,by simpa using hk,rfl⟩,by simp[h]⟩
 simp[this]
theorem uM{s:ByteArray}(h1:inB s.size 1 16=true)(h0:0<s.size)(h:inB s[0].toNat 97 122=true)(ha:∀k(hk:k<s.size),gG s[k]=true):dM s=true:=by
 unfold dM
 cases hl:s.data.toList with
 |nil=>
  have:s.data.toList.length=0:=by rw[hl];rfl
  rw[Array.length_toList] at this;exact absurd h0 (by show¬0<s.data.size;omega)
 |cons b r=>
  have hb:s[0]=b:=by
   have:s.data.toList[0]'(by rw[hl];simp)=b:=by simp[hl]
   show s.data[0]=b;simpa using this
  have:(b::r).all gG=true:=by
   rw[←hl,List.all_eq_true];intro x hx;obtain⟨k,hk,rfl⟩:=List.mem_iff_getElem.1 hx;exact ha k (by simpa using hk)
  rw[hb] at h;simp only[h1,h,this,Bool.and_self]
end Go.Bp
end
