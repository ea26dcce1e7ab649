import Derived.Shelf.SlSortCmp.NoneTotal
import Derived.Test.YtbfbepnkofampaaGreatDoorXP16
set_option maxRecDepth 100000
set_option synthInstance.maxSize 2000
set_option synthInstance.maxHeartbeats 400000
set_option maxHeartbeats 8000000
set_option linter.all false
section
namespace Go.Walk
open Go Go.Bp Go.RowKit
def Grw(a b:World):Prop:=Ext a b∧a.drawn≤b.drawn
class GrC (a:outParam World) (b:World):Prop where h:Grw a b
class GxC (a b:World):Prop where h:Grw a b
section
variable{a W b b':World}{g n:Nat}{t e:TypeId}{l:List Value}{v:Value}{P:Program}
variable{ops:Array Oper}{Q:Exit→Act→World→Prop}{A:Act}{rest:List Oper}
variable{d:Option Tmp}{ty:TypeId}{pos:String}{after:Array Edge}{x:Operand}
theorem Grw.refl:Grw a a:=⟨Ext.refl _,Nat.le_refl _⟩
theorem Grw.trans{c:World}(h:Grw a b)(k:Grw b c):Grw a c:=⟨h.1.trans k.1,Nat.le_trans h.2 k.2⟩
theorem Grw.drew:Grw a a.drew:=⟨Ext.todrew (Ext.refl _),Nat.le_succ _⟩
theorem Grw.alloc(o:Obj):Grw a (a.alloc o):=⟨Ext.ofAlloc _ _,Nat.le_refl _⟩
theorem Grw.grow(h:Grw a b):∃q os,b=Go.Sort.grow (a.drewN q) os:=by
 obtain⟨h1,h2⟩:=h;refine⟨b.drawn-a.drawn,b.heap.extract a.heap.size b.heap.size,?_⟩;have hh:b.heap=a.heap++b.heap.extract a.heap.size b.heap.size:=by
  apply Array.ext_getElem?;intro i;rw[Array.getElem?_append];by_cases hi:i<a.heap.size
  ·rw[if_pos hi,h1.block i hi]
  ·rw[if_neg hi,Array.getElem?_extract];by_cases hj:i<b.heap.size
   ·rw[if_pos (by have:=h1.size;omega),show a.heap.size+(i-a.heap.size)=i by omega]
   ·rw[if_neg (by have:=h1.size;omega),Array.getElem?_eq_none (by omega)]
 have e1:=h1.os;have e2:=h1.tape;have e3:=h1.output
 cases b
 cases a
 simp only[World.drewN,Go.Sort.grow] at*;subst e1 e2 e3;rw[show∀p q:Nat,q≤p→q+(p-q)=p by omega]
 ·rw[←hh]
 ·exact h2
instance(priority:=2000)GxC.refl:GxC a a:=⟨Grw.refl⟩
instance(priority:=900)GxC.step[s:GrC b' b][x:GxC a b']:GxC a b:=⟨x.h.trans s.h⟩
instance(priority:=1100)[s:GrC a b]:StepC a b:=⟨s.h.1⟩
instance GrC.drew:GrC W W.drew:=⟨Grw.drew⟩
theorem Mf(k:∀W' g,Grw W W'→Blk W' g e (A.eval x).cells→W.heap.size≤g→wpList P ops Q rest (A.put d (.pointer (some ⟨g,0,none⟩))) W'):
 wpList P ops Q (⟨d,.box e x,ty,pos,after,none⟩::rest) A W:=
 wpList_plain rfl fun K hK=>by
  have h:(execOp A.eval (⟨d,.box e x,ty,pos,after,none⟩:Oper)).run P W=.ok (.value (.pointer (some ⟨W.heap.size,0,none⟩))) (W.alloc (.cells (A.eval x).cells e)):=by
   simp[execOp,Instr.box,newVar,newRow,newObj,Sem.run]
  unfold Oper.wp;rw[h];exact hK _ _ (k _ _ (Grw.alloc _) (Blk.new _ _ _) (Nat.le_refl _))
theorem Dj(k:∀W' g,GrC W W'→BlkC W' g e l→AtC W g→wpList P ops Q rest (A.put d (.pointer (some ⟨g,0,none⟩))) W')(hc:(A.eval x).cells=l.toArray:=by(simp[Act.eval,Act.put,Value.cells];with_unfolding_all rfl)):
 wpList P ops Q (⟨d,.box e x,ty,pos,after,none⟩::rest) A W:=
 Mf fun W' g hE hB hg=>k W' g ⟨hE⟩ ⟨by rw[←hc];exact hB⟩ ⟨hg⟩
theorem zM{parts:Array (Nat×Operand)}{cs:Array Value}(h:(Instr.buildSlice t n (parts.map fun(i,x)=>(i,A.eval x))).run P W=.ok (.slice (some ⟨W.heap.size,0,none⟩) n n) (W.alloc (.cells cs e)))
 (k:∀W' g,Grw W W'→Blk W' g e cs→W.heap.size≤g→wpList P ops Q rest (A.put d (.slice (some ⟨g,0,none⟩) n n)) W'):
 wpList P ops Q (⟨d,.buildSlice t n parts,ty,pos,after,none⟩::rest) A W:=
 wpList_plain rfl fun K hK=>by
  have h':(execOp A.eval (⟨d,.buildSlice t n parts,ty,pos,after,none⟩:Oper)).run P W=.ok (.value (.slice (some ⟨W.heap.size,0,none⟩) n n)) (W.alloc (.cells cs e)):=by
   simp[execOp,h]
  unfold Oper.wp;rw[h'];exact hK _ _ (k _ _ (Grw.alloc _) (Blk.new _ _ _) (Nat.le_refl _))
theorem xW{n:Nat}{parts:Array (Nat×Operand)}{z:List Value}[st:SlT P t e][q:ZeroT P e z]
 (k:∀W' g,GrC W W'→BlkC W' g e l→AtC W g→wpList P ops Q rest (A.put d (.slice (some ⟨g,0,none⟩) n n)) W')
 (h:parts.toList.map (·.1)=List.range n∧(∀p∈parts.toList,(A.eval p.2).cells.size=z.length)∧(parts.toList.flatMap fun p=>(A.eval p.2).cells.toList)=l∧n*z.length≤16777216∧0<z.length:=by
  (refine⟨by with_unfolding_all rfl,by(simp[Act.eval,Act.put,Value.cells]),?_⟩;refine⟨by(simp[Act.eval,Act.put,Value.cells];with_unfolding_all rfl),by simp,by simp⟩)):
 wpList P ops Q (⟨d,.buildSlice t n parts,ty,pos,after,none⟩::rest) A W:=by
 obtain⟨h1,h2,h3,h4,h5⟩:=h;obtain⟨zv,b,i1,i2,_⟩:=q.h;obtain⟨i,hi0,hz,hs,hby⟩:=info_parts i1;refine zM (e:=e) (cs:=l.toArray) ?_ fun W' g hE hB hg=>k W' g ⟨hE⟩ ⟨hB⟩ ⟨hg⟩
 have hn:parts.toList.length=n:=by have:=congrArg List.length h1;simpa using this
 have hp:(parts.map fun(i,x)=>(i,A.eval x)).toList=((parts.toList.map fun p=>A.eval p.2).zipIdx 0).map fun q=>(q.2,q.1):=by
  apply List.ext_getElem?;intro j;have hj:(parts.toList.map (·.1))[j]? =(List.range n)[j]? :=by rw[h1]
  by_cases hjn:j<parts.toList.length
  ·have hj2:j<n:=by omega
   rw[List.getElem?_map,List.getElem?_range hj2,List.getElem?_eq_getElem hjn] at hj;simp only[Option.map_some,Option.some.injEq] at hj;simp only[Array.toList_map,List.getElem?_map,List.getElem?_zipIdx,List.getElem?_eq_getElem hjn,Option.map_some,Nat.zero_add];rw[hj]
  ·simp only[Array.toList_map,List.getElem?_map,List.getElem?_zipIdx,List.getElem?_eq_none (show parts.toList.length≤j by omega),Option.map_none]
 have hv:∀v∈parts.toList.map (fun p=>A.eval p.2),v.cells.size=z.length:=by
  intro v hv;obtain⟨p,hp,rfl⟩:=List.mem_map.1 hv;exact h2 p hp
 have hzs:zv.cells.size=z.length:=by rw[i2];simp
 have hf:=qV (size:=z.length) (parts.toList.map fun p=>A.eval p.2) 0 ((List.range (n*z.length)).map fun j=>zv.cells[j%zv.cells.size]!) hv (by simp[hn])
 have hll:((parts.toList.map fun p=>A.eval p.2).flatMap fun v=>v.cells.toList)=l:=by rw[List.flatMap_map];exact h3
 rw[hll] at hf;simp only[Nat.zero_mul,List.take_zero,List.nil_append] at hf;have hr:(Array.range (n*z.length)).map (fun j=>zv.cells[j%zv.cells.size]!)=((List.range (n*z.length)).map fun j=>zv.cells[j%zv.cells.size]!).toArray:=by
  apply Array.ext';simp
 unfold Instr.buildSlice;have h6:¬(n*z.length>16777216):=by omega
 have hfl:Instr.fill (fun i=>some (i*z.length,z.length)) ((Array.range (n*z.length)).map fun j=>zv.cells[j%zv.cells.size]!) (parts.map fun(i,x)=>(i,A.eval x)).toList=some l.toArray:=by rw[hr,hp];exact hf
 by_cases h0:n*z.length=0
 ·have hn0:n=0:=by rcases Nat.mul_eq_zero.1 h0 with h|h<;>omega
  subst hn0;have hpn:parts.toList=[]:=List.length_eq_zero_iff.1 hn;have hpa:parts=#[]:=by apply Array.ext';simpa using hpn
  subst hpa;have:l=[]:=by rw[←h3];rfl
  subst this;simp[run_underlying st.h,sizeOf,typeInfo,hi0,hs,Instr.fill,newRow,newObj,Sem.run];congr 2
  apply Array.ext';simp
 ·simp[run_underlying st.h,sizeOf,typeInfo,zeroValue,hi0,hz,hs,h0,h6,newRow,newObj];have hfl':Instr.fill (fun i=>some (i*z.length,z.length)) ((Array.range (n*z.length)).map fun j=>zv.cells[j%zv.cells.size]!) (List.map (fun x=>(x.fst,A.eval x.snd)) parts.toList)=some l.toArray:=by simpa using hfl
  rw[hfl'];simp[Sem.run]
theorem Ow{id:Nat}{a:Act}{w:World}(t:OTree)(h:Grw w w.drew→wpTree P ops Q (Grw w) t a w.drew)(hm:P.follows .mixedOrders=true:=by kernel_rfl)(hs:Region.noSelect ops=true:=by kernel_rfl)(hf:Nat.ble t.depth ops.size=true:=by kernel_rfl)(hok:okTree .any ops t (Array.replicate ops.size false)=true:=by kernel_rfl)(hQ:∀c(a:Act)(d:Tmp)(v:Value)(w:World),Q (.panic c) (a.put (some d) v) w→Q (.panic c) a w:=by intro _ _ _ _ _ h;first|exact h|exact absurd h.1 (fun e=>by cases e)):(Code.region id ops true).wp P Q a w:=
 dA t (Grw w) Grw.drew h hm hs hf hok hQ
abbrev GI(W:World)(n:Int)(e:Ending)(W':World):Prop:=e=.returned (.int .i64 n)∧GrC W W'
abbrev GB(W:World)(n:Bool)(e:Ending)(W':World):Prop:=e=.returned (.bool n)∧GrC W W'
abbrev GL{α:Type}[Enc α](W:World)(l:List α)(e:Ending)(W':World):Prop:=∃A c,e=.returned (.slice A l.length c)∧ListB α W' (.slice A l.length c) l∧GrC W W'
end
end Go.Walk
end
section
namespace Go.Walk
open Go Go.Bp Go.RowKit Go.Sort Go.Shelf Go.Proofs
section
variable{α:Type}[Enc α][Inhabited α]
theorem tB(l:List α):flatK Enc.enc (Enc.size α) l.toArray=(encL l).toArray:=by
 have hs:(flatK Enc.enc (Enc.size α) l.toArray).size=(encL l).toArray.size:=by rw[size_flatK];simp[encL_len]
 refine ext_get! hs fun t ht=> ?_
 have ht':t<l.length*Enc.size α:=by simpa using ht
 rw[get_flatK _ _ _ t (by simpa using ht')]
 have k0:0<Enc.size α:=by
  rcases Nat.eq_zero_or_pos (Enc.size α) with h|h;·rw[h] at ht';simp at ht'
  ·exact h
 have hi:t/Enc.size α<l.length:=(Nat.div_lt_iff_lt_mul k0).2 ht';have hj:t%Enc.size α<(Enc.enc l[t/Enc.size α]).length:=by rw[Enc.len];exact Nat.mod_lt _ k0
 have e:=encL_get l hi (t%Enc.size α) _ (List.getElem?_eq_getElem hj);rw[Nat.mul_comm,Nat.div_add_mod] at e;have e1:(encL l).toArray[t]! =(Enc.enc l[t/Enc.size α])[t%Enc.size α]:=by
  have:t<(encL l).length:=by rw[encL_len];exact ht'
  rw[getElem!_pos _ t (by simpa using this)]
  rw[List.getElem?_eq_getElem this] at e;simpa using e
 rw[e1,getElem!_pos l.toArray _ (by simpa using hi),getElem!_pos _ _ (by simpa using hj)]
 simp
theorem Fi{W:World}{g:Nat}{e:TypeId}{cur:Array Value}{l:List α}(hb:Blk W g e cur)(h:cur.toList.take (l.length*Enc.size α)=encL l)(hc:l.length*Enc.size α≤cur.size):HoldsK Enc.enc (Enc.size α) W g 0 l.toArray:=by
 unfold HoldsK;rw[tB];intro j hj;have hj':j<l.length*Enc.size α:=by simpa [encL_len] using hj
 have e:(encL l)[j]? =cur[j]? :=by
  rw[←h,List.getElem?_take_of_lt hj'];simp
 have hj2:j<(encL l).length:=by simpa using hj
 refine⟨?_,hb.frozen _⟩;rw[show(0:Nat)+j=j by omega,hb.cell,←e,getElem!_pos (encL l).toArray j hj,List.getElem?_eq_getElem hj2]
 rfl
theorem Nu{W:World}{g:Nat}{e:TypeId}{cur F:Array Value}(hb:Blk W g e cur):Blk (putRow id W g 0 F) g e (putCells id 0 F cur):=by
 unfold Blk putRow mapBlock;simp only[Array.getElem?_modify,if_true];rw[show W.heap[g]? =_ from hb]
 rfl
theorem Ja{F cur:Array Value}(h:F.size≤cur.size):(putCells id 0 F cur).toList.take F.size=F.toList:=by
 apply List.ext_getElem?;intro i;unfold putCells;rw[List.getElem?_take];by_cases hi:i<F.size
 ·rw[if_pos hi];have hc:i<cur.size:=by omega
  simp[Array.getElem?_toList,hc,hi]
 ·rw[if_neg hi];simp;omega
theorem El{W:World}{g n:Nat}{F:Array Value}:W.grownBy (putRow id (Sort.ahead W n) g 0 F) (some g):=by
 refine⟨rfl,rfl,rfl,by simp[putRow,mapBlock,Sort.ahead],fun j hj hr=> ?_⟩
 unfold putRow mapBlock;simp only[Array.getElem?_modify];rw[if_neg (fun h=>hr (by rw[h]))]
 rfl
theorem xD(W:World)(os:Array Obj):Ext W (Go.Sort.grow W os):=
 ⟨rfl,rfl,rfl,by simp[Go.Sort.grow],fun j hj=>by simp[Go.Sort.grow,Array.getElem?_append_left hj]⟩
theorem pK{P:Program}{ρ:Ren}(L:SlLaysF0.n6 P ρ)(aE:∀w,(isAgg (ρ.t 24)).run P w=.ok true w)(zE:∀w,(Go.sizeOf (ρ.t 24)).run P w=.ok (Enc.size α) w)(hv:∀x:α,Enc.val x=.agg (Enc.enc x).toArray)(cf:α→α→Int)(hO:SWO (ltOf cf)){gf:Nat}{cb:Array Value}
 (eg:∀args w,(callFunc gf args).run P w=.ok (.enter gf args) w){W B:World}{A:Option Addr}{n c:Nat}{e:TypeId}{l:List α}(h:RowC W (.slice A n c) B e (Enc.size α) n (encL l))(hn:n=l.length)(h0:0<n)(hlt:n<4611686018427387904)
 (hcmp:∀W',W.grownBy W' (Value.slice A n c).ownBlock→∀x y:α,Calls P gf (#[Enc.val x,Enc.val y]++cb) W' (fun e W2=>e=.returned (.int .i64 (cf x y))∧GrC W' W2)):
 Calls P (ρ.f 6) #[.slice A n c,.func (.func gf) #[] cb] W (fun o W'=>o=.returned (.tuple #[])∧∃l':List α,l'.Perm l∧l'.Pairwise (fun a b=>¬cf b a<0)∧RowC W' (.slice A n c) B e (Enc.size α) n (encL l')∧GrowC W W' B (.slice A n c)):=by
 rcases h.h.2 with ⟨h',_⟩|⟨g,cap,cur,h',hb,hg,hnc,hcm,hcs,htake⟩
 ·simp at h';omega
 ·simp only[Value.slice.injEq,true_and] at h';obtain⟨rfl,rfl⟩:=h';have hcsz:l.length*Enc.size α≤cur.size:=by rw[hcs,←hn];exact Nat.mul_le_mul_right _ hnc
  have hH:=Fi (l:=l) (show Blk W g e cur from hg) (by rw[←hn];exact htake) hcsz
  have hlw:g<W.heap.size:=Blk.lt (show Blk W g e cur from hg)
  have hgr:∀m(dk:Array α)os,W.grownBy (sortWorldK Enc.enc (Enc.size α) W g 0 m dk os) (some g):=fun m dk os=>bN El (grown_of_ext (xD _ _))
  have hC:CmpLays P gf cb Enc.enc (Enc.size α) cf g 0 l.toArray.size W:=fun m os dk hs x y=>by
   have:=hcmp _ (hgr m dk os) x y;rw[hv,hv] at this;exact this.mono fun e w ⟨he,hg⟩=>⟨he,hg.h.grow⟩
  have hcon:=AnyQ.slices_SortFunc L (Enc.size α) aE zE Enc.enc Enc.len Enc.one cf hO gf cb g 0 c l.toArray W eg hC hH hlw (by simpa [←hn] using hlt)
  rw[show l.toArray.size=n by simp[hn]] at hcon
  refine hcon.mono ?_;rintro o W' ⟨he,d',m,os,hp,hs,rfl⟩;have hsz:d'.size=n:=by rw[hp.1];simp[hn]
  obtain⟨l',rfl⟩:∃l':List α,d'=l'.toArray:=⟨d'.toList,by simp⟩
  have hl':l'.length=n:=by simpa using hsz
  refine⟨he,l',?_,?_,⟨?_,.inr ⟨g,c,putCells id 0 (flatK Enc.enc (Enc.size α) l'.toArray) cur,rfl,hb,?_,hnc,hcm,?_,?_⟩⟩,⟨hgr m l'.toArray os,fun g2 hg2=> ?_⟩⟩
  ·have:=hp.2.2;rw[show((l'.toArray).extract 0 n).toList=l' by simp;exact List.take_of_length_le (by omega),show((l.toArray).extract 0 n).toList=l by simp[hn]] at this
   exact this
  ·rw[List.pairwise_iff_getElem];intro i j hi hj hij;have:=hs i j (Nat.zero_le _) hij (by omega)
   rw[getElem!_pos l'.toArray j (by simpa using hj),getElem!_pos l'.toArray i (by simpa using hi)] at this
   unfold ltOf at this;simpa using this
  ·rw[encL_len,hl']
  ·exact(Nu (show Blk (Sort.ahead W m) g e cur from hg)).ext (xD _ _)
  ·simpa [putCells] using hcs
  ·have hf:(flatK Enc.enc (Enc.size α) l'.toArray).size=n*Enc.size α:=by rw[size_flatK];simp[hl']
   have:=Ja (F:=flatK Enc.enc (Enc.size α) l'.toArray) (cur:=cur) (by rw[hf,hn];exact hcsz)
   rw[hf] at this;rw[this,tB]
  ·have:g=g2:=by simpa [Value.ownBlock] using hg2
   subst this;exact hb
end
end Go.Walk
end
section
namespace Go.Rg
open Go Go.Bp Go.RowKit Go.Walk Go.Proofs
def cmpI(x y:Int):Int:=if x<y then -1 else if y<x then 1 else 0
theorem Ol(x:Int)(w:World):Calls Tryz.prog 127 #[.int .i64 x] w (GB w false):=by
 go_enter Tryz.func127,Tryz.ntmps127
 go_wp2
 all_goals(try(go_ret;refine⟨?_,⟨GxC.h⟩⟩;first|rfl))
instance{W:World}{x:Int}:FunC Tryz.prog 127 #[.int .i64 x] W (GB W false):=⟨Ol x W⟩
theorem Kx(x y:Int)(w:World):Calls Tryz.prog 65 #[.int .i64 x,.int .i64 y] w (GI w (cmpI x y)):=by
 by_cases h1:x<y
 ·have e:cmpI x y= -1:=by unfold cmpI;rw[if_pos h1]
  rw[e];clear e;go_enter Tryz.func65,Tryz.ntmps65
  go_wp2_with (first|(with_reducible refine aB ?_;first|rintro _ V ⟨rfl,(_:GrC _ _)⟩))
  all_goals(try(go_ret;refine⟨?_,⟨GxC.h⟩⟩;first|rfl))
 by_cases h2:y<x
 ·have e:cmpI x y=1:=by unfold cmpI;rw[if_neg h1,if_pos h2]
  rw[e];clear e;have h3:¬(x<y):=h1;go_enter Tryz.func65,Tryz.ntmps65
  go_wp2_with (first|(with_reducible refine aB ?_;first|rintro _ V ⟨rfl,(_:GrC _ _)⟩))
  all_goals(try(go_ret;refine⟨?_,⟨GxC.h⟩⟩;first|rfl))
 ·have e:cmpI x y=0:=by unfold cmpI;rw[if_neg h1,if_neg h2]
  rw[e];clear e;go_enter Tryz.func65,Tryz.ntmps65
  go_wp2_with (first|(with_reducible refine aB ?_;first|rintro _ V ⟨rfl,(_:GrC _ _)⟩))
  all_goals(try(go_ret;refine⟨?_,⟨GxC.h⟩⟩;first|rfl))
class CmpI (x y:Int) (r:outParam Int):Prop where h:cmpI x y=r
instance{W:World}{x y r:Int}[q:CmpI x y r]:FunC Tryz.prog 65 #[.int .i64 x,.int .i64 y] W (GI W r):=⟨by rw[←q.h];exact Kx x y W⟩
theorem Fv(a b:Int)(x y:List Int):cmpL (a::x) (b::y)=if cmpI a b=0 then cmpL x y else cmpI a b:=by
 unfold cmpI;simp only[cmpL];split
 ·simp
 ·split<;>simp
theorem Kw(u v:Value)(xs ys:List Int)(w:World)(hx:ListV w u xs)(hy:ListV w v ys):Calls Tryz.prog 175 #[u,v] w (GI w (cmpL xs ys)):=by
 obtain⟨A,c,rfl,hc1,hc2⟩:=hx.form;obtain⟨B,d,rfl,hd1,hd2⟩:=hy.form;unfold maxLen at hc2 hd2;go_enter Tryz.func175,Tryz.ntmps175
 go_wp2
 go_loopw [11] (fun iv wr=>GrC w wr∧∃k:Nat,k≤xs.length∧k≤ys.length∧iv=.int .i64 k∧cmpL xs ys=cmpL (xs.drop k) (ys.drop k)) (fun iv _=>xs.length-(RowKit.intOf iv).toNat)
 case atStart=>exact⟨⟨Grw.refl⟩,0,by omega,by omega,rfl,by simp⟩
 case round=>
  obtain⟨hE,k,hk1,hk2,rfl,hr⟩:=hrel;by_cases l1:k<xs.length
  ·obtain⟨ad,rfl,hca⟩:=(hx.ext hE.h.1).elem l1;by_cases l2:k<ys.length
   ·obtain⟨bd,rfl,hcb⟩:=(hy.ext hE.h.1).elem l2;rw[List.drop_eq_getElem_cons l1,List.drop_eq_getElem_cons l2,Fv] at hr;obtain⟨a,ha⟩:∃a,xs[k]=a:=⟨_,rfl⟩;obtain⟨b,hb⟩:∃b,ys[k]=b:=⟨_,rfl⟩;rw[ha,hb] at hr;rw[ha] at hca;rw[hb] at hcb;have i1:CellsB wr (ad.add k) [.int .i64 a]:=⟨by simpa [Enc.size,Enc.enc] using hca⟩
    have i2:CellsB wr (bd.add k) [.int .i64 b]:=⟨by simpa [Enc.size,Enc.enc] using hcb⟩
    obtain⟨r,hq⟩:∃r,cmpI a b=r:=⟨_,rfl⟩;rw[hq] at hr;have i3:=CmpI.mk hq;clear hca hcb ha hb hq;by_cases z:r=0
    ·subst z;rw[if_pos rfl] at hr;have Hr:=Lib.hid hr;clear hr;have z2:IntKind.i64.wrap ((k:Int)+1)=(k:Int)+1:=IntWalk.i64_in _ (by omega)
     go_wp2_with (first|(with_reducible refine aA ?_)|(with_reducible refine aB ?_;first|rintro _ V ⟨rfl,(_:GrC _ _)⟩))
     go_roundw
     case rel=>exact⟨⟨GxC.h⟩,k+1,by omega,by omega,by simp,Hr.out⟩
     case measure=>simp[RowKit.intOf];omega
    ·rw[if_neg z] at hr;have q:(r !=0)=true:=by simpa using z
     have Hr:=Lib.hid hr;clear hr;go_wp2_with (first|(with_reducible refine aA ?_)|(with_reducible refine aB ?_;first|rintro _ V ⟨rfl,(_:GrC _ _)⟩))
     go_ret
     exact⟨by rw[Hr.out];rfl,⟨GxC.h⟩⟩
   ·rw[List.drop_eq_getElem_cons l1,show ys.drop k=[] from List.drop_eq_nil_of_le (by omega),cmpL] at hr
    obtain⟨a,ha⟩:∃a,xs[k]=a:=⟨_,rfl⟩;rw[ha] at hca;have i1:CellsB wr (ad.add k) [.int .i64 a]:=⟨by simpa [Enc.size,Enc.enc] using hca⟩
    have Hr:=Lib.hid hr;clear hca ha hr;go_wp2_with (first|(with_reducible refine aA ?_))
    go_ret
    exact⟨by rw[Hr.out];rfl,⟨GxC.h⟩⟩
  ·rw[show xs.drop k=[] from List.drop_eq_nil_of_le (by omega)] at hr
   by_cases l2:k<ys.length
   ·rw[List.drop_eq_getElem_cons l2,cmpL] at hr;have q:xs.length<ys.length:=by omega
    have Hr:=Lib.hid hr;clear hr;go_wp2
    go_ret
    exact⟨by rw[Hr.out];rfl,⟨GxC.h⟩⟩
   ·rw[show ys.drop k=[] from List.drop_eq_nil_of_le (by omega),cmpL] at hr
    have q:¬xs.length<ys.length:=by omega
    have Hr:=Lib.hid hr;clear hr;go_wp2
    go_ret
    exact⟨by rw[Hr.out];rfl,⟨GxC.h⟩⟩
instance{W:World}{u v:Value}{xs ys:List Int}[hx:ListC Int W u xs][hy:ListC Int W v ys]:FunC Tryz.prog 175 #[u,v] W (GI W (cmpL xs ys)):=⟨Kw u v xs ys W hx.h hy.h⟩
theorem zV(x:Event)(w:World):Calls Tryz.prog 173 #[Enc.val x] w (GL w (fields x)):=by
 obtain⟨a,b,⟨c,d⟩,e,f,g,h,i⟩:=x;show Calls Tryz.prog 173 #[.agg #[.int .i64 a,.int .i64 b,.int .i64 c,.int .i64 d,.int .i64 e,.int .i64 f,.int .i64 g,.int .i64 h,.int .i64 i]] w _
 go_enter Tryz.func173,Tryz.ntmps173
 go_wp2_with (first|(with_reducible refine aA ?_)|(with_reducible refine Dj ?_;intro V g _ _ _)|(with_reducible refine xW ?_;intro V g _ _ _))
 go_ret
 exact⟨_,9,rfl,⟨ListV.blk BlkC.h (by rfl) rfl (by simp[maxLen,fields])⟩,⟨GxC.h⟩⟩
theorem Kz{P:Program}{ops:Array Oper}{Q:Exit→Act→World→Prop}{A:Act}{rest:List Oper}{W:World}{d:Option Tmp}{ty:TypeId}{pos:String}{after:Array Edge}{x:Operand}{f:FuncId}{ar:Array Operand}{ats:Array TypeId}{args:Array Value}{R:Ending→World→Prop}
 (k:∀e W',R e W'→∃v,e=.returned v∧wpList P ops Q rest (A.put d v) W')
 (h:A.eval x=.func (.func f) #[] #[]∧ar.map A.eval=args∧FunC P f args W R∧(execOp A.eval (⟨d,.call {callee:=.value x,args:=ar,argTypes:=ats},ty,pos,after,none⟩:Oper)).run P W=.ok (.enter f args) W:=by
  (refine⟨by with_unfolding_all rfl,?_⟩;refine⟨by(simp[Act.eval];with_unfolding_all rfl),?_⟩;refine⟨by infer_instance,by go_simp⟩)):
 wpList P ops Q (⟨d,.call {callee:=.value x,args:=ar,argTypes:=ats},ty,pos,after,none⟩::rest) A W:=
 Iy rfl h.2.2.1.h h.2.2.2 k
instance{W:World}{a b c d e f g h i:Int}:FunC Tryz.prog 173 #[.agg #[.int .i64 a,.int .i64 b,.int .i64 c,.int .i64 d,.int .i64 e,.int .i64 f,.int .i64 g,.int .i64 h,.int .i64 i]] W (GL W (fields ⟨a,b,⟨c,d⟩,e,f,g,h,i⟩)):=⟨zV ⟨a,b,⟨c,d⟩,e,f,g,h,i⟩ W⟩
theorem zU(a b c d e f g h i a' b' c' d' e' f' g' h' i':Int)(gb:Nat)(t:TypeId)(w:World)[hB:BlkC w gb t [.func (.func 173) #[] #[]]]:Calls Tryz.prog 174 #[.agg #[.int .i64 a,.int .i64 b,.int .i64 c,.int .i64 d,.int .i64 e,.int .i64 f,.int .i64 g,.int .i64 h,.int .i64 i],.agg #[.int .i64 a',.int .i64 b',.int .i64 c',.int .i64 d',.int .i64 e',.int .i64 f',.int .i64 g',.int .i64 h',.int .i64 i'],.pointer (some ⟨gb,0,none⟩)] w (GI w (cmpL (fields ⟨a,b,⟨c,d⟩,e,f,g,h,i⟩) (fields ⟨a',b',⟨c',d'⟩,e',f',g',h',i'⟩))):=by
 go_enter Tryz.func174,Tryz.ntmps174
 go_wp2_with (first|(with_reducible refine Dj ?_;intro V g _ _ _))
 refine Ow ((.take 0 (.take 1 (.take 3 (.take 4 (.one 2 (.one 5 (.one 6 (.take 7 .nil))))))))) (fun hHd=> ?_) (hQ:=by intro _ _ _ _ _ h;exact h)
 repeat' first|((with_reducible refine aX ?_);(first|(refine tk (v:= ?_) ?_ hHd ?_;rotate_left;(·(intro W' h;have:=GrC.mk h;first|with_reducible exact aJ)))|(refine tk (v:= ?_) ?_ hHd ?_;rotate_left;(·(intro wq hSw;go_simp;(try with_reducible rfl)))));(try simp only[pS]))|((with_reducible refine bC ?_);refine aQ (by simp only[gS];rfl) ?_)|((with_reducible refine aN ?_);first|(rintro _ V ⟨rfl,(_:GrC _ _)⟩;refine⟨_,rfl,?_⟩))|((with_reducible refine Kz ?_);first|(rintro _ V ⟨_,_,rfl,_,(_:GrC _ _)⟩;refine⟨_,rfl,?_⟩))|((with_reducible refine bD ?_);clear hHd;refine aM GxC.h (fun hHd=> ?_);(try simp only[pS]))|(with_reducible refine aF ?_)
 go_wp2
 all_goals(try(go_ret;refine⟨?_,⟨GxC.h⟩⟩;first|rfl))
theorem Er(w:World):Calls Tryz.prog 120 #[] w (fun e W'=>∃g,e=.returned (.func (.func 174) #[] #[.pointer (some ⟨g,0,none⟩)])∧BlkC W' g 239 [.func (.func 173) #[] #[]]∧StepC w W'):=by
 go_enter Tryz.func120,Tryz.ntmps120
 go_wp2_with (first|(with_reducible refine aG ?_;intro V g _ _ _))
 go_ret
 exact⟨_,rfl,inferInstance,⟨ExtC.h⟩⟩
instance{W:World}:FunC Tryz.prog 120 #[] W (fun e W'=>∃g,e=.returned (.func (.func 174) #[] #[.pointer (some ⟨g,0,none⟩)])∧BlkC W' g 239 [.func (.func 173) #[] #[]]∧StepC W W'):=⟨Er W⟩
def orL(l:List Int):Int:=(l.find? fun x=>x !=0).getD 0
theorem uA(a:Int)(l:List Int):orL (a::l)=if a=0 then orL l else a:=by
 unfold orL;rw[List.find?_cons];by_cases z:a=0
 ·subst z;rfl
 ·have:(a !=0)=true:=by simpa using z
  rw[this,if_neg z];rfl
theorem Rd(u:Value)(xs:List Int)(w:World)(hx:ListV w u xs):Calls Tryz.prog 253 #[u] w (GI w (orL xs)):=by
 obtain⟨A,c,rfl,hc1,hc2⟩:=hx.form;unfold maxLen at hc2;go_enter Tryz.func253,Tryz.ntmps253
 go_wp2
 go_loopw [8] (fun iv wr=>GrC w wr∧∃k:Nat,k≤xs.length∧iv=.int .i64 k∧orL xs=orL (xs.drop k)) (fun iv _=>xs.length-(RowKit.intOf iv).toNat)
 case atStart=>exact⟨⟨Grw.refl⟩,0,by omega,rfl,by simp⟩
 case round=>
  obtain⟨hE,k,hk1,rfl,hr⟩:=hrel;by_cases l1:k<xs.length
  ·obtain⟨ad,rfl,hca⟩:=(hx.ext hE.h.1).elem l1;rw[List.drop_eq_getElem_cons l1] at hr;obtain⟨a,ha⟩:∃a,xs[k]=a:=⟨_,rfl⟩;rw[ha] at hr hca;have i1:CellsB wr (ad.add k) [.int .i64 a]:=⟨by simpa [Enc.size,Enc.enc] using hca⟩
   have hr2:orL xs=if a=0 then orL (xs.drop (k+1)) else a:=by rw[hr];exact uA a _
   clear hca ha hr;by_cases z:a=0
   ·subst z;rw[if_pos rfl] at hr2;have Hr:=Lib.hid hr2;clear hr2;have z2:IntKind.i64.wrap ((k:Int)+1)=(k:Int)+1:=IntWalk.i64_in _ (by omega)
    go_wp2_with (first|(with_reducible refine aA ?_))
    go_roundw
    case rel=>exact⟨⟨GxC.h⟩,k+1,by omega,by simp,Hr.out⟩
    case measure=>simp[RowKit.intOf];omega
   ·rw[if_neg z] at hr2;have q:(a !=0)=true:=by simpa using z
    have Hr:=Lib.hid hr2;clear hr2;go_wp2_with (first|(with_reducible refine aA ?_))
    go_ret
    exact⟨by rw[Hr.out];rfl,⟨GxC.h⟩⟩
  ·rw[show xs.drop k=[] from List.drop_eq_nil_of_le (by omega)] at hr
   have Hr:=Lib.hid hr;clear hr;go_wp2
   go_ret
   exact⟨by rw[Hr.out];rfl,⟨GxC.h⟩⟩
instance{W:World}{u:Value}{xs:List Int}[hx:ListC Int W u xs]:FunC Tryz.prog 253 #[u] W (GI W (orL xs)):=⟨Rd u xs W hx.h⟩
theorem Gt(a b a' b':Int)(w:World):Calls Tryz.prog 64 #[.agg #[.int .i64 a,.int .i64 b],.agg #[.int .i64 a',.int .i64 b']] w (GI w (cmpI a a')):=by
 obtain⟨r,hr⟩:∃r,cmpI a a'=r:=⟨_,rfl⟩;have i1:=CmpI.mk hr;rw[hr];clear hr;go_enter Tryz.func64,Tryz.ntmps64
 go_wp2_with (first|(with_reducible refine aA ?_)|(with_reducible refine aB ?_;first|rintro _ V ⟨rfl,(_:GrC _ _)⟩)|(with_reducible refine Dj ?_;intro V g _ _ _))
 all_goals(try(go_ret;refine⟨?_,⟨GxC.h⟩⟩;first|rfl))
theorem Fq(a b a' b':Int)(w:World):Calls Tryz.prog 252 #[.agg #[.int .i64 a,.int .i64 b],.agg #[.int .i64 a',.int .i64 b']] w (GI w (orL [cmpI a a',cmpI b b'])):=by
 obtain⟨r,hr⟩:∃r,cmpI a a'=r:=⟨_,rfl⟩;obtain⟨q,hq⟩:∃r,cmpI b b'=r:=⟨_,rfl⟩;have i1:=CmpI.mk hr;have i2:=CmpI.mk hq;rw[hr,hq];clear hr hq;go_enter Tryz.func252,Tryz.ntmps252
 go_wp2_with (first|(with_reducible refine Dj ?_;intro V g _ _ _))
 refine Ow ((.take 0 (.take 1 (.take 2 (.take 3 (.take 5 (.take 6 (.take 7 (.take 8 (.one 4 (.one 9 (.one 10 (.one 11 (.take 12 .nil)))))))))))))) (fun hHd=> ?_) (hQ:=by intro _ _ _ _ _ h;exact h)
 repeat' first|((with_reducible refine aX ?_);(first|(refine tk (v:= ?_) ?_ hHd ?_;rotate_left;(·(intro W' h;have:=GrC.mk h;first|with_reducible exact aJ)))|(refine tk (v:= ?_) ?_ hHd ?_;rotate_left;(·(intro wq hSw;go_simp;(try with_reducible rfl)))));(try simp only[pS]))|((with_reducible refine bC ?_);refine aQ (by simp only[gS];rfl) ?_)|(with_reducible refine xW ?_;intro V g _ _ _)|((with_reducible refine aN ?_);first|(rintro _ V ⟨rfl,(_:GrC _ _)⟩;refine⟨_,rfl,?_⟩))|((with_reducible refine bD ?_);clear hHd;refine aM GxC.h (fun hHd=> ?_);(try simp only[pS]))|(with_reducible refine aF ?_)
 go_wp2
 all_goals(try(go_ret;refine⟨?_,⟨GxC.h⟩⟩;first|rfl))
end Go.Rg
end
section
namespace Go.Proofs
open Go.Shelf
def Tryz.laySE_ren:Go.Shelf.Ren:=⟨fun|6=>119|15=>126|14=>172|28=>192|29=>193|20=>229|21=>230|22=>231|23=>232|24=>233|25=>234|26=>235|27=>236|46=>271|47=>246|48=>247|49=>272|50=>273|57=>296|n=>n,fun|22=>29|24=>80|25=>202|3=>3|39=>207|0=>0|53=>255|55=>257|4=>4|46=>249|45=>248|50=>135|5=>5|9=>9|66=>297|70=>301|76=>324|77=>325|n=>n,fun|n=>n⟩
theorem Tryz.laySE:Go.Proofs.SlLaysF0.n6 Tryz.prog Tryz.laySE_ren:={
 mixed:=by kernel_rfl
 f6:=⟨Tryz.f119.name,by decide,Tryz.func119.trans (congrArg some (by kernel_rfl))⟩
 f14:=⟨Tryz.f172.name,by decide,Tryz.func172.trans (congrArg some (by kernel_rfl))⟩
 f15:=Tryz.func126.trans (congrArg some (by kernel_rfl))
 f20:=⟨Tryz.f229.name,by decide,Tryz.func229.trans (congrArg some (by kernel_rfl))⟩
 f21:=⟨Tryz.f230.name,by decide,Tryz.func230.trans (congrArg some (by kernel_rfl))⟩
 f22:=⟨Tryz.f231.name,by decide,Tryz.func231.trans (congrArg some (by kernel_rfl))⟩
 f23:=⟨Tryz.f232.name,by decide,Tryz.func232.trans (congrArg some (by kernel_rfl))⟩
 f24:=⟨Tryz.f233.name,by decide,Tryz.func233.trans (congrArg some (by kernel_rfl))⟩
 f25:=⟨Tryz.f234.name,by decide,Tryz.func234.trans (congrArg some (by kernel_rfl))⟩
 f26:=⟨Tryz.f235.name,by decide,Tryz.func235.trans (congrArg some (by kernel_rfl))⟩
 f27:=⟨Tryz.f236.name,by decide,Tryz.func236.trans (congrArg some (by kernel_rfl))⟩
 f28:=Tryz.func192.trans (congrArg some (by kernel_rfl))
 f29:=Tryz.func193.trans (congrArg some (by kernel_rfl))
 f46:=⟨Tryz.f271.name,by decide,Tryz.func271.trans (congrArg some (by kernel_rfl))⟩
 f47:=Tryz.func246.trans (congrArg some (by kernel_rfl))
 f48:=Tryz.func247.trans (congrArg some (by kernel_rfl))
 f49:=⟨Tryz.f272.name,by decide,Tryz.func272.trans (congrArg some (by kernel_rfl))⟩
 f50:=⟨Tryz.f273.name,by decide,Tryz.func273.trans (congrArg some (by kernel_rfl))⟩
 f57:=⟨Tryz.f296.name,by decide,Tryz.func296.trans (congrArg some (by kernel_rfl))⟩
 t0:=Tryz.underlying0
 a0:=Tryz.isAgg0
 z0:=Tryz.sizeOf0
 v0:=Tryz.zeroValue0
 t3:=Tryz.underlying3
 a3:=Tryz.isAgg3
 z3:=Tryz.sizeOf3
 v3:=Tryz.zeroValue3
 t4:=Tryz.underlying4
 a4:=Tryz.isAgg4
 z4:=Tryz.sizeOf4
 v4:=Tryz.zeroValue4
 t5:=Tryz.underlying5
 a5:=Tryz.isAgg5
 z5:=Tryz.sizeOf5
 v5:=Tryz.zeroValue5
 t9:=Tryz.underlying9
 a9:=Tryz.isAgg9
 z9:=Tryz.sizeOf9
 v9:=Tryz.zeroValue9
 t22:=Tryz.underlying29
 a22:=Tryz.isAgg29
 z22:=Tryz.sizeOf29
 v22:=Tryz.zeroValue29
 t25:=Tryz.underlying202
 a25:=Tryz.isAgg202
 z25:=Tryz.sizeOf202
 v25:=Tryz.zeroValue202
 t39:=Tryz.underlying207
 a39:=Tryz.isAgg207
 z39:=Tryz.sizeOf207
 v39:=Tryz.zeroValue207
 t45:=Tryz.underlying248
 a45:=Tryz.isAgg248
 z45:=Tryz.sizeOf248
 v45:=Tryz.zeroValue248
 t46:=Tryz.underlying249
 a46:=Tryz.isAgg249
 z46:=Tryz.sizeOf249
 v46:=Tryz.zeroValue249
 t50:=Tryz.underlying135
 a50:=Tryz.isAgg135
 z50:=Tryz.sizeOf135
 v50:=Tryz.zeroValue135
 t53:=Tryz.underlying255
 a53:=Tryz.isAgg255
 z53:=Tryz.sizeOf255
 v53:=Tryz.zeroValue255
 t55:=Tryz.underlying257
 a55:=Tryz.isAgg257
 z55:=Tryz.sizeOf257
 v55:=Tryz.zeroValue257
 t66:=Tryz.underlying297
 a66:=Tryz.isAgg297
 z66:=Tryz.sizeOf297
 v66:=Tryz.zeroValue297
 t70:=Tryz.underlying301
 a70:=Tryz.isAgg301
 z70:=Tryz.sizeOf301
 v70:=Tryz.zeroValue301
 t76:=Tryz.underlying324
 a76:=Tryz.isAgg324
 z76:=Tryz.sizeOf324
 v76:=Tryz.zeroValue324
 t77:=Tryz.underlying325
 a77:=Tryz.isAgg325
 z77:=Tryz.sizeOf325
 v77:=Tryz.zeroValue325}
def Tryz.laySR_ren:Go.Shelf.Ren:=⟨fun|6=>251|15=>126|14=>279|28=>192|29=>193|20=>306|21=>307|22=>308|23=>309|24=>310|25=>311|26=>312|27=>313|46=>327|47=>246|48=>247|49=>328|50=>329|57=>337|n=>n,fun|22=>48|24=>74|25=>306|3=>3|39=>207|0=>0|53=>255|55=>257|4=>4|46=>249|45=>248|50=>135|5=>5|9=>9|66=>297|70=>301|76=>324|77=>325|n=>n,fun|n=>n⟩
theorem Tryz.laySR:Go.Proofs.SlLaysF0.n6 Tryz.prog Tryz.laySR_ren:={
 mixed:=by kernel_rfl
 f6:=⟨Tryz.f251.name,by decide,Tryz.func251.trans (congrArg some (by kernel_rfl))⟩
 f14:=⟨Tryz.f279.name,by decide,Tryz.func279.trans (congrArg some (by kernel_rfl))⟩
 f15:=Tryz.func126.trans (congrArg some (by kernel_rfl))
 f20:=⟨Tryz.f306.name,by decide,Tryz.func306.trans (congrArg some (by kernel_rfl))⟩
 f21:=⟨Tryz.f307.name,by decide,Tryz.func307.trans (congrArg some (by kernel_rfl))⟩
 f22:=⟨Tryz.f308.name,by decide,Tryz.func308.trans (congrArg some (by kernel_rfl))⟩
 f23:=⟨Tryz.f309.name,by decide,Tryz.func309.trans (congrArg some (by kernel_rfl))⟩
 f24:=⟨Tryz.f310.name,by decide,Tryz.func310.trans (congrArg some (by kernel_rfl))⟩
 f25:=⟨Tryz.f311.name,by decide,Tryz.func311.trans (congrArg some (by kernel_rfl))⟩
 f26:=⟨Tryz.f312.name,by decide,Tryz.func312.trans (congrArg some (by kernel_rfl))⟩
 f27:=⟨Tryz.f313.name,by decide,Tryz.func313.trans (congrArg some (by kernel_rfl))⟩
 f28:=Tryz.func192.trans (congrArg some (by kernel_rfl))
 f29:=Tryz.func193.trans (congrArg some (by kernel_rfl))
 f46:=⟨Tryz.f327.name,by decide,Tryz.func327.trans (congrArg some (by kernel_rfl))⟩
 f47:=Tryz.func246.trans (congrArg some (by kernel_rfl))
 f48:=Tryz.func247.trans (congrArg some (by kernel_rfl))
 f49:=⟨Tryz.f328.name,by decide,Tryz.func328.trans (congrArg some (by kernel_rfl))⟩
 f50:=⟨Tryz.f329.name,by decide,Tryz.func329.trans (congrArg some (by kernel_rfl))⟩
 f57:=⟨Tryz.f337.name,by decide,Tryz.func337.trans (congrArg some (by kernel_rfl))⟩
 t0:=Tryz.underlying0
 a0:=Tryz.isAgg0
 z0:=Tryz.sizeOf0
 v0:=Tryz.zeroValue0
 t3:=Tryz.underlying3
 a3:=Tryz.isAgg3
 z3:=Tryz.sizeOf3
 v3:=Tryz.zeroValue3
 t4:=Tryz.underlying4
 a4:=Tryz.isAgg4
 z4:=Tryz.sizeOf4
 v4:=Tryz.zeroValue4
 t5:=Tryz.underlying5
 a5:=Tryz.isAgg5
 z5:=Tryz.sizeOf5
 v5:=Tryz.zeroValue5
 t9:=Tryz.underlying9
 a9:=Tryz.isAgg9
 z9:=Tryz.sizeOf9
 v9:=Tryz.zeroValue9
 t22:=Tryz.underlying48
 a22:=Tryz.isAgg48
 z22:=Tryz.sizeOf48
 v22:=Tryz.zeroValue48
 t25:=Tryz.underlying306
 a25:=Tryz.isAgg306
 z25:=Tryz.sizeOf306
 v25:=Tryz.zeroValue306
 t39:=Tryz.underlying207
 a39:=Tryz.isAgg207
 z39:=Tryz.sizeOf207
 v39:=Tryz.zeroValue207
 t45:=Tryz.underlying248
 a45:=Tryz.isAgg248
 z45:=Tryz.sizeOf248
 v45:=Tryz.zeroValue248
 t46:=Tryz.underlying249
 a46:=Tryz.isAgg249
 z46:=Tryz.sizeOf249
 v46:=Tryz.zeroValue249
 t50:=Tryz.underlying135
 a50:=Tryz.isAgg135
 z50:=Tryz.sizeOf135
 v50:=Tryz.zeroValue135
 t53:=Tryz.underlying255
 a53:=Tryz.isAgg255
 z53:=Tryz.sizeOf255
 v53:=Tryz.zeroValue255
 t55:=Tryz.underlying257
 a55:=Tryz.isAgg257
 z55:=Tryz.sizeOf257
 v55:=Tryz.zeroValue257
 t66:=Tryz.underlying297
 a66:=Tryz.isAgg297
 z66:=Tryz.sizeOf297
 v66:=Tryz.zeroValue297
 t70:=Tryz.underlying301
 a70:=Tryz.isAgg301
 z70:=Tryz.sizeOf301
 v70:=Tryz.zeroValue301
 t76:=Tryz.underlying324
 a76:=Tryz.isAgg324
 z76:=Tryz.sizeOf324
 v76:=Tryz.zeroValue324
 t77:=Tryz.underlying325
 a77:=Tryz.isAgg325
 z77:=Tryz.sizeOf325
 v77:=Tryz.zeroValue325}
def Tryz.laySS_ren:Go.Shelf.Ren:=⟨fun|6=>63|15=>126|14=>125|28=>192|29=>193|20=>184|21=>185|22=>186|23=>187|24=>188|25=>189|26=>190|27=>191|46=>245|47=>246|48=>247|49=>248|50=>249|57=>278|n=>n,fun|22=>40|24=>95|25=>127|3=>3|39=>207|0=>0|53=>255|55=>257|4=>4|46=>249|45=>248|50=>135|5=>5|9=>9|66=>297|70=>301|76=>324|77=>325|n=>n,fun|n=>n⟩
theorem Tryz.laySS:Go.Proofs.SlLaysF0.n6 Tryz.prog Tryz.laySS_ren:={
 mixed:=by kernel_rfl
 f6:=⟨Tryz.f63.name,by decide,Tryz.func63.trans (congrArg some (by kernel_rfl))⟩
 f14:=⟨Tryz.f125.name,by decide,Tryz.func125.trans (congrArg some (by kernel_rfl))⟩
 f15:=Tryz.func126.trans (congrArg some (by kernel_rfl))
 f20:=⟨Tryz.f184.name,by decide,Tryz.func184.trans (congrArg some (by kernel_rfl))⟩
 f21:=⟨Tryz.f185.name,by decide,Tryz.func185.trans (congrArg some (by kernel_rfl))⟩
 f22:=⟨Tryz.f186.name,by decide,Tryz.func186.trans (congrArg some (by kernel_rfl))⟩
 f23:=⟨Tryz.f187.name,by decide,Tryz.func187.trans (congrArg some (by kernel_rfl))⟩
 f24:=⟨Tryz.f188.name,by decide,Tryz.func188.trans (congrArg some (by kernel_rfl))⟩
 f25:=⟨Tryz.f189.name,by decide,Tryz.func189.trans (congrArg some (by kernel_rfl))⟩
 f26:=⟨Tryz.f190.name,by decide,Tryz.func190.trans (congrArg some (by kernel_rfl))⟩
 f27:=⟨Tryz.f191.name,by decide,Tryz.func191.trans (congrArg some (by kernel_rfl))⟩
 f28:=Tryz.func192.trans (congrArg some (by kernel_rfl))
 f29:=Tryz.func193.trans (congrArg some (by kernel_rfl))
 f46:=⟨Tryz.f245.name,by decide,Tryz.func245.trans (congrArg some (by kernel_rfl))⟩
 f47:=Tryz.func246.trans (congrArg some (by kernel_rfl))
 f48:=Tryz.func247.trans (congrArg some (by kernel_rfl))
 f49:=⟨Tryz.f248.name,by decide,Tryz.func248.trans (congrArg some (by kernel_rfl))⟩
 f50:=⟨Tryz.f249.name,by decide,Tryz.func249.trans (congrArg some (by kernel_rfl))⟩
 f57:=⟨Tryz.f278.name,by decide,Tryz.func278.trans (congrArg some (by kernel_rfl))⟩
 t0:=Tryz.underlying0
 a0:=Tryz.isAgg0
 z0:=Tryz.sizeOf0
 v0:=Tryz.zeroValue0
 t3:=Tryz.underlying3
 a3:=Tryz.isAgg3
 z3:=Tryz.sizeOf3
 v3:=Tryz.zeroValue3
 t4:=Tryz.underlying4
 a4:=Tryz.isAgg4
 z4:=Tryz.sizeOf4
 v4:=Tryz.zeroValue4
 t5:=Tryz.underlying5
 a5:=Tryz.isAgg5
 z5:=Tryz.sizeOf5
 v5:=Tryz.zeroValue5
 t9:=Tryz.underlying9
 a9:=Tryz.isAgg9
 z9:=Tryz.sizeOf9
 v9:=Tryz.zeroValue9
 t22:=Tryz.underlying40
 a22:=Tryz.isAgg40
 z22:=Tryz.sizeOf40
 v22:=Tryz.zeroValue40
 t25:=Tryz.underlying127
 a25:=Tryz.isAgg127
 z25:=Tryz.sizeOf127
 v25:=Tryz.zeroValue127
 t39:=Tryz.underlying207
 a39:=Tryz.isAgg207
 z39:=Tryz.sizeOf207
 v39:=Tryz.zeroValue207
 t45:=Tryz.underlying248
 a45:=Tryz.isAgg248
 z45:=Tryz.sizeOf248
 v45:=Tryz.zeroValue248
 t46:=Tryz.underlying249
 a46:=Tryz.isAgg249
 z46:=Tryz.sizeOf249
 v46:=Tryz.zeroValue249
 t50:=Tryz.underlying135
 a50:=Tryz.isAgg135
 z50:=Tryz.sizeOf135
 v50:=Tryz.zeroValue135
 t53:=Tryz.underlying255
 a53:=Tryz.isAgg255
 z53:=Tryz.sizeOf255
 v53:=Tryz.zeroValue255
 t55:=Tryz.underlying257
 a55:=Tryz.isAgg257
 z55:=Tryz.sizeOf257
 v55:=Tryz.zeroValue257
 t66:=Tryz.underlying297
 a66:=Tryz.isAgg297
 z66:=Tryz.sizeOf297
 v66:=Tryz.zeroValue297
 t70:=Tryz.underlying301
 a70:=Tryz.isAgg301
 z70:=Tryz.sizeOf301
 v70:=Tryz.zeroValue301
 t76:=Tryz.underlying324
 a76:=Tryz.isAgg324
 z76:=Tryz.sizeOf324
 v76:=Tryz.zeroValue324
 t77:=Tryz.underlying325
 a77:=Tryz.isAgg325
 z77:=Tryz.sizeOf325
 v77:=Tryz.zeroValue325}
end Go.Proofs
namespace Go.Rg
open Go Go.Bp Go.RowKit Go.Walk Go.Proofs Go.Shelf Go.Sort
instance:Inhabited Event:=⟨⟨0,0,⟨0,0⟩,0,0,0,0,0⟩⟩
instance:Inhabited Right:=⟨⟨0,0⟩⟩
instance:Inhabited Span:=⟨⟨0,0⟩⟩
theorem swoL{α:Type}(f:α→List Int):SWO (ltOf fun x y=>cmpL (f x) (f y)) where
 irrefl x:=by show decide (cmpL (f x) (f x)<0)=false;rw[cmpL_refl];simp
 trans x y z h1 h2:=by unfold ltOf at *;simp at *;exact cmpL_trans h1 h2
 ntrans x y z h1 h2:=by
  unfold ltOf at*;simp only[decide_eq_false_iff_not] at*;intro h;have e1:=cmpL_neg (f x) (f y);have e2:=cmpL_neg (f y) (f z);rcases Int.lt_or_eq_of_le (show cmpL (f y) (f x)≤0 by omega) with h3|h3
  ·have:=cmpL_trans h3 h;omega
  ·rw[cmpL_eq h3] at h2;exact h2 h
theorem Qx(a b:Int):cmpI a b=cmpL [a] [b]:=by simp[cmpI,cmpL]
theorem Px(a b a' b':Int):orL [cmpI a a',cmpI b b']=cmpL [a,b] [a',b']:=by
 rw[uA,uA];unfold cmpI orL;simp only[cmpL];by_cases h1:a<a'
 ·simp[h1]
 ·by_cases h2:a'<a
  ·simp[h1,h2]
  ·simp only[if_neg h1,if_neg h2];by_cases h3:b<b'
   ·simp[h3]
   ·by_cases h4:b'<b<;>simp[h3,h4]
abbrev RSort{α:Type}[Enc α](t:TypeId)(B W:World)(v:Value)(n:Nat)(l:List α)(cf:α→α→Int)(e:Ending)(W':World):Prop:=∃l':List α,e=.returned (.tuple #[])∧(l'.Perm l∧l'.Pairwise fun a b=>¬cf b a<0)∧RowC W' v B t (Enc.size α) n (encL l')∧GrowC W W' B v
theorem Dx(gb:Nat)(t:TypeId){W B:World}{A:Option Addr}{n c:Nat}(l:List Event)[h:RowC W (.slice A n c) B 80 9 n (encL l)][hb:BlkC W gb t [.func (.func 173) #[] #[]]][hr:NrC W gb (.slice A n c)](hn:n=l.length)(h0:0<n)(hlt:n<4611686018427387904):
 Calls Tryz.prog 119 #[.slice A n c,.func (.func 174) #[] #[.pointer (some ⟨gb,0,none⟩)]] W (RSort 80 B W (.slice A n c) n l fun x y=>cmpL (fields x) (fields y)):=
 (pK (α:=Event) Tryz.laySE Tryz.isAgg80 Tryz.sizeOf80 (fun _=>rfl) (fun x y:Event=>cmpL (fields x) (fields y)) (swoL fields) (enters_of Tryz.func174 (by kernel_rfl) rfl) h hn h0 hlt fun W' hg x y=>by
  have i1:BlkC W' gb t [.func (.func 173) #[] #[]]:=⟨hb.h.grown hg hr.h⟩;exact zU x.kind x.day x.right.cls x.right.codes x.treaty x.cls x.points x.until_ x.minute y.kind y.day y.right.cls y.right.codes y.treaty y.cls y.points y.until_ y.minute gb t W').mono fun e W' ⟨h1,l',h2,h3,h4,h5⟩=>⟨l',h1,⟨h2,h3⟩,h4,h5⟩
theorem Dv{W B:World}{A:Option Addr}{n c:Nat}(l:List Right)[h:RowC W (.slice A n c) B 74 2 n (encL l)](hn:n=l.length)(h0:0<n)(hlt:n<4611686018427387904):
 Calls Tryz.prog 251 #[.slice A n c,.func (.func 252) #[] #[]] W (RSort 74 B W (.slice A n c) n l fun x y=>cmpL [x.cls,x.codes] [y.cls,y.codes]):=
 (pK (α:=Right) Tryz.laySR Tryz.isAgg74 Tryz.sizeOf74 (fun _=>rfl) (fun x y:Right=>cmpL [x.cls,x.codes] [y.cls,y.codes]) (swoL fun x:Right=>[x.cls,x.codes]) (enters_of Tryz.func252 (by kernel_rfl) rfl) h hn h0 hlt fun W' hg x y=>by
  have:=Fq x.cls x.codes y.cls y.codes W';rw[Px] at this;exact this).mono fun e W' ⟨h1,l',h2,h3,h4,h5⟩=>⟨l',h1,⟨h2,h3⟩,h4,h5⟩
theorem Du{W B:World}{A:Option Addr}{n c:Nat}(l:List Span)[h:RowC W (.slice A n c) B 95 2 n (encL l)](hn:n=l.length)(h0:0<n)(hlt:n<4611686018427387904):
 Calls Tryz.prog 63 #[.slice A n c,.func (.func 64) #[] #[]] W (RSort 95 B W (.slice A n c) n l fun x y=>cmpL [x.lo] [y.lo]):=
 (pK (α:=Span) Tryz.laySS Tryz.isAgg95 Tryz.sizeOf95 (fun _=>rfl) (fun x y:Span=>cmpL [x.lo] [y.lo]) (swoL fun x:Span=>[x.lo]) (enters_of Tryz.func64 (by kernel_rfl) rfl) h hn h0 hlt fun W' hg x y=>by
  have:=Gt x.lo x.hi y.lo y.hi W';rw[Qx] at this;exact this).mono fun e W' ⟨h1,l',h2,h3,h4,h5⟩=>⟨l',h1,⟨h2,h3⟩,h4,h5⟩
theorem nC{α:Type}[Enc α]{W B:World}{A:Option Addr}{c:Nat}{t:TypeId}{cf:α→α→Int}(h:RowC W (.slice A 0 c) B t (Enc.size α) 0 (encL ([]:List α))):RSort t B W (.slice A 0 c) 0 ([]:List α) cf (.returned (.tuple #[])) W:=
 ⟨[],rfl,⟨List.Perm.refl _,List.Pairwise.nil⟩,h,⟨grown_of_ext (Ext.refl W),fun _ hg=>(h.from_ hg).1⟩⟩
class LtC (n:Nat):Prop where h:n<4611686018427387904
instance{gb:Nat}{t:TypeId}{W B:World}{A:Option Addr}{c:Nat}{l:List Event}[h:RowC W (.slice A l.length c) B 80 9 l.length (encL l)][hb:BlkC W gb t [.func (.func 173) #[] #[]]][hr:NrC W gb (.slice A l.length c)][q:LtC l.length]:FunC Tryz.prog 119 #[.slice A l.length c,.func (.func 174) #[] #[.pointer (some ⟨gb,0,none⟩)]] W (RSort 80 B W (.slice A l.length c) l.length l fun x y=>cmpL (fields x) (fields y)):=⟨by
 by_cases h0:0<l.length
 ·exact Dx gb t l rfl h0 q.h
 ·have:l=[]:=List.length_eq_zero_iff.1 (by omega)
  subst this;exact(AnyF.slices_SortFunc_none Tryz.laySE A c _ W).mono fun e W' ⟨he,hw⟩=>by subst he hw;exact nC h⟩
instance{W B:World}{A:Option Addr}{c:Nat}{l:List Right}[h:RowC W (.slice A l.length c) B 74 2 l.length (encL l)][q:LtC l.length]:FunC Tryz.prog 251 #[.slice A l.length c,.func (.func 252) #[] #[]] W (RSort 74 B W (.slice A l.length c) l.length l fun x y=>cmpL [x.cls,x.codes] [y.cls,y.codes]):=⟨by
 by_cases h0:0<l.length
 ·exact Dv l rfl h0 q.h
 ·have:l=[]:=List.length_eq_zero_iff.1 (by omega)
  subst this;exact(AnyF.slices_SortFunc_none Tryz.laySR A c _ W).mono fun e W' ⟨he,hw⟩=>by subst he hw;exact nC h⟩
instance{W B:World}{A:Option Addr}{c:Nat}{l:List Span}[h:RowC W (.slice A l.length c) B 95 2 l.length (encL l)][q:LtC l.length]:FunC Tryz.prog 63 #[.slice A l.length c,.func (.func 64) #[] #[]] W (RSort 95 B W (.slice A l.length c) l.length l fun x y=>cmpL [x.lo] [y.lo]):=⟨by
 by_cases h0:0<l.length
 ·exact Du l rfl h0 q.h
 ·have:l=[]:=List.length_eq_zero_iff.1 (by omega)
  subst this;exact(AnyF.slices_SortFunc_none Tryz.laySS A c _ W).mono fun e W' ⟨he,hw⟩=>by subst he hw;exact nC h⟩
end Go.Rg
end
