import Derived.Lib.SlKeysI
import Derived.Test.YtbfbepnkofampaaGreatDoorXP15
set_option maxRecDepth 100000
set_option linter.all false
section
namespace Go.Rg
open Go.Walk
def offTo(r:Rules)(l:List Event)(k:Nat):Off:=((offDays l).take k).foldl (r.stepOff l) ⟨[],[],[]⟩
theorem zW(r:Rules)(l:List Event):offTo r l 0=⟨[],[],[]⟩:=rfl
theorem sQ(r:Rules)(l:List Event):offTo r l (offDays l).length=r.offs l:=by unfold offTo Rules.offs;rw[List.take_length]
theorem iX(r:Rules)(l:List Event){k:Nat}(h:k<(offDays l).length):offTo r l (k+1)=r.stepOff l (offTo r l k) (offDays l)[k]:=by
 unfold offTo;rw[List.take_succ_eq_append_getElem h,List.foldl_append];rfl
theorem jW{r:Rules}(hf:1≤r.fall)(l:List Event):∀k,k≤(offDays l).length→OffOk r l ((offDays l).take k) (offTo r l k)
 |0,_=>sR r l
 |k+1,h=>by
  have ih:=jW hf l k (by omega)
  have hk:k<(offDays l).length:=by omega
  rw[iX r l hk,List.take_succ_eq_append_getElem hk];exact Cl (rest:=(offDays l).drop (k+1)) (by rw[←List.drop_eq_getElem_cons hk,List.take_append_drop]) hf ih
theorem Ai{r:Rules}(hf:1≤r.fall)(l:List Event){k:Nat}(h:k<(offDays l).length):(offDays l)[k]∉(offTo r l k).live.map Prod.fst:=by
 intro hm;obtain⟨p,hp,e⟩:=List.mem_map.1 hm;have ok:=jW hf l k (by omega)
 have h1:=(ok.live p hp).1;have h2:=(jM (l:=l) (ds:=(offDays l).take k) (D:=(offDays l)[k]) (rest:=(offDays l).drop (k+1)) (by rw[←List.drop_eq_getElem_cons h,List.take_append_drop])).1 p.1 h1
 omega
theorem mI{r:Rules}(hf:1≤r.fall)(l:List Event){k:Nat}(h:k<(offDays l).length)(v:Int):putL (offTo r l k).live (offDays l)[k] v=(offTo r l k).live++ [((offDays l)[k],v)]:=qA (Ai hf l h)
theorem Fc{r:Rules}(hf:1≤r.fall)(l:List Event){k:Nat}(h:k<(offDays l).length):r.liveAt l (offTo r l k) (offDays l)[k]=(putL (offTo r l k).live (offDays l)[k] (ptsOn l (offDays l)[k])).filter fun p=>decide ((offDays l)[k]-p.1<r.fall):=by rw[mI hf l h];rfl
theorem kO{α:Type}[DecidableEq α]:∀{l m:List α},l.Nodup→(∀x∈l,x∈m)→l.length≤m.length
 | [],_,_,_=>Nat.zero_le _
 |a::l,m,hn,h=>by
  rw[List.nodup_cons] at hn;have ha:=h a (by simp)
  have:=kO (m:=m.erase a) hn.2 fun x hx=>(List.mem_erase_of_ne (fun e=>hn.1 (by rw[←e];exact hx))).2 (h x (by simp[hx]))
  rw[List.length_erase_of_mem ha] at this;have h2:=List.length_pos_of_mem ha;rw[List.length_cons];omega
theorem gE{N:Int}:∀(xs:List Int),(∀x∈xs,0≤x∧x≤N)→0≤sumL xs∧sumL xs≤N*xs.length
 | [],_=>by simp[sumL_nil]
 |x::xs,h=>by
  have:=gE xs fun y hy=>h y (by simp[hy])
  have h1:=h x (by simp)
  rw[dN,List.length_cons];have:N*((xs.length+1:Nat):Int)=N*xs.length+N:=by rw[Int.natCast_add,Int.mul_add];simp
  omega
theorem sM{l:List Event}(hn:l.length≤30)(h:∀x∈l,0≤x.points∧x.points≤20)(d:Int):0≤ptsOn l d∧ptsOn l d≤600:=by
 unfold ptsOn;have:=gE (N:=20) ((l.filter fun x=>isOff x&&decide (x.day=d)).map fun x=>x.points) (by
  intro x hx;obtain⟨y,hy,rfl⟩:=List.mem_map.1 hx;exact h y (List.mem_filter.1 hy).1)
 have hl:((l.filter fun x=>isOff x&&decide (x.day=d)).map fun x=>x.points).length≤30:=by rw[List.length_map];exact Nat.le_trans (List.length_filter_le _ _) hn
 omega
theorem Be{xs:List Event}(hn:xs.length≤30)(h:∀x∈xs,0≤x.points∧x.points≤20)(d:Int):0≤(getL (daysTo xs) d).getD 0∧(getL (daysTo xs) d).getD 0≤600:=by
 rw[rC];have:=gE (N:=20) ((xs.filter fun x=>decide (x.day=d)).map fun x=>x.points) (by
  intro x hx;obtain⟨y,hy,rfl⟩:=List.mem_map.1 hx;exact h y (List.mem_filter.1 hy).1)
 have hl:((xs.filter fun x=>decide (x.day=d)).map fun x=>x.points).length≤30:=by rw[List.length_map];exact Nat.le_trans (List.length_filter_le _ _) hn
 omega
theorem gN{l:List Event}(hn:l.length≤30):(offDays l).length≤30:=by
 have h1:(offDays l).Nodup:=(fW _).imp fun h=>by omega
 have h2:(offDays l).length≤((l.filter isOff).map fun x=>x.day).length:=by
  refine kO h1 fun x hx=> ?_
  have:=(offDays_mem (l:=l) (d:=x)).1 hx;obtain⟨y,h3,h4,e⟩:=this;exact List.mem_map.2 ⟨y,List.mem_filter.2 ⟨h3,h4⟩,e⟩
 rw[List.length_map] at h2;exact Nat.le_trans (Nat.le_trans h2 (List.length_filter_le _ _)) hn
structure LiveOk(l:List Event)(M:List (Int×Int)):Prop where
 nodup:(M.map Prod.fst).Nodup
 val:∀p∈M,0≤p.1∧p.1≤40000∧0≤p.2∧p.2≤600
 len:M.length≤31
theorem Mv{r:Rules}(hf:1≤r.fall){l:List Event}(hn:l.length≤30)(hd:∀x∈l,0≤x.day∧x.day≤40000)(hp:∀x∈l,0≤x.points∧x.points≤20){k:Nat}(h:k<(offDays l).length):
 LiveOk l (putL (offTo r l k).live (offDays l)[k] (ptsOn l (offDays l)[k])):=by
 have ok:=jW hf l k (by omega)
 have hday:∀d∈offDays l,0≤d∧d≤40000:=fun d hd'=>by
  obtain⟨y,h3,_,rfl⟩:=(offDays_mem (l:=l) (d:=d)).1 hd';exact hd y h3
 have hlive:∀p∈(offTo r l k).live,p.1∈(offDays l).take k:=fun p hp=>(ok.live p hp).1
 rw[mI hf l h];refine⟨?_,?_,?_⟩
 ·have:=lE (m:=(offTo r l k).live) (k:=(offDays l)[k]) (v:=ptsOn l (offDays l)[k]) ok.nodup;rwa [mI hf l h] at this
 ·intro p hp';rcases List.mem_append.1 hp' with hp'|hp'
  ·have h1:=ok.live p hp';have h2:=hday p.1 (List.mem_of_mem_take h1.1);have h3:=sM hn hp p.1;rw[h1.2];exact⟨h2.1,h2.2,h3.1,h3.2⟩
  ·rw[List.mem_singleton.1 hp'];have h2:=hday (offDays l)[k] (List.getElem_mem h);have h3:=sM hn hp (offDays l)[k];exact⟨h2.1,h2.2,h3.1,h3.2⟩
 ·have h2:((offTo r l k).live.map Prod.fst).length≤((offDays l).take k).length:=kO ok.nodup fun x hx=>by
   obtain⟨p,hp,rfl⟩:=List.mem_map.1 hx;exact hlive p hp
  rw[List.length_map,List.length_take] at h2;have:=gN hn;rw[List.length_append];simp;omega
theorem uX{r:Rules}(hf:1≤r.fall)(l:List Event){k:Nat}(h:k<(offDays l).length)(v:Int):∀p∈putL (offTo r l k).live (offDays l)[k] v,∀q∈(offTo r l k).taken,p.1≠q.1:=by
 intro p hp q hq;have ok:=jW hf l k (by omega)
 rw[mI hf l h] at hp;rcases List.mem_append.1 hp with hp|hp
 ·exact ok.apart p hp q hq
 ·rw[List.mem_singleton.1 hp];have h2:=(jM (l:=l) (ds:=(offDays l).take k) (D:=(offDays l)[k]) (rest:=(offDays l).drop (k+1)) (by rw[←List.drop_eq_getElem_cons h,List.take_append_drop])).1 q.1 (ok.taken q hq).1
  show(offDays l)[k]≠q.1
  omega
theorem Ds{l:List Event}{M:List (Int×Int)}(h:LiveOk l M)(q:Int×Int→Bool):0≤sumL ((M.filter q).map Prod.snd)∧sumL ((M.filter q).map Prod.snd)≤18600:=by
 have:=gE (N:=600) ((M.filter q).map Prod.snd) (by
  intro x hx;obtain⟨y,hy,rfl⟩:=List.mem_map.1 hx;have:=h.val y (List.mem_filter.1 hy).1;exact⟨this.2.2.1,this.2.2.2⟩)
 have hl:((M.filter q).map Prod.snd).length≤31:=by rw[List.length_map];exact Nat.le_trans (List.length_filter_le _ _) h.len
 omega
theorem mU(r:Rules)(l:List Event):∀k,(offTo r l k).bans.length≤k
 |0=>by simp[offTo]
 |k+1=>by
  by_cases h:k<(offDays l).length
  ·rw[iX r l h];have ih:=mU r l k;unfold Rules.stepOff;split
   ·exact Nat.le_succ_of_le ih
   ·rw[List.length_append];have:(r.banOf (offDays l)[k]).length≤1:=by unfold Rules.banOf;split<;>simp
    omega
  ·have:offTo r l (k+1)=offTo r l k:=by unfold offTo;rw[List.take_of_length_le (by omega),List.take_of_length_le (by omega)]
   rw[this];exact Nat.le_succ_of_le (mU r l k)
end Go.Rg
end
section
namespace Go.Walk
open Go Go.Bp Go.RowKit
section
variable{W B:World}{g n m size k c off:Nat}{t e:TypeId}{l cs vs:List Value}{v:Value}{P:Program}
variable{ops:Array Oper}{Q:Exit→Act→World→Prop}{A:Act}{rest:List Oper}
variable{d:Option Tmp}{ty:TypeId}{pos:String}{after:Array Edge}{x y:Operand}{z:List Value}{A0:Option Addr}
theorem RowC.upto(h:RowC W (.slice A0 n c) B e size n cs)(hk:k≤n):RowC W (.slice A0 k c) B e size k (cs.take (k*size)):=by
 have hl:=h.h.1;have hks:k*size≤n*size:=Nat.mul_le_mul_right _ hk;refine⟨by rw[List.length_take];omega,?_⟩
 rcases h.h.2 with ⟨h1,h2⟩|⟨g,cap,cur,h1,hb,hg,hnc,hcm,hcs,ht⟩
 ·injection h1 with h1 h3 h4
  subst h1 h4;exact .inl ⟨by rw[show k=0 by omega],by omega⟩
 ·injection h1 with h1 h3 h4
  subst h1 h4;refine .inr ⟨g,c,cur,rfl,hb,hg,by omega,hcm,hcs,?_⟩
  rw[←ht,List.take_take,Nat.min_eq_left hks]
theorem Hu(cur:List Value)(h:off+vs.length≤n)(hn:n≤cur.length):(cur.take off++vs++cur.drop (off+vs.length)).take n=(cur.take n).take off++vs++(cur.take n).drop (off+vs.length):=by
 have e1:(cur.take n).take off=cur.take off:=by rw[List.take_take,Nat.min_eq_left (by omega)]
 rw[e1,List.take_append,List.take_of_length_le (by rw[List.length_append,List.length_take];omega)]
 congr 1
 rw[List.drop_take,List.length_append,List.length_take,Nat.min_eq_left (by omega)]
theorem Io[q:ZeroT P t z](h:RowC W (.slice (some ⟨g,0,none⟩) n c) B e size n cs)
 (k:∀W',RowC W' (.slice (some ⟨g,0,none⟩) n c) B e size n (cs.take off++vs++cs.drop (off+vs.length))→GrowC W W' B (.slice (some ⟨g,0,none⟩) n c)→wpList P ops Q rest (A.put d undef) W')
 (hz:A.eval x=.pointer (some ⟨g,off,none⟩)∧(A.eval y).cells=vs.toArray∧vs.length=z.length∧off+vs.length≤n*size∧∀u∈vs,u.oneCell'=true):
 wpList P ops Q (⟨d,.store t x y,ty,pos,after,none⟩::rest) A W:=by
 obtain⟨hx,hy,hl,ho,h1⟩:=hz;have hi:=q.size;rcases h.h.2 with ⟨h',_⟩|⟨g',cap',cur,h',hb,hg,hnc,hcm,hcs,htake⟩
 ·simp at h'
 ·simp only[Value.slice.injEq,Option.some.injEq,Addr.mk.injEq,and_true,true_and] at h';obtain⟨rfl,rfl⟩:=h';have hcn:n*size≤cur.size:=by rw[hcs];exact Nat.mul_le_mul_right size hnc
  refine lY hx rfl (show Blk W g e cur from hg) (n:=z.length) hi (by rw[hy];simpa using hl) (by omega) (by rw[hy];simpa using h1) fun W' hB hgr=>k W' ⟨?_,.inr ⟨g,c,_,rfl,hb,hB,hnc,hcm,?_,?_⟩⟩ ⟨hgr,fun g2 hg2=> ?_⟩
  ·have:=h.h.1;simp;omega
  ·rw[hy];simp[putAt];omega
  ·rw[hy];simp only[putAt];have:=Hu (vs:=vs) (off:=off) (n:=n*size) cur.toList ho (by simpa using hcn)
   rw[←htake];exact this
  ·have:g=g2:=by simpa [Value.ownBlock] using hg2
   subst this;exact hb
theorem Ec[st:SlT P t e][q:ZeroT P e z](h:RowC W (.slice (some ⟨g,0,none⟩) n c) B e size n cs)
 (k':∀W',RowC W' (.slice (some ⟨g,0,none⟩) k c) B e size k (cs.take (k*size))→GrowC W W' B (.slice (some ⟨g,0,none⟩) n c)→wpList P ops Q rest (A.put d (.tuple #[])) W')
 (hz:A.eval x=.slice (partAt (some ⟨g,0,none⟩) c k size) (n-k) (c-k)∧k≤n∧size=z.length∧0<z.length∧∀u∈z,u.oneCell'=true):
 wpList P ops Q (⟨d,.call {callee:=.builtin .clear,args:=#[x],argTypes:=#[t]},ty,pos,after,none⟩::rest) A W:=by
 obtain⟨hx,hk,hs,hz0,h1⟩:=hz;obtain⟨zv,b,i1,i2,_⟩:=q.h;obtain⟨i,hi0,hzz,hsz,hby⟩:=info_parts i1;refine wpList_plain rfl fun K hK=> ?_
 by_cases hkn:k=n
 ·subst hkn;have h':(execOp A.eval (⟨d,.call {callee:=.builtin .clear,args:=#[x],argTypes:=#[t]},ty,pos,after,none⟩:Oper)).run P W=.ok (.value (.tuple #[])) W:=by
   simp only[Nat.sub_self] at hx;have hc:∀A1:Option Addr,(Builtin.clear_ #[t] ty #[.slice A1 0 (c-k)]).run P W=.ok (.tuple #[]) W:=fun A1=>by
    cases A1<;>simp[Builtin.clear_,Sem.run_bind,run_underlying st.h]
   have hc:=hc (partAt (some ⟨g,0,none⟩) c k size);rw[←hx] at hc;simp[execOp,resolve,invoke,builtin,Sem.run_bind,hc,Result.andThen]
  unfold Oper.wp;rw[h'];exact hK _ _ (k' _ (h.upto (Nat.le_refl _)) ⟨World.grownBy.refl _ _,fun g2 hg2=>(h.from_ hg2).1⟩)
 ·rcases h.h.2 with ⟨h',_⟩|⟨g',cap',cur,h',hb,hg,hnc,hcm,hcs,htake⟩
  ·simp at h'
  simp only[Value.slice.injEq,Option.some.injEq,Addr.mk.injEq,and_true,true_and] at h';obtain⟨rfl,rfl⟩:=h';have hkc:c≠k:=by omega
  unfold partAt at hx;rw[if_neg hkc] at hx;have hcn:n*size≤cur.size:=by rw[hcs];exact Nat.mul_le_mul_right size hnc
  obtain⟨vs,hvs⟩:∃vs,(Builtin.zeroCells zv.cells (n-k)).toList=vs:=⟨_,rfl⟩;have hvl:vs.length=(n-k)*size:=by rw[←hvs,Array.length_toList,size_zeroCells,i2,hs];simp
  have hv1:∀u∈vs,u.oneCell'=true:=by
   intro u hu;rw[←hvs] at hu;unfold Builtin.zeroCells at hu;simp only[Array.toList_map,List.mem_map] at hu;obtain⟨j,_,rfl⟩:=hu;rw[i2];have hj:j%z.toArray.size<z.length:=by have:=Nat.mod_lt j hz0;simpa using this
   rw[getElem!_pos z.toArray _ (by simpa using hj)]
   exact h1 _ (by simp)
  have hkl:k*size+(n-k)*size=n*size:=by rw[←Nat.add_mul];congr 1;omega
  have hst:=run_storeCells_at P g (k*size) e vs 0 cur W hg (by rw[hvl];omega) hv1
  obtain⟨W',hW',hB',hgr⟩:∃W',(storeCells ⟨g,k*size,none⟩ vs 0).run P W=.ok () W'∧(∃cur',W'.heap[g]? =some (.cells cur' e (0,0))∧cur'.size=cur.size∧cur'.toList.take (k*size)=cur.toList.take (k*size))∧W.grownBy W' (some g):=by
   refine⟨_,hst,⟨_,setRow_heap W g cur _ e _ hg,?_,?_⟩,⟨rfl,rfl,rfl,by simp[World.setRow],fun j _ hj=>setRow_other W g j _ (fun e=>hj (by rw[e]))⟩⟩
   ·simp;omega
   ·simp only[Nat.add_zero];simp;have:k*size≤cur.toList.length:=by simp;omega
    first
     |rw[List.take_append_of_le_length (by simp;omega)];rw[List.take_take];simp
     |(rw[List.append_assoc,List.take_append_of_le_length (by simp;omega),List.take_take];simp)
  have h':(execOp A.eval (⟨d,.call {callee:=.builtin .clear,args:=#[x],argTypes:=#[t]},ty,pos,after,none⟩:Oper)).run P W=.ok (.value (.tuple #[])) W':=by
   have hc:(Builtin.clear_ #[t] ty #[A.eval x]).run P W=.ok (.tuple #[]) W':=by
    rw[hx];have e1:(⟨g,0,none⟩:Addr).add (k*size)=⟨g,k*size,none⟩:=by unfold Addr.add;split<;>simp_all
    have e2:∃q,n-k=q+1:=⟨n-k-1,by omega⟩
    obtain⟨q,hq⟩:=e2;rw[hq] at hvs⊢;simp[Builtin.clear_,Sem.run_bind,run_underlying st.h,zeroValue,typeInfo,hi0,hzz,e1,hvs,hW',Result.andThen]
   simp[execOp,resolve,invoke,builtin,Sem.run_bind,hc,Result.andThen]
  unfold Oper.wp;rw[h'];obtain⟨cur',hg',hs',ht'⟩:=hB';refine hK _ _ (k' _ ⟨?_,.inr ⟨g,c,cur',rfl,hb,hg',by omega,hcm,by rw[hs',hcs],?_⟩⟩ ⟨hgr,fun g2 hg2=>(h.from_ hg2).1⟩)
  ·have:=h.h.1;rw[List.length_take];omega
  ·rw[ht',←htake,List.take_take,Nat.min_eq_left (by omega)]
end
end Go.Walk
end
section
namespace Go.Walk
open Go Go.Bp Go.RowKit
class SizC (B:World) (W:World):Prop where h:B.heap.size≤W.heap.size
section
variable{a b v0 B W B':World}{g n m size c:Nat}{t e e2:TypeId}{l cs:List Value}{v:Value}
instance(priority:=2000)SizC.refl:SizC a a:=⟨Nat.le_refl _⟩
instance(priority:=900)SizC.step[s:StepC a b][x:SizC B a]:SizC B b:=⟨Nat.le_trans x.h s.h.size⟩
instance(priority:=800)SizC.store[s:StoreC a b g][x:SizC B a]:SizC B b:=⟨Nat.le_trans x.h s.h.size⟩
instance(priority:=800)SizC.nc[s:NcC a b g][x:SizC B a]:SizC B b:=⟨Nat.le_trans x.h s.h.size⟩
instance(priority:=850)SizC.grow[s:GrowC a b B' v][x:SizC B a]:SizC B b:=⟨Nat.le_trans x.h s.h.size⟩
instance(priority:=850)SizC.ctl[s:CtlC a b v0][x:SizC B a]:SizC B b:=⟨by obtain⟨_,h,_⟩:=s.h;exact Nat.le_trans x.h h.size⟩
theorem RowC.base(h:RowC W v B e size n cs)(hs:v0.heap.size≤B.heap.size):RowC W v v0 e size n cs:=⟨⟨h.h.1,h.h.2.elim .inl fun⟨g,cap,cur,h1,h2,h3⟩=>.inr ⟨g,cap,cur,h1,Nat.le_trans hs h2,h3⟩⟩⟩
class MarkC (W:World) (D:Nat):Prop where h:W.heap[D]? =some (.deferred (some []))
variable{D D' r gm:Nat}{κ:Type}[Enc κ]{mm left:List (κ×Int)}
theorem MarkC.grown{row:Option Nat}(x:MarkC a D)(h:a.grownBy b row)(hr:some D≠row):MarkC b D:=⟨(h.block D (Array.getElem?_eq_some_iff.1 x.h).1 hr).trans x.h⟩
instance(priority:=900)MarkC.step[s:StepC a b][x:MarkC a D]:MarkC b D:=⟨s.h.heap_some x.h⟩
instance(priority:=800)MarkC.store[s:StoreC a b g][y:BlkC a g t l][x:MarkC a D]:MarkC b D:=x.grown s.h fun e=>by
 injection e with e;subst e
 have h1:=y.h;have h2:=x.h;unfold Blk at h1;rw[h1] at h2;cases h2
instance(priority:=850)MarkC.grow[s:GrowC a b B v][y:RowC a v B' e size n cs][x:MarkC a D]:MarkC b D:=x.grown s.h fun h=>by
 obtain⟨c,z,hh⟩:=y.cells_ h.symm;have h2:=x.h;rw[hh] at h2;cases h2
instance(priority:=850)MarkC.ctl[s:CtlC a b v0][x:MarkC a D][y:MarkC v0 D]:MarkC b D:=by
 obtain⟨row,h1,h2⟩:=s.h;refine x.grown h1 fun h=> ?_
 have h3:=(h2 D h.symm).1;have h4:=(Array.getElem?_eq_some_iff.1 y.h).1;omega
instance(priority:=800)MarkC.nc[s:NcC a b gm][y:MapC κ a gm mm][x:MarkC a D]:MarkC b D:=x.grown s.h fun e=>by
 injection e with e;subst e
 obtain⟨es,cl,h1,_⟩:=y.h;have h2:=x.h;rw[h1] at h2;cases h2
instance(priority:=790)MarkC.ncr[s:NcC a b r][y:RngC κ a r gm mm left][x:MarkC a D]:MarkC b D:=x.grown s.h fun e=>by
 injection e with e;subst e
 obtain⟨es,cl,s0,sn,c1,h1,_,h3,_⟩:=y.h;have h2:=x.h;rw[h3] at h2;cases h2
variable{P:Program}{ops:Array Oper}{Q:Exit→Act→World→Prop}{A:Act}{rest:List Oper}
variable{d:Option Tmp}{ty:TypeId}{pos:String}{after:Array Edge}{x y:Operand}{z:List Value}{A0:Option Addr}{c0:Nat}
theorem yD[st:SlT P t e][q:ZeroT P e z]
 (k:∀A' c' W',RowC W' (.slice A' (n+m) c') B e size (n+m) (cs++l)→GrowC W W' B (.slice A0 n c0)→wpList P ops Q rest (A.put d (.slice A' (n+m) c')) W')
 (h:A.eval x=.slice A0 n c0∧RowC W (.slice A0 n c0) B e size n cs∧A.eval y=.slice (some ⟨g,0,none⟩) m m∧BlkC W g e2 l∧size=z.length∧l.length=m*z.length∧(∀u∈l,u.oneCell'=true)∧SizC B W∧0<z.length∧n+m≤100000000:=by
  (refine⟨by with_unfolding_all rfl,?_⟩;refine⟨by infer_instance,?_⟩;refine⟨by with_unfolding_all rfl,?_⟩;refine⟨by infer_instance,by simp,by simp,by simp[Value.oneCell'],by infer_instance,by simp,by(first|omega|(simp;omega))⟩)):
 wpList P ops Q (⟨d,.call {callee:=.builtin .append,args:=#[x,y],argTypes:=#[t,t]},ty,pos,after,none⟩::rest) A W:=by
 obtain⟨h1,h2,h3,h4,h5,h6,h7,h8,h9,h10⟩:=h;obtain⟨B2,hB2,hX⟩:∃B2:World,B2.heap.size=B.heap.size∧Ext B2 W:=by
  have hs:=h8.h;have hsz:(W.heap.extract 0 B.heap.size).size=B.heap.size:=by simp;omega
  refine⟨{W with heap:=W.heap.extract 0 B.heap.size},hsz,⟨rfl,rfl,rfl,by show(W.heap.extract 0 B.heap.size).size≤_;omega,fun k hk=> ?_⟩⟩
  have hk':k<B.heap.size:=by rw[←hsz];exact hk
  show W.heap[k]? =(W.heap.extract 0 B.heap.size)[k]?
  rw[Array.getElem?_extract];simp;omega
 have h2':RowC W (.slice A0 n c0) B2 e size n cs:=⟨by rw[hB2];exact h2.h⟩
 exact bR (B:=B2) (fun A' c' W' hr hg=>k A' c' W' ⟨by rw[←hB2];exact hr.h⟩ ⟨hg.h,fun g hg'=>by rw[←hB2];exact hg.k g hg'⟩) ⟨h1,h2',h3,h4,h5,h6,h7,⟨hX⟩,h9,h10⟩
end
end Go.Walk
end
section
namespace Go.Walk
open Go Go.Bp Go.RowKit
theorem gM{P:Program}{c:Go.Code}{Q:Exit→Act→World→Prop}{a:Act}{w:World}(h:c.wp P (fun e a w=>e=.normal∧Q .normal a w) a w):c.wp P Q a w:=
 wp_mono h fun e a w h=>by obtain⟨rfl,h⟩:=h;exact h
def shutL:List Nat→World→World
 | [],w=>w
 |D::l,w=>shutL l (w.putObj D (.deferred none))
def marksL(l:List Nat):List Deferred:=l.map fun D=>{target:=.collected D,args:=#[]}
theorem gX{P:Program}{fn:Func}{R:Ending→World→Prop}{tmps:Array Value}:∀(l:List Nat)(w:World),l.Nodup→(∀D∈l,w.heap[D]? =some (.deferred (some [])))→
 LeavesInM Fence.wide 0 P fn tmps R [] .returning (shutL l w)→LeavesInM Fence.wide 0 P fn tmps R (marksL l) .returning w
 | [],_,_,_,h=>h
 |D::l,w,hn,hl,h=>by
  rw[List.nodup_cons] at hn;refine⟨by simp,.inl ⟨D,_,rfl,run_takeDeferred (hl D (by simp)),gX l _ hn.2 (fun E hE=> ?_) h⟩⟩
  have:E≠D:=fun e=>hn.1 (e▸hE)
  exact(World.putObj_heap_other (by omega)).trans (hl E (by simp[hE]))
class ShutC (a:outParam World) (b:World) (D:outParam Nat):Prop where
 h:a.grownBy b (some D)
 k:MarkC a D
instance(priority:=860)MapC.shut{κ:Type}[Enc κ]{a b:World}{D g:Nat}{m:List (κ×Int)}[s:ShutC a b D][x:MapC κ a g m]:MapC κ b g m:=⟨x.h.grown s.h fun e=>by
 injection e with e;subst e
 obtain⟨es,cl,h1,_⟩:=x.h;have h2:=s.k.h;rw[h1] at h2;cases h2⟩
theorem En{P:Program}{fn:Func}{R:Ending→World→Prop}{a:Act}{w v0:World}{D E:Nat}(hd:a.defers=[{target:=.collected D,args:=#[]},{target:=.collected E,args:=#[]}])(hne:D≠E)(h1:MarkC w D)(h2:MarkC w E)(b1:v0.heap.size≤D)(b2:v0.heap.size≤E)
 (h:∀V1 V2,CtlC w V1 v0→CtlC V1 V2 v0→ShutC w V1 D→ShutC V1 V2 E→bodyPost P fn R .ret {a with defers:=[]} V2):bodyPostM Fence.wide 0 P fn R .ret a w:=by
 have hE:MarkC (w.putObj D (.deferred none)) E:=⟨(World.putObj_heap_other (by omega)).trans h2.h⟩
 have:=h _ _ (gI (o':=.deferred none) h1.h b1) (gI (o':=.deferred none) hE.h b2) ⟨grownBy_putObj' w D _,h1⟩ ⟨grownBy_putObj' _ E _,hE⟩;obtain⟨_,v,hr,hR⟩:=this;show LeavesInM Fence.wide 0 P fn a.tmps R a.defers .returning w
 rw[hd];exact gX [D,E] w (by simp[hne]) (by intro X hX;simp at hX;rcases hX with rfl|rfl;exact h1.h;exact h2.h) ⟨v,hr,hR⟩
end Go.Walk
end
section
namespace Go.Walk
open Go Go.Bp Go.RowKit Go.Maps
open Go.WideElems (Fit rd rg)
open Go.WideShapes (sorted_perm)
def anyR{H:Type}(_:Value):Option (DataW H×List MemPlace):=some (.lit (.bool true),[])
theorem wN{H:Type}{P:Program}{k:TypeId}(hk:P.underlying k=some (.int .i64)){W:World}{g:Nat}{m:List (Int×Int)}(h:MapL W g m)(hw:∀p∈m,(Lit.int .i64 p.1).wf=true)(hl:m.length≤maxLen):
 ∃D:DataW H,W.ownsMap P k anyR g m.length D∧(intKeys D).Perm (m.map Prod.fst)∧Maps.size D=m.length:=by
 obtain⟨es,c,h1,hE⟩:=h;have hr:∀x∈es.toList,∃i,∃hi:i<m.length,x.key=.int .i64 m[i].1∧rd (H:=H) P k anyR x=some (.int .i64 m[i].1,.lit (.bool true)):=by
  intro x hx;obtain⟨i,hi,rfl⟩:=List.mem_iff_getElem.1 hx;have hi2:i<m.length:=by rw[←hE.len];exact hi
  have hkey:=(hE.at_ hi).1;refine⟨i,hi2,hkey,?_⟩;unfold rd;rw[hkey];have:=keyOf_int_mk hk (hw _ (List.getElem_mem hi2));simp[Enc.val,this,anyR]
 have hrg:es.toList.map (rg (H:=H) P k anyR)=m.map fun p=>(Lit.int .i64 p.1,.lit (.bool true)):=by
  apply List.ext_getElem (by simp;have:=hE.len;simpa using this)
  intro i h2 h3;have hi:i<es.toList.length:=by simpa using h2
  have hi2:i<m.length:=by simpa using h3
  rw[List.getElem_map,List.getElem_map];have hkey:=(hE.at_ hi).1;unfold rg rd;rw[hkey];have:=keyOf_int_mk hk (hw _ (List.getElem_mem hi2));simp[Enc.val,this,anyR]
 refine⟨.map ((es.toList.map (rg P k anyR)).foldr DataW.insert []),⟨es,c,h1,⟨?_,?_,fun x hx=> ?_⟩,?_,rfl⟩,?_,?_⟩
 ·have:=hE.len;simp at this;omega
 ·refine⟨hE.born,?_,?_⟩
  ·rw[List.Nodup,List.pairwise_map];exact hE.rises.imp fun h=>by omega
  ·have e1:es.toList.map (·.key)=(m.map Prod.fst).map (fun a=>Value.int .i64 a):=by
    have:=congrArg (fun l=>l.map Prod.fst) hE.map
    simp only[List.map_map] at this⊢;exact this
   rw[e1,List.Nodup,List.pairwise_map];exact hE.nodup.imp fun h e=>h (by injection e)
 ·obtain⟨i,hi,_,h3⟩:=hr x hx;exact⟨_,h3⟩
 ·have:=hE.len;simp at this;omega
 ·rw[hrg];show((List.foldr DataW.insert [] _).map fun p=>intOf p.1).Perm _
  refine(((sorted_perm _).map fun p=>intOf p.1)).trans ?_
  rw[List.map_map];exact List.Perm.of_eq (List.map_congr_left fun p _=>rfl)
 ·rw[hrg];show(List.foldr DataW.insert [] _).length=_
  rw[(sorted_perm _).length_eq];simp
end Go.Walk
end
section
namespace Go.Rg
open Go Go.Bp Go.RowKit Go.Walk Go.Proofs
section
variable{P:Program}{w:World}{n:Nat}{xs ys:Array Value}{f:Field}{fs:List Field}
theorem fF{a b:Int}(hn:f.name≠ "_")(hu:P.underlying f.type=some (.int .i64))(ha:∀w,(isAgg f.type).run P w=.ok false w)(hx:xs[f.offset]? =some (.int .i64 a))(hy:ys[f.offset]? =some (.int .i64 b)):
 (Op.eqFields (n+1) xs ys (f::fs)).run P w=if a=b then(Op.eqFields (n+1) xs ys fs).run P w else .ok false w:=by
 have hq:=run_equalIn_int w n f.type .i64 .i64 a b hu;by_cases e:a=b
 ·subst e;simp[Op.eqFields,hn,part,ha,hx,hy,Sem.run_bind,hq]
 ·simp[Op.eqFields,hn,part,ha,hx,hy,Sem.run_bind,hq,e]
theorem Kh{a b c d:Int}(hn:f.name≠ "_")(ha:∀w,(isAgg f.type).run P w=.ok true w)(hs:∀w,(sizeOf f.type).run P w=.ok 2 w)(hx:xs.extract f.offset (f.offset+2)=#[.int .i64 a,.int .i64 c])(hy:ys.extract f.offset (f.offset+2)=#[.int .i64 b,.int .i64 d])
 (he:∀w,(Op.equalIn (n+1) f.type (.agg #[.int .i64 a,.int .i64 c]) (.agg #[.int .i64 b,.int .i64 d])).run P w=.ok (decide (a=b∧c=d)) w):
 (Op.eqFields (n+1) xs ys (f::fs)).run P w=if a=b∧c=d then(Op.eqFields (n+1) xs ys fs).run P w else .ok false w:=by
 have he:=he w;by_cases e:a=b∧c=d
 ·obtain⟨rfl,rfl⟩:=e;simp[Op.eqFields,hn,part,ha,hs,hx,hy,Sem.run_bind,he]
 ·simp[Op.eqFields,hn,part,ha,hs,hx,hy,Sem.run_bind,he,e]
end
theorem eq80(W:World)(k d c o t q p u m k' d' c' o' t' q' p' u' m':Int):(Op.equalIn 10000 80 (.agg #[.int .i64 k,.int .i64 d,.int .i64 c,.int .i64 o,.int .i64 t,.int .i64 q,.int .i64 p,.int .i64 u,.int .i64 m]) (.agg #[.int .i64 k',.int .i64 d',.int .i64 c',.int .i64 o',.int .i64 t',.int .i64 q',.int .i64 p',.int .i64 u',.int .i64 m'])).run Tryz.prog W=.ok (decide ((⟨k,d,⟨c,o⟩,t,q,p,u,m⟩:Event)=⟨k',d',⟨c',o'⟩,t',q',p',u',m'⟩)) W:=by
 rw[show(10000:Nat)=9999+1 from rfl,run_equalIn_struct W 9999 80 _ _ (by kernel_rfl) (by kernel_rfl)]
 obtain⟨l,hl⟩:∃l,(Tryz.prog.fieldsOf 80).toList=l:=⟨_,rfl⟩;have hf:(Tryz.prog.fieldsOf 80).toList.map (fun f=>(f.name,f.type,f.offset))=[("Kind",3,0),("Day",3,1),("Right",74,2),("Treaty",3,4),("Class",3,5),("Points",3,6),("Until",3,7),("Minute",3,8)]:=by kernel_rfl
 rw[hl] at hf⊢;have hlen:l.length=8:=by have:=congrArg List.length hf;simpa using this
 obtain⟨f0,f1,f2,f3,f4,f5,f6,f7,rfl⟩:∃f0 f1 f2 f3 f4 f5 f6 f7,l=[f0,f1,f2,f3,f4,f5,f6,f7]:=by
  rcases l with _|⟨f0,_|⟨f1,_|⟨f2,_|⟨f3,_|⟨f4,_|⟨f5,_|⟨f6,_|⟨f7,_|⟨f8,l⟩⟩⟩⟩⟩⟩⟩⟩⟩<;>simp at hlen
  exact⟨f0,f1,f2,f3,f4,f5,f6,f7,rfl⟩
 simp only[List.map_cons,List.map_nil,List.cons.injEq,Prod.mk.injEq,and_true] at hf;obtain⟨⟨n0,t0,o0⟩,⟨n1,t1,o1⟩,⟨n2,t2,o2⟩,⟨n3,t3,o3⟩,⟨n4,t4,o4⟩,⟨n5,t5,o5⟩,⟨n6,t6,o6⟩,⟨n7,t7,o7⟩⟩:=hf;have hA:∀(f:Field),f.type=3→∀w,(isAgg f.type).run Tryz.prog w=.ok false w:=fun f e w=>by rw[e];exact Tryz.isAgg3 w
 rw[show(9999:Nat)=9998+1 from rfl]
 rw[fF (f:=f0) (a:=k) (b:=k') (by rw[n0];decide) (by rw[t0];kernel_rfl) (hA f0 t0) (by rw[o0];rfl) (by rw[o0];rfl)]
 rw[fF (f:=f1) (a:=d) (b:=d') (by rw[n1];decide) (by rw[t1];kernel_rfl) (hA f1 t1) (by rw[o1];rfl) (by rw[o1];rfl)]
 rw[Kh (f:=f2) (a:=c) (b:=c') (c:=o) (d:=o') (by rw[n2];decide) (by rw[t2];exact Tryz.isAgg74) (by rw[t2];exact Tryz.sizeOf74) (by rw[o2];rfl) (by rw[o2];rfl) (fun w=>by rw[t2];exact mM pairRight w 9997 c o c' o')]
 rw[fF (f:=f3) (a:=t) (b:=t') (by rw[n3];decide) (by rw[t3];kernel_rfl) (hA f3 t3) (by rw[o3];rfl) (by rw[o3];rfl)]
 rw[fF (f:=f4) (a:=q) (b:=q') (by rw[n4];decide) (by rw[t4];kernel_rfl) (hA f4 t4) (by rw[o4];rfl) (by rw[o4];rfl)]
 rw[fF (f:=f5) (a:=p) (b:=p') (by rw[n5];decide) (by rw[t5];kernel_rfl) (hA f5 t5) (by rw[o5];rfl) (by rw[o5];rfl)]
 rw[fF (f:=f6) (a:=u) (b:=u') (by rw[n6];decide) (by rw[t6];kernel_rfl) (hA f6 t6) (by rw[o6];rfl) (by rw[o6];rfl)]
 rw[fF (f:=f7) (a:=m) (b:=m') (by rw[n7];decide) (by rw[t7];kernel_rfl) (hA f7 t7) (by rw[o7];rfl) (by rw[o7];rfl)]
 have e0:((⟨k,d,⟨c,o⟩,t,q,p,u,m⟩:Event)=⟨k',d',⟨c',o'⟩,t',q',p',u',m'⟩)↔k=k'∧d=d'∧(c=c'∧o=o')∧t=t'∧q=q'∧p=p'∧u=u'∧m=m':=by
  simp only[Event.mk.injEq,Right.mk.injEq]
 rw[show decide ((⟨k,d,⟨c,o⟩,t,q,p,u,m⟩:Event)=⟨k',d',⟨c',o'⟩,t',q',p',u',m'⟩)=decide (k=k'∧d=d'∧(c=c'∧o=o')∧t=t'∧q=q'∧p=p'∧u=u'∧m=m') from decide_eq_decide.2 e0]
 have e1:(Op.eqFields (9998+1) #[Value.int .i64 k,.int .i64 d,.int .i64 c,.int .i64 o,.int .i64 t,.int .i64 q,.int .i64 p,.int .i64 u,.int .i64 m] #[Value.int .i64 k',.int .i64 d',.int .i64 c',.int .i64 o',.int .i64 t',.int .i64 q',.int .i64 p',.int .i64 u',.int .i64 m'] []).run Tryz.prog W=.ok true W:=by simp[Op.eqFields]
 rw[e1];by_cases h0:k=k'
 ·by_cases h1:d=d'
  ·by_cases h2:c=c'∧o=o'
   ·by_cases h3:t=t'
    ·by_cases h4:q=q'
     ·by_cases h5:p=p'
      ·by_cases h6:u=u'
       ·by_cases h7:m=m'<;>simp[*]
       ·simp[*]
      ·simp[*]
     ·simp[*]
    ·simp[*]
   ·rw[if_pos h0,if_pos h1,if_neg h2];simp[h0,h1];exact fun a b=>absurd ⟨a,b⟩ h2
  ·simp[*]
 ·simp[*]
theorem eql80(W:World)(k d c o t q p u m k' d' c' o' t' q' p' u' m':Int):(binOp .eql 80 (.agg #[.int .i64 k,.int .i64 d,.int .i64 c,.int .i64 o,.int .i64 t,.int .i64 q,.int .i64 p,.int .i64 u,.int .i64 m]) (.agg #[.int .i64 k',.int .i64 d',.int .i64 c',.int .i64 o',.int .i64 t',.int .i64 q',.int .i64 p',.int .i64 u',.int .i64 m'])).run Tryz.prog W=.ok (.bool (decide ((⟨k,d,⟨c,o⟩,t,q,p,u,m⟩:Event)=⟨k',d',⟨c',o'⟩,t',q',p',u',m'⟩))) W:=by
 rw[run_eql_struct,eq80];rfl
theorem neq80(W:World)(k d c o t q p u m k' d' c' o' t' q' p' u' m':Int):(binOp .neq 80 (.agg #[.int .i64 k,.int .i64 d,.int .i64 c,.int .i64 o,.int .i64 t,.int .i64 q,.int .i64 p,.int .i64 u,.int .i64 m]) (.agg #[.int .i64 k',.int .i64 d',.int .i64 c',.int .i64 o',.int .i64 t',.int .i64 q',.int .i64 p',.int .i64 u',.int .i64 m'])).run Tryz.prog W=.ok (.bool (!decide ((⟨k,d,⟨c,o⟩,t,q,p,u,m⟩:Event)=⟨k',d',⟨c',o'⟩,t',q',p',u',m'⟩))) W:=by
 rw[run_neq_struct,eq80];rfl
end Go.Rg
end
section
namespace Go.Rg
open Go Go.Bp
section
variable{α:Type}[DecidableEq α]
def ddF(x:α):List α→List α
 | []=>[]
 |y::l=>if y=x then ddF y l else y::ddF y l
def dd:List α→List α
 | []=>[]
 |x::l=>x::ddF x l
theorem Ng{x y:α}:∀{l:List α},y∈ddF x l→y∈l:=by
 intro l;induction l generalizing x with
 |nil=>intro h;cases h
 |cons z l ih=>
  intro h;unfold ddF at h;split at h
  ·exact List.mem_cons_of_mem _ (ih h)
  ·rcases List.mem_cons.1 h with h|h
   ·rw[h];simp
   ·exact List.mem_cons_of_mem _ (ih h)
theorem Nh{y:α}:∀{l:List α}(x:α),y∈l→y=x∨y∈ddF x l:=by
 intro l;induction l with
 |nil=>intro x h;cases h
 |cons z l ih=>
  intro x h;unfold ddF;rcases List.mem_cons.1 h with e|h
  ·subst e;split
   ·exact .inl (by assumption)
   ·exact .inr (by simp)
  ·split
   ·rename_i e;subst e;exact ih _ h
   ·rcases ih z h with e|h
    ·exact .inr (by rw[e];simp)
    ·exact .inr (List.mem_cons_of_mem _ h)
theorem Qv{y:α}{l:List α}:y∈dd l↔y∈l:=by
 cases l with
 |nil=>simp[dd]
 |cons x l=>
  unfold dd;rw[List.mem_cons,List.mem_cons];exact⟨fun h=>h.imp id Ng,fun h=>h.elim .inl fun h=>Nh x h⟩
theorem Kq(x y:α):∀l:List α,ddF x (l++ [y])=ddF x l++if y=(l.getLast?.getD x) then [] else [y]:=by
 intro l;induction l generalizing x with
 |nil=>by_cases h:y=x<;>simp[ddF,h]
 |cons z l ih=>
  have hl:((z::l).getLast?.getD x)=(l.getLast?.getD z):=by rw[List.getLast?_cons];rfl
  rw[List.cons_append];unfold ddF;rw[hl];split
  ·exact ih z
  ·rw[ih z];rfl
theorem oY{l:List α}{k:Nat}(h1:1≤k)(h:k<l.length):dd (l.take (k+1))=dd (l.take k)++if l[k]=l[k-1] then [] else [l[k]]:=by
 rw[List.take_succ_eq_append_getElem h]
 cases l with
 |nil=>simp at h
 |cons x l=>
  obtain⟨q,rfl⟩:∃q,k=q+1:=⟨k-1,by omega⟩
  simp only[List.take_succ_cons,List.cons_append,dd];rw[Kq];have hq:q<l.length:=by simpa using h
  have e:(l.take q).getLast?.getD x=(x::l)[q+1-1]:=by
   cases q with
   |zero=>simp
   |succ q=>simp[List.getLast?_take,show q<l.length by omega]
  rw[e]
theorem Qu(l:List α):dd (l.take 1)=l.take 1:=by cases l<;>simp[dd,ddF]
theorem xO{lt:α→α→Prop}(tri:∀a b,¬lt b a→lt a b∨a=b)(tr:∀{a b c},lt a b→lt b c→lt a c)(ir:∀a,¬lt a a):∀{l:List α},l.Pairwise (fun a b=>¬lt b a)→(dd l).Pairwise lt:=by
 have key:∀(l:List α)(x:α),(x::l).Pairwise (fun a b=>¬lt b a)→(x::ddF x l).Pairwise lt:=by
  intro l;induction l with
  |nil=>intro x _;simp[ddF]
  |cons z l ih=>
   intro x h;rw[List.pairwise_cons] at h;have hz:=ih z h.2;have hxz:=h.1 z (by simp)
   unfold ddF;split
   ·rename_i e;subst e;exact hz
   ·rename_i e;have hlt:lt x z:=(tri x z hxz).resolve_right fun e2=>e e2.symm
    rw[List.pairwise_cons];refine⟨fun y hy=> ?_,hz⟩
    rcases List.mem_cons.1 hy with rfl|hy
    ·exact hlt
    ·rw[List.pairwise_cons] at hz;exact tr hlt (hz.1 y hy)
 intro l h
 cases l with
 |nil=>exact List.Pairwise.nil
 |cons x l=>exact key l x h
end
theorem Kp{l m:List Event}(hp:m.Perm l)(hs:m.Pairwise fun a b=>¬cmpL (fields b) (fields a)<0):dd m=sortE l:=by
 refine Ic (xO (lt:=ltE) (fun a b h=> ?_) (fun h k=>nJ h k) jA hs) fun y=> ?_
 ·rcases Cx a b with h1|h1|h1
  ·exact .inl h1
  ·exact .inr h1
  ·exact absurd h1 h
 ·rw[Qv,hp.mem_iff]
end Go.Rg
end
