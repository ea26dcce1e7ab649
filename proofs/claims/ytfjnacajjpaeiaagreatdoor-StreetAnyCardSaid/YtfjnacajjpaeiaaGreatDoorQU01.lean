/- Chapter 03: contracts of functions of the program and of the reference, and plain laws (out of NSG). No condition of its own. -/
import Derived.Test.YtfjnacajjpaeiaaGreatDoorQH01
import Derived.Test.YtfjnacajjpaeiaaGreatDoorQZ01
set_option maxRecDepth 100000
set_option linter.all false
section
namespace Go.Walk
open Go Go.Bp Go.St Go.RowKit Go.Proofs
section
variable{a W B:World}{g n m c c0 c1 size:Nat}{t e:TypeId}{l cs:List Value}{v u:Value}{P:Program}
variable{ops:Array Oper}{Q:Exit→Act→World→Prop}{A:Act}{rest:List Oper}
variable{d:Option Tmp}{ty:TypeId}{pos:String}{after:Array Edge}{x y:Operand}{z:List Value}{A0 A1:Option Addr}
theorem Xm(h:RowC W (.slice A0 n c) B e size n cs)(hn:0<n):∃g,A0=some ⟨g,0,none⟩:=by
 rcases h.h.2 with ⟨h1,_⟩|⟨g,cap,cur,h1,_⟩
 ·injection h1 with _ h2;omega
 ·injection h1 with h2;exact⟨g,h2⟩
theorem Xk{v:Value}{off:Nat}[q:ZeroT P t z](h:RowC W (.slice (some ⟨g,0,none⟩) n c) B e size n cs)
 (k:∀W',RowC W' (.slice (some ⟨g,0,none⟩) n c) B e size n (cs.set off v)→GrowC W W' B (.slice (some ⟨g,0,none⟩) n c)→wpList P ops Q rest (A.put d undef) W')
 (hz:A.eval x=.pointer (some ⟨g,off,none⟩)∧A.eval y=v∧v.cells=#[v]∧v.oneCell'=true∧z.length=1∧off<n*size:=by
  (refine⟨by with_unfolding_all rfl,by with_unfolding_all rfl,by with_unfolding_all rfl,by with_unfolding_all rfl,by with_unfolding_all rfl,by omega⟩)):
 wpList P ops Q (⟨d,.store t x y,ty,pos,after,none⟩::rest) A W:=by
 obtain⟨hx,hy,hv,h1,hz1,ho⟩:=hz;have hi:=q.size;rw[hz1] at hi;rcases h.h.2 with ⟨h',_⟩|⟨g',cap',cur,h',hb,hg,hnc,hcm,hcs,htake⟩
 ·simp at h'
 ·simp only[Value.slice.injEq,Option.some.injEq,Addr.mk.injEq,and_true,true_and] at h';obtain⟨rfl,rfl⟩:=h';have hsz:off+1≤cur.size:=by rw[hcs];have:=Nat.mul_le_mul_right size hnc;omega
  refine aK hx hy (show Blk W g e cur from hg) hi (by rw[hv];rfl) hsz (by rw[hv];simpa using h1) fun W' hB hgr=>k W' ⟨by simpa using h.h.1,.inr ⟨g,c,_,rfl,hb,hB,hnc,hcm,?_,?_⟩⟩ ⟨hgr,fun g2 hg2=> ?_⟩
  ·rw[hv];simp[aI];omega
  ·rw[hv];simp only[aI];simp;have e2:cur.toList.take off++v::cur.toList.drop (off+1)=cur.toList.set off v:=by
    rw[List.set_eq_take_append_cons_drop,if_pos (by simp;omega)]
   rw[e2,List.take_set,htake]
  ·have:g=g2:=by simpa [Value.ownBlock] using hg2
   subst this;exact hb
def Vz:List (Street×Value)→List Value
 | []=>[]
 |(s,v)::l=>.int .i64 s.a:: .int .i64 s.b:: .int .i64 s.metres:: .int .i64 s.lo:: .int .i64 s.hi:: .bool s.both::v::Vz l
theorem Wg:∀l:List (Street×Value),(Vz l).length=l.length*7
 | []=>rfl
 |(s,v)::l=>by simp only[Vz,List.length_cons,Wg l];omega
theorem Ww:∀(l:List (Street×Value))(i:Nat)(h:i<l.length),(Vz l).set (i*7+5) (.bool true)=Vz (l.set i (Town.Ev l[i].1,l[i].2))
 | [],i,h=>by simp at h
 |(s,v)::l,0,h=>by simp[Vz,Town.Ev]
 |(s,v)::l,i+1,h=>by
  rw[show(i+1)*7+5=i*7+5+1+1+1+1+1+1+1 by omega]
  simp only[Vz,List.set_cons_succ,List.getElem_cons_succ];rw[Ww l i (by simpa using h)]
theorem Xb:∀(l:List (Street×Value))(i:Nat)(h:i<l.length),((Vz l).drop (i*7)).take 7=[.int .i64 l[i].1.a,.int .i64 l[i].1.b,.int .i64 l[i].1.metres,.int .i64 l[i].1.lo,.int .i64 l[i].1.hi,.bool l[i].1.both,l[i].2]
 | [],i,h=>by simp at h
 |(s,v)::l,0,h=>by simp[Vz]
 |(s,v)::l,i+1,h=>by
  rw[show(i+1)*7=i*7+1+1+1+1+1+1+1 by omega]
  simp only[Vz,List.drop_succ_cons,List.getElem_cons_succ];exact Xb l i (by simpa using h)
theorem Xa:∀(l:List (Street×Value)),(∀x∈l,x.2.oneCell'=true)→∀u∈Vz l,u.oneCell'=true
 | [],_,u,hu=>by simp[Vz] at hu
 |(s,v)::l,h,u,hu=>by
  simp only[Vz,List.mem_cons] at hu;rcases hu with rfl|rfl|rfl|rfl|rfl|rfl|rfl|hu
  iterate 6 rfl
  ·exact h (s,_) (by simp)
  ·exact Xa l (fun x hx=>h x (by simp[hx])) u hu
theorem Xh{xv:Value}{l:List Street}(h:gY W xv l):∃svs:List (Street×Value),svs.map (·.1)=l∧(∀x∈svs,bG W x.2 x.1.shows)∧Sl W 7 xv l.length (Vz svs):=by
 obtain⟨A,c,rfl,h1,h2,h3⟩:=h;by_cases hn:0<l.length
 ·obtain⟨ad,rfl,hc⟩:=h3 hn;have key:∀(n:Nat),n≤l.length→∃svs:List (Street×Value),svs.map (·.1)=l.take n∧(∀x∈svs,bG W x.2 x.1.shows)∧cS W ad (Vz svs):=by
   intro n;induction n with
   |zero=>intro _;exact⟨[],by simp,by simp,fun j u hu=>by simp[Vz] at hu⟩
   |succ n ih=>
    intro hn';obtain⟨svs,e1,e2,e3⟩:=ih (by omega)
    obtain⟨sv,hs⟩:=hc n (by omega)
    have hlen:svs.length=n:=by have:=congrArg List.length e1;simp at this;omega
    refine⟨svs++ [(l[n],sv)],?_,?_,?_⟩
    ·rw[List.map_append,e1,List.take_succ_eq_append_getElem (by omega)];rfl
    ·intro x hx;rcases List.mem_append.1 hx with hx|hx
     ·exact e2 x hx
     ·rw[List.mem_singleton.1 hx];exact hs.2
    ·have eapp:∀(p q:List (Street×Value)),Vz (p++q)=Vz p++Vz q:=by
      intro p q;induction p with
      |nil=>rfl
      |cons x p ih=>obtain⟨s,v⟩:=x;simp[Vz,ih]
     rw[eapp];intro j u hu;by_cases hj:j<n*7
     ·rw[List.getElem?_append_left (by rw[Wg,hlen];exact hj)] at hu
      exact e3 j u hu
     ·rw[List.getElem?_append_right (by rw[Wg,hlen];omega),Wg,hlen] at hu
      have:=hs.1 (j-n*7) u (by simpa [Vz] using hu)
      rw[mI,show n*7+(j-n*7)=j by omega] at this
      exact this
  obtain⟨svs,e1,e2,e3⟩:=key l.length (Nat.le_refl _);rw[List.take_length] at e1;have hlen:svs.length=l.length:=by have:=congrArg List.length e1;simpa using this
  exact⟨svs,e1,e2,_,_,rfl,h1,h2,by rw[Wg,hlen],fun _=>⟨ad,rfl,e3⟩⟩
 ·have:l=[]:=List.length_eq_zero_iff.1 (by omega)
  subst this;exact⟨[],rfl,by simp,_,_,rfl,h1,h2,by simp[Vz],fun h=>by simp[Vz] at h⟩
theorem Xi{xv:Value}{svs:List (Street×Value)}(hv:∀x∈svs,bG W x.2 x.1.shows)(h:Sl W 7 xv svs.length (Vz svs)):gY W xv (svs.map (·.1)):=by
 obtain⟨A,c,rfl,h1,h2,h3,h4⟩:=h;refine⟨A,c,by simp,by simpa using h1,h2,fun hn=> ?_⟩
 simp only[List.length_map] at hn;obtain⟨ad,rfl,hc⟩:=h4 (by omega)
 refine⟨ad,rfl,fun k hk=> ?_⟩
 simp only[List.length_map] at hk;refine⟨svs[k].2,?_,?_⟩
 ·rw[List.getElem_map];refine hc.sub (k*7) fun j u hu=> ?_
  rw[←Xb svs k hk] at hu;rw[List.getElem?_take,List.getElem?_drop] at hu;split at hu
  ·exact hu
  ·cases hu
 ·rw[List.getElem_map];exact hv _ (List.getElem_mem hk)
class SlB (w:outParam World) (v:Value) (size n:outParam Nat) (cells:outParam (List Value)):Prop where h:Sl w size v n cells∧∀u∈cells,u.oneCell'=true
instance[p:SlB a v size n cs][q:ExtC a W]:SlC W v size n cs:=⟨p.h.1.ext q.h,p.h.2⟩
theorem Xe{xv:Value}{l:List Street}(h:gY W xv l):∃svs:List (Street×Value),svs.map (·.1)=l∧(∀x∈svs,bG W x.2 x.1.shows)∧SlB W xv 7 l.length (Vz svs):=by
 obtain⟨svs,h1,h2,h3⟩:=Xh h;exact⟨svs,h1,h2,⟨h3,Xa svs fun x hx=>(An (h2 x hx)).2⟩⟩
def Xg(x:Street×Value):Street×Value:=(Town.Ev x.1,x.2)
def Wu(l:List (Street×Value))(i:Nat):List (Street×Value):=(l.take i).map Xg++l.drop i
theorem Xo(l:List (Street×Value))(i:Nat):(Wu l i).length=l.length:=by unfold Wu;simp;omega
theorem Xn(l:List (Street×Value))(i:Nat)(h:i<l.length):(Vz (Wu l i)).set (i*7+5) (.bool true)=Vz (Wu l (i+1)):=by
 have h2:i<(Wu l i).length:=by rw[Xo];exact h
 have e:(Wu l i)[i]=l[i]:=by simp[Wu,List.getElem_append,show min i l.length=i by omega]
 rw[Ww _ i h2,e];congr 1
 unfold Wu;rw[List.set_append_right _ _ (by simp;omega),List.take_succ_eq_append_getElem h,List.map_append]
 simp only[List.length_map,List.length_take,show i-min i l.length=0 by omega,List.map_cons,List.map_nil,List.append_assoc]
 rw[List.drop_eq_getElem_cons h,List.set_cons_zero];simp[Xg]
theorem Xp(l:List (Street×Value)):Wu l l.length=l.map Xg:=by unfold Wu;simp
theorem Xj{w W:World}{a1 a2 a3 a4 x:Value}{t:Town}{svs:List (Street×Value)}{n:Nat}(h:aM w (.agg #[a1,a2,a3,a4]) t)(hE:Ext w W)(hs:svs.map (·.1)=t.streets)(hv:∀x∈svs,bG w x.2 x.1.shows)(hn:n=svs.length)(hr:Sl W 7 x n (Vz (Wu svs n))):aM W (.agg #[a1,a2,a3,x]) t.allBoth:=by
 obtain⟨pv,sv,tmv,xv,e,hT⟩:=h;injection e with e
 injection e with e
 injection e with e1 e
 injection e with e2 e
 injection e with e3 e
 subst e1 e2 e3;have hT2:=hT.ext hE;subst hn;rw[Xp] at hr;have h2:=Xi (svs:=svs.map Xg) (fun y hy=>by
  obtain⟨z,hz,rfl⟩:=List.mem_map.1 hy;exact(hv z hz).ext hE) (by rwa [List.length_map])
 have e4:(svs.map Xg).map (·.1)=t.allBoth.streets:=by
  show _=t.streets.map Town.Ev
  rw[←hs,List.map_map,List.map_map];rfl
 rw[e4] at h2;exact⟨_,_,_,_,rfl,⟨hT2.places,hT2.shows,hT2.times,h2,hT2.wf⟩⟩
end
end Go.Walk
end
