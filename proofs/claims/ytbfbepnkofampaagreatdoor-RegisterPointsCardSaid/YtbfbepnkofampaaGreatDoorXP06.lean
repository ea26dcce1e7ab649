import Derived.Lib.AtoiAll
import Derived.Lib.ItoaMem
import Derived.Lib.Split
import Derived.Test.YtbfbepnkofampaaGreatDoorXP05
set_option maxRecDepth 100000
set_option linter.all false
section
namespace Go.Rg
open Go.Bp
def evAt(l:List Event)(k:Nat):Event:=l.getD k (Rules.bare 0 0)
structure TakInv(r:Rules)(l:List Event)(i:Nat)(st:List Int×List Span)(ds rest:List Int)(o:Off):Prop where
 days:offDays l=ds++rest
 eq:o=ds.foldl (r.stepOff l) ⟨[],[],[]⟩
 ok:OffOk r l ds o
 bans:st.2=o.bans
 len:st.1.length=l.length
 out:∀k,k<l.length→st.1.getD k 0=outOf o (evAt l k)
 done:∀d∈ds,∀k,k<l.length→isOff (evAt l k)=true→(evAt l k).day=d→k<i
 todo:∀d∈rest,∃k,i≤k∧k<l.length∧isOff (evAt l k)=true∧(evAt l k).day=d
theorem Kg{l:List Event}{k:Nat}(h:k<l.length):evAt l k∈l:=by unfold evAt;simp[List.getD,h]
theorem Ks{l:List Event}(hs:l.Pairwise fun a b=>a.day≤b.day){i k:Nat}(h:i≤k)(hk:k<l.length):(evAt l i).day≤(evAt l k).day:=by
 unfold evAt;simp only[List.getD,hk,show i<l.length by omega,List.getElem?_eq_getElem,Option.getD_some]
 rcases Nat.lt_or_ge i k with hlt|hge
 ·exact List.pairwise_iff_getElem.1 hs i k (by omega) hk hlt
 ·have:i=k:=by omega
  subst this;exact Int.le_refl _
theorem Al{l:List Event}{i:Nat}(h:Rules.lastOf l i=false)(ho:isOff (evAt l i)=true):∃k,i<k∧k<l.length∧isOff (evAt l k)=true∧(evAt l k).day=(evAt l i).day:=by
 unfold Rules.lastOf at h;rw[show isOff (l.getD i (Rules.bare 0 0))=true from ho,Bool.true_and] at h
 obtain⟨k,hk,h2⟩:=List.all_eq_false.1 h;simp only[Bool.not_eq_true,Bool.not_eq_false',Bool.and_eq_true,decide_eq_true_eq] at h2;exact⟨k,h2.1.1,List.mem_range.1 hk,h2.1.2,h2.2⟩
theorem Fe{l:List Event}{i:Nat}(h:Rules.lastOf l i=true):isOff (evAt l i)=true∧∀k,k<l.length→isOff (evAt l k)=true→(evAt l k).day=(evAt l i).day→k≤i:=by
 unfold Rules.lastOf at h;rw[Bool.and_eq_true] at h;refine⟨h.1,fun k hk ho hd=> ?_⟩
 have:=List.all_eq_true.1 h.2 k (List.mem_range.2 hk);simp only[Bool.not_eq_true',Bool.and_eq_false_iff,decide_eq_false_iff_not] at this;rcases this with (h3|h3)|h3
 ·omega
 ·rw[show isOff (l.getD k (Rules.bare 0 0))=true from ho] at h3;cases h3
 ·exact absurd hd h3
theorem Hv{r:Rules}{l:List Event}(hs:l.Pairwise fun a b=>a.day≤b.day)(h0:∀x∈l,0≤x.day)(hf:1≤r.fall){i:Nat}(hi:i<l.length){st:List Int×List Span}{ds rest:List Int}{o:Off}
 (h:TakInv r l i st ds rest o):∃ds' rest' o',TakInv r l (i+1) (r.stepT l st i) ds' rest' o':=by
 have hday:(l.getD i (Rules.bare 0 0)).day=(evAt l i).day:=rfl
 cases hl:Rules.lastOf l i with
 |false=>
  have e:r.stepT l st i=st:=by unfold Rules.stepT;simp only;rw[if_pos (.inl hl)]
  rw[e];refine⟨ds,rest,o,h.days,h.eq,h.ok,h.bans,h.len,h.out,fun d hd k hk ho e=>by have:=h.done d hd k hk ho e;omega,fun d hd=> ?_⟩
  obtain⟨k,h1,h2,h3,h4⟩:=h.todo d hd;rcases Nat.lt_or_ge i k with hlt|hge
  ·exact⟨k,hlt,h2,h3,h4⟩
  ·have:k=i:=by omega
   subst this;obtain⟨k',g1,g2,g3,g4⟩:=Al hl h3;exact⟨k',g1,g2,g3,by rw[g4,h4]⟩
 |true=>
  obtain⟨ho,hlast⟩:=Fe hl;obtain⟨D,hD⟩:∃D,(evAt l i).day=D:=⟨_,rfl⟩;have hDm:D∈offDays l:=offDays_mem.2 ⟨evAt l i,Kg hi,ho,hD⟩;have hsrt:=fW ((l.filter isOff).map fun x=>x.day)
  have hds:D∉ds:=fun hd=>by have:=h.done D hd i hi ho hD;omega
  have hrest:∃rest',rest=D::rest':=by
   rw[h.days] at hDm;rcases List.mem_append.1 hDm with hd|hd
   ·exact absurd hd hds
   ·cases rest with
    |nil=>simp at hd
    |cons a rest'=>
     have ha:D≤a:=by
      obtain⟨k,h1,h2,h3,h4⟩:=h.todo a (by simp)
      have:=Ks hs h1 h2;omega
     rcases List.mem_cons.1 hd with e|hd
     ·exact⟨rest',by rw[e]⟩
     ·have hp:offDays l=ds++a::rest':=h.days;have:=(jM hp).2 D hd;omega
  obtain⟨rest',rfl⟩:=hrest;have hdays:=h.days;obtain⟨hlt,hgt⟩:=jM hdays;have hok':=Cl hdays hf h.ok;have hsum:=Pm hf h0 hdays h.ok (out:=st.1) h.out;have hdays':offDays l=(ds++ [D])++rest':=by rw[hdays];simp
  have heq':r.stepOff l o D=(ds++ [D]).foldl (r.stepOff l) ⟨[],[],[]⟩:=by rw[List.foldl_append,←h.eq];rfl
  have hdone:∀d∈ds++ [D],∀k,k<l.length→isOff (evAt l k)=true→(evAt l k).day=d→k<i+1:=by
   intro d hd k hk hok e;rcases List.mem_append.1 hd with hd|hd
   ·have:=h.done d hd k hk hok e;omega
   ·have:=hlast k hk hok (by rw[e,List.mem_singleton.1 hd,hD]);omega
  have htodo:∀d∈rest',∃k,i+1≤k∧k<l.length∧isOff (evAt l k)=true∧(evAt l k).day=d:=by
   intro d hd;obtain⟨k,h1,h2,h3,h4⟩:=h.todo d (by simp[hd])
   have hne:k≠i:=by
    intro e;subst e;have:=hgt d hd;omega
   exact⟨k,by omega,h2,h3,h4⟩
  by_cases hc:r.sumT l st.1 D<r.limit
  ·have e:r.stepT l st i=st:=by unfold Rules.stepT;simp only;rw[if_pos (.inr (by rw[hday,hD];exact hc))]
   have e2:r.stepOff l o D=⟨r.liveAt l o D,o.taken,o.bans⟩:=by unfold Rules.stepOff;rw[if_pos (by rw[←hsum];exact hc)]
   rw[e];refine⟨ds++ [D],rest',r.stepOff l o D,hdays',heq',hok',by rw[e2];exact h.bans,h.len,fun k hk=> ?_,hdone,htodo⟩
   rw[h.out k hk,e2];rfl
  ·have e:r.stepT l st i=((List.range l.length).map fun k=>if r.counts l st.1 D k=true then D else st.1.getD k 0,st.2++r.banOf D):=by
    unfold Rules.stepT;simp only;rw[if_neg (by rw[not_or];exact⟨by rw[hl];simp,by rw[hday,hD];exact hc⟩),hday,hD]
   have e2:r.stepOff l o D=⟨[],o.taken++(r.liveAt l o D).map (fun p=>(p.1,D)),o.bans++r.banOf D⟩:=by unfold Rules.stepOff;rw[if_neg (by rw[←hsum];exact hc)]
   rw[e];refine⟨ds++ [D],rest',r.stepOff l o D,hdays',heq',hok',by rw[e2];show st.2++_=o.bans++_;rw[h.bans],by simp,fun k hk=> ?_,hdone,htodo⟩
   have e3:(((List.range l.length).map fun k=>if r.counts l st.1 D k=true then D else st.1.getD k 0)).getD k 0=if r.counts l st.1 D k=true then D else st.1.getD k 0:=by simp[List.getD,hk]
   simp only;rw[e3,e2,h.out k hk];unfold outOf;simp only
   cases hoff:isOff (evAt l k) with
   |false=>
    have:r.counts l st.1 D k=false:=by unfold Rules.counts;rw[show isOff (l.getD k (Rules.bare 0 0))=false from hoff];rfl
    rw[this];simp
   |true=>
    have hiff:=wV hf h0 hdays h.ok (Kg hk) hoff;have hcnt:r.counts l st.1 D k=true↔∃p∈r.liveAt l o D,p.1=(evAt l k).day:=by
     rw[hiff];unfold Rules.counts;rw[show isOff (l.getD k (Rules.bare 0 0))=true from hoff,h.out k hk]
     simp only[Bool.true_and,Bool.and_eq_true,decide_eq_true_eq,and_assoc];exact Iff.rfl
    rw[pG];by_cases hcc:r.counts l st.1 D k=true
    ·rw[if_pos hcc,uV (hcnt.1 hcc)];have hno:whenIn o.taken (evAt l k).day=none:=by
      refine jQ fun q hq e4=> ?_
      obtain⟨p,hp,e5⟩:=hcnt.1 hcc;rcases(live_mem.1 hp).1 with hp|hp
      ·exact h.ok.apart p hp q hq (by rw[e5,e4])
      ·have:=hlt _ (h.ok.taken q hq).1;rw[hp] at e5;simp only at e5;omega
     rw[hno];simp
    ·rw[if_neg hcc];have hno:whenIn ((r.liveAt l o D).map fun p=>(p.1,D)) (evAt l k).day=none:=by
      refine jQ fun q hq e4=> ?_
      obtain⟨p,hp,rfl⟩:=List.mem_map.1 hq;exact hcc (hcnt.2 ⟨p,hp,e4⟩)
     rw[hno,Option.or_none]
theorem Hj{r:Rules}{l:List Event}(hs:l.Pairwise fun a b=>a.day≤b.day)(h0:∀x∈l,0≤x.day)(hf:1≤r.fall):
 (r.takenR l).2=(r.offs l).bans∧(r.takenR l).1.length=l.length∧∀k,k<l.length→(r.takenR l).1.getD k 0=outOf (r.offs l) (evAt l k):=by
 have key:∀n,n≤l.length→∃ds rest o,TakInv r l n ((List.range n).foldl (r.stepT l) (l.map fun _=> -1,[])) ds rest o:=by
  intro n;induction n with
  |zero=>
   intro _;refine⟨[],offDays l,⟨[],[],[]⟩,rfl,rfl,sR r l,rfl,by simp,fun k hk=> ?_,by simp,fun d hd=> ?_⟩
   ·have:outOf ⟨[],[],[]⟩ (evAt l k)= -1:=by unfold outOf whenIn;split<;>rfl
    rw[this];simp[List.getD,hk]
   ·obtain⟨x,hx,h1,h2⟩:=offDays_mem.1 hd;obtain⟨k,hk,e⟩:=List.mem_iff_getElem.1 hx;have:evAt l k=x:=by unfold evAt;simp[List.getD,hk,e]
    exact⟨k,by omega,hk,by rw[this];exact h1,by rw[this];exact h2⟩
  |succ n ih=>
   intro hn;obtain⟨ds,rest,o,h⟩:=ih (by omega)
   rw[List.range_succ,List.foldl_append];exact Hv hs h0 hf (by omega) h
 obtain⟨ds,rest,o,h⟩:=key l.length (Nat.le_refl _);have hr:rest=[]:=by
  cases rest with
  |nil=>rfl
  |cons d rest=>obtain⟨k,h1,h2,_⟩:=h.todo d (by simp);omega
 subst hr;have ho:r.offs l=o:=by unfold Rules.offs;rw[h.days,List.append_nil,←h.eq]
 rw[ho];exact⟨h.bans,h.len,h.out⟩
end Go.Rg
end
section
namespace Go.Rg
open Go.Bp
theorem zO{day term:Int}(h0:0≤day)(h:day≤40000)(ht:0≤term)(ht2:term≤100):
 plusAns day term 0=dayOf ((dateOf day).year+term) (dateOf day).month (min (dateOf day).day (monthLen (leap ((dateOf day).year+term)) (dateOf day).month)):=by
 obtain⟨v,v2,v3⟩:=fG h0 h;have hm:=inB_t.1 v.hm;unfold plusAns;rw[if_neg (by rw[inB_t.2 (show 0≤day∧day≤40000 by omega),inB_t.2 (show 0≤term∧term≤100 by omega)];simp[inB])]
 generalize dateOf day=d at v v2 v3 hm⊢;obtain⟨y,m,d⟩:=d;simp only at hm⊢;have e1:(0+m-1).tdiv 12=0:=Int.tdiv_eq_zero_of_lt (by omega) (by omega)
 have e2:(0+m-1).tmod 12+1=m:=by rw[Int.tmod_eq_of_lt (by omega) (by omega)];omega
 rw[e1,e2,show y+term+0=y+term by omega]
theorem kB{day term:Int}(h0:0≤day)(h:day≤40000)(ht:0≤term)(hy:(dateOf day).year+term≤2202):
 Valid ((dateOf day).year+term) (dateOf day).month (min (dateOf day).day (monthLen (leap ((dateOf day).year+term)) (dateOf day).month)):=by
 obtain⟨v,v2,v3⟩:=fG h0 h;have:=(bW (leap ((dateOf day).year+term)) v.hm).2;have hd:=inB_t.1 v.hd;have hy0:=v.hy;exact⟨⟨by omega,hy⟩,v.hm,inB_t.2 (by omega)⟩
theorem eV{day term:Int}(h0:0≤day)(h:day≤40000)(ht:0≤term)(ht2:term≤100):
 (plusAns day term 0=(0,7)∧((dateOf day).year+term≤2200→40000<ord ((dateOf day).year+term) (dateOf day).month (min (dateOf day).day (monthLen (leap ((dateOf day).year+term)) (dateOf day).month))))∨
 ((dateOf day).year+term≤2200∧plusAns day term 0=(ord ((dateOf day).year+term) (dateOf day).month (min (dateOf day).day (monthLen (leap ((dateOf day).year+term)) (dateOf day).month)),0)∧(plusAns day term 0).1≤40000):=by
 obtain⟨v,v2,v3⟩:=fG h0 h;have hb:=(bW (leap ((dateOf day).year+term)) v.hm).2;have hd:=inB_t.1 v.hd;have hy0:=v.hy;rw[zO h0 h ht ht2,uK v.hm (inB_t.2 (by omega))]
 by_cases hy:(dateOf day).year+term≤2200
 ·rw[if_neg (by rw[inB_t.2 (show 2000≤(dateOf day).year+term∧(dateOf day).year+term≤2200 by omega)];simp)]
  split
  ·rename_i hc;exact .inl ⟨rfl,fun _=>hc⟩
  ·rename_i hc;exact .inr ⟨hy,rfl,by simp only;omega⟩
 ·rw[if_pos (inB_f.2 (by omega))]
  exact .inl ⟨rfl,fun h=>absurd h hy⟩
theorem Eo{a b term:Int}(h0:0≤a)(hab:a≤b)(hb:b≤40000)(ht:0≤term)(ht2:term≤100)(h:(plusAns a term 0).2≠0):(plusAns b term 0).2≠0:=by
 obtain⟨va,va2,va3⟩:=fG (day:=a) h0 (by omega)
 obtain⟨vb,vb2,vb3⟩:=fG (day:=b) (by omega) hb
 have hle:=(qH va vb).1 (by omega)
 rcases eV (day:=b) (term:=term) (by omega) hb ht ht2 with ⟨e,_⟩|⟨hy,e,hm⟩
 ·rw[e];decide
 ·exfalso;rcases eV (day:=a) (term:=term) h0 (by omega) ht ht2 with ⟨ea,hea⟩|⟨_,ea,_⟩
  ·have hya:(dateOf a).year+term≤2200:=by omega
   have Va:=kB (day:=a) (term:=term) h0 (by omega) ht (by omega)
   have Vb:=kB (day:=b) (term:=term) (by omega) hb ht (by omega)
   have hl:=(qH Va Vb).2 (by
    rcases hle with h1|⟨h1,h2|⟨h2,h3⟩⟩
    ·exact .inl (by omega)
    ·exact .inr ⟨by omega,.inl h2⟩
    ·refine .inr ⟨by omega,.inr ⟨h2,?_⟩⟩
     rw[h1,h2];omega)
   have:=hea hya;rw[e] at hm;simp only at hm;omega
  ·rw[ea] at h;exact h rfl
namespace Rules
variable(r:Rules)
def renewedR(l:List Event)(y:Right)(day:Int):List Event→Int→Int
 | [],e=>e
 |z::zs,e=>renewedR l y day zs (if z.kind=2∧z.cls=y.cls∧day≤z.day∧z.day<e∧r.bannedBy l z.day=0 then r.endOf z.day y.cls else e)
def endR(born:Int)(l:List Event)(o:List Grant)(x:Event):Int:=
 if r.reasonOf born l o x (r.rightOf x)=0∧0<(r.sys.at_ (r.rightOf x).cls).term then r.renewedR l (r.rightOf x) x.day l (r.endOf x.day (r.rightOf x).cls) else r.endOf x.day (r.rightOf x).cls
def grantsR(born:Int)(l:List Event):List Event→List Grant→List Grant
 | [],o=>o
 |x::xs,o=>if x.kind=0∨x.kind=1 then grantsR born l xs (o++ [⟨x.day,r.rightOf x,r.reasonOf born l o x (r.rightOf x),r.endR born l o x⟩]) else grantsR born l xs o
end Rules
def normG(g:Grant):Grant:=if g.reason=0 then g else {g with end_:=0}
theorem rK{p:Grant→Bool}(hp:∀g,g.reason≠0→p g=false):∀l:List Grant,l.any p=(l.map normG).any p
 | []=>rfl
 |g::l=>by
  rw[List.any_cons,List.map_cons,List.any_cons,rK hp l];congr 1
  unfold normG;split
  ·rfl
  ·rename_i h;rw[hp g h,hp _ (by exact h)]
theorem wA{r:Rules}{born:Int}{l:List Event}{o o':List Grant}(h:o.map normG=o'.map normG)(x:Event)(y:Right):r.reasonOf born l o x y=r.reasonOf born l o' x y:=by
 unfold Rules.reasonOf;have hp:∀g:Grant,g.reason≠0→(decide (g.day<x.day)&&decide (g.reason=0)&&decide (x.day<g.end_)&&r.sys.covers g.right.cls (r.sys.at_ y.cls).needs)=false:=by
  intro g hg;simp[hg]
 simp only[rK hp o,rK hp o',h]
theorem lD{r:Rules}{l:List Event}{y:Right}{day:Int}(ht:0<(r.sys.at_ y.cls).term)(ht2:(r.sys.at_ y.cls).term≤100):∀(zs:List Event)(e:Int)(from_:Int),zs.Pairwise (fun a b=>a.day≤b.day)→(∀z∈zs,0≤z.day∧z.day≤40000)→0≤from_→from_≤40000→e=r.endOf from_ y.cls→from_≤day∨(∀z∈zs,from_≤z.day)→r.renewed l y day zs e=r.renewedR l y day zs e
 | [],_,_,_,_,_,_,_,_=>rfl
 |z::zs,e,from_,hp,hb,hf,hf2,he,hord=>by
  rw[List.pairwise_cons] at hp;have hz:=hb z (by simp)
  unfold Rules.renewed Rules.renewedR;have hzs:∀w∈zs,0≤w.day∧w.day≤40000:=fun w hw=>hb w (by simp[hw])
  by_cases hc:z.kind=2∧z.cls=y.cls∧day≤z.day∧z.day<e∧r.bannedBy l z.day=0
  ·rw[if_pos hc];obtain⟨c1,c2,c3,c4,c5⟩:=hc;have hfz:from_≤z.day:=by
    rcases hord with h|h
    ·omega
    ·exact h z (by simp)
   have hend:(if z.kind=2∧e<40001∧z.cls=y.cls∧day≤z.day∧z.day<e∧r.bannedBy l z.day=0 then r.endOf z.day z.cls else e)=r.endOf z.day y.cls:=by
    by_cases hlt:e<40001
    ·rw[if_pos ⟨c1,hlt,c2,c3,c4,c5⟩,c2]
    ·rw[if_neg (fun h=>hlt h.2.1)]
     have hover:∀d,0≤d→d≤40000→(r.endOf d y.cls=40001↔(plusAns d (r.sys.at_ y.cls).term 0).2≠0):=by
      intro d h0 h;unfold Rules.endOf;simp only;rw[if_neg (by omega)]
      rcases eV h0 h (show 0≤(r.sys.at_ y.cls).term by omega) ht2 with ⟨e1,_⟩|⟨_,e1,e2⟩
      ·rw[e1];simp
      ·rw[e1] at e2⊢;simp only at e2;rw[if_pos rfl];simp only[ne_eq,not_true_eq_false,iff_false];omega
     have he1:e=40001:=by
      rw[he];rw[he] at hlt;unfold Rules.endOf at hlt⊢;simp only at hlt⊢;rw[if_neg (by omega)] at hlt⊢
      split at hlt
      ·rename_i h1;rcases eV hf hf2 (show 0≤(r.sys.at_ y.cls).term by omega) ht2 with ⟨e1,_⟩|⟨_,e1,e2⟩
       ·rw[e1] at h1;simp at h1
       ·omega
      ·rename_i h1;rw[if_neg h1]
     rw[he1];have h1:=(hover from_ hf hf2).1 (by rw[←he,he1])
     exact((hover z.day hz.1 hz.2).2 (Eo hf hfz hz.2 (by omega) ht2 h1)).symm
   rw[hend];exact lD ht ht2 zs _ z.day hp.2 hzs hz.1 hz.2 rfl (.inr fun w hw=>hp.1 w hw)
  ·rw[if_neg hc,if_neg (fun h=>hc ⟨h.1,h.2.2.1,h.2.2.2.1,h.2.2.2.2.1,h.2.2.2.2.2⟩)]
   refine lD ht ht2 zs e from_ hp.2 hzs hf hf2 he ?_;rcases hord with h|h
   ·exact .inl h
   ·exact .inr fun w hw=>h w (by simp[hw])
theorem lW{r:Rules}{l:List Event}{y:Right}{day:Int}:∀zs:List Event,r.renewed l y day zs 40001=40001
 | []=>rfl
 |z::zs=>by unfold Rules.renewed;rw[if_neg (fun h=>by omega)];exact lW zs
theorem kE{r:Rules}{born:Int}{l:List Event}(hs:l.Pairwise fun a b=>a.day≤b.day)(hb:∀z∈l,0≤z.day∧z.day≤40000)(ht:∀c,0≤(r.sys.at_ c).term∧(r.sys.at_ c).term≤100):
 ∀(xs:List Event)(o o':List Grant),(∀x∈xs,0≤x.day∧x.day≤40000)→o.map normG=o'.map normG→(r.grantsTo born l xs o).map normG=(r.grantsR born l xs o').map normG
 | [],o,o',_,h=>h
 |x::xs,o,o',hx,h=>by
  have hxd:=hx x (by simp)
  unfold Rules.grantsTo Rules.grantsR;split
  ·refine kE hs hb ht xs _ _ (fun w hw=>hx w (by simp[hw])) ?_
   rw[List.map_append,List.map_append,h,wA h];congr 1
   simp only[List.map_cons,List.map_nil,List.cons.injEq,and_true];unfold normG;simp only;split
   ·rename_i hr;unfold Rules.endR;rw[Grant.mk.injEq];refine⟨rfl,rfl,rfl,?_⟩;have h2:=ht (r.rightOf x).cls;by_cases hpos:0<(r.sys.at_ (r.rightOf x).cls).term
    ·rw[if_pos ⟨hr,hpos⟩];exact lD hpos h2.2 l _ x.day hs hb hxd.1 hxd.2 rfl (.inl (Int.le_refl _))
    ·rw[if_neg (fun h=>hpos h.2)]
     have:r.endOf x.day (r.rightOf x).cls=40001:=by unfold Rules.endOf;simp only;rw[if_pos (by omega)]
     rw[this];exact lW l
   ·rfl
  ·exact kE hs hb ht xs o o' (fun w hw=>hx w (by simp[hw])) h
end Go.Rg
end
section
namespace Go.Rg
open Go.Bp
theorem gU{α:Type}{lt:α→α→Prop}(ir:∀a,¬lt a a)(tr:∀{a b c},lt a b→lt b c→lt a c):∀{l m:List α},l.Pairwise lt→m.Pairwise lt→(∀x,x∈l↔x∈m)→l=m
 | [],[],_,_,_=>rfl
 | [],b::m,_,_,h=>by have:=(h b).2 (by simp);simp at this
 |a::l,[],_,_,h=>by have:=(h a).1 (by simp);simp at this
 |a::l,b::m,hl,hm,h=>by
  rw[List.pairwise_cons] at hl hm;have e:a=b:=by
   rcases List.mem_cons.1 ((h a).1 (by simp)) with e|e
   ·exact e
   ·rcases List.mem_cons.1 ((h b).2 (by simp)) with e2|e2
    ·exact e2.symm
    ·exact absurd (tr (hl.1 b e2) (hm.1 a e)) (ir a)
  subst e;congr 1
  refine gU ir tr hl.2 hm.2 fun x=>⟨fun hx=> ?_,fun hx=> ?_⟩
  ·rcases List.mem_cons.1 ((h x).1 (List.mem_cons_of_mem _ hx)) with e|e
   ·subst e;exact absurd (hl.1 x hx) (ir x)
   ·exact e
  ·rcases List.mem_cons.1 ((h x).2 (List.mem_cons_of_mem _ hx)) with e|e
   ·subst e;exact absurd (hm.1 x hx) (ir x)
   ·exact e
def ltR(a b:Right):Prop:=a.cls<b.cls∨a.cls=b.cls∧a.codes<b.codes
theorem qN(a:Right):¬ltR a a:=by unfold ltR;omega
theorem Fa{a b c:Right}(h:ltR a b)(k:ltR b c):ltR a c:=by unfold ltR at *;omega
namespace Sys
variable{s:Sys}
theorem right_0{r:Right}(h:s.rightErr r=0):inB r.cls 0 (s.classes.length-1)=true∧inB r.codes 0 (s.sets-1)=true:=by
 unfold rightErr at h;split at h
 ·simp at h
 ·rename_i h1;split at h
  ·simp at h
  ·rename_i h2;exact⟨by simpa using h1,by simpa using h2⟩
theorem sets_nat:s.sets=((2^s.codes.length:Nat):Int):=by unfold sets;push_cast;rfl
theorem all_mem{r:Right}:r∈s.allRights↔(0≤r.cls∧r.cls<s.classes.length)∧0≤r.codes∧r.codes<s.sets:=by
 rw[sets_nat];unfold allRights;rw[List.mem_flatMap];constructor
 ·rintro⟨c,hc,h⟩;obtain⟨k,hk,rfl⟩:=List.mem_map.1 h;have:=List.mem_range.1 hc;have:=List.mem_range.1 hk;exact⟨⟨by simp only;omega,by simp only;omega⟩,by simp only;omega,by simp only;exact_mod_cast this⟩
 ·rintro⟨⟨h1,h2⟩,h3,h4⟩;refine⟨r.cls.toNat,List.mem_range.2 (by omega),List.mem_map.2 ⟨r.codes.toNat,List.mem_range.2 (by omega),?_⟩⟩
  cases r
  simp only[Right.mk.injEq];simp only at h1 h3;omega
theorem wD(n:Nat):(List.range n).Pairwise (· < ·):=List.pairwise_lt_range
theorem all_sorted:s.allRights.Pairwise ltR:=by
 unfold allRights;rw[List.pairwise_flatMap];refine⟨fun c _=> ?_,?_⟩
 ·rw[List.pairwise_map];exact(wD _).imp fun h=>.inr ⟨rfl,by simp only;omega⟩
 ·refine(wD _).imp fun{a b}h x hx y hy=> ?_
  obtain⟨_,_,rfl⟩:=List.mem_map.1 hx;obtain⟨_,_,rfl⟩:=List.mem_map.1 hy;exact .inl (by simp only;omega)
theorem ordered_sorted(l:List Right):(s.ordered l).Pairwise ltR:=all_sorted.filter _
theorem ordered_mem{l:List Right}(h:∀r∈l,s.rightErr r=0)(y:Right):y∈s.ordered l↔y∈l:=by
 unfold ordered;rw[List.mem_filter,decide_eq_true_eq];constructor
 ·exact fun h=>h.2
 ·intro hy;obtain⟨h1,h2⟩:=right_0 (h y hy);have:=inB_t.1 h1;have:=inB_t.1 h2;exact⟨all_mem.2 ⟨by omega,by omega⟩,hy⟩
def leftTo(s:Sys)(l rs:List Right):List Right:=(s.ordered l).filter fun x=>rs.all fun r=> !s.weaker x r
theorem leftTo_nil(l:List Right):s.leftTo l []=s.ordered l:=by unfold leftTo;simp
theorem leftTo_snoc(l rs:List Right)(r:Right):s.leftTo l (rs++ [r])=(s.leftTo l rs).filter fun x=> !s.weaker x r:=by
 unfold leftTo;rw[List.filter_filter];congr 1
 funext x
 rw[List.all_append,Bool.and_comm];simp
theorem leftTo_all(l:List Right):s.leftTo l (s.ordered l)=s.least l:=rfl
theorem leftTo_sorted(l rs:List Right):(s.leftTo l rs).Pairwise ltR:=(ordered_sorted l).filter _
end Sys
end Go.Rg
end
section
namespace Go.Bp
open Go.RowKit
def S(l:List UInt8):ByteArray:=⟨l.toArray⟩
theorem rN(a b:List UInt8):S a++S b=S (a++b):=by
 apply Go.WideShapes.bytes_inj;simp[S]
theorem uR(s:ByteArray):S s.data.toList=s:=Go.WideShapes.bytes_inj (by simp[S])
theorem nS(l:List UInt8):(S l).data.toList=l:=by simp[S]
theorem fR(l:List UInt8):(S l).size=l.length:=by simp[S,ByteArray.size]
def digitsF:Nat→Nat→List UInt8
 |0,_=>[]
 |f+1,n=>(if 10≤n then digitsF f (n/10) else [])++ [UInt8.ofNat (48+n%10)]
def digits(n:Nat):List UInt8:=digitsF (n+1) n
theorem digitsF_eq:∀(f n:Nat),n<f→∀g,n<g→digitsF f n=digitsF g n
 |0,n,h,_,_=>by omega
 |f+1,n,h,0,hg=>by omega
 |f+1,n,h,g+1,hg=>by
  unfold digitsF;by_cases h10:10≤n
  ·rw[if_pos h10,if_pos h10,digitsF_eq f (n/10) (by omega) g (by omega)]
  ·rw[if_neg h10,if_neg h10]
theorem mO{n:Nat}(h:n<10):digits n=[UInt8.ofNat (48+n%10)]:=by
 unfold digits digitsF;rw[if_neg (by omega)];rfl
theorem rA{n:Nat}(h:10≤n):digits n=digits (n/10)++ [UInt8.ofNat (48+n%10)]:=by
 unfold digits;rw[digitsF,if_pos h,digitsF_eq n (n/10) (by omega) (n/10+1) (by omega)]
def splTo(s:ByteArray)(b:UInt8):Nat→List ByteArray×Nat
 |0=>([],0)
 |i+1=>if s.data.toList.getD i 0=b then((splTo s b i).1++ [s.extract (splTo s b i).2 i],i+1) else splTo s b i
def split(s:ByteArray)(b:UInt8):List ByteArray:=(splTo s b s.size).1++ [s.extract (splTo s b s.size).2 s.size]
def isDig(b:UInt8):Bool:=inB b.toNat 48 57
def numTo(s:ByteArray)(k:Nat):Int:=(s.data.toList.take k).foldl (fun n b=>10*n+((b.toNat:Int)-48)) 0
theorem nP(n:Nat):Lib.decDigits n=digits n:=by
 induction n using Nat.strongRecOn with
 |_ n ih=>
  by_cases h:n<10
  ·rw[Lib.decDigits,dif_pos h,mO h,Nat.mod_eq_of_lt h]
  ·rw[Lib.decDigits,dif_neg h,rA (by omega),ih (n/10) (by omega)]
theorem xA{n:Int}(h:0≤n):Lib.itoa n=digits n.toNat:=by
 unfold Lib.itoa;rw[if_neg (by omega),nP]
end Go.Bp
end
section
namespace Go.Rg
open Go.Bp
namespace Sys
variable(s:Sys)
def nameL(i:Int):List UInt8:=(s.at_ i).name.data.toList
def codeL(k:Nat):List UInt8:=(s.codes.getD k ByteArray.empty).data.toList
def codesOf(r:Right):List Nat:=(List.range s.codes.length).filter fun k=>r.codes.toNat.testBit k
def wordL(r:Right):List UInt8:=s.nameL r.cls++(s.codesOf r).flatMap fun k=>46::s.codeL k
def rightsL:List Right→List UInt8
 | []=>[45]
 |r::l=>s.wordL r++l.flatMap fun x=>32::s.wordL x
def writeAns(l:List Right):List UInt8×Int:=if s.asked l≠0 then([],s.asked l) else(s.rightsL l,0)
variable{s}
theorem Ok.name(h:s.Ok){i:Int}(hi:0≤i∧i<s.classes.length):isName (s.at_ i).name=true:=by
 have hn:i.toNat<s.classes.length:=by omega
 have e:s.at_ i=s.classes[i.toNat]:=by unfold at_;simp[List.getD,hn]
 rw[e];exact(clsErr_0 (h.cls _ hn)).1
theorem nameErr_0{l:List ByteArray}{i:Nat}(h:nameErr l i=0):isName (l.getD i ByteArray.empty)=true∧l.getD i ByteArray.empty∉l.take i:=by
 unfold nameErr at h;split at h
 ·simp at h
 ·split at h
  ·simp at h
  ·rename_i h1 h2;exact⟨by simpa using h1,h2⟩
theorem codesOf_lt(r:Right):∀k∈s.codesOf r,k<s.codes.length:=fun k hk=>List.mem_range.1 (List.mem_filter.1 hk).1
end Sys
end Go.Rg
end
section
namespace Go.Rg
open Go.Bp
def pad(n k:Nat):List UInt8:=List.replicate (k-(digits n).length) 48++digits n
def digitsR:Nat→Nat→Nat→List UInt8
 |0,_,_=>[]
 |f+1,n,many=>(if 10≤n∨1<many then digitsR f (n/10) (many-1) else [])++ [UInt8.ofNat (48+n%10)]
def datedL(day:Int):List UInt8:=pad (dateOf day).year.toNat 4++45::(pad (dateOf day).month.toNat 2++45::pad (dateOf day).day.toNat 2)
def numP(l:List UInt8):Option Int:=match Lib.atoiAll l with| .ok v=>if 0≤v∧v≤9999 then some v else none|_=>none
def num4(s:ByteArray):Int:=if inB s.size 1 4=true∧s.data.toList.all isDig=true then numTo s s.size else -1
def padOk(n k:Nat):Bool:=(match Lib.atoiAll (pad n k) with| .ok v=>decide (v=n)|_=>false)&&decide (num4 (S (pad n k))=n)&&(pad n k).all (fun b=>inB b.toNat 48 57)&&decide (digitsR 5 n k=pad n k)&&decide ((pad n k).length≤4)
theorem pad2_all:((List.range 100).all fun n=>padOk n 2&&padOk n 1)=true:=by decide +kernel
theorem pad4_all:((List.range 203).all fun n=>padOk (2000+n) 4)=true:=by decide +kernel
theorem zR{n k:Nat}(h:padOk n k=true)(hn:n≤9999):numP (pad n k)=some (n:Int)∧num4 (S (pad n k))=n∧(∀b∈pad n k,48≤b.toNat∧b.toNat≤57)∧digitsR 5 n k=pad n k∧(pad n k).length≤4:=by
 unfold padOk at h;simp only[Bool.and_eq_true,decide_eq_true_eq,List.all_eq_true] at h;obtain⟨⟨⟨⟨h1,h2⟩,h3⟩,h4⟩,h5⟩:=h;refine⟨?_,h2,fun b hb=>by have:=inB_t.1 (h3 b hb);omega,h4,h5⟩
 unfold numP;split at h1
 ·rename_i v hv;simp only[decide_eq_true_eq] at h1;rw[h1,if_pos (by omega)]
 ·cases h1
theorem pad2{n:Nat}(h:n<100):numP (pad n 2)=some (n:Int)∧num4 (S (pad n 2))=n∧(∀b∈pad n 2,48≤b.toNat∧b.toNat≤57)∧digitsR 5 n 2=pad n 2∧(pad n 2).length≤4:=by
 have:=List.all_eq_true.1 pad2_all n (List.mem_range.2 h);rw[Bool.and_eq_true] at this;exact zR this.1 (by omega)
theorem pad1{n:Nat}(h:n<100):numP (pad n 1)=some (n:Int)∧num4 (S (pad n 1))=n∧(∀b∈pad n 1,48≤b.toNat∧b.toNat≤57)∧digitsR 5 n 1=pad n 1∧(pad n 1).length≤4:=by
 have:=List.all_eq_true.1 pad2_all n (List.mem_range.2 h);rw[Bool.and_eq_true] at this;exact zR this.2 (by omega)
theorem pad4{n:Nat}(h1:2000≤n)(h:n≤2202):numP (pad n 4)=some (n:Int)∧num4 (S (pad n 4))=n∧(∀b∈pad n 4,48≤b.toNat∧b.toNat≤57)∧digitsR 5 n 4=pad n 4∧(pad n 4).length≤4:=by
 have:=List.all_eq_true.1 pad4_all (n-2000) (List.mem_range.2 (by omega))
 rw[show 2000+(n-2000)=n by omega] at this
 exact zR this (by omega)
theorem tZ(n:Nat):pad n 1=digits n:=by
 unfold pad;have:1≤(digits n).length:=by
  by_cases h:n<10
  ·rw[mO h];simp
  ·rw[rA (by omega)];simp
 rw[show 1-(digits n).length=0 by omega];rfl
end Go.Rg
end
section
namespace Go.Rg
open Go.Bp
theorem bI{r:Rules}{born:Int}{x:Event}(h:r.eventErr born x=0):(0≤x.day∧x.day≤40000∧born≤x.day)∧
 ((∃y m,x=⟨0,x.day,y,0,0,0,0,m⟩∧r.sys.rightErr y=0∧0≤m∧m≤1439)∨(∃i,x=⟨1,x.day,⟨0,0⟩,i,0,0,0,0⟩∧0≤i∧i<r.treaties.length)∨
  (∃i,x=⟨2,x.day,⟨0,0⟩,0,i,0,0,0⟩∧0≤i∧i<r.sys.classes.length)∨(∃n,x=⟨3,x.day,⟨0,0⟩,0,0,n,0,0⟩∧1≤n∧n≤20)∨
  (∃u,x=⟨4,x.day,⟨0,0⟩,0,0,0,u,0⟩∧x.day≤u∧u≤40000)):=by
 unfold Rules.eventErr at h;split at h;·simp at h
 rename_i h1;split at h;·simp at h
 rename_i h2;split at h;·simp at h
 rename_i h3;split at h
 ·rename_i h4;exact absurd h h4
 rename_i h4;split at h;·simp at h
 rename_i h5;have k1:=inB_t.1 (show inB x.kind 0 4=true by simpa using h1)
 have k2:=inB_t.1 (show inB x.day 0 40000=true by simpa using h2)
 have h4:(r.had x).2=0:=by simpa using h4
 have h5:(r.had x).1=Rules.bare x.kind x.day:=by simpa using h5
 refine⟨⟨by omega,by omega,by omega⟩,?_⟩
 obtain⟨kind,day,⟨rc,rk⟩,tr,cl,po,un,mi⟩:=x;simp only at k1 k2 h3⊢;unfold Rules.had at h4 h5;simp only at h4 h5;have hk:kind=0∨kind=1∨kind=2∨kind=3∨kind=4:=by omega
 rcases hk with rfl|rfl|rfl|rfl|rfl
 ·left
  simp only[if_true,Rules.bare,Event.mk.injEq,true_and,and_true] at h4 h5;obtain⟨rfl,rfl,rfl,rfl⟩:=h5;split at h4
  ·rename_i h6;exact absurd h4 h6
  ·rename_i h6;split at h4;·simp at h4
   rename_i h7;have:=inB_t.1 (show inB mi 0 1439=true by simpa using h7)
   exact⟨⟨rc,rk⟩,mi,rfl,by simpa using h6,this.1,this.2⟩
 ·right;left
  simp only[show¬((1:Int)=0) by decide,if_false,if_true,Rules.bare,Event.mk.injEq,true_and,and_true] at h4 h5
  obtain⟨h6,rfl,rfl,rfl,rfl⟩:=h5;injection h6 with h6 h7
  subst h6 h7;split at h4;·simp at h4
  rename_i h7;have:=inB_t.1 (show inB tr 0 (r.treaties.length-1)=true by simpa using h7)
  exact⟨tr,rfl,this.1,by omega⟩
 ·right;right;left
  simp only[show¬((2:Int)=0) by decide,show¬((2:Int)=1) by decide,if_false,if_true,Rules.bare,Event.mk.injEq,true_and,and_true] at h4 h5
  obtain⟨h6,rfl,rfl,rfl,rfl⟩:=h5;injection h6 with h6 h7
  subst h6 h7;split at h4;·simp at h4
  rename_i h7;have:=inB_t.1 (show inB cl 0 (r.sys.classes.length-1)=true by simpa using h7)
  exact⟨cl,rfl,this.1,by omega⟩
 ·right;right;right;left
  simp only[show¬((3:Int)=0) by decide,show¬((3:Int)=1) by decide,show¬((3:Int)=2) by decide,show¬((3:Int)=4) by decide,if_false,Rules.bare,Event.mk.injEq,true_and,and_true] at h4 h5
  obtain⟨h6,rfl,rfl,rfl,rfl⟩:=h5;injection h6 with h6 h7
  subst h6 h7;split at h4;·simp at h4
  rename_i h7;have:=inB_t.1 (show inB po 1 20=true by simpa using h7)
  exact⟨po,rfl,this.1,this.2⟩
 ·right;right;right;right
  simp only[show¬((4:Int)=0) by decide,show¬((4:Int)=1) by decide,show¬((4:Int)=2) by decide,if_false,if_true,Rules.bare,Event.mk.injEq,true_and,and_true] at h4 h5
  obtain⟨h6,rfl,rfl,rfl,rfl⟩:=h5;injection h6 with h6 h7
  subst h6 h7;split at h4;·simp at h4
  rename_i h7;have:=inB_t.1 (show inB un day 40000=true by simpa using h7)
  exact⟨un,rfl,this.1,this.2⟩
def passW:List UInt8:=[112,97,115,115]
def exchangeW:List UInt8:=[101,120,99,104,97,110,103,101]
def renewW:List UInt8:=[114,101,110,101,119]
def offenceW:List UInt8:=[111,102,102,101,110,99,101]
def banW:List UInt8:=[98,97,110]
def bornW:List UInt8:=[98,111,114,110]
namespace Rules
variable(r:Rules)
def treatyL(i:Int):List UInt8:=(r.treaties.getD i.toNat ⟨ByteArray.empty,⟨0,0⟩,⟨0,0⟩⟩).name.data.toList
def wordsOf(x:Event):List (List UInt8):=
 if x.kind=0 then [passW,datedL x.day,pad (x.minute/60).toNat 2++58::pad (x.minute%60).toNat 2,r.sys.rightsL [x.right]]
 else if x.kind=1 then [exchangeW,datedL x.day,r.treatyL x.treaty]
 else if x.kind=2 then [renewW,datedL x.day,r.sys.nameL x.cls]
 else if x.kind=3 then [offenceW,datedL x.day,digits x.points.toNat]
 else [banW,datedL x.day,datedL x.until_]
def joinW:List (List UInt8)→List UInt8
 | []=>[]
 | [w]=>w
 |w::v::ws=>w++32::joinW (v::ws)
def lineL(x:Event):List UInt8:=joinW (r.wordsOf x)++ [10]
def textL(born:Int)(l:List Event):List UInt8:=bornW++32::(datedL born++10::l.flatMap r.lineL)
structure Ok:Prop where
 check:r.sys.check.2.2=0
 sys:r.sys.Ok
 t:r.treaties.length≤6
 treaty:∀i(hi:i<r.treaties.length),r.treatyErr i r.treaties[i]=0
 limit:1≤r.limit∧r.limit≤100
 fall:1≤r.fall∧r.fall≤40000
 ban:1≤r.ban∧r.ban≤40000
variable{r}
theorem ok_of(h:r.check.2.2=0):r.Ok:=by
 unfold check at h;split at h
 ·rename_i h1;exact absurd h h1
 rename_i h1;split at h;·simp at h
 rename_i h2;split at h
 ·rename_i h3;exact absurd h h3
 rename_i h3;split at h;·simp at h
 rename_i h4;have h1:r.sys.check.2.2=0:=by simpa using h1
 simp only[not_or,Bool.not_eq_false] at h4;exact⟨h1,Sys.ok_of h1,by omega,fun i hi=>dH (by simpa using h3) i hi,inB_t.1 h4.1,inB_t.1 h4.2.1,inB_t.1 h4.2.2⟩
theorem treatyErr_0{i:Nat}{t:Treaty}(h:r.treatyErr i t=0):isName t.name=true∧(∀x∈r.treaties.take i,x.name≠t.name)∧r.sys.rightErr t.right=0∧(0≤t.days.lo∧t.days.lo≤t.days.hi∧t.days.hi≤40000):=by
 unfold treatyErr at h;split at h;·simp at h
 rename_i h1;split at h;·simp at h
 rename_i h2;split at h
 ·rename_i h3;exact absurd h h3
 rename_i h3;split at h;·simp at h
 rename_i h4;split at h;·simp at h
 rename_i h5;simp only[not_or,Bool.not_eq_false] at h4;have a1:=inB_t.1 h4.1;have a2:=inB_t.1 h4.2;refine⟨by simpa using h1,fun x hx e=>h2 (List.any_eq_true.2 ⟨x,hx,by simpa using e⟩),by simpa using h3,by omega⟩
end Rules
end Go.Rg
end
section
namespace Go.Rg
open Go.Bp
theorem eK{s:ByteArray}(h:isName s=true):s.data.toList.length≤16:=by
 unfold isName at h;simp only[Bool.and_eq_true] at h;have:=inB_t.1 h.1.1;have e:s.size=s.data.toList.length:=by rw[Array.length_toList];rfl
 omega
theorem xG{f:Nat→List UInt8}{B:Nat}:∀(ks:List Nat),(∀k∈ks,(f k).length≤B)→(ks.flatMap f).length≤B*ks.length
 | [],_=>by simp
 |k::ks,h=>by
  rw[List.flatMap_cons,List.length_append,List.length_cons,Nat.mul_succ];have:=h k (by simp)
  have:=xG ks (fun x hx=>h x (by simp[hx]))
  omega
namespace Sys
variable{s:Sys}
end Sys
namespace Rules
variable{r:Rules}
theorem sG{i:Int}(hi:0≤i∧i<r.treaties.length):∃h:i.toNat<r.treaties.length,r.treaties.getD i.toNat ⟨ByteArray.empty,⟨0,0⟩,⟨0,0⟩⟩=r.treaties[i.toNat]:=by
 have h:i.toNat<r.treaties.length:=by omega
 exact⟨h,by simp[List.getD,h]⟩
end Rules
end Go.Rg
end
