import Derived.Test.YtbfbepnkofampaaGreatDoorXP22
set_option maxRecDepth 100000
set_option synthInstance.maxSize 2000
set_option synthInstance.maxHeartbeats 400000
set_option maxHeartbeats 8000000
set_option linter.all false
section
namespace Go.Rg
open Go Go.Bp Go.Walk
theorem oK{α β:Type}(F:α→List β)(P:α→Bool)(h:∀x,P x=false→F x=[]):∀xs:List α,xs.flatMap F=(xs.filter P).flatMap F
 | []=>rfl
 |x::xs=>by
  rw[List.flatMap_cons,List.filter_cons,oK F P h xs];split
  ·rw[List.flatMap_cons]
  ·rename_i hp;rw[h x (by simpa using hp),List.nil_append]
theorem tA{α β:Type}{F G:α→List β}:∀{xs:List α},(∀x∈xs,F x=G x)→xs.flatMap F=xs.flatMap G
 | [],_=>rfl
 |x::xs,h=>by rw[List.flatMap_cons,List.flatMap_cons,h x (by simp),tA fun y hy=>h y (by simp[hy])]
theorem Eu(k:Int)(l:List Event):ofL k l=((List.range l.length).filter fun i=>decide ((evAt l i).kind=k)).map fun i=>(i,evAt l i):=by
 have hz:l.zipIdx=(List.range l.length).map fun i=>(evAt l i,i):=by
  apply List.ext_getElem
  ·simp
  ·intro i h1 h2;have h3:i<l.length:=by simpa using h1
   simp[evAt,List.getD,h3]
 unfold ofL;rw[hz,List.filter_map,List.map_map];rfl
def pairQ(p q:Nat×Event):Bool:=decide (p.1<q.1)&&(decide (p.2.day=q.2.day)&&inB (p.2.minute-q.2.minute) (-59) 59)
def pairsOf(l:List Event):List (Nat×Nat):=(ofL 0 l).flatMap fun p=>((ofL 0 l).filter (pairQ p)).map fun q=>(p.1,q.1)
theorem Jb(l:List Event):Rules.pairsL l=pairsOf l:=by
 unfold Rules.pairsL pairsOf;rw[oK _ (fun i=>decide ((evAt l i).kind=0)) (by
  intro a ha;have ha:¬(evAt l a).kind=0:=of_decide_eq_false ha;rw[List.filter_eq_nil_iff.2 (by intro b _;simp[Rules.twoPass,ha])]
  rfl)]
 rw[Eu,List.flatMap_map];refine tA fun a ha=> ?_
 have ha:(evAt l a).kind=0:=of_decide_eq_true (List.mem_filter.1 ha).2;rw[List.filter_map,List.map_map,List.filter_filter];have e:∀b:Nat,(decide (a<b)&&Rules.twoPass (evAt l a) (evAt l b))=((pairQ (a,evAt l a)∘fun i=>(i,evAt l i)) b&&decide ((evAt l b).kind=0)):=by
  intro b;simp only[Function.comp,pairQ,Rules.twoPass,ha,inB];rw[Bool.eq_iff_iff];simp only[Bool.and_eq_true,decide_eq_true_eq];constructor
  ·rintro⟨h1,⟨⟨⟨_,h2⟩,h3⟩,h4⟩,h5⟩;exact⟨⟨h1,h3,by omega,by omega⟩,h2⟩
  ·rintro⟨⟨h1,h3,h4,h5⟩,h2⟩;exact⟨h1,⟨⟨⟨trivial,h2⟩,h3⟩,by omega⟩,by omega⟩
 rw[List.filter_congr (fun b _=>e b)]
 rfl
def pairsIn(l:List Event)(p:Nat×Event)(j:Nat):List (Nat×Nat):=(((ofL 0 l).take j).filter (pairQ p)).map fun q=>(p.1,q.1)
def pairsTo(l:List Event)(k:Nat):List (Nat×Nat):=((ofL 0 l).take k).flatMap fun p=>((ofL 0 l).filter (pairQ p)).map fun q=>(p.1,q.1)
theorem tY(l:List Event)(p:Nat×Event){j:Nat}(h:j<(ofL 0 l).length):pairsIn l p (j+1)=pairsIn l p j++if pairQ p (ofL 0 l)[j]=true then [(p.1,(ofL 0 l)[j].1)] else []:=by
 unfold pairsIn;rw[List.take_succ_eq_append_getElem h,List.filter_append,List.map_append];congr 1
 rw[List.filter_cons];split<;>simp
theorem mA(l:List Event){k:Nat}(h:k<(ofL 0 l).length):pairsTo l (k+1)=pairsTo l k++pairsIn l (ofL 0 l)[k] (ofL 0 l).length:=by
 unfold pairsTo pairsIn;rw[List.take_succ_eq_append_getElem h,List.flatMap_append,List.take_length];simp
theorem wK(l:List Event):pairsTo l (ofL 0 l).length=Rules.pairsL l:=by rw[Jb];unfold pairsTo pairsOf;rw[List.take_length]
theorem mB(l:List Event)(p:Nat×Event):pairsIn l p 0=[]:=rfl
theorem oE(l:List Event)(p:Nat×Event)(j:Nat):(pairsIn l p j).length≤j:=by
 unfold pairsIn;rw[List.length_map];refine Nat.le_trans (List.length_filter_le _ _) ?_;rw[List.length_take];omega
theorem jV(l:List Event):∀k,(pairsTo l k).length≤k*(ofL 0 l).length
 |0=>by simp[pairsTo]
 |k+1=>by
  by_cases h:k<(ofL 0 l).length
  ·rw[mA l h,List.length_append];have h1:=jV l k;have h2:=oE l (ofL 0 l)[k] (ofL 0 l).length;rw[Nat.add_mul];omega
  ·have:pairsTo l (k+1)=pairsTo l k:=by unfold pairsTo;rw[List.take_of_length_le (by omega),List.take_of_length_le (by omega)]
   rw[this];have h1:=jV l k;rw[Nat.add_mul];omega
theorem granted_all'{r:Rules}{born:Int}{l:List Event}(P:Grant→Prop)(h:∀x∈l,(x.kind=0∨x.kind=1)→∀o,P (grantOf r born l o x)):∀k,∀g∈granted r born l k,P g
 |0,g,hg=>by simp[uG] at hg
 |k+1,g,hg=>by
  by_cases hk:k<l.length
  ·rw[dR r born l hk] at hg;split at hg
   ·rename_i h1;rcases List.mem_append.1 hg with hg|hg
    ·exact granted_all' P h k g hg
    ·rw[List.mem_singleton] at hg;subst hg;exact h _ (List.getElem_mem hk) h1 _
   ·exact granted_all' P h k g hg
  ·have e:granted r born l (k+1)=granted r born l k:=by unfold granted;rw[List.take_of_length_le (by omega),List.take_of_length_le (by omega)]
   rw[e] at hg;exact granted_all' P h k g hg
theorem pV{r:Rules}{l:List Event}{y:Right}{day:Int}:∀(zs:List Event)(e:Int),(∀z∈zs,z.kind=2→r.endOf z.day z.cls≤40001)→e≤40001→r.renewed l y day zs e≤40001
 | [],_,_,h=>h
 |z::zs,e,hz,h=>by
  unfold Rules.renewed;refine pV zs _ (fun w hw=>hz w (by simp[hw])) ?_
  split
  ·rename_i h1;exact hz z (by simp) h1.1
  ·exact h
structure GrIn(r:Rules)(g:Grant):Prop where
 day:0≤g.day∧g.day≤40000
 right:r.sys.rightErr g.right=0
 cls:0≤g.right.cls∧g.right.cls<r.sys.classes.length
 reason:g.reason=0∨4≤g.reason∧g.reason≤7
 end_:0≤g.end_∧g.end_≤40001
theorem pW{r:Rules}{born:Int}(ho:r.Ok){z:Event}(hz:r.eventErr born z=0){c:Int}(hc:0≤c∧c<r.sys.classes.length):0≤r.endOf z.day c∧r.endOf z.day c≤40001:=by
 obtain⟨hd,_⟩:=bI hz;have ht:=Rules.term_ok ho c;have h1:=Rules.endOf_le (r:=r) (day:=z.day) (cls:=c) ht hd.1 hd.2.1;have h2:=Rules.endOf_gt (r:=r) (day:=z.day) (cls:=c) ht hd.1 hd.2.1;omega
theorem sK{r:Rules}{born:Int}{z:Event}(hz:r.eventErr born z=0)(hk:z.kind=2):0≤z.cls∧z.cls<r.sys.classes.length:=by
 obtain⟨hd,hs⟩:=bI hz;rcases hs with ⟨y,m',e,_⟩|⟨t',e,_⟩|⟨t',e,h⟩|⟨t',e,_⟩|⟨t',e,_⟩
 ·rw[e] at hk;simp at hk
 ·rw[e] at hk;simp at hk
 ·rw[e];exact h
 ·rw[e] at hk;simp at hk
 ·rw[e] at hk;simp at hk
theorem kQ{r:Rules}{p:Person}(h:r.personErr p=0):∀g∈r.grants p.born (sortE p.events),GrIn r g:=by
 obtain⟨hc,hb,hn,hev⟩:=Rules.person_ok h;have ho:=Rules.ok_of hc;have hev2:∀x∈sortE p.events,r.eventErr p.born x=0:=fun x hx=>hev x ((cZ _ _).1 hx)
 rw[←oJ];refine granted_all' (GrIn r) (fun x hx hk o=> ?_) _
 have hx0:=hev2 x hx;have hr:=Rules.right_event ho hx0 hk;have hd:=(bI hx0).1;have hri:=(Sys.right_in hr).1;refine⟨⟨hd.1,hd.2.1⟩,hr,hri,Rules.reason_in,?_⟩;have hz:=pW ho hx0 hri;show 0≤r.renewed _ _ _ _ _∧r.renewed _ _ _ _ _≤40001
 refine⟨?_,pV _ _ (fun z hz2 hk2=>(pW ho (hev2 z hz2) (sK (hev2 z hz2) hk2)).2) hz.2⟩
 rw[←nM];exact mN (fun z hz2 hk2=>(pW ho (hev2 z hz2) (sK (hev2 z hz2) hk2)).1) hz.1 _ (Nat.le_refl _)
theorem Av(gs:List Grant)(day:Int){k:Nat}(h:k<gs.length):Rules.heldL (gs.take (k+1)) day=Rules.heldL (gs.take k) day++if Rules.holds day gs[k]=true then [gs[k].right] else []:=by
 unfold Rules.heldL;rw[List.take_succ_eq_append_getElem h,List.filter_append,List.map_append];congr 1
 rw[List.filter_cons];split<;>simp
def whyN(r:Rules)(gs:List Grant)(d:Drive)(k:Nat):List Int:=((gs.take k).filter fun g=>decide (g.day≤d.day)&&r.sys.allow [g.right] d.cls d.features).map (Rules.against d)
theorem sF(r:Rules)(gs:List Grant)(d:Drive){k:Nat}(h:k<gs.length):whyN r gs d (k+1)=whyN r gs d k++if(decide (gs[k].day≤d.day)&&r.sys.allow [gs[k].right] d.cls d.features)=true then [Rules.against d gs[k]] else []:=by
 unfold whyN;rw[List.take_succ_eq_append_getElem h,List.filter_append,List.map_append];congr 1
 rw[List.filter_cons];split<;>simp
theorem Cj(r:Rules)(gs:List Grant)(d:Drive):r.whyG gs d=if 0∈whyN r gs d gs.length then 0 else(whyN r gs d gs.length).foldl max 3:=by
 unfold Rules.whyG whyN;rw[List.take_length]
theorem Gx(r:Rules)(gs:List Grant)(d:Drive)(k:Nat):∀x∈whyN r gs d k,x∈whyN r gs d gs.length:=by
 intro x hx;unfold whyN at hx⊢;rw[List.take_length];obtain⟨g,hg,e⟩:=List.mem_map.1 hx;have hg:=List.mem_filter.1 hg;exact List.mem_map.2 ⟨g,List.mem_filter.2 ⟨List.mem_of_mem_take hg.1,hg.2⟩,e⟩
def worstN(r:Rules)(gs:List Grant)(d:Drive)(k:Nat):Int:=(whyN r gs d k).foldl max 3
theorem yO(r:Rules)(gs:List Grant)(d:Drive){k:Nat}(h:k<gs.length)(hb:(decide (gs[k].day≤d.day)&&r.sys.allow [gs[k].right] d.cls d.features)=false):whyN r gs d (k+1)=whyN r gs d k:=by
 rw[sF r gs d h,hb];simp
theorem pC(r:Rules)(gs:List Grant)(d:Drive){k:Nat}(h:k<gs.length)(hb:(decide (gs[k].day≤d.day)&&r.sys.allow [gs[k].right] d.cls d.features)=true):whyN r gs d (k+1)=whyN r gs d k++ [Rules.against d gs[k]]∧worstN r gs d (k+1)=max (worstN r gs d k) (Rules.against d gs[k]):=by
 have:whyN r gs d (k+1)=whyN r gs d k++ [Rules.against d gs[k]]:=by rw[sF r gs d h,hb];simp
 exact⟨this,by unfold worstN;rw[this,List.foldl_append];rfl⟩
theorem yP(r:Rules)(gs:List Grant)(d:Drive){k:Nat}(h:k<gs.length)(hb:(decide (gs[k].day≤d.day)&&r.sys.allow [gs[k].right] d.cls d.features)=true)(h0:Rules.against d gs[k]=0):r.whyG gs d=0:=by
 rw[Cj,if_pos];refine Gx r gs d (k+1) 0 ?_;rw[(pC r gs d h hb).1,h0];simp
theorem Dq(r:Rules)(gs:List Grant)(d:Drive)(h:0∉whyN r gs d gs.length):r.whyG gs d=worstN r gs d gs.length:=by
 rw[Cj,if_neg h];rfl
def wrongTo(f:Drive→Int)(ds:List Drive)(k:Nat):List (Int×Int):=(((ds.take k).zipIdx).filter fun q=>decide (f q.1≠0)).map fun q=>((q.2:Int),f q.1)
theorem tK(f:Drive→Int)(ds:List Drive){k:Nat}(h:k<ds.length):wrongTo f ds (k+1)=wrongTo f ds k++if f ds[k]≠0 then [((k:Int),f ds[k])] else []:=by
 unfold wrongTo;rw[List.take_succ_eq_append_getElem h,List.zipIdx_append,List.filter_append,List.map_append];congr 1
 have:(ds.take k).length=k:=by rw[List.length_take];omega
 rw[this];simp only[List.zipIdx_cons,List.zipIdx_nil,Nat.zero_add];rw[List.filter_cons];by_cases hf:f ds[k]=0
 ·simp[hf]
 ·simp[hf]
theorem tJ(f:Drive→Int)(ds:List Drive):wrongTo f ds 0=[]:=by simp[wrongTo]
theorem uU(r:Rules)(p:Person)(ds:List Drive):wrongTo (r.whyL p.born (sortE p.events)) ds ds.length=r.wrongL p ds:=by unfold wrongTo Rules.wrongL;rw[List.take_length]
def ptsTo(r:Rules)(o:Off)(day:Int)(l:List Event)(n k:Nat):Int:=sumL (((((ofL 3 l).take k).map Prod.snd).filter fun x=>decide (r.stands o day x=n)).map fun x=>x.points)
theorem lG(r:Rules)(o:Off)(day:Int)(l:List Event)(n:Nat){k:Nat}(h:k<(ofL 3 l).length):ptsTo r o day l n (k+1)=ptsTo r o day l n k+if r.stands o day (ofL 3 l)[k].2=n then(ofL 3 l)[k].2.points else 0:=by
 unfold ptsTo;rw[List.take_succ_eq_append_getElem h,List.map_append,List.filter_append,List.map_append,vB];congr 1
 simp only[List.map_cons,List.map_nil];rw[List.filter_cons];split
 ·rename_i h1;rw[if_pos (by simpa using h1)];simp[sumL]
 ·rename_i h1;rw[if_neg (by simpa using h1)];simp[sumL]
theorem lF(r:Rules)(o:Off)(day:Int)(l:List Event)(n:Nat):ptsTo r o day l n 0=0:=by simp[ptsTo,sumL]
theorem yU{r:Rules}{o:Off}{day:Int}{x:Event}(h:isOff x=false):r.stands o day x=0:=by unfold Rules.stands;rw[if_pos (.inl h)]
theorem nG(r:Rules)(o:Off)(day:Int)(l:List Event){n:Nat}(hn:n≠0):ptsTo r o day l n (ofL 3 l).length=r.sumOf o day l n:=by
 unfold ptsTo Rules.sumOf;rw[List.take_length,dK,List.filter_filter];congr 2
 apply List.filter_congr;intro x _;rw[Bool.eq_iff_iff];simp only[Bool.and_eq_true,decide_eq_true_eq];constructor
 ·rintro⟨h,_⟩;exact h
 ·intro h;refine⟨h,?_⟩
  cases ho:isOff x
  ·rw[yU ho] at h;exact absurd h.symm hn
  ·unfold isOff at ho;exact of_decide_eq_true ho
theorem qE(r:Rules)(o:Off)(day:Int){l:List Event}(n k:Nat)(hn:l.length≤30)(hp:∀x∈l,0≤x.points∧x.points≤20):0≤ptsTo r o day l n k∧ptsTo r o day l n k≤600:=by
 unfold ptsTo;have h1:∀y∈(((((ofL 3 l).take k).map Prod.snd).filter fun x=>decide (r.stands o day x=n)).map fun x=>x.points),0≤y∧y≤20:=by
  intro y hy;obtain⟨x,hx,rfl⟩:=List.mem_map.1 hy;have hx:=(List.mem_filter.1 hx).1;obtain⟨q,hq,rfl⟩:=List.mem_map.1 hx;have hq:=List.mem_of_mem_take hq;have:q.2∈(ofL 3 l).map Prod.snd:=List.mem_map.2 ⟨q,hq,rfl⟩;rw[dK] at this;exact hp _ (List.mem_filter.1 this).1
 have h2:=gE (N:=20) _ h1;refine⟨h2.1,Int.le_trans h2.2 ?_⟩;have h3:(((((ofL 3 l).take k).map Prod.snd).filter fun x=>decide (r.stands o day x=n)).map fun x=>x.points).length≤30:=by
  rw[List.length_map];refine Nat.le_trans (List.length_filter_le _ _) ?_;rw[List.length_map,List.length_take];have:=oV 3 l;omega
 omega
theorem yV(r:Rules)(o:Off)(day:Int){x:Event}(hx:x.kind=3){w:Option Int}(hw:whenIn o.taken x.day=w){b1 b2 b3:Bool}(h1:decide (x.day>day)=b1)(h2:(w.any fun w=>decide (w≤day))=b2)(h3:decide (r.fall≤day-x.day)=b3):
 r.stands o day x=if b1=true then 0 else if b2=true then 1 else if b3=true then 2 else 3:=by
 unfold Rules.stands;have ho:isOff x=true:=by simp[isOff,hx]
 rw[hw,h2];have e1:(isOff x=false∨day<x.day)=(b1=true):=by rw[ho,←h1];simp
 have e3:(r.fall≤day-x.day)=(b3=true):=by rw[←h3];simp
 simp only[e1,e3]
theorem oZ{r:Rules}{l:List Event}(hban:1≤r.ban)(hd:∀x∈l,0≤x.day∧x.day≤40000):∀k,∀s∈(offTo r l k).bans,0≤s.lo∧s.lo≤s.hi∧s.hi≤40000
 |0,s,hs=>by simp[offTo] at hs
 |k+1,s,hs=>by
  by_cases h:k<(offDays l).length
  ·rw[iX r l h] at hs;unfold Rules.stepOff at hs;split at hs
   ·exact oZ hban hd k s hs
   ·rcases List.mem_append.1 hs with hs|hs
    ·exact oZ hban hd k s hs
    ·have hmem:(offDays l)[k]∈offDays l:=List.getElem_mem h;obtain⟨x,hx,_,e⟩:=offDays_mem.1 hmem;have:=hd x hx;unfold Rules.banOf at hs;split at hs
     ·simp at hs;subst hs;simp only;omega
     ·simp at hs
  ·have e:offTo r l (k+1)=offTo r l k:=by unfold offTo;rw[List.take_of_length_le (by omega),List.take_of_length_le (by omega)]
   rw[e] at hs;exact oZ hban hd k s hs
theorem Nx{r:Rules}{p:Person}(h:r.personErr p=0):(∀s∈r.bansOf (sortE p.events),0≤s.lo∧s.lo≤s.hi∧s.hi≤40000)∧(r.bansOf (sortE p.events)).length≤60:=by
 obtain⟨hc,hb,hn,hev⟩:=Rules.person_ok h;have ho:=Rules.ok_of hc;have hsl:=Rules.sortE_len p.events;have hd:∀x∈sortE p.events,0≤x.day∧x.day≤40000:=Rules.event_days h;have hban:1≤r.ban:=ho.ban.1;unfold Rules.bansOf;rw[←sQ];refine⟨fun s hs=> ?_,?_⟩
 ·rcases List.mem_append.1 hs with hs|hs
  ·unfold courts at hs;obtain⟨x,hx,rfl⟩:=List.mem_map.1 hs;have hx:=List.mem_filter.1 hx;have hk:x.kind=4:=of_decide_eq_true hx.2;obtain⟨hxd,hsh⟩:=bI (hev x ((cZ _ _).1 hx.1));rcases hsh with ⟨y,m',e,_⟩|⟨t',e,_⟩|⟨t',e,_⟩|⟨t',e,_⟩|⟨t',e,h⟩
   ·rw[e] at hk;simp at hk
   ·rw[e] at hk;simp at hk
   ·rw[e] at hk;simp at hk
   ·rw[e] at hk;simp at hk
   ·have e2:x.until_=t':=by rw[e]
    simp only[e2];omega
  ·exact oZ hban hd _ s hs
 ·rw[List.length_append];have h1:(courts (sortE p.events)).length≤(sortE p.events).length:=by unfold courts;rw[List.length_map];exact List.length_filter_le _ _
  have h2:=mU r (sortE p.events) (offDays (sortE p.events)).length;have h3:=gN (l:=sortE p.events) (by omega)
  omega
theorem Kd(o:List Span):joinS o []=o:=rfl
theorem Am(s:Span)(l:List Span):joinS [] (s::l)=joinS [s] l:=rfl
theorem Ff(p:List Span)(t s:Span)(l:List Span):joinS (p++ [t]) (s::l)=if s.lo≤t.hi+1 then joinS (p++ [⟨t.lo,max t.hi s.hi⟩]) l else joinS (p++ [t]++ [s]) l:=by
 conv=>lhs;unfold joinS
 simp only[List.getLast?_append,List.getLast?_singleton,Option.some_or,List.dropLast_concat]
theorem Kj(p:List Span)(t:Span)(h:Int):(Walk.encL (p++ [t])).set (p.length*2+1) (.int .i64 h)=Walk.encL (p++ [⟨t.lo,h⟩]):=by
 rw[Walk.encL_snoc,Walk.encL_snoc,List.set_append_right _ _ (by rw[Walk.encL_len];show p.length*2≤_;omega)]
 have:p.length*2+1-(Walk.encL p).length=1:=by rw[Walk.encL_len];show p.length*2+1-p.length*2=1;omega
 rw[this];rfl
end Go.Rg
end
section
namespace Go.Rg
open Go Go.Bp Go.RowKit Go.Walk Go.Proofs
theorem Lf(n:Nat)(hn:n≤8)(w:World):Calls Tryz.prog 51 #[.int .i64 n] w (RI w (2^n)):=by
 go_enter Tryz.func51,Tryz.ntmps51
 go_wp2
 go_loopw [3,4] (fun sv iv wr=>StepC w wr∧∃k:Nat,k≤n∧sv=.int .i64 (2^k)∧iv=.int .i64 k) (fun _ iv _=>n-(RowKit.intOf iv).toNat)
 case atStart=>exact⟨⟨Ext.refl _⟩,0,by omega,rfl,rfl⟩
 case round=>
  obtain⟨_,k,hk,rfl,rfl⟩:=hrel;have hp:=eU (n:=k) (by omega)
  have hs:(2:Int)^(k+1)=2*2^k:=by rw[Int.pow_succ];omega
  by_cases hlt:k<n
  ·obtain⟨S,hS⟩:∃S:Int,2^k=S:=⟨_,rfl⟩;rw[hS] at hp hs⊢;have Hs:=Lib.hid hs;clear hS hs;have q:((k:Int)<n):=by omega
   have z1:IntKind.i64.wrap (2*S)=2*S:=IntWalk.i64_in _ (by omega)
   have z2:IntKind.i64.wrap ((k:Int)+1)=(k:Int)+1:=IntWalk.i64_in _ (by omega)
   go_wp2
   go_roundw
   case rel=>exact⟨⟨ExtC.h⟩,k+1,hlt,by rw[Hs.out],rfl⟩
   case measure=>simp[RowKit.intOf];omega
  ·obtain rfl:k=n:=by omega
   clear hs;go_wp2
   go_ret
   exact⟨rfl,⟨ExtC.h⟩⟩
instance{W:World}{n:Nat}{M:Int}[h:PowE n M]:FunC Tryz.prog 51 #[.int .i64 n] W (RI W M):=⟨by rw[←h.h.2];exact Lf n h.h.1 W⟩
class HasE (s:Int) (n:Nat) (b:outParam Bool):Prop where h:(0≤s∧s<1000000)∧n≤8∧s.toNat.testBit n=b
theorem uW(s n:Nat):s.testBit n=decide (s/2^n%2=1):=by
 rw[Nat.testBit_eq_decide_div_mod_eq]
theorem Ot(s:Int)(n:Nat)(hs:0≤s∧s<1000000)(hn:n≤8)(w:World):Calls Tryz.prog 98 #[.int .i64 s,.int .i64 n] w (RB w (s.toNat.testBit n)):=by
 obtain⟨s',rfl⟩:∃k:Nat,s=(k:Int):=⟨s.toNat,by omega⟩
 obtain⟨M,hM⟩:∃M:Int,2^n=M:=⟨_,rfl⟩;have i1:PowE n M:=⟨hn,hM⟩;have hp:=eU hn;rw[hM] at hp;rw[uW,Int.toNat_natCast];obtain⟨q,hq⟩:∃q:Nat,s'/2^n=q:=⟨_,rfl⟩;have e1:(s':Int).tdiv M=(q:Int):=by rw[Int.tdiv_eq_ediv_of_nonneg (by omega),←hM,←hq];push_cast;rfl
 have hqb:q≤s':=by rw[←hq];exact Nat.div_le_self _ _
 have e2:((q:Nat):Int).tmod 2=((q%2:Nat):Int):=by rw[Int.tmod_eq_emod_of_nonneg (by omega)];push_cast;rfl
 rw[hq];obtain⟨r,hr⟩:∃r:Nat,q%2=r:=⟨_,rfl⟩;rw[hr] at e2⊢;have hr2:r<2:=by omega
 have z1:IntKind.i64.wrap ((q:Nat):Int)=(q:Int):=IntWalk.i64_in _ (by omega)
 have z2:IntKind.i64.wrap ((r:Nat):Int)=(r:Int):=IntWalk.i64_in _ (by omega)
 have z3:(M==0)=false:=by simp;omega
 obtain⟨d,hd⟩:∃d,decide (r=1)=d:=⟨_,rfl⟩;have hd2:(((r:Nat):Int)==1)=d:=by rw[←hd];by_cases h:r=1<;>simp[h];omega
 rw[hd];have z4:¬M=0:=by omega
 clear hM hq hr hd;go_enter Tryz.func98,Tryz.ntmps98
 go_wp2_with (first|(with_reducible refine aB ?_;first|rintro _ V ⟨rfl,(_:StepC _ _)⟩))
 go_ret
 exact⟨rfl,⟨ExtC.h⟩⟩
instance{W:World}{s:Int}{n:Nat}{b:Bool}[h:HasE s n b]:FunC Tryz.prog 98 #[.int .i64 s,.int .i64 n] W (RB W b):=⟨by rw[←h.h.2.2];exact Ot s n h.h.1 h.h.2.1 W⟩
theorem Is(v:Value)(l:List Span)(d:Int)(w:World)(h:ListV w v l):Calls Tryz.prog 68 #[v,.int .i64 d] w (RB w (hasDay l d)):=by
 obtain⟨A,c,rfl,q1,q2⟩:=h.form;unfold maxLen at q2;have i0:=ListB.mk h;obtain⟨R,hR⟩:∃R,hasDay l d=R:=⟨_,rfl⟩;rw[hR];have HT:=Lib.hid (show∀i(hi:i<l.length),inB d l[i].lo l[i].hi=true→R=true from fun i hi h1=>by
  rw[←hR];unfold hasDay;exact List.any_eq_true.2 ⟨l[i],List.getElem_mem hi,h1⟩)
 have HF:=Lib.hid (show(∀i(hi:i<l.length),inB d l[i].lo l[i].hi=false)→R=false from fun h=>by
  rw[←hR];unfold hasDay;rw[List.any_eq_false];intro r hr;obtain⟨i,hi,rfl⟩:=List.mem_iff_getElem.1 hr;rw[h i hi];simp)
 clear hR;go_enter Tryz.func68,Tryz.ntmps68
 go_wp2
 go_loopw [5] (fun iv wr=>StepC w wr∧∃k:Nat,k≤l.length∧iv=.int .i64 k∧∀j(hj:j<k)(hl:j<l.length),inB d l[j].lo l[j].hi=false) (fun iv _=>l.length-(RowKit.intOf iv).toNat)
 case atStart=>exact⟨⟨Ext.refl _⟩,0,by omega,rfl,fun j hj=>by omega⟩
 case round=>
  obtain⟨_,k,hk,rfl,hz⟩:=hrel;have Hz:=Lib.hid hz;clear hz;by_cases lk:k<l.length
  ·obtain⟨ad,rfl,ha⟩:=(h.ext (ExtC.h:Ext w wr)).elem lk;have hT:=HT.out k lk;have Hnx:=Lib.hid (show inB d l[k].lo l[k].hi=false→∀j(hj:j<k+1)(h1:j<l.length),inB d l[j].lo l[j].hi=false from fun h j hj h1=>by
    by_cases hji:j=k
    ·subst hji;exact h
    ·exact Hz.out j (by omega) h1)
   obtain⟨⟨lo,hi⟩,hx⟩:∃x,l[k]=x:=⟨_,rfl⟩;rw[hx] at ha hT Hnx;have i4:CellsB wr (ad.add (k*2)) [.int .i64 lo,.int .i64 hi]:=⟨ha⟩;have zk:IntKind.i64.wrap ((k:Int)+1)=(k:Int)+1:=IntWalk.i64_in _ (by omega)
   obtain⟨u,hu⟩:∃u,inB d lo hi=u:=⟨_,rfl⟩;simp only[hu] at hT Hnx;have HT2:=Lib.hid hT;clear ha hx hT
   cases u
   ·have Hn:=Lib.hid (Hnx.out rfl);clear HT2 Hnx;go_wp2
    refine aP ((.take 0 (.take 1 (.take 2 (.take 3 (.take 4 (.take 5 (.take 6 (.take 7 (.take 8 (.take 9 (.take 10 (.one 11 .nil))))))))))))) (fun hHd=> ?_) (hQ:=by intro _ _ _ _ _ h;exact h)
    repeat' first|((with_reducible refine aX ?_);(first|(refine tk (v:= ?_) ?_ hHd ?_;rotate_left;(·(intro W' h;have:=StepC.mk h;first|with_reducible exact aJ)))|(refine tk (v:= ?_) ?_ hHd ?_;rotate_left;(·(intro wq hSw;go_simp;(try with_reducible rfl)))));(try simp only[pS]))|((with_reducible refine bC ?_);refine aQ (by simp only[gS];rfl) ?_)|((first|with_reducible refine aN ?_);first|(rintro _ V ⟨rfl,(_:StepC _ _)⟩;refine⟨_,rfl,?_⟩))|((with_reducible refine bD ?_);clear hHd;refine aM ExtC.h (fun hHd=> ?_);(try simp only[pS]))|(with_reducible refine aF ?_)
    all_goals
     simp only[hu];go_wp2
     go_roundw
     case rel=>exact⟨⟨ExtC.h⟩,k+1,lk,by push_cast;rfl,Hn.out⟩
     case measure=>simp[RowKit.intOf];omega
   ·obtain rfl:=HT2.out rfl;clear HT2 Hnx;go_wp2
    refine aP ((.take 0 (.take 1 (.take 2 (.take 3 (.take 4 (.take 5 (.take 6 (.take 7 (.take 8 (.take 9 (.take 10 (.one 11 .nil))))))))))))) (fun hHd=> ?_) (hQ:=by intro _ _ _ _ _ h;exact h)
    repeat' first|((with_reducible refine aX ?_);(first|(refine tk (v:= ?_) ?_ hHd ?_;rotate_left;(·(intro W' h;have:=StepC.mk h;first|with_reducible exact aJ)))|(refine tk (v:= ?_) ?_ hHd ?_;rotate_left;(·(intro wq hSw;go_simp;(try with_reducible rfl)))));(try simp only[pS]))|((with_reducible refine bC ?_);refine aQ (by simp only[gS];rfl) ?_)|((first|with_reducible refine aN ?_);first|(rintro _ V ⟨rfl,(_:StepC _ _)⟩;refine⟨_,rfl,?_⟩))|((with_reducible refine bD ?_);clear hHd;refine aM ExtC.h (fun hHd=> ?_);(try simp only[pS]))|(with_reducible refine aF ?_)
    all_goals
     simp only[hu];go_wp2
     go_ret
     exact⟨rfl,⟨ExtC.h⟩⟩
  ·obtain rfl:k=l.length:=by omega
   obtain rfl:=HF.out (fun i hi=>Hz.out i hi hi)
   go_wp2
   go_ret
   exact⟨rfl,⟨ExtC.h⟩⟩
instance rHasI{W:World}{v:Value}{l:List Span}{d:Int}[h:ListC Span W v l]:FunC Tryz.prog 68 #[v,.int .i64 d] W (RB W (hasDay l d)):=⟨Is v l d W h.h⟩
theorem xQ(l:List Event){k:Nat}(h:k<l.length):courts (l.take (k+1))=courts (l.take k)++if l[k].kind=4 then [⟨l[k].day,l[k].until_⟩] else []:=by
 unfold courts;rw[List.take_succ_eq_append_getElem h,List.filter_append,List.map_append];congr 1
 rw[List.filter_cons];by_cases hk:l[k].kind=4
 ·simp[hk]
 ·simp[hk]
theorem Bh(l:List Event):(courts l).length≤l.length:=by unfold courts;rw[List.length_map];exact List.length_filter_le _ _
class LenC2 {α:Type} (l:List α):Prop where h:l.length≤1000
theorem Bd(x:Event)(w:World):Calls Tryz.prog 183 #[Enc.val x] w (RL w (fields x)):=by
 obtain⟨ek,ed,⟨ec,eo⟩,et,eq,ep,eu,em⟩:=x;go_enter Tryz.func183,Tryz.ntmps183
 go_wp2_with (first|(with_reducible refine aA ?_)|(with_reducible refine aH ?_;intro V g _ _ _)|(with_reducible refine aD ?_;intro V g _ _ _))
 go_ret
 exact⟨_,_,rfl,⟨ListV.blk (inferInstance:BlkC V g 3 _).h rfl rfl (by show 9≤maxLen;decide)⟩,⟨ExtC.h⟩⟩
class FldE (x:Event) (X:outParam (List Int)):Prop where h:fields x=X
instance{W:World}{k d c o t q p u m:Int}{X:List Int}[h:FldE ⟨k,d,⟨c,o⟩,t,q,p,u,m⟩ X]:FunC Tryz.prog 183 #[.agg #[.int .i64 k,.int .i64 d,.int .i64 c,.int .i64 o,.int .i64 t,.int .i64 q,.int .i64 p,.int .i64 u,.int .i64 m]] W (RL W X):=⟨by rw[←h.h];exact Bd ⟨k,d,⟨c,o⟩,t,q,p,u,m⟩ W⟩
theorem cmpL_lt:∀{x y:List Int},x.length=y.length→∀k(hk:k<x.length)(hk2:k<y.length),(∀j(h1:j<k),x[j]'(by omega)=y[j]'(by omega))→x[k]≠y[k]→decide (cmpL x y<0)=decide (x[k]<y[k])
 | [],_,_,k,hk,_,_,_=>by simp at hk
 |_::_,[],h,_,_,_,_,_=>by simp at h
 |a::x,b::y,h,0,hk,hk2,hj,hne=>by
  simp only[List.getElem_cons_zero] at hne⊢;unfold cmpL;by_cases h1:a<b
  ·rw[if_pos h1];simp[h1]
  ·rw[if_neg h1,if_pos (by omega)];simp[h1]
 |a::x,b::y,h,k+1,hk,hk2,hj,hne=>by
  simp only[List.getElem_cons_succ] at hne⊢;have h0:=hj 0 (by omega)
  simp only[List.getElem_cons_zero] at h0;unfold cmpL;rw[if_neg (by omega),if_neg (by omega)]
  exact cmpL_lt (by simpa using h) k (by simpa using hk) (by simpa using hk2) (fun j hj1=>by have:=hj (j+1) (by omega);simpa using this) hne
theorem cmpL_same:∀{x y:List Int},x=y→decide (cmpL x y<0)=false:=by
 intro x y h;subst h;rw[cmpL_refl];rfl
end Go.Rg
end
section
namespace Go.Rg
open Go Go.Bp Go.RowKit Go.Walk Go.Proofs
theorem By(v:Value)(l:List ByteArray)(s:ByteArray)(w:World)(h:ListV w v l):Calls Tryz.prog 112 #[v,.string s] w (RI w (idxP (fun x=>decide (x=s)) l)):=by
 obtain⟨A,c,rfl,h2⟩:=h.form;unfold maxLen at h2;go_enter Tryz.func112,Tryz.ntmps112
 go_wp2
 go_loop [5] (fun i=>∃k:Nat,k≤l.length∧i=.int .i64 k∧∀x∈l.take k,decide (x=s)=false) (fun i=>l.length-(RowKit.intOf i).toNat)
 case atStart=>exact⟨0,by omega,rfl,by simp⟩
 case round=>
  obtain⟨k,hk,rfl,hn⟩:=hrel;have Hn:=Lib.hid hn;clear hn;by_cases hlt:k<l.length
  ·obtain⟨ad,rfl,hc⟩:=h.elem hlt;obtain⟨b,hb⟩:∃b,decide (l[k]=s)=b:=⟨_,rfl⟩;have Hb:=Lib.hid hb;obtain⟨x,hx⟩:∃x,l[k]=x:=⟨_,rfl⟩;rw[hx] at hc hb;have Hx:=Lib.hid hx;clear hx;have i8:CellsB w (ad.add k) [.string x]:=⟨by simpa [Enc.size,Enc.enc] using hc⟩
   have hbe:(x.toList==s.toList)=b:=by rw[←hb];rw[tE]
   clear hb hc
   cases b
   ·go_wp2_with (with_reducible refine aA ?_)
    go_round
    case rel=>exact⟨k+1,by omega,by go_num,bV hlt Hn.out Hb.out⟩
    case measure=>simp[RowKit.intOf];omega
   ·go_wp2_with (with_reducible refine aA ?_)
    go_ret
    exact⟨eP (fZ hlt Hb.out Hn.out).symm,⟨Ext.refl _⟩⟩
  ·go_wp2
   go_ret
   obtain rfl:k=l.length:=by omega
   have:=Hn.out;rw[List.take_length] at this;exact⟨eP (dQ this).symm,⟨Ext.refl _⟩⟩
instance{W:World}{v:Value}{l:List ByteArray}{s:ByteArray}[h:ListC ByteArray W v l]:FunC Tryz.prog 112 #[v,.string s] W (RI W (idxP (fun x=>decide (x=s)) l)):=⟨By _ _ _ _ h.h⟩
end Go.Rg
end
section
namespace Go.Rg
open Go Go.Bp Go.RowKit Go.Walk Go.Proofs
class CntC (s:Sys):Prop where h:s.classes.length≤12∧s.codes.length≤8
theorem Az{α:Type}{l:List α}{f:Nat→α→Int}{k:Nat}(hk:k<l.length)(h:f k l[k]≠0)(hb:∀i(hi:i<k),f i (l[i]'(by omega))=0):(firstE l f).2=f k l[k]:=by rw[cN hk h hb]
theorem yE(s:Sys)(v lv:Value)(l:List Right)(w:World)(h:SysV w v s)(hl:ListV w lv l)(hn:s.classes.length≤12∧s.codes.length≤8):Calls Tryz.prog 113 #[v,lv] w (RI w (s.rightsErr l)):=by
 obtain⟨A,_,k,A',k',rfl,rfl,-⟩:=h.h;obtain⟨B,kb,rfl,q1,q2⟩:=hl.form;unfold maxLen at q2;obtain⟨n1,n2⟩:=hn;obtain⟨M,hM⟩:∃M:Int,2^s.codes.length=M:=⟨_,rfl⟩;have hp:=eU n2;rw[hM] at hp;have i1:PowE s.codes.length M:=⟨n2,hM⟩;have z1:IntKind.i64.wrap ((s.classes.length:Int)-1)=(s.classes.length:Int)-1:=IntWalk.i64_in _ (by omega)
 have z2:IntKind.i64.wrap (M-1)=M-1:=IntWalk.i64_in _ (by omega)
 unfold Sys.rightsErr;by_cases h40:40<l.length
 ·rw[if_pos h40];have z:((l.length:Int)>40):=by omega
  go_enter Tryz.func113,Tryz.ntmps113
  go_wp2_with (first|(with_reducible refine aH ?_;intro V g _ _ _))
  all_goals(try(go_ret;refine⟨?_,⟨ExtC.h⟩⟩;first|rfl))
 rw[if_neg h40];have z:¬((l.length:Int)>40):=by omega
 have HR:=Lib.hid (show∀a b:Int,s.rightErr ⟨a,b⟩=if inB a 0 ((s.classes.length:Int)-1)=false then 4 else if inB b 0 (M-1)=false then 7 else 0 from fun a b=>by unfold Sys.rightErr Sys.sets;rw[←hM])
 clear hM;go_enter Tryz.func113,Tryz.ntmps113
 go_wp2_with (first|(with_reducible refine aH ?_;intro V g _ _ _))
 go_loopw [5] (fun iv wr=>StepC V wr∧∃k:Nat,k≤l.length∧iv=.int .i64 k∧∀j(hj:j<k)(hl:j<l.length),s.rightErr l[j]=0) (fun iv _=>l.length-(RowKit.intOf iv).toNat)
 case atStart=>exact⟨⟨ExtC.h⟩,0,by omega,rfl,fun j hj=>by omega⟩
 case round=>
  obtain⟨_,k,hk,rfl,hz⟩:=hrel;have Hz:=Lib.hid hz;clear hz;by_cases hlt:k<l.length
  ·obtain⟨ad,rfl,hc⟩:=(hl.ext (ExtC.h:Ext w wr)).elem hlt;have hr:=HR.out l[k].cls l[k].codes;have Hnext:=Lib.hid (show s.rightErr l[k]=0→∀j(hj:j<k+1)(hl:j<l.length),s.rightErr l[j]=0 from fun h0 j hj hl=>by
    by_cases hjk:j=k
    ·subst hjk;exact h0
    ·exact Hz.out j (by omega) hl)
   have Hstop:=Lib.hid (show s.rightErr l[k]≠0→(firstE l fun _ r=>s.rightErr r).2=s.rightErr l[k] from fun h0=>Az (f:=fun _ r=>s.rightErr r) hlt h0 fun i hi=>Hz.out i hi (by omega))
   obtain⟨⟨a,b⟩,hx⟩:∃x,l[k]=x:=⟨_,rfl⟩;rw[hx] at hc hr Hnext Hstop;simp only at hr;have i8:CellsB wr (ad.add (k*2)) [.int .i64 a,.int .i64 b]:=⟨hc⟩;have z3:IntKind.i64.wrap ((k:Int)+1)=(k:Int)+1:=IntWalk.i64_in _ (by omega)
   obtain⟨d1,e1⟩:∃d,inB a 0 ((s.classes.length:Int)-1)=d:=⟨_,rfl⟩;obtain⟨d2,e2⟩:∃d,inB b 0 (M-1)=d:=⟨_,rfl⟩;rw[e1,e2] at hr;clear hc hx
   cases d1
   ·rw[if_pos rfl] at hr;have Hs:=Lib.hid (Hstop.out (by rw[hr];decide))
    rw[hr] at Hs;clear hr Hnext Hstop;go_wp2
    refine aP ((.take 0 (.take 1 (.take 2 (.take 3 (.take 4 (.take 5 (.take 6 (.take 7 (.take 8 (.one 9 (.take 10 .nil)))))))))))) (fun hHd=> ?_) (hQ:=by intro _ _ _ _ _ h;exact h)
    repeat' first|((with_reducible refine aX ?_);(first|(refine tk (v:= ?_) ?_ hHd ?_;rotate_left;(·(intro W' h;have:=StepC.mk h;first|with_reducible exact aJ)))|(refine tk (v:= ?_) ?_ hHd ?_;rotate_left;(·(intro wq hSw;go_simp;(try with_reducible rfl)))));(try simp only[pS]))|((with_reducible refine bC ?_);refine aQ (by simp only[gS];rfl) ?_)|((with_reducible refine aN ?_);first|(rintro _ V ⟨rfl,(_:StepC _ _)⟩;refine⟨_,rfl,?_⟩))|((with_reducible refine bD ?_);clear hHd;refine aM ExtC.h (fun hHd=> ?_);(try simp only[pS]))|(with_reducible refine aF ?_)
    all_goals
     go_wp2
     go_ret
     exact⟨by rw[Hs.out];rfl,⟨ExtC.h⟩⟩
   ·cases d2
    ·rw[if_neg (by simp),if_pos rfl] at hr
     have Hs:=Lib.hid (Hstop.out (by rw[hr];decide))
     rw[hr] at Hs;clear hr Hnext Hstop;go_wp2
     refine aP ((.take 0 (.take 1 (.take 2 (.take 3 (.take 4 (.take 5 (.take 6 (.take 7 (.take 8 (.one 9 (.take 10 .nil)))))))))))) (fun hHd=> ?_) (hQ:=by intro _ _ _ _ _ h;exact h)
     repeat' first|((with_reducible refine aX ?_);(first|(refine tk (v:= ?_) ?_ hHd ?_;rotate_left;(·(intro W' h;have:=StepC.mk h;first|with_reducible exact aJ)))|(refine tk (v:= ?_) ?_ hHd ?_;rotate_left;(·(intro wq hSw;go_simp;(try with_reducible rfl)))));(try simp only[pS]))|((with_reducible refine bC ?_);refine aQ (by simp only[gS];rfl) ?_)|((with_reducible refine aN ?_);first|(rintro _ V ⟨rfl,(_:StepC _ _)⟩;refine⟨_,rfl,?_⟩))|((with_reducible refine bD ?_);clear hHd;refine aM ExtC.h (fun hHd=> ?_);(try simp only[pS]))|(with_reducible refine aF ?_)
     all_goals
      go_wp2
      refine aP ((.take 0 (.take 1 (.take 2 (.take 3 (.take 4 (.take 5 (.take 6 (.take 7 (.one 8 (.take 9 (.one 10 (.take 11 .nil))))))))))))) (fun hHd=> ?_) (hQ:=by intro _ _ _ _ _ h;exact h)
      repeat' first|((with_reducible refine aX ?_);(first|(refine tk (v:= ?_) ?_ hHd ?_;rotate_left;(·(intro W' h;have:=StepC.mk h;first|with_reducible exact aJ)))|(refine tk (v:= ?_) ?_ hHd ?_;rotate_left;(·(intro wq hSw;go_simp;(try with_reducible rfl)))));(try simp only[pS]))|((with_reducible refine bC ?_);refine aQ (by simp only[gS];rfl) ?_)|((with_reducible refine aN ?_);first|(rintro _ V ⟨rfl,(_:StepC _ _)⟩;refine⟨_,rfl,?_⟩))|((with_reducible refine bD ?_);clear hHd;refine aM ExtC.h (fun hHd=> ?_);(try simp only[pS]))|(with_reducible refine aF ?_)
     all_goals
      go_wp2
      go_ret
      exact⟨by rw[Hs.out];rfl,⟨ExtC.h⟩⟩
    ·rw[if_neg (by simp),if_neg (by simp)] at hr
     have Hs:=Lib.hid (Hnext.out hr);clear hr Hnext Hstop;go_wp2
     refine aP ((.take 0 (.take 1 (.take 2 (.take 3 (.take 4 (.take 5 (.take 6 (.take 7 (.take 8 (.one 9 (.take 10 .nil)))))))))))) (fun hHd=> ?_) (hQ:=by intro _ _ _ _ _ h;exact h)
     repeat' first|((with_reducible refine aX ?_);(first|(refine tk (v:= ?_) ?_ hHd ?_;rotate_left;(·(intro W' h;have:=StepC.mk h;first|with_reducible exact aJ)))|(refine tk (v:= ?_) ?_ hHd ?_;rotate_left;(·(intro wq hSw;go_simp;(try with_reducible rfl)))));(try simp only[pS]))|((with_reducible refine bC ?_);refine aQ (by simp only[gS];rfl) ?_)|((with_reducible refine aN ?_);first|(rintro _ V ⟨rfl,(_:StepC _ _)⟩;refine⟨_,rfl,?_⟩))|((with_reducible refine bD ?_);clear hHd;refine aM ExtC.h (fun hHd=> ?_);(try simp only[pS]))|(with_reducible refine aF ?_)
     all_goals
      go_wp2
      refine aP ((.take 0 (.take 1 (.take 2 (.take 3 (.take 4 (.take 5 (.take 6 (.take 7 (.one 8 (.take 9 (.one 10 (.take 11 .nil))))))))))))) (fun hHd=> ?_) (hQ:=by intro _ _ _ _ _ h;exact h)
      repeat' first|((with_reducible refine aX ?_);(first|(refine tk (v:= ?_) ?_ hHd ?_;rotate_left;(·(intro W' h;have:=StepC.mk h;first|with_reducible exact aJ)))|(refine tk (v:= ?_) ?_ hHd ?_;rotate_left;(·(intro wq hSw;go_simp;(try with_reducible rfl)))));(try simp only[pS]))|((with_reducible refine bC ?_);refine aQ (by simp only[gS];rfl) ?_)|((with_reducible refine aN ?_);first|(rintro _ V ⟨rfl,(_:StepC _ _)⟩;refine⟨_,rfl,?_⟩))|((with_reducible refine bD ?_);clear hHd;refine aM ExtC.h (fun hHd=> ?_);(try simp only[pS]))|(with_reducible refine aF ?_)
     all_goals
      go_wp2
      go_roundw
      case rel=>exact⟨⟨ExtC.h⟩,k+1,hlt,rfl,Hs.out⟩
      case measure=>simp[RowKit.intOf];omega
  ·obtain rfl:k=l.length:=by omega
   have hf:(firstE l fun _ r=>s.rightErr r).2=0:=by rw[bU fun i hi=>Hz.out i hi hi]
   have Hf:=Lib.hid hf;clear hf;go_wp2
   go_ret
   exact⟨by rw[Hf.out];rfl,⟨ExtC.h⟩⟩
end Go.Rg
end
