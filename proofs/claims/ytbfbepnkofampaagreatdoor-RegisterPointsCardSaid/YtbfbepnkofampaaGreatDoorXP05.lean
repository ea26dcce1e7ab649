import Derived.Test.YtbfbepnkofampaaGreatDoorXP04
set_option maxRecDepth 100000
set_option linter.all false
section
namespace Go.Rg
open Go.Bp
def sumL(l:List Int):Int:=l.foldl (· + ·) 0
def putI(x:Int):List Int→List Int
 | []=>[x]
 |a::l=>if a<x then a::putI x l else if a=x then a::l else x::a::l
def sortI(l:List Int):List Int:=l.foldl (fun o x=>putI x o) []
def isOff(x:Event):Bool:=decide (x.kind=3)
def offDays(l:List Event):List Int:=sortI ((l.filter isOff).map fun x=>x.day)
def ptsOn(l:List Event)(d:Int):Int:=sumL ((l.filter fun x=>isOff x&&decide (x.day=d)).map fun x=>x.points)
structure Off where
 live:List (Int×Int)
 taken:List (Int×Int)
 bans:List Span
namespace Rules
variable(r:Rules)
def liveAt(l:List Event)(o:Off)(day:Int):List (Int×Int):=(o.live++ [(day,ptsOn l day)]).filter fun p=>decide (day-p.1<r.fall)
def banOf(day:Int):List Span:=if day<40000 then [⟨day+1,min 40000 (day+r.ban)⟩] else []
def stepOff(l:List Event)(o:Off)(day:Int):Off:=
 if sumL ((r.liveAt l o day).map fun p=>p.2)<r.limit then⟨r.liveAt l o day,o.taken,o.bans⟩
 else⟨[],o.taken++(r.liveAt l o day).map (fun p=>(p.1,day)),o.bans++r.banOf day⟩
def offs(l:List Event):Off:=(offDays l).foldl (r.stepOff l) ⟨[],[],[]⟩
def counts(l:List Event)(out:List Int)(day:Int)(k:Nat):Bool:=
 isOff (l.getD k (bare 0 0))&&decide ((l.getD k (bare 0 0)).day≤day)&&decide (out.getD k 0<0)&&decide (day-(l.getD k (bare 0 0)).day<r.fall)
def sumT(l:List Event)(out:List Int)(day:Int):Int:=sumL (((List.range l.length).filter (r.counts l out day)).map fun k=>(l.getD k (bare 0 0)).points)
def lastOf(l:List Event)(i:Nat):Bool:=isOff (l.getD i (bare 0 0))&&(List.range l.length).all fun k=> !(decide (i<k)&&isOff (l.getD k (bare 0 0))&&decide ((l.getD k (bare 0 0)).day=(l.getD i (bare 0 0)).day))
def stepT(l:List Event)(s:List Int×List Span)(i:Nat):List Int×List Span:=
 let day:=(l.getD i (bare 0 0)).day
 if lastOf l i=false∨r.sumT l s.1 day<r.limit then s
 else((List.range l.length).map fun k=>if r.counts l s.1 day k=true then day else s.1.getD k 0,s.2++r.banOf day)
def takenR(l:List Event):List Int×List Span:=(List.range l.length).foldl (r.stepT l) (l.map fun _=> -1,[])
end Rules
def courts(l:List Event):List Span:=(l.filter fun x=>decide (x.kind=4)).map fun x=>⟨x.day,x.until_⟩
def hasDay(l:List Span)(d:Int):Bool:=l.any fun s=>inB d s.lo s.hi
def runsTo(all:List Span):Nat→List Span
 |0=>[]
 |d+1=>
  let o:=runsTo all d
  if hasDay all d=false then o
  else match o.getLast? with
   |some s=>if s.hi=(d:Int)-1 then o.dropLast++ [⟨s.lo,d⟩] else o++ [⟨d,d⟩]
   |none=>o++ [⟨d,d⟩]
def joinS:List Span→List Span→List Span
 |o,[]=>o
 |o,s::l=>match o.getLast? with
  |some t=>if s.lo≤t.hi+1 then joinS (o.dropLast++ [⟨t.lo,max t.hi s.hi⟩]) l else joinS (o++ [s]) l
  |none=>joinS (o++ [s]) l
structure Points where
 counts:Int
 fallen:Int
 taken:Int
 deriving DecidableEq
structure Grant where
 day:Int
 right:Right
 reason:Int
 end_:Int
 deriving DecidableEq
namespace Rules
variable(r:Rules)
def bannedBy(l:List Event)(d:Int):Int:=if hasDay (courts l) d=true then 1 else if hasDay (r.offs l).bans d=true then 2 else 0
def endOf(day cls:Int):Int:=
 let term:=(r.sys.at_ cls).term
 if term=0 then 40001 else if(plusAns day term 0).2=0 then(plusAns day term 0).1 else 40001
def rightOf(x:Event):Right:=if x.kind=1 then(r.treaties.getD x.treaty.toNat ⟨ByteArray.empty,⟨0,0⟩,⟨0,0⟩⟩).right else x.right
def daysOf(x:Event):Span:=(r.treaties.getD x.treaty.toNat ⟨ByteArray.empty,⟨0,0⟩,⟨0,0⟩⟩).days
def reasonOf(born:Int)(l:List Event)(earlier:List Grant)(x:Event)(y:Right):Int:=
 let c:=r.sys.at_ y.cls
 if r.bannedBy l x.day≠0 then 4
 else if x.kind=1∧inB x.day (r.daysOf x).lo (r.daysOf x).hi=false then 5
 else if(ageAns born x.day).1<c.age then 6
 else if 0≤c.needs∧(earlier.any fun g=>decide (g.day<x.day)&&decide (g.reason=0)&&decide (x.day<g.end_)&&r.sys.covers g.right.cls c.needs)=false then 7
 else 0
def renewed(l:List Event)(y:Right)(day:Int):List Event→Int→Int
 | [],e=>e
 |z::zs,e=>renewed l y day zs (if z.kind=2∧e<40001∧z.cls=y.cls∧day≤z.day∧z.day<e∧r.bannedBy l z.day=0 then r.endOf z.day z.cls else e)
def grantsTo(born:Int)(l:List Event):List Event→List Grant→List Grant
 | [],o=>o
 |x::xs,o=>
  if x.kind=0∨x.kind=1 then
   grantsTo born l xs (o++ [⟨x.day,r.rightOf x,r.reasonOf born l o x (r.rightOf x),r.renewed l (r.rightOf x) x.day l (r.endOf x.day (r.rightOf x).cls)⟩])
  else grantsTo born l xs o
def grants(born:Int)(l:List Event):List Grant:=r.grantsTo born l l []
end Rules
end Go.Rg
end
section
namespace Go.Rg
open Go.Bp
structure Runs(l:List Span)(S:Int→Prop):Prop where
 le:∀s∈l,s.lo≤s.hi
 gap:l.Pairwise fun a b=>a.hi+1<b.lo
 has:∀d,hasDay l d=true↔S d
theorem oW(l m:List Span)(d:Int):hasDay (l++m) d=(hasDay l d||hasDay m d):=by unfold hasDay;rw[List.any_append]
theorem uF(s:Span)(d:Int):hasDay [s] d=true↔s.lo≤d∧d≤s.hi:=by simp[hasDay,inB]
theorem has_mem{l:List Span}{d:Int}:hasDay l d=true↔∃s∈l,s.lo≤d∧d≤s.hi:=by
 unfold hasDay;rw[List.any_eq_true];constructor
 ·rintro⟨s,hs,h⟩;exact⟨s,hs,inB_t.1 h⟩
 ·rintro⟨s,hs,h⟩;exact⟨s,hs,inB_t.2 h⟩
theorem runs_unique:∀{l m:List Span}{S:Int→Prop},Runs l S→Runs m S→l=m
 | [],[],_,_,_=>rfl
 | [],t::m,S,h,k=>by
  have:=(h.has t.lo).2 ((k.has t.lo).1 (has_mem.2 ⟨t,by simp,Int.le_refl _,k.le t (by simp)⟩))
  simp[hasDay] at this
 |s::l,[],S,h,k=>by
  have:=(k.has s.lo).2 ((h.has s.lo).1 (has_mem.2 ⟨s,by simp,Int.le_refl _,h.le s (by simp)⟩))
  simp[hasDay] at this
 |s::l,t::m,S,h,k=>by
  have hg:=List.pairwise_cons.1 h.gap;have kg:=List.pairwise_cons.1 k.gap;have sl:=h.le s (by simp)
  have tl:=k.le t (by simp)
  have low:∀{s t:Span}{l m:List Span},Runs (s::l) S→Runs (t::m) S→t.lo≤s.lo:=by
   intro s t l m h k;have sl:=h.le s (by simp)
   have kg:=List.pairwise_cons.1 k.gap;obtain⟨x,hx,h1,h2⟩:=has_mem.1 ((k.has s.lo).2 ((h.has s.lo).1 (has_mem.2 ⟨s,by simp,Int.le_refl _,sl⟩)))
   rcases List.mem_cons.1 hx with rfl|hx
   ·exact h1
   ·have:=kg.1 x hx;have:=k.le t (by simp);omega
  have e1:s.lo=t.lo:=Int.le_antisymm (low k h) (low h k);have high:∀{s t:Span}{l m:List Span},Runs (s::l) S→Runs (t::m) S→s.lo=t.lo→t.hi≤s.hi:=by
   intro s t l m h k e;have sl:=h.le s (by simp)
   have hg:=List.pairwise_cons.1 h.gap;apply Int.not_lt.1;intro hlt;obtain⟨x,hx,h1,h2⟩:=has_mem.1 ((h.has (s.hi+1)).2 ((k.has (s.hi+1)).1 (has_mem.2 ⟨t,by simp,by omega,by omega⟩)))
   rcases List.mem_cons.1 hx with rfl|hx
   ·omega
   ·have:=hg.1 x hx;omega
  have e2:s.hi=t.hi:=Int.le_antisymm (high k h e1.symm) (high h k e1);have e3:s=t:=by cases s;cases t;simp_all
  subst e3;congr 1
  have cut:∀{l:List Span},Runs (s::l) S→Runs l fun d=>S d∧s.hi<d:=by
   intro l h;have hg:=List.pairwise_cons.1 h.gap;refine⟨fun x hx=>h.le x (List.mem_cons_of_mem _ hx),hg.2,fun d=> ?_⟩
   rw[←h.has d];constructor
   ·intro hd;obtain⟨x,hx,h1,h2⟩:=has_mem.1 hd;exact⟨has_mem.2 ⟨x,List.mem_cons_of_mem _ hx,h1,h2⟩,by have:=hg.1 x hx;omega⟩
   ·rintro⟨hd,hl⟩;obtain⟨x,hx,h1,h2⟩:=has_mem.1 hd;rcases List.mem_cons.1 hx with rfl|hx
    ·omega
    ·exact has_mem.2 ⟨x,hx,h1,h2⟩
  exact runs_unique (cut h) (cut k)
theorem vN{S:Int→Prop}(h:∀d,¬S d):Runs [] S:=⟨by simp,List.Pairwise.nil,fun d=>by simp[hasDay,h d]⟩
theorem iD{l:List Span}{S T:Int→Prop}{s:Span}(h:Runs l S)(hs:s.lo≤s.hi)(hg:∀x∈l,x.hi+1<s.lo)(hT:∀d,T d↔S d∨s.lo≤d∧d≤s.hi):Runs (l++ [s]) T:=by
 refine⟨fun x hx=> ?_,?_,fun d=> ?_⟩
 ·rcases List.mem_append.1 hx with hx|hx
  ·exact h.le x hx
  ·rw[List.mem_singleton.1 hx];exact hs
 ·rw[List.pairwise_append];refine⟨h.gap,List.pairwise_singleton _ _,fun a ha b hb=> ?_⟩
  rw[List.mem_singleton.1 hb];exact hg a ha
 ·rw[oW,Bool.or_eq_true,h.has,uF,hT]
theorem iQ{p:List Span}{t:Span}{S:Int→Prop}(h:Runs (p++ [t]) S):Runs p (fun d=>S d∧d<t.lo)∧t.lo≤t.hi∧(∀x∈p,x.hi+1<t.lo):=by
 have hp:=List.pairwise_append.1 h.gap;have ht:=h.le t (by simp)
 have hg:∀x∈p,x.hi+1<t.lo:=fun x hx=>hp.2.2 x hx t (by simp)
 refine⟨⟨fun x hx=>h.le x (by simp[hx]),hp.1,fun d=> ?_⟩,ht,hg⟩
 rw[←h.has d,oW,Bool.or_eq_true,uF];constructor
 ·intro hd;obtain⟨x,hx,h1,h2⟩:=has_mem.1 hd;exact⟨.inl hd,by have:=hg x hx;omega⟩
 ·rintro⟨hd|hd,hl⟩
  ·exact hd
  ·omega
theorem sI{p:List Span}{t:Span}{S T:Int→Prop}{hi:Int}(h:Runs (p++ [t]) S)(hh:t.hi≤hi)(hT:∀d,T d↔S d∨t.lo≤d∧d≤hi):Runs (p++ [⟨t.lo,hi⟩]) T:=by
 obtain⟨h1,h2,h3⟩:=iQ h;refine iD h1 (by simp only;omega) h3 fun d=> ?_
 rw[hT d];simp only;constructor
 ·rintro(hd|hd)
  ·by_cases hlt:d<t.lo
   ·exact .inl ⟨hd,hlt⟩
   ·right
    obtain⟨x,hx,a1,a2⟩:=has_mem.1 ((h.has d).2 hd);rcases List.mem_append.1 hx with hx|hx
    ·have:=h3 x hx;omega
    ·rw[List.mem_singleton.1 hx] at a2;omega
  ·exact .inr hd
 ·rintro(hd|hd)
  ·exact .inl hd.1
  ·exact .inr hd
theorem oB(all:List Span):∀n:Nat,Runs (runsTo all n) (fun d=>hasDay all d=true∧0≤d∧d<n)∧∀s∈runsTo all n,s.hi<n
 |0=>⟨vN fun d h=>by omega,by simp[runsTo]⟩
 |n+1=>by
  obtain⟨h,hl⟩:=oB all n;unfold runsTo;simp only;by_cases hd:hasDay all n=false
  ·rw[if_pos hd];refine⟨⟨h.le,h.gap,fun d=> ?_⟩,fun s hs=>by have:=hl s hs;push_cast;omega⟩
   rw[h.has d];constructor
   ·rintro⟨a,b,c⟩;exact⟨a,b,by push_cast;omega⟩
   ·rintro⟨a,b,c⟩;refine⟨a,b,?_⟩;by_cases e:d=n
    ·subst e;rw[hd] at a;cases a
    ·push_cast at c;omega
  ·rw[if_neg hd];have hd2:hasDay all n=true:=by simpa using hd
   have hS:∀d,(hasDay all d=true∧0≤d∧d<((n+1:Nat):Int))↔(hasDay all d=true∧0≤d∧d<n)∨d=n:=by
    intro d;push_cast
    constructor
    ·rintro⟨a,b,c⟩;by_cases e:d=n
     ·exact .inr e
     ·exact .inl ⟨a,b,by omega⟩
    ·rintro(⟨a,b,c⟩|rfl)
     ·exact⟨a,b,by omega⟩
     ·exact⟨hd2,by omega,by omega⟩
   rcases List.eq_nil_or_concat (runsTo all n) with e|⟨p,t,e⟩
   ·rw[e];simp only[List.getLast?_nil,List.nil_append];rw[e] at h;refine⟨by have:=iD (s:=⟨n,n⟩) (T:=fun d=>hasDay all d=true∧0≤d∧d<((n+1:Nat):Int)) h (Int.le_refl _) (by simp) (fun d=>by rw[hS d];simp only;constructor<;>(rintro(x|x)<;>first|exact .inl x|(right;omega)));exact this,fun s hs=> ?_⟩
    rw[List.mem_singleton.1 hs];push_cast;omega
   ·rw[List.concat_eq_append] at e;rw[e] at h hl⊢;have ht:=hl t (by simp)
    simp only[List.getLast?_append,List.getLast?_singleton,Option.some_or,List.dropLast_concat];by_cases hc:t.hi=(n:Int)-1
    ·rw[if_pos hc];refine⟨sI h (by omega) fun d=> ?_,fun s hs=> ?_⟩
     ·rw[hS d];constructor
      ·rintro(x|x)
       ·exact .inl x
       ·exact .inr (by have:=h.le t (by simp);omega)
      ·rintro(x|x)
       ·exact .inl x
       ·by_cases e:d=n
        ·exact .inr e
        ·exact .inl ((h.has d).1 (has_mem.2 ⟨t,by simp,x.1,by omega⟩))
     ·rcases List.mem_append.1 hs with hs|hs
      ·have:=hl s (by simp[hs]);push_cast;omega
      ·rw[List.mem_singleton.1 hs];push_cast;omega
    ·rw[if_neg hc];refine⟨iD (s:=⟨n,n⟩) h (Int.le_refl _) (fun x hx=> ?_) (fun d=>by rw[hS d];simp only;constructor<;>(rintro(x|x)<;>first|exact .inl x|(right;omega))),fun s hs=> ?_⟩
     ·rcases List.mem_append.1 hx with hx|hx
      ·have h3:=(iQ h).2.2 x hx;have:=(iQ h).2.1;simp only;omega
      ·rw[List.mem_singleton.1 hx];simp only;omega
     ·rcases List.mem_append.1 hs with hs|hs
      ·have:=hl s hs;push_cast;omega
      ·rw[List.mem_singleton.1 hs];push_cast;omega
theorem joinS_runs:∀(l o:List Span)(S:Int→Prop),Runs o S→(∀s∈l,s.lo≤s.hi)→(l.Pairwise fun a b=>a.lo≤b.lo)→(∀x∈o,∀s∈l,x.lo≤s.lo)→Runs (joinS o l) (fun d=>S d∨hasDay l d=true)
 | [],o,S,h,_,_,_=>⟨h.le,h.gap,fun d=>by simp only[joinS];rw[h.has d];simp[hasDay]⟩
 |s::l,o,S,h,hl,hp,ho=>by
  have hs:=hl s (by simp)
  rw[List.pairwise_cons] at hp;have hS:∀(T:Int→Prop),(∀d,T d↔S d∨s.lo≤d∧d≤s.hi)→∀m,Runs m (fun d=>T d∨hasDay l d=true)→Runs m (fun d=>S d∨hasDay (s::l) d=true):=by
   intro T hT m hm;refine⟨hm.le,hm.gap,fun d=> ?_⟩
   rw[hm.has d,hT d];have:hasDay (s::l) d=true↔(s.lo≤d∧d≤s.hi)∨hasDay l d=true:=by
    rw[show s::l=[s]++l from rfl,oW,Bool.or_eq_true,uF]
   rw[this];constructor
   ·rintro((a|a)|a)
    ·exact .inl a
    ·exact .inr (.inl a)
    ·exact .inr (.inr a)
   ·rintro(a|a|a)
    ·exact .inl (.inl a)
    ·exact .inl (.inr a)
    ·exact .inr a
  rcases List.eq_nil_or_concat o with e|⟨p,t,e⟩
  ·subst e;simp only[joinS,List.getLast?_nil,List.nil_append];have h2:=iD (T:=fun d=>S d∨s.lo≤d∧d≤s.hi) h hs (by simp) (fun d=>Iff.rfl)
   exact hS _ (fun d=>Iff.rfl) _ (joinS_runs l _ _ h2 (fun x hx=>hl x (by simp[hx])) hp.2 (fun x hx y hy=>by simp at hx;subst hx;exact hp.1 y hy))
  ·rw[List.concat_eq_append] at e;subst e;simp only[joinS,List.getLast?_append,List.getLast?_singleton,Option.some_or,List.dropLast_concat];obtain⟨_,f2,f3⟩:=iQ h;have htl:=ho t (by simp) s (by simp)
   by_cases hc:s.lo≤t.hi+1
   ·rw[if_pos hc];have h2:=sI (T:=fun d=>S d∨s.lo≤d∧d≤s.hi) (hi:=max t.hi s.hi) h (by omega) (fun d=>by
     constructor
     ·rintro(a|a)
      ·exact .inl a
      ·exact .inr (by omega)
     ·rintro(a|a)
      ·exact .inl a
      ·by_cases hd:s.lo≤d
       ·by_cases hd2:d≤s.hi
        ·exact .inr ⟨hd,hd2⟩
        ·exact .inl ((h.has d).1 (has_mem.2 ⟨t,by simp,a.1,by omega⟩))
       ·exact .inl ((h.has d).1 (has_mem.2 ⟨t,by simp,a.1,by omega⟩)))
    refine hS _ (fun d=>Iff.rfl) _ (joinS_runs l _ _ h2 (fun x hx=>hl x (by simp[hx])) hp.2 (fun x hx y hy=> ?_))
    rcases List.mem_append.1 hx with hx|hx
    ·exact ho x (by simp[hx]) y (by simp[hy])
    ·rw[List.mem_singleton.1 hx];exact ho t (by simp) y (by simp[hy])
   ·rw[if_neg hc];have h2:=iD (T:=fun d=>S d∨s.lo≤d∧d≤s.hi) h hs (fun x hx=>by
     rcases List.mem_append.1 hx with hx|hx
     ·have:=f3 x hx;omega
     ·rw[List.mem_singleton.1 hx];omega) (fun d=>Iff.rfl)
    refine hS _ (fun d=>Iff.rfl) _ (joinS_runs l _ _ h2 (fun x hx=>hl x (by simp[hx])) hp.2 (fun x hx y hy=> ?_))
    rcases List.mem_append.1 hx with hx|hx
    ·exact ho x hx y (by simp[hy])
    ·rw[List.mem_singleton.1 hx];exact hp.1 y hy
theorem Dk{all m:List Span}(hm:m.Pairwise fun a b=>a.lo≤b.lo)(hp:∀s,s∈m↔s∈all)(hb:∀s∈all,0≤s.lo∧s.lo≤s.hi∧s.hi≤40000):joinS [] m=runsTo all 40001:=by
 have h1:=joinS_runs m [] (fun _=>False) (vN fun _ h=>h) (fun s hs=>(hb s ((hp s).1 hs)).2.1) hm (by simp)
 have h2:=(oB all 40001).1;refine runs_unique h1 ⟨h2.le,h2.gap,fun d=> ?_⟩
 rw[h2.has d];constructor
 ·rintro⟨a,_,_⟩;obtain⟨x,hx,h⟩:=has_mem.1 a;exact .inr (has_mem.2 ⟨x,(hp x).2 hx,h⟩)
 ·rintro(a|a)
  ·exact a.elim
  ·obtain⟨x,hx,h⟩:=has_mem.1 a;have:=hb x ((hp x).1 hx);exact⟨has_mem.2 ⟨x,(hp x).1 hx,h⟩,by omega,by omega⟩
theorem putI_mem{x y:Int}:∀{l:List Int},y∈putI x l↔y=x∨y∈l
 | []=>by simp[putI]
 |a::l=>by
  unfold putI;split
  ·rw[List.mem_cons,putI_mem,List.mem_cons];constructor
   ·rintro(h|h|h)
    ·exact .inr (.inl h)
    ·exact .inl h
    ·exact .inr (.inr h)
   ·rintro(h|h|h)
    ·exact .inr (.inl h)
    ·exact .inl h
    ·exact .inr (.inr h)
  ·split
   ·rename_i e;subst e;constructor
    ·intro h;exact .inr h
    ·rintro(h|h)
     ·rw[h];simp
     ·exact h
   ·simp
theorem oC{x:Int}:∀{l:List Int},l.Pairwise (· < ·)→(putI x l).Pairwise (· < ·)
 | [],_=>by simp[putI]
 |a::l,h=>by
  rw[List.pairwise_cons] at h;unfold putI;split
  ·rename_i hax;rw[List.pairwise_cons];refine⟨fun y hy=> ?_,oC h.2⟩
   rcases putI_mem.1 hy with rfl|hy
   ·exact hax
   ·exact h.1 y hy
  ·split
   ·exact List.pairwise_cons.2 h
   ·rw[List.pairwise_cons];refine⟨fun y hy=> ?_,List.pairwise_cons.2 h⟩
    rcases List.mem_cons.1 hy with rfl|hy
    ·omega
    ·have:=h.1 y hy;omega
theorem sortI_go:∀(l o:List Int),o.Pairwise (· < ·)→(l.foldl (fun o x=>putI x o) o).Pairwise (· < ·)∧∀y,y∈l.foldl (fun o x=>putI x o) o↔y∈o∨y∈l
 | [],o,h=>⟨h,fun y=>by simp⟩
 |x::l,o,h=>by
  obtain⟨h1,h2⟩:=sortI_go l (putI x o) (oC h);refine⟨h1,fun y=> ?_⟩
  rw[List.foldl_cons,h2 y,putI_mem,List.mem_cons];constructor
  ·rintro((h|h)|h)
   ·exact .inr (.inl h)
   ·exact .inl h
   ·exact .inr (.inr h)
  ·rintro(h|h|h)
   ·exact .inl (.inr h)
   ·exact .inl (.inl h)
   ·exact .inr h
theorem fW(l:List Int):(sortI l).Pairwise (· < ·):=(sortI_go l [] List.Pairwise.nil).1
theorem Dw(l:List Int)(y:Int):y∈sortI l↔y∈l:=by have:=(sortI_go l [] List.Pairwise.nil).2 y;unfold sortI;rw[this];simp
theorem offDays_mem{l:List Event}{d:Int}:d∈offDays l↔∃x∈l,isOff x=true∧x.day=d:=by
 unfold offDays;rw[Dw,List.mem_map];constructor
 ·rintro⟨x,hx,rfl⟩;obtain⟨h1,h2⟩:=List.mem_filter.1 hx;exact⟨x,h1,h2,rfl⟩
 ·rintro⟨x,h1,h2,rfl⟩;exact⟨x,List.mem_filter.2 ⟨h1,h2⟩,rfl⟩
theorem sumL_go:∀(l:List Int)(a:Int),l.foldl (· + ·) a=a+sumL l
 | [],a=>by simp[sumL]
 |x::l,a=>by unfold sumL;rw[List.foldl_cons,List.foldl_cons,sumL_go l,sumL_go l (0+x)];omega
theorem dN(x:Int)(l:List Int):sumL (x::l)=x+sumL l:=by show(x::l).foldl (· + ·) 0=_;rw[List.foldl_cons,sumL_go];omega
theorem sumL_nil:sumL []=0:=rfl
theorem vA{α:Type}(f:α→Int)(p:α→Int)(ks:List α):∀(L:List Int),L.Nodup→sumL ((ks.filter fun k=>decide (f k∈L)).map p)=sumL (L.map fun d=>sumL ((ks.filter fun k=>decide (f k=d)).map p))
 | [],_=>by rw[show(ks.filter fun k=>decide (f k∈([]:List Int)))=[] from List.filter_eq_nil_iff.2 (by simp)];rfl
 |d::L,h=>by
  have hd:=(List.nodup_cons.1 h).1;rw[List.map_cons,dN,←vA f p ks L (List.nodup_cons.1 h).2];clear h;induction ks with
  |nil=>rfl
  |cons k ks ih=>
   have c1:decide (f k∈d::L)=(decide (f k=d)||decide (f k∈L)):=by simp[List.mem_cons]
   simp only[List.filter_cons,c1]
   cases e:decide (f k=d)<;>cases e2:decide (f k∈L)
   ·simp only[Bool.or_self,Bool.false_eq_true,if_false];exact ih
   ·simp only[Bool.false_or,if_true,Bool.false_eq_true,if_false,List.map_cons,dN];omega
   ·simp only[Bool.true_or,if_true,Bool.false_eq_true,if_false,List.map_cons,dN];omega
   ·exact absurd (of_decide_eq_true e2) (by rw[of_decide_eq_true e];exact hd)
theorem Ei(l:List Event)(d:Event):(List.range l.length).map (fun k=>l.getD k d)=l:=by
 apply List.ext_getElem
 ·simp
 ·intro i h1 h2;simp[List.getD,h2]
theorem Eh(l:List Event)(d:Event)(q:Event→Bool)(p:Event→Int):sumL (((List.range l.length).filter fun k=>q (l.getD k d)).map fun k=>p (l.getD k d))=sumL ((l.filter q).map p):=by
 have h:((List.range l.length).filter fun k=>q (l.getD k d)).map (fun k=>l.getD k d)=l.filter q:=by
  have:=List.filter_map (f:=fun k=>l.getD k d) (p:=q) (l:=List.range l.length)
  rw[Ei] at this;rw[this];rfl
 rw[←h,List.map_map];rfl
end Go.Rg
end
section
namespace Go.Rg
open Go.Bp
def whenIn(t:List (Int×Int))(d:Int):Option Int:=(t.find? fun p=>decide (p.1=d)).map fun p=>p.2
theorem jQ{t:List (Int×Int)}{d:Int}(h:∀q∈t,q.1≠d):whenIn t d=none:=by
 unfold whenIn;rw[List.find?_eq_none.2 (fun q hq=>by simpa using h q hq)];rfl
theorem nY{t:List (Int×Int)}{d:Int}(h:∃q∈t,q.1=d):∃w,whenIn t d=some w∧(d,w)∈t:=by
 unfold whenIn
 cases hf:t.find? fun p=>decide (p.1=d) with
 |none=>
  obtain⟨q,hq,e⟩:=h;have:=List.find?_eq_none.1 hf q hq;simp[e] at this
 |some q=>
  have h1:=List.find?_some hf;have h2:=List.mem_of_find?_eq_some hf;simp only[decide_eq_true_eq] at h1;exact⟨q.2,rfl,by rw[←h1];exact h2⟩
theorem pG{t u:List (Int×Int)}{d:Int}:whenIn (t++u) d=(whenIn t d).or (whenIn u d):=by
 unfold whenIn;rw[List.find?_append]
 cases t.find? fun p=>decide (p.1=d)<;>rfl
theorem uV{L:List (Int×Int)}{D d:Int}(h:∃p∈L,p.1=d):whenIn (L.map fun p=>(p.1,D)) d=some D:=by
 obtain⟨p,hp,e⟩:=h;obtain⟨w,h1,h2⟩:=nY (t:=L.map fun p=>(p.1,D)) (d:=d) ⟨(p.1,D),List.mem_map.2 ⟨p,hp,rfl⟩,e⟩
 obtain⟨q,_,hq⟩:=List.mem_map.1 h2;injection hq with _ hq
 rw[h1,hq]
def outOf(o:Off)(x:Event):Int:=if isOff x=true then(whenIn o.taken x.day).getD (-1) else -1
structure OffOk(r:Rules)(l:List Event)(ds:List Int)(o:Off):Prop where
 nodup:(o.live.map fun p=>p.1).Nodup
 live:∀p∈o.live,p.1∈ds∧p.2=ptsOn l p.1
 taken:∀q∈o.taken,q.1∈ds∧q.2∈ds
 apart:∀p∈o.live,∀q∈o.taken,p.1≠q.1
 each:∀d∈ds,(∃p∈o.live,p.1=d)∨(∃q∈o.taken,q.1=d)∨∃e∈ds,r.fall≤e-d
theorem sR(r:Rules)(l:List Event):OffOk r l [] ⟨[],[],[]⟩:=⟨by simp,by simp,by simp,by simp,by simp⟩
section
variable{r:Rules}{l:List Event}{ds rest:List Int}{D:Int}{o:Off}
theorem jM(h:offDays l=ds++D::rest):(∀d∈ds,d<D)∧∀d∈rest,D<d:=by
 have:=fW ((l.filter isOff).map fun x=>x.day)
 unfold offDays at h;rw[h,List.pairwise_append,List.pairwise_cons] at this;exact⟨fun d hd=>this.2.2 d hd D (by simp),this.2.1.1⟩
theorem qO(h:offDays l=ds++D::rest)(ok:OffOk r l ds o):((r.liveAt l o D).map fun p=>p.1).Nodup:=by
 have hlt:=(jM h).1;have h1:((o.live++ [(D,ptsOn l D)]).map fun p=>p.1).Nodup:=by
  rw[List.map_append,List.nodup_append];refine⟨ok.nodup,by simp,fun a ha b hb e=> ?_⟩
  obtain⟨p,hp,rfl⟩:=List.mem_map.1 ha;simp at hb;have:=hlt _ (ok.live p hp).1;omega
 exact h1.sublist (List.Sublist.map _ List.filter_sublist)
theorem live_mem{p:Int×Int}:p∈r.liveAt l o D↔(p∈o.live∨p=(D,ptsOn l D))∧D-p.1<r.fall:=by
 unfold Rules.liveAt;rw[List.mem_filter,List.mem_append,List.mem_singleton,decide_eq_true_eq]
theorem wV(hf:1≤r.fall)(h0:∀x∈l,0≤x.day)(h:offDays l=ds++D::rest)(ok:OffOk r l ds o){x:Event}(hx:x∈l)(hox:isOff x=true):
 (∃p∈r.liveAt l o D,p.1=x.day)↔x.day≤D∧outOf o x<0∧D-x.day<r.fall:=by
 obtain⟨hlt,hgt⟩:=jM h;have hout:outOf o x=(whenIn o.taken x.day).getD (-1):=if_pos hox;constructor
 ·rintro⟨p,hp,e⟩;obtain⟨hp,hd⟩:=live_mem.1 hp;have hno:∀q∈o.taken,q.1≠x.day:=by
   intro q hq e2;rcases hp with hp|hp
   ·exact ok.apart p hp q hq (by rw[e,e2])
   ·have:=hlt _ (ok.taken q hq).1;rw[hp] at e;simp only at e;omega
  refine⟨?_,by rw[hout,jQ hno];decide,by rw[←e];exact hd⟩
  rcases hp with hp|hp
  ·have:=hlt _ (ok.live p hp).1;omega
  ·rw[hp] at e;simp only at e;omega
 ·rintro⟨h1,h2,h3⟩;have hm:x.day∈offDays l:=offDays_mem.2 ⟨x,hx,hox,rfl⟩;rw[h] at hm;rcases List.mem_append.1 hm with hm|hm
  ·rcases ok.each _ hm with ⟨p,hp,e⟩|hq|⟨e,he,hfe⟩
   ·exact⟨p,live_mem.2 ⟨.inl hp,by rw[e];exact h3⟩,e⟩
   ·obtain⟨w,hw,hmem⟩:=nY hq;have hw2:=(ok.taken _ hmem).2;have:w∈offDays l:=by rw[h];exact List.mem_append.2 (.inl hw2)
    obtain⟨y,hy,_,e⟩:=offDays_mem.1 this;have:=h0 y hy;rw[hout,hw] at h2;simp only[Option.getD_some] at h2;omega
   ·have:=hlt e he;omega
  ·rcases List.mem_cons.1 hm with e|hm
   ·exact⟨(D,ptsOn l D),live_mem.2 ⟨.inr rfl,by simp only;omega⟩,e.symm⟩
   ·have:=hgt _ hm;omega
theorem Cl(h:offDays l=ds++D::rest)(hf:1≤r.fall)(ok:OffOk r l ds o):OffOk r l (ds++ [D]) (r.stepOff l o D):=by
 obtain⟨hlt,hgt⟩:=jM h;have hliv:∀p∈r.liveAt l o D,p.1∈ds++ [D]∧p.2=ptsOn l p.1:=fun p hp=>by
  rcases(live_mem.1 hp).1 with hp|hp
  ·exact⟨List.mem_append.2 (.inl (ok.live p hp).1),(ok.live p hp).2⟩
  ·rw[hp];exact⟨by simp,rfl⟩
 have hap:∀p∈r.liveAt l o D,∀q∈o.taken,p.1≠q.1:=fun p hp q hq e=>by
  rcases(live_mem.1 hp).1 with hp|hp
  ·exact ok.apart p hp q hq e
  ·have:=hlt _ (ok.taken q hq).1;rw[hp] at e;simp only at e;omega
 have hea:∀d∈ds++ [D],(∃p∈r.liveAt l o D,p.1=d)∨(∃q∈o.taken,q.1=d)∨∃e∈ds++ [D],r.fall≤e-d:=fun d hd=>by
  by_cases hfa:r.fall≤D-d
  ·exact .inr (.inr ⟨D,by simp,hfa⟩)
  ·rcases List.mem_append.1 hd with hd|hd
   ·rcases ok.each d hd with ⟨p,hp,e⟩|hq|⟨e,he,hfe⟩
    ·exact .inl ⟨p,live_mem.2 ⟨.inl hp,by omega⟩,e⟩
    ·exact .inr (.inl hq)
    ·exact .inr (.inr ⟨e,List.mem_append.2 (.inl he),hfe⟩)
   ·rw[List.mem_singleton.1 hd];exact .inl ⟨(D,ptsOn l D),live_mem.2 ⟨.inr rfl,by simp only;omega⟩,rfl⟩
 have htk:∀q∈o.taken,q.1∈ds++ [D]∧q.2∈ds++ [D]:=fun q hq=>⟨List.mem_append.2 (.inl (ok.taken q hq).1),List.mem_append.2 (.inl (ok.taken q hq).2)⟩
 unfold Rules.stepOff;split
 ·exact⟨qO h ok,hliv,htk,hap,hea⟩
 ·refine⟨by simp,by simp,fun q hq=> ?_,by simp,fun d hd=> ?_⟩
  ·rcases List.mem_append.1 hq with hq|hq
   ·exact htk q hq
   ·obtain⟨p,hp,rfl⟩:=List.mem_map.1 hq;exact⟨(hliv p hp).1,by simp⟩
  ·rcases hea d hd with ⟨p,hp,e⟩|⟨q,hq,e⟩|hx
   ·exact .inr (.inl ⟨(p.1,D),List.mem_append.2 (.inr (List.mem_map.2 ⟨p,hp,rfl⟩)),e⟩)
   ·exact .inr (.inl ⟨q,List.mem_append.2 (.inl hq),e⟩)
   ·exact .inr (.inr hx)
theorem Pm(hf:1≤r.fall)(h0:∀x∈l,0≤x.day)(h:offDays l=ds++D::rest)(ok:OffOk r l ds o){out:List Int}(ho:∀k,k<l.length→out.getD k 0=outOf o (l.getD k (Rules.bare 0 0))):
 r.sumT l out D=sumL ((r.liveAt l o D).map fun p=>p.2):=by
 obtain⟨K,hK⟩:∃K,(r.liveAt l o D).map (fun p=>p.1)=K:=⟨_,rfl⟩
 have hiff:∀x∈l,(isOff x&&decide (x.day≤D)&&decide (outOf o x<0)&&decide (D-x.day<r.fall))=(isOff x&&decide (x.day∈K)):=by
  intro x hx;by_cases hox:isOff x=true
  ·have:=wV hf h0 h ok hx hox;have hk:x.day∈K↔x.day≤D∧outOf o x<0∧D-x.day<r.fall:=by
    rw[←this,←hK,List.mem_map]
   rw[hox];simp only[Bool.true_and];rw[Bool.eq_iff_iff];simp only[Bool.and_eq_true,decide_eq_true_eq];rw[hk,and_assoc]
  ·have:isOff x=false:=by simpa using hox
   rw[this];simp
 have e1:r.sumT l out D=sumL ((l.filter fun x=>isOff x&&decide (x.day∈K)).map fun x=>x.points):=by
  rw[←Eh l (Rules.bare 0 0) (fun x=>isOff x&&decide (x.day∈K)) (fun x=>x.points)]
  unfold Rules.sumT;congr 2
  refine List.filter_congr fun k hk=> ?_
  have hk:=List.mem_range.1 hk;unfold Rules.counts;rw[ho k hk];exact hiff _ (by simp[List.getD,hk])
 have e2:(r.liveAt l o D).map (fun p=>p.2)=K.map (ptsOn l):=by
  rw[←hK,List.map_map];refine List.map_congr_left fun p hp=> ?_
  rcases(live_mem.1 hp).1 with hp|hp
  ·exact(ok.live p hp).2
  ·rw[hp];rfl
 have e3:=vA (fun x:Event=>x.day) (fun x=>x.points) (l.filter isOff) K (by rw[←hK];exact qO h ok)
 rw[e1,e2];have e4:(l.filter fun x=>isOff x&&decide (x.day∈K))=(l.filter isOff).filter fun x=>decide (x.day∈K):=by rw[List.filter_filter];congr 1;funext x;rw[Bool.and_comm]
 rw[e4,e3];congr 1
 refine List.map_congr_left fun d _=> ?_
 unfold ptsOn;rw[List.filter_filter];congr 2
 congr 1
 funext x
 rw[Bool.and_comm]
end
end Go.Rg
end
