/- Chapter 11: contracts of functions of the program and of the reference, and plain laws (out of RgE RgF RgG RgH RgI RgJ RgK). No condition of its own. -/
import Derived.Test.YtbfbepnkofampaaGreatDoorYP03
set_option maxRecDepth 100000
set_option linter.all false
section
namespace Go.Rg
open Go.Bp
def firstE{α:Type}(l:List α)(f:Nat→α→Int):Int×Int:=match l.zipIdx.find? fun p=>decide (f p.2 p.1≠0) with
 |some p=>((p.2:Int),f p.2 p.1)
 |none=>(0,0)
namespace Sys
variable(s:Sys)
def loopAt:Option Nat:=(List.range s.classes.length).find? fun i=>(s.at_ i).incl.any fun k=>s.covers k i
def check:Int×Int×Int:=
 if inB s.classes.length 1 12=false∨8<s.codes.length then(1,0,3)
 else if(firstE s.classes s.clsErr).2≠0 then(2,(firstE s.classes s.clsErr).1,(firstE s.classes s.clsErr).2)
 else if(firstE s.codes fun i _=>nameErr s.codes i).2≠0 then(3,(firstE s.codes fun i _=>nameErr s.codes i).1,(firstE s.codes fun i _=>nameErr s.codes i).2)
 else match s.loopAt with
  |some i=>(4,i,9)
  |none=>(0,0,0)
def sets:Int:=2^s.codes.length
def rightErr(r:Right):Int:=if inB r.cls 0 (s.classes.length-1)=false then 4 else if inB r.codes 0 (s.sets-1)=false then 7 else 0
def rightsErr(l:List Right):Int:=if 40<l.length then 3 else(firstE l fun _ r=>s.rightErr r).2
def asked(l:List Right):Int:=if s.check.2.2≠0 then s.check.2.2 else s.rightsErr l
def allow(l:List Right)(c f:Int):Bool:=l.any fun r=>s.covers r.cls c&&decide (r.codes.toNat&&&f.toNat=0)
def mayAns(l:List Right)(c f:Int):Bool×Int:=
 if s.asked l≠0 then(false,s.asked l) else if inB c 0 (s.classes.length-1)=false then(false,4) else if inB f 0 (s.sets-1)=false then(false,7) else(s.allow l c f,0)
def allRights:List Right:=(List.range s.classes.length).flatMap fun c:Nat=>(List.range (2^s.codes.length)).map fun k:Nat=>⟨(c:Int),(k:Int)⟩
def weaker(a b:Right):Bool:=decide (a≠b)&&s.covers b.cls a.cls&&decide (b.codes.toNat&&&a.codes.toNat=b.codes.toNat)
def ordered(l:List Right):List Right:=s.allRights.filter fun r=>decide (r∈l)
def least(l:List Right):List Right:=(s.ordered l).filter fun x=>(s.ordered l).all fun r=> !s.weaker x r
def leastAns(l:List Right):List Right×Int:=if s.asked l≠0 then([],s.asked l) else(s.least l,0)
def coversAns(c:Int):List Int×Int:=
 if s.check.2.2≠0 then([],s.check.2.2) else if inB c 0 (s.classes.length-1)=false then([],4)
 else((List.range s.classes.length).filterMap fun k:Nat=>if s.covers c k=true then some (k:Int) else none,0)
structure Ok:Prop where
 n:1≤s.classes.length∧s.classes.length≤12
 c:s.codes.length≤8
 cls:∀i(hi:i<s.classes.length),s.clsErr i s.classes[i]=0
 code:∀i,i<s.codes.length→nameErr s.codes i=0
 loop:∀i,i<s.classes.length→∀k∈(s.at_ i).incl,s.covers k i=false
variable{s}
end Sys
theorem firstE_zero{α:Type}{l:List α}{f:Nat→α→Int}(h:(firstE l f).2=0):∀i(hi:i<l.length),f i l[i]=0:=by
 intro i hi;unfold firstE at h
 cases hf:l.zipIdx.find? fun p=>decide (f p.2 p.1≠0) with
 |none=>
  have:=List.find?_eq_none.1 hf (l[i],i) (by rw[List.mem_zipIdx_iff_getElem?];simp[hi])
  simpa using this
 |some p=>
  rw[hf] at h;have:=List.find?_some hf;simp only[decide_eq_true_eq] at this;exact absurd h this
theorem firstE_none{α:Type}{l:List α}{f:Nat→α→Int}(h:∀i(hi:i<l.length),f i l[i]=0):firstE l f=(0,0):=by
 unfold firstE
 cases hf:l.zipIdx.find? fun p=>decide (f p.2 p.1≠0) with
 |none=>rfl
 |some p=>
  exfalso;have h1:=List.find?_some hf;have h2:=List.mem_of_find?_eq_some hf;rw[List.mem_zipIdx_iff_getElem?] at h2;simp only[decide_eq_true_eq] at h1;obtain⟨hi,e⟩:=List.getElem?_eq_some_iff.1 h2;exact h1 (by rw[←e];exact h p.2 hi)
theorem firstE_at{α:Type}{l:List α}{f:Nat→α→Int}{k:Nat}(hk:k<l.length)(h:f k l[k]≠0)(hb:∀i(hi:i<k),f i (l[i]'(by omega))=0):firstE l f=((k:Int),f k l[k]):=by
 unfold firstE;have:l.zipIdx.find? (fun p=>decide (f p.2 p.1≠0))=some (l[k],k):=by
  rw[List.find?_eq_some_iff_getElem];refine⟨by simpa using h,k,by simpa using hk,by simp,fun j hj=> ?_⟩
  simp only[List.getElem_zipIdx,Nat.zero_add,decide_not,Bool.not_eq_true',decide_eq_false_iff_not,Classical.not_not];simpa using hb j hj
 rw[this]
namespace Sys
variable{s:Sys}
theorem ok_of(h:s.check.2.2=0):s.Ok:=by
 unfold check at h;by_cases c1:inB s.classes.length 1 12=false∨8<s.codes.length
 ·rw[if_pos c1] at h;simp at h
 ·rw[if_neg c1] at h;by_cases c2:(firstE s.classes s.clsErr).2≠0
  ·rw[if_pos c2] at h;exact absurd h c2
  ·rw[if_neg c2] at h;by_cases c3:(firstE s.codes fun i _=>nameErr s.codes i).2≠0
   ·rw[if_pos c3] at h;exact absurd h c3
   ·rw[if_neg c3] at h;rw[not_or] at c1;have hn:=inB_t.1 (by simpa using c1.1:inB s.classes.length 1 12=true)
    refine⟨by omega,by omega,fun i hi=>firstE_zero (by simpa using c2) i hi,fun i hi=>firstE_zero (by simpa using c3) i hi,fun i hi k hk=> ?_⟩
    cases hl:s.loopAt with
    |some j=>rw[hl] at h;simp at h
    |none=>
     unfold loopAt at hl;have:=List.find?_eq_none.1 hl i (List.mem_range.2 hi);simp only[List.any_eq_true,not_exists,not_and,Bool.not_eq_true] at this;exact this k hk
theorem at_eq{i:Nat}(hi:i<s.classes.length):s.at_ i=s.classes[i]:=by unfold at_;simp[List.getD,hi]
theorem clsErr_0{i:Nat}{c:Cls}(h:s.clsErr i c=0):isName c.name=true∧c.incl.length≤s.classes.length∧(∀n∈c.incl,inB n 0 (s.classes.length-1)=true)∧inB c.needs (-1) (s.classes.length-1)=true∧c.needs≠i∧inB c.age 0 100=true∧inB c.term 0 100=true:=by
 unfold clsErr at h;split at h;·simp at h
 split at h;·simp at h
 split at h;·simp at h
 split at h;·simp at h
 split at h;·simp at h
 split at h;·simp at h
 rename_i h1 h2 h3 h4 h5 h6;simp only[not_or,Bool.not_eq_false] at h4 h6;exact⟨by simpa using h1,by omega,List.all_eq_true.1 h4.1,h4.2,h5,h6.1,h6.2⟩
theorem Ok.incl(h:s.Ok):s.InclOk:=by
 intro x y hy;by_cases hx:x.toNat<s.classes.length
 ·have e:s.at_ x=s.classes[x.toNat]:=by unfold at_;simp[List.getD,hx]
  rw[e] at hy;have:=inB_t.1 ((clsErr_0 (h.cls _ hx)).2.2.1 y hy);omega
 ·have e:s.at_ x=⟨ByteArray.empty,[],0,0,0⟩:=by unfold at_;simp[List.getD,List.getElem?_eq_none (show s.classes.length≤x.toNat by omega)]
  rw[e] at hy;simp at hy
end Sys
end Go.Rg
end
section
namespace Go.Rg
open Go.Bp
structure Span where
 lo:Int
 hi:Int
 deriving DecidableEq
structure Treaty where
 name:ByteArray
 right:Right
 days:Span
structure Rules where
 sys:Sys
 treaties:List Treaty
 limit:Int
 fall:Int
 ban:Int
structure Event where
 kind:Int
 day:Int
 right:Right
 treaty:Int
 cls:Int
 points:Int
 until_:Int
 minute:Int
 deriving DecidableEq
structure Person where
 born:Int
 events:List Event
structure Drive where
 day:Int
 cls:Int
 features:Int
namespace Rules
variable(r:Rules)
def treatyErr(i:Nat)(t:Treaty):Int:=
 if isName t.name=false then 6
 else if((r.treaties.take i).any fun x=>decide (x.name=t.name))=true then 5
 else if r.sys.rightErr t.right≠0 then r.sys.rightErr t.right
 else if inB t.days.lo 0 40000=false∨inB t.days.hi 0 40000=false then 7
 else if t.days.hi<t.days.lo then 2 else 0
def check:Int×Int×Int:=
 if r.sys.check.2.2≠0 then(1,0,r.sys.check.2.2)
 else if 6<r.treaties.length then(2,0,3)
 else if(firstE r.treaties r.treatyErr).2≠0 then(2,(firstE r.treaties r.treatyErr).1,(firstE r.treaties r.treatyErr).2)
 else if inB r.limit 1 100=false∨inB r.fall 1 40000=false∨inB r.ban 1 40000=false then(3,0,7)
 else(0,0,0)
def had(x:Event):Event×Int:=
 if x.kind=0 then({x with right:=⟨0,0⟩,minute:=0},if r.sys.rightErr x.right≠0 then r.sys.rightErr x.right else if inB x.minute 0 1439=false then 7 else 0)
 else if x.kind=1 then({x with treaty:=0},if inB x.treaty 0 (r.treaties.length-1)=false then 4 else 0)
 else if x.kind=2 then({x with cls:=0},if inB x.cls 0 (r.sys.classes.length-1)=false then 4 else 0)
 else if x.kind=4 then({x with until_:=0},if inB x.until_ x.day 40000=false then 7 else 0)
 else({x with points:=0},if inB x.points 1 20=false then 7 else 0)
def bare(kind day:Int):Event:=⟨kind,day,⟨0,0⟩,0,0,0,0,0⟩
def eventErr(born:Int)(x:Event):Int:=
 if inB x.kind 0 4=false then 2
 else if inB x.day 0 40000=false then 7
 else if x.day<born then 2
 else if(r.had x).2≠0 then(r.had x).2
 else if(r.had x).1≠bare x.kind x.day then 2 else 0
def personErr(p:Person):Int:=
 if r.check.2.2≠0 then r.check.2.2
 else if inB p.born 0 40000=false then 7
 else if 30<p.events.length then 3
 else(firstE p.events fun _ x=>r.eventErr p.born x).2
end Rules
def fields(x:Event):List Int:=[x.day,x.kind,x.right.cls,x.right.codes,x.treaty,x.cls,x.points,x.until_,x.minute]
theorem fields_inj{x y:Event}(h:fields x=fields y):x=y:=by
 obtain⟨a,b,⟨c,d⟩,e,f,g,i,j⟩:=x;obtain⟨a',b',⟨c',d'⟩,e',f',g',i',j'⟩:=y;simp only[fields,List.cons.injEq,and_true] at h;obtain⟨rfl,rfl,rfl,rfl,rfl,rfl,rfl,rfl,rfl⟩:=h;rfl
def cmpL:List Int→List Int→Int
 | [],[]=>0
 | [],_::_=> -1
 |_::_,[]=>1
 |a::x,b::y=>if a<b then -1 else if b<a then 1 else cmpL x y
def ltE(a b:Event):Prop:=cmpL (fields a) (fields b)<0
instance(a b:Event):Decidable (ltE a b):=inferInstanceAs (Decidable (_<_))
theorem cmpL_refl:∀x,cmpL x x=0
 | []=>rfl
 |a::x=>by simp only[cmpL];rw[if_neg (by omega),if_neg (by omega)];exact cmpL_refl x
theorem cmpL_eq:∀{x y:List Int},cmpL x y=0→x=y
 | [],[],_=>rfl
 | [],_::_,h=>by simp[cmpL] at h
 |_::_,[],h=>by simp[cmpL] at h
 |a::x,b::y,h=>by
  simp only[cmpL] at h;split at h
  ·simp at h
  ·split at h
   ·simp at h
   ·have:=cmpL_eq h;rw[this,show a=b by omega]
theorem cmpL_neg:∀(x y:List Int),cmpL y x= -cmpL x y
 | [],[]=>rfl
 | [],_::_=>rfl
 |_::_,[]=>rfl
 |a::x,b::y=>by
  simp only[cmpL];rcases Int.lt_trichotomy a b with h|h|h
  ·rw[if_neg (by omega),if_pos h,if_pos h];rfl
  ·rw[if_neg (by omega),if_neg (by omega),if_neg (by omega),if_neg (by omega),cmpL_neg x y]
  ·rw[if_pos h,if_neg (by omega),if_pos h]
theorem cmpL_trans:∀{x y z:List Int},cmpL x y<0→cmpL y z<0→cmpL x z<0
 | [],[],_,h,_=>by simp[cmpL] at h
 |_::_,[],_,h,_=>by simp[cmpL] at h
 | [],_::_,[],_,h=>by simp[cmpL] at h
 | [],_::_,_::_,_,_=>by simp[cmpL]
 |_::_,_::_,[],_,h=>by simp[cmpL] at h
 |a::x,b::y,c::z,h,k=>by
  simp only[cmpL] at h k⊢;split at h
  ·split at k
   ·rw[if_pos (by omega)];omega
   ·split at k
    ·simp at k
    ·rw[if_pos (by omega)];omega
  ·split at h
   ·simp at h
   ·split at k
    ·rw[if_pos (by omega)];omega
    ·split at k
     ·simp at k
     ·rw[if_neg (by omega),if_neg (by omega)];exact cmpL_trans h k
theorem ltE_irrefl(a:Event):¬ltE a a:=by unfold ltE;rw[cmpL_refl];omega
theorem ltE_trans{a b c:Event}(h:ltE a b)(k:ltE b c):ltE a c:=cmpL_trans h k
theorem ltE_tri(a b:Event):ltE a b∨a=b∨ltE b a:=by
 unfold ltE;rw[cmpL_neg (fields a) (fields b)];rcases Int.lt_trichotomy (cmpL (fields a) (fields b)) 0 with h|h|h
 ·exact .inl h
 ·exact .inr (.inl (fields_inj (cmpL_eq h)))
 ·exact .inr (.inr (by omega))
theorem order_unique:∀{l m:List Event},l.Pairwise ltE→m.Pairwise ltE→(∀x,x∈l↔x∈m)→l=m
 | [],[],_,_,_=>rfl
 | [],b::m,_,_,h=>by have:=(h b).2 (by simp);simp at this
 |a::l,[],_,_,h=>by have:=(h a).1 (by simp);simp at this
 |a::l,b::m,hl,hm,h=>by
  rw[List.pairwise_cons] at hl hm;have e:a=b:=by
   rcases List.mem_cons.1 ((h a).1 (by simp)) with e|e
   ·exact e
   ·rcases List.mem_cons.1 ((h b).2 (by simp)) with e2|e2
    ·exact e2.symm
    ·exact absurd (ltE_trans (hl.1 b e2) (hm.1 a e)) (ltE_irrefl a)
  subst e;congr 1
  refine order_unique hl.2 hm.2 fun x=>⟨fun hx=> ?_,fun hx=> ?_⟩
  ·rcases List.mem_cons.1 ((h x).1 (List.mem_cons_of_mem _ hx)) with e|e
   ·subst e;exact absurd (hl.1 x hx) (ltE_irrefl x)
   ·exact e
  ·rcases List.mem_cons.1 ((h x).2 (List.mem_cons_of_mem _ hx)) with e|e
   ·subst e;exact absurd (hm.1 x hx) (ltE_irrefl x)
   ·exact e
def putE(x:Event):List Event→List Event
 | []=>[x]
 |a::l=>if ltE a x then a::putE x l else if a=x then a::l else x::a::l
def sortE(l:List Event):List Event:=l.foldl (fun o x=>putE x o) []
theorem putE_mem{x y:Event}:∀{l:List Event},y∈putE x l↔y=x∨y∈l
 | []=>by simp[putE]
 |a::l=>by
  unfold putE;split
  ·rw[List.mem_cons,putE_mem,List.mem_cons];constructor
   ·rintro(h|h|h)
    ·exact .inr (.inl h)
    ·exact .inl h
    ·exact .inr (.inr h)
   ·rintro(h|h|h)
    ·exact .inr (.inl h)
    ·exact .inl h
    ·exact .inr (.inr h)
  ·split
   ·rename_i e;subst e;constructor
    ·intro h;exact .inr h
    ·rintro(h|h)
     ·rw[h];simp
     ·exact h
   ·simp
theorem putE_sorted{x:Event}:∀{l:List Event},l.Pairwise ltE→(putE x l).Pairwise ltE
 | [],_=>by simp[putE]
 |a::l,h=>by
  rw[List.pairwise_cons] at h;unfold putE;split
  ·rename_i hax;rw[List.pairwise_cons];refine⟨fun y hy=> ?_,putE_sorted h.2⟩
   rcases putE_mem.1 hy with rfl|hy
   ·exact hax
   ·exact h.1 y hy
  ·split
   ·exact List.pairwise_cons.2 h
   ·rename_i hax hne;have hxa:ltE x a:=by
     rcases ltE_tri a x with e|e|e
     ·exact absurd e hax
     ·exact absurd e hne
     ·exact e
    rw[List.pairwise_cons];refine⟨fun y hy=> ?_,List.pairwise_cons.2 h⟩
    rcases List.mem_cons.1 hy with rfl|hy
    ·exact hxa
    ·exact ltE_trans hxa (h.1 y hy)
theorem sortE_go:∀(l o:List Event),o.Pairwise ltE→(l.foldl (fun o x=>putE x o) o).Pairwise ltE∧∀y,y∈l.foldl (fun o x=>putE x o) o↔y∈o∨y∈l
 | [],o,h=>⟨h,fun y=>by simp⟩
 |x::l,o,h=>by
  obtain⟨h1,h2⟩:=sortE_go l (putE x o) (putE_sorted h);refine⟨h1,fun y=> ?_⟩
  rw[List.foldl_cons,h2 y,putE_mem,List.mem_cons];constructor
  ·rintro((h|h)|h)
   ·exact .inr (.inl h)
   ·exact .inl h
   ·exact .inr (.inr h)
  ·rintro(h|h|h)
   ·exact .inl (.inr h)
   ·exact .inl (.inl h)
   ·exact .inr h
theorem sortE_sorted(l:List Event):(sortE l).Pairwise ltE:=(sortE_go l [] List.Pairwise.nil).1
theorem sortE_mem(l:List Event)(y:Event):y∈sortE l↔y∈l:=by have:=(sortE_go l [] List.Pairwise.nil).2 y;unfold sortE;rw[this];simp
theorem sortE_eq{l m:List Event}(h:m.Pairwise ltE)(hm:∀y,y∈m↔y∈l):m=sortE l:=order_unique h (sortE_sorted l) fun y=>by rw[hm,sortE_mem]
end Go.Rg
end
section
namespace Go.Rg
open Go.Bp
def sumL(l:List Int):Int:=l.foldl (· + ·) 0
def putI(x:Int):List Int→List Int
 | []=>[x]
 |a::l=>if a<x then a::putI x l else if a=x then a::l else x::a::l
def sortI(l:List Int):List Int:=l.foldl (fun o x=>putI x o) []
def isOff(x:Event):Bool:=decide (x.kind=3)
def offDays(l:List Event):List Int:=sortI ((l.filter isOff).map fun x=>x.day)
def ptsOn(l:List Event)(d:Int):Int:=sumL ((l.filter fun x=>isOff x&&decide (x.day=d)).map fun x=>x.points)
structure Off where
 live:List (Int×Int)
 taken:List (Int×Int)
 bans:List Span
namespace Rules
variable(r:Rules)
def liveAt(l:List Event)(o:Off)(day:Int):List (Int×Int):=(o.live++ [(day,ptsOn l day)]).filter fun p=>decide (day-p.1<r.fall)
def banOf(day:Int):List Span:=if day<40000 then [⟨day+1,min 40000 (day+r.ban)⟩] else []
def stepOff(l:List Event)(o:Off)(day:Int):Off:=
 if sumL ((r.liveAt l o day).map fun p=>p.2)<r.limit then⟨r.liveAt l o day,o.taken,o.bans⟩
 else⟨[],o.taken++(r.liveAt l o day).map (fun p=>(p.1,day)),o.bans++r.banOf day⟩
def offs(l:List Event):Off:=(offDays l).foldl (r.stepOff l) ⟨[],[],[]⟩
def counts(l:List Event)(out:List Int)(day:Int)(k:Nat):Bool:=
 isOff (l.getD k (bare 0 0))&&decide ((l.getD k (bare 0 0)).day≤day)&&decide (out.getD k 0<0)&&decide (day-(l.getD k (bare 0 0)).day<r.fall)
end Rules
def courts(l:List Event):List Span:=(l.filter fun x=>decide (x.kind=4)).map fun x=>⟨x.day,x.until_⟩
def hasDay(l:List Span)(d:Int):Bool:=l.any fun s=>inB d s.lo s.hi
def runsTo(all:List Span):Nat→List Span
 |0=>[]
 |d+1=>
  let o:=runsTo all d
  if hasDay all d=false then o
  else match o.getLast? with
   |some s=>if s.hi=(d:Int)-1 then o.dropLast++ [⟨s.lo,d⟩] else o++ [⟨d,d⟩]
   |none=>o++ [⟨d,d⟩]
def joinS:List Span→List Span→List Span
 |o,[]=>o
 |o,s::l=>match o.getLast? with
  |some t=>if s.lo≤t.hi+1 then joinS (o.dropLast++ [⟨t.lo,max t.hi s.hi⟩]) l else joinS (o++ [s]) l
  |none=>joinS (o++ [s]) l
structure Points where
 counts:Int
 fallen:Int
 taken:Int
 deriving DecidableEq
structure Grant where
 day:Int
 right:Right
 reason:Int
 end_:Int
 deriving DecidableEq
namespace Rules
variable(r:Rules)
def bannedBy(l:List Event)(d:Int):Int:=if hasDay (courts l) d=true then 1 else if hasDay (r.offs l).bans d=true then 2 else 0
def endOf(day cls:Int):Int:=
 let term:=(r.sys.at_ cls).term
 if term=0 then 40001 else if(plusAns day term 0).2=0 then(plusAns day term 0).1 else 40001
def rightOf(x:Event):Right:=if x.kind=1 then(r.treaties.getD x.treaty.toNat ⟨ByteArray.empty,⟨0,0⟩,⟨0,0⟩⟩).right else x.right
def daysOf(x:Event):Span:=(r.treaties.getD x.treaty.toNat ⟨ByteArray.empty,⟨0,0⟩,⟨0,0⟩⟩).days
def reasonOf(born:Int)(l:List Event)(earlier:List Grant)(x:Event)(y:Right):Int:=
 let c:=r.sys.at_ y.cls
 if r.bannedBy l x.day≠0 then 4
 else if x.kind=1∧inB x.day (r.daysOf x).lo (r.daysOf x).hi=false then 5
 else if(ageAns born x.day).1<c.age then 6
 else if 0≤c.needs∧(earlier.any fun g=>decide (g.day<x.day)&&decide (g.reason=0)&&decide (x.day<g.end_)&&r.sys.covers g.right.cls c.needs)=false then 7
 else 0
def renewed(l:List Event)(y:Right)(day:Int):List Event→Int→Int
 | [],e=>e
 |z::zs,e=>renewed l y day zs (if z.kind=2∧e<40001∧z.cls=y.cls∧day≤z.day∧z.day<e∧r.bannedBy l z.day=0 then r.endOf z.day z.cls else e)
def grantsTo(born:Int)(l:List Event):List Event→List Grant→List Grant
 | [],o=>o
 |x::xs,o=>
  if x.kind=0∨x.kind=1 then
   grantsTo born l xs (o++ [⟨x.day,r.rightOf x,r.reasonOf born l o x (r.rightOf x),r.renewed l (r.rightOf x) x.day l (r.endOf x.day (r.rightOf x).cls)⟩])
  else grantsTo born l xs o
def grants(born:Int)(l:List Event):List Grant:=r.grantsTo born l l []
end Rules
end Go.Rg
end
section
namespace Go.Rg
open Go.Bp
structure Runs(l:List Span)(S:Int→Prop):Prop where
 le:∀s∈l,s.lo≤s.hi
 gap:l.Pairwise fun a b=>a.hi+1<b.lo
 has:∀d,hasDay l d=true↔S d
theorem has_app(l m:List Span)(d:Int):hasDay (l++m) d=(hasDay l d||hasDay m d):=by unfold hasDay;rw[List.any_append]
theorem has_one(s:Span)(d:Int):hasDay [s] d=true↔s.lo≤d∧d≤s.hi:=by simp[hasDay,inB]
theorem has_mem{l:List Span}{d:Int}:hasDay l d=true↔∃s∈l,s.lo≤d∧d≤s.hi:=by
 unfold hasDay;rw[List.any_eq_true];constructor
 ·rintro⟨s,hs,h⟩;exact⟨s,hs,inB_t.1 h⟩
 ·rintro⟨s,hs,h⟩;exact⟨s,hs,inB_t.2 h⟩
theorem runs_unique:∀{l m:List Span}{S:Int→Prop},Runs l S→Runs m S→l=m
 | [],[],_,_,_=>rfl
 | [],t::m,S,h,k=>by
  have:=(h.has t.lo).2 ((k.has t.lo).1 (has_mem.2 ⟨t,by simp,Int.le_refl _,k.le t (by simp)⟩))
  simp[hasDay] at this
 |s::l,[],S,h,k=>by
  have:=(k.has s.lo).2 ((h.has s.lo).1 (has_mem.2 ⟨s,by simp,Int.le_refl _,h.le s (by simp)⟩))
  simp[hasDay] at this
 |s::l,t::m,S,h,k=>by
  have hg:=List.pairwise_cons.1 h.gap;have kg:=List.pairwise_cons.1 k.gap;have sl:=h.le s (by simp)
  have tl:=k.le t (by simp)
  have low:∀{s t:Span}{l m:List Span},Runs (s::l) S→Runs (t::m) S→t.lo≤s.lo:=by
   intro s t l m h k;have sl:=h.le s (by simp)
   have kg:=List.pairwise_cons.1 k.gap;obtain⟨x,hx,h1,h2⟩:=has_mem.1 ((k.has s.lo).2 ((h.has s.lo).1 (has_mem.2 ⟨s,by simp,Int.le_refl _,sl⟩)))
   rcases List.mem_cons.1 hx with rfl|hx
   ·exact h1
   ·have:=kg.1 x hx;have:=k.le t (by simp);omega
  have e1:s.lo=t.lo:=Int.le_antisymm (low k h) (low h k);have high:∀{s t:Span}{l m:List Span},Runs (s::l) S→Runs (t::m) S→s.lo=t.lo→t.hi≤s.hi:=by
   intro s t l m h k e;have sl:=h.le s (by simp)
   have hg:=List.pairwise_cons.1 h.gap;apply Int.not_lt.1;intro hlt;obtain⟨x,hx,h1,h2⟩:=has_mem.1 ((h.has (s.hi+1)).2 ((k.has (s.hi+1)).1 (has_mem.2 ⟨t,by simp,by omega,by omega⟩)))
   rcases List.mem_cons.1 hx with rfl|hx
   ·omega
   ·have:=hg.1 x hx;omega
  have e2:s.hi=t.hi:=Int.le_antisymm (high k h e1.symm) (high h k e1);have e3:s=t:=by cases s;cases t;simp_all
  subst e3;congr 1
  have cut:∀{l:List Span},Runs (s::l) S→Runs l fun d=>S d∧s.hi<d:=by
   intro l h;have hg:=List.pairwise_cons.1 h.gap;refine⟨fun x hx=>h.le x (List.mem_cons_of_mem _ hx),hg.2,fun d=> ?_⟩
   rw[←h.has d];constructor
   ·intro hd;obtain⟨x,hx,h1,h2⟩:=has_mem.1 hd;exact⟨has_mem.2 ⟨x,List.mem_cons_of_mem _ hx,h1,h2⟩,by have:=hg.1 x hx;omega⟩
   ·rintro⟨hd,hl⟩;obtain⟨x,hx,h1,h2⟩:=has_mem.1 hd;rcases List.mem_cons.1 hx with rfl|hx
    ·omega
    ·exact has_mem.2 ⟨x,hx,h1,h2⟩
  exact runs_unique (cut h) (cut k)
theorem runs_nil{S:Int→Prop}(h:∀d,¬S d):Runs [] S:=⟨by simp,List.Pairwise.nil,fun d=>by simp[hasDay,h d]⟩
theorem runs_snoc{l:List Span}{S T:Int→Prop}{s:Span}(h:Runs l S)(hs:s.lo≤s.hi)(hg:∀x∈l,x.hi+1<s.lo)(hT:∀d,T d↔S d∨s.lo≤d∧d≤s.hi):Runs (l++ [s]) T:=by
 refine⟨fun x hx=> ?_,?_,fun d=> ?_⟩
 ·rcases List.mem_append.1 hx with hx|hx
  ·exact h.le x hx
  ·rw[List.mem_singleton.1 hx];exact hs
 ·rw[List.pairwise_append];refine⟨h.gap,List.pairwise_singleton _ _,fun a ha b hb=> ?_⟩
  rw[List.mem_singleton.1 hb];exact hg a ha
 ·rw[has_app,Bool.or_eq_true,h.has,has_one,hT]
theorem runs_front{p:List Span}{t:Span}{S:Int→Prop}(h:Runs (p++ [t]) S):Runs p (fun d=>S d∧d<t.lo)∧t.lo≤t.hi∧(∀x∈p,x.hi+1<t.lo):=by
 have hp:=List.pairwise_append.1 h.gap;have ht:=h.le t (by simp)
 have hg:∀x∈p,x.hi+1<t.lo:=fun x hx=>hp.2.2 x hx t (by simp)
 refine⟨⟨fun x hx=>h.le x (by simp[hx]),hp.1,fun d=> ?_⟩,ht,hg⟩
 rw[←h.has d,has_app,Bool.or_eq_true,has_one];constructor
 ·intro hd;obtain⟨x,hx,h1,h2⟩:=has_mem.1 hd;exact⟨.inl hd,by have:=hg x hx;omega⟩
 ·rintro⟨hd|hd,hl⟩
  ·exact hd
  ·omega
theorem runs_grow{p:List Span}{t:Span}{S T:Int→Prop}{hi:Int}(h:Runs (p++ [t]) S)(hh:t.hi≤hi)(hT:∀d,T d↔S d∨t.lo≤d∧d≤hi):Runs (p++ [⟨t.lo,hi⟩]) T:=by
 obtain⟨h1,h2,h3⟩:=runs_front h;refine runs_snoc h1 (by simp only;omega) h3 fun d=> ?_
 rw[hT d];simp only;constructor
 ·rintro(hd|hd)
  ·by_cases hlt:d<t.lo
   ·exact .inl ⟨hd,hlt⟩
   ·right
    obtain⟨x,hx,a1,a2⟩:=has_mem.1 ((h.has d).2 hd);rcases List.mem_append.1 hx with hx|hx
    ·have:=h3 x hx;omega
    ·rw[List.mem_singleton.1 hx] at a2;omega
  ·exact .inr hd
 ·rintro(hd|hd)
  ·exact .inl hd.1
  ·exact .inr hd
theorem runsTo_runs(all:List Span):∀n:Nat,Runs (runsTo all n) (fun d=>hasDay all d=true∧0≤d∧d<n)∧∀s∈runsTo all n,s.hi<n
 |0=>⟨runs_nil fun d h=>by omega,by simp[runsTo]⟩
 |n+1=>by
  obtain⟨h,hl⟩:=runsTo_runs all n;unfold runsTo;simp only;by_cases hd:hasDay all n=false
  ·rw[if_pos hd];refine⟨⟨h.le,h.gap,fun d=> ?_⟩,fun s hs=>by have:=hl s hs;push_cast;omega⟩
   rw[h.has d];constructor
   ·rintro⟨a,b,c⟩;exact⟨a,b,by push_cast;omega⟩
   ·rintro⟨a,b,c⟩;refine⟨a,b,?_⟩;by_cases e:d=n
    ·subst e;rw[hd] at a;cases a
    ·push_cast at c;omega
  ·rw[if_neg hd];have hd2:hasDay all n=true:=by simpa using hd
   have hS:∀d,(hasDay all d=true∧0≤d∧d<((n+1:Nat):Int))↔(hasDay all d=true∧0≤d∧d<n)∨d=n:=by
    intro d;push_cast
    constructor
    ·rintro⟨a,b,c⟩;by_cases e:d=n
     ·exact .inr e
     ·exact .inl ⟨a,b,by omega⟩
    ·rintro(⟨a,b,c⟩|rfl)
     ·exact⟨a,b,by omega⟩
     ·exact⟨hd2,by omega,by omega⟩
   rcases List.eq_nil_or_concat (runsTo all n) with e|⟨p,t,e⟩
   ·rw[e];simp only[List.getLast?_nil,List.nil_append];rw[e] at h;refine⟨by have:=runs_snoc (s:=⟨n,n⟩) (T:=fun d=>hasDay all d=true∧0≤d∧d<((n+1:Nat):Int)) h (Int.le_refl _) (by simp) (fun d=>by rw[hS d];simp only;constructor<;>(rintro(x|x)<;>first|exact .inl x|(right;omega)));exact this,fun s hs=> ?_⟩
    rw[List.mem_singleton.1 hs];push_cast;omega
   ·rw[List.concat_eq_append] at e;rw[e] at h hl⊢;have ht:=hl t (by simp)
    simp only[List.getLast?_append,List.getLast?_singleton,Option.some_or,List.dropLast_concat];by_cases hc:t.hi=(n:Int)-1
    ·rw[if_pos hc];refine⟨runs_grow h (by omega) fun d=> ?_,fun s hs=> ?_⟩
     ·rw[hS d];constructor
      ·rintro(x|x)
       ·exact .inl x
       ·exact .inr (by have:=h.le t (by simp);omega)
      ·rintro(x|x)
       ·exact .inl x
       ·by_cases e:d=n
        ·exact .inr e
        ·exact .inl ((h.has d).1 (has_mem.2 ⟨t,by simp,x.1,by omega⟩))
     ·rcases List.mem_append.1 hs with hs|hs
      ·have:=hl s (by simp[hs]);push_cast;omega
      ·rw[List.mem_singleton.1 hs];push_cast;omega
    ·rw[if_neg hc];refine⟨runs_snoc (s:=⟨n,n⟩) h (Int.le_refl _) (fun x hx=> ?_) (fun d=>by rw[hS d];simp only;constructor<;>(rintro(x|x)<;>first|exact .inl x|(right;omega))),fun s hs=> ?_⟩
     ·rcases List.mem_append.1 hx with hx|hx
      ·have h3:=(runs_front h).2.2 x hx;have:=(runs_front h).2.1;simp only;omega
      ·rw[List.mem_singleton.1 hx];simp only;omega
     ·rcases List.mem_append.1 hs with hs|hs
      ·have:=hl s hs;push_cast;omega
      ·rw[List.mem_singleton.1 hs];push_cast;omega
theorem joinS_runs:∀(l o:List Span)(S:Int→Prop),Runs o S→(∀s∈l,s.lo≤s.hi)→(l.Pairwise fun a b=>a.lo≤b.lo)→(∀x∈o,∀s∈l,x.lo≤s.lo)→Runs (joinS o l) (fun d=>S d∨hasDay l d=true)
 | [],o,S,h,_,_,_=>⟨h.le,h.gap,fun d=>by simp only[joinS];rw[h.has d];simp[hasDay]⟩
 |s::l,o,S,h,hl,hp,ho=>by
  have hs:=hl s (by simp)
  rw[List.pairwise_cons] at hp;have hS:∀(T:Int→Prop),(∀d,T d↔S d∨s.lo≤d∧d≤s.hi)→∀m,Runs m (fun d=>T d∨hasDay l d=true)→Runs m (fun d=>S d∨hasDay (s::l) d=true):=by
   intro T hT m hm;refine⟨hm.le,hm.gap,fun d=> ?_⟩
   rw[hm.has d,hT d];have:hasDay (s::l) d=true↔(s.lo≤d∧d≤s.hi)∨hasDay l d=true:=by
    rw[show s::l=[s]++l from rfl,has_app,Bool.or_eq_true,has_one]
   rw[this];constructor
   ·rintro((a|a)|a)
    ·exact .inl a
    ·exact .inr (.inl a)
    ·exact .inr (.inr a)
   ·rintro(a|a|a)
    ·exact .inl (.inl a)
    ·exact .inl (.inr a)
    ·exact .inr a
  rcases List.eq_nil_or_concat o with e|⟨p,t,e⟩
  ·subst e;simp only[joinS,List.getLast?_nil,List.nil_append];have h2:=runs_snoc (T:=fun d=>S d∨s.lo≤d∧d≤s.hi) h hs (by simp) (fun d=>Iff.rfl)
   exact hS _ (fun d=>Iff.rfl) _ (joinS_runs l _ _ h2 (fun x hx=>hl x (by simp[hx])) hp.2 (fun x hx y hy=>by simp at hx;subst hx;exact hp.1 y hy))
  ·rw[List.concat_eq_append] at e;subst e;simp only[joinS,List.getLast?_append,List.getLast?_singleton,Option.some_or,List.dropLast_concat];obtain⟨_,f2,f3⟩:=runs_front h;have htl:=ho t (by simp) s (by simp)
   by_cases hc:s.lo≤t.hi+1
   ·rw[if_pos hc];have h2:=runs_grow (T:=fun d=>S d∨s.lo≤d∧d≤s.hi) (hi:=max t.hi s.hi) h (by omega) (fun d=>by
     constructor
     ·rintro(a|a)
      ·exact .inl a
      ·exact .inr (by omega)
     ·rintro(a|a)
      ·exact .inl a
      ·by_cases hd:s.lo≤d
       ·by_cases hd2:d≤s.hi
        ·exact .inr ⟨hd,hd2⟩
        ·exact .inl ((h.has d).1 (has_mem.2 ⟨t,by simp,a.1,by omega⟩))
       ·exact .inl ((h.has d).1 (has_mem.2 ⟨t,by simp,a.1,by omega⟩)))
    refine hS _ (fun d=>Iff.rfl) _ (joinS_runs l _ _ h2 (fun x hx=>hl x (by simp[hx])) hp.2 (fun x hx y hy=> ?_))
    rcases List.mem_append.1 hx with hx|hx
    ·exact ho x (by simp[hx]) y (by simp[hy])
    ·rw[List.mem_singleton.1 hx];exact ho t (by simp) y (by simp[hy])
   ·rw[if_neg hc];have h2:=runs_snoc (T:=fun d=>S d∨s.lo≤d∧d≤s.hi) h hs (fun x hx=>by
     rcases List.mem_append.1 hx with hx|hx
     ·have:=f3 x hx;omega
     ·rw[List.mem_singleton.1 hx];omega) (fun d=>Iff.rfl)
    refine hS _ (fun d=>Iff.rfl) _ (joinS_runs l _ _ h2 (fun x hx=>hl x (by simp[hx])) hp.2 (fun x hx y hy=> ?_))
    rcases List.mem_append.1 hx with hx|hx
    ·exact ho x hx y (by simp[hy])
    ·rw[List.mem_singleton.1 hx];exact hp.1 y hy
theorem bans_eq{all m:List Span}(hm:m.Pairwise fun a b=>a.lo≤b.lo)(hp:∀s,s∈m↔s∈all)(hb:∀s∈all,0≤s.lo∧s.lo≤s.hi∧s.hi≤40000):joinS [] m=runsTo all 40001:=by
 have h1:=joinS_runs m [] (fun _=>False) (runs_nil fun _ h=>h) (fun s hs=>(hb s ((hp s).1 hs)).2.1) hm (by simp)
 have h2:=(runsTo_runs all 40001).1;refine runs_unique h1 ⟨h2.le,h2.gap,fun d=> ?_⟩
 rw[h2.has d];constructor
 ·rintro⟨a,_,_⟩;obtain⟨x,hx,h⟩:=has_mem.1 a;exact .inr (has_mem.2 ⟨x,(hp x).2 hx,h⟩)
 ·rintro(a|a)
  ·exact a.elim
  ·obtain⟨x,hx,h⟩:=has_mem.1 a;have:=hb x ((hp x).1 hx);exact⟨has_mem.2 ⟨x,(hp x).1 hx,h⟩,by omega,by omega⟩
end Go.Rg
end
section
namespace Go.Rg
open Go.Bp
theorem putI_mem{x y:Int}:∀{l:List Int},y∈putI x l↔y=x∨y∈l
 | []=>by simp[putI]
 |a::l=>by
  unfold putI;split
  ·rw[List.mem_cons,putI_mem,List.mem_cons];constructor
   ·rintro(h|h|h)
    ·exact .inr (.inl h)
    ·exact .inl h
    ·exact .inr (.inr h)
   ·rintro(h|h|h)
    ·exact .inr (.inl h)
    ·exact .inl h
    ·exact .inr (.inr h)
  ·split
   ·rename_i e;subst e;constructor
    ·intro h;exact .inr h
    ·rintro(h|h)
     ·rw[h];simp
     ·exact h
   ·simp
theorem putI_sorted{x:Int}:∀{l:List Int},l.Pairwise (· < ·)→(putI x l).Pairwise (· < ·)
 | [],_=>by simp[putI]
 |a::l,h=>by
  rw[List.pairwise_cons] at h;unfold putI;split
  ·rename_i hax;rw[List.pairwise_cons];refine⟨fun y hy=> ?_,putI_sorted h.2⟩
   rcases putI_mem.1 hy with rfl|hy
   ·exact hax
   ·exact h.1 y hy
  ·split
   ·exact List.pairwise_cons.2 h
   ·rw[List.pairwise_cons];refine⟨fun y hy=> ?_,List.pairwise_cons.2 h⟩
    rcases List.mem_cons.1 hy with rfl|hy
    ·omega
    ·have:=h.1 y hy;omega
theorem sortI_go:∀(l o:List Int),o.Pairwise (· < ·)→(l.foldl (fun o x=>putI x o) o).Pairwise (· < ·)∧∀y,y∈l.foldl (fun o x=>putI x o) o↔y∈o∨y∈l
 | [],o,h=>⟨h,fun y=>by simp⟩
 |x::l,o,h=>by
  obtain⟨h1,h2⟩:=sortI_go l (putI x o) (putI_sorted h);refine⟨h1,fun y=> ?_⟩
  rw[List.foldl_cons,h2 y,putI_mem,List.mem_cons];constructor
  ·rintro((h|h)|h)
   ·exact .inr (.inl h)
   ·exact .inl h
   ·exact .inr (.inr h)
  ·rintro(h|h|h)
   ·exact .inl (.inr h)
   ·exact .inl (.inl h)
   ·exact .inr h
theorem sortI_sorted(l:List Int):(sortI l).Pairwise (· < ·):=(sortI_go l [] List.Pairwise.nil).1
theorem sortI_mem(l:List Int)(y:Int):y∈sortI l↔y∈l:=by have:=(sortI_go l [] List.Pairwise.nil).2 y;unfold sortI;rw[this];simp
theorem offDays_mem{l:List Event}{d:Int}:d∈offDays l↔∃x∈l,isOff x=true∧x.day=d:=by
 unfold offDays;rw[sortI_mem,List.mem_map];constructor
 ·rintro⟨x,hx,rfl⟩;obtain⟨h1,h2⟩:=List.mem_filter.1 hx;exact⟨x,h1,h2,rfl⟩
 ·rintro⟨x,h1,h2,rfl⟩;exact⟨x,List.mem_filter.2 ⟨h1,h2⟩,rfl⟩
theorem sumL_go:∀(l:List Int)(a:Int),l.foldl (· + ·) a=a+sumL l
 | [],a=>by simp[sumL]
 |x::l,a=>by unfold sumL;rw[List.foldl_cons,List.foldl_cons,sumL_go l,sumL_go l (0+x)];omega
theorem sumL_cons(x:Int)(l:List Int):sumL (x::l)=x+sumL l:=by show(x::l).foldl (· + ·) 0=_;rw[List.foldl_cons,sumL_go];omega
theorem sumL_nil:sumL []=0:=rfl
end Go.Rg
end
section
namespace Go.Rg
open Go.Bp
def whenIn(t:List (Int×Int))(d:Int):Option Int:=(t.find? fun p=>decide (p.1=d)).map fun p=>p.2
theorem whenIn_app{t u:List (Int×Int)}{d:Int}:whenIn (t++u) d=(whenIn t d).or (whenIn u d):=by
 unfold whenIn;rw[List.find?_append]
 cases t.find? fun p=>decide (p.1=d)<;>rfl
structure OffOk(r:Rules)(l:List Event)(ds:List Int)(o:Off):Prop where
 nodup:(o.live.map fun p=>p.1).Nodup
 live:∀p∈o.live,p.1∈ds∧p.2=ptsOn l p.1
 taken:∀q∈o.taken,q.1∈ds∧q.2∈ds
 apart:∀p∈o.live,∀q∈o.taken,p.1≠q.1
 each:∀d∈ds,(∃p∈o.live,p.1=d)∨(∃q∈o.taken,q.1=d)∨∃e∈ds,r.fall≤e-d
theorem offOk_nil(r:Rules)(l:List Event):OffOk r l [] ⟨[],[],[]⟩:=⟨by simp,by simp,by simp,by simp,by simp⟩
section
variable{r:Rules}{l:List Event}{ds rest:List Int}{D:Int}{o:Off}
theorem days_lt(h:offDays l=ds++D::rest):(∀d∈ds,d<D)∧∀d∈rest,D<d:=by
 have:=sortI_sorted ((l.filter isOff).map fun x=>x.day)
 unfold offDays at h;rw[h,List.pairwise_append,List.pairwise_cons] at this;exact⟨fun d hd=>this.2.2 d hd D (by simp),this.2.1.1⟩
theorem live_nodup(h:offDays l=ds++D::rest)(ok:OffOk r l ds o):((r.liveAt l o D).map fun p=>p.1).Nodup:=by
 have hlt:=(days_lt h).1;have h1:((o.live++ [(D,ptsOn l D)]).map fun p=>p.1).Nodup:=by
  rw[List.map_append,List.nodup_append];refine⟨ok.nodup,by simp,fun a ha b hb e=> ?_⟩
  obtain⟨p,hp,rfl⟩:=List.mem_map.1 ha;simp at hb;have:=hlt _ (ok.live p hp).1;omega
 exact h1.sublist (List.Sublist.map _ List.filter_sublist)
theorem live_mem{p:Int×Int}:p∈r.liveAt l o D↔(p∈o.live∨p=(D,ptsOn l D))∧D-p.1<r.fall:=by
 unfold Rules.liveAt;rw[List.mem_filter,List.mem_append,List.mem_singleton,decide_eq_true_eq]
theorem step_ok(h:offDays l=ds++D::rest)(hf:1≤r.fall)(ok:OffOk r l ds o):OffOk r l (ds++ [D]) (r.stepOff l o D):=by
 obtain⟨hlt,hgt⟩:=days_lt h;have hliv:∀p∈r.liveAt l o D,p.1∈ds++ [D]∧p.2=ptsOn l p.1:=fun p hp=>by
  rcases(live_mem.1 hp).1 with hp|hp
  ·exact⟨List.mem_append.2 (.inl (ok.live p hp).1),(ok.live p hp).2⟩
  ·rw[hp];exact⟨by simp,rfl⟩
 have hap:∀p∈r.liveAt l o D,∀q∈o.taken,p.1≠q.1:=fun p hp q hq e=>by
  rcases(live_mem.1 hp).1 with hp|hp
  ·exact ok.apart p hp q hq e
  ·have:=hlt _ (ok.taken q hq).1;rw[hp] at e;simp only at e;omega
 have hea:∀d∈ds++ [D],(∃p∈r.liveAt l o D,p.1=d)∨(∃q∈o.taken,q.1=d)∨∃e∈ds++ [D],r.fall≤e-d:=fun d hd=>by
  by_cases hfa:r.fall≤D-d
  ·exact .inr (.inr ⟨D,by simp,hfa⟩)
  ·rcases List.mem_append.1 hd with hd|hd
   ·rcases ok.each d hd with ⟨p,hp,e⟩|hq|⟨e,he,hfe⟩
    ·exact .inl ⟨p,live_mem.2 ⟨.inl hp,by omega⟩,e⟩
    ·exact .inr (.inl hq)
    ·exact .inr (.inr ⟨e,List.mem_append.2 (.inl he),hfe⟩)
   ·rw[List.mem_singleton.1 hd];exact .inl ⟨(D,ptsOn l D),live_mem.2 ⟨.inr rfl,by simp only;omega⟩,rfl⟩
 have htk:∀q∈o.taken,q.1∈ds++ [D]∧q.2∈ds++ [D]:=fun q hq=>⟨List.mem_append.2 (.inl (ok.taken q hq).1),List.mem_append.2 (.inl (ok.taken q hq).2)⟩
 unfold Rules.stepOff;split
 ·exact⟨live_nodup h ok,hliv,htk,hap,hea⟩
 ·refine⟨by simp,by simp,fun q hq=> ?_,by simp,fun d hd=> ?_⟩
  ·rcases List.mem_append.1 hq with hq|hq
   ·exact htk q hq
   ·obtain⟨p,hp,rfl⟩:=List.mem_map.1 hq;exact⟨(hliv p hp).1,by simp⟩
  ·rcases hea d hd with ⟨p,hp,e⟩|⟨q,hq,e⟩|hx
   ·exact .inr (.inl ⟨(p.1,D),List.mem_append.2 (.inr (List.mem_map.2 ⟨p,hp,rfl⟩)),e⟩)
   ·exact .inr (.inl ⟨q,List.mem_append.2 (.inl hq),e⟩)
   ·exact .inr (.inr hx)
end
end Go.Rg
end
section
namespace Go.Rg
open Go.Bp
def evAt(l:List Event)(k:Nat):Event:=l.getD k (Rules.bare 0 0)
end Go.Rg
end
