import Derived.Test.YtbfbepnkofampaaGreatDoorProg
import Derived.Test.YtbfbepnkofampaaGreatDoorXP06
set_option maxRecDepth 100000
set_option linter.all false
section
namespace Go.Rg
open Go.Bp
namespace Rules
variable(r:Rules)
def writeAns(p:Person):List UInt8×Int:=if r.personErr p≠0 then([],r.personErr p) else(r.textL p.born (sortE p.events),0)
variable{r}
theorem person_ok{p:Person}(h:r.personErr p=0):r.check.2.2=0∧(0≤p.born∧p.born≤40000)∧p.events.length≤30∧∀x∈p.events,r.eventErr p.born x=0:=by
 unfold personErr at h;split at h
 ·rename_i h1;exact absurd h h1
 rename_i h1;split at h;·simp at h
 rename_i h2;split at h;·simp at h
 rename_i h3;have:=inB_t.1 (show inB p.born 0 40000=true by simpa using h2)
 refine⟨by simpa using h1,this,by omega,fun x hx=> ?_⟩
 obtain⟨i,hi,e⟩:=List.mem_iff_getElem.1 hx;rw[←e];exact dH h i hi
theorem putE_len(x:Event):∀l:List Event,(putE x l).length≤l.length+1
 | []=>by simp[putE]
 |a::l=>by
  unfold putE;split
  ·have:=putE_len x l;simp only[List.length_cons];omega
  ·split<;>simp
theorem sortE_len(l:List Event):(sortE l).length≤l.length:=by
 have key:∀(l o:List Event),(l.foldl (fun o x=>putE x o) o).length≤o.length+l.length:=by
  intro l;induction l with
  |nil=>intro o;simp
  |cons x l ih=>intro o;rw[List.foldl_cons];have:=ih (putE x o);have:=putE_len x o;simp only[List.length_cons];omega
 have:=key l [];unfold sortE;simpa using this
end Rules
end Go.Rg
end
section
namespace Go.Rg
open Go.Bp
namespace Rules
variable(r:Rules)
def sortedAns(p:Person):Int×List Event×Int:=if r.personErr p≠0 then(0,[],r.personErr p) else(p.born,sortE p.events,0)
def bansOf(l:List Event):List Span:=courts l++(r.offs l).bans
def bansAns(p:Person):List Span×Int:=if r.personErr p≠0 then([],r.personErr p) else(runsTo (r.bansOf (sortE p.events)) 40001,0)
def stands(o:Off)(day:Int)(x:Event):Nat:=
 if isOff x=false∨day<x.day then 0
 else if((whenIn o.taken x.day).any fun w=>decide (w≤day))=true then 1
 else if r.fall≤day-x.day then 2 else 3
def sumOf(o:Off)(day:Int)(l:List Event)(n:Nat):Int:=sumL ((l.filter fun x=>decide (r.stands o day x=n)).map fun x=>x.points)
def pointsOf(l:List Event)(day:Int):Points:=⟨r.sumOf (r.offs l) day l 3,r.sumOf (r.offs l) day l 2,r.sumOf (r.offs l) day l 1⟩
def pointsAns(p:Person)(day:Int):Points×Int:=
 if r.personErr p≠0 then(⟨0,0,0⟩,r.personErr p) else if inB day 0 40000=false then(⟨0,0,0⟩,7) else(r.pointsOf (sortE p.events) day,0)
def holds(day:Int)(g:Grant):Bool:=decide (g.day≤day)&&decide (g.reason=0)&&decide (day<g.end_)
def heldL(g:List Grant)(day:Int):List Right:=(g.filter (holds day)).map fun g=>g.right
def heldAns(p:Person)(day:Int):List Right×Int:=
 if r.personErr p≠0 then([],r.personErr p) else if inB day 0 40000=false then([],7) else if day<p.born then([],2)
 else if r.bannedBy (sortE p.events) day≠0 then([],0) else(r.sys.least (heldL (r.grants p.born (sortE p.events)) day),0)
def driveErr(p:Person)(d:Drive):Int:=
 if inB d.day 0 40000=false then 7 else if d.day<p.born then 2 else if inB d.cls 0 (r.sys.classes.length-1)=false then 4 else if inB d.features 0 (r.sys.sets-1)=false then 7 else 0
def against(d:Drive)(g:Grant):Int:=if g.reason≠0 then g.reason else if g.end_≤d.day then 8 else 0
def whyG(g:List Grant)(d:Drive):Int:=
 let n:=(g.filter fun g=>decide (g.day≤d.day)&&r.sys.allow [g.right] d.cls d.features).map (against d)
 if 0∈n then 0 else n.foldl max 3
def whyL(born:Int)(l:List Event)(d:Drive):Int:=if r.bannedBy l d.day≠0 then r.bannedBy l d.day else r.whyG (r.grants born l) d
def whyAns(p:Person)(d:Drive):Int×Int:=
 if r.personErr p≠0 then(0,r.personErr p) else if r.driveErr p d≠0 then(0,r.driveErr p d) else(r.whyL p.born (sortE p.events) d,0)
def wrongL(p:Person)(ds:List Drive):List (Int×Int):=(ds.zipIdx.filter fun q=>decide (r.whyL p.born (sortE p.events) q.1≠0)).map fun q=>((q.2:Int),r.whyL p.born (sortE p.events) q.1)
def wrongAns(p:Person)(ds:List Drive):List (Int×Int)×Int:=
 if r.personErr p≠0 then([],r.personErr p) else if 30<ds.length then([],3)
 else if(firstE ds fun _ d=>r.driveErr p d).2≠0 then([],(firstE ds fun _ d=>r.driveErr p d).2) else(r.wrongL p ds,0)
def twoPass(x y:Event):Bool:=decide (x.kind=0)&&decide (y.kind=0)&&decide (x.day=y.day)&&decide (x.minute-y.minute<60)&&decide (y.minute-x.minute<60)
def pairsL(l:List Event):List (Nat×Nat):=(List.range l.length).flatMap fun a=>((List.range l.length).filter fun b=>decide (a<b)&&twoPass (evAt l a) (evAt l b)).map fun b=>(a,b)
def impostorsAns(p:Person):List (Nat×Nat)×Int:=if r.personErr p≠0 then([],r.personErr p) else(pairsL (sortE p.events),0)
variable{r}
theorem iY{α:Type}{f:Grant→α}(p:Grant→Bool)(hf:∀g,f (normG g)=f g)(hp:∀g,p (normG g)=p g):∀l:List Grant,((l.map normG).filter p).map f=(l.filter p).map f
 | []=>rfl
 |g::l=>by
  rw[List.map_cons,List.filter_cons,List.filter_cons,hp g];split
  ·rw[List.map_cons,List.map_cons,hf g,iY p hf hp l]
  ·exact iY p hf hp l
theorem norm_right(g:Grant):(normG g).right=g.right:=by unfold normG;split<;>rfl
theorem wR(g:Grant):(normG g).day=g.day:=by unfold normG;split<;>rfl
theorem norm_reason(g:Grant):(normG g).reason=g.reason:=by unfold normG;split<;>rfl
theorem nZ{l:List Event}:(sortE l).Pairwise fun a b=>a.day≤b.day:=by
 refine(lT l).imp fun{a b}h=> ?_
 unfold ltE fields at h;rw[cmpL] at h;split at h
 ·omega
 ·split at h
  ·simp at h
  ·omega
theorem event_days{p:Person}(h:r.personErr p=0):∀x∈sortE p.events,0≤x.day∧x.day≤40000:=fun x hx=>by
 obtain⟨_,_,_,he⟩:=person_ok h;have:=(bI (he x ((cZ _ _).1 hx))).1;omega
theorem term_ok(ho:r.Ok)(c:Int):0≤(r.sys.at_ c).term∧(r.sys.at_ c).term≤100:=by
 by_cases hc:c.toNat<r.sys.classes.length
 ·have e:r.sys.at_ c=r.sys.classes[c.toNat]:=by unfold Sys.at_;simp[List.getD,hc]
  rw[e];exact inB_t.1 (Sys.clsErr_0 (ho.sys.cls _ hc)).2.2.2.2.2.2
 ·have e:r.sys.at_ c=⟨ByteArray.empty,[],0,0,0⟩:=by unfold Sys.at_;simp[List.getD,List.getElem?_eq_none (show r.sys.classes.length≤c.toNat by omega)]
  rw[e];simp
theorem grants_both{p:Person}(h:r.personErr p=0):(r.grants p.born (sortE p.events)).map normG=(r.grantsR p.born (sortE p.events) (sortE p.events) []).map normG:=
 kE nZ (event_days h) (term_ok (ok_of (person_ok h).1)) _ [] [] (event_days h) rfl
theorem taken_both{p:Person}(h:r.personErr p=0):(r.takenR (sortE p.events)).2=(r.offs (sortE p.events)).bans∧(r.takenR (sortE p.events)).1.length=(sortE p.events).length∧
 ∀k,k<(sortE p.events).length→(r.takenR (sortE p.events)).1.getD k 0=outOf (r.offs (sortE p.events)) (evAt (sortE p.events) k):=
 Hj nZ (fun x hx=>(event_days h x hx).1) (ok_of (person_ok h).1).fall.1
end Rules
end Go.Rg
end
section
namespace Go.Rg
open Go Go.Bp Go.RowKit Go.Walk
structure ClsA where
 c:Cls
 a:Option Addr
 k:Nat
instance:Enc Right:=⟨2,fun x=>[.int .i64 x.cls,.int .i64 x.codes],fun x=>.agg #[.int .i64 x.cls,.int .i64 x.codes],fun _=>rfl,by simp[Value.oneCell']⟩
instance:Enc Span:=⟨2,fun x=>[.int .i64 x.lo,.int .i64 x.hi],fun x=>.agg #[.int .i64 x.lo,.int .i64 x.hi],fun _=>rfl,by simp[Value.oneCell']⟩
instance:Enc (Int×Int):=⟨2,fun x=>[.int .i64 x.1,.int .i64 x.2],fun x=>.agg #[.int .i64 x.1,.int .i64 x.2],fun _=>rfl,by simp[Value.oneCell']⟩
instance:Enc Drive:=⟨3,fun x=>[.int .i64 x.day,.int .i64 x.cls,.int .i64 x.features],fun x=>.agg #[.int .i64 x.day,.int .i64 x.cls,.int .i64 x.features],fun _=>rfl,by simp[Value.oneCell']⟩
instance:Enc Treaty:=⟨5,fun x=>[.string x.name,.int .i64 x.right.cls,.int .i64 x.right.codes,.int .i64 x.days.lo,.int .i64 x.days.hi],fun x=>.agg #[.string x.name,.int .i64 x.right.cls,.int .i64 x.right.codes,.int .i64 x.days.lo,.int .i64 x.days.hi],fun _=>rfl,by simp[Value.oneCell']⟩
instance:Enc Grant:=⟨5,fun x=>[.int .i64 x.day,.int .i64 x.right.cls,.int .i64 x.right.codes,.int .i64 x.reason,.int .i64 x.end_],fun x=>.agg #[.int .i64 x.day,.int .i64 x.right.cls,.int .i64 x.right.codes,.int .i64 x.reason,.int .i64 x.end_],fun _=>rfl,by simp[Value.oneCell']⟩
instance:Enc Event:=⟨9,fun x=>[.int .i64 x.kind,.int .i64 x.day,.int .i64 x.right.cls,.int .i64 x.right.codes,.int .i64 x.treaty,.int .i64 x.cls,.int .i64 x.points,.int .i64 x.until_,.int .i64 x.minute],fun x=>.agg #[.int .i64 x.kind,.int .i64 x.day,.int .i64 x.right.cls,.int .i64 x.right.codes,.int .i64 x.treaty,.int .i64 x.cls,.int .i64 x.points,.int .i64 x.until_,.int .i64 x.minute],fun _=>rfl,by simp[Value.oneCell']⟩
instance:Enc ClsA:=⟨5,fun x=>[.string x.c.name,.slice x.a x.c.incl.length x.k,.int .i64 x.c.needs,.int .i64 x.c.age,.int .i64 x.c.term],fun x=>.agg #[.string x.c.name,.slice x.a x.c.incl.length x.k,.int .i64 x.c.needs,.int .i64 x.c.age,.int .i64 x.c.term],fun _=>rfl,by simp[Value.oneCell']⟩
structure ClsV(W:World)(v:Value)(l:List Cls):Prop where
 h:∃m:List ClsA,m.map (·.c)=l∧ListV W v m∧∀x∈m,ListV W (.slice x.a x.c.incl.length x.k) x.c.incl
theorem ClsV.ext{a b:World}{v:Value}{l:List Cls}(h:ClsV a v l)(e:Ext a b):ClsV b v l:=by
 obtain⟨m,h1,h2,h3⟩:=h.h;exact⟨m,h1,h2.ext e,fun x hx=>(h3 x hx).ext e⟩
structure Wf(s:Sys):Prop where
 cls:∀c∈s.classes,c.name.size≤maxLen
 code:∀n∈s.codes,n.size≤maxLen
structure SysV(W:World)(v:Value)(s:Sys):Prop where
 h:∃A n c A' c',v=.agg #[.slice A n c,.slice A' s.codes.length c']∧n=s.classes.length∧ClsV W (.slice A n c) s.classes∧ListV W (.slice A' s.codes.length c') s.codes
 wf:Wf s
structure RulesV(W:World)(v:Value)(r:Rules):Prop where
 h:∃A n c A' c' A2 c2,v=.agg #[.slice A n c,.slice A' r.sys.codes.length c',.slice A2 r.treaties.length c2,.int .i64 r.limit,.int .i64 r.fall,.int .i64 r.ban]∧n=r.sys.classes.length∧ClsV W (.slice A n c) r.sys.classes∧ListV W (.slice A' r.sys.codes.length c') r.sys.codes∧ListV W (.slice A2 r.treaties.length c2) r.treaties
 wf:Wf r.sys∧∀t∈r.treaties,t.name.size≤maxLen
structure PersonV(W:World)(v:Value)(p:Person):Prop where
 h:∃A c,v=.agg #[.int .i64 p.born,.slice A p.events.length c]∧ListV W (.slice A p.events.length c) p.events
section
variable{a b W:World}{v:Value}{s:Sys}{r:Rules}{p:Person}{l:List Cls}
theorem SysV.ext(h:SysV a v s)(e:Ext a b):SysV b v s:=by
 obtain⟨A,n,c,A',c',h1,h2,h3,h4⟩:=h.h;exact⟨⟨A,n,c,A',c',h1,h2,h3.ext e,h4.ext e⟩,h.wf⟩
theorem RulesV.ext(h:RulesV a v r)(e:Ext a b):RulesV b v r:=by
 obtain⟨A,n,c,A',c',A2,c2,h1,h2,h3,h4,h5⟩:=h.h;exact⟨⟨A,n,c,A',c',A2,c2,h1,h2,h3.ext e,h4.ext e,h5.ext e⟩,h.wf⟩
theorem PersonV.ext(h:PersonV a v p)(e:Ext a b):PersonV b v p:=by
 obtain⟨A,c,h1,h2⟩:=h.h;exact⟨A,c,h1,h2.ext e⟩
theorem RulesV.sys{A A' A2:Option Addr}{n n' n2 c c' c2:Nat}{x y z:Int}(h:RulesV W (.agg #[.slice A n c,.slice A' n' c',.slice A2 n2 c2,.int .i64 x,.int .i64 y,.int .i64 z]) r):SysV W (.agg #[.slice A n c,.slice A' n' c']) r.sys:=by
 obtain⟨B,m,k,B',k',B2,k2,h1,h2,h3,h4,h5⟩:=h.h;simp only[Value.agg.injEq,Array.mk.injEq,List.cons.injEq,Value.slice.injEq] at h1;obtain⟨⟨rfl,rfl,rfl⟩,⟨rfl,rfl,rfl⟩,_⟩:=h1;exact⟨⟨_,_,_,_,_,rfl,h2,h3,h4⟩,h.wf.1⟩
class ClsB (w:outParam World) (v:Value) (l:outParam (List Cls)):Prop where h:ClsV w v l
class ClsC (W:World) (v:Value) (l:outParam (List Cls)):Prop where h:ClsV W v l
class SysB (w:outParam World) (v:Value) (s:outParam Sys):Prop where h:SysV w v s
class SysC (W:World) (v:Value) (s:outParam Sys):Prop where h:SysV W v s
class RulesB (w:outParam World) (v:Value) (r:outParam Rules):Prop where h:RulesV w v r
class RulesC (W:World) (v:Value) (r:outParam Rules):Prop where h:RulesV W v r
class PersonB (w:outParam World) (v:Value) (p:outParam Person):Prop where h:PersonV w v p
class PersonC (W:World) (v:Value) (p:outParam Person):Prop where h:PersonV W v p
instance[p:ClsB a v l][q:ExtC a W]:ClsC W v l:=⟨p.h.ext q.h⟩
instance[p:SysB a v s][q:ExtC a W]:SysC W v s:=⟨p.h.ext q.h⟩
instance[p:RulesB a v r][q:ExtC a W]:RulesC W v r:=⟨p.h.ext q.h⟩
instance[i:PersonB a v p][q:ExtC a W]:PersonC W v p:=⟨i.h.ext q.h⟩
end
end Go.Rg
end
section
namespace Go.Walk
open Go Go.Bp Go.RowKit Go.Proofs
instance:ScalT Tryz.prog 3:=⟨_,Tryz.underlying3,rfl⟩
instance:ScalT Tryz.prog 4:=⟨_,Tryz.underlying4,rfl⟩
instance:ScalT Tryz.prog 9:=⟨_,Tryz.underlying9,rfl⟩
instance:ScalT Tryz.prog 22:=⟨_,Tryz.underlying22,rfl⟩
instance:SlT Tryz.prog 22 106:=⟨Tryz.underlying22⟩
instance:ScalT Tryz.prog 23:=⟨_,Tryz.underlying23,rfl⟩
instance:SlT Tryz.prog 23 9:=⟨Tryz.underlying23⟩
instance:StrucT Tryz.prog 25 2:=⟨⟨_,Tryz.underlying25⟩,by kernel_rfl⟩
instance:ScalT Tryz.prog 26:=⟨_,Tryz.underlying26,rfl⟩
instance:SlT Tryz.prog 26 101:=⟨Tryz.underlying26⟩
instance:StrucT Tryz.prog 28 6:=⟨⟨_,Tryz.underlying28⟩,by kernel_rfl⟩
instance:ScalT Tryz.prog 29:=⟨_,Tryz.underlying29,rfl⟩
instance:SlT Tryz.prog 29 80:=⟨Tryz.underlying29⟩
instance:StrucT Tryz.prog 31 2:=⟨⟨_,Tryz.underlying31⟩,by kernel_rfl⟩
instance:ScalT Tryz.prog 32:=⟨_,Tryz.underlying32,rfl⟩
instance:ScalT Tryz.prog 40:=⟨_,Tryz.underlying40,rfl⟩
instance:SlT Tryz.prog 40 95:=⟨Tryz.underlying40⟩
instance:StrucT Tryz.prog 45 3:=⟨⟨_,Tryz.underlying45⟩,by kernel_rfl⟩
instance:ScalT Tryz.prog 48:=⟨_,Tryz.underlying48,rfl⟩
instance:SlT Tryz.prog 48 74:=⟨Tryz.underlying48⟩
instance:SlT Tryz.prog 53 57:=⟨Tryz.underlying53⟩
instance:StrucT Tryz.prog 57 3:=⟨⟨_,Tryz.underlying57⟩,by kernel_rfl⟩
instance:SlT Tryz.prog 58 97:=⟨Tryz.underlying58⟩
instance:ScalT Tryz.prog 62:=⟨_,Tryz.underlying62,rfl⟩
instance:SlT Tryz.prog 62 124:=⟨Tryz.underlying62⟩
instance:StrucT Tryz.prog 74 2:=⟨⟨_,Tryz.underlying74⟩,by kernel_rfl⟩
instance:SlT Tryz.prog 75 48:=⟨Tryz.underlying75⟩
instance:ScalT Tryz.prog 76:=⟨_,Tryz.underlying76,rfl⟩
instance:SlT Tryz.prog 76 3:=⟨Tryz.underlying76⟩
instance:StrucT Tryz.prog 80 9:=⟨⟨_,Tryz.underlying80⟩,by kernel_rfl⟩
instance:StrucT Tryz.prog 95 2:=⟨⟨_,Tryz.underlying95⟩,by kernel_rfl⟩
instance:StrucT Tryz.prog 97 2:=⟨⟨_,Tryz.underlying97⟩,by kernel_rfl⟩
instance:StrucT Tryz.prog 101 5:=⟨⟨_,Tryz.underlying101⟩,by kernel_rfl⟩
instance:StrucT Tryz.prog 106 5:=⟨⟨_,Tryz.underlying106⟩,by kernel_rfl⟩
instance:StrucT Tryz.prog 108 6:=⟨⟨_,Tryz.underlying108⟩,by kernel_rfl⟩
instance:ScalT Tryz.prog 115:=⟨_,Tryz.underlying115,rfl⟩
instance:ScalT Tryz.prog 118:=⟨_,Tryz.underlying118,rfl⟩
instance:ScalT Tryz.prog 119:=⟨_,Tryz.underlying119,rfl⟩
instance:SlT Tryz.prog 119 137:=⟨Tryz.underlying119⟩
instance:StrucT Tryz.prog 124 2:=⟨⟨_,Tryz.underlying124⟩,by kernel_rfl⟩
instance:StrucT Tryz.prog 137 5:=⟨⟨_,Tryz.underlying137⟩,by kernel_rfl⟩
instance:SlT Tryz.prog 140 143:=⟨Tryz.underlying140⟩
instance:StrucT Tryz.prog 143 5:=⟨⟨_,Tryz.underlying143⟩,by kernel_rfl⟩
instance:ScalT Tryz.prog 172:=⟨_,Tryz.underlying172,rfl⟩
instance:ScalT Tryz.prog 175:=⟨_,Tryz.underlying175,rfl⟩
instance:SlT Tryz.prog 175 181:=⟨Tryz.underlying175⟩
instance:ScalT Tryz.prog 181:=⟨_,Tryz.underlying181,rfl⟩
instance:SlT Tryz.prog 181 4:=⟨Tryz.underlying181⟩
instance:StrucT Tryz.prog 184 3:=⟨⟨_,Tryz.underlying184⟩,by kernel_rfl⟩
instance:ScalT Tryz.prog 239:=⟨_,Tryz.underlying239,rfl⟩
instance:ScalT Tryz.prog 260:=⟨_,Tryz.underlying260,rfl⟩
instance:ScalT Tryz.prog 285:=⟨_,Tryz.underlying285,rfl⟩
instance:ZeroT Tryz.prog 3 [.int .i64 0]:=⟨.int .i64 0,8,by kernel_rfl,by simp[Value.cells],by decide⟩
instance:ZeroT Tryz.prog 4 [.bool false]:=⟨.bool false,1,by kernel_rfl,by simp[Value.cells],by decide⟩
instance:ZeroT Tryz.prog 9 [.string ByteArray.empty]:=⟨.string ByteArray.empty,16,by kernel_rfl,by simp[Value.cells],by decide⟩
instance:ZeroT Tryz.prog 28 [.slice none 0 0,.slice none 0 0,.slice none 0 0,.int .i64 0,.int .i64 0,.int .i64 0]:=⟨.agg #[.slice none 0 0,.slice none 0 0,.slice none 0 0,.int .i64 0,.int .i64 0,.int .i64 0],96,by kernel_rfl,by simp[Value.cells],by decide⟩
instance:ZeroT Tryz.prog 29 [.slice none 0 0]:=⟨.slice none 0 0,24,by kernel_rfl,by simp[Value.cells],by decide⟩
instance:ZeroT Tryz.prog 31 [.int .i64 0,.slice none 0 0]:=⟨.agg #[.int .i64 0,.slice none 0 0],32,by kernel_rfl,by simp[Value.cells],by decide⟩
instance:ZeroT Tryz.prog 32 [.int .i64 0]:=⟨.int .i64 0,8,by kernel_rfl,by simp[Value.cells],by decide⟩
instance:ZeroT Tryz.prog 40 [.slice none 0 0]:=⟨.slice none 0 0,24,by kernel_rfl,by simp[Value.cells],by decide⟩
instance:ZeroT Tryz.prog 45 [.int .i64 0,.int .i64 0,.int .i64 0]:=⟨.agg #[.int .i64 0,.int .i64 0,.int .i64 0],24,by kernel_rfl,by simp[Value.cells],by decide⟩
instance:ZeroT Tryz.prog 48 [.slice none 0 0]:=⟨.slice none 0 0,24,by kernel_rfl,by simp[Value.cells],by decide⟩
instance:ZeroT Tryz.prog 57 [.int .i64 0,.int .i64 0,.int .i64 0]:=⟨.agg #[.int .i64 0,.int .i64 0,.int .i64 0],24,by kernel_rfl,by simp[Value.cells],by decide⟩
instance:ZeroT Tryz.prog 62 [.slice none 0 0]:=⟨.slice none 0 0,24,by kernel_rfl,by simp[Value.cells],by decide⟩
instance:ZeroT Tryz.prog 74 [.int .i64 0,.int .i64 0]:=⟨.agg #[.int .i64 0,.int .i64 0],16,by kernel_rfl,by simp[Value.cells],by decide⟩
instance:ZeroT Tryz.prog 80 [.int .i64 0,.int .i64 0,.int .i64 0,.int .i64 0,.int .i64 0,.int .i64 0,.int .i64 0,.int .i64 0,.int .i64 0]:=⟨.agg #[.int .i64 0,.int .i64 0,.int .i64 0,.int .i64 0,.int .i64 0,.int .i64 0,.int .i64 0,.int .i64 0,.int .i64 0],72,by kernel_rfl,by simp[Value.cells],by decide⟩
instance:ZeroT Tryz.prog 95 [.int .i64 0,.int .i64 0]:=⟨.agg #[.int .i64 0,.int .i64 0],16,by kernel_rfl,by simp[Value.cells],by decide⟩
instance:ZeroT Tryz.prog 97 [.int .i64 0,.int .i64 0]:=⟨.agg #[.int .i64 0,.int .i64 0],16,by kernel_rfl,by simp[Value.cells],by decide⟩
instance:ZeroT Tryz.prog 101 [.string ByteArray.empty,.int .i64 0,.int .i64 0,.int .i64 0,.int .i64 0]:=⟨.agg #[.string ByteArray.empty,.int .i64 0,.int .i64 0,.int .i64 0,.int .i64 0],48,by kernel_rfl,by simp[Value.cells],by decide⟩
instance:ZeroT Tryz.prog 106 [.string ByteArray.empty,.slice none 0 0,.int .i64 0,.int .i64 0,.int .i64 0]:=⟨.agg #[.string ByteArray.empty,.slice none 0 0,.int .i64 0,.int .i64 0,.int .i64 0],64,by kernel_rfl,by simp[Value.cells],by decide⟩
instance:ZeroT Tryz.prog 108 [.slice none 0 0,.slice none 0 0,.slice none 0 0,.int .i64 0,.int .i64 0,.int .i64 0]:=⟨.agg #[.slice none 0 0,.slice none 0 0,.slice none 0 0,.int .i64 0,.int .i64 0,.int .i64 0],96,by kernel_rfl,by simp[Value.cells],by decide⟩
instance:ZeroT Tryz.prog 115 [.pointer none]:=⟨.pointer none,8,by kernel_rfl,by simp[Value.cells],by decide⟩
instance:ZeroT Tryz.prog 118 [.map none]:=⟨.map none,8,by kernel_rfl,by simp[Value.cells],by decide⟩
instance:ZeroT Tryz.prog 119 [.slice none 0 0]:=⟨.slice none 0 0,24,by kernel_rfl,by simp[Value.cells],by decide⟩
instance:ZeroT Tryz.prog 124 [.int .i64 0,.int .i64 0]:=⟨.agg #[.int .i64 0,.int .i64 0],16,by kernel_rfl,by simp[Value.cells],by decide⟩
instance:ZeroT Tryz.prog 137 [.int .i64 0,.int .i64 0,.int .i64 0,.int .i64 0,.int .i64 0]:=⟨.agg #[.int .i64 0,.int .i64 0,.int .i64 0,.int .i64 0,.int .i64 0],40,by kernel_rfl,by simp[Value.cells],by decide⟩
instance:ZeroT Tryz.prog 143 [.int .i64 0,.int .i64 0,.int .i64 0,.int .i64 0,.int .i64 0]:=⟨.agg #[.int .i64 0,.int .i64 0,.int .i64 0,.int .i64 0,.int .i64 0],40,by kernel_rfl,by simp[Value.cells],by decide⟩
instance:ZeroT Tryz.prog 172 [.pointer none]:=⟨.pointer none,8,by kernel_rfl,by simp[Value.cells],by decide⟩
instance:ZeroT Tryz.prog 175 [.slice none 0 0]:=⟨.slice none 0 0,24,by kernel_rfl,by simp[Value.cells],by decide⟩
instance:ZeroT Tryz.prog 181 [.slice none 0 0]:=⟨.slice none 0 0,24,by kernel_rfl,by simp[Value.cells],by decide⟩
instance:ZeroT Tryz.prog 184 [.int .i64 0,.int .i64 0,.int .i64 0]:=⟨.agg #[.int .i64 0,.int .i64 0,.int .i64 0],24,by kernel_rfl,by simp[Value.cells],by decide⟩
instance:ZeroT Tryz.prog 214 [.pointer none,.slice none 0 0]:=⟨.agg #[.pointer none,.slice none 0 0],32,by kernel_rfl,by simp[Value.cells],by decide⟩
instance:ZeroT Tryz.prog 239 [.nilFunc]:=⟨.nilFunc,8,by kernel_rfl,by simp[Value.cells],by decide⟩
instance:ZeroT Tryz.prog 260 [.map none]:=⟨.map none,8,by kernel_rfl,by simp[Value.cells],by decide⟩
instance:ZeroT Tryz.prog 285 [.nilFunc]:=⟨.nilFunc,8,by kernel_rfl,by simp[Value.cells],by decide⟩
instance:OneT Tryz.prog 3 (.int .i64 0):=⟨8,by kernel_rfl,by rfl,by decide⟩
instance:OneT Tryz.prog 4 (.bool false):=⟨1,by kernel_rfl,by rfl,by decide⟩
end Go.Walk
end
