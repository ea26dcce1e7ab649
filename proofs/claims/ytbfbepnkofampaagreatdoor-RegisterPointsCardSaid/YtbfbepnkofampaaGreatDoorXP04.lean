import Derived.Test.YtbfbepnkofampaaGreatDoorXP03
set_option maxRecDepth 100000
set_option linter.all false
section
namespace Go.Rg
open Go.Bp
theorem hU{a b:Int}:a.tmod b=0↔b ∣ a:=⟨Int.dvd_of_tmod_eq_zero,fun h=>Int.tmod_eq_zero_of_dvd h⟩
theorem wT(y m:Int):longRef (y%400) m=longRef y m:=by
 have e1:(y%400).tmod 400=0↔y.tmod 400=0:=by rw[hU,hU];omega
 have e2:(y%400).tmod 4=0↔y.tmod 4=0:=by rw[hU,hU];omega
 have e3:(y%400).tmod 100=0↔y.tmod 100=0:=by rw[hU,hU];omega
 unfold longRef;simp only[e1,e2,ne_eq,e3]
theorem Pd{y m d:Int}(h:inB m 1 12=false∨d<1∨31<d∨longRef (y%400) m<d):dayOf y m d=(0,6):=by
 unfold dayOf;rw[if_pos];rcases hm:inB m 1 12 with _|_
 ·exact .inl rfl
 ·right
  rcases h with h|h|h|h
  ·rw[h] at hm;cases hm
  ·exact inB_f.2 (.inl h)
  ·have:=(bW (leap y) hm).2.2;exact inB_f.2 (.inr (by omega))
  ·rw[wT,gP hm] at h;exact inB_f.2 (.inr h)
theorem Qw{y m d:Int}(hm:inB m 1 12=true)(h1:1≤d)(h:¬longRef (y%400) m<d):inB d 1 (monthLen (leap y) m)=true:=by
 rw[wT,gP hm] at h;exact inB_t.2 (by omega)
def beginTo:Nat→Int
 |0=>0
 |k+1=>beginTo k+337+longRef ((2000:Int)+k) 2
theorem begin_eq:∀k:Nat,k≤203→beginTo k=yearDays k
 |0,_=>rfl
 |k+1,h=>by
  rw[beginTo,begin_eq k (by omega),gP (m:=2) rfl]
  have:=fC (n:=k) (by omega)
  push_cast
  rw[this]
  cases leap (2000+k)<;>simp[monthLen,lens]<;>omega
theorem Ju{y m:Int}(h:inB m 1 12=true):before (leap y) (m+1)=before (leap y) m+longRef y m:=by rw[gP h];exact(bW _ h).1
def oldAt(born day:Int)(n:Int):Bool:=
 let d:=dateOf born
 let r:=dayOf (d.year+n) d.month (min d.day (longRef (d.year+n) d.month))
 decide (r.2=0)&&decide (r.1≤day)
def ageTo(born day:Int):Nat→Int
 |0=>0
 |n+1=>if oldAt born day ((n:Int)+1)=true then(n:Int)+1 else ageTo born day n
theorem Gg{born day:Int}(h0:0≤born)(h1:born≤day)(h2:day≤40000):∃A:Nat,ageAns born day=((A:Int),0)∧A≤109∧∀n:Nat,1≤n→(oldAt born day n=true↔n≤A):=by
 obtain⟨va,va2,va3⟩:=fG (day:=born) h0 (by omega)
 obtain⟨vb,vb2,vb3⟩:=fG (day:=day) (by omega) h2
 unfold ageAns oldAt;rw[if_neg (by rw[inB_t.2 (show 0≤born∧born≤40000 by omega),inB_t.2 (show 0≤day∧day≤40000 by omega)];simp),if_neg (by omega)]
 generalize dateOf born=a at va va2 va3⊢;generalize dateOf day=b at vb vb2 vb3⊢;obtain⟨ay,am,ad⟩:=a;obtain⟨by_,bm,bd⟩:=b;simp only at va va2 va3 vb vb2 vb3⊢;have ha:=va.hy;have hb:=vb.hy;have hma:=inB_t.1 va.hm;have hda:=inB_t.1 va.hd;have hle:ay<by_∨ay=by_∧(am<bm∨am=bm∧ad≤bd):=(qH va vb).1 (by omega)
 -- the birthday in a year
 have hbd:∀y,2000≤y→y≤2202→Valid y am (min ad (monthLen (leap y) am)):=fun y h1 h2=>by
  have:=(bW (leap y) va.hm).2;exact⟨⟨h1,h2⟩,va.hm,inB_t.2 (by omega)⟩
 obtain⟨B,hB⟩:∃B,min ad (monthLen (leap by_) am)=B:=⟨_,rfl⟩;have hBa:B≤ad:=by omega
 have hcond:∀n:Nat,1≤n→((decide ((dayOf (ay+n) am (min ad (longRef (ay+n) am))).2=0)&&decide ((dayOf (ay+n) am (min ad (longRef (ay+n) am))).1≤day))=true↔(ay+n<by_∨ay+n=by_∧(am<bm∨am=bm∧B≤bd))):=by
  intro n hn;rw[gP va.hm];have hdm:inB (min ad (monthLen (leap (ay+n)) am)) 1 (monthLen (leap (ay+n)) am)=true:=by
   have:=(bW (leap (ay+n)) va.hm).2;exact inB_t.2 (by omega)
  rw[uK va.hm hdm];by_cases hy:inB (ay+n) 2000 2200=false
  ·rw[if_pos hy];have:=inB_f.1 hy;simp only[Bool.and_eq_true,decide_eq_true_eq];constructor
   ·rintro⟨h,_⟩;exact absurd h (by decide)
   ·intro h;omega
  ·have hy2:inB (ay+n) 2000 2200=true:=by simpa using hy
   have hy3:=inB_t.1 hy2;rw[if_neg hy];have hV:=hbd (ay+n) hy3.1 (by omega)
   have hol:=qH hV vb;rw[vb3] at hol;have hBy:ay+n=by_→min ad (monthLen (leap (ay+n)) am)=B:=by intro e;rw[e];exact hB
   by_cases h4:40000<ord (ay+n) am (min ad (monthLen (leap (ay+n)) am))
   ·rw[if_pos h4];simp only[Bool.and_eq_true,decide_eq_true_eq];constructor
    ·rintro⟨h,_⟩;exact absurd h (by decide)
    ·intro h;have:ord (ay+n) am (min ad (monthLen (leap (ay+n)) am))≤day:=hol.2 (by
      rcases h with h|⟨h,h'⟩
      ·exact .inl h
      ·exact .inr ⟨h,by rw[hBy h];exact h'⟩)
     omega
   ·rw[if_neg h4];simp only[decide_true,Bool.true_and,decide_eq_true_eq];rw[hol];constructor
    ·rintro(h|⟨h,h'⟩)
     ·exact .inl h
     ·exact .inr ⟨h,by rw[hBy h] at h';exact h'⟩
    ·rintro(h|⟨h,h'⟩)
     ·exact .inl h
     ·exact .inr ⟨h,by rw[hBy h];exact h'⟩
 rw[hB];by_cases hc:bm<am∨bm=am∧bd<B
 ·refine⟨(by_-ay-1).toNat,?_,by omega,fun n hn=> ?_⟩
  ·rw[if_pos hc];congr 1;omega
  ·rw[hcond n hn];omega
 ·refine⟨(by_-ay).toNat,?_,by omega,fun n hn=> ?_⟩
  ·rw[if_neg hc];congr 1;omega
  ·rw[hcond n hn];omega
theorem Od{born day:Int}(h0:0≤born)(h1:born≤day)(h2:day≤40000):ageAns born day=(ageTo born day 110,0):=by
 obtain⟨A,hA,hA2,hold⟩:=Gg h0 h1 h2;have key:∀n:Nat,ageTo born day n=((min n A:Nat):Int):=by
  intro n;induction n with
  |zero=>simp[ageTo]
  |succ n ih=>
   rw[ageTo];have:=hold (n+1) (by omega)
   push_cast at this
   by_cases hc:oldAt born day ((n:Int)+1)=true
   ·rw[if_pos hc];have:=this.1 hc;omega
   ·rw[if_neg hc,ih];have:¬n+1≤A:=fun h=>hc (this.2 h)
    omega
 rw[hA,key 110,Nat.min_eq_right (by omega)]
end Go.Rg
end
section
namespace Go.Rg
open Go.Bp
structure Cls where
 name:ByteArray
 incl:List Int
 needs:Int
 age:Int
 term:Int
structure Sys where
 classes:List Cls
 codes:List ByteArray
structure Right where
 cls:Int
 codes:Int
 deriving DecidableEq
namespace Sys
variable(s:Sys)
def at_(i:Int):Cls:=s.classes.getD i.toNat ⟨ByteArray.empty,[],0,0,0⟩
def clsErr(i:Nat)(c:Cls):Int:=
 if isName c.name=false then 6
 else if((s.classes.take i).any fun x=>decide (x.name=c.name))=true then 5
 else if s.classes.length<c.incl.length then 3
 else if(c.incl.all fun n=>inB n 0 (s.classes.length-1))=false∨inB c.needs (-1) (s.classes.length-1)=false then 4
 else if c.needs=i then 2
 else if inB c.age 0 100=false∨inB c.term 0 100=false then 7 else 0
inductive Reach:Int→Int→Prop
 |refl (c:Int):Reach c c
 |step {c x y:Int}:Reach c x→y∈(s.at_ x).incl→Reach c y
variable{s}
theorem Reach.trans{a b c:Int}(h:s.Reach a b)(k:s.Reach b c):s.Reach a c:=by
 induction k with
 |refl=>exact h
 |step _ hy ih=>exact .step ih hy
theorem Reach.head{a b c:Int}(h:b∈(s.at_ a).incl)(k:s.Reach b c):s.Reach a c:=Reach.trans (.step (.refl a) h) k
theorem Reach.closed{c k:Int}(h:s.Reach c k){P:Int→Prop}(h0:P c)(hs:∀x y,P x→y∈(s.at_ x).incl→P y):P k:=by
 induction h with
 |refl=>exact h0
 |step _ hy ih=>exact hs _ _ ih hy
variable(s)
def markAll(out:List Bool)(l:List Int):List Bool:=l.foldl (fun o y=>o.set y.toNat true) out
def sweep1(out:List Bool)(i:Nat):List Bool:=if out.getD i false=true then markAll out (s.at_ i).incl else out
def sweepTo(out:List Bool)(n:Nat):List Bool:=(List.range n).foldl s.sweep1 out
def sweep(out:List Bool):List Bool:=s.sweepTo out s.classes.length
def sweeps(out:List Bool):Nat→List Bool
 |0=>out
 |n+1=>s.sweep (sweeps out n)
def coverL(c:Int):List Bool:=s.sweeps ((List.replicate s.classes.length false).set c.toNat true) s.classes.length
def covers(c k:Int):Bool:=(s.coverL c).getD k.toNat false
variable{s}
theorem qS{l:List Bool}{i j:Nat}:(l.set i true).getD j false=true↔(i=j∧i<l.length)∨l.getD j false=true:=by
 simp only[List.getD_eq_getElem?_getD,List.getElem?_set];by_cases h:i=j
 ·subst h;by_cases h2:i<l.length
  ·simp[h2]
  ·simp[h2,List.getElem?_eq_none (show l.length≤i by omega)]
 ·simp[h]
theorem markAll_len:∀(l:List Int)(out:List Bool),(markAll out l).length=out.length
 | [],_=>rfl
 |y::l,out=>by unfold markAll;rw[List.foldl_cons];have:=markAll_len l (out.set y.toNat true);unfold markAll at this;rw[this,List.length_set]
theorem markAll_iff:∀(l:List Int)(out:List Bool)(j:Nat),(markAll out l).getD j false=true↔(∃y∈l,y.toNat=j∧j<out.length)∨out.getD j false=true
 | [],out,j=>by simp[markAll]
 |y::l,out,j=>by
  have e:markAll out (y::l)=markAll (out.set y.toNat true) l:=rfl;rw[e,markAll_iff l _ j,qS,List.length_set];constructor
  ·rintro(⟨z,hz,h1,h2⟩|⟨rfl,h2⟩|h)
   ·exact .inl ⟨z,by simp[hz],h1,h2⟩
   ·exact .inl ⟨y,by simp,rfl,h2⟩
   ·exact .inr h
  ·rintro(⟨z,hz,h1,h2⟩|h)
   ·rcases List.mem_cons.1 hz with rfl|hz
    ·exact .inr (.inl ⟨h1,by omega⟩)
    ·exact .inl ⟨z,hz,h1,h2⟩
   ·exact .inr (.inr h)
theorem yT(out:List Bool)(i:Nat):(s.sweep1 out i).length=out.length:=by unfold sweep1;split;exact markAll_len _ _;rfl
theorem sweepTo_succ(out:List Bool)(n:Nat):s.sweepTo out (n+1)=s.sweep1 (s.sweepTo out n) n:=by unfold sweepTo;rw[List.range_succ,List.foldl_append];rfl
theorem sweepTo_len(out:List Bool):∀n,(s.sweepTo out n).length=out.length
 |0=>rfl
 |n+1=>by rw[sweepTo_succ,yT,sweepTo_len out n]
theorem sweeps_len(out:List Bool):∀n,(s.sweeps out n).length=out.length
 |0=>rfl
 |n+1=>by unfold sweeps sweep;rw[sweepTo_len,sweeps_len out n]
theorem sH(out:List Bool)(i j:Nat)(h:out.getD j false=true):(s.sweep1 out i).getD j false=true:=by
 unfold sweep1;split
 ·exact(markAll_iff _ _ _).2 (.inr h)
 ·exact h
theorem iO(out:List Bool)(j:Nat)(h:out.getD j false=true):∀n,(s.sweepTo out n).getD j false=true
 |0=>h
 |n+1=>by rw[sweepTo_succ];exact sH _ _ _ (iO out j h n)
def InclOk(s:Sys):Prop:=∀x,∀y∈(s.at_ x).incl,0≤y∧y<s.classes.length
theorem tP{out:List Bool}{c:Int}(hi:s.InclOk)(i:Nat)(h:∀j,out.getD j false=true→s.Reach c (j:Int)):∀j,(s.sweep1 out i).getD j false=true→s.Reach c (j:Int):=by
 intro j hj;unfold sweep1 at hj;split at hj
 ·rename_i ho;rcases(markAll_iff _ _ _).1 hj with ⟨y,hy,rfl,_⟩|hj
  ·have:=h i ho;have hy0:=(hi _ y hy).1;rw[show((y.toNat:Nat):Int)=y by omega]
   exact .step this hy
  ·exact h j hj
 ·exact h j hj
theorem kY{out:List Bool}{c:Int}(hi:s.InclOk)(h:∀j,out.getD j false=true→s.Reach c (j:Int)):∀n j,(s.sweepTo out n).getD j false=true→s.Reach c (j:Int)
 |0=>h
 |n+1=>by rw[sweepTo_succ];exact tP hi n (kY hi h n)
theorem lS{out:List Bool}{c:Int}(hi:s.InclOk)(h:∀j,out.getD j false=true→s.Reach c (j:Int)):∀n j,(s.sweeps out n).getD j false=true→s.Reach c (j:Int)
 |0=>h
 |n+1=>by unfold sweeps sweep;exact kY hi (lS hi h n) _
def cnt(l:List Bool):Nat:=l.countP id
theorem uL{a b:List Bool}(hl:a.length=b.length)(h:∀j,a.getD j false=true→b.getD j false=true):cnt a≤cnt b∧(cnt a=cnt b→a=b):=by
 induction a generalizing b with
 |nil=>cases b with|nil=>exact⟨Nat.le_refl _,fun _=>rfl⟩|cons _ _=>simp at hl
 |cons x a ih=>
  cases b with
  |nil=>simp at hl
  |cons y b=>
   have h0:=h 0;simp only[List.getD_cons_zero] at h0;obtain⟨h1,h2⟩:=ih (by simpa using hl) (fun j hj=>by have:=h (j+1);simp only[List.getD_cons_succ] at this;exact this hj)
   unfold cnt at h1 h2⊢;simp only[List.countP_cons,id]
   cases x<;>cases y<;>simp_all
   omega
theorem uZ{out:List Bool}(hi:s.InclOk)(hl:out.length=s.classes.length)(h:s.sweep out=out):∀x:Nat,out.getD x false=true→∀y∈(s.at_ x).incl,out.getD y.toNat false=true:=by
 have hx:∀n,n≤s.classes.length→s.sweepTo out n=out:=by
  have hmono:∀n j,(s.sweepTo out n).getD j false=true→(s.sweep out).getD j false=true→True:=fun _ _ _ _=>trivial
  intro n hn;have a1:∀j,out.getD j false=true→(s.sweepTo out n).getD j false=true:=fun j hj=>iO out j hj n
  have a2:∀m,n≤m→∀j,(s.sweepTo out n).getD j false=true→(s.sweepTo out m).getD j false=true:=by
   intro m hm;induction m with
   |zero=>
    intro j hj;have:n=0:=by omega
    subst this;exact hj
   |succ m ih=>
    intro j hj;by_cases e:n=m+1
    ·subst e;exact hj
    ·rw[sweepTo_succ];exact sH _ _ _ (ih (by omega) j hj)
  have a3:∀j,(s.sweepTo out n).getD j false=true→out.getD j false=true:=fun j hj=>by
   have:=a2 _ hn j hj;have h':s.sweepTo out s.classes.length=out:=h;rwa [h'] at this
  have l1:=sweepTo_len (s:=s) out n;exact(uL l1 a3).2 (Nat.le_antisymm (uL l1 a3).1 (uL l1.symm a1).1)
 intro x hxt y hy;have hxl:x<out.length:=by
  by_cases hx2:x<out.length
  ·exact hx2
  ·rw[List.getD_eq_getElem?_getD,List.getElem?_eq_none (by omega)] at hxt;simp at hxt
 have e1:=hx (x+1) (by omega)
 rw[sweepTo_succ,hx x (by omega)] at e1
 unfold sweep1 at e1;rw[if_pos hxt] at e1;rw[←e1];have hy2:=hi _ y hy;exact(markAll_iff _ _ _).2 (.inl ⟨y,hy,rfl,by omega⟩)
theorem tO(out:List Bool)(hl:out.length=s.classes.length)(h1:1≤cnt out):s.sweep (s.sweeps out s.classes.length)=s.sweeps out s.classes.length:=by
 have key:∀n,s.sweep (s.sweeps out n)=s.sweeps out n∨1+n≤cnt (s.sweeps out n):=by
  intro n;induction n with
  |zero=>exact .inr h1
  |succ n ih=>
   rcases ih with ih|ih
   ·left;show s.sweep (s.sweep _)=s.sweep _;rw[ih,ih]
   ·have hc:=uL (a:=s.sweeps out n) (b:=s.sweep (s.sweeps out n)) (sweepTo_len _ _).symm (fun j hj=>iO _ j hj _)
    by_cases e:cnt (s.sweeps out n)=cnt (s.sweep (s.sweeps out n))
    ·have:=hc.2 e;left;show s.sweep (s.sweep _)=s.sweep _;rw[←this,←this]
    ·right;show _≤cnt (s.sweep _);have:=hc.1;omega
 rcases key s.classes.length with h|h
 ·exact h
 ·have h2:cnt (s.sweeps out s.classes.length)≤(s.sweeps out s.classes.length).length:=List.countP_le_length;rw[sweeps_len] at h2;omega
theorem coverL_len(c:Int):(s.coverL c).length=s.classes.length:=by unfold coverL;rw[sweeps_len];simp
theorem Bf(hi:s.InclOk){c k:Int}(hc:0≤c∧c<s.classes.length)(hk:0≤k∧k<s.classes.length):s.covers c k=true↔s.Reach c k:=by
 obtain⟨init,hinit⟩:∃l,(List.replicate s.classes.length false).set c.toNat true=l:=⟨_,rfl⟩;have hl:init.length=s.classes.length:=by rw[←hinit];simp
 have h0:∀j,init.getD j false=true↔c.toNat=j:=by
  intro j;rw[←hinit,qS];constructor
  ·rintro(⟨h,_⟩|h)
   ·exact h
   ·simp[List.getD_eq_getElem?_getD,List.getElem?_replicate] at h;split at h<;>simp at h
  ·intro h;exact .inl ⟨h,by simp;omega⟩
 have hcov:s.coverL c=s.sweeps init s.classes.length:=by unfold coverL;rw[hinit]
 constructor
 ·intro h;unfold covers at h;rw[hcov] at h;have:=lS (c:=c) hi (fun j hj=>by have:=(h0 j).1 hj;rw[←this,show((c.toNat:Nat):Int)=c by omega];exact .refl c) _ _ h
  rwa [show((k.toNat:Nat):Int)=k by omega] at this
 ·intro h;have hcnt:1≤cnt init:=by
   have:init.getD c.toNat false=true:=(h0 _).2 rfl;unfold cnt;apply List.one_le_countP_iff.2;rw[List.getD_eq_getElem?_getD,List.getElem?_eq_getElem (by omega)] at this
   exact⟨init[c.toNat],List.getElem_mem (by omega),by simpa using this⟩
  have hfix:=tO init hl hcnt;have hcl:=uZ hi (by rw[sweeps_len,hl]) hfix
  have hle:∀n,(s.sweeps init n).getD c.toNat false=true:=by
   intro n;induction n with
   |zero=>exact(h0 _).2 rfl
   |succ n ih=>exact iO _ _ ih _
  have:=h.closed (P:=fun x=>0≤x∧(s.sweeps init s.classes.length).getD x.toNat false=true) ⟨hc.1,hle _⟩ (fun x y hx hy=>by
   refine⟨(hi _ y hy).1,?_⟩;refine hcl x.toNat hx.2 y ?_;rw[show((x.toNat:Nat):Int)=x by omega];exact hy)
  unfold covers;rw[hcov];exact this.2
end Sys
end Go.Rg
end
section
namespace Go.Rg
open Go.Bp
def firstE{α:Type}(l:List α)(f:Nat→α→Int):Int×Int:=match l.zipIdx.find? fun p=>decide (f p.2 p.1≠0) with
 |some p=>((p.2:Int),f p.2 p.1)
 |none=>(0,0)
namespace Sys
variable(s:Sys)
def loopAt:Option Nat:=(List.range s.classes.length).find? fun i=>(s.at_ i).incl.any fun k=>s.covers k i
def check:Int×Int×Int:=
 if inB s.classes.length 1 12=false∨8<s.codes.length then(1,0,3)
 else if(firstE s.classes s.clsErr).2≠0 then(2,(firstE s.classes s.clsErr).1,(firstE s.classes s.clsErr).2)
 else if(firstE s.codes fun i _=>nameErr s.codes i).2≠0 then(3,(firstE s.codes fun i _=>nameErr s.codes i).1,(firstE s.codes fun i _=>nameErr s.codes i).2)
 else match s.loopAt with
  |some i=>(4,i,9)
  |none=>(0,0,0)
def sets:Int:=2^s.codes.length
def rightErr(r:Right):Int:=if inB r.cls 0 (s.classes.length-1)=false then 4 else if inB r.codes 0 (s.sets-1)=false then 7 else 0
def rightsErr(l:List Right):Int:=if 40<l.length then 3 else(firstE l fun _ r=>s.rightErr r).2
def asked(l:List Right):Int:=if s.check.2.2≠0 then s.check.2.2 else s.rightsErr l
def allow(l:List Right)(c f:Int):Bool:=l.any fun r=>s.covers r.cls c&&decide (r.codes.toNat&&&f.toNat=0)
def mayAns(l:List Right)(c f:Int):Bool×Int:=
 if s.asked l≠0 then(false,s.asked l) else if inB c 0 (s.classes.length-1)=false then(false,4) else if inB f 0 (s.sets-1)=false then(false,7) else(s.allow l c f,0)
def allRights:List Right:=(List.range s.classes.length).flatMap fun c:Nat=>(List.range (2^s.codes.length)).map fun k:Nat=>⟨(c:Int),(k:Int)⟩
def weaker(a b:Right):Bool:=decide (a≠b)&&s.covers b.cls a.cls&&decide (b.codes.toNat&&&a.codes.toNat=b.codes.toNat)
def ordered(l:List Right):List Right:=s.allRights.filter fun r=>decide (r∈l)
def least(l:List Right):List Right:=(s.ordered l).filter fun x=>(s.ordered l).all fun r=> !s.weaker x r
def leastAns(l:List Right):List Right×Int:=if s.asked l≠0 then([],s.asked l) else(s.least l,0)
def coversAns(c:Int):List Int×Int:=
 if s.check.2.2≠0 then([],s.check.2.2) else if inB c 0 (s.classes.length-1)=false then([],4)
 else((List.range s.classes.length).filterMap fun k:Nat=>if s.covers c k=true then some (k:Int) else none,0)
structure Ok:Prop where
 n:1≤s.classes.length∧s.classes.length≤12
 c:s.codes.length≤8
 cls:∀i(hi:i<s.classes.length),s.clsErr i s.classes[i]=0
 code:∀i,i<s.codes.length→nameErr s.codes i=0
 loop:∀i,i<s.classes.length→∀k∈(s.at_ i).incl,s.covers k i=false
variable{s}
end Sys
theorem dH{α:Type}{l:List α}{f:Nat→α→Int}(h:(firstE l f).2=0):∀i(hi:i<l.length),f i l[i]=0:=by
 intro i hi;unfold firstE at h
 cases hf:l.zipIdx.find? fun p=>decide (f p.2 p.1≠0) with
 |none=>
  have:=List.find?_eq_none.1 hf (l[i],i) (by rw[List.mem_zipIdx_iff_getElem?];simp[hi])
  simpa using this
 |some p=>
  rw[hf] at h;have:=List.find?_some hf;simp only[decide_eq_true_eq] at this;exact absurd h this
theorem bU{α:Type}{l:List α}{f:Nat→α→Int}(h:∀i(hi:i<l.length),f i l[i]=0):firstE l f=(0,0):=by
 unfold firstE
 cases hf:l.zipIdx.find? fun p=>decide (f p.2 p.1≠0) with
 |none=>rfl
 |some p=>
  exfalso;have h1:=List.find?_some hf;have h2:=List.mem_of_find?_eq_some hf;rw[List.mem_zipIdx_iff_getElem?] at h2;simp only[decide_eq_true_eq] at h1;obtain⟨hi,e⟩:=List.getElem?_eq_some_iff.1 h2;exact h1 (by rw[←e];exact h p.2 hi)
theorem cN{α:Type}{l:List α}{f:Nat→α→Int}{k:Nat}(hk:k<l.length)(h:f k l[k]≠0)(hb:∀i(hi:i<k),f i (l[i]'(by omega))=0):firstE l f=((k:Int),f k l[k]):=by
 unfold firstE;have:l.zipIdx.find? (fun p=>decide (f p.2 p.1≠0))=some (l[k],k):=by
  rw[List.find?_eq_some_iff_getElem];refine⟨by simpa using h,k,by simpa using hk,by simp,fun j hj=> ?_⟩
  simp only[List.getElem_zipIdx,Nat.zero_add,decide_not,Bool.not_eq_true',decide_eq_false_iff_not,Classical.not_not];simpa using hb j hj
 rw[this]
namespace Sys
variable{s:Sys}
theorem ok_of(h:s.check.2.2=0):s.Ok:=by
 unfold check at h;by_cases c1:inB s.classes.length 1 12=false∨8<s.codes.length
 ·rw[if_pos c1] at h;simp at h
 ·rw[if_neg c1] at h;by_cases c2:(firstE s.classes s.clsErr).2≠0
  ·rw[if_pos c2] at h;exact absurd h c2
  ·rw[if_neg c2] at h;by_cases c3:(firstE s.codes fun i _=>nameErr s.codes i).2≠0
   ·rw[if_pos c3] at h;exact absurd h c3
   ·rw[if_neg c3] at h;rw[not_or] at c1;have hn:=inB_t.1 (by simpa using c1.1:inB s.classes.length 1 12=true)
    refine⟨by omega,by omega,fun i hi=>dH (by simpa using c2) i hi,fun i hi=>dH (by simpa using c3) i hi,fun i hi k hk=> ?_⟩
    cases hl:s.loopAt with
    |some j=>rw[hl] at h;simp at h
    |none=>
     unfold loopAt at hl;have:=List.find?_eq_none.1 hl i (List.mem_range.2 hi);simp only[List.any_eq_true,not_exists,not_and,Bool.not_eq_true] at this;exact this k hk
theorem at_eq{i:Nat}(hi:i<s.classes.length):s.at_ i=s.classes[i]:=by unfold at_;simp[List.getD,hi]
theorem clsErr_0{i:Nat}{c:Cls}(h:s.clsErr i c=0):isName c.name=true∧c.incl.length≤s.classes.length∧(∀n∈c.incl,inB n 0 (s.classes.length-1)=true)∧inB c.needs (-1) (s.classes.length-1)=true∧c.needs≠i∧inB c.age 0 100=true∧inB c.term 0 100=true:=by
 unfold clsErr at h;split at h;·simp at h
 split at h;·simp at h
 split at h;·simp at h
 split at h;·simp at h
 split at h;·simp at h
 split at h;·simp at h
 rename_i h1 h2 h3 h4 h5 h6;simp only[not_or,Bool.not_eq_false] at h4 h6;exact⟨by simpa using h1,by omega,List.all_eq_true.1 h4.1,h4.2,h5,h6.1,h6.2⟩
theorem Ok.incl(h:s.Ok):s.InclOk:=by
 intro x y hy;by_cases hx:x.toNat<s.classes.length
 ·have e:s.at_ x=s.classes[x.toNat]:=by unfold at_;simp[List.getD,hx]
  rw[e] at hy;have:=inB_t.1 ((clsErr_0 (h.cls _ hx)).2.2.1 y hy);omega
 ·have e:s.at_ x=⟨ByteArray.empty,[],0,0,0⟩:=by unfold at_;simp[List.getD,List.getElem?_eq_none (show s.classes.length≤x.toNat by omega)]
  rw[e] at hy;simp at hy
end Sys
end Go.Rg
end
section
namespace Go.Rg
open Go.Bp
structure Span where
 lo:Int
 hi:Int
 deriving DecidableEq
structure Treaty where
 name:ByteArray
 right:Right
 days:Span
structure Rules where
 sys:Sys
 treaties:List Treaty
 limit:Int
 fall:Int
 ban:Int
structure Event where
 kind:Int
 day:Int
 right:Right
 treaty:Int
 cls:Int
 points:Int
 until_:Int
 minute:Int
 deriving DecidableEq
structure Person where
 born:Int
 events:List Event
structure Drive where
 day:Int
 cls:Int
 features:Int
namespace Rules
variable(r:Rules)
def treatyErr(i:Nat)(t:Treaty):Int:=
 if isName t.name=false then 6
 else if((r.treaties.take i).any fun x=>decide (x.name=t.name))=true then 5
 else if r.sys.rightErr t.right≠0 then r.sys.rightErr t.right
 else if inB t.days.lo 0 40000=false∨inB t.days.hi 0 40000=false then 7
 else if t.days.hi<t.days.lo then 2 else 0
def check:Int×Int×Int:=
 if r.sys.check.2.2≠0 then(1,0,r.sys.check.2.2)
 else if 6<r.treaties.length then(2,0,3)
 else if(firstE r.treaties r.treatyErr).2≠0 then(2,(firstE r.treaties r.treatyErr).1,(firstE r.treaties r.treatyErr).2)
 else if inB r.limit 1 100=false∨inB r.fall 1 40000=false∨inB r.ban 1 40000=false then(3,0,7)
 else(0,0,0)
def had(x:Event):Event×Int:=
 if x.kind=0 then({x with right:=⟨0,0⟩,minute:=0},if r.sys.rightErr x.right≠0 then r.sys.rightErr x.right else if inB x.minute 0 1439=false then 7 else 0)
 else if x.kind=1 then({x with treaty:=0},if inB x.treaty 0 (r.treaties.length-1)=false then 4 else 0)
 else if x.kind=2 then({x with cls:=0},if inB x.cls 0 (r.sys.classes.length-1)=false then 4 else 0)
 else if x.kind=4 then({x with until_:=0},if inB x.until_ x.day 40000=false then 7 else 0)
 else({x with points:=0},if inB x.points 1 20=false then 7 else 0)
def bare(kind day:Int):Event:=⟨kind,day,⟨0,0⟩,0,0,0,0,0⟩
def eventErr(born:Int)(x:Event):Int:=
 if inB x.kind 0 4=false then 2
 else if inB x.day 0 40000=false then 7
 else if x.day<born then 2
 else if(r.had x).2≠0 then(r.had x).2
 else if(r.had x).1≠bare x.kind x.day then 2 else 0
def personErr(p:Person):Int:=
 if r.check.2.2≠0 then r.check.2.2
 else if inB p.born 0 40000=false then 7
 else if 30<p.events.length then 3
 else(firstE p.events fun _ x=>r.eventErr p.born x).2
end Rules
def fields(x:Event):List Int:=[x.day,x.kind,x.right.cls,x.right.codes,x.treaty,x.cls,x.points,x.until_,x.minute]
theorem Bc{x y:Event}(h:fields x=fields y):x=y:=by
 obtain⟨a,b,⟨c,d⟩,e,f,g,i,j⟩:=x;obtain⟨a',b',⟨c',d'⟩,e',f',g',i',j'⟩:=y;simp only[fields,List.cons.injEq,and_true] at h;obtain⟨rfl,rfl,rfl,rfl,rfl,rfl,rfl,rfl,rfl⟩:=h;rfl
def cmpL:List Int→List Int→Int
 | [],[]=>0
 | [],_::_=> -1
 |_::_,[]=>1
 |a::x,b::y=>if a<b then -1 else if b<a then 1 else cmpL x y
def ltE(a b:Event):Prop:=cmpL (fields a) (fields b)<0
instance(a b:Event):Decidable (ltE a b):=inferInstanceAs (Decidable (_<_))
theorem cmpL_refl:∀x,cmpL x x=0
 | []=>rfl
 |a::x=>by simp only[cmpL];rw[if_neg (by omega),if_neg (by omega)];exact cmpL_refl x
theorem cmpL_eq:∀{x y:List Int},cmpL x y=0→x=y
 | [],[],_=>rfl
 | [],_::_,h=>by simp[cmpL] at h
 |_::_,[],h=>by simp[cmpL] at h
 |a::x,b::y,h=>by
  simp only[cmpL] at h;split at h
  ·simp at h
  ·split at h
   ·simp at h
   ·have:=cmpL_eq h;rw[this,show a=b by omega]
theorem cmpL_neg:∀(x y:List Int),cmpL y x= -cmpL x y
 | [],[]=>rfl
 | [],_::_=>rfl
 |_::_,[]=>rfl
 |a::x,b::y=>by
  simp only[cmpL];rcases Int.lt_trichotomy a b with h|h|h
  ·rw[if_neg (by omega),if_pos h,if_pos h];rfl
  ·rw[if_neg (by omega),if_neg (by omega),if_neg (by omega),if_neg (by omega),cmpL_neg x y]
  ·rw[if_pos h,if_neg (by omega),if_pos h]
theorem cmpL_trans:∀{x y z:List Int},cmpL x y<0→cmpL y z<0→cmpL x z<0
 | [],[],_,h,_=>by simp[cmpL] at h
 |_::_,[],_,h,_=>by simp[cmpL] at h
 | [],_::_,[],_,h=>by simp[cmpL] at h
 | [],_::_,_::_,_,_=>by simp[cmpL]
 |_::_,_::_,[],_,h=>by simp[cmpL] at h
 |a::x,b::y,c::z,h,k=>by
  simp only[cmpL] at h k⊢;split at h
  ·split at k
   ·rw[if_pos (by omega)];omega
   ·split at k
    ·simp at k
    ·rw[if_pos (by omega)];omega
  ·split at h
   ·simp at h
   ·split at k
    ·rw[if_pos (by omega)];omega
    ·split at k
     ·simp at k
     ·rw[if_neg (by omega),if_neg (by omega)];exact cmpL_trans h k
theorem jA(a:Event):¬ltE a a:=by unfold ltE;rw[cmpL_refl];omega
theorem nJ{a b c:Event}(h:ltE a b)(k:ltE b c):ltE a c:=cmpL_trans h k
theorem Cx(a b:Event):ltE a b∨a=b∨ltE b a:=by
 unfold ltE;rw[cmpL_neg (fields a) (fields b)];rcases Int.lt_trichotomy (cmpL (fields a) (fields b)) 0 with h|h|h
 ·exact .inl h
 ·exact .inr (.inl (Bc (cmpL_eq h)))
 ·exact .inr (.inr (by omega))
theorem order_unique:∀{l m:List Event},l.Pairwise ltE→m.Pairwise ltE→(∀x,x∈l↔x∈m)→l=m
 | [],[],_,_,_=>rfl
 | [],b::m,_,_,h=>by have:=(h b).2 (by simp);simp at this
 |a::l,[],_,_,h=>by have:=(h a).1 (by simp);simp at this
 |a::l,b::m,hl,hm,h=>by
  rw[List.pairwise_cons] at hl hm;have e:a=b:=by
   rcases List.mem_cons.1 ((h a).1 (by simp)) with e|e
   ·exact e
   ·rcases List.mem_cons.1 ((h b).2 (by simp)) with e2|e2
    ·exact e2.symm
    ·exact absurd (nJ (hl.1 b e2) (hm.1 a e)) (jA a)
  subst e;congr 1
  refine order_unique hl.2 hm.2 fun x=>⟨fun hx=> ?_,fun hx=> ?_⟩
  ·rcases List.mem_cons.1 ((h x).1 (List.mem_cons_of_mem _ hx)) with e|e
   ·subst e;exact absurd (hl.1 x hx) (jA x)
   ·exact e
  ·rcases List.mem_cons.1 ((h x).2 (List.mem_cons_of_mem _ hx)) with e|e
   ·subst e;exact absurd (hm.1 x hx) (jA x)
   ·exact e
def putE(x:Event):List Event→List Event
 | []=>[x]
 |a::l=>if ltE a x then a::putE x l else if a=x then a::l else x::a::l
def sortE(l:List Event):List Event:=l.foldl (fun o x=>putE x o) []
theorem putE_mem{x y:Event}:∀{l:List Event},y∈putE x l↔y=x∨y∈l
 | []=>by simp[putE]
 |a::l=>by
  unfold putE;split
  ·rw[List.mem_cons,putE_mem,List.mem_cons];constructor
   ·rintro(h|h|h)
    ·exact .inr (.inl h)
    ·exact .inl h
    ·exact .inr (.inr h)
   ·rintro(h|h|h)
    ·exact .inr (.inl h)
    ·exact .inl h
    ·exact .inr (.inr h)
  ·split
   ·rename_i e;subst e;constructor
    ·intro h;exact .inr h
    ·rintro(h|h)
     ·rw[h];simp
     ·exact h
   ·simp
theorem oD{x:Event}:∀{l:List Event},l.Pairwise ltE→(putE x l).Pairwise ltE
 | [],_=>by simp[putE]
 |a::l,h=>by
  rw[List.pairwise_cons] at h;unfold putE;split
  ·rename_i hax;rw[List.pairwise_cons];refine⟨fun y hy=> ?_,oD h.2⟩
   rcases putE_mem.1 hy with rfl|hy
   ·exact hax
   ·exact h.1 y hy
  ·split
   ·exact List.pairwise_cons.2 h
   ·rename_i hax hne;have hxa:ltE x a:=by
     rcases Cx a x with e|e|e
     ·exact absurd e hax
     ·exact absurd e hne
     ·exact e
    rw[List.pairwise_cons];refine⟨fun y hy=> ?_,List.pairwise_cons.2 h⟩
    rcases List.mem_cons.1 hy with rfl|hy
    ·exact hxa
    ·exact nJ hxa (h.1 y hy)
theorem sortE_go:∀(l o:List Event),o.Pairwise ltE→(l.foldl (fun o x=>putE x o) o).Pairwise ltE∧∀y,y∈l.foldl (fun o x=>putE x o) o↔y∈o∨y∈l
 | [],o,h=>⟨h,fun y=>by simp⟩
 |x::l,o,h=>by
  obtain⟨h1,h2⟩:=sortE_go l (putE x o) (oD h);refine⟨h1,fun y=> ?_⟩
  rw[List.foldl_cons,h2 y,putE_mem,List.mem_cons];constructor
  ·rintro((h|h)|h)
   ·exact .inr (.inl h)
   ·exact .inl h
   ·exact .inr (.inr h)
  ·rintro(h|h|h)
   ·exact .inl (.inr h)
   ·exact .inl (.inl h)
   ·exact .inr h
theorem lT(l:List Event):(sortE l).Pairwise ltE:=(sortE_go l [] List.Pairwise.nil).1
theorem cZ(l:List Event)(y:Event):y∈sortE l↔y∈l:=by have:=(sortE_go l [] List.Pairwise.nil).2 y;unfold sortE;rw[this];simp
theorem Ic{l m:List Event}(h:m.Pairwise ltE)(hm:∀y,y∈m↔y∈l):m=sortE l:=order_unique h (lT l) fun y=>by rw[hm,cZ]
end Go.Rg
end
