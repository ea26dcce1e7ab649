/- Chapter 03: contracts of functions of the program and of the reference, and plain laws (out of StC StD SB StI SR15 StN StV StW StX SY2 SY3). No condition of its own. -/
import Derived.Test.YtfjnacajjpaeiaaGreatDoorP21
import Derived.Test.YtfjnacajjpaeiaaGreatDoorQY01
set_option maxRecDepth 100000
set_option linter.all false
section
namespace Go.St
theorem Ft{n:Nat}{w:Int}(h0:0≤w)(h:w<2^n):Lp n w w:=by
 refine⟨h0,h,?_⟩;unfold aE;have:gO w.toNat w.toNat=0:=by rw[gH];exact fun i hi=>hi
 exact_mod_cast this
theorem Cs{a b:Int}(h0:0≤a)(h:(a.toNat&&&b.toNat:Nat)=0):aE a b=a:=by
 unfold aE gO;rw[h,Nat.xor_zero];omega
end Go.St
end
section
namespace Go.St
section
variable{arcs:List Arc}{to:Int}
theorem Way.wider{arcs':List Arc}(h:∀a∈arcs,a∈arcs'){p s m k:Int}(w:Way aE arcs to p s m k):Way aE arcs' to p s m k:=by
 induction w with
 |nil=>exact Way.nil
 |cons ha _ ih=>exact Way.cons (h _ ha) ih
theorem wJ{D:Int→Prop}(hm:∀a∈arcs,1≤a.m)(hD:∀s b,D s→D (aE s b)){T U:Tab}(hS:fJ aE arcs to T)(hT:eY aE arcs to D T)(keep:Arc→Bool)
 (hS':fJ aE (arcs.filter keep) to U)(hU:eY aE (arcs.filter keep) to D U):∀(n:Nat)(p s m:Int),D s→T p s=some (m,(n:Int))→(∀a∈cF aE arcs T n p s m,keep a=true)→
 U p s=some (m,(n:Int))∧cF aE (arcs.filter keep) U n p s m=cF aE arcs T n p s m
 |0,p,s,m,hs,hc,_=>by
  obtain⟨rfl,rfl,rfl⟩:=Way.zero hm (hS _ _ _ hc);exact⟨hU.1,rfl⟩
 |n+1,p,s,m,hs,hc,hk=>by
  have hm':∀a∈arcs.filter keep,1≤a.m:=fun a ha=>hm a (List.mem_filter.1 ha).1
  have e1:((n+1:Nat):Int)=(n:Int)+1:=by omega
  rw[e1] at hc⊢;obtain⟨a,h1,h2,h3,h4⟩:=mD hD hS hT hs hc (by simp only;omega)
  simp only at h4;rw[show(n:Int)+1-1=n by omega] at h4
  have e2:cF aE arcs T (n+1) p s m=a::cF aE arcs T n a.q (aE s a.sh) (m-a.m):=by
   conv=>lhs;unfold cF
   rw[h1]
  rw[e2] at hk⊢;obtain⟨i1,i2⟩:=wJ hm hD hS hT keep hS' hU n a.q (aE s a.sh) (m-a.m) (hD _ _ hs) h4 (fun b hb=>hk b (List.mem_cons_of_mem _ hb))
  have hka:=hk a (by simp)
  have ha':a∈arcs.filter keep:=List.mem_filter.2 ⟨h2,hka⟩;have hb:=(pU aE arcs to hD hS hT hs _).1 hc
  -- what leads on without the arcs leads on with them
  have sub:∀b∈arcs.filter keep,jA aE U p s (m,(n:Int)+1) b=true→jA aE T p s (m,(n:Int)+1) b=true:=by
   intro b hb' hl;unfold jA at hl⊢;simp only[Bool.and_eq_true,decide_eq_true_eq] at hl⊢;refine⟨hl.1,?_⟩;have hw:=Way.wider (fun x hx=>(List.mem_filter.1 hx).1) (hS' _ _ _ hl.2)
   obtain⟨d,k1,k2⟩:=jI aE arcs to hD hT hw (hD s b.sh hs);have h5:Way aE arcs to b.p s (d.1+b.m) (d.2+1):=Way.cons (List.mem_filter.1 hb').1 (hS _ _ _ k1);rw[hl.1] at h5;have h6:=hb.2 _ _ h5;rw[k1];congr 1
   unfold le2 at k2 h6;simp only at k2 h6;exact Prod.ext (by simp only;omega) (by simp only;omega)
  have hU1:U p s=some (m,(n:Int)+1):=by
   have hw:Way aE (arcs.filter keep) to a.p s (m-a.m+a.m) ((n:Int)+1):=Way.cons ha' (hS' _ _ _ i1);rw[h3,show m-a.m+a.m=m by omega] at hw
   obtain⟨d,k1,k2⟩:=jI aE (arcs.filter keep) to hD hU hw hs;have h6:=hb.2 _ _ (Way.wider (fun x hx=>(List.mem_filter.1 hx).1) (hS' _ _ _ k1))
   rw[k1,k2.anti h6]
  have hla:jA aE U p s (m,(n:Int)+1) a=true:=by
   unfold jA;simp only[Bool.and_eq_true,decide_eq_true_eq];exact⟨h3,by rw[i1,show(n:Int)+1-1=n by omega]⟩
  have hfind:(arcs.filter keep).find? (jA aE U p s (m,(n:Int)+1))=some a:=by
   rw[List.find?_eq_some_iff_append] at h1;obtain⟨_,l,r,he,hl⟩:=h1;rw[List.find?_eq_some_iff_append];refine⟨hla,l.filter keep,r.filter keep,?_,fun x hx=> ?_⟩
   ·rw[he,List.filter_append,List.filter_cons_of_pos hka]
   ·have hx2:=List.mem_filter.1 hx;have hx3:x∈arcs.filter keep:=List.mem_filter.2 ⟨by rw[he];simp[hx2.1],hx2.2⟩
    have:=hl x hx2.1
    cases e:jA aE U p s (m,(n:Int)+1) x
    ·rfl
    ·have:=sub x hx3 e;simp_all
  refine⟨hU1,?_⟩;conv=>lhs;unfold cF
  rw[hfind];simp only;rw[i2]
theorem Fp{D:Int→Prop}(hD:∀s b,D s→D (aE s b))(V:Int→Int→Int)(h0:V to 0=0)(hV:∀a∈arcs,∀s,D s→0≤V a.q (aE s a.sh)→0≤V a.p s∧V a.p s≤V a.q (aE s a.sh)+a.m){p s m k:Int}(w:Way aE arcs to p s m k):
 D s→0≤V p s∧V p s≤m:=by
 induction w with
 |nil=>exact fun _=>⟨by rw[h0];omega,by rw[h0];omega⟩
 | @cons a s m k ha _ ih=>
  intro hs;obtain⟨h1,h2⟩:=ih (hD _ _ hs);obtain⟨h3,h4⟩:=hV a ha s hs h1;exact⟨h3,by omega⟩
end
end Go.St
end
section
namespace Go.St
open Go Go.Bp Go.RowKit Go.Proofs
/-! ### loads -/
theorem Rb:(Tryz.prog.info? 43).map (fun i=>(i.zero,i.size,i.bytes))=some (some (.agg #[.int .i64 0,.int .i64 0,.int .i64 0,.int .i64 0,.slice none 0 0]),5,56):=by kernel_rfl
section
variable{w:World}{ad p:Addr}{k:Nat}
end
end Go.St
end
section
namespace Go.St
open Go.Bp
section
variable{less:Int→Int→Int}{arcs:List Arc}{to:Int}
end
namespace Town
variable(t:Town)(k:Task)
variable{t k}
theorem rB(h:TaskOk t k):PartOf t k k.show_:=by
 have:=aV.1 h.sh;exact Ft this.1 (by show _<t.sets;omega)
end Town
end Go.St
end
section
namespace Go.St
open Go Go.Bp Go.RowKit Go.Proofs
theorem yV(x:Tour):kT x x=true:=by simp[kT]
end Go.St
end
section
namespace Go.St
open Go.Bp
theorem yT{a:Int}(h:0≤a):bP 0 a=a:=by
 unfold bP;simp;omega
theorem Fz(a b:Int):aE (aE a (aE a b)) b=0:=by
 unfold aE;have:gO (gO a.toNat (gO a.toNat b.toNat)) b.toNat=0:=by
  rw[gH];intro i hi;rw[dZ,dZ] at hi;revert hi
  cases a.toNat.testBit i<;>cases b.toNat.testBit i<;>simp
 simp only[Int.toNat_natCast];exact_mod_cast this
namespace Town
variable{t:Town}{k:Task}
theorem Im{b:Int}:∀(l:List Step)(a:Int),(∀x∈l,x∈t.stepsAll k)→t.follow a l=(b,0)→∀s,0≤s→aE s (t.shownL k.time l)=0→Way aE (t.arcs k) b a s (t.metresL l) l.length
 | [],a,_,hf,s,h0,hs=>by
  have ha:a=b:=by simpa [follow] using hf
  have:s=0:=by
   have h2:aE s 0=s:=Cs h0 (by simp)
   have h3:t.shownL k.time []=0:=rfl;rw[h3,h2] at hs;exact hs
  rw[ha,this];exact Way.nil
 |x::l,a,hx,hf,s,h0,hs=>by
  have hin:=hx x (by simp)
  have hse:t.stepErr a x=0:=by
   refine Classical.byContradiction fun hn=> ?_
   unfold follow at hf;rw[if_pos hn] at hf;exact hn (congrArg Prod.snd hf)
  unfold follow at hf;rw[if_neg (by simp[hse])] at hf
  have hea:(t.ends x).1=a:=by
   refine Classical.byContradiction fun hn=> ?_
   unfold stepErr at hse;obtain⟨h1,_,h3⟩:=mem_stepsAll.1 hin;rw[if_neg (by simp[h1]),if_neg (by rintro⟨e1,e2⟩;rw[h3 e1] at e2;cases e2),if_pos hn] at hse
   cases hse
  rw[iU,←sK] at hs;have ih:=Im l (t.ends x).2 (fun y hy=>hx y (by simp[hy])) hf _ (cM s (t.shownAt k.time x)) hs
  have hm:t.arcOf k x∈t.arcs k:=by rw[arcs_map];exact List.mem_map_of_mem hin
  have:=Way.cons (a:=t.arcOf k x) (s:=s) hm ih;rw[jD,show((x::l).length:Int)=(l.length:Int)+1 by simp,Int.add_comm (t.at_ x.st).metres,←hea]
  exact this
theorem tM(h:TaskOk t k){m n:Int}(w:Way aE (t.arcs k) k.b k.a k.show_ m n):∃c,t.cost k k.a k.show_=some c∧le2 c (m,n):=by
 obtain⟨c,hc⟩:=sS (nI h) w;refine⟨c,?_,hc.2 _ _ w⟩;rw[nZ (rB h)];exact kP.2 hc
theorem Kx{c:Int×Int}(hc:t.cost k k.a k.show_=some c):Way aE (t.arcs k) k.b k.a k.show_ c.1 c.2:=cost_sound _ _ _ hc
/-! ### ANY way -/
theorem tO(h:TaskOk t k):∀(l:List Nat)(p:Int),inB p 0 (t.places.length-1)=true→(∀x∈t.takenTo k l p,x∈t.stepsAll k)∧(t.takenTo k l p).length≤l.length∧∃b,t.follow p (t.takenTo k l p)=(b,0)∧inB b 0 (t.places.length-1)=true
 | [],p,hp=>⟨by simp[takenTo],by simp[takenTo],p,rfl,hp⟩
 |n::l,p,hp=>by
  unfold takenTo
  cases hs:(t.canOf k p)[n%(t.canOf k p).length]? with
  |none=>exact⟨by simp,by simp,p,rfl,hp⟩
  |some s=>
   have hm:s∈t.canOf k p:=List.mem_of_getElem? hs;unfold canOf at hm;rw[List.mem_filter] at hm;obtain⟨hin,he⟩:=hm;have he':(t.ends s).1=p:=by simpa using he
   obtain⟨h1,_,h3⟩:=mem_stepsAll.1 hin;obtain⟨i1,i2,b,i3,i4⟩:=tO h l (t.ends s).2 (h.ok.ends h1).2;refine⟨?_,by simp only[List.length_cons];omega,b,?_,i4⟩
   ·intro x hx;rcases List.mem_cons.1 hx with rfl|hx
    ·exact hin
    ·exact i1 x hx
   ·have hse:t.stepErr p s=0:=by
     unfold stepErr;rw[if_neg (by simp[h1]),if_neg (by rintro⟨e1,e2⟩;rw[h3 e1] at e2;cases e2),if_neg (by simp[he'])]
    unfold follow;rw[if_neg (by simp[hse])]
    exact i3
theorem wB(h:TaskOk t k)(l:List Nat):∃b,WayL t k (t.taken k l) b:=by
 obtain⟨h1,h2,b,h3,h4⟩:=tO h (l.take 200) k.a h.a;have hl:(t.takenTo k (l.take 200) k.a).length≤200:=by simp at h2;omega
 refine⟨b,h1,?_,h3,h4,hl⟩;show t.stepsErr k.a (t.takenTo k (l.take 200) k.a)=_
 unfold stepsErr;rw[if_neg (by omega)];exact h3
theorem jM{a:Int}{l:List Step}{b:Int}(hc0:t.check.2.2=0)(ha:inB a 0 (t.places.length-1)=true){time:Int}(ht:inB time 0 (t.times.length-1)=true)(h:t.stepsErr a l=(b,0)):t.driveAns a time l=(t.tourOf time l,b,0):=by
 unfold driveAns;rw[if_neg (by simp[hc0]),if_neg (by simp[ha,ht]),if_neg (by rw[h];simp),h]
def aimed(t:Town)(k:Task)(l:List Step):Task×Int:=
 (if(t.driveAns k.a k.time l).2.2=0 then {k with b:=(t.driveAns k.a k.time l).2.1,show_:=cH k.show_ (cH k.show_ (t.driveAns k.a k.time l).1.shown)} else k,(t.driveAns k.a k.time l).1.metres)
theorem rX(b s:Int):∀n,t.stepsTo {k with b:=b,show_:=s} n=t.stepsTo k n
 |0=>rfl
 |n+1=>by unfold stepsTo;rw[rX b s n]
theorem xS(b s:Int):t.stepsAll {k with b:=b,show_:=s}=t.stepsAll k:=rX b s _
theorem Ll(h:TaskOk t k)(hc0:t.check.2.2=0){l:List Step}{b:Int}(hl:WayL t k l b):
 ∃s,t.aimed k l=({k with b:=b,show_:=s},t.metresL l)∧TaskOk t {k with b:=b,show_:=s}∧Way aE (t.arcs {k with b:=b,show_:=s}) b k.a s (t.metresL l) l.length:=by
 have hd:=jM hc0 h.a h.time hl.goes;have hsh:=aV.1 h.sh;have hset:=sets_bd h.ok.sh;have hbd:=jF h l hl.isOpen;have hsets:t.sets=2^t.shows.length:=rfl;have hss:(t.tourOf k.time l).shown=t.shownL k.time l:=rfl;have e1:cH k.show_ (t.shownL k.time l)=aE k.show_ (t.shownL k.time l):=dE hsh.1 (by omega) hbd.1
 have hn:=cM k.show_ (t.shownL k.time l);have e2:cH k.show_ (aE k.show_ (t.shownL k.time l))=aE k.show_ (aE k.show_ (t.shownL k.time l)):=dE hsh.1 (by omega) hn
 have hlt:=lL (b:=aE k.show_ (t.shownL k.time l)) (n:=t.shows.length) hsh.1 (by rw[←hsets];omega)
 have hn2:=cM k.show_ (aE k.show_ (t.shownL k.time l));refine⟨aE k.show_ (aE k.show_ (t.shownL k.time l)),?_,⟨h.ok,h.a,hl.place,h.time,(show inB (aE k.show_ (aE k.show_ (t.shownL k.time l))) 0 (t.sets-1)=true from aV.2 ⟨hn2,by rw[hsets];omega⟩),h.cl,h.closed⟩,?_⟩
 ·unfold aimed;rw[hd];simp only[if_true];rw[hss,e1,e2];rfl
 ·exact Im (k:={k with b:=b,show_:=aE k.show_ (aE k.show_ (t.shownL k.time l))}) l k.a (by rw[xS];exact hl.isOpen) hl.follow _ hn2 (Fz _ _)
theorem xI(h:TaskOk t k)(hc0:t.check.2.2=0){c:Int×Int}(hb:BestT t k c):t.doesB k (t.tourOf k.time (t.bestSteps k))=true:=by
 have hd:=jM hc0 h.a h.time hb.drive;have hst:(t.tourOf k.time (t.bestSteps k)).steps=t.bestSteps k:=rfl;have hsh:=aV.1 h.sh;have hset:=sets_bd h.ok.sh;have hbd:=jF h _ hb.isOpen;have hss:(t.tourOf k.time (t.bestSteps k)).shown=t.shownL k.time (t.bestSteps k):=rfl;have e1:cH k.show_ (t.tourOf k.time (t.bestSteps k)).shown=0:=by rw[dE hsh.1 (by omega) (by rw[hss];exact hbd.1)];exact hb.all
 unfold doesB;rw[hst,hd,yV];simp only[e1,decide_true,Bool.and_true,List.all_eq_true,decide_eq_true_eq];exact fun x hx=>(mem_stepsAll.1 (hb.isOpen x hx)).2.1
end Town
end Go.St
end
section
namespace Go.St
open Go.Bp
namespace Town
variable{t:Town}{k:Task}
/-! ### Table proves -/
/-! ### No tour is shorter -/
theorem lO(he:t.taskErr k=0):(t.cost k k.a k.show_=none∧t.findAns k=(⟨[],0,0,0,0⟩,9))∨∃c,BestT t k c∧t.doesB k (t.findAns k).1=true:=by
 have h:=taskOk_of he;have hc0:=check_of he
 cases e:t.cost k k.a k.show_ with
 |none=>exact .inl ⟨rfl,find_none h hc0 e⟩
 |some c=>
  have hb:=best_t h hc0 e;exact .inr ⟨c,hb,by rw[hb.find];exact xI h hc0 hb⟩
theorem Qm(he:t.taskErr k=0)(x:List Nat):∃k2 m,t.aimed k (t.taken k x)=(k2,m)∧t.taskErr k2=0∧(t.findAns k2).2=0∧t.doesB k2 (t.findAns k2).1=true∧(t.findAns k2).1.metres≤m∧
 ((t.findAns k2).1.metres<m∨(t.findAns k2).1.steps.length≤(t.taken k x).length)∧Way aE (t.arcs k2) k2.b k2.a k2.show_ m (t.taken k x).length:=by
 have h:=taskOk_of he;have hc0:=check_of he;obtain⟨b,hl⟩:=wB h x;obtain⟨s,ha,hk,hw⟩:=Ll h hc0 hl;obtain⟨c,hc,hle⟩:=tM hk hw;have hb:=best_t hk hc0 hc;have hd:=xI hk hc0 hb;refine⟨_,_,ha,fS hc0 hk,by rw[hb.find],by rw[hb.find];exact hd,?_,?_,hw⟩
 ·rw[hb.find,hb.metres];unfold le2 at hle;simp only at hle;omega
 ·rw[hb.find,hb.metres];have:=hb.len;unfold le2 at hle;simp only at hle;rcases hle with hle|⟨_,hle⟩
  ·exact .inl hle
  ·refine .inr ?_;show(t.bestSteps _).length≤_
   omega
theorem Pt{rows:List (List Int)}(he:t.taskErr k=0){b:Bool}{e:Int}(hp:t.provesAns k rows=(b,e))(hb:b=true){m n:Int}(w:Way aE (t.arcs k) k.b k.a k.show_ m n):0≤eP rows k.a k.show_∧eP rows k.a k.show_≤m:=by
 have h:=taskOk_of he;subst hb;have hP:t.ProvesP k rows:=by
  unfold provesAns at hp;rw[if_neg (by simp[he])] at hp
  split at hp
  ·cases hp
  ·split at hp
   ·cases hp
   ·simpa using congrArg Prod.fst hp
 obtain⟨h0,hV⟩:=hP;refine Fp (D:=PartOf t k) (fun s b hs=>gM s b hs) (fun p s=>eP rows p s) h0 (fun a ha s hs hq=> ?_) w (rB h)
 rw[arcs_map] at ha;obtain⟨x,hx,rfl⟩:=List.mem_map.1 ha;obtain⟨n,rfl⟩:∃n:Nat,s=n:=⟨s.toNat,by have:=hs.1;omega⟩
 exact hV x hx n (yA h hs) hs.2.2 hq
/-! ### By way of another place -/
theorem nR(h:TaskOk t k){a b s:Int}(ha:inB a 0 (t.places.length-1)=true)(hb:inB b 0 (t.places.length-1)=true)(hs:inB s 0 (t.sets-1)=true):TaskOk t {k with a:=a,b:=b,show_:=s}:=⟨h.ok,ha,hb,h.time,hs,h.cl,h.closed⟩
theorem oB(a b s:Int):t.arcs {k with a:=a,b:=b,show_:=s}=t.arcs k:=by
 have hs:t.stepsAll {k with a:=a,b:=b,show_:=s}=t.stepsAll k:=by
  unfold stepsAll;generalize t.streets.length=n;induction n with
  |zero=>rfl
  |succ n ih=>unfold stepsTo;rw[ih]
 rw[arcs_map,arcs_map,hs];rfl
theorem jW(he:t.taskErr k=0)(h0:(t.findAns k).2=0):∃c:Int×Int,(t.findAns k).1.metres=c.1∧((t.findAns k).1.steps.length:Int)=c.2∧Way aE (t.arcs k) k.b k.a k.show_ c.1 c.2∧∀m n,Way aE (t.arcs k) k.b k.a k.show_ m n→le2 c (m,n):=by
 have h:=taskOk_of he;have hc0:=check_of he
 cases e:t.cost k k.a k.show_ with
 |none=>rw[find_none h hc0 e] at h0;simp at h0
 |some c=>
  have hb:=best_t h hc0 e;refine⟨c,by rw[hb.find];exact hb.metres,by rw[hb.find];exact hb.len,Kx e,fun m n w=> ?_⟩
  obtain⟨d,hd,hle⟩:=tM h w;rw[e] at hd;rw[Option.some.inj hd];exact hle
theorem mS(he:t.taskErr k=0){m n:Int}(w:Way aE (t.arcs k) k.b k.a k.show_ m n):(t.findAns k).2=0∧(t.findAns k).1.metres≤m:=by
 have h:=taskOk_of he;have hc0:=check_of he;obtain⟨c,hc,hle⟩:=tM h w;have hb:=best_t h hc0 hc;refine⟨by rw[hb.find],?_⟩
 rw[hb.find,hb.metres];unfold le2 at hle;simp only at hle;omega
theorem jH(he:t.taskErr k=0):(t.findAns k).2=0∨(t.findAns k).2=9:=by
 rcases lO he with ⟨_,h⟩|⟨c,hb,_⟩
 ·right;rw[h]
 ·left;rw[hb.find]
theorem Te(he:t.taskErr k=0){p s u:Int}(hp:inB p 0 (t.places.length-1)=true)(hs:inB s 0 (t.sets-1)=true)(hu:inB u 0 (t.sets-1)=true)(hsu:∀i,k.show_.toNat.testBit i=true→s.toNat.testBit i=true∨u.toNat.testBit i=true)
 (h1:(t.findAns {k with b:=p,show_:=s}).2=0)(h2:(t.findAns {k with a:=p,show_:=u}).2=0):
 (t.findAns k).2=0∧(t.findAns k).1.metres≤(t.findAns {k with b:=p,show_:=s}).1.metres+(t.findAns {k with a:=p,show_:=u}).1.metres:=by
 have h:=taskOk_of he;have hc0:=check_of he;have e1:=fS hc0 (nR h h.a hp hs);have e2:=fS hc0 (nR h hp h.b hu);obtain⟨c,q1,_,w1,_⟩:=jW e1 h1;obtain⟨d,q2,_,w2,_⟩:=jW e2 h2;have a1:t.arcs {k with b:=p,show_:=s}=t.arcs k:=oB k.a p s
 have a2:t.arcs {k with a:=p,show_:=u}=t.arcs k:=oB p k.b u
 rw[a1] at w1;rw[a2] at w2;have:=Way.join w1 w2 k.show_ (aV.1 h.sh).1 (fun i hi=>by rw[lS];rcases hsu i hi with h|h<;>simp[h])
 have:=mS he this;rw[q1,q2];exact this
end Town
end Go.St
end
section
namespace Go.St
open Go.Bp
namespace Town
variable{t:Town}{k:Task}
theorem Gj{t1 t2:Town}{k1 k2:Task}(h1:t1.taskErr k1=0)(h2:t2.taskErr k2=0)(hw:∀m n,Way aE (t1.arcs k1) k1.b k1.a k1.show_ m n↔Way aE (t2.arcs k2) k2.b k2.a k2.show_ m n):
 (t1.findAns k1).2=(t2.findAns k2).2∧(t1.findAns k1).1.metres=(t2.findAns k2).1.metres∧(t1.findAns k1).1.steps.length=(t2.findAns k2).1.steps.length:=by
 rcases jH h1 with e1|e1
 ·obtain⟨c,c1,c2,c3,c4⟩:=jW h1 e1;have e2:=(mS h2 ((hw _ _).1 c3)).1;obtain⟨d,d1,d2,d3,d4⟩:=jW h2 e2;have:=(c4 _ _ ((hw _ _).2 d3)).anti (d4 _ _ ((hw _ _).1 c3));have hc:c=d:=this;subst hc;exact⟨by rw[e1,e2],by rw[c1,d1],by omega⟩
 ·rcases jH h2 with e2|e2
  ·obtain⟨d,d1,d2,d3,d4⟩:=jW h2 e2;have:=(mS h1 ((hw _ _).2 d3)).1;rw[e1] at this;cases this
  ·rcases lO h1 with ⟨_,f1⟩|⟨c,hb,_⟩
   ·rcases lO h2 with ⟨_,f2⟩|⟨c,hb,_⟩
    ·rw[f1,f2];exact⟨rfl,rfl,rfl⟩
    ·rw[hb.find] at e2;cases e2
   ·rw[hb.find] at e1;cases e1
/-! ### the way back -/
def Ev(s:Street):Street:={s with both:=true}
def allBoth(t:Town):Town:={t with streets:=t.streets.map Ev}
theorem Ny{i:Int}(hi:inB i 0 (t.streets.length-1)=true):t.allBoth.at_ i=Ev (t.at_ i):=by
 have:=aV.1 hi;have h:i.toNat<t.streets.length:=by omega
 unfold at_ allBoth;simp[List.getD,h]
theorem wT{α:Type}{p q:α→Bool}:∀{l:List α},(∀a∈l,p a=q a)→l.find? p=l.find? q
 | [],_=>rfl
 |a::l,h=>by
  rw[List.find?_cons,List.find?_cons,h a (by simp),wT (fun b hb=>h b (List.mem_cons_of_mem _ hb))]
theorem Be(s:Street):t.allBoth.streetErr (Ev s)=t.streetErr s:=rfl
theorem Bd{i:Nat}(hi:i<t.streets.length)(d:Street):t.allBoth.streets.getD i d=Ev (t.streets.getD i d):=by
 unfold allBoth;simp[List.getD,hi]
theorem yJ:t.allBoth.streetsErr=t.streetsErr:=by
 unfold streetsErr;have hl:t.allBoth.streets.length=t.streets.length:=by simp[allBoth]
 have e:(List.range t.allBoth.streets.length).find? (fun i=>decide (t.allBoth.streetErr (t.allBoth.streets.getD i ⟨0,0,0,0,0,false,[]⟩)≠0))=(List.range t.streets.length).find? (fun i=>decide (t.streetErr (t.streets.getD i ⟨0,0,0,0,0,false,[]⟩)≠0)):=by
  rw[hl];refine wT fun i hi=> ?_
  rw[Bd (List.mem_range.1 hi),Be]
 rw[e]
 cases hf:(List.range t.streets.length).find? (fun i=>decide (t.streetErr (t.streets.getD i ⟨0,0,0,0,0,false,[]⟩)≠0)) with
 |none=>rfl
 |some i=>
  have:=List.mem_range.1 (List.mem_of_find?_eq_some hf);simp only;rw[Bd this,Be]
theorem Dp:t.allBoth.check=t.check:=by
 unfold check;rw[yJ];have hl:t.allBoth.streets.length=t.streets.length:=by simp[allBoth]
 rw[hl];rfl
theorem Ih:t.allBoth.taskErr k=t.taskErr k:=by
 unfold taskErr;rw[Dp];have hl:t.allBoth.streets.length=t.streets.length:=by simp[allBoth]
 rw[hl];rfl
theorem xG{k2:Task}(hc:k2.closed=k.closed)(ht:k2.time=k.time):∀a∈t.allBoth.arcs k,∃b∈t.allBoth.arcs k2,b.p=a.q∧b.q=a.p∧b.m=a.m∧b.sh=a.sh:=by
 intro a ha;rw[arcs_map] at ha;obtain⟨x,hx,rfl⟩:=List.mem_map.1 ha;obtain⟨h1,h2,_⟩:=mem_stepsAll.1 hx;have hl:t.allBoth.streets.length=t.streets.length:=by simp[allBoth]
 have hat:=Ny (t:=t) (i:=x.st) (by rw[←hl];exact h1)
 have hy:(⟨x.st,!x.bk⟩:Step)∈t.allBoth.stepsAll k2:=mem_stepsAll.2 ⟨h1,by rw[hc];exact h2,fun _=>by show(t.allBoth.at_ x.st).both=true;rw[hat];rfl⟩
 refine⟨t.allBoth.arcOf k2 ⟨x.st,!x.bk⟩,by rw[arcs_map];exact List.mem_map_of_mem hy,?_,?_,rfl,?_⟩
 ·show(t.allBoth.ends ⟨x.st,!x.bk⟩).1=(t.allBoth.ends x).2
  unfold ends;cases x.bk<;>rfl
 ·show(t.allBoth.ends ⟨x.st,!x.bk⟩).2=(t.allBoth.ends x).1
  unfold ends;cases x.bk<;>rfl
 ·show t.allBoth.shownAt k2.time ⟨x.st,!x.bk⟩=t.allBoth.shownAt k.time x
  unfold shownAt;rw[ht]
theorem Ij:t.arcs {k with a:=k.b,b:=k.a}=t.arcs k:=oB k.b k.a k.show_
theorem Qx(he:t.taskErr k=0):
 (t.allBoth.findAns k).2=(t.allBoth.findAns {k with a:=k.b,b:=k.a}).2∧(t.allBoth.findAns k).1.metres=(t.allBoth.findAns {k with a:=k.b,b:=k.a}).1.metres∧(t.allBoth.findAns k).1.steps.length=(t.allBoth.findAns {k with a:=k.b,b:=k.a}).1.steps.length:=by
 have he1:t.allBoth.taskErr k=0:=by rw[Ih];exact he
 have h:=taskOk_of he1;have hc0:=check_of he1;have he2:t.allBoth.taskErr {k with a:=k.b,b:=k.a}=0:=fS hc0 (nR h h.b h.a h.sh)
 have hs:=(aV.1 h.sh).1;have ha:t.allBoth.arcs {k with a:=k.b,b:=k.a}=t.allBoth.arcs k:=Ij
 refine Gj he1 he2 fun m n=>⟨fun w=> ?_,fun w=> ?_⟩
 ·rw[ha];exact Way.back (xG rfl rfl) w hs
 ·rw[ha] at w;exact Way.back (xG rfl rfl) w hs
/-! ### two parts of a tour -/
theorem Cx:∀(l m:List Step)(a b:Int),t.follow a l=(b,0)→t.follow a (l++m)=t.follow b m
 | [],m,a,b,h=>by
  unfold follow at h;have:a=b:=congrArg Prod.fst h;rw[this];rfl
 |x::l,m,a,b,h=>by
  unfold follow at h;by_cases hs:t.stepErr a x=0
  ·rw[if_neg (by simp[hs])] at h
   rw[List.cons_append];conv=>lhs;unfold follow
   rw[if_neg (by simp[hs]),Cx l m _ _ h]
  ·rw[if_pos hs] at h;exact absurd (congrArg Prod.snd h) hs
theorem sL:∀(l m:List Step)(a b:Int),t.follow a (l++m)=(b,0)→∃c,t.follow a l=(c,0)∧t.follow c m=(b,0)
 | [],m,a,b,h=>⟨a,rfl,h⟩
 |x::l,m,a,b,h=>by
  rw[List.cons_append] at h;unfold follow at h;by_cases hs:t.stepErr a x=0
  ·rw[if_neg (by simp[hs])] at h
   obtain⟨c,h1,h2⟩:=sL l m _ _ h;refine⟨c,?_,h2⟩;unfold follow;rw[if_neg (by simp[hs])];exact h1
  ·rw[if_pos hs] at h;exact absurd (congrArg Prod.snd h) hs
theorem Ae(l m:List Step):t.metresL (l++m)=t.metresL l+t.metresL m:=by
 induction l with
 |nil=>simp[metresL]
 |cons x l ih=>rw[List.cons_append,jD,jD,ih];omega
theorem Aq{α:Type}(f:α→Int)(l m:List α):(l++m).foldl (fun n x=>n+f x) 0=l.foldl (fun n x=>n+f x) 0+m.foldl (fun n x=>n+f x) 0:=by
 rw[List.foldl_append,qU f m]
theorem Cd(time:Int)(l m:List Step):t.shownL time (l++m)=bP (t.shownL time l) (t.shownL time m):=by
 induction l with
 |nil=>
  rw[List.nil_append];show _=bP 0 _
  unfold shownL;rw[yT];have:∀(m:List Step)(u:Int),0≤u→0≤m.foldl (fun n x=>bP n (t.shownAt time x)) u:=by
   intro m;induction m with
   |nil=>intro u hu;exact hu
   |cons y m ih=>intro u _;exact ih _ (iI _ _)
  exact this m 0 (by omega)
 |cons x l ih=>rw[List.cons_append,iU,iU,ih,lT]
end Town
end Go.St
end
section
namespace Go.St
open Go.Bp
namespace Town
variable{t:Town}{k:Task}
/-! ### a street closed more -/
theorem Ec(h:TaskOk t k){s:Int}(hs:inB s 0 (t.streets.length-1)=true)(hl:k.closed.length+1≤40):TaskOk t (mP k s):=by
 refine⟨h.ok,h.a,h.b,h.time,h.sh,?_,?_⟩
 ·show(k.closed++ [s]).length≤40
  rw[List.length_append];simpa using hl
 ·intro n hn;rcases List.mem_append.1 (show n∈k.closed++ [s] from hn) with hn|hn
  ·exact h.closed n hn
  ·rw[List.mem_singleton.1 hn];exact hs
def uL(s:Int)(a:Arc):Bool:=decide (a.st≠s)
theorem oC(s:Int):t.arcs (mP k s)=(t.arcs k).filter (uL s):=by
 unfold arcs;generalize t.streets.length=n;unfold arcsTo;rw[List.filter_flatMap];congr 1
 funext i
 show(if(i:Int)∈k.closed++ [s] then _ else _)=_
 by_cases h1:(i:Int)∈k.closed
 ·rw[if_pos (List.mem_append_left _ h1),if_pos h1];rfl
 ·by_cases h2:(i:Int)=s
  ·rw[if_pos (by rw[h2];simp),if_neg h1]
   by_cases hb:(t.at_ i).both=true<;>simp[uL,h2,hb]
  ·rw[if_neg (by simp[h1,h2]),if_neg h1]
   by_cases hb:(t.at_ i).both=true<;>simp[uL,h2,mP,hb]
theorem Fe(he:t.taskErr k=0){s:Int}(hs:inB s 0 (t.streets.length-1)=true)(hl:k.closed.length+1≤40)(hu:∀x∈(t.findAns k).1.steps,x.st≠s)(h0:(t.findAns k).2=0):t.findAns (mP k s)=t.findAns k:=by
 have h:=taskOk_of he;have hc0:=check_of he;have h2:=Ec h hs hl;rcases lO he with ⟨_,e⟩|⟨c,hb,_⟩
 ·rw[e] at h0;simp at h0
 ·have hf:=hb.find;rw[hf] at hu;have hu':∀x∈t.bestSteps k,x.st≠s:=hu;have hbd:=cost_bd h hb.cost;have hc2:t.cost k k.a k.show_=some (c.1,((c.2.toNat:Nat):Int)):=by rw[hb.cost];congr 1;exact Prod.ext rfl (by simp only;omega)
  have hbs:=bestSteps_eq hc2;have hS:fJ aE ((t.arcs k).filter (uL s)) k.b (t.cost (mP k s)):=by rw[←oC];exact cost_sound
  have hU:eY aE ((t.arcs k).filter (uL s)) k.b (PartOf t k) (t.cost (mP k s)):=by
   have:=eJ h2;rw[oC] at this;exact this
  obtain⟨p1,p2⟩:=wJ (nI h) (fun s b hs=>gM s b hs) cost_sound (eJ h) (uL s) hS hU c.2.toNat k.a k.show_ c.1 (rB h) hc2 (by
   intro a ha;have:stepOf a∈t.bestSteps k:=by rw[hbs];exact List.mem_map_of_mem ha
   have:=hu' _ this;simpa [uL,stepOf] using this)
  have hcs:t.cost (mP k s) (mP k s).a (mP k s).show_=some (c.1,((c.2.toNat:Nat):Int)):=p1;have hb2:=best_t h2 hc0 hcs;have hbs2:=bestSteps_eq hcs;have:t.bestSteps (mP k s)=t.bestSteps k:=by
   rw[hbs2,hbs,oC];exact congrArg (List.map stepOf) p2
  rw[hb2.find,hf,this];rfl
theorem Qt(he:t.taskErr k=0){s:Int}(hs:inB s 0 (t.streets.length-1)=true)(hl:k.closed.length+1≤40):
 t.taskErr (mP k s)=0∧((t.findAns (mP k s)).2=0∨(t.findAns (mP k s)).2=9)∧((t.findAns (mP k s)).2=0→(t.findAns k).2=0∧(t.findAns k).1.metres≤(t.findAns (mP k s)).1.metres)∧((∀x∈(t.findAns k).1.steps,x.st≠s)→t.findAns (mP k s)=t.findAns k):=by
 have h:=taskOk_of he;have hc0:=check_of he;have he2:=fS hc0 (Ec h hs hl);have h3:(t.findAns (mP k s)).2=0→(t.findAns k).2=0∧(t.findAns k).1.metres≤(t.findAns (mP k s)).1.metres:=fun h0=>by
  obtain⟨c,c1,_,c3,_⟩:=jW he2 h0;rw[oC] at c3;have:=mS he (Way.wider (fun x hx=>(List.mem_filter.1 hx).1) c3)
  rw[c1];exact this
 refine⟨he2,jH he2,h3,fun hu=> ?_⟩
 rcases jH he with e|e
 ·exact Fe he hs hl hu e
 ·rcases jH he2 with e2|e2
  ·rw[(h3 e2).1] at e;cases e
  ·rcases lO he with ⟨_,f1⟩|⟨c,hb,_⟩
   ·rcases lO he2 with ⟨_,f2⟩|⟨c,hb,_⟩
    ·rw[f1,f2]
    ·rw[hb.find] at e2;cases e2
   ·rw[hb.find] at e;cases e
theorem Qv(he:t.taskErr k=0){s:Int}(hs:inB s 0 (t.sets-1)=true)(hsub:Sub k.show_ s):
 t.taskErr (Cp k s)=0∧((t.findAns (Cp k s)).2=0∨(t.findAns (Cp k s)).2=9)∧((t.findAns (Cp k s)).2=0→(t.findAns k).2=0∧(t.findAns k).1.metres≤(t.findAns (Cp k s)).1.metres):=by
 have h:=taskOk_of he;have hc0:=check_of he;have he2:t.taskErr (Cp k s)=0:=fS hc0 (nR h h.a h.b hs);refine⟨he2,jH he2,fun h0=> ?_⟩
 obtain⟨c,c1,_,c3,_⟩:=jW he2 h0;have ha:t.arcs (Cp k s)=t.arcs k:=oB k.a k.b s;rw[ha] at c3;have:=mS he (Way.part c3 k.show_ (aV.1 h.sh).1 hsub);rw[c1];exact this
/-! ### the sums of two parts -/
theorem Mn(a b:Nat):a|||b=a+gO b a:=by
 have h:=wM b a;have e:a|||b=a|||gO b a:=by
  apply Nat.eq_of_testBit_eq;intro i;rw[Nat.testBit_or,Nat.testBit_or,dZ]
  cases a.testBit i<;>cases b.testBit i<;>rfl
 rw[e];have h2:∀(n x y:Nat),x<2^n→x&&&y=0→x|||y=x+y:=by
  intro n;induction n with
  |zero=>
   intro x y hx _;obtain rfl:x=0:=by simpa using hx
   simp
  |succ n ih=>
   intro x y hx hxy;have e1:=congrArg (· /2) hxy
   have e2:=congrArg (· %2) hxy
   simp only[Nat.and_div_two,Nat.zero_div] at e1;have i1:=ih (x/2) (y/2) (by rw[Nat.pow_succ] at hx;omega) e1
   have i2:(x|||y)/2=x/2|||y/2:=Nat.or_div_two;have i3:(x|||y)%2=x%2+y%2:=by
    have b1:(x|||y)%2<2:=Nat.mod_lt _ (by omega)
    have b2:x%2<2:=Nat.mod_lt _ (by omega)
    have b3:y%2<2:=Nat.mod_lt _ (by omega)
    have b4:x&&&y=0:=hxy;have t3:((x&&&y)%2=1)↔(x%2=1∧y%2=1):=by
     have:=Nat.testBit_and x y 0;simp only[Nat.testBit_zero] at this;have h9:=Bool.eq_iff_iff.1 this;simpa using h9
    have t4:((x|||y)%2=1)↔(x%2=1∨y%2=1):=by
     have:=Nat.testBit_or x y 0;simp only[Nat.testBit_zero] at this;have h9:=Bool.eq_iff_iff.1 this;simpa using h9
    rw[b4] at t3;omega
   omega
 obtain⟨n,hn⟩:∃n,a<2^n:=⟨a,Nat.lt_two_pow_self⟩;exact h2 n a _ hn (by rw[Nat.and_comm];exact h)
theorem Bv{a b:Int}(ha:0≤a):bP a b=a+aE b a:=by
 obtain⟨x,rfl⟩:∃n:Nat,a=n:=⟨a.toNat,by omega⟩
 unfold bP aE;simp only[Int.toNat_natCast];rw[Mn];push_cast;rfl
theorem Qu(he:t.taskErr k=0)(x:List Nat)(c:Nat):∃b mid:Int,t.driveAns k.a k.time (t.taken k x)=(t.tourOf k.time (t.taken k x),b,0)∧t.driveAns k.a k.time ((t.taken k x).take c)=(t.tourOf k.time ((t.taken k x).take c),mid,0)∧
 inB mid 0 (t.places.length-1)=true∧t.driveAns mid k.time ((t.taken k x).drop c)=(t.tourOf k.time ((t.taken k x).drop c),b,0)∧
 (t.tourOf k.time (t.taken k x)).metres=(t.tourOf k.time ((t.taken k x).take c)).metres+(t.tourOf k.time ((t.taken k x).drop c)).metres∧
 (t.tourOf k.time (t.taken k x)).lo=(t.tourOf k.time ((t.taken k x).take c)).lo+(t.tourOf k.time ((t.taken k x).drop c)).lo∧
 (t.tourOf k.time (t.taken k x)).hi=(t.tourOf k.time ((t.taken k x).take c)).hi+(t.tourOf k.time ((t.taken k x).drop c)).hi∧
 (t.tourOf k.time (t.taken k x)).shown=(t.tourOf k.time ((t.taken k x).take c)).shown+cH (t.tourOf k.time ((t.taken k x).drop c)).shown (t.tourOf k.time ((t.taken k x).take c)).shown:=by
 have h:=taskOk_of he;have hc0:=check_of he;obtain⟨b,hl⟩:=wB h x;generalize t.taken k x=l at hl⊢;have hlen:=hl.len;have e:l.take c++l.drop c=l:=List.take_append_drop c l;have hf:=hl.follow;rw[←e] at hf;obtain⟨mid,f1,f2⟩:=sL _ _ _ _ hf;have hm1:∀y∈l.take c,y∈t.stepsAll k:=fun y hy=>hl.isOpen y (List.mem_of_mem_take hy)
 have hm2:∀y∈l.drop c,y∈t.stepsAll k:=fun y hy=>hl.isOpen y (List.mem_of_mem_drop hy)
 have hmid:inB mid 0 (t.places.length-1)=true:=by
  have:∀(m:List Step)(p q:Int),inB p 0 (t.places.length-1)=true→(∀y∈m,y∈t.stepsAll k)→t.follow p m=(q,0)→inB q 0 (t.places.length-1)=true:=by
   intro m;induction m with
   |nil=>intro p q hp _ hf;have e9:p=q:=congrArg Prod.fst hf;rw[←e9];exact hp
   |cons y m ih=>
    intro p q hp hy hf;unfold follow at hf;by_cases hs:t.stepErr p y=0
    ·rw[if_neg (by simp[hs])] at hf
     obtain⟨h1,_,_⟩:=mem_stepsAll.1 (hy y (by simp))
     exact ih _ _ (h.ok.ends h1).2 (fun z hz=>hy z (by simp[hz])) hf
    ·rw[if_pos hs] at hf;exact absurd (congrArg Prod.snd hf) hs
  exact this _ _ _ h.a hm1 f1
 have s1:t.stepsErr k.a (l.take c)=(mid,0):=by unfold stepsErr;rw[if_neg (by rw[List.length_take];omega)];exact f1
 have s2:t.stepsErr mid (l.drop c)=(b,0):=by unfold stepsErr;rw[if_neg (by rw[List.length_drop];omega)];exact f2
 have hb1:=jF h _ hm1;have hb2:=jF h _ hm2;have hset:=sets_bd h.ok.sh;refine⟨b,mid,jM hc0 h.a h.time hl.goes,jM hc0 h.a h.time s1,hmid,jM hc0 hmid h.time s2,?_,?_,?_,?_⟩
 ·show t.metresL l=t.metresL (l.take c)+t.metresL (l.drop c)
  rw[←Ae,e]
 ·show l.foldl (fun n x=>n+(t.at_ x.st).lo) 0=(l.take c).foldl (fun n x=>n+(t.at_ x.st).lo) 0+(l.drop c).foldl (fun n x=>n+(t.at_ x.st).lo) 0
  rw[←Aq,e]
 ·show l.foldl (fun n x=>n+(t.at_ x.st).hi) 0=(l.take c).foldl (fun n x=>n+(t.at_ x.st).hi) 0+(l.drop c).foldl (fun n x=>n+(t.at_ x.st).hi) 0
  rw[←Aq,e]
 ·show t.shownL k.time l=t.shownL k.time (l.take c)+cH (t.shownL k.time (l.drop c)) (t.shownL k.time (l.take c))
  rw[dE hb2.1 (by omega) hb1.1,←Bv hb1.1,←Cd,e]
end Town
end Go.St
end
section
namespace Go.St
open Go Go.Bp Go.RowKit Go.Proofs
def Qo(w:World)(k:Task)(m:Int)(e:Ending)(w':World):Prop:=∃v,e=.returned (.tuple #[v,.int .i64 m])∧bA w' v k∧Ext w w'
theorem Town.aimed_eq{t:Town}{k:Task}{l:List Step}{y:Tour}{b e:Int}(h:t.driveAns k.a k.time l=(y,b,e)):t.aimed k l=(if e=0 then {k with b:=b,show_:=cH k.show_ (cH k.show_ y.shown)} else k,y.metres):=by
 unfold Town.aimed;rw[h]
set_option maxHeartbeats 8000000 in
theorem Yg(tv kv lv:Value)(t:Town)(k:Task)(l:List Step)(w:World)(h:aM w tv t)(hk:bA w kv k)(hL:bY w lv l)(he:t.taskErr k=0)(ho:∀x∈l,x.st∉k.closed):
 Calls Tryz.prog 41 #[tv,kv,lv] w (fun e w'=>∃cv,kv=.agg #[.int .i64 k.a,.int .i64 k.b,.int .i64 k.show_,.int .i64 k.time,cv]∧e=.returned (.tuple #[.agg #[.int .i64 (t.aimed k l).1.a,.int .i64 (t.aimed k l).1.b,.int .i64 (t.aimed k l).1.show_,.int .i64 (t.aimed k l).1.time,cv],.int .i64 (t.aimed k l).2])∧Ext w w'):=by
 have hT0:=h;obtain⟨pv,shv,tmv,xsv,rfl,hT⟩:=h;obtain⟨A1,cp1,rfl,_,_,_,_⟩:=hT.places;obtain⟨A2,cp2,rfl,_,_,_,_⟩:=hT.shows;obtain⟨A3,cp3,rfl,_,_,_,_⟩:=hT.times;obtain⟨A4,cp4,rfl,_,_,_⟩:=hT.streets;clear hT;obtain⟨cv,rfl,hC⟩:=hk;obtain⟨A5,cp5,rfl,_⟩:=id hC;obtain⟨⟨y,b,e⟩,hd⟩:∃r,t.driveAns k.a k.time l=r:=⟨_,rfl⟩;have HD:=Lib.hid (fun W v u(h:aM W v t)(h2:bY W u l)=>by have:=mK v u t k.a k.time l W h h2;rw[hd] at this;exact this)
 have hsh:=(aV.1 (Town.taskOk_of he).sh);have hsets:=Town.sets_bd (Town.taskOk_of he).ok.sh;have hbd:=fun h=>Town.shown_bd he (l:=l) ho h
 rw[hd] at hbd;simp only at hbd;have hai:=Town.aimed_eq hd;have hE:=Ext.refl w;clear hd he ho;by_cases h0:e=0
 ·subst h0;obtain⟨l1,l2⟩:=hbd rfl;have hs0:0≤k.show_:=hsh.1;have hs64:k.show_≤64:=by omega
  have hlt:∀x:Int,0≤x→0≤cH k.show_ x∧cH k.show_ x≤128:=fun x hx=>by
   rw[dE hs0 (by omega) hx]
   have h1:=cM k.show_ x;have h2:=lL (b:=x) (n:=7) hs0 (show k.show_<2^7 by omega)
   omega
  obtain⟨s1,hs1⟩:∃s,cH k.show_ y.shown=s:=⟨_,rfl⟩;obtain⟨s2,hs2⟩:∃s,cH k.show_ s1=s:=⟨_,rfl⟩;have b1:=hlt _ l1;rw[hs1] at b1;have hL1:∀W,Calls Tryz.prog 44 #[.int .i64 k.show_,.int .i64 y.shown] W fun e w'=>e=.returned (.int .i64 s1)∧W=w':=fun W=>by rw[←hs1];exact fI k.show_ y.shown ⟨by omega,by omega⟩ ⟨by omega,by omega⟩ W
  have hL2:∀W,Calls Tryz.prog 44 #[.int .i64 k.show_,.int .i64 s1] W fun e w'=>e=.returned (.int .i64 s2)∧W=w':=fun W=>by rw[←hs2];exact fI k.show_ s1 ⟨by omega,by omega⟩ ⟨by omega,by omega⟩ W
  have Hai:=Lib.hid (show t.aimed k l=({k with b:=b,show_:=s2},y.metres) by rw[hai,if_pos rfl,hs1,hs2])
  clear hai hlt hs1 hs2 hbd;go_enter Tryz.func41,Tryz.ntmps41
  go_wp2_with (first|(((with_reducible refine aF (d:=some 4) ?_);intro W4 g4 hE4 hB4 hg4;have hg40:=Nat.le_trans hE.size hg4;simp[Act.eval,Act.put,Value.cells] at hB4;have lt4:=hB4.lt;replace hE:=hE.trans hE4;(try replace hT0:=hT0.ext hE4);(try replace hL:=hL.ext hE4);(try replace hB3:=hB3.ext hE4);have hb4_0:=hB4.cell 0;have hb4_3:=hB4.cell 3;simp at hb4_0 hb4_3))|((with_reducible refine aS (d:=some 6) Rb ?_);intro W6 g6 hE6 hB6 hg6;have hg60:=Nat.le_trans hE.size hg6;simp[Value.cells] at hB6;(try replace hE:=hE.trans hE6);(try replace hR:=hR.trans hE6);(try replace hT0:=hT0.ext hE6);(try replace hL:=hL.ext hE6);(try replace hB3:=hB3.ext hE6);(try replace hB4:=hB4.ext hE6);(try replace hb4_0:=hE6.c hb4_0);(try replace hb4_3:=hE6.c hb4_3);(try replace hb3_0:=hE6.c hb3_0);(try replace hb3_1:=hE6.c hb3_1);(try replace hb3_2:=hE6.c hb3_2);(try replace hb3_3:=hE6.c hb3_3);(try replace hb4_1:=hE6.c hb4_1);(try replace hb4_2:=hE6.c hb4_2);(try replace hb4_4:=hE6.c hb4_4);have n46x:=Nat.lt_of_lt_of_le lt4 hg6)|(((with_reducible refine aC (d:=some 12) (hl:=aL hB3) ?_ ?_);rfl))|(go_at_call 21;((with_reducible refine(HD.out _ _ _ (by exact hT0) (by exact hL)).mono ?_);rintro e WcR ⟨v7,rfl,hO7,hEcR⟩;(try replace hEcR:=Ext.undrew hEcR);(try replace hE:=hE.trans hEcR);(try replace hR:=hR.trans hEcR);(try replace hT0:=hT0.ext hEcR);(try replace hL:=hL.ext hEcR);(try replace hB3:=hB3.ext hEcR);(try replace hB4:=hB4.ext hEcR);(try replace hB6:=hB6.ext hEcR);(try replace hb4_0:=hEcR.c hb4_0);(try replace hb4_3:=hEcR.c hb4_3);(try replace hb3_0:=hEcR.c hb3_0);(try replace hb3_1:=hEcR.c hb3_1);(try replace hb3_2:=hEcR.c hb3_2);(try replace hb3_3:=hEcR.c hb3_3);(try replace hb4_1:=hEcR.c hb4_1);(try replace hb4_2:=hEcR.c hb4_2);(try replace hb4_4:=hEcR.c hb4_4);obtain⟨s7,rfl,hOs7⟩:=hO7;obtain⟨A7,c7,e7,_⟩:=hOs7.steps;subst e7;have hR:=Ext.refl WcR;have k4:=hB4;have k6:=hB6))|((with_reducible refine aS (d:=some 8) fW ?_);intro W8 g8 hE8 hB8 hg8;have hg80:=Nat.le_trans hE.size hg8;simp[Value.cells] at hB8;(try replace hE:=hE.trans hE8);(try replace hR:=hR.trans hE8);(try replace hT0:=hT0.ext hE8);(try replace hL:=hL.ext hE8);(try replace hB3:=hB3.ext hE8);(try replace hB4:=hB4.ext hE8);(try replace hB6:=hB6.ext hE8);(try replace hb4_0:=hE8.c hb4_0);(try replace hb4_3:=hE8.c hb4_3);(try replace hb3_0:=hE8.c hb3_0);(try replace hb3_1:=hE8.c hb3_1);(try replace hb3_2:=hE8.c hb3_2);(try replace hb3_3:=hE8.c hb3_3);(try replace hb4_1:=hE8.c hb4_1);(try replace hb4_2:=hE8.c hb4_2);(try replace hb4_4:=hE8.c hb4_4))|(((with_reducible refine aK (t:=36) (e:=36) (g:=g8) (off:=0) (n:=5) (v:=.agg #[.slice A7 y.steps.length c7,.int .i64 y.metres,.int .i64 y.lo,.int .i64 y.hi,.int .i64 y.shown]) ?_ ?_ hB8 cW ?_ ?_ ?_ ?_);rfl;rfl;rfl;(simp[Value.cells]);(exact mB rfl);intro Ws hBs hgrs;simp[aI,Value.cells] at hBs;replace hE:=aD hE hgrs hg80;replace hR:=aD hR hgrs hg8))|((with_reducible refine aF (d:=some 3) ?_);intro W3 g3 hE3 hB3 hg3;simp[Act.eval,Act.put,Value.cells] at hB3;(try replace hE:=hE.trans hE3);(try replace hR:=hR.trans hE3);(try replace hT0:=hT0.ext hE3);(try replace hL:=hL.ext hE3);(try replace hB3:=hB3.ext hE3);(try replace hB4:=hB4.ext hE3);(try replace hb4_0:=hE3.c hb4_0);(try replace hb4_3:=hE3.c hb4_3);(try replace hb3_0:=hE3.c hb3_0);(try replace hb3_1:=hE3.c hb3_1);(try replace hb3_2:=hE3.c hb3_2);(try replace hb3_3:=hE3.c hb3_3);(try replace hb4_1:=hE3.c hb4_1);(try replace hb4_2:=hE3.c hb4_2);(try replace hb4_4:=hE3.c hb4_4);have hb3_0:=hB3.cell 0;have hb3_1:=hB3.cell 1;have hb3_2:=hB3.cell 2;have hb3_3:=hB3.cell 3;simp at hb3_0 hb3_1 hb3_2 hb3_3;clear hE3)|((with_reducible refine aF (d:=some 4) ?_);intro W4 g4 hE4 hB4 hg4;simp[Act.eval,Act.put,Value.cells] at hB4;(try replace hE:=hE.trans hE4);(try replace hR:=hR.trans hE4);(try replace hT0:=hT0.ext hE4);(try replace hL:=hL.ext hE4);(try replace hB3:=hB3.ext hE4);(try replace hB4:=hB4.ext hE4);(try replace hb4_0:=hE4.c hb4_0);(try replace hb4_3:=hE4.c hb4_3);(try replace hb3_0:=hE4.c hb3_0);(try replace hb3_1:=hE4.c hb3_1);(try replace hb3_2:=hE4.c hb3_2);(try replace hb3_3:=hE4.c hb3_3);(try replace hb4_1:=hE4.c hb4_1);(try replace hb4_2:=hE4.c hb4_2);(try replace hb4_4:=hE4.c hb4_4);have hb4_0:=hB4.cell 0;have hb4_1:=hB4.cell 1;have hb4_2:=hB4.cell 2;have hb4_3:=hB4.cell 3;have hb4_4:=hB4.cell 4;simp at hb4_0 hb4_1 hb4_2 hb4_3 hb4_4;clear hE4))
  have b4:=(k4.ext hR).d;have b6:=(k6.ext hR).d;have b8:=hBs.d;have c42:=b4.cell 2;have c84:=b8.cell 4;simp at c42 c84;have l42:(loadVar 3 ⟨g4,2,none⟩).run Tryz.prog Ws.drew=.ok (.int .i64 k.show_) Ws.drew:=aY Tryz.underlying3 rfl c42;have l84:(loadVar 3 ⟨g8,4,none⟩).run Tryz.prog Ws.drew=.ok (.int .i64 y.shown) Ws.drew:=aY Tryz.underlying3 rfl c84;clear hB3 hB4 hB6 hB8 hT0 hL HD k4 k6 hR;refine tJ (.take 0 (.take 1 (.take 3 (.take 5 (.three 2 (.two 4 (.take 9 (.one 6 (.one 7 (.one 8 (.one 10 (.take 11 (.one 12 .nil))))))) 6 (.one 4 (.take 9 (.one 7 (.one 8 (.one 10 (.take 11 (.one 12 .nil)))))))) 4 (.two 2 (.take 9 (.one 6 (.one 7 (.one 8 (.one 10 (.take 11 (.one 12 .nil))))))) 6 (.two 2 (.take 9 (.one 7 (.one 8 (.one 10 (.take 11 (.one 12 .nil)))))) 7 (.one 2 (.take 9 (.one 8 (.one 10 (.take 11 (.one 12 .nil)))))))) 6 (.two 2 (.one 4 (.take 9 (.one 7 (.one 8 (.one 10 (.take 11 (.one 12 .nil))))))) 4 (.two 2 (.take 9 (.one 7 (.one 8 (.one 10 (.take 11 (.one 12 .nil)))))) 7 (.one 2 (.take 9 (.one 8 (.one 10 (.take 11 (.one 12 .nil))))))))))))) (fun w'=>True) ?_ (fun hHd=> ?_)
  ·exact True.intro
  repeat' first|((with_reducible refine rT ?_);(refine t3k (v:= ?_) ?_ hHd ?_;rotate_left;(·(intro wq hSw;(try dsimp only at hSw);go_simp;(try with_reducible rfl))));(try simp only[pS]))|((with_reducible refine zA ?_);refine tR (by simp only[gS];rfl) ?_)|((with_reducible refine yZ ?_);refine tP (by simp only[gS];rfl) (by simp only[gS];rfl) ?_ ?_)|((with_reducible refine Iv ?_);refine tQ (by simp only[gS];rfl) (by simp only[gS];rfl) (by simp only[gS];rfl) ?_ ?_ ?_)|((with_reducible refine aH (d:=some 26) ?_);(((with_reducible refine aC (d:=some 26) (hl:=l42) ?_ ?_);rfl)))|((with_reducible refine aH (d:=some 28) ?_);(((with_reducible refine aC (d:=some 28) (hl:=l42) ?_ ?_);rfl)))|((with_reducible refine aH (d:=some 30) ?_);(((with_reducible refine aC (d:=some 30) (hl:=l84) ?_ ?_);rfl)))|((with_reducible refine aH (d:=some 31) ?_);((refine bD (by rfl) (hL1 _) (by go_simp) ?_;rintro e W31 ⟨rfl,rfl⟩;refine⟨_,rfl,?_⟩)))|((with_reducible refine aH (d:=some 32) ?_);((refine bD (by rfl) (hL2 _) (by go_simp) ?_;rintro e W32 ⟨rfl,rfl⟩;refine⟨_,rfl,?_⟩)))|((with_reducible refine aH (d:=none) ?_);((first|((with_reducible refine aT (t:=3) (e:=43) (g:=g4) (off:=1) (v:=.int .i64 b) ?_ ?_ b4 jN ?_ ?_ ?_ ?_);rfl;rfl;rfl;simp;rfl;intro Wa hBa hgra;simp at hBa)|((with_reducible refine aT (t:=3) (e:=43) (g:=g4) (off:=2) (v:=.int .i64 s2) ?_ ?_ hBa jN ?_ ?_ ?_ ?_);rfl;rfl;rfl;simp;rfl;intro Wb hBb hgrb;simp at hBb))))|((with_reducible refine bB ?_);clear hHd;refine pV ?_ (fun hHd=> ?_);(·exact True.intro);(try simp only[pS]))|(with_reducible refine pW ?_)
  all_goals
   have hEf:=aD (aD (Ext.todrew hE) hgra hg40) hgrb hg40;have n46:g4≠g6:=by omega
   replace b6:=(b6.grown hgra (fun e=>n46 (Option.some.inj e).symm)).grown hgrb (fun e=>n46 (Option.some.inj e).symm)
   replace b8:=(b8.grown hgra (fun e=>blk_ne b4 b8 (by decide) (Option.some.inj e).symm)).grown hgrb (fun e=>blk_ne b4 b8 (by decide) (Option.some.inj e).symm)
   replace b4:=hBb;clear hBa hBb c42 c84 l42 l84;go_wp2
   have d4:=b4.d;have d6:=b6.d;have d8:=b8.d;have c81:=d8.cell 1;simp at c81;have l81:(loadVar 3 ⟨g8,1,none⟩).run Tryz.prog Wb.drew=.ok (.int .i64 y.metres) Wb.drew:=aY Tryz.underlying3 rfl c81;have l35:=bU d4;refine tJ (.take 1 (.two 0 (.two 2 (.one 3 (.take 4 .nil)) 3 (.one 2 (.take 4 .nil))) 2 (.one 0 (.one 3 (.take 4 .nil))))) (fun w'=>True) ?_ (fun hHd=> ?_)
   ·exact True.intro
   repeat' first|((with_reducible refine rT ?_);(refine t3k (v:= ?_) ?_ hHd ?_;rotate_left;(·(intro wq hSw;(try dsimp only at hSw);go_simp;(try with_reducible rfl))));(try simp only[pS]))|((with_reducible refine zA ?_);refine tR (by simp only[gS];rfl) ?_)|((with_reducible refine yZ ?_);refine tP (by simp only[gS];rfl) (by simp only[gS];rfl) ?_ ?_)|((with_reducible refine aH (d:=some 35) ?_);(((with_reducible refine aC (d:=some 35) (hl:=l35) ?_ ?_);rfl)))|((with_reducible refine aH (d:=some 37) ?_);(((with_reducible refine aC (d:=some 37) (hl:=l81) ?_ ?_);rfl)))|((with_reducible refine aH (d:=none) ?_);(((with_reducible refine aK (t:=43) (e:=43) (g:=g6) (off:=0) (n:=5) (v:=.agg #[.int .i64 k.a,.int .i64 b,.int .i64 s2,.int .i64 k.time,.slice A5 k.closed.length cp5]) ?_ ?_ d6 tT ?_ ?_ ?_ ?_);rfl;rfl;rfl;(simp[Value.cells]);(simp[Value.cells,Value.oneCell']);intro Wz hBz hgrz;simp[aI,Value.cells] at hBz;have e8:=d8.grown hgrz (fun e=>blk_ne d6 d8 (by decide) (Option.some.inj e).symm);have f4:=d4.grown hgrz (fun e=>n46 (Option.some.inj e));replace l35:=bU f4;have c81':=e8.cell 1;simp at c81';replace l81:=aY Tryz.underlying3 rfl c81')))|((with_reducible refine bB ?_);clear hHd;refine pV ?_ (fun hHd=> ?_);(·exact True.intro);(try simp only[pS]))|(with_reducible refine pW ?_)
   all_goals
    have hEz:=aD (Ext.todrew hEf) hgrz hg60;go_wp2
    refine jQ rfl rfl rfl (bU hBz) ?_;rw[Hai.out];exact⟨_,rfl,rfl,hEz⟩
 ·have m0:(e==0)=false:=by simpa using h0
  have Hai:=Lib.hid (show t.aimed k l=(k,y.metres) by rw[hai,if_neg h0])
  clear hai hbd h0;go_enter Tryz.func41,Tryz.ntmps41
  go_wp2_with (first|(((with_reducible refine aF (d:=some 4) ?_);intro W4 g4 hE4 hB4 hg4;have hg40:=Nat.le_trans hE.size hg4;simp[Act.eval,Act.put,Value.cells] at hB4;have lt4:=hB4.lt;replace hE:=hE.trans hE4;(try replace hT0:=hT0.ext hE4);(try replace hL:=hL.ext hE4);(try replace hB3:=hB3.ext hE4);have hb4_0:=hB4.cell 0;have hb4_3:=hB4.cell 3;simp at hb4_0 hb4_3))|((with_reducible refine aS (d:=some 6) Rb ?_);intro W6 g6 hE6 hB6 hg6;have hg60:=Nat.le_trans hE.size hg6;simp[Value.cells] at hB6;(try replace hE:=hE.trans hE6);(try replace hR:=hR.trans hE6);(try replace hT0:=hT0.ext hE6);(try replace hL:=hL.ext hE6);(try replace hB3:=hB3.ext hE6);(try replace hB4:=hB4.ext hE6);(try replace hB6:=hB6.ext hE6);(try replace hB8:=hB8.ext hE6);(try replace hb4_0:=hE6.c hb4_0);(try replace hb4_3:=hE6.c hb4_3);(try replace hb3_0:=hE6.c hb3_0);(try replace hb3_1:=hE6.c hb3_1);(try replace hb3_2:=hE6.c hb3_2);(try replace hb3_3:=hE6.c hb3_3);(try replace hb4_1:=hE6.c hb4_1);(try replace hb4_2:=hE6.c hb4_2);(try replace hb4_4:=hE6.c hb4_4);have n46x:=Nat.lt_of_lt_of_le lt4 hg6)|(((with_reducible refine aC (d:=some 12) (hl:=aL hB3) ?_ ?_);rfl))|(go_at_call 21;((with_reducible refine(HD.out _ _ _ (by exact hT0) (by exact hL)).mono ?_);rintro e WcR ⟨v7,rfl,hO7,hEcR⟩;(try replace hEcR:=Ext.undrew hEcR);(try replace hE:=hE.trans hEcR);(try replace hR:=hR.trans hEcR);(try replace hT0:=hT0.ext hEcR);(try replace hL:=hL.ext hEcR);(try replace hB3:=hB3.ext hEcR);(try replace hB4:=hB4.ext hEcR);(try replace hB6:=hB6.ext hEcR);(try replace hB8:=hB8.ext hEcR);(try replace hb4_0:=hEcR.c hb4_0);(try replace hb4_3:=hEcR.c hb4_3);(try replace hb3_0:=hEcR.c hb3_0);(try replace hb3_1:=hEcR.c hb3_1);(try replace hb3_2:=hEcR.c hb3_2);(try replace hb3_3:=hEcR.c hb3_3);(try replace hb4_1:=hEcR.c hb4_1);(try replace hb4_2:=hEcR.c hb4_2);(try replace hb4_4:=hEcR.c hb4_4);obtain⟨s7,rfl,hOs7⟩:=hO7;obtain⟨A7,c7,e7,_⟩:=hOs7.steps;subst e7;have hR:=Ext.refl WcR;have k4:=hB4;have k6:=hB6))|((with_reducible refine aS (d:=some 8) fW ?_);intro W8 g8 hE8 hB8 hg8;have hg80:=Nat.le_trans hE.size hg8;simp[Value.cells] at hB8;(try replace hE:=hE.trans hE8);(try replace hR:=hR.trans hE8);(try replace hT0:=hT0.ext hE8);(try replace hL:=hL.ext hE8);(try replace hB3:=hB3.ext hE8);(try replace hB4:=hB4.ext hE8);(try replace hB6:=hB6.ext hE8);(try replace hB8:=hB8.ext hE8);(try replace hb4_0:=hE8.c hb4_0);(try replace hb4_3:=hE8.c hb4_3);(try replace hb3_0:=hE8.c hb3_0);(try replace hb3_1:=hE8.c hb3_1);(try replace hb3_2:=hE8.c hb3_2);(try replace hb3_3:=hE8.c hb3_3);(try replace hb4_1:=hE8.c hb4_1);(try replace hb4_2:=hE8.c hb4_2);(try replace hb4_4:=hE8.c hb4_4))|(((with_reducible refine aK (t:=36) (e:=36) (g:=g8) (off:=0) (n:=5) (v:=.agg #[.slice A7 y.steps.length c7,.int .i64 y.metres,.int .i64 y.lo,.int .i64 y.hi,.int .i64 y.shown]) ?_ ?_ hB8 cW ?_ ?_ ?_ ?_);rfl;rfl;rfl;(simp[Value.cells]);(exact mB rfl);intro Ws hBs hgrs;simp[aI,Value.cells] at hBs;replace hE:=aD hE hgrs hg80;replace hR:=aD hR hgrs hg8))|((with_reducible refine aF (d:=some 3) ?_);intro W3 g3 hE3 hB3 hg3;simp[Act.eval,Act.put,Value.cells] at hB3;(try replace hE:=hE.trans hE3);(try replace hR:=hR.trans hE3);(try replace hT0:=hT0.ext hE3);(try replace hL:=hL.ext hE3);(try replace hB3:=hB3.ext hE3);(try replace hB4:=hB4.ext hE3);(try replace hB6:=hB6.ext hE3);(try replace hB8:=hB8.ext hE3);(try replace hb4_0:=hE3.c hb4_0);(try replace hb4_3:=hE3.c hb4_3);(try replace hb3_0:=hE3.c hb3_0);(try replace hb3_1:=hE3.c hb3_1);(try replace hb3_2:=hE3.c hb3_2);(try replace hb3_3:=hE3.c hb3_3);(try replace hb4_1:=hE3.c hb4_1);(try replace hb4_2:=hE3.c hb4_2);(try replace hb4_4:=hE3.c hb4_4);have hb3_0:=hB3.cell 0;have hb3_1:=hB3.cell 1;have hb3_2:=hB3.cell 2;have hb3_3:=hB3.cell 3;simp at hb3_0 hb3_1 hb3_2 hb3_3;clear hE3)|((with_reducible refine aF (d:=some 4) ?_);intro W4 g4 hE4 hB4 hg4;simp[Act.eval,Act.put,Value.cells] at hB4;(try replace hE:=hE.trans hE4);(try replace hR:=hR.trans hE4);(try replace hT0:=hT0.ext hE4);(try replace hL:=hL.ext hE4);(try replace hB3:=hB3.ext hE4);(try replace hB4:=hB4.ext hE4);(try replace hB6:=hB6.ext hE4);(try replace hB8:=hB8.ext hE4);(try replace hb4_0:=hE4.c hb4_0);(try replace hb4_3:=hE4.c hb4_3);(try replace hb3_0:=hE4.c hb3_0);(try replace hb3_1:=hE4.c hb3_1);(try replace hb3_2:=hE4.c hb3_2);(try replace hb3_3:=hE4.c hb3_3);(try replace hb4_1:=hE4.c hb4_1);(try replace hb4_2:=hE4.c hb4_2);(try replace hb4_4:=hE4.c hb4_4);have hb4_0:=hB4.cell 0;have hb4_1:=hB4.cell 1;have hb4_2:=hB4.cell 2;have hb4_3:=hB4.cell 3;have hb4_4:=hB4.cell 4;simp at hb4_0 hb4_1 hb4_2 hb4_3 hb4_4;clear hE4))
  have b4:=k4.ext hR;have b6:=k6.ext hR;have b8:=hBs;have hEf:=hE;have n46:g4≠g6:=by omega
  clear hB3 hB4 hB6 hB8 hT0 hL HD k4 k6 hR;have d4:=b4.d;have d6:=b6.d;have d8:=b8.d;have c81:=d8.cell 1;simp at c81;have l81:(loadVar 3 ⟨g8,1,none⟩).run Tryz.prog Ws.drew=.ok (.int .i64 y.metres) Ws.drew:=aY Tryz.underlying3 rfl c81;have l35:=bU d4;refine tJ (.take 1 (.two 0 (.two 2 (.one 3 (.take 4 .nil)) 3 (.one 2 (.take 4 .nil))) 2 (.one 0 (.one 3 (.take 4 .nil))))) (fun w'=>True) ?_ (fun hHd=> ?_)
  ·exact True.intro
  repeat' first|((with_reducible refine rT ?_);(refine t3k (v:= ?_) ?_ hHd ?_;rotate_left;(·(intro wq hSw;(try dsimp only at hSw);go_simp;(try with_reducible rfl))));(try simp only[pS]))|((with_reducible refine zA ?_);refine tR (by simp only[gS];rfl) ?_)|((with_reducible refine yZ ?_);refine tP (by simp only[gS];rfl) (by simp only[gS];rfl) ?_ ?_)|((with_reducible refine aH (d:=some 35) ?_);(((with_reducible refine aC (d:=some 35) (hl:=l35) ?_ ?_);rfl)))|((with_reducible refine aH (d:=some 37) ?_);(((with_reducible refine aC (d:=some 37) (hl:=l81) ?_ ?_);rfl)))|((with_reducible refine aH (d:=none) ?_);(((with_reducible refine aK (t:=43) (e:=43) (g:=g6) (off:=0) (n:=5) (v:=.agg #[.int .i64 k.a,.int .i64 k.b,.int .i64 k.show_,.int .i64 k.time,.slice A5 k.closed.length cp5]) ?_ ?_ d6 tT ?_ ?_ ?_ ?_);rfl;rfl;rfl;(simp[Value.cells]);(simp[Value.cells,Value.oneCell']);intro Wz hBz hgrz;simp[aI,Value.cells] at hBz;have e8:=d8.grown hgrz (fun e=>blk_ne d6 d8 (by decide) (Option.some.inj e).symm);have f4:=d4.grown hgrz (fun e=>n46 (Option.some.inj e));replace l35:=bU f4;have c81':=e8.cell 1;simp at c81';replace l81:=aY Tryz.underlying3 rfl c81')))|((with_reducible refine bB ?_);clear hHd;refine pV ?_ (fun hHd=> ?_);(·exact True.intro);(try simp only[pS]))|(with_reducible refine pW ?_)
  all_goals
   have hEz:=aD (Ext.todrew hEf) hgrz hg60;go_wp2
   refine jQ rfl rfl rfl (bU hBz) ?_;rw[Hai.out];exact⟨_,rfl,rfl,hEz⟩
theorem Qy(tv kv lv:Value)(t:Town)(k:Task)(l:List Step)(w:World)(h:aM w tv t)(hk:bA w kv k)(hL:bY w lv l)(he:t.taskErr k=0)(ho:∀x∈l,x.st∉k.closed):
 Calls Tryz.prog 41 #[tv,kv,lv] w (Qo w (t.aimed k l).1 (t.aimed k l).2):=by
 refine(Yg tv kv lv t k l w h hk hL he ho).mono fun e w' ⟨cv,h1,h2,hE⟩=> ?_
 obtain⟨cv',e',hC⟩:=hk;rw[e'] at h1;injection h1 with h1
 injection h1 with h1
 injection h1 with _ h1
 injection h1 with _ h1
 injection h1 with _ h1
 injection h1 with _ h1
 injection h1 with h1 _
 subst h1;have hcl:(t.aimed k l).1.closed=k.closed:=by unfold Town.aimed;split<;>rfl
 exact⟨_,h2,⟨_,rfl,by rw[hcl];exact hC.ext hE⟩,hE⟩
end Go.St
end
section
namespace Go.St
open Go Go.Bp Go.RowKit Go.Proofs
namespace Town
variable{t:Town}{k:Task}
def canTo(t:Town)(k:Task)(p:Int):Nat→List Step
 |0=>[]
 |n+1=>canTo t k p n++(if(n:Int)∈k.closed then [] else(if(t.at_ n).a=p then [⟨(n:Int),false⟩] else [])++(if(t.at_ n).b=p∧(t.at_ n).both=true then [⟨(n:Int),true⟩] else []))
theorem Bc(p:Int):∀n,t.canTo k p n=(t.stepsTo k n).filter fun x=>decide ((t.ends x).1=p)
 |0=>rfl
 |n+1=>by
  unfold canTo stepsTo;rw[Bc p n,List.filter_append];congr 1
  by_cases h1:(n:Int)∈k.closed
  ·rw[if_pos h1,if_pos h1];rfl
  ·rw[if_neg h1,if_neg h1];have e1:(t.ends ⟨(n:Int),false⟩).1=(t.at_ n).a:=rfl;have e2:(t.ends ⟨(n:Int),true⟩).1=(t.at_ n).b:=rfl;by_cases h2:(t.at_ n).a=p<;>by_cases h3:(t.at_ n).both=true<;>by_cases h4:(t.at_ n).b=p<;>simp[e1,e2,h2,h3,h4]
theorem Qw(p:Int):t.canTo k p t.streets.length=t.canOf k p:=Bc p _
theorem If(p:Int):∀n,(t.canTo k p n).length≤2*n
 |0=>Nat.le_refl _
 |n+1=>by
  have:=If p n;unfold canTo;rw[List.length_append];split
  ·simp;omega
  ·rw[List.length_append];split<;>split<;>simp<;>omega
theorem Sj{p:Int}{n:Nat}(h:(n:Int)∈k.closed):t.canTo k p (n+1)=t.canTo k p n:=by
 conv=>lhs;unfold canTo
 rw[if_pos h,List.append_nil]
theorem Si{p:Int}{n:Nat}(h:(n:Int)∉k.closed)(h2:n<t.streets.length):t.canTo k p (n+1)=t.canTo k p n++(if t.streets[n].a=p then [⟨(n:Int),false⟩] else [])++(if t.streets[n].b=p∧t.streets[n].both=true then [⟨(n:Int),true⟩] else []):=by
 conv=>lhs;unfold canTo
 have e:t.at_ (n:Int)=t.streets[n]:=by unfold at_;simp[List.getD,h2]
 rw[if_neg h,e,List.append_assoc]
theorem Lz{n:Nat}{l:List Nat}{p:Int}{s:Step}(h:(t.canOf k p)[n%(t.canOf k p).length]? =some s):t.takenTo k (n::l) p=s::t.takenTo k l (t.ends s).2:=by
 conv=>lhs;unfold takenTo
 rw[h]
theorem Ly{n:Nat}{l:List Nat}{p:Int}(h:t.canOf k p=[]):t.takenTo k (n::l) p=[]:=by
 conv=>lhs;unfold takenTo
 rw[h];rfl
end Town
end Go.St
end
