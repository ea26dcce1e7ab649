/- Chapter 03: contracts of functions of the program and of the reference, and plain laws (out of SY4 SOQ NSD). No condition of its own. -/
import Derived.Test.YtfjnacajjpaeiaaGreatDoorQN01
import Derived.Test.YtfjnacajjpaeiaaGreatDoorQO01
import Derived.Test.YtfjnacajjpaeiaaGreatDoorQZ01
set_option maxRecDepth 100000
set_option linter.all false
section
namespace Go.St
open Go Go.Bp Go.RowKit Go.Proofs Go.Walk
theorem cS.n8{w:World}{ad:Addr}{xs:List Nat}(h:cS w ad (Uo xs)){k:Nat}(hk:k<xs.length):w.cell? (ad.add k)=some (.int .u8 ((xs[k]:Nat):Int)):=h k _ (by unfold Uo;simp[hk])
namespace Town
variable{t:Town}{k:Task}
theorem canTo_b{p:Int}{n:Nat}{c1 c2 c3:Bool}(h2:n<t.streets.length)(h:(n:Int)∉k.closed)(e1:(t.streets[n].a==p)=c1)(e2:(t.streets[n].b==p)=c2)(e3:t.streets[n].both=c3):
 t.canTo k p (n+1)=t.canTo k p n++(if c1=true then [⟨(n:Int),false⟩] else [])++(if(c2&&c3)=true then [⟨(n:Int),true⟩] else []):=by
 rw[Si h h2,e3];subst e1 e2;simp
theorem takenTo_at{n y r:Nat}{xs:List Nat}{p:Int}{s:Step}(hn:n<xs.length)(h2:n<200)(hy:xs[n]=y)(hr:y%(t.canOf k p).length=r)(hl:r<(t.canOf k p).length)(hs:(t.canOf k p)[r]=s):
 t.takenTo k ((xs.take 200).drop n) p=s::t.takenTo k ((xs.take 200).drop (n+1)) (t.ends s).2:=by
 have h3:n<(xs.take 200).length:=by simp;omega
 rw[List.drop_eq_getElem_cons h3];refine Lz ?_;rw[List.getElem_take,hy,hr,List.getElem?_eq_getElem hl,hs]
theorem takenTo_no{n:Nat}{xs:List Nat}{p:Int}(h:t.canOf k p=[]):t.takenTo k ((xs.take 200).drop n) p=[]:=by
 cases(xs.take 200).drop n with
 |nil=>rfl
 |cons a l=>exact Ly h
theorem takenTo_end{n:Nat}{xs:List Nat}{p:Int}(h:xs.length≤n∨200≤n):t.takenTo k ((xs.take 200).drop n) p=[]:=by
 rw[List.drop_eq_nil_of_le (by simp;omega)];rfl
theorem canOf_in(h:TaskOk t k){p:Int}{s:Step}(hs:s∈t.canOf k p):inB s.st 0 (t.streets.length-1)=true:=by
 unfold canOf at hs;exact(mem_stepsAll.1 (List.mem_filter.1 hs).1).1
end Town
set_option synthInstance.maxSize 2000
set_option synthInstance.maxHeartbeats 400000
set_option maxHeartbeats 8000000
theorem Us{W b:World}{A:Option Addr}{n c:Nat}{xs:List Step}(h:RowC W (.slice A n c) b 82 2 n (dJ xs)){r:Nat}(hr:r<xs.length):∃ad,A=some ad∧CellsC W (ad.add (r*2)) [.int .i64 xs[r].st,.bool xs[r].bk]:=by
 obtain⟨A',c',e,_,_,h3,h4⟩:=Sl.of_own h.h;injection e with e1 e2 e3
 subst e1;obtain⟨ad,rfl,hc⟩:=h4 (by rw[Gp] at h3;omega)
 exact⟨ad,rfl,⟨oU hc hr⟩⟩
theorem Uf{W b:World}{A:Option Addr}{n c:Nat}{cs:List Value}{l:List Step}(h:RowC W (.slice A n c) b 82 2 n cs)(e:cs=dJ l):Value.slice A n c=.slice A l.length c∧RowC W (.slice A l.length c) b 82 2 l.length (dJ l):=by
 subst e;have h1:=h.h.1;rw[Gp] at h1;have:n=l.length:=by omega
 subst this;exact⟨rfl,h⟩
class ClosedE (k:Task) (n:Int) (b:outParam Bool):Prop where h:decide (n∈k.closed)=b
instance{W:World}{v:Value}{k:Task}{n:Int}{b:Bool}[p:TaskC W v k][q:ClosedE k n b]:FunC Tryz.prog 90 #[v,.int .i64 n] W (RB W b):=⟨(uY _ _ _ _ p.h).mono fun e W' ⟨h,hE⟩=>⟨by rw[←q.h];exact h,⟨hE⟩⟩⟩
theorem Ud(tv kv uv:Value)(t:Town)(k:Task)(xs:List Nat)(w:World)(h:aM w tv t)(hk:bA w kv k)(hu:Ts w uv xs)(he:t.taskErr k=0):
 Calls Tryz.prog 40 #[tv,kv,uv] w (fun e w'=>∃v,e=.returned v∧bY w' v (t.taken k xs)∧Ext w w'):=by
 obtain⟨pv,sv,tmv,xv,rfl,hT⟩:=id h;obtain⟨A1,cp1,rfl,_,hc1,_,_⟩:=hT.places;obtain⟨A2,cp2,rfl,_,hc2,_,_⟩:=hT.shows;obtain⟨A3,cp3,rfl,_,_,_,_⟩:=hT.times;obtain⟨A4,cp4,rfl,_,hc4,_⟩:=id hT.streets;obtain⟨ka,kb,ks,km,kl⟩:=k;obtain⟨cv,rfl,hC⟩:=hk;obtain⟨A5,cp5,rfl,_⟩:=id hC;have i1:=TownB.mk h;have i2:=IntsB.mk hC;have hST:=hT.streets;clear hT;obtain⟨⟨AuX,cu,rfl,u1,u2,_,u4⟩,hu8⟩:=hu;unfold maxLen at u2 hc4;have Hok:=Lib.hid (Town.taskOk_of he);have hst:=Hok.out.ok.st;clear he;go_enter Tryz.func40,Tryz.ntmps40
 go_wp2_with (first|go_skip|(with_reducible refine pZ ?_)|(with_reducible refine pY ?_)|(with_reducible refine qA ?_;first|rintro _ W ⟨rfl,_⟩|rintro _ W ⟨_,_,rfl,_,_⟩)|(with_reducible refine oQ ?_;intro W g _ _ _)|(with_reducible refine pX ?_;intro W _ _)|(with_reducible refine Tq ?_;intro W g _ _ _)|(with_reducible refine oR ?_;intro W g _ _ _)|(with_reducible refine oS ?_;intro _ _ W hR _))
 go_loopw [7,8,9,10,11,12] (fun o av nv _ _ _ wr=>StepC W wr∧∃(n:Nat)(p:Int)(pre:List Step)(A:Option Addr)(c:Nat),n≤200∧n≤xs.length∧nv=.int .i64 n∧av=.int .i64 p∧o=.slice A pre.length c∧RowC wr (.slice A pre.length c) W 82 2 pre.length (dJ pre)∧pre.length≤n∧inB p 0 (t.places.length-1)=true∧t.taken ⟨ka,kb,ks,km,kl⟩ xs=pre++t.takenTo ⟨ka,kb,ks,km,kl⟩ ((xs.take 200).drop n) p) (fun _ _ nv _ _ _ _=>200-(intOf nv).toNat)
 case atStart=>exact⟨⟨Ext.refl _⟩,0,ka,[],none,0,by omega,by omega,rfl,rfl,rfl,RowC.nil,by simp,Hok.out.a,rfl⟩
 case round=>
  obtain⟨_,n,p,pre,A,c,hn1,hn2,rfl,rfl,rfl,hRo,hpre,hp,ht⟩:=hrel;have Hp:=Lib.hid hp;have Ht:=Lib.hid ht;clear hp ht;by_cases hcc:n<xs.length∧n<200
  ·obtain⟨z1',z2'⟩:=hcc;have z1:(n:Int)<(xs.length:Int):=by omega
   have z2:(n:Int)<200:=by omega
   go_wp2_with (first|go_skip|(with_reducible refine pZ ?_)|(with_reducible refine pY ?_)|(with_reducible refine qA ?_;first|rintro _ W ⟨rfl,_⟩|rintro _ W ⟨_,_,rfl,_,_⟩)|(with_reducible refine oQ ?_;intro W g _ _ _)|(with_reducible refine pX ?_;intro W _ _)|(with_reducible refine Tq ?_;intro W g _ _ _)|(with_reducible refine oR ?_;intro W g _ _ _)|(with_reducible refine oS ?_;intro _ _ W hR _))
   go_loopw [10,11] (fun cv iv wq=>StepC wr wq∧∃(i:Nat)(A:Option Addr)(c:Nat),i≤t.streets.length∧iv=.int .i64 i∧cv=.slice A (t.canTo ⟨ka,kb,ks,km,kl⟩ p i).length c∧RowC wq (.slice A (t.canTo ⟨ka,kb,ks,km,kl⟩ p i).length c) wr 82 2 (t.canTo ⟨ka,kb,ks,km,kl⟩ p i).length (dJ (t.canTo ⟨ka,kb,ks,km,kl⟩ p i))) (fun _ iv _=>t.streets.length-(intOf iv).toNat)
   case atStart=>exact⟨⟨Ext.refl _⟩,0,none,0,by omega,rfl,rfl,RowC.nil⟩
   case round=>
    obtain⟨_,i,A2,c2,hi,rfl,rfl,hRi⟩:=hrel;have hl:=Town.If (t:=t) (k:=⟨ka,kb,ks,km,kl⟩) p i;by_cases hlt:i<t.streets.length
    ·obtain⟨A4',cp4',e4,_,_,h44⟩:=hST;injection e4 with e4 _ e5
     subst e4 e5;obtain⟨ad,rfl,hcs⟩:=h44 (by omega)
     obtain⟨sv,hs⟩:=hcs i hlt;have i5:=CellsB.mk hs.1;have zi:(i:Int)<(t.streets.length:Int):=by omega
     by_cases hcl:(i:Int)∈kl
     ·have f1:ClosedE ⟨ka,kb,ks,km,kl⟩ i true:=⟨by simp[hcl]⟩
      have Hn:=Lib.hid (Town.Sj (t:=t) (k:=⟨ka,kb,ks,km,kl⟩) (p:=p) hcl);clear hcl;go_wp2_with (first|go_skip|(with_reducible refine pZ ?_)|(with_reducible refine pY ?_)|(with_reducible refine qA ?_;first|rintro _ V ⟨rfl,_⟩|rintro _ V ⟨_,_,rfl,_,_⟩)|(with_reducible refine oQ ?_;intro V g _ _ _)|(with_reducible refine pX ?_;intro V _ _)|(with_reducible refine Tq ?_;intro V g _ _ _)|(with_reducible refine oR ?_;intro V g _ _ _)|(with_reducible refine oS ?_;intro _ _ V hR _))
      go_roundw
      case rel=>exact⟨⟨ExtC.h⟩,i+1,_,_,by omega,by go_num,by rw[Hn.out],by rw[Hn.out];infer_instance⟩
      case measure=>simp[intOf];omega
     ·have f1:ClosedE ⟨ka,kb,ks,km,kl⟩ i false:=⟨by simp[hcl]⟩
      obtain⟨c1,hc1⟩:∃b,(t.streets[i].a==p)=b:=⟨_,rfl⟩;obtain⟨c2,hc2⟩:∃b,(t.streets[i].b==p)=b:=⟨_,rfl⟩;obtain⟨c3,hc3⟩:∃b,t.streets[i].both=b:=⟨_,rfl⟩;have Hn:=Lib.hid (Town.canTo_b (k:=⟨ka,kb,ks,km,kl⟩) hlt hcl hc1 hc2 hc3);rw[hc3] at i5;clear hcl hc3;have hR:=hRi
      cases c1<;>cases c2<;>cases c3
      all_goals
       go_wp2_with (first|go_skip|(with_reducible refine pZ ?_)|(with_reducible refine pY ?_)|(with_reducible refine qA ?_;first|rintro _ V ⟨rfl,_⟩|rintro _ V ⟨_,_,rfl,_,_⟩)|(with_reducible refine oQ ?_;intro V g _ _ _)|(with_reducible refine pX ?_;intro V _ _)|(with_reducible refine Tq ?_;intro V g _ _ _)|(with_reducible refine oR ?_;intro V g _ _ _)|(with_reducible refine oS ?_;intro _ _ V hR _))
       go_roundw
       case rel=>
        obtain⟨e1,e2⟩:=Uf hR (show _=dJ (t.canTo ⟨ka,kb,ks,km,kl⟩ p (i+1)) by rw[Hn.out];simp[rI,dJ])
        exact⟨⟨ExtC.h⟩,i+1,_,_,by omega,by go_num,e1,by infer_instance⟩
       case measure=>simp[intOf];omega
    ·obtain rfl:i=t.streets.length:=by omega
     rw[Town.Qw] at hRi hl⊢;have zi:¬((t.streets.length:Int)<(t.streets.length:Int)):=by omega
     obtain⟨L,hL⟩:∃l,t.canOf ⟨ka,kb,ks,km,kl⟩ p=l:=⟨_,rfl⟩;rw[hL] at hRi hl⊢;have HL:=Lib.hid hL;clear hL
     cases L with
     |nil=>
      have Hno:=Lib.hid (Town.takenTo_no (t:=t) (n:=n) (xs:=xs) HL.out);go_wp2_with (first|go_skip|(with_reducible refine pZ ?_)|(with_reducible refine pY ?_)|(with_reducible refine qA ?_;first|rintro _ V ⟨rfl,_⟩|rintro _ V ⟨_,_,rfl,_,_⟩)|(with_reducible refine oQ ?_;intro V g _ _ _)|(with_reducible refine pX ?_;intro V _ _)|(with_reducible refine Tq ?_;intro V g _ _ _)|(with_reducible refine oR ?_;intro V g _ _ _)|(with_reducible refine oS ?_;intro _ _ V hR _))
      go_ret
      exact⟨.slice A pre.length c,rfl,by rw[Ht.out,Hno.out,List.append_nil];exact StepsC.h,ExtC.h⟩
     |cons s0 L'=>
      obtain⟨L,hLL⟩:∃l,s0::L'=l:=⟨_,rfl⟩;have hpos:0<L.length:=by rw[←hLL];simp
      rw[hLL] at HL hRi hl⊢;obtain⟨adu,rfl,hcu⟩:=u4 (by omega)
      obtain⟨y,hy⟩:∃y,xs[n]=y:=⟨_,rfl⟩;have i6:CellsB w (adu.add n) [.int .u8 (y:Int)]:=⟨by
       intro j u hu
       cases j with
       |zero=>simp at hu;rw[rN,←hu,←hy];exact cS.n8 (h:=hcu) z1'
       |succ j=>simp at hu⟩
      have hy8:(y:Int)<256:=by have:=hu8 xs[n] (List.getElem_mem z1');omega
      obtain⟨r,hr⟩:∃r,y%L.length=r:=⟨_,rfl⟩;have hrl:r<L.length:=by rw[←hr];exact Nat.mod_lt _ hpos
      have e80:(y:Int)%(L.length:Int)=(r:Int):=by rw[←hr];simp
      obtain⟨ad9,rfl,i7⟩:=Us hRi hrl;obtain⟨⟨st,bk⟩,hs⟩:∃s,L[r]=s:=⟨_,rfl⟩;have Htk:=Lib.hid (Town.takenTo_at (t:=t) (k:=⟨ka,kb,ks,km,kl⟩) (p:=p) (r:=r) z1' z2' hy (by rw[HL.out];exact hr) (by rw[HL.out];exact hrl) (by simp only[HL.out];exact hs))
      have hin:=Town.canOf_in Hok.out (p:=p) (s:=⟨st,bk⟩) (by rw[HL.out,←hs];exact List.getElem_mem hrl)
      have Hends:=Lib.hid (Hok.out.ok.ends hin);obtain⟨j,ej,hj⟩:=fB hin;simp only at ej;subst ej;rw[hs] at i7;have zr:(r:Int)<(L.length:Int):=by omega
      have zl:¬((L.length:Int)=0):=by omega
      have zl2:((L.length:Int)==0)=false:=beq_eq_false_iff_ne.2 zl;have hjl:j<t.streets.length:=by omega
      obtain⟨A4',cp4',e4,_,_,h44⟩:=hST;injection e4 with e4 _ e5
      subst e4 e5;obtain⟨ad,rfl,hcs⟩:=h44 (by omega)
      obtain⟨sv,hsv⟩:=hcs j hjl;have i5:=CellsB.mk hsv.1;have zj:(j:Int)<(t.streets.length:Int):=by omega
      have Hat:=Lib.hid (Town.at_eq hjl);have hend:inB (t.ends ⟨(j:Int),bk⟩).2 0 (t.places.length-1)=true:=Hends.out.2;have hen:(t.ends ⟨(j:Int),bk⟩).2=if bk=true then t.streets[j].a else t.streets[j].b:=by unfold Town.ends;rw[Hat.out];cases bk<;>rfl
      rw[hen] at hend;have Hend:=Lib.hid hend;have Hen:=Lib.hid hen;clear hr hy hs hcs hsv hin hcu hu8 u4 hLL hend hen
      cases bk
      all_goals
       go_wp2_with (first|go_skip|(with_reducible refine pZ ?_)|(with_reducible refine pY ?_)|(with_reducible refine qA ?_;first|rintro _ V ⟨rfl,_⟩|rintro _ V ⟨_,_,rfl,_,_⟩)|(with_reducible refine oQ ?_;intro V g _ _ _)|(with_reducible refine pX ?_;intro V _ _)|(with_reducible refine Tq ?_;intro V g _ _ _)|(with_reducible refine oR ?_;intro V g _ _ _)|(with_reducible refine oS ?_;intro _ _ V hR _))
       go_roundw
       case rel=>
        obtain⟨e1,e2⟩:=Uf hR (show _=dJ (pre++ [⟨(j:Int),_⟩]) by rw[rI];rfl)
        exact⟨⟨ExtC.h⟩,n+1,_,_,_,_,by omega,by omega,by go_num,rfl,e1,e2,by simp;omega,by simpa using Hend.out,by rw[Ht.out,Htk.out,Hen.out];simp⟩
       case measure=>simp[intOf];omega
  ·have Hend:=Lib.hid (Town.takenTo_end (t:=t) (k:=⟨ka,kb,ks,km,kl⟩) (p:=p) (n:=n) (xs:=xs) (by omega))
   by_cases hcn:n<xs.length
   ·have z1:(n:Int)<(xs.length:Int):=by omega
    have z2:¬((n:Int)<200):=by omega
    go_wp2_with (first|go_skip|(with_reducible refine pZ ?_)|(with_reducible refine pY ?_)|(with_reducible refine qA ?_;first|rintro _ V ⟨rfl,_⟩|rintro _ V ⟨_,_,rfl,_,_⟩)|(with_reducible refine oQ ?_;intro V g _ _ _)|(with_reducible refine pX ?_;intro V _ _)|(with_reducible refine Tq ?_;intro V g _ _ _)|(with_reducible refine oR ?_;intro V g _ _ _)|(with_reducible refine oS ?_;intro _ _ V hR _))
    go_ret
    exact⟨.slice A pre.length c,rfl,by rw[Ht.out,Hend.out,List.append_nil];exact StepsC.h,ExtC.h⟩
   ·have z1:¬((n:Int)<(xs.length:Int)):=by omega
    go_wp2_with (first|go_skip|(with_reducible refine pZ ?_)|(with_reducible refine pY ?_)|(with_reducible refine qA ?_;first|rintro _ V ⟨rfl,_⟩|rintro _ V ⟨_,_,rfl,_,_⟩)|(with_reducible refine oQ ?_;intro V g _ _ _)|(with_reducible refine pX ?_;intro V _ _)|(with_reducible refine Tq ?_;intro V g _ _ _)|(with_reducible refine oR ?_;intro V g _ _ _)|(with_reducible refine oS ?_;intro _ _ V hR _))
    go_ret
    exact⟨.slice A pre.length c,rfl,by rw[Ht.out,Hend.out,List.append_nil];exact StepsC.h,ExtC.h⟩
end Go.St
end
section
namespace Go.St
open Go Go.Bp Go.RowKit Go.Proofs Go.ChangeShapes Go.WideShapes Go.ChangeAt
section
variable{H:Type}{enc:TypeId×Value→H}{w:World}{b0:Nat}
theorem Ur{n:Nat}{cs:List Value}{x:DataW H×List MemPlace}(h:DataW.trod enc Tryz.prog w 0 (fun _=>true) true n 65 cs=some x):∃v xs,cs=[v]∧Ts w v xs:=by
 obtain⟨v,xs,h1,h2,h3⟩:=rG (fun n:Nat=>[Value.int .u8 (n:Int)]) (fun a=>a<256) (fun _=>rfl) Tryz.underlying65 Tw (fun n c1 y hy=>by
  obtain⟨k,hk,hb⟩:=Ui hy;exact⟨k.toNat,by rw[hk];simp;omega,by omega⟩) h
 have e:xs.flatMap (fun n:Nat=>[Value.int .u8 (n:Int)])=Uo xs:=Fy (fun n:Nat=>Value.int .u8 (n:Int)) xs
 rw[e] at h2;exact⟨v,xs,h1,h2,h3⟩
theorem Uk{v:Value}{d:DataW H}{p:List MemPlace}(hv:Value.okWide Tryz.prog w .any b0 65 v)(h:DataW.Trod enc Tryz.prog w 0 (fun _=>true) true 65 v d p):∃xs,Ts w v xs:=by
 obtain⟨a,l,c,rfl⟩:=okWide_slice Tryz.underlying65 hv;obtain⟨fuel,hf⟩:=h;obtain⟨v',xs,h1,h2⟩:=Ur hf;simp[Value.cells] at h1;subst h1;exact⟨xs,h2⟩
end
end Go.St
end
section
namespace Go.Walk
open Go Go.Bp Go.St Go.RowKit Go.Proofs
class NumsB (w:outParam World) (v:Value) (l:outParam (List Nat)):Prop where h:Ts w v l
class NumsC (W:World) (v:Value) (l:outParam (List Nat)):Prop where h:Ts W v l
class DoesE (t:Town) (k:Task) (x:Tour) (b:outParam Bool):Prop where h:t.doesB k x=b∧t.taskErr k=0
class AimE (t:Town) (k:Task) (l:List Step) (k2:outParam Task) (m:outParam Int):Prop where h:t.aimed k l=(k2,m)∧t.taskErr k=0∧∀x∈l,x.st∉k.closed
class TakenE (t:Town) (k:Task) (x:List Nat) (l:outParam (List Step)):Prop where h:t.taken k x=l∧t.taskErr k=0
section
variable{a W:World}{v u z:Value}{t:Town}{k k2:Task}{x:Tour}{n:List Nat}{l:List Step}{b:Bool}{m:Int}
instance[p:NumsB a v n][q:ExtC a W]:NumsC W v n:=⟨p.h.ext q.h⟩
instance[p:TownC W v t][q:TaskC W u k][r:TourC W z x][i:DoesE t k x b]:FunC Tryz.prog 39 #[v,u,z] W (RB W b):=⟨(Rt _ _ _ _ _ _ _ p.h q.h r.h i.h.2).mono fun e W' ⟨h,hE⟩=>⟨by rw[←i.h.1];exact h,⟨hE⟩⟩⟩
instance[p:TownC W v t][q:TaskC W u k][r:StepsC W z l][i:AimE t k l k2 m]:FunC Tryz.prog 41 #[v,u,z] W (fun e W'=>∃A c,e=.returned (.tuple #[.agg #[.int .i64 k2.a,.int .i64 k2.b,.int .i64 k2.show_,.int .i64 k2.time,.slice A k2.closed.length c],.int .i64 m])∧IntsB W' (.slice A k2.closed.length c) k2.closed∧StepC W W'):=
 ⟨(Qy _ _ _ _ _ _ _ p.h q.h r.h i.h.2.1 i.h.2.2).mono fun e W' h=>by
  rw[i.h.1] at h;obtain⟨_,rfl,⟨cv,rfl,hC⟩,hE⟩:=h;obtain⟨A,c,rfl,_⟩:=id hC;exact⟨A,c,rfl,⟨hC⟩,⟨hE⟩⟩⟩
instance[p:TownC W v t][q:TaskC W u k][r:NumsC W z n][i:TakenE t k n l]:FunC Tryz.prog 40 #[v,u,z] W (RSt W l):=⟨(Ud _ _ _ _ _ _ _ p.h q.h r.h i.h.2).mono fun e W' h=>by
 rw[i.h.1] at h;obtain⟨_,rfl,hO,hE⟩:=h;obtain⟨A,c,rfl,_⟩:=id hO;exact⟨A,c,rfl,⟨hO⟩,⟨hE⟩⟩⟩
end
end Go.Walk
end
