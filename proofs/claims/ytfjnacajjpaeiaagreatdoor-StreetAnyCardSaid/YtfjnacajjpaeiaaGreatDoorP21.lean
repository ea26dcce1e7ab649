/- Chapter 03: contracts of functions of the program and of the reference, and plain laws (out of SOP SOE StX). No condition of its own. -/
import Derived.LaidMore
import Derived.Lay
import Derived.OpenShut
import Derived.ProofKit
import Derived.Stop.LaidErr
import Derived.Test.YtfjnacajjpaeiaaGreatDoorCards
import Derived.Test.YtfjnacajjpaeiaaGreatDoorTie
import Derived.Test.YtfjnacajjpaeiaaGreatDoorP16
set_option maxRecDepth 100000
set_option linter.all false
section
namespace Go.St
open Go Go.Bp Go.RowKit Go.Proofs Go.ChangeShapes Go.WideShapes Go.ChangeAt
section
variable{H:Type}{enc:TypeId×Value→H}{w:World}{b0:Nat}
theorem pO{α:Type}(f:α→List Value)(size:Nat)(hf:∀a,(f a).length=size){a:Addr}:∀(xs:List α)(i0:Nat),
 (∀(i:Nat)(hi:i<xs.length),cS w (a.add ((i0+i)*size)) (f xs[i]))→cS w (a.add (i0*size)) (xs.flatMap f)
 | [],i0,_=>by simpa using cS.nil w _
 |x::xs,i0,h=>by
  have h0:=h 0 (by simp)
  have ih:=pO f size hf (a:=a) xs (i0+1) (fun i hi=>by
   have:=h (i+1) (by simpa using hi)
   rw[show i0+1+i=i0+(i+1) by omega]
   simpa using this)
  intro j u hu;simp only[List.flatMap_cons] at hu;by_cases hj:j<size
  ·rw[List.getElem?_append_left (by rw[hf];exact hj)] at hu
   have:=h0 j u (by simpa using hu)
   simpa using this
  ·rw[List.getElem?_append_right (by rw[hf];omega),hf] at hu
   have:=ih (j-size) u hu;rw[mI] at this⊢;rwa [show(i0+1)*size+(j-size)=i0*size+j by rw[Nat.add_mul];omega] at this
theorem rG{α:Type}{t e:TypeId}{size fuel:Nat}{cs:List Value}{x:DataW H×List MemPlace}(f:α→List Value)(good:α→Prop)(hf:∀a,(f a).length=size)
 (ht:Tryz.prog.underlying t=some (.slice e))(hc:Tryz.prog.cellsOf e=size)
 (hel:∀(n:Nat)(c1:List Value)(y:DataW H×List MemPlace),DataW.trod enc Tryz.prog w 0 (fun _=>true) true n e c1=some y→∃a,c1=f a∧good a)
 (h:DataW.trod enc Tryz.prog w 0 (fun _=>true) true fuel t cs=some x):∃(v:Value)(xs:List α),cs=[v]∧Sl w size v xs.length (xs.flatMap f)∧∀a∈xs,good a:=by
 rcases DataW.trod_slice ht h with ⟨rfl,_⟩|⟨ad,len,cap,elems,rest,n,_,rfl,_,_,hl,hm,hlen,hE,_,_⟩
 ·exact⟨_,[],rfl,Sl.none_ w size,by simp⟩
 have each:∀i:Fin len,∃a:α,cS w (ad.add (i.1*size)) (f a)∧good a:=by
  rintro⟨i,hi⟩;have h1:=hE i hi;rw[List.getElem?_eq_getElem (by omega),Option.bind_eq_some_iff,hc] at h1
  obtain⟨c1,hc1,hy⟩:=h1;obtain⟨a,rfl,hg⟩:=hel _ _ _ hy;obtain⟨_,h3,h4⟩:=World.cells?_some hc1;refine⟨a,fun j u hu=> ?_,hg⟩
  rw[h4 j (by have:=(List.getElem?_eq_some_iff.1 hu).1;omega)]
  exact hu
 obtain⟨g,hg⟩:=Classical.axiomOfChoice each;refine⟨_,List.ofFn g,rfl,?_,?_⟩
 ·refine⟨some ad,cap,by simp,by simpa using hl,hm,?_,fun _=>⟨ad,rfl,?_⟩⟩
  ·have:∀l:List α,(l.flatMap f).length=l.length*size:=by
    intro l;induction l with
    |nil=>simp
    |cons y ys ih=>simp[hf,ih,Nat.add_mul];omega
   exact this _
  ·have:=pO (w:=w) f size hf (a:=ad) (List.ofFn g) 0 (fun i hi=>by
    have hi':i<len:=by simpa using hi
    have:=(hg ⟨i,hi'⟩).1;simpa using this)
   simpa [Addr.add] using this
 ·intro a ha;obtain⟨i,rfl⟩:=List.mem_ofFn.1 ha;exact(hg i).2
theorem wL{α:Type}{t e:TypeId}{size fuel:Nat}{cs:List Value}{x:DataW H×List MemPlace}(R:Addr→α→Prop)
 (ht:Tryz.prog.underlying t=some (.slice e))(hc:Tryz.prog.cellsOf e=size)
 (hel:∀(n:Nat)(c1:List Value)(y:DataW H×List MemPlace)(ad:Addr),DataW.trod enc Tryz.prog w 0 (fun _=>true) true n e c1=some y→cS w ad c1→∃a,R ad a)
 (h:DataW.trod enc Tryz.prog w 0 (fun _=>true) true fuel t cs=some x):∃(xs:List α)(A:Option Addr)(c:Nat),cs=[.slice A xs.length c]∧xs.length≤c∧c≤maxLen∧(0<xs.length→∃ad,A=some ad∧∀k(hk:k<xs.length),R (ad.add (k*size)) xs[k]):=by
 rcases DataW.trod_slice ht h with ⟨rfl,_⟩|⟨ad,len,cap,elems,rest,n,_,rfl,_,_,hl,hm,hlen,hE,_,_⟩
 ·exact⟨[],none,0,rfl,Nat.le_refl _,Nat.zero_le _,by simp⟩
 have each:∀i:Fin len,∃a:α,R (ad.add (i.1*size)) a:=by
  rintro⟨i,hi⟩;have h1:=hE i hi;rw[List.getElem?_eq_getElem (by omega),Option.bind_eq_some_iff,hc] at h1
  obtain⟨c1,hc1,hy⟩:=h1;obtain⟨_,h3,h4⟩:=World.cells?_some hc1;exact hel _ _ _ _ hy (fun j u hu=>by rw[h4 j (by have:=(List.getElem?_eq_some_iff.1 hu).1;omega)];exact hu)
 obtain⟨g,hg⟩:=Classical.axiomOfChoice each;refine⟨List.ofFn g,some ad,cap,by simp,by simpa using hl,hm,fun _=>⟨ad,rfl,fun k hk=> ?_⟩⟩
 have hk':k<len:=by simpa using hk
 have:=hg ⟨k,hk'⟩;simpa using this
theorem Gt(xs:List Int):xs.flatMap (fun n=>[Value.int .i64 n])=gA xs:=by induction xs<;>simp_all[gA]
theorem Gs(xs:List ByteArray):xs.flatMap (fun n=>[Value.string n])=rJ xs:=by induction xs<;>simp_all[rJ]
theorem Dg(xs:List Step):xs.flatMap (fun x=>[Value.int .i64 x.st,.bool x.bk])=dJ xs:=by
 induction xs with
 |nil=>rfl
 |cons x xs ih=>rw[List.flatMap_cons,ih];simp[dJ]
theorem Fy{α:Type}(f:α→Value)(xs:List α):xs.flatMap (fun p=>[f p])=xs.map f:=by
 induction xs with
 |nil=>rfl
 |cons x xs ih=>rw[List.flatMap_cons,ih];rfl
theorem kA:Tryz.prog.cellsOf 3=1:=by kernel_rfl
theorem Ba:Tryz.prog.cellsOf 4=1:=by kernel_rfl
theorem Lb:Tryz.prog.cellsOf 9=1:=by kernel_rfl
theorem Ie:Tryz.prog.cellsOf 22=1:=by kernel_rfl
theorem Id:Tryz.prog.cellsOf 23=1:=by kernel_rfl
theorem Ic:Tryz.prog.cellsOf 25=4:=by kernel_rfl
theorem Ib:Tryz.prog.cellsOf 31=2:=by kernel_rfl
theorem xF:Tryz.prog.cellsOf 34=2:=by kernel_rfl
theorem rM:Tryz.prog.cellsOf 41=1:=by kernel_rfl
theorem Hw:Tryz.prog.cellsOf 43=5:=by kernel_rfl
theorem xE:Tryz.prog.cellsOf 82=2:=by kernel_rfl
theorem xD:Tryz.prog.cellsOf 87=7:=by kernel_rfl
theorem gX{n:Nat}{cs:List Value}{x:DataW H×List MemPlace}(h:DataW.trod enc Tryz.prog w 0 (fun _=>true) true n 3 cs=some x):∃k,cs=[.int .i64 k]:=by
 obtain⟨k,h1,_,_⟩:=DataW.trod_int Tryz.underlying3 h;exact⟨k,h1⟩
theorem Ew{n:Nat}{cs:List Value}{x:DataW H×List MemPlace}(h:DataW.trod enc Tryz.prog w 0 (fun _=>true) true n 4 cs=some x):∃k,cs=[.bool k]:=by
 obtain⟨k,h1,_⟩:=DataW.trod_bool Tryz.underlying4 h;exact⟨k,h1⟩
theorem tH{n:Nat}{cs:List Value}{x:DataW H×List MemPlace}(h:DataW.trod enc Tryz.prog w 0 (fun _=>true) true n 41 cs=some x):∃v xs,cs=[v]∧bG w v xs:=by
 obtain⟨v,xs,h1,h2,_⟩:=rG (fun n:Int=>[Value.int .i64 n]) (fun _=>True) (fun _=>rfl) Tryz.underlying41 kA (fun n c1 y hy=>by obtain⟨k,hk⟩:=gX hy;exact⟨k,hk,trivial⟩) h
 rw[Gt] at h2;exact⟨v,xs,h1,h2⟩
theorem yL{n:Nat}{cs:List Value}{x:DataW H×List MemPlace}(h:DataW.trod enc Tryz.prog w 0 (fun _=>true) true n 22 cs=some x):∃v xs,cs=[v]∧Strs w v xs∧∀s∈xs,s.size≤maxLen:=by
 obtain⟨v,xs,h1,h2,h3⟩:=rG (fun n:ByteArray=>[Value.string n]) (fun s=>s.size≤maxLen) (fun _=>rfl) Tryz.underlying22 Lb (fun n c1 y hy=>by obtain⟨k,hk,_,hs⟩:=DataW.trod_string Tryz.underlying9 hy;exact⟨k,hk,hs⟩) h
 rw[Gs] at h2;exact⟨v,xs,h1,h2,h3⟩
theorem Lv{c0 c1:Value}{cs:List Value}(hl:cs.length=2)(h0:(cs.drop 0).take 1=[c0])(h1:(cs.drop 1).take 1=[c1]):cs=[c0,c1]:=by
 match cs,hl with
 | [x,y],_=>simp at h0 h1;simp[h0,h1]
theorem Bh{n:Nat}{cs:List Value}{x:DataW H×List MemPlace}(h:DataW.trod enc Tryz.prog w 0 (fun _=>true) true n 32 cs=some x):∃v xs,cs=[v]∧bY w v xs:=by
 obtain⟨v,xs,h1,h2,h3⟩:=rG (fun x:Step=>[Value.int .i64 x.st,.bool x.bk]) (fun _=>True) (fun _=>rfl) Tryz.underlying32 xE (fun n c1 y hy=>by
  obtain⟨xs,m,_,_,hl,hx,hE⟩:=DataW.trod_struct Tryz.underlying82 hy;rw[xE] at hl;have hx3:xs.length=2:=hx;have e0:DataW.trod enc Tryz.prog w 0 (fun _=>true) true m 3 ((c1.drop 0).take (Tryz.prog.cellsOf 3))=xs[0]? :=hE 0 _ rfl
  have e1:DataW.trod enc Tryz.prog w 0 (fun _=>true) true m 4 ((c1.drop 1).take (Tryz.prog.cellsOf 4))=xs[1]? :=hE 1 _ rfl
  rw[kA] at e0;rw[Ba] at e1;rw[List.getElem?_eq_getElem (by omega)] at e0 e1
  obtain⟨s,hs⟩:=gX e0;obtain⟨p,hp⟩:=Ew e1;exact⟨⟨s,p⟩,Lv hl hs hp,trivial⟩) h
 rw[Dg] at h2;exact⟨v,xs,h1,h2⟩
theorem Rk{c0 c1 c2 c3 c4 c5 c6:Value}{cs:List Value}(hl:cs.length=7)(h0:(cs.drop 0).take 1=[c0])(h1:(cs.drop 1).take 1=[c1])(h2:(cs.drop 2).take 1=[c2])(h3:(cs.drop 3).take 2=[c3,c4])(h5:(cs.drop 5).take 1=[c5])(h6:(cs.drop 6).take 1=[c6]):cs=[c0,c1,c2,c3,c4,c5,c6]:=by
 match cs,hl with
 | [x0,x1,x2,x3,x4,x5,x6],_=>simp at h0 h1 h2 h3 h5 h6;simp[h0,h1,h2,h3,h5,h6]
theorem Oc{n:Nat}{cs:List Value}{x:DataW H×List MemPlace}(h:DataW.trod enc Tryz.prog w 0 (fun _=>true) true n 34 cs=some x):∃a b,cs=[.int .i64 a,.int .i64 b]:=by
 obtain⟨xs,m,_,_,hl,hx,hE⟩:=DataW.trod_struct Tryz.underlying34 h;rw[xF] at hl;have hx3:xs.length=2:=hx;have e0:DataW.trod enc Tryz.prog w 0 (fun _=>true) true m 3 ((cs.drop 0).take (Tryz.prog.cellsOf 3))=xs[0]? :=hE 0 _ rfl
 have e1:DataW.trod enc Tryz.prog w 0 (fun _=>true) true m 3 ((cs.drop 1).take (Tryz.prog.cellsOf 3))=xs[1]? :=hE 1 _ rfl
 rw[kA] at e0 e1;rw[List.getElem?_eq_getElem (by omega)] at e0 e1
 obtain⟨s,hs⟩:=gX e0;obtain⟨p,hp⟩:=gX e1;exact⟨s,p,Lv hl hs hp⟩
theorem Dr{n:Nat}{cs:List Value}{x:DataW H×List MemPlace}(h:DataW.trod enc Tryz.prog w 0 (fun _=>true) true n 23 cs=some x):∃v xs,cs=[v]∧gY w v xs:=by
 obtain⟨xs,A,c,h1,h2,h3,h4⟩:=wL (fun ad(s:Street)=>∃sv,gB w ad s sv) Tryz.underlying23 xD (fun n c1 y ad hy hc=>by
  obtain⟨xs,m,_,_,hl,hx,hE⟩:=DataW.trod_struct Tryz.underlying87 hy;rw[xD] at hl;have hx3:xs.length=6:=hx;have e0:DataW.trod enc Tryz.prog w 0 (fun _=>true) true m 3 ((c1.drop 0).take (Tryz.prog.cellsOf 3))=xs[0]? :=hE 0 _ rfl
  have e1:DataW.trod enc Tryz.prog w 0 (fun _=>true) true m 3 ((c1.drop 1).take (Tryz.prog.cellsOf 3))=xs[1]? :=hE 1 _ rfl
  have e2:DataW.trod enc Tryz.prog w 0 (fun _=>true) true m 3 ((c1.drop 2).take (Tryz.prog.cellsOf 3))=xs[2]? :=hE 2 _ rfl
  have e3:DataW.trod enc Tryz.prog w 0 (fun _=>true) true m 34 ((c1.drop 3).take (Tryz.prog.cellsOf 34))=xs[3]? :=hE 3 _ rfl
  have e4:DataW.trod enc Tryz.prog w 0 (fun _=>true) true m 4 ((c1.drop 5).take (Tryz.prog.cellsOf 4))=xs[4]? :=hE 4 _ rfl
  have e5:DataW.trod enc Tryz.prog w 0 (fun _=>true) true m 41 ((c1.drop 6).take (Tryz.prog.cellsOf 41))=xs[5]? :=hE 5 _ rfl
  rw[kA] at e0 e1 e2;rw[xF] at e3;rw[Ba] at e4;rw[rM] at e5;rw[List.getElem?_eq_getElem (by omega)] at e0 e1 e2 e3 e4 e5
  obtain⟨a,ha⟩:=gX e0;obtain⟨b,hb⟩:=gX e1;obtain⟨me,hm⟩:=gX e2;obtain⟨lo,hi,hlh⟩:=Oc e3;obtain⟨bo,hbo⟩:=Ew e4;obtain⟨sv,sh,hsv,hI⟩:=tH e5;have e:=Rk hl ha hb hm hlh hbo hsv;subst e;exact⟨⟨a,b,me,lo,hi,bo,sh⟩,sv,hc,hI⟩) h
 exact⟨_,xs,h1,A,c,rfl,h2,h3,h4⟩
theorem Od{n:Nat}{cs:List Value}{x:DataW H×List MemPlace}(h:DataW.trod enc Tryz.prog w 0 (fun _=>true) true n 47 cs=some x):∃v xs,cs=[v]∧Rows w v xs:=by
 obtain⟨xs,A,c,h1,h2,h3,h4⟩:=wL (fun ad(p:Value×List Int)=>cS w ad [p.1]∧bG w p.1 p.2) Tryz.underlying47 rM (fun n c1 y ad hy hc=>by
  obtain⟨v,l,rfl,hI⟩:=tH hy;exact⟨(v,l),hc,hI⟩) h
 refine⟨_,xs.map (·.2),h1,xs.map (·.1),by simp,⟨A,c,by simp,by simpa using h2,h3,by simp,fun hn=> ?_⟩,fun i hi hi'=> ?_⟩
 ·obtain⟨ad,ha,hR⟩:=h4 (by simpa using hn)
  refine⟨ad,ha,?_⟩;have:=pO (w:=w) (fun p:Value×List Int=>[p.1]) 1 (fun _=>rfl) (a:=ad) xs 0 (fun i hi=>by simpa using (hR i hi).1)
  rw[Fy (fun p:Value×List Int=>p.1)] at this
  simpa [Addr.add] using this
 ·have hi2:i<xs.length:=by simpa using hi
  obtain⟨ad,_,hR⟩:=h4 (by omega)
  simpa using (hR i hi2).2
theorem Sc{v:Value}{d:DataW H}{p:List MemPlace}(hv:Value.okWide Tryz.prog w .any b0 41 v)(h:DataW.Trod enc Tryz.prog w 0 (fun _=>true) true 41 v d p):∃xs,bG w v xs:=by
 obtain⟨a,l,c,rfl⟩:=okWide_slice Tryz.underlying41 hv;obtain⟨fuel,hf⟩:=h;obtain⟨v',xs,h1,h2⟩:=tH hf;simp[Value.cells] at h1;subst h1;exact⟨xs,h2⟩
theorem Ii{v:Value}{d:DataW H}{p:List MemPlace}(hv:Value.okWide Tryz.prog w .any b0 32 v)(h:DataW.Trod enc Tryz.prog w 0 (fun _=>true) true 32 v d p):∃xs,bY w v xs:=by
 obtain⟨a,l,c,rfl⟩:=okWide_slice Tryz.underlying32 hv;obtain⟨fuel,hf⟩:=h;obtain⟨v',xs,h1,h2⟩:=Bh hf;simp[Value.cells] at h1;subst h1;exact⟨xs,h2⟩
theorem Lj{v:Value}{d:DataW H}{p:List MemPlace}(hv:Value.okWide Tryz.prog w .any b0 47 v)(h:DataW.Trod enc Tryz.prog w 0 (fun _=>true) true 47 v d p):∃xs,Rows w v xs:=by
 obtain⟨a,l,c,rfl⟩:=okWide_slice Tryz.underlying47 hv;obtain⟨fuel,hf⟩:=h;obtain⟨v',xs,h1,h2⟩:=Od hf;simp[Value.cells] at h1;subst h1;exact⟨xs,h2⟩
theorem Ro{c0 c1 c2 c3:Value}{cs:List Value}(hl:cs.length=4)(h0:(cs.drop 0).take 1=[c0])(h1:(cs.drop 1).take 1=[c1])(h2:(cs.drop 2).take 1=[c2])(h3:(cs.drop 3).take 1=[c3]):cs=[c0,c1,c2,c3]:=by
 match cs,hl with
 | [x0,x1,x2,x3],_=>simp at h0 h1 h2 h3;simp[h0,h1,h2,h3]
theorem Rp{c0 c1 c2 c3 c4:Value}{cs:List Value}(hl:cs.length=5)(h0:(cs.drop 0).take 1=[c0])(h1:(cs.drop 1).take 1=[c1])(h2:(cs.drop 2).take 1=[c2])(h3:(cs.drop 3).take 1=[c3])(h4:(cs.drop 4).take 1=[c4]):cs=[c0,c1,c2,c3,c4]:=by
 match cs,hl with
 | [x0,x1,x2,x3,x4],_=>simp at h0 h1 h2 h3 h4;simp[h0,h1,h2,h3,h4]
theorem lQ{v:Value}{d:DataW H}{p:List MemPlace}(hv:Value.okWide Tryz.prog w .any b0 25 v)(h:DataW.Trod enc Tryz.prog w 0 (fun _=>true) true 25 v d p):∃t,aM w v t:=by
 obtain⟨cs,rfl,hcs⟩:=okWide_struct Tryz.underlying25 hv;obtain⟨fuel,hf⟩:=h;obtain⟨xs,m,_,_,hl,hx,hE⟩:=DataW.trod_struct Tryz.underlying25 hf;rw[Ic] at hl;have hx3:xs.length=4:=hx;have e0:DataW.trod enc Tryz.prog w 0 (fun _=>true) true m 22 (((Value.agg cs).cells.toList.drop 0).take (Tryz.prog.cellsOf 22))=xs[0]? :=hE 0 _ rfl
 have e1:DataW.trod enc Tryz.prog w 0 (fun _=>true) true m 22 (((Value.agg cs).cells.toList.drop 1).take (Tryz.prog.cellsOf 22))=xs[1]? :=hE 1 _ rfl
 have e2:DataW.trod enc Tryz.prog w 0 (fun _=>true) true m 22 (((Value.agg cs).cells.toList.drop 2).take (Tryz.prog.cellsOf 22))=xs[2]? :=hE 2 _ rfl
 have e3:DataW.trod enc Tryz.prog w 0 (fun _=>true) true m 23 (((Value.agg cs).cells.toList.drop 3).take (Tryz.prog.cellsOf 23))=xs[3]? :=hE 3 _ rfl
 rw[Ie] at e0 e1 e2;rw[Id] at e3;rw[List.getElem?_eq_getElem (by omega)] at e0 e1 e2 e3
 obtain⟨pv,ps,h0,hP,z0⟩:=yL e0;obtain⟨sv,ss,h1,hS,z1⟩:=yL e1;obtain⟨tv,ts,h2,hT,z2⟩:=yL e2;obtain⟨xv,xs',h3,hX⟩:=Dr e3;have e:=Ro hl h0 h1 h2 h3;refine⟨⟨ps,ss,ts,xs'⟩,pv,sv,tv,xv,?_,hP,hS,hT,hX,?_⟩
 ·have:cs=#[pv,sv,tv,xv]:=by apply Array.ext';simpa [Value.cells] using e
  rw[this]
 ·intro s hs;simp only[List.mem_append] at hs;rcases hs with (hs|hs)|hs
  ·exact z0 s hs
  ·exact z1 s hs
  ·exact z2 s hs
theorem vD{v:Value}{d:DataW H}{p:List MemPlace}(hv:Value.okWide Tryz.prog w .any b0 43 v)(h:DataW.Trod enc Tryz.prog w 0 (fun _=>true) true 43 v d p):∃k,bA w v k:=by
 obtain⟨cs,rfl,hcs⟩:=okWide_struct Tryz.underlying43 hv;obtain⟨fuel,hf⟩:=h;obtain⟨xs,m,_,_,hl,hx,hE⟩:=DataW.trod_struct Tryz.underlying43 hf;rw[Hw] at hl;have hx3:xs.length=5:=hx;have e0:DataW.trod enc Tryz.prog w 0 (fun _=>true) true m 3 (((Value.agg cs).cells.toList.drop 0).take (Tryz.prog.cellsOf 3))=xs[0]? :=hE 0 _ rfl
 have e1:DataW.trod enc Tryz.prog w 0 (fun _=>true) true m 3 (((Value.agg cs).cells.toList.drop 1).take (Tryz.prog.cellsOf 3))=xs[1]? :=hE 1 _ rfl
 have e2:DataW.trod enc Tryz.prog w 0 (fun _=>true) true m 3 (((Value.agg cs).cells.toList.drop 2).take (Tryz.prog.cellsOf 3))=xs[2]? :=hE 2 _ rfl
 have e3:DataW.trod enc Tryz.prog w 0 (fun _=>true) true m 3 (((Value.agg cs).cells.toList.drop 3).take (Tryz.prog.cellsOf 3))=xs[3]? :=hE 3 _ rfl
 have e4:DataW.trod enc Tryz.prog w 0 (fun _=>true) true m 41 (((Value.agg cs).cells.toList.drop 4).take (Tryz.prog.cellsOf 41))=xs[4]? :=hE 4 _ rfl
 rw[kA] at e0 e1 e2 e3;rw[rM] at e4;rw[List.getElem?_eq_getElem (by omega)] at e0 e1 e2 e3 e4
 obtain⟨a,h0⟩:=gX e0;obtain⟨b,h1⟩:=gX e1;obtain⟨c,h2⟩:=gX e2;obtain⟨tm,h3⟩:=gX e3;obtain⟨cv,cl,h4,hC⟩:=tH e4;have e:=Rp hl h0 h1 h2 h3 h4;refine⟨⟨a,b,c,tm,cl⟩,cv,?_,hC⟩;have:cs=#[.int .i64 a,.int .i64 b,.int .i64 c,.int .i64 tm,cv]:=by apply Array.ext';simpa [Value.cells] using e
 rw[this]
theorem Co{t e:TypeId}{n:Nat}{v:Value}(ht:Tryz.prog.underlying t=some (.array n e))(h:Value.okWide Tryz.prog w .any b0 t v):∃cs,v=.agg cs∧cs.size=Tryz.prog.cellsOf t:=by
 simp only[Value.okWide,ht] at h;obtain⟨cs,h1,h2,_⟩:=h;exact⟨cs,h1,h2⟩
theorem Lk{v:Value}{d:DataW H}{p:List MemPlace}(hv:Value.okWide Tryz.prog w .any b0 31 v)(h:DataW.Trod enc Tryz.prog w 0 (fun _=>true) true 31 v d p):∃m n,v=.agg #[.int .i64 m,.int .i64 n]:=by
 obtain⟨cs,rfl,hcs⟩:=Co Tryz.underlying31 hv;obtain⟨fuel,hf⟩:=h;obtain⟨xs,m,_,_,hl,hx,hE⟩:=DataW.trod_array Tryz.underlying31 hf;rw[Ib] at hl;have e0:=hE 0 (by decide);have e1:=hE 1 (by decide)
 rw[kA] at e0 e1;rw[List.getElem?_eq_getElem (by omega)] at e0 e1
 obtain⟨a,h0⟩:=gX e0;obtain⟨b,h1⟩:=gX e1;have:=Lv hl (by simpa using h0) (by simpa using h1)
 refine⟨a,b,?_⟩;have:cs=#[.int .i64 a,.int .i64 b]:=by apply Array.ext';simpa [Value.cells] using this
 rw[this]
theorem Ia:Tryz.prog.cellsOf 32=1:=by kernel_rfl
theorem Hu:Tryz.prog.cellsOf 55=2:=by kernel_rfl
theorem Oe{v:Value}{d:DataW H}{p:List MemPlace}(hv:Value.okWide Tryz.prog w .any b0 55 v)(h:DataW.Trod enc Tryz.prog w 0 (fun _=>true) true 55 v d p):∃a lv xs,v=.agg #[.int .i64 a,lv]∧bY w lv xs:=by
 obtain⟨cs,rfl,hcs⟩:=okWide_struct Tryz.underlying55 hv;obtain⟨fuel,hf⟩:=h;obtain⟨xs,m,_,_,hl,hx,hE⟩:=DataW.trod_struct Tryz.underlying55 hf;rw[Hu] at hl;have hx3:xs.length=2:=hx;have e0:DataW.trod enc Tryz.prog w 0 (fun _=>true) true m 3 (((Value.agg cs).cells.toList.drop 0).take (Tryz.prog.cellsOf 3))=xs[0]? :=hE 0 _ rfl
 have e1:DataW.trod enc Tryz.prog w 0 (fun _=>true) true m 32 (((Value.agg cs).cells.toList.drop 1).take (Tryz.prog.cellsOf 32))=xs[1]? :=hE 1 _ rfl
 rw[kA] at e0;rw[Ia] at e1;rw[List.getElem?_eq_getElem (by omega)] at e0 e1
 obtain⟨a,h0⟩:=gX e0;obtain⟨lv,l,h1,hS⟩:=Bh e1;have e:=Lv hl h0 h1;refine⟨a,lv,l,?_,hS⟩;have:cs=#[.int .i64 a,lv]:=by apply Array.ext';simpa [Value.cells] using e
 rw[this]
end
end Go.St
end
section
namespace Go.St
open Go Go.Bp Go.RowKit Go.Proofs Go.ChangeShapes Go.WideShapes Go.ChangeAt
def cX:List (String×DataW Unit):=Go.Proofs.YtfjnacajjpaeiaaGreatDoor.Rows.streetChecksRow.laid
theorem zE: "*" ++ "errors.errorString" = "*errors.errorString" :=by decide
theorem Jf(u:TypeId)(h:Tryz.prog.typeName? 3 u=some "*errors.errorString"):u=234:=
 typeName_ptr_named (nm:= "errors.errorString") (by rw[zE];kernel_rfl) (by kernel_rfl) (by decide) u (by rw[zE];exact h)
theorem pN{W:World}(h:laidMetH Tryz.prog cX W)(hs:W.ShapedOpen Tryz.prog):Env W:=by
 rw[MakeChecks.laidMetH_plain _ _ _ (by kernel_rfl)] at h
 have h2:=h.tail.tail;have h4:=h2.tail;have h5:=h4.tail;have tab:=Lib.tabIs_of_head (zs:=Lib.pow10Tab) (k:=.u64) (g:=3) (t:=230) (n:=20) (e:=188) (by kernel_rfl) (by kernel_rfl) Tryz.underlying230 Tryz.underlying188 (by kernel_rfl) (by kernel_rfl) h2
 obtain⟨a1,s1,hv1,_⟩:=laid_sentinel h4 (show Tryz.prog.globalNamed "strconv.ErrRange" =some 2 by kernel_rfl) (ti:=143) (by kernel_rfl) Tryz.underlying143 Jf Tryz.underlying234 Tryz.underlying236 rfl rfl Tryz.underlying9 (by kernel_rfl) (by kernel_rfl)
 obtain⟨a2,s2,hv2,_⟩:=laid_sentinel h5 (show Tryz.prog.globalNamed "strconv.ErrSyntax" =some 1 by kernel_rfl) (ti:=143) (by kernel_rfl) Tryz.underlying143 Jf Tryz.underlying234 Tryz.underlying236 rfl rfl Tryz.underlying9 (by kernel_rfl) (by kernel_rfl)
 refine⟨?_,?_,?_,tab⟩
 ·exact cell_of_shapedOpen_int (P:=Tryz.prog) (g:=0) (t:=3) (zero:=#[.int .i64 0]) hs (of_decide_eq_true (by kernel_rfl)) (by kernel_rfl) rfl (by kernel_rfl) (by kernel_rfl) Tryz.underlying3
 ·exact⟨_,_,by simpa using World.var?_cell (show Tryz.prog.globalNamed "strconv.ErrSyntax" =some 1 by kernel_rfl) hv2 0⟩
 ·exact⟨_,_,by simpa using World.var?_cell (show Tryz.prog.globalNamed "strconv.ErrRange" =some 2 by kernel_rfl) hv1 0⟩
theorem eO{H:Type}{enc:TypeId×Value→H}{a:Assume}{C:Checked}{os:Os}{f:FuncId}{fn:Func}{s:ChangeSpec}{conds:List PathCond}{apart fresh handsOn again:Bool}{X:World→Array Value→Prop}
 (hX:∀(w w':World)(args:Array Value),w.heap=w'.heap→X w args→X w' args)
 (own:ownKnob C.prog.godebug=none)(started:os.Started)(noInit:C.prog.inits.idxOf? f=none)(hfn:C.prog.funcs[f]? =some fn)
 (witness:∃(w:World)(tape:Tape)(i:Input),w.os=os∧(w.forCall tape i).Shaped C.prog∧i.vars=[]∧Input.okWide C.prog (w.forCall tape i) .any w.heap.size f i∧
  ((s.pre enc C.prog fn conds apart (w.forCall tape i).memory i.args∧X (w.forCall tape i).memory i.args)∧sizedMet enc C.prog fn (OpenSpec.ofChange s) apart (w.forCall tape i).memory i.args)∧a.holds C.prog (lone (Frame.enter C.prog f i.args .normal) [] (w.forCall tape i)))
 (contract:∀(W:World)(base:Nat)(args:Array Value)(ds gs:List (DataW H))(before:List MemPlace),
  (∀(j:Nat)t v,fn.params[j]? =some t→args[j]? =some v→Value.okWide C.prog W .any base t v)→
  DataW.Whole enc C.prog fn.params.toList s.vars apart W args.toList ds gs before→X W args→W.ShapedOpen C.prog→
  Calls C.prog f args W fun e W'=>∃v,e=.returned v∧s.post enc C.prog fn apart fresh handsOn again W args v W'):
 ReturnsInHanded a C os f .any (fun w args=>(s.pre enc C.prog fn conds apart w args∧X w args)∧sizedMet enc C.prog fn (OpenSpec.ofChange s) apart w args) (s.post enc C.prog fn apart fresh handsOn again):=by
 refine returnsInHanded_of_calls own started noInit witness ?_;intro w tape i _ hsh _ hok hpre hholds;obtain⟨_,_,_,fn',hfn',_,_,_,_,hval⟩:=hok;have e:fn'=fn:=Option.some.inj (hfn'.symm.trans hfn);subst e;obtain⟨⟨⟨ds,gs,before,hw,hc⟩,hx⟩,hz⟩:=hpre;have hw':=DataW.Whole.of_heap (w':=w.forCall tape i) (by rfl) hw
 refine(contract (w.forCall tape i) w.heap.size i.args ds gs before hval hw' (hX _ _ _ (by rfl) hx) hsh).mono fun e W' ⟨v,he,hp⟩=> ?_
 subst he;exact ChangeSpec.post_blind hp
theorem jT:ownKnob Tryz.prog.godebug=none:=by kernel_rfl
theorem eX:laidOutB Tryz.prog=true:=by kernel_rfl
end Go.St
end
section
namespace Go.St
open Go.Bp
namespace Town
variable{t:Town}{k:Task}
/-! ### a street closed more -/
def mP(k:Task)(s:Int):Task:={k with closed:=k.closed++ [s]}
def Cp(k:Task)(s:Int):Task:={k with show_:=s}
/-! ### the sums of two parts -/
end Town
end Go.St
end
