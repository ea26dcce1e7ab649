import Derived.LaidMore
import Derived.Lay
import Derived.OpenShut
import Derived.ProofKit
import Derived.Test.YtbfbepnkofampaaGreatDoorXPX05
set_option maxRecDepth 100000
set_option synthInstance.maxSize 2000
set_option synthInstance.maxHeartbeats 400000
set_option maxHeartbeats 8000000
set_option linter.all false
section
namespace Go.Rg
open Go Go.Bp Go.RowKit Go.Walk Go.Proofs Go.ChangeShapes Go.WideShapes Go.ChangeAt
section
variable{H:Type}{enc:TypeId×Value→H}{w:World}{b0:Nat}
theorem rF{α:Type}(f:α→List Value)(size:Nat)(hf:∀a,(f a).length=size){a:Addr}:∀(xs:List α)(i0:Nat),
 (∀(i:Nat)(hi:i<xs.length),Cells w (a.add ((i0+i)*size)) (f xs[i]))→Cells w (a.add (i0*size)) (xs.flatMap f)
 | [],i0,_=>by simpa using Cells.nil w _
 |x::xs,i0,h=>by
  have h0:=h 0 (by simp)
  have ih:=rF f size hf (a:=a) xs (i0+1) (fun i hi=>by
   have:=h (i+1) (by simpa using hi)
   rw[show i0+1+i=i0+(i+1) by omega]
   simpa using this)
  intro j u hu;simp only[List.flatMap_cons] at hu;by_cases hj:j<size
  ·rw[List.getElem?_append_left (by rw[hf];exact hj)] at hu
   have:=h0 j u (by simpa using hu)
   simpa using this
  ·rw[List.getElem?_append_right (by rw[hf];omega),hf] at hu
   have:=ih (j-size) u hu;rw[rL] at this⊢;rwa [show(i0+1)*size+(j-size)=i0*size+j by rw[Nat.add_mul];omega] at this
theorem gD{α:Type}[Enc α]{t e:TypeId}{fuel:Nat}{cs:List Value}{x:DataW H×List MemPlace}(good:α→Prop)
 (ht:Tryz.prog.underlying t=some (.slice e))(hc:Tryz.prog.cellsOf e=Enc.size α)
 (hel:∀(n:Nat)(c1:List Value)(y:DataW H×List MemPlace),DataW.trod enc Tryz.prog w 0 (fun _=>true) true n e c1=some y→∃a:α,c1=Enc.enc a∧good a)
 (h:DataW.trod enc Tryz.prog w 0 (fun _=>true) true fuel t cs=some x):∃(A:Option Addr)(c:Nat)(xs:List α),cs=[.slice A xs.length c]∧ListV w (.slice A xs.length c) xs∧∀a∈xs,good a:=by
 rcases DataW.trod_slice ht h with ⟨rfl,_⟩|⟨ad,len,cap,elems,rest,n,_,rfl,_,_,hl,hm,hlen,hE,_,_⟩
 ·exact⟨none,0,[],rfl,ListV.nil,by simp⟩
 have each:∀i:Fin len,∃a:α,Cells w (ad.add (i.1*Enc.size α)) (Enc.enc a)∧good a:=by
  rintro⟨i,hi⟩;have h1:=hE i hi;rw[List.getElem?_eq_getElem (by omega),Option.bind_eq_some_iff,hc] at h1
  obtain⟨c1,hc1,hy⟩:=h1;obtain⟨a,rfl,hg⟩:=hel _ _ _ hy;obtain⟨_,h3,h4⟩:=World.cells?_some hc1;refine⟨a,fun j u hu=> ?_,hg⟩
  rw[h4 j (by have:=(List.getElem?_eq_some_iff.1 hu).1;omega)]
  exact hu
 obtain⟨g,hg⟩:=Classical.axiomOfChoice each;have hlg:(List.ofFn g).length=len:=by simp
 refine⟨some ad,cap,List.ofFn g,by rw[hlg],?_,?_⟩
 ·refine ListV.cells ?_ rfl rfl (by rw[hlg];exact hl) hm
  have:=rF (w:=w) (Enc.enc (α:=α)) (Enc.size α) Enc.len (a:=ad) (List.ofFn g) 0 (fun i hi=>by
   have hi':i<len:=by simpa using hi
   have:=(hg ⟨i,hi'⟩).1;simpa using this)
  simpa [Addr.add,Walk.encL] using this
 ·intro a ha;obtain⟨i,rfl⟩:=List.mem_ofFn.1 ha;exact(hg i).2
theorem chop{cs s:List Value}(i n j:Nat)(h:(cs.drop i).take n=s)(hj:i+n=j):cs.drop i=s++cs.drop j:=by
 rw[←h,←hj,←List.drop_drop,List.take_append_drop]
theorem eN{cs:List Value}{n:Nat}(h:cs.length=n):cs.drop n=[]:=List.drop_of_length_le (by omega)
abbrev Tr(enc:TypeId×Value→H)(w:World)(n:Nat)(t:TypeId)(cs:List Value)(x:DataW H×List MemPlace):Prop:=DataW.trod enc Tryz.prog w 0 (fun _=>true) true n t cs=some x
theorem cells3:Tryz.prog.cellsOf 3=1:=by kernel_rfl
theorem cells9:Tryz.prog.cellsOf 9=1:=by kernel_rfl
theorem cells22:Tryz.prog.cellsOf 22=1:=by kernel_rfl
theorem cells23:Tryz.prog.cellsOf 23=1:=by kernel_rfl
theorem cells25:Tryz.prog.cellsOf 25=2:=by kernel_rfl
theorem cells26:Tryz.prog.cellsOf 26=1:=by kernel_rfl
theorem cells28:Tryz.prog.cellsOf 28=6:=by kernel_rfl
theorem cells29:Tryz.prog.cellsOf 29=1:=by kernel_rfl
theorem cells31:Tryz.prog.cellsOf 31=2:=by kernel_rfl
theorem cells74:Tryz.prog.cellsOf 74=2:=by kernel_rfl
theorem cells80:Tryz.prog.cellsOf 80=9:=by kernel_rfl
theorem cells95:Tryz.prog.cellsOf 95=2:=by kernel_rfl
theorem cells101:Tryz.prog.cellsOf 101=5:=by kernel_rfl
theorem cells106:Tryz.prog.cellsOf 106=5:=by kernel_rfl
theorem cellsI:Tryz.prog.cellsOf 76=1:=by kernel_rfl
theorem cY{n:Nat}{cs:List Value}{x:DataW H×List MemPlace}(h:Tr enc w n 3 cs x):∃k,cs=[.int .i64 k]:=by
 obtain⟨k,h1,_,_⟩:=DataW.trod_int Tryz.underlying3 h;exact⟨k,h1⟩
theorem Bn{n:Nat}{cs:List Value}{x:DataW H×List MemPlace}(h:Tr enc w n 9 cs x):∃s,cs=[.string s]∧s.size≤maxLen:=by
 obtain⟨k,hk,_,hs⟩:=DataW.trod_string Tryz.underlying9 h;exact⟨k,hk,hs⟩
theorem yC{n:Nat}{cs:List Value}{x:DataW H×List MemPlace}(h:Tr enc w n 74 cs x):∃a b,cs=[.int .i64 a,.int .i64 b]:=by
 obtain⟨xs,m,_,_,hl,hx,hE⟩:=DataW.trod_struct Tryz.underlying74 h;rw[cells74] at hl;have hx3:xs.length=2:=hx;have e0:DataW.trod enc Tryz.prog w 0 (fun _=>true) true m 3 ((cs.drop 0).take (Tryz.prog.cellsOf 3))=xs[0]? :=hE 0 _ rfl;rw[cells3,List.getElem?_eq_getElem (by omega)] at e0
 have e1:DataW.trod enc Tryz.prog w 0 (fun _=>true) true m 3 ((cs.drop 1).take (Tryz.prog.cellsOf 3))=xs[1]? :=hE 1 _ rfl;rw[cells3,List.getElem?_eq_getElem (by omega)] at e1
 obtain⟨a,h0⟩:=cY e0;obtain⟨b,h1⟩:=cY e1;refine⟨a,b,?_⟩;have e:=chop 0 1 1 h0 rfl;rw[chop 1 1 2 h1 rfl,eN hl] at e;simpa using e
theorem Ny{n:Nat}{cs:List Value}{x:DataW H×List MemPlace}(h:Tr enc w n 95 cs x):∃a b,cs=[.int .i64 a,.int .i64 b]:=by
 obtain⟨xs,m,_,_,hl,hx,hE⟩:=DataW.trod_struct Tryz.underlying95 h;rw[cells95] at hl;have hx3:xs.length=2:=hx;have e0:DataW.trod enc Tryz.prog w 0 (fun _=>true) true m 3 ((cs.drop 0).take (Tryz.prog.cellsOf 3))=xs[0]? :=hE 0 _ rfl;rw[cells3,List.getElem?_eq_getElem (by omega)] at e0
 have e1:DataW.trod enc Tryz.prog w 0 (fun _=>true) true m 3 ((cs.drop 1).take (Tryz.prog.cellsOf 3))=xs[1]? :=hE 1 _ rfl;rw[cells3,List.getElem?_eq_getElem (by omega)] at e1
 obtain⟨a,h0⟩:=cY e0;obtain⟨b,h1⟩:=cY e1;refine⟨a,b,?_⟩;have e:=chop 0 1 1 h0 rfl;rw[chop 1 1 2 h1 rfl,eN hl] at e;simpa using e
theorem Lb{n:Nat}{cs:List Value}{x:DataW H×List MemPlace}(h:Tr enc w n 80 cs x):∃d:Event,cs=Enc.enc d:=by
 obtain⟨xs,m,_,_,hl,hx,hE⟩:=DataW.trod_struct Tryz.underlying80 h;rw[cells80] at hl;have hx3:xs.length=8:=hx;have e0:DataW.trod enc Tryz.prog w 0 (fun _=>true) true m 3 ((cs.drop 0).take (Tryz.prog.cellsOf 3))=xs[0]? :=hE 0 _ rfl;rw[cells3,List.getElem?_eq_getElem (by omega)] at e0
 have e1:DataW.trod enc Tryz.prog w 0 (fun _=>true) true m 3 ((cs.drop 1).take (Tryz.prog.cellsOf 3))=xs[1]? :=hE 1 _ rfl;rw[cells3,List.getElem?_eq_getElem (by omega)] at e1
 have e2:DataW.trod enc Tryz.prog w 0 (fun _=>true) true m 74 ((cs.drop 2).take (Tryz.prog.cellsOf 74))=xs[2]? :=hE 2 _ rfl;rw[cells74,List.getElem?_eq_getElem (by omega)] at e2
 have e3:DataW.trod enc Tryz.prog w 0 (fun _=>true) true m 3 ((cs.drop 4).take (Tryz.prog.cellsOf 3))=xs[3]? :=hE 3 _ rfl;rw[cells3,List.getElem?_eq_getElem (by omega)] at e3
 have e4:DataW.trod enc Tryz.prog w 0 (fun _=>true) true m 3 ((cs.drop 5).take (Tryz.prog.cellsOf 3))=xs[4]? :=hE 4 _ rfl;rw[cells3,List.getElem?_eq_getElem (by omega)] at e4
 have e5:DataW.trod enc Tryz.prog w 0 (fun _=>true) true m 3 ((cs.drop 6).take (Tryz.prog.cellsOf 3))=xs[5]? :=hE 5 _ rfl;rw[cells3,List.getElem?_eq_getElem (by omega)] at e5
 have e6:DataW.trod enc Tryz.prog w 0 (fun _=>true) true m 3 ((cs.drop 7).take (Tryz.prog.cellsOf 3))=xs[6]? :=hE 6 _ rfl;rw[cells3,List.getElem?_eq_getElem (by omega)] at e6
 have e7:DataW.trod enc Tryz.prog w 0 (fun _=>true) true m 3 ((cs.drop 8).take (Tryz.prog.cellsOf 3))=xs[7]? :=hE 7 _ rfl;rw[cells3,List.getElem?_eq_getElem (by omega)] at e7
 obtain⟨a,h0⟩:=cY e0;obtain⟨b,h1⟩:=cY e1;obtain⟨c,o,h2⟩:=yC e2;obtain⟨t,h3⟩:=cY e3;obtain⟨q,h4⟩:=cY e4;obtain⟨p,h5⟩:=cY e5;obtain⟨u,h6⟩:=cY e6;obtain⟨i,h7⟩:=cY e7;refine⟨⟨a,b,⟨c,o⟩,t,q,p,u,i⟩,?_⟩;have e:=chop 0 1 1 h0 rfl;rw[chop 1 1 2 h1 rfl,chop 2 2 4 h2 rfl,chop 4 1 5 h3 rfl,chop 5 1 6 h4 rfl,chop 6 1 7 h5 rfl,chop 7 1 8 h6 rfl,chop 8 1 9 h7 rfl,eN hl] at e;simpa [Enc.enc] using e
theorem Gd{n:Nat}{cs:List Value}{x:DataW H×List MemPlace}(h:Tr enc w n 101 cs x):∃d:Treaty,cs=Enc.enc d∧d.name.size≤maxLen:=by
 obtain⟨xs,m,_,_,hl,hx,hE⟩:=DataW.trod_struct Tryz.underlying101 h;rw[cells101] at hl;have hx3:xs.length=3:=hx;have e0:DataW.trod enc Tryz.prog w 0 (fun _=>true) true m 9 ((cs.drop 0).take (Tryz.prog.cellsOf 9))=xs[0]? :=hE 0 _ rfl;rw[cells9,List.getElem?_eq_getElem (by omega)] at e0
 have e1:DataW.trod enc Tryz.prog w 0 (fun _=>true) true m 74 ((cs.drop 1).take (Tryz.prog.cellsOf 74))=xs[1]? :=hE 1 _ rfl;rw[cells74,List.getElem?_eq_getElem (by omega)] at e1
 have e2:DataW.trod enc Tryz.prog w 0 (fun _=>true) true m 95 ((cs.drop 3).take (Tryz.prog.cellsOf 95))=xs[2]? :=hE 2 _ rfl;rw[cells95,List.getElem?_eq_getElem (by omega)] at e2
 obtain⟨s,h0,hs⟩:=Bn e0;obtain⟨a,b,h1⟩:=yC e1;obtain⟨c,d,h2⟩:=Ny e2;refine⟨⟨s,⟨a,b⟩,⟨c,d⟩⟩,?_,hs⟩;have e:=chop 0 1 1 h0 rfl;rw[chop 1 2 3 h1 rfl,chop 3 2 5 h2 rfl,eN hl] at e;simpa [Enc.enc] using e
theorem Nz{n:Nat}{cs:List Value}{x:DataW H×List MemPlace}(h:Tr enc w n 76 cs x):∃(A:Option Addr)(c:Nat)(l:List Int),cs=[.slice A l.length c]∧ListV w (.slice A l.length c) l:=by
 obtain⟨A,c,l,h1,h2,_⟩:=gD (α:=Int) (fun _=>True) (show Tryz.prog.underlying 76=some (.slice 3) by kernel_rfl) cells3 (fun n c1 y hy=>by obtain⟨k,hk⟩:=cY hy;exact⟨k,hk,trivial⟩) h
 exact⟨A,c,l,h1,h2⟩
theorem Ld{n:Nat}{cs:List Value}{x:DataW H×List MemPlace}(h:Tr enc w n 106 cs x):∃d:ClsA,cs=Enc.enc d∧ListV w (.slice d.a d.c.incl.length d.k) d.c.incl∧d.c.name.size≤maxLen:=by
 obtain⟨xs,m,_,_,hl,hx,hE⟩:=DataW.trod_struct Tryz.underlying106 h;rw[cells106] at hl;have hx3:xs.length=5:=hx;have e0:DataW.trod enc Tryz.prog w 0 (fun _=>true) true m 9 ((cs.drop 0).take (Tryz.prog.cellsOf 9))=xs[0]? :=hE 0 _ rfl;rw[cells9,List.getElem?_eq_getElem (by omega)] at e0
 have e1:DataW.trod enc Tryz.prog w 0 (fun _=>true) true m 76 ((cs.drop 1).take (Tryz.prog.cellsOf 76))=xs[1]? :=hE 1 _ rfl;rw[cellsI,List.getElem?_eq_getElem (by omega)] at e1
 have e2:DataW.trod enc Tryz.prog w 0 (fun _=>true) true m 3 ((cs.drop 2).take (Tryz.prog.cellsOf 3))=xs[2]? :=hE 2 _ rfl;rw[cells3,List.getElem?_eq_getElem (by omega)] at e2
 have e3:DataW.trod enc Tryz.prog w 0 (fun _=>true) true m 3 ((cs.drop 3).take (Tryz.prog.cellsOf 3))=xs[3]? :=hE 3 _ rfl;rw[cells3,List.getElem?_eq_getElem (by omega)] at e3
 have e4:DataW.trod enc Tryz.prog w 0 (fun _=>true) true m 3 ((cs.drop 4).take (Tryz.prog.cellsOf 3))=xs[4]? :=hE 4 _ rfl;rw[cells3,List.getElem?_eq_getElem (by omega)] at e4
 obtain⟨s,h0,hs⟩:=Bn e0;obtain⟨A,k,l,h1,hL⟩:=Nz e1;obtain⟨a,h2⟩:=cY e2;obtain⟨b,h3⟩:=cY e3;obtain⟨c,h4⟩:=cY e4;refine⟨⟨⟨s,l,a,b,c⟩,A,k⟩,?_,hL,hs⟩;have e:=chop 0 1 1 h0 rfl;rw[chop 1 1 2 h1 rfl,chop 2 1 3 h2 rfl,chop 3 1 4 h3 rfl,chop 4 1 5 h4 rfl,eN hl] at e;simpa [Enc.enc] using e
theorem Rc{n:Nat}{cs:List Value}{x:DataW H×List MemPlace}(h:Tr enc w n 25 cs x):∃(A A':Option Addr)(c c':Nat)(s:Sys),cs=[.slice A s.classes.length c,.slice A' s.codes.length c']∧ClsV w (.slice A s.classes.length c) s.classes∧ListV w (.slice A' s.codes.length c') s.codes∧Wf s:=by
 obtain⟨xs,m,_,_,hl,hx,hE⟩:=DataW.trod_struct Tryz.underlying25 h;rw[cells25] at hl;have hx3:xs.length=2:=hx;have e0:DataW.trod enc Tryz.prog w 0 (fun _=>true) true m 22 ((cs.drop 0).take (Tryz.prog.cellsOf 22))=xs[0]? :=hE 0 _ rfl;rw[cells22,List.getElem?_eq_getElem (by omega)] at e0
 have e1:DataW.trod enc Tryz.prog w 0 (fun _=>true) true m 23 ((cs.drop 1).take (Tryz.prog.cellsOf 23))=xs[1]? :=hE 1 _ rfl;rw[cells23,List.getElem?_eq_getElem (by omega)] at e1
 obtain⟨A,c,l,h0,hL,hg⟩:=gD (α:=ClsA) (fun d=>ListV w (.slice d.a d.c.incl.length d.k) d.c.incl∧d.c.name.size≤maxLen) Tryz.underlying22 cells106 (fun n c1 y hy=>Ld hy) e0
 obtain⟨A',c',l',h1,hL',hg'⟩:=gD (α:=ByteArray) (fun s=>s.size≤maxLen) Tryz.underlying23 cells9 (fun n c1 y hy=>Bn hy) e1
 refine⟨A,A',c,c',⟨l.map (·.c),l'⟩,?_,⟨l,rfl,by simpa using hL,fun x hx=>(hg x hx).1⟩,hL',⟨fun x hx=> ?_,hg'⟩⟩
 ·have e:=chop 0 1 1 h0 rfl;rw[chop 1 1 2 h1 rfl,eN hl] at e;simpa using e
 ·obtain⟨y,hy,rfl⟩:=List.mem_map.1 hx;exact(hg y hy).2
theorem Le{cs:Array Value}{l:List Value}(h:(Value.agg cs).cells.toList=l):Value.agg cs=.agg l.toArray:=by
 have:cs=l.toArray:=by apply Array.ext';simpa [Value.cells] using h
 rw[this]
theorem tF{v:Value}{d:DataW H}{p:List MemPlace}(hv:Value.okWide Tryz.prog w .any b0 28 v)(h:DataW.Trod enc Tryz.prog w 0 (fun _=>true) true 28 v d p):∃r,RulesV w v r:=by
 obtain⟨ca,rfl,hcs⟩:=okWide_struct Tryz.underlying28 hv;obtain⟨fuel,h⟩:=h;obtain⟨cs,hcs⟩:∃cs,(Value.agg ca).cells.toList=cs:=⟨_,rfl⟩;rw[hcs] at h;obtain⟨xs,m,_,_,hl,hx,hE⟩:=DataW.trod_struct Tryz.underlying28 h;rw[cells28] at hl;have hx3:xs.length=5:=hx;have e0:DataW.trod enc Tryz.prog w 0 (fun _=>true) true m 25 ((cs.drop 0).take (Tryz.prog.cellsOf 25))=xs[0]? :=hE 0 _ rfl;rw[cells25,List.getElem?_eq_getElem (by omega)] at e0
 have e1:DataW.trod enc Tryz.prog w 0 (fun _=>true) true m 26 ((cs.drop 2).take (Tryz.prog.cellsOf 26))=xs[1]? :=hE 1 _ rfl;rw[cells26,List.getElem?_eq_getElem (by omega)] at e1
 have e2:DataW.trod enc Tryz.prog w 0 (fun _=>true) true m 3 ((cs.drop 3).take (Tryz.prog.cellsOf 3))=xs[2]? :=hE 2 _ rfl;rw[cells3,List.getElem?_eq_getElem (by omega)] at e2
 have e3:DataW.trod enc Tryz.prog w 0 (fun _=>true) true m 3 ((cs.drop 4).take (Tryz.prog.cellsOf 3))=xs[3]? :=hE 3 _ rfl;rw[cells3,List.getElem?_eq_getElem (by omega)] at e3
 have e4:DataW.trod enc Tryz.prog w 0 (fun _=>true) true m 3 ((cs.drop 5).take (Tryz.prog.cellsOf 3))=xs[4]? :=hE 4 _ rfl;rw[cells3,List.getElem?_eq_getElem (by omega)] at e4
 obtain⟨A,A',c,c',s,h0,hC,hD,hW⟩:=Rc e0;obtain⟨A2,c2,l2,h1,hL2,hg2⟩:=gD (α:=Treaty) (fun s=>s.name.size≤maxLen) Tryz.underlying26 cells101 (fun n c1 y hy=>Gd hy) e1
 obtain⟨x1,h2⟩:=cY e2;obtain⟨x2,h3⟩:=cY e3;obtain⟨x3,h4⟩:=cY e4;have e:=chop 0 2 2 h0 rfl;rw[chop 2 1 3 h1 rfl,chop 3 1 4 h2 rfl,chop 4 1 5 h3 rfl,chop 5 1 6 h4 rfl,eN hl] at e;refine⟨⟨s,l2,x1,x2,x3⟩,⟨A,_,c,A',c',A2,c2,?_,rfl,hC,hD,hL2⟩,hW,hg2⟩;rw[Le hcs];congr 2
theorem Ge{n:Nat}{cs:List Value}{x:DataW H×List MemPlace}(h:Tr enc w n 31 cs x):∃(q:Person)(A:Option Addr)(c:Nat),cs=[.int .i64 q.born,.slice A q.events.length c]∧ListV w (.slice A q.events.length c) q.events:=by
 obtain⟨xs,m,_,_,hl,hx,hE⟩:=DataW.trod_struct Tryz.underlying31 h;rw[cells31] at hl;have hx3:xs.length=2:=hx;have e0:DataW.trod enc Tryz.prog w 0 (fun _=>true) true m 3 ((cs.drop 0).take (Tryz.prog.cellsOf 3))=xs[0]? :=hE 0 _ rfl;rw[cells3,List.getElem?_eq_getElem (by omega)] at e0
 have e1:DataW.trod enc Tryz.prog w 0 (fun _=>true) true m 29 ((cs.drop 1).take (Tryz.prog.cellsOf 29))=xs[1]? :=hE 1 _ rfl;rw[cells29,List.getElem?_eq_getElem (by omega)] at e1
 obtain⟨b,h0⟩:=cY e0;obtain⟨A,c,l,h1,hL,_⟩:=gD (α:=Event) (fun _=>True) Tryz.underlying29 cells80 (fun n c1 y hy=>by obtain⟨k,hk⟩:=Lb hy;exact⟨k,hk,trivial⟩) e1
 refine⟨⟨b,l⟩,A,c,?_,hL⟩;have e:=chop 0 1 1 h0 rfl;rw[chop 1 1 2 h1 rfl,eN hl] at e;simpa using e
theorem rJ{v:Value}{d:DataW H}{p:List MemPlace}(hv:Value.okWide Tryz.prog w .any b0 31 v)(h:DataW.Trod enc Tryz.prog w 0 (fun _=>true) true 31 v d p):∃q,PersonV w v q:=by
 obtain⟨ca,rfl,hcs⟩:=okWide_struct Tryz.underlying31 hv;obtain⟨fuel,h⟩:=h;obtain⟨q,A,c,e,hL⟩:=Ge h;exact⟨q,⟨A,c,Le e,hL⟩⟩
end
end Go.Rg
end
section
namespace Go.Rg
open Go Go.Bp Go.RowKit Go.Walk Go.Proofs
theorem fcell7{W:World}{g:Nat}{a0 a1 a2 a3 a4 a5 a6 a7 a8 a9 a10 a11:Value}[h:BlkC W g 121 [a0,a1,a2,a3,a4,a5,a6,a7,a8,a9,a10,a11]]:W.cell? ⟨g,7,none⟩=some a7:=by have:=h.h.cell 7;simpa using this
class PointsE (r:Rules) (p:Person) (day:Int) (s:outParam Points) (n:outParam Int):Prop where h:r.pointsAns p day=(s,n)
abbrev RPts(W:World)(s:Points)(n:Int)(e:Ending)(W':World):Prop:=e=.returned (.tuple #[.agg #[.int .i64 s.counts,.int .i64 s.fallen,.int .i64 s.taken],.int .i64 n])∧StepC W W'
theorem Ca(r:Rules)(p:Person)(v pv:Value)(day:Int)(s:Points)(n:Int)(w:World)(h:RulesV w v r)(hp:PersonV w pv p)(hs:r.pointsAns p day=(s,n)):Calls Tryz.prog 25 #[v,pv,.int .i64 day] w (RPts w s n):=by
 obtain⟨A1,n1,c1,A2,n2,c2,A3,n3,c3,rfl⟩:=h.form;obtain⟨A,c,rfl,hl⟩:=hp.h;have i1:=RulesB.mk h;have i2:=PersonB.mk hp;unfold Rules.pointsAns at hs;by_cases hz:r.personErr p=0
 ·rw[if_neg (by simp[hz])] at hs
  have i3:PersOk r p:=⟨hz⟩;obtain⟨d1,e1⟩:∃x,outB 0 40000 [day]=x:=⟨_,rfl⟩;have e1':=e1;rw[bL] at e1'
  cases d1
  case true=>
   rw[if_pos (by simpa using e1')] at hs
   injection hs with m1 m2
   subst m1 m2;clear hz e1';refine dC Tryz.func25 rfl ?_;simp only[Tryz.ntmps25,List.size_toArray,List.length_cons,List.length_nil,Nat.reduceAdd,Nat.reduceSub,Array.replicate_succ,Array.replicate_zero,List.push_toArray,List.append_toArray,List.nil_append,List.cons_append];go_wp2_with (first|(with_reducible refine aH (d:=some 3) ?_;intro V3 g3 hE3 hB3 hA3)|(with_reducible refine aH (d:=some 4) ?_;intro V4 g4 hE4 hB4 hA4)|(with_reducible refine aH (d:=some 5) ?_;intro V5 g5 hE5 hB5 hA5)|(with_reducible refine aR (d:=some 6) ?_;intro V6 g6 hE6 hB6 hA6)|(with_reducible refine aG (uu:=8) ?_;intro V8 g8 hE8 hB8 hA8)|(with_reducible refine aB ?_;rintro _ Vo ⟨gf,gt,Ae,ce,Ac,cc,Ap,cp,Ag,cg,tkn,rfl,(_:BlkC _ _ _ _),(_:RowC _ _ _ _ _ _ _),(_:RowC _ _ _ _ _ _ _),(_:RowC _ _ _ _ _ _ _),(_:RowC _ _ _ _ _ _ _),(_:MapC _ _ _ _),hTk,hagf,hagt,(_:StepC _ _)⟩)|(first|(with_reducible refine aA ?_)|(with_reducible refine aB ?_;first|rintro _ V ⟨rfl,(_:StepC _ _)⟩)|(with_reducible refine aI ?_;intro V _ _)|(with_reducible refine aD ?_;intro V g _ _ _)))
   exact lH (bM rfl rfl (by with_unfolding_all rfl) ⟨rfl,⟨ExtC.h⟩⟩)
  rw[if_neg (by simpa using e1')] at hs
  injection hs with m1 m2
  subst m1 m2;obtain⟨hck,hbo,hn,hev⟩:=Rules.person_ok hz;have hev2:∀x∈(sortE p.events),r.eventErr p.born x=0:=fun x hx=>hev x ((cZ _ _).1 hx)
  have hln:(sortE p.events).length≤30:=Nat.le_trans (Rules.sortE_len _) hn;have hpt:∀x∈(sortE p.events),0≤x.points∧x.points≤20:=fun x hx=>Cu (hev2 x hx)
  have hdb:=inB_t.1 (show inB day 0 40000=true by simpa using e1')
  have hfa:=(Rules.ok_of hck).fall;have Hpt:=Lib.hid hpt;have Hev:=Lib.hid hev2;clear hz e1' hev hev2 hpt hck hbo;refine dC Tryz.func25 rfl ?_;simp only[Tryz.ntmps25,List.size_toArray,List.length_cons,List.length_nil,Nat.reduceAdd,Nat.reduceSub,Array.replicate_succ,Array.replicate_zero,List.push_toArray,List.append_toArray,List.nil_append,List.cons_append];go_wp2_with (first|(with_reducible refine aH (d:=some 3) ?_;intro V3 g3 hE3 hB3 hA3)|(with_reducible refine aH (d:=some 4) ?_;intro V4 g4 hE4 hB4 hA4)|(with_reducible refine aH (d:=some 5) ?_;intro V5 g5 hE5 hB5 hA5)|(with_reducible refine aR (d:=some 6) ?_;intro V6 g6 hE6 hB6 hA6)|(with_reducible refine aG (uu:=8) ?_;intro V8 g8 hE8 hB8 hA8)|(with_reducible refine aB ?_;rintro _ Vo ⟨gf,gt,Ae,ce,Ac,cc,Ap,cp,Ag,cg,tkn,rfl,(_:BlkC _ _ _ _),(_:RowC _ _ _ _ _ _ _),(_:RowC _ _ _ _ _ _ _),(_:RowC _ _ _ _ _ _ _),(_:RowC _ _ _ _ _ _ _),(_:MapC _ _ _ _),hTk,hagf,hagt,(_:StepC _ _)⟩)|(with_reducible refine aB ?_;rintro _ V2 ⟨q1,q2,rfl,hq1,hq2,hqa1,hqa2,hE2⟩)|(first|(with_reducible refine aA ?_)|(with_reducible refine aB ?_;first|rintro _ V ⟨rfl,(_:StepC _ _)⟩)|(with_reducible refine aD ?_;intro V g _ _ _)))
  have hX0:Ext w V2:=ExtC.h;have HTk:=Lib.hid hTk;clear hTk;refine eE (xs:=ofL 3 (sortE p.events)) rfl enters_of1 (lI q1 q2 gf 3 Ae ce (sortE p.events)) (fun _=>rfl) (fun A B h=>KeepsFrom.ofExt h) ?hSt (fun k W=>Ext w W∧BlkC W g5 3 [.int .i64 day]∧BlkC W g8 115 [.pointer (some ⟨gf,0,none⟩)]∧BlkC W gf 121 [.slice A1 n1 c1,.slice A2 n2 c2,.slice A3 n3 c3,.int .i64 r.limit,.int .i64 r.fall,.int .i64 r.ban,.int .i64 p.born,.slice Ae (sortE p.events).length ce,.slice Ac (courts (sortE p.events)).length cc,.slice Ap (r.offs (sortE p.events)).bans.length cp,.map (some gt),.slice Ag (r.grants p.born (sortE p.events)).length cg]∧MapC Int W gt tkn∧RowC W (.slice Ae (sortE p.events).length ce) V6 80 9 (sortE p.events).length (encL (sortE p.events))∧BlkC W g6 45 [.int .i64 (ptsTo r (r.offs (sortE p.events)) day (sortE p.events) 3 k),.int .i64 (ptsTo r (r.offs (sortE p.events)) day (sortE p.events) 2 k),.int .i64 (ptsTo r (r.offs (sortE p.events)) day (sortE p.events) 1 k)]) (fun _ _ _=>False) ?hI ?hIr ?hIx ?hIxr ?h0 ?hs0 ?hround ?hdone ?hstop
  case hSt=>exact cL fun k X Y hc h=>h.ctl hc
  case hI=>
   refine cL fun k X Y hc h=> ?_
   obtain⟨h1,h2,h3,h4,h5,h7,h6⟩:=h;have j1:StepC w X:=⟨h1⟩;exact⟨ExtC.h,inferInstance,inferInstance,inferInstance,inferInstance,inferInstance,inferInstance⟩
  case hIr=>
   intro k X Y h hXY;obtain⟨h1,h2,h3,h4,h5,h7,h6⟩:=h;have j1:StepC X Y:=⟨hXY⟩;exact⟨h1.trans hXY,inferInstance,inferInstance,inferInstance,inferInstance,inferInstance,inferInstance⟩
  case hIx=>exact fun _ _ _ _ _ h=>h.elim
  case hIxr=>exact fun _ _ _ _ h=>h.elim
  case h0=>exact⟨ExtC.h,inferInstance,inferInstance,inferInstance,inferInstance,inferInstance,by rw[lF,lF,lF];infer_instance⟩
  case hs0=>exact⟨hq1.h,hq2.h,by have:=(inferInstance:BlkC V2 gf 121 [.slice A1 n1 c1,.slice A2 n2 c2,.slice A3 n3 c3,.int .i64 r.limit,.int .i64 r.fall,.int .i64 r.ban,.int .i64 p.born,.slice Ae (sortE p.events).length ce,.slice Ac (courts (sortE p.events)).length cc,.slice Ap (r.offs (sortE p.events)).bans.length cp,.map (some gt),.slice Ag (r.grants p.born (sortE p.events)).length cg]).h.cell 7;simpa using this,(inferInstance:RowC V2 (.slice Ae (sortE p.events).length ce) _ 80 9 _ _).list rfl rfl rfl⟩
  case hround=>
   intro lp k hk W hlp hI hS;obtain⟨h1,h2,h3,h4,h5,h7,h6⟩:=hI;have j1:StepC w W:=⟨h1⟩;have jp:BlkC W q1 115 [.pointer (some ⟨gf,0,none⟩)]:=⟨hS.p⟩;have jk:BlkC W q2 3 [.int .i64 3]:=⟨hS.k⟩;have hmem:(ofL 3 (sortE p.events))[k].2∈(sortE p.events)∧(ofL 3 (sortE p.events))[k].2.kind=3:=by
    have hm:(ofL 3 (sortE p.events))[k].2∈(ofL 3 (sortE p.events)).map Prod.snd:=List.mem_map.2 ⟨_,List.getElem_mem hk,rfl⟩;rw[dK] at hm;have h2:=List.mem_filter.1 hm;exact⟨h2.1,of_decide_eq_true h2.2⟩
   have hxb:=Hpt.out _ hmem.1;have hxd:=(bI (Hev.out _ hmem.1)).1;have u3:=lG r (r.offs (sortE p.events)) day (sortE p.events) 3 hk;have u2:=lG r (r.offs (sortE p.events)) day (sortE p.events) 2 hk;have u1:=lG r (r.offs (sortE p.events)) day (sortE p.events) 1 hk;have b3:=qE r (r.offs (sortE p.events)) day 3 k hln Hpt.out;have b2:=qE r (r.offs (sortE p.events)) day 2 k hln Hpt.out;have b1:=qE r (r.offs (sortE p.events)) day 1 k hln Hpt.out;obtain⟨⟨i,⟨ek,ed,⟨ec,eo⟩,et,eq,ep,eu,em⟩⟩,hx⟩:∃x,(ofL 3 (sortE p.events))[k]=x:=⟨_,rfl⟩;rw[hx] at hmem hxb hxd u1 u2 u3;simp only at hmem hxb hxd u1 u2 u3;obtain⟨wo,hwo⟩:∃o,whenIn (r.offs (sortE p.events)).taken ed=o:=⟨_,rfl⟩;have hgl:getL tkn ed=wo:=by rw[HTk.out,hwo]
   have hst:=fun c1 c2 c3 h1 h2 h3=>yV r (r.offs (sortE p.events)) day (x:=⟨ek,ed,⟨ec,eo⟩,et,eq,ep,eu,em⟩) hmem.2 hwo (b1:=c1) (b2:=c2) (b3:=c3) h1 h2 h3
   obtain⟨c1,hc1⟩:∃b,decide (ed>day)=b:=⟨_,rfl⟩;obtain⟨c2,hc2⟩:∃b,(wo.any fun w=>decide (w≤day))=b:=⟨_,rfl⟩
   obtain⟨c3,hc3⟩:∃b,decide (r.fall≤day-ed)=b:=⟨_,rfl⟩;have hst2:=hst c1 c2 c3 hc1 hc2 hc3;rw[hst2] at u1 u2 u3;obtain⟨s3,hs3⟩:∃n,ptsTo r (r.offs (sortE p.events)) day (sortE p.events) 3 k=n:=⟨_,rfl⟩;obtain⟨s2,hs2⟩:∃n,ptsTo r (r.offs (sortE p.events)) day (sortE p.events) 2 k=n:=⟨_,rfl⟩;obtain⟨s1,hs1⟩:∃n,ptsTo r (r.offs (sortE p.events)) day (sortE p.events) 1 k=n:=⟨_,rfl⟩;rw[hs3] at u3 b3;rw[hs2] at u2 b2;rw[hs1] at u1 b1;rw[hs3,hs2,hs1] at h6;have U3:=Lib.hid u3;have U2:=Lib.hid u2;have U1:=Lib.hid u1;have hc3':decide (day-ed≥r.fall)=c3:=hc3;have w0:IntKind.i64.wrap (day-ed)=day-ed:=IntWalk.i64_in _ (by omega)
   have w3:IntKind.i64.wrap (s3+ep)=s3+ep:=IntWalk.i64_in _ (by omega)
   have w2:IntKind.i64.wrap (s2+ep)=s2+ep:=IntWalk.i64_in _ (by omega)
   have w1:IntKind.i64.wrap (s1+ep)=s1+ep:=IntWalk.i64_in _ (by omega)
   rw[hx];show Code.wpIn _ _ _ _ _ (roundAct #[31,32] #[_,_] _) _
   rw[rAct2];simp only[Enc.val,List.setIfInBounds_toArray,List.set_cons_zero,List.set_cons_succ];clear hx hst hst2 u1 u2 u3 hs1 hs2 hs3 hmem hwo hS hc3 h1;refine aK (by rintro⟨_,_,h⟩;exact h) (by kernel_rfl) ?_
   go_wp2_with (first|(with_reducible refine aG (uu:=10) ?_;intro V17 g10 hE17 hB17 hA17))
   refine⟨ExtC.h,fun V18 hc18=> ?_⟩
   intros
   refine wpIn_block ?_;refine wpIn_seq ?_;refine fE ((.take 0 (.take 1 (.take 2 (.take 3 (.take 4 (.take 5 (.one 6 (.take 7 (.take 8 (.take 9 (.take 10 (.take 11 .nil))))))))))))) (fun hHd=> ?_)
   repeat' first|((with_reducible refine aX ?_);(first|(refine tk (v:= ?_) ?_ hHd ?_;rotate_left;(·(intro W' h;have:=StepC.mk h;first|with_reducible exact aJ)))|(refine tk (v:= ?_) ?_ hHd ?_;rotate_left;(·(intro wq hSw;go_simp;(try with_reducible rfl)))));(try simp only[pS]))|((with_reducible refine bC ?_);refine aQ (by simp only[gS];rfl) ?_)|(with_reducible refine zZ (m:=tkn) (k:=ed) ?_)|((with_reducible refine bD ?_);clear hHd;refine aM ExtC.h (fun hHd=> ?_);(try simp only[pS]))|(with_reducible refine aF ?_)
   simp only[Exit.then,hgl];refine wpIn_block ?_;refine wpIn_seq ?_
   cases c1
   case true=>
    refine aK (by rintro⟨_,_,h⟩;exact h) (by kernel_rfl) ?_
    go_wp2_with (first|(first|(with_reducible refine aA ?_)))
    (try gi_wp2)
    (try simp only[Exit.inBlock])
    refine⟨KfC.h,⟨ExtC.h,inferInstance,inferInstance,inferInstance,inferInstance,inferInstance,?_⟩,⟨(inferInstance:BlkC _ q1 115 _).h,(inferInstance:BlkC _ q2 3 _).h,fcell7,(inferInstance:RowC _ (.slice Ae (sortE p.events).length ce) V6 80 9 _ _).list rfl rfl rfl⟩⟩;rw[U3.out,U2.out,U1.out];simp only[if_true,if_false,Bool.false_eq_true,Nat.reduceEqDiff,Nat.zero_ne_one,Int.add_zero];infer_instance
   refine aK (by rintro⟨_,_,h⟩;exact h) (by kernel_rfl) ?_
   go_wp2_with (first|(first|(with_reducible refine aA ?_)))
   refine wpIn_cond_false (by rfl) ?_
   refine wpIn_seq ?_
   cases wo with
   |none=>
    obtain rfl:false=c2:=hc2;simp only[Option.isSome_none,Option.getD_none];refine aK (by rintro⟨_,_,h⟩;exact h) (by kernel_rfl) ?_
    go_wp2
    refine wpIn_cond_false (by rfl) ?_
    refine wpIn_seq ?_;refine fE ((.take 0 (.take 1 (.take 2 (.take 3 (.take 4 (.take 5 (.take 6 (.take 7 (.take 8 (.take 9 (.take 10 (.take 11 .nil))))))))))))) (fun hHd=> ?_)
    repeat' first|((with_reducible refine aX ?_);(first|(refine tk (v:= ?_) ?_ hHd ?_;rotate_left;(·(intro W' h;have:=StepC.mk h;first|with_reducible exact aJ)))|(refine tk (v:= ?_) ?_ hHd ?_;rotate_left;(·(intro wq hSw;go_simp;(try with_reducible rfl)))));(try simp only[pS]))|(with_reducible refine aF ?_)
    simp only[Exit.then]
    cases c3
    ·refine wpIn_cond_false (by rfl) ?_
     refine aK (by rintro⟨_,_,h⟩;exact h) (by kernel_rfl) ?_
     go_wp2_with (first|(with_reducible refine aI ?_;intro Vs hS hSB)|(first|(with_reducible refine aA ?_)))
     (try gi_wp2)
     (try simp only[Exit.inBlock])
     refine⟨KfC.h,⟨ExtC.h,inferInstance,inferInstance,inferInstance,inferInstance,inferInstance,?_⟩,⟨(inferInstance:BlkC _ q1 115 _).h,(inferInstance:BlkC _ q2 3 _).h,fcell7,(inferInstance:RowC _ (.slice Ae (sortE p.events).length ce) V6 80 9 _ _).list rfl rfl rfl⟩⟩;rw[U3.out,U2.out,U1.out];simp only[if_true,if_false,Bool.false_eq_true,Nat.reduceEqDiff,Nat.zero_ne_one,Int.add_zero];infer_instance
    ·refine wpIn_cond_true (by rfl) ?_
     refine aK (by rintro⟨_,_,h⟩;exact h) (by kernel_rfl) ?_
     go_wp2_with (first|(with_reducible refine aI ?_;intro Vs hS hSB)|(first|(with_reducible refine aA ?_)))
     (try gi_wp2)
     (try simp only[Exit.inBlock])
     refine⟨KfC.h,⟨ExtC.h,inferInstance,inferInstance,inferInstance,inferInstance,inferInstance,?_⟩,⟨(inferInstance:BlkC _ q1 115 _).h,(inferInstance:BlkC _ q2 3 _).h,fcell7,(inferInstance:RowC _ (.slice Ae (sortE p.events).length ce) V6 80 9 _ _).list rfl rfl rfl⟩⟩;rw[U3.out,U2.out,U1.out];simp only[if_true,if_false,Bool.false_eq_true,Nat.reduceEqDiff,Nat.zero_ne_one,Int.add_zero];infer_instance
   |some wd=>
    have hc2':decide (wd≤day)=c2:=hc2;simp only[Option.isSome_some,Option.getD_some]
    cases c2
    case true=>
     refine aK (by rintro⟨_,_,h⟩;exact h) (by kernel_rfl) ?_
     go_wp2_with (first|(first|(with_reducible refine bA ?_)))
     refine wpIn_cond_true (by rfl) ?_
     refine aK (by rintro⟨_,_,h⟩;exact h) (by kernel_rfl) ?_
     go_wp2_with (first|(with_reducible refine aI ?_;intro Vs hS hSB)|(first|(with_reducible refine aA ?_)))
     (try gi_wp2)
     (try simp only[Exit.inBlock])
     refine⟨KfC.h,⟨ExtC.h,inferInstance,inferInstance,inferInstance,inferInstance,inferInstance,?_⟩,⟨(inferInstance:BlkC _ q1 115 _).h,(inferInstance:BlkC _ q2 3 _).h,fcell7,(inferInstance:RowC _ (.slice Ae (sortE p.events).length ce) V6 80 9 _ _).list rfl rfl rfl⟩⟩;rw[U3.out,U2.out,U1.out];simp only[if_true,if_false,Bool.false_eq_true,Nat.reduceEqDiff,Nat.zero_ne_one,Int.add_zero];infer_instance
    refine aK (by rintro⟨_,_,h⟩;exact h) (by kernel_rfl) ?_
    go_wp2_with (first|(first|(with_reducible refine bA ?_)))
    refine wpIn_cond_false (by rfl) ?_
    refine wpIn_seq ?_;refine fE ((.take 0 (.take 1 (.take 2 (.take 3 (.take 4 (.take 5 (.take 6 (.take 7 (.take 8 (.take 9 (.take 10 (.take 11 .nil))))))))))))) (fun hHd=> ?_)
    repeat' first|((with_reducible refine aX ?_);(first|(refine tk (v:= ?_) ?_ hHd ?_;rotate_left;(·(intro W' h;have:=StepC.mk h;first|with_reducible exact aJ)))|(refine tk (v:= ?_) ?_ hHd ?_;rotate_left;(·(intro wq hSw;go_simp;(try with_reducible rfl)))));(try simp only[pS]))|(with_reducible refine aF ?_)
    simp only[Exit.then]
    cases c3
    ·refine wpIn_cond_false (by rfl) ?_
     refine aK (by rintro⟨_,_,h⟩;exact h) (by kernel_rfl) ?_
     go_wp2_with (first|(with_reducible refine aI ?_;intro Vs hS hSB)|(first|(with_reducible refine aA ?_)))
     (try gi_wp2)
     (try simp only[Exit.inBlock])
     refine⟨KfC.h,⟨ExtC.h,inferInstance,inferInstance,inferInstance,inferInstance,inferInstance,?_⟩,⟨(inferInstance:BlkC _ q1 115 _).h,(inferInstance:BlkC _ q2 3 _).h,fcell7,(inferInstance:RowC _ (.slice Ae (sortE p.events).length ce) V6 80 9 _ _).list rfl rfl rfl⟩⟩;rw[U3.out,U2.out,U1.out];simp only[if_true,if_false,Bool.false_eq_true,Nat.reduceEqDiff,Nat.zero_ne_one,Int.add_zero];infer_instance
    ·refine wpIn_cond_true (by rfl) ?_
     refine aK (by rintro⟨_,_,h⟩;exact h) (by kernel_rfl) ?_
     go_wp2_with (first|(with_reducible refine aI ?_;intro Vs hS hSB)|(first|(with_reducible refine aA ?_)))
     (try gi_wp2)
     (try simp only[Exit.inBlock])
     refine⟨KfC.h,⟨ExtC.h,inferInstance,inferInstance,inferInstance,inferInstance,inferInstance,?_⟩,⟨(inferInstance:BlkC _ q1 115 _).h,(inferInstance:BlkC _ q2 3 _).h,fcell7,(inferInstance:RowC _ (.slice Ae (sortE p.events).length ce) V6 80 9 _ _).list rfl rfl rfl⟩⟩;rw[U3.out,U2.out,U1.out];simp only[if_true,if_false,Bool.false_eq_true,Nat.reduceEqDiff,Nat.zero_ne_one,Int.add_zero];infer_instance
  case hdone=>
   intro D W hD hI hkD;obtain⟨h1,h2,h3,h4,h5,h7,h6⟩:=hI;have j1:StepC w W:=⟨h1⟩;have jD:MarkC W D:=⟨hkD⟩;rw[nG _ _ _ _ (by decide),nG _ _ _ _ (by decide),nG _ _ _ _ (by decide)] at h6
   clear h1 hkD;go_wp2_with (first|(with_reducible refine aI ?_;intro Vs hS hSB)|(first|(with_reducible refine aA ?_)))
   have jE:MarkC Vs D:=inferInstance;have j9:CtlC Vs (Vs.putObj D (.deferred none)) w:=gI jE.h (Nat.le_trans hX0.size hD);refine iW rfl jE.h ?_;exact bM rfl rfl (by with_unfolding_all rfl) ⟨rfl,⟨ExtC.h⟩⟩
  case hstop=>exact fun _ _ _ _ _ _ h=>h.elim
 ·rw[if_pos hz] at hs;injection hs with m1 m2
  subst m1 m2;have i3:PersBad r p _:=⟨rfl,hz⟩;have q:(r.personErr p !=0)=true:=by simpa using hz
  obtain⟨er,her⟩:∃e,r.personErr p=e:=⟨_,rfl⟩;rw[her] at i3 q⊢;clear hz her;refine dC Tryz.func25 rfl ?_;simp only[Tryz.ntmps25,List.size_toArray,List.length_cons,List.length_nil,Nat.reduceAdd,Nat.reduceSub,Array.replicate_succ,Array.replicate_zero,List.push_toArray,List.append_toArray,List.nil_append,List.cons_append];go_wp2_with (first|(with_reducible refine aH (d:=some 3) ?_;intro V3 g3 hE3 hB3 hA3)|(with_reducible refine aH (d:=some 4) ?_;intro V4 g4 hE4 hB4 hA4)|(with_reducible refine aH (d:=some 5) ?_;intro V5 g5 hE5 hB5 hA5)|(with_reducible refine aR (d:=some 6) ?_;intro V6 g6 hE6 hB6 hA6)|(with_reducible refine aG (uu:=8) ?_;intro V8 g8 hE8 hB8 hA8)|(first|(with_reducible refine aA ?_)|(with_reducible refine aB ?_;first|rintro _ V ⟨rfl,(_:StepC _ _)⟩)|(with_reducible refine aI ?_;intro V _ _)))
  exact lH (bM rfl rfl (by with_unfolding_all rfl) ⟨rfl,⟨ExtC.h⟩⟩)
instance{W:World}{v pv:Value}{r:Rules}{p:Person}{day:Int}{s:Points}{n:Int}[h:RulesC W v r][hp:PersonC W pv p][q:PointsE r p day s n]:FunC Tryz.prog 25 #[v,pv,.int .i64 day] W (RPts W s n):=⟨Ca r p v pv day s n W h.h hp.h q.h⟩
end Go.Rg
end
