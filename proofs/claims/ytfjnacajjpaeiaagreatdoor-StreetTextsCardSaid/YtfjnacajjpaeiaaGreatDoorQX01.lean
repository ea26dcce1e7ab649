/- Chapter 03: contracts of functions of the program and of the reference, and plain laws (out of Tx StG). No condition of its own. -/
import Derived.Test.YtfjnacajjpaeiaaGreatDoorQR01
set_option maxRecDepth 100000
set_option linter.all false
section
namespace Go.Bp
open Go.RowKit
def oN(b:UInt8):List UInt8→List (List UInt8)
 | []=>[[]]
 |x::l=>if x=b then []::oN b l else match oN b l with| []=>[[x]]|p::ps=>(x::p)::ps
theorem uW{b:UInt8}:∀{l:List UInt8},b∉l→oN b l=[l]
 | [],_=>rfl
 |x::l,h=>by
  have h1:x≠b:=fun e=>h (by simp[e])
  have h2:=uW (l:=l) (fun e=>h (List.mem_cons_of_mem _ e))
  rw[oN,if_neg h1,h2]
theorem wX{b:UInt8}:∀{p:List UInt8}(r:List UInt8),b∉p→oN b (p++b::r)=p::oN b r
 | [],r,_=>by rw[List.nil_append,oN,if_pos rfl]
 |x::p,r,h=>by
  have h1:x≠b:=fun e=>h (by simp[e])
  have h2:=wX (p:=p) r (fun e=>h (List.mem_cons_of_mem _ e))
  rw[List.cons_append,oN,if_neg h1,h2]
theorem tG{l:List UInt8}{i:Nat}(h:i<l.length):l.getD i 0=l[i]:=by rw[List.getD_eq_getElem?_getD,List.getElem?_eq_getElem h];rfl
/-! ### numerals -/
end Go.Bp
end
section
namespace Go.St
open Go.Bp
namespace Town
variable(t:Town)
/-! ### the program's reading -/
end Town
namespace Town
variable{t:Town}
theorem Qf{n:Nat}(hn:n<1000):∀b∈bO n,eQ b=false:=by
 intro b hb;have:=(qV hn).2.2 b hb;unfold eQ;have h1:b≠45:=by rintro rfl;revert this;decide
 have h2:b≠61:=by rintro rfl;revert this;decide
 simp[h1,h2]
end Town
/-! ### the reference's reading -/
def gE(l:List UInt8):Nat→Nat
 |0=>l.length
 |k+1=>if eQ (l.getD k 0)=true then k else gE l k
theorem qQ{l:List UInt8}(h:∀b∈l,eQ b=false):∀k,k≤l.length→gE l k=l.length
 |0,_=>rfl
 |k+1,hk=>by
  unfold gE;rw[if_neg,qQ h k (by omega)]
  rw[tG (by omega),h _ (List.getElem_mem _)];simp
theorem uK{p q:List UInt8}{b:UInt8}(hb:eQ b=true)(hq:∀c∈q,eQ c=false):∀k,p.length<k→k≤(p++b::q).length→gE (p++b::q) k=p.length
 |0,h,_=>by omega
 |k+1,h,hk=>by
  unfold gE;by_cases e:k=p.length
  ·subst e;rw[if_pos];rw[tG (by simp),List.getElem_append_right (Nat.le_refl _)]
   simpa using hb
  ·rw[if_neg,uK hb hq k (by omega) (by omega)]
   rw[tG (by omega)]
   have:(p++b::q)[k]'(by omega)∈q:=by
    rw[List.getElem_append_right (by omega)]
    obtain⟨j,hj⟩:∃j,k-p.length=j+1:=⟨k-p.length-1,by omega⟩
    have hjq:j<q.length:=by rw[List.length_append,List.length_cons] at hk;omega
    have e2:(b::q)[k-p.length]'(by rw[List.length_cons];omega)=q[j]:=by simp[hj]
    rw[e2];exact List.getElem_mem _
   rw[hq _ this];simp
def Pv(s:ByteArray):Int:=if inB s.size 1 2=true∧s.data.toList.all Ow=true then Ov s s.size else -1
theorem Dj:((List.range 100).all fun n=>decide (1≤(bO n).length)&&decide ((bO n).length≤2))=true:=by decide +kernel
theorem zY{n:Nat}(h:n<100):Pv (S (bO n))=n:=by
 have h1:=(qV (show n<1000 by omega)).2.1
 have h2:=List.all_eq_true.1 Dj n (List.mem_range.2 h);simp only[Bool.and_eq_true,decide_eq_true_eq] at h2;unfold Jv at h1;unfold Pv;split at h1
 ·rename_i h3;rw[if_pos]
  ·exact h1
  ·refine⟨aV.2 ?_,h3.2⟩;rw[fD];omega
 ·omega
def tF(p:List UInt8):Step:=if gE p p.length<p.length then⟨Pv (S (p.drop (gE p p.length+1))),decide (p.getD (gE p p.length) 0=61)⟩ else⟨-1,false⟩
def mA(text:List UInt8):List (List UInt8):=oN 46 text
def mU(text:List UInt8):List Step:=if(mA text).length≤1 then [] else(mA text).dropLast.map tF
def lN(text:List UInt8):List UInt8:=((mA text).headD []).take (gE ((mA text).headD []) ((mA text).headD []).length)
namespace Town
variable{t:Town}
def refL(t:Town)(text:List UInt8):Option (Int×List Step):=
 if 0≤t.placeIdx (lN text)∧(t.stepsErr (t.placeIdx (lN text)) (mU text)).2=0∧t.textOf (t.placeIdx (lN text)) (mU text)=text then some (t.placeIdx (lN text),mU text) else none
def pieces(t:Town):List UInt8→List Step→List (List UInt8)
 |p,[]=>[p]
 |p,x::l=>(p++sign x::bO x.st.toNat)::pieces t (t.placeAt (t.ends x).2) l
theorem uB(h:NamesOk t):∀(l:List Step)(a:Int),(∀x∈l,x.st.toNat<1000)→oN 46 (t.placeAt a++t.tailText l)=t.pieces (t.placeAt a) l
 | [],a,_=>by
  have:t.tailText []=[]:=rfl;rw[this,List.append_nil,uW (qH h (.inl (by decide)))];rfl
 |x::l,a,hl=>by
  have e0:t.placeAt a++t.tailText (x::l)=(t.placeAt a++sign x::bO x.st.toNat)++46::(t.placeAt (t.ends x).2++t.tailText l):=by unfold tailText stepText;simp
  rw[e0,wX,uB h l _ (fun y hy=>hl y (List.mem_cons_of_mem _ hy))]
  ·rfl
  ·simp only[List.mem_append,List.mem_cons,not_or];refine⟨qH h (.inl (by decide)),?_,Oy (hl x (by simp))⟩
   unfold sign;split<;>decide
theorem uC(h:NamesOk t){a:Int}{x:Step}(h0:0≤x.st)(hx:x.st<100):tF (t.placeAt a++sign x::bO x.st.toNat)=x∧gE (t.placeAt a++sign x::bO x.st.toNat) (t.placeAt a++sign x::bO x.st.toNat).length=(t.placeAt a).length:=by
 have e:=uK (p:=t.placeAt a) (q:=bO x.st.toNat) (b:=sign x) (by unfold sign;split<;>rfl) (Qf (by omega)) (t.placeAt a++sign x::bO x.st.toNat).length (by simp) (Nat.le_refl _)
 refine⟨?_,e⟩;unfold tF;rw[e,if_pos (by simp)]
 have e1:(t.placeAt a++sign x::bO x.st.toNat).drop ((t.placeAt a).length+1)=bO x.st.toNat:=by
  rw[←List.drop_drop,List.drop_left];rfl
 have e2:(t.placeAt a++sign x::bO x.st.toNat).getD (t.placeAt a).length 0=sign x:=by rw[tG (by simp)];simp
 rw[e1,e2,zY (by omega),Eb]
 have:((x.st.toNat:Nat):Int)=x.st:=by omega
 rw[this]
theorem pE(p:List UInt8):∀(l:List Step),(t.pieces p l).length=l.length+1
 | []=>rfl
 |x::l=>by rw[pieces,List.length_cons,pE _ l,List.length_cons]
theorem qI(h:NamesOk t):∀(l:List Step)(a:Int),(∀x∈l,0≤x.st∧x.st<100)→(t.pieces (t.placeAt a) l).dropLast.map tF=l
 | [],_,_=>rfl
 |x::l,a,hl=>by
  have hx:=hl x (by simp)
  have ih:=qI h l (t.ends x).2 (fun y hy=>hl y (List.mem_cons_of_mem _ hy))
  have hne:t.pieces (t.placeAt (t.ends x).2) l≠ []:=by intro e;have:=pE (t:=t) (t.placeAt (t.ends x).2) l;rw[e] at this;simp at this
  rw[pieces,List.dropLast_cons_of_ne_nil hne,List.map_cons,ih,(uC h hx.1 hx.2).1]
theorem Sg(h:NamesOk t)(hE:yP t)(h40:t.streets.length≤40)(text:List UInt8):t.refL text=t.readL text:=by
 cases hr:t.readL text with
 |none=>
  unfold refL;rw[if_neg];rintro⟨h1,h2,h3⟩;have:=tX h hE h40 (kW h1).2 h2;rw[h3,hr] at this;cases this
 |some y=>
  obtain⟨a,xs⟩:=y;obtain⟨h1,h2,h3⟩:=tY h40 hr;obtain⟨_,hf⟩:=stepsErr_follow h2;have hst:=follow_st xs a hf;have hst2:∀x∈xs,0≤x.st∧x.st<100:=fun x hx=>by have:=aV.1 (hst x hx);omega
  have hp:mA text=t.pieces (t.placeAt a) xs:=by
   unfold mA;rw[←h3];exact uB h xs a (fun x hx=>by have:=hst2 x hx;omega)
  have e1:mU text=xs:=by
   unfold mU;rw[hp,pE,qI h xs a hst2]
   cases xs with
   |nil=>rfl
   |cons x xs=>rw[if_neg (by simp)]
  have e2:lN text=t.placeAt a:=by
   unfold lN;rw[hp]
   cases xs with
   |nil=>
    show(t.placeAt a).take (gE (t.placeAt a) (t.placeAt a).length)=_
    rw[qQ (fun b hb=>by simpa using nQ h b hb) _ (Nat.le_refl _),List.take_length]
   |cons x xs=>
    have hx:=hst2 x (by simp)
    show(t.placeAt a++sign x::bO x.st.toNat).take (gE (t.placeAt a++sign x::bO x.st.toNat) (t.placeAt a++sign x::bO x.st.toNat).length)=_
    rw[(uC h hx.1 hx.2).2,List.take_left]
  have e3:=mY h h1;have h10:=aV.1 h1;unfold refL;rw[e1,e2,e3,if_pos ⟨by omega,h2,h3⟩]
end Town
end Go.St
end
