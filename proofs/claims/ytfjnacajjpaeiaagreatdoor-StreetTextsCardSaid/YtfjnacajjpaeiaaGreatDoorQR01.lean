/- Chapter 03: contracts of functions of the program and of the reference, and plain laws (out of Tx StG StH SX6 KRound StU LS3). No condition of its own. -/
import Derived.LaidMore
import Derived.Lay
import Derived.OpenShut
import Derived.ProofKit
import Derived.Stop.LaidErr
import Derived.Test.YtfjnacajjpaeiaaGreatDoorCards
import Derived.Test.YtfjnacajjpaeiaaGreatDoorTie
import Derived.Test.YtfjnacajjpaeiaaGreatDoorP20
set_option maxRecDepth 100000
set_option linter.all false
section
namespace Go.Bp
open Go.RowKit
def Ow(b:UInt8):Bool:=inB b.toNat 48 57
def Ov(s:ByteArray)(k:Nat):Int:=(s.data.toList.take k).foldl (fun n b=>10*n+((b.toNat:Int)-48)) 0
def Jv(s:ByteArray):Int:=if inB s.size 1 3=true∧s.data.toList.all Ow=true then Ov s s.size else -1
/-! ### numerals -/
theorem Fv{l:List UInt8}{n:Int}(h:sZ l=some n):Lib.itoa n=l:=by
 unfold sZ at h;split at h
 ·split at h
  ·rename_i h2;injection h with h;rw[←h];exact h2
  ·cases h
 ·cases h
def Ox(n:Nat):Bool:=(match Lib.atoiAll (bO n) with| .ok v=>decide (v=n)|_=>false)&&decide (Jv (S (bO n))=n)&&(bO n).all fun b=>inB b.toNat 48 57
theorem Gv:(List.range 1000).all Ox=true:=by decide +kernel
theorem qV{n:Nat}(h:n<1000):Lib.atoiAll (bO n)=.ok (n:Int)∧Jv (S (bO n))=n∧∀b∈bO n,48≤b.toNat∧b.toNat≤57:=by
 have:=List.all_eq_true.1 Gv n (List.mem_range.2 h);unfold Ox at this;simp only[Bool.and_eq_true,decide_eq_true_eq,List.all_eq_true] at this;obtain⟨⟨h1,h2⟩,h3⟩:=this;refine⟨?_,h2,fun b hb=>by have:=aV.1 (h3 b hb);omega⟩
 split at h1
 ·rename_i v hv;rw[hv];simp at h1;rw[h1]
 ·cases h1
theorem zX{n:Nat}(h:n<1000):sZ (bO n)=some (n:Int):=by
 unfold sZ;rw[(qV h).1];have:Lib.itoa (n:Int)=bO n:=by rw[nC (by omega)];simp
 simp[this]
theorem Jw{n:Int}(h0:0≤n)(h:n<1000):sZ (bO n.toNat)=some n:=by
 rw[zX (by omega)];congr 1;omega
theorem Qe{n:Int}(h:n<1000){b:UInt8}(hb:b.toNat<48):b∉bO n.toNat:=by
 intro hm;have:=(qV (show n.toNat<1000 by omega)).2.2 b hm
 omega
theorem Mp{s:ByteArray}(h:dM s=true){b:UInt8}(hb:b.toNat<48):b∉s.data.toList:=by
 intro hm;unfold dM at h;simp only[Bool.and_eq_true,List.all_eq_true] at h;have:=h.2 b hm;unfold gG at this;simp only[Bool.or_eq_true] at this;rcases this with h3|h3<;>(have:=aV.1 h3;omega)
theorem Kj{l:List ByteArray}{s:ByteArray}(h:0≤mQ (fun x=>decide (s=x)) l):l.getD (mQ (fun x=>decide (s=x)) l).toNat ByteArray.empty=s:=by
 unfold mQ at h⊢
 cases hf:l.findIdx? (fun x=>decide (s=x)) with
 |none=>rw[hf] at h;simp at h
 |some i=>
  rw[List.findIdx?_eq_some_iff_getElem] at hf;obtain⟨hi,hp,_⟩:=hf;simp at hp;simp[List.getD,hi,hp]
end Go.Bp
end
section
namespace Go.St
open Go.Bp
theorem jL{p:UInt8→Bool}:∀{a:List UInt8}{b:UInt8}{r:List UInt8},(∀x∈a,p x=true)→p b=false→(a++b::r).takeWhile p=a
 | [],b,r,_,hb=>by simp[hb]
 |x::a,b,r,h,hb=>by
  have h1:=h x (by simp)
  have ih:=jL (r:=r) (fun y hy=>h y (List.mem_cons_of_mem _ hy)) hb
  rw[List.cons_append,List.takeWhile_cons,h1];simp[ih]
theorem jZ{p:UInt8→Bool}:∀{a:List UInt8}{b:UInt8}{r:List UInt8},(∀x∈a,p x=true)→p b=false→(a++b::r).dropWhile p=b::r
 | [],b,r,_,hb=>by simp[hb]
 |x::a,b,r,h,hb=>by
  have h1:=h x (by simp)
  have ih:=jZ (r:=r) (fun y hy=>h y (List.mem_cons_of_mem _ hy)) hb
  rw[List.cons_append,List.dropWhile_cons,h1];simp[ih]
theorem oI{p:UInt8→Bool}:∀{a:List UInt8},(∀x∈a,p x=true)→a.takeWhile p=a∧a.dropWhile p=[]
 | [],_=>by simp
 |x::a,h=>by
  have h1:=h x (by simp)
  have ih:=oI (a:=a) (fun y hy=>h y (List.mem_cons_of_mem _ hy))
  rw[List.takeWhile_cons,List.dropWhile_cons,h1];simp[ih]
namespace Town
variable(t:Town)
/-! ### the program's reading -/
end Town
namespace Town
variable{t:Town}
theorem qH(h:NamesOk t){i:Int}{b:UInt8}(hb:b.toNat<48∨b=61):b∉t.placeAt i:=by
 unfold placeAt;by_cases hi:i.toNat<t.places.length
 ·have e:t.places.getD i.toNat ByteArray.empty=t.places[i.toNat]:=by simp[List.getD,hi]
  rw[e];have hn:=h.name _ (List.getElem_mem hi);rcases hb with hb|rfl
  ·exact Mp hn hb
  ·intro hm;unfold dM at hn;simp only[Bool.and_eq_true,List.all_eq_true] at hn;have h3:=hn.2 61 hm;revert h3;decide
 ·have e:t.places.getD i.toNat ByteArray.empty=ByteArray.empty:=by simp[List.getD,hi]
  rw[e];simp
theorem nQ(h:NamesOk t){i:Int}:∀b∈t.placeAt i,(!eQ b)=true:=by
 intro b hb;unfold eQ;have h1:b≠45:=fun e=>qH h (b:=45) (.inl (by decide)) (e▸hb)
 have h2:b≠61:=fun e=>qH h (b:=61) (.inr rfl) (e▸hb)
 simp[h1,h2]
theorem mY(h:NamesOk t){i:Int}(hi:inB i 0 (t.places.length-1)=true):t.placeIdx (t.placeAt i)=i:=by
 have hi:=aV.1 hi;have hlt:i.toNat<t.places.length:=by omega
 unfold placeIdx placeAt;rw[rO];have e:t.places.getD i.toNat ByteArray.empty=t.places[i.toNat]:=by simp[List.getD,hlt]
 rw[e,nX hlt (by simp)]
 ·omega
 ·intro x hx;obtain⟨j,hj,rfl⟩:=List.mem_take_iff_getElem.1 hx;simp only[decide_eq_false_iff_not];intro e2;have:=h.once _ _ hlt (by omega) e2
  omega
theorem kW{l:List UInt8}(h:0≤t.placeIdx l):t.placeAt (t.placeIdx l)=l∧inB (t.placeIdx l) 0 (t.places.length-1)=true:=by
 constructor
 ·unfold placeAt placeIdx at*;rw[Kj h,iX]
 ·unfold placeIdx at*;refine aV.2 ⟨h,?_⟩;unfold mQ at h⊢;split
  ·rename_i i hi;have:=(List.findIdx?_eq_some_iff_getElem.1 hi).1;omega
  ·rename_i hi;rw[hi] at h;simp at h
theorem Iq(l:List Step):t.tailText l=[]∨∃b r,t.tailText l=b::r∧eQ b=true:=by
 cases l with
 |nil=>exact .inl rfl
 |cons x l=>
  refine .inr ⟨sign x,bO x.st.toNat++46::t.placeAt (t.ends x).2++t.tailText l,?_,?_⟩
  ·unfold tailText stepText;simp
  ·unfold sign;split<;>rfl
theorem uO(h:NamesOk t)(i:Int)(l:List Step):dN (t.placeAt i++t.tailText l)=t.placeAt i∧eU (t.placeAt i++t.tailText l)=t.tailText l:=by
 unfold dN eU;rcases Iq (t:=t) l with e|⟨b,r,e,hb⟩
 ·rw[e,List.append_nil];exact oI (nQ h)
 ·rw[e];exact⟨jL (nQ h) (by simp[hb]),jZ (nQ h) (by simp[hb])⟩
theorem Oy{n:Nat}(hn:n<1000):(46:UInt8)∉bO n:=by
 have:=Qe (n:=(n:Int)) (by omega) (b:=46) (by decide)
 simpa using this
theorem Me{x:Step}(hx:x.st.toNat<1000)(r:List UInt8):eD (bO x.st.toNat++46::r)=bO x.st.toNat∧cJ (bO x.st.toNat++46::r)=r:=by
 have h:∀b∈bO x.st.toNat,decide (b≠(46:UInt8))=true:=fun b hb=>by
  have:b≠46:=fun e=>Oy hx (e▸hb)
  simp[this]
 unfold eD cJ;rw[jL h (by simp),jZ h (by simp)]
 exact⟨rfl,rfl⟩
theorem Eb(x:Step):decide (sign x=61)=x.bk:=by unfold sign;cases x.bk<;>rfl
def yP(t:Town):Prop:=∀x:Step,inB x.st 0 (t.streets.length-1)=true→inB (t.ends x).2 0 (t.places.length-1)=true
theorem rY(h:NamesOk t)(hE:yP t)(h40:t.streets.length≤40):∀(l:List Step)(f:Nat)(at0:Int)(n:Nat),(t.follow at0 l).2=0→n+l.length≤1100→(t.tailText l).length≤f→t.stepsL f at0 n (t.tailText l)=some l
 | [],f,_,_,_,_,_=>by cases f<;>rfl
 |x::l,f,at0,n,hf,hn,hl=>by
  have e0:t.tailText (x::l)=sign x::(bO x.st.toNat++46::(t.placeAt (t.ends x).2++t.tailText l)):=by unfold tailText stepText;simp
  have hlen:(t.tailText l).length+1≤(t.tailText (x::l)).length:=by rw[e0];simp;omega
  unfold follow at hf;by_cases hs:t.stepErr at0 x=0
  ·rw[if_neg (by simp[hs])] at hf
   unfold stepErr at hs;by_cases h1:inB x.st 0 (t.streets.length-1)=true
   ·rw[if_neg (by simp[h1])] at hs
    by_cases h2:x.bk=true∧(t.at_ x.st).both=false
    ·rw[if_pos h2] at hs;simp at hs
    ·rw[if_neg h2] at hs;by_cases h3:(t.ends x).1=at0
     ·obtain⟨f,rfl⟩:∃g,f=g+1:=⟨f-1,by omega⟩
      have hx:=aV.1 h1;have h1000:x.st.toNat<1000:=by omega
      obtain⟨k1,k2⟩:=Me h1000 (t.placeAt (t.ends x).2++t.tailText l);obtain⟨k3,k4⟩:=uO h (t.ends x).2 l;have hp:=mY h (hE x h1);have hp0:=aV.1 (hE x h1);have hst:t.stepL at0 n (sign x) (bO x.st.toNat++46::(t.placeAt (t.ends x).2++t.tailText l))=some x:=by
       unfold stepL;rw[if_pos (by simp),k1,k2,k3,Jw hx.1 (by omega),Option.bind_some,Eb,hp]
       have ex:(⟨x.st,x.bk⟩:Step)=x:=rfl;rw[ex,if_pos];refine⟨h1,by simp at hn;omega,h2,h3,rfl,by omega⟩
      rw[e0];unfold stepsL;rw[hst,Option.bind_some,k2,k4,rY h hE h40 l f _ (n+1) hf (by simp at hn;omega) (by omega)]
      rfl
     ·rw[if_pos h3] at hs;simp at hs
   ·rw[if_pos (by simpa using h1)] at hs;simp at hs
  ·rw[if_pos hs] at hf;exact absurd hf hs
theorem tX(h:NamesOk t)(hE:yP t)(h40:t.streets.length≤40){a:Int}{l:List Step}(ha:inB a 0 (t.places.length-1)=true)(hl:(t.stepsErr a l).2=0):t.readL (t.textOf a l)=some (a,l):=by
 unfold stepsErr at hl;by_cases h11:1100<l.length
 ·rw[if_pos h11] at hl;simp at hl
 ·rw[if_neg h11] at hl;obtain⟨k1,k2⟩:=uO h a l;have ha0:=aV.1 ha;unfold readL textOf;rw[k1,k2,mY h ha,if_pos (by omega),rY h hE h40 l _ a 0 hl (by omega) (by simp)]
  rfl
theorem rZ(h40:t.streets.length≤40):∀(f:Nat)(at0:Int)(n:Nat)(l:List UInt8)(xs:List Step),t.stepsL f at0 n l=some xs→(l=[]∨∃b r,l=b::r∧eQ b=true)→(t.follow at0 xs).2=0∧(xs=[]∨n+xs.length≤1100)∧t.tailText xs=l
 |f,at0,n,[],xs,h,_=>by
  have:xs=[]:=by cases f<;>(unfold stepsL at h;injection h with h;exact h.symm)
  subst this;exact⟨rfl,.inl rfl,rfl⟩
 |0,_,_,_::_,_,h,_=>by simp[stepsL] at h
 |f+1,at0,n,b::l,xs,h,hc=>by
  unfold stepsL at h
  cases hs:t.stepL at0 n b l with
  |none=>rw[hs] at h;simp at h
  |some x=>
   rw[hs,Option.bind_some] at h
   cases hr:t.stepsL f (t.ends x).2 (n+1) (eU (cJ l)) with
   |none=>rw[hr] at h;simp at h
   |some ys=>
    rw[hr] at h;simp only[Option.map_some,Option.some.injEq] at h;subst h;unfold stepL at hs;by_cases h46:(46:UInt8)∈l
    ·rw[if_pos h46] at hs
     cases hk:sZ (eD l) with
     |none=>rw[hk] at hs;simp at hs
     |some k=>
      rw[hk,Option.bind_some] at hs;split at hs
      ·rename_i hall;obtain⟨a1,a2,a3,a4,a5,a6⟩:=hall;injection hs with hs
       have hb:b=45∨b=61:=by
        rcases hc with e|⟨b',r',e,hb'⟩
        ·cases e
        ·injection e with e1 e2;subst e1;unfold eQ at hb';simpa using hb'
       have hcut:eU (cJ l)=[]∨∃b r,eU (cJ l)=b::r∧eQ b=true:=by
        cases e:eU (cJ l) with
        |nil=>exact .inl rfl
        |cons b r=>
         have:=gW e;exact .inr ⟨b,r,rfl,by simpa using this⟩
       obtain⟨i1,i2,i3⟩:=rZ h40 f _ _ _ _ hr hcut;have hx0:x.st=k:=by rw[←hs]
       have hx1:x.bk=decide (b=61):=by rw[←hs]
       rw[hs] at a4 a5;rw[←hx0] at a1 a3;rw[←hx1] at a3;refine⟨?_,.inr ?_,?_⟩
       ·unfold follow;have:t.stepErr at0 x=0:=by
         unfold stepErr;rw[if_neg (by simp[a1]),if_neg a3,if_neg (by simp[a4])]
        rw[if_neg (by simp[this])];exact i1
       ·rcases i2 with rfl|i2
        ·simp;omega
        ·simp;omega
       ·have e1:=pJ h46;have e2:dN (cJ l)++eU (cJ l)=cJ l:=eM _ _;have e3:=(kW a6).1;rw[a5] at e3;have e4:=Fv hk;have hk0:=aV.1 a1;rw[nC (by omega)] at e4
        have e5:sign x=b:=by
         unfold sign;rw[hx1];rcases hb with rfl|rfl<;>rfl
        have e0:t.tailText (x::ys)=sign x::(bO x.st.toNat++46::(t.placeAt (t.ends x).2++t.tailText ys)):=by unfold tailText stepText;simp
        rw[e0,e5,i3,e3,e2,hx0,e4,←e1]
      ·cases hs
    ·rw[if_neg h46] at hs;cases hs
theorem tY(h40:t.streets.length≤40){l:List UInt8}{a:Int}{xs:List Step}(h:t.readL l=some (a,xs)):inB a 0 (t.places.length-1)=true∧(t.stepsErr a xs).2=0∧t.textOf a xs=l:=by
 unfold readL at h;split at h
 ·rename_i hp
  cases hr:t.stepsL l.length (t.placeIdx (dN l)) 0 (eU l) with
  |none=>rw[hr] at h;simp at h
  |some ys=>
   rw[hr] at h;simp only[Option.map_some,Option.some.injEq,Prod.mk.injEq] at h;obtain⟨rfl,rfl⟩:=h;have hcut:eU l=[]∨∃b r,eU l=b::r∧eQ b=true:=by
    cases e:eU l with
    |nil=>exact .inl rfl
    |cons b r=>
     have:=gW e;exact .inr ⟨b,r,rfl,by simpa using this⟩
   obtain⟨i1,i2,i3⟩:=rZ h40 _ _ _ _ _ hr hcut;obtain⟨j1,j2⟩:=kW hp;refine⟨j2,?_,?_⟩
   ·unfold stepsErr;rw[if_neg]
    ·exact i1
    ·rcases i2 with rfl|i2
     ·simp
     ·omega
   ·unfold textOf;rw[i3,j1];exact eM _ _
 ·cases h
end Town
/-! ### the reference's reading -/
namespace Town
variable{t:Town}
end Town
end Go.St
end
section
namespace Go.St
open Go.Bp
namespace Town
variable{t:Town}
theorem Ok.endsOk(h:t.Ok):yP t:=fun _ hx=>(h.ends hx).2
end Town
end Go.St
end
section
namespace Go.St
open Go Go.Bp Go.RowKit Go.Proofs
theorem Il(tv:Value)(t:Town)(text:ByteArray)(w:World)(h:aM w tv t)(hv:Env w)(hsz:text.size≤maxLen):
 Calls Tryz.prog 32 #[tv,.string text] w (yM w (t.readAns text.data.toList).1 (t.readAns text.data.toList).2.1 (t.readAns text.data.toList).2.2):=by
 have:=tI tv t text.data.toList w h hv (by rw[←Lib.size_eq];exact hsz)
 rw[rO] at this;exact this
end Go.St
end
section
namespace Go.Proofs.YtfjnacajjpaeiaaGreatDoor
open Go Go.Bp Go.St Go.RowKit Go.Proofs Go.ChangeShapes Go.WideShapes Go.ChangeAt
theorem Sv:(Rows.streetRoundRow.inPlace==Tryz.pinned.checked.prog.inPlace 16)=true:=by kernel_rfl
theorem Sk:(Rows.streetRoundRow.unfollowed==Tryz.pinned.checked.prog.unfollowed 16)=true:=by kernel_rfl
theorem Sq:(Rows.streetRoundRow.recurses==Tryz.pinned.checked.prog.recurses 16)=true:=by kernel_rfl
theorem Ss:(Rows.streetRoundRow.named==Tryz.pinned.checked.prog.varsNamed 16)=true:=by kernel_rfl
theorem Kz:joinedFacts Tryz.pinned.checked.prog 16 Tryz.f16 Rows.streetRoundSpec Rows.streetRoundRow=true:=by
 unfold joinedFacts;rw[Sv,Sk,Sq,Ss];kernel_rfl
end Go.Proofs.YtfjnacajjpaeiaaGreatDoor
end
section
namespace Go.St
open Go.Bp
theorem Ru{n:Nat}(h:n<40):(bO n).length≤2:=by
 have hall:((List.range 40).all fun n=>decide ((bO n).length≤2))=true:=by kernel_rfl
 have:=List.all_eq_true.1 hall n (List.mem_range.2 h);simpa using this
namespace Town
variable{t:Town}
theorem zD(h:t.Ok){x:Step}(hx:inB x.st 0 (t.streets.length-1)=true):(t.stepText x).length≤20:=by
 have h1:=place_len h (t.ends x).2;have h2:=aV.1 hx;have h3:=h.st;have h4:=Ru (n:=x.st.toNat) (by omega)
 unfold stepText;simp;omega
theorem Dz(h:t.Ok):∀(l:List Step),(∀x∈l,inB x.st 0 (t.streets.length-1)=true)→(t.tailText l).length≤20*l.length
 | [],_=>by simp[tailText]
 |x::l,hv=>by
  have ih:=Dz h l (fun y hy=>hv y (List.mem_cons_of_mem _ hy))
  have hx:=zD h (hv x (by simp))
  have e:t.tailText (x::l)=t.stepText x++t.tailText l:=by unfold tailText;simp
  rw[e,List.length_append,List.length_cons];omega
theorem write_read{a:Int}{xs:List Step}(h:(t.writeAns a xs).2=0):t.readAns (t.writeAns a xs).1=(a,xs,0)∧(t.writeAns a xs).1.length≤23000:=by
 unfold writeAns at h⊢;by_cases hc:t.check.2.2=0
 ·rw[if_neg (by simp[hc])] at h⊢
  have hok:=ok_of hc
  cases h1:inB a 0 (t.places.length-1) with
  |false=>rw[if_pos h1] at h;simp at h
  |true=>
   rw[if_neg (by simp[h1])] at h⊢
   by_cases h2:(t.stepsErr a xs).2=0
   ·rw[if_neg (by simp[h2])] at h⊢
    have hr:=tX hok.names hok.endsOk hok.st h1 h2;have hlen:(t.textOf a xs).length≤23000:=by
     have hf:=h2;unfold stepsErr at hf;by_cases h11:1100<xs.length
     ·rw[if_pos h11] at hf;simp at hf
     ·rw[if_neg h11] at hf;have hv:=follow_st xs a hf;have e1:=Dz hok xs hv;have e2:=place_len hok a;unfold textOf;rw[List.length_append];omega
    refine⟨?_,hlen⟩;unfold readAns;rw[if_neg (by simp[hc]),if_neg (by simp only;omega),hr]
   ·rw[if_pos h2] at h;exact absurd h h2
 ·rw[if_pos hc] at h;exact absurd h hc
theorem read_cases(L:List UInt8):((t.readAns L).2.2≠0∧(t.readAns L).1=0∧(t.readAns L).2.1=[])∨((t.readAns L).2.2=0∧t.writeAns (t.readAns L).1 (t.readAns L).2.1=(L,0)):=by
 unfold readAns;by_cases hc:t.check.2.2=0
 ·rw[if_neg (by simp[hc])]
  by_cases hl:23000<L.length
  ·rw[if_pos hl];exact .inl ⟨by decide,rfl,rfl⟩
  ·rw[if_neg hl];have hok:=ok_of hc
   cases hr:t.readL L with
   |none=>exact .inl ⟨by decide,rfl,rfl⟩
   |some x=>
    obtain⟨a,xs⟩:=x;obtain⟨h1,h2,h3⟩:=tY hok.st hr;refine .inr ⟨rfl,?_⟩;unfold writeAns;rw[if_neg (by simp[hc]),if_neg (by simp[h1]),if_neg (by simp[h2]),h3]
 ·rw[if_pos hc];exact .inl ⟨hc,rfl,rfl⟩
end Town
end Go.St
end
section
namespace Go.St
open Go Go.Bp Go.RowKit Go.Proofs
set_option maxHeartbeats 8000000 in
theorem Qp(tv lv:Value)(t:Town)(a:Int)(xs:List Step)(text:ByteArray)(w:World)(h:aM w tv t)(hl:bY w lv xs)(hsz:text.size≤maxLen)(hv:Env w):Calls Tryz.prog 16 #[tv,.agg #[.int .i64 a,lv],.string text] w (dB w true):=by
 have hT0:=h;obtain⟨pv,sv,tmv,xv,rfl,hT⟩:=h;obtain⟨A1,cp1,rfl,_,_,_,_⟩:=hT.places;obtain⟨A2,cp2,rfl,_,_,_,_⟩:=hT.shows;obtain⟨A3,cp3,rfl,_,_,_,_⟩:=hT.times;obtain⟨A4,cp4,rfl,_,_,_⟩:=hT.streets;clear hT;have hE:=Ext.refl w;obtain⟨Al,cl,rfl,_⟩:=id hl;obtain⟨⟨wt,we⟩,hw⟩:∃r,t.writeAns a xs=r:=⟨_,rfl⟩;obtain⟨⟨p,l,e2⟩,hr⟩:∃r,t.readAns text.data.toList=r:=⟨_,rfl⟩;have hcs:=Town.read_cases (t:=t) text.data.toList;have HW1:=Lib.hid (fun W v u(h:aM W v t)(h2:bY W u xs)(h3:Env W)=>by have:=pQ v u t a xs W h h2 h3;rw[hw] at this;exact this)
 have HR2:=Lib.hid (fun W v(h:aM W v t)(h3:Env W)=>by have:=Il v t text W h h3 hsz;rw[hr] at this;exact this)
 rw[hr] at hcs;have hwr:=fun h=>Town.write_read (t:=t) (a:=a) (xs:=xs) h
 rw[hw] at hwr;have HL:=Lib.hid (show∀v u W,bY W v xs→bY W u xs→Calls Tryz.prog 34 #[v,u] W (dB W true) from fun v u W h h'=>by have:=fV v u _ _ W h h';rwa [show decide (xs=xs)=true by simp] at this)
 clear hw hr;rcases hcs with ⟨he,rfl,rfl⟩|⟨he,hW2⟩
 ·have q2:(e2 !=0)=true:=by simpa using he
  clear he;by_cases h0:we=0
  ·subst h0;obtain⟨hrd,hlen⟩:=hwr rfl;have HR1:=Lib.hid (fun W v(h:aM W v t)(h3:Env W)=>by have:=tI v t wt W h h3 (by unfold maxLen;simp only at hlen;omega);rw[hrd] at this;exact this)
   have hsw:(S wt).size=wt.length:=fD wt;have q3:¬((23000:Int)<wt.length):=by simp only at hlen;omega
   clear hrd hlen hwr;go_enter Tryz.func16,Tryz.ntmps16
   go_wp2_with (first|(((with_reducible refine aC (d:=some 15) (hl:=aL hB3) ?_ ?_);rfl))|(((with_reducible refine aC (d:=some 26) (hl:=aL hB3) ?_ ?_);rfl))|(((with_reducible refine aC (d:=some 53) (hl:=aL hB3) ?_ ?_);rfl))|(go_at_call 30;((with_reducible refine(HW1.out _ _ _ (by exact hT0) (by exact hl) (by exact hv.ext hE)).mono ?_);rintro e WcW ⟨rfl,hEcW⟩;(try replace hE:=hE.trans hEcW);(try replace hT0:=hT0.ext hEcW);(try replace hl:=hl.ext hEcW);(try replace hB3:=hB3.ext hEcW);(try replace hb4_0:=hEcW.c hb4_0);(try replace hb4_1:=hEcW.c hb4_1)))|(go_at_call 32;((with_reducible refine(HR1.out _ _ (by exact hT0) (by exact hv.ext hE)).mono ?_);rintro e Wc1 ⟨v9,rfl,hS9,hEc1⟩;(try replace hE:=hE.trans hEc1);(try replace hT0:=hT0.ext hEc1);(try replace hl:=hl.ext hEc1);(try replace hB3:=hB3.ext hEc1);(try replace hb4_0:=hEc1.c hb4_0);(try replace hb4_1:=hEc1.c hb4_1);obtain⟨A9,c9,rfl,_⟩:=id hS9))|(go_at_call 32;((with_reducible refine(HR2.out _ _ (by exact hT0) (by exact hv.ext hE)).mono ?_);rintro e Wc2 ⟨v13,rfl,hS13,hEc2⟩;(try replace hE:=hE.trans hEc2);(try replace hT0:=hT0.ext hEc2);(try replace hB3:=hB3.ext hEc2);obtain⟨A13,c13,rfl,_⟩:=id hS13))|(go_at_call 34;((with_reducible refine(HL.out _ _ _ (by exact hS9) (by exact hl)).mono ?_);rintro e WcL ⟨rfl,hEcL⟩;(try replace hE:=hE.trans hEcL);(try replace hT0:=hT0.ext hEcL);(try replace hB3:=hB3.ext hEcL)))|(go_at_call 19;((with_reducible refine(dS _ (by exact hv.ext hE)).mono ?_);rintro e WcK ⟨rfl,hEcK⟩;(try replace hE:=hE.trans hEcK)))|((with_reducible refine aF (d:=some 3) ?_);intro W3 g3 hE3 hB3 hg3;simp[Act.eval,Act.put,Value.cells] at hB3;(try replace hE:=hE.trans hE3);(try replace hT0:=hT0.ext hE3);(try replace hl:=hl.ext hE3);clear hE3)|((with_reducible refine aF (d:=some 4) ?_);intro W4 g4 hE4 hB4 hg4;simp[Act.eval,Act.put,Value.cells] at hB4;(try replace hE:=hE.trans hE4);(try replace hT0:=hT0.ext hE4);(try replace hl:=hl.ext hE4);(try replace hB3:=hB3.ext hE4);have hb4_0:=hB4.cell 0;have hb4_1:=hB4.cell 1;simp at hb4_0 hb4_1;clear hE4))
   go_ret
   exact⟨rfl,hE⟩
  ·have q1:(we==0)=false:=by simpa using h0
   clear h0 hwr;go_enter Tryz.func16,Tryz.ntmps16
   go_wp2_with (first|(((with_reducible refine aC (d:=some 15) (hl:=aL hB3) ?_ ?_);rfl))|(((with_reducible refine aC (d:=some 53) (hl:=aL hB3) ?_ ?_);rfl))|(go_at_call 30;((with_reducible refine(HW1.out _ _ _ (by exact hT0) (by exact hl) (by exact hv.ext hE)).mono ?_);rintro e WcW ⟨rfl,hEcW⟩;(try replace hE:=hE.trans hEcW);(try replace hT0:=hT0.ext hEcW);(try replace hl:=hl.ext hEcW);(try replace hB3:=hB3.ext hEcW);(try replace hb4_0:=hEcW.c hb4_0);(try replace hb4_1:=hEcW.c hb4_1)))|(go_at_call 32;((with_reducible refine(HR2.out _ _ (by exact hT0) (by exact hv.ext hE)).mono ?_);rintro e Wc2 ⟨v13,rfl,hS13,hEc2⟩;(try replace hE:=hE.trans hEc2);(try replace hT0:=hT0.ext hEc2);(try replace hB3:=hB3.ext hEc2);obtain⟨A13,c13,rfl,_⟩:=id hS13))|(go_at_call 19;((with_reducible refine(dS _ (by exact hv.ext hE)).mono ?_);rintro e WcK ⟨rfl,hEcK⟩;(try replace hE:=hE.trans hEcK)))|((with_reducible refine aF (d:=some 3) ?_);intro W3 g3 hE3 hB3 hg3;simp[Act.eval,Act.put,Value.cells] at hB3;(try replace hE:=hE.trans hE3);(try replace hT0:=hT0.ext hE3);(try replace hl:=hl.ext hE3);clear hE3)|((with_reducible refine aF (d:=some 4) ?_);intro W4 g4 hE4 hB4 hg4;simp[Act.eval,Act.put,Value.cells] at hB4;(try replace hE:=hE.trans hE4);(try replace hT0:=hT0.ext hE4);(try replace hl:=hl.ext hE4);(try replace hB3:=hB3.ext hE4);have hb4_0:=hB4.cell 0;have hb4_1:=hB4.cell 1;simp at hb4_0 hb4_1;clear hE4))
   go_ret
   exact⟨rfl,hE⟩
 ·subst he;have HW2:=Lib.hid (fun W v u(h:aM W v t)(h2:bY W u l)(h3:Env W)=>by have:=pQ v u t p l W h h2 h3;rw[hW2] at this;exact(show Calls Tryz.prog 30 #[v,.int .i64 p,u] W (fun e w'=>e=.returned (.tuple #[.string text,.int .i64 0])∧Ext W w') from by have e:S text.data.toList=text:=rO text;rw[←e];exact this))
  clear hW2;by_cases h0:we=0
  ·subst h0;obtain⟨hrd,hlen⟩:=hwr rfl;have HR1:=Lib.hid (fun W v(h:aM W v t)(h3:Env W)=>by have:=tI v t wt W h h3 (by unfold maxLen;simp only at hlen;omega);rw[hrd] at this;exact this)
   have hsw:(S wt).size=wt.length:=fD wt;have q3:¬((23000:Int)<wt.length):=by simp only at hlen;omega
   clear hrd hlen hwr;go_enter Tryz.func16,Tryz.ntmps16
   go_wp2_with (first|(((with_reducible refine aC (d:=some 15) (hl:=aL hB3) ?_ ?_);rfl))|(((with_reducible refine aC (d:=some 26) (hl:=aL hB3) ?_ ?_);rfl))|(((with_reducible refine aC (d:=some 53) (hl:=aL hB3) ?_ ?_);rfl))|(((with_reducible refine aC (d:=some 72) (hl:=aL hB3) ?_ ?_);rfl))|(go_at_call 30;((with_reducible refine(HW1.out _ _ _ (by exact hT0) (by exact hl) (by exact hv.ext hE)).mono ?_);rintro e WcW ⟨rfl,hEcW⟩;(try replace hE:=hE.trans hEcW);(try replace hT0:=hT0.ext hEcW);(try replace hl:=hl.ext hEcW);(try replace hB3:=hB3.ext hEcW);(try replace hb4_0:=hEcW.c hb4_0);(try replace hb4_1:=hEcW.c hb4_1)))|(go_at_call 32;((with_reducible refine(HR1.out _ _ (by exact hT0) (by exact hv.ext hE)).mono ?_);rintro e Wc1 ⟨v9,rfl,hS9,hEc1⟩;(try replace hE:=hE.trans hEc1);(try replace hT0:=hT0.ext hEc1);(try replace hl:=hl.ext hEc1);(try replace hB3:=hB3.ext hEc1);(try replace hb4_0:=hEc1.c hb4_0);(try replace hb4_1:=hEc1.c hb4_1);obtain⟨A9,c9,rfl,_⟩:=id hS9))|(go_at_call 32;((with_reducible refine(HR2.out _ _ (by exact hT0) (by exact hv.ext hE)).mono ?_);rintro e Wc2 ⟨v13,rfl,hS13,hEc2⟩;(try replace hE:=hE.trans hEc2);(try replace hT0:=hT0.ext hEc2);(try replace hB3:=hB3.ext hEc2);obtain⟨A13,c13,rfl,_⟩:=id hS13))|(go_at_call 34;((with_reducible refine(HL.out _ _ _ (by exact hS9) (by exact hl)).mono ?_);rintro e WcL ⟨rfl,hEcL⟩;(try replace hE:=hE.trans hEcL);(try replace hT0:=hT0.ext hEcL);(try replace hB3:=hB3.ext hEcL)))|(go_at_call 30;((with_reducible refine(HW2.out _ _ _ (by exact hT0) (by exact hS13) (by exact hv.ext hE)).mono ?_);rintro e WcX ⟨rfl,hEcX⟩;(try replace hE:=hE.trans hEcX)))|(go_at_call 19;((with_reducible refine(dS _ (by exact hv.ext hE)).mono ?_);rintro e WcK ⟨rfl,hEcK⟩;(try replace hE:=hE.trans hEcK)))|((with_reducible refine aF (d:=some 3) ?_);intro W3 g3 hE3 hB3 hg3;simp[Act.eval,Act.put,Value.cells] at hB3;(try replace hE:=hE.trans hE3);(try replace hT0:=hT0.ext hE3);(try replace hl:=hl.ext hE3);clear hE3)|((with_reducible refine aF (d:=some 4) ?_);intro W4 g4 hE4 hB4 hg4;simp[Act.eval,Act.put,Value.cells] at hB4;(try replace hE:=hE.trans hE4);(try replace hT0:=hT0.ext hE4);(try replace hl:=hl.ext hE4);(try replace hB3:=hB3.ext hE4);have hb4_0:=hB4.cell 0;have hb4_1:=hB4.cell 1;simp at hb4_0 hb4_1;clear hE4))
   go_ret
   exact⟨rfl,hE⟩
  ·have q1:(we==0)=false:=by simpa using h0
   clear h0 hwr;go_enter Tryz.func16,Tryz.ntmps16
   go_wp2_with (first|(((with_reducible refine aC (d:=some 15) (hl:=aL hB3) ?_ ?_);rfl))|(((with_reducible refine aC (d:=some 53) (hl:=aL hB3) ?_ ?_);rfl))|(((with_reducible refine aC (d:=some 72) (hl:=aL hB3) ?_ ?_);rfl))|(go_at_call 30;((with_reducible refine(HW1.out _ _ _ (by exact hT0) (by exact hl) (by exact hv.ext hE)).mono ?_);rintro e WcW ⟨rfl,hEcW⟩;(try replace hE:=hE.trans hEcW);(try replace hT0:=hT0.ext hEcW);(try replace hl:=hl.ext hEcW);(try replace hB3:=hB3.ext hEcW);(try replace hb4_0:=hEcW.c hb4_0);(try replace hb4_1:=hEcW.c hb4_1)))|(go_at_call 32;((with_reducible refine(HR2.out _ _ (by exact hT0) (by exact hv.ext hE)).mono ?_);rintro e Wc2 ⟨v13,rfl,hS13,hEc2⟩;(try replace hE:=hE.trans hEc2);(try replace hT0:=hT0.ext hEc2);(try replace hB3:=hB3.ext hEc2);obtain⟨A13,c13,rfl,_⟩:=id hS13))|(go_at_call 30;((with_reducible refine(HW2.out _ _ _ (by exact hT0) (by exact hS13) (by exact hv.ext hE)).mono ?_);rintro e WcX ⟨rfl,hEcX⟩;(try replace hE:=hE.trans hEcX)))|(go_at_call 19;((with_reducible refine(dS _ (by exact hv.ext hE)).mono ?_);rintro e WcK ⟨rfl,hEcK⟩;(try replace hE:=hE.trans hEcK)))|((with_reducible refine aF (d:=some 3) ?_);intro W3 g3 hE3 hB3 hg3;simp[Act.eval,Act.put,Value.cells] at hB3;(try replace hE:=hE.trans hE3);(try replace hT0:=hT0.ext hE3);(try replace hl:=hl.ext hE3);clear hE3)|((with_reducible refine aF (d:=some 4) ?_);intro W4 g4 hE4 hB4 hg4;simp[Act.eval,Act.put,Value.cells] at hB4;(try replace hE:=hE.trans hE4);(try replace hT0:=hT0.ext hE4);(try replace hl:=hl.ext hE4);(try replace hB3:=hB3.ext hE4);have hb4_0:=hB4.cell 0;have hb4_1:=hB4.cell 1;simp at hb4_0 hb4_1;clear hE4))
   go_ret
   exact⟨rfl,hE⟩
end Go.St
end
