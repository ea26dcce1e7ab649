/- Chapter 03: contracts of functions of the program and of the reference, and plain laws (out of StG SB Base2 Quiet SC Held Held2 Held3 Held4). No condition of its own. -/
import Derived.BigQuiet
import Derived.Deep.RegionHeld3
import Derived.Test.YtfjnacajjpaeiaaGreatDoorP01
set_option maxRecDepth 100000
set_option linter.all false
section
namespace Go.St
open Go.Bp
def eQ(b:UInt8):Bool:=decide (b=45)||decide (b=61)
def dN(l:List UInt8):List UInt8:=l.takeWhile fun b=> !eQ b
def eU(l:List UInt8):List UInt8:=l.dropWhile fun b=> !eQ b
def eD(l:List UInt8):List UInt8:=l.takeWhile fun b=>decide (b≠46)
def cJ(l:List UInt8):List UInt8:=(l.dropWhile fun b=>decide (b≠46)).drop 1
theorem eM(p:UInt8→Bool)(l:List UInt8):l.takeWhile p++l.dropWhile p=l:=List.takeWhile_append_dropWhile
theorem gW{p:UInt8→Bool}:∀{l:List UInt8}{b:UInt8}{r:List UInt8},l.dropWhile p=b::r→p b=false
 | [],_,_,h=>by simp at h
 |x::l,b,r,h=>by
  rw[List.dropWhile_cons] at h;split at h
  ·exact gW h
  ·rename_i hp;injection h with h1 h2;subst h1;simpa using hp
theorem pJ{l:List UInt8}(h:(46:UInt8)∈l):l=eD l++46::cJ l:=by
 unfold eD cJ;have h1:=eM (fun b=>decide (b≠(46:UInt8))) l
 cases h2:l.dropWhile (fun b=>decide (b≠(46:UInt8))) with
 |nil=>
  rw[h2,List.append_nil] at h1;rw[←h1] at h;have:∀(m:List UInt8),(46:UInt8)∉m.takeWhile (fun b=>decide (b≠(46:UInt8))):=by
   intro m;induction m with
   |nil=>simp
   |cons x m ih=>
    rw[List.takeWhile_cons];split
    ·rename_i hx;simp at hx;simp only[List.mem_cons,not_or];exact⟨fun e=>hx e.symm,ih⟩
    ·simp
  exact absurd h (this l)
 |cons b r=>
  have h3:=gW h2;have h4:b=46:=by simpa using h3
  rw[h2] at h1;subst h4;rw[List.drop_one,List.tail_cons];exact h1.symm
namespace Town
variable(t:Town)
def placeAt(i:Int):List UInt8:=(t.places.getD i.toNat ByteArray.empty).data.toList
def sign(x:Step):UInt8:=if x.bk=true then 61 else 45
def stepText(x:Step):List UInt8:=sign x::(bO x.st.toNat++46::t.placeAt (t.ends x).2)
def tailText(l:List Step):List UInt8:=l.flatMap t.stepText
def textOf(a:Int)(l:List Step):List UInt8:=t.placeAt a++t.tailText l
def writeAns(a:Int)(l:List Step):List UInt8×Int:=
 if t.check.2.2≠0 then([],t.check.2.2) else if inB a 0 (t.places.length-1)=false then([],4)
 else if(t.stepsErr a l).2≠0 then([],(t.stepsErr a l).2) else(t.textOf a l,0)
/-! ### the program's reading -/
def placeIdx(l:List UInt8):Int:=mQ (fun s=>decide (S l=s)) t.places
def stepL(at0:Int)(n:Nat)(b:UInt8)(l:List UInt8):Option Step:=
 if(46:UInt8)∈l then(sZ (eD l)).bind fun k=>
  if inB k 0 (t.streets.length-1)=true∧n<1100∧¬(decide (b=61)=true∧(t.at_ k).both=false)∧(t.ends ⟨k,decide (b=61)⟩).1=at0∧t.placeIdx (dN (cJ l))=(t.ends ⟨k,decide (b=61)⟩).2∧0≤t.placeIdx (dN (cJ l)) then some ⟨k,decide (b=61)⟩ else none
 else none
def stepsL:Nat→Int→Nat→List UInt8→Option (List Step)
 |_,_,_,[]=>some []
 |0,_,_,_::_=>none
 |f+1,at0,n,b::l=>(t.stepL at0 n b l).bind fun x=>(stepsL f (t.ends x).2 (n+1) (eU (cJ l))).map fun xs=>x::xs
def readL(l:List UInt8):Option (Int×List Step):=if 0≤t.placeIdx (dN l) then(t.stepsL l.length (t.placeIdx (dN l)) 0 (eU l)).map fun xs=>(t.placeIdx (dN l),xs) else none
def readAns(l:List UInt8):Int×List Step×Int:=
 if t.check.2.2≠0 then(0,[],t.check.2.2) else if 23000<l.length then(0,[],3) else
 match t.readL l with|some (a,xs)=>(a,xs,0)|none=>(0,[],6)
end Town
theorem lJ(l:List UInt8):(eU l).length≤l.length:=by
 have:=congrArg List.length (eM (fun b=> !eQ b) l)
 rw[List.length_append] at this;unfold eU;omega
theorem tV(l:List UInt8):(cJ l).length≤l.length:=by
 have:=congrArg List.length (eM (fun b=>decide (b≠(46:UInt8))) l)
 rw[List.length_append] at this;unfold cJ;rw[List.length_drop];omega
namespace Town
variable{t:Town}
theorem mV:∀(f g:Nat)(at0:Int)(n:Nat)(l:List UInt8),l.length≤f→l.length≤g→t.stepsL f at0 n l=t.stepsL g at0 n l
 |0,0,_,_,_,_,_=>rfl
 |f,g,at0,n,[],_,_=>by cases f<;>cases g<;>rfl
 |0,_,_,_,_::_,h,_=>by simp at h
 |_,0,_,_,_::_,_,h=>by simp at h
 |f+1,g+1,at0,n,b::l,hf,hg=>by
  simp only[List.length_cons] at hf hg;have h1:=lJ (cJ l);have h2:=tV l;unfold stepsL
  cases t.stepL at0 n b l with
  |none=>rfl
  |some x=>simp only[Option.bind_some];rw[mV f g _ _ _ (by omega) (by omega)]
structure NamesOk(t:Town):Prop where
 name:∀s∈t.places,dM s=true
 once:∀i j(hi:i<t.places.length)(hj:j<t.places.length),t.places[i]=t.places[j]→i=j
end Town
/-! ### the reference's reading -/
namespace Town
variable{t:Town}
theorem follow_st:∀(l:List Step)(a:Int),(t.follow a l).2=0→∀x∈l,inB x.st 0 (t.streets.length-1)=true
 | [],_,_,x,hx=>by simp at hx
 |y::l,a,h,x,hx=>by
  unfold follow at h;by_cases hs:t.stepErr a y=0
  ·rw[if_neg (by simp[hs])] at h
   rcases List.mem_cons.1 hx with rfl|hx
   ·unfold stepErr at hs;by_cases h1:inB x.st 0 (t.streets.length-1)=true
    ·exact h1
    ·rw[if_pos (by simpa using h1)] at hs;simp at hs
   ·exact follow_st l _ h x hx
  ·rw[if_pos hs] at h;exact absurd h hs
theorem stepsErr_follow{a:Int}{l:List Step}(h:(t.stepsErr a l).2=0):l.length≤1100∧(t.follow a l).2=0:=by
 unfold stepsErr at h;by_cases h1:1100<l.length
 ·rw[if_pos h1] at h;simp at h
 ·rw[if_neg h1] at h;exact⟨by omega,h⟩
end Town
end Go.St
end
section
namespace Go.St
open Go Go.Bp Go.RowKit Go.Proofs
def dJ:List Step→List Value
 | []=>[]
 |x::l=>.int .i64 x.st:: .bool x.bk::dJ l
theorem Gp(l:List Step):(dJ l).length=l.length*2:=by
 induction l with
 |nil=>rfl
 |cons x l ih=>simp only[dJ,List.length_cons,ih];omega
theorem Gq(l:List Step):∀(k:Nat)(h:k<l.length),(dJ l)[k*2]? =some (.int .i64 l[k].st)∧(dJ l)[k*2+1]? =some (.bool l[k].bk):=by
 induction l with
 |nil=>intro k h;simp at h
 |cons x l ih=>
  intro k h
  cases k with
  |zero=>simp[dJ]
  |succ k=>
   have:=ih k (by simpa using h)
   rw[show(k+1)*2=k*2+2 by omega]
   simpa [dJ] using this
theorem rI(a b:List Step):dJ (a++b)=dJ a++dJ b:=by
 induction a with
 |nil=>rfl
 |cons x l ih=>simp[dJ,ih]
theorem Gn(l:List Step):∀u∈dJ l,u.oneCell'=true:=by
 induction l with
 |nil=>intro u hu;simp[dJ] at hu
 |cons x l ih=>intro u hu;simp only[dJ,List.mem_cons] at hu;(rcases hu with rfl|rfl|hu);rfl;rfl;exact ih u hu
def bY(w:World)(v:Value)(xs:List Step):Prop:=Sl w 2 v xs.length (dJ xs)
theorem bY.ext{w w':World}{v:Value}{xs:List Step}(h:bY w v xs)(e:Ext w w'):bY w' v xs:=Sl.ext h e
theorem bY.d{w:World}{v:Value}{xs:List Step}(h:bY w v xs):bY w.drew v xs:=h
def aX(B:Nat)(w:World)(v:Value)(xs:List Step):Prop:=w.ownsRow B 82 2 v xs.length (dJ xs)
theorem aX.ext{B:Nat}{w w':World}{v:Value}{xs:List Step}(h:aX B w v xs)(e:Ext w w'):aX B w' v xs:=kJ h e
theorem aX.steps{B:Nat}{w:World}{v:Value}{xs:List Step}(h:aX B w v xs):bY w v xs:=Sl.of_own h
theorem aX.nil(B:Nat)(w:World):aX B w (.slice none 0 0) []:=World.ownsRow_nil w B 82 2
theorem aX.base{B C:Nat}{w:World}{v:Value}{xs:List Step}(h:aX B w v xs)(hc:C≤B):aX C w v xs:=by
 refine⟨h.1,?_⟩;rcases h.2 with ⟨h1,h2⟩|⟨g,cap,cur,h1,h2,h3⟩
 ·exact .inl ⟨h1,h2⟩
 ·exact .inr ⟨g,cap,cur,h1,by omega,h3⟩
def gB(w:World)(p:Addr)(s:Street)(sv:Value):Prop:=
 cS w p [.int .i64 s.a,.int .i64 s.b,.int .i64 s.metres,.int .i64 s.lo,.int .i64 s.hi,.bool s.both,sv]∧bG w sv s.shows
theorem gB.ext{w w':World}{p:Addr}{s:Street}{sv:Value}(h:gB w p s sv)(e:Ext w w'):gB w' p s sv:=⟨h.1.ext e,h.2.ext e⟩
def gY(w:World)(v:Value)(xs:List Street):Prop:=
 ∃A c,v=.slice A xs.length c∧xs.length≤c∧c≤maxLen∧(0<xs.length→∃ad,A=some ad∧∀k(hk:k<xs.length),∃sv,gB w (ad.add (k*7)) xs[k] sv)
theorem gY.ext{w w':World}{v:Value}{xs:List Street}(h:gY w v xs)(e:Ext w w'):gY w' v xs:=by
 obtain⟨A,c,hv,h1,h2,h3⟩:=h;refine⟨A,c,hv,h1,h2,fun hn=> ?_⟩
 obtain⟨ad,ha,hc⟩:=h3 hn;exact⟨ad,ha,fun k hk=>let⟨sv,hs⟩:=hc k hk;⟨sv,hs.ext e⟩⟩
theorem gY.d{w:World}{v:Value}{xs:List Street}(h:gY w v xs):gY w.drew v xs:=h.ext (Ext.todrew (Ext.refl _))
def Town.wf(t:Town):Prop:=∀s∈t.places++t.shows++t.times,s.size≤maxLen
structure TownP(w:World)(pv sv tv xv:Value)(t:Town):Prop where
 places:Strs w pv t.places
 shows:Strs w sv t.shows
 times:Strs w tv t.times
 streets:gY w xv t.streets
 wf:t.wf
theorem TownP.ext{w w':World}{pv sv tv xv:Value}{t:Town}(h:TownP w pv sv tv xv t)(e:Ext w w'):TownP w' pv sv tv xv t:=⟨h.places.ext e,h.shows.ext e,h.times.ext e,h.streets.ext e,h.wf⟩
theorem TownP.d{w:World}{pv sv tv xv:Value}{t:Town}(h:TownP w pv sv tv xv t):TownP w.drew pv sv tv xv t:=⟨h.places,h.shows,h.times,h.streets,h.wf⟩
def aM(w:World)(v:Value)(t:Town):Prop:=∃pv sv tv xv,v=.agg #[pv,sv,tv,xv]∧TownP w pv sv tv xv t
theorem aM.of{w:World}{pv sv tv xv:Value}{t:Town}(h:TownP w pv sv tv xv t):aM w (.agg #[pv,sv,tv,xv]) t:=⟨_,_,_,_,rfl,h⟩
theorem aM.ext{w w':World}{v:Value}{t:Town}(h:aM w v t)(e:Ext w w'):aM w' v t:=by
 obtain⟨pv,sv,tv,xv,hv,h1⟩:=h;exact⟨pv,sv,tv,xv,hv,h1.ext e⟩
theorem aM.d{w:World}{v:Value}{t:Town}(h:aM w v t):aM w.drew v t:=h.ext (Ext.todrew (Ext.refl _))
def bA(w:World)(v:Value)(k:Task):Prop:=∃cv,v=.agg #[.int .i64 k.a,.int .i64 k.b,.int .i64 k.show_,.int .i64 k.time,cv]∧bG w cv k.closed
theorem bA.of{w:World}{cv:Value}{k:Task}(h:bG w cv k.closed):bA w (.agg #[.int .i64 k.a,.int .i64 k.b,.int .i64 k.show_,.int .i64 k.time,cv]) k:=⟨cv,rfl,h⟩
theorem bA.ext{w w':World}{v:Value}{k:Task}(h:bA w v k)(e:Ext w w'):bA w' v k:=by
 obtain⟨cv,hv,h1⟩:=h;exact⟨cv,hv,h1.ext e⟩
def nJ(w:World)(v:Value)(x:Tour):Prop:=∃sv,v=.agg #[sv,.int .i64 x.metres,.int .i64 x.lo,.int .i64 x.hi,.int .i64 x.shown]∧bY w sv x.steps
theorem nJ.ext{w w':World}{v:Value}{x:Tour}(h:nJ w v x)(e:Ext w w'):nJ w' v x:=by
 obtain⟨sv,hv,h1⟩:=h;exact⟨sv,hv,h1.ext e⟩
/-! ### loads -/
theorem fld{w:World}{p:Addr}{cs:List Value}(h:cS w p cs){i:Nat}(hi:i≠0){u:Value}(hu:cs[i]? =some u):w.cell? ⟨p.block,p.off+i,none⟩=some u:=by
 have:=h i u hu;rw[←this];congr 1
 simp[Addr.add,hi]
theorem fT:(Tryz.prog.info? 87).map TypeInfo.size=some 7:=by kernel_rfl
theorem zJ:(Tryz.prog.info? 82).map TypeInfo.size=some 2:=by kernel_rfl
theorem zI:(Tryz.prog.info? 25).map TypeInfo.size=some 4:=by kernel_rfl
theorem tT:(Tryz.prog.info? 43).map TypeInfo.size=some 5:=by kernel_rfl
theorem cW:(Tryz.prog.info? 36).map TypeInfo.size=some 5:=by kernel_rfl
theorem jN:(Tryz.prog.info? 3).map TypeInfo.size=some 1:=by kernel_rfl
theorem kF:(Tryz.prog.info? 26).map TypeInfo.size=some 1:=by kernel_rfl
theorem sY:(Tryz.prog.info? 87).map (fun i=>(i.zero,i.size,i.bytes))=some (some (.agg #[.int .i64 0,.int .i64 0,.int .i64 0,.int .i64 0,.int .i64 0,.bool false,.slice none 0 0]),7,72):=by kernel_rfl
theorem qZ:(Tryz.prog.info? 82).map (fun i=>(i.zero,i.size,i.bytes))=some (some (.agg #[.int .i64 0,.bool false]),2,16):=by kernel_rfl
theorem fW:(Tryz.prog.info? 36).map (fun i=>(i.zero,i.size,i.bytes))=some (some (.agg #[.slice none 0 0,.int .i64 0,.int .i64 0,.int .i64 0,.int .i64 0]),5,56):=by kernel_rfl
theorem So:(Tryz.prog.info? 25).map (fun i=>(i.zero,i.size,i.bytes))=some (some (.agg #[.slice none 0 0,.slice none 0 0,.slice none 0 0,.slice none 0 0]),4,96):=by kernel_rfl
theorem jK:(Tryz.prog.info? 82).map (fun i=>(i.zero,i.size,i.bytes))=some (some (.agg #[.int .i64 0,.bool false]),2,16):=qZ
section
variable{w:World}{ad p:Addr}{k:Nat}
theorem eA{s:Street}{sv:Value}(h:gB w p s sv):(loadVar 87 p).run Tryz.prog w=.ok (.agg #[.int .i64 s.a,.int .i64 s.b,.int .i64 s.metres,.int .i64 s.lo,.int .i64 s.hi,.bool s.both,sv]) w:=by
 obtain⟨i,hi,hs⟩:=iJ fT;exact eH Tryz.underlying87 hi hs h.1
theorem oU{xs:List Step}(h:cS w ad (dJ xs))(hk:k<xs.length):cS w (ad.add (k*2)) [.int .i64 xs[k].st,.bool xs[k].bk]:=by
 obtain⟨h0,h1⟩:=Gq xs k hk;intro j u hu;rw[mI];refine h _ _ ?_;match j,hu with
 |0,hu=>simpa [h0] using hu
 |1,hu=>simpa [h1] using hu
theorem iM{xs:List Step}(h:cS w ad (dJ xs))(hk:k<xs.length):(loadVar 82 (ad.add (k*2))).run Tryz.prog w=.ok (.agg #[.int .i64 xs[k].st,.bool xs[k].bk]) w:=by
 obtain⟨i,hi,hs⟩:=iJ zJ;exact eH Tryz.underlying82 hi hs (oU h hk)
end
end Go.St
end
section
namespace Go.Bp
open Go.RowKit
def aI(cs:Array Value)(o:Nat)(vs:List Value):Array Value:=(cs.toList.take o++vs++cs.toList.drop (o+vs.length)).toArray
theorem Fo{cs:Array Value}{vs:List Value}(h:vs.length=cs.size):aI cs 0 vs=vs.toArray:=by
 unfold aI;simp only[List.take_zero,List.nil_append,Nat.zero_add];rw[List.drop_of_length_le (by simp[h])];simp
section
variable{P:Program}{ops:Array Oper}{Q:Exit→Act→World→Prop}{a:Act}{w:World}{rest:List Oper}
variable{d:Option Tmp}{ty ty':TypeId}{pos pos':String}{after after':Array Edge}
theorem aS{e:TypeId}{z:Value}{s b:Nat}(hi:(P.info? e).map (fun i=>(i.zero,i.size,i.bytes))=some (some z,s,b))
 (k:∀W g,Ext w W→Blk W g e z.cells→w.heap.size≤g→wpList P ops Q rest (a.put d (.pointer (some ⟨g,0,none⟩))) W):
 wpList P ops Q (⟨d,.alloc e,ty,pos,after,none⟩::rest) a w:=by
 obtain⟨i,hi0,hz,_,_⟩:=info_parts hi;refine wpList_plain rfl fun K hK=> ?_
 have h:(execOp a.eval (⟨d,.alloc e,ty,pos,after,none⟩:Oper)).run P w=.ok (.value (.pointer (some ⟨w.heap.size,0,none⟩))) (w.alloc (.cells z.cells e)):=by
  simp[execOp,Instr.alloc,zeroValue,typeInfo,hi0,hz,newVar,newRow,newObj,Sem.run]
 unfold Oper.wp;rw[h];exact hK _ _ (k _ _ (Ext.ofAlloc _ _) (Blk.new _ _ _) (Nat.le_refl _))
theorem aK{t e:TypeId}{x y:Operand}{g off n:Nat}{cs:Array Value}{v:Value}(hx:a.eval x=.pointer (some ⟨g,off,none⟩))(hy:a.eval y=v)(hb:Blk w g e cs)
 (hi:(P.info? t).map TypeInfo.size=some n)(hn:v.cells.size=n)(hf:off+n≤cs.size)(h1:∀u∈v.cells.toList,u.oneCell'=true)
 (k:∀W,Blk W g e (aI cs off v.cells.toList)→w.grownBy W (some g)→wpList P ops Q rest (a.put d undef) W):
 wpList P ops Q (⟨d,.store t x y,ty,pos,after,none⟩::rest) a w:=by
 cases hin:P.info? t with
 |none=>rw[hin] at hi;cases hi
 |some i=>
  rw[hin] at hi;have hs:i.size=n:=by simpa using hi
  have hst:=run_storeCells_at P g off e v.cells.toList 0 cs w hb (by simpa [hn] using hf) h1
  simp only[Nat.add_zero] at hst;refine wpList_plain rfl fun K hK=> ?_
  have h:(execOp a.eval (⟨d,.store t x y,ty,pos,after,none⟩:Oper)).run P w=.ok .skip (w.setRow g (aI cs off v.cells.toList)):=by
   simp only[execOp,Instr.storeAt,hx,hy,Instr.sureAddr,Sem.run_bind,Sem.run_pure,Result.andThen_ok,storeVar,sizeOf,typeInfo,program,Sem.run,hin,hs,hn];simp[hst,aI,Result.andThen,sizeOf,typeInfo,hin,hs]
  unfold Oper.wp;rw[h];exact hK _ _ (k _ (setRow_heap w g cs _ e _ hb) ⟨rfl,rfl,rfl,by simp[World.setRow],fun j _ hj=>setRow_other w g j _ (fun e=>hj (by rw[e]))⟩)
theorem aO{e:TypeId}{x y:Operand}{u:Tmp}{z v:Value}{s b:Nat}(hi:(P.info? e).map (fun i=>(i.zero,i.size,i.bytes))=some (some z,s,b))
 (hy:∀g,(a.put (some u) (.pointer (some ⟨g,0,none⟩))).eval y=v)(hu:∀g,(a.put (some u) (.pointer (some ⟨g,0,none⟩))).eval x=.pointer (some ⟨g,0,none⟩))(hn:v.cells.size=s)(hz:z.cells.size=s)(h1:∀c∈v.cells.toList,c.oneCell'=true)
 (k:∀W g,Ext w W→Blk W g e v.cells→w.heap.size≤g→wpList P ops Q rest ((a.put (some u) (.pointer (some ⟨g,0,none⟩))).put d undef) W):
 wpList P ops Q (⟨some u,.alloc e,ty,pos,after,none⟩::⟨d,.store e x y,ty',pos',after',none⟩::rest) a w:=by
 refine aS hi fun W g hE hB hg=> ?_
 refine aK (hu g) (hy g) hB (n:=s) ?_ hn (by simp[hz]) h1 fun W' hB' hgr=> ?_
 ·cases hin:P.info? e with
  |none=>rw[hin] at hi;cases hi
  |some i=>rw[hin] at hi;simp at hi⊢;exact hi.2.1
 ·rw[Fo (by simp[hn,hz])] at hB'
  refine k W' g ?_ (by simpa using hB') hg
  exact⟨hgr.os.trans hE.os,hgr.tape.trans hE.tape,hgr.output.trans hE.output,Nat.le_trans hE.size hgr.size,fun j hj=>(hgr.block j (Nat.lt_of_lt_of_le hj hE.size) (fun e=>by injection e;omega)).trans (hE.block j hj)⟩
end
theorem bI{B:Nat}{w0 w W:World}{g:Nat}(h:Below B w0 w)(hg:w.grownBy W (some g))(hB:B≤g)(hs:B≤w.heap.size):Below B w0 W:=
 h.grown hg hs (fun k e=>by injection e;omega)
theorem fM{w W:World}{B g:Nat}{e:TypeId}{size n:Nat}{v:Value}{xs:List Value}(hown:w.ownsRow B e size v n xs)(hg:w.grownBy W (some g))(hne:v.ownBlock≠some g):W.ownsRow B e size v n xs:=
 hown.kept hg (.inr hne)
theorem kY{w:World}{B g:Nat}{e t:TypeId}{size n:Nat}{v:Value}{xs:List Value}{cs:Array Value}(hown:w.ownsRow B e size v n xs)(hb:Blk w g t cs)(hne:e≠t∨g<B):v.ownBlock≠some g:=
 fun h=>hb.notown hown hne h.symm
theorem jQ{P:Program}{fn:Func}{R:Ending→World→Prop}{x u:Tmp}{t:TypeId}{a:Act}{w:World}{p:Addr}{v:Value}(h:fn.results=#[.cell x t,.tmp u])(hd:a.defers=[])
 (hx:a.tmps.getD x undef=.pointer (some p))(hl:(loadVar t p).run P w=.ok v w)(hR:R (.returned (.tuple #[v,a.tmps.getD u undef])) w):bodyPost P fn R .ret a w:=
 bodyPost_ret (by rw[results_cell_tmp h,hx];simp[asAddr,hl,Result.andThen]) hd hR
theorem tU{P:Program}{fn:Func}{R:Ending→World→Prop}{x:Tmp}{t:TypeId}{a:Act}{w:World}{p:Addr}{v:Value}(h:fn.results=#[.cell x t])(hd:a.defers=[])
 (hx:a.tmps.getD x undef=.pointer (some p))(hl:(loadVar t p).run P w=.ok v w)(hR:R (.returned v) w):bodyPost P fn R .ret a w:=
 have hx':a.tmps[x]?.getD undef=.pointer (some p):=by simpa [Array.getD_eq_getD_getElem?] using hx
 bodyPost_ret (by simp[results,h,hx',asAddr,hl,Result.andThen]) hd hR
section
variable{P:Program}{ops:Array Oper}{Q:Exit→Act→World→Prop}{a:Act}{w:World}{rest:List Oper}
variable{d:Option Tmp}{ty:TypeId}{pos:String}{after:Array Edge}
theorem vS(z:Value)(n:Nat):madeCells #[z] n=Array.replicate n z:=by
 apply Array.ext
 ·simp[madeCells]
 ·intro i h1 h2;simp[madeCells,Nat.mod_one]
theorem Ch{t e:TypeId}{x y:Operand}{z:Value}{n b:Nat}(ht:P.underlying t=some (.slice e))(hi:(P.info? e).map (fun i=>(i.zero,i.size,i.bytes))=some (some z,1,b))(hz:z.cells=#[z])(hn:n≤1000000)(hb:b≤1000)
 (hx:a.eval x=.int .i64 n)(hy:a.eval y=.int .i64 n)
 (k:∀W g,Ext w W→Blk W g e (Array.replicate n z)→w.heap.size≤g→wpList P ops Q rest (a.put d (.slice (some ⟨g,0,none⟩) n n)) W):
 wpList P ops Q (⟨d,.makeSlice t x y,ty,pos,after,none⟩::rest) a w:=by
 obtain⟨i,hi0,hz0,hs,hby⟩:=info_parts hi;have hbn:b*n≤1000*1000000:=Nat.mul_le_mul hb hn;have hbi:(i.bytes:Int)*(n:Int)≤281474976710656:=by
  rw[hby];have h3:((b*n:Nat):Int)≤281474976710656:=by omega
  rwa [Int.natCast_mul] at h3
 have hr:=run_make (P:=P) w t e i z ht hi0 hz0 .i64 .i64 (n:Int) (n:Int) (by omega) (by omega) hbi (by omega)
 simp only[Int.toNat_natCast,hs,Nat.mul_one,hz,vS] at hr;refine wpList_plain rfl fun K hK=> ?_
 have h:(execOp a.eval (⟨d,.makeSlice t x y,ty,pos,after,none⟩:Oper)).run P w=.ok (.value (.slice (some ⟨w.heap.size,0,none⟩) n n)) (w.alloc (.cells (Array.replicate n z) e)):=by
  simp[execOp,hx,hy,hr,Result.andThen]
 unfold Oper.wp;rw[h];exact hK _ _ (k _ _ (Ext.ofAlloc _ _) (Blk.new _ _ _) (Nat.le_refl _))
theorem aT{t e:TypeId}{x y:Operand}{g off:Nat}{cs:Array Value}{v:Value}(hx:a.eval x=.pointer (some ⟨g,off,none⟩))(hy:a.eval y=v)(hb:Blk w g e cs)
 (hi:(P.info? t).map TypeInfo.size=some 1)(hn:v.cells=#[v])(hf:off<cs.size)(h1:v.oneCell'=true)
 (k:∀W,Blk W g e (cs.setIfInBounds off v)→w.grownBy W (some g)→wpList P ops Q rest (a.put d undef) W):
 wpList P ops Q (⟨d,.store t x y,ty,pos,after,none⟩::rest) a w:=by
 refine aK hx hy hb hi (by rw[hn];rfl) (by omega) (by rw[hn];simpa using h1) fun W hB hg=>k W ?_ hg
 have:aI cs off v.cells.toList=cs.setIfInBounds off v:=by
  rw[hn];apply Array.ext';simp only[aI,Array.toList_setIfInBounds,List.length_cons,List.length_nil];rw[List.set_eq_take_append_cons_drop];simp[hf]
 rwa [this] at hB
end
end Go.Bp
end
section
namespace Go.Bp
open Go.RowKit Go.Proofs
section
variable{P:Program}{ops:Array Oper}{Q:Act→Prop}{a:Act}{w:World}{rest:List Oper}
variable{d:Option Tmp}{ty:TypeId}{pos:String}{after:Array Edge}
theorem Cf{o:Oper}(hg:o.guard=none){v:Value}(h:∀n,(execOp a.eval o).run P (w.drewN n)=.ok (.value v) (w.drewN n))
 (k:wpQuiet P ops (fun w'=>∃n,w'=w.drewN n) Q rest (a.put o.dst v)):wpQuiet P ops (fun w'=>∃n,w'=w.drewN n) Q (o::rest) a:=by
 refine wpQuiet_step fun K hK=> ?_
 simp only[Region.wanted,hg,if_true];refine⟨v,?_,hK _ k⟩;rintro w' ⟨n,rfl⟩;unfold Oper.quietAt;rw[h n];exact⟨rfl,rfl⟩
theorem kH{t:TypeId}{x:Operand}{p:Addr}{v:Value}(hl:∀W,Ext w W→(loadVar t p).run P W=.ok v W)(hx:a.eval x=.pointer (some p))
 (k:wpQuiet P ops (fun w'=>∃n,w'=w.drewN n) Q rest (a.put d v)):wpQuiet P ops (fun w'=>∃n,w'=w.drewN n) Q (⟨d,.load t x,ty,pos,after,none⟩::rest) a:=
 Cf rfl (fun n=>by simp[execOp,Instr.loadAt,hx,Instr.sureAddr,hl _ ((Ext.refl w).drewN n)]) k
end
structure Pair2(t:TypeId)(k1:TypeDesc)(t0 t1:TypeId):Prop where
 und:Tryz.prog.underlying t=some (.struct (Tryz.prog.fieldsOf t))
 eqg:Tryz.prog.eqGuardType Tryz.prog.depth t=false
 sto:Tryz.prog.stoodInHeld t=false
 fld:∃n0 n1,(Tryz.prog.fieldsOf t).toList.map (fun f=>(f.name,f.type,f.offset))=[(n0,t0,0),(n1,t1,1)]∧n0≠ "_" ∧n1≠ "_"
 u0:Tryz.prog.underlying t0=some (.int .i64)
 u1:Tryz.prog.underlying t1=some k1
theorem nE{t t0 t1:TypeId}(h:Pair2 t (.int .i64) t0 t1)(w:World)(n:Nat)(a b a' b':Int):
 (Op.equalIn (n+2) t (.agg #[.int .i64 a,.int .i64 b]) (.agg #[.int .i64 a',.int .i64 b'])).run Tryz.prog w=.ok (decide (a=a'∧b=b')) w:=by
 rw[run_equalIn_struct w (n+1) t _ _ h.und h.sto];obtain⟨n0,n1,hf,m0,m1⟩:=h.fld;generalize (Tryz.prog.fieldsOf t).toList=l at hf⊢;have hl:l.length=2:=by have:=congrArg List.length hf;simpa using this
 obtain⟨f0,f1,rfl⟩:∃f0 f1,l=[f0,f1]:=by
  rcases l with _|⟨f0,_|⟨f1,_|⟨f2,l⟩⟩⟩<;>simp at hl
  exact⟨f0,f1,rfl⟩
 simp only[List.map_cons,List.map_nil,List.cons.injEq,Prod.mk.injEq,and_true] at hf;obtain⟨⟨n0',t0',o0⟩,⟨n1',t1',o1⟩⟩:=hf;by_cases e0:a=a'<;>by_cases e1:b=b'<;>
  simp[Op.eqFields,n0',n1',m0,m1,t0',t1',o0,o1,part,isAgg,run_underlying h.u0,run_underlying h.u1,run_equalIn_int w n t0 .i64 .i64 _ _ h.u0,run_equalIn_int w n t1 .i64 .i64 _ _ h.u1,e0,e1]
theorem Ks{t t0 t1:TypeId}(h:Pair2 t .bool t0 t1)(w:World)(n:Nat)(a a':Int)(b b':Bool):
 (Op.equalIn (n+2) t (.agg #[.int .i64 a,.bool b]) (.agg #[.int .i64 a',.bool b'])).run Tryz.prog w=.ok (decide (a=a'∧b=b')) w:=by
 rw[run_equalIn_struct w (n+1) t _ _ h.und h.sto];obtain⟨n0,n1,hf,m0,m1⟩:=h.fld;generalize (Tryz.prog.fieldsOf t).toList=l at hf⊢;have hl:l.length=2:=by have:=congrArg List.length hf;simpa using this
 obtain⟨f0,f1,rfl⟩:∃f0 f1,l=[f0,f1]:=by
  rcases l with _|⟨f0,_|⟨f1,_|⟨f2,l⟩⟩⟩<;>simp at hl
  exact⟨f0,f1,rfl⟩
 simp only[List.map_cons,List.map_nil,List.cons.injEq,Prod.mk.injEq,and_true] at hf;obtain⟨⟨n0',t0',o0⟩,⟨n1',t1',o1⟩⟩:=hf;by_cases e0:a=a'<;>cases b<;>cases b'<;>
  simp[Op.eqFields,n0',n1',m0,m1,t0',t1',o0,o1,part,isAgg,run_underlying h.u0,run_underlying h.u1,run_equalIn_int w n t0 .i64 .i64 _ _ h.u0,run_equalIn_bool w n t1 _ _ h.u1,e0]
section
variable{t t0 t1:TypeId}(w:World)(x y:Operand)(a b a' b':Int)(c c':Bool)
theorem zL(h:Pair2 t (.int .i64) t0 t1):(do eqGuard .eql t x y (.agg #[.int .i64 a,.int .i64 b]) (.agg #[.int .i64 a',.int .i64 b']);binOp .eql t (.agg #[.int .i64 a,.int .i64 b]) (.agg #[.int .i64 a',.int .i64 b']):Sem Value).run Tryz.prog w=.ok (.bool (decide (a=a'∧b=b'))) w:=by
 rw[Sem.run_bind,run_eqGuard_agg w _ _ _ _ _ _ h.eqg,Result.andThen_ok,run_eql_struct,nE h];rfl
theorem Jb(h:Pair2 t (.int .i64) t0 t1):(do eqGuard .neq t x y (.agg #[.int .i64 a,.int .i64 b]) (.agg #[.int .i64 a',.int .i64 b']);binOp .neq t (.agg #[.int .i64 a,.int .i64 b]) (.agg #[.int .i64 a',.int .i64 b']):Sem Value).run Tryz.prog w=.ok (.bool (!(decide (a=a'∧b=b')))) w:=by
 rw[Sem.run_bind,run_eqGuard_agg w _ _ _ _ _ _ h.eqg,Result.andThen_ok,run_neq_struct,nE h];rfl
theorem Jc(h:Pair2 t .bool t0 t1):(do eqGuard .neq t x y (.agg #[.int .i64 a,.bool c]) (.agg #[.int .i64 a',.bool c']);binOp .neq t (.agg #[.int .i64 a,.bool c]) (.agg #[.int .i64 a',.bool c']):Sem Value).run Tryz.prog w=.ok (.bool (!(decide (a=a'∧c=c')))) w:=by
 rw[Sem.run_bind,run_eqGuard_agg w _ _ _ _ _ _ h.eqg,Result.andThen_ok,run_neq_struct,Ks h];rfl
end
section
variable{ops:Array Oper}{Q:Exit→Act→World→Prop}{Q':Act→Prop}{s:Act}{w:World}{rest:List Oper}
variable{d:Option Tmp}{ty ty':TypeId}{pos:String}{after:Array Edge}{x y:Operand}{t t0 t1:TypeId}{a b a' b':Int}{c c' r:Bool}
theorem yE{gd:Option (Tmp×Bool)}(op:BinOp)(v u:Value)(hx:s.eval x=v)(hy:s.eval y=u){z:Bool}(h:(do eqGuard op t x y v u;binOp op t v u:Sem Value).run Tryz.prog w=.ok (.bool z) w):(execOp s.eval (⟨d,.binOp op t x y ty',ty,pos,after,gd⟩:Oper)).run Tryz.prog w=.ok (.value (.bool z)) w:=by
 simp only[execOp,hx,hy];rw[Sem.run_bind,h];rfl
theorem Jj(h:Pair2 t (.int .i64) t0 t1)(hx:s.eval x=.agg #[.int .i64 a,.int .i64 b])(hy:s.eval y=.agg #[.int .i64 a',.int .i64 b'])(hr:decide (a=a'∧b=b')= !r)
 (k:wpList Tryz.prog ops Q rest (s.put d (.bool r)) w):wpList Tryz.prog ops Q (⟨d,.binOp .neq t x y ty',ty,pos,after,none⟩::rest) s w:=
 Om rfl (yE .neq _ _ hx hy (Jb w x y a b a' b' h)) (by rw[hr,Bool.not_not];exact k)
theorem Ee(h:Pair2 t (.int .i64) t0 t1)(hr:decide (a=a'∧b=b')=r)(hx:s.eval x=.agg #[.int .i64 a,.int .i64 b])(hy:s.eval y=.agg #[.int .i64 a',.int .i64 b'])
 (k:wpQuiet Tryz.prog ops (fun w'=>∃n,w'=w.drewN n) Q' rest (s.put d (.bool r))):wpQuiet Tryz.prog ops (fun w'=>∃n,w'=w.drewN n) Q' (⟨d,.binOp .eql t x y ty',ty,pos,after,none⟩::rest) s:=
 Cf rfl (fun n=>by subst hr;exact yE .eql _ _ hx hy (zL _ x y a b a' b' h)) k
theorem Ed(h:Pair2 t .bool t0 t1)(hr:decide (a=a'∧c=c')= !r)(hx:s.eval x=.agg #[.int .i64 a,.bool c])(hy:s.eval y=.agg #[.int .i64 a',.bool c'])
 (k:wpQuiet Tryz.prog ops (fun w'=>∃n,w'=w.drewN n) Q' rest (s.put d (.bool r))):wpQuiet Tryz.prog ops (fun w'=>∃n,w'=w.drewN n) Q' (⟨d,.binOp .neq t x y ty',ty,pos,after,none⟩::rest) s:=
 Cf rfl (fun n=>by have e:=yE (gd:=none) (d:=d) (ty:=ty) (ty':=ty') (pos:=pos) (after:=after) .neq _ _ hx hy (Jc (w.drewN n) x y a a' c c' h);rw[hr,Bool.not_not] at e;exact e) k
end
end Go.Bp
end
section
namespace Go.St
open Go Go.Bp Go.RowKit Go.Proofs
def dF(w:World)(a:Int)(e:Ending)(w':World):Prop:=e=.returned (.int .i64 a)∧Ext w w'
def dB(w:World)(a:Bool)(e:Ending)(w':World):Prop:=e=.returned (.bool a)∧Ext w w'
def dQ(w:World)(a b:Int)(e:Ending)(w':World):Prop:=e=.returned (.tuple #[.int .i64 a,.int .i64 b])∧Ext w w'
def fF(w:World)(a b c:Int)(e:Ending)(w':World):Prop:=e=.returned (.tuple #[.int .i64 a,.int .i64 b,.int .i64 c])∧Ext w w'
def Pg(w:World)(a:Bool)(b:Int)(e:Ending)(w':World):Prop:=e=.returned (.tuple #[.bool a,.int .i64 b])∧Ext w w'
theorem dF.of{w w':World}{a b:Int}(h:b=a)(e:Ext w w'):dF w b (.returned (.int .i64 a)) w':=⟨by rw[h],e⟩
theorem dB.of{w w':World}{a b:Bool}(h:b=a)(e:Ext w w'):dB w b (.returned (.bool a)) w':=⟨by rw[h],e⟩
theorem dQ.of{w w':World}{x:Int×Int}{a b:Int}(h:x=(a,b))(e:Ext w w'):dQ w x.1 x.2 (.returned (.tuple #[.int .i64 a,.int .i64 b])) w':=⟨by rw[h],e⟩
theorem fF.of{w w':World}{x:Int×Int×Int}{a b c:Int}(h:x=(a,b,c))(e:Ext w w'):fF w x.1 x.2.1 x.2.2 (.returned (.tuple #[.int .i64 a,.int .i64 b,.int .i64 c])) w':=⟨by rw[h],e⟩
theorem iK{P:Program}{fn:Func}{R:Ending→World→Prop}{x u u':Tmp}{t:TypeId}{a:Act}{w:World}{p:Addr}{v:Value}(h:fn.results=#[.cell x t,.tmp u,.tmp u'])(hd:a.defers=[])
 (hx:a.tmps.getD x undef=.pointer (some p))(hl:(loadVar t p).run P w=.ok v w)(hR:R (.returned (.tuple #[v,a.tmps.getD u undef,a.tmps.getD u' undef])) w):bodyPost P fn R .ret a w:=
 have hx':a.tmps[x]?.getD undef=.pointer (some p):=by simpa [Array.getD_eq_getD_getElem?] using hx
 have hr:(results fn a.tmps).run P w=.ok (.tuple #[v,a.tmps[u]?.getD undef,a.tmps[u']?.getD undef]) w:=by simp[results,h,hx',asAddr,hl,Result.andThen]
 bodyPost_ret hr hd (by simpa [Array.getD_eq_getD_getElem?] using hR)
theorem zN(P:Program)(w:World){t e:TypeId}{z:Value}{s:Nat}(ht:P.underlying t=some (.slice e))(hi:(P.info? e).map (fun i=>(i.zero,i.size))=some (some z,s)):
 (Instr.buildSlice t 0 #[]).run P w=.ok (.slice (some ⟨w.heap.size,0,none⟩) 0 0) (w.alloc (.cells #[] e)):=by
 cases h:P.info? e with
 |none=>rw[h] at hi;cases hi
 |some i=>
  rw[h] at hi;simp only[Option.map_some,Option.some.injEq,Prod.mk.injEq] at hi;obtain⟨h0,h1⟩:=hi
  cases i
  dsimp only at h0 h1;subst h0 h1;have h0:Array.range 0=#[]:=by decide
  simp[Instr.buildSlice,run_underlying ht,sizeOf,typeInfo,zeroValue,h,Instr.fill,newRow,newObj,Sem.run,h0]
theorem sA(P:Program)(w:World){t e:TypeId}{v z a b:Value}(ht:P.underlying t=some (.slice e))(hi:(P.info? e).map (fun i=>(i.zero,i.size))=some (some z,2))(hz:z.cells.size=2)(hv:v.cells=#[a,b]):
 (Instr.buildSlice t 1 #[(0,v)]).run P w=.ok (.slice (some ⟨w.heap.size,0,none⟩) 1 1) (w.alloc (.cells #[a,b] e)):=by
 cases h:P.info? e with
 |none=>rw[h] at hi;cases hi
 |some i=>
  rw[h] at hi;simp only[Option.map_some,Option.some.injEq,Prod.mk.injEq] at hi;obtain⟨h0,h1⟩:=hi
  cases i
  dsimp only at h0 h1;subst h0 h1;have h3:Array.range 2=#[0,1]:=by decide
  simp[Instr.buildSlice,run_underlying ht,sizeOf,typeInfo,zeroValue,h,Instr.fill,hz,hv,newRow,newObj,Sem.run,h3]
theorem Js{w:World}{size n:Nat}{v:Value}{xs:List Value}(h:Sl w size v n xs):v.oneCell'=true:=by
 obtain⟨A,c,rfl,_⟩:=h;rfl
section
variable{ops:Array Oper}{Q:Exit→Act→World→Prop}{a:Act}{w:World}{rest:List Oper}
variable{d:Option Tmp}{ty:TypeId}{pos:String}{after:Array Edge}
theorem kU{x:Operand}{p:Int}{q:Bool}(hx:a.eval x=.agg #[.int .i64 p,.bool q])
 (k:∀W g,Ext w W→Blk W g 82 #[.int .i64 p,.bool q]→w.heap.size≤g→wpList Tryz.prog ops Q rest (a.put d (.slice (some ⟨g,0,none⟩) 1 1)) W):
 wpList Tryz.prog ops Q (⟨d,.buildSlice 32 1 #[(0,x)],ty,pos,after,none⟩::rest) a w:=
 eV (by have:=sA Tryz.prog w (v:=a.eval x) (a:=.int .i64 p) (b:=.bool q) Tryz.underlying32 (ti2 jK) rfl (by rw[hx];rfl);simpa using this) k
theorem Mh{s x:Operand}{B g:Nat}{v:Value}{xs:List Step}{y:Step}(hs:a.eval s=v)(hO:aX B w v xs)(hx:a.eval x=.slice (some ⟨g,0,none⟩) 1 1)(hb:Blk w g 82 #[.int .i64 y.st,.bool y.bk])(hlen:xs.length≤1000000000)(hB:B≤w.heap.size)
 (k:∀v' W,aX B W v' (xs++ [y])→(∀w0,Below B w0 w→Below B w0 W)→w.grownBy W v.ownBlock→wpList Tryz.prog ops Q rest (a.put d v') W):
 wpList Tryz.prog ops Q (⟨d,.call {callee:=.builtin .append,args:=#[s,x],argTypes:=#[32,32]},ty,pos,after,none⟩::rest) a w:=by
 refine qF Tryz.underlying32 jK rfl (by decide) hs hO hx (fun _=>⟨_,rfl,hb.cells⟩) (by simp) (by simp[Value.oneCell']) (by omega) (by unfold maxLen;omega) hB ?_
 intro v' W h1 h2 _;refine k v' W ?_ (fun w0 h0=>nY h0 hO h2 hB) h2
 unfold aX;have e:dJ (xs++ [y])=dJ xs++ [.int .i64 y.st,.bool y.bk]:=by rw[rI];rfl
 rw[e];simpa using h1
theorem Eh(k:∀W g,Ext w W→Blk W g 82 #[]→w.heap.size≤g→wpList Tryz.prog ops Q rest (a.put d (.slice (some ⟨g,0,none⟩) 0 0)) W):
 wpList Tryz.prog ops Q (⟨d,.buildSlice 32 0 #[],ty,pos,after,none⟩::rest) a w:=
 eV (by have:=zN Tryz.prog w Tryz.underlying32 (ti2 jK);simpa using this) k
theorem aX.of_blk0{B g:Nat}{w:World}(h:Blk w g 82 #[])(hB:B≤g):aX B w (.slice (some ⟨g,0,none⟩) 0 0) []:=
 ⟨by simp[dJ],.inr ⟨g,0,_,rfl,hB,h,Nat.le_refl _,by decide,rfl,by simp[dJ]⟩⟩
theorem Fm{s x:Operand}{B:Nat}{v u:Value}{xs ys:List Step}(hs:a.eval s=v)(hO:aX B w v xs)(hx:a.eval x=u)(hu:bY w u ys)(hlen:xs.length+ys.length≤1000000000)(hB:B≤w.heap.size)
 (k:∀v' W,aX B W v' (xs++ys)→(∀w0,Below B w0 w→Below B w0 W)→w.grownBy W v.ownBlock→wpList Tryz.prog ops Q rest (a.put d v') W):
 wpList Tryz.prog ops Q (⟨d,.call {callee:=.builtin .append,args:=#[s,x],argTypes:=#[32,32]},ty,pos,after,none⟩::rest) a w:=by
 obtain⟨A,c,rfl,h1,h2,h3,h4⟩:=hu;refine qF Tryz.underlying32 jK rfl (by decide) hs hO hx h4 h3 (Gn ys) (by omega) (by unfold maxLen;omega) hB ?_
 intro v' W h1 h2 _;refine k v' W ?_ (fun w0 h0=>nY h0 hO h2 hB) h2
 unfold aX;rw[rI,List.length_append];exact h1
theorem iV{s x:Operand}{B g:Nat}{v:Value}{xs:List Step}{y:Step}(hs:a.eval s=v)(hO:aX B w v xs)(hx:a.eval x=.slice (some ⟨g,0,none⟩) 1 1)(hb:Blk w g 82 #[.int .i64 y.st,.bool y.bk])(hlen:xs.length≤1000000000)(hB:B≤w.heap.size)
 (k:∀A' c' W,aX B W (.slice A' (xs.length+1) c') (xs++ [y])→(∀w0,Below B w0 w→Below B w0 W)→w.grownBy W v.ownBlock→wpList Tryz.prog ops Q rest (a.put d (.slice A' (xs.length+1) c')) W):
 wpList Tryz.prog ops Q (⟨d,.call {callee:=.builtin .append,args:=#[s,x],argTypes:=#[32,32]},ty,pos,after,none⟩::rest) a w:=
 Mh hs hO hx hb hlen hB fun v' W h1 h2 h3=>by
  obtain⟨A',c',e,_⟩:=h1.steps;rw[List.length_append] at e;subst e;exact k A' c' W h1 h2 h3
theorem tZ{s x:Operand}{B:Nat}{v u:Value}{xs ys:List Step}(hs:a.eval s=v)(hO:aX B w v xs)(hx:a.eval x=u)(hu:bY w u ys)(hlen:xs.length+ys.length≤1000000000)(hB:B≤w.heap.size)
 (k:∀A' c' W,aX B W (.slice A' (xs.length+ys.length) c') (xs++ys)→(∀w0,Below B w0 w→Below B w0 W)→w.grownBy W v.ownBlock→wpList Tryz.prog ops Q rest (a.put d (.slice A' (xs.length+ys.length) c')) W):
 wpList Tryz.prog ops Q (⟨d,.call {callee:=.builtin .append,args:=#[s,x],argTypes:=#[32,32]},ty,pos,after,none⟩::rest) a w:=
 Fm hs hO hx hu hlen hB fun v' W h1 h2 h3=>by
  obtain⟨A',c',e,_⟩:=h1.steps;rw[List.length_append] at e;subst e;exact k A' c' W h1 h2 h3
end
end Go.St
end
section
namespace Go.Bp
open Go.RowKit Go.Proofs
section
variable{P:Program}{md:Region.Mode}{ops:Array Oper}{Q:Exit→Act→World→Prop}{S:World→Prop}
theorem xY(hQ:∀c(a:Act)(d:Tmp)(v:Value)(w:World),Q (.panic c) (a.put (some d) v) w→Q (.panic c) a w):∀c(a:Act)(d:Option Tmp)(v:Value)(w:World),Q (.panic c) (a.put d v) w→Q (.panic c) a w
 |c,a,some d,v,w,h=>hQ c a d v w h
 |_,_,none,_,_,h=>h
variable{i:Nat}{r:List (Nat×Bool)}{o:Oper}{a:Act}{w:World}
end
end Go.Bp
end
section
namespace Go.Bp
open Go.RowKit Go.Proofs
section
variable{P:Program}{ops:Array Oper}{Q:Exit→Act→World→Prop}{a:Act}{w:World}{rest:List Oper}
theorem bD{o:Oper}(hg:o.guard=none){f:FuncId}{args:Array Value}{R:Ending→World→Prop}(hc:Calls P f args w R)(hr:(execOp a.eval o).run P w=.ok (.enter f args) w)
 (hn:∀e w',R e w'→∃v,e=.returned v∧wpList P ops Q rest (a.put o.dst v) w'):wpList P ops Q (o::rest) a w:=by
 refine wpList_plain hg fun K hK=> ?_
 unfold Oper.wp;rw[hr];refine Calls.mono hc fun e w' he=> ?_
 obtain⟨v,rfl,hk⟩:=hn e w' he;exact hK _ _ hk
end
inductive OTree where
 |nil
 |take (i:Nat) (r:OTree)
 |one (i:Nat) (r:OTree)
 |two (i:Nat) (r:OTree) (j:Nat) (s:OTree)
def OTree.depth:OTree→Nat
 | .nil=>0
 | .take _ r=>r.depth+1
 | .one _ r=>r.depth+1
 | .two _ r _ s=>max r.depth s.depth+1
section
variable{P:Program}{md:Region.Mode}{ops:Array Oper}{Q:Exit→Act→World→Prop}{S:World→Prop}
def fO(md:Region.Mode)(ops:Array Oper):OTree→Array Bool→Bool
 | .nil,l=>(Region.ready md ops l).isEmpty
 | .take i r,l=>Region.free md ops l i&&(Region.ready md ops l).contains i&&fO md ops r (l.setIfInBounds i true)
 | .one i r,l=>(Region.ready md ops l== [i])&&fO md ops r (l.setIfInBounds i true)
 | .two i r j s,l=>(Region.ready md ops l== [i,j])&&fO md ops r (l.setIfInBounds i true)&&fO md ops s (l.setIfInBounds j true)
def cU(P:Program)(ops:Array Oper)(Q:Exit→Act→World→Prop)(S:World→Prop):OTree→Act→World→Prop
 | .nil,a,w=>Q .normal a w
 | .take i r,a,w=>∃oi v,ops[i]? =some oi∧YieldsIf P ops S oi v a∧S w∧cU P ops Q S r (a.put oi.dst v) w
 | .one i r,a,w=>wpOp P ops Q i (fun a' w'=>S w'∧cU P ops Q S r a' w') a w
 | .two i r j s,a,w=>wpOp P ops Q i (fun a' w'=>S w'∧cU P ops Q S r a' w') a w∧wpOp P ops Q j (fun a' w'=>S w'∧cU P ops Q S s a' w') a w
theorem eS(hs:Region.noSelect ops=true)(hQ:∀c(a:Act)(d:Tmp)(v:Value)(w:World),Q (.panic c) (a.put (some d) v) w→Q (.panic c) a w):
 ∀(t:OTree)(l:Array Bool)(fuel:Nat)(a:Act)(w:World),t.depth≤fuel→fO md ops t l=true→cU P ops Q S t a w→wpAnyH P md ops Q S fuel l a w
 | .nil,l,fuel,a,w,_,hok,h=>wpAnyH_done (by simpa [fO] using hok) h fuel
 | .take i r,l,0,a,w,hf,_,_=>by simp[OTree.depth] at hf
 | .one i r,l,0,a,w,hf,_,_=>by simp[OTree.depth] at hf
 | .two i r j s,l,0,a,w,hf,_,_=>by simp[OTree.depth] at hf
 | .take i r,l,fuel+1,a,w,hf,hok,h=>by
  obtain⟨oi,v,ho,hy,hS,h⟩:=h;simp only[fO,Bool.and_eq_true] at hok;exact wpAnyH_take ho hs hok.1.1 hok.1.2 (fun c a w h=>xY hQ c a oi.dst v w h) hy hS (eS hs hQ r _ fuel _ _ (by simpa [OTree.depth] using hf) hok.2 h)
 | .one i r,l,fuel+1,a,w,hf,hok,h=>by
  simp only[fO,Bool.and_eq_true,beq_iff_eq] at hok;refine wpAnyH_all hok.1 (by simp) fun j hj=> ?_
  obtain rfl:j=i:=by simpa using hj
  exact wpOp_mono (fun a' w' h'=>⟨h'.1,eS hs hQ r _ fuel _ _ (by simpa [OTree.depth] using hf) hok.2 h'.2⟩) h
 | .two i r j s,l,fuel+1,a,w,hf,hok,h=>by
  simp only[fO,Bool.and_eq_true,beq_iff_eq] at hok;obtain⟨h1,h2⟩:=h;have hd:r.depth≤fuel∧s.depth≤fuel:=by simp only[OTree.depth] at hf;omega
  refine wpAnyH_all hok.1.1 (by simp) fun k hk=> ?_
  have hk:k=i∨k=j:=by simpa using hk
  rcases hk with rfl|rfl
  ·exact wpOp_mono (fun a' w' h'=>⟨h'.1,eS hs hQ r _ fuel _ _ hd.1 hok.1.2 h'.2⟩) h1
  ·exact wpOp_mono (fun a' w' h'=>⟨h'.1,eS hs hQ s _ fuel _ _ hd.2 hok.2 h'.2⟩) h2
theorem tK{id:Nat}{a:Act}{w:World}(t:OTree)(S:World→Prop)(hm:P.follows .mixedOrders=true)
 (hs:Region.noSelect ops=true)(hf:Nat.ble t.depth ops.size=true)(hok:fO .any ops t (Array.replicate ops.size false)=true)
 (hQ:∀c(a:Act)(d:Tmp)(v:Value)(w:World),Q (.panic c) (a.put (some d) v) w→Q (.panic c) a w)
 (hS:S w.drew)(h:S w.drew→cU P ops Q S t a w.drew):(Code.region id ops true).wp P Q a w:=
 wp_region_held_drew (S:=S) hm hS fun hS=>eS hs hQ t _ _ _ _ (Nat.le_of_ble_eq_true hf) hok (h hS)
variable{i j:Nat}{r s:OTree}{o:Oper}{a:Act}{w:World}
theorem aG(h:Q .normal a w):cU P ops Q S .nil a w:=h
theorem Pl{v:Value}(ho:ops[i]? =some o)(hg:o.guard=none)(hy:∀w,S w→(execOp a.eval o).run P w=.ok (.value v) w)(hS:S w)
 (k:cU P ops Q S r (a.put o.dst v) w):cU P ops Q S (.take i r) a w:=
 ⟨o,v,ho,.inl ⟨by simp[Region.wanted,hg],hy⟩,hS,k⟩
def lF(P:Program)(ops:Array Oper)(Q:Exit→Act→World→Prop)(S:World→Prop)(r:OTree):Exit→Act→World→Prop
 | .normal,a,w=>S w∧cU P ops Q S r a w
 |e,a,w=>Q e a w
theorem Bu{next:Act→World→Prop}{x:Result Next}(h:o.upon P a next (lF P ops Q S r) x):o.upon P a next Q x:=by
 cases x with
 |ok n w'=>
  cases n with
  |enter f args=>exact Calls.mono h fun e w'' he=>by cases e<;>exact he
  |_=>exact h
 |halt x w'=>
  cases x<;>exact h
theorem qX(ho:ops[i]? =some o)(h:wpList P ops (lF P ops Q S r) [o] a w):wpOp P ops Q i (fun a' w'=>S w'∧cU P ops Q S r a' w') a w:=by
 unfold wpOp;simp only[ho];unfold wpList at h;split
 ·rename_i hw;rw[if_pos hw] at h;rcases h with h|⟨h1,⟨a2,w2,h2⟩⟩
  ·exact .inl (Bu h)
  ·exact .inr ⟨h1,⟨a2,w2,h2⟩⟩
 ·rename_i hw;rw[if_neg hw] at h;exact h
theorem aQ(ho:ops[i]? =some o)(h:wpList P ops (lF P ops Q S r) [o] a w):cU P ops Q S (.one i r) a w:=qX ho h
theorem dI{o':Oper}(ho:ops[i]? =some o)(ho':ops[j]? =some o')(h:wpList P ops (lF P ops Q S r) [o] a w)(h':wpList P ops (lF P ops Q S s) [o'] a w):cU P ops Q S (.two i r j s) a w:=
 ⟨qX ho h,qX ho' h'⟩
theorem aJ(hS:S w)(k:S w→cU P ops Q S r a w):wpList P ops (lF P ops Q S r) [] a w:=⟨hS,k hS⟩
end
section
variable{P:Program}{ops:Array Oper}{Q:Exit→Act→World→Prop}{S:World→Prop}{a:Act}{w:World}{rest l:List Oper}{r:OTree}
theorem aB{i:Nat}(h:cU P ops Q S (.take i r) a w):cU P ops Q S (.take i r) a w:=h
theorem bC{i:Nat}(h:cU P ops Q S (.one i r) a w):cU P ops Q S (.one i r) a w:=h
theorem fQ{i j:Nat}{s:OTree}(h:cU P ops Q S (.two i r j s) a w):cU P ops Q S (.two i r j s) a w:=h
theorem bB(h:wpList P ops Q [] a w):wpList P ops Q [] a w:=h
theorem aH{d:Option Tmp}{x y z u v}(h:wpList P ops Q (⟨d,x,y,z,u,v⟩::rest) a w):wpList P ops Q (⟨d,x,y,z,u,v⟩::rest) a w:=h
end
theorem pS:(∀(a:Act)(v:Value)(d:Tmp),a.put (some d) v=⟨a.tmps.setIfInBounds d v,a.defers⟩)∧(∀(a:Act)(v:Value),a.put none v=a)∧(∀(l:List Value)(i:Nat)(x:Value),l.toArray.setIfInBounds i x=(l.set i x).toArray)∧(∀(x:Value)(l:List Value)(y:Value),(x::l).set 0 y=y::l)∧(∀(x:Value)(l:List Value)(y:Value)(i:Nat),(x::l).set (i+1) y=x::l.set i y):=
 ⟨fun _ _ _=>rfl,fun _ _=>rfl,fun _ _ _=>List.setIfInBounds_toArray ..,fun _ _ _=>rfl,fun _ _ _ _=>rfl⟩
theorem gS:(∀(l:List Oper)(i:Nat),l.toArray[i]? =l[i]?)∧(∀(x:Oper)(l:List Oper)(i:Nat),(x::l)[i+1]? =l[i]?)∧(∀(x:Oper)(l:List Oper),(x::l)[0]? =some x):=
 ⟨fun _ _=>List.getElem?_toArray ..,fun _ _ _=>List.getElem?_cons_succ ..,fun _ _=>List.getElem?_cons_zero ..⟩
section
variable{P:Program}{ops:Array Oper}{Q:Exit→Act→World→Prop}{S:World→Prop}{a:Act}{w:World}{rest l:List Oper}{r:OTree}
theorem aR{id:Nat}{a:Act}{w:World}(t:OTree)(S:World→Prop)(hS:S w.drew)(h:S w.drew→cU P ops Q S t a w.drew)(hm:P.follows .mixedOrders=true:=by kernel_rfl)(hs:Region.noSelect ops=true:=by kernel_rfl)(hf:Nat.ble t.depth ops.size=true:=by kernel_rfl)(hok:fO .any ops t (Array.replicate ops.size false)=true:=by kernel_rfl)(hQ:∀c(a:Act)(d:Tmp)(v:Value)(w:World),Q (.panic c) (a.put (some d) v) w→Q (.panic c) a w:=by intro _ _ _ _ _ h;first|exact h|exact absurd h.1 (fun e=>by cases e)):(Code.region id ops true).wp P Q a w:=tK t S hm hs hf hok hQ hS h
theorem tk{i:Nat}{o:Oper}{v:Value}(hy:∀w,S w→(execOp a.eval o).run P w=.ok (.value v) w)(hS:S w)(k:cU P ops Q S r (a.put o.dst v) w)(ho:ops[i]? =some o:=by simp only[gS];rfl)(hg:o.guard=none:=by rfl):cU P ops Q S (.take i r) a w:=Pl ho hg hy hS k
end
end Go.Bp
end
section
namespace Go.Bp
open Go.RowKit Go.Proofs
section
variable{P:Program}{ops:Array Oper}{Q:Exit→Act→World→Prop}{S:World→Prop}{a:Act}{w:World}{rest:List Oper}{o:Oper}
theorem oG(hw:Region.wanted o (yielded ops a.tmps)=true)
 (h:∀K:Act→World→Prop,(∀a w,wpList P ops Q rest a w→K a w)→o.wp P a w K Q):wpList P ops Q (o::rest) a w:=
 wpList_step fun K hK=>by rw[if_pos hw];exact h K hK
theorem bN(hw:Region.wanted o (yielded ops a.tmps)=true){f:FuncId}{args:Array Value}{R:Ending→World→Prop}(hc:Calls P f args w R)(hr:(execOp a.eval o).run P w=.ok (.enter f args) w)
 (hn:∀e w',R e w'→∃v,e=.returned v∧wpList P ops Q rest (a.put o.dst v) w'):wpList P ops Q (o::rest) a w:=by
 refine oG hw fun K hK=> ?_
 unfold Oper.wp;rw[hr];refine Calls.mono hc fun e w' he=> ?_
 obtain⟨v,rfl,hk⟩:=hn e w' he;exact hK _ _ hk
theorem dK(hw:Region.wanted o (yielded ops a.tmps)=false)(k:wpList P ops Q rest (a.put o.dst undef) w):wpList P ops Q (o::rest) a w:=
 wpList_step fun K hK=>by rw[if_neg (by simp[hw])];exact hK _ _ k
theorem Ma{i:Nat}{r:OTree}{v:Value}(ho:ops[i]? =some o)(hw:Region.wanted o (yielded ops a.tmps)=true)(hy:∀w,S w→(execOp a.eval o).run P w=.ok (.value v) w)(hS:S w)
 (k:cU P ops Q S r (a.put o.dst v) w):cU P ops Q S (.take i r) a w:=
 ⟨o,v,ho,.inl ⟨hw,hy⟩,hS,k⟩
theorem Pm{i:Nat}{r:OTree}(ho:ops[i]? =some o)(hw:Region.wanted o (yielded ops a.tmps)=false)(hS:S w)
 (k:cU P ops Q S r (a.put o.dst undef) w):cU P ops Q S (.take i r) a w:=
 ⟨o,undef,ho,.inr ⟨hw,rfl⟩,hS,k⟩
end
section
variable{P:Program}{ops:Array Oper}{Q:Exit→Act→World→Prop}{S:World→Prop}{a:Act}{w:World}{rest l:List Oper}{r:OTree}
theorem tw{i:Nat}{o:Oper}{v:Value}(hy:∀w,S w→(execOp a.eval o).run P w=.ok (.value v) w)(hS:S w)(k:cU P ops Q S r (a.put o.dst v) w)(ho:ops[i]? =some o:=by simp only[gS];rfl)(hw:Region.wanted o (yielded ops a.tmps)=true:=by rfl):cU P ops Q S (.take i r) a w:=Ma ho hw hy hS k
theorem ts{i:Nat}{o:Oper}(hS:S w)(k:cU P ops Q S r (a.put o.dst undef) w)(ho:ops[i]? =some o:=by simp only[gS];rfl)(hw:Region.wanted o (yielded ops a.tmps)=false:=by rfl):cU P ops Q S (.take i r) a w:=Pm ho hw hS k
end
end Go.Bp
end
section
namespace Go.Bp
open Go.RowKit Go.Proofs
inductive OTree3 where
 |nil
 |take (i:Nat) (r:OTree3)
 |one (i:Nat) (r:OTree3)
 |two (i:Nat) (r:OTree3) (j:Nat) (s:OTree3)
 |three (i:Nat) (r:OTree3) (j:Nat) (s:OTree3) (k:Nat) (u:OTree3)
def OTree3.depth:OTree3→Nat
 | .nil=>0
 | .take _ r=>r.depth+1
 | .one _ r=>r.depth+1
 | .two _ r _ s=>max r.depth s.depth+1
 | .three _ r _ s _ u=>max (max r.depth s.depth) u.depth+1
section
variable{P:Program}{md:Region.Mode}{ops:Array Oper}{Q:Exit→Act→World→Prop}{S:World→Prop}
def fA(md:Region.Mode)(ops:Array Oper):OTree3→Array Bool→Bool
 | .nil,l=>(Region.ready md ops l).isEmpty
 | .take i r,l=>Region.free md ops l i&&(Region.ready md ops l).contains i&&fA md ops r (l.setIfInBounds i true)
 | .one i r,l=>(Region.ready md ops l== [i])&&fA md ops r (l.setIfInBounds i true)
 | .two i r j s,l=>(Region.ready md ops l== [i,j])&&fA md ops r (l.setIfInBounds i true)&&fA md ops s (l.setIfInBounds j true)
 | .three i r j s k u,l=>(Region.ready md ops l== [i,j,k])&&fA md ops r (l.setIfInBounds i true)&&fA md ops s (l.setIfInBounds j true)&&fA md ops u (l.setIfInBounds k true)
def cK(P:Program)(ops:Array Oper)(Q:Exit→Act→World→Prop)(S:World→Prop):OTree3→Act→World→Prop
 | .nil,a,w=>Q .normal a w
 | .take i r,a,w=>∃oi v,ops[i]? =some oi∧YieldsIf P ops S oi v a∧S w∧cK P ops Q S r (a.put oi.dst v) w
 | .one i r,a,w=>wpOp P ops Q i (fun a' w'=>S w'∧cK P ops Q S r a' w') a w
 | .two i r j s,a,w=>wpOp P ops Q i (fun a' w'=>S w'∧cK P ops Q S r a' w') a w∧wpOp P ops Q j (fun a' w'=>S w'∧cK P ops Q S s a' w') a w
 | .three i r j s k u,a,w=>wpOp P ops Q i (fun a' w'=>S w'∧cK P ops Q S r a' w') a w∧wpOp P ops Q j (fun a' w'=>S w'∧cK P ops Q S s a' w') a w∧wpOp P ops Q k (fun a' w'=>S w'∧cK P ops Q S u a' w') a w
theorem dC(hs:Region.noSelect ops=true)(hQ:∀c(a:Act)(d:Tmp)(v:Value)(w:World),Q (.panic c) (a.put (some d) v) w→Q (.panic c) a w):
 ∀(t:OTree3)(l:Array Bool)(fuel:Nat)(a:Act)(w:World),t.depth≤fuel→fA md ops t l=true→cK P ops Q S t a w→wpAnyH P md ops Q S fuel l a w
 | .nil,l,fuel,a,w,_,hok,h=>wpAnyH_done (by simpa [fA] using hok) h fuel
 | .take i r,l,0,a,w,hf,_,_=>by simp[OTree3.depth] at hf
 | .one i r,l,0,a,w,hf,_,_=>by simp[OTree3.depth] at hf
 | .two i r j s,l,0,a,w,hf,_,_=>by simp[OTree3.depth] at hf
 | .three i r j s k u,l,0,a,w,hf,_,_=>by simp[OTree3.depth] at hf
 | .take i r,l,fuel+1,a,w,hf,hok,h=>by
  obtain⟨oi,v,ho,hy,hS,h⟩:=h;simp only[fA,Bool.and_eq_true] at hok;exact wpAnyH_take ho hs hok.1.1 hok.1.2 (fun c a w h=>xY hQ c a oi.dst v w h) hy hS (dC hs hQ r _ fuel _ _ (by simpa [OTree3.depth] using hf) hok.2 h)
 | .one i r,l,fuel+1,a,w,hf,hok,h=>by
  simp only[fA,Bool.and_eq_true,beq_iff_eq] at hok;refine wpAnyH_all hok.1 (by simp) fun j hj=> ?_
  obtain rfl:j=i:=by simpa using hj
  exact wpOp_mono (fun a' w' h'=>⟨h'.1,dC hs hQ r _ fuel _ _ (by simpa [OTree3.depth] using hf) hok.2 h'.2⟩) h
 | .two i r j s,l,fuel+1,a,w,hf,hok,h=>by
  simp only[fA,Bool.and_eq_true,beq_iff_eq] at hok;obtain⟨h1,h2⟩:=h;have hd:r.depth≤fuel∧s.depth≤fuel:=by simp only[OTree3.depth] at hf;omega
  refine wpAnyH_all hok.1.1 (by simp) fun k hk=> ?_
  have hk:k=i∨k=j:=by simpa using hk
  rcases hk with rfl|rfl
  ·exact wpOp_mono (fun a' w' h'=>⟨h'.1,dC hs hQ r _ fuel _ _ hd.1 hok.1.2 h'.2⟩) h1
  ·exact wpOp_mono (fun a' w' h'=>⟨h'.1,dC hs hQ s _ fuel _ _ hd.2 hok.2 h'.2⟩) h2
 | .three i r j s k u,l,fuel+1,a,w,hf,hok,h=>by
  simp only[fA,Bool.and_eq_true,beq_iff_eq] at hok;obtain⟨h1,h2,h3⟩:=h;have hd:r.depth≤fuel∧s.depth≤fuel∧u.depth≤fuel:=by simp only[OTree3.depth] at hf;omega
  refine wpAnyH_all hok.1.1.1 (by simp) fun z hz=> ?_
  have hz:z=i∨z=j∨z=k:=by simpa using hz
  rcases hz with rfl|rfl|rfl
  ·exact wpOp_mono (fun a' w' h'=>⟨h'.1,dC hs hQ r _ fuel _ _ hd.1 hok.1.1.2 h'.2⟩) h1
  ·exact wpOp_mono (fun a' w' h'=>⟨h'.1,dC hs hQ s _ fuel _ _ hd.2.1 hok.1.2 h'.2⟩) h2
  ·exact wpOp_mono (fun a' w' h'=>⟨h'.1,dC hs hQ u _ fuel _ _ hd.2.2 hok.2 h'.2⟩) h3
theorem sX{id:Nat}{a:Act}{w:World}(t:OTree3)(S:World→Prop)(hm:P.follows .mixedOrders=true)
 (hs:Region.noSelect ops=true)(hf:Nat.ble t.depth ops.size=true)(hok:fA .any ops t (Array.replicate ops.size false)=true)
 (hQ:∀c(a:Act)(d:Tmp)(v:Value)(w:World),Q (.panic c) (a.put (some d) v) w→Q (.panic c) a w)
 (hS:S w.drew)(h:S w.drew→cK P ops Q S t a w.drew):(Code.region id ops true).wp P Q a w:=
 wp_region_held_drew (S:=S) hm hS fun hS=>dC hs hQ t _ _ _ _ (Nat.le_of_ble_eq_true hf) hok (h hS)
variable{i j k:Nat}{r s u:OTree3}{o:Oper}{a:Act}{w:World}
theorem pW(h:Q .normal a w):cK P ops Q S .nil a w:=h
theorem Md{v:Value}(ho:ops[i]? =some o)(hg:o.guard=none)(hy:∀w,S w→(execOp a.eval o).run P w=.ok (.value v) w)(hS:S w)
 (k:cK P ops Q S r (a.put o.dst v) w):cK P ops Q S (.take i r) a w:=
 ⟨o,v,ho,.inl ⟨by simp[Region.wanted,hg],hy⟩,hS,k⟩
def fX(P:Program)(ops:Array Oper)(Q:Exit→Act→World→Prop)(S:World→Prop)(r:OTree3):Exit→Act→World→Prop
 | .normal,a,w=>S w∧cK P ops Q S r a w
 |e,a,w=>Q e a w
theorem yR{next:Act→World→Prop}{x:Result Next}(h:o.upon P a next (fX P ops Q S r) x):o.upon P a next Q x:=by
 cases x with
 |ok n w'=>
  cases n with
  |enter f args=>exact Calls.mono h fun e w'' he=>by cases e<;>exact he
  |_=>exact h
 |halt x w'=>
  cases x<;>exact h
theorem iB(ho:ops[i]? =some o)(h:wpList P ops (fX P ops Q S r) [o] a w):wpOp P ops Q i (fun a' w'=>S w'∧cK P ops Q S r a' w') a w:=by
 unfold wpOp;simp only[ho];unfold wpList at h;split
 ·rename_i hw;rw[if_pos hw] at h;rcases h with h|⟨h1,⟨a2,w2,h2⟩⟩
  ·exact .inl (yR h)
  ·exact .inr ⟨h1,⟨a2,w2,h2⟩⟩
 ·rename_i hw;rw[if_neg hw] at h;exact h
theorem tR(ho:ops[i]? =some o)(h:wpList P ops (fX P ops Q S r) [o] a w):cK P ops Q S (.one i r) a w:=iB ho h
theorem tP{o':Oper}(ho:ops[i]? =some o)(ho':ops[j]? =some o')(h:wpList P ops (fX P ops Q S r) [o] a w)(h':wpList P ops (fX P ops Q S s) [o'] a w):cK P ops Q S (.two i r j s) a w:=
 ⟨iB ho h,iB ho' h'⟩
theorem tQ{o' o'':Oper}(ho:ops[i]? =some o)(ho':ops[j]? =some o')(ho'':ops[k]? =some o'')(h:wpList P ops (fX P ops Q S r) [o] a w)(h':wpList P ops (fX P ops Q S s) [o'] a w)(h'':wpList P ops (fX P ops Q S u) [o''] a w):cK P ops Q S (.three i r j s k u) a w:=
 ⟨iB ho h,iB ho' h',iB ho'' h''⟩
theorem pV(hS:S w)(k:S w→cK P ops Q S r a w):wpList P ops (fX P ops Q S r) [] a w:=⟨hS,k hS⟩
end
section
variable{P:Program}{ops:Array Oper}{Q:Exit→Act→World→Prop}{S:World→Prop}{a:Act}{w:World}{rest l:List Oper}{r:OTree3}
theorem rT{i:Nat}(h:cK P ops Q S (.take i r) a w):cK P ops Q S (.take i r) a w:=h
theorem zA{i:Nat}(h:cK P ops Q S (.one i r) a w):cK P ops Q S (.one i r) a w:=h
theorem yZ{i j:Nat}{s:OTree3}(h:cK P ops Q S (.two i r j s) a w):cK P ops Q S (.two i r j s) a w:=h
theorem Iv{i j k:Nat}{s u:OTree3}(h:cK P ops Q S (.three i r j s k u) a w):cK P ops Q S (.three i r j s k u) a w:=h
end
section
variable{P:Program}{ops:Array Oper}{Q:Exit→Act→World→Prop}{S:World→Prop}{a:Act}{w:World}{rest l:List Oper}{r:OTree3}
theorem tJ{id:Nat}{a:Act}{w:World}(t:OTree3)(S:World→Prop)(hS:S w.drew)(h:S w.drew→cK P ops Q S t a w.drew)(hm:P.follows .mixedOrders=true:=by kernel_rfl)(hs:Region.noSelect ops=true:=by kernel_rfl)(hf:Nat.ble t.depth ops.size=true:=by kernel_rfl)(hok:fA .any ops t (Array.replicate ops.size false)=true:=by kernel_rfl)(hQ:∀c(a:Act)(d:Tmp)(v:Value)(w:World),Q (.panic c) (a.put (some d) v) w→Q (.panic c) a w:=by intro _ _ _ _ _ h;first|exact h|exact absurd h.1 (fun e=>by cases e)):(Code.region id ops true).wp P Q a w:=sX t S hm hs hf hok hQ hS h
theorem t3k{i:Nat}{o:Oper}{v:Value}(hy:∀w,S w→(execOp a.eval o).run P w=.ok (.value v) w)(hS:S w)(k:cK P ops Q S r (a.put o.dst v) w)(ho:ops[i]? =some o:=by simp only[gS];rfl)(hg:o.guard=none:=by rfl):cK P ops Q S (.take i r) a w:=Md ho hg hy hS k
end
end Go.Bp
end
