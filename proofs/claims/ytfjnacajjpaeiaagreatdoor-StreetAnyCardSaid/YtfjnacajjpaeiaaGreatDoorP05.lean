/- Chapter 03: contracts of functions of the program and of the reference, and plain laws (out of StJ SR2 SR3 SR4 SR5 SR6 SR8 ST2 SP1 SR9 SR10 SR11 StK SR12 StL SR13 SR14 SR15 SP2). No condition of its own. -/
import Derived.Test.YtfjnacajjpaeiaaGreatDoorP04
set_option maxRecDepth 100000
set_option linter.all false
section
namespace Go.St
open Go.Bp
def cv:Option (Int×Int)→Int×Int
 |none=>(-1,0)
 |some c=>c
theorem Er:cv none=(-1,0):=rfl
theorem iQ(c:Int×Int):cv (some c)=c:=rfl
theorem Pass.mono{less:Int→Int→Int}{arcs:List Arc}{to:Int}{L:List (Int×Int)}{T0 T:Tab}{ch:Bool}{P Q:Arc→Int→Prop}(h:Pass less arcs to L T0 T ch P)(hQ:∀a∈arcs,∀s,Q a s→P a s):Pass less arcs to L T0 T ch Q:=
 ⟨h.sound,h.base,h.bound,fun e=>⟨(h.same e).1,fun a ha s hq c hc=>(h.same e).2 a ha s (hQ a ha s hq) c hc⟩,h.fell,h.most⟩
namespace Town
variable{t:Town}{k:Task}
structure RefT(t:Town)(k:Task)(T:Tab):Prop where
 sound:fJ aE (t.arcs k) k.b T
 base:T k.b 0=some (0,0)
 bound:kR t.stands T
 inD:∀p s c,T p s=some c→PartOf t k s
theorem RefT.eq(h:TaskOk t k){T:Tab}(hr:RefT t k T)(hc:eY aE (t.arcs k) k.b (PartOf t k) T)(p s:Int):T p s=t.cost k p s:=Et h hr.sound hc hr.inD p s
def tab0(k:Task):Tab:=put (fun _ _=>none) k.b 0 (0,0)
theorem tab0_ref(h:TaskOk t k):RefT t k (tab0 k):=by
 refine⟨?_,fZ _ _ _ _,?_,?_⟩
 ·intro p s c hc;unfold tab0 put at hc;split at hc
  ·rename_i e;obtain⟨rfl,rfl⟩:=e;injection hc with hc;rw[←hc];exact Way.nil
  ·cases hc
 ·intro p s c hc;have hc0:=hc;unfold tab0 put at hc;split at hc
  ·rename_i e;obtain⟨rfl,rfl⟩:=e;injection hc with hc;subst hc
   refine⟨mem_stands.2 ⟨h.b,by omega,by have:=(sets_bd h.ok.sh).1;omega⟩,by simp,by simp,by simp,by simp;omega⟩
  ·cases hc
 ·intro p s c hc;unfold tab0 put at hc;split at hc
  ·rename_i e;rw[e.2];exact vY h
  ·cases hc
theorem Kb{a b:Nat}(h:gO a b=0):a≤b:=by
 have hb:=gH.1 h;have:a&&&b=a:=by
  apply Nat.eq_of_testBit_eq;intro i;rw[Nat.testBit_and]
  cases ha:a.testBit i
  ·rfl
  ·rw[hb i ha];rfl
 rw[←this];exact Nat.and_le_right
theorem yA(h:TaskOk t k){s:Int}(hs:PartOf t k s):s≤k.show_:=by
 have h0:=aV.1 h.sh;have h2:=hs.2.2;unfold aE at h2;have:=Kb (show gO s.toNat k.show_.toNat=0 by exact_mod_cast h2)
 have:=hs.1;omega
section
variable{T0 T:Tab}{ch:Bool}{set:Int}{i:Nat}
def via(T:Tab)(b:Arc)(set:Int):Option (Int×Int):=match T b.q (aE set b.sh) with|some c=>some (c.1+b.m,c.2+1)|none=>none
end
theorem RefT.bd(h:TaskOk t k){T:Tab}(hr:RefT t k T){p s:Int}{c:Int×Int}(hc:T p s=some c):0≤c.1∧0≤c.2∧c.1≤10240000∧c.2≤10240000:=by
 obtain⟨_,h1,h2,h3,h4⟩:=hr.bound _ _ _ hc;have:=Ky t.stands T;have:=stands_bd h.ok;omega
end Town
end Go.St
end
section
namespace Go.St
open Go Go.Bp Go.RowKit Go.Proofs
theorem Town.at_eq{t:Town}{k:Nat}(hk:k<t.streets.length):t.at_ (k:Int)=t.streets[k]:=by unfold Town.at_;simp[List.getD,hk]
theorem Town.ends_f{t:Town}{k:Nat}(hk:k<t.streets.length):t.ends ⟨k,false⟩=(t.streets[k].a,t.streets[k].b):=by
 unfold Town.ends;rw[if_neg (by simp),Town.at_eq hk]
theorem Town.ends_t{t:Town}{k:Nat}(hk:k<t.streets.length):t.ends ⟨k,true⟩=(t.streets[k].b,t.streets[k].a):=by
 unfold Town.ends;rw[if_pos rfl,Town.at_eq hk]
end Go.St
end
section
namespace Go.St
open Go Go.Bp Go.RowKit Go.Proofs
theorem wD{w:World}{A:Option Addr}{n c:Nat}{l:List ByteArray}(h:Strs w (.slice A n c) l)(k:Nat)(hk:k≤l.length):Strs w (.slice A k c) (l.take k):=by
 obtain⟨A',c',hv,h1,h2,h3,h4⟩:=h;injection hv with e1 e2 e3
 subst e1 e3;have hl:(l.take k).length=k:=by rw[List.length_take];omega
 refine⟨A,c,by rw[hl],by omega,h2,by rw[Ku,hl,Nat.mul_one],fun hn=> ?_⟩
 obtain⟨ad,ha,hc⟩:=h4 (by omega)
 refine⟨ad,ha,fun j u hu=>hc j u ?_⟩
 unfold rJ at hu⊢;rw[List.map_take] at hu;rw[List.getElem?_take] at hu;split at hu
 ·exact hu
 ·cases hu
end Go.St
end
section
namespace Go.St
open Go Go.Bp Go.RowKit Go.Proofs
structure Town.Small(t:Town):Prop where
 p1:1≤t.places.length
 p2:t.places.length≤16
 sh:t.shows.length≤6
 t1:1≤t.times.length
 t2:t.times.length≤4
 st:t.streets.length≤40
def iS(w:World)(v:Value)(s:Street):Prop:=∃sv,v=.agg #[.int .i64 s.a,.int .i64 s.b,.int .i64 s.metres,.int .i64 s.lo,.int .i64 s.hi,.bool s.both,sv]∧bG w sv s.shows
theorem iS.of{w:World}{s:Street}{sv:Value}(h:bG w sv s.shows):iS w (.agg #[.int .i64 s.a,.int .i64 s.b,.int .i64 s.metres,.int .i64 s.lo,.int .i64 s.hi,.bool s.both,sv]) s:=⟨sv,rfl,h⟩
theorem iS.ext{w w':World}{v:Value}{s:Street}(h:iS w v s)(e:Ext w w'):iS w' v s:=by
 obtain⟨sv,hv,h1⟩:=h;exact⟨sv,hv,h1.ext e⟩
end Go.St
end
section
namespace Go.St
open Go Go.Bp Go.RowKit Go.Proofs
theorem aA{gd:Option (Tmp×Bool)}{P:Program}{S:World→Prop}{a:Act}{d:Option Tmp}{ty t:TypeId}{pos:String}{after:Array Edge}{x:Operand}{p:Addr}{v:Value}(hx:a.eval x=.pointer (some p))(hl:∀W,S W→(loadVar t p).run P W=.ok v W):
 ∀W,S W→(execOp a.eval (⟨d,.load t x,ty,pos,after,gd⟩:Oper)).run P W=.ok (.value v) W:=by
 intro W h;simp[execOp,Instr.loadAt,hx,Instr.sureAddr,hl W h,Result.andThen]
theorem kZ{w:World}{g:Nat}{t t':TypeId}{fs:Array Field}{cs:Array Value}{n:Nat}(ht:Tryz.prog.underlying t=some (.struct fs))(hi:(Tryz.prog.info? t).map TypeInfo.size=some n)(h:Blk w g t' cs)(hn:n=cs.size):(loadVar t ⟨g,0,none⟩).run Tryz.prog w=.ok (.agg cs) w:=by
 obtain⟨i,hi,hs⟩:=iJ hi;have:=eH (P:=Tryz.prog) (cs:=cs.toList) ht hi (by rw[hs,hn];simp) h.cells
 simpa using this
theorem aL{w:World}{g:Nat}{a b c d:Value}(h:Blk w g 25 #[a,b,c,d]):(loadVar 25 ⟨g,0,none⟩).run Tryz.prog w=.ok (.agg #[a,b,c,d]) w:=kZ Tryz.underlying25 zI h rfl
theorem bU{w:World}{g:Nat}{a b c d e:Value}(h:Blk w g 43 #[a,b,c,d,e]):(loadVar 43 ⟨g,0,none⟩).run Tryz.prog w=.ok (.agg #[a,b,c,d,e]) w:=kZ Tryz.underlying43 tT h rfl
theorem bZ{w:World}{g:Nat}{a b:Value}(h:Blk w g 82 #[a,b]):(loadVar 82 ⟨g,0,none⟩).run Tryz.prog w=.ok (.agg #[a,b]) w:=kZ Tryz.underlying82 zJ h rfl
theorem By:(Tryz.prog.info? 22).map (fun i=>(i.zero,i.size,i.bytes))=some (some (.slice none 0 0),1,24):=by kernel_rfl
theorem xW(P:Program)(w:World){t e:TypeId}{z a b c:Value}(ht:P.underlying t=some (.slice e))(hi:(P.info? e).map (fun i=>(i.zero,i.size))=some (some z,1))(hz:z.cells.size=1)(ha:a.cells=#[a])(hb:b.cells=#[b])(hc:c.cells=#[c]):
 (Instr.buildSlice t 3 #[(0,a),(1,b),(2,c)]).run P w=.ok (.slice (some ⟨w.heap.size,0,none⟩) 3 3) (w.alloc (.cells #[a,b,c] e)):=by
 cases h:P.info? e with
 |none=>rw[h] at hi;cases hi
 |some i=>
  rw[h] at hi;simp only[Option.map_some,Option.some.injEq,Prod.mk.injEq] at hi;obtain⟨h0,h1⟩:=hi
  cases i
  dsimp only at h0 h1;subst h0 h1;have h3:Array.range 3=#[0,1,2]:=by decide
  simp[Instr.buildSlice,run_underlying ht,sizeOf,typeInfo,zeroValue,h,Instr.fill,hz,ha,hb,hc,newRow,newObj,Sem.run,h3]
section
variable{ops:Array Oper}{Q:Exit→Act→World→Prop}{a:Act}{w:World}{rest:List Oper}
variable{d:Option Tmp}{ty:TypeId}{pos:String}{after:Array Edge}
theorem Jk{x y z:Operand}{p q r:Value}(hx:a.eval x=p)(hy:a.eval y=q)(hz:a.eval z=r)(h1:p.cells=#[p])(h2:q.cells=#[q])(h3:r.cells=#[r])
 (k:∀W g,Ext w W→Blk W g 22 #[p,q,r]→w.heap.size≤g→wpList Tryz.prog ops Q rest (a.put d (.slice (some ⟨g,0,none⟩) 3 3)) W):
 wpList Tryz.prog ops Q (⟨d,.buildSlice 92 3 #[(0,x),(1,y),(2,z)],ty,pos,after,none⟩::rest) a w:=
 eV (by have:=xW Tryz.prog w (a:=a.eval x) (b:=a.eval y) (c:=a.eval z) Tryz.underlying92 (ti2 By) rfl (by rw[hx];exact h1) (by rw[hy];exact h2) (by rw[hz];exact h3);simpa [hx,hy,hz] using this) k
end
theorem Town.check_1{t:Town}(h:inB t.places.length 1 16=false∨6<t.shows.length∨inB t.times.length 1 4=false∨40<t.streets.length):t.check=(1,0,3):=by unfold Town.check;rw[if_pos h]
theorem Town.small_of{t:Town}(h:¬(inB t.places.length 1 16=false∨6<t.shows.length∨inB t.times.length 1 4=false∨40<t.streets.length)):t.Small:=by
 simp only[not_or,Bool.not_eq_false] at h;obtain⟨h1,h2,h3,h4⟩:=h;have:=aV.1 h1;have:=aV.1 h3;exact⟨by omega,by omega,by omega,by omega,by omega,by omega⟩
theorem Town.Small.not{t:Town}(h:t.Small):¬(inB t.places.length 1 16=false∨6<t.shows.length∨inB t.times.length 1 4=false∨40<t.streets.length):=by
 have h1:=h.p1;have h2:=h.p2;have h3:=h.sh;have h4:=h.t1;have h5:=h.t2;have h6:=h.st;simp only[not_or,Bool.not_eq_false];exact⟨aV.2 (by omega),by omega,aV.2 (by omega),by omega⟩
def Town.lists(t:Town)(k:Nat):List ByteArray:=if k=0 then t.places else if k=1 then t.shows else t.times
theorem Town.check_n{t:Town}(h:t.Small){k:Nat}(hk:k<3){i e:Int}(hn:aP (t.lists k)=(i,e))(he:e≠0)(hb:∀j,j<k→(aP (t.lists j)).2=0):t.check=(2+(k:Int),i,e):=by
 unfold Town.check;rw[if_neg h.not];have b0:=hb 0;have b1:=hb 1;simp only[Town.lists] at hn b0 b1;obtain rfl|rfl|rfl:k=0∨k=1∨k=2:=by omega
 ·simp at hn;simp[hn,he]
 ·simp at hn b0;simp[hn,he,b0]
 ·simp at hn b0 b1;simp[hn,he,b0,b1]
theorem Town.check_s{t:Town}(h:t.Small)(hb:∀j,j<3→(aP (t.lists j)).2=0):t.check=if t.streetsErr.2≠0 then(5,t.streetsErr.1,t.streetsErr.2) else(0,0,0):=by
 have b0:=hb 0 (by omega);have b1:=hb 1 (by omega);have b2:=hb 2 (by omega)
 simp[Town.lists] at b0 b1 b2;unfold Town.check;rw[if_neg h.not,if_neg (by simp[b0]),if_neg (by simp[b1]),if_neg (by simp[b2])]
theorem eZ{p:Nat→Prop}{k:Nat}(h:∀j,j<k→p j)(hk:p k):∀j,j<k+1→p j:=fun j hj=>by
 by_cases e:j=k
 ·rw[e];exact hk
 ·exact h j (by omega)
end Go.St
end
section
namespace Go.St
open Go Go.Bp Go.RowKit Go.Proofs
theorem Town.follow_step{t:Town}{l:List Step}{k:Nat}(hk:k<l.length)(a:Int):t.follow a (l.drop k)=if t.stepErr a l[k]≠0 then(0,t.stepErr a l[k]) else t.follow (t.ends l[k]).2 (l.drop (k+1)):=by
 rw[List.drop_eq_getElem_cons hk];rfl
theorem Town.follow_bad{t:Town}{l:List Step}{k:Nat}(hk:k<l.length){a e:Int}(h:t.stepErr a l[k]=e)(he:e≠0):t.follow a (l.drop k)=(0,e):=by
 rw[Town.follow_step hk,if_pos (by rw[h];exact he),h]
theorem Town.follow_good{t:Town}{l:List Step}{k:Nat}(hk:k<l.length){a:Int}(h:t.stepErr a l[k]=0):t.follow a (l.drop k)=t.follow (t.ends l[k]).2 (l.drop (k+1)):=by
 rw[Town.follow_step hk,if_neg (by rw[h];simp)]
theorem Town.stepErr_4{t:Town}{a:Int}{x:Step}(h:inB x.st 0 (t.streets.length-1)=false):t.stepErr a x=4:=by unfold Town.stepErr;rw[if_pos h]
theorem Town.stepErr_2{t:Town}{a:Int}{x:Step}(h:inB x.st 0 (t.streets.length-1)=true)(h2:x.bk=true)(h3:(t.at_ x.st).both=false):t.stepErr a x=2:=by
 unfold Town.stepErr;rw[if_neg (by simp[h]),if_pos ⟨h2,h3⟩]
theorem Town.stepErr_9{t:Town}{a:Int}{x:Step}(h:inB x.st 0 (t.streets.length-1)=true)(h2:¬(x.bk=true∧(t.at_ x.st).both=false))(h3:(t.ends x).1≠a):t.stepErr a x=9:=by
 unfold Town.stepErr;rw[if_neg (by simp[h]),if_neg h2,if_pos h3]
theorem Town.stepErr_0{t:Town}{a:Int}{x:Step}(h:inB x.st 0 (t.streets.length-1)=true)(h2:¬(x.bk=true∧(t.at_ x.st).both=false))(h3:(t.ends x).1=a):t.stepErr a x=0:=by
 unfold Town.stepErr;rw[if_neg (by simp[h]),if_neg h2,if_neg (by simp[h3])]
theorem fB{st m:Int}(h:inB st 0 (m-1)=true):∃n:Nat,st=(n:Int)∧(n:Int)<m:=by
 have:=aV.1 h;exact⟨st.toNat,by omega,by omega⟩
end Go.St
end
section
namespace Go.St
open Go Go.Bp Go.RowKit Go.Proofs
def Town.mTo(t:Town)(l:List Step)(k:Nat):Int:=(l.take k).foldl (fun n x=>n+(t.at_ x.st).metres) 0
def Town.loTo(t:Town)(l:List Step)(k:Nat):Int:=(l.take k).foldl (fun n x=>n+(t.at_ x.st).lo) 0
def Town.hiTo(t:Town)(l:List Step)(k:Nat):Int:=(l.take k).foldl (fun n x=>n+(t.at_ x.st).hi) 0
def Town.shTo(t:Town)(time:Int)(l:List Step)(k:Nat):Int:=(l.take k).foldl (fun n x=>bP n (t.shownAt time x)) 0
namespace Town
variable{t:Town}{l:List Step}{k:Nat}
theorem mTo_succ(hk:k<l.length):t.mTo l (k+1)=t.mTo l k+(t.at_ l[k].st).metres:=by unfold mTo;rw[cI _ hk,List.foldl_append];rfl
theorem loTo_succ(hk:k<l.length):t.loTo l (k+1)=t.loTo l k+(t.at_ l[k].st).lo:=by unfold loTo;rw[cI _ hk,List.foldl_append];rfl
theorem hiTo_succ(hk:k<l.length):t.hiTo l (k+1)=t.hiTo l k+(t.at_ l[k].st).hi:=by unfold hiTo;rw[cI _ hk,List.foldl_append];rfl
theorem shTo_succ{time:Int}(hk:k<l.length):t.shTo time l (k+1)=bP (t.shTo time l k) (t.shownAt time l[k]):=by unfold shTo;rw[cI _ hk,List.foldl_append];rfl
theorem tourOf_to(time:Int):t.tourOf time l=⟨l,t.mTo l l.length,t.loTo l l.length,t.hiTo l l.length,t.shTo time l l.length⟩:=by unfold tourOf mTo loTo hiTo shTo;rw[List.take_length]
theorem to_bd(hok:t.Ok)(hv:∀x∈l,inB x.st 0 (t.streets.length-1)=true):∀k,k≤l.length→(0≤t.mTo l k∧t.mTo l k≤10000*k)∧(0≤t.loTo l k∧t.loTo l k≤60*k)∧(0≤t.hiTo l k∧t.hiTo l k≤60*k)
 |0,_=>by simp[mTo,loTo,hiTo]
 |k+1,h=>by
  have ih:=to_bd hok hv k (by omega)
  have hs:=hok.atI (hv _ (List.getElem_mem (show k<l.length by omega)))
  have h1:=aV.1 hs.m;have h2:=aV.1 hs.lo;have h3:=aV.1 hs.hi;rw[mTo_succ (by omega),loTo_succ (by omega),hiTo_succ (by omega)]
  omega
theorem shownAt_bd(hok:t.Ok){x:Step}(hx:inB x.st 0 (t.streets.length-1)=true){time:Int}(ht:inB time 0 (t.times.length-1)=true):0≤t.shownAt time x∧t.shownAt time x<t.sets:=(hok.shown (hok.atI hx) ht).2
theorem sh_bd(hok:t.Ok){time:Int}(ht:inB time 0 (t.times.length-1)=true)(hv:∀x∈l,inB x.st 0 (t.streets.length-1)=true):∀k,k≤l.length→0≤t.shTo time l k∧t.shTo time l k<t.sets
 |0,_=>by have:=(sets_bd hok.sh).1;simp[shTo];omega
 |k+1,h=>by
  have ih:=sh_bd hok ht hv k (by omega)
  have hs:=shownAt_bd hok (hv _ (List.getElem_mem (show k<l.length by omega))) ht
  rw[shTo_succ (by omega)]
  exact wA ih.1 ih.2 hs.1 hs.2
theorem driveAns_c{a time:Int}(h:t.check.2.2≠0):t.driveAns a time l=(⟨[],0,0,0,0⟩,0,t.check.2.2):=by unfold driveAns;rw[if_pos h]
theorem driveAns_4{a time:Int}(h:t.check.2.2=0)(h2:inB a 0 (t.places.length-1)=false∨inB time 0 (t.times.length-1)=false):t.driveAns a time l=(⟨[],0,0,0,0⟩,0,4):=by
 unfold driveAns;rw[if_neg (by simp[h]),if_pos h2]
theorem driveAns_s{a time:Int}(h:t.check.2.2=0)(h2:inB a 0 (t.places.length-1)=true)(h3:inB time 0 (t.times.length-1)=true)(h4:(t.stepsErr a l).2≠0):t.driveAns a time l=(⟨[],0,0,0,0⟩,0,(t.stepsErr a l).2):=by
 unfold driveAns;rw[if_neg (by simp[h]),if_neg (by simp[h2,h3]),if_pos h4]
theorem driveAns_0{a time:Int}(h:t.check.2.2=0)(h2:inB a 0 (t.places.length-1)=true)(h3:inB time 0 (t.times.length-1)=true)(h4:(t.stepsErr a l).2=0):t.driveAns a time l=(t.tourOf time l,(t.stepsErr a l).1,0):=by
 unfold driveAns;rw[if_neg (by simp[h]),if_neg (by simp[h2,h3]),if_neg (by simp[h4])]
end Town
def sT(B:Nat)(w:World)(v:Value)(x:Tour):Prop:=∃sv,v=.agg #[sv,.int .i64 x.metres,.int .i64 x.lo,.int .i64 x.hi,.int .i64 x.shown]∧aX B w sv x.steps
theorem sT.ext{B:Nat}{w w':World}{v:Value}{x:Tour}(h:sT B w v x)(e:Ext w w'):sT B w' v x:=by
 obtain⟨sv,hv,h1⟩:=h;exact⟨sv,hv,h1.ext e⟩
theorem sT.tour{B:Nat}{w:World}{v:Value}{x:Tour}(h:sT B w v x):nJ w v x:=by
 obtain⟨sv,hv,h1⟩:=h;exact⟨sv,hv,h1.steps⟩
def Pf(w:World)(x:Tour)(b:Int)(e:Ending)(w':World):Prop:=∃v,e=.returned (.tuple #[v,.int .i64 b])∧sT w.heap.size w' v x∧Ext w w'
def Ln(w:World)(x:Tour)(a b:Int)(e:Ending)(w':World):Prop:=∃v,e=.returned (.tuple #[v,.int .i64 a,.int .i64 b])∧sT w.heap.size w' v x∧Ext w w'
theorem mB{v:Value}{a b c d:Int}(h:v.oneCell'=true):∀u∈(Value.agg #[v,.int .i64 a,.int .i64 b,.int .i64 c,.int .i64 d]).cells.toList,u.oneCell'=true:=by
 intro u hu;simp[Value.cells] at hu;rcases hu with rfl|rfl|rfl|rfl|rfl
 ·exact h
 all_goals rfl
theorem bT{w:World}{g:Nat}{a b c d e:Value}(h:Blk w g 36 #[a,b,c,d,e]):(loadVar 36 ⟨g,0,none⟩).run Tryz.prog w=.ok (.agg #[a,b,c,d,e]) w:=kZ Tryz.underlying36 cW h rfl
end Go.St
end
section
namespace Go.St
open Go Go.Bp Go.RowKit Go.Proofs
def Sd(w:World)(t:List UInt8)(b:Int)(e:Ending)(w':World):Prop:=e=.returned (.tuple #[.string (S t),.int .i64 b])∧Ext w w'
theorem cS.sg{w:World}{ad:Addr}{xs:List ByteArray}{k:Nat}(h:cS w ad (rJ xs))(hk:k<xs.length):w.cell? (ad.add k)=some (.string xs[k]):=h k _ (Av _ _ hk)
namespace Town
variable{t:Town}{a:Int}{l:List Step}
theorem writeAns_c(h:t.check.2.2≠0):t.writeAns a l=([],t.check.2.2):=by unfold writeAns;rw[if_pos h]
theorem writeAns_4(h:t.check.2.2=0)(h1:inB a 0 (t.places.length-1)=false):t.writeAns a l=([],4):=by unfold writeAns;rw[if_neg (by simp[h]),if_pos h1]
theorem writeAns_s(h:t.check.2.2=0)(h1:inB a 0 (t.places.length-1)=true)(h2:(t.stepsErr a l).2≠0):t.writeAns a l=([],(t.stepsErr a l).2):=by unfold writeAns;rw[if_neg (by simp[h]),if_neg (by simp[h1]),if_pos h2]
theorem writeAns_0(h:t.check.2.2=0)(h1:inB a 0 (t.places.length-1)=true)(h2:(t.stepsErr a l).2=0):t.writeAns a l=(t.textOf a l,0):=by unfold writeAns;rw[if_neg (by simp[h]),if_neg (by simp[h1]),if_neg (by simp[h2])]
end Town
end Go.St
end
section
namespace Go.St
open Go Go.Bp Go.RowKit Go.Proofs
theorem yF:∀(args:Array Value)(W:World),(callFunc 92 args).run Tryz.prog W=.ok (.enter 92 args) W:=enters_of Tryz.func92 (by kernel_rfl) rfl
theorem Fq(x:Int)(g1 g2:Nat)(lo hi:Int)(w:World)(h1:w.cell? ⟨g1,0,none⟩=some (.int .i64 lo))(h2:w.cell? ⟨g2,0,none⟩=some (.int .i64 hi)):
 Calls Tryz.prog 92 #[.int .i64 x,.pointer (some ⟨g1,0,none⟩),.pointer (some ⟨g2,0,none⟩)] w fun e w'=>e=.returned (.bool (!inB x lo hi))∧w=w':=by
 unfold inB;go_enter Tryz.func92,Tryz.ntmps92
 go_wp2
 all_goals(go_ret;exact⟨jR (by rw[Bool.eq_iff_iff];simp;try omega),rfl⟩)
def eC(lo hi:Int)(xs:List Int):Bool:=xs.any fun x=> !inB x lo hi
theorem zS(lo hi:Int)(v:Value)(xs:List Int)(w:World)(h:bG w v xs):
 Calls Tryz.prog 46 #[.int .i64 lo,.int .i64 hi,v] w (dB w (eC lo hi xs)):=by
 have hE:=Ext.refl w;go_enter Tryz.func46,Tryz.ntmps46
 go_wp2_with (first|((with_reducible refine aF (d:=some 3) ?_);intro W3 g3 hE3 hB3 hg3;simp[Act.eval,Act.put,Value.cells] at hB3;(try replace hE:=hE.trans hE3);(try replace h:=h.ext hE3);have hb3_0:=hB3.cell 0;simp at hb3_0;clear hE3)|((with_reducible refine aF (d:=some 4) ?_);intro W4 g4 hE4 hB4 hg4;simp[Act.eval,Act.put,Value.cells] at hB4;(try replace hE:=hE.trans hE4);(try replace h:=h.ext hE4);(try replace hb3_0:=hE4.c hb3_0);have hb4_0:=hB4.cell 0;simp at hb4_0;clear hE4))
 have hp:Of W4 92 #[.pointer (some ⟨g3,0,none⟩),.pointer (some ⟨g4,0,none⟩)] (fun x=> !inB x lo hi) xs:=by
  intro x _ W hW;exact(Fq x g3 g4 lo hi W (Ext.cell_some hW hb3_0) (Ext.cell_some hW hb4_0)).mono fun e W' h=>⟨h.1,h.2▸Ext.refl _⟩
 have Hp:=Lib.hid hp;clear hp;refine(lR 92 _ _ _ _ _ h yF Hp.out).mono ?_;rintro e Wc ⟨rfl,hEc⟩;go_wp2
 go_ret
 exact dB.of rfl (hE.trans hEc)
def iW(n:Nat)(e:Nat→Int):Int×Int:=match(List.range n).find? fun i=>decide (e i≠0) with
 |some i=>((i:Int),e i)
 |none=>(0,0)
theorem sN{n k:Nat}{e:Nat→Int}(hk:k<n)(h0:e k≠0)(hb:∀j,j<k→e j=0):iW n e=((k:Int),e k):=by
 unfold iW;rw[pM (i:=k) hk (by simp[h0]) (fun j hj=>by simp[hb j hj])]
theorem oM{n:Nat}{e:Nat→Int}(hb:∀j,j<n→e j=0):iW n e=(0,0):=by
 unfold iW;rw[Go.Bp.find_none (fun j hj=>by simp[hb j hj])]
def Sf(w:World)(F:FuncId)(cap:Array Value)(e:Nat→Int)(l:List ByteArray):Prop:=
 ∀k(hk:k<l.length),∀W,Ext w W→Calls Tryz.prog F (#[.int .i64 k,.string l[k]]++cap) W (dF W (e k))
set_option maxHeartbeats 1000000 in
theorem Ck(F:FuncId)(cap:Array Value)(e:Nat→Int)(v:Value)(l:List ByteArray)(w:World)(h:Strs w v l)
 (hF:∀(args:Array Value)(W:World),(callFunc F args).run Tryz.prog W=.ok (.enter F args) W)(hp:Sf w F cap e l):
 Calls Tryz.prog 47 #[v,.func (.func F) #[] cap] w (dQ w (iW l.length e).1 (iW l.length e).2):=by
 obtain⟨A,c,rfl,h1,h2,h3,h4⟩:=h;unfold maxLen at h2;clear h3;have Hp:=Lib.hid hp;clear hp;go_enter Tryz.func47,Tryz.ntmps47
 go_wp2
 go_loopw [10] (fun i wr=>Ext w wr∧∃k:Nat,k≤l.length∧i=.int .i64 k∧∀j,j<k→e j=0) (fun i _=>l.length-(intOf i).toNat)
 case atStart=>exact⟨Ext.refl _,0,by omega,rfl,by omega⟩
 case round=>
  obtain⟨hEr,k,hk,rfl,hn⟩:=hrel;have Hn:=Lib.hid hn;clear hn;by_cases hlt:k<l.length
  ·obtain⟨ad,rfl,hc⟩:=h4 (by omega)
   have e1:=(hc.ext hEr).s hlt;have hcall:=Hp.out k hlt wr hEr;have Hcall:=Lib.hid hcall;clear h4 hc hcall;by_cases hpk:e k=0
   ·have Ht:=Lib.hid (eZ (p:=fun j=>e j=0) Hn.out hpk)
    go_wp2_with fail
    refine Hcall.out.mono ?_;rintro e1 W1 ⟨rfl,hE1⟩;replace hEr:=hEr.trans hE1;rw[hpk];go_wp2
    go_roundw
    case rel=>exact⟨hEr,k+1,by omega,by go_num,Ht.out⟩
    case measure=>simp[intOf];omega
   ·have Hr:=Lib.hid (sN hlt hpk Hn.out);have q0:(e k !=0)=true:=by simp[hpk]
    clear hpk;go_wp2_with fail
    refine Hcall.out.mono ?_;rintro e1 W1 ⟨rfl,hE1⟩;replace hEr:=hEr.trans hE1;go_wp2
    go_ret2
    exact dQ.of Hr.out hEr
  ·obtain rfl:k=l.length:=by omega
   have Hr:=Lib.hid (oM Hn.out);go_wp2
   go_ret2
   exact dQ.of Hr.out hEr
end Go.St
end
section
namespace Go.St
open Go Go.Bp Go.RowKit Go.Proofs
theorem Town.stepsTo_len{t:Town}{k:Task}:∀n,(t.stepsTo k n).length≤2*n
 |0=>by simp[Town.stepsTo]
 |n+1=>by
  have ih:=Town.stepsTo_len (t:=t) (k:=k) n;rw[Town.stepsTo,List.length_append];split
  ·simp;omega
  ·split<;>(simp;omega)
end Go.St
end
section
namespace Go.St
open Go Go.Bp Go.RowKit Go.Proofs
def aZ(f:Nat→Int×Int):Nat→List Value
 |0=>[]
 |m+1=>aZ f m++ [.int .i64 (f m).1,.int .i64 (f m).2]
theorem dV(f:Nat→Int×Int):∀m,(aZ f m).length=m*2
 |0=>rfl
 |m+1=>by rw[aZ,List.length_append,dV f m];simp;omega
theorem iR(f:Nat→Int×Int):∀(m s:Nat),s<m→(aZ f m)[s*2]? =some (.int .i64 (f s).1)∧(aZ f m)[s*2+1]? =some (.int .i64 (f s).2)
 |0,s,h=>by omega
 |m+1,s,h=>by
  have hl:=dV f m;by_cases e:s=m
  ·subst e;rw[aZ,List.getElem?_append_right (by omega),List.getElem?_append_right (by omega),hl]
   simp
  ·have ih:=iR f m s (by omega)
   rw[aZ,List.getElem?_append_left (by omega),List.getElem?_append_left (by omega)]
   exact ih
theorem dR{f g:Nat→Int×Int}:∀{m:Nat},(∀s,s<m→f s=g s)→aZ f m=aZ g m
 |0,_=>rfl
 |m+1,h=>by rw[aZ,aZ,dR (fun s hs=>h s (by omega)),h m (by omega)]
theorem lC{f:Nat→Int×Int}{s:Nat}{c:Int×Int}:∀{m:Nat},s<m→aI (aZ f m).toArray (s*2) [.int .i64 c.1,.int .i64 c.2]=(aZ (fun j=>if j=s then c else f j) m).toArray
 |0,h=>by omega
 |m+1,h=>by
  have hl:=dV f m;unfold aI;simp only[List.length_cons,List.length_nil,Nat.zero_add];congr 1
  by_cases e:s=m
  ·subst e;rw[aZ,aZ,dR (f:=fun j=>if j=s then c else f j) (g:=f) (fun j hj=>by simp[show j≠s by omega])]
   have e1:(aZ f s++ [Value.int .i64 (f s).1,.int .i64 (f s).2]).take (s*2)=aZ f s:=by rw[←hl,List.take_left]
   have e2:(aZ f s++ [Value.int .i64 (f s).1,.int .i64 (f s).2]).drop (s*2+(1+1))=[]:=by rw[List.drop_eq_nil_iff];simp;omega
   rw[e1,e2];simp
  ·have ih:=lC (f:=f) (c:=c) (m:=m) (s:=s) (by omega)
   unfold aI at ih;simp only[List.length_cons,List.length_nil,Nat.zero_add] at ih;have ih2:=congrArg Array.toList ih;simp only at ih2;rw[aZ,aZ,←ih2];simp only[show m≠s by omega,if_false]
   rw[List.take_append_of_le_length (by omega),List.drop_append_of_le_length (by omega)]
   simp
structure KT(w:World)(G:Nat)(gs:List Nat)(m:Nat)(f:Nat→Nat→Int×Int):Prop where
 top:Blk w G 131 (gs.map fun g=>Value.slice (some ⟨g,0,none⟩) m m).toArray
 row:∀p(hp:p<gs.length),Blk w gs[p] 130 (aZ (f p) m).toArray
 nd:gs.Nodup
theorem KT.ext{w w':World}{G:Nat}{gs:List Nat}{m:Nat}{f:Nat→Nat→Int×Int}(h:KT w G gs m f)(e:Ext w w'):KT w' G gs m f:=⟨h.top.ext e,fun p hp=>(h.row p hp).ext e,h.nd⟩
section
variable{w:World}{G:Nat}{gs:List Nat}{m:Nat}{f:Nat→Nat→Int×Int}{p s:Nat}
theorem KT.cell(h:KT w G gs m f)(hp:p<gs.length):w.cell? ⟨G,p,none⟩=some (.slice (some ⟨gs[p],0,none⟩) m m):=by
 rw[h.top.cell];simp[hp]
theorem KT.c1(h:KT w G gs m f)(hp:p<gs.length)(hs:s<m):w.cell? ⟨gs[p],s*2,none⟩=some (.int .i64 (f p s).1):=by
 rw[(h.row p hp).cell];simpa using (iR (f p) m s hs).1
theorem KT.c2(h:KT w G gs m f)(hp:p<gs.length)(hs:s<m):w.cell? ⟨gs[p],s*2+1,none⟩=some (.int .i64 (f p s).2):=by
 rw[(h.row p hp).cell];simpa using (iR (f p) m s hs).2
end
end Go.St
end
section
namespace Go.St
open Go Go.Bp Go.RowKit Go.Proofs
section
variable{ops:Array Oper}{Q:Exit→Act→World→Prop}{a:Act}{w:World}{rest:List Oper}
variable{d:Option Tmp}{ty:TypeId}{pos:String}{after:Array Edge}
end
theorem blk_ne{w:World}{g g':Nat}{t t':TypeId}{cs cs':Array Value}(h:Blk w g t cs)(h':Blk w g' t' cs')(hne:t≠t'):g≠g':=by
 rintro rfl;unfold Blk at h h';rw[h] at h';injection h' with h';injection h' with _ h'
 exact hne h'
theorem aD{w0 w W:World}{g:Nat}(h:Ext w0 w)(hg:w.grownBy W (some g))(hB:w0.heap.size≤g):Ext w0 W:=bI h hg hB h.size
theorem KT.put{w W:World}{G:Nat}{gs:List Nat}{m:Nat}{f:Nat→Nat→Int×Int}{p s:Nat}{c:Int×Int}(h:KT w G gs m f)(hp:p<gs.length)(hs:s<m)(hB:Blk W gs[p] 130 (aI (aZ (f p) m).toArray (s*2) [.int .i64 c.1,.int .i64 c.2]))(hg:w.grownBy W (some gs[p])):
 KT W G gs m (fun x y=>if x=p∧y=s then c else f x y):=by
 refine⟨h.top.grown hg (fun e=>blk_ne h.top (h.row p hp) (by decide) (Option.some.inj e)),fun q hq=> ?_,h.nd⟩
 by_cases e:q=p
 ·subst e;rw[lC hs] at hB;have:aZ (fun j=>if j=s then c else f q j) m=aZ (fun y=>if q=q∧y=s then c else f q y) m:=dR (fun j _=>by simp)
  rw[this] at hB;exact hB
 ·have hne:gs[q]≠gs[p]:=fun e2=>e ((List.getElem_inj h.nd).1 e2)
  have:=(h.row q hq).grown hg (fun e=>hne (Option.some.inj e))
  have e3:aZ (fun y=>if q=p∧y=s then c else f q y) m=aZ (f q) m:=dR (fun j _=>by simp[e])
  rw[e3];exact this
theorem KT.congr{w:World}{G:Nat}{gs:List Nat}{m:Nat}{f g:Nat→Nat→Int×Int}(h:KT w G gs m f)(e:∀p s,p<gs.length→s<m→f p s=g p s):KT w G gs m g:=
 ⟨h.top,fun p hp=>by rw[←dR (fun s hs=>e p s hp hs)];exact h.row p hp,h.nd⟩
end Go.St
end
section
namespace Go.St
open Go.Bp
namespace Town
variable{t:Town}{k:Task}
noncomputable def onB(t:Town)(k:Task)(p s m n:Int)(x:Step):Bool:=decide ((t.ends x).1=p)&&decide (cv (via (t.cost k) (t.arcOf k x) s)=(m,n))
theorem uI{p s m n:Int}(hm:0≤m)(x:Step):jA aE (t.cost k) p s (m,n) (t.arcOf k x)=onB t k p s m n x:=by
 unfold jA onB;have e1:(t.arcOf k x).p=(t.ends x).1:=rfl;rw[e1];congr 1
 apply decide_eq_decide.2;unfold via
 cases e:t.cost k (t.arcOf k x).q (aE s (t.arcOf k x).sh) with
 |none=>
  rw[Er];constructor
  ·intro h;cases h
  ·intro h;injection h with h _;omega
 |some c=>
  rw[iQ];constructor
  ·intro h;injection h with h;rw[h];exact Prod.ext (by simp only;omega) (by simp only;omega)
  ·intro h;injection h with h1 h2;congr 1;exact Prod.ext (by simp only;omega) (by simp only;omega)
theorem Nc{α:Type}{f:α→Bool}{l:List α}{a:α}(h:l.find? f=some a):∃(j:Nat)(hj:j<l.length),l[j]=a∧f a=true∧∀i(hi:i<l.length),i<j→f l[i]=false:=by
 rw[List.find?_eq_some_iff_append] at h;obtain⟨hf,l1,l2,rfl,hl⟩:=h;refine⟨l1.length,by simp,by simp,hf,fun i hi hlt=> ?_⟩
 rw[List.getElem_append_left hlt];have:=hl _ (List.getElem_mem hlt);simpa using this
theorem step_on(h:TaskOk t k){p s m:Int}{n:Nat}(hc:t.cost k p s=some (m,((n+1:Nat):Int))):
 ∃(j:Nat)(hj:j<(t.stepsAll k).length),onB t k p s m ((n+1:Nat):Int) (t.stepsAll k)[j]=true∧(∀i(hi:i<(t.stepsAll k).length),i<j→onB t k p s m ((n+1:Nat):Int) (t.stepsAll k)[i]=false)∧
  (t.ends (t.stepsAll k)[j]).1=p∧t.cost k (t.ends (t.stepsAll k)[j]).2 (aE s (t.shownAt k.time (t.stepsAll k)[j]))=some (m-(t.at_ (t.stepsAll k)[j].st).metres,(n:Int))∧
  (cF aE (t.arcs k) (t.cost k) (n+1) p s m).map stepOf=(t.stepsAll k)[j]::(cF aE (t.arcs k) (t.cost k) n (t.ends (t.stepsAll k)[j]).2 (aE s (t.shownAt k.time (t.stepsAll k)[j])) (m-(t.at_ (t.stepsAll k)[j].st).metres)).map stepOf:=by
 have hbd:=cost_bd h hc;have e1:((n+1:Nat):Int)=(n:Int)+1:=by omega
 have hc2:=hc;rw[e1] at hc2;obtain⟨a,h1,h2,h3,h4⟩:=mD (fun s b hs=>gM s b hs) cost_sound (eJ h) (cost_inD hc) hc2 (by simp only;omega)
 simp only at h4;rw[show(n:Int)+1-1=n by omega] at h4
 obtain⟨j,hj,ha,hl,hb⟩:=Nc h1;have hj':j<(t.stepsAll k).length:=by rw[arcs_map,List.length_map] at hj;exact hj
 have hx:∀i(hi:i<(t.stepsAll k).length),(t.arcs k)[i]'(by rw[arcs_map,List.length_map];exact hi)=t.arcOf k (t.stepsAll k)[i]:=fun i hi=>by simp only[arcs_map,List.getElem_map]
 have hax:a=t.arcOf k (t.stepsAll k)[j]:=by rw[←ha];exact hx j hj'
 have hpath:cF aE (t.arcs k) (t.cost k) (n+1) p s m=a::cF aE (t.arcs k) (t.cost k) n a.q (aE s a.sh) (m-a.m):=by
  conv=>lhs;unfold cF
  rw[h1]
 refine⟨j,hj',?_,?_,?_,?_,?_⟩
 ·rw[←uI (by omega),←hax,e1];exact hl
 ·intro i hi hlt;rw[←uI (by omega),←hx i hi,e1]
  exact hb i (by rw[arcs_map,List.length_map];exact hi) hlt
 ·rw[hax] at h3;exact h3
 ·rw[hax] at h4;exact h4
 ·rw[hpath,hax];rfl
theorem cost_end(h:TaskOk t k){p s m:Int}(hc:t.cost k p s=some (m,0)):p=k.b∧s=0∧m=0:=Way.zero (nI h) (cost_sound _ _ _ hc)
theorem bestSteps_eq{m:Int}{n:Nat}(hc:t.cost k k.a k.show_=some (m,(n:Int))):t.bestSteps k=(cF aE (t.arcs k) (t.cost k) n k.a k.show_ m).map stepOf:=by
 unfold bestSteps;rw[hc];simp only[Int.toNat_natCast];rfl
theorem Ap(_:TaskOk t k){p s m:Int}{l:List Arc}(g:Goes aE (t.arcs k) k.b p s m l):t.follow p (l.map stepOf)=(k.b,0):=by
 induction g with
 |nil=>rfl
 | @cons a s m l ha _ ih=>
  have ha2:=ha;rw[arcs_map] at ha2;obtain⟨x,hx,rfl⟩:=List.mem_map.1 ha2;obtain⟨h1,h2,h3⟩:=mem_stepsAll.1 hx;rw[List.map_cons,oT];have he:t.stepErr (t.arcOf k x).p x=0:=by
   unfold stepErr;rw[if_neg (by simp[h1]),if_neg (by rintro⟨e1,e2⟩;rw[h3 e1] at e2;cases e2),if_neg (by simp[arcOf])]
  unfold follow;rw[if_neg (by simp[he])]
  exact ih
theorem xH(h:TaskOk t k){m:Int}{n:Nat}(hc:t.cost k k.a k.show_=some (m,(n:Int))):Goes aE (t.arcs k) k.b k.a k.show_ m (cF aE (t.arcs k) (t.cost k) n k.a k.show_ m)∧(t.bestSteps k).length=n:=by
 have:=rF (nI h) (fun s b hs=>gM s b hs) cost_sound (eJ h) n k.a k.show_ m (cost_inD hc) hc
 refine⟨this.1,?_⟩;rw[bestSteps_eq hc,List.length_map];exact this.2
theorem best_steps(h:TaskOk t k){c:Int×Int}(hc:t.cost k k.a k.show_=some c):t.stepsErr k.a (t.bestSteps k)=(k.b,0):=by
 have hb:=cost_bd h hc;have hc2:t.cost k k.a k.show_=some (c.1,((c.2.toNat:Nat):Int)):=by rw[hc];congr 1;exact Prod.ext rfl (by simp only;omega)
 obtain⟨hg,hl⟩:=xH h hc2;unfold stepsErr;rw[if_neg (by omega),bestSteps_eq hc2]
 exact Ap h hg
end Town
end Go.St
end
section
namespace Go.St
open Go Go.Bp Go.RowKit Go.Proofs
theorem Town.findAns_e{t:Town}{k:Task}(h:t.taskErr k≠0):t.findAns k=(⟨[],0,0,0,0⟩,t.taskErr k):=by unfold Town.findAns;rw[if_pos h]
theorem Town.findAns_9{t:Town}{k:Task}(h:t.taskErr k=0)(h2:t.cost k k.a k.show_=none):t.findAns k=(⟨[],0,0,0,0⟩,9):=by unfold Town.findAns;rw[if_neg (by simp[h]),if_pos h2]
theorem Town.findAns_0{t:Town}{k:Task}{c:Int×Int}(h:t.taskErr k=0)(h2:t.cost k k.a k.show_=some c):t.findAns k=(t.tourOf k.time (t.bestSteps k),0):=by unfold Town.findAns;rw[if_neg (by simp[h]),if_neg (by simp[h2])]
theorem lH{S:World→Prop}{s:Act}{gd:Option (Tmp×Bool)}{d:Option Tmp}{ty ty' t t0 t1:TypeId}{pos:String}{after:Array Edge}{x y:Operand}{a b a' b':Int}{r:Bool}(h:Pair2 t (.int .i64) t0 t1)(hd:decide (a=a'∧b=b')=r)(hx:s.eval x=.agg #[.int .i64 a,.int .i64 b])(hy:s.eval y=.agg #[.int .i64 a',.int .i64 b']):
 ∀W,S W→(execOp s.eval (⟨d,.binOp .eql t x y ty',ty,pos,after,gd⟩:Oper)).run Tryz.prog W=.ok (.value (.bool r)) W:=by
 intro W _;subst hd;exact yE .eql _ _ hx hy (zL W x y a b a' b' h)
end Go.St
end
section
namespace Go.St
open Go.Bp
namespace Town
variable(t:Town)(k:Task)
noncomputable def rowTo(p:Nat)(j:Nat):List Int:=(List.range j).map fun s:Nat=>(cv (t.cost k (p:Int) (s:Int))).1
noncomputable def tabTo(n:Nat):List (List Int):=(List.range n).map fun p=>t.rowTo k p (2^t.shows.length)
theorem tabTo_succ(n:Nat):t.tabTo k (n+1)=t.tabTo k n++ [t.rowTo k n (2^t.shows.length)]:=by unfold tabTo;rw[List.range_succ,List.map_append];rfl
theorem rowTo_len(p j:Nat):(t.rowTo k p j).length=j:=by simp[rowTo]
theorem tabTo_len(n:Nat):(t.tabTo k n).length=n:=by simp[tabTo]
theorem sI{T:Tab}(p s:Int):dT T p s=(cv (T p s)).1:=by unfold dT;cases T p s<;>rfl
theorem tableAns_0{t:Town}{k:Task}(h:t.taskErr k=0):t.tableAns k=(t.tabTo k t.places.length,0):=by
 unfold tableAns tabTo rowTo;rw[if_neg (by simp[h])]
 simp only[sI]
theorem tableAns_e{t:Town}{k:Task}(h:t.taskErr k≠0):t.tableAns k=([],t.taskErr k):=by unfold tableAns;rw[if_pos h]
end Town
def eP(rows:List (List Int))(p s:Int):Int:=(rows.getD p.toNat []).getD s.toNat 0
theorem gJ{rows:List (List Int)}{p s:Nat}(hp:p<rows.length)(hs:s<rows[p].length):eP rows (p:Int) (s:Int)=rows[p][s]:=by
 unfold eP;simp[List.getD,hp,hs]
namespace Town
variable(t:Town)(k:Task)
def okAt(rows:List (List Int))(n:Int)(x:Step):Prop:=
 0≤eP rows (t.ends x).2 (aE n (t.shownAt k.time x))→0≤eP rows (t.ends x).1 n∧eP rows (t.ends x).1 n≤eP rows (t.ends x).2 (aE n (t.shownAt k.time x))+(t.at_ x.st).metres
def ProvesP(rows:List (List Int)):Prop:=eP rows k.b 0=0∧∀x∈t.stepsAll k,∀n:Nat,(n:Int)≤k.show_→aE (n:Int) k.show_=0→t.okAt k rows n x
open Classical in
noncomputable def provesAns(rows:List (List Int)):Bool×Int:=
 if t.taskErr k≠0 then(false,t.taskErr k)
 else if rows.length≠t.places.length∨(rows.all fun r=>decide (r.length=2^t.shows.length))=false then(false,3)
 else if(rows.all fun r=>r.all fun n=>inB n (-1) 20000000)=false then(false,7)
 else(decide (t.ProvesP k rows),0)
variable{t k}
theorem provesAns_e{rows:List (List Int)}(h:t.taskErr k≠0):t.provesAns k rows=(false,t.taskErr k):=by unfold provesAns;rw[if_pos h]
theorem provesAns_3{rows:List (List Int)}(h:t.taskErr k=0)(h2:rows.length≠t.places.length∨(rows.all fun r=>decide (r.length=2^t.shows.length))=false):t.provesAns k rows=(false,3):=by unfold provesAns;rw[if_neg (by simp[h]),if_pos h2]
theorem provesAns_7{rows:List (List Int)}(h:t.taskErr k=0)(h1:rows.length=t.places.length)(h2:∀r∈rows,r.length=2^t.shows.length)(h3:(rows.all fun r=>r.all fun n=>inB n (-1) 20000000)=false):t.provesAns k rows=(false,7):=by
 unfold provesAns;rw[if_neg (by simp[h]),if_neg (by simp only[not_or,ne_eq,Classical.not_not,Bool.not_eq_false,List.all_eq_true,decide_eq_true_eq];exact⟨h1,h2⟩),if_pos h3]
theorem provesAns_0{rows:List (List Int)}{b:Bool}(h:t.taskErr k=0)(h1:rows.length=t.places.length)(h2:∀r∈rows,r.length=2^t.shows.length)(h3:∀r∈rows,∀n∈r,inB n (-1) 20000000=true)(hb:b=true↔t.ProvesP k rows):t.provesAns k rows=(b,0):=by
 unfold provesAns;rw[if_neg (by simp[h]),if_neg (by simp only[not_or,ne_eq,Classical.not_not,Bool.not_eq_false,List.all_eq_true,decide_eq_true_eq];exact⟨h1,h2⟩),if_neg (by simp only[Bool.not_eq_false,List.all_eq_true];exact h3)]
 congr 1
 by_cases e:t.ProvesP k rows
 ·rw[hb.2 e];simp[e]
 ·cases b with
  |true=>exact absurd (hb.1 rfl) e
  |false=>simp[e]
end Town
end Go.St
end
section
namespace Go.St
open Go Go.Bp Go.RowKit Go.Proofs
def Rows(w:World)(v:Value)(rows:List (List Int)):Prop:=∃vs:List Value,vs.length=rows.length∧Sl w 1 v rows.length vs∧∀i(h:i<vs.length)(h':i<rows.length),bG w vs[i] rows[i]
theorem Rows.ext{w w':World}{v:Value}{rows:List (List Int)}(h:Rows w v rows)(e:Ext w w'):Rows w' v rows:=by
 obtain⟨vs,h1,h2,h3⟩:=h;exact⟨vs,h1,h2.ext e,fun i hi hi'=>(h3 i hi hi').ext e⟩
def fY(B:Nat)(w:World)(v:Value)(rows:List (List Int)):Prop:=
 ∃vs:List Value,vs.length=rows.length∧w.ownsRow B 41 1 v rows.length vs∧(∀i(h:i<vs.length)(h':i<rows.length),iA B w vs[i] rows[i])∧vs.Pairwise fun a b=>a.ownBlock≠b.ownBlock
theorem fY.ext{B:Nat}{w w':World}{v:Value}{rows:List (List Int)}(h:fY B w v rows)(e:Ext w w'):fY B w' v rows:=by
 obtain⟨vs,h1,h2,h3,h4⟩:=h;exact⟨vs,h1,kJ h2 e,fun i hi hi'=>(h3 i hi hi').ext e,h4⟩
theorem fY.rows{B:Nat}{w:World}{v:Value}{rows:List (List Int)}(h:fY B w v rows):Rows w v rows:=by
 obtain⟨vs,h1,h2,h3,h4⟩:=h;exact⟨vs,h1,Sl.of_own h2,fun i hi hi'=>(h3 i hi hi').ints⟩
theorem fY.nil(B:Nat)(w:World):fY B w (.slice none 0 0) []:=⟨[],rfl,World.ownsRow_nil w B 41 1,fun i h=>by simp at h,List.Pairwise.nil⟩
theorem fY.base{B C:Nat}{w:World}{v:Value}{rows:List (List Int)}(h:fY B w v rows)(hc:C≤B):fY C w v rows:=by
 obtain⟨vs,h1,h2,h3,h4⟩:=h;have key:∀{e:TypeId}{n:Nat}{u:Value}{xs:List Value},w.ownsRow B e 1 u n xs→w.ownsRow C e 1 u n xs:=by
  intro e n u xs h;refine⟨h.1,?_⟩;rcases h.2 with ⟨h1,h2⟩|⟨g,cap,cur,h1,h2,h3⟩
  ·exact .inl ⟨h1,h2⟩
  ·exact .inr ⟨g,cap,cur,h1,by omega,h3⟩
 exact⟨vs,h1,key h2,fun i hi hi'=>key (h3 i hi hi'),h4⟩
theorem Fu{B C:Nat}{w:World}{v:Value}{xs:List Int}(h:iA B w v xs)(hc:C≤B):iA C w v xs:=by
 refine⟨h.1,?_⟩;rcases h.2 with ⟨h1,h2⟩|⟨g,cap,cur,h1,h2,h3⟩
 ·exact .inl ⟨h1,h2⟩
 ·exact .inr ⟨g,cap,cur,h1,by omega,h3⟩
theorem An{w:World}{v:Value}{xs:List Int}(h:bG w v xs):v.cells=#[v]∧v.oneCell'=true:=by obtain⟨A,c,rfl,_⟩:=h;exact⟨rfl,rfl⟩
theorem Pu{w:World}{B:Nat}{e:TypeId}{size n:Nat}{v:Value}{xs:List Value}(h:w.ownsRow B e size v n xs)(hn:n≠0):∃g,v.ownBlock=some g∧B≤g∧g<w.heap.size:=by
 rcases h.2 with ⟨_,h2⟩|⟨g,cap,cur,rfl,hb,hg,_⟩
 ·exact absurd h2 hn
 ·exact⟨g,rfl,hb,(Array.getElem?_eq_some_iff.1 hg).1⟩
section
variable{ops:Array Oper}{Q:Exit→Act→World→Prop}{a:Act}{w:World}{rest:List Oper}
variable{d:Option Tmp}{ty:TypeId}{pos:String}{after:Array Edge}
theorem Oo{x:Operand}{v:Value}(hx:a.eval x=v)(hv:v.cells=#[v])
 (k:∀W g,Ext w W→Blk W g 41 #[v]→w.heap.size≤g→wpList Tryz.prog ops Q rest (a.put d (.slice (some ⟨g,0,none⟩) 1 1)) W):
 wpList Tryz.prog ops Q (⟨d,.buildSlice 47 1 #[(0,x)],ty,pos,after,none⟩::rest) a w:=
 Oq Tryz.underlying47 Rc rfl (by rw[hx];exact hv) (by rw[hx];exact k)
theorem Jn{s x:Operand}{B g:Nat}{w0:World}{v u:Value}{rows:List (List Int)}{r:List Int}(hs:a.eval s=v)(hO:fY B w0 v rows)(h0:Ext w0 w)(hx:a.eval x=.slice (some ⟨g,0,none⟩) 1 1)(hb:Blk w g 41 #[u])(hu:iA w0.heap.size w u r)(hr:r.length≠0)(hlen:rows.length≤1000000)(hB:B≤w0.heap.size)
 (k:∀A' c' W,fY B W (.slice A' (rows.length+1) c') (rows++ [r])→(∀w0,Below B w0 w→Below B w0 W)→wpList Tryz.prog ops Q rest (a.put d (.slice A' (rows.length+1) c')) W):
 wpList Tryz.prog ops Q (⟨d,.call {callee:=.builtin .append,args:=#[s,x],argTypes:=#[47,47]},ty,pos,after,none⟩::rest) a w:=by
 obtain⟨vs,h1,h2,h3,h4⟩:=hO;have hlt:∀x∈vs,∀jj,x.ownBlock=some jj→jj<w0.heap.size:=by
  intro x hx jj hjj;obtain⟨i,hi,rfl⟩:=List.mem_iff_getElem.1 hx;rcases(h3 i hi (by omega)).2 with ⟨e,_⟩|⟨g,cap,cur,e,_,hg,_⟩
  ·rw[e] at hjj;cases hjj
  ·rw[e] at hjj;have:g=jj:=Option.some.inj hjj;subst this;exact(Array.getElem?_eq_some_iff.1 hg).1
 have hB':=hB;replace h2:=kJ h2 h0;replace h3:∀i(h:i<vs.length)(h':i<rows.length),iA B w vs[i] rows[i]:=fun i h h'=>(h3 i h h').ext h0
 replace hB:B≤w.heap.size:=Nat.le_trans hB h0.size;refine qF Tryz.underlying47 Rc rfl (by decide) hs h2 hx (news:=[u]) (fun _=>⟨_,rfl,hb.cells⟩) (by simp) (by intro y hy;simp at hy;subst hy;exact(An hu.ints).2) (by omega) (by unfold maxLen;omega) hB ?_
 intro v' W g1 g2 _;have gu:=Pu hu hr;have hne:∀{y:Value}{ys:List Int}{C:Nat},iA C w y ys→iA C W y ys:=fun{y ys C}hy=>hy.kept g2 (by
  by_cases hq:y.ownBlock=none
  ·exact .inl hq
  ·refine .inr fun e=> ?_
   rcases hy.2 with ⟨rfl,_⟩|⟨gy,cy,cury,rfl,_,hgy,_⟩
   ·exact hq rfl
   ·rcases h2.2 with ⟨rfl,_⟩|⟨gv,cv',curv,rfl,_,hgv,_⟩
    ·cases e
    ·have e2:gy=gv:=Option.some.inj e;subst e2;rw[hgy] at hgv;injection hgv with hgv;injection hgv with _ hgv
     exact absurd hgv (by decide))
 have hu':iA B W u r:=Fu (hne hu) hB';have hrows:fY B W v' (rows++ [r]):=by
  refine⟨vs++ [u],by simp[h1],by rw[List.length_append];exact g1,?_,?_⟩
  ·intro i hi hi';by_cases e:i<vs.length
   ·rw[List.getElem_append_left e,List.getElem_append_left (by omega)]
    exact hne (h3 i e (by omega))
   ·have e2:i=vs.length:=by rw[List.length_append,List.length_singleton] at hi;omega
    subst e2;rw[List.getElem_append_right (Nat.le_refl _),List.getElem_append_right (by omega)]
    simpa [h1] using hu'
  ·rw[List.pairwise_append];refine⟨h4,List.pairwise_singleton _ _,?_⟩;intro x hx y hy e;simp at hy;subst hy;obtain⟨gg,e3,e4,_⟩:=gu;have:=hlt x hx gg (by rw[e,e3])
   omega
 obtain⟨A',c',e,_⟩:=Sl.of_own g1;subst e;exact k A' c' W hrows (fun w0 h0=>nY h0 h2 g2 hB)
end
def Ey(w:World)(rows:List (List Int))(b:Int)(e:Ending)(w':World):Prop:=∃v,e=.returned (.tuple #[v,.int .i64 b])∧fY w.heap.size w' v rows∧Ext w w'
end Go.St
end
section
namespace Go.St
open Go Go.Bp Go.RowKit Go.Proofs
def Bl(w:World)(p:Addr)(r:List Int):Prop:=∃B c,w.cell? p=some (.slice B r.length c)∧r.length≤c∧c≤maxLen∧(0<r.length→∃ad,B=some ad∧cS w ad (gA r))
theorem Bl.ext{w w':World}{p:Addr}{r:List Int}(h:Bl w p r)(e:Ext w w'):Bl w' p r:=by
 obtain⟨B,c,h1,h2,h3,h4⟩:=h;refine⟨B,c,Ext.cell_some e h1,h2,h3,fun hn=> ?_⟩
 obtain⟨ad,h5,h6⟩:=h4 hn;exact⟨ad,h5,h6.ext e⟩
theorem lY{w:World}{v:Value}{rows:List (List Int)}(h:Rows w v rows):∃A c,v=.slice A rows.length c∧rows.length≤c∧c≤maxLen∧(0<rows.length→∃ad,A=some ad∧∀p(hp:p<rows.length),Bl w (ad.add p) rows[p]):=by
 obtain⟨vs,h1,⟨A,c,h2,h3,h4,h5,h6⟩,h7⟩:=h;refine⟨A,c,h2,h3,h4,fun hn=> ?_⟩
 obtain⟨ad,h8,h9⟩:=h6 hn;refine⟨ad,h8,fun p hp=> ?_⟩
 obtain⟨B,c',e,k1,k2,k3,k4⟩:=h7 p (by omega) hp
 refine⟨B,c',?_,k1,k2,k4⟩;rw[←e];exact h9 p _ (List.getElem?_eq_getElem (by omega))
end Go.St
end
section
namespace Go.St
open Go Go.Bp Go.RowKit Go.Proofs
theorem zV:Pair2 82 .bool 3 4 where
 und:=by kernel_rfl
 eqg:=by kernel_rfl
 sto:=by kernel_rfl
 fld:=⟨"Street","Back",by kernel_rfl,by decide,by decide⟩
 u0:=Tryz.underlying3
 u1:=Tryz.underlying4
theorem Jp:Pair2 34 (.int .i64) 3 3 where
 und:=by kernel_rfl
 eqg:=by kernel_rfl
 sto:=by kernel_rfl
 fld:=⟨"Lo","Hi",by kernel_rfl,by decide,by decide⟩
 u0:=Tryz.underlying3
 u1:=Tryz.underlying3
theorem Aj{w:World}{ad:Addr}{xs:List Step}{k:Nat}(h:cS w ad (dJ xs))(hk:k<xs.length):∀W,Ext w W→(loadVar 82 (ad.add (k*2))).run Tryz.prog W=.ok (.agg #[.int .i64 xs[k].st,.bool xs[k].bk]) W:=fun W e=>iM (h.ext e) hk
theorem fV(v u:Value)(xs ys:List Step)(w:World)(h:bY w v xs)(h':bY w u ys):Calls Tryz.prog 34 #[v,u] w (dB w (decide (xs=ys))):=by
 obtain⟨A,c,rfl,h1,h2,h3,h4⟩:=h;obtain⟨A',c',rfl,h1',h2',h3',h4'⟩:=h';unfold maxLen at h2 h2';clear h3 h3';by_cases hl:xs.length=ys.length
 ·have hl1:((xs.length:Int) !=(ys.length:Int))=false:=by simp[hl]
  go_enter Tryz.func34,Tryz.ntmps34
  have Hl:=Lib.hid hl;clear hl;go_wp2
  go_loopw [5] (fun i wr=>Ext w wr∧∃k:Nat,k≤xs.length∧i=.int .i64 k∧xs.take k=ys.take k) (fun i _=>xs.length-(intOf i).toNat)
  case atStart=>exact⟨Ext.refl _,0,by omega,rfl,by simp⟩
  case round=>
   obtain⟨hE,k,hk,rfl,hn⟩:=hrel;have Hn:=Lib.hid hn;clear hn;by_cases hlt:k<xs.length
   ·obtain⟨ad,rfl,hc⟩:=h4 (by omega)
    have hlt':k<ys.length:=by have:=Hl.out;omega
    obtain⟨ad',rfl,hc'⟩:=h4' (by omega)
    have e1:=Aj (hc.ext hE) hlt;have e2:=Aj (hc'.ext hE) hlt';have z1:(k:Int)<(xs.length:Int):=by omega
    have z2:(k:Int)<(ys.length:Int):=by omega
    clear h4 h4' hc hc';by_cases he:xs[k]=ys[k]
    ·have Hd:=Lib.hid (show decide (xs[k].st=ys[k].st∧xs[k].bk=ys[k].bk)= !false by simp[he])
     have Ht:=Lib.hid (show xs.take (k+1)=ys.take (k+1) by rw[cI _ hlt,cI _ hlt',Hn.out,he])
     clear he;go_wp2
     refine wp_region_quiet_lit (by kernel_rfl) (by kernel_rfl) ?_
     repeat(any_goals(first|((with_reducible refine kH (d:=some 20) (hl:=e1) ?_ ?_);rfl)|((with_reducible refine kH (d:=some 24) (hl:=e2) ?_ ?_);rfl)|((with_reducible refine Ed (d:=some 25) (r:=false) zV Hd.out ?_ ?_ ?_);rfl;rfl)|go_big_quiet_step (fail)|quiet_step (fail)))
     refine wpQuiet_nil ?_;intro _ hw';obtain⟨nq,hw''⟩:=hw';subst hw'';go_wp2
     go_roundw
     case rel=>exact⟨hE.drewN _,k+1,by omega,by go_num,Ht.out⟩
     case measure=>simp[intOf];omega
    ·have Hd:=Lib.hid (show decide (xs[k].st=ys[k].st∧xs[k].bk=ys[k].bk)= !true by
      simp only[Bool.not_true,decide_eq_false_iff_not];rintro⟨a,b⟩;exact he (by cases hx:xs[k];cases hy:ys[k];rw[hx,hy] at a b;simp only at a b;rw[a,b]))
     have Hr:=Lib.hid (show decide (xs=ys)=false by simp only[decide_eq_false_iff_not];rintro rfl;exact he rfl)
     clear he;go_wp2
     refine wp_region_quiet_lit (by kernel_rfl) (by kernel_rfl) ?_
     repeat(any_goals(first|((with_reducible refine kH (d:=some 20) (hl:=e1) ?_ ?_);rfl)|((with_reducible refine kH (d:=some 24) (hl:=e2) ?_ ?_);rfl)|((with_reducible refine Ed (d:=some 25) (r:=true) zV Hd.out ?_ ?_ ?_);rfl;rfl)|go_big_quiet_step (fail)|quiet_step (fail)))
     refine wpQuiet_nil ?_;intro _ hw';obtain⟨nq,hw''⟩:=hw';subst hw'';go_wp2
     go_ret
     exact dB.of Hr.out (hE.drewN _)
   ·have hr:decide (xs=ys)=true:=by
     have:=Hn.out;rw[List.take_of_length_le (by omega),List.take_of_length_le (by have:=Hl.out;omega)] at this
     simp[this]
    have Hr:=Lib.hid hr;clear hr h4 h4';go_wp2
    go_ret
    exact dB.of Hr.out hE
 ·have hl1:((xs.length:Int) !=(ys.length:Int))=true:=by rw[bne_iff_ne];omega
  have Hr:=Lib.hid (show decide (xs=ys)=false by simp only[decide_eq_false_iff_not];rintro rfl;exact hl rfl)
  clear hl h4 h4';go_enter Tryz.func34,Tryz.ntmps34
  go_wp2
  go_ret
  exact dB.of Hr.out (Ext.refl _)
theorem sU(v u:Value)(xs ys:List (List Int))(w:World)(h:Rows w v xs)(h':Rows w u ys):Calls Tryz.prog 27 #[v,u] w (dB w (decide (xs=ys))):=by
 obtain⟨vs,e1,⟨A,c,rfl,h1,h2,h3,h4⟩,hI⟩:=h;obtain⟨us,e1',⟨A',c',rfl,h1',h2',h3',h4'⟩,hI'⟩:=h';unfold maxLen at h2 h2';clear h3 h3';by_cases hl:xs.length=ys.length
 ·have hl1:((xs.length:Int) !=(ys.length:Int))=false:=by simp[hl]
  go_enter Tryz.func27,Tryz.ntmps27
  have Hl:=Lib.hid hl;clear hl;go_wp2
  go_loopw [5] (fun i wr=>Ext w wr∧∃k:Nat,k≤xs.length∧i=.int .i64 k∧xs.take k=ys.take k) (fun i _=>xs.length-(intOf i).toNat)
  case atStart=>exact⟨Ext.refl _,0,by omega,rfl,by simp⟩
  case round=>
   obtain⟨hE,k,hk,rfl,hn⟩:=hrel;have Hn:=Lib.hid hn;clear hn;by_cases hlt:k<xs.length
   ·obtain⟨ad,rfl,hc⟩:=h4 (by omega)
    have hlt':k<ys.length:=by have:=Hl.out;omega
    obtain⟨ad',rfl,hc'⟩:=h4' (by omega)
    have g1:=(hI k (by omega) hlt).ext hE
    have g2:=(hI' k (by omega) hlt').ext hE
    have d1:=hE.c (hc k _ (List.getElem?_eq_getElem (show k<vs.length by omega)))
    have d2:=hE.c (hc' k _ (List.getElem?_eq_getElem (show k<us.length by omega)))
    obtain⟨a1,ha1⟩:∃a,vs[k]'(by omega)=a:=⟨_,rfl⟩
    obtain⟨a2,ha2⟩:∃a,us[k]'(by omega)=a:=⟨_,rfl⟩
    rw[ha1] at d1 g1;rw[ha2] at d2 g2;have z1:(k:Int)<(xs.length:Int):=by omega
    have z2:(k:Int)<(ys.length:Int):=by omega
    clear h4 h4' hc hc' ha1 ha2;by_cases he:xs[k]=ys[k]
    ·have q1:decide (xs[k]=ys[k])=true:=by simp[he]
     have Ht:=Lib.hid (show xs.take (k+1)=ys.take (k+1) by rw[cI _ hlt,cI _ hlt',Hn.out,he])
     clear he;go_wp2
     go_region_held3 (fun w'=>w'.cell? (ad.add k)=some (a1)∧w'.cell? (ad'.add k)=some (a2)) (simp[*]) ((first|(go_at_call 37;((with_reducible refine(vH _ _ xs[k] ys[k] _ (by first|exact g1|exact(g1).d) (by first|exact g2|exact(g2).d)).mono ?_);rintro e WcI ⟨rfl,hEcI⟩;(try replace hEcI:=Ext.undrew hEcI);(try replace hE:=hE.trans hEcI);(try replace d1:=hEcI.c d1);(try replace d2:=hEcI.c d2)))))
     go_wp2
     go_roundw
     case rel=>exact⟨hE,k+1,by omega,by go_num,Ht.out⟩
     case measure=>simp[intOf];omega
    ·have q1:decide (xs[k]=ys[k])=false:=by simp[he]
     have Hr:=Lib.hid (show decide (xs=ys)=false by simp only[decide_eq_false_iff_not];rintro rfl;exact he rfl)
     clear he;go_wp2
     go_region_held3 (fun w'=>w'.cell? (ad.add k)=some (a1)∧w'.cell? (ad'.add k)=some (a2)) (simp[*]) ((first|(go_at_call 37;((with_reducible refine(vH _ _ xs[k] ys[k] _ (by first|exact g1|exact(g1).d) (by first|exact g2|exact(g2).d)).mono ?_);rintro e WcI ⟨rfl,hEcI⟩;(try replace hEcI:=Ext.undrew hEcI);(try replace hE:=hE.trans hEcI);(try replace d1:=hEcI.c d1);(try replace d2:=hEcI.c d2)))))
     go_wp2
     go_ret
     exact dB.of Hr.out hE
   ·have hr:decide (xs=ys)=true:=by
     have:=Hn.out;rw[List.take_of_length_le (by omega),List.take_of_length_le (by have:=Hl.out;omega)] at this
     simp[this]
    have Hr:=Lib.hid hr;clear hr h4 h4';go_wp2
    go_ret
    exact dB.of Hr.out hE
 ·have hl1:((xs.length:Int) !=(ys.length:Int))=true:=by rw[bne_iff_ne];omega
  have Hr:=Lib.hid (show decide (xs=ys)=false by simp only[decide_eq_false_iff_not];rintro rfl;exact hl rfl)
  clear hl h4 h4';go_enter Tryz.func27,Tryz.ntmps27
  go_wp2
  go_ret
  exact dB.of Hr.out (Ext.refl _)
end Go.St
end
section
namespace Go.St
open Go Go.Bp Go.RowKit Go.Proofs
theorem vT:∀(args:Array Value)(W:World),(callFunc 48 args).run Tryz.prog W=.ok (.enter 48 args) W:=enters_of Tryz.func48 (by kernel_rfl) rfl
theorem xB(v:Value)(xs:List ByteArray)(s:ByteArray)(w:World)(h:Strs w v xs):Calls Tryz.prog 50 #[v,.string s] w (dB w (decide (s∈xs))):=by
 refine(vV v xs s w h).mono ?_;rintro e w' ⟨rfl,rfl⟩;refine dB.of ?_ (Ext.refl _);rw[Bool.eq_iff_iff];simp
set_option maxHeartbeats 1000000 in
theorem Do(l:List ByteArray)(k g:Nat)(hk:k<l.length)(v:Value)(w:World)(h1:w.cell? ⟨g,0,none⟩=some v)(h:Strs w v l)(hs:l[k].size≤maxLen):
 Calls Tryz.prog 48 #[.int .i64 k,.string l[k],.pointer (some ⟨g,0,none⟩)] w (dF w (dL l k)):=by
 have hTk:∃A c,v=.slice A l.length c∧Strs w (.slice A k c) (l.take k)∧l.length≤c∧c≤maxLen:=by
  obtain⟨A,c,rfl,a1,a2,a3,a4⟩:=h;exact⟨A,c,rfl,wD ⟨A,c,rfl,a1,a2,a3,a4⟩ k (by omega),a1,a2⟩
 obtain⟨A,c,rfl,hT,hc1,hc2⟩:=hTk;unfold maxLen at hc2;clear h;have hE:=Ext.refl w
 cases q1:dM l[k] with
 |false=>
  have Hr:=Lib.hid (qM (l:=l) (i:=k) (by rw[gF hk];exact q1))
  go_enter Tryz.func48,Tryz.ntmps48
  go_wp2_with (first|(go_at_call 49;((with_reducible refine(rP _ _ hs).mono ?_);rintro e Wc1 ⟨rfl,hEc1⟩;(try replace hE:=hE.trans hEc1);rw[q1])))
  go_ret
  exact dF.of Hr.out hE
 |true=>
  have z1:(0:Int)≤(k:Int):=by omega
  have z2:(k:Int)≤(c:Int):=by omega
  by_cases q2:l[k]∈l.take k
  ·have qd:decide (l[k]∈l.take k)=true:=decide_eq_true q2;have Hr:=Lib.hid (oL (l:=l) (i:=k) (by rw[gF hk];exact q1) (by rw[gF hk];exact q2))
   go_enter Tryz.func48,Tryz.ntmps48
   go_wp2_with (first|(go_at_call 49;((with_reducible refine(rP _ _ hs).mono ?_);rintro e Wc2 ⟨rfl,hEc2⟩;(try replace hE:=hE.trans hEc2);(try replace hT:=hT.ext hEc2);(try replace h1:=hEc2.c h1);rw[q1]))|(go_at_call 50;((with_reducible refine(xB _ _ _ _ (by exact hT)).mono ?_);rintro e WcC ⟨rfl,hEcC⟩;(try replace hE:=hE.trans hEcC);rw[qd])))
   go_ret
   exact dF.of Hr.out hE
  ·have qd:decide (l[k]∈l.take k)=false:=decide_eq_false q2;have Hr:=Lib.hid (uG (l:=l) (i:=k) (by rw[gF hk];exact q1) (by rw[gF hk];exact q2))
   go_enter Tryz.func48,Tryz.ntmps48
   go_wp2_with (first|(go_at_call 49;((with_reducible refine(rP _ _ hs).mono ?_);rintro e Wc4 ⟨rfl,hEc4⟩;(try replace hE:=hE.trans hEc4);(try replace hT:=hT.ext hEc4);(try replace h1:=hEc4.c h1);rw[q1]))|(go_at_call 50;((with_reducible refine(xB _ _ _ _ (by exact hT)).mono ?_);rintro e WcC ⟨rfl,hEcC⟩;(try replace hE:=hE.trans hEcC);rw[qd])))
   go_ret
   exact dF.of Hr.out hE
theorem uJ{w:World}{g:Nat}{a b c d e f h:Value}(hB:Blk w g 87 #[a,b,c,d,e,f,h]):(loadVar 87 ⟨g,0,none⟩).run Tryz.prog w=.ok (.agg #[a,b,c,d,e,f,h]) w:=kZ Tryz.underlying87 fT hB rfl
def Tp(w:World)(F:FuncId)(bound:Array Value)(e:Nat→Int)(xs:List Street):Prop:=
 ∀k(hk:k<xs.length),∀sv W,Ext w W→iS W sv xs[k]→Calls Tryz.prog F (bound++#[.int .i64 k,sv]) W (dF W (e k))
set_option maxHeartbeats 1000000 in
theorem Cj(F:FuncId)(bound:Array Value)(e:Nat→Int)(v:Value)(xs:List Street)(w:World)(h:gY w v xs)
 (hF:∀(args:Array Value)(W:World),(callFunc F args).run Tryz.prog W=.ok (.enter F args) W)(hp:Tp w F bound e xs):
 Calls Tryz.prog 51 #[v,.func (.func F) bound #[]] w (dQ w (iW xs.length e).1 (iW xs.length e).2):=by
 obtain⟨A,c,rfl,h1,h2,h4⟩:=h;unfold maxLen at h2;have Hp:=Lib.hid hp;clear hp;go_enter Tryz.func51,Tryz.ntmps51
 go_wp2
 go_loopw [10] (fun i wr=>Ext w wr∧∃k:Nat,k≤xs.length∧i=.int .i64 k∧∀j,j<k→e j=0) (fun i _=>xs.length-(intOf i).toNat)
 case atStart=>exact⟨Ext.refl _,0,by omega,rfl,by omega⟩
 case round=>
  obtain⟨hEr,k,hk,rfl,hn⟩:=hrel;have Hn:=Lib.hid hn;clear hn;by_cases hlt:k<xs.length
  ·obtain⟨ad,rfl,hc⟩:=h4 (by omega)
   obtain⟨sv,hs⟩:=hc k hlt;have Hcall:=Lib.hid (fun sv W hW hS=>Hp.out k hlt sv W (hEr.trans hW) hS)
   obtain⟨s,hst⟩:∃s,xs[k]=s:=⟨_,rfl⟩;rw[hst] at hs Hcall;clear hst;replace hs:=hs.ext hEr;obtain⟨hs1,As,cs,rfl,hs2⟩:=hs;replace hs1:gB wr _ s _:=⟨hs1,As,cs,rfl,hs2⟩;replace hs2:bG wr (.slice As s.shows.length cs) s.shows:=⟨As,cs,rfl,hs2⟩;have hE:=Ext.refl wr;have z1:(k:Int)<(xs.length:Int):=by omega
   clear h4 hc;by_cases hpk:e k=0
   ·have Ht:=Lib.hid (eZ (p:=fun j=>e j=0) Hn.out hpk)
    go_wp2_with (first|(((with_reducible refine aC (d:=some 14) (hl:=eA hs1) ?_ ?_);rfl))|((with_reducible refine aS (d:=some 7) sY ?_);intro W7 g7 hE7 hB7 hg7;have hg70:=Nat.le_trans hE.size hg7;simp[Value.cells] at hB7;(try replace hE:=hE.trans hE7))|(((with_reducible refine aK (t:=87) (e:=87) (g:=g7) (off:=0) (n:=7) (v:=.agg #[.int .i64 s.a,.int .i64 s.b,.int .i64 s.metres,.int .i64 s.lo,.int .i64 s.hi,.bool s.both,.slice As s.shows.length cs]) ?_ ?_ hB7 fT ?_ ?_ ?_ ?_);rfl;rfl;rfl;(simp[Value.cells]);(simp[Value.cells,Value.oneCell']);intro Ws hBs hgrs;simp[aI,Value.cells] at hBs;replace hE:=aD hE hgrs hg70))|(((with_reducible refine aC (d:=some 17) (hl:=uJ hBs) ?_ ?_);rfl)))
    refine(Hcall.out _ _ hE ⟨_,rfl,hs2.ext hE⟩).mono ?_;rintro e1 W1 ⟨rfl,hE1⟩;replace hE:=hE.trans hE1;rw[hpk];go_wp2
    go_roundw
    case rel=>exact⟨hEr.trans hE,k+1,by omega,by go_num,Ht.out⟩
    case measure=>simp[intOf];omega
   ·have Hr:=Lib.hid (sN hlt hpk Hn.out);have q0:(e k !=0)=true:=by simp[hpk]
    clear hpk;go_wp2_with (first|(((with_reducible refine aC (d:=some 14) (hl:=eA hs1) ?_ ?_);rfl))|((with_reducible refine aS (d:=some 7) sY ?_);intro W7 g7 hE7 hB7 hg7;have hg70:=Nat.le_trans hE.size hg7;simp[Value.cells] at hB7;(try replace hE:=hE.trans hE7))|(((with_reducible refine aK (t:=87) (e:=87) (g:=g7) (off:=0) (n:=7) (v:=.agg #[.int .i64 s.a,.int .i64 s.b,.int .i64 s.metres,.int .i64 s.lo,.int .i64 s.hi,.bool s.both,.slice As s.shows.length cs]) ?_ ?_ hB7 fT ?_ ?_ ?_ ?_);rfl;rfl;rfl;(simp[Value.cells]);(simp[Value.cells,Value.oneCell']);intro Ws hBs hgrs;simp[aI,Value.cells] at hBs;replace hE:=aD hE hgrs hg70))|(((with_reducible refine aC (d:=some 17) (hl:=uJ hBs) ?_ ?_);rfl)))
    refine(Hcall.out _ _ hE ⟨_,rfl,hs2.ext hE⟩).mono ?_;rintro e1 W1 ⟨rfl,hE1⟩;replace hE:=hE.trans hE1;go_wp2
    go_ret2
    exact dQ.of Hr.out (hEr.trans hE)
  ·obtain rfl:k=xs.length:=by omega
   have Hr:=Lib.hid (oM Hn.out);go_wp2
   go_ret2
   exact dQ.of Hr.out hEr
end Go.St
end
