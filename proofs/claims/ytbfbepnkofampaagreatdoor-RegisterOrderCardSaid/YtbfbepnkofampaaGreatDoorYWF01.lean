/- Chapter 11: contracts of functions of the program and of the reference, and plain laws (out of NC RgC Tx RgN RgO RgP RgQ RgR NB RgT). No condition of its own. -/
import Derived.Test.YtbfbepnkofampaaGreatDoorYP19
import Derived.Test.YtbfbepnkofampaaGreatDoorYWAF01
import Derived.Test.YtbfbepnkofampaaGreatDoorYWDF01
set_option maxRecDepth 100000
set_option linter.all false
section
namespace Go.Walk
open Go Go.Bp Go.RowKit
section
variable{α:Type}[Enc α]{l m:List α}{x:α}{W a b B:World}{v:Value}{n c k s:Nat}{A0:Option Addr}{e:TypeId}
end
section
variable{a W B:World}{g n m c0 c1 size k c:Nat}{t e:TypeId}{l cs:List Value}{v:Value}{P:Program}
variable{ops:Array Oper}{Q:Exit→Act→World→Prop}{A:Act}{rest:List Oper}
variable{d:Option Tmp}{ty:TypeId}{pos:String}{after:Array Edge}{x y:Operand}{z:List Value}{A0 A1:Option Addr}
theorem run_from{gd:Option (Tmp×Bool)}{sz:Nat}[st:SlT P t e][q:ZeroT P e z](h:A.eval x=.slice A0 n c∧A.eval y=.int .i64 (k:Int)∧k≤n∧n≤c∧z.length=sz∧v=.slice (partAt A0 c k sz) (n-k) (c-k):=by refine⟨by with_unfolding_all rfl,by with_unfolding_all rfl,by omega,by omega,by(simp;with_unfolding_all rfl),by with_unfolding_all rfl⟩):
 (execOp A.eval (⟨d,.slice t x (some y) none none,ty,pos,after,gd⟩:Oper)).run P W=.ok (.value v) W:=by
 obtain⟨h1,h2,h3,h4,rfl,rfl⟩:=h;obtain⟨i,hi,hs⟩:=size_t q;have hb:(Instr.sliceBound (.int .i64 (k:Int)) n .sliceB).run P W=.ok k W:=by rw[run_sliceBound _ _ _ _ _ (by omega) (by omega)];simp
 simp[execOp,h1,h2,Instr.sliceAt,run_underlying st.h,Instr.slice,Instr.sliceBounds,hb,sizeOf,typeInfo,hi,hs,Result.andThen,partAt]
end
end Go.Walk
end
section
namespace Go.Rg
open Go.Bp
theorem day_date{day:Int}(h0:0≤day)(h:day≤40000):dayOf (dateOf day).year (dateOf day).month (dateOf day).day=(day,0):=by
 obtain⟨v,v2,v3⟩:=date_ok h0 h;rw[day_of v.hm v.hd,if_neg (by rw[inB_t.2 (by have:=v.hy;omega)];simp),v3,if_neg (by omega)]
end Go.Rg
end
section
namespace Go.Bp
open Go.RowKit
theorem S_inj{a b:List UInt8}(h:S a=S b):a=b:=by have:=congrArg (fun s=>s.data.toList) h;simpa [S_list] using this
def numOf(s:ByteArray):Int:=if inB s.size 1 3=true∧s.data.toList.all isDig=true then numTo s s.size else -1
def cutAt(b:UInt8):List UInt8→List (List UInt8)
 | []=>[[]]
 |x::l=>if x=b then []::cutAt b l else match cutAt b l with| []=>[[x]]|p::ps=>(x::p)::ps
theorem cutAt_none{b:UInt8}:∀{l:List UInt8},b∉l→cutAt b l=[l]
 | [],_=>rfl
 |x::l,h=>by
  have h1:x≠b:=fun e=>h (by simp[e])
  have h2:=cutAt_none (l:=l) (fun e=>h (List.mem_cons_of_mem _ e))
  rw[cutAt,if_neg h1,h2]
theorem cutAt_app{b:UInt8}:∀{p:List UInt8}(r:List UInt8),b∉p→cutAt b (p++b::r)=p::cutAt b r
 | [],r,_=>by rw[List.nil_append,cutAt,if_pos rfl]
 |x::p,r,h=>by
  have h1:x≠b:=fun e=>h (by simp[e])
  have h2:=cutAt_app (p:=p) r (fun e=>h (List.mem_cons_of_mem _ e))
  rw[List.cons_append,cutAt,if_neg h1,h2]
theorem cutAt_flat{b:UInt8}:∀(ps:List (List UInt8)),(∀p∈ps,b∉p)→cutAt b (ps.flatMap fun q=>q++ [b])=ps++ [[]]
 | [],_=>rfl
 |p::ps,h=>by
  rw[List.flatMap_cons,List.append_assoc,List.singleton_append,cutAt_app _ (h p (by simp)),cutAt_flat ps (fun q hq=>h q (by simp[hq]))]
  rfl
def numL(l:List UInt8):Option Int:=match Lib.atoiAll l with| .ok v=>if Lib.itoa v=l then some v else none|_=>none
def digOk(n:Nat):Bool:=(match Lib.atoiAll (digits n) with| .ok v=>decide (v=n)|_=>false)&&decide (numOf (S (digits n))=n)&&(digits n).all fun b=>inB b.toNat 48 57
theorem digOk_all:(List.range 1000).all digOk=true:=by decide +kernel
theorem digOk_at{n:Nat}(h:n<1000):Lib.atoiAll (digits n)=.ok (n:Int)∧numOf (S (digits n))=n∧∀b∈digits n,48≤b.toNat∧b.toNat≤57:=by
 have:=List.all_eq_true.1 digOk_all n (List.mem_range.2 h);unfold digOk at this;simp only[Bool.and_eq_true,decide_eq_true_eq,List.all_eq_true] at this;obtain⟨⟨h1,h2⟩,h3⟩:=this;refine⟨?_,h2,fun b hb=>by have:=inB_t.1 (h3 b hb);omega⟩
 split at h1
 ·rename_i v hv;rw[hv];simp at h1;rw[h1]
 ·cases h1
theorem name_no{s:ByteArray}(h:isName s=true){b:UInt8}(hb:b.toNat<48):b∉s.data.toList:=by
 intro hm;unfold isName at h;simp only[Bool.and_eq_true,List.all_eq_true] at h;have:=h.2 b hm;unfold nameCh at this;simp only[Bool.or_eq_true] at this;rcases this with h3|h3<;>(have:=inB_t.1 h3;omega)
end Go.Bp
end
section
namespace Go.Rg
open Go.Bp
namespace Sys
variable(s:Sys)
def clsIdx(p:List UInt8):Int:=idxP (fun c:Cls=>decide (c.name=S p)) s.classes
def codeIdx(p:List UInt8):Int:=idxP (fun n=>decide (S p=n)) s.codes
def codesP:List (List UInt8)→Int→Nat→Option Nat
 | [],_,acc=>some acc
 |p::ps,last,acc=>if s.codeIdx p>last then codesP ps (s.codeIdx p) (acc|||2^(s.codeIdx p).toNat) else none
def rightP(w:List UInt8):Option Right:=match cutAt 46 w with
 | []=>none
 |p::ps=>(s.codesP ps (-1) 0).bind fun k=>if 0≤s.clsIdx p then some ⟨s.clsIdx p,(k:Int)⟩ else none
def rightsP(ws:List (List UInt8)):Option (List Right):=if(ws.map s.rightP).all (·.isSome)=true∧ws.length≤40 then some ((ws.map s.rightP).filterMap id) else none
def readAns(t:List UInt8):List Right×Int:=
 if s.check.2.2≠0 then([],s.check.2.2) else if 7000<t.length then([],3) else if t=[45] then([],0)
 else match s.rightsP (cutAt 32 t) with|some l=>(l,0)|none=>([],6)
def lastIdx(p:List UInt8):Nat→Int
 |0=> -1
 |n+1=>if(s.at_ n).name=S p then(n:Int) else lastIdx p n
def codesR:List (List UInt8)→Nat→Option Nat
 | [],acc=>some acc
 |p::ps,acc=>if 0≤s.codeIdx p∧acc.testBit (s.codeIdx p).toNat=false then codesR ps (acc+2^(s.codeIdx p).toNat) else none
def rightR(w:List UInt8):Option Right:=match cutAt 46 w with
 | []=>none
 |p::ps=>(s.codesR ps 0).bind fun k=>if 0≤s.lastIdx p s.classes.length then some ⟨s.lastIdx p s.classes.length,(k:Int)⟩ else none
def rightsR(ws:List (List UInt8)):Option (List Right):=if(ws.map s.rightR).all (·.isSome)=true∧ws.length≤40 then some ((ws.map s.rightR).filterMap id) else none
def readR(t:List UInt8):List Right×Int:=
 if s.check.2.2≠0 then([],s.check.2.2) else if 7000<t.length then([],3) else if t=[45] then([],0)
 else match s.rightsR (cutAt 32 t) with|some l=>if s.rightsL l=t then(l,0) else([],6)|none=>([],6)
variable{s}
theorem Ok.name_no(h:s.Ok){i:Int}(hi:0≤i∧i<s.classes.length){b:UInt8}(hb:b.toNat<48):b∉s.nameL i:=Go.Bp.name_no (h.name hi) hb
theorem Ok.code_no(h:s.Ok){k:Nat}(hk:k<s.codes.length){b:UInt8}(hb:b.toNat<48):b∉s.codeL k:=Go.Bp.name_no (nameErr_0 (h.code k hk)).1 hb
theorem clsErr_5{i:Nat}{c:Cls}(h:s.clsErr i c=0):∀x∈s.classes.take i,x.name≠c.name:=by
 unfold clsErr at h;split at h;·simp at h
 split at h;·simp at h
 rename_i h2;intro x hx e;exact h2 (List.any_eq_true.2 ⟨x,hx,by simpa using e⟩)
theorem clsIdx_at(h:s.Ok){i:Int}(hi:0≤i∧i<s.classes.length):s.clsIdx (s.nameL i)=i:=by
 have hn:i.toNat<s.classes.length:=by omega
 have e:s.at_ i=s.classes[i.toNat]:=by unfold at_;simp[List.getD,hn]
 have eS:S (s.nameL i)=s.classes[i.toNat].name:=by unfold nameL;rw[S_data,e]
 unfold clsIdx;rw[idxP_at hn (by simp[eS]) (fun x hx=>by
  have:=clsErr_5 (h.cls _ hn) x hx;simpa [eS] using this)]
 omega
theorem lastIdx_at(h:s.Ok){i:Int}(hi:0≤i∧i<s.classes.length):s.lastIdx (s.nameL i) s.classes.length=i:=by
 have hn:i.toNat<s.classes.length:=by omega
 have eS:S (s.nameL i)=(s.at_ i).name:=by unfold nameL;rw[S_data]
 have ei:s.at_ i=s.classes[i.toNat]:=by unfold at_;simp[List.getD,hn]
 have key:∀n,i.toNat<n→n≤s.classes.length→s.lastIdx (s.nameL i) n=i:=by
  intro n;induction n with
  |zero=>intro h1;omega
  |succ n ih=>
   intro h1 h2;unfold lastIdx;rw[eS];by_cases e:n=i.toNat
   ·rw[if_pos (by rw[e,show((i.toNat:Nat):Int)=i by omega])];omega
   ·have hn2:n<s.classes.length:=by omega
    rw[if_neg,ih (by omega) (by omega)]
    rw[at_eq hn2,ei];intro e2;have:=clsErr_5 (h.cls n hn2) s.classes[i.toNat] (by
     rw[List.mem_take_iff_getElem];exact⟨i.toNat,by omega,rfl⟩)
    exact this e2.symm
 exact key _ hn (Nat.le_refl _)
theorem codeIdx_at(h:s.Ok){k:Nat}(hk:k<s.codes.length):s.codeIdx (s.codeL k)=k:=by
 have e:s.codes.getD k ByteArray.empty=s.codes[k]:=by simp[List.getD,hk]
 have eS:S (s.codeL k)=s.codes[k]:=by unfold codeL;rw[S_data,e]
 unfold codeIdx;refine idxP_at hk (by simp[eS]) fun x hx=> ?_
 have:=(nameErr_0 (h.code k hk)).2;rw[e] at this;rw[eS,decide_eq_false_iff_not];intro e2;rw[e2] at this;exact this hx
theorem cut_word(h:s.Ok):∀(ks:List Nat)(p:List UInt8),46∉p→(∀k∈ks,k<s.codes.length)→cutAt 46 (p++ks.flatMap fun k=>46::s.codeL k)=p::ks.map s.codeL
 | [],p,hp,_=>by simp[cutAt_none hp]
 |k::ks,p,hp,hk=>by
  rw[List.flatMap_cons,List.cons_append,cutAt_app _ hp,cut_word h ks _ (h.code_no (hk k (by simp)) (by decide)) (fun x hx=>hk x (by simp[hx]))]
  rfl
theorem fold_bits:∀(ks:List Nat)(acc j:Nat),(ks.foldl (fun a k=>a|||2^k) acc).testBit j=(acc.testBit j||decide (j∈ks))
 | [],acc,j=>by simp
 |k::ks,acc,j=>by
  rw[List.foldl_cons,fold_bits ks,Nat.testBit_or,Nat.testBit_two_pow];simp only[List.mem_cons];by_cases e:k=j
  ·subst e;simp
  ·have e2:¬j=k:=fun h=>e h.symm
   simp[e,e2]
theorem codes_back{r:Right}(hc:0≤r.codes∧r.codes<s.sets):(((s.codesOf r).foldl (fun a k=>a|||2^k) 0:Nat):Int)=r.codes:=by
 have h1:r.codes.toNat<2^s.codes.length:=by have:=hc.2;rw[sets_nat] at this;omega
 have:(s.codesOf r).foldl (fun a k=>a|||2^k) 0=r.codes.toNat:=by
  apply Nat.eq_of_testBit_eq;intro j;rw[fold_bits,Nat.zero_testBit,Bool.false_or];unfold codesOf;by_cases hj:j<s.codes.length
  ·simp[List.mem_filter,hj]
  ·rw[Nat.testBit_lt_two_pow (Nat.lt_of_lt_of_le h1 (Nat.pow_le_pow_right (by omega) (by omega)))]
   simp[List.mem_filter,hj]
 rw[this];omega
theorem codesOf_sorted(r:Right):(s.codesOf r).Pairwise (· < ·):=(range_lt _).filter _
theorem codesP_at(h:s.Ok):∀(ks:List Nat)(last:Int)(acc:Nat),ks.Pairwise (· < ·)→(∀k∈ks,k<s.codes.length∧last<k)→s.codesP (ks.map s.codeL) last acc=some (ks.foldl (fun a k=>a|||2^k) acc)
 | [],_,_,_,_=>rfl
 |k::ks,last,acc,hp,hk=>by
  rw[List.pairwise_cons] at hp;have h1:=hk k (by simp)
  rw[List.map_cons,codesP,codeIdx_at h h1.1,if_pos h1.2,codesP_at h ks _ _ hp.2 (fun x hx=>⟨(hk x (by simp[hx])).1,by have:=hp.1 x hx;omega⟩)]
  rfl
theorem codesR_at(h:s.Ok):∀(ks:List Nat)(acc:Nat),ks.Pairwise (· < ·)→(∀k∈ks,k<s.codes.length∧acc<2^k)→s.codesR (ks.map s.codeL) acc=some (ks.foldl (fun a k=>a|||2^k) acc)
 | [],_,_,_=>rfl
 |k::ks,acc,hp,hk=>by
  rw[List.pairwise_cons] at hp;have h1:=hk k (by simp)
  have e:acc+2^k=acc|||2^k:=by have:=Nat.two_pow_add_eq_or_of_lt h1.2 1;rw[Nat.mul_one] at this;rw[Nat.or_comm,←this];omega
  rw[List.map_cons,codesR,codeIdx_at h h1.1,if_pos ⟨by omega,by rw[Int.toNat_natCast];exact Nat.testBit_lt_two_pow h1.2⟩,Int.toNat_natCast,e,codesR_at h ks _ hp.2 (fun x hx=>⟨(hk x (by simp[hx])).1,?_⟩)]
  ·rfl
  ·have:=hp.1 x hx;have h2:acc|||2^k<2^(k+1):=Nat.or_lt_two_pow (Nat.lt_of_lt_of_le h1.2 (Nat.pow_le_pow_right (by omega) (by omega))) (Nat.pow_lt_pow_right (by omega) (by omega))
   exact Nat.lt_of_lt_of_le h2 (Nat.pow_le_pow_right (by omega) (by omega))
theorem word_read(h:s.Ok){r:Right}(hr:s.rightErr r=0):s.rightP (s.wordL r)=some r∧s.rightR (s.wordL r)=some r:=by
 obtain⟨h1,h2⟩:=right_0 hr;have hc:=inB_t.1 h1;have hk:=inB_t.1 h2;have hi:0≤r.cls∧r.cls<s.classes.length:=by omega
 have hcut:cutAt 46 (s.wordL r)=s.nameL r.cls::(s.codesOf r).map s.codeL:=cut_word h _ _ (h.name_no hi (by decide)) (codesOf_lt r)
 have hb:=codes_back (s:=s) (r:=r) (by omega)
 constructor
 ·unfold rightP;rw[hcut];simp only;rw[codesP_at h _ _ _ (codesOf_sorted r) (fun k hk=>⟨codesOf_lt r k hk,by omega⟩),clsIdx_at h hi]
  simp only[Option.bind_some];rw[if_pos hi.1,hb]
 ·unfold rightR;rw[hcut];simp only;rw[codesR_at h _ _ (codesOf_sorted r) (fun k hk=>⟨codesOf_lt r k hk,Nat.two_pow_pos k⟩),lastIdx_at h hi]
  simp only[Option.bind_some];rw[if_pos hi.1,hb]
theorem word_no(h:s.Ok){r:Right}(hr:s.rightErr r=0){b:UInt8}(hb:b.toNat<46):b∉s.wordL r:=by
 obtain⟨h1,h2⟩:=right_0 hr;have hc:=inB_t.1 h1;unfold wordL;rw[List.mem_append,not_or];refine⟨h.name_no (by omega) (by omega),?_⟩
 rw[List.mem_flatMap];rintro⟨k,hk,hm⟩;rcases List.mem_cons.1 hm with e|hm
 ·subst e;simp at hb
 ·exact h.code_no (codesOf_lt r k hk) (by omega) hm
theorem one_read(h:s.Ok)(hc:s.check.2.2=0){r:Right}(hr:s.rightErr r=0)(hl:(s.wordL r).length≤7000):s.readAns (s.rightsL [r])=([r],0)∧s.readR (s.rightsL [r])=([r],0):=by
 obtain⟨w1,w2⟩:=word_read h hr;have e:s.rightsL [r]=s.wordL r:=by simp[rightsL]
 have hne:s.wordL r≠ [45]:=by
  intro e2;have:=word_no h hr (b:=45) (by decide)
  rw[e2] at this;simp at this
 have hcut:cutAt 32 (s.wordL r)=[s.wordL r]:=cutAt_none (word_no h hr (by decide))
 constructor
 ·unfold readAns rightsP;rw[if_neg (by rw[hc];simp),e,if_neg (by omega),if_neg hne,hcut]
  simp[w1]
 ·unfold readR rightsR;rw[if_neg (by rw[hc];simp),e,if_neg (by omega),if_neg hne,hcut]
  simp[w2,e]
end Sys
end Go.Rg
end
section
namespace Go.Rg
open Go.Bp
def dayP(l:List UInt8):Option Int:=match cutAt 45 l with
 | [a,b,c]=>(numP a).bind fun y=>(numP b).bind fun m=>(numP c).bind fun d=>if(dayOf y m d).2=0 then some (dayOf y m d).1 else none
 |_=>none
def dayR(l:List UInt8):Int:=match cutAt 45 l with
 | [a,b,c]=>if(dayOf (num4 (S a)) (num4 (S b)) (num4 (S c))).2=0 then(dayOf (num4 (S a)) (num4 (S b)) (num4 (S c))).1 else -1
 |_=> -1
theorem digs_no{l:List UInt8}(h:∀b∈l,48≤b.toNat∧b.toNat≤57){b:UInt8}(hb:b.toNat<48):b∉l:=fun hm=>by have:=h b hm;omega
theorem dated_parts{day:Int}(h0:0≤day)(h:day≤40000):cutAt 45 (datedL day)=[pad (dateOf day).year.toNat 4,pad (dateOf day).month.toNat 2,pad (dateOf day).day.toNat 2]:=by
 obtain⟨v,v2,_⟩:=date_ok h0 h;have hy:=v.hy;have hm:=inB_t.1 v.hm;have hd:=inB_t.1 v.hd;have hl:=(before_succ (leap (dateOf day).year) v.hm).2;unfold datedL;rw[cutAt_app _ (digs_no (pad4 (by omega) (by omega)).2.2.1 (by decide)),cutAt_app _ (digs_no (pad2 (by omega)).2.2.1 (by decide)),cutAt_none (digs_no (pad2 (by omega)).2.2.1 (by decide))]
theorem dated_read{day:Int}(h0:0≤day)(h:day≤40000):dayP (datedL day)=some day∧dayR (datedL day)=day:=by
 obtain⟨v,v2,_⟩:=date_ok h0 h;have hy:=v.hy;have hm:=inB_t.1 v.hm;have hd:=inB_t.1 v.hd;have hl:=(before_succ (leap (dateOf day).year) v.hm).2;have hc:=dated_parts h0 h;have hdd:=day_date h0 h;obtain⟨a1,a2,_⟩:=pad4 (n:=(dateOf day).year.toNat) (by omega) (by omega)
 obtain⟨b1,b2,_⟩:=pad2 (n:=(dateOf day).month.toNat) (by omega)
 obtain⟨c1,c2,_⟩:=pad2 (n:=(dateOf day).day.toNat) (by omega)
 have e1:(((dateOf day).year.toNat:Nat):Int)=(dateOf day).year:=by omega
 have e2:(((dateOf day).month.toNat:Nat):Int)=(dateOf day).month:=by omega
 have e3:(((dateOf day).day.toNat:Nat):Int)=(dateOf day).day:=by omega
 constructor
 ·unfold dayP;rw[hc];simp only[a1,b1,c1,Option.bind_some,e1,e2,e3,hdd,if_true]
 ·unfold dayR;rw[hc];simp only[a2,b2,c2,e1,e2,e3,hdd,if_true]
theorem dated_no{day:Int}(h0:0≤day)(h:day≤40000){b:UInt8}(hb:b.toNat<45):b∉datedL day:=by
 obtain⟨v,v2,_⟩:=date_ok h0 h;have hy:=v.hy;have hm:=inB_t.1 v.hm;have hd:=inB_t.1 v.hd;have hl:=(before_succ (leap (dateOf day).year) v.hm).2;unfold datedL;simp only[List.mem_append,List.mem_cons,not_or];refine⟨digs_no (pad4 (by omega) (by omega)).2.2.1 (by omega),fun e=>by subst e;simp at hb,digs_no (pad2 (by omega)).2.2.1 (by omega),fun e=>by subst e;simp at hb,digs_no (pad2 (by omega)).2.2.1 (by omega)⟩
end Go.Rg
end
section
namespace Go.Rg
open Go.Bp
namespace Rules
variable(r:Rules)
def treatyIdx(p:List UInt8):Int:=idxP (fun t:Treaty=>decide (t.name=S p)) r.treaties
def timeP(a:List UInt8):Option Int:=if 58∈a then(numP (a.takeWhile fun b=>decide (b≠58))).bind fun h=>(numP ((a.dropWhile fun b=>decide (b≠58)).drop 1)).bind fun m=>some (60*h+m) else none
def readP(w:List (List UInt8)):Option Event:=match w with
 | [k,d,a,b]=>if k=passW then(dayP d).bind fun day=>match r.sys.readAns b with
  |([y],0)=>(timeP a).bind fun m=>some ⟨0,day,y,0,0,0,0,m⟩
  |_=>none
  else none
 | [k,d,a]=>
  if k=exchangeW then(dayP d).bind fun day=>if 0≤r.treatyIdx a then some ⟨1,day,⟨0,0⟩,r.treatyIdx a,0,0,0,0⟩ else none
  else if k=renewW then(dayP d).bind fun day=>if 0≤r.sys.clsIdx a then some ⟨2,day,⟨0,0⟩,0,r.sys.clsIdx a,0,0,0⟩ else none
  else if k=offenceW then(dayP d).bind fun day=>(numP a).bind fun n=>some ⟨3,day,⟨0,0⟩,0,0,n,0,0⟩
  else if k=banW then(dayP d).bind fun day=>(dayP a).bind fun u=>some ⟨4,day,⟨0,0⟩,0,0,0,u,0⟩
  else none
 |_=>none
def lastTreaty(p:List UInt8):Nat→Int
 |0=> -1
 |n+1=>if(r.treaties.getD n ⟨ByteArray.empty,⟨0,0⟩,⟨0,0⟩⟩).name=S p then(n:Int) else lastTreaty p n
def readR(w:List (List UInt8)):Event×Bool:=
 if w.length<3 then(bare 0 0,false)
 else
  let day:=dayR (w.getD 1 [])
  let last:=w.getD (w.length-1) []
  if w.getD 0 []=passW∧w.length=4 then
   match cutAt 58 (w.getD 2 []),r.sys.readR last with
   | [h,m],([y],0)=>(⟨0,day,y,0,0,0,0,60*num4 (S h)+num4 (S m)⟩,true)
   |_,_=>(bare 0 day,false)
  else if w.getD 0 []=exchangeW then(⟨1,day,⟨0,0⟩,r.lastTreaty last r.treaties.length,0,0,0,0⟩,true)
  else if w.getD 0 []=renewW then(⟨2,day,⟨0,0⟩,0,r.sys.lastIdx last r.sys.classes.length,0,0,0⟩,true)
  else if w.getD 0 []=offenceW then(⟨3,day,⟨0,0⟩,0,0,num4 (S last),0,0⟩,true)
  else(⟨4,day,⟨0,0⟩,0,0,0,dayR last,0⟩,decide (w.getD 0 []=banW))
variable{r}
end Rules
end Go.Rg
end
section
namespace Go.Rg
open Go.Bp
namespace Sys
variable{s:Sys}
theorem word_len(h:s.Ok){r:Right}(hr:s.rightErr r=0):(s.wordL r).length≤200:=by
 obtain⟨h1,h2⟩:=right_0 hr;have hc:=inB_t.1 h1;have hn:=name_len (h.name (i:=r.cls) (by omega))
 have hk:(s.codesOf r).length≤8:=by
  have:=List.length_filter_le (fun k=>r.codes.toNat.testBit k) (List.range s.codes.length)
  rw[List.length_range] at this;unfold codesOf;have:=h.c;omega
 have hf:=flat_len (f:=fun k=>46::s.codeL k) (B:=17) (s.codesOf r) (fun k hk=>by
  have:=name_len (nameErr_0 (h.code k (codesOf_lt r k hk))).1;rw[List.length_cons];unfold codeL;omega)
 unfold wordL;rw[List.length_append];unfold nameL;have:17*(s.codesOf r).length≤17*8:=Nat.mul_le_mul_left _ hk;omega
end Sys
theorem while_cut{b:UInt8}:∀(p q:List UInt8),b∉p→(p++b::q).takeWhile (fun c=>decide (c≠b))=p∧(p++b::q).dropWhile (fun c=>decide (c≠b))=b::q
 | [],q,_=>by simp
 |a::p,q,h=>by
  have h1:a≠b:=fun e=>h (by simp[e])
  obtain⟨e1,e2⟩:=while_cut p q (fun hm=>h (List.mem_cons_of_mem _ hm))
  rw[List.cons_append,List.takeWhile_cons,List.dropWhile_cons,if_pos (by simpa using h1),if_pos (by simpa using h1)]
  exact⟨congrArg (a:: ·) e1,e2⟩
theorem digs_58{l:List UInt8}(h:∀b∈l,48≤b.toNat∧b.toNat≤57):(58:UInt8)∉l:=fun hm=>by have:=(h 58 hm).2;exact absurd this (by decide)
namespace Rules
variable{r:Rules}
theorem time_read{m:Int}(h0:0≤m)(h:m≤1439):timeP (pad (m/60).toNat 2++58::pad (m%60).toNat 2)=some m∧
 cutAt 58 (pad (m/60).toNat 2++58::pad (m%60).toNat 2)=[pad (m/60).toNat 2,pad (m%60).toNat 2]∧60*num4 (S (pad (m/60).toNat 2))+num4 (S (pad (m%60).toNat 2))=m:=by
 obtain⟨a1,a2,a3,_⟩:=pad2 (n:=(m/60).toNat) (by omega)
 obtain⟨b1,b2,b3,_⟩:=pad2 (n:=(m%60).toNat) (by omega)
 obtain⟨e1,e2⟩:=while_cut (b:=58) (pad (m/60).toNat 2) (pad (m%60).toNat 2) (digs_58 a3);refine⟨?_,by rw[cutAt_app _ (digs_58 a3),cutAt_none (digs_58 b3)],by rw[a2,b2];omega⟩
 unfold timeP;rw[if_pos (by simp),e1,e2,a1]
 simp only[Option.bind_some,List.drop_succ_cons,List.drop_zero,b1,Option.some.injEq];omega
theorem treatyIdx_at(ho:r.Ok){i:Int}(hi:0≤i∧i<r.treaties.length):r.treatyIdx (r.treatyL i)=i:=by
 obtain⟨hn,e⟩:=treaty_at hi;have eS:S (r.treatyL i)=r.treaties[i.toNat].name:=by unfold treatyL;rw[S_data,e]
 unfold treatyIdx;rw[idxP_at hn (by simp[eS]) (fun x hx=>by
  have:=(treatyErr_0 (ho.treaty _ hn)).2.1 x hx;simpa [eS] using this)]
 omega
theorem lastTreaty_at(ho:r.Ok){i:Int}(hi:0≤i∧i<r.treaties.length):r.lastTreaty (r.treatyL i) r.treaties.length=i:=by
 obtain⟨hn,e⟩:=treaty_at hi;have eS:S (r.treatyL i)=r.treaties[i.toNat].name:=by unfold treatyL;rw[S_data,e]
 have key:∀n,i.toNat<n→n≤r.treaties.length→r.lastTreaty (r.treatyL i) n=i:=by
  intro n;induction n with
  |zero=>intro h1;omega
  |succ n ih=>
   intro h1 h2;unfold lastTreaty;have hn2:n<r.treaties.length:=by omega
   have e3:r.treaties.getD n ⟨ByteArray.empty,⟨0,0⟩,⟨0,0⟩⟩=r.treaties[n]:=by simp[List.getD,hn2]
   rw[eS,e3];by_cases e2:n=i.toNat
   ·subst e2;rw[if_pos rfl];omega
   ·rw[if_neg,ih (by omega) (by omega)]
    intro e4;exact(treatyErr_0 (ho.treaty n hn2)).2.1 r.treaties[i.toNat] (by rw[List.mem_take_iff_getElem];exact⟨i.toNat,by omega,rfl⟩) e4.symm
 exact key _ hn (Nat.le_refl _)
theorem words_read(ho:r.Ok){born:Int}{x:Event}(h:r.eventErr born x=0):r.readP (r.wordsOf x)=some x∧r.readR (r.wordsOf x)=(x,true):=by
 obtain⟨⟨d0,d1,_⟩,hx⟩:=event_shape h;obtain⟨dp,dr⟩:=dated_read d0 d1;generalize x.day=day at dp dr d0 d1 hx⊢;rcases hx with ⟨y,m,rfl,hy,m0,m1⟩|⟨i,rfl,i0,i1⟩|⟨i,rfl,i0,i1⟩|⟨n,rfl,n0,n1⟩|⟨u,rfl,u0,u1⟩
 ·obtain⟨t1,t2,t3⟩:=time_read m0 m1;have hl:=Sys.word_len ho.sys hy;obtain⟨w1,w2⟩:=Sys.one_read ho.sys ho.check hy (by omega)
  constructor
  ·simp only[wordsOf,if_true,readP,dp,Option.bind_some,w1,t1]
  ·simp only[wordsOf,if_true,readR,List.length_cons,List.length_nil,List.getD_cons_zero,List.getD_cons_succ];simp only[show¬(0+1+1+1+1<3) by decide,if_false,show(0+1+1+1+1=4) by decide,and_self,if_true,show 0+1+1+1+1-1=3 by decide,List.getD_cons_succ,List.getD_cons_zero,t2,w2,dr,t3]
 ·have e1:=treatyIdx_at ho (i:=i) ⟨i0,i1⟩;have e2:=lastTreaty_at ho (i:=i) ⟨i0,i1⟩;constructor
  ·simp only[wordsOf,show¬((1:Int)=0) by decide,if_false,if_true,readP,dp,Option.bind_some,e1,i0]
  ·simp only[wordsOf,show¬((1:Int)=0) by decide,if_false,if_true,readR,List.length_cons,List.length_nil,List.getD_cons_zero,List.getD_cons_succ,show¬(0+1+1+1<3) by decide,show¬(0+1+1+1=4) by decide,and_false,show 0+1+1+1-1=2 by decide,e2,dr]
 ·have e1:=Sys.clsIdx_at ho.sys (i:=i) ⟨i0,i1⟩;have e2:=Sys.lastIdx_at ho.sys (i:=i) ⟨i0,i1⟩;constructor
  ·simp only[wordsOf,show¬((2:Int)=0) by decide,show¬((2:Int)=1) by decide,show¬(renewW=exchangeW) by decide,if_false,if_true,readP,dp,Option.bind_some,e1,i0]
  ·simp only[wordsOf,show¬((2:Int)=0) by decide,show¬((2:Int)=1) by decide,show¬(renewW=exchangeW) by decide,if_false,if_true,readR,List.length_cons,List.length_nil,List.getD_cons_zero,List.getD_cons_succ,show¬(0+1+1+1<3) by decide,show¬(0+1+1+1=4) by decide,and_false,show 0+1+1+1-1=2 by decide,e2,dr]
 ·obtain⟨a1,a2,_⟩:=pad1 (n:=n.toNat) (by omega)
  rw[pad_1_digits] at a1 a2;have en:((n.toNat:Nat):Int)=n:=by omega
  rw[en] at a1 a2;constructor
  ·simp only[wordsOf,show¬((3:Int)=0) by decide,show¬((3:Int)=1) by decide,show¬((3:Int)=2) by decide,show¬(offenceW=exchangeW) by decide,show¬(offenceW=renewW) by decide,if_false,if_true,readP,dp,Option.bind_some,a1]
  ·simp only[wordsOf,show¬((3:Int)=0) by decide,show¬((3:Int)=1) by decide,show¬((3:Int)=2) by decide,show¬(offenceW=exchangeW) by decide,show¬(offenceW=renewW) by decide,if_false,if_true,readR,List.length_cons,List.length_nil,List.getD_cons_zero,List.getD_cons_succ,show¬(0+1+1+1<3) by decide,show¬(0+1+1+1=4) by decide,and_false,show 0+1+1+1-1=2 by decide,a2,dr]
 ·obtain⟨up,ur⟩:=dated_read (day:=u) (by omega) u1
  constructor
  ·simp only[wordsOf,show¬((4:Int)=0) by decide,show¬((4:Int)=1) by decide,show¬((4:Int)=2) by decide,show¬((4:Int)=3) by decide,show¬(banW=exchangeW) by decide,show¬(banW=renewW) by decide,show¬(banW=offenceW) by decide,if_false,if_true,readP,dp,Option.bind_some,up]
  ·simp only[wordsOf,show¬((4:Int)=0) by decide,show¬((4:Int)=1) by decide,show¬((4:Int)=2) by decide,show¬((4:Int)=3) by decide,show¬(banW=exchangeW) by decide,show¬(banW=renewW) by decide,show¬(banW=offenceW) by decide,if_false,readR,List.length_cons,List.length_nil,List.getD_cons_zero,List.getD_cons_succ,show¬(0+1+1+1<3) by decide,show¬(0+1+1+1=4) by decide,and_false,show 0+1+1+1-1=2 by decide,ur,dr,decide_true]
end Rules
end Go.Rg
end
section
namespace Go.Rg
open Go.Bp
def readAll{α:Type}(f:α→Option Event):List α→Option (List Event)
 | []=>some []
 |a::l=>(f a).bind fun x=>(readAll f l).map fun xs=>x::xs
namespace Rules
variable(r:Rules)
def parseP(t:List UInt8):Option (Int×List Event):=match cutAt 10 t with
 | []=>none
 |first::lines=>
  if lines.getLast? =some []∧first.take 5=bornW++ [32]∧lines.length≤31 then
   (dayP (first.drop 5)).bind fun b=>(readAll (fun l=>r.readP (cutAt 32 l)) lines.dropLast).map fun xs=>(b,xs)
  else none
def parseR(t:List UInt8):Option (Int×List Event):=match cutAt 10 t with
 | []=>none
 |first::lines=>
  if(cutAt 32 first).length=2∧1≤lines.length∧lines.length≤31 then
   (readAll (fun l=>if(r.readR (cutAt 32 l)).2=true then some (r.readR (cutAt 32 l)).1 else none) lines.dropLast).map fun xs=>(dayR ((cutAt 32 first).getD 1 []),xs)
  else none
variable{r}
theorem words_no(ho:r.Ok){born:Int}{x:Event}(h:r.eventErr born x=0){b:UInt8}(hb:b.toNat<45):∀w∈r.wordsOf x,b∉w:=by
 obtain⟨⟨d0,d1,_⟩,hx⟩:=event_shape h;have hd:=fun{c:UInt8}=>dated_no d0 d1 (b:=c)
 have h1:b∉passW:=fun hm=>by
  have:∀c∈passW,97≤c.toNat:=by decide
  have:=this b hm;omega
 have h2:b∉exchangeW:=fun hm=>by
  have:∀c∈exchangeW,97≤c.toNat:=by decide
  have:=this b hm;omega
 have h3:b∉renewW:=fun hm=>by
  have:∀c∈renewW,97≤c.toNat:=by decide
  have:=this b hm;omega
 have h4:b∉offenceW:=fun hm=>by
  have:∀c∈offenceW,97≤c.toNat:=by decide
  have:=this b hm;omega
 have h5:b∉banW:=fun hm=>by
  have:∀c∈banW,97≤c.toNat:=by decide
  have:=this b hm;omega
 generalize x.day=day at hd d0 d1 hx;rcases hx with ⟨y,m,rfl,hy,m0,m1⟩|⟨i,rfl,i0,i1⟩|⟨i,rfl,i0,i1⟩|⟨n,rfl,n0,n1⟩|⟨u,rfl,u0,u1⟩
 ·intro w hw;simp only[wordsOf,if_true,List.mem_cons,List.not_mem_nil,or_false] at hw;rcases hw with rfl|rfl|rfl|rfl
  ·exact h1
  ·exact hd hb
  ·simp only[List.mem_append,List.mem_cons,not_or];refine⟨digs_no (pad2 (by omega)).2.2.1 (by omega),fun e=>by subst e;simp at hb,digs_no (pad2 (by omega)).2.2.1 (by omega)⟩
  ·simp only[Sys.rightsL,List.flatMap_nil,List.append_nil];exact Sys.word_no ho.sys hy (by omega)
 ·intro w hw;simp only[wordsOf,show¬((1:Int)=0) by decide,if_false,if_true,List.mem_cons,List.not_mem_nil,or_false] at hw
  rcases hw with rfl|rfl|rfl
  ·exact h2
  ·exact hd hb
  ·obtain⟨hn,e⟩:=treaty_at (r:=r) (i:=i) ⟨i0,i1⟩;unfold treatyL;rw[e];exact name_no (treatyErr_0 (ho.treaty _ hn)).1 (by omega)
 ·intro w hw;simp only[wordsOf,show¬((2:Int)=0) by decide,show¬((2:Int)=1) by decide,if_false,if_true,List.mem_cons,List.not_mem_nil,or_false] at hw
  rcases hw with rfl|rfl|rfl
  ·exact h3
  ·exact hd hb
  ·exact ho.sys.name_no ⟨i0,i1⟩ (by omega)
 ·intro w hw;simp only[wordsOf,show¬((3:Int)=0) by decide,show¬((3:Int)=1) by decide,show¬((3:Int)=2) by decide,if_false,if_true,List.mem_cons,List.not_mem_nil,or_false] at hw
  rcases hw with rfl|rfl|rfl
  ·exact h4
  ·exact hd hb
  ·rw[←pad_1_digits];exact digs_no (pad1 (by omega)).2.2.1 (by omega)
 ·intro w hw;simp only[wordsOf,show¬((4:Int)=0) by decide,show¬((4:Int)=1) by decide,show¬((4:Int)=2) by decide,show¬((4:Int)=3) by decide,if_false,List.mem_cons,List.not_mem_nil,or_false] at hw
  rcases hw with rfl|rfl|rfl
  ·exact h5
  ·exact hd hb
  ·exact dated_no (by omega) u1 hb
theorem join_cut:∀ws:List (List UInt8),ws≠ []→(∀w∈ws,(32:UInt8)∉w)→cutAt 32 (joinW ws)=ws
 | [],h,_=>absurd rfl h
 | [w],_,h=>by simp only[joinW];exact cutAt_none (h w (by simp))
 |w::v::ws,_,h=>by
  simp only[joinW];rw[cutAt_app _ (h w (by simp)),join_cut (v::ws) (by simp) (fun x hx=>h x (List.mem_cons_of_mem _ hx))]
theorem join_no{b:UInt8}(hb:b≠32):∀ws:List (List UInt8),(∀w∈ws,b∉w)→b∉joinW ws
 | [],_=>by simp[joinW]
 | [w],h=>by simp only[joinW];exact h w (by simp)
 |w::v::ws,h=>by
  simp only[joinW,List.mem_append,List.mem_cons,not_or];exact⟨h w (by simp),hb,join_no hb (v::ws) (fun x hx=>h x (List.mem_cons_of_mem _ hx))⟩
theorem words_ne(x:Event):r.wordsOf x≠ []:=by
 unfold wordsOf;split;·simp
 split;·simp
 split;·simp
 split<;>simp
theorem text_cut(ho:r.Ok){born:Int}(hb:0≤born∧born≤40000){l:List Event}(hl:∀x∈l,r.eventErr born x=0):
 cutAt 10 (r.textL born l)=(bornW++32::datedL born)::(l.map (fun x=>joinW (r.wordsOf x))++ [[]]):=by
 have e:r.textL born l=(bornW++32::datedL born)++10::(l.map fun x=>joinW (r.wordsOf x)).flatMap fun q=>q++ [10]:=by
  unfold textL lineL;rw[List.flatMap_map];simp
 rw[e,cutAt_app,cutAt_flat]
 ·intro p hp;obtain⟨x,hx,rfl⟩:=List.mem_map.1 hp;exact join_no (by decide) _ (words_no ho (hl x hx) (by decide))
 ·simp only[List.mem_append,List.mem_cons,not_or];exact⟨by decide,by decide,dated_no hb.1 hb.2 (by decide)⟩
theorem readAll_map{f:List UInt8→Option Event}{g:Event→List UInt8}:∀l:List Event,(∀x∈l,f (g x)=some x)→readAll f (l.map g)=some l
 | [],_=>rfl
 |x::l,h=>by rw[List.map_cons,readAll,h x (by simp),readAll_map l (fun y hy=>h y (by simp[hy]))];rfl
theorem text_read{p:Person}(h:r.personErr p=0):r.parseP (r.textL p.born (sortE p.events))=some (p.born,sortE p.events)∧r.parseR (r.textL p.born (sortE p.events))=some (p.born,sortE p.events):=by
 obtain⟨hc,hb,hn,he⟩:=person_ok h;have ho:=ok_of hc;have hl:∀x∈sortE p.events,r.eventErr p.born x=0:=fun x hx=>he x ((sortE_mem _ _).1 hx)
 have hcut:=text_cut ho hb hl;have hlen:=sortE_len p.events;obtain⟨dp,dr⟩:=dated_read hb.1 hb.2;have hw:∀x∈sortE p.events,cutAt 32 (joinW (r.wordsOf x))=r.wordsOf x:=fun x hx=>join_cut _ (words_ne x) (words_no ho (hl x hx) (by decide))
 have hfirst:cutAt 32 (bornW++32::datedL p.born)=[bornW,datedL p.born]:=by
  rw[cutAt_app _ (by decide),cutAt_none (dated_no hb.1 hb.2 (by decide))]
 constructor
 ·unfold parseP;rw[hcut];simp only;rw[if_pos ⟨by simp,by simp[bornW],by simp;omega⟩,List.dropLast_concat]
  have e1:(bornW++32::datedL p.born).drop 5=datedL p.born:=by simp[bornW]
  rw[e1,dp,readAll_map (g:=fun x=>joinW (r.wordsOf x)) _ (fun x hx=>by rw[hw x hx];exact(words_read ho (hl x hx)).1)]
  rfl
 ·unfold parseR;rw[hcut];simp only;rw[if_pos ⟨by rw[hfirst];rfl,by simp,by simp;omega⟩,List.dropLast_concat]
  rw[readAll_map (g:=fun x=>joinW (r.wordsOf x)) _ (fun x hx=>by
   have:=(words_read ho (hl x hx)).2;rw[hw x hx,this];rfl),hfirst]
  simp only[Option.map_some,List.getD_cons_succ,List.getD_cons_zero,dr]
end Rules
end Go.Rg
end
section
namespace Go.Walk
open Go Go.Bp Go.RowKit Go.Proofs
instance qNB11:ScalT Tryz.prog 5:=⟨_,Tryz.underlying5,rfl⟩
instance qNB44:ScalT Tryz.prog 78:=⟨_,Tryz.underlying78,rfl⟩
end Go.Walk
end
section
namespace Go.Rg
open Go.Bp
namespace Rules
variable{r:Rules}
theorem person_same{p q:Person}(h:r.personErr p=0)(hb:q.born=p.born)(hn:q.events.length≤30)(hm:∀x,x∈q.events↔x∈p.events):r.personErr q=0:=by
 obtain⟨h1,h2,_,h4⟩:=person_ok h;exact person_of h1 (by rw[hb];exact h2) hn fun x hx=>by rw[hb];exact h4 x ((hm x).1 hx)
theorem answers_same{p q:Person}(h:r.personErr p=0)(h':r.personErr q=0)(hb:q.born=p.born)(hm:∀x,x∈q.events↔x∈p.events):
 r.bansAns q=r.bansAns p∧(∀day,r.pointsAns q day=r.pointsAns p day)∧(∀day,r.heldAns q day=r.heldAns p day)∧(∀d,r.whyAns q d=r.whyAns p d)∧r.writeAns q=r.writeAns p:=by
 have hs:=sort_same hm;refine⟨?_,fun day=> ?_,fun day=> ?_,fun d=> ?_,?_⟩
 ·unfold bansAns;rw[h,h',hs]
 ·unfold pointsAns;rw[h,h',hs]
 ·unfold heldAns;rw[h,h',hs,hb]
 ·unfold whyAns driveErr;rw[h,h',hs,hb]
 ·unfold writeAns;rw[h,h',hs,hb]
theorem text_twice{p:Person}{x:Event}(h:r.personErr p=0)(h':r.personErr ⟨p.born,p.events++ [x]⟩=0):
 r.textL p.born (sortE (p.events++ [x]))=r.textL p.born (sortE p.events)↔x∈p.events:=by
 constructor
 ·intro e;have h1:=(text_read h).1;have h2:=(text_read h').1;simp only at h2;rw[e,h1] at h2;injection h2 with h2
  injection h2 with _ h2
  rw[←sortE_mem p.events x,h2,sortE_mem];simp
 ·intro hx;rw[sort_same (l:=p.events++ [x]) (m:=p.events) (fun y=>by
   rw[List.mem_append,List.mem_singleton];constructor
   ·rintro(h|rfl)
    ·exact h
    ·exact hx
   ·exact .inl)]
end Rules
end Go.Rg
end
