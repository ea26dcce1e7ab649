/- Chapter 11: contracts of functions of the program and of the reference, and plain laws (out of RgL RgM Tx RgN RgO RgP RgQ RgR RgS NR). No condition of its own. -/
import Derived.Lib.AtoiAll
import Derived.Lib.ItoaMem
import Derived.Lib.Split
import Derived.Test.YtbfbepnkofampaaGreatDoorYP04
set_option maxRecDepth 100000
set_option linter.all false
section
namespace Go.Rg
open Go.Bp
theorem plus_parts{day term:Int}(h0:0≤day)(h:day≤40000)(ht:0≤term)(ht2:term≤100):
 plusAns day term 0=dayOf ((dateOf day).year+term) (dateOf day).month (min (dateOf day).day (monthLen (leap ((dateOf day).year+term)) (dateOf day).month)):=by
 obtain⟨v,v2,v3⟩:=date_ok h0 h;have hm:=inB_t.1 v.hm;unfold plusAns;rw[if_neg (by rw[inB_t.2 (show 0≤day∧day≤40000 by omega),inB_t.2 (show 0≤term∧term≤100 by omega)];simp[inB])]
 generalize dateOf day=d at v v2 v3 hm⊢;obtain⟨y,m,d⟩:=d;simp only at hm⊢;have e1:(0+m-1).tdiv 12=0:=Int.tdiv_eq_zero_of_lt (by omega) (by omega)
 have e2:(0+m-1).tmod 12+1=m:=by rw[Int.tmod_eq_of_lt (by omega) (by omega)];omega
 rw[e1,e2,show y+term+0=y+term by omega]
theorem later_valid{day term:Int}(h0:0≤day)(h:day≤40000)(ht:0≤term)(hy:(dateOf day).year+term≤2202):
 Valid ((dateOf day).year+term) (dateOf day).month (min (dateOf day).day (monthLen (leap ((dateOf day).year+term)) (dateOf day).month)):=by
 obtain⟨v,v2,v3⟩:=date_ok h0 h;have:=(before_succ (leap ((dateOf day).year+term)) v.hm).2;have hd:=inB_t.1 v.hd;have hy0:=v.hy;exact⟨⟨by omega,hy⟩,v.hm,inB_t.2 (by omega)⟩
theorem plus_cases{day term:Int}(h0:0≤day)(h:day≤40000)(ht:0≤term)(ht2:term≤100):
 (plusAns day term 0=(0,7)∧((dateOf day).year+term≤2200→40000<ord ((dateOf day).year+term) (dateOf day).month (min (dateOf day).day (monthLen (leap ((dateOf day).year+term)) (dateOf day).month))))∨
 ((dateOf day).year+term≤2200∧plusAns day term 0=(ord ((dateOf day).year+term) (dateOf day).month (min (dateOf day).day (monthLen (leap ((dateOf day).year+term)) (dateOf day).month)),0)∧(plusAns day term 0).1≤40000):=by
 obtain⟨v,v2,v3⟩:=date_ok h0 h;have hb:=(before_succ (leap ((dateOf day).year+term)) v.hm).2;have hd:=inB_t.1 v.hd;have hy0:=v.hy;rw[plus_parts h0 h ht ht2,day_of v.hm (inB_t.2 (by omega))]
 by_cases hy:(dateOf day).year+term≤2200
 ·rw[if_neg (by rw[inB_t.2 (show 2000≤(dateOf day).year+term∧(dateOf day).year+term≤2200 by omega)];simp)]
  split
  ·rename_i hc;exact .inl ⟨rfl,fun _=>hc⟩
  ·rename_i hc;exact .inr ⟨hy,rfl,by simp only;omega⟩
 ·rw[if_pos (inB_f.2 (by omega))]
  exact .inl ⟨rfl,fun h=>absurd h hy⟩
namespace Rules
variable(r:Rules)
end Rules
end Go.Rg
end
section
namespace Go.Rg
open Go.Bp
theorem unique_sorted{α:Type}{lt:α→α→Prop}(ir:∀a,¬lt a a)(tr:∀{a b c},lt a b→lt b c→lt a c):∀{l m:List α},l.Pairwise lt→m.Pairwise lt→(∀x,x∈l↔x∈m)→l=m
 | [],[],_,_,_=>rfl
 | [],b::m,_,_,h=>by have:=(h b).2 (by simp);simp at this
 |a::l,[],_,_,h=>by have:=(h a).1 (by simp);simp at this
 |a::l,b::m,hl,hm,h=>by
  rw[List.pairwise_cons] at hl hm;have e:a=b:=by
   rcases List.mem_cons.1 ((h a).1 (by simp)) with e|e
   ·exact e
   ·rcases List.mem_cons.1 ((h b).2 (by simp)) with e2|e2
    ·exact e2.symm
    ·exact absurd (tr (hl.1 b e2) (hm.1 a e)) (ir a)
  subst e;congr 1
  refine unique_sorted ir tr hl.2 hm.2 fun x=>⟨fun hx=> ?_,fun hx=> ?_⟩
  ·rcases List.mem_cons.1 ((h x).1 (List.mem_cons_of_mem _ hx)) with e|e
   ·subst e;exact absurd (hl.1 x hx) (ir x)
   ·exact e
  ·rcases List.mem_cons.1 ((h x).2 (List.mem_cons_of_mem _ hx)) with e|e
   ·subst e;exact absurd (hm.1 x hx) (ir x)
   ·exact e
def ltR(a b:Right):Prop:=a.cls<b.cls∨a.cls=b.cls∧a.codes<b.codes
theorem ltR_irrefl(a:Right):¬ltR a a:=by unfold ltR;omega
theorem ltR_trans{a b c:Right}(h:ltR a b)(k:ltR b c):ltR a c:=by unfold ltR at *;omega
namespace Sys
variable{s:Sys}
theorem right_0{r:Right}(h:s.rightErr r=0):inB r.cls 0 (s.classes.length-1)=true∧inB r.codes 0 (s.sets-1)=true:=by
 unfold rightErr at h;split at h
 ·simp at h
 ·rename_i h1;split at h
  ·simp at h
  ·rename_i h2;exact⟨by simpa using h1,by simpa using h2⟩
theorem sets_nat:s.sets=((2^s.codes.length:Nat):Int):=by unfold sets;push_cast;rfl
theorem all_mem{r:Right}:r∈s.allRights↔(0≤r.cls∧r.cls<s.classes.length)∧0≤r.codes∧r.codes<s.sets:=by
 rw[sets_nat];unfold allRights;rw[List.mem_flatMap];constructor
 ·rintro⟨c,hc,h⟩;obtain⟨k,hk,rfl⟩:=List.mem_map.1 h;have:=List.mem_range.1 hc;have:=List.mem_range.1 hk;exact⟨⟨by simp only;omega,by simp only;omega⟩,by simp only;omega,by simp only;exact_mod_cast this⟩
 ·rintro⟨⟨h1,h2⟩,h3,h4⟩;refine⟨r.cls.toNat,List.mem_range.2 (by omega),List.mem_map.2 ⟨r.codes.toNat,List.mem_range.2 (by omega),?_⟩⟩
  cases r
  simp only[Right.mk.injEq];simp only at h1 h3;omega
theorem range_lt(n:Nat):(List.range n).Pairwise (· < ·):=List.pairwise_lt_range
theorem all_sorted:s.allRights.Pairwise ltR:=by
 unfold allRights;rw[List.pairwise_flatMap];refine⟨fun c _=> ?_,?_⟩
 ·rw[List.pairwise_map];exact(range_lt _).imp fun h=>.inr ⟨rfl,by simp only;omega⟩
 ·refine(range_lt _).imp fun{a b}h x hx y hy=> ?_
  obtain⟨_,_,rfl⟩:=List.mem_map.1 hx;obtain⟨_,_,rfl⟩:=List.mem_map.1 hy;exact .inl (by simp only;omega)
theorem ordered_sorted(l:List Right):(s.ordered l).Pairwise ltR:=all_sorted.filter _
theorem ordered_mem{l:List Right}(h:∀r∈l,s.rightErr r=0)(y:Right):y∈s.ordered l↔y∈l:=by
 unfold ordered;rw[List.mem_filter,decide_eq_true_eq];constructor
 ·exact fun h=>h.2
 ·intro hy;obtain⟨h1,h2⟩:=right_0 (h y hy);have:=inB_t.1 h1;have:=inB_t.1 h2;exact⟨all_mem.2 ⟨by omega,by omega⟩,hy⟩
def leftTo(s:Sys)(l rs:List Right):List Right:=(s.ordered l).filter fun x=>rs.all fun r=> !s.weaker x r
theorem leftTo_nil(l:List Right):s.leftTo l []=s.ordered l:=by unfold leftTo;simp
theorem leftTo_snoc(l rs:List Right)(r:Right):s.leftTo l (rs++ [r])=(s.leftTo l rs).filter fun x=> !s.weaker x r:=by
 unfold leftTo;rw[List.filter_filter];congr 1
 funext x
 rw[List.all_append,Bool.and_comm];simp
theorem leftTo_all(l:List Right):s.leftTo l (s.ordered l)=s.least l:=rfl
theorem leftTo_sorted(l rs:List Right):(s.leftTo l rs).Pairwise ltR:=(ordered_sorted l).filter _
end Sys
end Go.Rg
end
section
namespace Go.Bp
open Go.RowKit
def S(l:List UInt8):ByteArray:=⟨l.toArray⟩
theorem S_app(a b:List UInt8):S a++S b=S (a++b):=by
 apply Go.WideShapes.bytes_inj;simp[S]
theorem S_data(s:ByteArray):S s.data.toList=s:=Go.WideShapes.bytes_inj (by simp[S])
theorem S_list(l:List UInt8):(S l).data.toList=l:=by simp[S]
theorem S_size(l:List UInt8):(S l).size=l.length:=by simp[S,ByteArray.size]
def digitsF:Nat→Nat→List UInt8
 |0,_=>[]
 |f+1,n=>(if 10≤n then digitsF f (n/10) else [])++ [UInt8.ofNat (48+n%10)]
def digits(n:Nat):List UInt8:=digitsF (n+1) n
theorem digitsF_eq:∀(f n:Nat),n<f→∀g,n<g→digitsF f n=digitsF g n
 |0,n,h,_,_=>by omega
 |f+1,n,h,0,hg=>by omega
 |f+1,n,h,g+1,hg=>by
  unfold digitsF;by_cases h10:10≤n
  ·rw[if_pos h10,if_pos h10,digitsF_eq f (n/10) (by omega) g (by omega)]
  ·rw[if_neg h10,if_neg h10]
theorem digits_small{n:Nat}(h:n<10):digits n=[UInt8.ofNat (48+n%10)]:=by
 unfold digits digitsF;rw[if_neg (by omega)];rfl
theorem digits_big{n:Nat}(h:10≤n):digits n=digits (n/10)++ [UInt8.ofNat (48+n%10)]:=by
 unfold digits;rw[digitsF,if_pos h,digitsF_eq n (n/10) (by omega) (n/10+1) (by omega)]
def splTo(s:ByteArray)(b:UInt8):Nat→List ByteArray×Nat
 |0=>([],0)
 |i+1=>if s.data.toList.getD i 0=b then((splTo s b i).1++ [s.extract (splTo s b i).2 i],i+1) else splTo s b i
def split(s:ByteArray)(b:UInt8):List ByteArray:=(splTo s b s.size).1++ [s.extract (splTo s b s.size).2 s.size]
def isDig(b:UInt8):Bool:=inB b.toNat 48 57
def numTo(s:ByteArray)(k:Nat):Int:=(s.data.toList.take k).foldl (fun n b=>10*n+((b.toNat:Int)-48)) 0
theorem decDigits_digits(n:Nat):Lib.decDigits n=digits n:=by
 induction n using Nat.strongRecOn with
 |_ n ih=>
  by_cases h:n<10
  ·rw[Lib.decDigits,dif_pos h,digits_small h,Nat.mod_eq_of_lt h]
  ·rw[Lib.decDigits,dif_neg h,digits_big (by omega),ih (n/10) (by omega)]
theorem itoa_digits{n:Int}(h:0≤n):Lib.itoa n=digits n.toNat:=by
 unfold Lib.itoa;rw[if_neg (by omega),decDigits_digits]
end Go.Bp
end
section
namespace Go.Rg
open Go.Bp
namespace Sys
variable(s:Sys)
def nameL(i:Int):List UInt8:=(s.at_ i).name.data.toList
def codeL(k:Nat):List UInt8:=(s.codes.getD k ByteArray.empty).data.toList
def codesOf(r:Right):List Nat:=(List.range s.codes.length).filter fun k=>r.codes.toNat.testBit k
def wordL(r:Right):List UInt8:=s.nameL r.cls++(s.codesOf r).flatMap fun k=>46::s.codeL k
def rightsL:List Right→List UInt8
 | []=>[45]
 |r::l=>s.wordL r++l.flatMap fun x=>32::s.wordL x
def writeAns(l:List Right):List UInt8×Int:=if s.asked l≠0 then([],s.asked l) else(s.rightsL l,0)
variable{s}
theorem Ok.name(h:s.Ok){i:Int}(hi:0≤i∧i<s.classes.length):isName (s.at_ i).name=true:=by
 have hn:i.toNat<s.classes.length:=by omega
 have e:s.at_ i=s.classes[i.toNat]:=by unfold at_;simp[List.getD,hn]
 rw[e];exact(clsErr_0 (h.cls _ hn)).1
theorem nameErr_0{l:List ByteArray}{i:Nat}(h:nameErr l i=0):isName (l.getD i ByteArray.empty)=true∧l.getD i ByteArray.empty∉l.take i:=by
 unfold nameErr at h;split at h
 ·simp at h
 ·split at h
  ·simp at h
  ·rename_i h1 h2;exact⟨by simpa using h1,h2⟩
theorem codesOf_lt(r:Right):∀k∈s.codesOf r,k<s.codes.length:=fun k hk=>List.mem_range.1 (List.mem_filter.1 hk).1
end Sys
end Go.Rg
end
section
namespace Go.Rg
open Go.Bp
def pad(n k:Nat):List UInt8:=List.replicate (k-(digits n).length) 48++digits n
def digitsR:Nat→Nat→Nat→List UInt8
 |0,_,_=>[]
 |f+1,n,many=>(if 10≤n∨1<many then digitsR f (n/10) (many-1) else [])++ [UInt8.ofNat (48+n%10)]
def datedL(day:Int):List UInt8:=pad (dateOf day).year.toNat 4++45::(pad (dateOf day).month.toNat 2++45::pad (dateOf day).day.toNat 2)
def numP(l:List UInt8):Option Int:=match Lib.atoiAll l with| .ok v=>if 0≤v∧v≤9999 then some v else none|_=>none
def num4(s:ByteArray):Int:=if inB s.size 1 4=true∧s.data.toList.all isDig=true then numTo s s.size else -1
def padOk(n k:Nat):Bool:=(match Lib.atoiAll (pad n k) with| .ok v=>decide (v=n)|_=>false)&&decide (num4 (S (pad n k))=n)&&(pad n k).all (fun b=>inB b.toNat 48 57)&&decide (digitsR 5 n k=pad n k)&&decide ((pad n k).length≤4)
theorem pad2_all:((List.range 100).all fun n=>padOk n 2&&padOk n 1)=true:=by decide +kernel
theorem pad4_all:((List.range 203).all fun n=>padOk (2000+n) 4)=true:=by decide +kernel
theorem pad_at{n k:Nat}(h:padOk n k=true)(hn:n≤9999):numP (pad n k)=some (n:Int)∧num4 (S (pad n k))=n∧(∀b∈pad n k,48≤b.toNat∧b.toNat≤57)∧digitsR 5 n k=pad n k∧(pad n k).length≤4:=by
 unfold padOk at h;simp only[Bool.and_eq_true,decide_eq_true_eq,List.all_eq_true] at h;obtain⟨⟨⟨⟨h1,h2⟩,h3⟩,h4⟩,h5⟩:=h;refine⟨?_,h2,fun b hb=>by have:=inB_t.1 (h3 b hb);omega,h4,h5⟩
 unfold numP;split at h1
 ·rename_i v hv;simp only[decide_eq_true_eq] at h1;rw[h1,if_pos (by omega)]
 ·cases h1
theorem pad2{n:Nat}(h:n<100):numP (pad n 2)=some (n:Int)∧num4 (S (pad n 2))=n∧(∀b∈pad n 2,48≤b.toNat∧b.toNat≤57)∧digitsR 5 n 2=pad n 2∧(pad n 2).length≤4:=by
 have:=List.all_eq_true.1 pad2_all n (List.mem_range.2 h);rw[Bool.and_eq_true] at this;exact pad_at this.1 (by omega)
theorem pad1{n:Nat}(h:n<100):numP (pad n 1)=some (n:Int)∧num4 (S (pad n 1))=n∧(∀b∈pad n 1,48≤b.toNat∧b.toNat≤57)∧digitsR 5 n 1=pad n 1∧(pad n 1).length≤4:=by
 have:=List.all_eq_true.1 pad2_all n (List.mem_range.2 h);rw[Bool.and_eq_true] at this;exact pad_at this.2 (by omega)
theorem pad4{n:Nat}(h1:2000≤n)(h:n≤2202):numP (pad n 4)=some (n:Int)∧num4 (S (pad n 4))=n∧(∀b∈pad n 4,48≤b.toNat∧b.toNat≤57)∧digitsR 5 n 4=pad n 4∧(pad n 4).length≤4:=by
 have:=List.all_eq_true.1 pad4_all (n-2000) (List.mem_range.2 (by omega))
 rw[show 2000+(n-2000)=n by omega] at this
 exact pad_at this (by omega)
theorem pad_1_digits(n:Nat):pad n 1=digits n:=by
 unfold pad;have:1≤(digits n).length:=by
  by_cases h:n<10
  ·rw[digits_small h];simp
  ·rw[digits_big (by omega)];simp
 rw[show 1-(digits n).length=0 by omega];rfl
end Go.Rg
end
section
namespace Go.Rg
open Go.Bp
theorem event_shape{r:Rules}{born:Int}{x:Event}(h:r.eventErr born x=0):(0≤x.day∧x.day≤40000∧born≤x.day)∧
 ((∃y m,x=⟨0,x.day,y,0,0,0,0,m⟩∧r.sys.rightErr y=0∧0≤m∧m≤1439)∨(∃i,x=⟨1,x.day,⟨0,0⟩,i,0,0,0,0⟩∧0≤i∧i<r.treaties.length)∨
  (∃i,x=⟨2,x.day,⟨0,0⟩,0,i,0,0,0⟩∧0≤i∧i<r.sys.classes.length)∨(∃n,x=⟨3,x.day,⟨0,0⟩,0,0,n,0,0⟩∧1≤n∧n≤20)∨
  (∃u,x=⟨4,x.day,⟨0,0⟩,0,0,0,u,0⟩∧x.day≤u∧u≤40000)):=by
 unfold Rules.eventErr at h;split at h;·simp at h
 rename_i h1;split at h;·simp at h
 rename_i h2;split at h;·simp at h
 rename_i h3;split at h
 ·rename_i h4;exact absurd h h4
 rename_i h4;split at h;·simp at h
 rename_i h5;have k1:=inB_t.1 (show inB x.kind 0 4=true by simpa using h1)
 have k2:=inB_t.1 (show inB x.day 0 40000=true by simpa using h2)
 have h4:(r.had x).2=0:=by simpa using h4
 have h5:(r.had x).1=Rules.bare x.kind x.day:=by simpa using h5
 refine⟨⟨by omega,by omega,by omega⟩,?_⟩
 obtain⟨kind,day,⟨rc,rk⟩,tr,cl,po,un,mi⟩:=x;simp only at k1 k2 h3⊢;unfold Rules.had at h4 h5;simp only at h4 h5;have hk:kind=0∨kind=1∨kind=2∨kind=3∨kind=4:=by omega
 rcases hk with rfl|rfl|rfl|rfl|rfl
 ·left
  simp only[if_true,Rules.bare,Event.mk.injEq,true_and,and_true] at h4 h5;obtain⟨rfl,rfl,rfl,rfl⟩:=h5;split at h4
  ·rename_i h6;exact absurd h4 h6
  ·rename_i h6;split at h4;·simp at h4
   rename_i h7;have:=inB_t.1 (show inB mi 0 1439=true by simpa using h7)
   exact⟨⟨rc,rk⟩,mi,rfl,by simpa using h6,this.1,this.2⟩
 ·right;left
  simp only[show¬((1:Int)=0) by decide,if_false,if_true,Rules.bare,Event.mk.injEq,true_and,and_true] at h4 h5
  obtain⟨h6,rfl,rfl,rfl,rfl⟩:=h5;injection h6 with h6 h7
  subst h6 h7;split at h4;·simp at h4
  rename_i h7;have:=inB_t.1 (show inB tr 0 (r.treaties.length-1)=true by simpa using h7)
  exact⟨tr,rfl,this.1,by omega⟩
 ·right;right;left
  simp only[show¬((2:Int)=0) by decide,show¬((2:Int)=1) by decide,if_false,if_true,Rules.bare,Event.mk.injEq,true_and,and_true] at h4 h5
  obtain⟨h6,rfl,rfl,rfl,rfl⟩:=h5;injection h6 with h6 h7
  subst h6 h7;split at h4;·simp at h4
  rename_i h7;have:=inB_t.1 (show inB cl 0 (r.sys.classes.length-1)=true by simpa using h7)
  exact⟨cl,rfl,this.1,by omega⟩
 ·right;right;right;left
  simp only[show¬((3:Int)=0) by decide,show¬((3:Int)=1) by decide,show¬((3:Int)=2) by decide,show¬((3:Int)=4) by decide,if_false,Rules.bare,Event.mk.injEq,true_and,and_true] at h4 h5
  obtain⟨h6,rfl,rfl,rfl,rfl⟩:=h5;injection h6 with h6 h7
  subst h6 h7;split at h4;·simp at h4
  rename_i h7;have:=inB_t.1 (show inB po 1 20=true by simpa using h7)
  exact⟨po,rfl,this.1,this.2⟩
 ·right;right;right;right
  simp only[show¬((4:Int)=0) by decide,show¬((4:Int)=1) by decide,show¬((4:Int)=2) by decide,if_false,if_true,Rules.bare,Event.mk.injEq,true_and,and_true] at h4 h5
  obtain⟨h6,rfl,rfl,rfl,rfl⟩:=h5;injection h6 with h6 h7
  subst h6 h7;split at h4;·simp at h4
  rename_i h7;have:=inB_t.1 (show inB un day 40000=true by simpa using h7)
  exact⟨un,rfl,this.1,this.2⟩
def passW:List UInt8:=[112,97,115,115]
def exchangeW:List UInt8:=[101,120,99,104,97,110,103,101]
def renewW:List UInt8:=[114,101,110,101,119]
def offenceW:List UInt8:=[111,102,102,101,110,99,101]
def banW:List UInt8:=[98,97,110]
def bornW:List UInt8:=[98,111,114,110]
namespace Rules
variable(r:Rules)
def treatyL(i:Int):List UInt8:=(r.treaties.getD i.toNat ⟨ByteArray.empty,⟨0,0⟩,⟨0,0⟩⟩).name.data.toList
def wordsOf(x:Event):List (List UInt8):=
 if x.kind=0 then [passW,datedL x.day,pad (x.minute/60).toNat 2++58::pad (x.minute%60).toNat 2,r.sys.rightsL [x.right]]
 else if x.kind=1 then [exchangeW,datedL x.day,r.treatyL x.treaty]
 else if x.kind=2 then [renewW,datedL x.day,r.sys.nameL x.cls]
 else if x.kind=3 then [offenceW,datedL x.day,digits x.points.toNat]
 else [banW,datedL x.day,datedL x.until_]
def joinW:List (List UInt8)→List UInt8
 | []=>[]
 | [w]=>w
 |w::v::ws=>w++32::joinW (v::ws)
def lineL(x:Event):List UInt8:=joinW (r.wordsOf x)++ [10]
def textL(born:Int)(l:List Event):List UInt8:=bornW++32::(datedL born++10::l.flatMap r.lineL)
structure Ok:Prop where
 check:r.sys.check.2.2=0
 sys:r.sys.Ok
 t:r.treaties.length≤6
 treaty:∀i(hi:i<r.treaties.length),r.treatyErr i r.treaties[i]=0
 limit:1≤r.limit∧r.limit≤100
 fall:1≤r.fall∧r.fall≤40000
 ban:1≤r.ban∧r.ban≤40000
variable{r}
theorem ok_of(h:r.check.2.2=0):r.Ok:=by
 unfold check at h;split at h
 ·rename_i h1;exact absurd h h1
 rename_i h1;split at h;·simp at h
 rename_i h2;split at h
 ·rename_i h3;exact absurd h h3
 rename_i h3;split at h;·simp at h
 rename_i h4;have h1:r.sys.check.2.2=0:=by simpa using h1
 simp only[not_or,Bool.not_eq_false] at h4;exact⟨h1,Sys.ok_of h1,by omega,fun i hi=>firstE_zero (by simpa using h3) i hi,inB_t.1 h4.1,inB_t.1 h4.2.1,inB_t.1 h4.2.2⟩
theorem treatyErr_0{i:Nat}{t:Treaty}(h:r.treatyErr i t=0):isName t.name=true∧(∀x∈r.treaties.take i,x.name≠t.name)∧r.sys.rightErr t.right=0∧(0≤t.days.lo∧t.days.lo≤t.days.hi∧t.days.hi≤40000):=by
 unfold treatyErr at h;split at h;·simp at h
 rename_i h1;split at h;·simp at h
 rename_i h2;split at h
 ·rename_i h3;exact absurd h h3
 rename_i h3;split at h;·simp at h
 rename_i h4;split at h;·simp at h
 rename_i h5;simp only[not_or,Bool.not_eq_false] at h4;have a1:=inB_t.1 h4.1;have a2:=inB_t.1 h4.2;refine⟨by simpa using h1,fun x hx e=>h2 (List.any_eq_true.2 ⟨x,hx,by simpa using e⟩),by simpa using h3,by omega⟩
end Rules
end Go.Rg
end
section
namespace Go.Rg
open Go.Bp
theorem name_len{s:ByteArray}(h:isName s=true):s.data.toList.length≤16:=by
 unfold isName at h;simp only[Bool.and_eq_true] at h;have:=inB_t.1 h.1.1;have e:s.size=s.data.toList.length:=by rw[Array.length_toList];rfl
 omega
theorem flat_len{f:Nat→List UInt8}{B:Nat}:∀(ks:List Nat),(∀k∈ks,(f k).length≤B)→(ks.flatMap f).length≤B*ks.length
 | [],_=>by simp
 |k::ks,h=>by
  rw[List.flatMap_cons,List.length_append,List.length_cons,Nat.mul_succ];have:=h k (by simp)
  have:=flat_len ks (fun x hx=>h x (by simp[hx]))
  omega
namespace Sys
variable{s:Sys}
end Sys
namespace Rules
variable{r:Rules}
theorem treaty_at{i:Int}(hi:0≤i∧i<r.treaties.length):∃h:i.toNat<r.treaties.length,r.treaties.getD i.toNat ⟨ByteArray.empty,⟨0,0⟩,⟨0,0⟩⟩=r.treaties[i.toNat]:=by
 have h:i.toNat<r.treaties.length:=by omega
 exact⟨h,by simp[List.getD,h]⟩
end Rules
end Go.Rg
end
section
namespace Go.Rg
open Go.Bp
namespace Rules
variable(r:Rules)
def writeAns(p:Person):List UInt8×Int:=if r.personErr p≠0 then([],r.personErr p) else(r.textL p.born (sortE p.events),0)
variable{r}
theorem person_ok{p:Person}(h:r.personErr p=0):r.check.2.2=0∧(0≤p.born∧p.born≤40000)∧p.events.length≤30∧∀x∈p.events,r.eventErr p.born x=0:=by
 unfold personErr at h;split at h
 ·rename_i h1;exact absurd h h1
 rename_i h1;split at h;·simp at h
 rename_i h2;split at h;·simp at h
 rename_i h3;have:=inB_t.1 (show inB p.born 0 40000=true by simpa using h2)
 refine⟨by simpa using h1,this,by omega,fun x hx=> ?_⟩
 obtain⟨i,hi,e⟩:=List.mem_iff_getElem.1 hx;rw[←e];exact firstE_zero h i hi
theorem putE_len(x:Event):∀l:List Event,(putE x l).length≤l.length+1
 | []=>by simp[putE]
 |a::l=>by
  unfold putE;split
  ·have:=putE_len x l;simp only[List.length_cons];omega
  ·split<;>simp
theorem sortE_len(l:List Event):(sortE l).length≤l.length:=by
 have key:∀(l o:List Event),(l.foldl (fun o x=>putE x o) o).length≤o.length+l.length:=by
  intro l;induction l with
  |nil=>intro o;simp
  |cons x l ih=>intro o;rw[List.foldl_cons];have:=ih (putE x o);have:=putE_len x o;simp only[List.length_cons];omega
 have:=key l [];unfold sortE;simpa using this
end Rules
end Go.Rg
end
section
namespace Go.Rg
open Go.Bp
namespace Rules
variable(r:Rules)
def sortedAns(p:Person):Int×List Event×Int:=if r.personErr p≠0 then(0,[],r.personErr p) else(p.born,sortE p.events,0)
def bansOf(l:List Event):List Span:=courts l++(r.offs l).bans
def bansAns(p:Person):List Span×Int:=if r.personErr p≠0 then([],r.personErr p) else(runsTo (r.bansOf (sortE p.events)) 40001,0)
def stands(o:Off)(day:Int)(x:Event):Nat:=
 if isOff x=false∨day<x.day then 0
 else if((whenIn o.taken x.day).any fun w=>decide (w≤day))=true then 1
 else if r.fall≤day-x.day then 2 else 3
def sumOf(o:Off)(day:Int)(l:List Event)(n:Nat):Int:=sumL ((l.filter fun x=>decide (r.stands o day x=n)).map fun x=>x.points)
def pointsOf(l:List Event)(day:Int):Points:=⟨r.sumOf (r.offs l) day l 3,r.sumOf (r.offs l) day l 2,r.sumOf (r.offs l) day l 1⟩
def pointsAns(p:Person)(day:Int):Points×Int:=
 if r.personErr p≠0 then(⟨0,0,0⟩,r.personErr p) else if inB day 0 40000=false then(⟨0,0,0⟩,7) else(r.pointsOf (sortE p.events) day,0)
def holds(day:Int)(g:Grant):Bool:=decide (g.day≤day)&&decide (g.reason=0)&&decide (day<g.end_)
def heldL(g:List Grant)(day:Int):List Right:=(g.filter (holds day)).map fun g=>g.right
def heldAns(p:Person)(day:Int):List Right×Int:=
 if r.personErr p≠0 then([],r.personErr p) else if inB day 0 40000=false then([],7) else if day<p.born then([],2)
 else if r.bannedBy (sortE p.events) day≠0 then([],0) else(r.sys.least (heldL (r.grants p.born (sortE p.events)) day),0)
def driveErr(p:Person)(d:Drive):Int:=
 if inB d.day 0 40000=false then 7 else if d.day<p.born then 2 else if inB d.cls 0 (r.sys.classes.length-1)=false then 4 else if inB d.features 0 (r.sys.sets-1)=false then 7 else 0
def against(d:Drive)(g:Grant):Int:=if g.reason≠0 then g.reason else if g.end_≤d.day then 8 else 0
def whyG(g:List Grant)(d:Drive):Int:=
 let n:=(g.filter fun g=>decide (g.day≤d.day)&&r.sys.allow [g.right] d.cls d.features).map (against d)
 if 0∈n then 0 else n.foldl max 3
def whyL(born:Int)(l:List Event)(d:Drive):Int:=if r.bannedBy l d.day≠0 then r.bannedBy l d.day else r.whyG (r.grants born l) d
def whyAns(p:Person)(d:Drive):Int×Int:=
 if r.personErr p≠0 then(0,r.personErr p) else if r.driveErr p d≠0 then(0,r.driveErr p d) else(r.whyL p.born (sortE p.events) d,0)
def wrongL(p:Person)(ds:List Drive):List (Int×Int):=(ds.zipIdx.filter fun q=>decide (r.whyL p.born (sortE p.events) q.1≠0)).map fun q=>((q.2:Int),r.whyL p.born (sortE p.events) q.1)
def wrongAns(p:Person)(ds:List Drive):List (Int×Int)×Int:=
 if r.personErr p≠0 then([],r.personErr p) else if 30<ds.length then([],3)
 else if(firstE ds fun _ d=>r.driveErr p d).2≠0 then([],(firstE ds fun _ d=>r.driveErr p d).2) else(r.wrongL p ds,0)
def twoPass(x y:Event):Bool:=decide (x.kind=0)&&decide (y.kind=0)&&decide (x.day=y.day)&&decide (x.minute-y.minute<60)&&decide (y.minute-x.minute<60)
def pairsL(l:List Event):List (Nat×Nat):=(List.range l.length).flatMap fun a=>((List.range l.length).filter fun b=>decide (a<b)&&twoPass (evAt l a) (evAt l b)).map fun b=>(a,b)
def impostorsAns(p:Person):List (Nat×Nat)×Int:=if r.personErr p≠0 then([],r.personErr p) else(pairsL (sortE p.events),0)
variable{r}
theorem event_days{p:Person}(h:r.personErr p=0):∀x∈sortE p.events,0≤x.day∧x.day≤40000:=fun x hx=>by
 obtain⟨_,_,_,he⟩:=person_ok h;have:=(event_shape (he x ((sortE_mem _ _).1 hx))).1;omega
theorem term_ok(ho:r.Ok)(c:Int):0≤(r.sys.at_ c).term∧(r.sys.at_ c).term≤100:=by
 by_cases hc:c.toNat<r.sys.classes.length
 ·have e:r.sys.at_ c=r.sys.classes[c.toNat]:=by unfold Sys.at_;simp[List.getD,hc]
  rw[e];exact inB_t.1 (Sys.clsErr_0 (ho.sys.cls _ hc)).2.2.2.2.2.2
 ·have e:r.sys.at_ c=⟨ByteArray.empty,[],0,0,0⟩:=by unfold Sys.at_;simp[List.getD,List.getElem?_eq_none (show r.sys.classes.length≤c.toNat by omega)]
  rw[e];simp
end Rules
end Go.Rg
end
section
namespace Go.Rg
open Go Go.Bp Go.RowKit Go.Walk
structure ClsA where
 c:Cls
 a:Option Addr
 k:Nat
instance:Enc Right:=⟨2,fun x=>[.int .i64 x.cls,.int .i64 x.codes],fun x=>.agg #[.int .i64 x.cls,.int .i64 x.codes],fun _=>rfl,by simp[Value.oneCell']⟩
instance:Enc Span:=⟨2,fun x=>[.int .i64 x.lo,.int .i64 x.hi],fun x=>.agg #[.int .i64 x.lo,.int .i64 x.hi],fun _=>rfl,by simp[Value.oneCell']⟩
instance:Enc (Int×Int):=⟨2,fun x=>[.int .i64 x.1,.int .i64 x.2],fun x=>.agg #[.int .i64 x.1,.int .i64 x.2],fun _=>rfl,by simp[Value.oneCell']⟩
instance:Enc Drive:=⟨3,fun x=>[.int .i64 x.day,.int .i64 x.cls,.int .i64 x.features],fun x=>.agg #[.int .i64 x.day,.int .i64 x.cls,.int .i64 x.features],fun _=>rfl,by simp[Value.oneCell']⟩
instance:Enc Treaty:=⟨5,fun x=>[.string x.name,.int .i64 x.right.cls,.int .i64 x.right.codes,.int .i64 x.days.lo,.int .i64 x.days.hi],fun x=>.agg #[.string x.name,.int .i64 x.right.cls,.int .i64 x.right.codes,.int .i64 x.days.lo,.int .i64 x.days.hi],fun _=>rfl,by simp[Value.oneCell']⟩
instance:Enc Grant:=⟨5,fun x=>[.int .i64 x.day,.int .i64 x.right.cls,.int .i64 x.right.codes,.int .i64 x.reason,.int .i64 x.end_],fun x=>.agg #[.int .i64 x.day,.int .i64 x.right.cls,.int .i64 x.right.codes,.int .i64 x.reason,.int .i64 x.end_],fun _=>rfl,by simp[Value.oneCell']⟩
instance:Enc Event:=⟨9,fun x=>[.int .i64 x.kind,.int .i64 x.day,.int .i64 x.right.cls,.int .i64 x.right.codes,.int .i64 x.treaty,.int .i64 x.cls,.int .i64 x.points,.int .i64 x.until_,.int .i64 x.minute],fun x=>.agg #[.int .i64 x.kind,.int .i64 x.day,.int .i64 x.right.cls,.int .i64 x.right.codes,.int .i64 x.treaty,.int .i64 x.cls,.int .i64 x.points,.int .i64 x.until_,.int .i64 x.minute],fun _=>rfl,by simp[Value.oneCell']⟩
instance:Enc ClsA:=⟨5,fun x=>[.string x.c.name,.slice x.a x.c.incl.length x.k,.int .i64 x.c.needs,.int .i64 x.c.age,.int .i64 x.c.term],fun x=>.agg #[.string x.c.name,.slice x.a x.c.incl.length x.k,.int .i64 x.c.needs,.int .i64 x.c.age,.int .i64 x.c.term],fun _=>rfl,by simp[Value.oneCell']⟩
structure ClsV(W:World)(v:Value)(l:List Cls):Prop where
 h:∃m:List ClsA,m.map (·.c)=l∧ListV W v m∧∀x∈m,ListV W (.slice x.a x.c.incl.length x.k) x.c.incl
theorem ClsV.ext{a b:World}{v:Value}{l:List Cls}(h:ClsV a v l)(e:Ext a b):ClsV b v l:=by
 obtain⟨m,h1,h2,h3⟩:=h.h;exact⟨m,h1,h2.ext e,fun x hx=>(h3 x hx).ext e⟩
structure Wf(s:Sys):Prop where
 cls:∀c∈s.classes,c.name.size≤maxLen
 code:∀n∈s.codes,n.size≤maxLen
structure SysV(W:World)(v:Value)(s:Sys):Prop where
 h:∃A n c A' c',v=.agg #[.slice A n c,.slice A' s.codes.length c']∧n=s.classes.length∧ClsV W (.slice A n c) s.classes∧ListV W (.slice A' s.codes.length c') s.codes
 wf:Wf s
structure RulesV(W:World)(v:Value)(r:Rules):Prop where
 h:∃A n c A' c' A2 c2,v=.agg #[.slice A n c,.slice A' r.sys.codes.length c',.slice A2 r.treaties.length c2,.int .i64 r.limit,.int .i64 r.fall,.int .i64 r.ban]∧n=r.sys.classes.length∧ClsV W (.slice A n c) r.sys.classes∧ListV W (.slice A' r.sys.codes.length c') r.sys.codes∧ListV W (.slice A2 r.treaties.length c2) r.treaties
 wf:Wf r.sys∧∀t∈r.treaties,t.name.size≤maxLen
structure PersonV(W:World)(v:Value)(p:Person):Prop where
 h:∃A c,v=.agg #[.int .i64 p.born,.slice A p.events.length c]∧ListV W (.slice A p.events.length c) p.events
section
variable{a b W:World}{v:Value}{s:Sys}{r:Rules}{p:Person}{l:List Cls}
theorem SysV.ext(h:SysV a v s)(e:Ext a b):SysV b v s:=by
 obtain⟨A,n,c,A',c',h1,h2,h3,h4⟩:=h.h;exact⟨⟨A,n,c,A',c',h1,h2,h3.ext e,h4.ext e⟩,h.wf⟩
theorem RulesV.ext(h:RulesV a v r)(e:Ext a b):RulesV b v r:=by
 obtain⟨A,n,c,A',c',A2,c2,h1,h2,h3,h4,h5⟩:=h.h;exact⟨⟨A,n,c,A',c',A2,c2,h1,h2,h3.ext e,h4.ext e,h5.ext e⟩,h.wf⟩
theorem PersonV.ext(h:PersonV a v p)(e:Ext a b):PersonV b v p:=by
 obtain⟨A,c,h1,h2⟩:=h.h;exact⟨A,c,h1,h2.ext e⟩
theorem RulesV.sys{A A' A2:Option Addr}{n n' n2 c c' c2:Nat}{x y z:Int}(h:RulesV W (.agg #[.slice A n c,.slice A' n' c',.slice A2 n2 c2,.int .i64 x,.int .i64 y,.int .i64 z]) r):SysV W (.agg #[.slice A n c,.slice A' n' c']) r.sys:=by
 obtain⟨B,m,k,B',k',B2,k2,h1,h2,h3,h4,h5⟩:=h.h;simp only[Value.agg.injEq,Array.mk.injEq,List.cons.injEq,Value.slice.injEq] at h1;obtain⟨⟨rfl,rfl,rfl⟩,⟨rfl,rfl,rfl⟩,_⟩:=h1;exact⟨⟨_,_,_,_,_,rfl,h2,h3,h4⟩,h.wf.1⟩
class ClsB (w:outParam World) (v:Value) (l:outParam (List Cls)):Prop where h:ClsV w v l
class ClsC (W:World) (v:Value) (l:outParam (List Cls)):Prop where h:ClsV W v l
class SysB (w:outParam World) (v:Value) (s:outParam Sys):Prop where h:SysV w v s
class SysC (W:World) (v:Value) (s:outParam Sys):Prop where h:SysV W v s
class RulesB (w:outParam World) (v:Value) (r:outParam Rules):Prop where h:RulesV w v r
class RulesC (W:World) (v:Value) (r:outParam Rules):Prop where h:RulesV W v r
class PersonB (w:outParam World) (v:Value) (p:outParam Person):Prop where h:PersonV w v p
class PersonC (W:World) (v:Value) (p:outParam Person):Prop where h:PersonV W v p
instance[p:ClsB a v l][q:ExtC a W]:ClsC W v l:=⟨p.h.ext q.h⟩
instance[p:SysB a v s][q:ExtC a W]:SysC W v s:=⟨p.h.ext q.h⟩
instance[p:RulesB a v r][q:ExtC a W]:RulesC W v r:=⟨p.h.ext q.h⟩
instance[i:PersonB a v p][q:ExtC a W]:PersonC W v p:=⟨i.h.ext q.h⟩
end
end Go.Rg
end
