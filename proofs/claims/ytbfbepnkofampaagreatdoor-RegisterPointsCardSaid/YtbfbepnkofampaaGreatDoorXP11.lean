import Derived.Test.YtbfbepnkofampaaGreatDoorXP10
set_option maxRecDepth 100000
set_option synthInstance.maxSize 2000
set_option synthInstance.maxHeartbeats 400000
set_option maxHeartbeats 8000000
set_option linter.all false
section
namespace Go.Rg
open Go Go.Bp Go.RowKit Go.Walk Go.Proofs
theorem encB:∀b:List Bool,encL b=b.map Value.bool
 | []=>rfl
 |x::b=>by rw[eZ,encB b];rfl
theorem iH{W:World}{g j:Nat}{b:List Bool}(h:Blk W g 4 (encL b).toArray)(hj:j<b.length):W.cell? ⟨g,j,none⟩=some (.bool (b.getD j false)):=by
 rw[h.cell,encB];simp[List.getD,hj]
theorem dU{W:World}{g g':Nat}{t t':TypeId}{l l':Array Value}(h:Blk W g t l)(k:Blk W g' t' l')(hn:t≠t'):g≠g':=fun e=>by
 subst e;unfold Blk at h k;rw[h] at k;injection k with k;injection k with _ k;exact hn k
section
variable{P:Program}{ops:Array Oper}{Q:Exit→Act→World→Prop}{A:Act}{W:World}{rest:List Oper}
variable{d:Option Tmp}{ty t:TypeId}{pos:String}{after:Array Edge}{x y:Operand}
theorem bstore{g off:Nat}{e:TypeId}{cs:Array Value}{v:Value}{z:List Value}[q:ZeroT P t z](hB:Blk W g e cs)(k:∀W',StoreC W W' g→Blk W' g e (cs.setIfInBounds off v)→wpList P ops Q rest (A.put d undef) W')
 (h:A.eval x=.pointer (some ⟨g,off,none⟩)∧A.eval y=v∧z.length=1∧v.cells=#[v]∧off<cs.size∧v.oneCell'=true):
 wpList P ops Q (⟨d,.store t x y,ty,pos,after,none⟩::rest) A W:=
 Iw h.1 h.2.1 hB (by have:=q.size;rw[h.2.2.1] at this;exact this) h.2.2.2.1 h.2.2.2.2.1 h.2.2.2.2.2 fun W' h1 h2=>k W' ⟨h2⟩ h1
end
theorem oU{b:List Bool}{j:Nat}:(encL b).toArray.setIfInBounds j (.bool true)=(encL (b.set j true)).toArray:=by
 rw[encB,encB,List.setIfInBounds_toArray,List.map_set]
structure Around(W:World)(gi gb g1 gs g4:Nat)(A:Option Addr)(n k:Nat)(v2 v3:Value):Prop where
 is_:Blk W gi 181 #[.slice (some ⟨gb,0,none⟩) n n]
 sp:Blk W g1 172 #[.pointer (some ⟨gs,0,none⟩)]
 sys:Blk W gs 177 #[.slice A n k,v2,v3]
 cov:Blk W g4 285 #[.func (.func 228) #[] #[.pointer (some ⟨gi,0,none⟩),.pointer (some ⟨g1,0,none⟩),.pointer (some ⟨g4,0,none⟩)]]
theorem Around.keep{W W':World}{gi gb g1 gs g4:Nat}{A:Option Addr}{n k:Nat}{v2 v3:Value}(h:Around W gi gb g1 gs g4 A n k v2 v3){cs:Array Value}(hb:Blk W gb 4 cs)(hg:W.grownBy W' (some gb)):Around W' gi gb g1 gs g4 A n k v2 v3:=
 ⟨h.is_.grown hg (fun e=>dU h.is_ hb (by decide) (Option.some.inj e)),h.sp.grown hg (fun e=>dU h.sp hb (by decide) (Option.some.inj e)),h.sys.grown hg (fun e=>dU h.sys hb (by decide) (Option.some.inj e)),h.cov.grown hg (fun e=>dU h.cov hb (by decide) (Option.some.inj e))⟩
theorem Fs(s:Sys)(hi:s.InclOk)(v0:World)(gi gb g1 gs g4:Nat)(A:Option Addr)(n k:Nat)(v2 v3:Value)(hC:ClsV v0 (.slice A n k) s.classes)(hn:n=s.classes.length)(hg0:v0.heap.size≤gb):
 ∀(m j:Nat)(b:List Bool)(W:World),Sys.left b≤m→b.length=n→j<n→Ext v0 W→Around W gi gb g1 gs g4 A n k v2 v3→Blk W gb 4 (encL b).toArray→
 Calls Tryz.prog 228 #[.int .i64 j,.pointer (some ⟨gi,0,none⟩),.pointer (some ⟨g1,0,none⟩),.pointer (some ⟨g4,0,none⟩)] W (fun e W'=>e=.returned (.tuple #[])∧W.grownBy W' (some gb)∧∃b',Sys.Post s b b' [(j:Int)]∧Blk W' gb 4 (encL b').toArray):=by
 have key:∀(_ j:Nat)(b:List Bool)(W:World),(b.getD j false=false→∀(j':Nat)(b2:List Bool)(W2:World),Sys.left b2≤Sys.left (b.set j true)→b2.length=n→j'<n→Ext v0 W2→Around W2 gi gb g1 gs g4 A n k v2 v3→Blk W2 gb 4 (encL b2).toArray→
  Calls Tryz.prog 228 #[.int .i64 j',.pointer (some ⟨gi,0,none⟩),.pointer (some ⟨g1,0,none⟩),.pointer (some ⟨g4,0,none⟩)] W2 (fun e W'=>e=.returned (.tuple #[])∧W2.grownBy W' (some gb)∧∃b',Sys.Post s b2 b' [(j':Int)]∧Blk W' gb 4 (encL b').toArray))→
  b.length=n→j<n→Ext v0 W→Around W gi gb g1 gs g4 A n k v2 v3→Blk W gb 4 (encL b).toArray→
  Calls Tryz.prog 228 #[.int .i64 j,.pointer (some ⟨gi,0,none⟩),.pointer (some ⟨g1,0,none⟩),.pointer (some ⟨g4,0,none⟩)] W (fun e W'=>e=.returned (.tuple #[])∧W.grownBy W' (some gb)∧∃b',Sys.Post s b b' [(j:Int)]∧Blk W' gb 4 (encL b').toArray):=by
  intro m j b W ih hl hj hE hA hB;obtain⟨ms,hm1,hm2,hm3⟩:=hC.h;have hml:ms.length=n:=by rw[hn,←hm1,List.length_map]
  obtain⟨-,q1,q2⟩:=hm2.caps;have c1:=iH hB (by omega:j<b.length)
  obtain⟨bj,hbj⟩:∃x,b.getD j false=x:=⟨_,rfl⟩;rw[hbj] at c1;have i1:BlkC W gi 181 [.slice (some ⟨gb,0,none⟩) n n]:=⟨hA.is_⟩;have i2:BlkC W g1 172 [.pointer (some ⟨gs,0,none⟩)]:=⟨hA.sp⟩;have i3:BlkC W gs 177 [.slice A n k,v2,v3]:=⟨hA.sys⟩;have i4:BlkC W g4 285 [.func (.func 228) #[] #[.pointer (some ⟨gi,0,none⟩),.pointer (some ⟨g1,0,none⟩),.pointer (some ⟨g4,0,none⟩)]]:=⟨hA.cov⟩
  cases bj with
  |true=>
   have hp:=Lib.hid (Sys.Post.marked (s:=s) (b:=b) (c:=(j:Int)) (by simpa using hbj))
   clear ih hbj;go_enter Tryz.func228,Tryz.ntmps228
   go_wp2_with (first|(with_reducible refine aA ?_))
   (first|refine bodyPost_ret (results_none rfl _ _ _) (by rfl) ?_)
   exact⟨rfl,World.grownBy.refl _ _,b,hp.out,hB⟩
  |false=>
   have ih:=Lib.hid (ih hbj);obtain⟨x,hx⟩:∃x,ms[j]'(by omega)=x:=⟨_,rfl⟩
   have hxm:x∈ms:=by rw[←hx];exact List.getElem_mem _
   have hI:=hm3 x hxm;obtain⟨ad,rfl,hcx⟩:=hm2.elem (i:=j) (by omega)
   rw[hx] at hcx;have hat:(s.at_ j).incl=x.c.incl:=by
    rw[Sys.at_eq (by omega:j<s.classes.length)]
    have:s.classes[j]'(by omega)=x.c:=by rw[←hx];simp[←hm1]
    rw[this]
   have hjn:(j:Int)<(n:Int):=by omega
   have H:=Lib.hid (show∀(bk:List Bool)(q:Nat),Sys.Post s (b.set j true) bk (x.c.incl.take q)→bk.length=n∧Sys.left bk≤Sys.left (b.set j true) from fun bk q h=>⟨by rw[h.len,List.length_set];exact hl,Sys.left_le h.len h.mono⟩)
   have Hy:=Lib.hid (show∀y∈x.c.incl,0≤y∧y<n from fun y hy=>by rw[←hat] at hy;have:=hi _ y hy;omega)
   have Hend:=Lib.hid (show∀bk,Sys.Post s (b.set j true) bk x.c.incl→Sys.Post s b bk [(j:Int)] from fun bk h=>Sys.Post.enter (c:=(j:Int)) (by omega) (by simpa [hl] using hj) (by simpa [hat] using h))
   have Hl:=Lib.hid hl;obtain⟨⟨nm,ic,ne,ag,te⟩,xa,xk⟩:=x;simp only at hI H Hy Hend hcx;obtain⟨-,q3,q4⟩:=hI.caps;have i8:CellsB v0 (ad.add (j*5)) [.string nm,.slice xa ic.length xk,.int .i64 ne,.int .i64 ag,.int .i64 te]:=⟨hcx⟩;have Hn:=Lib.hid hn;have hjb:j<(encL b).toArray.size:=by rw[encB];simp;omega
   clear hat hx hxm hcx hbj hn hl hml hm1 hm3;go_enter Tryz.func228,Tryz.ntmps228
   go_wp2_with (first|(with_reducible refine aA ?_)|((with_reducible refine bstore (off:=j) (v:=.bool true) hB ?_ ⟨by with_unfolding_all rfl,by with_unfolding_all rfl,by with_unfolding_all rfl,by with_unfolding_all rfl,hjb,by with_unfolding_all rfl⟩);intro V hs hB2;rw[oU] at hB2;have hA2:=hA.keep hB hs.h;have iE:StepC v0 V:=⟨fM hE hs.h hg0 hE.size⟩;have i1:BlkC V gi 181 [.slice (some ⟨gb,0,none⟩) n n]:=⟨hA2.is_⟩;have i2:BlkC V g1 172 [.pointer (some ⟨gs,0,none⟩)]:=⟨hA2.sp⟩;have i3:BlkC V gs 177 [.slice (some ad) n k,v2,v3]:=⟨hA2.sys⟩))
   go_loopw [24] (fun iv wr=>W.grownBy wr (some gb)∧∃q:Nat,q≤ic.length∧iv=.int .i64 q∧∃bk,Sys.Post s (b.set j true) bk (ic.take q)∧Blk wr gb 4 (encL bk).toArray) (fun iv _=>ic.length-(intOf iv).toNat)
   case atStart=>exact⟨hs.h,0,by omega,rfl,_,by simpa using Sys.Post.nil _,hB2⟩
   case round=>
    obtain⟨hgr,q,hq,rfl,bk,hbk,hBk⟩:=hrel;by_cases hlt:q<ic.length
    ·have hA3:=hA.keep hB hgr;have iE3:StepC v0 wr:=⟨fM hE hgr hg0 hE.size⟩;obtain⟨ad2,rfl,hcy⟩:=hI.elem hlt;have hy:=Hy.out ic[q] (List.getElem_mem hlt);obtain⟨y,hyy⟩:∃y:Nat,ic[q]=(y:Int):=⟨ic[q].toNat,by omega⟩
     have i9:CellsB v0 (ad2.add q) [.int .i64 y]:=⟨by rw[←hyy];simpa [Enc.size,Enc.enc] using hcy⟩
     have i5:BlkC wr g4 285 [.func (.func 228) #[] #[.pointer (some ⟨gi,0,none⟩),.pointer (some ⟨g1,0,none⟩),.pointer (some ⟨g4,0,none⟩)]]:=⟨hA3.cov⟩;obtain⟨l1,l2⟩:=H.out bk q hbk;have hcall:=ih.out y bk wr l2 l1 (by omega) iE3.h hA3 hBk
     have Hs:=Lib.hid (show∀b',Sys.Post s bk b' [(y:Int)]→Sys.Post s (b.set j true) b' (ic.take (q+1)) from fun b' h=>by
      rw[List.take_succ_eq_append_getElem hlt,hyy];exact hbk.seq h)
     have Hc:=Lib.hid hcall;clear hcall hcy hyy hy hbk l1 l2;go_wp2_with (first|(with_reducible refine aA ?_)|(refine Hc.out.mono ?_;rintro e V2 ⟨rfl,hg2,b3,hb3,hB3⟩))
     go_roundw
     case rel=>exact⟨bN hgr hg2,q+1,by omega,by go_num,b3,Hs.out b3 hb3,hB3⟩
     case measure=>simp[intOf];omega
    ·obtain rfl:q=ic.length:=by omega
     rw[List.take_length] at hbk;go_wp2
     (first|refine bodyPost_end (results_none rfl _ _ _) (by rfl) ?_)
     exact⟨rfl,hgr,bk,Hend.out bk hbk,hBk⟩
 intro m;induction m with
 |zero=>
  intro j b W hm hl hj hE hA hB;refine key 0 j b W (fun h0=> ?_) hl hj hE hA hB
  have:=Sys.left_set (by omega:j<b.length) h0
  omega
 |succ m ih=>
  intro j b W hm hl hj hE hA hB;refine key 0 j b W (fun h0 j' b2 W2 h2=> ?_) hl hj hE hA hB
  have:=Sys.left_set (by omega:j<b.length) h0
  exact ih j' b2 W2 (by omega)
end Go.Rg
end
section
namespace Go.Rg
open Go Go.Bp Go.RowKit Go.Walk Go.Proofs
abbrev vC(x:ClsA):Value:=.agg #[.string x.c.name,.slice x.a x.c.incl.length x.k,.int .i64 x.c.needs,.int .i64 x.c.age,.int .i64 x.c.term]
theorem enters_cls1:∀(args:Array Value)(W:World),(callFunc 226 args).run Tryz.prog W=.ok (.enter 226 args) W:=enters_of Tryz.func226 (by kernel_rfl) rfl
theorem Ky(x:ClsA)(g:Nat)(nm:ByteArray)(a b c d:Value)(w:World)[h:BlkC w g 106 [.string nm,a,b,c,d]]:Calls Tryz.prog 226 #[vC x,.pointer (some ⟨g,0,none⟩)] w (RB w (decide (x.c.name=nm))):=by
 obtain⟨⟨n,i,ne,ag,te⟩,xa,xk⟩:=x;simp only;have hn:=tE n nm;obtain⟨r,hr⟩:∃r,decide (n=nm)=r:=⟨_,rfl⟩;rw[hr] at hn⊢;clear hr;go_enter Tryz.func226,Tryz.ntmps226
 go_wp2_with (first|(with_reducible refine aA ?_)|(with_reducible refine aH ?_;intro V g _ _ _))
 go_ret
 exact⟨rfl,⟨ExtC.h⟩⟩
instance{W:World}{g:Nat}{nm:ByteArray}{a b c d:Value}{l:List ClsA}[p:BlkC W g 106 [.string nm,a,b,c,d]]:PredC ClsA W (.func (.func 226) #[] #[.pointer (some ⟨g,0,none⟩)]) l (fun x=>decide (x.c.name=nm)):=
 ⟨_,_,rfl,enters_cls1,fun x _ W' hE=>by
  have:BlkC W' g 106 [.string nm,a,b,c,d]:=⟨p.h.ext hE⟩;exact(Ky x g nm a b c d W').mono fun e W2 ⟨h,hE⟩=>⟨h,hE.h⟩⟩
theorem uY{m:List ClsA}{l:List Cls}(h:m.map (·.c)=l)(i:Nat)(p:Cls→Bool):((m.take i).any fun x=>p x.c)=(l.take i).any p:=by
 rw[←h,←List.map_take,List.any_map];rfl
theorem Fw(gs i:Nat)(A:Option Addr)(n c:Nat)(v2 v3:Value)(s:Sys)(x:ClsA)(w:World)[hB:BlkC w gs 177 [.slice A n c,v2,v3]](hC:ClsV w (.slice A n c) s.classes)(hn:n=s.classes.length)(hn2:n≤1000)(hi:i≤n)(hI:ListV w (.slice x.a x.c.incl.length x.k) x.c.incl)(hz:x.c.name.size≤maxLen):
 Calls Tryz.prog 166 #[.pointer (some ⟨gs,0,none⟩),.int .i64 i,vC x] w (RI w (s.clsErr i x.c)):=by
 obtain⟨m,hm1,hm2,-⟩:=hC.h;have hml:m.length=n:=by rw[hn,←hm1,List.length_map]
 have i3:=ListB.mk (hm2.upto hi);have ht:=uY hm1 i fun y=>decide (y.name=x.c.name)
 obtain⟨-,h1,h2⟩:=hm2.caps;obtain⟨-,h3,h4⟩:=hI.caps;obtain⟨⟨nm,ic,ne,ag,te⟩,xa,xk⟩:=x;simp only at ht hI hz h3 h4⊢;have i4:=ListB.mk hI;have i5:=SzC.mk hz;have hic:i≤c:=by omega
 have z1:IntKind.i64.wrap ((n:Int)-1)=(n:Int)-1:=IntWalk.i64_in _ (by omega)
 have z2:decide ((ic.length:Int)>(n:Int))=decide (n<ic.length):=by simp
 unfold Sys.clsErr;simp only;rw[←ht,←hn];obtain⟨d1,e1⟩:∃b,isName nm= !b:=⟨!isName nm,by simp⟩
 obtain⟨d2,e2⟩:∃b,((m.take i).any fun y=>decide (y.c.name=nm))=b:=⟨_,rfl⟩
 obtain⟨d4,e4⟩:∃b,outB 0 ((n:Int)-1) ic=b:=⟨_,rfl⟩;obtain⟨d5,e5⟩:∃b,outB (-1) ((n:Int)-1) [ne]=b:=⟨_,rfl⟩;obtain⟨d7,e7⟩:∃b,outB 0 100 [ag,te]=b:=⟨_,rfl⟩;obtain⟨d3,e3⟩:∃b,decide (n<ic.length)=b:=⟨_,rfl⟩;obtain⟨d6,e6⟩:∃b,(ne==(i:Int))=b:=⟨_,rfl⟩;have e:(if isName nm=false then 6 else if((m.take i).any fun y=>decide (y.c.name=nm))=true then 5 else if n<ic.length then 3 else if(ic.all fun k=>inB k 0 ((n:Int)-1))=false∨inB ne (-1) ((n:Int)-1)=false then 4 else if ne=(i:Int) then 2 else if inB ag 0 100=false∨inB te 0 100=false then 7 else 0:Int)=
  firstT [(d1,6),(d2,5),(d3,3),(d4,4),(d5,4),(d6,2),(d7,7)] 0:=by
  have o1:outB 0 ((n:Int)-1) ic= !(ic.all fun k=>inB k 0 ((n:Int)-1)):=by unfold outB;rw[List.all_eq_not_any_not,Bool.not_not]
  have o3:(n<ic.length)=(d3=true):=by rw[←e3];simp
  have o6:(ne=(i:Int))=(d6=true):=by rw[←e6];simp
  rw[e1,e2,←e4,←e5,←e7,o1,bL,zT];simp only[o3,o6];clear e3 e6
  cases(ic.all fun k=>inB k 0 ((n:Int)-1))<;>cases inB ne (-1) ((n:Int)-1)<;>cases inB ag 0 100<;>cases inB te 0 100<;>cases d1<;>cases d2<;>cases d3<;>cases d6<;>rfl
 rw[e];clear e ht hn hm1 hml;go_enter Tryz.func166,Tryz.ntmps166
 go_wp2_with (first|(with_reducible refine aA ?_)|(with_reducible refine aB ?_;first|rintro _ V ⟨rfl,(_:StepC _ _)⟩)|(with_reducible refine aH ?_;intro V g _ _ _))
 all_goals(try(go_ret;refine⟨?_,⟨ExtC.h⟩⟩;first|(simp only[*];rfl)))
 refine aP ((.take 0 (.take 1 (.take 2 (.take 3 (.take 4 (.take 5 (.take 6 (.take 7 (.take 8 (.take 9 (.take 10 .nil)))))))))))) (fun hHd=> ?_) (hQ:=by intro _ _ _ _ _ h;exact h)
 repeat' first|((with_reducible refine aX ?_);(first|(refine tk (v:= ?_) ?_ hHd ?_;rotate_left;(·(intro W' h;have:=StepC.mk h;first|with_reducible exact aJ)))|(refine tk (v:= ?_) ?_ hHd ?_;rotate_left;(·(intro wq hSw;go_simp;(try with_reducible rfl)))));(try simp only[pS]))|(with_reducible refine aF ?_)
 go_wp2_with (first|go_skip|(with_reducible refine aA ?_)|(with_reducible refine bA ?_)|(with_reducible refine bH ?_)|(with_reducible refine aB ?_;first|rintro _ V ⟨rfl,(_:StepC _ _)⟩)|(with_reducible refine aD ?_;intro V g _ _ _))
 all_goals(try(go_ret;refine⟨?_,⟨ExtC.h⟩⟩;first|(simp only[*];rfl)))
theorem Kv(gs i:Nat)(A:Option Addr)(n c:Nat)(v1 v3:Value)(s:Sys)(w:World)[hB:BlkC w gs 177 [v1,.slice A n c,v3]](hC:ListV w (.slice A n c) s.codes)(hi:i<n)(hz:(s.codes.getD i ByteArray.empty).size≤maxLen):
 Calls Tryz.prog 168 #[.pointer (some ⟨gs,0,none⟩),.int .i64 i,.string (s.codes.getD i ByteArray.empty)] w (RI w (nameErr s.codes i)):=by
 have i3:=ListB.mk (hC.upto (k:=i) (by omega))
 obtain⟨-,h1,h2⟩:=hC.caps;obtain⟨nm,hnm⟩:∃x,s.codes.getD i ByteArray.empty=x:=⟨_,rfl⟩;rw[hnm] at hz⊢;have i5:=SzC.mk hz;have hic:i≤c:=by have:=hC.caps;omega
 obtain⟨d1,e1⟩:∃b,isName nm= !b:=⟨!isName nm,by simp⟩
 obtain⟨d2,e2⟩:∃b,((s.codes.take i).any fun y=>decide (nm=y))=b:=⟨_,rfl⟩
 have e:nameErr s.codes i=firstT [(d1,6),(d2,5)] 0:=by
  unfold nameErr;rw[hnm,e1];have:(nm∈s.codes.take i)↔d2=true:=by rw[←e2];simp
  simp only[this];clear e2 this
  cases d1<;>cases d2<;>rfl
 rw[e];clear e hnm;go_enter Tryz.func168,Tryz.ntmps168
 go_wp2_with (first|(with_reducible refine aA ?_)|(with_reducible refine aB ?_;first|rintro _ V ⟨rfl,(_:StepC _ _)⟩))
 all_goals(try(go_ret;refine⟨?_,⟨ExtC.h⟩⟩;first|(simp only[*];rfl)))
theorem If(gs:Nat)(A:Option Addr)(n c:Nat)(v1 v3:Value)(w:World)[hB:BlkC w gs 177 [v1,.slice A n c,v3]](hn:n≤8):Calls Tryz.prog 96 #[.pointer (some ⟨gs,0,none⟩)] w (RI w (2^n)):=by
 have z:IntKind.i64.wrap (2^n)=2^n:=IntWalk.i64_in _ (by
  have:∀k:Nat,k≤8→(0:Int)≤2^k∧(2:Int)^k≤256:=by decide
  have:=this n hn;omega)
 go_enter Tryz.func96,Tryz.ntmps96
 go_wp2_with (first|(with_reducible refine aA ?_))
 all_goals(try(go_ret;refine⟨?_,⟨ExtC.h⟩⟩;first|rfl))
class PowE (n:Nat) (M:outParam Int):Prop where h:n≤8∧(2:Int)^n=M
instance{W:World}{gs n c:Nat}{M:Int}{A:Option Addr}{v1 v3:Value}[hB:BlkC W gs 177 [v1,.slice A n c,v3]][h:PowE n M]:FunC Tryz.prog 96 #[.pointer (some ⟨gs,0,none⟩)] W (RI W M):=⟨by rw[←h.h.2];exact If _ _ _ _ _ _ _ h.h.1⟩
theorem eU{n:Nat}(h:n≤8):(1:Int)≤2^n∧(2:Int)^n≤256:=by
 have:∀k:Nat,k≤8→(1:Int)≤2^k∧(2:Int)^k≤256:=by decide
 exact this n h
class SysN (s:outParam Sys) (n k:Nat):Prop where h:n=s.classes.length∧k=s.codes.length∧n≤12∧k≤8
theorem enters_right1:∀(args:Array Value)(W:World),(callFunc 223 args).run Tryz.prog W=.ok (.enter 223 args) W:=enters_of Tryz.func223 (by kernel_rfl) rfl
theorem zF(g gs n k c c':Nat)(A A':Option Addr)(v3:Value)(i a b:Int)(s:Sys)(w:World)[h1:BlkC w g 172 [.pointer (some ⟨gs,0,none⟩)]][h2:BlkC w gs 177 [.slice A n c,.slice A' k c',v3]](hn:n=s.classes.length)(hk:k=s.codes.length)(hn2:n≤12)(hk2:k≤8):
 Calls Tryz.prog 223 #[.int .i64 i,.agg #[.int .i64 a,.int .i64 b],.pointer (some ⟨g,0,none⟩)] w (RI w (s.rightErr ⟨a,b⟩)):=by
 have:=eU hk2;obtain⟨M,hM⟩:∃M:Int,2^k=M:=⟨_,rfl⟩;have i2:PowE k M:=⟨hk2,hM⟩;rw[hM] at this;have z1:IntKind.i64.wrap ((n:Int)-1)=(n:Int)-1:=IntWalk.i64_in _ (by omega)
 have z2:IntKind.i64.wrap (M-1)=M-1:=IntWalk.i64_in _ (by omega)
 obtain⟨d1,e1⟩:∃b,outB 0 ((n:Int)-1) [a]=b:=⟨_,rfl⟩;obtain⟨d2,e2⟩:∃d,outB 0 (M-1) [b]=d:=⟨_,rfl⟩;have e:s.rightErr ⟨a,b⟩=firstT [(d1,4),(d2,7)] 0:=by
  unfold Sys.rightErr Sys.sets;rw[←e1,←e2,bL,bL,←hM,hn,hk]
  cases inB a 0 ((s.classes.length:Int)-1)<;>cases inB b 0 (2^s.codes.length-1)<;>rfl
 rw[e];clear e hn hk hM;go_enter Tryz.func223,Tryz.ntmps223
 go_wp2_with (first|(with_reducible refine aH ?_;intro V g _ _ _))
 all_goals(try(go_ret;refine⟨?_,⟨ExtC.h⟩⟩;first|rfl|(simp only[*];rfl)|(simp only[Bool.not_eq_true] at *;simp only[*];rfl)))
 refine aP ((.take 0 (.take 1 (.take 2 (.take 3 (.take 4 (.take 5 (.take 6 (.take 7 (.take 8 (.one 9 (.one 10 (.take 11 .nil))))))))))))) (fun hHd=> ?_) (hQ:=by intro _ _ _ _ _ h;exact h)
 repeat' first|((with_reducible refine aX ?_);(first|(refine tk (v:= ?_) ?_ hHd ?_;rotate_left;(·(intro W' h;have:=StepC.mk h;first|with_reducible exact aJ)))|(refine tk (v:= ?_) ?_ hHd ?_;rotate_left;(·(intro wq hSw;go_simp;(try with_reducible rfl)))));(try simp only[pS]))|((with_reducible refine bC ?_);refine aQ (by simp only[gS];rfl) ?_)|(with_reducible refine aD ?_;intro V g _ _ _)|((with_reducible refine aN ?_);first|(rintro _ V ⟨rfl,(_:StepC _ _)⟩;refine⟨_,rfl,?_⟩))|((with_reducible refine bD ?_);clear hHd;refine aM ExtC.h (fun hHd=> ?_);(try simp only[pS]))|(with_reducible refine aF ?_)
 go_wp2
 all_goals(try(go_ret;refine⟨?_,⟨ExtC.h⟩⟩;first|(simp only[*];rfl)))
 refine aP ((.take 0 (.take 3 (.take 4 (.two 1 (.take 2 (.one 5 (.one 6 (.take 7 .nil)))) 5 (.one 1 (.take 2 (.one 6 (.take 7 .nil))))))))) (fun hHd=> ?_) (hQ:=by intro _ _ _ _ _ h;exact h)
 repeat' first|((with_reducible refine aX ?_);(first|(refine tk (v:= ?_) ?_ hHd ?_;rotate_left;(·(intro W' h;have:=StepC.mk h;first|with_reducible exact aJ)))|(refine tk (v:= ?_) ?_ hHd ?_;rotate_left;(·(intro wq hSw;go_simp;(try with_reducible rfl)))));(try simp only[pS]))|((with_reducible refine bC ?_);refine aQ (by simp only[gS];rfl) ?_)|((with_reducible refine gK ?_);refine dV (by simp only[gS];rfl) (by simp only[gS];rfl) ?_ ?_)|(with_reducible refine aD ?_;intro V g _ _ _)|((with_reducible refine aN ?_);first|(rintro _ V ⟨rfl,(_:StepC _ _)⟩;refine⟨_,rfl,?_⟩))|((with_reducible refine bD ?_);clear hHd;refine aM ExtC.h (fun hHd=> ?_);(try simp only[pS]))|(with_reducible refine aF ?_)
 all_goals
  go_wp2
  all_goals(try(go_ret;refine⟨?_,⟨ExtC.h⟩⟩;first|(simp only[*];rfl)))
instance{W:World}{g gs n k c c':Nat}{A A':Option Addr}{v3:Value}{l:List Right}{s:Sys}[h1:BlkC W g 172 [.pointer (some ⟨gs,0,none⟩)]][h2:BlkC W gs 177 [.slice A n c,.slice A' k c',v3]][h3:SysN s n k]:ChkC Right W (.func (.func 223) #[] #[.pointer (some ⟨g,0,none⟩)]) l (fun _ r=>s.rightErr r):=
 ⟨_,#[],_,rfl,enters_right1,fun q hq W' hE=>by
  have i1:BlkC W' g 172 [.pointer (some ⟨gs,0,none⟩)]:=⟨h1.h.ext hE⟩;have i2:BlkC W' gs 177 [.slice A n c,.slice A' k c',v3]:=⟨h2.h.ext hE⟩;obtain⟨a1,a2,a3,a4⟩:=h3.h;exact(zF g gs n k c c' A A' v3 q l[q].cls l[q].codes s W' a1 a2 a3 a4).mono fun e W2 ⟨h,hE⟩=>⟨h,hE.h⟩⟩
theorem zD(gs n k c c':Nat)(A A':Option Addr)(v v3:Value)(l:List Right)(s:Sys)(w:World)[h2:BlkC w gs 177 [.slice A n c,.slice A' k c',v3]][h3:SysN s n k](h:ListV w v l):
 Calls Tryz.prog 160 #[.pointer (some ⟨gs,0,none⟩),v] w (RI w (s.rightsErr l)):=by
 obtain⟨B,m,rfl,q1,q2⟩:∃B m,v=.slice B l.length m∧l.length≤m∧m≤2^63-1:=by
  obtain⟨B,m,h1,h2,h3⟩:=h.form;unfold maxLen at h3;exact⟨B,m,h1,h2,h3⟩
 have i1:=ListB.mk h;unfold Sys.rightsErr;obtain⟨⟨a,r⟩,hr⟩:∃x,(firstE l fun _ r=>s.rightErr r)=x:=⟨_,rfl⟩
 by_cases h40:40<l.length
 ·have z:((l.length:Int)>40):=by omega
  rw[if_pos h40];go_enter Tryz.func160,Tryz.ntmps160
  go_wp2_with (first|(with_reducible refine aH ?_;intro V g _ _ _))
  all_goals(try(go_ret;refine⟨?_,⟨ExtC.h⟩⟩;first|rfl))
 ·have z:¬((l.length:Int)>40):=by omega
  rw[if_neg h40,hr];go_enter Tryz.func160,Tryz.ntmps160
  go_wp2_with (first|(with_reducible refine aB ?_;first|rintro _ V ⟨rfl,(_:StepC _ _)⟩)|(with_reducible refine aH ?_;intro V g _ _ _))
  all_goals(try(go_ret;refine⟨?_,⟨ExtC.h⟩⟩;first|rfl))
structure CovO(B:World)(W:World)(v:Value)(n:Nat)(L:List (List Bool)):Prop where
 h:∃gs:List Nat,gs.length=L.length∧W.ownsRow B.heap.size 181 1 v L.length (gs.map fun g=>.slice (some ⟨g,0,none⟩) n n)∧∀k(h:k<gs.length),Blk W gs[k] 4 (encL (L.getD k [])).toArray∧(L.getD k []).length=n
theorem CovO.ext{B a b:World}{v:Value}{n:Nat}{L:List (List Bool)}(h:CovO B a v n L)(e:Ext a b):CovO B b v n L:=by
 obtain⟨gs,h1,h2,h3⟩:=h.h;exact⟨gs,h1,mC h2 e,fun k hk=>⟨(h3 k hk).1.ext e,(h3 k hk).2⟩⟩
theorem CovO.store{B a b:World}{v:Value}{n g:Nat}{t:TypeId}{cs:Array Value}{L:List (List Bool)}(h:CovO B a v n L)(hB:Blk a g t cs)(h1:t≠4)(h2:181≠t)(hg:a.grownBy b (some g)):CovO B b v n L:=by
 obtain⟨gs,k1,k2,k3⟩:=h.h;exact⟨gs,k1,sO k2 hg (zS k2 hB (.inl h2)),fun k hk=>⟨(k3 k hk).1.grown hg (fun e=>dU (k3 k hk).1 hB (Ne.symm h1) (Option.some.inj e)),(k3 k hk).2⟩⟩
theorem CovO.snoc{B a b:World}{v v':Value}{n g:Nat}{L:List (List Bool)}{x:List Bool}(h:∃gs:List Nat,gs.length=L.length∧a.ownsRow B.heap.size 181 1 v L.length (gs.map fun g=>.slice (some ⟨g,0,none⟩) n n)∧(∀k(h:k<gs.length),Blk a gs[k] 4 (encL (L.getD k [])).toArray∧(L.getD k []).length=n)∧b.ownsRow B.heap.size 181 1 v' (L.length+1) ((gs.map fun g=>.slice (some ⟨g,0,none⟩) n n)++ [.slice (some ⟨g,0,none⟩) n n]))
 (hx:Blk a g 4 (encL x).toArray)(hl:x.length=n)(hg:a.grownBy b v.ownBlock):CovO B b v' n (L++ [x]):=by
 obtain⟨gs,k1,k2,k3,k4⟩:=h;refine⟨gs++ [g],by simp[k1],by simpa using k4,fun k hk=> ?_⟩
 have key:∀{g':Nat}{cs:Array Value},Blk a g' 4 cs→Blk b g' 4 cs:=fun hB=>hB.grown hg (hB.notown k2 (.inl (by decide)))
 by_cases hk':k<gs.length
 ·rw[List.getElem_append_left hk',show(L++ [x]).getD k []=L.getD k [] by simp[List.getD,List.getElem?_append_left (show k<L.length by omega)]]
  exact⟨key (k3 k hk').1,(k3 k hk').2⟩
 ·have e:k=gs.length:=by simp at hk;omega
  subst e;rw[List.getElem_append_right (Nat.le_refl _)];simp only[Nat.sub_self,List.getElem_cons_zero];rw[show(L++ [x]).getD gs.length []=x by simp[List.getD,k1]]
  exact⟨key hx,hl⟩
def KeepT(w w':World):Prop:=∀(g:Nat)(t:TypeId)(cs:Array Value),t≠177→t≠181→Blk w g t cs→Blk w' g t cs
theorem Jt(s:Sys)(hi:s.InclOk)(v0 w:World)(gs n k:Nat)(A:Option Addr)(v2:Value)(hE:Ext v0 w)(hg0:v0.heap.size≤gs)(hC:ClsV v0 (.slice A n k) s.classes)(hn:n=s.classes.length)(hn2:n≤12)
 (hB:Blk w gs 177 #[.slice A n k,v2,.slice none 0 0]):
 Calls Tryz.prog 169 #[.pointer (some ⟨gs,0,none⟩)] w (fun e w'=>e=.returned (.tuple #[])∧Ext v0 w'∧KeepT w w'∧∃cv,Blk w' gs 177 #[.slice A n k,v2,cv]∧CovO v0 w' cv n ((List.range n).map fun i:Nat=>s.coverL i)):=by
 have i1:BlkC w gs 177 [.slice A n k,v2,.slice none 0 0]:=⟨hB⟩;have Hn:=Lib.hid hn;clear hn;go_enter Tryz.func169,Tryz.ntmps169
 go_wp2_with (first|(with_reducible refine aA ?_)|(with_reducible refine aH ?_;intro V g1 _ _ _))
 go_loopw [11] (fun iv wr=>Ext v0 wr∧KeepT w wr∧Blk wr g1 172 #[.pointer (some ⟨gs,0,none⟩)]∧∃i:Nat,i≤n∧iv=.int .i64 i∧∃A' c',Blk wr gs 177 #[.slice A n k,v2,.slice A' i c']∧CovO v0 wr (.slice A' i c') n ((List.range i).map fun i:Nat=>s.coverL i)) (fun iv _=>n-(intOf iv).toNat)
 case atStart=>exact⟨hE.trans ExtC.h,fun g t cs _ _ h=>h.ext ExtC.h,(inferInstance:BlkC V g1 172 [.pointer (some ⟨gs,0,none⟩)]).h,0,by omega,rfl,none,0,(inferInstance:BlkC V gs 177 [.slice A n k,v2,.slice none 0 0]).h,⟨[],rfl,World.ownsRow_nil _ _ _ _,fun k hk=>by simp at hk⟩⟩
 case round=>
  obtain⟨hEr,hKt,hBg,i,hin,rfl,A',c',hBs,hco⟩:=hrel;have iE:StepC v0 wr:=⟨hEr⟩;have iA:AtC v0 gs:=⟨hg0⟩;have i2:BlkC wr g1 172 [.pointer (some ⟨gs,0,none⟩)]:=⟨hBg⟩;have i3:BlkC wr gs 177 [.slice A n k,v2,.slice A' i c']:=⟨hBs⟩;by_cases hlt:i<n
  ·obtain⟨gl,k1,k2,k3⟩:=id hco.h;have hLl:((List.range i).map fun i:Nat=>s.coverL i).length=i:=by simp
   rw[hLl] at k1 k2;have iR:RowC wr (.slice A' i c') v0 181 1 i (gl.map fun g=>.slice (some ⟨g,0,none⟩) n n):=⟨k2⟩
   have nr:∀W',NrC W' gs (.slice A' i c'):=fun W'=>⟨fun e=>zS k2 hBs (.inl (by decide)) e.symm⟩
   have nr1:∀W',NrC W' g1 (.slice A' i c'):=fun W'=>⟨fun e=>zS k2 hBg (.inl (by decide)) e.symm⟩
   have n1:NeC g1 gs:=⟨dU hBg hBs (by decide)⟩
   have Hk:=Lib.hid k1;have Hl:=Lib.hid hLl;clear k1 k2 hLl;go_wp2_with (first|(with_reducible refine aA ?_)|(with_reducible refine qM ?_;intro V gb _ hM hA)|(with_reducible refine aG ?_;intro V gi _ hI hAi)|(with_reducible refine aR ?_;intro V g4 _ _ _)|(with_reducible refine aI ?_;intro V _ h4))
   have nri:∀W',NrC W' gi (.slice A' i c'):=fun W'=>⟨RowC.fresh (inferInstance:RowC _ (.slice A' i c') v0 181 1 i _) hAi.h⟩
   have n2:NeC gi gs:=⟨dU hI.h (inferInstance:BlkC _ gs 177 [.slice A n k,v2,.slice A' i c']).h (by decide)⟩
   have hM2:Blk V gb 4 (encL (List.replicate n false)).toArray:=by
    have:(encL (List.replicate n false)).toArray=Array.replicate n (Value.bool false):=by rw[encB];simp
    rw[this];exact hM.ext ExtC.h
   have hAr:Around V gi gb g1 gs g4 A n k v2 (.slice A' i c'):=⟨(inferInstance:BlkC V gi 181 [.slice (some ⟨gb,0,none⟩) n n]).h,(inferInstance:BlkC V g1 172 [.pointer (some ⟨gs,0,none⟩)]).h,(inferInstance:BlkC V gs 177 [.slice A n k,v2,.slice A' i c']).h,h4.h⟩;have hEV:Ext wr V:=ExtC.h;refine(Fs s hi wr gi gb g1 gs g4 A n k v2 (.slice A' i c') (hC.ext hEr) Hn.out hA.h _ i (List.replicate n false) V (Nat.le_refl _) (by simp) hlt hEV hAr hM2).mono ?_
   rintro e V5 ⟨rfl,hg5,b',hp,hB5⟩;have e5:b'=s.coverL i:=Sys.Post.top hi ⟨by omega,by have:=Hn.out;omega⟩ (by rw[←Hn.out];exact hp)
   subst e5;have iE5:StepC wr V5:=⟨fM hEV hg5 hA.h hEV.size⟩;have hAr5:=hAr.keep hM2 hg5;have i5:BlkC V5 gi 181 [.slice (some ⟨gb,0,none⟩) n n]:=⟨hAr5.is_⟩;clear hp;go_wp2
   refine dA ((.take 0 (.take 1 (.take 2 (.take 3 (.take 5 (.two 4 (.one 6 (.one 7 (.take 8 (.take 9 (.one 10 .nil))))) 6 (.one 4 (.one 7 (.take 8 (.take 9 (.one 10 .nil)))))))))))) (fun w'=>Ext v0 w'∧Blk w' g1 172 #[.pointer (some ⟨gs,0,none⟩)]∧Blk w' gi 181 #[.slice (some ⟨gb,0,none⟩) n n]) ?_ (fun hHd=> ?_) (hQ:=by intro _ _ _ _ _ h;exact h)
   ·exact⟨ExtC.h,(inferInstance:BlkC _ g1 172 [.pointer (some ⟨gs,0,none⟩)]).h,(inferInstance:BlkC _ gi 181 [.slice (some ⟨gb,0,none⟩) n n]).h⟩
   repeat' first|((with_reducible refine aX ?_);(first|(refine tk (v:= ?_) ?_ hHd ?_;rotate_left;(·(intro W' h;obtain⟨h,ha,hb⟩:=h;have:=StepC.mk h;have i6:BlkC W' g1 172 [.pointer (some ⟨gs,0,none⟩)]:=⟨ha⟩;have i7:BlkC W' gi 181 [.slice (some ⟨gb,0,none⟩) n n]:=⟨hb⟩;first|with_reducible exact aJ)))|(refine tk (v:= ?_) ?_ hHd ?_;rotate_left;(·(intro wq hSw;go_simp;(try with_reducible rfl)))));(try simp only[pS]))|((with_reducible refine bC ?_);refine aQ (by simp only[gS];rfl) ?_)|((with_reducible refine gK ?_);refine dV (by simp only[gS];rfl) (by simp only[gS];rfl) ?_ ?_)|(with_reducible refine aA ?_)|(with_reducible refine aI ?_;intro Vs hS hSB)|(with_reducible refine aD ?_;intro Vb g9 _ _ _)|(with_reducible refine bR ?_;intro A9 c9 Va hR hG)|((with_reducible refine bD ?_);clear hHd;refine aM ⟨ExtC.h,(inferInstance:BlkC _ g1 172 [.pointer (some ⟨gs,0,none⟩)]).h,(inferInstance:BlkC _ gi 181 [.slice (some ⟨gb,0,none⟩) n n]).h⟩ (fun hHd=> ?_);(try simp only[pS]))|(with_reducible refine aF ?_)
   all_goals
    have c1:CovO v0 Vb (.slice A' i c') n ((List.range i).map fun i:Nat=>s.coverL i):=hco.ext ExtC.h
    have c2:CovO v0 Va (.slice A9 (i+1) c9) n (((List.range i).map fun i:Nat=>s.coverL i)++ [s.coverL i]):=by
     obtain⟨gl',q1,q2,q3⟩:=c1.h;refine CovO.snoc (a:=Vb) (g:=gb) ⟨gl,by rw[Hk.out,Hl.out],by rw[Hl.out];exact(inferInstance:RowC Vb (.slice A' i c') v0 181 1 i _).h,fun k hk=>⟨(k3 k hk).1.ext ExtC.h,(k3 k hk).2⟩,by rw[Hl.out];exact hR.h⟩ (hB5.ext ExtC.h) (by rw[Sys.coverL_len];exact Hn.out.symm) hG.h
    have c3:=c2.store (inferInstance:BlkC Va gs 177 [.slice A n k,v2,.slice A' i c']).h (by decide) (by decide) hS.h
    have hEb:Ext wr Vb:=ExtC.h;have hK2:KeepT w Vs:=fun g t cs h1 h2 h=>by
     have a1:=(hKt g t cs h1 h2 h).ext hEb;have a2:=a1.grown hG.h (a1.notown (inferInstance:RowC Vb (.slice A' i c') v0 181 1 i _).h (.inl (Ne.symm h2)));exact a2.grown hS.h (fun e=>dU a2 (inferInstance:BlkC Va gs 177 [.slice A n k,v2,.slice A' i c']).h h1 (Option.some.inj e))
    go_wp2
    go_roundw
    case rel=>exact⟨ExtC.h,fun g t cs h1 h2 h=>(hK2 g t cs h1 h2 h).ext ExtC.h,(inferInstance:BlkC _ g1 172 [.pointer (some ⟨gs,0,none⟩)]).h,i+1,by omega,by go_num,A9,c9,hSB.h,by rw[List.range_succ,List.map_append];exact c3⟩
    case measure=>simp[intOf];omega
  ·obtain rfl:i=n:=by omega
   go_wp2
   (first|refine bodyPost_end (results_none rfl _ _ _) (by rfl) ?_)
   exact⟨rfl,hEr,hKt,_,hBs,hco⟩
end Go.Rg
end
