import Derived.Test.YtbfbepnkofampaaGreatDoorXP24
set_option maxRecDepth 100000
set_option synthInstance.maxSize 2000
set_option synthInstance.maxHeartbeats 400000
set_option maxHeartbeats 8000000
set_option linter.all false
section
namespace Go.Rg
open Go.Bp
namespace Rules
variable(r:Rules)
variable{r}
theorem held_norm{g g':List Grant}(h:g.map normG=g'.map normG)(day:Int):heldL g day=heldL g' day:=by
 have key:∀l:List Grant,heldL l day=((l.map normG).filter (holds day)).map fun g=>g.right:=fun l=>
  (iY (f:=fun g:Grant=>g.right) (holds day) norm_right (fun g=>by
   unfold holds;rw[wR,norm_reason];by_cases hr:g.reason=0
   ·have:normG g=g:=if_pos hr;rw[this]
   ·simp[hr]) l).symm
 rw[key g,key g',h]
theorem Lw{o:Off}{day:Int}{x:Event}(hx:isOff x=true)(hw:∀q∈o.taken,0≤q.2):(0≤outOf o x∧outOf o x≤day)↔((whenIn o.taken x.day).any fun w=>decide (w≤day))=true:=by
 unfold outOf;rw[if_pos hx]
 cases e:whenIn o.taken x.day with
 |none=>simp
 |some w=>
  have:(x.day,w)∈o.taken:=by
   unfold whenIn at e
   cases hf:o.taken.find? fun p=>decide (p.1=x.day) with
   |none=>rw[hf] at e;cases e
   |some q=>
    rw[hf] at e;injection e with e
    have h1:=List.find?_some hf;simp only[decide_eq_true_eq] at h1;have h2:=List.mem_of_find?_eq_some hf;rw[←h1,←e];exact h2
  have:=hw _ this;simp;omega
end Rules
end Go.Rg
end
section
namespace Go.Walk
open Go Go.Bp Go.RowKit Go.Proofs
instance qNB242:OneT Tryz.prog 181 (.slice none 0 0):=⟨24,by kernel_rfl,by rfl,by decide⟩
end Go.Walk
end
section
namespace Go.Rg
open Go Go.Bp Go.RowKit Go.Walk Go.Proofs
theorem eq45(W:World)(a b c a' b' c':Int):(Op.equalIn 10000 45 (.agg #[.int .i64 a,.int .i64 b,.int .i64 c]) (.agg #[.int .i64 a',.int .i64 b',.int .i64 c'])).run Tryz.prog W=.ok (decide (a=a'∧b=b'∧c=c')) W:=by
 rw[show(10000:Nat)=9999+1 from rfl,run_equalIn_struct W 9999 45 _ _ (by kernel_rfl) (by kernel_rfl)]
 obtain⟨l,hl⟩:∃l,(Tryz.prog.fieldsOf 45).toList=l:=⟨_,rfl⟩;have hf:(Tryz.prog.fieldsOf 45).toList.map (fun f=>(f.name,f.type,f.offset))=[("Counts",3,0),("Fallen",3,1),("Taken",3,2)]:=by kernel_rfl
 rw[hl] at hf⊢;have hlen:l.length=3:=by have:=congrArg List.length hf;simpa using this
 obtain⟨f0,f1,f2,rfl⟩:∃f0 f1 f2,l=[f0,f1,f2]:=by
  rcases l with _|⟨f0,_|⟨f1,_|⟨f2,_|⟨f3,l⟩⟩⟩⟩<;>simp at hlen
  exact⟨f0,f1,f2,rfl⟩
 simp only[List.map_cons,List.map_nil,List.cons.injEq,Prod.mk.injEq,and_true] at hf;obtain⟨⟨n0,t0,o0⟩,⟨n1,t1,o1⟩,⟨n2,t2,o2⟩⟩:=hf;have hA:∀(f:Field),f.type=3→∀w,(isAgg f.type).run Tryz.prog w=.ok false w:=fun f e w=>by rw[e];exact Tryz.isAgg3 w
 rw[show(9999:Nat)=9998+1 from rfl]
 rw[fF (f:=f0) (a:=a) (b:=a') (by rw[n0];decide) (by rw[t0];kernel_rfl) (hA f0 t0) (by rw[o0];rfl) (by rw[o0];rfl)]
 rw[fF (f:=f1) (a:=b) (b:=b') (by rw[n1];decide) (by rw[t1];kernel_rfl) (hA f1 t1) (by rw[o1];rfl) (by rw[o1];rfl)]
 rw[fF (f:=f2) (a:=c) (b:=c') (by rw[n2];decide) (by rw[t2];kernel_rfl) (hA f2 t2) (by rw[o2];rfl) (by rw[o2];rfl)]
 have e1:(Op.eqFields (9998+1) #[Value.int .i64 a,.int .i64 b,.int .i64 c] #[Value.int .i64 a',.int .i64 b',.int .i64 c'] []).run Tryz.prog W=.ok true W:=by simp[Op.eqFields]
 rw[e1];by_cases h0:a=a'
 ·by_cases h1:b=b'
  ·by_cases h2:c=c'<;>simp[*]
  ·simp[*]
 ·simp[*]
theorem eql45(W:World)(a b c a' b' c':Int):(binOp .eql 45 (.agg #[.int .i64 a,.int .i64 b,.int .i64 c]) (.agg #[.int .i64 a',.int .i64 b',.int .i64 c'])).run Tryz.prog W=.ok (.bool (decide (a=a'∧b=b'∧c=c'))) W:=by
 rw[run_eql_struct,eq45];rfl
theorem vE{a b:Nat}(ha:a<256):(a&&&b=a)↔∀j<8,a.testBit j=true→b.testBit j=true:=by
 constructor
 ·intro h j _ hj;rw[←h,Nat.testBit_and] at hj;simp at hj;exact hj.2
 ·intro h;apply Nat.eq_of_testBit_eq;intro j;rw[Nat.testBit_and];by_cases hj:j<8
  ·cases ha2:a.testBit j
   ·rfl
   ·rw[h j hj ha2];rfl
  ·have:a.testBit j=false:=Nat.testBit_lt_two_pow (Nat.lt_of_lt_of_le ha (by
    have:=Nat.pow_le_pow_right (show 0<2 by decide) (show 8≤j by omega)
    simpa using this))
   rw[this];rfl
theorem yQ(a b:Int)(ha:0≤a∧a<256)(hb:0≤b∧b<256)(w:World):Calls Tryz.prog 200 #[.int .i64 a,.int .i64 b] w (RB w (decide (a.toNat&&&b.toNat=a.toNat))):=by
 obtain⟨R,hR⟩:∃R,decide (a.toNat&&&b.toNat=a.toNat)=R:=⟨_,rfl⟩;rw[hR];have H:=Lib.hid hR;have HT:=Lib.hid (show(∀j<8,a.toNat.testBit j=true→b.toNat.testBit j=true)→R=true from fun h=>by rw[←hR];simpa using (vE (by omega)).2 h)
 have HF:=Lib.hid (show∀j<8,a.toNat.testBit j=true→b.toNat.testBit j=false→R=false from fun j hj h1 h2=>by
  rw[←hR];apply decide_eq_false;intro h;have:=(vE (by omega)).1 h j hj h1
  rw[h2] at this;cases this)
 clear hR;go_enter Tryz.func200,Tryz.ntmps200
 go_wp2
 go_loopw [5] (fun iv wr=>StepC w wr∧∃k:Nat,k≤8∧iv=.int .i64 k∧∀j<k,a.toNat.testBit j=true→b.toNat.testBit j=true) (fun iv _=>8-(RowKit.intOf iv).toNat)
 case atStart=>exact⟨⟨Ext.refl _⟩,0,by omega,rfl,fun j hj=>by omega⟩
 case round=>
  obtain⟨_,k,hk,rfl,hz⟩:=hrel;have Hz:=Lib.hid hz;clear hz;by_cases lk:k<8
  ·obtain⟨d1,e1⟩:∃d,a.toNat.testBit k=d:=⟨_,rfl⟩;obtain⟨d2,e2⟩:∃d,b.toNat.testBit k=d:=⟨_,rfl⟩;have i1:HasE a k d1:=⟨⟨ha.1,by omega⟩,by omega,e1⟩
   have i2:HasE b k d2:=⟨⟨hb.1,by omega⟩,by omega,e2⟩
   have q:((k:Int)<8):=by omega
   have zk:IntKind.i64.wrap ((k:Int)+1)=(k:Int)+1:=IntWalk.i64_in _ (by omega)
   have Hn:=Lib.hid (show(d1=true→d2=true)→∀j<k+1,a.toNat.testBit j=true→b.toNat.testBit j=true from fun h j hj=>by
    by_cases hjk:j=k
    ·subst hjk;rw[e1,e2];exact h
    ·exact Hz.out j (by omega))
   have Hs:=Lib.hid (show d1=true→d2=false→R=false from fun h1 h2=>HF.out k lk (by rw[e1];exact h1) (by rw[e2];exact h2))
   clear e1 e2
   cases d1
   ·have Hn2:=Lib.hid (Hn.out (fun h=>by cases h))
    clear Hn Hs;go_wp2_with (first|(with_reducible refine aB ?_;first|rintro _ V ⟨rfl,(_:StepC _ _)⟩))
    go_roundw
    case rel=>exact⟨⟨ExtC.h⟩,k+1,lk,rfl,Hn2.out⟩
    case measure=>simp[RowKit.intOf];omega
   ·cases d2
    ·obtain rfl:=Hs.out rfl rfl;clear Hn Hs;go_wp2_with (first|(with_reducible refine aB ?_;first|rintro _ V ⟨rfl,(_:StepC _ _)⟩))
     go_ret
     exact⟨rfl,⟨ExtC.h⟩⟩
    ·have Hn2:=Lib.hid (Hn.out (fun _=>rfl))
     clear Hn Hs;go_wp2_with (first|(with_reducible refine aB ?_;first|rintro _ V ⟨rfl,(_:StepC _ _)⟩))
     go_roundw
     case rel=>exact⟨⟨ExtC.h⟩,k+1,lk,rfl,Hn2.out⟩
     case measure=>simp[RowKit.intOf];omega
  ·obtain rfl:k=8:=by omega
   obtain rfl:=HT.out Hz.out;go_wp2
   go_ret
   exact⟨rfl,⟨ExtC.h⟩⟩
class WinE (a b:Int) (r:outParam Bool):Prop where h:((0≤a∧a<256)∧0≤b∧b<256)∧decide (a.toNat&&&b.toNat=a.toNat)=r
instance qRRk14{W:World}{a b:Int}{r:Bool}[q:WinE a b r]:FunC Tryz.prog 200 #[.int .i64 a,.int .i64 b] W (RB W r):=⟨by rw[←q.h.2];exact yQ a b q.h.1.1 q.h.1.2 W⟩
end Go.Rg
end
section
namespace Go.Rg
open Go.Bp
namespace Rules
variable{r:Rules}
theorem mG{l:List Event}:∀(ds:List Int)(o:Off),(∀d∈ds,0≤d)→(∀q∈o.taken,0≤q.2)→∀q∈(ds.foldl (r.stepOff l) o).taken,0≤q.2
 | [],_,_,h=>h
 |d::ds,o,hd,h=>by
  rw[List.foldl_cons];refine mG ds _ (fun x hx=>hd x (by simp[hx])) ?_
  unfold stepOff;split
  ·exact h
  ·intro q hq;rcases List.mem_append.1 hq with hq|hq
   ·exact h q hq
   ·obtain⟨p,_,rfl⟩:=List.mem_map.1 hq;exact hd d (by simp)
theorem offs_when{l:List Event}(h0:∀x∈l,0≤x.day):∀q∈(r.offs l).taken,0≤q.2:=by
 refine mG _ _ (fun d hd=> ?_) (by simp)
 obtain⟨x,hx,_,e⟩:=offDays_mem.1 hd;rw[←e];exact h0 x hx
theorem stands_R{o:Off}{day:Int}{x:Event}(hw:∀q∈o.taken,0≤q.2){y:Int}(hy:outOf o x=y):
 r.stands o day x=if x.kind≠3∨day<x.day then 0 else if 0≤y∧y≤day then 1 else if r.fall≤day-x.day then 2 else 3:=by
 subst hy;unfold stands;have hk:isOff x=false↔x.kind≠3:=by unfold isOff;simp
 by_cases h1:x.kind≠3∨day<x.day
 ·rw[if_pos h1,if_pos (by rw[hk];exact h1)]
 ·rw[if_neg h1,if_neg (by rw[hk];exact h1)]
  have hx:isOff x=true:=by
   cases e:isOff x
   ·exact absurd (.inl (hk.1 e)) h1
   ·rfl
  have:=Lw (o:=o) (day:=day) hx hw;by_cases h2:0≤outOf o x∧outOf o x≤day
  ·rw[if_pos h2,if_pos (this.1 h2)]
  ·rw[if_neg h2,if_neg (fun h=>h2 (this.2 h))]
theorem sumOf_succ(o:Off)(l:List Event)(day:Int){k:Nat}(hk:k<l.length)(n:Nat):r.sumOf o day (l.take (k+1)) n=if r.stands o day l[k]=n then r.sumOf o day (l.take k) n+l[k].points else r.sumOf o day (l.take k) n:=by
 unfold sumOf;rw[List.take_succ_eq_append_getElem hk,List.filter_append,List.map_append];by_cases h:r.stands o day l[k]=n
 ·rw[if_pos h];simp only[List.filter_cons,h,decide_true,if_true,List.filter_nil,List.map_cons,List.map_nil];unfold sumL;rw[List.foldl_append];rfl
 ·rw[if_neg h];simp[List.filter_cons,h]
theorem sumOf_bd{o:Off}{l:List Event}{day:Int}{n:Nat}(h:∀x∈l,0≤x.points∧x.points≤20):∀k,k≤l.length→0≤r.sumOf o day (l.take k) n∧r.sumOf o day (l.take k) n≤20*k
 |0,_=>by simp[sumOf,sumL]
 |k+1,hk=>by
  have ih:=sumOf_bd (o:=o) (day:=day) (n:=n) h k (by omega)
  have hx:=h l[k] (List.getElem_mem (by omega))
  rw[sumOf_succ o l day (by omega)]
  split<;>push_cast<;>omega
end Rules
end Go.Rg
end
section
namespace Go.Rg
open Go Go.Bp Go.RowKit Go.Walk Go.Proofs
class RBanE (r:Rules) (p:Person) (l:outParam (List Span)) (n:outParam Int):Prop where h:r.bansAns p=(l,n)
theorem Bu(s:Sys)(v:Value)(ac bc:Nat)(ao bo:Int)(w:World)(h:SysV w v s)(h1:ac<s.classes.length)(h2:bc<s.classes.length)(hn:s.classes.length≤12)(hio:s.InclOk)(ha:0≤ao∧ao<256)(hb:0≤bo∧bo<256):
 Calls Tryz.prog 133 #[v,.agg #[.int .i64 ac,.int .i64 ao],.agg #[.int .i64 bc,.int .i64 bo]] w (RB w (s.weaker ⟨ac,ao⟩ ⟨bc,bo⟩)):=by
 obtain⟨A,n,cp,A',c',rfl,hnn,-⟩:=h.h;have i1:=SysB.mk h;obtain⟨o,ho⟩:∃o,s.coverL (bc:Int)=o:=⟨_,rfl⟩;have hol:o.length=n:=by rw[←ho];unfold Sys.coverL;rw[Sys.sweeps_len];simp;exact hnn.symm
 obtain⟨t,ht⟩:∃t,s.covers (bc:Int) (ac:Int)=t:=⟨_,rfl⟩;have i2:CovE s bc n o:=⟨⟨h2,hnn.symm,by omega,hio⟩,ho⟩
 have i3:GetB o ac t:=⟨by omega,by rw[←ht,←ho];rfl⟩
 obtain⟨u,hu⟩:∃u,decide (bo.toNat&&&ao.toNat=bo.toNat)=u:=⟨_,rfl⟩;have i4:WinE bo ao u:=⟨⟨hb,ha⟩,hu⟩;have hacn:ac<n:=by omega
 unfold Sys.weaker;simp only;rw[ht,hu];clear hnn ho ht hu h1 h2 hn hio hol;by_cases e:(ac:Int)=bc∧ao=bo
 ·obtain⟨e1,rfl⟩:=e;obtain rfl:ac=bc:=by omega
  have hR:(decide ((⟨(ac:Int),ao⟩:Right)≠⟨(ac:Int),ao⟩)&&t&&u)=false:=by simp
  rw[hR];go_enter Tryz.func133,Tryz.ntmps133
  go_wp2_with (first|(with_reducible refine aH ?_;intro V g _ _ _))
  refine aP ((.take 0 (.take 1 (.take 2 (.take 3 (.take 4 (.take 5 (.take 6 (.take 8 (.take 9 (.one 7 (.take 10 (.one 11 (.take 12 (.take 13 (.take 14 (.take 15 (.take 16 (.take 17 (.one 18 (.take 19 (.take 20 .nil)))))))))))))))))))))) (fun hHd=> ?_) (hQ:=by intro _ _ _ _ _ h;exact h)
  repeat' first|((with_reducible refine aX ?_);(first|(refine tk (v:= ?_) ?_ hHd ?_;rotate_left;(·(intro W' h;have:=StepC.mk h;first|with_reducible exact aJ)))|(refine tk (v:= ?_) ?_ hHd ?_;rotate_left;(·(intro wq hSw;go_simp;(try with_reducible rfl))))|(refine ts hHd ?_));(try simp only[pS]))|((with_reducible refine bC ?_);refine aQ (by simp only[gS];rfl) ?_)|(with_reducible refine fO ?_)|((with_reducible refine bD ?_);clear hHd;refine aM ExtC.h (fun hHd=> ?_);(try simp only[pS]))|(with_reducible refine aF ?_)
  go_wp2
  all_goals(try(go_ret;refine⟨?_,⟨ExtC.h⟩⟩;first|rfl))
 ·have e':(ac:Int)=bc→¬ao=bo:=fun h1 h2=>e ⟨h1,h2⟩
  have hR:(decide ((⟨(ac:Int),ao⟩:Right)≠⟨(bc:Int),bo⟩)&&t&&u)=(t&&u):=by
   have:(⟨(ac:Int),ao⟩:Right)≠⟨(bc:Int),bo⟩:=fun h=>by injection h with h1 h2;exact e ⟨h1,h2⟩
   simp[this]
  rw[hR];clear hR;by_cases e1:ac=bc
  ·subst e1;have e2:=e' rfl;clear e e'
   cases t
   all_goals
    go_enter Tryz.func133,Tryz.ntmps133
    go_wp2_with (first|(with_reducible refine aH ?_;intro V g _ _ _))
    refine aP ((.take 0 (.take 1 (.take 2 (.take 3 (.take 4 (.take 5 (.take 6 (.take 8 (.take 9 (.one 7 (.take 10 (.one 11 (.take 12 (.take 13 (.take 14 (.take 15 (.take 16 (.take 17 (.one 18 (.take 19 (.take 20 .nil)))))))))))))))))))))) (fun hHd=> ?_) (hQ:=by intro _ _ _ _ _ h;exact h)
    repeat' first|((with_reducible refine aX ?_);(first|(refine tk (v:= ?_) ?_ hHd ?_;rotate_left;(·(intro W' h;have:=StepC.mk h;first|with_reducible exact aJ)))|(refine tk (v:= ?_) ?_ hHd ?_;rotate_left;(·(intro wq hSw;go_simp;(try with_reducible rfl))))|(refine tw (v:= ?_) ?_ hHd ?_;rotate_left;(·(intro W' h;have:=StepC.mk h;first|with_reducible exact aJ)))|(refine tw (v:= ?_) ?_ hHd ?_;rotate_left;(·(intro wq hSw;go_simp;(try with_reducible rfl))))|(refine ts hHd ?_));(try simp only[pS]))|((with_reducible refine bC ?_);refine aQ (by simp only[gS];rfl) ?_)|(with_reducible refine bA ?_)|((first|with_reducible refine cG ?_);first|(rintro _ V ⟨gq,rfl,_,(_:StepC _ _)⟩;refine⟨_,rfl,?_⟩)|(rintro _ V ⟨rfl,(_:StepC _ _)⟩;refine⟨_,rfl,?_⟩))|(with_reducible refine fO ?_)|((with_reducible refine bD ?_);clear hHd;refine aM ExtC.h (fun hHd=> ?_);(try simp only[pS]))|(with_reducible refine aF ?_)
    go_wp2
    all_goals(try(go_ret;refine⟨?_,⟨ExtC.h⟩⟩;first|rfl))
  ·have q1:(ac==bc)=false:=by simpa using e1
   have q2:((ac:Int)==(bc:Int))=false:=by simp;omega
   clear e e'
   cases t
   all_goals
    go_enter Tryz.func133,Tryz.ntmps133
    go_wp2_with (first|(with_reducible refine aH ?_;intro V g _ _ _))
    refine aP ((.take 0 (.take 1 (.take 2 (.take 3 (.take 4 (.take 5 (.take 6 (.take 8 (.take 9 (.one 7 (.take 10 (.one 11 (.take 12 (.take 13 (.take 14 (.take 15 (.take 16 (.take 17 (.one 18 (.take 19 (.take 20 .nil)))))))))))))))))))))) (fun hHd=> ?_) (hQ:=by intro _ _ _ _ _ h;exact h)
    repeat' first|((with_reducible refine aX ?_);(first|(refine tk (v:= ?_) ?_ hHd ?_;rotate_left;(·(intro W' h;have:=StepC.mk h;first|with_reducible exact aJ)))|(refine tk (v:= ?_) ?_ hHd ?_;rotate_left;(·(intro wq hSw;go_simp;(try with_reducible rfl))))|(refine tw (v:= ?_) ?_ hHd ?_;rotate_left;(·(intro W' h;have:=StepC.mk h;first|with_reducible exact aJ)))|(refine tw (v:= ?_) ?_ hHd ?_;rotate_left;(·(intro wq hSw;go_simp;(try with_reducible rfl))))|(refine ts hHd ?_));(try simp only[pS]))|((with_reducible refine bC ?_);refine aQ (by simp only[gS];rfl) ?_)|(with_reducible refine bA ?_)|((first|with_reducible refine cG ?_);first|(rintro _ V ⟨gq,rfl,_,(_:StepC _ _)⟩;refine⟨_,rfl,?_⟩)|(rintro _ V ⟨rfl,(_:StepC _ _)⟩;refine⟨_,rfl,?_⟩))|(with_reducible refine fO ?_)|((with_reducible refine bD ?_);clear hHd;refine aM ExtC.h (fun hHd=> ?_);(try simp only[pS]))|(with_reducible refine aF ?_)
    go_wp2
    all_goals(try(go_ret;refine⟨?_,⟨ExtC.h⟩⟩;first|rfl))
class WkE (s:Sys) (x y:Right) (r:outParam Bool):Prop where h:((∃ac bc:Nat,x.cls=ac∧y.cls=bc∧ac<s.classes.length∧bc<s.classes.length)∧s.classes.length≤12∧s.InclOk∧(0≤x.codes∧x.codes<256)∧0≤y.codes∧y.codes<256)∧s.weaker x y=r
instance qRRm16{W:World}{v:Value}{s:Sys}{a b c d:Int}{r:Bool}[h:SysC W v s][q:WkE s ⟨a,b⟩ ⟨c,d⟩ r]:FunC Tryz.prog 133 #[v,.agg #[.int .i64 a,.int .i64 b],.agg #[.int .i64 c,.int .i64 d]] W (RB W r):=⟨by
 obtain⟨⟨⟨ac,bc,h1,h2,h3,h4⟩,h5,h6,h7,h8⟩,h9⟩:=q.h;simp only at h1 h2 h7 h8;subst h1 h2;rw[←h9];exact Bu s v ac bc b d W h.h h3 h4 h5 h6 h7 h8⟩
end Go.Rg
end
section
namespace Go.Rg
open Go.Bp
namespace Sys
def marksF(n M:Nat)(l:List Right):List (List Bool):=(List.range n).map fun c:Nat=>(List.range M).map fun k:Nat=>decide ((⟨(c:Int),(k:Int)⟩:Right)∈l)
theorem marksF_nil(n M:Nat):marksF n M []=List.replicate n (List.replicate M false):=by
 unfold marksF;apply List.ext_getElem
 ·simp
 ·intro i h1 h2;simp only[List.getElem_map,List.getElem_range,List.getElem_replicate];apply List.ext_getElem
  ·simp
  ·intro j h3 h4;simp
theorem marksF_len(n M:Nat)(l:List Right):(marksF n M l).length=n:=by unfold marksF;simp
theorem marksF_row(n M:Nat)(l:List Right){c:Nat}(h:c<(marksF n M l).length):(marksF n M l)[c].length=M:=by simp[marksF]
theorem marksF_at(n M:Nat)(l:List Right){c k:Nat}(h:c<(marksF n M l).length)(hk:k<(marksF n M l)[c].length):(marksF n M l)[c][k]=decide ((⟨(c:Int),(k:Int)⟩:Right)∈l):=by simp[marksF]
theorem marksF_set(n M:Nat)(l:List Right){x y:Nat}(hx:x<(marksF n M l).length)(hy:y<M):(marksF n M l).set x ((marksF n M l)[x].set y true)=marksF n M (l++ [⟨(x:Int),(y:Int)⟩]):=by
 apply List.ext_getElem
 ·simp[marksF_len]
 ·intro c h1 h2;rw[List.getElem_set];have hc:c<n:=by simpa [marksF_len] using h2
  by_cases e:x=c
  ·subst e;rw[if_pos rfl];apply List.ext_getElem
   ·simp[marksF_row]
   ·intro k h3 h4;rw[List.getElem_set,marksF_at n M _ h2 h4];by_cases ek:y=k
    ·subst ek;simp
    ·rw[if_neg ek,marksF_at];simp only[List.mem_append,List.mem_singleton,Right.mk.injEq,Bool.decide_or];have:¬((k:Int)=(y:Int)):=by omega
     simp[this]
  ·rw[if_neg e];apply List.ext_getElem
   ·rw[marksF_row,marksF_row]
   ·intro k h3 h4;rw[marksF_at,marksF_at];have:¬((c:Int)=(x:Int)):=by omega
    simp[this]
variable(s:Sys)
def rowTo(l:List Right)(c k:Nat):List Right:=((List.range k).filter fun j:Nat=>decide ((⟨(c:Int),(j:Int)⟩:Right)∈l)).map fun j:Nat=>⟨(c:Int),(j:Int)⟩
def ordTo(l:List Right)(M c:Nat):List Right:=(List.range c).flatMap fun i=>rowTo l i M
theorem rowTo_succ(l:List Right)(c k:Nat):rowTo l c (k+1)=if decide ((⟨(c:Int),(k:Int)⟩:Right)∈l)=true then rowTo l c k++ [⟨(c:Int),(k:Int)⟩] else rowTo l c k:=by
 unfold rowTo;rw[List.range_succ,List.filter_append,List.map_append];split
 ·rename_i h;simp only[List.filter_cons,h,if_true,List.filter_nil,List.map_cons,List.map_nil]
 ·rename_i h;simp only[Bool.not_eq_true] at h;simp only[List.filter_cons,h];simp
theorem ordTo_succ(l:List Right)(M c:Nat):ordTo l M (c+1)=ordTo l M c++rowTo l c M:=by
 unfold ordTo;rw[List.range_succ,List.flatMap_append];simp
theorem ordTo_all(l:List Right):ordTo l (2^s.codes.length) s.classes.length=s.ordered l:=by
 unfold ordTo ordered allRights rowTo;rw[List.filter_flatMap];congr 1
 funext c
 rw[List.filter_map];rfl
theorem rowTo_len(l:List Right)(c k:Nat):(rowTo l c k).length≤k:=by
 unfold rowTo;rw[List.length_map];exact Nat.le_trans (List.length_filter_le _ _) (by simp)
theorem ordTo_len(l:List Right)(M:Nat):∀c,(ordTo l M c).length≤c*M
 |0=>by simp[ordTo]
 |c+1=>by
  rw[ordTo_succ,List.length_append];have:=ordTo_len l M c;have:=rowTo_len l c M;rw[Nat.add_mul];omega
def weakTo(x:Right)(a:List Right)(k:Nat):Bool:=(a.take k).any fun r=>s.weaker x r
theorem weakTo_succ(x:Right)(a:List Right){k:Nat}(h:k<a.length):s.weakTo x a (k+1)=(s.weakTo x a k||s.weaker x a[k]):=by
 unfold weakTo;rw[List.take_succ_eq_append_getElem h,List.any_append];simp
theorem weakTo_stop(x:Right)(a:List Right){k:Nat}(h:s.weakTo x a k=true):s.weakTo x a a.length=true:=by
 unfold weakTo at h⊢;rw[List.any_eq_true] at h⊢;obtain⟨r,h1,h2⟩:=h;exact⟨r,by rw[List.take_length];exact List.mem_of_mem_take h1,h2⟩
def leastTo(a:List Right)(k:Nat):List Right:=(a.take k).filter fun x=> !s.weakTo x a a.length
theorem leastTo_succ(a:List Right){k:Nat}(h:k<a.length):s.leastTo a (k+1)=if s.weakTo a[k] a a.length=true then s.leastTo a k else s.leastTo a k++ [a[k]]:=by
 unfold leastTo;rw[List.take_succ_eq_append_getElem h,List.filter_append];split
 ·rename_i h;simp[List.filter_cons,h]
 ·rename_i h;simp only[Bool.not_eq_true] at h;simp[List.filter_cons,h]
theorem leastTo_all(l:List Right):s.leastTo (s.ordered l) (s.ordered l).length=s.least l:=by
 unfold leastTo least weakTo;rw[List.take_length];congr 1
 funext x
 rw[List.not_any_eq_all_not]
theorem leastTo_len(a:List Right)(k:Nat):(s.leastTo a k).length≤k:=by
 unfold leastTo;exact Nat.le_trans (List.length_filter_le _ _) (by rw[List.length_take];omega)
end Sys
end Go.Rg
end
