/- Chapter 03: contracts of functions of the program and of the reference, and plain laws (out of Base Loads SR1 StJ SR2 SR9 SR10). No condition of its own. -/
import Derived.Test.YtfjnacajjpaeiaaGreatDoorQB01
set_option maxRecDepth 100000
set_option linter.all false
section
namespace Go.Bp
open Go.RowKit
section
variable{w w':World}{g:Nat}{t:TypeId}{cs:Array Value}
theorem Blk.far(h:Blk w g t cs){p:Addr}(hp:g≠p.block)(u:Value):Blk (w.setCell p u) g t cs:=(Below.heap_setCell w p u g hp).trans h
end
def Ret(w:World)(R:Value→World→Prop)(e:Ending)(w':World):Prop:=∃v,e=.returned v∧R v w'∧Ext w w'
section
variable{P:Program}{ops:Array Oper}{Q:Exit→Act→World→Prop}{a:Act}{w:World}{rest:List Oper}
variable{d:Option Tmp}{ty:TypeId}{pos:String}{after:Array Edge}
end
end Go.Bp
end
section
namespace Go.Bp
open Go.RowKit Go.Proofs
section
variable{w:World}{ad:Addr}{k:Nat}
end
section
variable{ops:Array Oper}{Q:Exit→Act→World→Prop}{a:Act}{w:World}{rest:List Oper}
variable{d:Option Tmp}{ty:TypeId}{pos:String}{after:Array Edge}
theorem Ps{s x:Operand}{B g:Nat}{v:Value}{xs:List Int}{n:Int}(hs:a.eval s=v)(hO:iA B w v xs)(hx:a.eval x=.slice (some ⟨g,0,none⟩) 1 1)(hb:Blk w g 3 #[.int .i64 n])(hlen:xs.length≤1000000000)(hB:B≤w.heap.size)
 (k:∀v' W,iA B W v' (xs++ [n])→(∀w0,Below B w0 w→Below B w0 W)→w.grownBy W v.ownBlock→wpList Tryz.prog ops Q rest (a.put d v') W):
 wpList Tryz.prog ops Q (⟨d,.call {callee:=.builtin .append,args:=#[s,x],argTypes:=#[41,41]},ty,pos,after,none⟩::rest) a w:=by
 refine qF Tryz.underlying41 ti3 rfl (by decide) hs hO hx (fun _=>⟨_,rfl,hb.cells⟩) (by simp) (by simp[Value.oneCell']) (by omega) (by unfold maxLen;omega) hB ?_
 intro v' W h1 h2 _;refine k v' W ?_ (fun w0 h0=>nY h0 hO h2 hB) h2
 unfold iA;simpa [gA] using h1
end
end Go.Bp
end
section
namespace Go.St
open Go Go.Bp Go.RowKit Go.Proofs
theorem rD(kv:Value)(k:Task)(n:Int)(w:World)(h:bA w kv k):
 Calls Tryz.prog 102 #[kv,.int .i64 n] w fun e w'=>e=.returned (.bool (decide (n∉k.closed)))∧Ext w w':=by
 obtain⟨cv,rfl,⟨A,c,rfl,h1,h2,h3,h4⟩⟩:=h;unfold maxLen at h2;clear h3;have hE:=Ext.refl w;go_enter Tryz.func102,Tryz.ntmps102
 go_wp2_with (first|((with_reducible refine aF (d:=some 2) ?_);intro W2 g2 hE2 hB2 hg2;simp[Act.eval,Act.put,Value.cells] at hB2;(try replace hE:=hE.trans hE2);have hb2_0:=hB2.cell 0;have hb2_1:=hB2.cell 1;have hb2_2:=hB2.cell 2;have hb2_3:=hB2.cell 3;have hb2_4:=hB2.cell 4;simp at hb2_0 hb2_1 hb2_2 hb2_3 hb2_4;clear hE2))
 have k4:=hb2_4;go_loopw [5] (fun i wr=>Ext W2 wr∧∃j:Nat,j≤k.closed.length∧i=.int .i64 j∧n∉k.closed.take j) (fun i _=>k.closed.length-(intOf i).toNat)
 case atStart=>exact⟨Ext.refl _,0,by omega,rfl,by simp⟩
 case round=>
  obtain⟨hEr,j,hk,rfl,hn⟩:=hrel;have Hn:=Lib.hid hn;have d4:=hEr.c k4;clear hn hb2_0 hb2_1 hb2_2 hb2_3 hb2_4 hB2 k4;by_cases hlt:j<k.closed.length
  ·obtain⟨ad,rfl,hc⟩:=h4 (by omega)
   have e1:=((hc.ext hE).ext hEr).i hlt;clear h4 hc;by_cases he:k.closed[j]=n
   ·have hbe:(k.closed[j]==n)=true:=by simp[he]
    have Hr:=Lib.hid (show decide (n∉k.closed)=false by simp[←he,List.getElem_mem])
    clear he;go_wp2
    go_ret
    exact⟨jR Hr.out.symm,hE.trans hEr⟩
   ·have hbe:(k.closed[j]==n)=false:=by simp[he]
    have Hm:=Lib.hid (show n∉k.closed.take (j+1) by rw[cI _ hlt];exact mC Hn.out (fun e=>he e.symm))
    clear he;go_wp2
    go_roundw
    case rel=>exact⟨hEr,j+1,by omega,by go_num,Hm.out⟩
    case measure=>simp[intOf];omega
  ·obtain rfl:j=k.closed.length:=by omega
   have Hr:=Lib.hid (show decide (n∉k.closed)=true by have:=Hn.out;rw[List.take_length] at this;simp[this])
   clear h4;go_wp2
   go_ret
   exact⟨jR Hr.out.symm,hE.trans hEr⟩
end Go.St
end
section
namespace Go.St
open Go.Bp
def sF(a b:Int×Int):Bool:=if a.1<0∨b.1<0 then decide (a.1<0∧0≤b.1) else decide (b.1<a.1∨(a.1=b.1∧b.2<a.2))
theorem Mm{x y:Option (Int×Int)}(hx:∀c,x=some c→0≤c.1)(hy:∀c,y=some c→0≤c.1):sF (cv x) (cv y)=true↔∃v,y=some v∧∀d,x=some d→¬le2 d v:=by
 cases y with
 |none=>
  constructor
  ·intro h;unfold sF cv at h;rw[if_pos (.inr (by decide))] at h
   simp at h
  ·rintro⟨v,hv,_⟩;cases hv
 |some v=>
  have hv:=hy v rfl
  cases x with
  |none=>
   constructor
   ·intro _;exact⟨v,rfl,fun d hd=>by cases hd⟩
   ·intro _;unfold sF cv;rw[if_pos (.inl (by decide))]
    simp;exact hv
  |some d=>
   have hd:=hx d rfl;have e:sF (cv (some d)) (cv (some v))=decide (v.1<d.1∨(d.1=v.1∧v.2<d.2)):=by
    rw[iQ,iQ];unfold sF;rw[if_neg (by omega)]
   rw[e,decide_eq_true_eq];constructor
   ·intro h;refine⟨v,rfl,fun c hc=> ?_⟩
    injection hc with hc;subst hc
    unfold le2;omega
   ·rintro⟨u,hu,h⟩;injection hu with hu;subst hu
    have:=h d rfl;unfold le2 at this;omega
namespace Town
variable{t:Town}{k:Task}
def Oj(t:Town)(k:Task)(set:Int)(i:Nat):Arc→Int→Prop:=fun a s=>PartOf t k s∧(s<set∨(s=set∧a∈(t.arcs k).take i))
abbrev Pss(t:Town)(k:Task)(T0 T:Tab)(ch:Bool)(set:Int)(i:Nat):Prop:=Pass aE (t.arcs k) k.b t.stands T0 T ch (Oj t k set i)
theorem pass_start{T:Tab}(hr:RefT t k T):Pss t k T T false 0 0:=(Pass.start hr.sound hr.base hr.bound).mono (fun a _ s hq=>by
 obtain⟨h1,h2|⟨_,h2⟩⟩:=hq
 ·have:=h1.1;omega
 ·simp at h2)
section
variable{T0 T:Tab}{ch:Bool}{set:Int}{i:Nat}
theorem Gu{a b:Arc}{s:Int}(hi:i<(t.arcs k).length)(hb:(t.arcs k)[i]=b)(hq:Oj t k set (i+1) a s):Oj t k set i a s∨(a=b∧s=set):=by
 obtain⟨h1,h2|⟨h2,h3⟩⟩:=hq
 ·exact .inl ⟨h1,.inl h2⟩
 ·rw[cI _ hi,hb] at h3;rcases List.mem_append.1 h3 with h3|h3
  ·exact .inl ⟨h1,.inr ⟨h2,h3⟩⟩
  ·simp at h3;exact .inr ⟨h3,h2⟩
theorem pass_row(hp:Pss t k T0 T ch set (t.arcs k).length):Pss t k T0 T ch (set+1) 0:=hp.mono (fun a ha s hq=>by
 obtain⟨h1,h2|⟨_,h2⟩⟩:=hq
 ·by_cases e:s=set
  ·exact⟨h1,.inr ⟨e,by rw[List.take_length];exact ha⟩⟩
  ·exact⟨h1,.inl (by omega)⟩
 ·simp at h2)
theorem pass_no(hn:¬PartOf t k set)(hp:Pss t k T0 T ch set 0):Pss t k T0 T ch (set+1) 0:=hp.mono (fun a _ s hq=>by
 obtain⟨h1,h2|⟨_,h2⟩⟩:=hq
 ·by_cases e:s=set
  ·rw[e] at h1;exact absurd h1 hn
  ·exact⟨h1,.inl (by omega)⟩
 ·simp at h2)
theorem pass_end(h:TaskOk t k)(hp:Pss t k T0 T false (k.show_+1) 0):T=T0∧eY aE (t.arcs k) k.b (PartOf t k) T:=
 ⟨(hp.same rfl).1,hp.closed (fun a _ s hs=>⟨hs,.inl (by have:=yA h hs;omega)⟩)⟩
theorem pass_skip{b:Arc}(hi:i<(t.arcs k).length)(hb:(t.arcs k)[i]=b)(hp:Pss t k T0 T ch set i)(hv:∀v,via T b set=some v→∃d,T b.p set=some d∧le2 d v):Pss t k T0 T ch set (i+1):=
 (hp.skip (b:=b) (u:=set) (fun c hc=>hv _ (by unfold via;rw[hc]))).mono (fun a _ s hq=>Gu hi hb hq)
theorem pass_better(h:TaskOk t k){b:Arc}(hi:i<(t.arcs k).length)(hb:(t.arcs k)[i]=b)(hs:PartOf t k set)(hr:RefT t k T)(hp:Pss t k T0 T ch set i){v:Int×Int}(hv:via T b set=some v)(hn:∀d,T b.p set=some d→¬le2 d v):
 Pss t k T0 (put T b.p set v) true set (i+1)∧RefT t k (put T b.p set v):=by
 have hmem:b∈t.arcs k:=by rw[←hb];exact List.getElem_mem hi
 have hbo:=mH h b hmem;unfold via at hv
 cases hc:T b.q (aE set b.sh) with
 |none=>rw[hc] at hv;cases hv
 |some c=>
  rw[hc] at hv;injection hv with hv
  subst hv;have hst:(b.p,set)∈t.stands:=mem_stands.2 ⟨hbo.p,hs.1,hs.2.1⟩;have hb2:=Pass.better (fun a ha=>⟨(mH h a ha).m1,(mH h a ha).m2⟩) qB hp hmem hst hc hn (Oj t k set (i+1))
  refine⟨hb2,hb2.sound,hb2.base,hb2.bound,fun p s c' hc'=> ?_⟩
  by_cases e:p=b.p∧s=set
  ·rw[e.2];exact hs
  ·rw[dY T _ e] at hc';exact hr.inD _ _ _ hc'
end
theorem RefT.cvbd(h:TaskOk t k){T:Tab}(hr:RefT t k T)(p s:Int):(cv (T p s)).1≤100000000∧0≤(cv (T p s)).2∧(cv (T p s)).2≤100000000:=by
 cases e:T p s with
 |none=>simp[cv]
 |some c=>have:=hr.bd h e;rw[iQ];omega
theorem via_cv0{T:Tab}(h0:∀p s c,T p s=some c→0≤c.1){b:Arc}{set:Int}:cv (via T b set)=if(cv (T b.q (aE set b.sh))).1<0 then cv (T b.q (aE set b.sh)) else((cv (T b.q (aE set b.sh))).1+b.m,(cv (T b.q (aE set b.sh))).2+1):=by
 unfold via
 cases e:T b.q (aE set b.sh) with
 |none=>simp[cv]
 |some c=>have:=h0 _ _ _ e;rw[iQ,iQ,if_neg (by omega)]
theorem via_nonneg(h:TaskOk t k){T:Tab}(hr:RefT t k T){b:Arc}(hb:b∈t.arcs k){set:Int}:∀c,via T b set=some c→0≤c.1:=by
 intro c hc;unfold via at hc
 cases e:T b.q (aE set b.sh) with
 |none=>rw[e] at hc;cases hc
 |some d=>
  rw[e] at hc;injection hc with hc
  have:=hr.bd h e;have:=(mH h b hb).m1;rw[←hc];simp only;omega
end Town
end Go.St
end
section
namespace Go.St
open Go Go.Bp Go.RowKit Go.Proofs
set_option maxHeartbeats 1000000 in
theorem zW(a b c d:Int)(w:World):Calls Tryz.prog 101 #[.agg #[.int .i64 a,.int .i64 b],.agg #[.int .i64 c,.int .i64 d]] w (dB w (sF (a,b) (c,d))):=by
 have hE:=Ext.refl w;have Ho:=Lib.hid (show sF (a,b) (c,d)=if a<0∨c<0 then decide (a<0∧0≤c) else decide (c<a∨(a=c∧d<b)) from rfl)
 by_cases h1:a<0
 ·by_cases h2:c<0
  ·have h3:¬0≤c:=by omega
   go_enter Tryz.func101,Tryz.ntmps101
   go_wp2_with (first|((with_reducible refine aF (d:=some 2) ?_);intro W2 g2 hE2 hB2 hg2;simp[Act.eval,Act.put,Value.cells] at hB2;(try replace hE:=hE.trans hE2);have hb2_0:=hB2.cell 0;have hb2_1:=hB2.cell 1;simp at hb2_0 hb2_1;clear hE2)|((with_reducible refine aF (d:=some 3) ?_);intro W3 g3 hE3 hB3 hg3;simp[Act.eval,Act.put,Value.cells] at hB3;(try replace hE:=hE.trans hE3);(try replace hb2_0:=hE3.c hb2_0);(try replace hb2_1:=hE3.c hb2_1);have hb3_0:=hB3.cell 0;have hb3_1:=hB3.cell 1;simp at hb3_0 hb3_1;clear hE3))
   go_ret
   exact dB.of (by rw[Ho.out,if_pos (.inl h1)];simp[h1,h3]) hE
  ·have h3:0≤c:=by omega
   go_enter Tryz.func101,Tryz.ntmps101
   go_wp2_with (first|((with_reducible refine aF (d:=some 2) ?_);intro W2 g2 hE2 hB2 hg2;simp[Act.eval,Act.put,Value.cells] at hB2;(try replace hE:=hE.trans hE2);have hb2_0:=hB2.cell 0;have hb2_1:=hB2.cell 1;simp at hb2_0 hb2_1;clear hE2)|((with_reducible refine aF (d:=some 3) ?_);intro W3 g3 hE3 hB3 hg3;simp[Act.eval,Act.put,Value.cells] at hB3;(try replace hE:=hE.trans hE3);(try replace hb2_0:=hE3.c hb2_0);(try replace hb2_1:=hE3.c hb2_1);have hb3_0:=hB3.cell 0;have hb3_1:=hB3.cell 1;simp at hb3_0 hb3_1;clear hE3))
   go_ret
   exact dB.of (by rw[Ho.out,if_pos (.inl h1)];simp[h1,h3]) hE
 ·by_cases h2:c<0
  ·have h3:¬0≤c:=by omega
   go_enter Tryz.func101,Tryz.ntmps101
   go_wp2_with (first|((with_reducible refine aF (d:=some 2) ?_);intro W2 g2 hE2 hB2 hg2;simp[Act.eval,Act.put,Value.cells] at hB2;(try replace hE:=hE.trans hE2);have hb2_0:=hB2.cell 0;have hb2_1:=hB2.cell 1;simp at hb2_0 hb2_1;clear hE2)|((with_reducible refine aF (d:=some 3) ?_);intro W3 g3 hE3 hB3 hg3;simp[Act.eval,Act.put,Value.cells] at hB3;(try replace hE:=hE.trans hE3);(try replace hb2_0:=hE3.c hb2_0);(try replace hb2_1:=hE3.c hb2_1);have hb3_0:=hB3.cell 0;have hb3_1:=hB3.cell 1;simp at hb3_0 hb3_1;clear hE3))
   go_ret
   exact dB.of (by rw[Ho.out,if_pos (.inr h2)];simp[h1,h3]) hE
  ·have Hn:=Lib.hid (show¬(a<0∨c<0) by omega)
   by_cases h4:c<a
   ·go_enter Tryz.func101,Tryz.ntmps101
    go_wp2_with (first|((with_reducible refine aF (d:=some 2) ?_);intro W2 g2 hE2 hB2 hg2;simp[Act.eval,Act.put,Value.cells] at hB2;(try replace hE:=hE.trans hE2);have hb2_0:=hB2.cell 0;have hb2_1:=hB2.cell 1;simp at hb2_0 hb2_1;clear hE2)|((with_reducible refine aF (d:=some 3) ?_);intro W3 g3 hE3 hB3 hg3;simp[Act.eval,Act.put,Value.cells] at hB3;(try replace hE:=hE.trans hE3);(try replace hb2_0:=hE3.c hb2_0);(try replace hb2_1:=hE3.c hb2_1);have hb3_0:=hB3.cell 0;have hb3_1:=hB3.cell 1;simp at hb3_0 hb3_1;clear hE3))
    go_ret
    exact dB.of (by rw[Ho.out,if_neg Hn.out];simp[h4]) hE
   ·by_cases h5:a=c
    ·subst h5;by_cases h6:d<b
     ·go_enter Tryz.func101,Tryz.ntmps101
      go_wp2_with (first|((with_reducible refine aF (d:=some 2) ?_);intro W2 g2 hE2 hB2 hg2;simp[Act.eval,Act.put,Value.cells] at hB2;(try replace hE:=hE.trans hE2);have hb2_0:=hB2.cell 0;have hb2_1:=hB2.cell 1;simp at hb2_0 hb2_1;clear hE2)|((with_reducible refine aF (d:=some 3) ?_);intro W3 g3 hE3 hB3 hg3;simp[Act.eval,Act.put,Value.cells] at hB3;(try replace hE:=hE.trans hE3);(try replace hb2_0:=hE3.c hb2_0);(try replace hb2_1:=hE3.c hb2_1);have hb3_0:=hB3.cell 0;have hb3_1:=hB3.cell 1;simp at hb3_0 hb3_1;clear hE3))
      go_ret
      exact dB.of (by rw[Ho.out,if_neg Hn.out];simp[h6]) hE
     ·go_enter Tryz.func101,Tryz.ntmps101
      go_wp2_with (first|((with_reducible refine aF (d:=some 2) ?_);intro W2 g2 hE2 hB2 hg2;simp[Act.eval,Act.put,Value.cells] at hB2;(try replace hE:=hE.trans hE2);have hb2_0:=hB2.cell 0;have hb2_1:=hB2.cell 1;simp at hb2_0 hb2_1;clear hE2)|((with_reducible refine aF (d:=some 3) ?_);intro W3 g3 hE3 hB3 hg3;simp[Act.eval,Act.put,Value.cells] at hB3;(try replace hE:=hE.trans hE3);(try replace hb2_0:=hE3.c hb2_0);(try replace hb2_1:=hE3.c hb2_1);have hb3_0:=hB3.cell 0;have hb3_1:=hB3.cell 1;simp at hb3_0 hb3_1;clear hE3))
      go_ret
      exact dB.of (by rw[Ho.out,if_neg Hn.out];simp[h6]) hE
    ·have q5:(a==c)=false:=by simp[h5]
     go_enter Tryz.func101,Tryz.ntmps101
     go_wp2_with (first|((with_reducible refine aF (d:=some 2) ?_);intro W2 g2 hE2 hB2 hg2;simp[Act.eval,Act.put,Value.cells] at hB2;(try replace hE:=hE.trans hE2);have hb2_0:=hB2.cell 0;have hb2_1:=hB2.cell 1;simp at hb2_0 hb2_1;clear hE2)|((with_reducible refine aF (d:=some 3) ?_);intro W3 g3 hE3 hB3 hg3;simp[Act.eval,Act.put,Value.cells] at hB3;(try replace hE:=hE.trans hE3);(try replace hb2_0:=hE3.c hb2_0);(try replace hb2_1:=hE3.c hb2_1);have hb3_0:=hB3.cell 0;have hb3_1:=hB3.cell 1;simp at hb3_0 hb3_1;clear hE3))
     go_ret
     exact dB.of (by rw[Ho.out,if_neg Hn.out];simp[h4,h5]) hE
end Go.St
end
section
namespace Go.St
open Go Go.Bp Go.RowKit Go.Proofs
theorem Town.stepsTo_c{t:Town}{k:Task}{n:Nat}(h:(n:Int)∈k.closed):t.stepsTo k (n+1)=t.stepsTo k n:=by rw[Town.stepsTo,if_pos h,List.append_nil]
theorem Town.stepsTo_f{t:Town}{k:Task}{n:Nat}(hn:n<t.streets.length)(h:(n:Int)∉k.closed)(h2:t.streets[n].both=false):t.stepsTo k (n+1)=t.stepsTo k n++ [⟨(n:Int),false⟩]:=by
 rw[Town.stepsTo,if_neg h,Town.at_eq hn,if_neg (by simp[h2])]
theorem Town.stepsTo_t{t:Town}{k:Task}{n:Nat}(hn:n<t.streets.length)(h:(n:Int)∉k.closed)(h2:t.streets[n].both=true):t.stepsTo k (n+1)=t.stepsTo k n++ [⟨(n:Int),false⟩]++ [⟨(n:Int),true⟩]:=by
 rw[Town.stepsTo,if_neg h,Town.at_eq hn,if_pos h2];simp
set_option maxHeartbeats 4000000 in
theorem Jh(tv kv:Value)(t:Town)(k:Task)(w:World)(h:aM w tv t)(hst:t.streets.length≤40)(hk:bA w kv k):
 Calls Tryz.prog 68 #[tv,kv] w (Ret w fun v w'=>aX w.heap.size w' v (t.stepsAll k)):=by
 obtain⟨pv,shv,tmv,xv,rfl,hT⟩:=h;obtain⟨A4,cp4,rfl,_,h42,h44⟩:=hT.streets;obtain⟨cv,rfl,hC⟩:=hk;unfold maxLen at h42;have hE:=Ext.refl w;have hCw:=hC;clear hT;go_enter Tryz.func68,Tryz.ntmps68
 go_wp2_with (first|((with_reducible refine aF (d:=some 2) ?_);intro W2 g2 hE2 hB2 hg2;simp[Act.eval,Act.put,Value.cells] at hB2;(try replace hE:=hE.trans hE2);have hb2_0:=hB2.cell 0;have hb2_1:=hB2.cell 1;have hb2_2:=hB2.cell 2;have hb2_3:=hB2.cell 3;simp at hb2_0 hb2_1 hb2_2 hb2_3;clear hE2)|((with_reducible refine aF (d:=some 3) ?_);intro W3 g3 hE3 hB3 hg3;simp[Act.eval,Act.put,Value.cells] at hB3;(try replace hE:=hE.trans hE3);(try replace hb2_3:=Ext.c hE3 hb2_3);have hb3_0:=hB3.cell 0;have hb3_1:=hB3.cell 1;have hb3_2:=hB3.cell 2;have hb3_3:=hB3.cell 3;have hb3_4:=hB3.cell 4;simp at hb3_0 hb3_1 hb3_2 hb3_3 hb3_4;clear hE3))
 have hB0:=hE.size;have k23:=hb2_3;have k30:=hb3_0;have k31:=hb3_1;have k32:=hb3_2;have k33:=hb3_3;have k34:=hb3_4;go_loopw [5,6] (fun v i wr=>Ext W3 wr∧∃i0:Nat,i0≤t.streets.length∧i=.int .i64 i0∧aX W3.heap.size wr v (t.stepsTo k i0)) (fun _ i _=>t.streets.length-(intOf i).toNat)
 case atStart=>exact⟨Ext.refl _,0,by omega,rfl,aX.nil _ _⟩
 case round=>
  obtain⟨hEr,i,hi,rfl,hO⟩:=hrel;have d23:=Ext.c hEr k23;have d30:=Ext.c hEr k30;have d31:=Ext.c hEr k31;have d32:=Ext.c hEr k32;have d33:=Ext.c hEr k33;have d34:=Ext.c hEr k34;have hCr:=hCw.ext (hE.trans hEr);clear hb2_0 hb2_1 hb2_2 hb2_3 hb3_0 hb3_1 hb3_2 hb3_3 hb3_4 hB2 hB3 hC;have hl:=Town.stepsTo_len (t:=t) (k:=k) i;by_cases hlt:i<t.streets.length
  ·obtain⟨ad,rfl,hc⟩:=h44 (by omega)
   obtain⟨sv,hs⟩:=hc i hlt;have e5w:=fld hs.1 (i:=4+1) (by decide) (u:=.bool t.streets[i].both) rfl
   clear h44 hc hs;by_cases hcl:(i:Int)∈k.closed
   ·have q1:decide ((i:Int)∉k.closed)=false:=by simp[hcl]
    have Hn:=Lib.hid (Town.stepsTo_c (t:=t) hcl);clear hcl;go_wp2_with (go_at_call 102;refine(rD _ k _ _ (bA.of hCr)).mono ?_;rintro e Wo ⟨rfl,hEo⟩;rw[q1];replace hEr:=hEr.trans hEo;replace hO:=hO.ext hEo)
    go_roundw
    case rel=>exact⟨hEr,i+1,by omega,by go_num,by rw[Hn.out];exact hO⟩
    case measure=>simp[intOf];omega
   ·have q1:decide ((i:Int)∉k.closed)=true:=by simp[hcl]
    have Hcl:=Lib.hid hcl;clear hcl
    cases hbo:t.streets[i].both with
    |false=>
     have Hn:=Lib.hid (Town.stepsTo_f hlt Hcl.out hbo);rw[hbo] at e5w;go_wp2_with (first|(go_at_call 102;refine(rD _ k _ _ (bA.of hCr)).mono ?_;rintro e Wo ⟨rfl,hEo⟩;rw[q1];replace hEr:=hEr.trans hEo;replace hO:=hO.ext hEo)|((with_reducible refine kU (d:=some 20) (p:=(i:Int)) (q:=false) ?_ ?_);rfl;intro W20 g20 hE20 hB20 hg20;replace hEr:=hEr.trans hE20;replace hO:=hO.ext hE20)|((with_reducible refine iV (d:=some 21) (y:=⟨(i:Int),false⟩) ?_ hO ?_ hB20 ?_ ?_ ?_);rfl;rfl;omega;exact Nat.le_trans (Nat.le_refl _) hEr.size;intro A21 c21 W21 hO21 hm21 hg21;replace hEr:=hm21 _ hEr;have d23:=Ext.c hEr k23;have e5:=Ext.cell_some (Ext.trans hE hEr) e5w))
     go_roundw
     case rel=>exact⟨hEr,i+1,by omega,by go_num,by rw[Hn.out];exact hO21⟩
     case measure=>simp[intOf];omega
    |true=>
     have Hn:=Lib.hid (Town.stepsTo_t hlt Hcl.out hbo);rw[hbo] at e5w;go_wp2_with (first|(go_at_call 102;refine(rD _ k _ _ (bA.of hCr)).mono ?_;rintro e Wo ⟨rfl,hEo⟩;rw[q1];replace hEr:=hEr.trans hEo;replace hO:=hO.ext hEo)|((with_reducible refine kU (d:=some 20) (p:=(i:Int)) (q:=false) ?_ ?_);rfl;intro W20 g20 hE20 hB20 hg20;replace hEr:=hEr.trans hE20;replace hO:=hO.ext hE20)|((with_reducible refine iV (d:=some 21) (y:=⟨(i:Int),false⟩) ?_ hO ?_ hB20 ?_ ?_ ?_);rfl;rfl;omega;exact Nat.le_trans (Nat.le_refl _) hEr.size;intro A21 c21 W21 hO21 hm21 hg21;replace hEr:=hm21 _ hEr;have d23:=Ext.c hEr k23;have e5:=Ext.cell_some (Ext.trans hE hEr) e5w)|((with_reducible refine kU (d:=some 31) (p:=(i:Int)) (q:=true) ?_ ?_);rfl;intro W31 g31 hE31 hB31 hg31;replace hEr:=Ext.trans hEr hE31;replace hO21:=aX.ext hO21 hE31)|((with_reducible refine iV (d:=some 32) (y:=⟨(i:Int),true⟩) ?_ hO21 ?_ hB31 ?_ ?_ ?_);rfl;rfl;(rw[List.length_append];simp;omega);exact hEr.size;intro A32 c32 W32 hO32 hm32 hg32;replace hEr:=hm32 _ hEr))
     go_roundw
     case rel=>exact⟨hEr,i+1,by omega,by go_num,by rw[Hn.out];simpa using hO32⟩
     case measure=>simp[intOf];omega
  ·obtain rfl:i=t.streets.length:=by omega
   clear h44;go_wp2
   go_ret
   exact⟨_,rfl,aX.base hO hB0,hE.trans hEr⟩
end Go.St
end
section
namespace Go.St
open Go Go.Bp Go.RowKit Go.Proofs
theorem fK:(Tryz.prog.info? 130).map TypeInfo.size=some 2:=by kernel_rfl
theorem Cc:(Tryz.prog.info? 131).map TypeInfo.size=some 1:=by kernel_rfl
theorem yW:(Tryz.prog.info? 130).map (fun i=>(i.zero,i.size,i.bytes))=some (some (.agg #[.int .i64 0,.int .i64 0]),2,16):=by kernel_rfl
theorem Rg:(Tryz.prog.info? 131).map (fun i=>(i.zero,i.size,i.bytes))=some (some (.slice none 0 0),1,24):=by kernel_rfl
section
variable{w:World}{G:Nat}{gs:List Nat}{m:Nat}{f:Nat→Nat→Int×Int}{p s:Nat}
theorem KT.ld(h:KT w G gs m f)(hp:p<gs.length)(hs:s<m):(loadVar 130 ⟨gs[p],s*2,none⟩).run Tryz.prog w=.ok (.agg #[.int .i64 (f p s).1,.int .i64 (f p s).2]) w:=by
 obtain⟨i,hi,hz⟩:=iJ fK;refine eH (cs:=[.int .i64 (f p s).1,.int .i64 (f p s).2]) Tryz.underlying130 hi (by rw[hz];rfl) ?_
 intro j u hj;have hadd:(⟨gs[p],s*2,none⟩:Addr).add j=⟨gs[p],s*2+j,none⟩:=by unfold Addr.add;split<;>simp_all
 rw[hadd];match j,hj with
 |0,hj=>simp at hj;rw[←hj];exact h.c1 hp hs
 |1,hj=>simp at hj;rw[←hj];exact h.c2 hp hs
end
theorem KT.ldc{w:World}{G:Nat}{gs:List Nat}{m:Nat}{f:Nat→Nat→Int×Int}{p s:Nat}{c1 c2:Int}(h:KT w G gs m f)(hp:p<gs.length)(hs:s<m)(hc:f p s=(c1,c2)):(loadVar 130 ⟨gs[p],s*2,none⟩).run Tryz.prog w=.ok (.agg #[.int .i64 c1,.int .i64 c2]) w:=by
 have:=h.ld hp hs;rw[hc] at this;exact this
theorem jG{w:World}{g:Nat}{a b:Value}(h:Blk w g 130 #[a,b]):(loadVar 130 ⟨g,0,none⟩).run Tryz.prog w=.ok (.agg #[a,b]) w:=kZ Tryz.underlying130 fK h rfl
def byF(t:Town)(k:Task)(f:Nat→Nat→Int×Int)(x:Step)(set:Int):Int×Int:=
 if(f (t.ends x).2.toNat (aE set (t.shownAt k.time x)).toNat).1<0 then f (t.ends x).2.toNat (aE set (t.shownAt k.time x)).toNat
 else((f (t.ends x).2.toNat (aE set (t.shownAt k.time x)).toNat).1+(t.at_ x.st).metres,(f (t.ends x).2.toNat (aE set (t.shownAt k.time x)).toNat).2+1)
def Tn(w:World)(x:Int×Int)(e:Ending)(w':World):Prop:=e=.returned (.agg #[.int .i64 x.1,.int .i64 x.2])∧Ext w w'
theorem yU{a b:Int}:∀u∈(Value.agg #[.int .i64 a,.int .i64 b]).cells.toList,u.oneCell'=true:=by
 intro u hu;simp[Value.cells] at hu;rcases hu with rfl|rfl<;>rfl
set_option maxHeartbeats 8000000 in
theorem xX(tv kv:Value)(t:Town)(k:Task)(n:Nat)(b:Bool)(set:Int)(G:Nat)(gs:List Nat)(f:Nat→Nat→Int×Int)(w:World)(h:aM w tv t)(hok:t.Ok)(hk:bA w kv k)(ht:inB k.time 0 (t.times.length-1)=true)
 (hn:n<t.streets.length)(hset:0≤set∧set<t.sets)(hK:KT w G gs (2^t.shows.length) f)(hgs:gs.length=t.places.length)(hf:∀p s,(f p s).1≤100000000∧0≤(f p s).2∧(f p s).2≤100000000):
 Calls Tryz.prog 70 #[tv,kv,.slice (some ⟨G,0,none⟩) gs.length gs.length,.agg #[.int .i64 n,.bool b],.int .i64 set] w (Tn w (byF t k f ⟨n,b⟩ set)):=by
 obtain⟨pv,shv,tmv,xv,rfl,hT⟩:=h;obtain⟨A4,cp4,rfl,_,h42,h44⟩:=hT.streets;obtain⟨clv,rfl,hC⟩:=hk;unfold maxLen at h42;have hE:=Ext.refl w;obtain⟨ad4,rfl,hc4⟩:=h44 (by omega)
 obtain⟨sv,hs⟩:=hc4 n hn;have hin:inB (n:Int) 0 (t.streets.length-1)=true:=aV.2 (by omega)
 have hso:=hok.at_ hn;have hsl:=hso.sh;have htm:=aV.1 ht;obtain⟨q,hq⟩:∃q:Nat,(t.ends ⟨n,b⟩).2=q:=by have:=aV.1 (hok.ends (x:=⟨n,b⟩) hin).2;exact⟨((t.ends ⟨n,b⟩).2).toNat,by omega⟩
 have hqp:q<gs.length:=by have:=aV.1 (hok.ends (x:=⟨n,b⟩) hin).2;rw[hq] at this;omega
 obtain⟨tm,htme⟩:∃n:Nat,k.time=n:=⟨k.time.toNat,by omega⟩
 have html:tm<t.streets[n].shows.length:=by omega
 have hshown:=(hok.shown hso ht).2;have hat:=Town.at_eq hn;have hsx:t.shownAt k.time ⟨(n:Int),b⟩=t.streets[n].shows[tm]:=by unfold Town.shownAt;rw[hat,htme];simp[List.getD,html]
 have hsx2:t.streets[n].shows.getD k.time.toNat 0=t.streets[n].shows[tm]:=by rw[htme];simp[List.getD,html]
 rw[hsx2] at hshown;have hsm:=aV.1 hso.m;have hsets:=(Town.sets_bd hok.sh).2;have hp2:=hok.p2;have hby:byF t k f ⟨n,b⟩ set=if(f q (aE set t.streets[n].shows[tm]).toNat).1<0 then f q (aE set t.streets[n].shows[tm]).toNat else((f q (aE set t.streets[n].shows[tm]).toNat).1+t.streets[n].metres,(f q (aE set t.streets[n].shows[tm]).toNat).2+1):=by
  unfold byF;rw[hq,hsx,hat];rfl
 obtain⟨s,hst'⟩:∃s,t.streets[n]=s:=⟨_,rfl⟩;obtain⟨x,hxx⟩:∃x,t.streets[n].shows[tm]=x:=⟨_,rfl⟩;have hxs:s.shows[tm]? =some x:=by rw[←hst',←hxx];exact List.getElem?_eq_getElem html
 rw[hxx] at hshown hby;rw[hst'] at hs hsm html hby;have hless:cH set x=aE set x:=dE hset.1 (by omega) hshown.1
 have hl2:=lL (b:=x) hset.1 (show set<2^t.shows.length from hset.2)
 have hl0:=cM set x;have cless:∀w,Calls Tryz.prog 44 #[.int .i64 set,.int .i64 x] w fun e w'=>e=.returned (.int .i64 (aE set x))∧w=w':=fun w=>by rw[←hless];exact fI set x ⟨hset.1,by omega⟩ ⟨hshown.1,by omega⟩ w
 obtain⟨u,hu⟩:∃u:Nat,aE set x=u:=⟨(aE set x).toNat,by omega⟩
 rw[hu] at cless hby hl2;have hul:u<2^t.shows.length:=by exact_mod_cast hl2
 have hfb:=hf q u;rw[show((u:Int)).toNat=u from rfl] at hby
 obtain⟨c1,hc1⟩:∃c,(f q u).1=c:=⟨_,rfl⟩;obtain⟨c2,hc2⟩:∃c,(f q u).2=c:=⟨_,rfl⟩;have hfe:f q u=(c1,c2):=Prod.ext hc1 hc2;rw[hfe] at hby hfb;simp only at hby hfb;obtain⟨hfb1,hfb2,hfb3⟩:=hfb;have Hby:=Lib.hid hby;have hends:=fun w h=>dW (.agg #[pv,shv,tmv,.slice (some ad4) t.streets.length cp4]) t n b w h hn
 rw[hq] at hends;obtain⟨hs1,Ai,ci,rfl,i1,i2,i3,i4⟩:=hs;obtain⟨adI,rfl,hcI⟩:=i4 (by omega)
 unfold maxLen at i2;have e7:w.cell? (adI.add tm)=some (.int .i64 x):=hcI tm _ (by unfold gA;rw[List.getElem?_map,hxs];rfl)
 have hsA:gB w (ad4.add (n*7)) s (.slice (some adI) s.shows.length ci):=⟨hs1,some adI,ci,rfl,i1,i2,i3,i4⟩;have html:(tm:Int)<s.shows.length:=by omega
 obtain⟨M,hM⟩:∃M:Nat,2^t.shows.length=M:=⟨_,rfl⟩;rw[hM] at hK hul;rw[htme];have Hq:=Lib.hid hq;have Hgs:=Lib.hid hgs;clear hgs hby hf hs1 i1 i2 i3 i4 hcI hc4 h44 hsx hsx2 hless hst' hxx hxs hat hin hso hsl hshown hq hu hl0 hl2 hM htme htm ht hset hsets hc1 hc2;go_enter Tryz.func70,Tryz.ntmps70
 go_wp2_with (first|((with_reducible refine aS (d:=some 10) yW ?_);intro W10 g10 hE10 hB10 hg10;have hg100:=Nat.le_trans hE.size hg10;simp[Value.cells] at hB10;(try replace hE:=hE.trans hE10);(try replace hT:=hT.ext hE10);(try replace hK:=hK.ext hE10);(try replace hsA:=hsA.ext hE10);(try replace hB6:=hB6.ext hE10);(try replace e7:=Ext.c hE10 e7);(try replace hb5_0:=Ext.c hE10 hb5_0);(try replace hb5_1:=Ext.c hE10 hb5_1);(try replace hb5_2:=Ext.c hE10 hb5_2);(try replace hb5_3:=Ext.c hE10 hb5_3);(try replace hb8_0:=Ext.c hE10 hb8_0);(try replace hb8_1:=Ext.c hE10 hb8_1))|(go_at_call 69;((with_reducible refine((hends _ (aM.of hT))).mono ?_);rintro e WcQ ⟨rfl,hEcQ⟩;(try replace hE:=hE.trans hEcQ);(try replace hK:=hK.ext hEcQ);(try replace hsA:=hsA.ext hEcQ);(try replace hB6:=hB6.ext hEcQ);(try replace hB10:=hB10.ext hEcQ);(try replace e7:=Ext.c hEcQ e7);(try replace hb5_3:=Ext.c hEcQ hb5_3);(try replace hb8_0:=Ext.c hEcQ hb8_0)))|(((with_reducible refine aC (d:=some 26) (hl:=eA hsA) ?_ ?_);rfl))|((with_reducible refine aO (e:=87) (u:=13) (v:=.agg #[.int .i64 s.a,.int .i64 s.b,.int .i64 s.metres,.int .i64 s.lo,.int .i64 s.hi,.bool s.both,.slice (some adI) s.shows.length ci]) sY ?_ ?_ ?_ ?_ ?_ ?_);(intro g;rfl);(intro g;rfl);rfl;rfl;(simp[Value.cells,Value.oneCell']);intro W13 g13 hE13 hB13 hg13;simp[Value.cells] at hB13;(try replace hE:=hE.trans hE13);(try replace hK:=hK.ext hE13);(try replace hB6:=hB6.ext hE13);(try replace hB10:=hB10.ext hE13);(try replace e7:=Ext.c hE13 e7);clear hE13)|((with_reducible refine aF (d:=some 5) ?_);intro W5 g5 hE5 hB5 hg5;simp[Act.eval,Act.put,Value.cells] at hB5;(try replace hE:=hE.trans hE5);(try replace hT:=hT.ext hE5);(try replace hK:=hK.ext hE5);(try replace hsA:=hsA.ext hE5);(try replace e7:=Ext.c hE5 e7);have hb5_0:=hB5.cell 0;have hb5_1:=hB5.cell 1;have hb5_2:=hB5.cell 2;have hb5_3:=hB5.cell 3;simp at hb5_0 hb5_1 hb5_2 hb5_3;clear hE5)|((with_reducible refine aF (d:=some 6) ?_);intro W6 g6 hE6 hB6 hg6;simp[Act.eval,Act.put,Value.cells] at hB6;(try replace hE:=hE.trans hE6);(try replace hT:=hT.ext hE6);(try replace hK:=hK.ext hE6);(try replace hsA:=hsA.ext hE6);(try replace e7:=Ext.c hE6 e7);(try replace hb5_0:=Ext.c hE6 hb5_0);(try replace hb5_1:=Ext.c hE6 hb5_1);(try replace hb5_2:=Ext.c hE6 hb5_2);(try replace hb5_3:=Ext.c hE6 hb5_3);clear hE6)|((with_reducible refine aF (d:=some 8) ?_);intro W8 g8 hE8 hB8 hg8;simp[Act.eval,Act.put,Value.cells] at hB8;(try replace hE:=hE.trans hE8);(try replace hT:=hT.ext hE8);(try replace hK:=hK.ext hE8);(try replace hsA:=hsA.ext hE8);(try replace hB6:=hB6.ext hE8);(try replace e7:=Ext.c hE8 e7);(try replace hb5_0:=Ext.c hE8 hb5_0);(try replace hb5_1:=Ext.c hE8 hb5_1);(try replace hb5_2:=Ext.c hE8 hb5_2);(try replace hb5_3:=Ext.c hE8 hb5_3);have hb8_0:=hB8.cell 0;have hb8_1:=hB8.cell 1;simp at hb8_0 hb8_1;clear hE8))
 have hEo:=Ext.todrew (Ext.refl W13);have dG:=hK.cell hqp;have d13:=hB13.cell 6;have d6:=hB6.cell 3;simp at d13 d6;have hQ:(gs[q],q)=(gs[q],q):=rfl;by_cases hneg:c1<0
 ·have Hr:=Lib.hid (show byF t k f ⟨n,b⟩ set=(c1,c2) by rw[Hby.out,if_pos hneg])
  refine aR (.take 0 (.take 1 (.take 2 (.take 3 (.take 4 (.take 5 (.take 6 (.take 7 (.take 8 (.take 9 (.take 10 (.two 11 (.take 12 (.take 13 (.one 14 (.one 15 .nil)))) 14 (.one 11 (.take 12 (.take 13 (.one 15 .nil)))))))))))))))) (fun w'=>Ext W13 w'∧w'.cell? ⟨G,q,none⟩=some (.slice (some ⟨gs[q],0,none⟩) M M)∧w'.cell? ⟨g13,6,none⟩=some (.slice (some adI) s.shows.length ci)∧w'.cell? ⟨g6,3,none⟩=some (.int .i64 (tm:Int))∧w'.cell? (adI.add tm)=some (.int .i64 x)) ?_ (fun hHd=> ?_)
  ·(first|exact True.intro|((try dsimp only);(repeat' apply And.intro)<;>first|assumption|(refine Ext.cell_some (Ext.todrew (Ext.refl _)) ?_;assumption)))
  repeat' first|((with_reducible refine aB ?_);(first|((with_reducible refine aB (i:=13) ?_);refine tk (v:=.agg #[.int .i64 c1,.int .i64 c2]) ?_ hHd ?_;(·exact aA (by rfl) (fun W h=>KT.ldc (hK.ext h.1) hqp hul hfe)))|(refine tk (v:= ?_) ?_ hHd ?_;rotate_left;(·(intro wq hSw;(try dsimp only at hSw);go_simp;(try with_reducible rfl)))));(try simp only[pS]))|((with_reducible refine bC ?_);refine aQ (by simp only[gS];rfl) ?_)|((with_reducible refine fQ ?_);refine dI (by simp only[gS];rfl) (by simp only[gS];rfl) ?_ ?_)|((with_reducible refine aH (d:=some 38) ?_);((refine bD (by rfl) (cless _) (by go_simp) ?_;rintro e w' ⟨rfl,rfl⟩;refine⟨_,rfl,?_⟩)))|((with_reducible refine aH (d:=some 14) ?_);(((with_reducible refine aS (d:=some 14) yW ?_);intro W14 g14 hE14 hB14 hg14;simp[Value.cells] at hB14;have hX14:=hEo.trans hE14;(have sG:=Ext.cell_some hX14 dG;have s13:=Ext.cell_some hX14 d13;have s6:=Ext.cell_some hX14 d6;have s7:=Ext.cell_some hX14 e7))))|((with_reducible refine aH (d:=none) ?_);(((with_reducible refine aK (t:=130) (e:=130) (g:=g14) (off:=0) (n:=2) (v:=.agg #[.int .i64 c1,.int .i64 c2]) ?_ ?_ hB14 fK ?_ ?_ ?_ ?_);rfl;rfl;rfl;(simp[Value.cells]);(exact yU);intro Ws hBs hgrs;simp[aI,Value.cells] at hBs;have hXs:=bI hX14 hgrs hg14 hX14.size;(have sG:=Ext.cell_some hXs dG;have s13:=Ext.cell_some hXs d13;have s6:=Ext.cell_some hXs d6;have s7:=Ext.cell_some hXs e7))))|((with_reducible refine bB ?_);clear hHd;refine aJ ?_ (fun hHd=> ?_);(·(first|exact True.intro|((try dsimp only);(repeat' apply And.intro)<;>first|assumption|(refine Ext.cell_some (Ext.todrew (Ext.refl _)) ?_;assumption))));(try simp only[pS]))|(with_reducible refine aG ?_)
  all_goals((have hB10s:=hB10.ext hXs;have hEs:=Ext.trans hE hXs;have c0:=hBs.cell 0;simp at c0;go_wp2_with (first|((with_reducible refine aC (d:=some 44) (hl:=jG hBs) ?_ ?_);rfl)|((with_reducible refine aK (t:=130) (e:=130) (g:=g10) (off:=0) (n:=2) (v:=.agg #[.int .i64 c1,.int .i64 c2]) ?_ ?_ hB10s fK ?_ ?_ ?_ ?_);rfl;rfl;rfl;(simp[Value.cells]);(exact yU);intro Wz hBz hgrz;simp[aI,Value.cells] at hBz;have hEz:=bI hEs hgrz hg100 hEs.size));(refine tU rfl rfl rfl (jG hBz) ?_);exact⟨by rw[Hr.out],hEz⟩))
 ·have Hr:=Lib.hid (show byF t k f ⟨n,b⟩ set=(c1+s.metres,c2+1) by rw[Hby.out,if_neg hneg])
  have hm1:=hsm.1;have hm2:=hsm.2;refine aR (.take 0 (.take 1 (.take 2 (.take 3 (.take 4 (.take 5 (.take 6 (.take 7 (.take 8 (.take 9 (.take 10 (.two 11 (.take 12 (.take 13 (.one 14 (.one 15 .nil)))) 14 (.one 11 (.take 12 (.take 13 (.one 15 .nil)))))))))))))))) (fun w'=>Ext W13 w'∧w'.cell? ⟨G,q,none⟩=some (.slice (some ⟨gs[q],0,none⟩) M M)∧w'.cell? ⟨g13,6,none⟩=some (.slice (some adI) s.shows.length ci)∧w'.cell? ⟨g6,3,none⟩=some (.int .i64 (tm:Int))∧w'.cell? (adI.add tm)=some (.int .i64 x)) ?_ (fun hHd=> ?_)
  ·(first|exact True.intro|((try dsimp only);(repeat' apply And.intro)<;>first|assumption|(refine Ext.cell_some (Ext.todrew (Ext.refl _)) ?_;assumption)))
  repeat' first|((with_reducible refine aB ?_);(first|((with_reducible refine aB (i:=13) ?_);refine tk (v:=.agg #[.int .i64 c1,.int .i64 c2]) ?_ hHd ?_;(·exact aA (by rfl) (fun W h=>KT.ldc (hK.ext h.1) hqp hul hfe)))|(refine tk (v:= ?_) ?_ hHd ?_;rotate_left;(·(intro wq hSw;(try dsimp only at hSw);go_simp;(try with_reducible rfl)))));(try simp only[pS]))|((with_reducible refine bC ?_);refine aQ (by simp only[gS];rfl) ?_)|((with_reducible refine fQ ?_);refine dI (by simp only[gS];rfl) (by simp only[gS];rfl) ?_ ?_)|((with_reducible refine aH (d:=some 38) ?_);((refine bD (by rfl) (cless _) (by go_simp) ?_;rintro e w' ⟨rfl,rfl⟩;refine⟨_,rfl,?_⟩)))|((with_reducible refine aH (d:=some 14) ?_);(((with_reducible refine aS (d:=some 14) yW ?_);intro W14 g14 hE14 hB14 hg14;simp[Value.cells] at hB14;have hX14:=hEo.trans hE14;(have sG:=Ext.cell_some hX14 dG;have s13:=Ext.cell_some hX14 d13;have s6:=Ext.cell_some hX14 d6;have s7:=Ext.cell_some hX14 e7))))|((with_reducible refine aH (d:=none) ?_);(((with_reducible refine aK (t:=130) (e:=130) (g:=g14) (off:=0) (n:=2) (v:=.agg #[.int .i64 c1,.int .i64 c2]) ?_ ?_ hB14 fK ?_ ?_ ?_ ?_);rfl;rfl;rfl;(simp[Value.cells]);(exact yU);intro Ws hBs hgrs;simp[aI,Value.cells] at hBs;have hXs:=bI hX14 hgrs hg14 hX14.size;(have sG:=Ext.cell_some hXs dG;have s13:=Ext.cell_some hXs d13;have s6:=Ext.cell_some hXs d6;have s7:=Ext.cell_some hXs e7))))|((with_reducible refine bB ?_);clear hHd;refine aJ ?_ (fun hHd=> ?_);(·(first|exact True.intro|((try dsimp only);(repeat' apply And.intro)<;>first|assumption|(refine Ext.cell_some (Ext.todrew (Ext.refl _)) ?_;assumption))));(try simp only[pS]))|(with_reducible refine aG ?_)
  all_goals((have hB10s:=hB10.ext hXs;have hEs:=Ext.trans hE hXs;have c0:=hBs.cell 0;have c1':=hBs.cell 1;have m2:=Ext.cell_some hXs (hB13.cell 2);simp at c0 c1' m2;go_wp2_with (first|((with_reducible refine aK (t:=130) (e:=130) (g:=g10) (off:=0) (n:=2) (v:=.agg #[.int .i64 (c1+s.metres),.int .i64 (c2+1)]) ?_ ?_ hB10s fK ?_ ?_ ?_ ?_);rfl;rfl;rfl;(simp[Value.cells]);(exact yU);intro Wz hBz hgrz;simp[aI,Value.cells] at hBz;have hEz:=bI hEs hgrz hg100 hEs.size));(refine tU rfl rfl rfl (jG hBz) ?_);exact⟨by rw[Hr.out],hEz⟩))
end Go.St
end
