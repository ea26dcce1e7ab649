import Derived.Test.YtbfbepnkofampaaGreatDoorXP26
import Derived.Test.YtbfbepnkofampaaGreatDoorXP28
set_option maxRecDepth 100000
set_option synthInstance.maxSize 2000
set_option synthInstance.maxHeartbeats 400000
set_option maxHeartbeats 8000000
set_option linter.all false
section
namespace Go.Rg
open Go.Bp
namespace Rules
variable(r:Rules)
variable{r}
theorem why_norm{g g':List Grant}(h:g.map normG=g'.map normG)(d:Drive):r.whyG g d=r.whyG g' d:=by
 have key:∀l:List Grant,(l.filter fun g=>decide (g.day≤d.day)&&r.sys.allow [g.right] d.cls d.features).map (against d)=((l.map normG).filter fun g=>decide (g.day≤d.day)&&r.sys.allow [g.right] d.cls d.features).map (against d):=fun l=>
  (iY (f:=against d) _ (fun g=>by
   unfold against;rw[norm_reason];by_cases hr:g.reason=0
   ·have:normG g=g:=if_pos hr;rw[this]
   ·simp[hr]) (fun g=>by rw[wR,norm_right]) l).symm
 unfold whyG;simp only[key g,key g',h]
end Rules
end Go.Rg
end
section
namespace Go.Rg
open Go Go.Bp Go.RowKit Go.Walk Go.Proofs
class RDrvE (r:Rules) (p:Person) (d:Drive) (e:outParam Int):Prop where h:r.driveErr p d=e
instance qRSg19{W:World}{v pv:Value}{r:Rules}{p:Person}{dd dc df e:Int}[h:RulesC W v r][hp:PersonC W pv p][hc:CntC r.sys][q:RDrvE r p ⟨dd,dc,df⟩ e]:FunC Tryz.prog 77 #[v,pv,.agg #[.int .i64 dd,.int .i64 dc,.int .i64 df]] W (RI W e):=⟨q.h▸zK r p v pv dd dc df W h.h hp.h hc⟩
end Go.Rg
end
section
namespace Go.Bp
open Go Go.RowKit Go.Walk
section
variable{P:Program}{ops:Array Oper}{Q:Exit→Act→World→Prop}{S:World→Prop}{a:Act}{w:World}{r:OTree}{i j:Nat}{rest:List Oper}
variable{l:List Value}{df:List Deferred}{d:Tmp}{op:Op}{t ty:TypeId}{pos:String}{after:Array Edge}{x y z:Operand}{v u:Value}{b b1 b2 c wq:Bool}{p:Addr}
variable{K:Act→Prop}
theorem Ps(k:K ⟨(l.set d (.bool (b||c))).toArray,df⟩)(hx:(⟨l.toArray,df⟩:Act).eval x=.bool b:=by(simp only[eS];rfl))(hy:(⟨l.toArray,df⟩:Act).eval y=mb (!b) (.bool c):=by(simp only[eS];rfl)):RdO S P ops ⟨some d,.pick x (.const (.bool true)) y,ty,pos,after,none⟩ ⟨l.toArray,df⟩ K:=
 bX (fun w _=>by cases b<;>simp[execOp,hx,hy,asBool,mb,evC]) k
variable{g:Tmp×Bool}
end
end Go.Bp
end
section
namespace Go.Rg
open Go Go.Bp Go.RowKit Go.Walk Go.Proofs
def freeTo(a b:Nat)(k:Nat):Bool:=(List.range k).all fun j=> !(a.testBit j&&b.testBit j)
theorem xF(a b k:Nat):freeTo a b (k+1)=(freeTo a b k&& !(a.testBit k&&b.testBit k)):=by unfold freeTo;rw[List.range_succ,List.all_append];simp
theorem Ay{a b n:Nat}(ha:a<2^n):freeTo a b n=decide (a&&&b=0):=by
 rw[Bool.eq_iff_iff,decide_eq_true_eq];unfold freeTo;rw[List.all_eq_true];constructor
 ·intro h;apply Nat.eq_of_testBit_eq;intro j;rw[Nat.testBit_and,Nat.zero_testBit];by_cases hj:j<n
  ·have:=h j (List.mem_range.2 hj)
   cases h1:a.testBit j<;>cases h2:b.testBit j<;>simp_all
  ·have:a.testBit j=false:=Nat.testBit_lt_two_pow (Nat.lt_of_lt_of_le ha (Nat.pow_le_pow_right (by decide) (by omega)))
   rw[this];rfl
 ·intro h j _;have:=congrArg (fun x=>x.testBit j) h
  simp only[Nat.testBit_and,Nat.zero_testBit] at this;simp[this]
theorem yN(s:Sys)(v lv:Value)(l:List Right)(c:Nat)(f:Int)(w:World)(h:SysV w v s)(hl:ListV w lv l)(hc:c<s.classes.length)(hn:s.classes.length≤12)(hk:s.codes.length≤8)(hio:s.InclOk)(hr:∀r∈l,s.rightErr r=0)(hf:0≤f∧f<256):
 Calls Tryz.prog 52 #[v,lv,.int .i64 c,.int .i64 f] w (RB w (s.allow l c f)):=by
 obtain⟨A,n,cp,A',c',rfl,hnn,-⟩:=h.h;obtain⟨B,kb,rfl,q1,q2⟩:=hl.form;unfold maxLen at q2;have i1:=SysB.mk h;obtain⟨R,hR⟩:∃R,s.allow l c f=R:=⟨_,rfl⟩;rw[hR];have HT:=Lib.hid (show∀i(hi:i<l.length),s.covers l[i].cls c=true→decide (l[i].codes.toNat&&&f.toNat=0)=true→R=true from fun i hi h1 h2=>by
  rw[←hR];unfold Sys.allow;exact List.any_eq_true.2 ⟨l[i],List.getElem_mem hi,by rw[h1,h2];rfl⟩)
 have HF:=Lib.hid (show(∀i(hi:i<l.length),(s.covers l[i].cls c&&decide (l[i].codes.toNat&&&f.toNat=0))=false)→R=false from fun h=>by
  rw[←hR];unfold Sys.allow;rw[List.any_eq_false];intro r hr;obtain⟨i,hi,rfl⟩:=List.mem_iff_getElem.1 hr;rw[h i hi];simp)
 have Hr:=Lib.hid hr;have Hnn:=Lib.hid hnn;have Hio:=Lib.hid hio;have hcn:c<n:=by omega
 have hn12:n≤12:=by omega
 clear hR hr hnn hio hc hn;go_enter Tryz.func52,Tryz.ntmps52
 go_wp2_with (first|(with_reducible refine aH ?_;intro V g _ _ _))
 go_loopw [9] (fun iv wr=>StepC V wr∧∃i:Nat,i≤l.length∧iv=.int .i64 i∧∀j(hj:j<i)(h1:j<l.length),(s.covers l[j].cls c&&decide (l[j].codes.toNat&&&f.toNat=0))=false) (fun iv _=>l.length-(RowKit.intOf iv).toNat)
 case atStart=>exact⟨⟨ExtC.h⟩,0,by omega,rfl,fun j hj=>by omega⟩
 case round=>
  obtain⟨_,i,hi,rfl,hz⟩:=hrel;have Hz:=Lib.hid hz;clear hz;by_cases li:i<l.length
  ·obtain⟨ad,rfl,ha⟩:=(hl.ext (ExtC.h:Ext w wr)).elem li;have hre:=Sys.right_in (Hr.out l[i] (List.getElem_mem li));have hT:=HT.out i li;have Hnx:=Lib.hid (show(s.covers l[i].cls c&&decide (l[i].codes.toNat&&&f.toNat=0))=false→∀j(hj:j<i+1)(h1:j<l.length),(s.covers l[j].cls c&&decide (l[j].codes.toNat&&&f.toNat=0))=false from fun h j hj h1=>by
    by_cases hji:j=i
    ·subst hji;exact h
    ·exact Hz.out j (by omega) h1)
   obtain⟨⟨rc,ro⟩,hx⟩:∃x,l[i]=x:=⟨_,rfl⟩;rw[hx] at ha hre hT Hnx;simp only at hre hT Hnx;obtain⟨y,rfl⟩:∃y:Nat,rc=(y:Int):=⟨rc.toNat,by omega⟩
   obtain⟨o,ho⟩:∃o,s.coverL (y:Int)=o:=⟨_,rfl⟩;have hol:o.length=n:=by rw[←ho];unfold Sys.coverL;rw[Sys.sweeps_len];simp;exact Hnn.out.symm
   obtain⟨t,ht⟩:∃t,s.covers (y:Int) (c:Int)=t:=⟨_,rfl⟩;have i2:CovE s y n o:=⟨⟨by omega,Hnn.out.symm,hn12,Hio.out⟩,ho⟩
   have i3:GetB o c t:=⟨by omega,by rw[←ht,←ho];rfl⟩
   have hp:=eU hk;have hro:0≤ro∧ro<256:=by have:=hre.2;unfold Sys.sets at this;omega
   have hro2:ro.toNat<2^s.codes.length:=by
    have:=hre.2.2;unfold Sys.sets at this;have e:((2^s.codes.length:Nat):Int)=2^s.codes.length:=by push_cast;rfl
    omega
   have Hfin:=Lib.hid (Ay (b:=f.toNat) hro2);have i4:CellsB wr (ad.add (i*2)) [.int .i64 y,.int .i64 ro]:=⟨ha⟩;have zi:IntKind.i64.wrap ((i:Int)+1)=(i:Int)+1:=IntWalk.i64_in _ (by omega)
   rw[ht] at hT Hnx;have HT2:=Lib.hid hT;clear ha hx hre ho hol ht hp hro2 hT;go_wp2
   go_loopw [10,11] (fun fv iv wr2=>StepC wr wr2∧∃k:Nat,k≤s.codes.length∧fv=.bool (freeTo ro.toNat f.toNat k)∧iv=.int .i64 k) (fun _ iv _=>s.codes.length-(RowKit.intOf iv).toNat)
   case atStart=>exact⟨⟨ExtC.h⟩,0,by omega,rfl,rfl⟩
   case round=>
    obtain⟨_,k,hk2,rfl,rfl⟩:=hrel;by_cases lk:k<s.codes.length
    ·obtain⟨d1,e1⟩:∃d,ro.toNat.testBit k=d:=⟨_,rfl⟩;obtain⟨d2,e2⟩:∃d,f.toNat.testBit k=d:=⟨_,rfl⟩;have i5:HasE ro k d1:=⟨⟨hro.1,by omega⟩,by omega,e1⟩
     have i6:HasE f k d2:=⟨⟨hf.1,by omega⟩,by omega,e2⟩
     have hs:=xF ro.toNat f.toNat k;rw[e1,e2] at hs;obtain⟨fr,hfr⟩:∃x,freeTo ro.toNat f.toNat k=x:=⟨_,rfl⟩;rw[hfr] at hs⊢;have Hs:=Lib.hid hs;have zk:IntKind.i64.wrap ((k:Int)+1)=(k:Int)+1:=IntWalk.i64_in _ (by omega)
     clear e1 e2 hs hfr
     cases fr
     ·go_wp2_with (first|(with_reducible refine aA ?_))
      go_roundw
      case rel=>exact⟨⟨ExtC.h⟩,k+1,lk,by rw[Hs.out];rfl,rfl⟩
      case measure=>simp[RowKit.intOf];omega
     ·cases d1<;>cases d2
      all_goals
       go_wp2_with (first|(with_reducible refine aA ?_)|(with_reducible refine bA ?_)|(with_reducible refine aB ?_;first|rintro _ V ⟨rfl,(_:StepC _ _)⟩))
       go_roundw
       case rel=>exact⟨⟨ExtC.h⟩,k+1,lk,by rw[Hs.out];rfl,rfl⟩
       case measure=>simp[RowKit.intOf];omega
    ·obtain rfl:k=s.codes.length:=by omega
     rw[Hfin.out];obtain⟨u,hu⟩:∃u,decide (ro.toNat&&&f.toNat=0)=u:=⟨_,rfl⟩;rw[hu] at HT2 Hnx⊢;clear hu
     cases u
     ·have Hn:=Lib.hid (Hnx.out (by simp))
      clear HT2 Hnx;go_wp2_with (first|(with_reducible refine aA ?_))
      refine aP ((.take 0 (.take 1 (.take 2 (.take 3 (.take 4 (.take 5 (.take 6 (.take 7 (.take 9 (.one 8 (.take 10 (.one 11 (.take 12 .nil)))))))))))))) (fun hHd=> ?_) (hQ:=by intro _ _ _ _ _ h;exact h)
      repeat' first|((with_reducible refine aX ?_);(first|(refine tk (v:= ?_) ?_ hHd ?_;rotate_left;(·(intro wq hSw;go_simp;(try with_reducible rfl))))|(refine ts hHd ?_));(try simp only[pS]))|((with_reducible refine bC ?_);refine aQ (by simp only[gS];rfl) ?_)|(with_reducible refine fO ?_)|((with_reducible refine bD ?_);clear hHd;refine aM ExtC.h (fun hHd=> ?_);(try simp only[pS]))|(with_reducible refine aF ?_)
      go_wp2
      exact⟨⟨⟨ExtC.h⟩,i+1,li,by push_cast;rfl,Hn.out⟩,by simp[RowKit.intOf];omega⟩
     ·cases t
      ·have Hn:=Lib.hid (Hnx.out (by simp))
       clear HT2 Hnx;go_wp2_with (first|(with_reducible refine aA ?_))
       refine aP ((.take 0 (.take 1 (.take 2 (.take 3 (.take 4 (.take 5 (.take 6 (.take 7 (.take 9 (.one 8 (.take 10 (.one 11 (.take 12 .nil)))))))))))))) (fun hHd=> ?_) (hQ:=by intro _ _ _ _ _ h;exact h)
       repeat' first|((with_reducible refine aX ?_);(first|(refine tk (v:= ?_) ?_ hHd ?_;rotate_left;(·(intro wq hSw;go_simp;(try with_reducible rfl))))|(refine tw (v:= ?_) ?_ hHd ?_;rotate_left;(·(intro W' h;have:=StepC.mk h;first|with_reducible exact aJ)))|(refine tw (v:= ?_) ?_ hHd ?_;rotate_left;(·(intro wq hSw;go_simp;(try with_reducible rfl)))));(try simp only[pS]))|((with_reducible refine bC ?_);refine aQ (by simp only[gS];rfl) ?_)|(with_reducible refine bA ?_)|((first|with_reducible refine cG ?_);first|(rintro _ V ⟨gq,rfl,_,(_:StepC _ _)⟩;refine⟨_,rfl,?_⟩))|((with_reducible refine bD ?_);clear hHd;refine aM ExtC.h (fun hHd=> ?_);(try simp only[pS]))|(with_reducible refine aF ?_)
       go_wp2
       exact⟨⟨⟨ExtC.h⟩,i+1,li,by push_cast;rfl,Hn.out⟩,by simp[RowKit.intOf];omega⟩
      ·obtain rfl:=HT2.out rfl rfl;clear HT2 Hnx;go_wp2_with (first|(with_reducible refine aA ?_))
       refine aP ((.take 0 (.take 1 (.take 2 (.take 3 (.take 4 (.take 5 (.take 6 (.take 7 (.take 9 (.one 8 (.take 10 (.one 11 (.take 12 .nil)))))))))))))) (fun hHd=> ?_) (hQ:=by intro _ _ _ _ _ h;exact h)
       repeat' first|((with_reducible refine aX ?_);(first|(refine tk (v:= ?_) ?_ hHd ?_;rotate_left;(·(intro wq hSw;go_simp;(try with_reducible rfl))))|(refine tw (v:= ?_) ?_ hHd ?_;rotate_left;(·(intro W' h;have:=StepC.mk h;first|with_reducible exact aJ)))|(refine tw (v:= ?_) ?_ hHd ?_;rotate_left;(·(intro wq hSw;go_simp;(try with_reducible rfl)))));(try simp only[pS]))|((with_reducible refine bC ?_);refine aQ (by simp only[gS];rfl) ?_)|(with_reducible refine bA ?_)|((first|with_reducible refine cG ?_);first|(rintro _ V ⟨gq,rfl,_,(_:StepC _ _)⟩;refine⟨_,rfl,?_⟩))|((with_reducible refine bD ?_);clear hHd;refine aM ExtC.h (fun hHd=> ?_);(try simp only[pS]))|(with_reducible refine aF ?_)
       go_wp2
       go_ret
       exact⟨rfl,⟨ExtC.h⟩⟩
  ·obtain rfl:i=l.length:=by omega
   obtain rfl:=HF.out fun j hj=>Hz.out j hj hj
   go_wp2
   go_ret
   exact⟨rfl,⟨ExtC.h⟩⟩
class AllE (s:Sys) (l:List Right) (c f:Int) (r:outParam Bool):Prop where h:((∃k:Nat,c=k∧k<s.classes.length)∧s.classes.length≤12∧s.codes.length≤8∧s.InclOk∧(∀r∈l,s.rightErr r=0)∧0≤f∧f<256)∧s.allow l c f=r
instance qRRn16{W:World}{v lv:Value}{s:Sys}{l:List Right}{c f:Int}{r:Bool}[h:SysC W v s][hl:ListC Right W lv l][q:AllE s l c f r]:FunC Tryz.prog 52 #[v,lv,.int .i64 c,.int .i64 f] W (RB W r):=⟨by
 obtain⟨⟨⟨k,h1,h2⟩,h3,h4,h5,h6,h7⟩,h8⟩:=q.h;subst h1;rw[←h8];exact yN s v lv l k f W h.h hl.h h2 h3 h4 h5 h6 h7⟩
end Go.Rg
end
section
namespace Go.Rg
open Go.Bp
def wrR(r:Rules)(p:Person)(ds:List Drive)(k:Nat):List (Int×Int):=((ds.take k).zipIdx.filter fun q=>decide (r.whyL p.born (sortE p.events) q.1≠0)).map fun q=>((q.2:Int),r.whyL p.born (sortE p.events) q.1)
theorem Lt(r:Rules)(p:Person)(ds:List Drive):wrR r p ds ds.length=r.wrongL p ds:=by unfold wrR Rules.wrongL;rw[List.take_length]
theorem Gv(r:Rules)(p:Person)(ds:List Drive){k:Nat}(h:k<ds.length){d:Drive}(hd:ds[k]=d){n:Int}(hn:r.whyL p.born (sortE p.events) d=n):wrR r p ds (k+1)=if n=0 then wrR r p ds k else wrR r p ds k++ [((k:Int),n)]:=by
 unfold wrR;have e:(ds.take (k+1)).zipIdx=(ds.take k).zipIdx++ [(d,k)]:=by
  rw[List.take_succ_eq_append_getElem h,List.zipIdx_append,hd];simp;omega
 rw[e,List.filter_append,List.map_append];by_cases z:n=0
 ·rw[if_pos z];simp[List.filter_cons,hn,z]
 ·rw[if_neg z];simp[List.filter_cons,hn,z]
def rowP(l:List Event)(a b:Nat):List (Nat×Nat):=((List.range b).filter fun j=>decide (a<j)&&Rules.twoPass (evAt l a) (evAt l j)).map fun j=>(a,j)
def pairR(l:List Event)(a:Nat):List (Nat×Nat):=(List.range a).flatMap fun i=>rowP l i l.length
theorem Eq(l:List Event):pairR l l.length=Rules.pairsL l:=rfl
theorem qF(l:List Event)(a:Nat):pairR l (a+1)=pairR l a++rowP l a l.length:=by unfold pairR;rw[List.range_succ,List.flatMap_append];simp
theorem zC(l:List Event)(a:Nat):rowP l a (a+1)=[]:=by
 unfold rowP;rw[List.map_eq_nil_iff,List.filter_eq_nil_iff];intro j hj;have:=List.mem_range.1 hj;have h:¬a<j:=by omega
 simp[h]
theorem Ed(l:List Event){a b:Nat}(h:a<b){x y:Event}(hx:evAt l a=x)(hy:evAt l b=y):rowP l a (b+1)=if Rules.twoPass x y=true then rowP l a b++ [(a,b)] else rowP l a b:=by
 unfold rowP;rw[List.range_succ,List.filter_append,List.map_append,hx];split
 ·rename_i h2;simp[List.filter_cons,h,hy,h2]
 ·rename_i h2;simp only[Bool.not_eq_true] at h2;simp[List.filter_cons,h,hy,h2]
theorem vV(l:List Event)(a b:Nat):(rowP l a b).length≤b:=by
 unfold rowP;rw[List.length_map];exact Nat.le_trans (List.length_filter_le _ _) (by simp)
theorem sN(l:List Event):∀a,(pairR l a).length≤a*l.length
 |0=>by simp[pairR]
 |a+1=>by
  rw[qF,List.length_append];have:=sN l a;have:=vV l a l.length;rw[Nat.add_mul];omega
theorem zY{r:Rules}{born:Int}{x:Event}(h:r.eventErr born x=0):0≤x.minute∧x.minute≤1439:=by
 rcases(bI h).2 with ⟨y,m,e,_,h1,h2⟩|⟨i,e,_⟩|⟨i,e,_⟩|⟨n,e,h1,h2⟩|⟨u,e,_⟩
 all_goals(rw[e];simp only;omega)
end Go.Rg
end
