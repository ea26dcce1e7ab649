import Derived.Test.YtbfbepnkofampaaGreatDoorXP24
import Derived.Test.YtbfbepnkofampaaGreatDoorXP29
import Derived.Test.YtbfbepnkofampaaGreatDoorXP31
import Derived.Test.YtbfbepnkofampaaGreatDoorXPX05
set_option maxRecDepth 100000
set_option synthInstance.maxSize 2000
set_option synthInstance.maxHeartbeats 400000
set_option maxHeartbeats 8000000
set_option linter.all false
section
namespace Go.Rg
open Go Go.Bp Go.RowKit Go.Walk Go.Proofs
class REndE (day term:Int) (e:outParam Int):Prop where h:endT day term=e
theorem Ea(day term e:Int)(w:World)(h:endT day term=e):Calls Tryz.prog 132 #[.int .i64 day,.int .i64 term] w (RI w e):=by
 unfold endT at h;obtain⟨⟨p,n⟩,hp⟩:∃x,plusAns day term 0=x:=⟨_,rfl⟩;have j1:=RPlusE.mk hp;rw[hp] at h;clear hp;by_cases z:term=0
 ·rw[if_pos z] at h;subst h z;go_enter Tryz.func132,Tryz.ntmps132
  go_wp2
  all_goals(try(go_ret;refine⟨?_,⟨ExtC.h⟩⟩;first|rfl))
 ·rw[if_neg z] at h;have q0:(term==0)=false:=by simpa using z
  by_cases z2:n=0
  ·rw[if_pos z2] at h;subst h z2;clear z;go_enter Tryz.func132,Tryz.ntmps132
   go_wp2_with (first|(with_reducible refine aB ?_;first|rintro _ V ⟨rfl,(_:StepC _ _)⟩))
   all_goals(try(go_ret;refine⟨?_,⟨ExtC.h⟩⟩;first|rfl))
  ·rw[if_neg z2] at h;have q1:(n !=0)=true:=by simpa using z2
   subst h;clear z z2;go_enter Tryz.func132,Tryz.ntmps132
   go_wp2_with (first|(with_reducible refine aB ?_;first|rintro _ V ⟨rfl,(_:StepC _ _)⟩))
   all_goals(try(go_ret;refine⟨?_,⟨ExtC.h⟩⟩;first|rfl))
instance{W:World}{day term e:Int}[h:REndE day term e]:FunC Tryz.prog 132 #[.int .i64 day,.int .i64 term] W (RI W e):=⟨Ea _ _ _ W h.h⟩
structure RsnOk(r:Rules)(el:List Grant)(x:Event)(y:Right):Prop where
 c:∃c:Nat,y.cls=c∧c<r.sys.classes.length
 t:x.kind=1→∃t:Nat,x.treaty=t∧t<r.treaties.length
 n: -1≤(r.sys.at_ y.cls).needs∧(r.sys.at_ y.cls).needs<r.sys.classes.length
 g:∀g∈el,∃c:Nat,g.right.cls=c∧c<r.sys.classes.length
 k:CntC r.sys
 i:r.sys.InclOk
theorem vR(r:Rules)(v bv ev:Value)(born:Int)(xk xd xc xo xt xq xp xu xm yc yo:Int)(bans:List Span)(el:List Grant)(e:Int)(w:World)(h:RulesV w v r)(hb:ListV w bv bans)(he:ListV w ev el)
 (ok:RsnOk r el ⟨xk,xd,⟨xc,xo⟩,xt,xq,xp,xu,xm⟩ ⟨yc,yo⟩)(hr:reasonW r born bans el ⟨xk,xd,⟨xc,xo⟩,xt,xq,xp,xu,xm⟩ ⟨yc,yo⟩=e):
 Calls Tryz.prog 131 #[v,.int .i64 born,.agg #[.int .i64 xk,.int .i64 xd,.int .i64 xc,.int .i64 xo,.int .i64 xt,.int .i64 xq,.int .i64 xp,.int .i64 xu,.int .i64 xm],.agg #[.int .i64 yc,.int .i64 yo],bv,ev] w (RI w e):=by
 have i1:=RulesB.mk h;obtain⟨E,ke,rfl,ecap,ecap2⟩:=he.form;unfold maxLen at ecap2;obtain⟨A,n,kc,A',c',A2,c2,rfl,hn,hC,hD,hT⟩:=h.h;have i2:SysB w (.agg #[.slice A n kc,.slice A' r.sys.codes.length c']) r.sys:=⟨h.sys⟩;obtain⟨m,hm1,hm2,hm3⟩:=hC.h;have hml:m.length=n:=by rw[hn,←hm1,List.length_map]
 obtain⟨⟨c,hyc,hcl⟩,okt,okn,okg,okk,oki⟩:=ok;simp only at hyc okt;subst hyc;simp only at okn;have hcm:c<m.length:=by omega
 obtain⟨ad,rfl,hcc⟩:=hm2.elem hcm;have hat:r.sys.at_ (c:Int)=m[c].c:=by rw[Sys.at_eq hcl];simp[←hm1]
 rw[hat] at okn;unfold reasonW at hr;simp only[hat] at hr;obtain⟨⟨⟨nm,ic,ne,ag,te⟩,xa,xk2⟩,hq⟩:∃y,m[c]=y:=⟨_,rfl⟩;rw[hq] at hcc okn hr;simp only at okn hr;have i3:CellsB w (ad.add (c*5)) [.string nm,.slice xa ic.length xk2,.int .i64 ne,.int .i64 ag,.int .i64 te]:=⟨hcc⟩;have i4:=ListB.mk hb;have i5:=ListB.mk he;have i6:=ListB.mk hT;obtain⟨b1,h1⟩:∃b,hasDay bans xd=b:=⟨_,rfl⟩;obtain⟨⟨ay,ae⟩,h3⟩:∃b,ageAns born xd=b:=⟨_,rfl⟩;have j3:=RAgeE.mk h3;rw[h1,h3] at hr;simp only at hr;have hcn:c<n:=by omega
 have hn12:n≤12:=by have:=okk.h.1;omega
 have Hnn:=Lib.hid hn;have Hg:=Lib.hid okg;have Hi:=Lib.hid oki;clear hat hq hcc hm1 hm3 hm2 hC hD h3 hn oki okg
 cases b1
 ·rw[if_neg (by simp)] at hr
  by_cases k1:xk=1
  ·subst k1;obtain⟨t,rfl,htl⟩:=okt rfl;clear okt;obtain⟨td,rfl,hct⟩:=hT.elem htl;have hdo:(r.daysOf ⟨1,xd,⟨xc,xo⟩,(t:Int),xq,xp,xu,xm⟩)=r.treaties[t].days:=by unfold Rules.daysOf;simp[List.getD,htl]
   rw[hdo] at hr;obtain⟨⟨tn,⟨ta,tb⟩,tlo,thi⟩,hx⟩:∃x,r.treaties[t]=x:=⟨_,rfl⟩;rw[hx] at hr hct;simp only at hr;have i7:CellsB w (td.add (t*5)) [.string tn,.int .i64 ta,.int .i64 tb,.int .i64 tlo,.int .i64 thi]:=⟨hct⟩;obtain⟨b2,h2⟩:∃b,inB xd tlo thi=b:=⟨_,rfl⟩;have h2':hasDay [⟨tlo,thi⟩] xd=b2:=by rw[←h2];simp[hasDay]
   rw[h2] at hr;have hcp:=hT.caps;clear hdo hx hct h2
   cases b2
   ·rw[if_pos (by first|simp)] at hr
    subst hr;go_enter Tryz.func131,Tryz.ntmps131
    go_wp2_with (first|(with_reducible refine aG (uu:=13) ?_;intro V13 g13 hE13 hB13 hA13)|(first|(with_reducible refine aA ?_)|(with_reducible refine aB ?_;first|rintro _ V ⟨rfl,(_:StepC _ _)⟩)|(with_reducible refine aH ?_;intro V g _ _ _)))
    refine aP ((.take 0 (.take 1 (.take 2 (.take 3 (.take 4 (.take 5 (.take 6 (.take 7 (.take 8 (.take 9 (.take 10 (.take 12 (.take 13 (.one 11 (.one 14 (.take 15 (.take 16 .nil)))))))))))))))))) (fun hHd=> ?_) (hQ:=by intro _ _ _ _ _ h;exact h)
    repeat' first|((first|with_reducible refine gG ?_|with_reducible refine bY ?_|(with_reducible refine cJ (v:= ?_) ?_ ?_;rotate_left;(·(intro W' h;have:=StepC.mk h;infer_instance)))|(with_reducible refine bX (v:= ?_) ?_ ?_;rotate_left;(·(intro W' h;have:=StepC.mk h;first|(simp only[execOp,eS];go_simp;(try with_reducible rfl))))));(try dsimp only[sS0,sS1]))|(first|(with_reducible refine dI ?_))|(with_reducible refine eT hHd ?_)|((with_reducible refine bC ?_);refine aQ (by simp only[gS];rfl) ?_)|((first|with_reducible refine cG ?_);first|(rintro _ V ⟨rfl,(_:StepC _ _)⟩;refine⟨_,rfl,?_⟩))|(with_reducible refine bH ?_)|(with_reducible refine aD ?_;intro Vb g9 _ _ _)|((with_reducible refine bD ?_);clear hHd;refine aM ExtC.h (fun hHd=> ?_);(try simp only[pS]))|(with_reducible refine aF ?_)
    all_goals
     (try simp only[h2'])
     go_wp2
     go_ret
     exact⟨rfl,⟨ExtC.h⟩⟩
   ·rw[if_neg (by rintro⟨_,h⟩;cases h)] at hr
    have Hr:=Lib.hid hr;clear hr;go_enter Tryz.func131,Tryz.ntmps131
    go_wp2_with (first|(with_reducible refine aG (uu:=13) ?_;intro V13 g13 hE13 hB13 hA13)|(first|(with_reducible refine aA ?_)|(with_reducible refine aB ?_;first|rintro _ V ⟨rfl,(_:StepC _ _)⟩)|(with_reducible refine aH ?_;intro V g _ _ _)))
    refine aP ((.take 0 (.take 1 (.take 2 (.take 3 (.take 4 (.take 5 (.take 6 (.take 7 (.take 8 (.take 9 (.take 10 (.take 12 (.take 13 (.one 11 (.one 14 (.take 15 (.take 16 .nil)))))))))))))))))) (fun hHd=> ?_) (hQ:=by intro _ _ _ _ _ h;exact h)
    repeat' first|((first|with_reducible refine gG ?_|with_reducible refine bY ?_|(with_reducible refine cJ (v:= ?_) ?_ ?_;rotate_left;(·(intro W' h;have:=StepC.mk h;infer_instance)))|(with_reducible refine bX (v:= ?_) ?_ ?_;rotate_left;(·(intro W' h;have:=StepC.mk h;first|(simp only[execOp,eS];go_simp;(try with_reducible rfl))))));(try dsimp only[sS0,sS1]))|(first|(with_reducible refine dI ?_))|(with_reducible refine eT hHd ?_)|((with_reducible refine bC ?_);refine aQ (by simp only[gS];rfl) ?_)|((first|with_reducible refine cG ?_);first|(rintro _ V ⟨rfl,(_:StepC _ _)⟩;refine⟨_,rfl,?_⟩))|(with_reducible refine bH ?_)|(with_reducible refine aD ?_;intro Vb g9 _ _ _)|((with_reducible refine bD ?_);clear hHd;refine aM ExtC.h (fun hHd=> ?_);(try simp only[pS]))|(with_reducible refine aF ?_)
    all_goals
     (try simp only[h2'])
     by_cases c3:ay<ag
     ·have Hr2:=Lib.hid (show(6:Int)=e by have:=Hr.out;rwa [if_pos c3] at this)
      go_wp2_with (first|(with_reducible refine aA ?_)|(with_reducible refine aB ?_;first|rintro _ V ⟨rfl,(_:StepC _ _)⟩))
      go_ret
      exact⟨by rw[←Hr2.out];rfl,⟨ExtC.h⟩⟩
     ·have Hr2:=Lib.hid (show(if metK r.sys ne xd el=false then(7:Int) else 0)=e by have:=Hr.out;rwa [if_neg c3] at this)
      clear Hr;have Hm0:=Lib.hid (show metK r.sys ne xd (el.take 0)=decide (ne<0) by simp[metK])
      go_wp2_with (first|((first|with_reducible refine aB ?_);rintro _ V9 ⟨rfl,(_:StepC _ _)⟩)|(first|(with_reducible refine aA ?_)))
      go_loopw [17,16] (fun iv mv wr=>StepC V9 wr∧∃k:Nat,k≤el.length∧iv=.int .i64 k∧mv=.bool (metK r.sys ne xd (el.take k))) (fun iv _ _=>el.length-(RowKit.intOf iv).toNat)
      case atStart=>exact⟨⟨ExtC.h⟩,0,by omega,rfl,by rw[Hm0.out]⟩
      case round=>
       obtain⟨_,k,hk,rfl,rfl⟩:=hrel;by_cases lk:k<el.length
       ·obtain⟨bd,rfl,hbe⟩:=he.elem lk;obtain⟨⟨gd,⟨gc,go⟩,gr,ge⟩,hx⟩:∃x,el[k]=x:=⟨_,rfl⟩;have hsu:=sS r.sys ne xd el lk hx;obtain⟨cg,hcg,hcl2⟩:=Hg.out _ (List.getElem_mem lk);rw[hx] at hbe hcg;simp only at hcg hsu;subst hcg;have i8:CellsB w (bd.add (k*5)) [.int .i64 gd,.int .i64 cg,.int .i64 go,.int .i64 gr,.int .i64 ge]:=⟨hbe⟩;obtain⟨mt,hmt⟩:∃b,metK r.sys ne xd (el.take k)=b:=⟨_,rfl⟩;rw[hmt] at hsu⊢;have zk:IntKind.i64.wrap ((k:Int)+1)=(k:Int)+1:=IntWalk.i64_in _ (by omega)
        obtain⟨cn,hcn⟩:∃b,(((decide (0≤ne)&&decide (gd<xd))&&(gr==0))&&decide (xd<ge))=b:=⟨_,rfl⟩;have hsu2:metK r.sys ne xd (el.take (k+1))=(mt||(cn&&r.sys.covers (cg:Int) ne)):=by rw[hsu,←hcn];rfl
        have Hsu:=Lib.hid hsu2;have Hcn:=Lib.hid hcn;clear hbe hx hsu hsu2 hmt hcn;obtain⟨hc,hChid⟩:∃f:Nat→Array Oper→Bool→Go.Code,f=Go.Code.region:=⟨_,rfl⟩;rw[show Go.Code.region 14=hc 14 by rw[hChid]]
        have HCh:=Lib.hid hChid;clear hChid;go_wp2_with (first|(with_reducible refine aA ?_)|(with_reducible refine aG ?_;intro V g _ _ _))
        have hChid:=HCh.out;clear HCh;subst hChid;refine wp_region_lit ?_;(try simp only[pS])
        repeat' first|((first|with_reducible refine bY ?_|with_reducible refine iV ?_|(with_reducible refine cJ (v:= ?_) ?_ ?_;rotate_left;(·(intro W' h;cases h;infer_instance)))|(with_reducible refine jJ (v:= ?_) ?_ ?_;rotate_left;(·(intro hq W' h;cases h;infer_instance)))|(with_reducible refine bX (v:= ?_) ?_ ?_;rotate_left;(·(intro W' h;cases h;first|(simp only[execOp,eS];go_simp;(try with_reducible rfl)))))|(with_reducible refine eI (v:= ?_) ?_ ?_;rotate_left;(·(intro hq W' h;cases h;simp only[execOp,eS,hq,mbT];(try(simp only[Bool.and_eq_true,Bool.not_eq_true'] at hq;simp only[hq,mbT,Bool.not_false]));go_simp;(try with_reducible rfl)))));(try dsimp only[sS0,sS1]))|(first|(with_reducible refine dI ?_))|(with_reducible refine bO ?_)|((fail_if_success (with_reducible refine dY ?_));(with_reducible refine dD ?_))
        have e1:=Hcn.out;(try simp only[e1])
        clear e1
        cases cn
        ·have Hn:=Lib.hid (show metK r.sys ne xd (el.take (k+1))=mt by rw[Hsu.out];simp)
         go_wp2
         go_roundw
         case rel=>exact⟨⟨ExtC.h⟩,k+1,lk,by push_cast;rfl,by rw[Hn.out]⟩
         case measure=>simp[RowKit.intOf];omega
        ·have hne:0≤ne:=by
          have:=Hcn.out;simp only[Bool.and_eq_true,decide_eq_true_eq] at this;exact this.1.1.1
         obtain⟨q,rfl⟩:∃q:Nat,ne=(q:Int):=⟨ne.toNat,by omega⟩
         obtain⟨o,ho⟩:∃o,r.sys.coverL (cg:Int)=o:=⟨_,rfl⟩;have hol:o.length=n:=by rw[←ho];unfold Sys.coverL;rw[Sys.sweeps_len];simp;exact Hnn.out.symm
         obtain⟨cv,hcv⟩:∃t,r.sys.covers (cg:Int) (q:Int)=t:=⟨_,rfl⟩;have i9:CovE r.sys cg n o:=⟨⟨hcl2,Hnn.out.symm,hn12,Hi.out⟩,ho⟩;have hqn:q<n:=by have:=Hnn.out;omega
         have i10:GetB o q cv:=⟨by omega,by rw[←hcv,←ho];rfl⟩
         have Hn:=Lib.hid (show metK r.sys q xd (el.take (k+1))=(mt||cv) by rw[Hsu.out,hcv];simp)
         clear hne hcv ho hol
         cases mt
         ·go_wp2
          refine aP ((.take 0 (.take 1 (.take 2 (.take 3 (.take 4 (.take 5 (.take 6 (.take 8 (.take 9 (.one 7 (.take 10 (.one 11 (.take 12 (.take 13 .nil))))))))))))))) (fun hHd=> ?_) (hQ:=by intro _ _ _ _ _ h;exact h)
          repeat' first|((first|with_reducible refine gG ?_|with_reducible refine bY ?_|with_reducible refine kW ?_|(with_reducible refine cJ (v:= ?_) ?_ ?_;rotate_left;(·(intro W' h;have:=StepC.mk h;infer_instance)))|(with_reducible refine bX (v:= ?_) ?_ ?_;rotate_left;(·(intro W' h;have:=StepC.mk h;first|(simp only[execOp,eS];go_simp;(try with_reducible rfl))))));(try dsimp only[sS0,sS1]))|(first|(with_reducible refine jU ?_;(try simp only[Bool.not_true,Bool.not_false])))|(with_reducible refine eT hHd ?_)|((with_reducible refine bC ?_);refine aQ (by simp only[gS];rfl) ?_)|((first|with_reducible refine cG ?_);first|(rintro _ Vc ⟨gc,rfl,(_:BlkC _ _ _ _),(_:StepC _ _)⟩;refine⟨_,rfl,?_⟩))|(with_reducible refine bA ?_)|((with_reducible refine bD ?_);clear hHd;refine aM ExtC.h (fun hHd=> ?_);(try simp only[pS]))|(with_reducible refine aF ?_)
          all_goals
           go_wp2
           go_roundw
           case rel=>exact⟨⟨ExtC.h⟩,k+1,lk,by push_cast;rfl,by rw[Hn.out];rfl⟩
           case measure=>simp[RowKit.intOf];omega
         ·go_wp2
          refine aP ((.take 0 (.take 1 (.take 2 (.take 3 (.take 4 (.take 5 (.take 6 (.take 8 (.take 9 (.one 7 (.take 10 (.take 11 (.take 12 (.take 13 .nil))))))))))))))) (fun hHd=> ?_) (hQ:=by intro _ _ _ _ _ h;exact h)
          repeat' first|((first|with_reducible refine bY ?_|with_reducible refine kW ?_|with_reducible refine lJ ?_|(with_reducible refine bX (v:= ?_) ?_ ?_;rotate_left;(·(intro W' h;have:=StepC.mk h;first|(simp only[execOp,eS];go_simp;(try with_reducible rfl))))));(try dsimp only[sS0,sS1]))|(first|(with_reducible refine jU ?_;(try simp only[Bool.not_true,Bool.not_false])))|(with_reducible refine eT hHd ?_)|((with_reducible refine bC ?_);refine aQ (by simp only[gS];rfl) ?_)|(with_reducible refine fO ?_)|((with_reducible refine bD ?_);clear hHd;refine aM ExtC.h (fun hHd=> ?_);(try simp only[pS]))|(with_reducible refine aF ?_)
          all_goals
           go_wp2
           go_roundw
           case rel=>exact⟨⟨ExtC.h⟩,k+1,lk,by push_cast;rfl,by rw[Hn.out];rfl⟩
           case measure=>simp[RowKit.intOf];omega
       ·obtain rfl:k=el.length:=by omega
        have hR2:=Hr2.out;rw[List.take_length];obtain⟨mt,hmt⟩:∃b,metK r.sys ne xd el=b:=⟨_,rfl⟩;rw[hmt] at hR2⊢;have Hr3:=Lib.hid hR2;clear hR2 hmt
        cases mt
        all_goals
         go_wp2
         go_ret
         exact⟨by rw[←Hr3.out];rfl,⟨ExtC.h⟩⟩
  ·have q1:(xk==1)=false:=by simpa using k1
   rw[if_neg (fun h=>k1 h.1)] at hr
   have Hr:=Lib.hid hr;clear hr k1 okt;go_enter Tryz.func131,Tryz.ntmps131
   go_wp2_with (first|(with_reducible refine aG (uu:=13) ?_;intro V13 g13 hE13 hB13 hA13)|(first|(with_reducible refine aA ?_)|(with_reducible refine aB ?_;first|rintro _ V ⟨rfl,(_:StepC _ _)⟩)|(with_reducible refine aH ?_;intro V g _ _ _)))
   refine aP ((.take 0 (.take 1 (.take 2 (.take 3 (.take 4 (.take 5 (.take 6 (.take 7 (.take 8 (.take 9 (.take 10 (.take 12 (.take 13 (.one 11 (.one 14 (.take 15 (.take 16 .nil)))))))))))))))))) (fun hHd=> ?_) (hQ:=by intro _ _ _ _ _ h;exact h)
   repeat' first|((first|with_reducible refine bY ?_|with_reducible refine lJ ?_|(with_reducible refine cJ (v:= ?_) ?_ ?_;rotate_left;(·(intro W' h;have:=StepC.mk h;infer_instance)))|(with_reducible refine bX (v:= ?_) ?_ ?_;rotate_left;(·(intro W' h;have:=StepC.mk h;first|(simp only[execOp,eS];go_simp;(try with_reducible rfl))))));(try dsimp only[sS0,sS1]))|(first|(with_reducible refine dI ?_))|(with_reducible refine eT hHd ?_)|((with_reducible refine bC ?_);refine aQ (by simp only[gS];rfl) ?_)|(with_reducible refine fO ?_)|((with_reducible refine bD ?_);clear hHd;refine aM ExtC.h (fun hHd=> ?_);(try simp only[pS]))|(with_reducible refine aF ?_)
   all_goals
    by_cases c3:ay<ag
    ·have Hr2:=Lib.hid (show(6:Int)=e by have:=Hr.out;rwa [if_pos c3] at this)
     go_wp2_with (first|(with_reducible refine aA ?_)|(with_reducible refine aB ?_;first|rintro _ V ⟨rfl,(_:StepC _ _)⟩))
     go_ret
     exact⟨by rw[←Hr2.out];rfl,⟨ExtC.h⟩⟩
    ·have Hr2:=Lib.hid (show(if metK r.sys ne xd el=false then(7:Int) else 0)=e by have:=Hr.out;rwa [if_neg c3] at this)
     clear Hr;have Hm0:=Lib.hid (show metK r.sys ne xd (el.take 0)=decide (ne<0) by simp[metK])
     go_wp2_with (first|((first|with_reducible refine aB ?_);rintro _ V9 ⟨rfl,(_:StepC _ _)⟩)|(first|(with_reducible refine aA ?_)))
     go_loopw [17,16] (fun iv mv wr=>StepC V9 wr∧∃k:Nat,k≤el.length∧iv=.int .i64 k∧mv=.bool (metK r.sys ne xd (el.take k))) (fun iv _ _=>el.length-(RowKit.intOf iv).toNat)
     case atStart=>exact⟨⟨ExtC.h⟩,0,by omega,rfl,by rw[Hm0.out]⟩
     case round=>
      obtain⟨_,k,hk,rfl,rfl⟩:=hrel;by_cases lk:k<el.length
      ·obtain⟨bd,rfl,hbe⟩:=he.elem lk;obtain⟨⟨gd,⟨gc,go⟩,gr,ge⟩,hx⟩:∃x,el[k]=x:=⟨_,rfl⟩;have hsu:=sS r.sys ne xd el lk hx;obtain⟨cg,hcg,hcl2⟩:=Hg.out _ (List.getElem_mem lk);rw[hx] at hbe hcg;simp only at hcg hsu;subst hcg;have i8:CellsB w (bd.add (k*5)) [.int .i64 gd,.int .i64 cg,.int .i64 go,.int .i64 gr,.int .i64 ge]:=⟨hbe⟩;obtain⟨mt,hmt⟩:∃b,metK r.sys ne xd (el.take k)=b:=⟨_,rfl⟩;rw[hmt] at hsu⊢;have zk:IntKind.i64.wrap ((k:Int)+1)=(k:Int)+1:=IntWalk.i64_in _ (by omega)
       obtain⟨cn,hcn⟩:∃b,(((decide (0≤ne)&&decide (gd<xd))&&(gr==0))&&decide (xd<ge))=b:=⟨_,rfl⟩;have hsu2:metK r.sys ne xd (el.take (k+1))=(mt||(cn&&r.sys.covers (cg:Int) ne)):=by rw[hsu,←hcn];rfl
       have Hsu:=Lib.hid hsu2;have Hcn:=Lib.hid hcn;clear hbe hx hsu hsu2 hmt hcn;obtain⟨hc,hChid⟩:∃f:Nat→Array Oper→Bool→Go.Code,f=Go.Code.region:=⟨_,rfl⟩;rw[show Go.Code.region 14=hc 14 by rw[hChid]]
       have HCh:=Lib.hid hChid;clear hChid;go_wp2_with (first|(with_reducible refine aA ?_)|(with_reducible refine aG ?_;intro V g _ _ _))
       have hChid:=HCh.out;clear HCh;subst hChid;refine wp_region_lit ?_;(try simp only[pS])
       repeat' first|((first|with_reducible refine bY ?_|with_reducible refine iV ?_|(with_reducible refine cJ (v:= ?_) ?_ ?_;rotate_left;(·(intro W' h;cases h;infer_instance)))|(with_reducible refine jJ (v:= ?_) ?_ ?_;rotate_left;(·(intro hq W' h;cases h;infer_instance)))|(with_reducible refine bX (v:= ?_) ?_ ?_;rotate_left;(·(intro W' h;cases h;first|(simp only[execOp,eS];go_simp;(try with_reducible rfl)))))|(with_reducible refine eI (v:= ?_) ?_ ?_;rotate_left;(·(intro hq W' h;cases h;simp only[execOp,eS,hq,mbT];(try(simp only[Bool.and_eq_true,Bool.not_eq_true'] at hq;simp only[hq,mbT,Bool.not_false]));go_simp;(try with_reducible rfl)))));(try dsimp only[sS0,sS1]))|(first|(with_reducible refine dI ?_))|(with_reducible refine bO ?_)|((fail_if_success (with_reducible refine dY ?_));(with_reducible refine dD ?_))
       have e1:=Hcn.out;(try simp only[e1])
       clear e1
       cases cn
       ·have Hn:=Lib.hid (show metK r.sys ne xd (el.take (k+1))=mt by rw[Hsu.out];simp)
        go_wp2
        go_roundw
        case rel=>exact⟨⟨ExtC.h⟩,k+1,lk,by push_cast;rfl,by rw[Hn.out]⟩
        case measure=>simp[RowKit.intOf];omega
       ·have hne:0≤ne:=by
         have:=Hcn.out;simp only[Bool.and_eq_true,decide_eq_true_eq] at this;exact this.1.1.1
        obtain⟨q,rfl⟩:∃q:Nat,ne=(q:Int):=⟨ne.toNat,by omega⟩
        obtain⟨o,ho⟩:∃o,r.sys.coverL (cg:Int)=o:=⟨_,rfl⟩;have hol:o.length=n:=by rw[←ho];unfold Sys.coverL;rw[Sys.sweeps_len];simp;exact Hnn.out.symm
        obtain⟨cv,hcv⟩:∃t,r.sys.covers (cg:Int) (q:Int)=t:=⟨_,rfl⟩;have i9:CovE r.sys cg n o:=⟨⟨hcl2,Hnn.out.symm,hn12,Hi.out⟩,ho⟩;have hqn:q<n:=by have:=Hnn.out;omega
        have i10:GetB o q cv:=⟨by omega,by rw[←hcv,←ho];rfl⟩
        have Hn:=Lib.hid (show metK r.sys q xd (el.take (k+1))=(mt||cv) by rw[Hsu.out,hcv];simp)
        clear hne hcv ho hol
        cases mt
        ·go_wp2
         refine aP ((.take 0 (.take 1 (.take 2 (.take 3 (.take 4 (.take 5 (.take 6 (.take 8 (.take 9 (.one 7 (.take 10 (.one 11 (.take 12 (.take 13 .nil))))))))))))))) (fun hHd=> ?_) (hQ:=by intro _ _ _ _ _ h;exact h)
         repeat' first|((first|with_reducible refine gG ?_|with_reducible refine bY ?_|with_reducible refine kW ?_|(with_reducible refine cJ (v:= ?_) ?_ ?_;rotate_left;(·(intro W' h;have:=StepC.mk h;infer_instance)))|(with_reducible refine bX (v:= ?_) ?_ ?_;rotate_left;(·(intro W' h;have:=StepC.mk h;first|(simp only[execOp,eS];go_simp;(try with_reducible rfl))))));(try dsimp only[sS0,sS1]))|(first|(with_reducible refine jU ?_;(try simp only[Bool.not_true,Bool.not_false])))|(with_reducible refine eT hHd ?_)|((with_reducible refine bC ?_);refine aQ (by simp only[gS];rfl) ?_)|((first|with_reducible refine cG ?_);first|(rintro _ Vc ⟨gc,rfl,(_:BlkC _ _ _ _),(_:StepC _ _)⟩;refine⟨_,rfl,?_⟩))|(with_reducible refine bA ?_)|((with_reducible refine bD ?_);clear hHd;refine aM ExtC.h (fun hHd=> ?_);(try simp only[pS]))|(with_reducible refine aF ?_)
         all_goals
          go_wp2
          go_roundw
          case rel=>exact⟨⟨ExtC.h⟩,k+1,lk,by push_cast;rfl,by rw[Hn.out];rfl⟩
          case measure=>simp[RowKit.intOf];omega
        ·go_wp2
         refine aP ((.take 0 (.take 1 (.take 2 (.take 3 (.take 4 (.take 5 (.take 6 (.take 8 (.take 9 (.one 7 (.take 10 (.take 11 (.take 12 (.take 13 .nil))))))))))))))) (fun hHd=> ?_) (hQ:=by intro _ _ _ _ _ h;exact h)
         repeat' first|((first|with_reducible refine bY ?_|with_reducible refine kW ?_|with_reducible refine lJ ?_|(with_reducible refine bX (v:= ?_) ?_ ?_;rotate_left;(·(intro W' h;have:=StepC.mk h;first|(simp only[execOp,eS];go_simp;(try with_reducible rfl))))));(try dsimp only[sS0,sS1]))|(first|(with_reducible refine jU ?_;(try simp only[Bool.not_true,Bool.not_false])))|(with_reducible refine eT hHd ?_)|((with_reducible refine bC ?_);refine aQ (by simp only[gS];rfl) ?_)|(with_reducible refine fO ?_)|((with_reducible refine bD ?_);clear hHd;refine aM ExtC.h (fun hHd=> ?_);(try simp only[pS]))|(with_reducible refine aF ?_)
         all_goals
          go_wp2
          go_roundw
          case rel=>exact⟨⟨ExtC.h⟩,k+1,lk,by push_cast;rfl,by rw[Hn.out];rfl⟩
          case measure=>simp[RowKit.intOf];omega
      ·obtain rfl:k=el.length:=by omega
       have hR2:=Hr2.out;rw[List.take_length];obtain⟨mt,hmt⟩:∃b,metK r.sys ne xd el=b:=⟨_,rfl⟩;rw[hmt] at hR2⊢;have Hr3:=Lib.hid hR2;clear hR2 hmt
       cases mt
       all_goals
        go_wp2
        go_ret
        exact⟨by rw[←Hr3.out];rfl,⟨ExtC.h⟩⟩
 ·rw[if_pos rfl] at hr;subst hr;clear okt;go_enter Tryz.func131,Tryz.ntmps131
  go_wp2_with (first|(with_reducible refine aG (uu:=13) ?_;intro V13 g13 hE13 hB13 hA13)|(first|(with_reducible refine aA ?_)|(with_reducible refine aB ?_;first|rintro _ V ⟨rfl,(_:StepC _ _)⟩)|(with_reducible refine aH ?_;intro V g _ _ _)))
  go_ret
  exact⟨rfl,⟨ExtC.h⟩⟩
class RRsnE (r:Rules) (born:Int) (bans:List Span) (el:List Grant) (x:Event) (y:Right) (e:outParam Int):Prop where h:RsnOk r el x y∧reasonW r born bans el x y=e
instance{W:World}{v bv ev:Value}{r:Rules}{born xk xd xc xo xt xq xp xu xm yc yo e:Int}{bans:List Span}{el:List Grant}[h:RulesC W v r][hb:ListC Span W bv bans][he:ListC Grant W ev el][q:RRsnE r born bans el ⟨xk,xd,⟨xc,xo⟩,xt,xq,xp,xu,xm⟩ ⟨yc,yo⟩ e]:
 FunC Tryz.prog 131 #[v,.int .i64 born,.agg #[.int .i64 xk,.int .i64 xd,.int .i64 xc,.int .i64 xo,.int .i64 xt,.int .i64 xq,.int .i64 xp,.int .i64 xu,.int .i64 xm],.agg #[.int .i64 yc,.int .i64 yo],bv,ev] W (RI W e):=⟨vR r v bv ev born xk xd xc xo xt xq xp xu xm yc yo bans el e W h.h hb.h he.h q.h.1 q.h.2⟩
end Go.Rg
end
