/- Chapter 03: contracts of functions of the program and of the reference, and plain laws (out of SP6 SW4 StQ SX1 SX2 SP7). No condition of its own. -/
import Derived.Test.YtfjnacajjpaeiaaGreatDoorP06
set_option maxRecDepth 100000
set_option linter.all false
section
namespace Go.St
open Go Go.Bp Go.RowKit Go.Proofs
set_option maxHeartbeats 4000000 in
theorem kI(tv lv:Value)(t:Town)(a:Int)(l:List Step)(w:World)(h:aM w tv t)(hok:t.Ok)(hl:bY w lv l):
 Calls Tryz.prog 58 #[tv,.int .i64 a,lv] w (dQ w (t.stepsErr a l).1 (t.stepsErr a l).2):=by
 obtain⟨pv,shv,tmv,xv,rfl,hT⟩:=h;obtain⟨A1,cp1,rfl,_,hc1,_,_⟩:=hT.places;obtain⟨A2,cp2,rfl,_,hc2,_,_⟩:=hT.shows;obtain⟨A3,cp3,rfl,_,hc3,_,_⟩:=hT.times;obtain⟨A4,cp4,rfl,_,h42,h44⟩:=hT.streets;obtain⟨A,c,rfl,h1,h2,h3,h4⟩:=hl;unfold maxLen at h2 h42;have hst:=hok.st;clear h3;have hE:=Ext.refl w;by_cases hle:l.length≤1100
 ·have q1:¬(1100<(l.length:Int)):=by omega
  have Hs:=Lib.hid (show t.stepsErr a l=t.follow a l by unfold Town.stepsErr;rw[if_neg (by omega)])
  go_enter Tryz.func58,Tryz.ntmps58
  go_wp2_with (first|((with_reducible refine aF (d:=some 3) ?_);intro W3 g3 hE3 hB3 hg3;simp[Act.eval,Act.put,Value.cells] at hB3;(try replace hE:=hE.trans hE3);have hb3_0:=hB3.cell 0;have hb3_1:=hB3.cell 1;have hb3_2:=hB3.cell 2;have hb3_3:=hB3.cell 3;simp at hb3_0 hb3_1 hb3_2 hb3_3;clear hE3))
  have hE0:=hE;clear hE;go_loopw [1,17] (fun at0 i wr=>Ext W3 wr∧∃(k:Nat)(av:Int),k≤l.length∧i=.int .i64 k∧at0=.int .i64 av∧t.follow a l=t.follow av (l.drop k)) (fun _ i _=>l.length-(intOf i).toNat)
  case atStart=>exact⟨Ext.refl _,0,a,by omega,rfl,rfl,rfl⟩
  case round=>
   obtain⟨hEr,k,av,hk,rfl,rfl,hf⟩:=hrel;have Hf:=Lib.hid (show t.stepsErr a l=t.follow av (l.drop k) by rw[Hs.out,hf])
   have hEq:=hE0.trans hEr;have hB3r:=hB3.ext hEr;have b3:=hB3r.cell 3;simp at b3;clear hf hb3_0 hb3_1 hb3_2 hb3_3 hB3;by_cases hlt:k<l.length
   ·obtain⟨ad,rfl,hc⟩:=h4 (by omega)
    have hcq:=hc.ext hEq;have hTv:=aM.of (hT.ext hEq);have hE:=Ext.refl wr;obtain⟨⟨st,bk⟩,hx⟩:∃x,l[k]=x:=⟨_,rfl⟩;have Hx:=Lib.hid hx;have hStep:=iM hcq hlt;rw[hx] at hStep;clear h4 hc hcq hx;have z1:(k:Int)<(l.length:Int):=by omega
    cases hin:inB st 0 ((t.streets.length:Int)-1) with
    |false=>
     have Hr:=Lib.hid (Town.follow_bad hlt (a:=av) (e:=4) (by rw[Hx.out];exact Town.stepErr_4 hin) (by decide))
     have m1:eC 0 ((t.streets.length:Int)-1) [st]=true:=by rw[fU,hin];rfl
     clear h44;go_wp2_with (first|(((with_reducible refine aC (d:=some 20) (hl:=hStep) ?_ ?_);rfl))|((with_reducible refine aO (e:=82) (u:=9) (v:=.agg #[.int .i64 (st),.bool (bk)]) qZ ?_ ?_ ?_ ?_ ?_ ?_);(intro g;rfl);(intro g;rfl);rfl;rfl;(simp[Value.cells,Value.oneCell']);intro W9 g9 hE9 hB9 hg9;simp[Value.cells] at hB9;(try replace hE:=hE.trans hE9);(try replace hB3r:=hB3r.ext hE9);(try replace hTv:=hTv.ext hE9);(try replace b3:=hE9.c b3);have hb9_0:=hB9.cell 0;have hb9_1:=hB9.cell 1;simp at hb9_0 hb9_1;clear hE9)|((with_reducible refine eB (d:=some 28) (n0:=st) ?_ ?_);rfl;intro W28 g28 hE28 hB28 hg28;(try replace hE:=hE.trans hE28);(try replace hB3r:=hB3r.ext hE28);(try replace hTv:=hTv.ext hE28);(try replace hB9:=hB9.ext hE28);(try replace b3:=hE28.c b3);(try replace hb9_0:=hE28.c hb9_0);(try replace hb9_1:=hE28.c hb9_1);have hI28:bG W28 (.slice (some ⟨g28,0,none⟩) 1 1) [st]:=aU hB28;clear hB28 hg28 hE28)|(go_at_call 46;((with_reducible refine((bS (by exact hI28) m1)).mono ?_);rintro e WcO ⟨rfl,hEcO⟩;(try replace hE:=hE.trans hEcO);(try replace hB3r:=hB3r.ext hEcO);(try replace hTv:=hTv.ext hEcO);(try replace hB9:=hB9.ext hEcO);(try replace b3:=hEcO.c b3);(try replace hb9_0:=hEcO.c hb9_0);(try replace hb9_1:=hEcO.c hb9_1))))
     go_ret2
     exact dQ.of (by rw[Hf.out,Hr.out]) (hEq.trans hE)
    |true=>
     obtain⟨n,rfl,hn⟩:=fB hin;have m1:eC 0 ((t.streets.length:Int)-1) [(n:Int)]=false:=by rw[fU,hin];rfl
     have hnlt:n<t.streets.length:=by omega
     obtain⟨ad4,rfl,hc4⟩:=h44 (by omega)
     obtain⟨sv,hs⟩:=hc4 n hnlt;have hsq:=(hs.ext hEq).1;have Hat:=Lib.hid (Town.at_eq hnlt);have e5:=fld hsq (i:=5) (by decide) rfl
     obtain⟨bo,hbo⟩:∃b,t.streets[n].both=b:=⟨_,rfl⟩;rw[hbo] at e5;have Hbo:=Lib.hid hbo;clear h44 hc4 hs hsq hbo
     cases bk with
     |false=>
      have Hnb:=Lib.hid (show¬((false:Bool)=true∧(t.at_ (n:Int)).both=false) by rw[Hat.out];simp[Hbo.out])
      by_cases c9:(t.ends ⟨(n:Int),false⟩).1=av
      ·have q9:((t.ends ⟨(n:Int),false⟩).1 !=av)=false:=by simp[c9]
       have Hg:=Lib.hid (Town.follow_good hlt (a:=av) (by rw[Hx.out];exact Town.stepErr_0 hin Hnb.out c9))
       clear c9;go_wp2_with (first|(((with_reducible refine aC (d:=some 20) (hl:=hStep) ?_ ?_);rfl))|((with_reducible refine aO (e:=82) (u:=9) (v:=.agg #[.int .i64 ((n:Int)),.bool (false)]) qZ ?_ ?_ ?_ ?_ ?_ ?_);(intro g;rfl);(intro g;rfl);rfl;rfl;(simp[Value.cells,Value.oneCell']);intro W9 g9 hE9 hB9 hg9;simp[Value.cells] at hB9;(try replace hE:=hE.trans hE9);(try replace hB3r:=hB3r.ext hE9);(try replace hTv:=hTv.ext hE9);(try replace b3:=hE9.c b3);(try replace e5:=hE9.c e5);have hb9_0:=hB9.cell 0;have hb9_1:=hB9.cell 1;simp at hb9_0 hb9_1;clear hE9)|((with_reducible refine eB (d:=some 28) (n0:=(n:Int)) ?_ ?_);rfl;intro W28 g28 hE28 hB28 hg28;(try replace hE:=hE.trans hE28);(try replace hB3r:=hB3r.ext hE28);(try replace hTv:=hTv.ext hE28);(try replace hB9:=hB9.ext hE28);(try replace b3:=hE28.c b3);(try replace hb9_0:=hE28.c hb9_0);(try replace hb9_1:=hE28.c hb9_1);(try replace e5:=hE28.c e5);have hI28:bG W28 (.slice (some ⟨g28,0,none⟩) 1 1) [(n:Int)]:=aU hB28;clear hB28 hg28 hE28)|(go_at_call 46;((with_reducible refine((bS (by exact hI28) m1)).mono ?_);rintro e WcO ⟨rfl,hEcO⟩;(try replace hE:=hE.trans hEcO);(try replace hB3r:=hB3r.ext hEcO);(try replace hTv:=hTv.ext hEcO);(try replace hB9:=hB9.ext hEcO);(try replace b3:=hEcO.c b3);(try replace hb9_0:=hEcO.c hb9_0);(try replace hb9_1:=hEcO.c hb9_1);(try replace e5:=hEcO.c e5)))|(((with_reducible refine aC (d:=some 44) (hl:=bJ hB3r) ?_ ?_);rfl))|(((with_reducible refine aC (d:=some 45) (hl:=bZ hB9) ?_ ?_);rfl))|(go_at_call 65;((with_reducible refine((fL _ t n false _ hTv hnlt)).mono ?_);rintro e WcE ⟨rfl,hEcE⟩;(try replace hE:=hE.trans hEcE))))
       go_roundw
       case rel=>exact⟨hEr.trans hE,k+1,_,by omega,by go_num,rfl,by rw[←Hs.out,Hf.out,Hg.out,Hx.out]⟩
       case measure=>simp[intOf];omega
      ·have q9:((t.ends ⟨(n:Int),false⟩).1 !=av)=true:=by simp[c9]
       have Hg:=Lib.hid (Town.follow_bad hlt (a:=av) (e:=9) (by rw[Hx.out];exact Town.stepErr_9 hin Hnb.out c9) (by decide))
       clear c9;go_wp2_with (first|(((with_reducible refine aC (d:=some 20) (hl:=hStep) ?_ ?_);rfl))|((with_reducible refine aO (e:=82) (u:=9) (v:=.agg #[.int .i64 ((n:Int)),.bool (false)]) qZ ?_ ?_ ?_ ?_ ?_ ?_);(intro g;rfl);(intro g;rfl);rfl;rfl;(simp[Value.cells,Value.oneCell']);intro W9 g9 hE9 hB9 hg9;simp[Value.cells] at hB9;(try replace hE:=hE.trans hE9);(try replace hB3r:=hB3r.ext hE9);(try replace hTv:=hTv.ext hE9);(try replace b3:=hE9.c b3);(try replace e5:=hE9.c e5);have hb9_0:=hB9.cell 0;have hb9_1:=hB9.cell 1;simp at hb9_0 hb9_1;clear hE9)|((with_reducible refine eB (d:=some 28) (n0:=(n:Int)) ?_ ?_);rfl;intro W28 g28 hE28 hB28 hg28;(try replace hE:=hE.trans hE28);(try replace hB3r:=hB3r.ext hE28);(try replace hTv:=hTv.ext hE28);(try replace hB9:=hB9.ext hE28);(try replace b3:=hE28.c b3);(try replace hb9_0:=hE28.c hb9_0);(try replace hb9_1:=hE28.c hb9_1);(try replace e5:=hE28.c e5);have hI28:bG W28 (.slice (some ⟨g28,0,none⟩) 1 1) [(n:Int)]:=aU hB28;clear hB28 hg28 hE28)|(go_at_call 46;((with_reducible refine((bS (by exact hI28) m1)).mono ?_);rintro e WcO ⟨rfl,hEcO⟩;(try replace hE:=hE.trans hEcO);(try replace hB3r:=hB3r.ext hEcO);(try replace hTv:=hTv.ext hEcO);(try replace hB9:=hB9.ext hEcO);(try replace b3:=hEcO.c b3);(try replace hb9_0:=hEcO.c hb9_0);(try replace hb9_1:=hEcO.c hb9_1);(try replace e5:=hEcO.c e5)))|(((with_reducible refine aC (d:=some 44) (hl:=bJ hB3r) ?_ ?_);rfl))|(((with_reducible refine aC (d:=some 45) (hl:=bZ hB9) ?_ ?_);rfl))|(go_at_call 65;((with_reducible refine((fL _ t n false _ hTv hnlt)).mono ?_);rintro e WcE ⟨rfl,hEcE⟩;(try replace hE:=hE.trans hEcE))))
       go_ret2
       exact dQ.of (by rw[Hf.out,Hg.out]) (hEq.trans hE)
     |true=>
      cases bo with
      |false=>
       have Hr:=Lib.hid (Town.follow_bad hlt (a:=av) (e:=2) (by rw[Hx.out];exact Town.stepErr_2 hin rfl (by rw[Hat.out];exact Hbo.out)) (by decide))
       go_wp2_with (first|(((with_reducible refine aC (d:=some 20) (hl:=hStep) ?_ ?_);rfl))|((with_reducible refine aO (e:=82) (u:=9) (v:=.agg #[.int .i64 ((n:Int)),.bool (true)]) qZ ?_ ?_ ?_ ?_ ?_ ?_);(intro g;rfl);(intro g;rfl);rfl;rfl;(simp[Value.cells,Value.oneCell']);intro W9 g9 hE9 hB9 hg9;simp[Value.cells] at hB9;(try replace hE:=hE.trans hE9);(try replace hB3r:=hB3r.ext hE9);(try replace hTv:=hTv.ext hE9);(try replace b3:=hE9.c b3);(try replace e5:=hE9.c e5);have hb9_0:=hB9.cell 0;have hb9_1:=hB9.cell 1;simp at hb9_0 hb9_1;clear hE9)|((with_reducible refine eB (d:=some 28) (n0:=(n:Int)) ?_ ?_);rfl;intro W28 g28 hE28 hB28 hg28;(try replace hE:=hE.trans hE28);(try replace hB3r:=hB3r.ext hE28);(try replace hTv:=hTv.ext hE28);(try replace hB9:=hB9.ext hE28);(try replace b3:=hE28.c b3);(try replace hb9_0:=hE28.c hb9_0);(try replace hb9_1:=hE28.c hb9_1);(try replace e5:=hE28.c e5);have hI28:bG W28 (.slice (some ⟨g28,0,none⟩) 1 1) [(n:Int)]:=aU hB28;clear hB28 hg28 hE28)|(go_at_call 46;((with_reducible refine((bS (by exact hI28) m1)).mono ?_);rintro e WcO ⟨rfl,hEcO⟩;(try replace hE:=hE.trans hEcO);(try replace hB3r:=hB3r.ext hEcO);(try replace hTv:=hTv.ext hEcO);(try replace hB9:=hB9.ext hEcO);(try replace b3:=hEcO.c b3);(try replace hb9_0:=hEcO.c hb9_0);(try replace hb9_1:=hEcO.c hb9_1);(try replace e5:=hEcO.c e5))))
       go_ret2
       exact dQ.of (by rw[Hf.out,Hr.out]) (hEq.trans hE)
      |true=>
       have Hnb:=Lib.hid (show¬((true:Bool)=true∧(t.at_ (n:Int)).both=false) by rw[Hat.out];simp[Hbo.out])
       by_cases c9:(t.ends ⟨(n:Int),true⟩).1=av
       ·have q9:((t.ends ⟨(n:Int),true⟩).1 !=av)=false:=by simp[c9]
        have Hg:=Lib.hid (Town.follow_good hlt (a:=av) (by rw[Hx.out];exact Town.stepErr_0 hin Hnb.out c9))
        clear c9;go_wp2_with (first|(((with_reducible refine aC (d:=some 20) (hl:=hStep) ?_ ?_);rfl))|((with_reducible refine aO (e:=82) (u:=9) (v:=.agg #[.int .i64 ((n:Int)),.bool (true)]) qZ ?_ ?_ ?_ ?_ ?_ ?_);(intro g;rfl);(intro g;rfl);rfl;rfl;(simp[Value.cells,Value.oneCell']);intro W9 g9 hE9 hB9 hg9;simp[Value.cells] at hB9;(try replace hE:=hE.trans hE9);(try replace hB3r:=hB3r.ext hE9);(try replace hTv:=hTv.ext hE9);(try replace b3:=hE9.c b3);(try replace e5:=hE9.c e5);have hb9_0:=hB9.cell 0;have hb9_1:=hB9.cell 1;simp at hb9_0 hb9_1;clear hE9)|((with_reducible refine eB (d:=some 28) (n0:=(n:Int)) ?_ ?_);rfl;intro W28 g28 hE28 hB28 hg28;(try replace hE:=hE.trans hE28);(try replace hB3r:=hB3r.ext hE28);(try replace hTv:=hTv.ext hE28);(try replace hB9:=hB9.ext hE28);(try replace b3:=hE28.c b3);(try replace hb9_0:=hE28.c hb9_0);(try replace hb9_1:=hE28.c hb9_1);(try replace e5:=hE28.c e5);have hI28:bG W28 (.slice (some ⟨g28,0,none⟩) 1 1) [(n:Int)]:=aU hB28;clear hB28 hg28 hE28)|(go_at_call 46;((with_reducible refine((bS (by exact hI28) m1)).mono ?_);rintro e WcO ⟨rfl,hEcO⟩;(try replace hE:=hE.trans hEcO);(try replace hB3r:=hB3r.ext hEcO);(try replace hTv:=hTv.ext hEcO);(try replace hB9:=hB9.ext hEcO);(try replace b3:=hEcO.c b3);(try replace hb9_0:=hEcO.c hb9_0);(try replace hb9_1:=hEcO.c hb9_1);(try replace e5:=hEcO.c e5)))|(((with_reducible refine aC (d:=some 44) (hl:=bJ hB3r) ?_ ?_);rfl))|(((with_reducible refine aC (d:=some 45) (hl:=bZ hB9) ?_ ?_);rfl))|(go_at_call 65;((with_reducible refine((fL _ t n true _ hTv hnlt)).mono ?_);rintro e WcE ⟨rfl,hEcE⟩;(try replace hE:=hE.trans hEcE))))
        go_roundw
        case rel=>exact⟨hEr.trans hE,k+1,_,by omega,by go_num,rfl,by rw[←Hs.out,Hf.out,Hg.out,Hx.out]⟩
        case measure=>simp[intOf];omega
       ·have q9:((t.ends ⟨(n:Int),true⟩).1 !=av)=true:=by simp[c9]
        have Hg:=Lib.hid (Town.follow_bad hlt (a:=av) (e:=9) (by rw[Hx.out];exact Town.stepErr_9 hin Hnb.out c9) (by decide))
        clear c9;go_wp2_with (first|(((with_reducible refine aC (d:=some 20) (hl:=hStep) ?_ ?_);rfl))|((with_reducible refine aO (e:=82) (u:=9) (v:=.agg #[.int .i64 ((n:Int)),.bool (true)]) qZ ?_ ?_ ?_ ?_ ?_ ?_);(intro g;rfl);(intro g;rfl);rfl;rfl;(simp[Value.cells,Value.oneCell']);intro W9 g9 hE9 hB9 hg9;simp[Value.cells] at hB9;(try replace hE:=hE.trans hE9);(try replace hB3r:=hB3r.ext hE9);(try replace hTv:=hTv.ext hE9);(try replace b3:=hE9.c b3);(try replace e5:=hE9.c e5);have hb9_0:=hB9.cell 0;have hb9_1:=hB9.cell 1;simp at hb9_0 hb9_1;clear hE9)|((with_reducible refine eB (d:=some 28) (n0:=(n:Int)) ?_ ?_);rfl;intro W28 g28 hE28 hB28 hg28;(try replace hE:=hE.trans hE28);(try replace hB3r:=hB3r.ext hE28);(try replace hTv:=hTv.ext hE28);(try replace hB9:=hB9.ext hE28);(try replace b3:=hE28.c b3);(try replace hb9_0:=hE28.c hb9_0);(try replace hb9_1:=hE28.c hb9_1);(try replace e5:=hE28.c e5);have hI28:bG W28 (.slice (some ⟨g28,0,none⟩) 1 1) [(n:Int)]:=aU hB28;clear hB28 hg28 hE28)|(go_at_call 46;((with_reducible refine((bS (by exact hI28) m1)).mono ?_);rintro e WcO ⟨rfl,hEcO⟩;(try replace hE:=hE.trans hEcO);(try replace hB3r:=hB3r.ext hEcO);(try replace hTv:=hTv.ext hEcO);(try replace hB9:=hB9.ext hEcO);(try replace b3:=hEcO.c b3);(try replace hb9_0:=hEcO.c hb9_0);(try replace hb9_1:=hEcO.c hb9_1);(try replace e5:=hEcO.c e5)))|(((with_reducible refine aC (d:=some 44) (hl:=bJ hB3r) ?_ ?_);rfl))|(((with_reducible refine aC (d:=some 45) (hl:=bZ hB9) ?_ ?_);rfl))|(go_at_call 65;((with_reducible refine((fL _ t n true _ hTv hnlt)).mono ?_);rintro e WcE ⟨rfl,hEcE⟩;(try replace hE:=hE.trans hEcE))))
        go_ret2
        exact dQ.of (by rw[Hf.out,Hg.out]) (hEq.trans hE)
   ·obtain rfl:k=l.length:=by omega
    have Hr:=Lib.hid (show t.follow av (l.drop l.length)=(av,0) by rw[List.drop_length];rfl)
    clear h4;go_wp2
    go_ret2
    exact dQ.of (by rw[Hf.out,Hr.out]) hEq
 ·have q1:1100<(l.length:Int):=by omega
  have Hs:=Lib.hid (show t.stepsErr a l=(0,3) by unfold Town.stepsErr;rw[if_pos (by omega)])
  clear h4;go_enter Tryz.func58,Tryz.ntmps58
  go_wp2_with (first|((with_reducible refine aF (d:=some 3) ?_);intro W3 g3 hE3 hB3 hg3;simp[Act.eval,Act.put,Value.cells] at hB3;(try replace hE:=hE.trans hE3);have hb3_0:=hB3.cell 0;have hb3_1:=hB3.cell 1;have hb3_2:=hB3.cell 2;have hb3_3:=hB3.cell 3;simp at hb3_0 hb3_1 hb3_2 hb3_3;clear hE3))
  go_ret2
  exact dQ.of Hs.out hE
end Go.St
end
section
namespace Go.St
open Go Go.Bp Go.RowKit Go.Proofs
theorem kM{T e:TypeId}{B b:Nat}{bs:List Value}{w w':World}(h:Lib.IsBuilder T e B b bs w)(k:Ext w w'):Lib.IsBuilder T e B b bs w':=by
 rcases h with ⟨h1,v,h2,h3,h4⟩|⟨h1,v,h2,h3,h4⟩
 ·exact .inl ⟨h1,v,k.heap_some h2,kJ h3 k,h4⟩
 ·exact .inr ⟨h1,v,k.heap_some h2,kJ h3 k,h4⟩
theorem Rf:(Tryz.prog.info? 141).map (fun i=>(i.zero,i.size,i.bytes))=some (some (.agg #[.pointer none,.slice none 0 0]),2,32):=by kernel_rfl
theorem Gc{w:World}{B b:Nat}(h:Blk w b 141 #[.pointer none,.slice none 0 0])(hB:B≤b):Lib.IsBuilder 141 5 B b [] w:=
 .inl ⟨hB,.slice none 0 0,h,World.ownsRow_nil w B 5 1,by simp[Value.ownBlock]⟩
theorem Eo{B b:Nat}{bs:List Value}{w:World}(h:Lib.IsBuilder 141 5 B b bs w):∃pv,Blk w b 141 pv:=by
 rcases h with ⟨_,v,h2,_⟩|⟨_,v,h2,_⟩<;>exact⟨_,h2⟩
set_option maxHeartbeats 4000000 in
theorem pQ(tv lv:Value)(t:Town)(a:Int)(l:List Step)(w:World)(h:aM w tv t)(hl:bY w lv l)(hv:Env w):
 Calls Tryz.prog 30 #[tv,.int .i64 a,lv] w (Sd w (t.writeAns a l).1 (t.writeAns a l).2):=by
 have hT0:=h;obtain⟨pv,shv,tmv,xv,rfl,hT⟩:=h;obtain⟨A1,cp1,rfl,hp1,hc1,_,hp4⟩:=hT.places;obtain⟨A2,cp2,rfl,_,hc2,_,_⟩:=hT.shows;obtain⟨A3,cp3,rfl,_,hc3,_,_⟩:=hT.times;obtain⟨A4,cp4,rfl,_,h42,_⟩:=hT.streets;have hTw:=hT;have hL:=hl;obtain⟨A,c,rfl,h1,h2,_,h4⟩:=hl;have HL4:=Lib.hid h4;clear hT h4;unfold maxLen at h2 h42 hc1 hc2 hc3;have hE:=Ext.refl w;by_cases hce:t.check.2.2=0
 ·have hok:=Town.ok_of hce;have hp2:=hok.p2;have hsh:=hok.sh;have ht2:=hok.t2;have hst:=hok.st
  cases c1:inB a 0 (t.places.length-1) with
  |false=>
   have Hoe:=Lib.hid (show t.openErr [a]=4 by unfold Town.openErr;rw[if_neg (by simp[hce]),fU,c1];rfl)
   have hans:=Lib.hid (Town.writeAns_4 (l:=l) hce c1);clear hce;go_enter Tryz.func30,Tryz.ntmps30
   go_wp2_with (first|(((with_reducible refine aC (d:=some 17) (hl:=aL hB3) ?_ ?_);rfl))|((with_reducible refine eB (d:=some 19) (n0:=a) ?_ ?_);rfl;intro W19 g19 hE19 hB19 hg19;(try replace hE:=hE.trans hE19);(try replace hT0:=hT0.ext hE19);(try replace hL:=hL.ext hE19);have hI19:bG W19 (.slice (some ⟨g19,0,none⟩) 1 1) [a]:=aU hB19;clear hB19 hg19 hE19)|(go_at_call 57;((with_reducible refine(cV _ _ t [a] _ (by exact hT0) (by exact hI19)).mono ?_);rintro e WcP ⟨rfl,hEcP⟩;(try replace hE:=hE.trans hEcP);(try replace hT0:=hT0.ext hEcP);(try replace hL:=hL.ext hEcP);rw[Hoe.out]))|((with_reducible refine aO (e:=90) (u:=8) (v:=.agg #[.slice A1 t.places.length cp1,.slice A2 t.shows.length cp2,.slice A3 t.times.length cp3,.slice A4 t.streets.length cp4]) iD ?_ ?_ ?_ ?_ ?_ ?_);(intro g;rfl);(intro g;rfl);rfl;rfl;(simp[Value.cells,Value.oneCell']);intro W8 g8 hE8 hB8 hg8;simp[Value.cells] at hB8;(try replace hE:=hE.trans hE8);(try replace hT0:=hT0.ext hE8);(try replace hL:=hL.ext hE8);have hb8_0:=hB8.cell 0;have hb8_1:=hB8.cell 1;have hb8_2:=hB8.cell 2;have hb8_3:=hB8.cell 3;simp at hb8_0 hb8_1 hb8_2 hb8_3;clear hE8)|((with_reducible refine aF (d:=some 3) ?_);intro W3 g3 hE3 hB3 hg3;simp[Act.eval,Act.put,Value.cells] at hB3;(try replace hE:=hE.trans hE3);(try replace hT0:=hT0.ext hE3);(try replace hL:=hL.ext hE3);have hb3_1:=hB3.cell 1;have hb3_2:=hB3.cell 2;have hb3_3:=hB3.cell 3;simp at hb3_1 hb3_2 hb3_3;clear hE3))
   go_ret2
   rw[hans.out];exact⟨rfl,hE⟩
  |true=>
   have Hoe:=Lib.hid (show t.openErr [a]=0 by unfold Town.openErr;rw[if_neg (by simp[hce]),fU,c1];rfl)
   by_cases hse:(t.stepsErr a l).2=0
   ·have hans:=Lib.hid (Town.writeAns_0 hce c1 hse);obtain⟨hl11,hfo⟩:=Town.stepsErr_follow hse;have Hv:=Lib.hid (Town.follow_st l a hfo);have htm:=aV.1 c1;obtain⟨an,rfl⟩:∃n:Nat,a=n:=⟨a.toNat,by omega⟩
    have ha:an<t.places.length:=by omega
    have q1:((t.stepsErr an l).2 !=0)=false:=by simp[hse]
    obtain⟨adp,rfl,hcp⟩:=hp4 (by omega)
    have HcP:=Lib.hid hcp;have z0:(an:Int)<(t.places.length:Int):=by omega
    have Hok:=Lib.hid hok;clear hce hse hfo hcp;go_enter Tryz.func30,Tryz.ntmps30
    go_wp2_with (first|(((with_reducible refine aC (d:=some 17) (hl:=aL hB3) ?_ ?_);rfl))|((with_reducible refine eB (d:=some 19) (n0:=(an:Int)) ?_ ?_);rfl;intro W19 g19 hE19 hB19 hg19;(try replace hE:=hE.trans hE19);(try replace hT0:=hT0.ext hE19);(try replace hL:=hL.ext hE19);have hI19:bG W19 (.slice (some ⟨g19,0,none⟩) 1 1) [(an:Int)]:=aU hB19;clear hB19 hg19 hE19)|(go_at_call 57;((with_reducible refine(cV _ _ t [(an:Int)] _ (by exact hT0) (by exact hI19)).mono ?_);rintro e WcP ⟨rfl,hEcP⟩;(try replace hE:=hE.trans hEcP);(try replace hT0:=hT0.ext hEcP);(try replace hL:=hL.ext hEcP);rw[Hoe.out]))|((with_reducible refine aO (e:=90) (u:=8) (v:=.agg #[.slice (some adp) t.places.length cp1,.slice A2 t.shows.length cp2,.slice A3 t.times.length cp3,.slice A4 t.streets.length cp4]) iD ?_ ?_ ?_ ?_ ?_ ?_);(intro g;rfl);(intro g;rfl);rfl;rfl;(simp[Value.cells,Value.oneCell']);intro W8 g8 hE8 hB8 hg8;simp[Value.cells] at hB8;(try replace hE:=hE.trans hE8);(try replace hT0:=hT0.ext hE8);(try replace hL:=hL.ext hE8);have hb8_0:=hB8.cell 0;have hb8_1:=hB8.cell 1;have hb8_2:=hB8.cell 2;have hb8_3:=hB8.cell 3;simp at hb8_0 hb8_1 hb8_2 hb8_3;clear hE8)|(((with_reducible refine aC (d:=some 27) (hl:=bJ hB8) ?_ ?_);rfl))|(go_at_call 58;((with_reducible refine(kI _ _ t (an:Int) l _ (by exact hT0) hok (by exact hL)).mono ?_);rintro e WcF ⟨rfl,hEcF⟩;(try replace hE:=hE.trans hEcF);(try replace hB8:=hB8.ext hEcF);(try replace hb8_0:=hEcF.c hb8_0)))|(((with_reducible refine aS (d:=some 10) Rf ?_);intro W10 b hE10 hB10 hb10;have hb0:=Nat.le_trans hE.size hb10;simp[Value.cells] at hB10;replace hE:=hE.trans hE10;replace hB8:=hB8.ext hE10;replace hb8_0:=hE10.c hb8_0;have ep:=hE.c (cS.sg HcP.out ha)))|((with_reducible refine aF (d:=some 3) ?_);intro W3 g3 hE3 hB3 hg3;simp[Act.eval,Act.put,Value.cells] at hB3;(try replace hE:=hE.trans hE3);(try replace hT0:=hT0.ext hE3);(try replace hL:=hL.ext hE3);have hb3_1:=hB3.cell 1;have hb3_2:=hB3.cell 2;have hb3_3:=hB3.cell 3;simp at hb3_1 hb3_2 hb3_3;clear hE3))
    refine(oY w.heap.size b [] t.places[an] W10 (Gc hB10 hb0) (by have:=Town.place_len Hok.out an;rw[←Town.place_S ha,fD];simp;omega) hE.size).mono ?_
    rintro e Wl ⟨rfl,hB42,hbel,hkept⟩;have n8b:=blk_ne hB8 hB10 (by decide)
    have hBl:Lib.IsBuilder 141 5 w.heap.size b (Lib.byteCells (t.textTo an l 0)) Wl:=by
     have e1:[]++Lib.strCells t.places[an]=Lib.byteCells (t.textTo an l 0):=by
      rw[Lib.strCells_eq,Town.textTo_0,←Town.place_S ha,iX];rfl
     rw[e1] at hB42;exact hB42
    have hEl:Ext w Wl:=Below.trans hE hbel;have hB8l:=hkept.blk hB8 n8b (by decide)
    clear hB42 hbel hkept hB10 hB8 hE hb8_0 hb8_1 hb8_2 hb8_3 hb3_1 hb3_2 hb3_3 ep hb10 hE10 hL hT0;go_wp2
    go_loopw [45] (fun i wr=>∃j:Nat,j≤l.length∧i=.int .i64 j∧Lib.IsBuilder 141 5 w.heap.size b (Lib.byteCells (t.textTo an l j)) wr∧Ext w wr∧Blk wr g8 90 #[.slice (some adp) t.places.length cp1,.slice A2 t.shows.length cp2,.slice A3 t.times.length cp3,.slice A4 t.streets.length cp4]) (fun i _=>l.length-(intOf i).toNat)
    case atStart=>exact⟨0,by omega,rfl,hBl,hEl,hB8l⟩
    case round=>
     clear hBl hEl hB8l;obtain⟨j,hj,rfl,hB,hE,hB8⟩:=hrel;by_cases hlt:j<l.length
     ·obtain⟨ad,rfl,hc⟩:=HL4.out (by omega)
      have hcw:=hc.ext hE;have hz:(j:Int)<(l.length:Int):=by omega
      obtain⟨x,hx⟩:∃x,l[j]=x:=⟨_,rfl⟩;have hvx:=Hv.out _ (List.getElem_mem hlt);have hts:=Town.textTo_succ (t:=t) an l hlt;have htl:=Town.textTo_len Hok.out an Hv.out j hj;have hls:=iM hcw hlt;rw[hx] at hvx hts hls;obtain⟨st,bk⟩:=x;obtain⟨n,rfl,hn⟩:=fB hvx;have hn':n<t.streets.length:=by omega
      obtain⟨qn,hqn,hqlt⟩:=fB (Hok.out.ends hvx).2;have hql:qn<t.places.length:=by omega
      have cend:=fun w h=>fL (.agg #[.slice (some adp) t.places.length cp1,.slice A2 t.shows.length cp2,.slice A3 t.times.length cp3,.slice A4 t.streets.length cp4]) t n bk w h hn'
      rw[hqn] at cend;have epw:=cS.sg HcP.out hql;obtain⟨q,hq⟩:∃s,t.places[qn]=s:=⟨_,rfl⟩;rw[hq] at epw;have hqs:q=S (t.placeAt qn):=by rw[←hq,Town.place_S hql]
      have hqlen:=Town.place_len Hok.out qn;obtain⟨T,hT⟩:∃T,t.textTo an l j=T:=⟨_,rfl⟩;rw[hT] at hts htl hB;obtain⟨D,hD⟩:∃D,bO n=D:=⟨_,rfl⟩;have hdl:=uU n;rw[hD] at hdl;have HD:Hid (∀W,Env W→Calls Tryz.prog 77 #[.int .i64 n] W fun e w'=>e=.returned (.string (S D))∧Ext W w'):=Lib.hid (fun W hW=>by
       have:=xK n (by omega) (by omega) W hW
       rw[nC (by omega),show((n:Int)).toNat=n by omega,hD] at this;exact this)
      obtain⟨sg,hsg⟩:∃c:List UInt8,c=(if bk=true then [61] else [45]):=⟨_,rfl⟩
      have hsl:sg.length=1:=by rw[hsg];cases bk<;>rfl
      obtain⟨L1,hL1⟩:∃L,sg++D=L:=⟨_,rfl⟩;obtain⟨L2,hL2⟩:∃L,L1++ [46]=L:=⟨_,rfl⟩;obtain⟨L3,hL3⟩:∃L,L2++t.placeAt qn=L:=⟨_,rfl⟩;have HL:=Lib.hid (⟨by rw[Lm,hL1],by rw[Lm,hL2],by rw[hqs,Lm,hL3]⟩:S sg++S D=S L1∧S L1++S [46]=S L2∧S L2++q=S L3)
      have Hts2:Hid (t.textTo an l (j+1)=T++L3):=Lib.hid (by
       rw[hts,←hL3,←hL2,←hL1,hsg];unfold Town.stepText Town.sign;rw[hqn,←hD]
       cases bk<;>simp)
      have hsz:(S sg).size+(S D).size≤1000000000∧(S L1).size+(S [46]).size≤1000000000∧(S L2).size+q.size≤1000000000:=by
       rw[hqs];simp only[fD,←hL2,←hL1,List.length_append,List.length_singleton];omega
      have hl3:L3.length≤100:=by rw[←hL3,←hL2,←hL1];simp only[List.length_append,List.length_singleton];omega
      have Hsg:=Lib.hid hsg;have z1:(qn:Int)<(t.places.length:Int):=by omega
      clear hsg hL1 hL2 hL3 hD hts hqs hT hq hqn hx hc hcw hvx
      cases bk
      ·obtain rfl:sg=[45]:=Hsg.out;go_wp2_with (first|((with_reducible refine aC (d:=some 48) (hl:=hls) ?_ ?_);rfl)|((with_reducible refine aO (e:=82) (u:=12) (v:=.agg #[.int .i64 n,.bool false]) jK ?_ ?_ ?_ ?_ ?_ ?_);(intro g;rfl);(intro g;rfl);rfl;rfl;(simp[Value.cells,Value.oneCell']);intro W12 g12 hE12 hB12 hg12;simp[Value.cells] at hB12;replace hE:=hE.trans hE12;replace hB:=kM hB hE12;replace hB8:=hB8.ext hE12;have c121:=hB12.cell 1;simp at c121)|((with_reducible refine aC (d:=some 52) (hl:=bJ hB8) ?_ ?_);rfl)|((with_reducible refine aC (d:=some 53) (hl:=bZ hB12) ?_ ?_);rfl)|(go_at_call 65;refine(cend _ (aM.of (hTw.ext hE))).mono ?_;rintro e W54 ⟨rfl,hE54⟩;replace hE:=hE.trans hE54;replace hB:=kM hB hE54;replace hB8:=hB8.ext hE54;replace hB12:=hB12.ext hE54))
       have c120:=hB12.cell 0;have c80:=hB8.cell 0;simp at c120 c80;have ep:=hE.c epw;obtain⟨pvb,hbb⟩:=Eo hB;have n8b:=blk_ne hB8 hbb (by decide)
       have n12b:=blk_ne hB12 hbb (by decide)
       apply eF [57,58,59,60,61,62,63,64,65,66,67,68,69,70] (fun _ w'=>Lib.IsBuilder 141 5 w.heap.size b (Lib.byteCells T++Lib.strCells (S L3)) w'∧Ext w w'∧Blk w' g8 90 #[.slice (some adp) t.places.length cp1,.slice A2 t.shows.length cp2,.slice A3 t.times.length cp3,.slice A4 t.streets.length cp4])
       case h=>
        have hXd:=Ext.todrew (Ext.refl W54);have kB:=kM hB hXd;have kE:Ext w W54.drew:=hE.trans hXd;have k8:=hB8.d;have k12:=hB12.d;have s0:=Ext.cell_some hXd c120;have s8:=Ext.cell_some hXd c80;have sq:=Ext.cell_some hXd ep;refine aR (.take 0 (.take 1 (.take 2 (.take 6 (.take 7 (.take 8 (.take 9 (.take 10 (.take 11 (.one 3 (.take 4 (.take 5 (.take 12 (.one 13 .nil)))))))))))))) (fun w'=>w'.cell? ⟨g12,0,none⟩=some (.int .i64 n)∧w'.cell? ⟨g8,0,none⟩=some (.slice (some adp) t.places.length cp1)∧w'.cell? (adp.add qn)=some (.string q)) ?_ (fun hHd=> ?_)
        ·(first|exact True.intro|((try dsimp only);(repeat' apply And.intro)<;>first|assumption|(refine Ext.cell_some (Ext.todrew (Ext.refl _)) ?_;assumption)))
        repeat' first|((with_reducible refine aB ?_);(first|((with_reducible refine aB (i:=2) ?_);refine tk (v:=.int .i64 n) ?_ hHd ?_;(·exact aA (by rfl) (fun W h=>aY Tryz.underlying3 rfl h.1)))|((with_reducible refine aB (i:=4) ?_);refine tk (v:=.string (S L1)) ?_ hHd ?_;(·exact nO (p:=S [45]) (by rfl) (by rfl) HL.out.1 hsz.1))|((with_reducible refine aB (i:=5) ?_);refine tk (v:=.string (S L2)) ?_ hHd ?_;(·exact nO (q:=S [46]) (by rfl) (by rfl) HL.out.2.1 hsz.2.1))|((with_reducible refine aB (i:=8) ?_);refine tk (v:=.slice (some adp) t.places.length cp1) ?_ hHd ?_;(·exact aA (by rfl) (fun W h=>aY Tryz.underlying22 rfl h.2.1)))|((with_reducible refine aB (i:=11) ?_);refine tk (v:=.string q) ?_ hHd ?_;(·exact aA (by rfl) (fun W h=>aY Tryz.underlying9 rfl h.2.2)))|((with_reducible refine aB (i:=12) ?_);refine tk (v:=.string (S L3)) ?_ hHd ?_;(·exact nO (by rfl) (by rfl) HL.out.2.2 hsz.2.2))|(refine tk (v:= ?_) ?_ hHd ?_;rotate_left;(·(intro wq hSw;(try dsimp only at hSw);go_simp;(try with_reducible rfl)))));(try simp only[pS]))|((with_reducible refine bC ?_);refine aQ (by simp only[gS];rfl) ?_)|((with_reducible refine aH (d:=some 60) ?_);((refine bD (by rfl) (HD.out _ (hv.ext kE)) (by go_simp) ?_;rintro e W60 ⟨rfl,hE60⟩;refine⟨_,rfl,?_⟩;replace kB:=kM kB hE60;replace kE:=kE.trans hE60;replace k8:=k8.ext hE60;replace k12:=k12.ext hE60;replace s0:=hE60.c s0;replace s8:=hE60.c s8;replace sq:=hE60.c sq)))|((with_reducible refine aH (d:=some 70) ?_);((refine bD (by rfl) (oY w.heap.size b (Lib.byteCells T) (S L3) _ kB (by simp only[fD,Lib.byteCells_length];omega) kE.size) (by go_simp) ?_;rintro e W70 ⟨rfl,hB70,hbel70,hkept70⟩;refine⟨_,rfl,?_⟩;have hE70:Ext w W70:=Below.trans kE hbel70;replace k8:=hkept70.blk k8 n8b (by decide);replace k12:=hkept70.blk k12 n12b (by decide);replace s0:=k12.cell 0;replace s8:=k8.cell 0;simp at s0 s8;replace sq:=hE70.c epw)))|((with_reducible refine bB ?_);clear hHd;refine aJ ?_ (fun hHd=> ?_);(·(first|exact True.intro|((try dsimp only);(repeat' apply And.intro)<;>first|assumption|(refine Ext.cell_some (Ext.todrew (Ext.refl _)) ?_;assumption))));(try simp only[pS]))|(with_reducible refine aG ?_)
        all_goals
         refine⟨rfl,?_⟩;refine bL ?_ ?_
         ·simp only[Act.sets,Act.put,List.foldl_cons,List.foldl_nil,List.setIfInBounds_toArray,List.set_cons_zero,List.set_cons_succ,Act.get];rfl
         exact⟨hB70,hE70,k8⟩
       rintro x16 W16 ⟨hB16,hE16,hB816⟩;simp only[Act.sets,Act.put,List.foldl_cons,List.foldl_nil,List.setIfInBounds_toArray,List.set_cons_zero,List.set_cons_succ,Act.get];have hB17:Lib.IsBuilder 141 5 w.heap.size b (Lib.byteCells (t.textTo an l (j+1))) W16:=by
        have e1:Lib.byteCells T++Lib.strCells (S L3)=Lib.byteCells (t.textTo an l (j+1)):=by
         rw[Hts2.out,Lib.strCells_eq,iX];simp[Lib.byteCells]
        rw[e1] at hB16;exact hB16
       clear hB16;go_wp2
       go_roundw
       case rel=>exact⟨j+1,by omega,by go_num,hB17,hE16,hB816⟩
       case measure=>simp[intOf];omega
      ·obtain rfl:sg=[61]:=Hsg.out;go_wp2_with (first|((with_reducible refine aC (d:=some 48) (hl:=hls) ?_ ?_);rfl)|((with_reducible refine aO (e:=82) (u:=12) (v:=.agg #[.int .i64 n,.bool true]) jK ?_ ?_ ?_ ?_ ?_ ?_);(intro g;rfl);(intro g;rfl);rfl;rfl;(simp[Value.cells,Value.oneCell']);intro W12 g12 hE12 hB12 hg12;simp[Value.cells] at hB12;replace hE:=hE.trans hE12;replace hB:=kM hB hE12;replace hB8:=hB8.ext hE12;have c121:=hB12.cell 1;simp at c121)|((with_reducible refine aC (d:=some 52) (hl:=bJ hB8) ?_ ?_);rfl)|((with_reducible refine aC (d:=some 53) (hl:=bZ hB12) ?_ ?_);rfl)|(go_at_call 65;refine(cend _ (aM.of (hTw.ext hE))).mono ?_;rintro e W54 ⟨rfl,hE54⟩;replace hE:=hE.trans hE54;replace hB:=kM hB hE54;replace hB8:=hB8.ext hE54;replace hB12:=hB12.ext hE54))
       have c120:=hB12.cell 0;have c80:=hB8.cell 0;simp at c120 c80;have ep:=hE.c epw;obtain⟨pvb,hbb⟩:=Eo hB;have n8b:=blk_ne hB8 hbb (by decide)
       have n12b:=blk_ne hB12 hbb (by decide)
       apply eF [57,58,59,60,61,62,63,64,65,66,67,68,69,70] (fun _ w'=>Lib.IsBuilder 141 5 w.heap.size b (Lib.byteCells T++Lib.strCells (S L3)) w'∧Ext w w'∧Blk w' g8 90 #[.slice (some adp) t.places.length cp1,.slice A2 t.shows.length cp2,.slice A3 t.times.length cp3,.slice A4 t.streets.length cp4])
       case h=>
        have hXd:=Ext.todrew (Ext.refl W54);have kB:=kM hB hXd;have kE:Ext w W54.drew:=hE.trans hXd;have k8:=hB8.d;have k12:=hB12.d;have s0:=Ext.cell_some hXd c120;have s8:=Ext.cell_some hXd c80;have sq:=Ext.cell_some hXd ep;refine aR (.take 0 (.take 1 (.take 2 (.take 6 (.take 7 (.take 8 (.take 9 (.take 10 (.take 11 (.one 3 (.take 4 (.take 5 (.take 12 (.one 13 .nil)))))))))))))) (fun w'=>w'.cell? ⟨g12,0,none⟩=some (.int .i64 n)∧w'.cell? ⟨g8,0,none⟩=some (.slice (some adp) t.places.length cp1)∧w'.cell? (adp.add qn)=some (.string q)) ?_ (fun hHd=> ?_)
        ·(first|exact True.intro|((try dsimp only);(repeat' apply And.intro)<;>first|assumption|(refine Ext.cell_some (Ext.todrew (Ext.refl _)) ?_;assumption)))
        repeat' first|((with_reducible refine aB ?_);(first|((with_reducible refine aB (i:=2) ?_);refine tk (v:=.int .i64 n) ?_ hHd ?_;(·exact aA (by rfl) (fun W h=>aY Tryz.underlying3 rfl h.1)))|((with_reducible refine aB (i:=4) ?_);refine tk (v:=.string (S L1)) ?_ hHd ?_;(·exact nO (p:=S [61]) (by rfl) (by rfl) HL.out.1 hsz.1))|((with_reducible refine aB (i:=5) ?_);refine tk (v:=.string (S L2)) ?_ hHd ?_;(·exact nO (q:=S [46]) (by rfl) (by rfl) HL.out.2.1 hsz.2.1))|((with_reducible refine aB (i:=8) ?_);refine tk (v:=.slice (some adp) t.places.length cp1) ?_ hHd ?_;(·exact aA (by rfl) (fun W h=>aY Tryz.underlying22 rfl h.2.1)))|((with_reducible refine aB (i:=11) ?_);refine tk (v:=.string q) ?_ hHd ?_;(·exact aA (by rfl) (fun W h=>aY Tryz.underlying9 rfl h.2.2)))|((with_reducible refine aB (i:=12) ?_);refine tk (v:=.string (S L3)) ?_ hHd ?_;(·exact nO (by rfl) (by rfl) HL.out.2.2 hsz.2.2))|(refine tk (v:= ?_) ?_ hHd ?_;rotate_left;(·(intro wq hSw;(try dsimp only at hSw);go_simp;(try with_reducible rfl)))));(try simp only[pS]))|((with_reducible refine bC ?_);refine aQ (by simp only[gS];rfl) ?_)|((with_reducible refine aH (d:=some 60) ?_);((refine bD (by rfl) (HD.out _ (hv.ext kE)) (by go_simp) ?_;rintro e W60 ⟨rfl,hE60⟩;refine⟨_,rfl,?_⟩;replace kB:=kM kB hE60;replace kE:=kE.trans hE60;replace k8:=k8.ext hE60;replace k12:=k12.ext hE60;replace s0:=hE60.c s0;replace s8:=hE60.c s8;replace sq:=hE60.c sq)))|((with_reducible refine aH (d:=some 70) ?_);((refine bD (by rfl) (oY w.heap.size b (Lib.byteCells T) (S L3) _ kB (by simp only[fD,Lib.byteCells_length];omega) kE.size) (by go_simp) ?_;rintro e W70 ⟨rfl,hB70,hbel70,hkept70⟩;refine⟨_,rfl,?_⟩;have hE70:Ext w W70:=Below.trans kE hbel70;replace k8:=hkept70.blk k8 n8b (by decide);replace k12:=hkept70.blk k12 n12b (by decide);replace s0:=k12.cell 0;replace s8:=k8.cell 0;simp at s0 s8;replace sq:=hE70.c epw)))|((with_reducible refine bB ?_);clear hHd;refine aJ ?_ (fun hHd=> ?_);(·(first|exact True.intro|((try dsimp only);(repeat' apply And.intro)<;>first|assumption|(refine Ext.cell_some (Ext.todrew (Ext.refl _)) ?_;assumption))));(try simp only[pS]))|(with_reducible refine aG ?_)
        all_goals
         refine⟨rfl,?_⟩;refine bL ?_ ?_
         ·simp only[Act.sets,Act.put,List.foldl_cons,List.foldl_nil,List.setIfInBounds_toArray,List.set_cons_zero,List.set_cons_succ,Act.get];rfl
         exact⟨hB70,hE70,k8⟩
       rintro x16 W16 ⟨hB16,hE16,hB816⟩;simp only[Act.sets,Act.put,List.foldl_cons,List.foldl_nil,List.setIfInBounds_toArray,List.set_cons_zero,List.set_cons_succ,Act.get];have hB17:Lib.IsBuilder 141 5 w.heap.size b (Lib.byteCells (t.textTo an l (j+1))) W16:=by
        have e1:Lib.byteCells T++Lib.strCells (S L3)=Lib.byteCells (t.textTo an l (j+1)):=by
         rw[Hts2.out,Lib.strCells_eq,iX];simp[Lib.byteCells]
        rw[e1] at hB16;exact hB16
       clear hB16;go_wp2
       go_roundw
       case rel=>exact⟨j+1,by omega,by go_num,hB17,hE16,hB816⟩
       case measure=>simp[intOf];omega
     ·obtain rfl:j=l.length:=by omega
      have Hr:=Lib.hid (Town.textTo_all (t:=t) an l);have hz:¬((l.length:Int)<(l.length:Int)):=by omega
      rw[Hr.out] at hB;go_wp2_with (first|(go_at_call 78;refine(Tryz.Builder_String_any w.heap.size b (t.textOf an l) _ hB hE.size).mono ?_;rintro e W72 ⟨rfl,hbel72⟩))
      go_ret2
      rw[hans.out];exact⟨rfl,Below.trans hE hbel72⟩
   ·have hans:=Lib.hid (Town.writeAns_s hce c1 hse);have q1:((t.stepsErr a l).2 !=0)=true:=by simp[hse]
    clear hce hse;go_enter Tryz.func30,Tryz.ntmps30
    go_wp2_with (first|(((with_reducible refine aC (d:=some 17) (hl:=aL hB3) ?_ ?_);rfl))|((with_reducible refine eB (d:=some 19) (n0:=a) ?_ ?_);rfl;intro W19 g19 hE19 hB19 hg19;(try replace hE:=hE.trans hE19);(try replace hT0:=hT0.ext hE19);(try replace hL:=hL.ext hE19);have hI19:bG W19 (.slice (some ⟨g19,0,none⟩) 1 1) [a]:=aU hB19;clear hB19 hg19 hE19)|(go_at_call 57;((with_reducible refine(cV _ _ t [a] _ (by exact hT0) (by exact hI19)).mono ?_);rintro e WcP ⟨rfl,hEcP⟩;(try replace hE:=hE.trans hEcP);(try replace hT0:=hT0.ext hEcP);(try replace hL:=hL.ext hEcP);rw[Hoe.out]))|((with_reducible refine aO (e:=90) (u:=8) (v:=.agg #[.slice A1 t.places.length cp1,.slice A2 t.shows.length cp2,.slice A3 t.times.length cp3,.slice A4 t.streets.length cp4]) iD ?_ ?_ ?_ ?_ ?_ ?_);(intro g;rfl);(intro g;rfl);rfl;rfl;(simp[Value.cells,Value.oneCell']);intro W8 g8 hE8 hB8 hg8;simp[Value.cells] at hB8;(try replace hE:=hE.trans hE8);(try replace hT0:=hT0.ext hE8);(try replace hL:=hL.ext hE8);have hb8_0:=hB8.cell 0;have hb8_1:=hB8.cell 1;have hb8_2:=hB8.cell 2;have hb8_3:=hB8.cell 3;simp at hb8_0 hb8_1 hb8_2 hb8_3;clear hE8)|(((with_reducible refine aC (d:=some 27) (hl:=bJ hB8) ?_ ?_);rfl))|(go_at_call 58;((with_reducible refine(kI _ _ t a l _ (by exact hT0) hok (by exact hL)).mono ?_);rintro e WcF ⟨rfl,hEcF⟩;(try replace hE:=hE.trans hEcF);(try replace hB8:=hB8.ext hEcF);(try replace hb8_0:=hEcF.c hb8_0)))|((with_reducible refine aF (d:=some 3) ?_);intro W3 g3 hE3 hB3 hg3;simp[Act.eval,Act.put,Value.cells] at hB3;(try replace hE:=hE.trans hE3);(try replace hT0:=hT0.ext hE3);(try replace hL:=hL.ext hE3);have hb3_1:=hB3.cell 1;have hb3_2:=hB3.cell 2;have hb3_3:=hB3.cell 3;simp at hb3_1 hb3_2 hb3_3;clear hE3))
    go_ret2
    rw[hans.out];exact⟨rfl,hE⟩
 ·have Hoe:=Lib.hid (show t.openErr [a]=t.check.2.2 by unfold Town.openErr;rw[if_pos hce])
  have hans:=Lib.hid (Town.writeAns_c (a:=a) (l:=l) hce);have q1:(t.check.2.2 !=0)=true:=by simp[hce]
  clear hce;go_enter Tryz.func30,Tryz.ntmps30
  go_wp2_with (first|(((with_reducible refine aC (d:=some 17) (hl:=aL hB3) ?_ ?_);rfl))|((with_reducible refine eB (d:=some 19) (n0:=a) ?_ ?_);rfl;intro W19 g19 hE19 hB19 hg19;(try replace hE:=hE.trans hE19);(try replace hT0:=hT0.ext hE19);(try replace hL:=hL.ext hE19);have hI19:bG W19 (.slice (some ⟨g19,0,none⟩) 1 1) [a]:=aU hB19;clear hB19 hg19 hE19)|(go_at_call 57;((with_reducible refine(cV _ _ t [a] _ (by exact hT0) (by exact hI19)).mono ?_);rintro e WcP ⟨rfl,hEcP⟩;(try replace hE:=hE.trans hEcP);(try replace hT0:=hT0.ext hEcP);(try replace hL:=hL.ext hEcP);rw[Hoe.out]))|((with_reducible refine aO (e:=90) (u:=8) (v:=.agg #[.slice A1 t.places.length cp1,.slice A2 t.shows.length cp2,.slice A3 t.times.length cp3,.slice A4 t.streets.length cp4]) iD ?_ ?_ ?_ ?_ ?_ ?_);(intro g;rfl);(intro g;rfl);rfl;rfl;(simp[Value.cells,Value.oneCell']);intro W8 g8 hE8 hB8 hg8;simp[Value.cells] at hB8;(try replace hE:=hE.trans hE8);(try replace hT0:=hT0.ext hE8);(try replace hL:=hL.ext hE8);have hb8_0:=hB8.cell 0;have hb8_1:=hB8.cell 1;have hb8_2:=hB8.cell 2;have hb8_3:=hB8.cell 3;simp at hb8_0 hb8_1 hb8_2 hb8_3;clear hE8)|((with_reducible refine aF (d:=some 3) ?_);intro W3 g3 hE3 hB3 hg3;simp[Act.eval,Act.put,Value.cells] at hB3;(try replace hE:=hE.trans hE3);(try replace hT0:=hT0.ext hE3);(try replace hL:=hL.ext hE3);have hb3_1:=hB3.cell 1;have hb3_2:=hB3.cell 2;have hb3_3:=hB3.cell 3;simp at hb3_1 hb3_2 hb3_3;clear hE3))
  go_ret2
  rw[hans.out];exact⟨rfl,hE⟩
end Go.St
end
section
namespace Go.St
open Go.Bp
theorem Kl(s:ByteArray)(j:Nat)(h:j<s.size):s[j]=s.get! j:=by
 have:=get_at s j h;rw[←this];rfl
theorem Aw(s:ByteArray)(k:Nat)(h:k<s.size):
 1≤(Utf8.decode s k).2∧k+(Utf8.decode s k).2≤s.size∧∀j(hj:j<s.size),k<j→j<k+(Utf8.decode s k).2→128≤s[j].toNat:=by
 have key:∀j(hj:j<s.size),(s.get! j).toNat/64=2→128≤s[j].toNat:=fun j hj e=>by rw[Kl s j hj];omega
 have one:∀j(hj:j<s.size),k<j→j<k+1→128≤s[j].toNat:=fun j hj h1 h2=>by omega
 unfold Utf8.decode;simp only[Bool.and_eq_true,decide_eq_true_eq,beq_iff_eq];split
 ·exact⟨Nat.le_refl _,h,one⟩
 ·split
  ·rename_i hc;split
   ·refine⟨by simp,by have:=hc.2.1;omega,fun j hj h1 h2=> ?_⟩
    obtain rfl:j=k+1:=by omega
    exact key _ hj hc.2.2
   ·exact⟨Nat.le_refl _,h,one⟩
  ·split
   ·rename_i hc;split
    ·refine⟨by simp,by have:=hc.2.1;omega,fun j hj h1 h2=> ?_⟩
     have e:j=k+1∨j=k+2:=by simp only at h2;omega
     rcases e with rfl|rfl
     ·exact key _ hj hc.1.2.2
     ·exact key _ hj hc.2.2
    ·exact⟨Nat.le_refl _,h,one⟩
   ·split
    ·rename_i hc;split
     ·refine⟨by simp,by have:=hc.2.1;omega,fun j hj h1 h2=> ?_⟩
      have e:j=k+1∨j=k+2∨j=k+3:=by simp only at h2;omega
      rcases e with rfl|rfl|rfl
      ·exact key _ hj hc.1.1.2.2
      ·exact key _ hj hc.1.2.2
      ·exact key _ hj hc.2.2
     ·exact⟨Nat.le_refl _,h,one⟩
    ·exact⟨Nat.le_refl _,h,one⟩
theorem fC(b:UInt8):[45,61].contains b=eQ b:=by
 unfold eQ;simp
theorem Ay{b:UInt8}(h:128≤b.toNat):eQ b=false:=by
 unfold eQ;have h1:b≠45:=by rintro rfl;revert h;decide
 have h2:b≠61:=by rintro rfl;revert h;decide
 simp[h1,h2]
theorem qT:∀l:List UInt8,Lib.indexAny l [45,61]=if(dN l).length<l.length then((dN l).length:Int) else -1
 | []=>by simp[Lib.indexAny]
 |b::l=>by
  rw[Lib.indexAny,qT l,fC];unfold dN;rw[List.takeWhile_cons]
  cases hb:eQ b with
  |true=>simp
  |false=>
   simp only[Bool.not_false,if_true,List.length_cons,Bool.false_eq_true,if_false];by_cases h:(l.takeWhile fun b=> !eQ b).length<l.length
   ·have h2:(l.takeWhile fun b=> !eQ b).length+1<l.length+1:=by omega
    have h3:¬(((l.takeWhile fun b=> !eQ b).length:Int)== -1)=true:=by simp
    simp only[h,h2,h3,if_true];simp
   ·have h2:¬(l.takeWhile fun b=> !eQ b).length+1<l.length+1:=by omega
    simp only[h,h2,if_false];rfl
theorem Nb(l:List UInt8):(dN l).length≤l.length:=by
 have:=congrArg List.length (eM (fun b=> !eQ b) l)
 rw[List.length_append] at this;unfold dN;omega
theorem Ge(l:List UInt8):l.take (dN l).length=dN l∧l.drop (dN l).length=eU l:=by
 have h:=eM (fun b=> !eQ b) l
 constructor
 ·conv=>lhs;arg 2;rw[←h]
  unfold dN;rw[List.take_left]
 ·conv=>lhs;arg 2;rw[←h]
  unfold dN eU;rw[List.drop_left]
theorem qS:∀l:List UInt8,Lib.indexByte l 46=if(46:UInt8)∈l then((eD l).length:Int) else -1
 | []=>by simp[Lib.indexByte]
 |b::l=>by
  rw[Lib.indexByte,qS l];unfold eD;rw[List.takeWhile_cons];by_cases hb:b=46
  ·subst hb;simp
  ·have e1:(b==46)=false:=by simp[hb]
   have e2:((46:UInt8)∈b::l)↔(46:UInt8)∈l:=by simp;intro h;exact absurd h.symm hb
   simp only[e1,Bool.false_eq_true,if_false,ne_eq,hb,not_false_eq_true,decide_true,if_true,List.length_cons];by_cases h:(46:UInt8)∈l
   ·have h2:=e2.2 h;have h3:¬(((l.takeWhile fun b=>decide (b≠46)).length:Int)== -1)=true:=by simp
    simp only[ne_eq] at h3;simp only[h,h2,h3,if_true];simp
   ·have h2:¬(46:UInt8)∈b::l:=fun e=>h (e2.1 e)
    simp only[h,h2,if_false];rfl
theorem Ao{l:List UInt8}(h:(46:UInt8)∈l):l.take (eD l).length=eD l∧l.drop ((eD l).length+1)=cJ l:=by
 have e:=pJ h;constructor
 ·conv=>lhs;arg 2;rw[e]
  rw[List.take_left]
 ·conv=>lhs;arg 2;rw[e]
  rw[←List.drop_drop,List.drop_left,List.drop_one,List.tail_cons]
theorem wS{l:List UInt8}(h:(46:UInt8)∈l):(eD l).length+1+(cJ l).length=l.length:=by
 have e:=congrArg List.length (pJ h);simp at e;omega
theorem kC(s:ByteArray)(a b:Nat):(s.extract a b).data.toList=(s.data.toList.drop a).take (b-a):=by
 simp[List.drop_take]
/-! ### the rune's form -/
theorem Au{r:Int}(h:128≤r):∃l b,Utf8.encode r=S (l++ [b])∧128≤b.toNat∧1≤l.length∧l.length≤3:=by
 have hb:∀n:Nat,n<64→128≤(UInt8.ofNat (128+n)).toNat:=fun n hn=>by
  rw[UInt8.toNat_ofNat'];omega
 unfold Utf8.encode;simp only;generalize hc:(if Utf8.valid r=true then r.toNat else Utf8.runeError)=c
 have hc2:¬c<128:=by
  rw[←hc];split
  ·omega
  ·decide
 rw[if_neg hc2];split
 ·exact⟨[_],_,rfl,hb (c%64) (Nat.mod_lt _ (by decide)),by simp,by simp⟩
 ·split
  ·exact⟨[_,_],_,rfl,hb (c%64) (Nat.mod_lt _ (by decide)),by simp,by simp⟩
  ·exact⟨[_,_,_],_,rfl,hb (c%64) (Nat.mod_lt _ (by decide)),by simp,by simp⟩
end Go.St
end
section
namespace Go.St
open Go Go.Bp Go.RowKit Go.Proofs
theorem oO(r:Int)(w:World):Calls Tryz.prog 129 #[.int .i32 r] w fun e w'=>(e=.returned (.bool false)∨e=.returned (.bool true))∧w'=w:=by
 by_cases h1:0≤r<;>by_cases h2:r<55296<;>by_cases h3:57343<r<;>by_cases h4:r≤1114111
 all_goals
  go_enter Tryz.func129,Tryz.ntmps129
  go_wp2
  go_ret
  exact⟨by first|exact .inl rfl|exact .inr rfl,rfl⟩
set_option maxHeartbeats 2000000 in
theorem yN(r:Int)(h1:128≤r)(h2:r≤2147483647)(w:World):Calls Tryz.prog 108 #[.string (S [45,61]),.int .i32 r] w (dF w (-1)):=by
 have q0:(0:Int)≤r:=by omega
 have q1:¬(r<128):=by omega
 by_cases h3:r=65533
 ·subst h3;go_enter Tryz.func108,Tryz.ntmps108
  go_wp2
  go_loopw [5,6] (fun _ _ wr=>∃k:Nat,k≤2∧wr=w.iter (S [45,61]) k) (fun _ _ wr=>2-wr.iterPos w.heap.size)
  case atStart=>exact⟨0,by omega,rfl⟩
  case round=>
   obtain⟨k,hk,rfl⟩:=hrel;have e:k=0∨k=1∨k=2:=by omega
   rcases e with rfl|rfl|rfl
   ·have hx:=run_next_ascii (P:=Tryz.prog) w (S [45,61]) 0 0 (by decide) (by decide)
    have hv:((S [45,61])[0]'(by decide)).toNat=45:=by decide
    rw[hv] at hx;go_wp2
    go_roundw
    case rel=>exact⟨1,by omega,rfl⟩
    case measure=>simp
   ·have hx:=run_next_ascii (P:=Tryz.prog) w (S [45,61]) 1 0 (by decide) (by decide)
    have hv:((S [45,61])[1]'(by decide)).toNat=61:=by decide
    rw[hv] at hx;go_wp2
    go_roundw
    case rel=>exact⟨2,by omega,rfl⟩
    case measure=>simp
   ·have hx:=run_next_end (P:=Tryz.prog) w (S [45,61]) 2 0 (by decide)
    go_wp2
    go_ret
    exact⟨rfl,gV _ _ _⟩
 ·have q3:(r==65533)=false:=by simp[h3]
  obtain⟨l,b,he,hb,hl1,hl2⟩:=Au h1;have hsz:(Utf8.encode r).size=l.length+1:=by rw[he,fD];simp
  obtain⟨rs,hrs⟩:∃rs,Utf8.encode r=rs:=⟨_,rfl⟩;rw[hrs] at he hsz;by_cases hl:l.length=1
  ·have hz:rs.size=2:=by omega
   obtain⟨x,rfl⟩:∃x,l=[x]:=by
    match l,hl with
    | [x],_=>exact⟨x,rfl⟩
   obtain rfl:rs=S [x,b]:=he;clear hsz hl hl1 hl2;have hbn:((61:Int)==b.toNat)=false:=by simp;omega
   go_enter Tryz.func108,Tryz.ntmps108
   go_wp2_with (first|(go_at_call 129;refine(oO _ _).mono ?_;rintro e W ⟨(rfl|rfl),rfl⟩))
   ·go_ret
    exact⟨rfl,Ext.refl _⟩
   ·apply wp_scope_straight;go_wp2
    go_loopw [9] (fun i wr=>i=.int .i64 1∧wr=W) (fun _ _=>0)
    case atStart=>exact⟨rfl,rfl⟩
    case round=>
     obtain⟨rfl,rfl⟩:=hrel;have hs2:(S [45,61]).size=2:=by decide
     go_wp2
     apply wp_scope_straight;go_wp2
     have hX:True:=trivial;refine aR (.take 0 (.take 1 (.take 2 (.take 3 (.take 4 (.take 5 (.take 6 .nil))))))) (fun w'=>True) ?_ (fun hHd=> ?_)
     ·exact True.intro
     repeat' first|((with_reducible refine aB ?_);(first|((with_reducible refine aB (i:=2) ?_);refine tk (v:=.int .u8 61) ?_ hHd ?_;(·(intro wq _;go_simp;rfl)))|((with_reducible refine aB (i:=5) ?_);refine tk (v:=.int .u8 (b.toNat:Int)) ?_ hHd ?_;(·(intro wq _;go_simp;rfl)))|(refine tk (v:= ?_) ?_ hHd ?_;rotate_left;(·(intro wq hSw;(try dsimp only at hSw);go_simp;(try with_reducible rfl)))));(try simp only[pS]))|(with_reducible refine aG ?_)
     go_wp2
     have Hib:=Lib.hid (show∀(c:Int)W,Calls Tryz.prog 128 #[.string (S []),.int .u8 c] W fun e w'=>e=.returned (.int .i64 (-1))∧w'=W from fun c W=>Tryz.strings_IndexByte (S []) c W)
     have hX:=Ext.todrew (Ext.refl wr.drew);refine aR (.take 0 (.take 1 (.take 2 (.take 3 (.take 4 (.take 5 (.take 6 (.one 7 (.take 8 .nil))))))))) (fun w'=>Ext wr.drew w') ?_ (fun hHd=> ?_)
     ·(first|exact True.intro|((try dsimp only);(repeat' apply And.intro)<;>first|assumption|(refine Ext.cell_some (Ext.todrew (Ext.refl _)) ?_;assumption)))
     repeat' first|((with_reducible refine aB ?_);(first|((with_reducible refine aB (i:=3) ?_);refine tk (v:=.string (S [])) ?_ hHd ?_;(·(intro wq _;go_simp;rfl)))|((with_reducible refine aB (i:=6) ?_);refine tk (v:=.int .u8 (b.toNat:Int)) ?_ hHd ?_;(·(intro wq _;go_simp;rfl)))|(refine tk (v:= ?_) ?_ hHd ?_;rotate_left;(·(intro wq hSw;(try dsimp only at hSw);go_simp;(try with_reducible rfl)))));(try simp only[pS]))|((with_reducible refine bC ?_);refine aQ (by simp only[gS];rfl) ?_)|((with_reducible refine aH (d:=some 41) ?_);((refine bD (by rfl) (Hib.out (b.toNat:Int) _) (by go_simp) ?_;rintro e W41 ⟨rfl,rfl⟩;refine⟨_,rfl,?_⟩)))|((with_reducible refine bB ?_);clear hHd;refine aJ ?_ (fun hHd=> ?_);(·(first|exact True.intro|((try dsimp only);(repeat' apply And.intro)<;>first|assumption|(refine Ext.cell_some (Ext.todrew (Ext.refl _)) ?_;assumption))));(try simp only[pS]))|(with_reducible refine aG ?_)
     all_goals
      go_wp2
      simp only[go_sem];go_ret
      exact⟨rfl,(Ext.todrew (Ext.refl wr)).trans hX⟩
  ·have hl3:2≤l.length:=by omega
   have z:¬((l.length:Int)<2):=by omega
   have hz1:IntKind.i64.wrap ((rs.size:Int)-1)=(l.length:Int):=by rw[hsz,Dy (by omega) (by omega)];omega
   clear he hl;go_enter Tryz.func108,Tryz.ntmps108
   go_wp2_with (first|(go_at_call 129;refine(oO _ _).mono ?_;rintro e W ⟨(rfl|rfl),rfl⟩))
   ·go_ret
    exact⟨rfl,Ext.refl _⟩
   ·apply wp_scope_straight;go_wp2
    go_loopw [9] (fun i wr=>i=.int .i64 l.length∧wr=W) (fun _ _=>0)
    case atStart=>exact⟨rfl,rfl⟩
    case round=>
     obtain⟨rfl,rfl⟩:=hrel;have hs2:(S [45,61]).size=2:=by decide
     go_wp2
     simp only[go_sem];go_ret
     exact⟨rfl,Ext.refl _⟩
theorem Ext.iterAt{W wr:World}(s:ByteArray)(p:Nat)(h:Ext W wr):Ext W (wr.iterAt W.heap.size s p):=Lib.below_iterAt h (Nat.le_refl _) s p
theorem Qz(w:World):(zeroValue 174).run Tryz.prog w=.ok (.agg (Array.replicate 256 (.bool false))) w:=by kernel_rfl
def rL(l:List UInt8):Int:=Lib.indexAny l [45,61]
set_option maxHeartbeats 2000000 in
theorem yO(s:ByteArray)(hs:s.size≤1000000)(w:World):Calls Tryz.prog 82 #[.string s,.string (S [45,61])] w (dF w (rL s.data.toList)):=by
 have hs2:(S [45,61]).size=2:=by decide
 by_cases h8:8<s.size
 ·refine(Tryz.strings_IndexAny_long Qz s (S [45,61]) w (by omega) h8 (by omega) (by omega) ?_).mono ?_
  ·intro j b hb;have:b∈ [(45:UInt8),61]:=List.mem_of_getElem? hb;simp at this;rcases this with rfl|rfl<;>decide
  ·rintro e w' ⟨rfl,rfl⟩;exact⟨rfl,(Ext.ofAlloc _ _).trans (Ext.ofAlloc _ _)⟩
 ·have q8:decide ((8:Int)<s.size)=false:=by simp;omega
  have hemp:(S [45,61]).toList.isEmpty=false:=by rw[Lib.toList_data];rfl
  go_enter Tryz.func82,Tryz.ntmps82
  go_wp2_with (first|(go_at_call 109;refine(Tryz.strings_shouldUseASCIISet _ _).mono ?_;rintro e W ⟨rfl,rfl⟩;rw[q8]))
  go_loopw [9,10] (fun _ _ wr=>∃k:Nat,k≤s.size∧(Ext W wr∧wr.heap[W.heap.size]? =some (.stringIter s k))∧Lib.NoAny s.data.toList [45,61] k) (fun _ _ wr=>s.size-wr.iterPos W.heap.size)
  case atStart=>exact⟨0,by omega,⟨gV _ _ _,World.iter_heap _ _ _⟩,Lib.NoAny.zero _ _⟩
  case round=>
   obtain⟨k,hk,⟨hE,hi0⟩,hn⟩:=hrel;have hip:wr.iterPos W.heap.size=k:=by simp[World.iterPos,hi0]
   have hE2:=Ext.iterAt s (k+1) hE;have hi2:=Lib.iterAt_heap wr W.heap.size s k (k+1) hi0;have Hn:=Lib.hid hn;clear hn;by_cases hlt:k<s.size
   ·obtain⟨b,hb⟩:∃b,s[k]=b:=⟨_,rfl⟩;have hbl:s.data.toList[k]? =some b:=by rw[←hb];exact Lib.data_getElem? s k hlt
    obtain⟨hd1,hd2,hd3⟩:=Aw s k hlt;by_cases ha:b.toNat<128
    ·have hx:=Lib.run_next_ascii_at (P:=Tryz.prog) wr W.heap.size s k 0 hi0 hlt (by rw[hb];exact ha)
     rw[hb] at hx;by_cases hc:eQ b=true
     ·have Hr:=Lib.hid (show Lib.indexAny s.data.toList [45,61]=k from Lib.indexAny_hit Hn.out hbl (by rw[fC];exact hc))
      have Hc:=Lib.hid (show(0:Int)≤Lib.indexByte (S [45,61]).data.toList b by
       have:=Lib.contains_iff_indexByte [45,61] b;rw[fC,hc] at this;exact(by simpa using this:(0:Int)≤Lib.indexByte [45,61] b))
      obtain⟨m,hm⟩:∃m,Lib.indexByte (S [45,61]).data.toList b=m:=⟨_,rfl⟩;have hm0:0≤m:=by rw[←hm];exact Hc.out
      have Hm:=Lib.hid hm;clear hm hc hb hbl hd1 hd2 hd3;have hi:=Lib.hid (show∀W,Calls Tryz.prog 108 #[.string (S [45,61]),.int .i32 (b.toNat:Int)] W (fun e w'=>e=.returned (.int .i64 m)∧w'=W) from fun W=>by
       have:=Tryz.strings_IndexRune_ascii (S [45,61]) (b.toNat:Int) W (by omega) (by omega)
       rw[show((b.toNat:Int)).toNat.toUInt8=b by simp,Hm.out] at this;exact this)
      go_wp2_with (first|(go_at_call 108;refine(hi.out _).mono ?_;rintro e W ⟨rfl,rfl⟩))
      go_ret
      exact⟨by unfold rL;rw[Hr.out];rfl,hE2⟩
     ·simp only[Bool.not_eq_true] at hc;have Hs:=Lib.hid (Lib.NoAny.succ Hn.out hbl (by rw[fC];exact hc))
      have Hm:=Lib.hid (show Lib.indexByte (S [45,61]).data.toList b= -1 by
       have:=Lib.contains_iff_indexByte [45,61] b;rw[fC,hc] at this;have h1:Lib.indexByte [45,61] b<0:=by simpa using this.symm
       have h2:=Lib.indexByte_ge [45,61] b;show Lib.indexByte [45,61] b= -1
       omega)
      clear hc hb hbl hd1 hd2 hd3;have hi:=Lib.hid (show∀W,Calls Tryz.prog 108 #[.string (S [45,61]),.int .i32 (b.toNat:Int)] W (fun e w'=>e=.returned (.int .i64 (-1))∧w'=W) from fun W=>by
       have:=Tryz.strings_IndexRune_ascii (S [45,61]) (b.toNat:Int) W (by omega) (by omega)
       rw[show((b.toNat:Int)).toNat.toUInt8=b by simp,Hm.out] at this;exact this)
      go_wp2_with (first|(go_at_call 108;refine(hi.out _).mono ?_;rintro e W ⟨rfl,rfl⟩))
      go_roundw
      case rel=>exact⟨k+1,by omega,⟨hE2,hi2⟩,Hs.out⟩
      case measure=>rw[hip];simp[World.iterPos,hi2];omega
    ·have hx:=Lib.run_next_any_at (P:=Tryz.prog) wr W.heap.size s k 0 hi0 hlt;have hE3:=Ext.iterAt s (k+(Utf8.decode s k).2) hE;have hi3:=Lib.iterAt_heap wr W.heap.size s k (k+(Utf8.decode s k).2) hi0;have hh:=(decode_high s k hlt (by rw[hb];omega)).1
     have hle:=decode_le s k;have Hs:=Lib.hid (show Lib.NoAny s.data.toList [45,61] (k+(Utf8.decode s k).2) from by
      intro j c hj hcj;rw[fC];by_cases h1:j<k
      ·have:=Hn.out j c h1 hcj;rwa [fC] at this
      ·have hjs:j<s.size:=by omega
       have hc':s[j]=c:=by
        have:=Lib.data_getElem? s j hjs;rw[this] at hcj;exact Option.some.inj hcj
       by_cases h2:j=k
       ·subst h2;rw[←hc',hb];exact Ay (by omega)
       ·rw[←hc'];exact Ay (hd3 j hjs (by omega) hj))
     obtain⟨r,hr⟩:∃r,(Utf8.decode s k).1=r:=⟨_,rfl⟩;obtain⟨dd,hd⟩:∃d,(Utf8.decode s k).2=d:=⟨_,rfl⟩;rw[hr] at hx hh hle;rw[hd] at hx hd1 hd2 Hs hE3 hi3;clear hr hd hb hbl hd3;go_wp2_with (first|(go_at_call 108;refine(yN _ (by omega) (by omega) _).mono ?_;rintro e W' ⟨rfl,hE'⟩))
     have hi4:=hE'.heap_some hi3;go_roundw
     case rel=>exact⟨k+dd,by omega,⟨hE3.trans hE',hi4⟩,Hs.out⟩
     case measure=>rw[hip];simp[World.iterPos,hi4];omega
   ·obtain rfl:k=s.size:=by omega
    have hx:=Lib.run_next_end_at (P:=Tryz.prog) wr W.heap.size s s.size 0 hi0 (by omega)
    have Hr:=Lib.hid (show Lib.indexAny s.data.toList [45,61]= -1 from Lib.indexAny_none (by rw[←Lib.size_eq];exact Hn.out))
    clear Hn;go_wp2
    go_ret
    exact⟨by unfold rL;rw[Hr.out];rfl,hE⟩
end Go.St
end
section
namespace Go.St
open Go Go.Bp Go.RowKit Go.Proofs
theorem Bg{x:ByteArray}{l:List UInt8}(h:x.data.toList=l):x=S l:=by rw[←h,rO]
theorem Fd(s:ByteArray)(hs:s.size≤1000000)(w:World):Calls Tryz.prog 112 #[.string s,.string (S [46])] w fun e w'=>Ext w w'∧
 ((46:UInt8)∈s.data.toList→e=.returned (.tuple #[.string (S (eD s.data.toList)),.string (S (cJ s.data.toList)),.bool true]))∧
 ((46:UInt8)∉s.data.toList→e=.returned (.tuple #[.string s,.string (S []),.bool false])):=by
 have hi:=qS s.data.toList;have hS1:(S [46]).size=1:=by decide
 by_cases hm:(46:UInt8)∈s.data.toList
 ·rw[if_pos hm] at hi;have hl:=wS hm;have hsz:=Lib.size_eq s;obtain⟨h1,h2⟩:=Ao hm;obtain⟨n,hn⟩:∃n,(eD s.data.toList).length=n:=⟨_,rfl⟩;rw[hn] at hi hl h1 h2;have he1:s.extract 0 n=S (eD s.data.toList):=Bg (by rw[kC];simpa using h1)
  have he2:s.extract (n+1) s.size=S (cJ s.data.toList):=Bg (by rw[kC,hsz,h2];apply List.take_of_length_le;omega)
  obtain⟨H,hH⟩:∃H,S (eD s.data.toList)=H:=⟨_,rfl⟩;obtain⟨R,hR⟩:∃R,S (cJ s.data.toList)=R:=⟨_,rfl⟩;rw[hH] at he1;rw[hR] at he2;have Hm:=Lib.hid (And.intro hm (And.intro hH hR));have Hi:=Lib.hid hi;have hnb:n+1≤s.size:=by omega
  obtain⟨m,hm1⟩:∃m,n+1=m:=⟨_,rfl⟩;have wn:IntKind.i64.wrap ((n:Int)+1)=(m:Int):=by rw[Dy (by omega) (by omega)];omega
  have hnm:n≤s.size:=by omega
  rw[hm1] at he2 hnb;clear hm1;clear hm hH hR hi hl h1 h2 hn hsz;go_enter Tryz.func112,Tryz.ntmps112
  go_wp2_with (first|(go_at_call 132;refine(Tryz.stringslite_Index_one s 46 _).mono ?_;rintro e W ⟨rfl,rfl⟩;rw[Hi.out]))
  have hX:=Ext.todrew (Ext.refl W);refine aR (.take 0 (.take 1 (.take 2 (.take 3 (.take 4 (.take 5 (.take 6 (.take 7 (.take 8 (.take 9 (.take 10 (.take 11 .nil)))))))))))) (fun w'=>Ext W w') ?_ (fun hHd=> ?_)
  ·assumption
  repeat' first|((with_reducible refine aB ?_);(first|((with_reducible refine aB (i:=2) ?_);refine tk (v:=.string H) ?_ hHd ?_;(·(intro wq _;go_simp;done)))|((with_reducible refine aB (i:=7) ?_);refine tk (v:=.int .i64 (m:Int)) ?_ hHd ?_;(·(intro wq _;go_simp;done)))|((with_reducible refine aB (i:=8) ?_);refine tk (v:=.string R) ?_ hHd ?_;(·(intro wq _;go_simp;done)))|(refine tk (v:= ?_) ?_ hHd ?_;rotate_left;(·(intro wq hSw;(try dsimp only at hSw);go_simp;(try with_reducible rfl)))));(try simp only[pS]))|(with_reducible refine aG ?_)
  all_goals
   go_wp2
   go_ret3
   exact⟨hX,fun _=>by rw[Hm.out.2.1,Hm.out.2.2];rfl,fun h=>absurd Hm.out.1 h⟩
 ·rw[if_neg hm] at hi;have Hm:=Lib.hid hm;have Hi:=Lib.hid hi;clear hm hi;go_enter Tryz.func112,Tryz.ntmps112
  go_wp2_with (first|(go_at_call 132;refine(Tryz.stringslite_Index_one s 46 _).mono ?_;rintro e W ⟨rfl,rfl⟩;rw[Hi.out]))
  go_ret3
  exact⟨Ext.refl _,fun h=>absurd h Hm.out,fun _=>rfl⟩
theorem Ol(s:ByteArray)(hs:s.size≤1000000)(w:World):Calls Tryz.prog 85 #[.string s,.string (S [46])] w fun e w'=>Ext w w'∧
 ((46:UInt8)∈s.data.toList→e=.returned (.tuple #[.string (S (eD s.data.toList)),.string (S (cJ s.data.toList)),.bool true]))∧
 ((46:UInt8)∉s.data.toList→e=.returned (.tuple #[.string s,.string (S []),.bool false])):=by
 have h:=fun W=>Fd s hs W
 have Hc:=Lib.hid h;clear h;by_cases hm:(46:UInt8)∈s.data.toList
 ·have Hm:=Lib.hid hm;clear hm;go_enter Tryz.func85,Tryz.ntmps85
  go_wp2_with (first|(go_at_call 112;refine(Hc.out _).mono ?_;rintro e W ⟨hE,h1,_⟩;obtain rfl:=h1 Hm.out;clear h1))
  go_ret3
  exact⟨hE,fun _=>rfl,fun h=>absurd Hm.out h⟩
 ·have Hm:=Lib.hid hm;clear hm;go_enter Tryz.func85,Tryz.ntmps85
  go_wp2_with (first|(go_at_call 112;refine(Hc.out _).mono ?_;rintro e W ⟨hE,_,h1⟩;obtain rfl:=h1 Hm.out;clear h1))
  go_ret3
  exact⟨hE,fun h=>absurd h Hm.out,fun _=>rfl⟩
end Go.St
end
section
namespace Go.St
open Go Go.Bp Go.RowKit Go.Proofs
def Pe(w:World)(l:List Step)(e:Ending)(w':World):Prop:=∃v,e=.returned v∧aX w.heap.size w' v l∧Ext w w'
set_option maxHeartbeats 2000000 in
theorem Gz(lv:Value)(l:List Step)(w:World)(hl:bY w lv l)(hle:l.length≤1100):Calls Tryz.prog 95 #[lv] w (Pe w l):=by
 have hL:=hl;obtain⟨A,c,rfl,h1,h2,h3,h4⟩:=hl;unfold maxLen at h2;clear h3;have hE:=Ext.refl w;have hl1g:([]:List Step).length+l.length≤1000000000:=by simp;omega
 cases A with
 |none=>
  have h0:l=[]:=by
   cases l with
   |nil=>rfl
   |cons x l=>obtain⟨ad,h,_⟩:=h4 (by simp);cases h
  subst h0;clear h4;have hn:=Go.Lib.run_eql_slice_nil (P:=Tryz.prog) w 32 82 none 0 c 0 0 Tryz.underlying32;simp only[Option.isNone] at hn;go_enter Tryz.func95,Tryz.ntmps95
  go_wp2
  all_goals
   go_ret
   exact⟨_,rfl,aX.nil _ _,hE⟩
 |some ad=>
  have hn:=Go.Lib.run_eql_slice_nil (P:=Tryz.prog) w 32 82 (some ad) l.length c 0 0 Tryz.underlying32;simp only[Option.isNone] at hn;go_enter Tryz.func95,Tryz.ntmps95
  go_wp2_with (first|(((with_reducible refine Eh (d:=some 5) ?_);intro W59 g59 hE59 hB59 hg59;have hO59:=aX.of_blk0 hB59 (Nat.le_trans hE.size hg59);replace hE:=hE.trans hE59;replace hL:=hL.ext hE59))|(((with_reducible refine tZ (d:=some 7) (xs:=[]) (ys:=l) ?_ hO59 ?_ hL hl1g hE.size ?_);rfl;rfl;intro A61 c61 W61 hO61 hmono hgr;simp only[List.length_nil,Nat.zero_add,List.nil_append] at hO61⊢;replace hE:=hmono _ hE)))
  go_ret
  exact⟨_,rfl,hO61,hE⟩
end Go.St
end
