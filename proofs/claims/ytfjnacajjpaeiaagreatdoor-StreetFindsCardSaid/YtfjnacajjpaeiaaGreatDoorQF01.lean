/- Chapter 03: contracts of functions of the program and of the reference, and plain laws (out of StK SR12 LS1 KFinds). No condition of its own. -/
import Derived.Test.YtfjnacajjpaeiaaGreatDoorQD01
import Derived.Test.YtfjnacajjpaeiaaGreatDoorQE02
set_option maxRecDepth 100000
set_option linter.all false
section
namespace Go.St
open Go.Bp
namespace Town
variable{t:Town}{k:Task}
theorem cost_base(h:TaskOk t k):t.cost k k.b 0=some (0,0):=(eJ h).1
end Town
end Go.St
end
section
namespace Go.St
open Go Go.Bp Go.RowKit Go.Proofs
theorem nS:Pair2 130 (.int .i64) 3 3 where
 und:=by kernel_rfl
 eqg:=by kernel_rfl
 sto:=by kernel_rfl
 fld:=⟨"metres","steps",by kernel_rfl,by decide,by decide⟩
 u0:=Tryz.underlying3
 u1:=Tryz.underlying3
theorem Town.check_of_task{t:Town}{k:Task}(h:t.taskErr k=0):t.check.2.2=0:=by
 unfold Town.taskErr at h;by_cases c:t.check.2.2=0
 ·exact c
 ·rw[if_pos c] at h;exact absurd h c
theorem Town.drive_best{t:Town}{k:Task}{c:Int×Int}(h:t.taskErr k=0)(h2:t.cost k k.a k.show_=some c):t.driveAns k.a k.time (t.bestSteps k)=(t.tourOf k.time (t.bestSteps k),k.b,0):=by
 have hk:=Town.taskOk_of h;have hs:=Town.best_steps hk h2;rw[Town.driveAns_0 (Town.check_of_task h) hk.a hk.time (by rw[hs]),hs]
theorem Bn(tv lv:Value)(t:Town)(k:Task)(w:World){c:Int×Int}(h:aM w tv t)(hte:t.taskErr k=0)(hc:t.cost k k.a k.show_=some c)(hl:bY w lv (t.bestSteps k)):
 Calls Tryz.prog 21 #[tv,.int .i64 k.a,.int .i64 k.time,lv] w fun e w'=>∃A c',e=.returned (.tuple #[.agg #[.slice A (t.bestSteps k).length c',.int .i64 (t.tourOf k.time (t.bestSteps k)).metres,.int .i64 (t.tourOf k.time (t.bestSteps k)).lo,.int .i64 (t.tourOf k.time (t.bestSteps k)).hi,.int .i64 (t.tourOf k.time (t.bestSteps k)).shown],.int .i64 k.b,.int .i64 0])∧aX w.heap.size w' (.slice A (t.bestSteps k).length c') (t.bestSteps k)∧Ext w w':=by
 refine(mK tv lv t k.a k.time (t.bestSteps k) w h hl).mono ?_;rw[Town.drive_best hte hc];rintro e w' ⟨v,rfl,⟨sv,rfl,hs⟩,hE⟩;have hs2:=hs;obtain⟨A,c',rfl,_⟩:=aX.steps hs;exact⟨A,c',rfl,hs2,hE⟩
theorem wZ{t:Town}{k:Task}(h:Town.TaskOk t k)(p s:Int):(cv (t.cost k p s)).1≤100000000∧0≤(cv (t.cost k p s)).2∧(cv (t.cost k p s)).2≤100000000:=by
 cases e:t.cost k p s with
 |none=>simp[cv]
 |some c=>have:=Town.cost_bd h e;rw[iQ];omega
set_option maxHeartbeats 8000000 in
theorem Ik(tv kv:Value)(t:Town)(k:Task)(w:World)(h:aM w tv t)(hk:bA w kv k):
 Calls Tryz.prog 24 #[tv,kv] w (Pf w (t.findAns k).1 (t.findAns k).2):=by
 obtain⟨pv,shv,tmv,xv,rfl,hT⟩:=h;obtain⟨A4,cp4,rfl,_,h42,_⟩:=hT.streets;unfold maxLen at h42;obtain⟨clv,rfl,hC⟩:=hk;have hE:=Ext.refl w;by_cases hte:t.taskErr k=0
 ·have Hte:=Lib.hid hte;have hok:=Town.taskOk_of hte;have Hok:=Lib.hid hok;have ha:=aV.1 hok.a;have hsb:=aV.1 hok.sh;have hp2:=hok.ok.p2;obtain⟨an,han⟩:∃n:Nat,k.a=n:=⟨k.a.toNat,by omega⟩
  obtain⟨sn,hsn⟩:∃n:Nat,k.show_=n:=⟨k.show_.toNat,by omega⟩
  have hsM:sn<2^t.shows.length:=by
   have e:t.sets=((2^t.shows.length:Nat):Int):=by unfold Town.sets;push_cast;rfl
   omega
  have Han:=Lib.hid han;have Hsn:=Lib.hid hsn;have han2:an<t.places.length:=by omega
  cases hcost:t.cost k k.a k.show_ with
  |none=>
   rw[Town.findAns_9 hte hcost];have hcv:cv (t.cost k (an:Int) (sn:Int))=(-1,0):=by rw[←han,←hsn,hcost];rfl
   have Hcv:=Lib.hid hcv;clear hte hok hcost hcv hsb han hsn;go_enter Tryz.func24,Tryz.ntmps24
   go_wp2_with (first|((with_reducible refine aS (d:=some 4) fW ?_);intro W4 g4 hE4 hB4 hg4;have hg40:=Nat.le_trans hE.size hg4;simp[Value.cells] at hB4;(try replace hE:=hE.trans hE4);(try replace hT:=hT.ext hE4);(try replace hC:=hC.ext hE4);(try replace hB2:=hB2.ext hE4);(try replace hB3:=hB3.ext hE4);(try replace hb2_0:=Ext.c hE4 hb2_0);(try replace hb2_1:=Ext.c hE4 hb2_1);(try replace hb2_2:=Ext.c hE4 hb2_2);(try replace hb2_3:=Ext.c hE4 hb2_3);(try replace hb3_0:=Ext.c hE4 hb3_0);(try replace hb3_1:=Ext.c hE4 hb3_1);(try replace hb3_2:=Ext.c hE4 hb3_2);(try replace hb3_3:=Ext.c hE4 hb3_3);(try replace hb3_4:=Ext.c hE4 hb3_4))|(go_at_call 38;((with_reducible refine(fN _ _ t k _ (by exact aM.of hT) (by exact bA.of hC)).mono ?_);rintro e WcT ⟨rfl,hEcT⟩;(try replace hE:=hE.trans hEcT);(try replace hT:=hT.ext hEcT);(try replace hC:=hC.ext hEcT);(try replace hB2:=hB2.ext hEcT);(try replace hB3:=hB3.ext hEcT);(try replace hB4:=hB4.ext hEcT);(try replace hb2_0:=Ext.c hEcT hb2_0);(try replace hb2_1:=Ext.c hEcT hb2_1);(try replace hb2_2:=Ext.c hEcT hb2_2);(try replace hb2_3:=Ext.c hEcT hb2_3);(try replace hb3_0:=Ext.c hEcT hb3_0);(try replace hb3_1:=Ext.c hEcT hb3_1);(try replace hb3_2:=Ext.c hEcT hb3_2);(try replace hb3_3:=Ext.c hEcT hb3_3);(try replace hb3_4:=Ext.c hEcT hb3_4);rw[show t.taskErr k=0 from Hte.out]))|((go_at_call 67;refine(oX _ _ t k _ (aM.of hT) (bA.of hC) Hok.out).mono ?_;rintro e Wk ⟨G,gs,rfl,hgl,hK,hEk⟩;have Hgl:=Lib.hid hgl;clear hgl;replace hE:=hE.trans hEk;replace hB4:=hB4.ext hEk;replace hB3:=hB3.ext hEk;replace hT:=hT.ext hEk;replace hC:=hC.ext hEk))|((with_reducible refine aF (d:=some 2) ?_);intro W2 g2 hE2 hB2 hg2;simp[Act.eval,Act.put,Value.cells] at hB2;(try replace hE:=hE.trans hE2);(try replace hT:=hT.ext hE2);(try replace hC:=hC.ext hE2);have hb2_0:=hB2.cell 0;have hb2_1:=hB2.cell 1;have hb2_2:=hB2.cell 2;have hb2_3:=hB2.cell 3;simp at hb2_0 hb2_1 hb2_2 hb2_3;clear hE2)|((with_reducible refine aF (d:=some 3) ?_);intro W3 g3 hE3 hB3 hg3;simp[Act.eval,Act.put,Value.cells] at hB3;(try replace hE:=hE.trans hE3);(try replace hT:=hT.ext hE3);(try replace hC:=hC.ext hE3);(try replace hB2:=hB2.ext hE3);(try replace hb2_0:=Ext.c hE3 hb2_0);(try replace hb2_1:=Ext.c hE3 hb2_1);(try replace hb2_2:=Ext.c hE3 hb2_2);(try replace hb2_3:=Ext.c hE3 hb2_3);have hb3_0:=hB3.cell 0;have hb3_1:=hB3.cell 1;have hb3_2:=hB3.cell 2;have hb3_3:=hB3.cell 3;have hb3_4:=hB3.cell 4;simp at hb3_0 hb3_1 hb3_2 hb3_3 hb3_4;clear hE3))
   have f0:=hB3.cell 0;have f2:=hB3.cell 2;simp at f0 f2;rw[show k.a=an from Han.out] at f0;rw[show k.show_=sn from Hsn.out] at f2
   have hal:an<gs.length:=by have:=Hgl.out;omega
   have cG:=hK.cell hal;have c1:=hK.c1 hal hsM;rw[show cv (t.cost k (an:Int) (sn:Int))=(-1,0) from Hcv.out] at c1
   simp only at c1;obtain⟨M,hM⟩:∃M:Nat,2^t.shows.length=M:=⟨_,rfl⟩;rw[hM] at cG hsM hK;have hz1:(an:Int)<(t.places.length:Int):=by omega
   have hz2:(sn:Int)<(M:Int):=by omega
   clear hM;go_wp2
   refine wp_region_quiet_lit (by kernel_rfl) (by kernel_rfl) ?_
   repeat(any_goals(first|go_big_quiet_step (fail)|quiet_step (fail)))
   refine wpQuiet_nil ?_;intro _ hw';obtain⟨nq,hw''⟩:=hw';subst hw'';replace hE:=hE.drewN nq;replace hB4:=hB4.ext ((Ext.refl _).drewN nq);go_wp2_with (first|((with_reducible refine aK (t:=36) (e:=36) (g:=g4) (off:=0) (n:=5) (v:=.agg #[.slice none 0 0,.int .i64 0,.int .i64 0,.int .i64 0,.int .i64 0]) ?_ ?_ hB4 cW ?_ ?_ ?_ ?_);rfl;rfl;rfl;(simp[Value.cells]);(exact mB rfl);intro Ws hBs hgrs;simp[aI,Value.cells] at hBs;replace hE:=aD hE hgrs hg40))
   refine jQ rfl rfl rfl (bT hBs) ?_;exact⟨_,rfl,⟨_,rfl,aX.nil _ _⟩,hE⟩
  |some c=>
   rw[Town.findAns_0 hte hcost];have Hdr:=Lib.hid (Town.drive_best hte hcost);have hbd:=Town.cost_bd hok hcost;obtain⟨cm,cn0⟩:=c;obtain⟨cn,rfl⟩:∃n:Nat,cn0=n:=⟨cn0.toNat,by simp only at hbd;omega⟩
   simp only at hbd;have hcv:cv (t.cost k (an:Int) (sn:Int))=(cm,(cn:Int)):=by rw[←han,←hsn,hcost];rfl
   have Hcv:=Lib.hid hcv;have Hbs:=Lib.hid (Town.bestSteps_eq hcost);have Hco:=Lib.hid (show t.cost k (an:Int) (sn:Int)=some (cm,(cn:Int)) by rw[←han,←hsn];exact hcost)
   have hcm:¬cm<0:=by omega
   have hcn:cn<1024:=by omega
   have hst:=hok.ok.st;have hsh:=hok.ok.sh;have hb:=aV.1 hok.b;obtain⟨bn,hbn⟩:∃n:Nat,k.b=n:=⟨k.b.toNat,by omega⟩
   have Hbn:=Lib.hid hbn;have hset:=(Town.sets_bd hsh).2;have h64:2^t.shows.length≤64:=by
    have e:t.sets=((2^t.shows.length:Nat):Int):=by unfold Town.sets;push_cast;rfl
    omega
   clear hte hok hcost hcv hsb han hsn hbd hbn hb hset ha;go_enter Tryz.func24,Tryz.ntmps24
   go_wp2_with (first|((with_reducible refine aS (d:=some 4) fW ?_);intro W4 g4 hE4 hB4 hg4;have hg40:=Nat.le_trans hE.size hg4;simp[Value.cells] at hB4;(try replace hE:=hE.trans hE4);(try replace hT:=hT.ext hE4);(try replace hC:=hC.ext hE4);(try replace hB2:=hB2.ext hE4);(try replace hB3:=hB3.ext hE4);(try replace hb2_0:=Ext.c hE4 hb2_0);(try replace hb2_1:=Ext.c hE4 hb2_1);(try replace hb2_2:=Ext.c hE4 hb2_2);(try replace hb2_3:=Ext.c hE4 hb2_3);(try replace hb3_0:=Ext.c hE4 hb3_0);(try replace hb3_1:=Ext.c hE4 hb3_1);(try replace hb3_2:=Ext.c hE4 hb3_2);(try replace hb3_3:=Ext.c hE4 hb3_3);(try replace hb3_4:=Ext.c hE4 hb3_4))|(go_at_call 38;((with_reducible refine(fN _ _ t k _ (by exact aM.of hT) (by exact bA.of hC)).mono ?_);rintro e WcT ⟨rfl,hEcT⟩;(try replace hE:=hE.trans hEcT);(try replace hT:=hT.ext hEcT);(try replace hC:=hC.ext hEcT);(try replace hB2:=hB2.ext hEcT);(try replace hB3:=hB3.ext hEcT);(try replace hB4:=hB4.ext hEcT);(try replace hb2_0:=Ext.c hEcT hb2_0);(try replace hb2_1:=Ext.c hEcT hb2_1);(try replace hb2_2:=Ext.c hEcT hb2_2);(try replace hb2_3:=Ext.c hEcT hb2_3);(try replace hb3_0:=Ext.c hEcT hb3_0);(try replace hb3_1:=Ext.c hEcT hb3_1);(try replace hb3_2:=Ext.c hEcT hb3_2);(try replace hb3_3:=Ext.c hEcT hb3_3);(try replace hb3_4:=Ext.c hEcT hb3_4);rw[show t.taskErr k=0 from Hte.out]))|((go_at_call 67;refine(oX _ _ t k _ (aM.of hT) (bA.of hC) Hok.out).mono ?_;rintro e Wk ⟨G,gs,rfl,hgl,hK,hEk⟩;have Hgl:=Lib.hid hgl;clear hgl;replace hE:=hE.trans hEk;replace hB4:=hB4.ext hEk;replace hB3:=hB3.ext hEk;replace hB2:=hB2.ext hEk;replace hT:=hT.ext hEk;replace hC:=hC.ext hEk))|((with_reducible refine aF (d:=some 2) ?_);intro W2 g2 hE2 hB2 hg2;simp[Act.eval,Act.put,Value.cells] at hB2;(try replace hE:=hE.trans hE2);(try replace hT:=hT.ext hE2);(try replace hC:=hC.ext hE2);have hb2_0:=hB2.cell 0;have hb2_1:=hB2.cell 1;have hb2_2:=hB2.cell 2;have hb2_3:=hB2.cell 3;simp at hb2_0 hb2_1 hb2_2 hb2_3;clear hE2)|((with_reducible refine aF (d:=some 3) ?_);intro W3 g3 hE3 hB3 hg3;simp[Act.eval,Act.put,Value.cells] at hB3;(try replace hE:=hE.trans hE3);(try replace hT:=hT.ext hE3);(try replace hC:=hC.ext hE3);(try replace hB2:=hB2.ext hE3);(try replace hb2_0:=Ext.c hE3 hb2_0);(try replace hb2_1:=Ext.c hE3 hb2_1);(try replace hb2_2:=Ext.c hE3 hb2_2);(try replace hb2_3:=Ext.c hE3 hb2_3);have hb3_0:=hB3.cell 0;have hb3_1:=hB3.cell 1;have hb3_2:=hB3.cell 2;have hb3_3:=hB3.cell 3;have hb3_4:=hB3.cell 4;simp at hb3_0 hb3_1 hb3_2 hb3_3 hb3_4;clear hE3))
   have f0:=hB3.cell 0;have f2:=hB3.cell 2;simp at f0 f2;rw[show k.a=an from Han.out] at f0;rw[show k.show_=sn from Hsn.out] at f2
   have hal:an<gs.length:=by have:=Hgl.out;omega
   have cG:=hK.cell hal;have c1:=hK.c1 hal hsM;rw[show cv (t.cost k (an:Int) (sn:Int))=(cm,(cn:Int)) from Hcv.out] at c1
   simp only at c1;obtain⟨M,hM⟩:∃M:Nat,2^t.shows.length=M:=⟨_,rfl⟩;have HM:=Lib.hid hM;rw[hM] at cG hsM hK h64;have hz1:(an:Int)<(t.places.length:Int):=by omega
   have hz2:(sn:Int)<(M:Int):=by omega
   clear hM hb2_0 hb2_1 hb2_2 hb2_3 hb3_0 hb3_1 hb3_2 hb3_3 hb3_4;go_wp2
   refine wp_region_quiet_lit (by kernel_rfl) (by kernel_rfl) ?_
   repeat(any_goals(first|go_big_quiet_step (fail)|quiet_step (fail)))
   refine wpQuiet_nil ?_;intro _ hw';obtain⟨nq,hw''⟩:=hw';subst hw'';have hXn:=(Ext.refl Wk).drewN nq;generalize World.drewN Wk nq=Wn at hXn⊢;replace hE:=hE.trans hXn;replace hB4:=hB4.ext hXn;replace hB3:=hB3.ext hXn;replace hB2:=hB2.ext hXn;replace hT:=hT.ext hXn;replace hC:=hC.ext hXn;replace hK:=hK.ext hXn;clear f0 f2 cG c1;go_wp2_with (first|((with_reducible refine aC (d:=some 39) (hl:=aL hB2) ?_ ?_);rfl)|((with_reducible refine aC (d:=some 40) (hl:=bU hB3) ?_ ?_);rfl)|(go_at_call 68;refine(rE _ _ t k _ (aM.of hT) hst (bA.of hC)).mono ?_;rintro e W8 ⟨A8,c8,rfl,hO8,hE8⟩))
   replace hE:=hE.trans hE8;replace hB4:=hB4.ext hE8;replace hB3:=hB3.ext hE8;replace hB2:=hB2.ext hE8;replace hT:=hT.ext hE8;replace hC:=hC.ext hE8;replace hK:=hK.ext hE8;have hL8:=aX.steps hO8;have f0:=hB3.cell 0;have f2:=hB3.cell 2;simp at f0 f2;rw[show k.a=an from Han.out] at f0;rw[show k.show_=sn from Hsn.out] at f2
   refine wp_region_quiet_lit (by kernel_rfl) (by kernel_rfl) ?_
   repeat(any_goals(first|go_big_quiet_step (fail)|quiet_step (fail)))
   refine wpQuiet_nil ?_;intro _ hw';obtain⟨nq,hw''⟩:=hw';subst hw'';have hXm:=(Ext.refl W8).drewN nq;generalize World.drewN W8 nq=Wb at hXm⊢;replace hE:=hE.trans hXm;replace hB4:=hB4.ext hXm;replace hB3:=hB3.ext hXm;replace hB2:=hB2.ext hXm;replace hT:=hT.ext hXm;replace hC:=hC.ext hXm;replace hK:=hK.ext hXm;replace hL8:=hL8.ext hXm;clear f0 f2 hO8 hE8 hXn hXm;go_wp2
   obtain⟨l,hl⟩:∃l,t.stepsAll k=l:=⟨_,rfl⟩;have Hl:=Lib.hid hl;rw[hl] at hL8⊢;have hlen:l.length≤80:=by rw[←hl];have:=Town.stepsTo_len (t:=t) (k:=k) t.streets.length;unfold Town.stepsAll;omega
   have f1:=hB3.cell 1;simp at f1;rw[show k.b=bn from Hbn.out] at f1
   have hstart:t.bestSteps k=[]++(cF aE (t.arcs k) (t.cost k) cn (an:Int) (sn:Int) cm).map Town.stepOf:=by
    have:=Hbs.out;rw[show k.a=an from Han.out,show k.show_=sn from Hsn.out] at this;simpa using this
   have Hstart:=Lib.hid hstart;have HSt:=Lib.hid (show TownP Wb pv shv tmv (.slice A4 t.streets.length cp4) t∧bG Wb clv k.closed∧KT Wb G gs M (fun p s=>cv (t.cost k (p:Int) (s:Int)))∧bY Wb (.slice A8 l.length c8) l from⟨hT,hC,hK,hL8⟩)
   clear hl hstart hT hC hK hL8 hz1 hz2;go_loopg [9,10,11,12,13,14] cn (fun g lv p s _ _ _ W=>Ext Wb W∧∃(L:List Step)(pn un:Nat)(m:Int),aX Wb.heap.size W lv L∧p=.int .i64 pn∧s=.int .i64 un∧t.cost k (pn:Int) (un:Int)=some (m,(g:Int))∧t.bestSteps k=L++(cF aE (t.arcs k) (t.cost k) g (pn:Int) (un:Int) m).map Town.stepOf∧L.length+g=cn)
   case atStart=>exact⟨Ext.refl _,[],an,sn,cm,aX.nil _ _,rfl,rfl,Hco.out,Hstart.out,by simp⟩
   case round=>
    obtain⟨hEr,L,pn,un,m,hO,rfl,rfl,hc,hbs,hll⟩:=hrel;have d1:=Ext.c hEr f1;have hbd:=Town.cost_bd Hok.out hc
    cases gk with
    |zero=>
     obtain⟨h1,h2,_⟩:=Town.cost_end Hok.out hc;rw[show k.b=bn from Hbn.out] at h1
     obtain rfl:pn=bn:=by omega
     obtain rfl:un=0:=by omega
     have hL:L=t.bestSteps k:=by rw[hbs];simp[cF]
     subst hL;have hst2:=(HSt.out.1).ext hEr;have hB2r:=hB2.ext hEr;have hB3r:=hB3.ext hEr;have g0:=hB3r.cell 0;have g3':=hB3r.cell 3;simp at g0 g3';have hLs:=aX.steps hO;have hB4r:=hB4.ext hEr;have hEq:=hE.trans hEr;have q0:((pn:Int) !=(pn:Int))=false:=by simp
     have HLs:=Lib.hid hLs;obtain⟨X,hX⟩:∃X,X=t.tourOf k.time (t.bestSteps k):=⟨_,rfl⟩;clear hc hbs hll hbd h1 h2 hLs hO;go_wp2_with (first|((with_reducible refine aC (d:=some 116) (hl:=aL hB2r) ?_ ?_);rfl)|(go_at_call 21;refine(Bn _ _ t k _ (aM.of hst2) Hte.out (c:=(cm,(cn:Int))) (by rw[show k.a=an from Han.out,show k.show_=sn from Hsn.out];exact Hco.out) HLs.out).mono ?_;rintro e Wd ⟨Ad,cd,rfl,hSd,hEd⟩;have hB4d:=hB4r.ext hEd;have hEd2:=hEq.trans hEd)|((with_reducible refine aO (e:=36) (u:=15) (v:=.agg #[.slice Ad (t.bestSteps k).length cd,.int .i64 (t.tourOf k.time (t.bestSteps k)).metres,.int .i64 (t.tourOf k.time (t.bestSteps k)).lo,.int .i64 (t.tourOf k.time (t.bestSteps k)).hi,.int .i64 (t.tourOf k.time (t.bestSteps k)).shown]) fW ?_ ?_ ?_ ?_ ?_ ?_);(intro g;rfl);(intro g;rfl);rfl;rfl;(exact mB rfl);intro W15 g15 hE15 hB15 hg15;simp[Value.cells] at hB15;have hB4e:=hB4d.ext hE15;have hEe:=hEd2.trans hE15)|((with_reducible refine aC (d:=some 126) (hl:=bT hB15) ?_ ?_);rfl)|((with_reducible refine aK (t:=36) (e:=36) (g:=g4) (off:=0) (n:=5) (v:=.agg #[.slice Ad (t.bestSteps k).length cd,.int .i64 (t.tourOf k.time (t.bestSteps k)).metres,.int .i64 (t.tourOf k.time (t.bestSteps k)).lo,.int .i64 (t.tourOf k.time (t.bestSteps k)).hi,.int .i64 (t.tourOf k.time (t.bestSteps k)).shown]) ?_ ?_ hB4e cW ?_ ?_ ?_ ?_);rfl;rfl;rfl;(simp[Value.cells]);(exact mB rfl);intro Ws hBs hgrs;simp[aI,Value.cells] at hBs))
     have hS5:=aX.ext hSd hE15;have hS6:=aX.base (fM hS5 hgrs (kY hS5 hB4e (.inl (by decide)))) hEq.size
     refine jQ rfl rfl rfl (bT hBs) ?_;exact⟨_,rfl,⟨_,rfl,hS6⟩,aD hEe hgrs hg40⟩
    |succ g=>
     have X:=Town.step_on Hok.out hc;rw[show t.stepsAll k=l from Hl.out] at X
     obtain⟨j0,hj0,hon,hbf,hend,hcost2,hpath⟩:=X;have hne:(pn:Int)≠(bn:Int)∨(un:Int)≠0:=Classical.byContradiction fun hno=>by
      simp only[not_or,Classical.not_not] at hno;have h0:=Town.cost_base Hok.out;rw[hno.1,hno.2,show(bn:Int)=k.b from Hbn.out.symm,h0] at hc
      injection hc with hc;injection hc with _ hc;omega
     have hpl:(pn:Int)<(t.places.length:Int):=by have:=aV.1 (Town.way_bd Hok.out (Town.cost_sound _ _ _ hc)).1;omega
     have hpl2:pn<gs.length:=by have:=Hgl.out;omega
     have hpl3:(pn:Int)<(gs.length:Int):=by omega
     have hupart:=(Town.cost_inD hc).2.1;have huM:un<M:=by
      have e:((2:Int)^t.shows.length)=((2^t.shows.length:Nat):Int):=by push_cast;rfl
      rw[e,HM.out] at hupart;omega
     have huMz:(un:Int)<(M:Int):=by omega
     have Hfx:=Lib.hid (show cv (t.cost k (pn:Int) (un:Int))=(m,((g+1:Nat):Int)) by rw[hc];rfl)
     have Hbf:=Lib.hid hbf;have Hon:=Lib.hid hon;have Hend:=Lib.hid hend;have Hc2:=Lib.hid hcost2;have Hpa:=Lib.hid hpath;have Hbs2:=Lib.hid hbs;have Hbd:=Lib.hid hbd;have hll2:L.length≤1024:=by omega
     clear hc hbs hbf hon hend hcost2 hpath hbd hupart;obtain⟨lv,hlv⟩:∃v,v=u9:=⟨_,rfl⟩;subst hlv;have step:(Code.block 1 .skip)=(Code.block 1 .skip):=rfl;clear step;by_cases hpb:(pn:Int)=(bn:Int)
     ·have hq1:((pn:Int) !=(bn:Int))=false:=by simp[hpb]
      have hq2:((un:Int) !=0)=true:=by
       rcases hne with h|h
       ·exact absurd hpb h
       ·exact bne_iff_ne.2 h
      clear hne hpb;go_wp2
      go_loopw [9,10,11,12,13,14] (fun v p s i _ _ W=>Ext Wb W∧aX Wb.heap.size W lv L∧v=lv∧p=.int .i64 (pn:Int)∧s=.int .i64 (un:Int)∧∃j:Nat,j≤j0∧i=.int .i64 (j:Int)) (fun _ _ _ i _ _ _=>j0-(intOf i).toNat)
      case atStart=>exact⟨hEr,hO,rfl,rfl,rfl,0,by omega,rfl⟩
      case round=>
       clear hEr hO d1;obtain⟨hX0,hOr,rfl,rfl,rfl,j,hj,rfl⟩:=hrel;have hjl:j<l.length:=by omega
       obtain⟨x,hx⟩:∃x,l[j]=x:=⟨_,rfl⟩;have hxm:x∈t.stepsAll k:=by rw[show t.stepsAll k=l from Hl.out,←hx];exact List.getElem_mem hjl
       have hin:=(Town.mem_stepsAll.1 hxm).1;have hby:=vB (T:=t.cost k) Hok.out (fun p s c hc=>by have:=Town.cost_bd Hok.out hc;omega) hin (n:=un)
       have Hob:=Lib.hid (show Town.onB t k (pn:Int) (un:Int) m ((g+1:Nat):Int) x=(decide ((t.ends x).1=(pn:Int))&&decide (cv (Town.via (t.cost k) (t.arcOf k x) (un:Int))=(m,((g+1:Nat):Int)))) from rfl)
       have Hb1:=Lib.hid (fun h:j<j0=>(by have:=Hbf.out j hjl h;rw[hx] at this;exact this:Town.onB t k (pn:Int) (un:Int) m ((g+1:Nat):Int) x=false))
       have Hb2:=Lib.hid (fun h:j=j0=>(by subst h;have:=Hon.out;rw[hx] at this;exact this:Town.onB t k (pn:Int) (un:Int) m ((g+1:Nat):Int) x=true))
       have Hb3:=Lib.hid (fun h:j=j0=>(by subst h;have h1:=Hc2.out;have h2:=Hpa.out;rw[hx] at h1 h2;exact⟨h1,h2⟩:t.cost k (t.ends x).2 (aE (un:Int) (t.shownAt k.time x))=some (m-(t.at_ x.st).metres,(g:Int))∧(cF aE (t.arcs k) (t.cost k) (g+1) (pn:Int) (un:Int) m).map Town.stepOf=x::(cF aE (t.arcs k) (t.cost k) g (t.ends x).2 (aE (un:Int) (t.shownAt k.time x)) (m-(t.at_ x.st).metres)).map Town.stepOf))
       have hL8:=HSt.out.2.2.2;obtain⟨Al,cl,e8,hl1,hl2,_,hl4⟩:=hL8;injection e8 with e81 e82 e83
       subst e81;subst e83;obtain⟨adl,rfl,hlc⟩:=hl4 (by omega)
       unfold maxLen at hl2;obtain⟨st,bk⟩:=x;obtain⟨i0,rfl,hi0⟩:=fB hin;have hi0l:i0<t.streets.length:=by omega
       have hcells:=oU hlc hjl;rw[hx] at hcells;have HstL:=Lib.hid (fun W(h:Ext Wb W)=>(by have:=iM (hlc.ext h) hjl;rw[hx] at this;exact this:(loadVar 82 (adl.add (j*2))).run Tryz.prog W=.ok (.agg #[.int .i64 (i0:Int),.bool bk]) W))
       have cby:=fun w(h1:aM w _ t)(h2:bA w _ k)(h3:KT w G gs M (fun p s=>cv (t.cost k (p:Int) (s:Int))))=>xX (.agg #[pv,shv,tmv,.slice A4 t.streets.length cp4]) (.agg #[.int .i64 k.a,.int .i64 k.b,.int .i64 k.show_,.int .i64 k.time,clv]) t k i0 bk (un:Int) G gs (fun p s=>cv (t.cost k (p:Int) (s:Int))) w h1 Hok.out.ok h2 Hok.out.time hi0l ⟨by omega,by have:=HM.out;have e:t.sets=((2^t.shows.length:Nat):Int):=(by unfold Town.sets;push_cast;rfl);rw[e,this];omega⟩ (by rw[HM.out];exact h3) Hgl.out (fun p s=>wZ Hok.out _ _)
       obtain⟨v1,v2,hv⟩:∃v1 v2,cv (Town.via (t.cost k) (t.arcOf k ⟨(i0:Int),bk⟩) (un:Int))=(v1,v2):=⟨_,_,rfl⟩;rw[hby,hv] at cby;rw[hv] at Hob;have HcL:=Lib.hid hcells;have Hin:=Lib.hid hin;have hjz:(j:Int)<(l.length:Int):=by omega
       clear hby hx hxm hlc hl4 hin hcells hv;by_cases hjj:j<j0
       ·have hob:=Hb1.out hjj;rw[Hob.out] at hob;by_cases he:(t.ends ⟨(i0:Int),bk⟩).1=(pn:Int)
        ·have hqe:((t.ends ⟨(i0:Int),bk⟩).1==(pn:Int))=true:=by simp[he]
         have hdec:decide (v1=m∧v2=((g+1:Nat):Int))=false:=by simp[he] at hob;simp;exact hob
         clear hob he;go_wp2
         have hX1:=Ext.todrew hX0;refine aR (.take 0 (.take 1 (.take 2 (.take 3 (.take 4 (.one 5 (.take 6 (.take 7 (.take 8 (.take 9 (.take 10 .nil))))))))))) (fun w'=>Ext Wb w') ?_ (fun hHd=> ?_)
         ·assumption
         repeat' first|((with_reducible refine aB ?_);(first|((with_reducible refine aB (i:=0) ?_);refine tk (v:=.agg #[pv,shv,tmv,.slice A4 t.streets.length cp4]) ?_ hHd ?_;(·exact aA (by rfl) (fun W h=>aL (hB2.ext h))))|((with_reducible refine aB (i:=4) ?_);refine tk (v:=.agg #[.int .i64 (i0:Int),.bool bk]) ?_ hHd ?_;(·exact aA (by rfl) (fun W h=>HstL.out W h)))|(refine tk (v:= ?_) ?_ hHd ?_;rotate_left;(·(intro wq hSw;(try dsimp only at hSw);go_simp;(try with_reducible rfl)))));(try simp only[pS]))|((with_reducible refine bC ?_);refine aQ (by simp only[gS];rfl) ?_)|((with_reducible refine aH (d:=some 66) ?_);((refine bD (by rfl) (dW _ t i0 bk _ (aM.of (HSt.out.1.ext hX1)) hi0l) (by go_simp) ?_;rintro e W66 ⟨rfl,hE66⟩;refine⟨_,rfl,?_⟩;have hX2:=hX1.trans hE66;have hOe:=aX.ext (aX.ext hOr (Ext.todrew (Ext.refl _))) hE66)))|((with_reducible refine bB ?_);clear hHd;refine aJ ?_ (fun hHd=> ?_);(·assumption);(try simp only[pS]))|(with_reducible refine aG ?_)
         go_wp2
         have hX3:=Ext.todrew hX2;have hOf:=aX.ext hOe (Ext.todrew (Ext.refl _));refine aR (.take 0 (.take 1 (.take 2 (.take 3 (.take 4 (.take 5 (.take 6 (.take 7 (.take 8 (.take 9 (.take 10 (.take 11 (.take 13 (.take 14 (.take 15 (.take 16 (.take 17 (.take 18 (.take 19 (.one 12 (.take 20 (.take 21 .nil)))))))))))))))))))))) (fun w'=>Ext Wb w') ?_ (fun hHd=> ?_)
         ·assumption
         repeat' first|((with_reducible refine aB ?_);(first|((with_reducible refine aB (i:=4) ?_);refine tw (v:=.agg #[pv,shv,tmv,.slice A4 t.streets.length cp4]) ?_ hHd ?_;(·exact aA (by rfl) (fun W h=>aL (hB2.ext h))))|((with_reducible refine aB (i:=5) ?_);refine tw (v:=.agg #[.int .i64 k.a,.int .i64 k.b,.int .i64 k.show_,.int .i64 k.time,clv]) ?_ hHd ?_;(·exact aA (by rfl) (fun W h=>bU (hB3.ext h))))|((with_reducible refine aB (i:=10) ?_);refine tw (v:=.agg #[.int .i64 (i0:Int),.bool bk]) ?_ hHd ?_;(·exact aA (by rfl) (fun W h=>HstL.out W h)))|((with_reducible refine aB (i:=16) ?_);refine tw (v:=.slice (some ⟨gs[pn],0,none⟩) M M) ?_ hHd ?_;(·exact aA (by rfl) (fun W h=>aY Tryz.underlying131 rfl (KT.cell (HSt.out.2.2.1.ext h) hpl2))))|((with_reducible refine aB (i:=19) ?_);refine tw (v:=.agg #[.int .i64 m,.int .i64 ((g+1:Nat):Int)]) ?_ hHd ?_;(·exact aA (by rfl) (fun W h=>KT.ldc (HSt.out.2.2.1.ext h) hpl2 huM Hfx.out)))|((with_reducible refine aB (i:=20) ?_);refine tw (v:=.bool false) ?_ hHd ?_;(·exact lH nS hdec (by rfl) (by rfl)))|(refine tk (v:= ?_) ?_ hHd ?_;rotate_left;(·(intro wq hSw;(try dsimp only at hSw);go_simp;(try with_reducible rfl))))|(refine tw (v:= ?_) ?_ hHd ?_;rotate_left;(·(intro wq hSw;(try dsimp only at hSw);go_simp;(try with_reducible rfl)))));(try simp only[pS]))|((with_reducible refine bC ?_);refine aQ (by simp only[gS];rfl) ?_)|((with_reducible refine aH (d:=some 81) ?_);((refine bN (by rfl) (cby _ (aM.of (HSt.out.1.ext hX3)) (bA.of (HSt.out.2.1.ext hX3)) (HSt.out.2.2.1.ext hX3)) (by have hgl:=Hgl.out;rw[←hgl];go_simp) ?_;rintro e W81 ⟨rfl,hE81⟩;refine⟨_,rfl,?_⟩;have hX4:=hX3.trans hE81;have hOg:=aX.ext hOf hE81)))|((with_reducible refine bB ?_);clear hHd;refine aJ ?_ (fun hHd=> ?_);(·assumption);(try simp only[pS]))|(with_reducible refine aG ?_)
         go_wp2
         go_roundw
         case rel=>exact⟨hX4,hOg,rfl,rfl,rfl,j+1,by omega,by go_num⟩
         case measure=>simp[intOf];omega
        ·have hqe:((t.ends ⟨(i0:Int),bk⟩).1==(pn:Int))=false:=by simp[he]
         clear hob he;go_wp2
         have hX1:=Ext.todrew hX0;refine aR (.take 0 (.take 1 (.take 2 (.take 3 (.take 4 (.one 5 (.take 6 (.take 7 (.take 8 (.take 9 (.take 10 .nil))))))))))) (fun w'=>Ext Wb w') ?_ (fun hHd=> ?_)
         ·assumption
         repeat' first|((with_reducible refine aB ?_);(first|((with_reducible refine aB (i:=0) ?_);refine tk (v:=.agg #[pv,shv,tmv,.slice A4 t.streets.length cp4]) ?_ hHd ?_;(·exact aA (by rfl) (fun W h=>aL (hB2.ext h))))|((with_reducible refine aB (i:=4) ?_);refine tk (v:=.agg #[.int .i64 (i0:Int),.bool bk]) ?_ hHd ?_;(·exact aA (by rfl) (fun W h=>HstL.out W h)))|(refine tk (v:= ?_) ?_ hHd ?_;rotate_left;(·(intro wq hSw;(try dsimp only at hSw);go_simp;(try with_reducible rfl)))));(try simp only[pS]))|((with_reducible refine bC ?_);refine aQ (by simp only[gS];rfl) ?_)|((with_reducible refine aH (d:=some 66) ?_);((refine bD (by rfl) (dW _ t i0 bk _ (aM.of (HSt.out.1.ext hX1)) hi0l) (by go_simp) ?_;rintro e W66 ⟨rfl,hE66⟩;refine⟨_,rfl,?_⟩;have hX2:=hX1.trans hE66;have hOe:=aX.ext (aX.ext hOr (Ext.todrew (Ext.refl _))) hE66)))|((with_reducible refine bB ?_);clear hHd;refine aJ ?_ (fun hHd=> ?_);(·assumption);(try simp only[pS]))|(with_reducible refine aG ?_)
         go_wp2
         have hX3:=Ext.todrew hX2;refine aR (.take 0 (.take 1 (.take 2 (.take 3 (.take 4 (.take 5 (.take 6 (.take 7 (.take 8 (.take 9 (.take 10 (.take 11 (.take 13 (.take 14 (.take 15 (.take 16 (.take 17 (.take 18 (.take 19 (.one 12 (.take 20 (.take 21 .nil)))))))))))))))))))))) (fun w'=>Ext Wb w') ?_ (fun hHd=> ?_)
         ·assumption
         repeat' first|((with_reducible refine aB ?_);(first|(refine tk (v:= ?_) ?_ hHd ?_;rotate_left;(·(intro wq hSw;(try dsimp only at hSw);go_simp;(try with_reducible rfl))))|refine ts hHd ?_);(try simp only[pS]))|((with_reducible refine bC ?_);refine aQ (by simp only[gS];rfl) ?_)|((with_reducible refine aH (d:=some 81) ?_);refine dK (by rfl) ?_)|((with_reducible refine bB ?_);clear hHd;refine aJ ?_ (fun hHd=> ?_);(·assumption);(try simp only[pS]))|(with_reducible refine aG ?_)
         go_wp2
         go_roundw
         case rel=>exact⟨hX3,aX.ext hOe (Ext.todrew (Ext.refl _)),rfl,rfl,rfl,j+1,by omega,by go_num⟩
         case measure=>simp[intOf];omega
       ·obtain rfl:j=j0:=by omega
        have hob:=Hb2.out rfl;have Hb4:=Lib.hid (Hb3.out rfl);clear Hb3 Hb2 Hb1;rw[Hob.out] at hob;simp only[Bool.and_eq_true,decide_eq_true_eq] at hob;obtain⟨he,hvm⟩:=hob;have hqe:((t.ends ⟨(i0:Int),bk⟩).1==(pn:Int))=true:=by simp[he]
        have hdec:decide (v1=m∧v2=((g+1:Nat):Int))=true:=by injection hvm with e1 e2;simp[e1,e2]
        clear he hvm;go_wp2
        have hX1:=Ext.todrew hX0;refine aR (.take 0 (.take 1 (.take 2 (.take 3 (.take 4 (.one 5 (.take 6 (.take 7 (.take 8 (.take 9 (.take 10 .nil))))))))))) (fun w'=>Ext Wb w') ?_ (fun hHd=> ?_)
        ·assumption
        repeat' first|((with_reducible refine aB ?_);(first|((with_reducible refine aB (i:=0) ?_);refine tk (v:=.agg #[pv,shv,tmv,.slice A4 t.streets.length cp4]) ?_ hHd ?_;(·exact aA (by rfl) (fun W h=>aL (hB2.ext h))))|((with_reducible refine aB (i:=4) ?_);refine tk (v:=.agg #[.int .i64 (i0:Int),.bool bk]) ?_ hHd ?_;(·exact aA (by rfl) (fun W h=>HstL.out W h)))|(refine tk (v:= ?_) ?_ hHd ?_;rotate_left;(·(intro wq hSw;(try dsimp only at hSw);go_simp;(try with_reducible rfl)))));(try simp only[pS]))|((with_reducible refine bC ?_);refine aQ (by simp only[gS];rfl) ?_)|((with_reducible refine aH (d:=some 66) ?_);((refine bD (by rfl) (dW _ t i0 bk _ (aM.of (HSt.out.1.ext hX1)) hi0l) (by go_simp) ?_;rintro e W66 ⟨rfl,hE66⟩;refine⟨_,rfl,?_⟩;have hX2:=hX1.trans hE66;have hOe:=aX.ext (aX.ext hOr (Ext.todrew (Ext.refl _))) hE66)))|((with_reducible refine bB ?_);clear hHd;refine aJ ?_ (fun hHd=> ?_);(·assumption);(try simp only[pS]))|(with_reducible refine aG ?_)
        go_wp2
        have hX3:=Ext.todrew hX2;have hOf:=aX.ext hOe (Ext.todrew (Ext.refl _));refine aR (.take 0 (.take 1 (.take 2 (.take 3 (.take 4 (.take 5 (.take 6 (.take 7 (.take 8 (.take 9 (.take 10 (.take 11 (.take 13 (.take 14 (.take 15 (.take 16 (.take 17 (.take 18 (.take 19 (.one 12 (.take 20 (.take 21 .nil)))))))))))))))))))))) (fun w'=>Ext Wb w') ?_ (fun hHd=> ?_)
        ·assumption
        repeat' first|((with_reducible refine aB ?_);(first|((with_reducible refine aB (i:=4) ?_);refine tw (v:=.agg #[pv,shv,tmv,.slice A4 t.streets.length cp4]) ?_ hHd ?_;(·exact aA (by rfl) (fun W h=>aL (hB2.ext h))))|((with_reducible refine aB (i:=5) ?_);refine tw (v:=.agg #[.int .i64 k.a,.int .i64 k.b,.int .i64 k.show_,.int .i64 k.time,clv]) ?_ hHd ?_;(·exact aA (by rfl) (fun W h=>bU (hB3.ext h))))|((with_reducible refine aB (i:=10) ?_);refine tw (v:=.agg #[.int .i64 (i0:Int),.bool bk]) ?_ hHd ?_;(·exact aA (by rfl) (fun W h=>HstL.out W h)))|((with_reducible refine aB (i:=16) ?_);refine tw (v:=.slice (some ⟨gs[pn],0,none⟩) M M) ?_ hHd ?_;(·exact aA (by rfl) (fun W h=>aY Tryz.underlying131 rfl (KT.cell (HSt.out.2.2.1.ext h) hpl2))))|((with_reducible refine aB (i:=19) ?_);refine tw (v:=.agg #[.int .i64 m,.int .i64 ((g+1:Nat):Int)]) ?_ hHd ?_;(·exact aA (by rfl) (fun W h=>KT.ldc (HSt.out.2.2.1.ext h) hpl2 huM Hfx.out)))|((with_reducible refine aB (i:=20) ?_);refine tw (v:=.bool true) ?_ hHd ?_;(·exact lH nS hdec (by rfl) (by rfl)))|(refine tk (v:= ?_) ?_ hHd ?_;rotate_left;(·(intro wq hSw;(try dsimp only at hSw);go_simp;(try with_reducible rfl))))|(refine tw (v:= ?_) ?_ hHd ?_;rotate_left;(·(intro wq hSw;(try dsimp only at hSw);go_simp;(try with_reducible rfl)))));(try simp only[pS]))|((with_reducible refine bC ?_);refine aQ (by simp only[gS];rfl) ?_)|((with_reducible refine aH (d:=some 81) ?_);((refine bN (by rfl) (cby _ (aM.of (HSt.out.1.ext hX3)) (bA.of (HSt.out.2.1.ext hX3)) (HSt.out.2.2.1.ext hX3)) (by have hgl:=Hgl.out;rw[←hgl];go_simp) ?_;rintro e W81 ⟨rfl,hE81⟩;refine⟨_,rfl,?_⟩;have hX4:=hX3.trans hE81;have hOg:=aX.ext hOf hE81)))|((with_reducible refine bB ?_);clear hHd;refine aJ ?_ (fun hHd=> ?_);(·assumption);(try simp only[pS]))|(with_reducible refine aG ?_)
        go_wp2
        obtain⟨hcn',hpn'⟩:=Hb4.out;have hst':=HSt.out.1.streets;obtain⟨A4',cp4',e4,_,_,h44⟩:=hst';injection e4 with e41 e42 e43
        subst e41;subst e43;obtain⟨ad4,rfl,hc4⟩:=h44 (by omega)
        obtain⟨sv,hs⟩:=hc4 i0 hi0l;have hso:=Hok.out.ok.at_ hi0l;have hsl:=hso.sh;have htm:=aV.1 Hok.out.time;obtain⟨tm,htme⟩:∃n:Nat,k.time=n:=⟨k.time.toNat,by omega⟩
        have html:tm<t.streets[i0].shows.length:=by omega
        have hshown:=(Hok.out.ok.shown hso Hok.out.time).2;have hsx:t.shownAt k.time ⟨(i0:Int),bk⟩=t.streets[i0].shows[tm]:=by unfold Town.shownAt;rw[Town.at_eq hi0l,htme];simp[List.getD,html]
        have hsx2:t.streets[i0].shows.getD k.time.toNat 0=t.streets[i0].shows[tm]:=by rw[htme];simp[List.getD,html]
        rw[hsx2] at hshown;rw[hsx] at hcn' hpn';have hset2:=(Town.sets_bd Hok.out.ok.sh).2;have hend2:=aV.1 (Hok.out.ok.ends (x:=⟨(i0:Int),bk⟩) Hin.out).2;obtain⟨qn,hqn⟩:∃q:Nat,(t.ends ⟨(i0:Int),bk⟩).2=q:=⟨((t.ends ⟨(i0:Int),bk⟩).2).toNat,by omega⟩
        have hcIe:∃adI ci,sv=.slice (some adI) t.streets[i0].shows.length ci∧t.streets[i0].shows.length≤ci∧ci≤maxLen∧cS Wb adI (gA t.streets[i0].shows):=by
         obtain⟨Ai,ci,e1,i1,i2,i3,i4⟩:=hs.2;obtain⟨adI,e2,hcI⟩:=i4 (by omega)
         exact⟨adI,ci,by rw[e1,e2],i1,i2,hcI⟩
        obtain⟨adI,ci,rfl,hci,hci2,hcI⟩:=hcIe;unfold maxLen at hci2;have c109:=fld hs.1 (i:=6) (by decide) rfl
        have c113:=hcI.i html;have c106:=Gi HcL.out (u:=.int .i64 (i0:Int)) rfl;have c101:=hB2.cell 3;have c111:=hB3.cell 3;simp at c101 c111;rw[htme] at c111;obtain⟨xs,hxs⟩:∃x,t.streets[i0].shows[tm]=x:=⟨_,rfl⟩;rw[hxs] at c113 hcn' hpn' hshown;have hless:cH (un:Int) xs=aE un xs:=dE (by omega) (by omega) hshown.1
        have hl0:=cM (un:Int) xs;obtain⟨u2,hu2⟩:∃u:Nat,aE (un:Int) xs=u:=⟨(aE (un:Int) xs).toNat,by omega⟩
        have cless:∀w,Calls Tryz.prog 44 #[.int .i64 un,.int .i64 xs] w fun e w'=>e=.returned (.int .i64 u2)∧w=w':=fun w=>by rw[←hu2,←hless];exact fI un xs ⟨by omega,by omega⟩ ⟨hshown.1,by omega⟩ w
        rw[hu2,hqn] at hcn' hpn';obtain⟨sl,hsl'⟩:∃n:Nat,t.streets[i0].shows.length=n:=⟨_,rfl⟩;rw[hsl'] at c109 hci html;have Hc3:=Lib.hid hcn';have Hp3:=Lib.hid hpn';have Hqn:=Lib.hid hqn;have hX5:=Ext.todrew hX4;have hOh:=aX.ext hOg (Ext.todrew (Ext.refl _));have hlll:L.length≤1000000000:=by omega
        have z1:(i0:Int)<(t.streets.length:Int):=by omega
        have z2:(tm:Int)<(sl:Int):=by omega
        clear hcn' hpn' hqn hu2 hless hxs htme hsx hsx2 hsl hsl' hs hc4 h44 hso hcI Hob htm hend2 hshown hset2;refine aR (.take 0 (.take 1 (.take 2 (.take 3 (.take 4 (.take 7 (.take 8 (.take 9 (.take 10 (.take 11 (.take 12 (.take 13 (.take 14 (.take 15 (.take 16 (.take 17 (.take 18 (.take 19 (.take 20 (.take 21 (.take 22 (.one 5 (.one 6 (.one 23 (.take 24 (.take 25 (.take 26 .nil))))))))))))))))))))))))))) (fun w'=>Ext Wb w') ?_ (fun hHd=> ?_)
        ·assumption
        repeat' first|((with_reducible refine aB ?_);(first|((with_reducible refine aB (i:=4) ?_);refine tk (v:=.agg #[.int .i64 (i0:Int),.bool bk]) ?_ hHd ?_;(·exact aA (by rfl) (fun W h=>HstL.out W h)))|((with_reducible refine aB (i:=10) ?_);refine tk (v:=.slice (some ad4) t.streets.length cp4) ?_ hHd ?_;(·exact aA (by rfl) (rl Tryz.underlying23 c101)))|((with_reducible refine aB (i:=15) ?_);refine tk (v:=.int .i64 (i0:Int)) ?_ hHd ?_;(·exact aA (by rfl) (rl Tryz.underlying3 c106)))|((with_reducible refine aB (i:=18) ?_);refine tk (v:=.slice (some adI) sl ci) ?_ hHd ?_;(·exact aA (by rfl) (rl Tryz.underlying41 c109)))|((with_reducible refine aB (i:=20) ?_);refine tk (v:=.int .i64 (tm:Int)) ?_ hHd ?_;(·exact aA (by rfl) (rl Tryz.underlying3 c111)))|((with_reducible refine aB (i:=22) ?_);refine tk (v:=.int .i64 xs) ?_ hHd ?_;(·exact aA (by rfl) (rl Tryz.underlying3 c113)))|(refine tk (v:= ?_) ?_ hHd ?_;rotate_left;(·(intro wq hSw;(try dsimp only at hSw);go_simp;(try with_reducible rfl)))));(try simp only[pS]))|((with_reducible refine bC ?_);refine aQ (by simp only[gS];rfl) ?_)|((with_reducible refine aH (d:=some 96) ?_);(((with_reducible refine kU (d:=some 96) (p:=(i0:Int)) (q:=bk) ?_ ?_);rfl;intro W96 g96 hE96 hB96 hg96;have hX96:Ext Wb W96:=Ext.trans (by assumption) hE96;replace hOh:=aX.ext hOh hE96)))|((with_reducible refine aH (d:=some 97) ?_);(((with_reducible refine iV (d:=some 97) (y:=⟨(i0:Int),bk⟩) ?_ hOh ?_ hB96 hlll ?_ ?_);rfl;rfl;(exact Ext.le (by assumption));intro A97 c97 W97 hO97 hm97 hg97;have hX97:Ext Wb W97:=hm97 _ (by assumption))))|((with_reducible refine aH (d:=some 114) ?_);((refine bD (by rfl) (cless _) (by go_simp) ?_;rintro e w' ⟨rfl,rfl⟩;refine⟨_,rfl,?_⟩)))|((with_reducible refine bB ?_);clear hHd;refine aJ ?_ (fun hHd=> ?_);(·assumption);(try simp only[pS]))|(with_reducible refine aG ?_)
        (go_wp2;go_roundg g;(case rel=>exact⟨hX97,L++ [⟨(i0:Int),bk⟩],qn,u2,_,by simpa using hO97,by rw[Hqn.out],rfl,Hc3.out,by rw[Hbs2.out,Hp3.out];simp,by simp;omega⟩);(case measure=>omega))
     ·have hq1:((pn:Int) !=(bn:Int))=true:=by simp[hpb]
      clear hne hpb;go_wp2
      go_loopw [9,10,11,12,13,14] (fun v p s i _ _ W=>Ext Wb W∧aX Wb.heap.size W lv L∧v=lv∧p=.int .i64 (pn:Int)∧s=.int .i64 (un:Int)∧∃j:Nat,j≤j0∧i=.int .i64 (j:Int)) (fun _ _ _ i _ _ _=>j0-(intOf i).toNat)
      case atStart=>exact⟨hEr,hO,rfl,rfl,rfl,0,by omega,rfl⟩
      case round=>
       clear hEr hO d1;obtain⟨hX0,hOr,rfl,rfl,rfl,j,hj,rfl⟩:=hrel;have hjl:j<l.length:=by omega
       obtain⟨x,hx⟩:∃x,l[j]=x:=⟨_,rfl⟩;have hxm:x∈t.stepsAll k:=by rw[show t.stepsAll k=l from Hl.out,←hx];exact List.getElem_mem hjl
       have hin:=(Town.mem_stepsAll.1 hxm).1;have hby:=vB (T:=t.cost k) Hok.out (fun p s c hc=>by have:=Town.cost_bd Hok.out hc;omega) hin (n:=un)
       have Hob:=Lib.hid (show Town.onB t k (pn:Int) (un:Int) m ((g+1:Nat):Int) x=(decide ((t.ends x).1=(pn:Int))&&decide (cv (Town.via (t.cost k) (t.arcOf k x) (un:Int))=(m,((g+1:Nat):Int)))) from rfl)
       have Hb1:=Lib.hid (fun h:j<j0=>(by have:=Hbf.out j hjl h;rw[hx] at this;exact this:Town.onB t k (pn:Int) (un:Int) m ((g+1:Nat):Int) x=false))
       have Hb2:=Lib.hid (fun h:j=j0=>(by subst h;have:=Hon.out;rw[hx] at this;exact this:Town.onB t k (pn:Int) (un:Int) m ((g+1:Nat):Int) x=true))
       have Hb3:=Lib.hid (fun h:j=j0=>(by subst h;have h1:=Hc2.out;have h2:=Hpa.out;rw[hx] at h1 h2;exact⟨h1,h2⟩:t.cost k (t.ends x).2 (aE (un:Int) (t.shownAt k.time x))=some (m-(t.at_ x.st).metres,(g:Int))∧(cF aE (t.arcs k) (t.cost k) (g+1) (pn:Int) (un:Int) m).map Town.stepOf=x::(cF aE (t.arcs k) (t.cost k) g (t.ends x).2 (aE (un:Int) (t.shownAt k.time x)) (m-(t.at_ x.st).metres)).map Town.stepOf))
       have hL8:=HSt.out.2.2.2;obtain⟨Al,cl,e8,hl1,hl2,_,hl4⟩:=hL8;injection e8 with e81 e82 e83
       subst e81;subst e83;obtain⟨adl,rfl,hlc⟩:=hl4 (by omega)
       unfold maxLen at hl2;obtain⟨st,bk⟩:=x;obtain⟨i0,rfl,hi0⟩:=fB hin;have hi0l:i0<t.streets.length:=by omega
       have hcells:=oU hlc hjl;rw[hx] at hcells;have HstL:=Lib.hid (fun W(h:Ext Wb W)=>(by have:=iM (hlc.ext h) hjl;rw[hx] at this;exact this:(loadVar 82 (adl.add (j*2))).run Tryz.prog W=.ok (.agg #[.int .i64 (i0:Int),.bool bk]) W))
       have cby:=fun w(h1:aM w _ t)(h2:bA w _ k)(h3:KT w G gs M (fun p s=>cv (t.cost k (p:Int) (s:Int))))=>xX (.agg #[pv,shv,tmv,.slice A4 t.streets.length cp4]) (.agg #[.int .i64 k.a,.int .i64 k.b,.int .i64 k.show_,.int .i64 k.time,clv]) t k i0 bk (un:Int) G gs (fun p s=>cv (t.cost k (p:Int) (s:Int))) w h1 Hok.out.ok h2 Hok.out.time hi0l ⟨by omega,by have:=HM.out;have e:t.sets=((2^t.shows.length:Nat):Int):=(by unfold Town.sets;push_cast;rfl);rw[e,this];omega⟩ (by rw[HM.out];exact h3) Hgl.out (fun p s=>wZ Hok.out _ _)
       obtain⟨v1,v2,hv⟩:∃v1 v2,cv (Town.via (t.cost k) (t.arcOf k ⟨(i0:Int),bk⟩) (un:Int))=(v1,v2):=⟨_,_,rfl⟩;rw[hby,hv] at cby;rw[hv] at Hob;have HcL:=Lib.hid hcells;have Hin:=Lib.hid hin;have hjz:(j:Int)<(l.length:Int):=by omega
       clear hby hx hxm hlc hl4 hin hcells hv;by_cases hjj:j<j0
       ·have hob:=Hb1.out hjj;rw[Hob.out] at hob;by_cases he:(t.ends ⟨(i0:Int),bk⟩).1=(pn:Int)
        ·have hqe:((t.ends ⟨(i0:Int),bk⟩).1==(pn:Int))=true:=by simp[he]
         have hdec:decide (v1=m∧v2=((g+1:Nat):Int))=false:=by simp[he] at hob;simp;exact hob
         clear hob he;go_wp2
         have hX1:=Ext.todrew hX0;refine aR (.take 0 (.take 1 (.take 2 (.take 3 (.take 4 (.one 5 (.take 6 (.take 7 (.take 8 (.take 9 (.take 10 .nil))))))))))) (fun w'=>Ext Wb w') ?_ (fun hHd=> ?_)
         ·assumption
         repeat' first|((with_reducible refine aB ?_);(first|((with_reducible refine aB (i:=0) ?_);refine tk (v:=.agg #[pv,shv,tmv,.slice A4 t.streets.length cp4]) ?_ hHd ?_;(·exact aA (by rfl) (fun W h=>aL (hB2.ext h))))|((with_reducible refine aB (i:=4) ?_);refine tk (v:=.agg #[.int .i64 (i0:Int),.bool bk]) ?_ hHd ?_;(·exact aA (by rfl) (fun W h=>HstL.out W h)))|(refine tk (v:= ?_) ?_ hHd ?_;rotate_left;(·(intro wq hSw;(try dsimp only at hSw);go_simp;(try with_reducible rfl)))));(try simp only[pS]))|((with_reducible refine bC ?_);refine aQ (by simp only[gS];rfl) ?_)|((with_reducible refine aH (d:=some 66) ?_);((refine bD (by rfl) (dW _ t i0 bk _ (aM.of (HSt.out.1.ext hX1)) hi0l) (by go_simp) ?_;rintro e W66 ⟨rfl,hE66⟩;refine⟨_,rfl,?_⟩;have hX2:=hX1.trans hE66;have hOe:=aX.ext (aX.ext hOr (Ext.todrew (Ext.refl _))) hE66)))|((with_reducible refine bB ?_);clear hHd;refine aJ ?_ (fun hHd=> ?_);(·assumption);(try simp only[pS]))|(with_reducible refine aG ?_)
         go_wp2
         have hX3:=Ext.todrew hX2;have hOf:=aX.ext hOe (Ext.todrew (Ext.refl _));refine aR (.take 0 (.take 1 (.take 2 (.take 3 (.take 4 (.take 5 (.take 6 (.take 7 (.take 8 (.take 9 (.take 10 (.take 11 (.take 13 (.take 14 (.take 15 (.take 16 (.take 17 (.take 18 (.take 19 (.one 12 (.take 20 (.take 21 .nil)))))))))))))))))))))) (fun w'=>Ext Wb w') ?_ (fun hHd=> ?_)
         ·assumption
         repeat' first|((with_reducible refine aB ?_);(first|((with_reducible refine aB (i:=4) ?_);refine tw (v:=.agg #[pv,shv,tmv,.slice A4 t.streets.length cp4]) ?_ hHd ?_;(·exact aA (by rfl) (fun W h=>aL (hB2.ext h))))|((with_reducible refine aB (i:=5) ?_);refine tw (v:=.agg #[.int .i64 k.a,.int .i64 k.b,.int .i64 k.show_,.int .i64 k.time,clv]) ?_ hHd ?_;(·exact aA (by rfl) (fun W h=>bU (hB3.ext h))))|((with_reducible refine aB (i:=10) ?_);refine tw (v:=.agg #[.int .i64 (i0:Int),.bool bk]) ?_ hHd ?_;(·exact aA (by rfl) (fun W h=>HstL.out W h)))|((with_reducible refine aB (i:=16) ?_);refine tw (v:=.slice (some ⟨gs[pn],0,none⟩) M M) ?_ hHd ?_;(·exact aA (by rfl) (fun W h=>aY Tryz.underlying131 rfl (KT.cell (HSt.out.2.2.1.ext h) hpl2))))|((with_reducible refine aB (i:=19) ?_);refine tw (v:=.agg #[.int .i64 m,.int .i64 ((g+1:Nat):Int)]) ?_ hHd ?_;(·exact aA (by rfl) (fun W h=>KT.ldc (HSt.out.2.2.1.ext h) hpl2 huM Hfx.out)))|((with_reducible refine aB (i:=20) ?_);refine tw (v:=.bool false) ?_ hHd ?_;(·exact lH nS hdec (by rfl) (by rfl)))|(refine tk (v:= ?_) ?_ hHd ?_;rotate_left;(·(intro wq hSw;(try dsimp only at hSw);go_simp;(try with_reducible rfl))))|(refine tw (v:= ?_) ?_ hHd ?_;rotate_left;(·(intro wq hSw;(try dsimp only at hSw);go_simp;(try with_reducible rfl)))));(try simp only[pS]))|((with_reducible refine bC ?_);refine aQ (by simp only[gS];rfl) ?_)|((with_reducible refine aH (d:=some 81) ?_);((refine bN (by rfl) (cby _ (aM.of (HSt.out.1.ext hX3)) (bA.of (HSt.out.2.1.ext hX3)) (HSt.out.2.2.1.ext hX3)) (by have hgl:=Hgl.out;rw[←hgl];go_simp) ?_;rintro e W81 ⟨rfl,hE81⟩;refine⟨_,rfl,?_⟩;have hX4:=hX3.trans hE81;have hOg:=aX.ext hOf hE81)))|((with_reducible refine bB ?_);clear hHd;refine aJ ?_ (fun hHd=> ?_);(·assumption);(try simp only[pS]))|(with_reducible refine aG ?_)
         go_wp2
         go_roundw
         case rel=>exact⟨hX4,hOg,rfl,rfl,rfl,j+1,by omega,by go_num⟩
         case measure=>simp[intOf];omega
        ·have hqe:((t.ends ⟨(i0:Int),bk⟩).1==(pn:Int))=false:=by simp[he]
         clear hob he;go_wp2
         have hX1:=Ext.todrew hX0;refine aR (.take 0 (.take 1 (.take 2 (.take 3 (.take 4 (.one 5 (.take 6 (.take 7 (.take 8 (.take 9 (.take 10 .nil))))))))))) (fun w'=>Ext Wb w') ?_ (fun hHd=> ?_)
         ·assumption
         repeat' first|((with_reducible refine aB ?_);(first|((with_reducible refine aB (i:=0) ?_);refine tk (v:=.agg #[pv,shv,tmv,.slice A4 t.streets.length cp4]) ?_ hHd ?_;(·exact aA (by rfl) (fun W h=>aL (hB2.ext h))))|((with_reducible refine aB (i:=4) ?_);refine tk (v:=.agg #[.int .i64 (i0:Int),.bool bk]) ?_ hHd ?_;(·exact aA (by rfl) (fun W h=>HstL.out W h)))|(refine tk (v:= ?_) ?_ hHd ?_;rotate_left;(·(intro wq hSw;(try dsimp only at hSw);go_simp;(try with_reducible rfl)))));(try simp only[pS]))|((with_reducible refine bC ?_);refine aQ (by simp only[gS];rfl) ?_)|((with_reducible refine aH (d:=some 66) ?_);((refine bD (by rfl) (dW _ t i0 bk _ (aM.of (HSt.out.1.ext hX1)) hi0l) (by go_simp) ?_;rintro e W66 ⟨rfl,hE66⟩;refine⟨_,rfl,?_⟩;have hX2:=hX1.trans hE66;have hOe:=aX.ext (aX.ext hOr (Ext.todrew (Ext.refl _))) hE66)))|((with_reducible refine bB ?_);clear hHd;refine aJ ?_ (fun hHd=> ?_);(·assumption);(try simp only[pS]))|(with_reducible refine aG ?_)
         go_wp2
         have hX3:=Ext.todrew hX2;refine aR (.take 0 (.take 1 (.take 2 (.take 3 (.take 4 (.take 5 (.take 6 (.take 7 (.take 8 (.take 9 (.take 10 (.take 11 (.take 13 (.take 14 (.take 15 (.take 16 (.take 17 (.take 18 (.take 19 (.one 12 (.take 20 (.take 21 .nil)))))))))))))))))))))) (fun w'=>Ext Wb w') ?_ (fun hHd=> ?_)
         ·assumption
         repeat' first|((with_reducible refine aB ?_);(first|(refine tk (v:= ?_) ?_ hHd ?_;rotate_left;(·(intro wq hSw;(try dsimp only at hSw);go_simp;(try with_reducible rfl))))|refine ts hHd ?_);(try simp only[pS]))|((with_reducible refine bC ?_);refine aQ (by simp only[gS];rfl) ?_)|((with_reducible refine aH (d:=some 81) ?_);refine dK (by rfl) ?_)|((with_reducible refine bB ?_);clear hHd;refine aJ ?_ (fun hHd=> ?_);(·assumption);(try simp only[pS]))|(with_reducible refine aG ?_)
         go_wp2
         go_roundw
         case rel=>exact⟨hX3,aX.ext hOe (Ext.todrew (Ext.refl _)),rfl,rfl,rfl,j+1,by omega,by go_num⟩
         case measure=>simp[intOf];omega
       ·obtain rfl:j=j0:=by omega
        have hob:=Hb2.out rfl;have Hb4:=Lib.hid (Hb3.out rfl);clear Hb3 Hb2 Hb1;rw[Hob.out] at hob;simp only[Bool.and_eq_true,decide_eq_true_eq] at hob;obtain⟨he,hvm⟩:=hob;have hqe:((t.ends ⟨(i0:Int),bk⟩).1==(pn:Int))=true:=by simp[he]
        have hdec:decide (v1=m∧v2=((g+1:Nat):Int))=true:=by injection hvm with e1 e2;simp[e1,e2]
        clear he hvm;go_wp2
        have hX1:=Ext.todrew hX0;refine aR (.take 0 (.take 1 (.take 2 (.take 3 (.take 4 (.one 5 (.take 6 (.take 7 (.take 8 (.take 9 (.take 10 .nil))))))))))) (fun w'=>Ext Wb w') ?_ (fun hHd=> ?_)
        ·assumption
        repeat' first|((with_reducible refine aB ?_);(first|((with_reducible refine aB (i:=0) ?_);refine tk (v:=.agg #[pv,shv,tmv,.slice A4 t.streets.length cp4]) ?_ hHd ?_;(·exact aA (by rfl) (fun W h=>aL (hB2.ext h))))|((with_reducible refine aB (i:=4) ?_);refine tk (v:=.agg #[.int .i64 (i0:Int),.bool bk]) ?_ hHd ?_;(·exact aA (by rfl) (fun W h=>HstL.out W h)))|(refine tk (v:= ?_) ?_ hHd ?_;rotate_left;(·(intro wq hSw;(try dsimp only at hSw);go_simp;(try with_reducible rfl)))));(try simp only[pS]))|((with_reducible refine bC ?_);refine aQ (by simp only[gS];rfl) ?_)|((with_reducible refine aH (d:=some 66) ?_);((refine bD (by rfl) (dW _ t i0 bk _ (aM.of (HSt.out.1.ext hX1)) hi0l) (by go_simp) ?_;rintro e W66 ⟨rfl,hE66⟩;refine⟨_,rfl,?_⟩;have hX2:=hX1.trans hE66;have hOe:=aX.ext (aX.ext hOr (Ext.todrew (Ext.refl _))) hE66)))|((with_reducible refine bB ?_);clear hHd;refine aJ ?_ (fun hHd=> ?_);(·assumption);(try simp only[pS]))|(with_reducible refine aG ?_)
        go_wp2
        have hX3:=Ext.todrew hX2;have hOf:=aX.ext hOe (Ext.todrew (Ext.refl _));refine aR (.take 0 (.take 1 (.take 2 (.take 3 (.take 4 (.take 5 (.take 6 (.take 7 (.take 8 (.take 9 (.take 10 (.take 11 (.take 13 (.take 14 (.take 15 (.take 16 (.take 17 (.take 18 (.take 19 (.one 12 (.take 20 (.take 21 .nil)))))))))))))))))))))) (fun w'=>Ext Wb w') ?_ (fun hHd=> ?_)
        ·assumption
        repeat' first|((with_reducible refine aB ?_);(first|((with_reducible refine aB (i:=4) ?_);refine tw (v:=.agg #[pv,shv,tmv,.slice A4 t.streets.length cp4]) ?_ hHd ?_;(·exact aA (by rfl) (fun W h=>aL (hB2.ext h))))|((with_reducible refine aB (i:=5) ?_);refine tw (v:=.agg #[.int .i64 k.a,.int .i64 k.b,.int .i64 k.show_,.int .i64 k.time,clv]) ?_ hHd ?_;(·exact aA (by rfl) (fun W h=>bU (hB3.ext h))))|((with_reducible refine aB (i:=10) ?_);refine tw (v:=.agg #[.int .i64 (i0:Int),.bool bk]) ?_ hHd ?_;(·exact aA (by rfl) (fun W h=>HstL.out W h)))|((with_reducible refine aB (i:=16) ?_);refine tw (v:=.slice (some ⟨gs[pn],0,none⟩) M M) ?_ hHd ?_;(·exact aA (by rfl) (fun W h=>aY Tryz.underlying131 rfl (KT.cell (HSt.out.2.2.1.ext h) hpl2))))|((with_reducible refine aB (i:=19) ?_);refine tw (v:=.agg #[.int .i64 m,.int .i64 ((g+1:Nat):Int)]) ?_ hHd ?_;(·exact aA (by rfl) (fun W h=>KT.ldc (HSt.out.2.2.1.ext h) hpl2 huM Hfx.out)))|((with_reducible refine aB (i:=20) ?_);refine tw (v:=.bool true) ?_ hHd ?_;(·exact lH nS hdec (by rfl) (by rfl)))|(refine tk (v:= ?_) ?_ hHd ?_;rotate_left;(·(intro wq hSw;(try dsimp only at hSw);go_simp;(try with_reducible rfl))))|(refine tw (v:= ?_) ?_ hHd ?_;rotate_left;(·(intro wq hSw;(try dsimp only at hSw);go_simp;(try with_reducible rfl)))));(try simp only[pS]))|((with_reducible refine bC ?_);refine aQ (by simp only[gS];rfl) ?_)|((with_reducible refine aH (d:=some 81) ?_);((refine bN (by rfl) (cby _ (aM.of (HSt.out.1.ext hX3)) (bA.of (HSt.out.2.1.ext hX3)) (HSt.out.2.2.1.ext hX3)) (by have hgl:=Hgl.out;rw[←hgl];go_simp) ?_;rintro e W81 ⟨rfl,hE81⟩;refine⟨_,rfl,?_⟩;have hX4:=hX3.trans hE81;have hOg:=aX.ext hOf hE81)))|((with_reducible refine bB ?_);clear hHd;refine aJ ?_ (fun hHd=> ?_);(·assumption);(try simp only[pS]))|(with_reducible refine aG ?_)
        go_wp2
        obtain⟨hcn',hpn'⟩:=Hb4.out;have hst':=HSt.out.1.streets;obtain⟨A4',cp4',e4,_,_,h44⟩:=hst';injection e4 with e41 e42 e43
        subst e41;subst e43;obtain⟨ad4,rfl,hc4⟩:=h44 (by omega)
        obtain⟨sv,hs⟩:=hc4 i0 hi0l;have hso:=Hok.out.ok.at_ hi0l;have hsl:=hso.sh;have htm:=aV.1 Hok.out.time;obtain⟨tm,htme⟩:∃n:Nat,k.time=n:=⟨k.time.toNat,by omega⟩
        have html:tm<t.streets[i0].shows.length:=by omega
        have hshown:=(Hok.out.ok.shown hso Hok.out.time).2;have hsx:t.shownAt k.time ⟨(i0:Int),bk⟩=t.streets[i0].shows[tm]:=by unfold Town.shownAt;rw[Town.at_eq hi0l,htme];simp[List.getD,html]
        have hsx2:t.streets[i0].shows.getD k.time.toNat 0=t.streets[i0].shows[tm]:=by rw[htme];simp[List.getD,html]
        rw[hsx2] at hshown;rw[hsx] at hcn' hpn';have hset2:=(Town.sets_bd Hok.out.ok.sh).2;have hend2:=aV.1 (Hok.out.ok.ends (x:=⟨(i0:Int),bk⟩) Hin.out).2;obtain⟨qn,hqn⟩:∃q:Nat,(t.ends ⟨(i0:Int),bk⟩).2=q:=⟨((t.ends ⟨(i0:Int),bk⟩).2).toNat,by omega⟩
        have hcIe:∃adI ci,sv=.slice (some adI) t.streets[i0].shows.length ci∧t.streets[i0].shows.length≤ci∧ci≤maxLen∧cS Wb adI (gA t.streets[i0].shows):=by
         obtain⟨Ai,ci,e1,i1,i2,i3,i4⟩:=hs.2;obtain⟨adI,e2,hcI⟩:=i4 (by omega)
         exact⟨adI,ci,by rw[e1,e2],i1,i2,hcI⟩
        obtain⟨adI,ci,rfl,hci,hci2,hcI⟩:=hcIe;unfold maxLen at hci2;have c109:=fld hs.1 (i:=6) (by decide) rfl
        have c113:=hcI.i html;have c106:=Gi HcL.out (u:=.int .i64 (i0:Int)) rfl;have c101:=hB2.cell 3;have c111:=hB3.cell 3;simp at c101 c111;rw[htme] at c111;obtain⟨xs,hxs⟩:∃x,t.streets[i0].shows[tm]=x:=⟨_,rfl⟩;rw[hxs] at c113 hcn' hpn' hshown;have hless:cH (un:Int) xs=aE un xs:=dE (by omega) (by omega) hshown.1
        have hl0:=cM (un:Int) xs;obtain⟨u2,hu2⟩:∃u:Nat,aE (un:Int) xs=u:=⟨(aE (un:Int) xs).toNat,by omega⟩
        have cless:∀w,Calls Tryz.prog 44 #[.int .i64 un,.int .i64 xs] w fun e w'=>e=.returned (.int .i64 u2)∧w=w':=fun w=>by rw[←hu2,←hless];exact fI un xs ⟨by omega,by omega⟩ ⟨hshown.1,by omega⟩ w
        rw[hu2,hqn] at hcn' hpn';obtain⟨sl,hsl'⟩:∃n:Nat,t.streets[i0].shows.length=n:=⟨_,rfl⟩;rw[hsl'] at c109 hci html;have Hc3:=Lib.hid hcn';have Hp3:=Lib.hid hpn';have Hqn:=Lib.hid hqn;have hX5:=Ext.todrew hX4;have hOh:=aX.ext hOg (Ext.todrew (Ext.refl _));have hlll:L.length≤1000000000:=by omega
        have z1:(i0:Int)<(t.streets.length:Int):=by omega
        have z2:(tm:Int)<(sl:Int):=by omega
        clear hcn' hpn' hqn hu2 hless hxs htme hsx hsx2 hsl hsl' hs hc4 h44 hso hcI Hob htm hend2 hshown hset2;refine aR (.take 0 (.take 1 (.take 2 (.take 3 (.take 4 (.take 7 (.take 8 (.take 9 (.take 10 (.take 11 (.take 12 (.take 13 (.take 14 (.take 15 (.take 16 (.take 17 (.take 18 (.take 19 (.take 20 (.take 21 (.take 22 (.one 5 (.one 6 (.one 23 (.take 24 (.take 25 (.take 26 .nil))))))))))))))))))))))))))) (fun w'=>Ext Wb w') ?_ (fun hHd=> ?_)
        ·assumption
        repeat' first|((with_reducible refine aB ?_);(first|((with_reducible refine aB (i:=4) ?_);refine tk (v:=.agg #[.int .i64 (i0:Int),.bool bk]) ?_ hHd ?_;(·exact aA (by rfl) (fun W h=>HstL.out W h)))|((with_reducible refine aB (i:=10) ?_);refine tk (v:=.slice (some ad4) t.streets.length cp4) ?_ hHd ?_;(·exact aA (by rfl) (rl Tryz.underlying23 c101)))|((with_reducible refine aB (i:=15) ?_);refine tk (v:=.int .i64 (i0:Int)) ?_ hHd ?_;(·exact aA (by rfl) (rl Tryz.underlying3 c106)))|((with_reducible refine aB (i:=18) ?_);refine tk (v:=.slice (some adI) sl ci) ?_ hHd ?_;(·exact aA (by rfl) (rl Tryz.underlying41 c109)))|((with_reducible refine aB (i:=20) ?_);refine tk (v:=.int .i64 (tm:Int)) ?_ hHd ?_;(·exact aA (by rfl) (rl Tryz.underlying3 c111)))|((with_reducible refine aB (i:=22) ?_);refine tk (v:=.int .i64 xs) ?_ hHd ?_;(·exact aA (by rfl) (rl Tryz.underlying3 c113)))|(refine tk (v:= ?_) ?_ hHd ?_;rotate_left;(·(intro wq hSw;(try dsimp only at hSw);go_simp;(try with_reducible rfl)))));(try simp only[pS]))|((with_reducible refine bC ?_);refine aQ (by simp only[gS];rfl) ?_)|((with_reducible refine aH (d:=some 96) ?_);(((with_reducible refine kU (d:=some 96) (p:=(i0:Int)) (q:=bk) ?_ ?_);rfl;intro W96 g96 hE96 hB96 hg96;have hX96:Ext Wb W96:=Ext.trans (by assumption) hE96;replace hOh:=aX.ext hOh hE96)))|((with_reducible refine aH (d:=some 97) ?_);(((with_reducible refine iV (d:=some 97) (y:=⟨(i0:Int),bk⟩) ?_ hOh ?_ hB96 hlll ?_ ?_);rfl;rfl;(exact Ext.le (by assumption));intro A97 c97 W97 hO97 hm97 hg97;have hX97:Ext Wb W97:=hm97 _ (by assumption))))|((with_reducible refine aH (d:=some 114) ?_);((refine bD (by rfl) (cless _) (by go_simp) ?_;rintro e w' ⟨rfl,rfl⟩;refine⟨_,rfl,?_⟩)))|((with_reducible refine bB ?_);clear hHd;refine aJ ?_ (fun hHd=> ?_);(·assumption);(try simp only[pS]))|(with_reducible refine aG ?_)
        (go_wp2;go_roundg g;(case rel=>exact⟨hX97,L++ [⟨(i0:Int),bk⟩],qn,u2,_,by simpa using hO97,by rw[Hqn.out],rfl,Hc3.out,by rw[Hbs2.out,Hp3.out];simp,by simp;omega⟩);(case measure=>omega))
 ·have q1:(t.taskErr k !=0)=true:=by simp[hte]
  rw[Town.findAns_e hte];clear hte;go_enter Tryz.func24,Tryz.ntmps24
  go_wp2_with (first|((with_reducible refine aS (d:=some 4) fW ?_);intro W4 g4 hE4 hB4 hg4;have hg40:=Nat.le_trans hE.size hg4;simp[Value.cells] at hB4;(try replace hE:=hE.trans hE4);(try replace hT:=hT.ext hE4);(try replace hC:=hC.ext hE4);(try replace hB2:=hB2.ext hE4);(try replace hB3:=hB3.ext hE4);(try replace hb2_0:=Ext.c hE4 hb2_0);(try replace hb2_1:=Ext.c hE4 hb2_1);(try replace hb2_2:=Ext.c hE4 hb2_2);(try replace hb2_3:=Ext.c hE4 hb2_3);(try replace hb3_0:=Ext.c hE4 hb3_0);(try replace hb3_1:=Ext.c hE4 hb3_1);(try replace hb3_2:=Ext.c hE4 hb3_2);(try replace hb3_3:=Ext.c hE4 hb3_3);(try replace hb3_4:=Ext.c hE4 hb3_4))|(go_at_call 38;((with_reducible refine(fN _ _ t k _ (by exact aM.of hT) (by exact bA.of hC)).mono ?_);rintro e WcT ⟨rfl,hEcT⟩;(try replace hE:=hE.trans hEcT);(try replace hT:=hT.ext hEcT);(try replace hC:=hC.ext hEcT);(try replace hB2:=hB2.ext hEcT);(try replace hB3:=hB3.ext hEcT);(try replace hB4:=hB4.ext hEcT);(try replace hb2_0:=Ext.c hEcT hb2_0);(try replace hb2_1:=Ext.c hEcT hb2_1);(try replace hb2_2:=Ext.c hEcT hb2_2);(try replace hb2_3:=Ext.c hEcT hb2_3);(try replace hb3_0:=Ext.c hEcT hb3_0);(try replace hb3_1:=Ext.c hEcT hb3_1);(try replace hb3_2:=Ext.c hEcT hb3_2);(try replace hb3_3:=Ext.c hEcT hb3_3);(try replace hb3_4:=Ext.c hEcT hb3_4)))|(((with_reducible refine aK (t:=36) (e:=36) (g:=g4) (off:=0) (n:=5) (v:=.agg #[.slice none 0 0,.int .i64 0,.int .i64 0,.int .i64 0,.int .i64 0]) ?_ ?_ hB4 cW ?_ ?_ ?_ ?_);rfl;rfl;rfl;(simp[Value.cells]);(exact mB rfl);intro Ws hBs hgrs;simp[aI,Value.cells] at hBs;replace hE:=aD hE hgrs hg40))|((with_reducible refine aF (d:=some 2) ?_);intro W2 g2 hE2 hB2 hg2;simp[Act.eval,Act.put,Value.cells] at hB2;(try replace hE:=hE.trans hE2);(try replace hT:=hT.ext hE2);(try replace hC:=hC.ext hE2);have hb2_0:=hB2.cell 0;have hb2_1:=hB2.cell 1;have hb2_2:=hB2.cell 2;have hb2_3:=hB2.cell 3;simp at hb2_0 hb2_1 hb2_2 hb2_3;clear hE2)|((with_reducible refine aF (d:=some 3) ?_);intro W3 g3 hE3 hB3 hg3;simp[Act.eval,Act.put,Value.cells] at hB3;(try replace hE:=hE.trans hE3);(try replace hT:=hT.ext hE3);(try replace hC:=hC.ext hE3);(try replace hB2:=hB2.ext hE3);(try replace hb2_0:=Ext.c hE3 hb2_0);(try replace hb2_1:=Ext.c hE3 hb2_1);(try replace hb2_2:=Ext.c hE3 hb2_2);(try replace hb2_3:=Ext.c hE3 hb2_3);have hb3_0:=hB3.cell 0;have hb3_1:=hB3.cell 1;have hb3_2:=hB3.cell 2;have hb3_3:=hB3.cell 3;have hb3_4:=hB3.cell 4;simp at hb3_0 hb3_1 hb3_2 hb3_3 hb3_4;clear hE3))
  refine jQ rfl rfl rfl (bT hBs) ?_;exact⟨_,rfl,⟨_,rfl,aX.nil _ _⟩,hE⟩
end Go.St
end
section
namespace Go.St
open Go Go.Bp Go.RowKit Go.Proofs
set_option maxHeartbeats 4000000 in
theorem Qs(tv kv:Value)(t:Town)(k:Task)(w:World)(h:aM w tv t)(hk:bA w kv k)(hv:Env w):Calls Tryz.prog 5 #[tv,kv] w (dB w true):=by
 have hT0:=h;obtain⟨pv,sv,tmv,xv,rfl,hT⟩:=h;obtain⟨A1,cp1,rfl,_,_,_,_⟩:=hT.places;obtain⟨A2,cp2,rfl,_,_,_,_⟩:=hT.shows;obtain⟨A3,cp3,rfl,_,_,_,_⟩:=hT.times;obtain⟨A4,cp4,rfl,_,_,_⟩:=hT.streets;clear hT;have hE:=Ext.refl w;obtain⟨cv,rfl,hC⟩:=hk;obtain⟨A5,cp5,rfl,_,_,_,_⟩:=id hC;have hK:=bA.of hC;obtain⟨⟨x,z⟩,hr⟩:∃r,t.findAns k=r:=⟨_,rfl⟩;have HP:=Lib.hid (fun W v u(h:aM W v t)(h2:bA W u k)=>by have:=gQ v u t k W h h2;rw[hr] at this;exact this)
 have HR:=Lib.hid (fun W v u(h:aM W v t)(h2:bA W u k)=>by have:=Ik v u t k W h h2;rw[hr] at this;exact this)
 have HT:=Lib.hid (show∀v u W,nJ W v x→nJ W u x→Calls Tryz.prog 22 #[v,u] W (dB W true) from fun v u W h h'=>by have:=pP v u _ _ W h h';rwa [show kT x x=true by simp[kT]] at this)
 clear hr;go_enter Tryz.func5,Tryz.ntmps5
 go_wp2_with (first|(((with_reducible refine aC (d:=some 10) (hl:=aL hB2) ?_ ?_);rfl))|(((with_reducible refine aC (d:=some 16) (hl:=aL hB2) ?_ ?_);rfl))|(((with_reducible refine aC (d:=some 11) (hl:=bU hB3) ?_ ?_);rfl))|(((with_reducible refine aC (d:=some 17) (hl:=bU hB3) ?_ ?_);rfl))|(go_at_call 23;((with_reducible refine(HP.out _ _ _ (by exact hT0) (by exact hK)).mono ?_);rintro e WcP ⟨v5,rfl,hO5,hEcP⟩;(try replace hE:=hE.trans hEcP);(try replace hT0:=hT0.ext hEcP);(try replace hK:=hK.ext hEcP);(try replace hB2:=hB2.ext hEcP);(try replace hB3:=hB3.ext hEcP);have hV5:=hO5.tour;obtain⟨s5,rfl,hOs5⟩:=hO5;obtain⟨A75,c75,e75,_⟩:=hOs5.steps;subst e75))|(go_at_call 24;((with_reducible refine(HR.out _ _ _ (by exact hT0) (by exact hK)).mono ?_);rintro e WcR ⟨v7,rfl,hO7,hEcR⟩;(try replace hE:=hE.trans hEcR);(try replace hV5:=hV5.ext hEcR);(try replace hB5:=hB5.ext hEcR);have hV7:=hO7.tour;obtain⟨s7,rfl,hOs7⟩:=hO7;obtain⟨A77,c77,e77,_⟩:=hOs7.steps;subst e77))|((with_reducible refine aO (e:=36) (u:=5) (v:=.agg #[.slice A75 x.steps.length c75,.int .i64 x.metres,.int .i64 x.lo,.int .i64 x.hi,.int .i64 x.shown]) fW ?_ ?_ ?_ ?_ ?_ ?_);(intro g;rfl);(intro g;rfl);rfl;rfl;(simp[Value.cells,Value.oneCell']);intro W5 g5 hE5 hB5 hg5;simp[Value.cells] at hB5;(try replace hE:=hE.trans hE5);(try replace hT0:=hT0.ext hE5);(try replace hK:=hK.ext hE5);(try replace hV5:=hV5.ext hE5);(try replace hB2:=hB2.ext hE5);(try replace hB3:=hB3.ext hE5);clear hE5)|((with_reducible refine aO (e:=36) (u:=7) (v:=.agg #[.slice A77 x.steps.length c77,.int .i64 x.metres,.int .i64 x.lo,.int .i64 x.hi,.int .i64 x.shown]) fW ?_ ?_ ?_ ?_ ?_ ?_);(intro g;rfl);(intro g;rfl);rfl;rfl;(simp[Value.cells,Value.oneCell']);intro W7 g7 hE7 hB7 hg7;simp[Value.cells] at hB7;(try replace hE:=hE.trans hE7);(try replace hV5:=hV5.ext hE7);(try replace hV7:=hV7.ext hE7);(try replace hB5:=hB5.ext hE7);clear hE7)|(((with_reducible refine aC (d:=some 21) (hl:=bT hB5) ?_ ?_);rfl))|(((with_reducible refine aC (d:=some 22) (hl:=bT hB7) ?_ ?_);rfl))|(go_at_call 22;((with_reducible refine(HT.out _ _ _ (by exact hV5) (by exact hV7)).mono ?_);rintro e WcQ ⟨rfl,hEcQ⟩;(try replace hE:=hE.trans hEcQ)))|(go_at_call 19;((with_reducible refine(dS _ (by exact hv.ext hE)).mono ?_);rintro e WcK ⟨rfl,hEcK⟩;(try replace hE:=hE.trans hEcK)))|((with_reducible refine aF (d:=some 2) ?_);intro W2 g2 hE2 hB2 hg2;simp[Act.eval,Act.put,Value.cells] at hB2;(try replace hE:=hE.trans hE2);(try replace hT0:=hT0.ext hE2);(try replace hK:=hK.ext hE2);clear hE2)|((with_reducible refine aF (d:=some 3) ?_);intro W3 g3 hE3 hB3 hg3;simp[Act.eval,Act.put,Value.cells] at hB3;(try replace hE:=hE.trans hE3);(try replace hT0:=hT0.ext hE3);(try replace hK:=hK.ext hE3);(try replace hB2:=hB2.ext hE3);clear hE3))
 go_ret
 exact⟨rfl,hE⟩
end Go.St
end
section
namespace Go.Proofs.YtfjnacajjpaeiaaGreatDoor
open Go Go.Bp Go.St Go.RowKit Go.Proofs Go.ChangeShapes Go.WideShapes Go.ChangeAt
theorem ip5:(Rows.streetFindsRow.inPlace==Tryz.pinned.checked.prog.inPlace 5)=true:=by kernel_rfl
theorem uf5:(Rows.streetFindsRow.unfollowed==Tryz.pinned.checked.prog.unfollowed 5)=true:=by kernel_rfl
theorem rc5:(Rows.streetFindsRow.recurses==Tryz.pinned.checked.prog.recurses 5)=true:=by kernel_rfl
theorem nm5:(Rows.streetFindsRow.named==Tryz.pinned.checked.prog.varsNamed 5)=true:=by kernel_rfl
theorem Nt:joinedFacts Tryz.pinned.checked.prog 5 Tryz.f5 Rows.streetFindsSpec Rows.streetFindsRow=true:=by
 unfold joinedFacts;rw[ip5,uf5,rc5,nm5];kernel_rfl
end Go.Proofs.YtfjnacajjpaeiaaGreatDoor
end
