/- Chapter 03: contracts of functions of the program and of the reference, and plain laws (out of SR15 LS1 KDrives). No condition of its own. -/
import Derived.Test.YtfjnacajjpaeiaaGreatDoorQB01
set_option maxRecDepth 100000
set_option linter.all false
section
namespace Go.St
open Go Go.Bp Go.RowKit Go.Proofs
def kT(x y:Tour):Bool:=decide (x.steps=y.steps)&&decide (x.metres=y.metres)&&decide (x.lo=y.lo∧x.hi=y.hi)&&decide (x.shown=y.shown)
set_option maxHeartbeats 4000000 in
theorem pP(v u:Value)(x y:Tour)(w:World)(h:nJ w v x)(h':nJ w u y):Calls Tryz.prog 22 #[v,u] w (dB w (kT x y)):=by
 obtain⟨sv,rfl,hS⟩:=h;obtain⟨su,rfl,hU⟩:=h';have hE:=Ext.refl w;have Ht:=Lib.hid (show kT x y=(decide (x.steps=y.steps)&&decide (x.metres=y.metres)&&decide (x.lo=y.lo∧x.hi=y.hi)&&decide (x.shown=y.shown)) from rfl)
 cases q1:decide (x.steps=y.steps) with
 |false=>
  go_enter Tryz.func22,Tryz.ntmps22
  go_wp2_with (first|(go_at_call 34;((with_reducible refine(fV _ _ x.steps y.steps _ (by exact hS) (by exact hU)).mono ?_);rintro e Wc1 ⟨rfl,hEc1⟩;(try replace hE:=hE.trans hEc1);rw[q1]))|((with_reducible refine aF (d:=some 2) ?_);intro W2 g2 hE2 hB2 hg2;simp[Act.eval,Act.put,Value.cells] at hB2;(try replace hE:=hE.trans hE2);(try replace hS:=hS.ext hE2);(try replace hU:=hU.ext hE2);have hb2_0:=hB2.cell 0;have hb2_1:=hB2.cell 1;have hb2_2:=hB2.cell 2;have hb2_3:=hB2.cell 3;have hb2_4:=hB2.cell 4;simp at hb2_0 hb2_1 hb2_2 hb2_3 hb2_4;clear hE2)|((with_reducible refine aF (d:=some 3) ?_);intro W3 g3 hE3 hB3 hg3;simp[Act.eval,Act.put,Value.cells] at hB3;(try replace hE:=hE.trans hE3);(try replace hS:=hS.ext hE3);(try replace hU:=hU.ext hE3);(try replace hb2_0:=hE3.c hb2_0);(try replace hb2_1:=hE3.c hb2_1);(try replace hb2_2:=hE3.c hb2_2);(try replace hb2_3:=hE3.c hb2_3);(try replace hb2_4:=hE3.c hb2_4);have hb3_0:=hB3.cell 0;have hb3_1:=hB3.cell 1;have hb3_2:=hB3.cell 2;have hb3_3:=hB3.cell 3;have hb3_4:=hB3.cell 4;simp at hb3_0 hb3_1 hb3_2 hb3_3 hb3_4;clear hE3))
  go_ret
  exact dB.of (by rw[Ht.out,q1];rfl) hE
 |true=>
  cases q2:decide (x.metres=y.metres) with
  |false=>
   have m2:(x.metres==y.metres)=false:=by simpa using q2
   go_enter Tryz.func22,Tryz.ntmps22
   go_wp2_with (first|(go_at_call 34;((with_reducible refine(fV _ _ x.steps y.steps _ (by exact hS) (by exact hU)).mono ?_);rintro e Wc2 ⟨rfl,hEc2⟩;(try replace hE:=hE.trans hEc2);(try replace hb2_1:=hEc2.c hb2_1);(try replace hb3_1:=hEc2.c hb3_1);rw[q1]))|((with_reducible refine aF (d:=some 2) ?_);intro W2 g2 hE2 hB2 hg2;simp[Act.eval,Act.put,Value.cells] at hB2;(try replace hE:=hE.trans hE2);(try replace hS:=hS.ext hE2);(try replace hU:=hU.ext hE2);have hb2_0:=hB2.cell 0;have hb2_1:=hB2.cell 1;have hb2_2:=hB2.cell 2;have hb2_3:=hB2.cell 3;have hb2_4:=hB2.cell 4;simp at hb2_0 hb2_1 hb2_2 hb2_3 hb2_4;clear hE2)|((with_reducible refine aF (d:=some 3) ?_);intro W3 g3 hE3 hB3 hg3;simp[Act.eval,Act.put,Value.cells] at hB3;(try replace hE:=hE.trans hE3);(try replace hS:=hS.ext hE3);(try replace hU:=hU.ext hE3);(try replace hb2_0:=hE3.c hb2_0);(try replace hb2_1:=hE3.c hb2_1);(try replace hb2_2:=hE3.c hb2_2);(try replace hb2_3:=hE3.c hb2_3);(try replace hb2_4:=hE3.c hb2_4);have hb3_0:=hB3.cell 0;have hb3_1:=hB3.cell 1;have hb3_2:=hB3.cell 2;have hb3_3:=hB3.cell 3;have hb3_4:=hB3.cell 4;simp at hb3_0 hb3_1 hb3_2 hb3_3 hb3_4;clear hE3))
   go_ret
   exact dB.of (by rw[Ht.out,q1,q2];rfl) hE
  |true=>
   have m2:(x.metres==y.metres)=true:=by simpa using q2
   go_enter Tryz.func22,Tryz.ntmps22
   go_wp2_with (first|(go_at_call 34;((with_reducible refine(fV _ _ x.steps y.steps _ (by exact hS) (by exact hU)).mono ?_);rintro e Wc3 ⟨rfl,hEc3⟩;(try replace hE:=hE.trans hEc3);(try replace hb2_1:=hEc3.c hb2_1);(try replace hb2_2:=hEc3.c hb2_2);(try replace hb2_3:=hEc3.c hb2_3);(try replace hb2_4:=hEc3.c hb2_4);(try replace hb3_1:=hEc3.c hb3_1);(try replace hb3_2:=hEc3.c hb3_2);(try replace hb3_3:=hEc3.c hb3_3);(try replace hb3_4:=hEc3.c hb3_4);rw[q1]))|((with_reducible refine aF (d:=some 2) ?_);intro W2 g2 hE2 hB2 hg2;simp[Act.eval,Act.put,Value.cells] at hB2;(try replace hE:=hE.trans hE2);(try replace hS:=hS.ext hE2);(try replace hU:=hU.ext hE2);have hb2_0:=hB2.cell 0;have hb2_1:=hB2.cell 1;have hb2_2:=hB2.cell 2;have hb2_3:=hB2.cell 3;have hb2_4:=hB2.cell 4;simp at hb2_0 hb2_1 hb2_2 hb2_3 hb2_4;clear hE2)|((with_reducible refine aF (d:=some 3) ?_);intro W3 g3 hE3 hB3 hg3;simp[Act.eval,Act.put,Value.cells] at hB3;(try replace hE:=hE.trans hE3);(try replace hS:=hS.ext hE3);(try replace hU:=hU.ext hE3);(try replace hb2_0:=hE3.c hb2_0);(try replace hb2_1:=hE3.c hb2_1);(try replace hb2_2:=hE3.c hb2_2);(try replace hb2_3:=hE3.c hb2_3);(try replace hb2_4:=hE3.c hb2_4);have hb3_0:=hB3.cell 0;have hb3_1:=hB3.cell 1;have hb3_2:=hB3.cell 2;have hb3_3:=hB3.cell 3;have hb3_4:=hB3.cell 4;simp at hb3_0 hb3_1 hb3_2 hb3_3 hb3_4;clear hE3))
   all_goals
    go_ret
    refine dB.of ?_ hE;rw[Ht.out,q1,q2];simp only[Bool.true_and,Bool.and_true] at*;first|rfl|(by_cases h5:x.shown=y.shown<;>simp_all)
end Go.St
end
section
namespace Go.St
open Go Go.Bp Go.RowKit Go.Proofs
set_option maxHeartbeats 4000000 in
theorem Oh(tv lv:Value)(t:Town)(a tm:Int)(l:List Step)(w:World)(h:aM w tv t)(hl:bY w lv l)(hv:Env w):Calls Tryz.prog 4 #[tv,.agg #[.int .i64 a,.int .i64 tm],lv] w (dB w true):=by
 have hT0:=h;obtain⟨pv,sv,tmv,xv,rfl,hT⟩:=h;obtain⟨A1,cp1,rfl,_,_,_,_⟩:=hT.places;obtain⟨A2,cp2,rfl,_,_,_,_⟩:=hT.shows;obtain⟨A3,cp3,rfl,_,_,_,_⟩:=hT.times;obtain⟨A4,cp4,rfl,_,_,_⟩:=hT.streets;clear hT;have hE:=Ext.refl w;obtain⟨⟨x,y,z⟩,hr⟩:∃r,t.driveAns a tm l=r:=⟨_,rfl⟩;have HP:=Lib.hid (fun W v u(h:aM W v t)(h2:bY W u l)=>by have:=vF v u t a tm l W h h2;rw[hr] at this;exact this)
 have HR:=Lib.hid (fun W v u(h:aM W v t)(h2:bY W u l)=>by have:=mK v u t a tm l W h h2;rw[hr] at this;exact this)
 have HT:=Lib.hid (show∀v u W,nJ W v x→nJ W u x→Calls Tryz.prog 22 #[v,u] W (dB W true) from fun v u W h h'=>by have:=pP v u _ _ W h h';rwa [show kT x x=true by simp[kT]] at this)
 clear hr;go_enter Tryz.func4,Tryz.ntmps4
 go_wp2_with (first|(((with_reducible refine aC (d:=some 14) (hl:=aL hB3) ?_ ?_);rfl))|(((with_reducible refine aC (d:=some 25) (hl:=aL hB3) ?_ ?_);rfl))|(go_at_call 20;((with_reducible refine(HP.out _ _ _ (by exact hT0) (by exact hl)).mono ?_);rintro e WcP ⟨v7,rfl,hO7,hEcP⟩;(try replace hE:=hE.trans hEcP);(try replace hT0:=hT0.ext hEcP);(try replace hl:=hl.ext hEcP);(try replace hB3:=hB3.ext hEcP);(try replace hb4_0:=hEcP.c hb4_0);(try replace hb4_1:=hEcP.c hb4_1);have hV7:=hO7.tour;obtain⟨s7,rfl,hOs7⟩:=hO7;obtain⟨A77,c77,e77,_⟩:=hOs7.steps;subst e77))|(go_at_call 21;((with_reducible refine(HR.out _ _ _ (by exact hT0) (by exact hl)).mono ?_);rintro e WcR ⟨v10,rfl,hO10,hEcR⟩;(try replace hE:=hE.trans hEcR);(try replace hV7:=hV7.ext hEcR);(try replace hB7:=hB7.ext hEcR);have hV10:=hO10.tour;obtain⟨s10,rfl,hOs10⟩:=hO10;obtain⟨A710,c710,e710,_⟩:=hOs10.steps;subst e710))|((with_reducible refine aO (e:=36) (u:=7) (v:=.agg #[.slice A77 x.steps.length c77,.int .i64 x.metres,.int .i64 x.lo,.int .i64 x.hi,.int .i64 x.shown]) fW ?_ ?_ ?_ ?_ ?_ ?_);(intro g;rfl);(intro g;rfl);rfl;rfl;(simp[Value.cells,Value.oneCell']);intro W7 g7 hE7 hB7 hg7;simp[Value.cells] at hB7;(try replace hE:=hE.trans hE7);(try replace hT0:=hT0.ext hE7);(try replace hl:=hl.ext hE7);(try replace hV7:=hV7.ext hE7);(try replace hB3:=hB3.ext hE7);(try replace hb4_0:=hE7.c hb4_0);(try replace hb4_1:=hE7.c hb4_1);clear hE7)|((with_reducible refine aO (e:=36) (u:=10) (v:=.agg #[.slice A710 x.steps.length c710,.int .i64 x.metres,.int .i64 x.lo,.int .i64 x.hi,.int .i64 x.shown]) fW ?_ ?_ ?_ ?_ ?_ ?_);(intro g;rfl);(intro g;rfl);rfl;rfl;(simp[Value.cells,Value.oneCell']);intro W10 g10 hE10 hB10 hg10;simp[Value.cells] at hB10;(try replace hE:=hE.trans hE10);(try replace hV7:=hV7.ext hE10);(try replace hV10:=hV10.ext hE10);(try replace hB7:=hB7.ext hE10);clear hE10)|(((with_reducible refine aC (d:=some 35) (hl:=bT hB7) ?_ ?_);rfl))|(((with_reducible refine aC (d:=some 36) (hl:=bT hB10) ?_ ?_);rfl))|(go_at_call 22;((with_reducible refine(HT.out _ _ _ (by exact hV7) (by exact hV10)).mono ?_);rintro e WcQ ⟨rfl,hEcQ⟩;(try replace hE:=hE.trans hEcQ)))|(go_at_call 19;((with_reducible refine(dS _ (by exact hv.ext hE)).mono ?_);rintro e WcK ⟨rfl,hEcK⟩;(try replace hE:=hE.trans hEcK)))|((with_reducible refine aF (d:=some 3) ?_);intro W3 g3 hE3 hB3 hg3;simp[Act.eval,Act.put,Value.cells] at hB3;(try replace hE:=hE.trans hE3);(try replace hT0:=hT0.ext hE3);(try replace hl:=hl.ext hE3);clear hE3)|((with_reducible refine aF (d:=some 4) ?_);intro W4 g4 hE4 hB4 hg4;simp[Act.eval,Act.put,Value.cells] at hB4;(try replace hE:=hE.trans hE4);(try replace hT0:=hT0.ext hE4);(try replace hl:=hl.ext hE4);(try replace hB3:=hB3.ext hE4);have hb4_0:=hB4.cell 0;have hb4_1:=hB4.cell 1;simp at hb4_0 hb4_1;clear hE4))
 go_ret
 exact⟨rfl,hE⟩
end Go.St
end
section
namespace Go.Proofs.YtfjnacajjpaeiaaGreatDoor
open Go Go.Bp Go.St Go.RowKit Go.Proofs Go.ChangeShapes Go.WideShapes Go.ChangeAt
theorem ip4:(Rows.streetDrivesRow.inPlace==Tryz.pinned.checked.prog.inPlace 4)=true:=by kernel_rfl
theorem uf4:(Rows.streetDrivesRow.unfollowed==Tryz.pinned.checked.prog.unfollowed 4)=true:=by kernel_rfl
theorem rc4:(Rows.streetDrivesRow.recurses==Tryz.pinned.checked.prog.recurses 4)=true:=by kernel_rfl
theorem nm4:(Rows.streetDrivesRow.named==Tryz.pinned.checked.prog.varsNamed 4)=true:=by kernel_rfl
theorem Nu:joinedFacts Tryz.pinned.checked.prog 4 Tryz.f4 Rows.streetDrivesSpec Rows.streetDrivesRow=true:=by
 unfold joinedFacts;rw[ip4,uf4,rc4,nm4];kernel_rfl
end Go.Proofs.YtfjnacajjpaeiaaGreatDoor
end
