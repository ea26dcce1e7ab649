/- Chapter 03: contracts of functions of the program and of the reference, and plain laws (out of SR15 StN SY1). No condition of its own. -/
import Derived.Test.YtfjnacajjpaeiaaGreatDoorQD01
set_option maxRecDepth 100000
set_option linter.all false
section
namespace Go.St
open Go Go.Bp Go.RowKit Go.Proofs
theorem uY(kv:Value)(k:Task)(n:Int)(w:World)(h:bA w kv k):
 Calls Tryz.prog 90 #[kv,.int .i64 n] w (dB w (decide (n∈k.closed))):=by
 obtain⟨cv,rfl,⟨A,c,rfl,h1,h2,h3,h4⟩⟩:=h;unfold maxLen at h2;clear h3;have hE:=Ext.refl w;go_enter Tryz.func90,Tryz.ntmps90
 go_wp2_with (first|((with_reducible refine aF (d:=some 2) ?_);intro W2 g2 hE2 hB2 hg2;simp[Act.eval,Act.put,Value.cells] at hB2;(try replace hE:=hE.trans hE2);have hb2_0:=hB2.cell 0;have hb2_1:=hB2.cell 1;have hb2_2:=hB2.cell 2;have hb2_3:=hB2.cell 3;have hb2_4:=hB2.cell 4;simp at hb2_0 hb2_1 hb2_2 hb2_3 hb2_4;clear hE2))
 have k4:=hb2_4;go_loopw [5] (fun i wr=>Ext W2 wr∧∃j:Nat,j≤k.closed.length∧i=.int .i64 j∧n∉k.closed.take j) (fun i _=>k.closed.length-(intOf i).toNat)
 case atStart=>exact⟨Ext.refl _,0,by omega,rfl,by simp⟩
 case round=>
  obtain⟨hEr,j,hk,rfl,hn⟩:=hrel;have Hn:=Lib.hid hn;have d4:=hEr.c k4;clear hn hb2_0 hb2_1 hb2_2 hb2_3 hb2_4 hB2 k4;by_cases hlt:j<k.closed.length
  ·obtain⟨ad,rfl,hc⟩:=h4 (by omega)
   have e1:=((hc.ext hE).ext hEr).i hlt;clear h4 hc;by_cases he:k.closed[j]=n
   ·have hbe:(k.closed[j]==n)=true:=by simp[he]
    have Hr:=Lib.hid (show decide (n∈k.closed)=true by simp[←he,List.getElem_mem])
    clear he;go_wp2
    go_ret
    exact dB.of Hr.out (hE.trans hEr)
   ·have hbe:(k.closed[j]==n)=false:=by simp[he]
    have Hm:=Lib.hid (show n∉k.closed.take (j+1) by rw[cI _ hlt];exact mC Hn.out (fun e=>he e.symm))
    clear he;go_wp2
    go_roundw
    case rel=>exact⟨hEr,j+1,by omega,by go_num,Hm.out⟩
    case measure=>simp[intOf];omega
  ·obtain rfl:j=k.closed.length:=by omega
   have Hr:=Lib.hid (show decide (n∈k.closed)=false by have:=Hn.out;rw[List.take_length] at this;simp[this])
   clear h4;go_wp2
   go_ret
   exact dB.of Hr.out (hE.trans hEr)
end Go.St
end
section
namespace Go.St
open Go.Bp
namespace Town
variable{t:Town}{k:Task}
/-! ### ANY way -/
theorem jF(h:TaskOk t k):∀l:List Step,(∀x∈l,x∈t.stepsAll k)→0≤t.shownL k.time l∧t.shownL k.time l<t.sets
 | [],_=>by have:=(sets_bd h.ok.sh).1;exact⟨Int.le_refl 0,by show(0:Int)<_;omega⟩
 |x::l,hx=>by
  have ih:=jF h l (fun y hy=>hx y (by simp[hy]))
  obtain⟨h1,_,_⟩:=mem_stepsAll.1 (hx x (by simp))
  have hs:=(h.ok.shown (h.ok.atI h1) h.time).2;rw[iU];have hsets:t.sets=2^t.shows.length:=rfl;rw[hsets] at ih hs⊢;exact wA hs.1 hs.2 ih.1 ih.2
def doesB(t:Town)(k:Task)(x:Tour):Bool:=
 (x.steps.all fun y=>decide (y.st∉k.closed))&&decide ((t.driveAns k.a k.time x.steps).2.2=0)&&decide ((t.driveAns k.a k.time x.steps).2.1=k.b)&&decide (cH k.show_ (t.driveAns k.a k.time x.steps).1.shown=0)&&kT x (t.driveAns k.a k.time x.steps).1
end Town
end Go.St
end
section
namespace Go.St
open Go Go.Bp Go.RowKit Go.Proofs
namespace Town
variable{t:Town}{k:Task}
theorem sM:∀(l:List Step)(a:Int),(t.follow a l).2=0→∀x∈l,x.bk=true→(t.at_ x.st).both=true
 | [],_,_,x,hx=>by simp at hx
 |y::l,a,h,x,hx=>by
  unfold follow at h;by_cases hs:t.stepErr a y=0
  ·rw[if_neg (by simp[hs])] at h
   rcases List.mem_cons.1 hx with rfl|hx
   ·intro hb;unfold stepErr at hs;by_cases h1:inB x.st 0 (t.streets.length-1)=true
    ·rw[if_neg (by simp[h1])] at hs
     cases hc:(t.at_ x.st).both with
     |true=>rfl
     |false=>rw[if_pos ⟨hb,hc⟩] at hs;simp at hs
    ·rw[if_pos (by simpa using h1)] at hs;simp at hs
   ·exact sM l _ h x hx
  ·rw[if_pos hs] at h;exact absurd h hs
theorem Dh{a time:Int}{l:List Step}(h:(t.driveAns a time l).2.2=0):t.driveAns a time l=(t.tourOf time l,(t.stepsErr a l).1,0)∧(t.stepsErr a l).2=0:=by
 unfold driveAns at h⊢;split at h
 ·rename_i h1;exact absurd h h1
 ·split at h
  ·simp at h
  ·split at h
   ·rename_i h1;exact absurd h h1
   ·rename_i h1 h2 h3;refine⟨by rw[if_neg h1,if_neg h2,if_neg h3],?_⟩
    simpa using h3
theorem shown_bd(he:t.taskErr k=0){l:List Step}(hl:∀x∈l,x.st∉k.closed)(h:(t.driveAns k.a k.time l).2.2=0):0≤(t.driveAns k.a k.time l).1.shown∧(t.driveAns k.a k.time l).1.shown≤64:=by
 have hk:=taskOk_of he;obtain⟨h1,h2⟩:=Dh h;obtain⟨_,h3⟩:=stepsErr_follow h2;have hs:=sets_bd hk.ok.sh;have:=jF hk l (fun x hx=>mem_stepsAll.2 ⟨follow_st l _ h3 x hx,hl x hx,sM l _ h3 x hx⟩)
 rw[h1];show 0≤t.shownL k.time l∧t.shownL k.time l≤64
 omega
end Town
theorem yB{α:Type}{P:α→Prop}{l:List α}{k:Nat}(hk:k<l.length)(hb:∀x∈l.take k,P x)(hp:P l[k]):∀x∈l.take (k+1),P x:=(pT hk).2 ⟨hb,hp⟩
set_option maxHeartbeats 8000000 in
theorem Rt(tv kv xv:Value)(t:Town)(k:Task)(x:Tour)(w:World)(h:aM w tv t)(hk:bA w kv k)(hx:nJ w xv x)(he:t.taskErr k=0):
 Calls Tryz.prog 39 #[tv,kv,xv] w (dB w (t.doesB k x)):=by
 have hT0:=h;obtain⟨pv,shv,tmv,xsv,rfl,hT⟩:=h;obtain⟨A1,cp1,rfl,_,_,_,_⟩:=hT.places;obtain⟨A2,cp2,rfl,_,_,_,_⟩:=hT.shows;obtain⟨A3,cp3,rfl,_,_,_,_⟩:=hT.times;obtain⟨A4,cp4,rfl,_,_,_⟩:=hT.streets;clear hT;have hK0:=hk;obtain⟨cv,rfl,hC⟩:=hk;have hX0:=hx;obtain⟨sv,rfl,hS⟩:=hx;obtain⟨A6,c6,rfl,s1,s2,_,s4⟩:=id hS;unfold maxLen at s2;obtain⟨⟨y,b,e⟩,hd⟩:∃r,t.driveAns k.a k.time x.steps=r:=⟨_,rfl⟩;have HD:=Lib.hid (fun W v u(h:aM W v t)(h2:bY W u x.steps)=>by have:=mK v u t k.a k.time x.steps W h h2;rw[hd] at this;exact this)
 have hsh:=(aV.1 (Town.taskOk_of he).sh);have hsets:=Town.sets_bd (Town.taskOk_of he).ok.sh;have hbd:=fun hl h=>Town.shown_bd he (l:=x.steps) hl h
 have hdoes:t.doesB k x=((x.steps.all fun y=>decide (y.st∉k.closed))&&decide (e=0)&&decide (b=k.b)&&decide (cH k.show_ y.shown=0)&&kT x y):=by unfold Town.doesB;rw[hd]
 rw[hd] at hbd;simp only at hbd;have Hdo:=Lib.hid hdoes;have Hbd:=Lib.hid hbd;have hE:=Ext.refl w;clear hd hdoes hbd he;go_enter Tryz.func39,Tryz.ntmps39
 go_wp2_with (first|(((with_reducible refine aC (d:=some 12) (hl:=aL hB3) ?_ ?_);rfl))|(go_at_call 21;((with_reducible refine(HD.out _ _ _ (by exact hT0) (by exact hS)).mono ?_);rintro e WcR ⟨v7,rfl,hO7,hEcR⟩;(try replace hEcR:=Ext.undrew hEcR);(try replace hE:=hE.trans hEcR);(try replace hR:=hR.trans hEcR);(try replace hT0:=hT0.ext hEcR);(try replace hS:=hS.ext hEcR);(try replace hK0:=hK0.ext hEcR);(try replace hX0:=hX0.ext hEcR);(try replace hB3:=hB3.ext hEcR);(try replace hB4:=hB4.ext hEcR);(try replace hB5:=hB5.ext hEcR);(try replace hb3_0:=hEcR.c hb3_0);(try replace hb3_1:=hEcR.c hb3_1);(try replace hb3_2:=hEcR.c hb3_2);(try replace hb3_3:=hEcR.c hb3_3);(try replace hb4_0:=hEcR.c hb4_0);(try replace hb4_1:=hEcR.c hb4_1);(try replace hb4_2:=hEcR.c hb4_2);(try replace hb4_3:=hEcR.c hb4_3);(try replace hb4_4:=hEcR.c hb4_4);(try replace hb5_0:=hEcR.c hb5_0);(try replace hb5_1:=hEcR.c hb5_1);(try replace hb5_2:=hEcR.c hb5_2);(try replace hb5_3:=hEcR.c hb5_3);(try replace hb5_4:=hEcR.c hb5_4);have hV7:=hO7.tour;obtain⟨s7,rfl,hOs7⟩:=hO7;obtain⟨A7,c7,e7,_⟩:=hOs7.steps;subst e7;have hR:=Ext.refl WcR;have kK:=hK0;have kX:=hX0;have kS:=hS;have k4:=hB4;have k5:=hB5))|((with_reducible refine aS (d:=some 7) fW ?_);intro W7 g7 hE7 hB7 hg7;have hg70:=Nat.le_trans hE.size hg7;simp[Value.cells] at hB7;(try replace hE:=hE.trans hE7);(try replace hR:=hR.trans hE7);(try replace hT0:=hT0.ext hE7);(try replace hS:=hS.ext hE7);(try replace hK0:=hK0.ext hE7);(try replace hX0:=hX0.ext hE7);(try replace hB3:=hB3.ext hE7);(try replace hB4:=hB4.ext hE7);(try replace hB5:=hB5.ext hE7);(try replace hb3_0:=hE7.c hb3_0);(try replace hb3_1:=hE7.c hb3_1);(try replace hb3_2:=hE7.c hb3_2);(try replace hb3_3:=hE7.c hb3_3);(try replace hb4_0:=hE7.c hb4_0);(try replace hb4_1:=hE7.c hb4_1);(try replace hb4_2:=hE7.c hb4_2);(try replace hb4_3:=hE7.c hb4_3);(try replace hb4_4:=hE7.c hb4_4);(try replace hb5_0:=hE7.c hb5_0);(try replace hb5_1:=hE7.c hb5_1);(try replace hb5_2:=hE7.c hb5_2);(try replace hb5_3:=hE7.c hb5_3);(try replace hb5_4:=hE7.c hb5_4))|(((with_reducible refine aK (t:=36) (e:=36) (g:=g7) (off:=0) (n:=5) (v:=.agg #[.slice A7 y.steps.length c7,.int .i64 y.metres,.int .i64 y.lo,.int .i64 y.hi,.int .i64 y.shown]) ?_ ?_ hB7 cW ?_ ?_ ?_ ?_);rfl;rfl;rfl;(simp[Value.cells]);(exact mB rfl);intro Ws hBs hgrs;simp[aI,Value.cells] at hBs;replace hE:=aD hE hgrs hg70;replace hR:=aD hR hgrs hg7))|((with_reducible refine aF (d:=some 3) ?_);intro W3 g3 hE3 hB3 hg3;simp[Act.eval,Act.put,Value.cells] at hB3;(try replace hE:=hE.trans hE3);(try replace hR:=hR.trans hE3);(try replace hT0:=hT0.ext hE3);(try replace hS:=hS.ext hE3);(try replace hK0:=hK0.ext hE3);(try replace hX0:=hX0.ext hE3);(try replace hB3:=hB3.ext hE3);(try replace hB4:=hB4.ext hE3);(try replace hB5:=hB5.ext hE3);(try replace hb3_0:=hE3.c hb3_0);(try replace hb3_1:=hE3.c hb3_1);(try replace hb3_2:=hE3.c hb3_2);(try replace hb3_3:=hE3.c hb3_3);(try replace hb4_0:=hE3.c hb4_0);(try replace hb4_1:=hE3.c hb4_1);(try replace hb4_2:=hE3.c hb4_2);(try replace hb4_3:=hE3.c hb4_3);(try replace hb4_4:=hE3.c hb4_4);(try replace hb5_0:=hE3.c hb5_0);(try replace hb5_1:=hE3.c hb5_1);(try replace hb5_2:=hE3.c hb5_2);(try replace hb5_3:=hE3.c hb5_3);(try replace hb5_4:=hE3.c hb5_4);have hb3_0:=hB3.cell 0;have hb3_1:=hB3.cell 1;have hb3_2:=hB3.cell 2;have hb3_3:=hB3.cell 3;simp at hb3_0 hb3_1 hb3_2 hb3_3;clear hE3)|((with_reducible refine aF (d:=some 4) ?_);intro W4 g4 hE4 hB4 hg4;simp[Act.eval,Act.put,Value.cells] at hB4;(try replace hE:=hE.trans hE4);(try replace hR:=hR.trans hE4);(try replace hT0:=hT0.ext hE4);(try replace hS:=hS.ext hE4);(try replace hK0:=hK0.ext hE4);(try replace hX0:=hX0.ext hE4);(try replace hB3:=hB3.ext hE4);(try replace hB4:=hB4.ext hE4);(try replace hB5:=hB5.ext hE4);(try replace hb3_0:=hE4.c hb3_0);(try replace hb3_1:=hE4.c hb3_1);(try replace hb3_2:=hE4.c hb3_2);(try replace hb3_3:=hE4.c hb3_3);(try replace hb4_0:=hE4.c hb4_0);(try replace hb4_1:=hE4.c hb4_1);(try replace hb4_2:=hE4.c hb4_2);(try replace hb4_3:=hE4.c hb4_3);(try replace hb4_4:=hE4.c hb4_4);(try replace hb5_0:=hE4.c hb5_0);(try replace hb5_1:=hE4.c hb5_1);(try replace hb5_2:=hE4.c hb5_2);(try replace hb5_3:=hE4.c hb5_3);(try replace hb5_4:=hE4.c hb5_4);have hb4_0:=hB4.cell 0;have hb4_1:=hB4.cell 1;have hb4_2:=hB4.cell 2;have hb4_3:=hB4.cell 3;have hb4_4:=hB4.cell 4;simp at hb4_0 hb4_1 hb4_2 hb4_3 hb4_4;clear hE4)|((with_reducible refine aF (d:=some 5) ?_);intro W5 g5 hE5 hB5 hg5;simp[Act.eval,Act.put,Value.cells] at hB5;(try replace hE:=hE.trans hE5);(try replace hR:=hR.trans hE5);(try replace hT0:=hT0.ext hE5);(try replace hS:=hS.ext hE5);(try replace hK0:=hK0.ext hE5);(try replace hX0:=hX0.ext hE5);(try replace hB3:=hB3.ext hE5);(try replace hB4:=hB4.ext hE5);(try replace hB5:=hB5.ext hE5);(try replace hb3_0:=hE5.c hb3_0);(try replace hb3_1:=hE5.c hb3_1);(try replace hb3_2:=hE5.c hb3_2);(try replace hb3_3:=hE5.c hb3_3);(try replace hb4_0:=hE5.c hb4_0);(try replace hb4_1:=hE5.c hb4_1);(try replace hb4_2:=hE5.c hb4_2);(try replace hb4_3:=hE5.c hb4_3);(try replace hb4_4:=hE5.c hb4_4);(try replace hb5_0:=hE5.c hb5_0);(try replace hb5_1:=hE5.c hb5_1);(try replace hb5_2:=hE5.c hb5_2);(try replace hb5_3:=hE5.c hb5_3);(try replace hb5_4:=hE5.c hb5_4);have hb5_0:=hB5.cell 0;have hb5_1:=hB5.cell 1;have hb5_2:=hB5.cell 2;have hb5_3:=hB5.cell 3;have hb5_4:=hB5.cell 4;simp at hb5_0 hb5_1 hb5_2 hb5_3 hb5_4;clear hE5))
 replace kK:=kK.ext hR;replace kX:=kX.ext hR;replace kS:=kS.ext hR;replace k4:=k4.ext hR;replace k5:=k5.ext hR;have kV:=hV7.ext hR;clear hR hB3 hB4 hB5 hB7 hT0 hS hK0 hX0 hV7 hOs7 HD;go_loopw [10] (fun i wr=>Ext Ws wr∧∃j:Nat,j≤x.steps.length∧i=.int .i64 j∧∀s∈x.steps.take j,s.st∉k.closed) (fun i _=>x.steps.length-(intOf i).toNat)
 case atStart=>exact⟨Ext.refl _,0,by omega,rfl,by simp⟩
 case round=>
  obtain⟨hX,j,hj,rfl,hn⟩:=hrel;have Hn:=Lib.hid hn;have b4:=k4.ext hX;have b5:=k5.ext hX;have b7:=hBs.ext hX;have c50:=b5.cell 0;have c41:=b4.cell 1;have c42:=b4.cell 2;have c74:=b7.cell 4;simp at c50 c41 c42 c74;have hKr:=kK.ext hX;have hXr0:=kX.ext hX;have hVr:=kV.ext hX;clear hn;by_cases hlt:j<x.steps.length
  ·obtain⟨A,c,e1,h1,h2,_,h4⟩:=kS.ext hX;obtain⟨ad,e2,hc⟩:=h4 (by omega)
   injection e1 with e1 _ e3
   subst e1 e3 e2;have hsub:=oU hc hlt;have cs:=Gi hsub rfl;obtain⟨n,hnn⟩:∃n,x.steps[j].st=n:=⟨_,rfl⟩;rw[hnn] at cs;have hz:(j:Int)<(x.steps.length:Int):=by omega
   have Hnn:=Lib.hid hnn;clear h4 hc hsub hnn s4;by_cases hin:n∈k.closed
   ·have hcl:∀W,bA W (.agg #[.int .i64 k.a,.int .i64 k.b,.int .i64 k.show_,.int .i64 k.time,cv]) k→Calls Tryz.prog 90 #[.agg #[.int .i64 k.a,.int .i64 k.b,.int .i64 k.show_,.int .i64 k.time,cv],.int .i64 n] W (dB W true):=fun W h=>by have:=uY _ k n W h;rwa [show decide (n∈k.closed)=true by simp[hin]] at this
    have Hr:=Lib.hid (show(x.steps.all fun y=>decide (y.st∉k.closed))=false from List.all_eq_false.2 ⟨_,List.getElem_mem hlt,by simpa [Hnn.out] using hin⟩)
    clear hin;go_wp2
    have hXr:=Ext.todrew (Ext.refl wr);refine aR (.take 0 (.take 1 (.take 2 (.take 3 (.take 4 (.take 5 (.take 6 (.one 7 .nil)))))))) (fun w'=>Ext wr w') ?_ (fun hHd=> ?_)
    ·assumption
    repeat' first|((with_reducible refine aB ?_);(first|((with_reducible refine aB (i:=0) ?_);refine tk (v:=.agg #[.int .i64 k.a,.int .i64 k.b,.int .i64 k.show_,.int .i64 k.time,cv]) ?_ hHd ?_;(·exact aA (by rfl) (fun W h=>bU (b4.ext h))))|((with_reducible refine aB (i:=2) ?_);refine tk (v:=.slice (some ad) x.steps.length c6) ?_ hHd ?_;(·exact aA (by rfl) (rl Tryz.underlying32 c50)))|((with_reducible refine aB (i:=6) ?_);refine tk (v:=.int .i64 n) ?_ hHd ?_;(·exact aA (by rfl) (rl Tryz.underlying3 cs)))|(refine tk (v:= ?_) ?_ hHd ?_;rotate_left;(·(intro wq hSw;(try dsimp only at hSw);go_simp;(try with_reducible rfl)))));(try simp only[pS]))|((with_reducible refine bC ?_);refine aQ (by simp only[gS];rfl) ?_)|((with_reducible refine aH (d:=some 37) ?_);((refine bD (by rfl) (hcl _ (hKr.ext hXr)) (by go_simp) ?_;rintro e W37 ⟨rfl,hE37⟩;refine⟨_,rfl,?_⟩;have hX2:=hXr.trans hE37)))|((with_reducible refine bB ?_);clear hHd;refine aJ ?_ (fun hHd=> ?_);(·assumption);(try simp only[pS]))|(with_reducible refine aG ?_)
    go_wp2
    go_ret
    exact dB.of (by rw[Hdo.out,Hr.out];rfl) ((hE.trans hX).trans hX2)
   ·have hcl:∀W,bA W (.agg #[.int .i64 k.a,.int .i64 k.b,.int .i64 k.show_,.int .i64 k.time,cv]) k→Calls Tryz.prog 90 #[.agg #[.int .i64 k.a,.int .i64 k.b,.int .i64 k.show_,.int .i64 k.time,cv],.int .i64 n] W (dB W false):=fun W h=>by have:=uY _ k n W h;rwa [show decide (n∈k.closed)=false by simp[hin]] at this
    have Hm:=Lib.hid (yB (P:=fun s=>s.st∉k.closed) hlt Hn.out (by rw[Hnn.out];exact hin))
    clear hin;go_wp2
    have hXr:=Ext.todrew (Ext.refl wr);refine aR (.take 0 (.take 1 (.take 2 (.take 3 (.take 4 (.take 5 (.take 6 (.one 7 .nil)))))))) (fun w'=>Ext wr w') ?_ (fun hHd=> ?_)
    ·assumption
    repeat' first|((with_reducible refine aB ?_);(first|((with_reducible refine aB (i:=0) ?_);refine tk (v:=.agg #[.int .i64 k.a,.int .i64 k.b,.int .i64 k.show_,.int .i64 k.time,cv]) ?_ hHd ?_;(·exact aA (by rfl) (fun W h=>bU (b4.ext h))))|((with_reducible refine aB (i:=2) ?_);refine tk (v:=.slice (some ad) x.steps.length c6) ?_ hHd ?_;(·exact aA (by rfl) (rl Tryz.underlying32 c50)))|((with_reducible refine aB (i:=6) ?_);refine tk (v:=.int .i64 n) ?_ hHd ?_;(·exact aA (by rfl) (rl Tryz.underlying3 cs)))|(refine tk (v:= ?_) ?_ hHd ?_;rotate_left;(·(intro wq hSw;(try dsimp only at hSw);go_simp;(try with_reducible rfl)))));(try simp only[pS]))|((with_reducible refine bC ?_);refine aQ (by simp only[gS];rfl) ?_)|((with_reducible refine aH (d:=some 37) ?_);((refine bD (by rfl) (hcl _ (hKr.ext hXr)) (by go_simp) ?_;rintro e W37 ⟨rfl,hE37⟩;refine⟨_,rfl,?_⟩;have hX2:=hXr.trans hE37)))|((with_reducible refine bB ?_);clear hHd;refine aJ ?_ (fun hHd=> ?_);(·assumption);(try simp only[pS]))|(with_reducible refine aG ?_)
    go_wp2
    go_roundw
    case rel=>exact⟨hX.trans hX2,j+1,by omega,by go_num,Hm.out⟩
    case measure=>simp[intOf];omega
  ·obtain rfl:j=x.steps.length:=by omega
   have hall:∀s∈x.steps,s.st∉k.closed:=fun s hs=>Hn.out s (by rwa [List.take_length])
   have Ha:=Lib.hid (show(x.steps.all fun y=>decide (y.st∉k.closed))=true from List.all_eq_true.2 fun s hs=>by simpa using hall s hs)
   have hz:¬((x.steps.length:Int)<(x.steps.length:Int)):=by omega
   by_cases h0:e=0
   ·obtain⟨l1,l2⟩:=Hbd.out hall h0;subst h0;clear hall s4
    cases q1:decide (b=k.b) with
    |false=>
     have m1:(b==k.b)=false:=by simpa using q1
     go_wp2
     go_ret
     refine dB.of ?_ (hE.trans hX);rw[Hdo.out,Ha.out,q1];simp
    |true=>
     have m1:(b==k.b)=true:=by simpa using q1
     cases q2:decide (cH k.show_ y.shown=0) with
     |false=>
      have m2:(cH k.show_ y.shown==0)=false:=by simpa using q2
      go_wp2_with (go_at_call 44;refine(fI k.show_ y.shown ⟨by omega,by omega⟩ ⟨by omega,by omega⟩ _).mono ?_;rintro e w' ⟨rfl,rfl⟩)
      go_ret
      refine dB.of ?_ (hE.trans hX);rw[Hdo.out,Ha.out,q1,q2];simp
     |true=>
      have m2:(cH k.show_ y.shown==0)=true:=by simpa using q2
      have c51:=b5.cell 1;have c52:=b5.cell 2;have c53:=b5.cell 3;have c54:=b5.cell 4;have c70:=b7.cell 0;have c71:=b7.cell 1;have c72:=b7.cell 2;have c73:=b7.cell 3;simp at c51 c52 c53 c54 c70 c71 c72 c73;go_wp2_with (first|(go_at_call 44;refine(fI k.show_ y.shown ⟨by omega,by omega⟩ ⟨by omega,by omega⟩ _).mono ?_;rintro e w' ⟨rfl,rfl⟩)|(go_at_call 22;refine(pP _ _ x y _ hXr0 hVr).mono ?_;rintro e W57 ⟨rfl,hE57⟩;replace hX:=hX.trans hE57))
      go_ret
      refine dB.of ?_ (hE.trans hX);rw[Hdo.out,Ha.out,q1,q2];simp
   ·have m0:(e==0)=false:=by simpa using h0
    clear hall s4;go_wp2
    go_ret
    refine dB.of ?_ (hE.trans hX);rw[Hdo.out,Ha.out];simp[h0]
end Go.St
end
