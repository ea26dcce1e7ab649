/- Chapter 03: contracts of functions of the program and of the reference, and plain laws (out of SW2 SX3). No condition of its own. -/
import Derived.LoopIn
import Derived.Test.YtfjnacajjpaeiaaGreatDoorP15
set_option maxRecDepth 100000
set_option linter.all false
section
namespace Go.St
open Go Go.Bp Go.RowKit Go.Proofs
theorem jO:(Tryz.prog.info? 4).map TypeInfo.size=some 1:=by kernel_rfl
theorem ti4:(Tryz.prog.info? 4).map (fun i=>(i.zero,i.size,i.bytes))=some (some (.bool false),1,1):=by kernel_rfl
theorem Ip:(Tryz.prog.info? 26).map (fun i=>(i.zero,i.size,i.bytes))=some (some (.int .i64 0),1,8):=by kernel_rfl
theorem oW{P:Program}{fn:Func}{R:Ending→World→Prop}{x y:Tmp}{t u:TypeId}{a:Act}{w:World}{p q:Addr}{v z:Value}(h:fn.results=#[.cell x t,.cell y u])(hd:a.defers=[])
 (hx:a.tmps.getD x undef=.pointer (some p))(hy:a.tmps.getD y undef=.pointer (some q))(hl:(loadVar t p).run P w=.ok v w)(hm:(loadVar u q).run P w=.ok z w)(hR:R (.returned (.tuple #[v,z])) w):bodyPost P fn R .ret a w:=by
 have hx':a.tmps[x]?.getD undef=.pointer (some p):=by simpa [Array.getD_eq_getD_getElem?] using hx
 have hy':a.tmps[y]?.getD undef=.pointer (some q):=by simpa [Array.getD_eq_getD_getElem?] using hy
 refine bodyPost_ret ?_ hd hR;simp[results,h,hx',hy',asAddr,hl,hm,Result.andThen]
theorem jV{w:World}{g:Nat}{b:Bool}(h:Blk w g 4 #[.bool b]):(loadVar 4 ⟨g,0,none⟩).run Tryz.prog w=.ok (.bool b) w:=aY Tryz.underlying4 rfl (by simpa using h.cell 0)
theorem gU{w:World}{g:Nat}{n:Int}(h:Blk w g 26 #[.int .i64 n]):(loadVar 26 ⟨g,0,none⟩).run Tryz.prog w=.ok (.int .i64 n) w:=aY Tryz.underlying26 rfl (by simpa using h.cell 0)
set_option maxHeartbeats 8000000 in
theorem nL(tv0 kv rv:Value)(t:Town)(k:Task)(rows:List (List Int))(w:World)(h:aM w tv0 t)(hk:bA w kv k)(hr:Rows w rv rows):
 Calls Tryz.prog 28 #[tv0,kv,rv] w (Pg w (t.provesAns k rows).1 (t.provesAns k rows).2):=by
 obtain⟨pv0,sv0,tv0,xv0,rfl,hT⟩:=h;obtain⟨clv,rfl,hC⟩:=hk;obtain⟨AT,cT,rfl,hT1,hT2,_⟩:=lY hr;unfold maxLen at hT2;have hR:=hr;clear hr;have hE:=Ext.refl w;by_cases hte:t.taskErr k=0
 ·have Hte:=Lib.hid hte;have hok:=Town.taskOk_of hte;have HK:=Lib.hid hok;have hp2:=hok.ok.p2;have hp1:=hok.ok.p1;have hst:=hok.ok.st;have hsh:=hok.ok.sh;have hsb:=Town.sets_bd hok.ok.sh;obtain⟨M,hM⟩:∃M:Nat,2^t.shows.length=M:=⟨_,rfl⟩;have hMs:t.sets=(M:Int):=by unfold Town.sets;rw[←hM];push_cast;rfl
  have hM2:1≤M∧M≤64:=by rw[hMs] at hsb;omega
  have HM:=Lib.hid hM;have HMs:=Lib.hid hMs;clear hte hok hsb hM hMs;refine nH Tryz.func28 rfl ?_;simp only[Tryz.ntmps28,List.size_toArray,List.length_cons,List.length_nil,Nat.reduceAdd,Nat.reduceSub,Array.replicate_succ,Array.replicate_zero,List.push_toArray,List.append_toArray,List.nil_append,List.cons_append];obtain⟨r8,r8e⟩:∃f:Nat→Array Oper→Bool→Go.Code,f=Go.Code.region:=⟨_,rfl⟩;rw[show Go.Code.region 8=r8 8 by rw[r8e]]
  replace r8e:=Lib.hid r8e;go_wp2_with (first|((with_reducible refine aS (d:=some 6) ti4 ?_);intro W6 g6 hE6 hB6 hg6;have hg60:=Nat.le_trans hE.size hg6;simp[Value.cells] at hB6;(try replace hE:=hE.trans hE6);(try replace hT:=hT.ext hE6);(try replace hC:=hC.ext hE6);(try replace hR:=hR.ext hE6);(try replace hB4:=hB4.ext hE6);(try replace hB5:=hB5.ext hE6);(try replace hb3_0:=hE6.c hb3_0);(try replace hb3_1:=hE6.c hb3_1);(try replace hb3_2:=hE6.c hb3_2);(try replace hb3_3:=hE6.c hb3_3);(try replace hb4_0:=hE6.c hb4_0);(try replace hb4_1:=hE6.c hb4_1);(try replace hb4_2:=hE6.c hb4_2);(try replace hb4_3:=hE6.c hb4_3);(try replace hb4_4:=hE6.c hb4_4))|((with_reducible refine aS (d:=some 7) Ip ?_);intro W7 g7 hE7 hB7 hg7;have hg70:=Nat.le_trans hE.size hg7;simp[Value.cells] at hB7;(try replace hE:=hE.trans hE7);(try replace hT:=hT.ext hE7);(try replace hC:=hC.ext hE7);(try replace hR:=hR.ext hE7);(try replace hB4:=hB4.ext hE7);(try replace hB5:=hB5.ext hE7);(try replace hB6:=hB6.ext hE7);(try replace hb3_0:=hE7.c hb3_0);(try replace hb3_1:=hE7.c hb3_1);(try replace hb3_2:=hE7.c hb3_2);(try replace hb3_3:=hE7.c hb3_3);(try replace hb4_0:=hE7.c hb4_0);(try replace hb4_1:=hE7.c hb4_1);(try replace hb4_2:=hE7.c hb4_2);(try replace hb4_3:=hE7.c hb4_3);(try replace hb4_4:=hE7.c hb4_4);have hE0:=hE)|(go_at_call 62;((with_reducible refine(iG _ _ t k _ (by exact aM.of hT) (by exact bA.of hC)).mono ?_);rintro e WcB ⟨hEcB,hq⟩;(try replace hE:=hE.trans hEcB);(try replace hR:=hR.ext hEcB);(try replace hB4:=hB4.ext hEcB);(try replace hB5:=hB5.ext hEcB);(try replace hB6:=hB6.ext hEcB);(try replace hB7:=hB7.ext hEcB);have hXb:=hEcB;obtain⟨_,gj,gi,gm,pv,sv,tv,xv,cv,vs,rfl,hTp,hCp,hgj,_,hgm,hQ⟩:=hq.resolve_left (fun h=>h.1 Hte.out)))|(((with_reducible refine aO (e:=109) (u:=8) (v:=.pointer (some ⟨gj,0,none⟩)) yX ?_ ?_ ?_ ?_ ?_ ?_);(intro g;rfl);(intro g;rfl);rfl;rfl;(simp[Value.cells,Value.oneCell']);intro W8 g8 hE8 hB8 hg8;simp[Value.cells] at hB8;have hEg:=hE.trans hE8;replace hE:=hE.trans hE8;replace hB4:=hB4.ext hE8;replace hB5:=hB5.ext hE8;replace hB6:=hB6.ext hE8;replace hB7:=hB7.ext hE8;replace hR:=hR.ext hE8;replace hXb:=hXb.trans hE8;replace hQ:=hQ.ext hE8))|((with_reducible refine aF (d:=some 3) ?_);intro W3 g3 hE3 hB3 hg3;simp[Act.eval,Act.put,Value.cells] at hB3;(try replace hE:=hE.trans hE3);(try replace hT:=hT.ext hE3);(try replace hC:=hC.ext hE3);(try replace hR:=hR.ext hE3);have hb3_0:=hB3.cell 0;have hb3_1:=hB3.cell 1;have hb3_2:=hB3.cell 2;have hb3_3:=hB3.cell 3;simp at hb3_0 hb3_1 hb3_2 hb3_3;clear hE3)|((with_reducible refine aF (d:=some 4) ?_);intro W4 g4 hE4 hB4 hg4;simp[Act.eval,Act.put,Value.cells] at hB4;(try replace hE:=hE.trans hE4);(try replace hT:=hT.ext hE4);(try replace hC:=hC.ext hE4);(try replace hR:=hR.ext hE4);(try replace hb3_0:=hE4.c hb3_0);(try replace hb3_1:=hE4.c hb3_1);(try replace hb3_2:=hE4.c hb3_2);(try replace hb3_3:=hE4.c hb3_3);have hb4_0:=hB4.cell 0;have hb4_1:=hB4.cell 1;have hb4_2:=hB4.cell 2;have hb4_3:=hB4.cell 3;have hb4_4:=hB4.cell 4;simp at hb4_0 hb4_1 hb4_2 hb4_3 hb4_4;clear hE4)|((with_reducible refine aF (d:=some 5) ?_);intro W5 g5 hE5 hB5 hg5;simp[Act.eval,Act.put,Value.cells] at hB5;(try replace hE:=hE.trans hE5);(try replace hT:=hT.ext hE5);(try replace hC:=hC.ext hE5);(try replace hR:=hR.ext hE5);(try replace hB4:=hB4.ext hE5);(try replace hb3_0:=hE5.c hb3_0);(try replace hb3_1:=hE5.c hb3_1);(try replace hb3_2:=hE5.c hb3_2);(try replace hb3_3:=hE5.c hb3_3);(try replace hb4_0:=hE5.c hb4_0);(try replace hb4_1:=hE5.c hb4_1);(try replace hb4_2:=hE5.c hb4_2);(try replace hb4_3:=hE5.c hb4_3);(try replace hb4_4:=hE5.c hb4_4);have hb5_0:=hB5.cell 0;simp at hb5_0;clear hE5))
  have hJ:=hQ.job;have hTq:=hJ.town;have j0:=hJ.blk.cell 0;have c50:=hB5.cell 0;have c80:=hB8.cell 0;simp at j0 c50 c80;obtain⟨A1,cp1,ep,_,hc1,_,_⟩:=hTp.places;subst ep;unfold maxLen at hc1;have hmf:∀(fn:Fn)(first cap:Array Value)(w:World),(Instr.makeFunc fn first cap).run Tryz.prog w=.ok (.func fn first cap) w:=fun _ _ _ _=>rfl
  clear hT hC hB3 hb3_0 hb3_1 hb3_2 hb3_3 hb4_0 hb4_1 hb4_2 hb4_3 hb4_4 hb5_0 hq hTp hCp hgj hgm hEg hXb hQ hEcB hE8 hg8 hE6 hE7 hE0;by_cases hlen:rows.length=t.places.length
  ·obtain⟨b3,hb3⟩:∃b,rows.any (fun r=> !decide (r.length=M))=b:=⟨_,rfl⟩
   have Hb3:=Lib.hid hb3;have Hlen:=Lib.hid hlen;have q1:((rows.length:Int) !=(t.places.length:Int))=false:=by simp[hlen]
   clear hb3 hlen;apply eF [25,26,27,28,29,30,31,32,33,34,35,36,37,38,39] (fun x w'=>x 39=.bool b3∧Ext W8 w')
   case h=>
    have hX:=Ext.todrew (Ext.refl W8);refine aR (.take 0 (.take 1 (.take 2 (.take 3 (.take 4 (.take 5 (.take 6 (.take 7 (.take 8 (.take 9 (.take 10 (.take 11 (.take 12 (.one 13 (.take 14 .nil))))))))))))))) (fun w'=>Ext W8 w') ?_ (fun hHd=> ?_)
    ·assumption
    repeat' first|((with_reducible refine aB ?_);(first|((with_reducible refine aB (i:=0) ?_);refine tk (v:=.slice AT rows.length cT) ?_ hHd ?_;(·exact aA (by rfl) (rl Tryz.underlying47 c50)))|((with_reducible refine aB (i:=2) ?_);refine tk (v:=.pointer (some ⟨gj,0,none⟩)) ?_ hHd ?_;(·exact aA (by rfl) (rl Tryz.underlying109 c80)))|((with_reducible refine aB (i:=7) ?_);refine tk (v:=.slice A1 t.places.length cp1) ?_ hHd ?_;(·exact aA (by rfl) (rl Tryz.underlying22 j0)))|((with_reducible refine aB (i:=9) ?_);refine tk (v:=.bool false) ?_ hHd ?_;(·(intro wq hSw;go_simp;first|done|exact q1|simp[q1])))|((with_reducible refine aB (i:=11) ?_);refine tw (v:=.slice AT rows.length cT) ?_ hHd ?_;(·exact aA (by rfl) (rl Tryz.underlying47 c50)))|((with_reducible refine aB (i:=12) ?_);refine tw (v:=.func (.func 74) #[] #[.pointer (some ⟨g8,0,none⟩)]) ?_ hHd ?_;(·(intro wq hSw;simp[execOp,hmf];rfl)))|(refine tk (v:= ?_) ?_ hHd ?_;rotate_left;(·(intro wq hSw;(try dsimp only at hSw);go_simp;(try with_reducible rfl)))));(try simp only[pS]))|((with_reducible refine bC ?_);refine aQ (by simp only[gS];rfl) ?_)|((with_reducible refine aH (d:=some 38) ?_);((refine bN (by rfl) (gZ 74 #[.pointer (some ⟨g8,0,none⟩)] (fun r=> !decide (r.length=M)) _ rows _ (hR.ext hX) Kt (fun x hx W u hW hu=>zR g8 gj M (.slice A1 t.places.length cp1) sv tv xv _ _ _ _ _ _ _ u t x W HMs.out hM2.2 hsh (hB8.ext (hX.trans hW)) (hJ.blk.ext (hX.trans hW)) (hTq.ext (hX.trans hW)) hu)) (by go_simp) ?_;rintro e W38 ⟨rfl,hE38⟩;refine⟨_,rfl,?_⟩;replace hX:=hX.trans hE38)))|((with_reducible refine bB ?_);clear hHd;refine aJ ?_ (fun hHd=> ?_);(·assumption);(try simp only[pS]))|(with_reducible refine aG ?_)
    all_goals
     refine⟨rfl,?_⟩;refine bL ?_ ?_
     ·simp only[Act.sets,Act.put,List.foldl_cons,List.foldl_nil,List.setIfInBounds_toArray,List.set_cons_zero,List.set_cons_succ,Act.get];rfl
     exact⟨by first|rfl|(rw[←Hb3.out];rfl),hX⟩
   rintro x4 W9 ⟨hx39,hE9⟩;simp only[Act.sets,Act.put,List.foldl_cons,List.foldl_nil,List.setIfInBounds_toArray,List.set_cons_zero,List.set_cons_succ,hx39];replace hE:=hE.trans hE9;replace hB4:=hB4.ext hE9;replace hB5:=hB5.ext hE9;replace hB6:=hB6.ext hE9;replace hB7:=hB7.ext hE9;replace hB8:=hB8.ext hE9;replace hR:=hR.ext hE9;replace hJ:=hJ.ext hE9
   cases b3 with
   |true=>
    have hans:=Lib.hid (Town.provesAns_3 (k:=k) (rows:=rows) Hte.out (.inr (by
     obtain⟨x,hx,h2⟩:=List.any_eq_true.1 Hb3.out;exact List.all_eq_false.2 ⟨x,hx,by rw[HM.out];simpa using h2⟩)))
    go_wp2_with (first|(((with_reducible refine aT (t:=4) (e:=4) (g:=g6) (off:=0) (v:=.bool false) ?_ ?_ hB6 jO ?_ ?_ ?_ ?_);rfl;rfl;rfl;simp;rfl;intro Wa hBa hgra;simp at hBa;have hB7a:=hB7.grown hgra (fun e=>blk_ne hB7 hB6 (by decide) (Option.some.inj e));have hEa:=aD hE hgra hg60))|(((with_reducible refine aT (t:=26) (e:=26) (g:=g7) (off:=0) (v:=.int .i64 3) ?_ ?_ hB7a kF ?_ ?_ ?_ ?_);rfl;rfl;rfl;simp;rfl;intro Wb hBb hgrb;simp at hBb;have hB6b:=hBa.grown hgrb (fun e=>blk_ne hBa hB7a (by decide) (Option.some.inj e));have hEb:=aD hEa hgrb hg70)))
    refine jS ?_;refine oW rfl rfl rfl rfl (jV hB6b) (gU hBb) ?_;rw[hans.out];exact⟨rfl,hEb⟩
   |false=>
    have hrl:∀r∈rows,r.length=M:=fun r hr=>by have:=List.any_eq_false.1 Hb3.out r hr;simpa using this
    have HRL:=Lib.hid hrl;obtain⟨b4,hb4⟩:∃b,rows.any (eC (-1) 20000000)=b:=⟨_,rfl⟩;have Hb4:=Lib.hid hb4;clear hb4 hrl Hb3
    cases b4 with
    |true=>
     have hans:=Lib.hid (Town.provesAns_7 (k:=k) (rows:=rows) Hte.out Hlen.out (fun r hr=>by rw[HM.out];exact HRL.out r hr) (by
      obtain⟨x,hx,h2⟩:=List.any_eq_true.1 Hb4.out;exact List.all_eq_false.2 ⟨x,hx,by rw[qJ] at h2;simpa using h2⟩))
     go_wp2_with (first|(((with_reducible refine aC (d:=some 40) (p:=⟨g5,0,none⟩) (v:=.slice AT rows.length cT) ?_ ?_ ?_);rfl;exact aY Tryz.underlying47 rfl (by simpa using hB5.cell 0)))|((go_at_call 73;refine(gZ 75 #[] (eC (-1) 20000000) _ rows _ hR At (fun x hx W u hW hu=>sD u x W hu)).mono ?_;rintro e W41 ⟨rfl,hE41⟩;rw[Hb4.out];replace hE:=hE.trans hE41;replace hB4:=hB4.ext hE41;replace hB5:=hB5.ext hE41;replace hB6:=hB6.ext hE41;replace hB7:=hB7.ext hE41;replace hB8:=hB8.ext hE41;replace hR:=hR.ext hE41;replace hJ:=hJ.ext hE41))|(((with_reducible refine aT (t:=4) (e:=4) (g:=g6) (off:=0) (v:=.bool false) ?_ ?_ hB6 jO ?_ ?_ ?_ ?_);rfl;rfl;rfl;simp;rfl;intro Wa hBa hgra;simp at hBa;have hB7a:=hB7.grown hgra (fun e=>blk_ne hB7 hB6 (by decide) (Option.some.inj e));have hEa:=aD hE hgra hg60))|(((with_reducible refine aT (t:=26) (e:=26) (g:=g7) (off:=0) (v:=.int .i64 7) ?_ ?_ hB7a kF ?_ ?_ ?_ ?_);rfl;rfl;rfl;simp;rfl;intro Wb hBb hgrb;simp at hBb;have hB6b:=hBa.grown hgrb (fun e=>blk_ne hBa hB7a (by decide) (Option.some.inj e));have hEb:=aD hEa hgrb hg70)))
     refine jS ?_;refine oW rfl rfl rfl rfl (jV hB6b) (gU hBb) ?_;rw[hans.out];exact⟨rfl,hEb⟩
    |false=>
     have hrg:∀r∈rows,∀n∈r,inB n (-1) 20000000=true:=fun r hr n hn=>by
      have h1:=List.any_eq_false.1 Hb4.out r hr;rw[qJ] at h1;have h2:(r.all fun n=>inB n (-1) 20000000)=true:=by simpa using h1
      exact List.all_eq_true.1 h2 n hn
     have HRG:=Lib.hid hrg;go_wp2_with (first|(((with_reducible refine aC (d:=some 40) (p:=⟨g5,0,none⟩) (v:=.slice AT rows.length cT) ?_ ?_ ?_);rfl;exact aY Tryz.underlying47 rfl (by simpa using hB5.cell 0)))|((go_at_call 73;refine(gZ 75 #[] (eC (-1) 20000000) _ rows _ hR At (fun x hx W u hW hu=>sD u x W hu)).mono ?_;rintro e W41 ⟨rfl,hE41⟩;rw[Hb4.out];replace hE:=hE.trans hE41;replace hB4:=hB4.ext hE41;replace hB5:=hB5.ext hE41;replace hB6:=hB6.ext hE41;replace hB7:=hB7.ext hE41;replace hB8:=hB8.ext hE41;replace hR:=hR.ext hE41;replace hJ:=hJ.ext hE41)))
     have e8:=r8e.out;subst e8;have hbI:=aV.1 HK.out.b;obtain⟨bn,hbn⟩:∃n:Nat,k.b=n:=⟨k.b.toNat,by omega⟩
     have hl:=Hlen.out;have hbl:bn<rows.length:=by omega
     obtain⟨AT',cT',eT,_,_,hT3⟩:=lY hR
     cases eT
     obtain⟨adT,rfl,hrow⟩:=hT3 (by omega)
     have HRow:=Lib.hid hrow;obtain⟨Bb,cb,e1,b1,b2,b3⟩:=hrow bn hbl;have hbM:=HRL.out rows[bn] (List.getElem_mem hbl);obtain⟨adb,rfl,hcb⟩:=b3 (by omega)
     have e2:=hcb.i (k:=0) (by omega)
     obtain⟨v0,hv0⟩:∃v,rows[bn][0]'(by omega)=v:=⟨_,rfl⟩
     have hval:eP rows k.b 0=v0:=by rw[hbn,←hv0];exact gJ (s:=0) hbl (by omega)
     rw[hv0] at e2;have Hval:=Lib.hid hval;have z1:(bn:Int)<(rows.length:Int):=by omega
     have z2:(0:Int)<(rows[bn].length:Int):=by omega
     have c41:=hB4.cell 1;simp at c41;rw[hbn] at c41;unfold maxLen at b2;clear hrg hl hv0 hval hrow hT3 b3 hcb hbI;rw[rN] at e2;have c50:=hB5.cell 0;have c80:=hB8.cell 0;simp at c50 c80;by_cases h0:v0=0
     ·subst h0;go_wp2_with (first|(go_at_call 64;refine(pA gj _).mono ?_;rintro e Wr ⟨gb,rfl,hEr,hgb,hBb⟩;replace hE:=hE.trans hEr;replace hB4:=hB4.ext hEr;replace hB5:=hB5.ext hEr;replace hB6:=hB6.ext hEr;replace hB7:=hB7.ext hEr;replace hB8:=hB8.ext hEr;replace hR:=hR.ext hEr;replace hJ:=hJ.ext hEr))
      have HRr:=Lib.hid (fun p(hp:p<rows.length)=>(HRow.out p hp).ext hEr)
      have hbase:=hE.size;have l6:=hB6.lt;have l7:=hB7.lt;clear e1 e2 c41 c50 c80 z1 z2 b1 b2 hbM hEr hgb;refine jJ (gf:=99) (lb:=#[.pointer (some ⟨gb,0,none⟩)]) (z:=.agg #[.int .i64 0,.bool false]) (val:=fun x:Step=>.agg #[.int .i64 x.st,.bool x.bk]) rfl uT (oZ gb gj (.slice A1 t.places.length cp1) sv tv xv cv (.slice (some ⟨gi,0,none⟩) t.places.length t.places.length) (.map (some gm)) t k HK.out) (fun _=>rfl) jK (fun _=>rfl) rfl (fun x c hc=>by simp[Value.cells] at hc;rcases hc with rfl|rfl<;>rfl) (fun x j=>by simp[fH,iO,Act.put,Act.eval]) (fun x j=>by simp[fH,iO,Act.put,Act.eval])
       (fun pre W=>(∀y∈pre,∀n:Nat,(n:Int)≤k.show_→aE (n:Int) k.show_=0→t.okAt k rows n y)∧Ext Wr W)
       (fun c pre W=>c=.ret∧¬t.ProvesP k rows∧Ext w W∧Blk W g6 4 #[.bool false]∧Blk W g7 26 #[.int .i64 0]) ?hI ?hIx ?hDt ?h0 ?body ?done ?stop
      case hI=>
       rintro pre A B row ⟨i1,i2⟩ hg hr;exact⟨i1,i2.grown hg i2.size (fun r e=>(hr r e).1)⟩
      case hIx=>
       rintro c pre A B row ⟨rfl,i1,i2,i3,i4⟩ hg hr;exact⟨rfl,i1,i2.grown hg i2.size (fun r e=>Nat.le_trans hbase (hr r e).1),Blk.abide i3 hg hr,Blk.abide i4 hg hr⟩
      case hDt=>
       rintro pre A ⟨_,i2⟩;exact⟨hBb.ext i2,hJ.ext i2⟩
      case h0=>exact⟨by simp,Ext.refl _⟩
      case done=>
       rintro D xs W' hD rfl ⟨i1,i2⟩ hKd;have hp:t.ProvesP k rows:=⟨Hval.out,i1⟩;have hans:=Lib.hid (Town.provesAns_0 (b:=true) Hte.out Hlen.out (fun r hr=>by rw[HM.out];exact HRL.out r hr) HRG.out (by simp[hp]))
       replace hE:=hE.trans i2;replace hB6:=hB6.ext i2;replace hB7:=hB7.ext i2;have HKd:=Lib.hid hKd;have n6:g6≠D:=by omega
       have n7:g7≠D:=by omega
       clear hp i1 i2 hKd hB4 hB5 hB8 hR hJ hBb;go_wp2_with (first|(((with_reducible refine aT (t:=4) (e:=4) (g:=g6) (off:=0) (v:=.bool true) ?_ ?_ hB6 jO ?_ ?_ ?_ ?_);rfl;rfl;rfl;simp;rfl;intro Wa hBa hgra;simp at hBa;have hB7a:=hB7.grown hgra (fun e=>blk_ne hB7 hB6 (by decide) (Option.some.inj e));have hEa:=aD hE hgra hg60))|(((with_reducible refine aT (t:=26) (e:=26) (g:=g7) (off:=0) (v:=.int .i64 0) ?_ ?_ hB7a kF ?_ ?_ ?_ ?_);rfl;rfl;rfl;simp;rfl;intro Wb hBb hgrb;simp at hBb;have hB6b:=hBa.grown hgrb (fun e=>blk_ne hBa hB7a (by decide) (Option.some.inj e));have hEb:=aD hEa hgrb hg70)))
       have hKz:Wb.heap[D]? =some (.deferred (some [])):=by
        have e1:=(hgra.block D (Array.getElem?_eq_some_iff.1 HKd.out).1 (fun e=>n6 (Option.some.inj e).symm)).trans HKd.out
        exact(hgrb.block D (Array.getElem?_eq_some_iff.1 e1).1 (fun e=>n7 (Option.some.inj e).symm)).trans e1
       refine pD rfl hKz ?_;refine oW rfl rfl rfl rfl (jV (g:=g6) (b:=true) ((World.putObj_heap_other n6).trans hB6b)) (gU (g:=g7) (n:=0) ((World.putObj_heap_other n7).trans hBb)) ?_;rw[hans.out];exact⟨rfl,oA hEb (Nat.le_trans hbase hD) _⟩
      case stop=>
       rintro D c pre W' hD _ ⟨rfl,i1,i2,i3,i4⟩ hKd;have hans:=Lib.hid (Town.provesAns_0 (b:=false) Hte.out Hlen.out (fun r hr=>by rw[HM.out];exact HRL.out r hr) HRG.out (by simp[i1]))
       have HKd:=Lib.hid hKd;have n6:g6≠D:=by omega
       have n7:g7≠D:=by omega
       clear i1 hKd hB4 hB5 hB8 hR hJ hBb hB6 hB7;go_wp2
       refine pD rfl HKd.out ?_;refine oW rfl rfl rfl rfl (jV (g:=g6) (b:=false) ((World.putObj_heap_other n6).trans i3)) (gU (g:=g7) (n:=0) ((World.putObj_heap_other n7).trans i4)) ?_;rw[hans.out];exact⟨rfl,oA i2 (Nat.le_trans hbase hD) _⟩
      case body=>
       rintro l0 pre x0 kx W' ⟨i1,hX0⟩ ⟨cn,hcn⟩ hkx hBx hlen hsz0;have hx:x0∈t.stepsAll k:=List.mem_of_mem_take (i:=cn) (by rw[←hcn];simp)
       obtain⟨n1,pn,qn,u,b,rfl,hn1,he1,hpn,he2,hqn,hu,hu64,hm1,hm2⟩:=zC HK.out hx;have HX:=Lib.hid (⟨hx,he1,he2,hu⟩:_∧_∧_∧_);have cends:=fun w h=>fL (.agg #[.slice A1 t.places.length cp1,sv,tv,xv]) t n1 b w h hn1
       rw[he1,he2] at cends;have cshow:=fun w h=>pB gj n1 b (.slice A1 t.places.length cp1) sv tv xv cv (.slice (some ⟨gi,0,none⟩) t.places.length t.places.length) (.map (some gm)) t k w h HK.out hn1
       rw[hu] at cshow;clear hcn he1 he2 hu hx;simp only[iO,rC,Act.put,List.setIfInBounds_toArray,List.set_cons_zero,List.set_cons_succ];refine wpIn_block ?_;refine wpIn_seq ?_;have hB8r:=hB8.ext hX0;have c80:=hB8r.cell 0;simp at c80;apply gI [54,55,56,57,58,59,53,60,61,11,12] (fun x w'=>x 11=.int .i64 pn∧x 12=.int .i64 qn∧Ext W' w')
       case h=>
        have hX:=Ext.todrew (Ext.refl W');have hJr:=hJ.ext hX0;refine bK (.take 0 (.take 1 (.take 2 (.take 3 (.take 4 (.one 5 (.take 6 (.take 7 (.take 8 (.take 9 (.take 10 .nil))))))))))) (fun w'=>Ext W' w') (by kernel_rfl) (by kernel_rfl) (by rintro⟨_,_,h⟩;first|exact h|exact absurd h.1 (fun e=>by cases e)) (by kernel_rfl) (by kernel_rfl) (by kernel_rfl) (by intro _ _ _ _ _ h;first|exact h|exact absurd h.1 (fun e=>by cases e)) ?_ (fun hHd=> ?_)
        ·(first|exact True.intro|((try dsimp only);(repeat' apply And.intro)<;>first|assumption|(refine Ext.cell_some (Ext.todrew (Ext.refl _)) ?_;assumption)))
        repeat' first|((with_reducible refine aB ?_);(first|((with_reducible refine aB (i:=0) ?_);refine tk (v:=.pointer (some ⟨gj,0,none⟩)) ?_ hHd ?_;(·exact aA (by rfl) (rl Tryz.underlying109 c80)))|((with_reducible refine aB (i:=3) ?_);refine tk (v:=.agg #[.slice A1 t.places.length cp1,sv,tv,xv]) ?_ hHd ?_;(·exact aA (by rfl) (fun W h=>qP (hJr.ext h))))|((with_reducible refine aB (i:=4) ?_);refine tk (v:=.agg #[.int .i64 n1,.bool b]) ?_ hHd ?_;(·exact aA (by rfl) (fun W h=>bZ (hBx.ext h))))|(refine tk (v:= ?_) ?_ hHd ?_;rotate_left;(·(intro wq hSw;(try dsimp only at hSw);go_simp;(try with_reducible rfl)))));(try simp only[pS]))|((with_reducible refine bC ?_);refine aQ (by simp only[gS];rfl) ?_)|((with_reducible refine aH (d:=some 59) ?_);((refine bD (by rfl) (cends _ (aM.of (hJr.town.ext hX))) (by go_simp) ?_;rintro e W59 ⟨rfl,hE59⟩;refine⟨_,rfl,?_⟩;replace hX:=hX.trans hE59)))|((with_reducible refine bB ?_);clear hHd;refine aJ ?_ (fun hHd=> ?_);(·(first|exact True.intro|((try dsimp only);(repeat' apply And.intro)<;>first|assumption|(refine Ext.cell_some (Ext.todrew (Ext.refl _)) ?_;assumption))));(try simp only[pS]))|(with_reducible refine aG ?_)
        all_goals
         refine⟨rfl,?_⟩;refine bL ?_ ?_
         ·simp only[Act.sets,Act.put,List.foldl_cons,List.foldl_nil,List.setIfInBounds_toArray,List.set_cons_zero,List.set_cons_succ,Act.get];rfl
         exact⟨rfl,rfl,hX⟩
       rintro x12 W13 ⟨hx11,hx12,hE13⟩;simp only[Act.sets,Act.put,List.foldl_cons,List.foldl_nil,List.setIfInBounds_toArray,List.set_cons_zero,List.set_cons_succ,hx11,hx12];have hXa:=hX0.trans hE13;have hUp:=UpT.ofExt (t:=82) (B:=Wr.heap.size) hE13;replace hBx:=hBx.ext hE13;obtain⟨sn,hsn⟩:∃n:Nat,k.show_=n:=⟨k.show_.toNat,by have:=aV.1 HK.out.sh;omega⟩
       have hsM:sn<M:=by have h1:=aV.1 HK.out.sh;have h2:=HMs.out;omega
       have c42:=(hB4.ext hXa).cell 2;simp at c42;rw[hsn] at c42;have Hsn:=Lib.hid hsn;have ws1:IntKind.i64.wrap ((sn:Int)+1)=((sn+1:Nat):Int):=by rw[bM (by omega) (by omega)];omega
       clear hE13 c80 hB8r cends hsn;change Code.wpIn _ _ _ _ _ _ _;gi_wp2_with (rw[Oper.semAt_eq _ _ _ (fun c h=>by cases h)];go_simp;try go_bits)
       gi_loopw [65] (fun vi W=>Ext W13 W∧∃n:Nat,vi=.int .i64 n∧n≤sn+1∧∀q:Nat,q<n→aE (q:Int) k.show_=0→t.okAt k rows q ⟨(n1:Int),b⟩) (fun vi _=>sn+1-(intOf vi).toNat)
       case atStart=>exact⟨Ext.refl _,0,rfl,by omega,by simp⟩
       case round=>
        obtain⟨hXl,n,rfl,hn3,hokn⟩:=hrel;have Hokn:=Lib.hid hokn;clear hokn;by_cases hlt3:n≤sn
        ·have z3:(n:Int)<((sn+1:Nat):Int):=by omega
         have hX1:=hXa.trans hXl;have hpl:pn<rows.length:=by have:=Hlen.out;omega
         have hql:qn<rows.length:=by have:=Hlen.out;omega
         have hpM:=HRL.out rows[pn] (List.getElem_mem hpl);have hqM:=HRL.out rows[qn] (List.getElem_mem hql);have hn64:n<64:=by omega
         obtain⟨s2,hs2⟩:∃x:Nat,aE (n:Int) (u:Int)=x:=⟨(aE (n:Int) (u:Int)).toNat,by have:=cM (n:Int) (u:Int);omega⟩
         have hs2M:s2<M:=by
          have h1:=lL (a:=(n:Int)) (b:=(u:Int)) (n:=t.shows.length) (by omega) (by have h3:t.sets=2^t.shows.length:=rfl;rw[←h3,HMs.out];omega)
          have h3:t.sets=2^t.shows.length:=rfl;rw[←h3,HMs.out,hs2] at h1;omega
         have hbl:bits .andNot .i64 (n:Int) (u:Int)=(s2:Int):=by rw[←hs2];exact lP hn64 hu64
         obtain⟨Bp,cp',p1,p2,p3,p4⟩:=(HRr.out pn hpl).ext hX1;obtain⟨Bq,cq',q1',q2,q3,q4⟩:=(HRr.out qn hql).ext hX1;obtain⟨adp,rfl,hcp⟩:=p4 (by omega)
         obtain⟨adq,rfl,hcq⟩:=q4 (by omega)
         have d1:=hcp.i (k:=n) (by omega)
         have d2:=hcq.i (k:=s2) (by omega)
         obtain⟨va,hva⟩:∃v,rows[pn][n]'(by omega)=v:=⟨_,rfl⟩
         obtain⟨vb,hvb⟩:∃v,rows[qn][s2]'(by omega)=v:=⟨_,rfl⟩
         rw[hva] at d1;rw[hvb] at d2;have ha1:=aV.1 (HRG.out rows[pn] (List.getElem_mem hpl) va (by rw[←hva];exact List.getElem_mem _))
         have hb1:=aV.1 (HRG.out rows[qn] (List.getElem_mem hql) vb (by rw[←hvb];exact List.getElem_mem _))
         have Hva:=Lib.hid (show eP rows (pn:Int) (n:Int)=va by rw[←hva];exact gJ hpl (by omega))
         have Hvb:=Lib.hid (show eP rows (qn:Int) (s2:Int)=vb by rw[←hvb];exact gJ hql (by omega))
         have Hs2:=Lib.hid hs2;rw[hpM] at p1 p2;rw[hqM] at q1' q2;unfold maxLen at p3 q3;have c50:=(hB5.ext hX1).cell 0;have c80:=(hB8.ext hX1).cell 0;have hBl:=hBx.ext hXl;simp at c50 c80;have z4:(pn:Int)<(rows.length:Int):=by omega
         have z5:(qn:Int)<(rows.length:Int):=by omega
         have z6:(n:Int)<(M:Int):=by omega
         have z7:(s2:Int)<(M:Int):=by omega
         clear hva hvb hs2 hcp hcq p4 q4 hpM hqM;gi_wp2_with (rw[Oper.semAt_eq _ _ _ (fun c h=>by cases h)];go_simp;try go_bits)
         apply gI [68,69,70,71,72,73,74,75,76,77,78,79,80,81,82,83,84,85,14,15] (fun x w'=>x 14=.int .i64 va∧x 15=.int .i64 vb∧Ext wr w')
         case h=>
          have hX:=Ext.todrew (Ext.refl wr);have hJr:=hJ.ext hX1;refine bK (.take 0 (.take 1 (.take 2 (.take 3 (.take 4 (.take 5 (.take 6 (.take 7 (.take 8 (.take 9 (.take 10 (.take 11 (.take 12 (.take 13 (.one 14 (.take 15 (.take 16 (.take 17 (.take 18 (.take 19 .nil)))))))))))))))))))) (fun w'=>Ext wr w') (by kernel_rfl) (by kernel_rfl) (by rintro⟨_,_,h⟩;first|exact h|exact absurd h.1 (fun e=>by cases e)) (by kernel_rfl) (by kernel_rfl) (by kernel_rfl) (by intro _ _ _ _ _ h;first|exact h|exact absurd h.1 (fun e=>by cases e)) ?_ (fun hHd=> ?_)
          ·(first|exact True.intro|((try dsimp only);(repeat' apply And.intro)<;>first|assumption|(refine Ext.cell_some (Ext.todrew (Ext.refl _)) ?_;assumption)))
          repeat' first|((with_reducible refine aB ?_);(first|((with_reducible refine aB (i:=0) ?_);refine tk (v:=.slice (some adT) rows.length cT) ?_ hHd ?_;(·exact aA (by rfl) (rl Tryz.underlying47 c50)))|((with_reducible refine aB (i:=3) ?_);refine tk (v:=.slice (some adp) M cp') ?_ hHd ?_;(·exact aA (by rfl) (rl Tryz.underlying41 p1)))|((with_reducible refine aB (i:=6) ?_);refine tk (v:=.int .i64 va) ?_ hHd ?_;(·exact aA (by rfl) (rl Tryz.underlying3 d1)))|((with_reducible refine aB (i:=7) ?_);refine tk (v:=.slice (some adT) rows.length cT) ?_ hHd ?_;(·exact aA (by rfl) (rl Tryz.underlying47 c50)))|((with_reducible refine aB (i:=10) ?_);refine tk (v:=.slice (some adq) M cq') ?_ hHd ?_;(·exact aA (by rfl) (fun W h=>aY Tryz.underlying41 rfl (Ext.cell_some h q1'))))|((with_reducible refine aB (i:=12) ?_);refine tk (v:=.pointer (some ⟨gj,0,none⟩)) ?_ hHd ?_;(·exact aA (by rfl) (rl Tryz.underlying109 c80)))|((with_reducible refine aB (i:=13) ?_);refine tk (v:=.agg #[.int .i64 n1,.bool b]) ?_ hHd ?_;(·exact aA (by rfl) (fun W h=>bZ (hBl.ext h))))|((with_reducible refine aB (i:=17) ?_);refine tk (v:=.int .i64 vb) ?_ hHd ?_;(·exact aA (by rfl) (rl Tryz.underlying3 d2)))|(refine tk (v:= ?_) ?_ hHd ?_;rotate_left;(·(intro wq hSw;(try dsimp only at hSw);go_simp;(try with_reducible rfl)))));(try simp only[pS]))|((with_reducible refine bC ?_);refine aQ (by simp only[gS];rfl) ?_)|((with_reducible refine aH (d:=some 82) ?_);((refine bD (by rfl) (cshow _ (hJr.ext hX)) (by go_simp) ?_;rintro e W82 ⟨rfl,hE82⟩;refine⟨_,rfl,?_⟩;replace hX:=hX.trans hE82)))|((with_reducible refine bB ?_);clear hHd;refine aJ ?_ (fun hHd=> ?_);(·assumption);(try simp only[pS]))|(with_reducible refine aG ?_)
          all_goals
           refine⟨rfl,?_⟩;refine bL ?_ ?_
           ·simp only[Act.sets,Act.put,List.foldl_cons,List.foldl_nil,List.setIfInBounds_toArray,List.set_cons_zero,List.set_cons_succ,Act.get];rfl
           exact⟨rfl,rfl,hX⟩
         rintro x16 W16 ⟨hx14,hx15,hE16⟩;simp only[Act.sets,Act.put,List.foldl_cons,List.foldl_nil,List.setIfInBounds_toArray,List.set_cons_zero,List.set_cons_succ,hx14,hx15];have hBl2:=hBl.ext hE16;replace c80:=hE16.c c80;have hX2:=hX1.trans hE16;have c42b:=Ext.cell_some (hXl.trans hE16) c42;clear hBl p1 q1' d1 d2 c50 z4 z5 z6 z7 p2 p3 q2 q3 hbl;gi_wp2_with (rw[Oper.semAt_eq _ _ _ (fun c h=>by cases h)];go_simp;try go_bits)
         have hJ2:=hJ.ext hX2;obtain⟨met,hmet⟩:∃m,(t.at_ (n1:Int)).metres=m:=⟨_,rfl⟩;have Hmet:=Lib.hid hmet;have hmb:=(⟨hm1,hm2⟩:_∧_);rw[hmet] at hmb;obtain⟨bm,hbm⟩:∃x,x=vb+met:=⟨_,rfl⟩;have wbm:IntKind.i64.wrap (vb+met)=bm:=by rw[bM (by omega) (by omega)];omega
         have Hbm:=Lib.hid hbm;have j3:=hJ2.blk.cell 3;have bx0:=hBl2.cell 0;simp at j3;simp[Value.cells] at bx0;obtain⟨As,cp,exv,h1,h2,h4⟩:=hJ2.town.streets;unfold maxLen at h2;rw[exv] at j3;obtain⟨ads,rfl,hcs⟩:=h4 (by omega)
         obtain⟨ssv,hss⟩:=hcs n1 hn1;have e2:=fld hss.1 (i:=2) (by decide) rfl
         rw[show t.streets[n1].metres=met by rw[←hmet,Town.at_eq hn1]] at e2
         have z2:(n1:Int)<(t.streets.length:Int):=by omega
         obtain⟨le,hle⟩:∃x,aE (n:Int) (sn:Int)=x:=⟨_,rfl⟩;have hbl:bits .andNot .i64 (n:Int) (sn:Int)=le:=by rw[←hle];exact lP hn64 (by omega)
         have Hle:=Lib.hid hle;obtain⟨bq,hbq⟩:∃b,decide (le=0∧0≤vb∧(va<0∨bm<va))=b:=⟨_,rfl⟩;have Hbq:=Lib.hid hbq;have c42:=c42b;clear hss hcs h4 hbq hbm hmet hle exv c42b;apply gI [86,87,88,89,90,91,92,93,94,95,96,97,98,99,100,101,102,103,104,105,106,107,108,109,110,111,112,113,114,115] (fun x w'=>x 115=.bool bq∧Ext W16 w')
         case h=>
          have hX:=Ext.todrew (Ext.refl W16);by_cases cA:le=0
          ·have hbl0:bits .andNot .i64 (n:Int) (sn:Int)=0:=by rw[hbl,cA]
           clear hbl;by_cases cB:0≤vb
           ·by_cases cC:va<0
            ·
             have hv:bq=true:=by rw[←Hbq.out];simp[cA,cB,cC]
             refine bK (.take 0 (.take 1 (.take 2 (.take 3 (.take 4 (.take 5 (.take 6 (.take 7 (.take 8 (.take 9 (.take 10 (.take 11 (.take 12 (.take 13 (.take 14 (.take 15 (.take 16 (.take 17 (.take 18 (.take 19 (.take 20 (.take 21 (.take 22 (.take 23 (.take 24 (.take 25 (.take 26 (.take 27 (.take 28 (.take 29 .nil)))))))))))))))))))))))))))))) (fun w'=>Ext W16 w') (by kernel_rfl) (by kernel_rfl) (by rintro⟨_,_,h⟩;first|exact h|exact absurd h.1 (fun e=>by cases e)) (by kernel_rfl) (by kernel_rfl) (by kernel_rfl) (by intro _ _ _ _ _ h;first|exact h|exact absurd h.1 (fun e=>by cases e)) ?_ (fun hHd=> ?_)
             ·(first|exact True.intro|((try dsimp only);(repeat' apply And.intro)<;>first|assumption|(refine Ext.cell_some (Ext.todrew (Ext.refl _)) ?_;assumption)))
             repeat' first|((with_reducible refine aB ?_);(first|((with_reducible refine aB (i:=2) ?_);refine tk (v:=.int .i64 sn) ?_ hHd ?_;(·exact aA (by rfl) (rl Tryz.underlying3 c42)))|((with_reducible refine aB (i:=4) ?_);refine tk (v:=.bool true) ?_ hHd ?_;(·(intro wq hSw;go_simp;first|done|simp[cA])))|((with_reducible refine aB (i:=8) ?_);refine tk (v:=.bool true) ?_ hHd ?_;(·(intro wq hSw;go_simp;first|done|simp[cB])))|((with_reducible refine aB (i:=12) ?_);refine tw (v:=.bool true) ?_ hHd ?_;(·(intro wq hSw;go_simp;first|done|simp[cC])))|((first|with_reducible refine aB (i:=6) ?_|with_reducible refine aB (i:=7) ?_|with_reducible refine aB (i:=10) ?_|with_reducible refine aB (i:=11) ?_|with_reducible refine aB (i:=28) ?_);(refine tw (v:= ?_) ?_ hHd ?_;rotate_left;(·(intro wq hSw;(try dsimp only at hSw);go_simp;(try with_reducible rfl)))))|(refine tk (v:= ?_) ?_ hHd ?_;rotate_left;(·(intro wq hSw;(try dsimp only at hSw);go_simp;(try with_reducible rfl))))|refine ts hHd ?_);(try simp only[pS]))|(with_reducible refine aG ?_)
             all_goals
              refine⟨rfl,?_⟩;refine bL ?_ ?_
              ·simp only[Act.sets,Act.put,List.foldl_cons,List.foldl_nil,List.setIfInBounds_toArray,List.set_cons_zero,List.set_cons_succ,Act.get];rfl
              exact⟨by rw[hv];rfl,hX⟩
            ·
             have hv:bq=decide (bm<va):=by rw[←Hbq.out];simp[cA,cB,cC]
             refine bK (.take 0 (.take 1 (.take 2 (.take 3 (.take 4 (.take 5 (.take 6 (.take 7 (.take 8 (.take 9 (.take 10 (.take 11 (.take 12 (.take 13 (.take 14 (.take 15 (.take 16 (.take 17 (.take 18 (.take 19 (.take 20 (.take 21 (.take 22 (.take 23 (.take 24 (.take 25 (.take 26 (.take 27 (.take 28 (.take 29 .nil)))))))))))))))))))))))))))))) (fun w'=>Ext W16 w') (by kernel_rfl) (by kernel_rfl) (by rintro⟨_,_,h⟩;first|exact h|exact absurd h.1 (fun e=>by cases e)) (by kernel_rfl) (by kernel_rfl) (by kernel_rfl) (by intro _ _ _ _ _ h;first|exact h|exact absurd h.1 (fun e=>by cases e)) ?_ (fun hHd=> ?_)
             ·(first|exact True.intro|((try dsimp only);(repeat' apply And.intro)<;>first|assumption|(refine Ext.cell_some (Ext.todrew (Ext.refl _)) ?_;assumption)))
             repeat' first|((with_reducible refine aB ?_);(first|((with_reducible refine aB (i:=2) ?_);refine tk (v:=.int .i64 sn) ?_ hHd ?_;(·exact aA (by rfl) (rl Tryz.underlying3 c42)))|((with_reducible refine aB (i:=4) ?_);refine tk (v:=.bool true) ?_ hHd ?_;(·(intro wq hSw;go_simp;first|done|simp[cA])))|((with_reducible refine aB (i:=8) ?_);refine tk (v:=.bool true) ?_ hHd ?_;(·(intro wq hSw;go_simp;first|done|simp[cB])))|((with_reducible refine aB (i:=12) ?_);refine tw (v:=.bool false) ?_ hHd ?_;(·(intro wq hSw;go_simp;first|done|simp[cC])))|((with_reducible refine aB (i:=15) ?_);refine tw (v:=.pointer (some ⟨gj,0,none⟩)) ?_ hHd ?_;(·exact aA (by rfl) (rl Tryz.underlying109 c80)))|((with_reducible refine aB (i:=20) ?_);refine tw (v:=.slice (some ads) t.streets.length cp) ?_ hHd ?_;(·exact aA (by rfl) (rl Tryz.underlying23 j3)))|((with_reducible refine aB (i:=22) ?_);refine tw (v:=.int .i64 n1) ?_ hHd ?_;(·exact aA (by rfl) (rl Tryz.underlying3 bx0)))|((with_reducible refine aB (i:=25) ?_);refine tw (v:=.int .i64 met) ?_ hHd ?_;(·exact aA (by rfl) (rl Tryz.underlying3 e2)))|((with_reducible refine aB (i:=26) ?_);refine tw (v:=.int .i64 bm) ?_ hHd ?_;(·(intro wq hSw;go_simp)))|((with_reducible refine aB (i:=27) ?_);refine tw (v:=.bool (decide (bm<va))) ?_ hHd ?_;(·(intro wq hSw;go_simp)))|(refine tk (v:= ?_) ?_ hHd ?_;rotate_left;(·(intro wq hSw;(try dsimp only at hSw);go_simp;(try with_reducible rfl))))|(refine tw (v:= ?_) ?_ hHd ?_;rotate_left;(·(intro wq hSw;(try dsimp only at hSw);go_simp;(try with_reducible rfl)))));(try simp only[pS]))|(with_reducible refine aG ?_)
             all_goals
              refine⟨rfl,?_⟩;refine bL ?_ ?_
              ·simp only[Act.sets,Act.put,List.foldl_cons,List.foldl_nil,List.setIfInBounds_toArray,List.set_cons_zero,List.set_cons_succ,Act.get];rfl
              exact⟨by rw[hv];rfl,hX⟩
           ·
            have hv:bq=false:=by rw[←Hbq.out];simp[cA,cB]
            refine bK (.take 0 (.take 1 (.take 2 (.take 3 (.take 4 (.take 5 (.take 6 (.take 7 (.take 8 (.take 9 (.take 10 (.take 11 (.take 12 (.take 13 (.take 14 (.take 15 (.take 16 (.take 17 (.take 18 (.take 19 (.take 20 (.take 21 (.take 22 (.take 23 (.take 24 (.take 25 (.take 26 (.take 27 (.take 28 (.take 29 .nil)))))))))))))))))))))))))))))) (fun w'=>Ext W16 w') (by kernel_rfl) (by kernel_rfl) (by rintro⟨_,_,h⟩;first|exact h|exact absurd h.1 (fun e=>by cases e)) (by kernel_rfl) (by kernel_rfl) (by kernel_rfl) (by intro _ _ _ _ _ h;first|exact h|exact absurd h.1 (fun e=>by cases e)) ?_ (fun hHd=> ?_)
            ·(first|exact True.intro|((try dsimp only);(repeat' apply And.intro)<;>first|assumption|(refine Ext.cell_some (Ext.todrew (Ext.refl _)) ?_;assumption)))
            repeat' first|((with_reducible refine aB ?_);(first|((with_reducible refine aB (i:=2) ?_);refine tk (v:=.int .i64 sn) ?_ hHd ?_;(·exact aA (by rfl) (rl Tryz.underlying3 c42)))|((with_reducible refine aB (i:=4) ?_);refine tk (v:=.bool true) ?_ hHd ?_;(·(intro wq hSw;go_simp;first|done|simp[cA])))|((with_reducible refine aB (i:=8) ?_);refine tk (v:=.bool false) ?_ hHd ?_;(·(intro wq hSw;go_simp;first|done|simp[cB])))|((first|with_reducible refine aB (i:=6) ?_|with_reducible refine aB (i:=7) ?_);(refine tw (v:= ?_) ?_ hHd ?_;rotate_left;(·(intro wq hSw;(try dsimp only at hSw);go_simp;(try with_reducible rfl)))))|(refine tk (v:= ?_) ?_ hHd ?_;rotate_left;(·(intro wq hSw;(try dsimp only at hSw);go_simp;(try with_reducible rfl))))|refine ts hHd ?_);(try simp only[pS]))|(with_reducible refine aG ?_)
            all_goals
             refine⟨rfl,?_⟩;refine bL ?_ ?_
             ·simp only[Act.sets,Act.put,List.foldl_cons,List.foldl_nil,List.setIfInBounds_toArray,List.set_cons_zero,List.set_cons_succ,Act.get];rfl
             exact⟨by rw[hv];rfl,hX⟩
          ·
           have hv:bq=false:=by rw[←Hbq.out];simp[cA]
           refine bK (.take 0 (.take 1 (.take 2 (.take 3 (.take 4 (.take 5 (.take 6 (.take 7 (.take 8 (.take 9 (.take 10 (.take 11 (.take 12 (.take 13 (.take 14 (.take 15 (.take 16 (.take 17 (.take 18 (.take 19 (.take 20 (.take 21 (.take 22 (.take 23 (.take 24 (.take 25 (.take 26 (.take 27 (.take 28 (.take 29 .nil)))))))))))))))))))))))))))))) (fun w'=>Ext W16 w') (by kernel_rfl) (by kernel_rfl) (by rintro⟨_,_,h⟩;first|exact h|exact absurd h.1 (fun e=>by cases e)) (by kernel_rfl) (by kernel_rfl) (by kernel_rfl) (by intro _ _ _ _ _ h;first|exact h|exact absurd h.1 (fun e=>by cases e)) ?_ (fun hHd=> ?_)
           ·(first|exact True.intro|((try dsimp only);(repeat' apply And.intro)<;>first|assumption|(refine Ext.cell_some (Ext.todrew (Ext.refl _)) ?_;assumption)))
           repeat' first|((with_reducible refine aB ?_);(first|((with_reducible refine aB (i:=2) ?_);refine tk (v:=.int .i64 sn) ?_ hHd ?_;(·exact aA (by rfl) (rl Tryz.underlying3 c42)))|((with_reducible refine aB (i:=4) ?_);refine tk (v:=.bool false) ?_ hHd ?_;(·(intro wq hSw;go_simp;first|done|simp[cA])))|((with_reducible refine aB (i:=8) ?_);refine tk (v:=.bool false) ?_ hHd ?_;(·(intro wq hSw;go_simp;first|done|simp[cB])))|(refine tk (v:= ?_) ?_ hHd ?_;rotate_left;(·(intro wq hSw;(try dsimp only at hSw);go_simp;(try with_reducible rfl))))|refine ts hHd ?_);(try simp only[pS]))|(with_reducible refine aG ?_)
           all_goals
            refine⟨rfl,?_⟩;refine bL ?_ ?_
            ·simp only[Act.sets,Act.put,List.foldl_cons,List.foldl_nil,List.setIfInBounds_toArray,List.set_cons_zero,List.set_cons_succ,Act.get];rfl
            exact⟨by rw[hv];rfl,hX⟩
         rintro x17 W17 ⟨hx115,hE17⟩;simp only[Act.sets,Act.put,List.foldl_cons,List.foldl_nil,List.setIfInBounds_toArray,List.set_cons_zero,List.set_cons_succ,hx115];rename_i hKc;refine hKc _ _ ?_;refine wpIn_cond (t:=bq) rfl ?_;have hX3:=hX2.trans hE17;have hokn:(aE (n:Int) k.show_=0→t.okAt k rows n ⟨(n1:Int),b⟩)↔¬(le=0∧0≤vb∧(va<0∨bm<va)):=by
          obtain⟨_,he1,he2,hu⟩:=HX.out;unfold Town.okAt;rw[he1,he2,hu,Hs2.out,Hva.out,Hvb.out,Hsn.out,Hle.out,show(t.at_ (⟨(n1:Int),b⟩:Step).st).metres=met from Hmet.out,←Hbm.out]
          omega
         cases bq
         ·have hok1:=Lib.hid (hokn.2 (of_decide_eq_false Hbq.out));clear hokn Hbq;have hEl:=hXl.trans (hE16.trans hE17);refine wpIn_skip ?_;gi_wp2_with (rw[Oper.semAt_eq _ _ _ (fun c h=>by cases h)];go_simp;try go_bits)
          go_roundw
          case rel=>
           refine⟨hEl,n+1,by go_num,by omega,fun q hq hz=> ?_⟩
           by_cases e:q=n
           ·subst e;exact hok1.out hz
           ·exact Hokn.out q (by omega) hz
          case measure=>simp[intOf];omega
         ·have hnp:¬t.ProvesP k rows:=fun hp=>(hokn.1 (fun hz=>hp.2 _ HX.out.1 n (by rw[Hsn.out];omega) hz)) (of_decide_eq_true Hbq.out)
          clear hokn;have hUz:=hUp.trans (UpT.ofExt (hXl.trans (hE16.trans hE17)));replace hE:=hE.trans hX3;replace hB6:=hB6.ext hX3;replace hB7:=hB7.ext hX3;refine wpIn_seq ?_;refine qE (by rintro⟨_,_,h⟩;exact h) (by kernel_rfl) ?_
          go_wp2_with (first|(((with_reducible refine aT (t:=4) (e:=4) (g:=g6) (off:=0) (v:=.bool false) ?_ ?_ hB6 jO ?_ ?_ ?_ ?_);rfl;rfl;rfl;simp;rfl;intro Wa hBa hgra;simp at hBa;have hB7a:=hB7.grown hgra (fun e=>blk_ne hB7 hB6 (by decide) (Option.some.inj e));have hEa:=aD hE hgra hg60))|(((with_reducible refine aT (t:=26) (e:=26) (g:=g7) (off:=0) (v:=.int .i64 0) ?_ ?_ hB7a kF ?_ ?_ ?_ ?_);rfl;rfl;rfl;simp;rfl;intro Wb hBb hgrb;simp at hBb;have hB6b:=hBa.grown hgrb (fun e=>blk_ne hBa hB7a (by decide) (Option.some.inj e));have hEb:=aD hEa hgrb hg70)))
          refine wpIn_ret ?_;exact⟨(hUz.trans (UpT.grown hgra (fun g e=>by cases e;exact .inl l6))).trans (UpT.grown hgrb (fun g e=>by cases e;exact .inl l7)),rfl,hnp,hEb,hB6b,hBb⟩
        ·obtain rfl:n=sn+1:=by omega
         have z3:¬(((sn+1:Nat):Int)<((sn+1:Nat):Int)):=by omega
         have hUz:=hUp.trans (UpT.ofExt hXl);have hEl:=hXa.trans hXl;have hokx:∀q:Nat,(q:Int)≤k.show_→aE (q:Int) k.show_=0→t.okAt k rows q ⟨(n1:Int),b⟩:=fun q hq hz=>Hokn.out q (by rw[Hsn.out] at hq;omega) hz
         have Hokx:=Lib.hid hokx;clear hokx;gi_wp2_with (rw[Oper.semAt_eq _ _ _ (fun c h=>by cases h)];go_simp;try go_bits)
         refine⟨hUz,fun y hy=> ?_,hEl⟩
         rcases List.mem_append.1 hy with hy|hy
         ·exact i1 y hy
         ·rw[List.mem_singleton] at hy;subst hy;exact Hokx.out
     ·have q2:(v0 !=0)=true:=by simp[h0]
      have hnp:¬t.ProvesP k rows:=fun hp=>h0 (by rw[←Hval.out];exact hp.1)
      have hans:=Lib.hid (Town.provesAns_0 (b:=false) Hte.out Hlen.out (fun r hr=>by rw[HM.out];exact HRL.out r hr) HRG.out (by simp[hnp]))
      clear h0 hnp;go_wp2_with (first|(((with_reducible refine aT (t:=4) (e:=4) (g:=g6) (off:=0) (v:=.bool false) ?_ ?_ hB6 jO ?_ ?_ ?_ ?_);rfl;rfl;rfl;simp;rfl;intro Wa hBa hgra;simp at hBa;have hB7a:=hB7.grown hgra (fun e=>blk_ne hB7 hB6 (by decide) (Option.some.inj e));have hEa:=aD hE hgra hg60))|(((with_reducible refine aT (t:=26) (e:=26) (g:=g7) (off:=0) (v:=.int .i64 0) ?_ ?_ hB7a kF ?_ ?_ ?_ ?_);rfl;rfl;rfl;simp;rfl;intro Wb hBb hgrb;simp at hBb;have hB6b:=hBa.grown hgrb (fun e=>blk_ne hBa hB7a (by decide) (Option.some.inj e));have hEb:=aD hEa hgrb hg70)))
      refine jS ?_;refine oW rfl rfl rfl rfl (jV hB6b) (gU hBb) ?_;rw[hans.out];exact⟨rfl,hEb⟩
  ·have q1:((rows.length:Int) !=(t.places.length:Int))=true:=by
    have:¬((rows.length:Int)=(t.places.length:Int)):=by omega
    simp[bne_iff_ne,this]
   have hans:=Lib.hid (Town.provesAns_3 (k:=k) (rows:=rows) Hte.out (.inl hlen));have Hb3:=Lib.hid (show true=true from rfl)
   clear hlen;apply eF [25,26,27,28,29,30,31,32,33,34,35,36,37,38,39] (fun x w'=>x 39=.bool true∧Ext W8 w')
   case h=>
    have hX:=Ext.todrew (Ext.refl W8);refine aR (.take 0 (.take 1 (.take 2 (.take 3 (.take 4 (.take 5 (.take 6 (.take 7 (.take 8 (.take 9 (.take 10 (.take 11 (.take 12 (.one 13 (.take 14 .nil))))))))))))))) (fun w'=>Ext W8 w') ?_ (fun hHd=> ?_)
    ·assumption
    repeat' first|((with_reducible refine aB ?_);(first|((with_reducible refine aB (i:=0) ?_);refine tk (v:=.slice AT rows.length cT) ?_ hHd ?_;(·exact aA (by rfl) (rl Tryz.underlying47 c50)))|((with_reducible refine aB (i:=2) ?_);refine tk (v:=.pointer (some ⟨gj,0,none⟩)) ?_ hHd ?_;(·exact aA (by rfl) (rl Tryz.underlying109 c80)))|((with_reducible refine aB (i:=7) ?_);refine tk (v:=.slice A1 t.places.length cp1) ?_ hHd ?_;(·exact aA (by rfl) (rl Tryz.underlying22 j0)))|((with_reducible refine aB (i:=9) ?_);refine tk (v:=.bool true) ?_ hHd ?_;(·(intro wq hSw;go_simp;first|done|exact q1|simp[q1])))|(refine tk (v:= ?_) ?_ hHd ?_;rotate_left;(·(intro wq hSw;(try dsimp only at hSw);go_simp;(try with_reducible rfl))))|refine ts hHd ?_);(try simp only[pS]))|((with_reducible refine bC ?_);refine aQ (by simp only[gS];rfl) ?_)|((with_reducible refine aH (d:=some 38) ?_);refine dK (by rfl) ?_)|((with_reducible refine bB ?_);clear hHd;refine aJ ?_ (fun hHd=> ?_);(·assumption);(try simp only[pS]))|(with_reducible refine aG ?_)
    all_goals
     refine⟨rfl,?_⟩;refine bL ?_ ?_
     ·simp only[Act.sets,Act.put,List.foldl_cons,List.foldl_nil,List.setIfInBounds_toArray,List.set_cons_zero,List.set_cons_succ,Act.get];rfl
     exact⟨by first|rfl|(rw[←Hb3.out];rfl),hX⟩
   rintro x4 W9 ⟨hx39,hE9⟩;simp only[Act.sets,Act.put,List.foldl_cons,List.foldl_nil,List.setIfInBounds_toArray,List.set_cons_zero,List.set_cons_succ,hx39];replace hE:=hE.trans hE9;replace hB4:=hB4.ext hE9;replace hB5:=hB5.ext hE9;replace hB6:=hB6.ext hE9;replace hB7:=hB7.ext hE9;replace hB8:=hB8.ext hE9;replace hR:=hR.ext hE9;replace hJ:=hJ.ext hE9;go_wp2_with (first|(((with_reducible refine aT (t:=4) (e:=4) (g:=g6) (off:=0) (v:=.bool false) ?_ ?_ hB6 jO ?_ ?_ ?_ ?_);rfl;rfl;rfl;simp;rfl;intro Wa hBa hgra;simp at hBa;have hB7a:=hB7.grown hgra (fun e=>blk_ne hB7 hB6 (by decide) (Option.some.inj e));have hEa:=aD hE hgra hg60))|(((with_reducible refine aT (t:=26) (e:=26) (g:=g7) (off:=0) (v:=.int .i64 3) ?_ ?_ hB7a kF ?_ ?_ ?_ ?_);rfl;rfl;rfl;simp;rfl;intro Wb hBb hgrb;simp at hBb;have hB6b:=hBa.grown hgrb (fun e=>blk_ne hBa hB7a (by decide) (Option.some.inj e));have hEb:=aD hEa hgrb hg70)))
   refine jS ?_;refine oW rfl rfl rfl rfl (jV hB6b) (gU hBb) ?_;rw[hans.out];exact⟨rfl,hEb⟩
 ·have q1:(t.taskErr k !=0)=true:=by simp[hte]
  have hans:=Lib.hid (Town.provesAns_e (rows:=rows) hte);have Hte:=Lib.hid hte;clear hte;go_enter Tryz.func28,Tryz.ntmps28
  go_wp2_with (first|((with_reducible refine aS (d:=some 6) ti4 ?_);intro W6 g6 hE6 hB6 hg6;have hg60:=Nat.le_trans hE.size hg6;simp[Value.cells] at hB6;(try replace hE:=hE.trans hE6);(try replace hT:=hT.ext hE6);(try replace hC:=hC.ext hE6);(try replace hR:=hR.ext hE6);(try replace hB4:=hB4.ext hE6);(try replace hB5:=hB5.ext hE6);(try replace hb3_0:=hE6.c hb3_0);(try replace hb3_1:=hE6.c hb3_1);(try replace hb3_2:=hE6.c hb3_2);(try replace hb3_3:=hE6.c hb3_3);(try replace hb4_0:=hE6.c hb4_0);(try replace hb4_1:=hE6.c hb4_1);(try replace hb4_2:=hE6.c hb4_2);(try replace hb4_3:=hE6.c hb4_3);(try replace hb4_4:=hE6.c hb4_4))|((with_reducible refine aS (d:=some 7) Ip ?_);intro W7 g7 hE7 hB7 hg7;have hg70:=Nat.le_trans hE.size hg7;simp[Value.cells] at hB7;(try replace hE:=hE.trans hE7);(try replace hT:=hT.ext hE7);(try replace hC:=hC.ext hE7);(try replace hR:=hR.ext hE7);(try replace hB4:=hB4.ext hE7);(try replace hB5:=hB5.ext hE7);(try replace hB6:=hB6.ext hE7);(try replace hb3_0:=hE7.c hb3_0);(try replace hb3_1:=hE7.c hb3_1);(try replace hb3_2:=hE7.c hb3_2);(try replace hb3_3:=hE7.c hb3_3);(try replace hb4_0:=hE7.c hb4_0);(try replace hb4_1:=hE7.c hb4_1);(try replace hb4_2:=hE7.c hb4_2);(try replace hb4_3:=hE7.c hb4_3);(try replace hb4_4:=hE7.c hb4_4);have hE0:=hE)|(go_at_call 62;((with_reducible refine(iG _ _ t k _ (by exact aM.of hT) (by exact bA.of hC)).mono ?_);rintro e WcB ⟨hEcB,hq⟩;(try replace hE:=hE.trans hEcB);(try replace hR:=hR.ext hEcB);(try replace hB4:=hB4.ext hEcB);(try replace hB5:=hB5.ext hEcB);(try replace hB6:=hB6.ext hEcB);(try replace hB7:=hB7.ext hEcB);obtain⟨_,rfl⟩:=hq.resolve_right (fun h=>Hte.out h.1)))|(((with_reducible refine aO (e:=109) (u:=8) (v:=.pointer none) yX ?_ ?_ ?_ ?_ ?_ ?_);(intro g;rfl);(intro g;rfl);rfl;rfl;(simp[Value.cells,Value.oneCell']);intro W8 g8 hE8 hB8 hg8;replace hE:=hE.trans hE8;replace hB6:=hB6.ext hE8;replace hB7:=hB7.ext hE8))|(((with_reducible refine aT (t:=4) (e:=4) (g:=g6) (off:=0) (v:=.bool false) ?_ ?_ hB6 jO ?_ ?_ ?_ ?_);rfl;rfl;rfl;simp;rfl;intro Wa hBa hgra;simp at hBa;have hB7a:=hB7.grown hgra (fun e=>blk_ne hB7 hB6 (by decide) (Option.some.inj e));have hEa:=aD hE hgra hg60))|(((with_reducible refine aT (t:=26) (e:=26) (g:=g7) (off:=0) (v:=.int .i64 (t.taskErr k)) ?_ ?_ hB7a kF ?_ ?_ ?_ ?_);rfl;rfl;rfl;simp;rfl;intro Wb hBb hgrb;simp at hBb;have hB6b:=hBa.grown hgrb (fun e=>blk_ne hBa hB7a (by decide) (Option.some.inj e));have hEb:=aD hEa hgrb hg70))|((with_reducible refine aF (d:=some 3) ?_);intro W3 g3 hE3 hB3 hg3;simp[Act.eval,Act.put,Value.cells] at hB3;(try replace hE:=hE.trans hE3);(try replace hT:=hT.ext hE3);(try replace hC:=hC.ext hE3);(try replace hR:=hR.ext hE3);have hb3_0:=hB3.cell 0;have hb3_1:=hB3.cell 1;have hb3_2:=hB3.cell 2;have hb3_3:=hB3.cell 3;simp at hb3_0 hb3_1 hb3_2 hb3_3;clear hE3)|((with_reducible refine aF (d:=some 4) ?_);intro W4 g4 hE4 hB4 hg4;simp[Act.eval,Act.put,Value.cells] at hB4;(try replace hE:=hE.trans hE4);(try replace hT:=hT.ext hE4);(try replace hC:=hC.ext hE4);(try replace hR:=hR.ext hE4);(try replace hb3_0:=hE4.c hb3_0);(try replace hb3_1:=hE4.c hb3_1);(try replace hb3_2:=hE4.c hb3_2);(try replace hb3_3:=hE4.c hb3_3);have hb4_0:=hB4.cell 0;have hb4_1:=hB4.cell 1;have hb4_2:=hB4.cell 2;have hb4_3:=hB4.cell 3;have hb4_4:=hB4.cell 4;simp at hb4_0 hb4_1 hb4_2 hb4_3 hb4_4;clear hE4)|((with_reducible refine aF (d:=some 5) ?_);intro W5 g5 hE5 hB5 hg5;simp[Act.eval,Act.put,Value.cells] at hB5;(try replace hE:=hE.trans hE5);(try replace hT:=hT.ext hE5);(try replace hC:=hC.ext hE5);(try replace hR:=hR.ext hE5);(try replace hB4:=hB4.ext hE5);(try replace hb3_0:=hE5.c hb3_0);(try replace hb3_1:=hE5.c hb3_1);(try replace hb3_2:=hE5.c hb3_2);(try replace hb3_3:=hE5.c hb3_3);(try replace hb4_0:=hE5.c hb4_0);(try replace hb4_1:=hE5.c hb4_1);(try replace hb4_2:=hE5.c hb4_2);(try replace hb4_3:=hE5.c hb4_3);(try replace hb4_4:=hE5.c hb4_4);have hb5_0:=hB5.cell 0;simp at hb5_0;clear hE5))
  refine oW rfl rfl rfl rfl (jV hB6b) (gU hBb) ?_;rw[hans.out];exact⟨rfl,hEb⟩
end Go.St
end
section
namespace Go.St
open Go Go.Bp Go.RowKit Go.Proofs
structure Nr(gs:List Nat)(A B:World):Prop where
 os:B.os=A.os
 tape:B.tape=A.tape
 output:B.output=A.output
 size:A.heap.size≤B.heap.size
 block:∀k,k<A.heap.size→k∉gs→B.heap[k]? =A.heap[k]?
section
variable{gs:List Nat}{w0 w A B C:World}
theorem Nr.refl(gs:List Nat)(A:World):Nr gs A A:=⟨rfl,rfl,rfl,Nat.le_refl _,fun _ _ _=>rfl⟩
theorem Nr.ofExt(gs:List Nat)(h:Ext A B):Nr gs A B:=⟨h.os,h.tape,h.output,h.size,fun k hk _=>h.block k hk⟩
theorem Nr.trans(h:Nr gs A B)(k:Nr gs B C):Nr gs A C:=
 ⟨k.os.trans h.os,k.tape.trans h.tape,k.output.trans h.output,Nat.le_trans h.size k.size,fun i hi hn=>(k.block i (Nat.lt_of_lt_of_le hi h.size) hn).trans (h.block i hi hn)⟩
theorem Nr.grown{g:Nat}(h:Nr gs w A)(k:A.grownBy B (some g))(hr:g∈gs):Nr gs w B:=
 ⟨k.os.trans h.os,k.tape.trans h.tape,k.output.trans h.output,Nat.le_trans h.size k.size,fun i hi hn=>(k.block i (Nat.lt_of_lt_of_le hi h.size) (fun e=>by
  obtain rfl:=Option.some.inj e;exact hn hr)).trans (h.block i hi hn)⟩
theorem Nr.blk(h:Nr gs A B){g:Nat}{t:TypeId}{cs:Array Value}(hb:Blk A g t cs)(hg:g∉gs):Blk B g t cs:=(h.block g hb.lt hg).trans hb
theorem Nr.ext(h:Nr gs A B)(hE:Ext w0 A)(hg:∀g∈gs,w0.heap.size≤g):Ext w0 B:=
 ⟨h.os.trans hE.os,h.tape.trans hE.tape,h.output.trans hE.output,Nat.le_trans hE.size h.size,fun k hk=>(h.block k (Nat.lt_of_lt_of_le hk hE.size) (fun e=>by have:=hg k e;omega)).trans (hE.block k hk)⟩
end
def eW:List PanicEntry:=[{v:=.iface 26 (.int .i64 6),recovered:=false}]
theorem jC(w:World):Calls Tryz.prog 84 #[.bool true] w fun e w'=>e=.returned (.tuple #[])∧w'=w:=by
 go_enter Tryz.func84,Tryz.ntmps84
 go_wp2
 go_end0
 exact⟨rfl,rfl⟩
theorem gD(w:World):Calls Tryz.prog 84 #[.bool false] w fun e w'=>e=.panicked eW∧w'=w:=by
 go_enter Tryz.func84,Tryz.ntmps84
 go_wp2
 exact⟨rfl,rfl,rfl⟩
theorem nN:(Tryz.prog.info? 9).map TypeInfo.size=some 1:=by kernel_rfl
theorem dA{w:World}{g:Nat}{s:ByteArray}(h:Blk w g 9 #[.string s]):(loadVar 9 ⟨g,0,none⟩).run Tryz.prog w=.ok (.string s) w:=aY Tryz.underlying9 rfl (by simpa using h.cell 0)
def Du(t:Town)(gx:Nat)(l:List UInt8)(w:World)(e:Ending)(w':World):Prop:=
 Nr [gx] w w'∧((0≤t.placeIdx (dN l)∧e=.returned (.int .i64 (t.placeIdx (dN l)))∧Blk w' gx 9 #[.string (S (eU l))])∨
  (t.placeIdx (dN l)<0∧e=.panicked eW∧Blk w' gx 9 #[.string (S l)]))
set_option maxHeartbeats 4000000 in
theorem pC(gx g7:Nat)(pv sv tv xv:Value)(t:Town)(l:List UInt8)(w:World)(hl:l.length≤100000)(hx:Blk w gx 9 #[.string (S l)])(h7:Blk w g7 90 #[pv,sv,tv,xv])(hT:TownP w pv sv tv xv t):
 Calls Tryz.prog 81 #[.pointer (some ⟨gx,0,none⟩),.pointer (some ⟨g7,0,none⟩)] w (Du t gx l w):=by
 have hE:=Ext.refl w;have hP:=hT.places;have hIx:=Lib.hid (show∀W,Calls Tryz.prog 82 #[.string (S l),.string {data:=#[45,61]}] W (dF W (rL (S l).data.toList)) from fun W=>yO (S l) (by rw[fD];omega) W)
 have hhl:=Nb l;obtain⟨n,hn⟩:∃n,(dN l).length=n:=⟨_,rfl⟩;obtain⟨c,hc⟩:∃c,rL (S l).data.toList=c:=⟨_,rfl⟩;have hcn:c=n∨(c= -1∧n=l.length):=by
  rw[←hc,iX];unfold rL;rw[qT,hn];rw[hn] at hhl;split
  ·exact .inl rfl
  ·exact .inr ⟨rfl,by omega⟩
 obtain⟨h1,h2⟩:=Ge l;rw[hn] at h1 h2 hhl;obtain⟨s,hs⟩:∃s,S l=s:=⟨_,rfl⟩;have hsz:s.size=l.length:=by rw[←hs,fD]
 have he1:s.extract 0 n=S (dN l):=Bg (by rw[kC,←hs,iX];simpa using h1)
 have he2:s.extract n s.size=S (eU l):=Bg (by rw[kC,hsz,←hs,iX,h2];apply List.take_of_length_le;rw[←h2,List.length_drop];omega)
 obtain⟨H,hH⟩:∃H,S (dN l)=H:=⟨_,rfl⟩;obtain⟨R,hR⟩:∃R,S (eU l)=R:=⟨_,rfl⟩;obtain⟨p,hp⟩:∃p,t.placeIdx (dN l)=p:=⟨_,rfl⟩;have hp':mQ (fun x=>decide (H=x)) t.places=p:=by rw[←hH];exact hp
 have Hres:=Lib.hid (show∀e w',(Nr [gx] w w'∧((0≤p∧e=.returned (.int .i64 p)∧Blk w' gx 9 #[.string R])∨(p<0∧e=.panicked eW∧Blk w' gx 9 #[.string s])))→Du t gx l w e w' by
  intro e w' h;unfold Du;rw[hp,hR,hs];exact h)
 rw[hH] at he1;rw[hR] at he2;rw[hs] at hx;have hnl:n≤s.size:=by omega
 rw[hs] at hIx hc;rw[hc] at hIx;have HI:=Lib.hid (fun W(h:Strs W pv t.places)=>by have:=vI pv t.places H W h;rw[hp'] at this;exact this)
 clear hp hp' hH hR hn hc hs h1 h2 hhl;have c70:=h7.cell 0;simp at c70;by_cases h0:0≤p
 ·have g0:decide (0≤p)=true:=by simp[h0]
  rcases hcn with rfl|⟨rfl,hnn⟩
  ·
   clear hsz;go_enter Tryz.func81,Tryz.ntmps81
   go_wp2_with (first|((with_reducible refine aC (d:=some 5) (hl:=dA hx) ?_ ?_);rfl)|(go_at_call 82;refine(hIx.out _).mono ?_;rintro e W1 ⟨rfl,hE1⟩;replace hE:=hE.trans hE1;replace hT:=hT.ext hE1;replace hx:=hx.ext hE1;replace h7:=h7.ext hE1;replace hP:=hP.ext hE1;replace c70:=hE1.c c70))
   have hX:=Ext.todrew (Ext.refl W1);apply gC (R:=fun w'=>Ext W1 w')
   case h=>
    refine aR (.take 0 (.take 1 (.take 2 (.take 3 (.take 4 (.take 5 (.one 6 (.take 7 .nil)))))))) (fun w'=>Ext W1 w') ?_ (fun hHd=> ?_)
    ·assumption
    repeat' first|((with_reducible refine aB ?_);(first|((with_reducible refine aB (i:=2) ?_);refine tk (v:=pv) ?_ hHd ?_;(·exact aA (by rfl) (rl Tryz.underlying22 c70)))|((with_reducible refine aB (i:=3) ?_);refine tk (v:=.string s) ?_ hHd ?_;(·exact aA (by rfl) (fun W h=>dA (hx.ext h))))|((with_reducible refine aB (i:=5) ?_);refine tk (v:=.string H) ?_ hHd ?_;(·(intro wq _;go_simp;done)))|(refine tk (v:= ?_) ?_ hHd ?_;rotate_left;(·(intro wq hSw;(try dsimp only at hSw);go_simp;(try with_reducible rfl)))));(try simp only[pS]))|((with_reducible refine bC ?_);refine aQ (by simp only[gS];rfl) ?_)|((with_reducible refine aH (d:=some 17) ?_);((refine bD (by rfl) (HI.out _ (hP.ext hX)) (by go_simp) ?_;rintro e W17 ⟨rfl,rfl⟩;refine⟨_,rfl,?_⟩)))|((with_reducible refine bB ?_);clear hHd;refine aJ ?_ (fun hHd=> ?_);(·assumption);(try simp only[pS]))|(with_reducible refine aG ?_)
    all_goals exact⟨rfl,rfl,hX⟩
   intro W9 hE9;replace hE:=hE.trans hE9;replace hT:=hT.ext hE9;replace hx:=hx.ext hE9;go_wp2_with (first|(go_at_call 84;refine(jC _).mono ?_;rintro e Wm ⟨rfl,rfl⟩)|((with_reducible refine aC (d:=some 21) (hl:=dA hx) ?_ ?_);rfl)|((with_reducible refine aT (t:=9) (g:=gx) (off:=0) (v:=.string R) ?_ ?_ hx nN ?_ ?_ ?_ ?_);rfl;rfl;rfl;simp;rfl;intro Ws hBs hgrs;simp at hBs))
   go_ret
   exact Hres.out _ _ ⟨(Nr.ofExt [gx] hE).grown hgrs (by simp),.inl ⟨h0,rfl,hBs⟩⟩
  ·
   obtain rfl:n=s.size:=by omega
   clear hsz hnn;have hRe:ByteArray.empty=R:=by rw[←he2];simp
   go_enter Tryz.func81,Tryz.ntmps81
   go_wp2_with (first|((with_reducible refine aC (d:=some 5) (hl:=dA hx) ?_ ?_);rfl)|((with_reducible refine aC (d:=some 9) (hl:=dA hx) ?_ ?_);rfl)|(go_at_call 82;refine(hIx.out _).mono ?_;rintro e W1 ⟨rfl,hE1⟩;replace hE:=hE.trans hE1;replace hT:=hT.ext hE1;replace hx:=hx.ext hE1;replace h7:=h7.ext hE1;replace hP:=hP.ext hE1;replace c70:=hE1.c c70))
   have hX:=Ext.todrew (Ext.refl W1);apply gC (R:=fun w'=>Ext W1 w')
   case h=>
    refine aR (.take 0 (.take 1 (.take 2 (.take 3 (.take 4 (.take 5 (.one 6 (.take 7 .nil)))))))) (fun w'=>Ext W1 w') ?_ (fun hHd=> ?_)
    ·assumption
    repeat' first|((with_reducible refine aB ?_);(first|((with_reducible refine aB (i:=2) ?_);refine tk (v:=pv) ?_ hHd ?_;(·exact aA (by rfl) (rl Tryz.underlying22 c70)))|((with_reducible refine aB (i:=3) ?_);refine tk (v:=.string s) ?_ hHd ?_;(·exact aA (by rfl) (fun W h=>dA (hx.ext h))))|((with_reducible refine aB (i:=5) ?_);refine tk (v:=.string H) ?_ hHd ?_;(·(intro wq _;go_simp;done)))|(refine tk (v:= ?_) ?_ hHd ?_;rotate_left;(·(intro wq hSw;(try dsimp only at hSw);go_simp;(try with_reducible rfl)))));(try simp only[pS]))|((with_reducible refine bC ?_);refine aQ (by simp only[gS];rfl) ?_)|((with_reducible refine aH (d:=some 17) ?_);((refine bD (by rfl) (HI.out _ (hP.ext hX)) (by go_simp) ?_;rintro e W17 ⟨rfl,rfl⟩;refine⟨_,rfl,?_⟩)))|((with_reducible refine bB ?_);clear hHd;refine aJ ?_ (fun hHd=> ?_);(·assumption);(try simp only[pS]))|(with_reducible refine aG ?_)
    all_goals exact⟨rfl,rfl,hX⟩
   intro W9 hE9;replace hE:=hE.trans hE9;replace hT:=hT.ext hE9;replace hx:=hx.ext hE9;go_wp2_with (first|(go_at_call 84;refine(jC _).mono ?_;rintro e Wm ⟨rfl,rfl⟩)|((with_reducible refine aC (d:=some 21) (hl:=dA hx) ?_ ?_);rfl)|((with_reducible refine aT (t:=9) (g:=gx) (off:=0) (v:=.string R) ?_ ?_ hx nN ?_ ?_ ?_ ?_);rfl;rfl;rfl;simp;rfl;intro Ws hBs hgrs;simp at hBs))
   go_ret
   exact Hres.out _ _ ⟨(Nr.ofExt [gx] hE).grown hgrs (by simp),.inl ⟨h0,rfl,hBs⟩⟩
 ·have g0:decide (0≤p)=false:=by simp[h0]
  rcases hcn with rfl|⟨rfl,hnn⟩
  ·
   clear hsz;go_enter Tryz.func81,Tryz.ntmps81
   go_wp2_with (first|((with_reducible refine aC (d:=some 5) (hl:=dA hx) ?_ ?_);rfl)|(go_at_call 82;refine(hIx.out _).mono ?_;rintro e W1 ⟨rfl,hE1⟩;replace hE:=hE.trans hE1;replace hT:=hT.ext hE1;replace hx:=hx.ext hE1;replace h7:=h7.ext hE1;replace hP:=hP.ext hE1;replace c70:=hE1.c c70))
   have hX:=Ext.todrew (Ext.refl W1);apply gC (R:=fun w'=>Ext W1 w')
   case h=>
    refine aR (.take 0 (.take 1 (.take 2 (.take 3 (.take 4 (.take 5 (.one 6 (.take 7 .nil)))))))) (fun w'=>Ext W1 w') ?_ (fun hHd=> ?_)
    ·assumption
    repeat' first|((with_reducible refine aB ?_);(first|((with_reducible refine aB (i:=2) ?_);refine tk (v:=pv) ?_ hHd ?_;(·exact aA (by rfl) (rl Tryz.underlying22 c70)))|((with_reducible refine aB (i:=3) ?_);refine tk (v:=.string s) ?_ hHd ?_;(·exact aA (by rfl) (fun W h=>dA (hx.ext h))))|((with_reducible refine aB (i:=5) ?_);refine tk (v:=.string H) ?_ hHd ?_;(·(intro wq _;go_simp;done)))|(refine tk (v:= ?_) ?_ hHd ?_;rotate_left;(·(intro wq hSw;(try dsimp only at hSw);go_simp;(try with_reducible rfl)))));(try simp only[pS]))|((with_reducible refine bC ?_);refine aQ (by simp only[gS];rfl) ?_)|((with_reducible refine aH (d:=some 17) ?_);((refine bD (by rfl) (HI.out _ (hP.ext hX)) (by go_simp) ?_;rintro e W17 ⟨rfl,rfl⟩;refine⟨_,rfl,?_⟩)))|((with_reducible refine bB ?_);clear hHd;refine aJ ?_ (fun hHd=> ?_);(·assumption);(try simp only[pS]))|(with_reducible refine aG ?_)
    all_goals exact⟨rfl,rfl,hX⟩
   intro W9 hE9;replace hE:=hE.trans hE9;replace hT:=hT.ext hE9;replace hx:=hx.ext hE9;go_wp2_with (first|(go_at_call 84;refine(gD _).mono ?_;rintro e Wm ⟨rfl,rfl⟩))
   exact⟨rfl,Hres.out _ _ ⟨Nr.ofExt [gx] hE,.inr ⟨by omega,rfl,hx⟩⟩⟩
  ·
   obtain rfl:n=s.size:=by omega
   clear hsz hnn;go_enter Tryz.func81,Tryz.ntmps81
   go_wp2_with (first|((with_reducible refine aC (d:=some 5) (hl:=dA hx) ?_ ?_);rfl)|((with_reducible refine aC (d:=some 9) (hl:=dA hx) ?_ ?_);rfl)|(go_at_call 82;refine(hIx.out _).mono ?_;rintro e W1 ⟨rfl,hE1⟩;replace hE:=hE.trans hE1;replace hT:=hT.ext hE1;replace hx:=hx.ext hE1;replace h7:=h7.ext hE1;replace hP:=hP.ext hE1;replace c70:=hE1.c c70))
   have hX:=Ext.todrew (Ext.refl W1);apply gC (R:=fun w'=>Ext W1 w')
   case h=>
    refine aR (.take 0 (.take 1 (.take 2 (.take 3 (.take 4 (.take 5 (.one 6 (.take 7 .nil)))))))) (fun w'=>Ext W1 w') ?_ (fun hHd=> ?_)
    ·assumption
    repeat' first|((with_reducible refine aB ?_);(first|((with_reducible refine aB (i:=2) ?_);refine tk (v:=pv) ?_ hHd ?_;(·exact aA (by rfl) (rl Tryz.underlying22 c70)))|((with_reducible refine aB (i:=3) ?_);refine tk (v:=.string s) ?_ hHd ?_;(·exact aA (by rfl) (fun W h=>dA (hx.ext h))))|((with_reducible refine aB (i:=5) ?_);refine tk (v:=.string H) ?_ hHd ?_;(·(intro wq _;go_simp;done)))|(refine tk (v:= ?_) ?_ hHd ?_;rotate_left;(·(intro wq hSw;(try dsimp only at hSw);go_simp;(try with_reducible rfl)))));(try simp only[pS]))|((with_reducible refine bC ?_);refine aQ (by simp only[gS];rfl) ?_)|((with_reducible refine aH (d:=some 17) ?_);((refine bD (by rfl) (HI.out _ (hP.ext hX)) (by go_simp) ?_;rintro e W17 ⟨rfl,rfl⟩;refine⟨_,rfl,?_⟩)))|((with_reducible refine bB ?_);clear hHd;refine aJ ?_ (fun hHd=> ?_);(·assumption);(try simp only[pS]))|(with_reducible refine aG ?_)
    all_goals exact⟨rfl,rfl,hX⟩
   intro W9 hE9;replace hE:=hE.trans hE9;replace hT:=hT.ext hE9;replace hx:=hx.ext hE9;go_wp2_with (first|(go_at_call 84;refine(gD _).mono ?_;rintro e Wm ⟨rfl,rfl⟩))
   exact⟨rfl,Hres.out _ _ ⟨Nr.ofExt [gx] hE,.inr ⟨by omega,rfl,hx⟩⟩⟩
end Go.St
end
