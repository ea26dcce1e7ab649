/- Chapter 03: contracts of functions of the program and of the reference, and plain laws (out of SV6 StS). No condition of its own. -/
import Derived.Test.YtfjnacajjpaeiaaGreatDoorP18
set_option maxRecDepth 100000
set_option linter.all false
section
namespace Go.St
open Go Go.Bp Go.RowKit Go.Proofs
theorem vL{P:Program}{Q:Exit→Act→World→Prop}{a:Act}{w:World}{c:Go.Code}(ks:List Nat)(R:Nat→List Nat→World→Prop)(n₀:Nat)(hd:a.defers=[])(ha:a=Act.sets a ks a.get)(h0:R n₀ [] w)
 (round:∀n ds x W(K:Act→World→Prop),R n ds W→(∀n' ds' a' W',n'<n→R n' ds' W'→a'.defers=marks ds'→(∃x',a'.tmps=(Act.sets a ks x').tmps)→K a' W')→c.wp P (Exit.then K Q) {tmps:=(Act.sets a ks x).tmps,defers:=marks ds} W):(Go.Code.loop c).wp P Q a w:=by
 refine wp_loop_ghost (fun n a' W=>∃ds x,a'={tmps:=(Act.sets a ks x).tmps,defers:=marks ds}∧R n ds W) n₀ ⟨[],a.get,?_,h0⟩ ?_
 ·rw[←ha]
  cases a
  simp only at hd;subst hd;rfl
 ·rintro n a' W ⟨ds,x,rfl,hR⟩;refine round n ds x W _ hR ?_;rintro n' ds' a' W' hlt hR' hd' ⟨x',hx'⟩;refine⟨n',hlt,ds',x',?_,hR'⟩
  cases a'
  simp only at hd' hx';subst hd';subst hx';rfl
theorem Ra{a a':Act}{ks:List Nat}(h:a'.tmps=(Act.sets a ks a'.get).tmps):∃x',a'.tmps=(Act.sets a ks x').tmps:=⟨_,h⟩
theorem Jq{B:Nat}{w:World}{e:TypeId}{size n:Nat}{v:Value}{xs:List Value}{ds:List Nat}(h:w.ownsRow B e size v n xs)(hd:∀D∈ds,w.heap[D]? =some (.deferred (some []))):(kG ds w).ownsRow B e size v n xs:=by
 refine⟨h.1,?_⟩;rcases h.2 with h1|⟨g,cap,cur,h1,h2,h3,h4⟩
 ·exact .inl h1
 ·refine .inr ⟨g,cap,cur,h1,h2,?_,h4⟩;rw[lW]
  ·exact h3
  ·intro hm;rw[hd g hm] at h3;cases h3
theorem Le{g:Nat}{w:World}{e:TypeId}{cs:Array Value}{ds:List Nat}(h:Blk w g e cs)(hd:∀D∈ds,w.heap[D]? =some (.deferred (some []))):Blk (kG ds w) g e cs:=by
 unfold Blk at*;rw[lW]
 ·exact h
 ·intro hm;rw[hd g hm] at h;cases h
set_option maxHeartbeats 8000000 in
theorem gQ(tv0 kv:Value)(t:Town)(k:Task)(w:World)(h:aM w tv0 t)(hk:bA w kv k):Calls Tryz.prog 23 #[tv0,kv] w (Pf w (t.findAns k).1 (t.findAns k).2):=by
 obtain⟨pv0,sv0,tv0,xv0,rfl,hT⟩:=h;obtain⟨clv,rfl,hC⟩:=hk;have hE:=Ext.refl w;by_cases hte:t.taskErr k=0
 ·have Hte:=Lib.hid hte;have hok:=Town.taskOk_of hte;have HK:=Lib.hid hok;obtain⟨d,hd⟩:∃d,dU (t.cost k) (k.a,k.show_)=d:=⟨_,rfl⟩;obtain⟨kn,hkn⟩:∃b,(t.cost k k.a k.show_).isSome=b:=⟨_,rfl⟩;have Hd:=Lib.hid (⟨hd,hkn⟩:_∧_);clear hte hok;refine nH Tryz.func23 rfl ?_;simp only[Tryz.ntmps23,List.size_toArray,List.length_cons,List.length_nil,Nat.reduceAdd,Nat.reduceSub,Array.replicate_succ,Array.replicate_zero,List.push_toArray,List.append_toArray,List.nil_append,List.cons_append];go_wp2_with (first|((with_reducible refine aS (d:=some 4) fW ?_);intro W4 g4 hE4 hB4 hg4;have hg40:=Nat.le_trans hE.size hg4;simp[Value.cells] at hB4;(try replace hE:=hE.trans hE4);(try replace hT:=hT.ext hE4);(try replace hC:=hC.ext hE4);(try replace hB3:=hB3.ext hE4);(try replace hb2_0:=hE4.c hb2_0);(try replace hb2_1:=hE4.c hb2_1);(try replace hb2_2:=hE4.c hb2_2);(try replace hb2_3:=hE4.c hb2_3);(try replace hb3_0:=hE4.c hb3_0);(try replace hb3_1:=hE4.c hb3_1);(try replace hb3_2:=hE4.c hb3_2);(try replace hb3_3:=hE4.c hb3_3);(try replace hb3_4:=hE4.c hb3_4);have hE0:=hE)|(go_at_call 62;((with_reducible refine(iG _ _ t k _ (by exact aM.of hT) (by exact bA.of hC)).mono ?_);rintro e WcB ⟨hEcB,hq⟩;(try replace hE:=hE.trans hEcB);(try replace hB3:=hB3.ext hEcB);(try replace hB4:=hB4.ext hEcB);have hXb:=hEcB;obtain⟨_,gj,gi,gm,pv,sv,tv,xv,cv,vs,rfl,hTp,hCp,hgj,_,hgm,hQ⟩:=hq.resolve_left (fun h=>h.1 Hte.out)))|(((with_reducible refine aO (e:=109) (u:=6) (v:=.pointer (some ⟨gj,0,none⟩)) yX ?_ ?_ ?_ ?_ ?_ ?_);(intro g;rfl);(intro g;rfl);rfl;rfl;(simp[Value.cells,Value.oneCell']);intro W6 g6 hE6 hB6 hg6;simp[Value.cells] at hB6;replace hE:=hE.trans hE6;replace hB3:=hB3.ext hE6;replace hB4:=hB4.ext hE6;replace hXb:=hXb.trans hE6;replace hQ:=hQ.ext hE6;have c60:=hB6.cell 0;simp at c60))|((go_at_call 63;refine(sC HK.out hXb hTp hCp hgj hgm hQ).mono ?_;rintro e Ws ⟨⟨vr,rfl⟩,hGs,hS⟩;replace hB3:=hB3.grown hGs (fun e=>cD.notblk hQ.map hB3 (Option.some.inj e).symm);replace hB4:=hB4.grown hGs (fun e=>cD.notblk hQ.map hB4 (Option.some.inj e).symm);replace hB6:=hB6.grown hGs (fun e=>cD.notblk hQ.map hB6 (Option.some.inj e).symm);have c30:=hB3.cell 0;have c32:=hB3.cell 2;simp at c30 c32))|(((with_reducible refine aO (e:=113) (u:=7) (v:=.agg #[.int .i64 k.a,.int .i64 k.show_]) tN ?_ ?_ ?_ ?_ ?_ ?_);(intro g;rfl);(intro g;rfl);rfl;rfl;(simp[Value.cells,Value.oneCell']);intro W7 g7 hE7 hB7 hg7;simp[Value.cells] at hB7;replace hB3:=hB3.ext hE7;replace hB4:=hB4.ext hE7;replace hB6:=hB6.ext hE7;replace hS:=hS.up hE7))|((with_reducible refine aF (d:=some 2) ?_);intro W2 g2 hE2 hB2 hg2;simp[Act.eval,Act.put,Value.cells] at hB2;(try replace hE:=hE.trans hE2);(try replace hT:=hT.ext hE2);(try replace hC:=hC.ext hE2);have hb2_0:=hB2.cell 0;have hb2_1:=hB2.cell 1;have hb2_2:=hB2.cell 2;have hb2_3:=hB2.cell 3;simp at hb2_0 hb2_1 hb2_2 hb2_3;clear hE2)|((with_reducible refine aF (d:=some 3) ?_);intro W3 g3 hE3 hB3 hg3;simp[Act.eval,Act.put,Value.cells] at hB3;(try replace hE:=hE.trans hE3);(try replace hT:=hT.ext hE3);(try replace hC:=hC.ext hE3);(try replace hb2_0:=hE3.c hb2_0);(try replace hb2_1:=hE3.c hb2_1);(try replace hb2_2:=hE3.c hb2_2);(try replace hb2_3:=hE3.c hb2_3);have hb3_0:=hB3.cell 0;have hb3_1:=hB3.cell 1;have hb3_2:=hB3.cell 2;have hb3_3:=hB3.cell 3;have hb3_4:=hB3.cell 4;simp at hb3_0 hb3_1 hb3_2 hb3_3 hb3_4;clear hE3))
  have hW47:=hS.ext.size;have hW4:=hE0.size;have hE:=hE0.trans hS.ext;have c60:=hB6.cell 0;have j10:=hS.blk.cell 10;simp at c60 j10;have l7:W4.heap.size≤g7:=Nat.le_trans (hXb.trans (Ext.refl _) |>.size) (Nat.le_trans hGs.size hg7)
  clear hEcB hT hC hB2 hb2_0 hb2_1 hb2_2 hb2_3 hb3_0 hb3_1 hb3_2 hb3_3 hb3_4 hq hTp hCp hQ hE6 hg6 hXb hGs c30 c32 hE7 hg7 hg2 hg3;apply eF [35,36,37,38,39,40,34,41,42,8,9] (fun x w'=>∃g8,x 8=.pointer (some ⟨g8,0,none⟩)∧x 9=.bool kn∧Ext W7 w'∧Blk w' g8 115 #[.int .i64 d.1,.int .i64 d.2]∧W7.heap.size≤g8)
  case h=>
   have hM:=hS.map;have hX:=Ext.todrew (Ext.refl W7);refine aR (.take 0 (.take 1 (.take 2 (.take 3 (.take 4 (.take 5 (.take 6 (.take 7 (.take 8 (.one 9 (.one 10 (.take 11 .nil)))))))))))) (fun w'=>Ext W7 w') ?_ (fun hHd=> ?_)
   ·assumption
   repeat' first|((with_reducible refine aB ?_);(first|((with_reducible refine aB (i:=0) ?_);refine tk (v:=.pointer (some ⟨gj,0,none⟩)) ?_ hHd ?_;(·exact aA (by rfl) (rl Tryz.underlying109 c60)))|((with_reducible refine aB (i:=3) ?_);refine tk (v:=.map (some gm)) ?_ hHd ?_;(·exact aA (by rfl) (rl Tryz.underlying118 j10)))|((with_reducible refine aB (i:=4) ?_);refine tk (v:=.agg #[.int .i64 k.a,.int .i64 k.show_]) ?_ hHd ?_;(·exact aA (by rfl) (fun W h=>dP (hB7.ext h))))|((with_reducible refine aB (i:=5) ?_);refine tk (v:=.tuple #[.agg #[.int .i64 d.1,.int .i64 d.2],.bool kn]) ?_ hHd ?_;(·exact(by rw[←hd,←hkn];exact lX (p:=(k.a,k.show_)) (fun W h=>hM.ext h) (by rfl) (by rfl))))|(refine tk (v:= ?_) ?_ hHd ?_;rotate_left;(·(intro wq hSw;(try dsimp only at hSw);go_simp;(try with_reducible rfl)))));(try simp only[pS]))|((with_reducible refine bC ?_);refine aQ (by simp only[gS];rfl) ?_)|((with_reducible refine aH (d:=some 8) ?_);(((with_reducible refine aS (d:=some 8) oH ?_);intro W8 g8 hE8 hB8 hg8;simp[Value.cells] at hB8;replace hg8:=Nat.le_trans hX.size hg8;replace hX:=hX.trans hE8)))|((with_reducible refine aH (d:=none) ?_);(((with_reducible refine aK (t:=115) (e:=115) (g:=g8) (off:=0) (n:=2) (v:=.agg #[.int .i64 d.1,.int .i64 d.2]) ?_ ?_ hB8 gT ?_ ?_ ?_ ?_);rfl;rfl;rfl;(simp[Value.cells]);(simp[Value.cells,Value.oneCell']);intro Ws hBs hgrs;simp[aI,Value.cells] at hBs;replace hX:=aD hX hgrs hg8)))|((with_reducible refine bB ?_);clear hHd;refine aJ ?_ (fun hHd=> ?_);(·assumption);(try simp only[pS]))|(with_reducible refine aG ?_)
   all_goals
    refine⟨rfl,?_⟩;refine bL ?_ ?_
    ·simp only[Act.sets,Act.put,List.foldl_cons,List.foldl_nil,List.setIfInBounds_toArray,List.set_cons_zero,List.set_cons_succ,Act.get];rfl
    exact⟨g8,rfl,rfl,hX,hBs,hg8⟩
  rintro x6 W8 ⟨g8,hx8,hx9,hE8,hB8,hg8⟩;simp only[Act.sets,Act.put,List.foldl_cons,List.foldl_nil,List.setIfInBounds_toArray,List.set_cons_zero,List.set_cons_succ,hx8,hx9];replace hS:=hS.up hE8;replace hE:=hE.trans hE8;replace hB3:=hB3.ext hE8;replace hB4:=hB4.ext hE8;replace hB6:=hB6.ext hE8;replace hB7:=hB7.ext hE8;have l8:W4.heap.size≤g8:=Nat.le_trans hW47 hg8;clear hd hkn j10 c60 hE8 hx8 hx9
  cases hcst:t.cost k k.a k.show_ with
  |none=>
   have e1:kn=false:=by rw[←Hd.out.2,hcst];rfl
   subst e1;have hans:=Lib.hid (Town.findAns_9 Hte.out hcst);clear hcst;go_wp2_with (first|(((with_reducible refine aC (d:=some 45) (hl:=bT hB4) ?_ ?_);rfl))|(((with_reducible refine aK (t:=36) (e:=36) (g:=g4) (off:=0) (n:=5) (v:=.agg #[.slice none 0 0,.int .i64 0,.int .i64 0,.int .i64 0,.int .i64 0]) ?_ ?_ hB4 cW ?_ ?_ ?_ ?_);rfl;rfl;rfl;(simp[Value.cells]);(exact mB rfl);intro Wz hBz hgrz;simp[aI,Value.cells] at hBz;have hEz:=aD hE hgrz hg40)))
   refine jS ?_;refine jQ rfl rfl rfl (bT hBz) ?_;rw[hans.out];exact⟨_,rfl,⟨_,rfl,aX.nil _ _⟩,hEz⟩
  |some c=>
   have e1:kn=true:=by rw[←Hd.out.2,hcst];rfl
   have e2:d=c:=by rw[←Hd.out.1];unfold dU;rw[hcst];rfl
   subst e1;subst e2;go_wp2_with (first|((with_reducible refine aS (d:=some 10) Io ?_);intro W10 g10 hE10 hB10 hg10;have hg100:=Nat.le_trans hE.size hg10;simp[Value.cells] at hB10;(try replace hB3:=hB3.ext hE10);(try replace hB4:=hB4.ext hE10);have hSa:=hS.up hE10;have hB3a:=hB3;have hB4a:=hB4))
   obtain⟨d1,d2⟩:=d;have hbd:=Town.cost_bd HK.out hcst;obtain⟨n0,rfl⟩:∃n:Nat,d2=n:=⟨d2.toNat,by simp only at hbd;omega⟩
   have l10:W4.heap.size≤g10:=Nat.le_trans hS.ext.size hg10;have hN0:FNow W4 W10 gj gi gm g3 g4 g6 g7 g8 g10 pv sv tv xv cv clv t k [] k.a k.show_ d1 n0 [] (.slice none 0 0):=
    ⟨hSa,hB3a,hB4a,hB6.ext hE10,hB7.ext hE10,hB8.ext hE10,hB10,OwnAt.nil _ _ _ _,⟨l7,l8,l10⟩,fun D hD=>by simp at hD⟩
   have hans:=Lib.hid (Town.findAns_0 Hte.out hcst);have Hcst:=Lib.hid hcst;clear hcst hbd hSa hB3a hB4a hB6 hB7 hB8 hB10 hS hE hB3 hB4 hg8 hg10 hg100;refine vL [46,47,48,49,50] (fun n ds W=>ds.Nodup∧(∀D∈ds,W4.heap.size≤D)∧∃p s m l v,t.Onway k p s m n l∧FNow W4 W gj gi gm g3 g4 g6 g7 g8 g10 pv sv tv xv cv clv t k ds p s m n l v) n0 rfl ?ha ⟨by simp,by simp,_,_,_,_,_,Town.Onway.start Hcst.out,hN0⟩ ?round
   case ha=>
    simp only[Act.sets,Act.put,List.foldl_cons,List.foldl_nil,List.setIfInBounds_toArray,List.set_cons_zero,List.set_cons_succ,Act.get];rfl
   case round=>
    rintro n ds x W K ⟨hnd,hds,p,s,m,l,v,hO,hN⟩ hK;have HO:=Lib.hid hO;have HKr:=Lib.hid hK;clear hO hK hN0;simp only[Act.sets,Act.put,List.foldl_cons,List.foldl_nil,List.setIfInBounds_toArray,List.set_cons_zero,List.set_cons_succ,Act.get]
    cases n with
    |zero=>
     obtain rfl:m=0:=HO.out.zero HK.out;obtain rfl:t.bestSteps k=l:=HO.out.end_;have hB8:Blk W g8 115 #[.int .i64 0,.int .i64 0]:=by simpa using hN.B8
     have hbest:=Town.best_t HK.out (Town.check_of Hte.out) Hcst.out;have hbd:=Town.cost_bd HK.out Hcst.out;have hlen:(t.bestSteps k).length≤1100:=by have:=hbest.len;simp only at hbd this;omega
     have hval:∀x∈t.bestSteps k,inB x.st 0 (t.streets.length-1)=true:=fun x hx=>(Town.mem_stepsAll.1 (hbest.isOpen x hx)).1
     clear hbest hbd HO HKr;go_wp2_with (first|((with_reducible refine aC (d:=some 46) (hl:=nB hB8) ?_ ?_);rfl)|((with_reducible refine Jj (d:=some 48) (r:=false) (a:=0) (b:=0) (a':=0) (b':=0) uE ?_ ?_ ?_ ?_);rfl;rfl;rfl))
     simp only[Act.sets,Act.put,List.foldl_cons,List.foldl_nil,List.setIfInBounds_toArray,List.set_cons_zero,List.set_cons_succ,Act.get];have hEw:=hE0.trans hN.S.ext;have hTw:=hN.S.job.town;have hL:bY W v (t.bestSteps k):=hN.O.sl;have k6:=hN.B6.d;have kj:=hN.S.blk.d;have k3:=hN.B3.d;have k10:=hN.B10.d;have k4:=hN.B4.d;have hmk:=hN.marks;clear hB8 hN;apply eF [113,114,115,116,117,118,119,120,5] (fun x w'=>x 5=.int .i64 0∧∃sv,Blk w' g4 36 #[sv,.int .i64 (t.tourOf k.time (t.bestSteps k)).metres,.int .i64 (t.tourOf k.time (t.bestSteps k)).lo,.int .i64 (t.tourOf k.time (t.bestSteps k)).hi,.int .i64 (t.tourOf k.time (t.bestSteps k)).shown]∧aX W.heap.size w' sv (t.tourOf k.time (t.bestSteps k)).steps∧Ext w w'∧∀D∈ds,w'.heap[D]? =some (.deferred (some [])))
     case h=>
      have hX:=Ext.todrew (Ext.refl W);refine aR (.take 0 (.take 1 (.take 2 (.take 3 (.take 4 (.take 5 (.take 6 (.one 7 (.one 8 (.take 9 .nil)))))))))) (fun w'=>Blk w' g6 109 #[.pointer (some ⟨gj,0,none⟩)]∧Blk w' gj 120 #[pv,sv,tv,xv,.int .i64 k.a,.int .i64 k.b,.int .i64 k.show_,.int .i64 k.time,cv,.slice (some ⟨gi,0,none⟩) t.places.length t.places.length,.map (some gm)]∧Blk w' g3 43 #[.int .i64 k.a,.int .i64 k.b,.int .i64 k.show_,.int .i64 k.time,clv]∧Blk w' g10 32 #[v]) ?_ (fun hHd=> ?_)
      ·(first|exact True.intro|((try dsimp only);(repeat' apply And.intro)<;>first|assumption|(refine Ext.cell_some (Ext.todrew (Ext.refl _)) ?_;assumption)))
      repeat' first|((with_reducible refine aB ?_);(first|((with_reducible refine aB (i:=0) ?_);refine tk (v:=.pointer (some ⟨gj,0,none⟩)) ?_ hHd ?_;(·exact aA (by rfl) (fun W h=>aY Tryz.underlying109 rfl (by simpa using h.1.cell 0))))|((with_reducible refine aB (i:=3) ?_);refine tk (v:=.agg #[pv,sv,tv,xv]) ?_ hHd ?_;(·exact aA (by rfl) (fun W h=>wN h.2.1)))|((with_reducible refine aB (i:=5) ?_);refine tk (v:=.int .i64 k.time) ?_ hHd ?_;(·exact aA (by rfl) (fun W h=>aY Tryz.underlying3 rfl (by simpa using h.2.2.1.cell 3))))|((with_reducible refine aB (i:=6) ?_);refine tk (v:=v) ?_ hHd ?_;(·exact aA (by rfl) (fun W h=>aY Tryz.underlying32 rfl (by simpa using h.2.2.2.cell 0))))|(refine tk (v:= ?_) ?_ hHd ?_;rotate_left;(·(intro wq hSw;(try dsimp only at hSw);go_simp;(try with_reducible rfl)))));(try simp only[pS]))|((with_reducible refine bC ?_);refine aQ (by simp only[gS];rfl) ?_)|((with_reducible refine aH (d:=some 120) ?_);((refine bD (by rfl) (wG (.agg #[pv,sv,tv,xv]) v t k.time (t.bestSteps k) _ (aM.of (hTw.ext hX)) HK.out.ok HK.out.time (hL.ext hX) hlen hval) (by go_simp) ?_;rintro e Wt ⟨vt,rfl,hTo,hEt⟩;refine⟨_,rfl,?_⟩;have hst:=hX.size;replace hX:=hX.trans hEt;replace k6:=k6.ext hEt;replace kj:=kj.ext hEt;replace k3:=k3.ext hEt;replace k10:=k10.ext hEt;replace k4:=k4.ext hEt;obtain⟨svt,rfl,hOt⟩:=hTo;replace hOt:=hOt.base hst;obtain⟨Ak,ck,e61,_⟩:=hOt.steps;subst e61)))|((with_reducible refine aH (d:=none) ?_);(((with_reducible refine aK (t:=36) (e:=36) (g:=g4) (off:=0) (n:=5) (v:=.agg #[.slice Ak (t.tourOf k.time (t.bestSteps k)).steps.length ck,.int .i64 (t.tourOf k.time (t.bestSteps k)).metres,.int .i64 (t.tourOf k.time (t.bestSteps k)).lo,.int .i64 (t.tourOf k.time (t.bestSteps k)).hi,.int .i64 (t.tourOf k.time (t.bestSteps k)).shown]) ?_ ?_ k4 cW ?_ ?_ ?_ ?_);rfl;rfl;rfl;(simp[Value.cells]);(exact mB rfl);intro Wz hBz hgrz;simp[aI,Value.cells] at hBz;replace k6:=k6.grown hgrz (fun e=>blk_ne k6 k4 (by decide) (Option.some.inj e));replace kj:=kj.grown hgrz (fun e=>blk_ne kj k4 (by decide) (Option.some.inj e));replace k3:=k3.grown hgrz (fun e=>blk_ne k3 k4 (by decide) (Option.some.inj e));replace k10:=k10.grown hgrz (fun e=>blk_ne k10 k4 (by decide) (Option.some.inj e)))))|((with_reducible refine bB ?_);clear hHd;refine aJ ?_ (fun hHd=> ?_);(·(first|exact True.intro|((try dsimp only);(repeat' apply And.intro)<;>first|assumption|(refine Ext.cell_some (Ext.todrew (Ext.refl _)) ?_;assumption))));(try simp only[pS]))|(with_reducible refine aG ?_)
      all_goals
       refine⟨rfl,?_⟩;refine bL ?_ ?_
       ·simp only[Act.sets,Act.put,List.foldl_cons,List.foldl_nil,List.setIfInBounds_toArray,List.set_cons_zero,List.set_cons_succ,Act.get];rfl
       refine⟨rfl,_,hBz,fM hOt hgrz (kY hOt k4 (.inl (by decide))),aD (hEw.trans hX) hgrz hg40,fun D hD=> ?_⟩
       have e1:=hX.heap_some (hmk D hD);have hl1:=(Array.getElem?_eq_some_iff.1 e1).1;rw[hgrz.block D hl1 (fun e=>by cases e;unfold Blk at k4;rw[k4] at e1;cases e1)]
       exact e1
     rintro x18 Wf ⟨hx5,svf,hBf,hOf,hEf,hmf⟩;simp only[Act.sets,Act.put,List.foldl_cons,List.foldl_nil,List.setIfInBounds_toArray,List.set_cons_zero,List.set_cons_succ,hx5];go_wp2
     refine zT (l:=ds) rfl hnd hmf ?_;have hBsh:=Le hBf hmf;refine jQ rfl rfl rfl (bT (g:=g4) hBsh) ?_;rw[hans.out];exact⟨_,rfl,⟨_,rfl,Jq (hOf.base hEw.size) hmf⟩,oJ ds hEf (fun D hD=>Nat.le_trans hW4 (hds D hD))⟩
    |succ n=>
     have hB8:Blk W g8 115 #[.int .i64 m,.int .i64 ((n:Int)+1)]:=by have:=hN.B8;push_cast at this;exact this
     have hr:decide (m=0∧(n:Int)+1=0)= !true:=by simp;omega
     have c60:=hN.B6.cell 0;simp at c60;go_wp2_with (first|((with_reducible refine aC (d:=some 46) (hl:=nB hB8) ?_ ?_);rfl)|((with_reducible refine Jj (d:=some 48) (r:=true) (a:=m) (b:=(n:Int)+1) (a':=0) (b':=0) uE ?_ ?_ hr ?_);rfl;rfl)|(go_at_call 64;refine(pA gj _).mono ?_;rintro e Wr ⟨gb,rfl,hEr,hgb,hBb⟩;replace hN:=hN.ext hEr))
     have hgm2:=hN.gm_lt;have hds2:=hN.ds_lt;have hwb:=hN.S.ext.size;have hvlt:∀r,v.ownBlock=some r→r<Wr.heap.size:=fun r e=>(hN.O.lt r e).2
     have hltB:=(⟨hN.B7.lt,hN.B8.lt,hN.B10.lt⟩:g7<Wr.heap.size∧g8<Wr.heap.size∧g10<Wr.heap.size);have hlenl:l.length≤1000000000:=by have h1:=HO.out.rest;have h2:=congrArg List.length h1;rw[List.length_append] at h2;have h3:=(Town.best_t HK.out (Town.check_of Hte.out) Hcst.out).len;have h4:=Town.cost_bd HK.out Hcst.out;simp only at h3 h4;omega
     clear hB8 hr c60 hgb hEr;refine jJ (gf:=99) (lb:=#[.pointer (some ⟨gb,0,none⟩)]) (z:=.agg #[.int .i64 0,.bool false]) (val:=fun x:Step=>.agg #[.int .i64 x.st,.bool x.bk]) rfl uT (oZ gb gj pv sv tv xv cv (.slice (some ⟨gi,0,none⟩) t.places.length t.places.length) (.map (some gm)) t k HK.out) (fun _=>rfl) jK (fun _=>rfl) rfl (fun x c hc=>by simp[Value.cells] at hc;rcases hc with rfl|rfl<;>rfl) (fun x j=>by simp[fH,iO,Act.put,Act.eval]) (fun x j=>by simp[fH,iO,Act.put,Act.eval])
      (fun pre W=>(∀y∈pre,¬t.onP k p s m ((n+1:Nat):Int) y)∧FNow W4 W gj gi gm g3 g4 g6 g7 g8 g10 pv sv tv xv cv clv t k ds p s m (n+1) l v∧Blk W gb 109 #[.pointer (some ⟨gj,0,none⟩)])
      (fun c pre W=>c=.exit 2∧∃p' s' m' l' v',t.Onway k p' s' m' n l'∧FNow W4 W gj gi gm g3 g4 g6 g7 g8 g10 pv sv tv xv cv clv t k ds p' s' m' n l' v') ?hI ?hIx ?hDt ?h0 ?body ?done ?stop
     case hI=>
      rintro pre A B row ⟨i1,i2,i3⟩ hg hr;exact⟨i1,i2.abide hgm2 hds2 hwb hg hr,Blk.abide i3 hg hr⟩
     case hIx=>
      rintro c pre A B row ⟨rfl,p',s',m',l',v',i1,i2⟩ hg hr;exact⟨rfl,p',s',m',l',v',i1,i2.abide hgm2 hds2 hwb hg hr⟩
     case hDt=>
      rintro pre A ⟨_,i2,i3⟩;exact⟨i3,i2.S.job⟩
     case h0=>exact⟨by simp,hN,hBb⟩
     case done=>
      rintro D xs W' hD rfl ⟨i1,_,_⟩ _;exact absurd i1 (HO.out.none_on HK.out)
     case stop=>
      rintro D c pre W' hD _ ⟨rfl,p',s',m',l',v',i1,i2⟩ hKd;have hRn:(D::ds).Nodup∧(∀E∈D::ds,W4.heap.size≤E)∧∃p s m l v,t.Onway k p s m n l∧FNow W4 W' gj gi gm g3 g4 g6 g7 g8 g10 pv sv tv xv cv clv t k (D::ds) p s m n l v:=
       ⟨List.nodup_cons.2 ⟨fun hm=>by have:=hds2 D hm;omega,hnd⟩,fun E hE=>by(rcases List.mem_cons.1 hE with rfl|hE);exact Nat.le_trans hwb hD;exact hds E hE,p',s',m',l',v',i1,i2.mark hKd⟩
      have HRn:=Lib.hid hRn;clear hRn i1 i2 hKd hN hBb;go_wp2
      refine HKr.out n (D::ds) _ _ (by omega) HRn.out rfl (Ra ?_)
      simp only[Act.sets,Act.put,List.foldl_cons,List.foldl_nil,List.setIfInBounds_toArray,List.set_cons_zero,List.set_cons_succ,Act.get];rfl
     case body=>
      rintro l0 pre x0 kx W' ⟨i1,hN,hBb⟩ ⟨cn,hcn⟩ hkx hBx hlen hsz0;have hx:x0∈t.stepsAll k:=List.mem_of_mem_take (i:=cn) (by rw[←hcn];simp)
      obtain⟨n1,pn,qn,u,b,rfl,hn1,he1,hpn,he2,hqn,hu,hu64,hm1,hm2⟩:=zC HK.out hx;have HX:=Lib.hid (⟨hcn,he1,he2,hu⟩:_∧_∧_∧_);have cends:=fun w h=>fL (.agg #[pv,sv,tv,xv]) t n1 b w h hn1
      rw[he1,he2] at cends;have cshow:=fun w h=>pB gj n1 b pv sv tv xv cv (.slice (some ⟨gi,0,none⟩) t.places.length t.places.length) (.map (some gm)) t k w h HK.out hn1
      rw[hu] at cshow;have hpart:=Town.cost_inD HO.out.cost;clear hcn he1 he2 hu hx;simp only[iO,rC,Act.put,List.setIfInBounds_toArray,List.set_cons_zero,List.set_cons_succ];refine wpIn_block ?_;refine wpIn_seq ?_;have c60:=hN.B6.cell 0;simp at c60;apply gI [53,54,55,56,57,58,52,59,60,12,13] (fun x w'=>x 12=.int .i64 pn∧x 13=.int .i64 qn∧Ext W' w')
      case h=>
       have hX:=Ext.todrew (Ext.refl W');have hJ:=hN.S.job;refine bK (.take 0 (.take 1 (.take 2 (.take 3 (.take 4 (.one 5 (.take 6 (.take 7 (.take 8 (.take 9 (.take 10 .nil))))))))))) (fun w'=>Ext W' w') (by kernel_rfl) (by kernel_rfl) (by rintro⟨_,_,h⟩;first|exact h|exact absurd h.1 (fun e=>by cases e)) (by kernel_rfl) (by kernel_rfl) (by kernel_rfl) (by intro _ _ _ _ _ h;first|exact h|exact absurd h.1 (fun e=>by cases e)) ?_ (fun hHd=> ?_)
       ·(first|exact True.intro|((try dsimp only);(repeat' apply And.intro)<;>first|assumption|(refine Ext.cell_some (Ext.todrew (Ext.refl _)) ?_;assumption)))
       repeat' first|((with_reducible refine aB ?_);(first|((with_reducible refine aB (i:=0) ?_);refine tk (v:=.pointer (some ⟨gj,0,none⟩)) ?_ hHd ?_;(·exact aA (by rfl) (rl Tryz.underlying109 c60)))|((with_reducible refine aB (i:=3) ?_);refine tk (v:=.agg #[pv,sv,tv,xv]) ?_ hHd ?_;(·exact aA (by rfl) (fun W h=>qP (hJ.ext h))))|((with_reducible refine aB (i:=4) ?_);refine tk (v:=.agg #[.int .i64 n1,.bool b]) ?_ hHd ?_;(·exact aA (by rfl) (fun W h=>bZ (hBx.ext h))))|(refine tk (v:= ?_) ?_ hHd ?_;rotate_left;(·(intro wq hSw;(try dsimp only at hSw);go_simp;(try with_reducible rfl)))));(try simp only[pS]))|((with_reducible refine bC ?_);refine aQ (by simp only[gS];rfl) ?_)|((with_reducible refine aH (d:=some 58) ?_);((refine bD (by rfl) (cends _ (aM.of (hJ.town.ext hX))) (by go_simp) ?_;rintro e W58 ⟨rfl,hE58⟩;refine⟨_,rfl,?_⟩;replace hX:=hX.trans hE58)))|((with_reducible refine bB ?_);clear hHd;refine aJ ?_ (fun hHd=> ?_);(·(first|exact True.intro|((try dsimp only);(repeat' apply And.intro)<;>first|assumption|(refine Ext.cell_some (Ext.todrew (Ext.refl _)) ?_;assumption))));(try simp only[pS]))|(with_reducible refine aG ?_)
       all_goals
        refine⟨rfl,?_⟩;refine bL ?_ ?_
        ·simp only[Act.sets,Act.put,List.foldl_cons,List.foldl_nil,List.setIfInBounds_toArray,List.set_cons_zero,List.set_cons_succ,Act.get];rfl
        exact⟨rfl,rfl,hX⟩
      rintro x13 W13 ⟨hx12,hx13,hE13⟩;simp only[Act.sets,Act.put,List.foldl_cons,List.foldl_nil,List.setIfInBounds_toArray,List.set_cons_zero,List.set_cons_succ,hx12,hx13];replace hN:=hN.ext hE13;replace hBx:=hBx.ext hE13;replace hBb:=hBb.ext hE13;have hUp:=UpT.ofExt (t:=82) (B:=Wr.heap.size) hE13;clear hE13 c60 cends;change Code.wpIn _ _ _ _ _ _ _;refine wpIn_seq ?_;obtain⟨sn,rfl⟩:∃q:Nat,s=q:=⟨s.toNat,by have:=hpart.1;omega⟩
      have hsn64:sn<64:=by have h1:=hpart.2.1;have h2:=(Town.sets_bd HK.out.ok.sh).2;have h3:t.sets=2^t.shows.length:=rfl;rw[←h3] at h1;omega
      obtain⟨s2,hs2⟩:∃x,aE (sn:Int) (u:Int)=x:=⟨_,rfl⟩;have hbl:bits .andNot .i64 (sn:Int) (u:Int)=s2:=by rw[←hs2];exact lP hsn64 hu64
      have Hs2:=Lib.hid hs2;have c60:=hN.B6.cell 0;have c71:=hN.B7.cell 1;simp at c60 c71;clear hs2 hpart;apply gI [61,62,63,64,65,66,67,68,14] (fun x w'=>∃g14,x 14=.pointer (some ⟨g14,0,none⟩)∧Ext W13 w'∧Blk w' g14 113 #[.int .i64 qn,.int .i64 s2]∧W13.heap.size≤g14)
      case h=>
       have hX:=Ext.todrew (Ext.refl W13);have hJ:=hN.S.job;refine bK (.take 0 (.take 1 (.take 2 (.take 3 (.take 4 (.two 5 (.take 6 (.take 7 (.one 8 (.one 9 .nil)))) 8 (.one 5 (.take 6 (.take 7 (.one 9 .nil)))))))))) (fun w'=>Ext W13 w') (by kernel_rfl) (by kernel_rfl) (by rintro⟨_,_,h⟩;first|exact h|exact absurd h.1 (fun e=>by cases e)) (by kernel_rfl) (by kernel_rfl) (by kernel_rfl) (by intro _ _ _ _ _ h;first|exact h|exact absurd h.1 (fun e=>by cases e)) ?_ (fun hHd=> ?_)
       ·(first|exact True.intro|((try dsimp only);(repeat' apply And.intro)<;>first|assumption|(refine Ext.cell_some (Ext.todrew (Ext.refl _)) ?_;assumption)))
       repeat' first|((with_reducible refine aB ?_);(first|((with_reducible refine aB (i:=2) ?_);refine tk (v:=.int .i64 sn) ?_ hHd ?_;(·exact aA (by rfl) (rl Tryz.underlying3 c71)))|((with_reducible refine aB (i:=3) ?_);refine tk (v:=.pointer (some ⟨gj,0,none⟩)) ?_ hHd ?_;(·exact aA (by rfl) (rl Tryz.underlying109 c60)))|((with_reducible refine aB (i:=4) ?_);refine tk (v:=.agg #[.int .i64 n1,.bool b]) ?_ hHd ?_;(·exact aA (by rfl) (fun W h=>bZ (hBx.ext h))))|(refine tk (v:= ?_) ?_ hHd ?_;rotate_left;(·(intro wq hSw;(try dsimp only at hSw);go_simp;(try with_reducible rfl)))));(try simp only[pS]))|((with_reducible refine bC ?_);refine aQ (by simp only[gS];rfl) ?_)|((with_reducible refine fQ ?_);refine dI (by simp only[gS];rfl) (by simp only[gS];rfl) ?_ ?_)|((with_reducible refine aH (d:=some 66) ?_);((refine bD (by rfl) (cshow _ (hJ.ext hX)) (by go_simp) ?_;rintro e W66 ⟨rfl,hE66⟩;refine⟨_,rfl,?_⟩;replace hX:=hX.trans hE66;(try replace hB14:=hB14.ext hE66))))|((with_reducible refine aH (d:=some 14) ?_);(((with_reducible refine aS (d:=some 14) tN ?_);intro W14 g14 hE14 hB14 hg14;simp[Value.cells] at hB14;replace hg14:=Nat.le_trans hX.size hg14;replace hX:=hX.trans hE14)))|((with_reducible refine aH (d:=none) ?_);(((with_reducible refine aK (t:=113) (e:=113) (g:=g14) (off:=0) (n:=2) (v:=.agg #[.int .i64 qn,.int .i64 s2]) ?_ ?_ hB14 aW ?_ ?_ ?_ ?_);rfl;rfl;rfl;(simp[Value.cells]);(simp[Value.cells,Value.oneCell']);intro Ws hBs hgrs;simp[aI,Value.cells] at hBs;replace hX:=aD hX hgrs hg14)))|((with_reducible refine bB ?_);clear hHd;refine aJ ?_ (fun hHd=> ?_);(·assumption);(try simp only[pS]))|(with_reducible refine aG ?_)
       all_goals
        refine⟨rfl,?_⟩;refine bL ?_ ?_
        ·simp only[Act.sets,Act.put,List.foldl_cons,List.foldl_nil,List.setIfInBounds_toArray,List.set_cons_zero,List.set_cons_succ,Act.get];rfl
        exact⟨g14,rfl,hX,hBs,hg14⟩
      rintro x14 W14 ⟨g14,hx14,hE14,hB14,hg14⟩;have n714:g7≠g14:=by have:=hN.B7.lt;omega
      clear hg14;simp only[Act.sets,Act.put,List.foldl_cons,List.foldl_nil,List.setIfInBounds_toArray,List.set_cons_zero,List.set_cons_succ,hx14];replace hN:=hN.ext hE14;replace hBx:=hBx.ext hE14;replace hBb:=hBb.ext hE14;replace hUp:=hUp.trans (UpT.ofExt hE14);clear hE14 c60 c71 cshow hbl;change Code.wpIn _ _ _ _ _ _ _;refine wpIn_seq ?_;obtain⟨dq,hdq⟩:∃d,dU (t.cost k) ((qn:Int),s2)=d:=⟨_,rfl⟩;obtain⟨kq,hkq⟩:∃b,(t.cost k (qn:Int) s2).isSome=b:=⟨_,rfl⟩;have c60:=hN.B6.cell 0;have j10:=hN.S.blk.cell 10;simp at c60 j10;apply gI [70,71,72,73,74,75,69,76,77,15,16] (fun x w'=>∃g15,x 15=.pointer (some ⟨g15,0,none⟩)∧x 16=.bool kq∧Ext W14 w'∧Blk w' g15 115 #[.int .i64 dq.1,.int .i64 dq.2]∧W14.heap.size≤g15)
      case h=>
       have hX:=Ext.todrew (Ext.refl W14);have hM:=hN.S.map;refine bK (.take 0 (.take 1 (.take 2 (.take 3 (.take 4 (.take 5 (.take 6 (.take 7 (.take 8 (.one 9 (.one 10 (.take 11 .nil)))))))))))) (fun w'=>Ext W14 w') (by kernel_rfl) (by kernel_rfl) (by rintro⟨_,_,h⟩;first|exact h|exact absurd h.1 (fun e=>by cases e)) (by kernel_rfl) (by kernel_rfl) (by kernel_rfl) (by intro _ _ _ _ _ h;first|exact h|exact absurd h.1 (fun e=>by cases e)) ?_ (fun hHd=> ?_)
       ·(first|exact True.intro|((try dsimp only);(repeat' apply And.intro)<;>first|assumption|(refine Ext.cell_some (Ext.todrew (Ext.refl _)) ?_;assumption)))
       repeat' first|((with_reducible refine aB ?_);(first|((with_reducible refine aB (i:=0) ?_);refine tk (v:=.pointer (some ⟨gj,0,none⟩)) ?_ hHd ?_;(·exact aA (by rfl) (rl Tryz.underlying109 c60)))|((with_reducible refine aB (i:=3) ?_);refine tk (v:=.map (some gm)) ?_ hHd ?_;(·exact aA (by rfl) (rl Tryz.underlying118 j10)))|((with_reducible refine aB (i:=4) ?_);refine tk (v:=.agg #[.int .i64 qn,.int .i64 s2]) ?_ hHd ?_;(·exact aA (by rfl) (fun W h=>dP (hB14.ext h))))|((with_reducible refine aB (i:=5) ?_);refine tk (v:=.tuple #[.agg #[.int .i64 dq.1,.int .i64 dq.2],.bool kq]) ?_ hHd ?_;(·exact(by rw[←hdq,←hkq];exact lX (p:=((qn:Int),s2)) (fun W h=>hM.ext h) (by rfl) (by rfl))))|(refine tk (v:= ?_) ?_ hHd ?_;rotate_left;(·(intro wq hSw;(try dsimp only at hSw);go_simp;(try with_reducible rfl)))));(try simp only[pS]))|((with_reducible refine bC ?_);refine aQ (by simp only[gS];rfl) ?_)|((with_reducible refine aH (d:=some 15) ?_);(((with_reducible refine aS (d:=some 15) oH ?_);intro W15 g15 hE15 hB15 hg15;simp[Value.cells] at hB15;replace hg15:=Nat.le_trans hX.size hg15;replace hX:=hX.trans hE15)))|((with_reducible refine aH (d:=none) ?_);(((with_reducible refine aK (t:=115) (e:=115) (g:=g15) (off:=0) (n:=2) (v:=.agg #[.int .i64 dq.1,.int .i64 dq.2]) ?_ ?_ hB15 gT ?_ ?_ ?_ ?_);rfl;rfl;rfl;(simp[Value.cells]);(simp[Value.cells,Value.oneCell']);intro Ws hBs hgrs;simp[aI,Value.cells] at hBs;replace hX:=aD hX hgrs hg15)))|((with_reducible refine bB ?_);clear hHd;refine aJ ?_ (fun hHd=> ?_);(·assumption);(try simp only[pS]))|(with_reducible refine aG ?_)
       all_goals
        refine⟨rfl,?_⟩;refine bL ?_ ?_
        ·simp only[Act.sets,Act.put,List.foldl_cons,List.foldl_nil,List.setIfInBounds_toArray,List.set_cons_zero,List.set_cons_succ,Act.get];rfl
        exact⟨g15,rfl,rfl,hX,hBs,hg15⟩
      rintro x15 W15 ⟨g15,hx15,hx16,hE15,hB15,hg15⟩;have n815:g8≠g15:=by have:=hN.B8.lt;omega
      clear hg15;simp only[Act.sets,Act.put,List.foldl_cons,List.foldl_nil,List.setIfInBounds_toArray,List.set_cons_zero,List.set_cons_succ,hx15,hx16];replace hN:=hN.ext hE15;replace hBx:=hBx.ext hE15;replace hBb:=hBb.ext hE15;replace hB14:=hB14.ext hE15;replace hUp:=hUp.trans (UpT.ofExt hE15);clear hE15 c60 j10;change Code.wpIn _ _ _ _ _ _ _;refine wpIn_seq ?_;have hmb:=HO.out.bd HK.out;obtain⟨met,hmet⟩:∃m,(t.at_ (n1:Int)).metres=m:=⟨_,rfl⟩;have Hmet:=Lib.hid hmet;rw[hmet] at hm1 hm2;obtain⟨m1,hm1e⟩:∃x,x=m-met:=⟨_,rfl⟩;have wm1:IntKind.i64.wrap (m-met)=m1:=by rw[bM (by omega) (by omega)];omega
      have wn1:IntKind.i64.wrap ((n:Int)+1-1)=(n:Int):=by rw[bM (by omega) (by omega)];omega
      have Hm1:=Lib.hid hm1e;have hB8:Blk W15 g8 115 #[.int .i64 m,.int .i64 ((n:Int)+1)]:=by have:=hN.B8;push_cast at this;exact this
      have c60:=hN.B6.cell 0;have c70:=hN.B7.cell 0;have c80:=hB8.cell 0;have c81:=hB8.cell 1;have j3:=hN.S.blk.cell 3;have bx0:=hBx.cell 0;simp at c60 c70 c80 c81 j3;simp[Value.cells] at bx0;obtain⟨As,cp,exv,h1,h2,h4⟩:=hN.S.job.town.streets;unfold maxLen at h2;rw[exv] at j3;obtain⟨ads,rfl,hcs⟩:=h4 (by omega)
      obtain⟨ssv,hss⟩:=hcs n1 hn1;have e2:=fld hss.1 (i:=2) (by decide) rfl
      rw[show t.streets[n1].metres=met by rw[←hmet,Town.at_eq hn1]] at e2
      have z2:(n1:Int)<(t.streets.length:Int):=by omega
      obtain⟨bq,hbq⟩:∃b,decide ((pn:Int)=p∧kq=true∧dq.1=m1∧dq.2=(n:Int))=b:=⟨_,rfl⟩;have Hbq:=Lib.hid hbq;clear hss hcs h4 hbq hm1e hmet;apply gI [78,79,80,81,82,83,84,85,86,87,88,89,90,91,92,93,94,95,96,97,98,99,100,101,102,103,104,105,106] (fun x w'=>x 106=.bool bq∧Ext W15 w')
      case h=>
       have hX:=Ext.todrew (Ext.refl W15);have wn2:IntKind.i64.wrap (n:Int)=(n:Int):=bM (by omega) (by omega)
       by_cases cP:(pn:Int)=p
       ·cases kq
        ·
         have hv:bq=false:=by rw[←Hbq.out];simp
         refine bK (.take 0 (.take 1 (.take 2 (.take 3 (.take 4 (.take 5 (.take 6 (.take 7 (.take 8 (.take 9 (.take 10 (.take 11 (.take 12 (.take 13 (.take 14 (.take 15 (.take 16 (.take 17 (.take 18 (.take 19 (.take 20 (.take 21 (.take 22 (.take 23 (.take 24 (.take 25 (.take 26 (.take 27 (.take 28 .nil))))))))))))))))))))))))))))) (fun w'=>Ext W15 w') (by kernel_rfl) (by kernel_rfl) (by rintro⟨_,_,h⟩;first|exact h|exact absurd h.1 (fun e=>by cases e)) (by kernel_rfl) (by kernel_rfl) (by kernel_rfl) (by intro _ _ _ _ _ h;first|exact h|exact absurd h.1 (fun e=>by cases e)) ?_ (fun hHd=> ?_)
         ·(first|exact True.intro|((try dsimp only);(repeat' apply And.intro)<;>first|assumption|(refine Ext.cell_some (Ext.todrew (Ext.refl _)) ?_;assumption)))
         repeat' first|((with_reducible refine aB ?_);(first|((with_reducible refine aB (i:=2) ?_);refine tk (v:=.int .i64 p) ?_ hHd ?_;(·exact aA (by rfl) (rl Tryz.underlying3 c70)))|((with_reducible refine aB (i:=3) ?_);refine tk (v:=.bool true) ?_ hHd ?_;(·(intro wq hSw;go_simp;first|done|exact cP|simp[cP])))|((with_reducible refine aB (i:=6) ?_);refine tk (v:=.bool false) ?_ hHd ?_;(·(intro wq hSw;go_simp)))|((first|with_reducible refine aB (i:=5) ?_);(refine tw (v:= ?_) ?_ hHd ?_;rotate_left;(·(intro wq hSw;(try dsimp only at hSw);go_simp;(try with_reducible rfl)))))|(refine tk (v:= ?_) ?_ hHd ?_;rotate_left;(·(intro wq hSw;(try dsimp only at hSw);go_simp;(try with_reducible rfl))))|refine ts hHd ?_);(try simp only[pS]))|(with_reducible refine aG ?_)
         all_goals
          refine⟨rfl,?_⟩;refine bL ?_ ?_
          ·simp only[Act.sets,Act.put,List.foldl_cons,List.foldl_nil,List.setIfInBounds_toArray,List.set_cons_zero,List.set_cons_succ,Act.get];rfl
          exact⟨by rw[hv];rfl,hX⟩
        ·
         have hv:bq=bq:=rfl;have hbe:decide (dq.1=m1∧dq.2=(n:Int))=bq:=by rw[←Hbq.out];simp[cP]
         refine bK (.take 0 (.take 1 (.take 2 (.take 3 (.take 4 (.take 5 (.take 6 (.take 7 (.take 8 (.take 9 (.take 10 (.take 11 (.take 12 (.take 13 (.take 14 (.take 15 (.take 16 (.take 17 (.take 18 (.take 19 (.take 20 (.take 21 (.take 22 (.take 23 (.take 24 (.take 25 (.take 26 (.take 27 (.take 28 .nil))))))))))))))))))))))))))))) (fun w'=>Ext W15 w') (by kernel_rfl) (by kernel_rfl) (by rintro⟨_,_,h⟩;first|exact h|exact absurd h.1 (fun e=>by cases e)) (by kernel_rfl) (by kernel_rfl) (by kernel_rfl) (by intro _ _ _ _ _ h;first|exact h|exact absurd h.1 (fun e=>by cases e)) ?_ (fun hHd=> ?_)
         ·(first|exact True.intro|((try dsimp only);(repeat' apply And.intro)<;>first|assumption|(refine Ext.cell_some (Ext.todrew (Ext.refl _)) ?_;assumption)))
         repeat' first|((with_reducible refine aB ?_);(first|((with_reducible refine aB (i:=2) ?_);refine tk (v:=.int .i64 p) ?_ hHd ?_;(·exact aA (by rfl) (rl Tryz.underlying3 c70)))|((with_reducible refine aB (i:=3) ?_);refine tk (v:=.bool true) ?_ hHd ?_;(·(intro wq hSw;go_simp;first|done|exact cP|simp[cP])))|((with_reducible refine aB (i:=6) ?_);refine tk (v:=.bool true) ?_ hHd ?_;(·(intro wq hSw;go_simp)))|((with_reducible refine aB (i:=8) ?_);refine tw (v:=.agg #[.int .i64 dq.1,.int .i64 dq.2]) ?_ hHd ?_;(·exact aA (by rfl) (fun W h=>nB (hB15.ext h))))|((with_reducible refine aB (i:=10) ?_);refine tw (v:=.int .i64 m) ?_ hHd ?_;(·exact aA (by rfl) (rl Tryz.underlying3 c80)))|((with_reducible refine aB (i:=11) ?_);refine tw (v:=.pointer (some ⟨gj,0,none⟩)) ?_ hHd ?_;(·exact aA (by rfl) (rl Tryz.underlying109 c60)))|((with_reducible refine aB (i:=16) ?_);refine tw (v:=.slice (some ads) t.streets.length cp) ?_ hHd ?_;(·exact aA (by rfl) (rl Tryz.underlying23 j3)))|((with_reducible refine aB (i:=18) ?_);refine tw (v:=.int .i64 n1) ?_ hHd ?_;(·exact aA (by rfl) (rl Tryz.underlying3 bx0)))|((with_reducible refine aB (i:=21) ?_);refine tw (v:=.int .i64 met) ?_ hHd ?_;(·exact aA (by rfl) (rl Tryz.underlying3 e2)))|((with_reducible refine aB (i:=22) ?_);refine tw (v:=.int .i64 m1) ?_ hHd ?_;(·(intro wq hSw;go_simp)))|((with_reducible refine aB (i:=24) ?_);refine tw (v:=.int .i64 ((n:Int)+1)) ?_ hHd ?_;(·exact aA (by rfl) (rl Tryz.underlying3 c81)))|((with_reducible refine aB (i:=25) ?_);refine tw (v:=.int .i64 n) ?_ hHd ?_;(·(intro wq hSw;go_simp)))|((with_reducible refine aB (i:=27) ?_);refine tw (v:=.bool bq) ?_ hHd ?_;(·exact lH uE hbe (by rfl) (by rfl)))|(refine tk (v:= ?_) ?_ hHd ?_;rotate_left;(·(intro wq hSw;(try dsimp only at hSw);go_simp;(try with_reducible rfl))))|(refine tw (v:= ?_) ?_ hHd ?_;rotate_left;(·(intro wq hSw;(try dsimp only at hSw);go_simp;(try with_reducible rfl)))));(try simp only[pS]))|(with_reducible refine aG ?_)
         all_goals
          refine⟨rfl,?_⟩;refine bL ?_ ?_
          ·simp only[Act.sets,Act.put,List.foldl_cons,List.foldl_nil,List.setIfInBounds_toArray,List.set_cons_zero,List.set_cons_succ,Act.get];rfl
          exact⟨by rw[hv];rfl,hX⟩
       ·
        have hv:bq=false:=by rw[←Hbq.out];simp[cP]
        refine bK (.take 0 (.take 1 (.take 2 (.take 3 (.take 4 (.take 5 (.take 6 (.take 7 (.take 8 (.take 9 (.take 10 (.take 11 (.take 12 (.take 13 (.take 14 (.take 15 (.take 16 (.take 17 (.take 18 (.take 19 (.take 20 (.take 21 (.take 22 (.take 23 (.take 24 (.take 25 (.take 26 (.take 27 (.take 28 .nil))))))))))))))))))))))))))))) (fun w'=>Ext W15 w') (by kernel_rfl) (by kernel_rfl) (by rintro⟨_,_,h⟩;first|exact h|exact absurd h.1 (fun e=>by cases e)) (by kernel_rfl) (by kernel_rfl) (by kernel_rfl) (by intro _ _ _ _ _ h;first|exact h|exact absurd h.1 (fun e=>by cases e)) ?_ (fun hHd=> ?_)
        ·(first|exact True.intro|((try dsimp only);(repeat' apply And.intro)<;>first|assumption|(refine Ext.cell_some (Ext.todrew (Ext.refl _)) ?_;assumption)))
        repeat' first|((with_reducible refine aB ?_);(first|((with_reducible refine aB (i:=2) ?_);refine tk (v:=.int .i64 p) ?_ hHd ?_;(·exact aA (by rfl) (rl Tryz.underlying3 c70)))|((with_reducible refine aB (i:=3) ?_);refine tk (v:=.bool false) ?_ hHd ?_;(·(intro wq hSw;go_simp;first|done|exact cP|simp[cP])))|((with_reducible refine aB (i:=6) ?_);refine tk (v:=.bool false) ?_ hHd ?_;(·(intro wq hSw;go_simp)))|(refine tk (v:= ?_) ?_ hHd ?_;rotate_left;(·(intro wq hSw;(try dsimp only at hSw);go_simp;(try with_reducible rfl))))|refine ts hHd ?_);(try simp only[pS]))|(with_reducible refine aG ?_)
        all_goals
         refine⟨rfl,?_⟩;refine bL ?_ ?_
         ·simp only[Act.sets,Act.put,List.foldl_cons,List.foldl_nil,List.setIfInBounds_toArray,List.set_cons_zero,List.set_cons_succ,Act.get];rfl
         exact⟨by rw[hv];rfl,hX⟩
      rintro x16 W16 ⟨hx106,hE16⟩;simp only[Act.sets,Act.put,List.foldl_cons,List.foldl_nil,List.setIfInBounds_toArray,List.set_cons_zero,List.set_cons_succ,hx106];replace hN:=hN.ext hE16;replace hBx:=hBx.ext hE16;replace hBb:=hBb.ext hE16;replace hB14:=hB14.ext hE16;replace hB15:=hB15.ext hE16;replace hUp:=hUp.trans (UpT.ofExt hE16);clear hE16 c60 c70 c80 c81 j3 bx0 e2 hB8 wm1 wn1 exv;change Code.wpIn _ _ _ _ _ _ _;refine wpIn_cond (t:=bq) rfl ?_;have hon:t.onP k p (sn:Int) m ((n+1:Nat):Int) ⟨(n1:Int),b⟩↔((pn:Int)=p∧kq=true∧dq.1=m1∧dq.2=(n:Int)):=by
       obtain⟨_,he1,he2,hu⟩:=HX.out;unfold Town.onP;rw[he1,he2,hu,Hs2.out];rw[show(t.at_ (⟨(n1:Int),b⟩:Step).st).metres=met from Hmet.out,←Hm1.out,show((n+1:Nat):Int)-1=(n:Int) by push_cast;omega]
       cases hc:t.cost k (qn:Int) s2 with
       |none=>
        rw[hc] at hkq;rw[←hkq];simp
       |some c=>
        rw[hc] at hkq;have e3:c=dq:=by rw[←hdq];unfold dU;rw[hc];rfl
        subst e3;rw[←hkq];simp only[Option.isSome_some,Option.some.injEq,true_and];constructor
        ·rintro⟨h1,h2⟩;rw[h2];exact⟨h1,rfl,rfl⟩
        ·rintro⟨h1,h2,h3⟩;exact⟨h1,Prod.ext h2 h3⟩
      cases bq
      ·refine wpIn_skip ?_;have hno:¬t.onP k p (sn:Int) m ((n+1:Nat):Int) ⟨(n1:Int),b⟩:=fun h=>of_decide_eq_false Hbq.out (hon.1 h)
       refine⟨hUp,fun y hy=> ?_,hN,hBb⟩
       rcases List.mem_append.1 hy with hy|hy
       ·exact i1 y hy
       ·rw[List.mem_singleton] at hy;subst hy;exact hno
      ·have hyes:=hon.2 (of_decide_eq_true Hbq.out);have hnx:=HO.out.step HK.out HX.out.1 i1 hyes;obtain⟨hq1,he1,he2,hu⟩:=HX.out;rw[he2,hu,Hs2.out,show(t.at_ (⟨(n1:Int),b⟩:Step).st).metres=met from Hmet.out,←Hm1.out] at hnx
       have hdd:=of_decide_eq_true Hbq.out;obtain⟨dq1,dq2⟩:=dq;obtain⟨_,_,rfl,rfl⟩:=hdd;clear hdq hkq hon hyes i1;refine wpIn_seq ?_;simp only at hB15 hnx;have kx0:Blk W16.drew kx 82 #[.int .i64 n1,.bool b]:=by simpa [Value.cells] using hBx.d
       have k14:=hB14.d;have k15:=hB15.d;clear Hbq Hm1 hx106 hq1 he1 he2 hu hm1 hm2 hBb;apply gI [107,108,109,110,111,112] (fun _ w'=>∃v',FNow W4 w' gj gi gm g3 g4 g6 g7 g8 g10 pv sv tv xv cv clv t k ds (qn:Int) s2 dq1 n (l++ [⟨(n1:Int),b⟩]) v'∧UpT 82 Wr.heap.size W16 w')
       case h=>
        have hXd:=Ext.todrew (Ext.refl W16);have kN:=hN.ext hXd;refine bK (.take 1 (.take 4 (.take 5 (.two 0 (.one 2 (.one 3 (.one 6 (.one 7 (.one 8 .nil))))) 2 (.one 0 (.one 3 (.one 6 (.one 7 (.one 8 .nil))))))))) (fun w'=>Blk w' kx 82 #[.int .i64 n1,.bool b]∧Blk w' g14 113 #[.int .i64 qn,.int .i64 s2]∧Blk w' g15 115 #[.int .i64 dq1,.int .i64 n]) (by kernel_rfl) (by kernel_rfl) (by rintro⟨_,_,h⟩;first|exact h|exact absurd h.1 (fun e=>by cases e)) (by kernel_rfl) (by kernel_rfl) (by kernel_rfl) (by intro _ _ _ _ _ h;first|exact h|exact absurd h.1 (fun e=>by cases e)) ?_ (fun hHd=> ?_)
        ·(first|exact True.intro|((try dsimp only);(repeat' apply And.intro)<;>first|assumption|(refine Ext.cell_some (Ext.todrew (Ext.refl _)) ?_;assumption)))
        repeat' first|((with_reducible refine aB ?_);(first|((with_reducible refine aB (i:=1) ?_);refine tk (v:=.agg #[.int .i64 n1,.bool b]) ?_ hHd ?_;(·exact aA (by rfl) (fun W h=>bZ h.1)))|((with_reducible refine aB (i:=4) ?_);refine tk (v:=.agg #[.int .i64 qn,.int .i64 s2]) ?_ hHd ?_;(·exact aA (by rfl) (fun W h=>dP h.2.1)))|((with_reducible refine aB (i:=5) ?_);refine tk (v:=.agg #[.int .i64 dq1,.int .i64 n]) ?_ hHd ?_;(·exact aA (by rfl) (fun W h=>nB h.2.2))));(try simp only[pS]))|((with_reducible refine bC ?_);refine aQ (by simp only[gS];rfl) ?_)|((with_reducible refine fQ ?_);refine dI (by simp only[gS];rfl) (by simp only[gS];rfl) ?_ ?_)|((with_reducible refine aH (d:=some 107) ?_);(((with_reducible refine aC (d:=some 107) (p:=⟨g10,0,none⟩) (v:=v) ?_ ?_ ?_);rfl;exact aY Tryz.underlying32 rfl (by simpa using kN.B10.cell 0))))|((with_reducible refine aH (d:=some 109) ?_);(((with_reducible refine kU (d:=some 109) (p:=n1) (q:=b) ?_ ?_);rfl;intro W109 g109 hE109 hB109 hg109;replace hXd:=hXd.trans hE109;replace kN:=kN.ext hE109;replace kx0:=kx0.ext hE109;replace k14:=k14.ext hE109;replace k15:=k15.ext hE109)))|((with_reducible refine aH (d:=some 110) ?_);(((with_reducible refine Ei (d:=some 110) (y:=⟨(n1:Int),b⟩) ?_ kN.O ?_ hB109 hlenl ?_ ?_);rfl;rfl;exact kN.S.ext.size;intro v' W110 hO110 hg110 hn110;replace kx0:=kx0.grown hg110 (fun e=>by have:=hvlt _ e.symm;omega);replace k14:=k14.grown hg110 (kN.O.blk_ne k14 (by decide));replace k15:=k15.grown hg110 (kN.O.blk_ne k15 (by decide));have b10:=kN.B10.grown hg110 (kN.O.blk_ne kN.B10 (by decide));have b7:=kN.B7.grown hg110 (kN.O.blk_ne kN.B7 (by decide));have b8:=kN.B8.grown hg110 (kN.O.blk_ne kN.B8 (by decide)))))|((with_reducible refine aH (d:=none) ?_);((first|((with_reducible refine aT (t:=32) (e:=32) (g:=g10) (off:=0) (v:=v') ?_ ?_ b10 gK ?_ ?_ ?_ ?_);rfl;rfl;exact zH hO110.sl;simp;exact Js hO110.sl;intro Wa hBa hgra;simp at hBa;replace kx0:=kx0.grown hgra (fun e=>blk_ne kx0 b10 (by decide) (Option.some.inj e));replace k14:=k14.grown hgra (fun e=>blk_ne k14 b10 (by decide) (Option.some.inj e));replace k15:=k15.grown hgra (fun e=>blk_ne k15 b10 (by decide) (Option.some.inj e));replace b7:=b7.grown hgra (fun e=>blk_ne b7 b10 (by decide) (Option.some.inj e));replace b8:=b8.grown hgra (fun e=>blk_ne b8 b10 (by decide) (Option.some.inj e)))|((with_reducible refine aK (t:=113) (e:=113) (g:=g7) (off:=0) (n:=2) (v:=.agg #[.int .i64 qn,.int .i64 s2]) ?_ ?_ b7 aW ?_ ?_ ?_ ?_);rfl;rfl;rfl;(simp[Value.cells]);(simp[Value.cells,Value.oneCell']);intro Wb7 hBb7 hgrb;simp[aI,Value.cells] at hBb7;replace kx0:=kx0.grown hgrb (fun e=>blk_ne kx0 b7 (by decide) (Option.some.inj e));replace k14:=k14.grown hgrb (fun e=>n714 (Option.some.inj e).symm);replace k15:=k15.grown hgrb (fun e=>blk_ne k15 b7 (by decide) (Option.some.inj e));replace b8:=b8.grown hgrb (fun e=>blk_ne b8 b7 (by decide) (Option.some.inj e)))|((with_reducible refine aK (t:=115) (e:=115) (g:=g8) (off:=0) (n:=2) (v:=.agg #[.int .i64 dq1,.int .i64 n]) ?_ ?_ b8 gT ?_ ?_ ?_ ?_);rfl;rfl;rfl;(simp[Value.cells]);(simp[Value.cells,Value.oneCell']);intro Wc8 hBc8 hgrc;simp[aI,Value.cells] at hBc8;replace kx0:=kx0.grown hgrc (fun e=>blk_ne kx0 b8 (by decide) (Option.some.inj e));replace k14:=k14.grown hgrc (fun e=>blk_ne k14 b8 (by decide) (Option.some.inj e));replace k15:=k15.grown hgrc (fun e=>n815 (Option.some.inj e).symm)))))|((with_reducible refine bB ?_);clear hHd;refine aJ ?_ (fun hHd=> ?_);(·(first|exact True.intro|((try dsimp only);(repeat' apply And.intro)<;>first|assumption|(refine Ext.cell_some (Ext.todrew (Ext.refl _)) ?_;assumption))));(try simp only[pS]))|(with_reducible refine aG ?_)
        all_goals
         refine⟨rfl,?_⟩;refine bL ?_ ?_
         ·simp only[Act.sets,Act.put,List.foldl_cons,List.foldl_nil,List.setIfInBounds_toArray,List.set_cons_zero,List.set_cons_succ,Act.get];rfl
         obtain⟨hF,hU⟩:=kN.next hg110 hO110 hgra hBa hgrb hBb7 hgrc hBc8 hltB;exact⟨v',hF,(UpT.ofExt hXd).trans hU⟩
       rintro x17 W17 ⟨v',hF,hU⟩;simp only[Act.sets,Act.put,List.foldl_cons,List.foldl_nil,List.setIfInBounds_toArray,List.set_cons_zero,List.set_cons_succ,Act.get];change Code.wpIn _ _ _ _ _ _ _;refine wpIn_exit ?_;exact⟨hUp.trans hU,rfl,_,_,_,_,v',hnx,hF⟩
 ·have q1:(t.taskErr k !=0)=true:=by simp[hte]
  rw[Town.findAns_e hte];have Hte:=Lib.hid hte;clear hte;go_enter Tryz.func23,Tryz.ntmps23
  go_wp2_with (first|((with_reducible refine aS (d:=some 4) fW ?_);intro W4 g4 hE4 hB4 hg4;have hg40:=Nat.le_trans hE.size hg4;simp[Value.cells] at hB4;(try replace hE:=hE.trans hE4);(try replace hT:=hT.ext hE4);(try replace hC:=hC.ext hE4);(try replace hB3:=hB3.ext hE4);(try replace hb2_0:=hE4.c hb2_0);(try replace hb2_1:=hE4.c hb2_1);(try replace hb2_2:=hE4.c hb2_2);(try replace hb2_3:=hE4.c hb2_3);(try replace hb3_0:=hE4.c hb3_0);(try replace hb3_1:=hE4.c hb3_1);(try replace hb3_2:=hE4.c hb3_2);(try replace hb3_3:=hE4.c hb3_3);(try replace hb3_4:=hE4.c hb3_4))|(go_at_call 62;((with_reducible refine(iG _ _ t k _ (by exact aM.of hT) (by exact bA.of hC)).mono ?_);rintro e WcB ⟨hEcB,hq⟩;(try replace hE:=hE.trans hEcB);(try replace hB3:=hB3.ext hEcB);(try replace hB4:=hB4.ext hEcB);obtain⟨_,rfl⟩:=hq.resolve_right (fun h=>Hte.out h.1)))|(((with_reducible refine aO (e:=109) (u:=6) (v:=.pointer none) yX ?_ ?_ ?_ ?_ ?_ ?_);(intro g;rfl);(intro g;rfl);rfl;rfl;(simp[Value.cells,Value.oneCell']);intro W6 g6 hE6 hB6 hg6;simp[Value.cells] at hB6;replace hE:=hE.trans hE6;replace hB3:=hB3.ext hE6;replace hB4:=hB4.ext hE6;skip))|(((with_reducible refine aC (d:=some 25) (hl:=bT hB4) ?_ ?_);rfl))|(((with_reducible refine aK (t:=36) (e:=36) (g:=g4) (off:=0) (n:=5) (v:=.agg #[.slice none 0 0,.int .i64 0,.int .i64 0,.int .i64 0,.int .i64 0]) ?_ ?_ hB4 cW ?_ ?_ ?_ ?_);rfl;rfl;rfl;(simp[Value.cells]);(exact mB rfl);intro Wz hBz hgrz;simp[aI,Value.cells] at hBz;have hEz:=aD hE hgrz hg40))|((with_reducible refine aF (d:=some 2) ?_);intro W2 g2 hE2 hB2 hg2;simp[Act.eval,Act.put,Value.cells] at hB2;(try replace hE:=hE.trans hE2);(try replace hT:=hT.ext hE2);(try replace hC:=hC.ext hE2);have hb2_0:=hB2.cell 0;have hb2_1:=hB2.cell 1;have hb2_2:=hB2.cell 2;have hb2_3:=hB2.cell 3;simp at hb2_0 hb2_1 hb2_2 hb2_3;clear hE2)|((with_reducible refine aF (d:=some 3) ?_);intro W3 g3 hE3 hB3 hg3;simp[Act.eval,Act.put,Value.cells] at hB3;(try replace hE:=hE.trans hE3);(try replace hT:=hT.ext hE3);(try replace hC:=hC.ext hE3);(try replace hb2_0:=hE3.c hb2_0);(try replace hb2_1:=hE3.c hb2_1);(try replace hb2_2:=hE3.c hb2_2);(try replace hb2_3:=hE3.c hb2_3);have hb3_0:=hB3.cell 0;have hb3_1:=hB3.cell 1;have hb3_2:=hB3.cell 2;have hb3_3:=hB3.cell 3;have hb3_4:=hB3.cell 4;simp at hb3_0 hb3_1 hb3_2 hb3_3 hb3_4;clear hE3))
  refine jQ rfl rfl rfl (bT hBz) ?_;exact⟨_,rfl,⟨_,rfl,aX.nil _ _⟩,hEz⟩
end Go.St
end
section
namespace Go.St
open Go.Bp
structure Ent where
 p:Int
 s:Int
 m:Int
 n:Int
def iT(l:List Ent):Tab:=fun p s=>(l.find? fun e=>decide (e.p=p∧e.s=s)).map fun e=>(e.m,e.n)
theorem wC{l:List Ent}{p s:Int}{c:Int×Int}(h:iT l p s=some c):⟨p,s,c.1,c.2⟩∈l:=by
 unfold iT at h;obtain⟨e,he,hc⟩:=Option.map_eq_some_iff.1 h;have h1:=List.mem_of_find?_eq_some he;have h2:=List.find?_some he;simp only[decide_eq_true_eq] at h2;obtain⟨rfl,rfl⟩:=h2;subst hc;exact h1
section
variable(arcs:List Arc)(to:Int)
def Cb(l:List Ent):Bool:=l.all fun e=>decide (e.p=to∧e.s=0∧e.m=0∧e.n=0)||(decide (1≤e.n)&&arcs.any fun a=>decide (a.p=e.p)&&decide (iT l a.q (aE e.s a.sh)=some (e.m-a.m,e.n-1)))
theorem Iw{l:List Ent}(h:Cb arcs to l=true):fJ aE arcs to (iT l):=by
 unfold Cb at h;rw[List.all_eq_true] at h;have key:∀(n:Nat)(p s:Int)(c:Int×Int),c.2.toNat=n→iT l p s=some c→Way aE arcs to p s c.1 c.2:=by
  intro n;induction n using Nat.strongRecOn with
  |ind n ih=>
  intro p s c hn hc;have hm:=wC hc;have h1:=h _ hm;rw[Bool.or_eq_true] at h1;rcases h1 with h1|h1
  ·simp only[decide_eq_true_eq] at h1;obtain⟨rfl,rfl,h3,h4⟩:=h1;rw[h3,h4];exact .nil
  ·rw[Bool.and_eq_true,List.any_eq_true] at h1;obtain⟨h2,a,ha,h3⟩:=h1;rw[Bool.and_eq_true] at h3;simp only[decide_eq_true_eq] at h2 h3;obtain⟨rfl,h4⟩:=h3;have hw:=ih (n-1) (by omega) _ _ _ (by show(c.2-1).toNat=n-1;omega) h4
   have:=Way.cons ha hw;simpa using this
 exact fun p s c hc=>key _ p s c rfl hc
def yI(k:Int)(n:Nat)(l:List Ent):Bool:=decide (iT l to 0=some (0,0))&&arcs.all fun a=>(List.range (2^n)).all fun s=> !decide (aE (s:Int) k=0)||
 match iT l a.q (aE (s:Int) a.sh) with
 |none=>true
 |some c=>match iT l a.p (s:Int) with
  |some d=>decide (d.1<c.1+a.m∨d.1=c.1+a.m∧d.2≤c.2+1)
  |none=>false
theorem Gy{t:Town}{k:Task}{l:List Ent}(h:yI arcs to k.show_ t.shows.length l=true):eY aE arcs to (Town.PartOf t k) (iT l):=by
 unfold yI at h;rw[Bool.and_eq_true,List.all_eq_true] at h;obtain⟨h1,h2⟩:=h;refine⟨by simpa using h1,fun a ha s hs c hc=> ?_⟩
 have h3:=h2 a ha;rw[List.all_eq_true] at h3;obtain⟨s0,s1,s2⟩:=hs;have hc2:((2^t.shows.length:Nat):Int)=2^t.shows.length:=by push_cast;rfl
 have h4:=h3 s.toNat (List.mem_range.2 (by omega))
 have hsn:(s.toNat:Int)=s:=by omega
 rw[hsn,Bool.or_eq_true] at h4;rcases h4 with h4|h4
 ·simp[s2] at h4
 ·rw[hc] at h4;simp only at h4
  cases hd:iT l a.p s with
  |none=>rw[hd] at h4;simp at h4
  |some d=>rw[hd] at h4;exact⟨d,rfl,by unfold le2;simpa using h4⟩
end
def Rs(k:Int)(n:Nat)(l:List Ent):Bool:=l.all fun e=>decide (0≤e.s∧e.s<((2^n:Nat):Int)∧aE e.s k=0)
namespace Town
variable{t:Town}{k:Task}
theorem cost_tab(h:TaskOk t k){l:List Ent}(h1:Cb (t.arcs k) k.b l=true)(h2:yI (t.arcs k) k.b k.show_ t.shows.length l=true)(h3:Rs k.show_ t.shows.length l=true):t.cost k=iT l:=by
 funext p s
 refine(Et h (Iw _ _ h1) (Gy _ _ h2) (fun p s c hc=> ?_) p s).symm
 have hm:=wC hc;unfold Rs at h3;rw[List.all_eq_true] at h3;have h4:=h3 _ hm;simp only[decide_eq_true_eq] at h4;have hc2:((2^t.shows.length:Nat):Int)=2^t.shows.length:=by push_cast;rfl
 exact⟨h4.1,by rw[←hc2];exact h4.2.1,h4.2.2⟩
theorem find_tab(h:TaskOk t k)(he:t.taskErr k=0){T:Tab}(hT:t.cost k=T){c:Int×Int}(hc:T k.a k.show_=some c):t.findAns k=(t.tourOf k.time ((cF aE (t.arcs k) T c.2.toNat k.a k.show_ c.1).map stepOf),0):=by
 unfold findAns bestSteps;rw[if_neg (by simp[he]),hT,hc,if_neg (by simp)]
 rfl
theorem find_tab9(he:t.taskErr k=0){T:Tab}(hT:t.cost k=T)(hc:T k.a k.show_=none):t.findAns k=(⟨[],0,0,0,0⟩,9):=by
 unfold findAns;rw[if_neg (by simp[he]),hT,if_pos hc]
theorem table_tab(he:t.taskErr k=0){T:Tab}(hT:t.cost k=T):t.tableAns k=((List.range t.places.length).map fun p:Nat=>(List.range (2^t.shows.length)).map fun s:Nat=>dT T p s,0):=by
 unfold tableAns;rw[if_neg (by simp[he]),hT]
end Town
/-! ### the examples -/
def oD:Task:=⟨0,0,1,0,[]⟩
def Dc:Task:=⟨0,0,1,0,[3]⟩
def Db:Task:=⟨0,0,1,1,[3]⟩
def Td:List Ent:=[⟨0,0,0,0⟩,⟨0,1,1000,2⟩,⟨1,0,300,1⟩,⟨1,1,1100,2⟩,⟨2,0,600,1⟩,⟨2,1,600,1⟩]
def Tc:List Ent:=[⟨0,0,0,0⟩,⟨1,0,300,1⟩,⟨2,0,800,2⟩]
def Tb:List Ent:=[⟨0,0,0,0⟩,⟨1,0,300,1⟩,⟨2,0,800,2⟩,⟨0,1,1200,3⟩,⟨1,1,1300,3⟩,⟨2,1,800,2⟩]
theorem uR:bF.taskErr oD=0:=by kernel_rfl
theorem Kq:bF.taskErr Dc=0:=by kernel_rfl
theorem Df:bF.taskErr Db=0:=by kernel_rfl
theorem Eq:bF.cost oD=iT Td:=Town.cost_tab (Town.taskOk_of uR) (by kernel_rfl) (by kernel_rfl) (by kernel_rfl)
theorem Np:bF.cost Dc=iT Tc:=Town.cost_tab (Town.taskOk_of Kq) (by kernel_rfl) (by kernel_rfl) (by kernel_rfl)
theorem No:bF.cost Db=iT Tb:=Town.cost_tab (Town.taskOk_of Df) (by kernel_rfl) (by kernel_rfl) (by kernel_rfl)
theorem Nk:bF.findAns oD=(⟨[⟨2,false⟩,⟨3,false⟩],1000,3,6,1⟩,0):=by
 rw[Town.find_tab (Town.taskOk_of uR) uR Eq (c:=(1000,2)) (by kernel_rfl)];kernel_rfl
theorem Nj:bF.findAns Dc=(⟨[],0,0,0,0⟩,9):=Town.find_tab9 Kq Np (by kernel_rfl)
theorem Ni:bF.findAns Db=(⟨[⟨2,false⟩,⟨1,true⟩,⟨0,true⟩],1200,4,9,3⟩,0):=by
 rw[Town.find_tab (Town.taskOk_of Df) Df No (c:=(1200,3)) (by kernel_rfl)];kernel_rfl
def nD:List (List Int):=[[0,1000,-1,-1],[300,1100,-1,-1],[600,600,-1,-1],[-1,-1,-1,-1]]
theorem Ko:bF.tableAns oD=(nD,0):=by rw[Town.table_tab uR Eq];kernel_rfl
def okB(t:Town)(k:Task)(rows:List (List Int))(n:Int)(x:Step):Bool:=
 decide (0≤eP rows (t.ends x).2 (aE n (t.shownAt k.time x))→0≤eP rows (t.ends x).1 n∧eP rows (t.ends x).1 n≤eP rows (t.ends x).2 (aE n (t.shownAt k.time x))+(t.at_ x.st).metres)
theorem Gl:bF.provesAns oD nD=(true,0):=by
 have h:((bF.stepsAll oD).all fun x=>(List.range 2).all fun n=>okB bF oD nD (n:Int) x)=true:=by kernel_rfl
 rw[List.all_eq_true] at h;refine Town.provesAns_0 uR rfl (by decide) (by decide) ⟨fun _=>⟨by kernel_rfl,fun x hx n hn _=> ?_⟩,fun _=>rfl⟩
 have h1:=h x hx;rw[List.all_eq_true] at h1;have h2:=h1 n (List.mem_range.2 (by have:oD.show_=1:=rfl;omega))
 unfold okB at h2;rw[decide_eq_true_eq] at h2;exact h2
theorem Kr:bF.driveAns 0 0 (fP [0,1,3])=(⟨[⟨0,false⟩,⟨1,false⟩,⟨3,false⟩],1400,5,7,3⟩,0,0):=by kernel_rfl
def mG:List UInt8:=[104,111,109,101,45,48,46,104,105,108,108,61,48,46,104,111,109,101,45,50,46,114,105,110,103]
theorem Kn:bF.writeAns 0 jY=(mG,0):=by kernel_rfl
theorem Nd:bF.readAns mG=(0,jY,0):=by kernel_rfl
end Go.St
end
