/- Chapter 03: contracts of functions of the program and of the reference, and plain laws (out of SJ4 SV2 SV0 SV3). No condition of its own. -/
import Derived.Test.YtfjnacajjpaeiaaGreatDoorP13
set_option maxRecDepth 100000
set_option linter.all false
section
namespace Go.St
open Go Go.Bp Go.RowKit Go.Proofs
def mJ(w:World)(v:Value)(xs:List (Int×Int)):Prop:=Sl w 2 v xs.length (eE xs)
theorem mJ.ext{w w':World}{v:Value}{xs:List (Int×Int)}(h:mJ w v xs)(e:Ext w w'):mJ w' v xs:=Sl.ext h e
theorem mJ.d{w:World}{v:Value}{xs:List (Int×Int)}(h:mJ w v xs):mJ w.drew v xs:=h
theorem Rn{w:World}{ad:Addr}{xs:List (Int×Int)}{k:Nat}(h:cS w ad (eE xs))(hk:k<xs.length):(loadVar 113 (ad.add (k*2))).run Tryz.prog w=.ok (.agg #[.int .i64 xs[k].1,.int .i64 xs[k].2]) w:=by
 obtain⟨i,hi,hs⟩:=iJ aW;obtain⟨h0,h1⟩:=Bp.wW xs k hk;refine eH Tryz.underlying113 hi hs (cs:=[.int .i64 xs[k].1,.int .i64 xs[k].2]) ?_;intro j u hu;rw[mI];refine h _ _ ?_;match j,hu with
 |0,hu=>simpa [h0] using hu
 |1,hu=>simpa [h1] using hu
set_option maxHeartbeats 1000000 in
theorem Bo(v:Value)(xs:List (Int×Int))(x:Int×Int)(w:World)(h:mJ w v xs):
 Calls Tryz.prog 122 #[v,.agg #[.int .i64 x.1,.int .i64 x.2]] w (fun e w'=>∃r:Int,e=.returned (.int .i64 r)∧(decide (0≤r)=decide (x∈xs))∧Ext w w'):=by
 obtain⟨A,c,rfl,h1,h2,h3,h4⟩:=h;unfold maxLen at h2;clear h3;have hE:=Ext.refl w;go_enter Tryz.func122,Tryz.ntmps122
 go_wp2_with (first|((with_reducible refine aF (d:=some 3) ?_);intro W3 g3 hE3 hB3 hg3;simp[Act.eval,Act.put,Value.cells] at hB3;(try replace hE:=hE.trans hE3);have hb3_0:=hB3.cell 0;have hb3_1:=hB3.cell 1;simp at hb3_0 hb3_1;clear hE3))
 go_loopw [8] (fun i wr=>Ext W3 wr∧∃k:Nat,k≤xs.length∧i=.int .i64 k∧x∉xs.take k) (fun i _=>xs.length-(intOf i).toNat)
 case atStart=>exact⟨Ext.refl _,0,by omega,rfl,by simp⟩
 case round=>
  obtain⟨hEr,k,hk,rfl,hn⟩:=hrel;have Hn:=Lib.hid hn;clear hn;have hE3:=hE.trans hEr;have hB:=hB3.ext hEr;have e0:∀W,Ext wr W→(loadVar 113 ⟨g3,0,none⟩).run Tryz.prog W=.ok (.agg #[.int .i64 x.1,.int .i64 x.2]) W:=fun W hW=>dP (hB.ext hW)
  clear hB3 hb3_0 hb3_1 hB;by_cases hlt:k<xs.length
  ·obtain⟨ad,rfl,hc⟩:=h4 (by omega)
   have e1:∀W,Ext wr W→(loadVar 113 (ad.add (k*2))).run Tryz.prog W=.ok (.agg #[.int .i64 xs[k].1,.int .i64 xs[k].2]) W:=fun W hW=>Rn ((hc.ext hE3).ext hW) hlt
   have z1:(k:Int)<(xs.length:Int):=by omega
   clear h4 hc;by_cases he:x=xs[k]
   ·have Hd:=Lib.hid (show decide (x.1=xs[k].1∧x.2=xs[k].2)=true by simp[he])
    have Hr:=Lib.hid (show decide (x∈xs)=true by simp[he,List.getElem_mem])
    clear he;go_wp2
    refine wp_region_quiet_lit (by kernel_rfl) (by kernel_rfl) ?_
    repeat(any_goals(first|((with_reducible refine kH (d:=some 11) (hl:=e0) ?_ ?_);rfl)|((with_reducible refine kH (d:=some 15) (hl:=e1) ?_ ?_);rfl)|((with_reducible refine Ee (d:=some 16) (r:=true) lK Hd.out ?_ ?_ ?_);rfl;rfl)|go_big_quiet_step (fail)|quiet_step (fail)))
    refine wpQuiet_nil ?_;intro _ hw';obtain⟨nq,hw''⟩:=hw';subst hw'';go_wp2
    go_ret
    exact⟨_,rfl,by rw[Hr.out];simp,hE3.drewN _⟩
   ·have Hd:=Lib.hid (show decide (x.1=xs[k].1∧x.2=xs[k].2)=false by
     simp only[decide_eq_false_iff_not];exact fun e=>he (Prod.ext e.1 e.2))
    have Hm:=Lib.hid (show x∉xs.take (k+1) by rw[cI _ hlt];exact mC Hn.out he)
    clear he;go_wp2
    refine wp_region_quiet_lit (by kernel_rfl) (by kernel_rfl) ?_
    repeat(any_goals(first|((with_reducible refine kH (d:=some 11) (hl:=e0) ?_ ?_);rfl)|((with_reducible refine kH (d:=some 15) (hl:=e1) ?_ ?_);rfl)|((with_reducible refine Ee (d:=some 16) (r:=false) lK Hd.out ?_ ?_ ?_);rfl;rfl)|go_big_quiet_step (fail)|quiet_step (fail)))
    refine wpQuiet_nil ?_;intro _ hw';obtain⟨nq,hw''⟩:=hw';subst hw'';go_wp2
    go_roundw
    case rel=>exact⟨hEr.drewN _,k+1,by omega,by go_num,Hm.out⟩
    case measure=>simp[intOf];omega
  ·obtain rfl:k=xs.length:=by omega
   have Hr:=Lib.hid (show decide (x∈xs)=false by have:=Hn.out;rw[List.take_length] at this;simp[this])
   clear h4;go_wp2
   go_ret
   exact⟨_,rfl,by rw[Hr.out];simp,hE3⟩
theorem vK(v:Value)(xs:List (Int×Int))(x:Int×Int)(w:World)(h:mJ w v xs):
 Calls Tryz.prog 98 #[v,.agg #[.int .i64 x.1,.int .i64 x.2]] w (dB w (decide (x∈xs))):=by
 have hE:=Ext.refl w;go_enter Tryz.func98,Tryz.ntmps98
 go_wp2_with (first|(((with_reducible refine aC (d:=some 6) (hl:=dP hB3) ?_ ?_);rfl))|(go_at_call 122;((with_reducible refine(Bo _ _ x _ (by exact h)).mono ?_);rintro e Wc1 ⟨r,rfl,hr,hEc1⟩;(try replace hE:=hE.trans hEc1)))|((with_reducible refine aF (d:=some 3) ?_);intro W3 g3 hE3 hB3 hg3;simp[Act.eval,Act.put,Value.cells] at hB3;(try replace hE:=hE.trans hE3);(try replace h:=h.ext hE3);clear hE3))
 go_ret
 refine dB.of ?_ hE;rw[←hr]
end Go.St
end
section
namespace Go.St
open Go Go.Bp Go.RowKit Go.Proofs
set_option maxHeartbeats 8000000 in
theorem Ci(Wb w:World)(gj gi gm:Nat)(pv sv tv xv cv:Value)(vs:List Value)(t:Town)(k:Task)(hk:Town.TaskOk t k)(hJ0:Job0 Wb w gj gi gm pv sv tv xv cv vs t k)(hM0:cD kvI w gm (eR (fun _ _=>none))):
 Calls Tryz.prog 63 #[.pointer (some ⟨gj,0,none⟩)] w (fun e w'=>(∃v,e=.returned v)∧w.grownBy w' (some gm)∧cD kvI w' gm (eR (t.cost k))):=by
 have hE:=Ext.refl w;have HK:=Lib.hid hk;have hJw:=hJ0.at_ (pK w _);have j5:=hJw.blk.cell 5;have j10:=hJw.blk.cell 10;have j9:=hJw.blk.cell 9;have j6:=hJw.blk.cell 6;simp at j5 j10 j9 j6;go_enter Tryz.func63,Tryz.ntmps63
 go_wp2_with (first|((with_reducible refine aO (e:=113) (u:=2) (v:=.agg #[.int .i64 k.b,.int .i64 0]) tN ?_ ?_ ?_ ?_ ?_ ?_);(intro g;rfl);(intro g;rfl);rfl;rfl;(simp[Value.cells,Value.oneCell']);intro W2 g2 hE2 hB2 hg2;simp[Value.cells] at hB2;(try replace hE:=hE.trans hE2);(try replace hM0:=hM0.ext hE2);(try replace j10:=hE2.c j10);have hb2_0:=hB2.cell 0;have hb2_1:=hB2.cell 1;simp at hb2_0 hb2_1;clear hE2))
 clear hJw j9 j6;have hB2d:=hB2.d;have j10d:W2.drew.cell? ⟨gj,10,none⟩=some (.map (some gm)):=j10;have hM0d:cD kvI W2.drew gm (eR (fun _ _=>none)):=cD.ext hM0 (Ext.todrew (Ext.refl _))
 apply gC (R:=fun w'=>cD kvI w' gm (eR (Town.tab0 k))∧w.grownBy w' (some gm)∧Blk w' g2 113 #[.int .i64 k.b,.int .i64 0])
 case h=>
  refine aR (.take 0 (.take 1 (.take 2 (.take 5 (.two 3 (.one 4 (.one 6 .nil)) 4 (.one 3 (.one 6 .nil))))))) (fun w'=>True) ?_ (fun hHd=> ?_)
  ·exact True.intro
  repeat' first|((with_reducible refine aB ?_);(refine tk (v:= ?_) ?_ hHd ?_;rotate_left;(·(intro wq hSw;(try dsimp only at hSw);go_simp;(try with_reducible rfl))));(try simp only[pS]))|((with_reducible refine bC ?_);refine aQ (by simp only[gS];rfl) ?_)|((with_reducible refine fQ ?_);refine dI (by simp only[gS];rfl) (by simp only[gS];rfl) ?_ ?_)|((with_reducible refine aH (d:=some 24) ?_);(((with_reducible refine aC (d:=some 24) (p:=⟨gj,10,none⟩) (v:=.map (some gm)) ?_ ?_ ?_);rfl;exact aY Tryz.underlying118 rfl j10d)))|((with_reducible refine aH (d:=some 25) ?_);(((with_reducible refine aC (d:=some 25) (hl:=dP hB2d) ?_ ?_);rfl)))|((with_reducible refine aH (d:=none) ?_);(((with_reducible refine Ji (T:=fun _ _=>none) (p:=k.b) (s:=0) (c:=(0,0)) hM0d ?_ ?_ ?_ ?_);rfl;rfl;rfl;intro Wm hMm hgm)))|((with_reducible refine bB ?_);clear hHd;refine aJ ?_ (fun hHd=> ?_);(·exact True.intro);(try simp only[pS]))|(with_reducible refine aG ?_)
  all_goals exact⟨rfl,rfl,hMm,jX (Ext.todrew hE) hgm,hB2d.grown hgm (fun e=>cD.notblk hM0d hB2d (Option.some.inj e).symm)⟩
 rintro Wm ⟨hM,hG,hB2m⟩;clear hB2 hb2_0 hb2_1 hB2d j10d hM0d hM0;go_wp2_with (first|((with_reducible refine aC (d:=some 27) (hl:=dP hB2m) ?_ ?_);rfl)|((with_reducible refine Jl (d:=some 28) (p:=k.b) (q:=0) ?_ ?_);rfl;intro W28 g28 hE28 hB28 hg28))
 have hO0:OwnAt W28 w.heap.size 113 2 (.slice (some ⟨g28,0,none⟩) 1 1) [(k.b,(0:Int))].length (eE [(k.b,(0:Int))]):=Ek (xs:=[(k.b,0)]) ⟨hB28,by simp,by simp,rfl⟩ (Nat.le_trans hG.size hg28) (by decide)
 have hG0:=bQ hG hE28;have hM0:=cD.ext hM hE28;clear hB28 hg28 hM hG hE28 hB2m;go_loopg [3] (t.meas (Town.tab0 k) [(k.b,0)]) (fun g v wr=>w.grownBy wr (some gm)∧∃(T:Tab)(todo:List (Int×Int)),t.Srch k T todo∧g=t.meas T todo∧cD kvI wr gm (eR T)∧OwnAt wr w.heap.size 113 2 v todo.length (eE todo))
 case atStart=>exact⟨hG0,_,_,Town.srch_start HK.out,rfl,hM0,hO0⟩
 case round=>
  clear hG0 hM0 hO0;obtain⟨hG,T,todo,hSr,hgk,hM,hO⟩:=hrel;by_cases hnil:todo=[]
  ·subst hnil;obtain⟨A,cA,rfl,_⟩:=hO.sl;have HS:=Lib.hid hSr;clear hgk hSr;go_wp2
   go_end0
   have e:T=t.cost k:=by funext p s;exact HS.out.done HK.out p s
   subst e;exact⟨⟨_,rfl⟩,hG,hM⟩
  ·obtain⟨n,hn⟩:∃n,todo.length=n+1:=⟨todo.length-1,by have:=List.length_pos_iff.2 hnil;omega⟩
   have hlen:n+1≤1024:=by rw[←hn];exact Nat.le_trans hSr.len (t.stands_bd HK.out.ok)
   rw[hn] at hO;obtain⟨g,o,cap,cur,rfl,hgb,hc1,hc2,hR⟩:=Mf hO hn (by omega)
   have hJr:=hJ0.at_ hG;have HS:=Lib.hid hSr;have Hgk:=Lib.hid hgk;have Hn:=Lib.hid hn;have zp:(0:Int)<(n:Int)+1:=by omega
   have hmf:∀(fn:Fn)(first cap:Array Value)(w:World),(Instr.makeFunc fn first cap).run Tryz.prog w=.ok (.func fn first cap) w:=fun _ _ _ _=>rfl
   clear hnil hgk hSr hO hn;go_wp2
   refine wp_scope_straight ?_;obtain⟨r6,r6e⟩:∃f:Nat→Array Oper→Bool→Go.Code,f=Go.Code.region:=⟨_,rfl⟩;rw[show Go.Code.region 6=r6 6 by rw[r6e]]
   replace r6e:=Lib.hid r6e;obtain⟨h166,h166e⟩:∃f:Operand→Go.Code→Go.Code→Go.Code,f=Go.Code.cond:=⟨_,rfl⟩;rw[show Go.Code.cond (Operand.tmp 166)=h166 (Operand.tmp 166) by rw[h166e]]
   replace h166e:=Lib.hid h166e;go_wp2_with (first|(go_at_call 96;refine(Fc hJr.blk hM hR Hn.out (by omega) (by omega)).mono ?_;rintro e Ws ⟨⟨u,rfl⟩,hgS,hMs,todo',cur',hp,hRs⟩;obtain⟨⟨q,z⟩,rst,rfl⟩:∃x r,todo'=x::r:=(by cases todo' with|nil=>exact absurd hp.length_eq (by rw[Hn.out];simp)|cons x r=>exact⟨_,_,rfl⟩);have hc0:=hRs.at_ (k:=0) (by simp);simp at hc0)|((with_reducible refine aC (d:=some 38) (hl:=aN hc0) ?_ ?_);rfl)|((with_reducible refine aO (e:=113) (u:=4) (v:=.agg #[.int .i64 q,.int .i64 z]) tN ?_ ?_ ?_ ?_ ?_ ?_);(intro g;rfl);(intro g;rfl);rfl;rfl;(simp[Value.cells,Value.oneCell']);intro W4 g4 hE4 hB4 hg4;simp[Value.cells] at hB4;have hM4:=cD.ext hMs hE4;have hR4:=hRs.ext hE4;clear hc0))
   obtain rfl:n=rst.length:=by have:=hp.length_eq;rw[Hn.out] at this;simpa using this.symm
   have hG4:w.grownBy W4 (some gm):=bQ (Cw hG hgS hgb) hE4;have n4:g<g4:=Nat.lt_of_lt_of_le hRs.blk.lt hg4;apply eF [39,40,3] (fun x wr=>wr=W4∧OwnAt wr w.heap.size 113 2 (x 3) rst.length (eE rst)∧(x 3).ownBlock=some g)
   case h=>
    have e:=r6e.out;subst e;go_wp2
    ·
     refine bL ?_ ?_
     ·simp only[Act.sets,Act.put,List.foldl_cons,List.foldl_nil,List.setIfInBounds_toArray,List.set_cons_zero,List.set_cons_succ,Act.get];rfl
     exact⟨(by subst h;exact Bx hR4 hgb),rfl⟩
    ·
     refine bL ?_ ?_
     ·simp only[Act.sets,Act.put,List.foldl_cons,List.foldl_nil,List.setIfInBounds_toArray,List.set_cons_zero,List.set_cons_succ,Act.get];rfl
     exact⟨Fb hR4 hgb hc2,rfl⟩
   rintro x Wn ⟨e4,hO4,ho4⟩;subst e4;obtain⟨v3,hv3⟩:∃v,x 3=v:=⟨_,rfl⟩;simp only[Act.sets,Act.put,List.foldl_cons,List.foldl_nil,List.setIfInBounds_toArray,List.set_cons_zero,List.set_cons_succ,hv3];rw[hv3] at hO4 ho4;have HS1:=Lib.hid (HS.out.perm hp);obtain⟨c,hc,hst,hpz⟩:=HS1.out.1.stand (List.mem_cons_self ..);have hcc:dU T (q,z)=c:=by unfold dU;rw[hc];rfl
   have HR:=Lib.hid (HS1.out.1.open_ hc);have hm:t.meas T ((q,z)::rst)=gk:=by rw[HS1.out.2,←Hgk.out]
   rw[hm] at HR;have Hq:=Lib.hid (t.mem_stands.1 hst);clear hv3 hp hR4 hRs hgS hMs hM hR hG hmf zp hJr hc1 HS HS1 hm hst Hgk Hn hlen hc;go_wp2
   have hJ4:=hJ0.at_ hG4;have j10:=hJ4.blk.cell 10;simp at j10;apply eF [41,42,43,44,45,46,5] (fun x w'=>∃g5,x 5=.pointer (some ⟨g5,0,none⟩)∧Ext Wn w'∧Blk w' g5 115 #[.int .i64 c.1,.int .i64 c.2]∧Wn.heap.size≤g5)
   case h=>
    have hX:=Ext.todrew (Ext.refl Wn);refine aR (.take 0 (.take 1 (.take 2 (.take 3 (.take 4 (.take 5 (.one 6 (.one 7 .nil)))))))) (fun w'=>Ext Wn w') ?_ (fun hHd=> ?_)
    ·assumption
    repeat' first|((with_reducible refine aB ?_);(first|((with_reducible refine aB (i:=3) ?_);refine tk (v:=.map (some gm)) ?_ hHd ?_;(·exact aA (by rfl) (rl Tryz.underlying118 j10)))|((with_reducible refine aB (i:=4) ?_);refine tk (v:=.agg #[.int .i64 q,.int .i64 z]) ?_ hHd ?_;(·exact aA (by rfl) (fun W h=>dP (hB4.ext h))))|((with_reducible refine aB (i:=5) ?_);refine tk (v:=.agg #[.int .i64 c.1,.int .i64 c.2]) ?_ hHd ?_;(·exact(by rw[←hcc];exact oV (fun W h=>hM4.ext h) (by rfl) (by rfl))))|(refine tk (v:= ?_) ?_ hHd ?_;rotate_left;(·(intro wq hSw;(try dsimp only at hSw);go_simp;(try with_reducible rfl)))));(try simp only[pS]))|((with_reducible refine bC ?_);refine aQ (by simp only[gS];rfl) ?_)|((with_reducible refine aH (d:=some 5) ?_);(((with_reducible refine aS (d:=some 5) oH ?_);intro W5 g5 hE5 hB5 hg5;simp[Value.cells] at hB5;replace hg5:=Nat.le_trans hX.size hg5;replace hX:=hX.trans hE5)))|((with_reducible refine aH (d:=none) ?_);(((with_reducible refine aK (t:=115) (e:=115) (g:=g5) (off:=0) (n:=2) (v:=.agg #[.int .i64 c.1,.int .i64 c.2]) ?_ ?_ hB5 gT ?_ ?_ ?_ ?_);rfl;rfl;rfl;(simp[Value.cells]);(simp[Value.cells,Value.oneCell']);intro Ws hBs hgrs;simp[aI,Value.cells] at hBs;replace hX:=aD hX hgrs hg5)))|((with_reducible refine bB ?_);clear hHd;refine aJ ?_ (fun hHd=> ?_);(·assumption);(try simp only[pS]))|(with_reducible refine aG ?_)
    all_goals
     refine⟨rfl,?_⟩;refine bL ?_ ?_
     ·simp only[Act.sets,Act.put,List.foldl_cons,List.foldl_nil,List.setIfInBounds_toArray,List.set_cons_zero,List.set_cons_succ,Act.get];rfl
     exact⟨g5,rfl,hX,hBs,hg5⟩
   rintro x7 W5 ⟨g5,hx5,hE5,hB5,hg5⟩;simp only[Act.sets,Act.put,List.foldl_cons,List.foldl_nil,List.setIfInBounds_toArray,List.set_cons_zero,List.set_cons_succ,hx5];have hN5:SNow w W5 gm g4 g5 q z c T rst v3:=⟨bQ hG4 hE5,cD.ext hM4 hE5,hO4.ext hE5,hB4.ext hE5,hB5,by rw[ho4];exact fun e=>by have:=Option.some.inj e;omega⟩
   clear hG4 hM4 hO4 hB4 hB5 ho4 hE5 j10 hJ4 hcc hg5 n4 hgb hg4 hc2;obtain⟨qn,rfl,hqn⟩:=fB Hq.out.1;have hql:qn<vs.length:=by have:=hJ0.len;omega
   have HL:=Lib.hid hqn;have z1:(qn:Int)<(t.places.length:Int):=by omega
   obtain⟨L,hL⟩:∃L,t.into k (qn:Int)=L:=⟨_,rfl⟩;have hI5:=hJ0.rows hN5.G;have hrow:=hI5.own qn hql;have hcell:=hI5.at_ hql;rw[hL] at hrow;obtain⟨Ar,cr,hvr,hr1,hr2,hr3,hr4⟩:=hrow.sl;unfold maxLen at hr2;rw[hvr] at hcell;have hJ5:=hJ0.at_ hN5.G;have j9:=hJ5.blk.cell 9;have b40:=hN5.B4.cell 0;simp at j9 b40;clear hI5 hrow hqn;go_wp2
   refine wp_label ?_;go_wp2
   apply eF [47,48,49,50,51,52,53,54,55,56] (fun x w'=>x 54=.slice Ar L.length cr∧x 55=.int .i64 L.length∧x 56=.int .i64 0∧Ext W5 w')
   case h=>
    have hX:=Ext.todrew (Ext.refl W5);refine aR (.take 0 (.take 1 (.take 2 (.take 3 (.take 4 (.take 5 (.take 6 (.take 7 (.take 8 (.take 9 .nil)))))))))) (fun w'=>Ext W5 w') ?_ (fun hHd=> ?_)
    ·assumption
    repeat' first|((with_reducible refine aB ?_);(first|((with_reducible refine aB (i:=3) ?_);refine tk (v:=.slice (some ⟨gi,0,none⟩) t.places.length t.places.length) ?_ hHd ?_;(·exact aA (by rfl) (rl Tryz.underlying117 j9)))|((with_reducible refine aB (i:=5) ?_);refine tk (v:=.int .i64 (qn:Int)) ?_ hHd ?_;(·exact aA (by rfl) (rl Tryz.underlying3 b40)))|((with_reducible refine aB (i:=7) ?_);refine tk (v:=.slice Ar L.length cr) ?_ hHd ?_;(·exact aA (by rfl) (rl Tryz.underlying32 hcell)))|(refine tk (v:= ?_) ?_ hHd ?_;rotate_left;(·(intro wq hSw;(try dsimp only at hSw);go_simp;(try with_reducible rfl)))));(try simp only[pS]))|(with_reducible refine aG ?_)
    all_goals
     refine⟨rfl,?_⟩;refine bL ?_ ?_
     ·simp only[Act.sets,Act.put,List.foldl_cons,List.foldl_nil,List.setIfInBounds_toArray,List.set_cons_zero,List.set_cons_succ,Act.get];rfl
     exact⟨rfl,rfl,rfl,hHd⟩
   rintro x8 W6 ⟨hx54,hx55,hx56,hE6⟩;simp only[Act.sets,Act.put,List.foldl_cons,List.foldl_nil,List.setIfInBounds_toArray,List.set_cons_zero,List.set_cons_succ,hx54,hx55,hx56];have hN6:=hN5.ext hE6;clear hN5 hcell j9 b40 hJ5 hE6;have HR4:=Lib.hid hr4;have HLL:=Lib.hid hL;rw[←hL] at hvr;clear hr4 hr3 hL;obtain⟨zn,rfl⟩:∃n:Nat,z=n:=⟨z.toNat,by have:=Hq.out.2;omega⟩
   have hz64:zn<64:=by have:=Hq.out.2;have:=(Town.sets_bd HK.out.ok.sh).2;omega
   go_wp2
   go_loopw [56,3] (fun vi v wr=>∃(i:Nat)(T:Tab)(todo:List (Int×Int)),vi=.int .i64 i∧i≤L.length∧t.Rnd k (qn:Int) (zn:Int) c i 0 gk T todo∧SNow w wr gm g4 g5 (qn:Int) (zn:Int) c T todo v) (fun vi _ _=>L.length-(intOf vi).toNat)
   case atStart=>exact⟨0,T,rst,rfl,by omega,HR.out,hN6⟩
   case round=>
    clear hN6 HR;obtain⟨i,T,todo,rfl,hiL,hRnd,hN⟩:=hrel;have HR:=Lib.hid hRnd;clear hRnd;by_cases hlt:i<L.length
    ·have hz:(i:Int)<(L.length:Int):=by omega
     obtain⟨ad,rfl,_⟩:=HR4.out (by omega)
     have hi:=hlt;rw[←HLL.out] at hi;obtain⟨n0,pn,u,b,hx,hn,he1,hpn,he2,hu,hu64,hm1,hm2⟩:=Gd HK.out hi;have hcs:=hJ0.step hN.G hql hvr hi;have hls:=iM hcs hi;rw[hx] at hls;have HX:=Lib.hid (⟨hx,hn,he1,hpn,he2,hu,hm1,hm2⟩:_∧_∧_∧_∧_∧_∧_∧_);have hJr:=hJ0.at_ hN.G;have hn0:=hn;clear hx hn he1 hpn he2 hu hm1 hm2 hcs hlt;go_wp2_with (first|(((with_reducible refine aC (d:=some 59) (hl:=hls) ?_ ?_);rfl))|(((with_reducible refine aO (e:=82) (u:=7) (v:=.agg #[.int .i64 n0,.bool b]) jK ?_ ?_ ?_ ?_ ?_ ?_);(intro g;rfl);(intro g;rfl);rfl;rfl;(simp[Value.cells,Value.oneCell']);intro W7 g7 hE7 hB7 hg7;simp[Value.cells] at hB7;replace hN:=hN.ext hE7;replace hJr:=hJr.ext hE7;clear hls hE7)))
     have cends:=fun w h=>fL (.agg #[pv,sv,tv,xv]) t n0 b w h hn0
     rw[HX.out.2.2.1,HX.out.2.2.2.2.1] at cends;apply eF [61,62,63,64,65,66,60,67,68,8,9] (fun x w'=>x 8=.int .i64 pn∧x 9=.int .i64 qn∧Ext W7 w')
     case h=>
      have hX:=Ext.todrew (Ext.refl W7);refine aR (.take 0 (.take 1 (.take 2 (.take 3 (.take 4 (.one 5 (.take 6 (.take 7 (.take 8 (.take 9 (.take 10 .nil))))))))))) (fun w'=>Ext W7 w') ?_ (fun hHd=> ?_)
      ·assumption
      repeat' first|((with_reducible refine aB ?_);(first|((with_reducible refine aB (i:=3) ?_);refine tk (v:=.agg #[pv,sv,tv,xv]) ?_ hHd ?_;(·exact aA (by rfl) (fun W h=>qP (hJr.ext h))))|((with_reducible refine aB (i:=4) ?_);refine tk (v:=.agg #[.int .i64 n0,.bool b]) ?_ hHd ?_;(·exact aA (by rfl) (fun W h=>bZ (hB7.ext h))))|(refine tk (v:= ?_) ?_ hHd ?_;rotate_left;(·(intro wq hSw;(try dsimp only at hSw);go_simp;(try with_reducible rfl)))));(try simp only[pS]))|((with_reducible refine bC ?_);refine aQ (by simp only[gS];rfl) ?_)|((with_reducible refine aH (d:=some 66) ?_);((refine bD (by rfl) (cends _ (aM.of (hJr.town.ext hX))) (by go_simp) ?_;rintro e W66 ⟨rfl,hE66⟩;refine⟨_,rfl,?_⟩;replace hX:=hX.trans hE66)))|((with_reducible refine bB ?_);clear hHd;refine aJ ?_ (fun hHd=> ?_);(·assumption);(try simp only[pS]))|(with_reducible refine aG ?_)
      all_goals
       refine⟨rfl,?_⟩;refine bL ?_ ?_
       ·simp only[Act.sets,Act.put,List.foldl_cons,List.foldl_nil,List.setIfInBounds_toArray,List.set_cons_zero,List.set_cons_succ,Act.get];rfl
       exact⟨rfl,rfl,hX⟩
     rintro x11 W8 ⟨hx8,hx9,hE8⟩;simp only[Act.sets,Act.put,List.foldl_cons,List.foldl_nil,List.setIfInBounds_toArray,List.set_cons_zero,List.set_cons_succ,hx8,hx9];replace hN:=hN.ext hE8;replace hJr:=hJr.ext hE8;replace hB7:=hB7.ext hE8;clear hE8 cends;go_wp2
     have hbd:=HR.out.ref.bd HK.out HR.out.cc;obtain⟨met,hmet⟩:∃m,(t.at_ (n0:Int)).metres=m:=⟨_,rfl⟩;have Hmet:=Lib.hid hmet;have hmb:=HX.out.2.2.2.2.2.2;rw[hmet] at hmb;obtain⟨m1,hm1⟩:∃m,m=c.1+met:=⟨_,rfl⟩;obtain⟨s1,hs1⟩:∃m,m=c.2+1:=⟨_,rfl⟩;have wm1:IntKind.i64.wrap (c.1+met)=m1:=by rw[bM (by omega) (by omega)];omega
     have ws1:IntKind.i64.wrap (c.2+1)=s1:=by rw[bM (by omega) (by omega)];omega
     have Hms:=Lib.hid (⟨hm1,hs1⟩:_∧_);clear hm1 hs1 hbd hmb;have j3:=hJr.blk.cell 3;have b50:=hN.B5.cell 0;have b51:=hN.B5.cell 1;have b70:=hB7.cell 0;simp at j3 b50 b51 b70;obtain⟨As,cp,rfl,h1,h2,h4⟩:=hJr.town.streets;unfold maxLen at h2;obtain⟨ads,rfl,hcs⟩:=h4 (by omega)
     obtain⟨ssv,hss⟩:=hcs n0 hn0;have e2:=fld hss.1 (i:=2) (by decide) rfl
     rw[show t.streets[n0].metres=met by rw[←hmet,Town.at_eq hn0]] at e2
     have z2:(n0:Int)<(t.streets.length:Int):=by omega
     clear hss hcs h4;apply eF [69,70,71,72,73,74,75,76,77,78,79,80,81,82,83,84,85,86,10] (fun x w'=>∃g10,x 10=.pointer (some ⟨g10,0,none⟩)∧Ext W8 w'∧Blk w' g10 115 #[.int .i64 m1,.int .i64 s1]∧W8.heap.size≤g10)
     case h=>
      have hX:=Ext.todrew (Ext.refl W8);refine aR (.take 0 (.take 1 (.take 2 (.take 3 (.take 4 (.take 5 (.take 6 (.take 7 (.take 8 (.take 9 (.take 10 (.take 11 (.take 12 (.take 13 (.take 14 (.take 15 (.take 16 (.take 17 (.one 18 (.one 19 .nil)))))))))))))))))))) (fun w'=>Ext W8 w') ?_ (fun hHd=> ?_)
      ·assumption
      repeat' first|((with_reducible refine aB ?_);(first|((with_reducible refine aB (i:=1) ?_);refine tk (v:=.int .i64 c.1) ?_ hHd ?_;(·exact aA (by rfl) (rl Tryz.underlying3 b50)))|((with_reducible refine aB (i:=7) ?_);refine tk (v:=.slice (some ads) t.streets.length cp) ?_ hHd ?_;(·exact aA (by rfl) (rl Tryz.underlying23 j3)))|((with_reducible refine aB (i:=9) ?_);refine tk (v:=.int .i64 n0) ?_ hHd ?_;(·exact aA (by rfl) (rl Tryz.underlying3 b70)))|((with_reducible refine aB (i:=12) ?_);refine tk (v:=.int .i64 met) ?_ hHd ?_;(·exact aA (by rfl) (rl Tryz.underlying3 e2)))|((with_reducible refine aB (i:=15) ?_);refine tk (v:=.int .i64 c.2) ?_ hHd ?_;(·exact aA (by rfl) (rl Tryz.underlying3 b51)))|(refine tk (v:= ?_) ?_ hHd ?_;rotate_left;(·(intro wq hSw;(try dsimp only at hSw);go_simp;(try with_reducible rfl)))));(try simp only[pS]))|((with_reducible refine bC ?_);refine aQ (by simp only[gS];rfl) ?_)|((with_reducible refine aH (d:=some 10) ?_);(((with_reducible refine aS (d:=some 10) oH ?_);intro W10 g10 hE10 hB10 hg10;simp[Value.cells] at hB10;replace hg10:=Nat.le_trans hX.size hg10;replace hX:=hX.trans hE10)))|((with_reducible refine aH (d:=none) ?_);(((with_reducible refine aK (t:=115) (e:=115) (g:=g10) (off:=0) (n:=2) (v:=.agg #[.int .i64 m1,.int .i64 s1]) ?_ ?_ hB10 gT ?_ ?_ ?_ ?_);rfl;rfl;rfl;(simp[Value.cells]);(simp[Value.cells,Value.oneCell']);intro Ws hBs hgrs;simp[aI,Value.cells] at hBs;replace hX:=aD hX hgrs hg10)))|((with_reducible refine bB ?_);clear hHd;refine aJ ?_ (fun hHd=> ?_);(·assumption);(try simp only[pS]))|(with_reducible refine aG ?_)
      all_goals
       refine⟨rfl,?_⟩;refine bL ?_ ?_
       ·simp only[Act.sets,Act.put,List.foldl_cons,List.foldl_nil,List.setIfInBounds_toArray,List.set_cons_zero,List.set_cons_succ,Act.get];rfl
       exact⟨g10,rfl,hX,hBs,hg10⟩
     rintro x12 W9 ⟨g10,hx10,hE9,hB10,hg10⟩;simp only[Act.sets,Act.put,List.foldl_cons,List.foldl_nil,List.setIfInBounds_toArray,List.set_cons_zero,List.set_cons_succ,hx10];replace hN:=hN.ext hE9;replace hJr:=hJr.ext hE9;replace hB7:=hB7.ext hE9;clear hE9 hg10 e2 z2 h1 h2 j3 b50 b51 b70 wm1 ws1 hmet;obtain⟨sn,hsn⟩:∃n:Nat,k.show_=n:=⟨k.show_.toNat,by have:=aV.1 HK.out.sh;omega⟩
     have hsl:sn<64:=by have:=aV.1 HK.out.sh;have:=(Town.sets_bd HK.out.ok.sh).2;omega
     have j6:=hJr.blk.cell 6;simp at j6;rw[hsn] at j6;have Hsn:=Lib.hid hsn;have ws1:IntKind.i64.wrap ((sn:Int)+1)=((sn+1:Nat):Int):=by rw[bM (by omega) (by omega)];omega
     clear hsn;go_wp2
     go_loopw [93,3] (fun vi v wr=>∃(n:Nat)(T:Tab)(todo:List (Int×Int)),vi=.int .i64 n∧n≤sn+1∧t.Rnd k (qn:Int) (zn:Int) c i n gk T todo∧SNow w wr gm g4 g5 (qn:Int) (zn:Int) c T todo v∧Blk wr g7 82 #[.int .i64 n0,.bool b]∧Blk wr g10 115 #[.int .i64 m1,.int .i64 s1]) (fun vi _ _=>sn+1-(intOf vi).toNat)
     case atStart=>exact⟨0,T,todo,rfl,by omega,HR.out,hN,hB7,hB10⟩
     case round=>
      clear hN hB7 hB10 HR;obtain⟨n,T,todo,rfl,hn3,hRnd,hN,hB7,hB10⟩:=hrel;have HR:=Lib.hid hRnd;clear hRnd;by_cases hlt3:n≤sn
      ·have z3:(n:Int)<(sn:Int)+1:=by omega
       have hn64:n<64:=by omega
       clear hJr j6;have hJr:=hJ0.at_ hN.G;have j6:=hJr.blk.cell 6;simp at j6;rw[Hsn.out] at j6;obtain⟨a1,ha1⟩:∃a,a=zn&&&u:=⟨_,rfl⟩;have hband:bits .and .i64 (zn:Int) (u:Int)=(a1:Int):=by rw[ha1];exact Lf hz64 hu64
       have Ha1:=Lib.hid ha1;have b41:=hN.B4.cell 1;simp at b41;have cshow:=fun w h=>pB gj n0 b pv sv tv (.slice (some ads) t.streets.length cp) cv (.slice (some ⟨gi,0,none⟩) t.places.length t.places.length) (.map (some gm)) t k w h HK.out hn0
       rw[HX.out.2.2.2.2.2.1] at cshow;obtain⟨bq,hbq⟩:∃b,((a1:Int) !=0)=b:=⟨_,rfl⟩;clear ha1;go_wp2
       apply eF [96,97,98,99,100,101,102] (fun x w'=>x 102=.bool bq∧Ext wr w')
       case h=>
        have hX:=Ext.todrew (Ext.refl wr);refine aR (.take 0 (.take 1 (.take 2 (.take 3 (.one 4 (.take 5 (.take 6 .nil))))))) (fun w'=>Ext wr w') ?_ (fun hHd=> ?_)
        ·assumption
        repeat' first|((with_reducible refine aB ?_);(first|((with_reducible refine aB (i:=1) ?_);refine tk (v:=.int .i64 zn) ?_ hHd ?_;(·exact aA (by rfl) (rl Tryz.underlying3 b41)))|((with_reducible refine aB (i:=3) ?_);refine tk (v:=.agg #[.int .i64 n0,.bool b]) ?_ hHd ?_;(·exact aA (by rfl) (fun W h=>bZ (hB7.ext h))))|(refine tk (v:= ?_) ?_ hHd ?_;rotate_left;(·(intro wq hSw;(try dsimp only at hSw);go_simp;(try with_reducible rfl)))));(try simp only[pS]))|((with_reducible refine bC ?_);refine aQ (by simp only[gS];rfl) ?_)|((with_reducible refine aH (d:=some 100) ?_);((refine bD (by rfl) (cshow _ (hJr.ext hX)) (by go_simp) ?_;rintro e W100 ⟨rfl,hE100⟩;refine⟨_,rfl,?_⟩;replace hX:=hX.trans hE100)))|((with_reducible refine bB ?_);clear hHd;refine aJ ?_ (fun hHd=> ?_);(·assumption);(try simp only[pS]))|(with_reducible refine aG ?_)
        all_goals
         refine⟨rfl,?_⟩;refine bL ?_ ?_
         ·simp only[Act.sets,Act.put,List.foldl_cons,List.foldl_nil,List.setIfInBounds_toArray,List.set_cons_zero,List.set_cons_succ,Act.get];rfl
         exact⟨by rw[←hbq];rfl,hX⟩
       rintro x16 W16 ⟨hx102,hE16⟩;simp only[Act.sets,Act.put,List.foldl_cons,List.foldl_nil,List.setIfInBounds_toArray,List.set_cons_zero,List.set_cons_succ,hx102];replace hN:=hN.ext hE16;replace hJr:=hJr.ext hE16;replace hB7:=hB7.ext hE16;replace hB10:=hB10.ext hE16;replace j6:=hE16.c j6;clear hE16 b41 hband;have hil:=hi;rw[HLL.out] at hil
       cases bq
       ·have ha0:a1=0:=by simpa using hbq
        clear Ha1 hbq;have hmd:=hN.M;obtain⟨d,hd⟩:∃d,dU T ((pn:Int),(n:Int))=d:=⟨_,rfl⟩;obtain⟨kn,hkn⟩:∃b,(T (pn:Int) (n:Int)).isSome=b:=⟨_,rfl⟩;go_wp2_with (first|((with_reducible refine aO (e:=113) (u:=12) (v:=.agg #[.int .i64 pn,.int .i64 n]) tN ?_ ?_ ?_ ?_ ?_ ?_);(intro g;rfl);(intro g;rfl);rfl;rfl;(simp[Value.cells,Value.oneCell']);intro W12 g12 hE12 hB12 hg12;simp[Value.cells] at hB12;replace hN:=hN.ext hE12;replace hJr:=hJr.ext hE12;replace hB7:=hB7.ext hE12;replace hB10:=hB10.ext hE12;replace j6:=hE12.c j6))
        have hj10:=hJr.blk.cell 10;simp at hj10;apply eF [107,108,109,110,111,112,106,113,114,13,14] (fun x w'=>∃g13,x 13=.pointer (some ⟨g13,0,none⟩)∧x 14=.bool kn∧Ext W12 w'∧Blk w' g13 115 #[.int .i64 d.1,.int .i64 d.2])
        case h=>
         have hM:=hN.M;have hX:=Ext.todrew (Ext.refl W12);refine aR (.take 0 (.take 1 (.take 2 (.take 3 (.take 4 (.take 5 (.take 6 (.take 7 (.take 8 (.one 9 (.one 10 (.take 11 .nil)))))))))))) (fun w'=>Ext W12 w') ?_ (fun hHd=> ?_)
         ·assumption
         repeat' first|((with_reducible refine aB ?_);(first|((with_reducible refine aB (i:=3) ?_);refine tk (v:=.map (some gm)) ?_ hHd ?_;(·exact aA (by rfl) (rl Tryz.underlying118 hj10)))|((with_reducible refine aB (i:=4) ?_);refine tk (v:=.agg #[.int .i64 pn,.int .i64 n]) ?_ hHd ?_;(·exact aA (by rfl) (fun W h=>dP (hB12.ext h))))|((with_reducible refine aB (i:=5) ?_);refine tk (v:=.tuple #[.agg #[.int .i64 d.1,.int .i64 d.2],.bool kn]) ?_ hHd ?_;(·exact(by rw[←hd,←hkn];exact lX (p:=((pn:Int),(n:Int))) (fun W h=>hM.ext h) (by rfl) (by rfl))))|(refine tk (v:= ?_) ?_ hHd ?_;rotate_left;(·(intro wq hSw;(try dsimp only at hSw);go_simp;(try with_reducible rfl)))));(try simp only[pS]))|((with_reducible refine bC ?_);refine aQ (by simp only[gS];rfl) ?_)|((with_reducible refine aH (d:=some 13) ?_);(((with_reducible refine aS (d:=some 13) oH ?_);intro W13 g13 hE13 hB13 hg13;simp[Value.cells] at hB13;replace hg13:=Nat.le_trans hX.size hg13;replace hX:=hX.trans hE13)))|((with_reducible refine aH (d:=none) ?_);(((with_reducible refine aK (t:=115) (e:=115) (g:=g13) (off:=0) (n:=2) (v:=.agg #[.int .i64 d.1,.int .i64 d.2]) ?_ ?_ hB13 gT ?_ ?_ ?_ ?_);rfl;rfl;rfl;(simp[Value.cells]);(simp[Value.cells,Value.oneCell']);intro Ws hBs hgrs;simp[aI,Value.cells] at hBs;replace hX:=aD hX hgrs hg13)))|((with_reducible refine bB ?_);clear hHd;refine aJ ?_ (fun hHd=> ?_);(·assumption);(try simp only[pS]))|(with_reducible refine aG ?_)
         all_goals
          refine⟨rfl,?_⟩;refine bL ?_ ?_
          ·simp only[Act.sets,Act.put,List.foldl_cons,List.foldl_nil,List.setIfInBounds_toArray,List.set_cons_zero,List.set_cons_succ,Act.get];rfl
          exact⟨g13,rfl,rfl,hX,hBs⟩
        rintro x18 W18 ⟨g13,hx13,hx14,hE18,hB13⟩;simp only[Act.sets,Act.put,List.foldl_cons,List.foldl_nil,List.setIfInBounds_toArray,List.set_cons_zero,List.set_cons_succ,hx13,hx14];replace hN:=hN.ext hE18;replace hJr:=hJr.ext hE18;replace hB7:=hB7.ext hE18;replace hB10:=hB10.ext hE18;replace hB12:=hB12.ext hE18;replace j6:=hE18.c j6;clear hE18 hj10 hmd;obtain⟨lA,hlA⟩:∃x,aE (n:Int) (sn:Int)=x:=⟨_,rfl⟩;obtain⟨lB,hlB⟩:∃x,aE (n:Int) (u:Int)=x:=⟨_,rfl⟩;have hA:bits .andNot .i64 (n:Int) (sn:Int)=lA:=by rw[←hlA];exact lP hn64 hsl
        have hB:bits .andNot .i64 (n:Int) (u:Int)=lB:=by rw[←hlB];exact lP hn64 hu64
        have Hl:=Lib.hid (⟨hlA,hlB⟩:_∧_);have Hd:=Lib.hid (⟨hd,hkn⟩:_∧_);obtain⟨bv,hbv⟩:∃b,decide (lA≠0∨lB≠(zn:Int)∨(kn=true∧(d.1<m1∨d.1=m1∧d.2≤s1)))=b:=⟨_,rfl⟩;have Hbv:=Lib.hid hbv;have c130:=hB13.cell 0;have c131:=hB13.cell 1;have c100:=hB10.cell 0;have c101:=hB10.cell 1;have b41:=hN.B4.cell 1;simp at c130 c131 c100 c101 b41;clear hlA hlB hd hkn hbv;go_wp2
        apply eF [115,116,117,118,119,120,121,122,123,124,125,126,127,128,129,130,131,132,133,134,135,136,137,138,139,140,141,142,143,144,145,146,147,148,149,150,151,152,153,154,155,156] (fun x w'=>x 156=.bool bv∧Ext W18 w')
        case h=>
         have hX:=Ext.todrew (Ext.refl W18);by_cases cA:lA=0
         ·have hA0:bits .andNot .i64 (n:Int) (sn:Int)=0:=by rw[hA,cA]
          clear hA;by_cases cB:lB=(zn:Int)
          ·have hB0:bits .andNot .i64 (n:Int) (u:Int)=(zn:Int):=by rw[hB,cB]
           clear hB
           cases kn
           ·
            have hv:bv=false:=by rw[←Hbv.out];simp[cA,cB]
            refine aR (.take 0 (.take 1 (.take 2 (.take 3 (.take 4 (.take 5 (.take 6 (.take 7 (.take 8 (.take 9 (.take 10 (.take 11 (.take 14 (.take 15 (.one 12 (.take 13 (.take 16 (.take 17 (.take 18 (.take 19 (.take 20 (.take 21 (.take 22 (.take 23 (.take 24 (.take 25 (.take 26 (.take 27 (.take 28 (.take 29 (.take 30 (.take 31 (.take 32 (.take 33 (.take 34 (.take 35 (.take 36 (.take 37 (.take 38 (.take 39 (.take 40 (.take 41 .nil)))))))))))))))))))))))))))))))))))))))))) (fun w'=>Ext W18 w') ?_ (fun hHd=> ?_)
            ·assumption
            repeat' first|((with_reducible refine aB ?_);(first|((with_reducible refine aB (i:=5) ?_);refine tk (v:=.int .i64 sn) ?_ hHd ?_;(·exact aA (by rfl) (rl Tryz.underlying3 j6)))|((with_reducible refine aB (i:=6) ?_);refine tk (v:=.int .i64 0) ?_ hHd ?_;(·(intro wq hSw;go_simp)))|((with_reducible refine aB (i:=7) ?_);refine tk (v:=.bool false) ?_ hHd ?_;(·(intro wq hSw;go_simp;first|done|simp[cA])))|((with_reducible refine aB (i:=11) ?_);refine tw (v:=.agg #[.int .i64 n0,.bool b]) ?_ hHd ?_;(·exact aA (by rfl) (fun W h=>bZ (hB7.ext h))))|((with_reducible refine aB (i:=13) ?_);refine tw (v:=.int .i64 zn) ?_ hHd ?_;(·(intro wq hSw;go_simp)))|((with_reducible refine aB (i:=15) ?_);refine tw (v:=.int .i64 zn) ?_ hHd ?_;(·exact aA (by rfl) (rl Tryz.underlying3 b41)))|((with_reducible refine aB (i:=16) ?_);refine tw (v:=.bool false) ?_ hHd ?_;(·(intro wq hSw;go_simp;first|done|simp[cB])))|((first|with_reducible refine aB (i:=9) ?_|with_reducible refine aB (i:=10) ?_|with_reducible refine aB (i:=14) ?_|with_reducible refine aB (i:=19) ?_|with_reducible refine aB (i:=20) ?_|with_reducible refine aB (i:=40) ?_);(refine tw (v:= ?_) ?_ hHd ?_;rotate_left;(·(intro wq hSw;(try dsimp only at hSw);go_simp;(try with_reducible rfl)))))|(refine tk (v:= ?_) ?_ hHd ?_;rotate_left;(·(intro wq hSw;(try dsimp only at hSw);go_simp;(try with_reducible rfl))))|refine ts hHd ?_);(try simp only[pS]))|((with_reducible refine bC ?_);refine aQ (by simp only[gS];rfl) ?_)|((with_reducible refine aH (d:=some 127) ?_);((refine bN (by rfl) (cshow _ (hJr.ext hX)) (by go_simp) ?_;rintro e W127 ⟨rfl,hE127⟩;refine⟨_,rfl,?_⟩;replace hX:=hX.trans hE127)))|((with_reducible refine bB ?_);clear hHd;refine aJ ?_ (fun hHd=> ?_);(·assumption);(try simp only[pS]))|(with_reducible refine aG ?_)
            all_goals
             refine⟨rfl,?_⟩;refine bL ?_ ?_
             ·simp only[Act.sets,Act.put,List.foldl_cons,List.foldl_nil,List.setIfInBounds_toArray,List.set_cons_zero,List.set_cons_succ,Act.get];rfl
             exact⟨by rw[hv];rfl,hX⟩
           ·by_cases cL:d.1<m1
            ·
             have hv:bv=true:=by rw[←Hbv.out];simp[cA,cB,cL]
             refine aR (.take 0 (.take 1 (.take 2 (.take 3 (.take 4 (.take 5 (.take 6 (.take 7 (.take 8 (.take 9 (.take 10 (.take 11 (.take 14 (.take 15 (.one 12 (.take 13 (.take 16 (.take 17 (.take 18 (.take 19 (.take 20 (.take 21 (.take 22 (.take 23 (.take 24 (.take 25 (.take 26 (.take 27 (.take 28 (.take 29 (.take 30 (.take 31 (.take 32 (.take 33 (.take 34 (.take 35 (.take 36 (.take 37 (.take 38 (.take 39 (.take 40 (.take 41 .nil)))))))))))))))))))))))))))))))))))))))))) (fun w'=>Ext W18 w') ?_ (fun hHd=> ?_)
             ·assumption
             repeat' first|((with_reducible refine aB ?_);(first|((with_reducible refine aB (i:=5) ?_);refine tk (v:=.int .i64 sn) ?_ hHd ?_;(·exact aA (by rfl) (rl Tryz.underlying3 j6)))|((with_reducible refine aB (i:=6) ?_);refine tk (v:=.int .i64 0) ?_ hHd ?_;(·(intro wq hSw;go_simp)))|((with_reducible refine aB (i:=7) ?_);refine tk (v:=.bool false) ?_ hHd ?_;(·(intro wq hSw;go_simp;first|done|simp[cA])))|((with_reducible refine aB (i:=11) ?_);refine tw (v:=.agg #[.int .i64 n0,.bool b]) ?_ hHd ?_;(·exact aA (by rfl) (fun W h=>bZ (hB7.ext h))))|((with_reducible refine aB (i:=13) ?_);refine tw (v:=.int .i64 zn) ?_ hHd ?_;(·(intro wq hSw;go_simp)))|((with_reducible refine aB (i:=15) ?_);refine tw (v:=.int .i64 zn) ?_ hHd ?_;(·exact aA (by rfl) (rl Tryz.underlying3 b41)))|((with_reducible refine aB (i:=16) ?_);refine tw (v:=.bool false) ?_ hHd ?_;(·(intro wq hSw;go_simp;first|done|simp[cB])))|((with_reducible refine aB (i:=22) ?_);refine tw (v:=.int .i64 d.1) ?_ hHd ?_;(·exact aA (by rfl) (rl Tryz.underlying3 c130)))|((with_reducible refine aB (i:=24) ?_);refine tw (v:=.int .i64 m1) ?_ hHd ?_;(·exact aA (by rfl) (rl Tryz.underlying3 c100)))|((with_reducible refine aB (i:=25) ?_);refine tw (v:=.bool true) ?_ hHd ?_;(·(intro wq hSw;go_simp;first|done|simp[cL]|(simp;omega))))|((first|with_reducible refine aB (i:=9) ?_|with_reducible refine aB (i:=10) ?_|with_reducible refine aB (i:=14) ?_|with_reducible refine aB (i:=19) ?_|with_reducible refine aB (i:=20) ?_|with_reducible refine aB (i:=21) ?_|with_reducible refine aB (i:=23) ?_|with_reducible refine aB (i:=26) ?_|with_reducible refine aB (i:=39) ?_|with_reducible refine aB (i:=40) ?_);(refine tw (v:= ?_) ?_ hHd ?_;rotate_left;(·(intro wq hSw;(try dsimp only at hSw);go_simp;(try with_reducible rfl)))))|(refine tk (v:= ?_) ?_ hHd ?_;rotate_left;(·(intro wq hSw;(try dsimp only at hSw);go_simp;(try with_reducible rfl))))|refine ts hHd ?_);(try simp only[pS]))|((with_reducible refine bC ?_);refine aQ (by simp only[gS];rfl) ?_)|((with_reducible refine aH (d:=some 127) ?_);((refine bN (by rfl) (cshow _ (hJr.ext hX)) (by go_simp) ?_;rintro e W127 ⟨rfl,hE127⟩;refine⟨_,rfl,?_⟩;replace hX:=hX.trans hE127)))|((with_reducible refine bB ?_);clear hHd;refine aJ ?_ (fun hHd=> ?_);(·assumption);(try simp only[pS]))|(with_reducible refine aG ?_)
             all_goals
              refine⟨rfl,?_⟩;refine bL ?_ ?_
              ·simp only[Act.sets,Act.put,List.foldl_cons,List.foldl_nil,List.setIfInBounds_toArray,List.set_cons_zero,List.set_cons_succ,Act.get];rfl
              exact⟨by rw[hv];rfl,hX⟩
            ·by_cases cE:d.1=m1
             ·
              have hv:bv=(decide (d.2≤s1)):=by rw[←Hbv.out];simp[cA,cB,cE]
              refine aR (.take 0 (.take 1 (.take 2 (.take 3 (.take 4 (.take 5 (.take 6 (.take 7 (.take 8 (.take 9 (.take 10 (.take 11 (.take 14 (.take 15 (.one 12 (.take 13 (.take 16 (.take 17 (.take 18 (.take 19 (.take 20 (.take 21 (.take 22 (.take 23 (.take 24 (.take 25 (.take 26 (.take 27 (.take 28 (.take 29 (.take 30 (.take 31 (.take 32 (.take 33 (.take 34 (.take 35 (.take 36 (.take 37 (.take 38 (.take 39 (.take 40 (.take 41 .nil)))))))))))))))))))))))))))))))))))))))))) (fun w'=>Ext W18 w') ?_ (fun hHd=> ?_)
              ·assumption
              repeat' first|((with_reducible refine aB ?_);(first|((with_reducible refine aB (i:=5) ?_);refine tk (v:=.int .i64 sn) ?_ hHd ?_;(·exact aA (by rfl) (rl Tryz.underlying3 j6)))|((with_reducible refine aB (i:=6) ?_);refine tk (v:=.int .i64 0) ?_ hHd ?_;(·(intro wq hSw;go_simp)))|((with_reducible refine aB (i:=7) ?_);refine tk (v:=.bool false) ?_ hHd ?_;(·(intro wq hSw;go_simp;first|done|simp[cA])))|((with_reducible refine aB (i:=11) ?_);refine tw (v:=.agg #[.int .i64 n0,.bool b]) ?_ hHd ?_;(·exact aA (by rfl) (fun W h=>bZ (hB7.ext h))))|((with_reducible refine aB (i:=13) ?_);refine tw (v:=.int .i64 zn) ?_ hHd ?_;(·(intro wq hSw;go_simp)))|((with_reducible refine aB (i:=15) ?_);refine tw (v:=.int .i64 zn) ?_ hHd ?_;(·exact aA (by rfl) (rl Tryz.underlying3 b41)))|((with_reducible refine aB (i:=16) ?_);refine tw (v:=.bool false) ?_ hHd ?_;(·(intro wq hSw;go_simp;first|done|simp[cB])))|((with_reducible refine aB (i:=22) ?_);refine tw (v:=.int .i64 d.1) ?_ hHd ?_;(·exact aA (by rfl) (rl Tryz.underlying3 c130)))|((with_reducible refine aB (i:=24) ?_);refine tw (v:=.int .i64 m1) ?_ hHd ?_;(·exact aA (by rfl) (rl Tryz.underlying3 c100)))|((with_reducible refine aB (i:=25) ?_);refine tw (v:=.bool false) ?_ hHd ?_;(·(intro wq hSw;go_simp;first|done|simp[cL]|(simp;omega))))|((with_reducible refine aB (i:=28) ?_);refine tw (v:=.int .i64 d.1) ?_ hHd ?_;(·exact aA (by rfl) (rl Tryz.underlying3 c130)))|((with_reducible refine aB (i:=30) ?_);refine tw (v:=.int .i64 m1) ?_ hHd ?_;(·exact aA (by rfl) (rl Tryz.underlying3 c100)))|((with_reducible refine aB (i:=31) ?_);refine tw (v:=.bool true) ?_ hHd ?_;(·(intro wq hSw;go_simp;first|done|simp[cE])))|((with_reducible refine aB (i:=34) ?_);refine tw (v:=.int .i64 d.2) ?_ hHd ?_;(·exact aA (by rfl) (rl Tryz.underlying3 c131)))|((with_reducible refine aB (i:=36) ?_);refine tw (v:=.int .i64 s1) ?_ hHd ?_;(·exact aA (by rfl) (rl Tryz.underlying3 c101)))|((with_reducible refine aB (i:=37) ?_);refine tw (v:=.bool (decide (d.2≤s1))) ?_ hHd ?_;(·(intro wq hSw;go_simp)))|(refine tk (v:= ?_) ?_ hHd ?_;rotate_left;(·(intro wq hSw;(try dsimp only at hSw);go_simp;(try with_reducible rfl))))|(refine tw (v:= ?_) ?_ hHd ?_;rotate_left;(·(intro wq hSw;(try dsimp only at hSw);go_simp;(try with_reducible rfl)))));(try simp only[pS]))|((with_reducible refine bC ?_);refine aQ (by simp only[gS];rfl) ?_)|((with_reducible refine aH (d:=some 127) ?_);((refine bN (by rfl) (cshow _ (hJr.ext hX)) (by go_simp) ?_;rintro e W127 ⟨rfl,hE127⟩;refine⟨_,rfl,?_⟩;replace hX:=hX.trans hE127)))|((with_reducible refine bB ?_);clear hHd;refine aJ ?_ (fun hHd=> ?_);(·assumption);(try simp only[pS]))|(with_reducible refine aG ?_)
              all_goals
               refine⟨rfl,?_⟩;refine bL ?_ ?_
               ·simp only[Act.sets,Act.put,List.foldl_cons,List.foldl_nil,List.setIfInBounds_toArray,List.set_cons_zero,List.set_cons_succ,Act.get];rfl
               exact⟨by rw[hv];rfl,hX⟩
             ·
              have hv:bv=false:=by rw[←Hbv.out];simp[cA,cB,cL,cE]
              refine aR (.take 0 (.take 1 (.take 2 (.take 3 (.take 4 (.take 5 (.take 6 (.take 7 (.take 8 (.take 9 (.take 10 (.take 11 (.take 14 (.take 15 (.one 12 (.take 13 (.take 16 (.take 17 (.take 18 (.take 19 (.take 20 (.take 21 (.take 22 (.take 23 (.take 24 (.take 25 (.take 26 (.take 27 (.take 28 (.take 29 (.take 30 (.take 31 (.take 32 (.take 33 (.take 34 (.take 35 (.take 36 (.take 37 (.take 38 (.take 39 (.take 40 (.take 41 .nil)))))))))))))))))))))))))))))))))))))))))) (fun w'=>Ext W18 w') ?_ (fun hHd=> ?_)
              ·assumption
              repeat' first|((with_reducible refine aB ?_);(first|((with_reducible refine aB (i:=5) ?_);refine tk (v:=.int .i64 sn) ?_ hHd ?_;(·exact aA (by rfl) (rl Tryz.underlying3 j6)))|((with_reducible refine aB (i:=6) ?_);refine tk (v:=.int .i64 0) ?_ hHd ?_;(·(intro wq hSw;go_simp)))|((with_reducible refine aB (i:=7) ?_);refine tk (v:=.bool false) ?_ hHd ?_;(·(intro wq hSw;go_simp;first|done|simp[cA])))|((with_reducible refine aB (i:=11) ?_);refine tw (v:=.agg #[.int .i64 n0,.bool b]) ?_ hHd ?_;(·exact aA (by rfl) (fun W h=>bZ (hB7.ext h))))|((with_reducible refine aB (i:=13) ?_);refine tw (v:=.int .i64 zn) ?_ hHd ?_;(·(intro wq hSw;go_simp)))|((with_reducible refine aB (i:=15) ?_);refine tw (v:=.int .i64 zn) ?_ hHd ?_;(·exact aA (by rfl) (rl Tryz.underlying3 b41)))|((with_reducible refine aB (i:=16) ?_);refine tw (v:=.bool false) ?_ hHd ?_;(·(intro wq hSw;go_simp;first|done|simp[cB])))|((with_reducible refine aB (i:=22) ?_);refine tw (v:=.int .i64 d.1) ?_ hHd ?_;(·exact aA (by rfl) (rl Tryz.underlying3 c130)))|((with_reducible refine aB (i:=24) ?_);refine tw (v:=.int .i64 m1) ?_ hHd ?_;(·exact aA (by rfl) (rl Tryz.underlying3 c100)))|((with_reducible refine aB (i:=25) ?_);refine tw (v:=.bool false) ?_ hHd ?_;(·(intro wq hSw;go_simp;first|done|simp[cL]|(simp;omega))))|((with_reducible refine aB (i:=28) ?_);refine tw (v:=.int .i64 d.1) ?_ hHd ?_;(·exact aA (by rfl) (rl Tryz.underlying3 c130)))|((with_reducible refine aB (i:=30) ?_);refine tw (v:=.int .i64 m1) ?_ hHd ?_;(·exact aA (by rfl) (rl Tryz.underlying3 c100)))|((with_reducible refine aB (i:=31) ?_);refine tw (v:=.bool false) ?_ hHd ?_;(·(intro wq hSw;go_simp;first|done|simp[cE])))|((first|with_reducible refine aB (i:=33) ?_|with_reducible refine aB (i:=34) ?_|with_reducible refine aB (i:=35) ?_|with_reducible refine aB (i:=36) ?_|with_reducible refine aB (i:=37) ?_);refine ts hHd ?_)|(refine tk (v:= ?_) ?_ hHd ?_;rotate_left;(·(intro wq hSw;(try dsimp only at hSw);go_simp;(try with_reducible rfl))))|(refine tw (v:= ?_) ?_ hHd ?_;rotate_left;(·(intro wq hSw;(try dsimp only at hSw);go_simp;(try with_reducible rfl)))));(try simp only[pS]))|((with_reducible refine bC ?_);refine aQ (by simp only[gS];rfl) ?_)|((with_reducible refine aH (d:=some 127) ?_);((refine bN (by rfl) (cshow _ (hJr.ext hX)) (by go_simp) ?_;rintro e W127 ⟨rfl,hE127⟩;refine⟨_,rfl,?_⟩;replace hX:=hX.trans hE127)))|((with_reducible refine bB ?_);clear hHd;refine aJ ?_ (fun hHd=> ?_);(·assumption);(try simp only[pS]))|(with_reducible refine aG ?_)
              all_goals
               refine⟨rfl,?_⟩;refine bL ?_ ?_
               ·simp only[Act.sets,Act.put,List.foldl_cons,List.foldl_nil,List.setIfInBounds_toArray,List.set_cons_zero,List.set_cons_succ,Act.get];rfl
               exact⟨by rw[hv];rfl,hX⟩
          ·
           have hv:bv=true:=by rw[←Hbv.out];simp[cB]
           refine aR (.take 0 (.take 1 (.take 2 (.take 3 (.take 4 (.take 5 (.take 6 (.take 7 (.take 8 (.take 9 (.take 10 (.take 11 (.take 14 (.take 15 (.one 12 (.take 13 (.take 16 (.take 17 (.take 18 (.take 19 (.take 20 (.take 21 (.take 22 (.take 23 (.take 24 (.take 25 (.take 26 (.take 27 (.take 28 (.take 29 (.take 30 (.take 31 (.take 32 (.take 33 (.take 34 (.take 35 (.take 36 (.take 37 (.take 38 (.take 39 (.take 40 (.take 41 .nil)))))))))))))))))))))))))))))))))))))))))) (fun w'=>Ext W18 w') ?_ (fun hHd=> ?_)
           ·assumption
           repeat' first|((with_reducible refine aB ?_);(first|((with_reducible refine aB (i:=5) ?_);refine tk (v:=.int .i64 sn) ?_ hHd ?_;(·exact aA (by rfl) (rl Tryz.underlying3 j6)))|((with_reducible refine aB (i:=6) ?_);refine tk (v:=.int .i64 0) ?_ hHd ?_;(·(intro wq hSw;go_simp)))|((with_reducible refine aB (i:=7) ?_);refine tk (v:=.bool false) ?_ hHd ?_;(·(intro wq hSw;go_simp;first|done|simp[cA])))|((with_reducible refine aB (i:=11) ?_);refine tw (v:=.agg #[.int .i64 n0,.bool b]) ?_ hHd ?_;(·exact aA (by rfl) (fun W h=>bZ (hB7.ext h))))|((with_reducible refine aB (i:=13) ?_);refine tw (v:=.int .i64 lB) ?_ hHd ?_;(·(intro wq hSw;go_simp)))|((with_reducible refine aB (i:=15) ?_);refine tw (v:=.int .i64 zn) ?_ hHd ?_;(·exact aA (by rfl) (rl Tryz.underlying3 b41)))|((with_reducible refine aB (i:=16) ?_);refine tw (v:=.bool true) ?_ hHd ?_;(·(intro wq hSw;go_simp;first|done|simp[cB])))|((first|with_reducible refine aB (i:=9) ?_|with_reducible refine aB (i:=10) ?_|with_reducible refine aB (i:=14) ?_);(refine tw (v:= ?_) ?_ hHd ?_;rotate_left;(·(intro wq hSw;(try dsimp only at hSw);go_simp;(try with_reducible rfl)))))|(refine tk (v:= ?_) ?_ hHd ?_;rotate_left;(·(intro wq hSw;(try dsimp only at hSw);go_simp;(try with_reducible rfl))))|refine ts hHd ?_);(try simp only[pS]))|((with_reducible refine bC ?_);refine aQ (by simp only[gS];rfl) ?_)|((with_reducible refine aH (d:=some 127) ?_);((refine bN (by rfl) (cshow _ (hJr.ext hX)) (by go_simp) ?_;rintro e W127 ⟨rfl,hE127⟩;refine⟨_,rfl,?_⟩;replace hX:=hX.trans hE127)))|((with_reducible refine bB ?_);clear hHd;refine aJ ?_ (fun hHd=> ?_);(·assumption);(try simp only[pS]))|(with_reducible refine aG ?_)
           all_goals
            refine⟨rfl,?_⟩;refine bL ?_ ?_
            ·simp only[Act.sets,Act.put,List.foldl_cons,List.foldl_nil,List.setIfInBounds_toArray,List.set_cons_zero,List.set_cons_succ,Act.get];rfl
            exact⟨by rw[hv];rfl,hX⟩
         ·
          have hv:bv=true:=by rw[←Hbv.out];simp[cA]
          refine aR (.take 0 (.take 1 (.take 2 (.take 3 (.take 4 (.take 5 (.take 6 (.take 7 (.take 8 (.take 9 (.take 10 (.take 11 (.take 14 (.take 15 (.one 12 (.take 13 (.take 16 (.take 17 (.take 18 (.take 19 (.take 20 (.take 21 (.take 22 (.take 23 (.take 24 (.take 25 (.take 26 (.take 27 (.take 28 (.take 29 (.take 30 (.take 31 (.take 32 (.take 33 (.take 34 (.take 35 (.take 36 (.take 37 (.take 38 (.take 39 (.take 40 (.take 41 .nil)))))))))))))))))))))))))))))))))))))))))) (fun w'=>Ext W18 w') ?_ (fun hHd=> ?_)
          ·assumption
          repeat' first|((with_reducible refine aB ?_);(first|((with_reducible refine aB (i:=5) ?_);refine tk (v:=.int .i64 sn) ?_ hHd ?_;(·exact aA (by rfl) (rl Tryz.underlying3 j6)))|((with_reducible refine aB (i:=6) ?_);refine tk (v:=.int .i64 lA) ?_ hHd ?_;(·(intro wq hSw;go_simp)))|((with_reducible refine aB (i:=7) ?_);refine tk (v:=.bool true) ?_ hHd ?_;(·(intro wq hSw;go_simp;first|done|simp[cA])))|(refine tk (v:= ?_) ?_ hHd ?_;rotate_left;(·(intro wq hSw;(try dsimp only at hSw);go_simp;(try with_reducible rfl))))|refine ts hHd ?_);(try simp only[pS]))|((with_reducible refine bC ?_);refine aQ (by simp only[gS];rfl) ?_)|((with_reducible refine aH (d:=some 127) ?_);refine dK (by rfl) ?_)|((with_reducible refine bB ?_);clear hHd;refine aJ ?_ (fun hHd=> ?_);(·assumption);(try simp only[pS]))|(with_reducible refine aG ?_)
          all_goals
           refine⟨rfl,?_⟩;refine bL ?_ ?_
           ·simp only[Act.sets,Act.put,List.foldl_cons,List.foldl_nil,List.setIfInBounds_toArray,List.set_cons_zero,List.set_cons_succ,Act.get];rfl
           exact⟨by rw[hv];rfl,hX⟩
        rintro x19 W19 ⟨hx156,hE19⟩;simp only[Act.sets,Act.put,List.foldl_cons,List.foldl_nil,List.setIfInBounds_toArray,List.set_cons_zero,List.set_cons_succ,hx156];replace hN:=hN.ext hE19;replace hJr:=hJr.ext hE19;replace hB7:=hB7.ext hE19;replace hB10:=hB10.ext hE19;replace hB12:=hB12.ext hE19;clear hE19 j6 c130 c131 c100 c101 b41 hA hB hB13;have HT:=Lib.hid (show dU T ((pn:Int),(n:Int))=d from Hd.out.1)
        cases bv
        ·have hnd:=of_decide_eq_false Hbv.out;have hpart:t.PartOf k (n:Int):=by
          have h1:lA=0:=Classical.byContradiction fun h=>hnd (.inl h)
          have h2:=aV.1 HK.out.sh;refine⟨by omega,?_,by rw[Hsn.out,Hl.out.1];exact h1⟩
          have h3:t.sets=2^t.shows.length:=rfl;rw[←h3];have:=Hsn.out;omega
         have hzz:lB=(zn:Int):=Classical.byContradiction fun h=>hnd (.inr (.inl h))
         have hbt:∀d',T (pn:Int) (n:Int)=some d'→¬le2 d' (m1,s1):=by
          intro d' hd' hle;have e:d'=d:=by have:=Hd.out.1;unfold dU at this;rw[hd'] at this;exact this
          subst e;refine hnd (.inr (.inr ⟨?_,hle⟩));rw[←Hd.out.2,hd'];rfl
         have Hbet:=Lib.hid (fun(todo':List (Int×Int))(hm:todo'=if((pn:Int),(n:Int))∈todo then todo else todo++ [((pn:Int),(n:Int))])=>show t.Rnd k (qn:Int) (zn:Int) c i ((n:Int)+1) gk (put T (pn:Int) (n:Int) (m1,s1)) todo' by
          obtain⟨hx,_,he1,_,_,hu,_⟩:=HX.out;have h3:=Hmet.out;have h4:=Hms.out;have h5:=HR.out.better (i:=i) HK.out hi hpart (by rw[hx,hu,Hl.out.2];exact hzz) (todo':=todo')
          rw[hx,he1] at h5;simp only[h3,←h4.1,←h4.2] at h5;exact h5 hbt hm)
         have hlen:=Nat.le_trans HR.out.len (t.stands_bd HK.out.ok);clear hnd hpart hzz hbt HT Hbv Hd HR;go_wp2
         have kj10:=hJr.blk.cell 10;simp at kj10;have kN:=hN.M;apply eF [157,158,159,160,161,162] (fun _ w'=>cD kvI w' gm (eR (put T (pn:Int) (n:Int) (m1,s1)))∧W19.grownBy w' (some gm))
         case h=>
          have kN:cD kvI W19.drew gm (eR T):=cD.ext kN (Ext.todrew (Ext.refl _));have kB12:=hB12.d;have kB10:=hB10.d;refine tJ (.take 0 (.take 1 (.take 2 (.three 3 (.two 4 (.one 5 (.one 6 .nil)) 5 (.one 4 (.one 6 .nil))) 4 (.two 3 (.one 5 (.one 6 .nil)) 5 (.one 3 (.one 6 .nil))) 5 (.two 3 (.one 4 (.one 6 .nil)) 4 (.one 3 (.one 6 .nil))))))) (fun w'=>True) ?_ (fun hHd=> ?_)
          ·exact True.intro
          repeat' first|((with_reducible refine rT ?_);(refine t3k (v:= ?_) ?_ hHd ?_;rotate_left;(·(intro wq hSw;(try dsimp only at hSw);go_simp;(try with_reducible rfl))));(try simp only[pS]))|((with_reducible refine zA ?_);refine tR (by simp only[gS];rfl) ?_)|((with_reducible refine yZ ?_);refine tP (by simp only[gS];rfl) (by simp only[gS];rfl) ?_ ?_)|((with_reducible refine Iv ?_);refine tQ (by simp only[gS];rfl) (by simp only[gS];rfl) (by simp only[gS];rfl) ?_ ?_ ?_)|((with_reducible refine aH (d:=some 160) ?_);(((with_reducible refine aC (d:=some 160) (p:=⟨gj,10,none⟩) (v:=.map (some gm)) ?_ ?_ ?_);rfl;exact aY Tryz.underlying118 rfl kj10)))|((with_reducible refine aH (d:=some 161) ?_);(((with_reducible refine aC (d:=some 161) (hl:=dP kB12) ?_ ?_);rfl)))|((with_reducible refine aH (d:=some 162) ?_);(((with_reducible refine aC (d:=some 162) (hl:=nB kB10) ?_ ?_);rfl)))|((with_reducible refine aH (d:=none) ?_);(((with_reducible refine Ji (T:=T) (p:=pn) (s:=n) (c:=(m1,s1)) kN ?_ ?_ ?_ ?_);rfl;rfl;rfl;intro Wm hMm hgm)))|((with_reducible refine bB ?_);clear hHd;refine pV ?_ (fun hHd=> ?_);(·exact True.intro);(try simp only[pS]))|(with_reducible refine pW ?_)
          all_goals
           refine⟨rfl,?_⟩;refine bL ?_ ?_
           ·simp only[Act.sets,Act.put,List.foldl_cons,List.foldl_nil,List.setIfInBounds_toArray,List.set_cons_zero,List.set_cons_succ,Act.get];rfl
           exact⟨hMm,jX (Ext.todrew (Ext.refl _)) hgm⟩
         rintro x20 W20 ⟨hM20,hg20⟩;simp only[Act.sets,Act.put,List.foldl_cons,List.foldl_nil,List.setIfInBounds_toArray,List.set_cons_zero,List.set_cons_succ,Nat.succ_eq_add_one];replace hB7:=hB7.grown hg20 (fun e=>cD.notblk kN hB7 (Option.some.inj e).symm)
         replace hB10:=hB10.grown hg20 (fun e=>cD.notblk kN hB10 (Option.some.inj e).symm)
         replace hB12:=hB12.grown hg20 (fun e=>cD.notblk kN hB12 (Option.some.inj e).symm)
         replace hN:=hN.upd hM20 hg20;clear hM20 hg20 kN kj10 hJr;have hSt:mJ W20 u3 todo:=hN.O.sl;obtain⟨bm,hbm⟩:∃b,decide (((pn:Int),(n:Int))∈todo)=b:=⟨_,rfl⟩;have ccon:=vK u3 todo ((pn:Int),(n:Int)) W20 hSt;rw[hbm] at ccon;have Hbm:=Lib.hid hbm;clear hbm hSt;go_wp2_with (first|((with_reducible refine aC (d:=some 164) (hl:=dP hB12) ?_ ?_);rfl)|(go_at_call 98;refine ccon.mono ?_;rintro e Wc ⟨rfl,hEc⟩;replace hN:=hN.ext hEc;replace hB7:=hB7.ext hEc;replace hB10:=hB10.ext hEc;replace hB12:=hB12.ext hEc))
         have e166:=h166e.out;subst e166
         cases bm
         ·have HR2:=Lib.hid (Hbet.out _ rfl);rw[if_neg (of_decide_eq_false Hbm.out)] at HR2;have hwB:=hN.G.size;go_wp2_with (first|((with_reducible refine aC (d:=some 168) (hl:=dP hB12) ?_ ?_);rfl)|((with_reducible refine Jl (d:=some 169) (p:=pn) (q:=n) ?_ ?_);rfl;intro W169 g169 hE169 hB169 hg169;replace hN:=hN.ext hE169;replace hB7:=hB7.ext hE169;replace hB10:=hB10.ext hE169)|((with_reducible refine Mi (d:=some 170) (y:=((pn:Int),(n:Int))) ?_ hN.O ?_ hB169 ?_ ?_ ?_);rfl;rfl;omega;exact hN.G.size;intro v' W170 hO170 hg170 hn170;replace hB7:=hB7.grown hg170 (hN.O.blk_ne hB7 (by decide));replace hB10:=hB10.grown hg170 (hN.O.blk_ne hB10 (by decide));replace hN:=hN.app hg170 hO170 hn170))
          exact⟨⟨n+1,_,_,by go_num,by omega,by push_cast;exact HR2.out,hN,hB7,hB10⟩,by simp[intOf];omega⟩
         ·have HR2:=Lib.hid (Hbet.out _ rfl);rw[if_pos (of_decide_eq_true Hbm.out)] at HR2;clear Hbet Hbm;go_wp2
          go_roundw
          case rel=>exact⟨n+1,_,todo,by go_num,by omega,by push_cast;exact HR2.out,hN,hB7,hB10⟩
          case measure=>simp[intOf];omega
        ·have hRn:t.Rnd k (qn:Int) (zn:Int) c i ((n:Int)+1) gk T todo:=by
          have hd:=of_decide_eq_true Hbv.out;obtain⟨hx,_,he1,_,_,hu,_⟩:=HX.out;rcases hd with h1|h1|⟨h1,h2⟩
          ·refine HR.out.noPart hi (fun hp=>h1 ?_)
           rw[←Hl.out.1,←Hsn.out];exact hp.2.2
          ·refine HR.out.noLess hi (fun hp=>h1 ?_)
           rw[hx,hu] at hp;rw[←Hl.out.2];exact hp
          ·have hk1:=Hd.out.2;rw[h1] at hk1;obtain⟨d',hd'⟩:=Option.isSome_iff_exists.1 hk1;have e:d'=d:=by have:=Hd.out.1;unfold dU at this;rw[hd'] at this;exact this
           subst e;refine HR.out.known hi (d:=d') (by rw[hx,he1];exact hd') ?_
           rw[hx];have:=Hms.out;have h3:=Hmet.out;show d'.1<c.1+(t.at_ (n0:Int)).metres∨d'.1=c.1+(t.at_ (n0:Int)).metres∧d'.2≤c.2+1
           rw[h3,←this.1,←this.2];exact h2
         have HR2:=Lib.hid hRn;clear hRn HR Hd HT Hbv;go_wp2
         go_roundw
         case rel=>exact⟨n+1,T,todo,by go_num,by omega,by push_cast;exact HR2.out,hN,hB7,hB10⟩
         case measure=>simp[intOf];omega
       ·have ha0:a1≠0:=by simpa using hbq
        have hRn:=HR.out.cont hi (by rw[HX.out.1,HX.out.2.2.2.2.2.1];simpa [←Ha1.out] using ha0)
        have HR2:=Lib.hid hRn;clear hRn HR;go_wp2
        go_roundw
        case rel=>exact⟨i+1,T,todo,by go_num,by omega,HR2.out,hN⟩
        case measure=>simp[intOf];omega
      ·obtain rfl:n=sn+1:=by omega
       have hRn:=HR.out;rw[show((sn+1:Nat):Int)=k.show_+1 by rw[Hsn.out];push_cast;rfl] at hRn
       have HR2:=Lib.hid (hRn.row HK.out);have hil:=hi;rw[HLL.out] at hil;have z3:¬(((sn+1:Nat):Int)<(sn:Int)+1):=by omega
       clear hRn HR;go_wp2
       go_roundw
       case rel=>exact⟨i+1,T,todo,by go_num,by omega,HR2.out,hN⟩
       case measure=>simp[intOf];omega
    ·obtain rfl:i=L.length:=by omega
     have h:=HR.out;rw[←HLL.out] at h;obtain⟨hs,hms⟩:=h.close;have hN0:=hN;clear hN h HR;have Hs:=Lib.hid hs;have Hms:=Lib.hid hms;clear hs hms;go_wp2
     rw[Exit.noGoto_normal];go_wp2
     go_roundg (t.meas T todo)
     case rel=>exact⟨hN0.G,T,todo,Hs.out,rfl,hN0.M,hN0.O⟩
     case measure=>have:=Hms.out;omega
end Go.St
end
section
namespace Go.St
open Go Go.Bp Go.RowKit Go.Proofs
structure Solved(w W:World)(gj gi gm:Nat)(pv sv tv xv cv:Value)(t:Town)(k:Task):Prop where
 ext:Ext w W
 town:TownP w pv sv tv xv t
 closed:bG w cv k.closed
 blk:Blk W gj 120 #[pv,sv,tv,xv,.int .i64 k.a,.int .i64 k.b,.int .i64 k.show_,.int .i64 k.time,cv,.slice (some ⟨gi,0,none⟩) t.places.length t.places.length,.map (some gm)]
 map:cD kvI W gm (eR (t.cost k))
 hj:w.heap.size≤gj
 hm:w.heap.size≤gm
section
variable{w W W':World}{gj gi gm:Nat}{pv sv tv xv cv:Value}{vs:List Value}{t:Town}{k:Task}
theorem Solved.up(h:Solved w W gj gi gm pv sv tv xv cv t k)(e:Ext W W'):Solved w W' gj gi gm pv sv tv xv cv t k:=
 ⟨h.ext.trans e,h.town,h.closed,h.blk.ext e,cD.ext h.map e,h.hj,h.hm⟩
theorem Solved.grown{row:Option Nat}(h:Solved w W gj gi gm pv sv tv xv cv t k)(hg:W.grownBy W' row)(hr:∀r,row=some r→w.heap.size≤r∧r≠gj∧r≠gm):Solved w W' gj gi gm pv sv tv xv cv t k:=
 ⟨h.ext.grown hg h.ext.size (fun r e=>(hr r e).1),h.town,h.closed,h.blk.grown hg (fun e=>(hr gj e.symm).2.1 rfl),cD.grown h.map hg (fun e=>(hr gm e.symm).2.2 rfl),h.hj,h.hm⟩
theorem Solved.job(h:Solved w W gj gi gm pv sv tv xv cv t k):JobAt W gj pv sv tv xv cv (.slice (some ⟨gi,0,none⟩) t.places.length t.places.length) (.map (some gm)) t k:=⟨h.blk,h.town.ext h.ext,h.closed.ext h.ext⟩
theorem JobQ.ext{B n:Nat}{T:Tab}(h:JobQ W B gj gi gm n pv sv tv xv cv vs T t k)(e:Ext W W'):JobQ W' B gj gi gm n pv sv tv xv cv vs T t k:=⟨h.job.ext e,h.into.ext e,h.len,cD.ext h.map e⟩
theorem JobQ.job0{T:Tab}(hE:Ext w W)(hT:TownP w pv sv tv xv t)(hC:bG w cv k.closed)(hm:w.heap.size≤gm)(h:JobQ W w.heap.size gj gi gm t.places.length pv sv tv xv cv vs T t k):Job0 w W gj gi gm pv sv tv xv cv vs t k:=
 ⟨hE,hT,hC,hm,h.job.blk,h.into,h.len,⟨_,h.map⟩⟩
end
end Go.St
end
section
namespace Go.St
open Go Go.Bp Go.RowKit Go.Proofs
section
variable{w W W':World}{gj gi gm:Nat}{pv sv tv xv cv:Value}{vs:List Value}{t:Town}{k:Task}
theorem sC(hk:Town.TaskOk t k)(hE:Ext w W)(hT:TownP w pv sv tv xv t)(hC:bG w cv k.closed)(hj:w.heap.size≤gj)(hm:w.heap.size≤gm)
 (h:JobQ W w.heap.size gj gi gm t.places.length pv sv tv xv cv vs (fun _ _=>none) t k):
 Calls Tryz.prog 63 #[.pointer (some ⟨gj,0,none⟩)] W (fun e w'=>(∃v,e=.returned v)∧W.grownBy w' (some gm)∧Solved w w' gj gi gm pv sv tv xv cv t k):=by
 have h0:=h.job0 hE hT hC hm;refine(Ci w W gj gi gm pv sv tv xv cv vs t k hk h0 h.map).mono ?_;rintro e W2 ⟨hv,hG,hM⟩;exact⟨hv,hG,hE.grown hG hE.size (fun r e=>by cases e;exact hm),hT,hC,(h0.at_ hG).blk,hM,hj,hm⟩
end
end Go.St
end
