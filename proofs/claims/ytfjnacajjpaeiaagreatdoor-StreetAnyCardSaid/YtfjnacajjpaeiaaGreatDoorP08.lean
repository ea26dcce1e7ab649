/- Chapter 03: contracts of functions of the program and of the reference, and plain laws (out of SP8 SP9 SR16 SR17 SP10 StM SJ1). No condition of its own. -/
import Derived.Test.YtfjnacajjpaeiaaGreatDoorP07
set_option maxRecDepth 100000
set_option linter.all false
section
namespace Go.St
open Go Go.Bp Go.RowKit Go.Proofs
def Tm(w:World)(x:Tour)(e:Ending)(w':World):Prop:=∃v,e=.returned v∧sT w.heap.size w' v x∧Ext w w'
theorem Dq:((List.range 64).all fun a=>(List.range 64).all fun b=>decide (bits .or .i64 (a:Int) (b:Int)=bP (a:Int) (b:Int)))=true:=by decide +kernel
theorem Nz{a b:Int}(h0:0≤a)(h:a<64)(h1:0≤b)(h2:b<64):bits .or .i64 a b=bP a b:=by
 obtain⟨n,rfl⟩:∃n:Nat,a=n:=⟨a.toNat,by omega⟩
 obtain⟨m,rfl⟩:∃m:Nat,b=m:=⟨b.toNat,by omega⟩
 have:=List.all_eq_true.1 (List.all_eq_true.1 Dq n (List.mem_range.2 (by omega))) m (List.mem_range.2 (by omega))
 exact of_decide_eq_true this
theorem Lw{w:World}{g g':Nat}{a b c d e a' b' c' d' e' f' h':Value}(h1:Blk w g 36 #[a,b,c,d,e])(h2:Blk w g' 87 #[a',b',c',d',e',f',h']):g≠g':=by
 rintro rfl;have h:=h1.symm.trans h2;simp at h
set_option maxHeartbeats 8000000 in
theorem wG(tv lv:Value)(t:Town)(time:Int)(l:List Step)(w:World)(h:aM w tv t)(hok:t.Ok)(c2:inB time 0 (t.times.length-1)=true)(hl:bY w lv l)(hle:l.length≤1100)
 (hv:∀x∈l,inB x.st 0 (t.streets.length-1)=true):
 Calls Tryz.prog 59 #[tv,.int .i64 time,lv] w (Tm w (t.tourOf time l)):=by
 obtain⟨pv,shv,tmv,xv,rfl,hT⟩:=h;obtain⟨A1,cp1,rfl,_,hc1,_,_⟩:=hT.places;obtain⟨A2,cp2,rfl,_,hc2,_,_⟩:=hT.shows;obtain⟨A3,cp3,rfl,_,hc3,_,_⟩:=hT.times;obtain⟨A4,cp4,rfl,_,h42,h44⟩:=hT.streets;have hL:=hl;obtain⟨A,c,rfl,h1,h2,h3,h4⟩:=hl;unfold maxLen at h2 h42 hc1 hc2 hc3;clear h3;have hE:=Ext.refl w;have hp2:=hok.p2;have hsh:=hok.sh;have ht2:=hok.t2;have hst:=hok.st;have Hbd:=Lib.hid (Town.to_bd hok hv);have Hsb:=Lib.hid (Town.sh_bd hok c2 hv);have Hsa:=Lib.hid (fun(j:Nat)(hj:j<l.length)=>Town.shownAt_bd hok (hv _ (List.getElem_mem hj)) c2)
 have Hv:=Lib.hid hv;have hset:=(Town.sets_bd hsh).2;have htm:=aV.1 c2;obtain⟨tm,rfl⟩:∃n:Nat,time=n:=⟨time.toNat,by omega⟩
 clear hv;go_enter Tryz.func59,Tryz.ntmps59
 go_wp2_with (first|((with_reducible refine aS (d:=some 6) fW ?_);intro W6 g6 hE6 hB6 hg6;have hg60:=Nat.le_trans hE.size hg6;simp[Value.cells] at hB6;(try replace hE:=hE.trans hE6);(try replace hL:=hL.ext hE6);(try replace hB3:=hB3.ext hE6);(try replace hb3_3:=hE6.c hb3_3);have hs6:=hE.size)|(go_at_call 95;((with_reducible refine(Gz _ l _ (by exact hL) hle).mono ?_);rintro e WcK ⟨vk,rfl,hO,hEcK⟩;(try replace hE:=hE.trans hEcK);(try replace hB6:=hB6.ext hEcK);(try replace hB3:=hB3.ext hEcK);(try replace hb3_3:=hEcK.c hb3_3);obtain⟨Ak,ck,e61,_⟩:=hO.steps;subst e61;replace hO:=hO.base hs6;have hOk:=hO;have hEk:=hE;have hB6k:=hB6;have hB3k:=hB3;have hXk:=Ext.refl WcK))|((with_reducible refine aO (e:=36) (u:=7) (v:=.agg #[.slice Ak l.length ck,.int .i64 0,.int .i64 0,.int .i64 0,.int .i64 0]) fW ?_ ?_ ?_ ?_ ?_ ?_);(intro g;rfl);(intro g;rfl);rfl;rfl;(simp[Value.cells,Value.oneCell']);intro W7 g7 hE7 hB7 hg7;simp[Value.cells] at hB7;(try replace hXk:=hXk.trans hE7);(try replace hb3_3:=hE7.c hb3_3);have hb7_0:=hB7.cell 0;have hb7_1:=hB7.cell 1;have hb7_2:=hB7.cell 2;have hb7_3:=hB7.cell 3;have hb7_4:=hB7.cell 4;simp at hb7_0 hb7_1 hb7_2 hb7_3 hb7_4;clear hE7)|((with_reducible refine aF (d:=some 3) ?_);intro W3 g3 hE3 hB3 hg3;simp[Act.eval,Act.put,Value.cells] at hB3;(try replace hE:=hE.trans hE3);(try replace hL:=hL.ext hE3);have hb3_3:=hB3.cell 3;simp at hb3_3;clear hE3))
 clear hb7_0 hb7_1 hb7_2 hb7_3 hb7_4 hE hT hL hO hB6 hB3;go_loopw [16] (fun i wr=>Ext WcK wr∧∃k:Nat,k≤l.length∧i=.int .i64 k∧Blk wr g7 36 #[.slice Ak l.length ck,.int .i64 (t.mTo l k),.int .i64 (t.loTo l k),.int .i64 (t.hiTo l k),.int .i64 (t.shTo tm l k)]) (fun i _=>l.length-(intOf i).toNat)
 case atStart=>exact⟨hXk,0,by omega,rfl,hB7⟩
 case round=>
  obtain⟨hX,k,hk,rfl,hBr⟩:=hrel;clear hB7 hXk;have hEq:=Ext.trans hEk hX;have hB3r:=hB3k.ext hX;have b3:=hB3r.cell 3;simp at b3;obtain⟨⟨bm0,bm1⟩,⟨bl0,bl1⟩,⟨bh0,bh1⟩⟩:=Hbd.out k hk;obtain⟨bs0,bs1⟩:=Hsb.out k hk;by_cases hlt:k<l.length
  ·obtain⟨ad,rfl,hc⟩:=h4 (by omega)
   obtain⟨⟨st,bk⟩,hx⟩:∃x,l[k]=x:=⟨_,rfl⟩;have Hx:=Lib.hid hx;have hStep:=iM (hc.ext hEq) hlt;have hin:=Hv.out _ (List.getElem_mem hlt);have hsa:=Hsa.out k hlt;have Hm1:=Lib.hid (Town.mTo_succ (t:=t) hlt);have Hl1:=Lib.hid (Town.loTo_succ (t:=t) hlt);have Hh1:=Lib.hid (Town.hiTo_succ (t:=t) hlt);have Hs1:=Lib.hid (Town.shTo_succ (t:=t) (time:=(tm:Int)) hlt);rw[hx] at hStep hin hsa Hm1 Hl1 Hh1 Hs1;obtain⟨n,rfl,hn⟩:=fB hin;have hnlt:n<t.streets.length:=by omega
   obtain⟨ad4,rfl,hc4⟩:=h44 (by omega)
   obtain⟨sv,hs⟩:=hc4 n hnlt;have hso:=hok.at_ hnlt;have hsm:=aV.1 hso.m;have hslo:=aV.1 hso.lo;have hshi:=aV.1 hso.hi;have hsl:=hso.sh;rw[Town.at_eq hnlt] at Hm1 Hl1 Hh1;have hsx:t.shownAt (tm:Int) ⟨(n:Int),bk⟩=t.streets[n].shows.getD tm 0:=by unfold Town.shownAt;rw[Town.at_eq hnlt];simp
   rw[hsx] at hsa Hs1;obtain⟨s,hst'⟩:∃s,t.streets[n]=s:=⟨_,rfl⟩;rw[hst'] at hs hsm hslo hshi hsl hsa Hm1 Hl1 Hh1 Hs1;clear hx hc hc4 hst' hso hsx;have hsq:=hs.ext hEq;obtain⟨hs1,Ai,ci,rfl,i1,i2,i3,i4⟩:=hs;obtain⟨adI,rfl,hcI⟩:=i4 (by omega)
   have html:tm<s.shows.length:=by omega
   have e7w:=hcI.i html;have hsg:s.shows.getD tm 0=s.shows[tm]:=by simp[List.getD,html]
   rw[hsg] at hsa Hs1;unfold maxLen at i2;obtain⟨x,hxx⟩:∃x,s.shows[tm]=x:=⟨_,rfl⟩;rw[hxx] at e7w hsa Hs1;obtain⟨m,hm⟩:∃m,t.mTo l k=m:=⟨_,rfl⟩;obtain⟨lo,hlo⟩:∃m,t.loTo l k=m:=⟨_,rfl⟩;obtain⟨hi,hhi⟩:∃m,t.hiTo l k=m:=⟨_,rfl⟩;obtain⟨sh,hsh'⟩:∃m,t.shTo (tm:Int) l k=m:=⟨_,rfl⟩;rw[hm] at bm0 bm1 hBr Hm1;rw[hlo] at bl0 bl1 hBr Hl1;rw[hhi] at bh0 bh1 hBr Hh1;rw[hsh'] at bs0 bs1 hBr Hs1;clear hsl hm hlo hhi hsh' i1 i3 i4 hcI hs1 h4 h44 hsg hxx hin;have hlt7:=hBr.lt;have hE:=Ext.refl wr;have p1:=hBr.cell 1;simp at p1;have z1:(k:Int)<(l.length:Int):=by omega
   have z2:(n:Int)<(t.streets.length:Int):=by omega
   go_wp2_with (first|(((with_reducible refine aC (d:=some 19) (hl:=hStep) ?_ ?_);rfl))|((with_reducible refine aO (e:=82) (u:=9) (v:=.agg #[.int .i64 (n:Int),.bool bk]) qZ ?_ ?_ ?_ ?_ ?_ ?_);(intro g;rfl);(intro g;rfl);rfl;rfl;(simp[Value.cells,Value.oneCell']);intro W9 g9 hE9 hB9 hg9;simp[Value.cells] at hB9;(try replace hX:=hX.trans hE9);(try replace hBr:=hBr.ext hE9);(try replace hsq:=hsq.ext hE9);(try replace b3:=hE9.c b3);(try replace p1:=hE9.c p1);have hb9_0:=hB9.cell 0;simp at hb9_0;clear hE9)|(((with_reducible refine aC (d:=some 26) (hl:=eA hsq) ?_ ?_);rfl))|((with_reducible refine aO (e:=87) (u:=10) (v:=.agg #[.int .i64 s.a,.int .i64 s.b,.int .i64 s.metres,.int .i64 s.lo,.int .i64 s.hi,.bool s.both,.slice (some adI) s.shows.length ci]) sY ?_ ?_ ?_ ?_ ?_ ?_);(intro g;rfl);(intro g;rfl);rfl;rfl;(simp[Value.cells,Value.oneCell']);intro W10 g10 hE10 hB10 hg10;simp[Value.cells] at hB10;(try replace hX:=hX.trans hE10);(try replace hBr:=hBr.ext hE10);(try replace p1:=hE10.c p1);have hb10_2:=hB10.cell 2;simp at hb10_2;clear hE10)|(((with_reducible refine aT (t:=3) (e:=36) (g:=g7) (off:=1) (v:=.int .i64 (m+s.metres)) ?_ ?_ hBr jN ?_ ?_ ?_ ?_);rfl;rfl;rfl;simp;rfl;intro Wa hBa hgra;simp at hBa;have n710:g7≠g10:=Lw hBr hB10;have hSa:=hB10.grown hgra (fun e=>n710 (Option.some.inj e).symm);have hXa:=bI hX hgra hg7 hX.size;have p2:=hBa.cell 2;have r3:=hSa.cell 3;simp at p2 r3))|(((with_reducible refine aT (t:=3) (e:=36) (g:=g7) (off:=2) (v:=.int .i64 (lo+s.lo)) ?_ ?_ hBa jN ?_ ?_ ?_ ?_);rfl;rfl;rfl;simp;rfl;intro Wb hBb hgrb;simp at hBb;have hSb:=hSa.grown hgrb (fun e=>n710 (Option.some.inj e).symm);have hXb:=bI hXa hgrb hg7 hXa.size;have p3:=hBb.cell 3;have r4:=hSb.cell 4;simp at p3 r4))|(((with_reducible refine aT (t:=3) (e:=36) (g:=g7) (off:=3) (v:=.int .i64 (hi+s.hi)) ?_ ?_ hBb jN ?_ ?_ ?_ ?_);rfl;rfl;rfl;simp;rfl;intro Wc hBc hgrc;simp at hBc;have hSc:=hSb.grown hgrc (fun e=>n710 (Option.some.inj e).symm);have hXc:=bI hXb hgrc hg7 hXb.size)))
   have r6:=hSc.cell 6;simp at r6;have e8:Wc.cell? (adI.add tm)=some (.int .i64 x):=Ext.cell_some (Ext.trans hEk hXc) e7w;have hBcd:=hBc.d;refine aR (.take 0 (.take 2 (.take 3 (.take 4 (.take 5 (.take 6 (.one 1 (.take 7 (.take 8 (.one 9 .nil)))))))))) (fun w'=>w'.cell? ⟨g10,6,none⟩=some (.slice (some adI) s.shows.length ci)∧w'.cell? (adI.add tm)=some (.int .i64 x)) ?_ (fun hHd=> ?_)
   ·(first|exact True.intro|((try dsimp only);(repeat' apply And.intro)<;>first|assumption|(refine Ext.cell_some (Ext.todrew (Ext.refl _)) ?_;assumption)))
   repeat' first|((with_reducible refine aB ?_);(first|((with_reducible refine aB (i:=7) ?_);refine tk (v:=.int .i64 (bP sh x)) ?_ hHd ?_;(·(intro wq hSw;go_simp;exact Nz bs0 (by omega) hsa.1 (by omega))))|(refine tk (v:= ?_) ?_ hHd ?_;rotate_left;(·(intro wq hSw;(try dsimp only at hSw);go_simp;(try with_reducible rfl)))));(try simp only[pS]))|((with_reducible refine bC ?_);refine aQ (by simp only[gS];rfl) ?_)|((with_reducible refine aH (d:=some 52) ?_);(((with_reducible refine aC (d:=some 52) (p:=⟨g7,4,none⟩) (v:=.int .i64 sh) ?_ ?_ ?_);rfl;exact aY Tryz.underlying3 rfl (by simpa using hBcd.cell 4))))|((with_reducible refine aH (d:=none) ?_);(((with_reducible refine aT (t:=3) (e:=36) (g:=g7) (off:=4) (v:=.int .i64 (bP sh x)) ?_ ?_ hBcd jN ?_ ?_ ?_ ?_);rfl;rfl;rfl;simp;rfl;intro Wd hBd hgrd;simp at hBd;have hXd:=bI (Ext.todrew hXc) hgrd hg7 (Ext.todrew hXc).size;have r6d:=(Blk.cell (hSc.d.grown hgrd (fun e=>n710 (Option.some.inj e).symm)) 6);simp at r6d;have e8d:Wd.cell? (adI.add tm)=some (.int .i64 x):=Ext.cell_some (Ext.trans hEk hXd) e7w)))|((with_reducible refine bB ?_);clear hHd;refine aJ ?_ (fun hHd=> ?_);(·(first|exact True.intro|((try dsimp only);(repeat' apply And.intro)<;>first|assumption|(refine Ext.cell_some (Ext.todrew (Ext.refl _)) ?_;assumption))));(try simp only[pS]))|(with_reducible refine aG ?_)
   go_wp2
   go_roundw
   case rel=>exact⟨hXd,k+1,by omega,by go_num,by rw[Hm1.out,Hl1.out,Hh1.out,Hs1.out];exact hBd⟩
   case measure=>simp[intOf];omega
  ·obtain rfl:k=l.length:=by omega
   have hB6r:=hB6k.ext hX;have n76:g7≠g6:=by have:=hB6k.lt;omega
   go_wp2_with (first|((with_reducible refine aC (d:=some 61) (hl:=bT hBr) ?_ ?_);rfl)|((with_reducible refine aK (t:=36) (e:=36) (g:=g6) (off:=0) (n:=5) (v:=.agg #[.slice Ak l.length ck,.int .i64 (t.mTo l l.length),.int .i64 (t.loTo l l.length),.int .i64 (t.hiTo l l.length),.int .i64 (t.shTo tm l l.length)]) ?_ ?_ hB6r cW ?_ ?_ ?_ ?_);rfl;rfl;rfl;(simp[Value.cells]);(exact mB rfl);intro Ws hBs hgrs;simp[aI,Value.cells] at hBs))
   have hOs:=fM (aX.ext hOk hX) hgrs (kY (aX.ext hOk hX) hB6r (.inl (by decide)))
   have hEs:=bI hEq hgrs hg60 hEq.size;refine tU rfl rfl rfl (bT hBs) ?_;exact⟨_,rfl,⟨_,by rw[Town.tourOf_to],hOs⟩,hEs⟩
end Go.St
end
section
namespace Go.St
open Go Go.Bp Go.RowKit Go.Proofs
set_option maxHeartbeats 8000000 in
theorem vF(tv lv:Value)(t:Town)(a time:Int)(l:List Step)(w:World)(h:aM w tv t)(hl:bY w lv l):
 Calls Tryz.prog 20 #[tv,.int .i64 a,.int .i64 time,lv] w (Ln w (t.driveAns a time l).1 (t.driveAns a time l).2.1 (t.driveAns a time l).2.2):=by
 have hT0:=h;obtain⟨pv,shv,tmv,xv,rfl,hT⟩:=h;obtain⟨A1,cp1,rfl,_,hc1,_,_⟩:=hT.places;obtain⟨A2,cp2,rfl,_,hc2,_,_⟩:=hT.shows;obtain⟨A3,cp3,rfl,_,hc3,_,_⟩:=hT.times;obtain⟨A4,cp4,rfl,_,h42,_⟩:=hT.streets;have hL:=hl;clear hT hl;unfold maxLen at h42 hc1 hc2 hc3;have hE:=Ext.refl w;by_cases hce:t.check.2.2=0
 ·have Hce:=Lib.hid hce;have hok:=Town.ok_of hce;have hp2:=hok.p2;have hsh:=hok.sh;have ht2:=hok.t2;have hst:=hok.st
  cases c1:inB a 0 (t.places.length-1) with
  |false=>
   have Hoe:=Lib.hid (show t.openErr [a]=4 by unfold Town.openErr;rw[if_neg (by simp[hce]),fU,c1];rfl)
   clear hce;rw[Town.driveAns_4 Hce.out (.inl c1)];go_enter Tryz.func20,Tryz.ntmps20
   go_wp2_with (first|((with_reducible refine aS (d:=some 8) fW ?_);intro W8 g8 hE8 hB8 hg8;have hg80:=Nat.le_trans hE.size hg8;simp[Value.cells] at hB8;(try replace hE:=hE.trans hE8);(try replace hT0:=hT0.ext hE8);(try replace hL:=hL.ext hE8);(try replace hB4:=hB4.ext hE8))|(((with_reducible refine aC (d:=some 13) (hl:=aL hB4) ?_ ?_);rfl))|((with_reducible refine eB (d:=some 15) (n0:=a) ?_ ?_);rfl;intro W15 g15 hE15 hB15 hg15;(try replace hE:=hE.trans hE15);(try replace hT0:=hT0.ext hE15);(try replace hL:=hL.ext hE15);(try replace hB8:=hB8.ext hE15);have hI15:bG W15 (.slice (some ⟨g15,0,none⟩) 1 1) [a]:=aU hB15;clear hB15 hg15 hE15)|(go_at_call 57;((with_reducible refine(cV _ _ t [a] _ (by exact hT0) (by exact hI15)).mono ?_);rintro e WcP ⟨rfl,hEcP⟩;(try replace hE:=hE.trans hEcP);(try replace hT0:=hT0.ext hEcP);(try replace hL:=hL.ext hEcP);(try replace hB8:=hB8.ext hEcP);rw[Hoe.out]))|((with_reducible refine aO (e:=90) (u:=11) (v:=.agg #[.slice A1 t.places.length cp1,.slice A2 t.shows.length cp2,.slice A3 t.times.length cp3,.slice A4 t.streets.length cp4]) iD ?_ ?_ ?_ ?_ ?_ ?_);(intro g;rfl);(intro g;rfl);rfl;rfl;(simp[Value.cells,Value.oneCell']);intro W11 g11 hE11 hB11 hg11;simp[Value.cells] at hB11;(try replace hE:=hE.trans hE11);(try replace hT0:=hT0.ext hE11);(try replace hL:=hL.ext hE11);(try replace hB8:=hB8.ext hE11);have hb11_2:=hB11.cell 2;simp at hb11_2;clear hE11)|(((with_reducible refine aC (d:=some 22) (hl:=bT hB8) ?_ ?_);rfl))|(((with_reducible refine aK (t:=36) (e:=36) (g:=g8) (off:=0) (n:=5) (v:=.agg #[.slice none 0 0,.int .i64 0,.int .i64 0,.int .i64 0,.int .i64 0]) ?_ ?_ hB8 cW ?_ ?_ ?_ ?_);rfl;rfl;rfl;(simp[Value.cells]);(exact mB rfl);intro Ws hBs hgrs;simp[aI,Value.cells] at hBs;replace hE:=aD hE hgrs hg80))|((with_reducible refine aF (d:=some 4) ?_);intro W4 g4 hE4 hB4 hg4;simp[Act.eval,Act.put,Value.cells] at hB4;(try replace hE:=hE.trans hE4);(try replace hT0:=hT0.ext hE4);(try replace hL:=hL.ext hE4);clear hE4))
   refine iK rfl rfl rfl (bT hBs) ?_;exact⟨_,rfl,⟨_,rfl,aX.nil _ _⟩,hE⟩
  |true=>
   have Hoe:=Lib.hid (show t.openErr [a]=0 by unfold Town.openErr;rw[if_neg (by simp[hce]),fU,c1];rfl)
   clear hce
   cases c2:inB time 0 (t.times.length-1) with
   |false=>
    have m2:eC 0 ((t.times.length:Int)-1) [time]=true:=by rw[fU,c2];rfl
    rw[Town.driveAns_4 Hce.out (.inr c2)];go_enter Tryz.func20,Tryz.ntmps20
    go_wp2_with (first|((with_reducible refine aS (d:=some 8) fW ?_);intro W8 g8 hE8 hB8 hg8;have hg80:=Nat.le_trans hE.size hg8;simp[Value.cells] at hB8;(try replace hE:=hE.trans hE8);(try replace hT0:=hT0.ext hE8);(try replace hL:=hL.ext hE8);(try replace hB4:=hB4.ext hE8))|(((with_reducible refine aC (d:=some 13) (hl:=aL hB4) ?_ ?_);rfl))|((with_reducible refine eB (d:=some 15) (n0:=a) ?_ ?_);rfl;intro W15 g15 hE15 hB15 hg15;(try replace hE:=hE.trans hE15);(try replace hT0:=hT0.ext hE15);(try replace hL:=hL.ext hE15);(try replace hB8:=hB8.ext hE15);have hI15:bG W15 (.slice (some ⟨g15,0,none⟩) 1 1) [a]:=aU hB15;clear hB15 hg15 hE15)|(go_at_call 57;((with_reducible refine(cV _ _ t [a] _ (by exact hT0) (by exact hI15)).mono ?_);rintro e WcP ⟨rfl,hEcP⟩;(try replace hE:=hE.trans hEcP);(try replace hT0:=hT0.ext hEcP);(try replace hL:=hL.ext hEcP);(try replace hB8:=hB8.ext hEcP);rw[Hoe.out]))|((with_reducible refine aO (e:=90) (u:=11) (v:=.agg #[.slice A1 t.places.length cp1,.slice A2 t.shows.length cp2,.slice A3 t.times.length cp3,.slice A4 t.streets.length cp4]) iD ?_ ?_ ?_ ?_ ?_ ?_);(intro g;rfl);(intro g;rfl);rfl;rfl;(simp[Value.cells,Value.oneCell']);intro W11 g11 hE11 hB11 hg11;simp[Value.cells] at hB11;(try replace hE:=hE.trans hE11);(try replace hT0:=hT0.ext hE11);(try replace hL:=hL.ext hE11);(try replace hB8:=hB8.ext hE11);have hb11_2:=hB11.cell 2;simp at hb11_2;clear hE11)|((with_reducible refine eB (d:=some 31) (n0:=time) ?_ ?_);rfl;intro W31 g31 hE31 hB31 hg31;(try replace hE:=hE.trans hE31);(try replace hT0:=hT0.ext hE31);(try replace hL:=hL.ext hE31);(try replace hB8:=hB8.ext hE31);(try replace hB11:=hB11.ext hE31);have hI31:bG W31 (.slice (some ⟨g31,0,none⟩) 1 1) [time]:=aU hB31;clear hB31 hg31 hE31)|(go_at_call 46;((with_reducible refine((bS (by exact hI31) m2)).mono ?_);rintro e WcO ⟨rfl,hEcO⟩;(try replace hE:=hE.trans hEcO);(try replace hT0:=hT0.ext hEcO);(try replace hL:=hL.ext hEcO);(try replace hB8:=hB8.ext hEcO);(try replace hB11:=hB11.ext hEcO)))|(((with_reducible refine aC (d:=some 33) (hl:=bT hB8) ?_ ?_);rfl))|(((with_reducible refine aK (t:=36) (e:=36) (g:=g8) (off:=0) (n:=5) (v:=.agg #[.slice none 0 0,.int .i64 0,.int .i64 0,.int .i64 0,.int .i64 0]) ?_ ?_ hB8 cW ?_ ?_ ?_ ?_);rfl;rfl;rfl;(simp[Value.cells]);(exact mB rfl);intro Ws hBs hgrs;simp[aI,Value.cells] at hBs;replace hE:=aD hE hgrs hg80))|((with_reducible refine aF (d:=some 4) ?_);intro W4 g4 hE4 hB4 hg4;simp[Act.eval,Act.put,Value.cells] at hB4;(try replace hE:=hE.trans hE4);(try replace hT0:=hT0.ext hE4);(try replace hL:=hL.ext hE4);clear hE4))
    refine iK rfl rfl rfl (bT hBs) ?_;exact⟨_,rfl,⟨_,rfl,aX.nil _ _⟩,hE⟩
   |true=>
    have m2:eC 0 ((t.times.length:Int)-1) [time]=false:=by rw[fU,c2];rfl
    by_cases hse:(t.stepsErr a l).2=0
    ·rw[Town.driveAns_0 Hce.out c1 c2 hse];obtain⟨hl11,hfo⟩:=Town.stepsErr_follow hse;have hv:=Town.follow_st l a hfo;have Hse:=Lib.hid hse;clear hfo hse;go_enter Tryz.func20,Tryz.ntmps20
     go_wp2_with (first|((with_reducible refine aS (d:=some 8) fW ?_);intro W8 g8 hE8 hB8 hg8;have hg80:=Nat.le_trans hE.size hg8;simp[Value.cells] at hB8;(try replace hE:=hE.trans hE8);(try replace hT0:=hT0.ext hE8);(try replace hL:=hL.ext hE8);(try replace hB4:=hB4.ext hE8))|(((with_reducible refine aC (d:=some 13) (hl:=aL hB4) ?_ ?_);rfl))|((with_reducible refine eB (d:=some 15) (n0:=a) ?_ ?_);rfl;intro W15 g15 hE15 hB15 hg15;(try replace hE:=hE.trans hE15);(try replace hT0:=hT0.ext hE15);(try replace hL:=hL.ext hE15);(try replace hB8:=hB8.ext hE15);have hI15:bG W15 (.slice (some ⟨g15,0,none⟩) 1 1) [a]:=aU hB15;clear hB15 hg15 hE15)|(go_at_call 57;((with_reducible refine(cV _ _ t [a] _ (by exact hT0) (by exact hI15)).mono ?_);rintro e WcP ⟨rfl,hEcP⟩;(try replace hE:=hE.trans hEcP);(try replace hT0:=hT0.ext hEcP);(try replace hL:=hL.ext hEcP);(try replace hB8:=hB8.ext hEcP);rw[Hoe.out]))|((with_reducible refine aO (e:=90) (u:=11) (v:=.agg #[.slice A1 t.places.length cp1,.slice A2 t.shows.length cp2,.slice A3 t.times.length cp3,.slice A4 t.streets.length cp4]) iD ?_ ?_ ?_ ?_ ?_ ?_);(intro g;rfl);(intro g;rfl);rfl;rfl;(simp[Value.cells,Value.oneCell']);intro W11 g11 hE11 hB11 hg11;simp[Value.cells] at hB11;(try replace hE:=hE.trans hE11);(try replace hT0:=hT0.ext hE11);(try replace hL:=hL.ext hE11);(try replace hB8:=hB8.ext hE11);have hb11_2:=hB11.cell 2;simp at hb11_2;clear hE11)|((with_reducible refine eB (d:=some 31) (n0:=time) ?_ ?_);rfl;intro W31 g31 hE31 hB31 hg31;(try replace hE:=hE.trans hE31);(try replace hT0:=hT0.ext hE31);(try replace hL:=hL.ext hE31);(try replace hB8:=hB8.ext hE31);(try replace hB11:=hB11.ext hE31);have hI31:bG W31 (.slice (some ⟨g31,0,none⟩) 1 1) [time]:=aU hB31;clear hB31 hg31 hE31)|(go_at_call 46;((with_reducible refine((bS (by exact hI31) m2)).mono ?_);rintro e WcO ⟨rfl,hEcO⟩;(try replace hE:=hE.trans hEcO);(try replace hT0:=hT0.ext hEcO);(try replace hL:=hL.ext hEcO);(try replace hB8:=hB8.ext hEcO);(try replace hB11:=hB11.ext hEcO)))|(((with_reducible refine aC (d:=some 35) (hl:=bJ hB11) ?_ ?_);rfl))|(go_at_call 58;((with_reducible refine(kI _ _ t a l _ (by exact hT0) hok (by exact hL)).mono ?_);rintro e WcF ⟨rfl,hEcF⟩;(try replace hE:=hE.trans hEcF);(try replace hT0:=hT0.ext hEcF);(try replace hL:=hL.ext hEcF);(try replace hB8:=hB8.ext hEcF);(try replace hB11:=hB11.ext hEcF);rw[Hse.out];have hsF:=hE.size))|(((with_reducible refine aC (d:=some 45) (hl:=bJ hB11) ?_ ?_);rfl))|(go_at_call 59;((with_reducible refine(wG _ _ t time l _ (by exact hT0) hok c2 (by exact hL) hl11 hv).mono ?_);rintro e WcT ⟨vt,rfl,hTo,hEcT⟩;(try replace hE:=hE.trans hEcT);(try replace hB8:=hB8.ext hEcT);obtain⟨sv,rfl,hO⟩:=hTo;replace hO:=hO.base hsF;obtain⟨Ak,ck,e61,_⟩:=hO.steps;subst e61))|(((with_reducible refine aK (t:=36) (e:=36) (g:=g8) (off:=0) (n:=5) (v:=.agg #[.slice Ak (t.tourOf time l).steps.length ck,.int .i64 (t.tourOf time l).metres,.int .i64 (t.tourOf time l).lo,.int .i64 (t.tourOf time l).hi,.int .i64 (t.tourOf time l).shown]) ?_ ?_ hB8 cW ?_ ?_ ?_ ?_);rfl;rfl;rfl;(simp[Value.cells]);(exact mB rfl);intro Ws hBs hgrs;simp[aI,Value.cells] at hBs))|((with_reducible refine aF (d:=some 4) ?_);intro W4 g4 hE4 hB4 hg4;simp[Act.eval,Act.put,Value.cells] at hB4;(try replace hE:=hE.trans hE4);(try replace hT0:=hT0.ext hE4);(try replace hL:=hL.ext hE4);clear hE4))
     have hOs:=fM hO hgrs (kY hO hB8 (.inl (by decide)))
     have hEs:=aD hE hgrs hg80;refine iK rfl rfl rfl (bT hBs) ?_;exact⟨_,rfl,⟨_,rfl,hOs⟩,hEs⟩
    ·have q1:((t.stepsErr a l).2 !=0)=true:=by simp[hse]
     rw[Town.driveAns_s Hce.out c1 c2 hse];clear hse;go_enter Tryz.func20,Tryz.ntmps20
     go_wp2_with (first|((with_reducible refine aS (d:=some 8) fW ?_);intro W8 g8 hE8 hB8 hg8;have hg80:=Nat.le_trans hE.size hg8;simp[Value.cells] at hB8;(try replace hE:=hE.trans hE8);(try replace hT0:=hT0.ext hE8);(try replace hL:=hL.ext hE8);(try replace hB4:=hB4.ext hE8))|(((with_reducible refine aC (d:=some 13) (hl:=aL hB4) ?_ ?_);rfl))|((with_reducible refine eB (d:=some 15) (n0:=a) ?_ ?_);rfl;intro W15 g15 hE15 hB15 hg15;(try replace hE:=hE.trans hE15);(try replace hT0:=hT0.ext hE15);(try replace hL:=hL.ext hE15);(try replace hB8:=hB8.ext hE15);have hI15:bG W15 (.slice (some ⟨g15,0,none⟩) 1 1) [a]:=aU hB15;clear hB15 hg15 hE15)|(go_at_call 57;((with_reducible refine(cV _ _ t [a] _ (by exact hT0) (by exact hI15)).mono ?_);rintro e WcP ⟨rfl,hEcP⟩;(try replace hE:=hE.trans hEcP);(try replace hT0:=hT0.ext hEcP);(try replace hL:=hL.ext hEcP);(try replace hB8:=hB8.ext hEcP);rw[Hoe.out]))|((with_reducible refine aO (e:=90) (u:=11) (v:=.agg #[.slice A1 t.places.length cp1,.slice A2 t.shows.length cp2,.slice A3 t.times.length cp3,.slice A4 t.streets.length cp4]) iD ?_ ?_ ?_ ?_ ?_ ?_);(intro g;rfl);(intro g;rfl);rfl;rfl;(simp[Value.cells,Value.oneCell']);intro W11 g11 hE11 hB11 hg11;simp[Value.cells] at hB11;(try replace hE:=hE.trans hE11);(try replace hT0:=hT0.ext hE11);(try replace hL:=hL.ext hE11);(try replace hB8:=hB8.ext hE11);have hb11_2:=hB11.cell 2;simp at hb11_2;clear hE11)|((with_reducible refine eB (d:=some 31) (n0:=time) ?_ ?_);rfl;intro W31 g31 hE31 hB31 hg31;(try replace hE:=hE.trans hE31);(try replace hT0:=hT0.ext hE31);(try replace hL:=hL.ext hE31);(try replace hB8:=hB8.ext hE31);(try replace hB11:=hB11.ext hE31);have hI31:bG W31 (.slice (some ⟨g31,0,none⟩) 1 1) [time]:=aU hB31;clear hB31 hg31 hE31)|(go_at_call 46;((with_reducible refine((bS (by exact hI31) m2)).mono ?_);rintro e WcO ⟨rfl,hEcO⟩;(try replace hE:=hE.trans hEcO);(try replace hT0:=hT0.ext hEcO);(try replace hL:=hL.ext hEcO);(try replace hB8:=hB8.ext hEcO);(try replace hB11:=hB11.ext hEcO)))|(((with_reducible refine aC (d:=some 35) (hl:=bJ hB11) ?_ ?_);rfl))|(go_at_call 58;((with_reducible refine(kI _ _ t a l _ (by exact hT0) hok (by exact hL)).mono ?_);rintro e WcF ⟨rfl,hEcF⟩;(try replace hE:=hE.trans hEcF);(try replace hT0:=hT0.ext hEcF);(try replace hL:=hL.ext hEcF);(try replace hB8:=hB8.ext hEcF);(try replace hB11:=hB11.ext hEcF)))|(((with_reducible refine aC (d:=some 43) (hl:=bT hB8) ?_ ?_);rfl))|(((with_reducible refine aK (t:=36) (e:=36) (g:=g8) (off:=0) (n:=5) (v:=.agg #[.slice none 0 0,.int .i64 0,.int .i64 0,.int .i64 0,.int .i64 0]) ?_ ?_ hB8 cW ?_ ?_ ?_ ?_);rfl;rfl;rfl;(simp[Value.cells]);(exact mB rfl);intro Ws hBs hgrs;simp[aI,Value.cells] at hBs;replace hE:=aD hE hgrs hg80))|((with_reducible refine aF (d:=some 4) ?_);intro W4 g4 hE4 hB4 hg4;simp[Act.eval,Act.put,Value.cells] at hB4;(try replace hE:=hE.trans hE4);(try replace hT0:=hT0.ext hE4);(try replace hL:=hL.ext hE4);clear hE4))
     refine iK rfl rfl rfl (bT hBs) ?_;exact⟨_,rfl,⟨_,rfl,aX.nil _ _⟩,hE⟩
 ·have Hoe:=Lib.hid (show t.openErr [a]=t.check.2.2 by unfold Town.openErr;rw[if_pos hce])
  rw[Town.driveAns_c hce];have q1:(t.check.2.2 !=0)=true:=by simp[hce]
  clear hce;go_enter Tryz.func20,Tryz.ntmps20
  go_wp2_with (first|((with_reducible refine aS (d:=some 8) fW ?_);intro W8 g8 hE8 hB8 hg8;have hg80:=Nat.le_trans hE.size hg8;simp[Value.cells] at hB8;(try replace hE:=hE.trans hE8);(try replace hT0:=hT0.ext hE8);(try replace hL:=hL.ext hE8);(try replace hB4:=hB4.ext hE8))|(((with_reducible refine aC (d:=some 13) (hl:=aL hB4) ?_ ?_);rfl))|((with_reducible refine eB (d:=some 15) (n0:=a) ?_ ?_);rfl;intro W15 g15 hE15 hB15 hg15;(try replace hE:=hE.trans hE15);(try replace hT0:=hT0.ext hE15);(try replace hL:=hL.ext hE15);(try replace hB8:=hB8.ext hE15);have hI15:bG W15 (.slice (some ⟨g15,0,none⟩) 1 1) [a]:=aU hB15;clear hB15 hg15 hE15)|(go_at_call 57;((with_reducible refine(cV _ _ t [a] _ (by exact hT0) (by exact hI15)).mono ?_);rintro e WcP ⟨rfl,hEcP⟩;(try replace hE:=hE.trans hEcP);(try replace hT0:=hT0.ext hEcP);(try replace hL:=hL.ext hEcP);(try replace hB8:=hB8.ext hEcP);rw[Hoe.out]))|((with_reducible refine aO (e:=90) (u:=11) (v:=.agg #[.slice A1 t.places.length cp1,.slice A2 t.shows.length cp2,.slice A3 t.times.length cp3,.slice A4 t.streets.length cp4]) iD ?_ ?_ ?_ ?_ ?_ ?_);(intro g;rfl);(intro g;rfl);rfl;rfl;(simp[Value.cells,Value.oneCell']);intro W11 g11 hE11 hB11 hg11;simp[Value.cells] at hB11;(try replace hE:=hE.trans hE11);(try replace hT0:=hT0.ext hE11);(try replace hL:=hL.ext hE11);(try replace hB8:=hB8.ext hE11);have hb11_2:=hB11.cell 2;simp at hb11_2;clear hE11)|(((with_reducible refine aC (d:=some 22) (hl:=bT hB8) ?_ ?_);rfl))|(((with_reducible refine aK (t:=36) (e:=36) (g:=g8) (off:=0) (n:=5) (v:=.agg #[.slice none 0 0,.int .i64 0,.int .i64 0,.int .i64 0,.int .i64 0]) ?_ ?_ hB8 cW ?_ ?_ ?_ ?_);rfl;rfl;rfl;(simp[Value.cells]);(exact mB rfl);intro Ws hBs hgrs;simp[aI,Value.cells] at hBs;replace hE:=aD hE hgrs hg80))|((with_reducible refine aF (d:=some 4) ?_);intro W4 g4 hE4 hB4 hg4;simp[Act.eval,Act.put,Value.cells] at hB4;(try replace hE:=hE.trans hE4);(try replace hT0:=hT0.ext hE4);(try replace hL:=hL.ext hE4);clear hE4))
  refine iK rfl rfl rfl (bT hBs) ?_;exact⟨_,rfl,⟨_,rfl,aX.nil _ _⟩,hE⟩
end Go.St
end
section
namespace Go.St
open Go Go.Bp Go.RowKit Go.Proofs
theorem Sn:(Tryz.prog.info? 34).map (fun i=>(i.zero,i.size,i.bytes))=some (some (.agg #[.int .i64 0,.int .i64 0]),2,16):=by kernel_rfl
theorem rA:(Tryz.prog.info? 34).map TypeInfo.size=some 2:=by kernel_rfl
theorem Kf{w:World}{g:Nat}{a b:Value}(h:Blk w g 34 #[a,b]):(loadVar 34 ⟨g,0,none⟩).run Tryz.prog w=.ok (.agg #[a,b]) w:=kZ Tryz.underlying34 rA h rfl
theorem zG(lo hi:Int)(w:World):Calls Tryz.prog 45 #[.int .i64 lo,.int .i64 hi] w (fun e w'=>e=.returned (.agg #[.int .i64 lo,.int .i64 hi])∧Ext w w'):=by
 have hE:=Ext.refl w;go_enter Tryz.func45,Tryz.ntmps45
 go_wp2_with (first|((with_reducible refine aS (d:=some 4) Sn ?_);intro W4 g4 hE4 hB4 hg4;have hg40:=Nat.le_trans hE.size hg4;simp[Value.cells] at hB4;(try replace hE:=hE.trans hE4))|(((with_reducible refine aK (t:=34) (e:=34) (g:=g4) (off:=0) (n:=2) (v:=.agg #[.int .i64 lo,.int .i64 hi]) ?_ ?_ hB4 rA ?_ ?_ ?_ ?_);rfl;rfl;rfl;(simp[Value.cells]);(simp[Value.cells,Value.oneCell']);intro Ws hBs hgrs;simp[aI,Value.cells] at hBs;replace hE:=aD hE hgrs hg40)))
 refine tU rfl rfl rfl (Kf hBs) ?_;exact⟨rfl,hE⟩
def fP(l:List Int):List Step:=l.map fun n=>⟨n,false⟩
theorem xR(l:List Int){k:Nat}(hk:k<l.length):fP (l.take (k+1))=fP (l.take k)++ [⟨l[k],false⟩]:=by
 unfold fP;rw[cI _ hk,List.map_append];rfl
set_option maxHeartbeats 2000000 in
theorem yC(lv:Value)(l:List Int)(w:World)(h:bG w lv l)(hle:l.length≤1100):Calls Tryz.prog 36 #[lv] w (Pe w (fP l)):=by
 obtain⟨A,c,rfl,h1,h2,h3,h4⟩:=h;unfold maxLen at h2;clear h3;go_enter Tryz.func36,Tryz.ntmps36
 go_wp2
 go_loopw [3,4] (fun v i wr=>Ext w wr∧∃k:Nat,k≤l.length∧i=.int .i64 k∧aX w.heap.size wr v (fP (l.take k))) (fun _ i _=>l.length-(intOf i).toNat)
 case atStart=>exact⟨Ext.refl _,0,by omega,rfl,aX.nil _ _⟩
 case round=>
  obtain⟨hEr,k,hk,rfl,hO⟩:=hrel;by_cases hlt:k<l.length
  ·obtain⟨ad,rfl,hc⟩:=h4 (by omega)
   have e1:=(hc.ext hEr).i hlt;have Ht:=Lib.hid (xR l hlt);have hlen:(fP (l.take k)).length≤1000000000:=by unfold fP;simp;omega
   clear h4 hc;obtain⟨n,hn⟩:∃n,l[k]=n:=⟨_,rfl⟩;rw[hn] at e1 Ht;obtain⟨xs,hxs⟩:∃xs,fP (l.take k)=xs:=⟨_,rfl⟩;rw[hxs] at hO hlen Ht;clear hn hxs;have z1:(k:Int)<(l.length:Int):=by omega
   go_wp2_with (first|((with_reducible refine kU (d:=some 17) (p:=n) (q:=false) ?_ ?_);rfl;intro W20 g20 hE20 hB20 hg20;replace hEr:=hEr.trans hE20;replace hO:=hO.ext hE20)|((with_reducible refine iV (d:=some 18) (y:=⟨n,false⟩) ?_ hO ?_ hB20 ?_ ?_ ?_);rfl;rfl;exact hlen;exact hEr.size;intro A21 c21 W21 hO21 hm21 hg21;replace hEr:=hm21 _ hEr))
   go_roundw
   case rel=>exact⟨hEr,k+1,by omega,by go_num,by rw[Ht.out];exact hO21⟩
   case measure=>simp[intOf];omega
  ·obtain rfl:k=l.length:=by omega
   rw[List.take_length] at hO;clear h4;go_wp2
   go_ret
   exact⟨_,rfl,hO,hEr⟩
def jY:List Step:=[⟨0,false⟩,⟨0,true⟩,⟨2,false⟩]
theorem Rv(w:World):(Instr.buildSlice 32 3 #[(0,.agg #[.int .i64 0,.bool false]),(1,.agg #[.int .i64 0,.bool true]),(2,.agg #[.int .i64 2,.bool false])]).run Tryz.prog w=.ok (.slice (some ⟨w.heap.size,0,none⟩) 3 3) (w.alloc (.cells #[.int .i64 0,.bool false,.int .i64 0,.bool true,.int .i64 2,.bool false] 82)):=by kernel_rfl
theorem wE{w:World}{g:Nat}{xs:List Step}(h:Blk w g 82 (dJ xs).toArray)(hn:xs.length≤1000):bY w (.slice (some ⟨g,0,none⟩) xs.length xs.length) xs:=
 ⟨_,_,rfl,Nat.le_refl _,by unfold maxLen;omega,by rw[Gp],fun _=>⟨_,rfl,h.cells⟩⟩
theorem Bk(w:World):Calls Tryz.prog 56 #[] w (fun e w'=>∃v,e=.returned v∧bY w' v jY∧Ext w w'):=by
 have hE:=Ext.refl w;go_enter Tryz.func56,Tryz.ntmps56
 go_wp2_with (first|((with_reducible refine eV (d:=some 4) (e:=82) (cs:=#[.int .i64 0,.bool false,.int .i64 0,.bool true,.int .i64 2,.bool false]) ?_ ?_);(simp[Act.eval];exact Rv _);intro W4 g4 hE4 hB4 hg4;replace hE:=hE.trans hE4))
 go_ret
 exact⟨_,rfl,wE (xs:=jY) hB4 (by decide),hE⟩
end Go.St
end
section
namespace Go.St
open Go Go.Bp Go.RowKit Go.Proofs
def Pb:ByteArray:=⟨#[104,111,109,101]⟩
def Pc:ByteArray:=⟨#[104,105,108,108]⟩
def Pa:ByteArray:=⟨#[114,105,110,103]⟩
def Lh:ByteArray:=⟨#[100,101,112,111,116]⟩
def Oz:ByteArray:=⟨#[116,114,97,109]⟩
def Pd:ByteArray:=⟨#[98,101,110,100]⟩
def bAm:ByteArray:=⟨#[97,109]⟩
def bPm:ByteArray:=⟨#[112,109]⟩
def bF:Town:=⟨[Pb,Pc,Pa,Lh],[Oz,Pd],[bAm,bPm],[⟨0,1,300,1,2,true,[2,2]⟩,⟨1,2,500,2,3,true,[0,1]⟩,⟨0,2,400,1,4,false,[0,0]⟩,⟨2,0,600,2,2,false,[1,1]⟩]⟩
theorem tS{w:World}{g:Nat}{xs:List ByteArray}(h:Blk w g 9 (rJ xs).toArray)(hn:xs.length≤1000):Strs w (.slice (some ⟨g,0,none⟩) xs.length xs.length) xs:=
 ⟨_,_,rfl,Nat.le_refl _,by unfold maxLen;omega,by simp[rJ],fun _=>⟨_,rfl,h.cells⟩⟩
theorem Qg(w:World)(a b c d:ByteArray):(Instr.buildSlice 22 4 #[(0,.string a),(1,.string b),(2,.string c),(3,.string d)]).run Tryz.prog w=.ok (.slice (some ⟨w.heap.size,0,none⟩) 4 4) (w.alloc (.cells #[.string a,.string b,.string c,.string d] 9)):=by kernel_rfl
theorem Lc(w:World)(a b:ByteArray):(Instr.buildSlice 22 2 #[(0,.string a),(1,.string b)]).run Tryz.prog w=.ok (.slice (some ⟨w.heap.size,0,none⟩) 2 2) (w.alloc (.cells #[.string a,.string b] 9)):=by kernel_rfl
theorem Tf(w:World)(p q r s:Nat):(Instr.buildSlice 23 4 #[(0,.agg #[.int .i64 0,.int .i64 1,.int .i64 300,.int .i64 1,.int .i64 2,.bool true,.slice (some ⟨p,0,none⟩) 2 2]),(1,.agg #[.int .i64 1,.int .i64 2,.int .i64 500,.int .i64 2,.int .i64 3,.bool true,.slice (some ⟨q,0,none⟩) 2 2]),(2,.agg #[.int .i64 0,.int .i64 2,.int .i64 400,.int .i64 1,.int .i64 4,.bool false,.slice (some ⟨r,0,none⟩) 2 2]),(3,.agg #[.int .i64 2,.int .i64 0,.int .i64 600,.int .i64 2,.int .i64 2,.bool false,.slice (some ⟨s,0,none⟩) 2 2])]).run Tryz.prog w=.ok (.slice (some ⟨w.heap.size,0,none⟩) 4 4) (w.alloc (.cells #[.int .i64 0,.int .i64 1,.int .i64 300,.int .i64 1,.int .i64 2,.bool true,.slice (some ⟨p,0,none⟩) 2 2,.int .i64 1,.int .i64 2,.int .i64 500,.int .i64 2,.int .i64 3,.bool true,.slice (some ⟨q,0,none⟩) 2 2,.int .i64 0,.int .i64 2,.int .i64 400,.int .i64 1,.int .i64 4,.bool false,.slice (some ⟨r,0,none⟩) 2 2,.int .i64 2,.int .i64 0,.int .i64 600,.int .i64 2,.int .i64 2,.bool false,.slice (some ⟨s,0,none⟩) 2 2] 87)):=by kernel_rfl
theorem Bz{w:World}{g:Nat}{s1 s2 s3 s4:Value}(hB:Blk w g 87 #[.int .i64 0,.int .i64 1,.int .i64 300,.int .i64 1,.int .i64 2,.bool true,s1,.int .i64 1,.int .i64 2,.int .i64 500,.int .i64 2,.int .i64 3,.bool true,s2,.int .i64 0,.int .i64 2,.int .i64 400,.int .i64 1,.int .i64 4,.bool false,s3,.int .i64 2,.int .i64 0,.int .i64 600,.int .i64 2,.int .i64 2,.bool false,s4])(h1:bG w s1 [2,2])(h2:bG w s2 [0,1])(h3:bG w s3 [0,0])(h4:bG w s4 [1,1]):gY w (.slice (some ⟨g,0,none⟩) 4 4) bF.streets:=by
 refine⟨_,4,rfl,by decide,by unfold maxLen;decide,fun _=>⟨_,rfl,fun k hk=> ?_⟩⟩
 have hk':k<4:=hk;obtain rfl|rfl|rfl|rfl:k=0∨k=1∨k=2∨k=3:=by omega
 ·exact⟨s1,hB.cells.sub 0 (by intro j u hu;rcases j with _|_|_|_|_|_|_|j<;>simp_all[bF]),h1⟩
 ·exact⟨s2,hB.cells.sub 7 (by intro j u hu;rcases j with _|_|_|_|_|_|_|j<;>simp_all[bF]),h2⟩
 ·exact⟨s3,hB.cells.sub 14 (by intro j u hu;rcases j with _|_|_|_|_|_|_|j<;>simp_all[bF]),h3⟩
 ·exact⟨s4,hB.cells.sub 21 (by intro j u hu;rcases j with _|_|_|_|_|_|_|j<;>simp_all[bF]),h4⟩
theorem kD{w:World}{g g':Nat}{cs cs':Array Value}{t:TypeId}(h1:Blk w g 25 cs)(h2:Blk w g' t cs')(ht:t≠25):g'≠g:=by
 rintro rfl;have h:=h1.symm.trans h2;simp only[Option.some.injEq,Obj.cells.injEq] at h;exact ht h.2.1.symm
theorem Rq:bF.wf:=by
 intro s hs;simp[bF] at hs;rcases hs with rfl|rfl|rfl|rfl|rfl|rfl|rfl|rfl<;>decide
set_option maxHeartbeats 4000000 in
theorem Bj(w:World):Calls Tryz.prog 35 #[] w (fun e w'=>∃v,e=.returned v∧aM w' v bF∧Ext w w'):=by
 have hE:=Ext.refl w;go_enter Tryz.func35,Tryz.ntmps35
 go_wp2_with (first|((with_reducible refine aS (d:=some 0) So ?_);intro W0 g0 hE0 hB0 hg0;have hg00:=Nat.le_trans hE.size hg0;simp[Value.cells] at hB0;(try replace hE:=hE.trans hE0))|(((with_reducible refine eV (d:=some 1) (e:=9) (cs:=#[.string Pb,.string Pc,.string Pa,.string Lh]) ?_ ?_);(simp[Act.eval];exact Qg _ _ _ _ _);intro W1 g1 hE1 hB1 hg1;replace hE:=hE.trans hE1;(try replace hB0:=hB0.ext hE1)))|(((with_reducible refine eV (d:=some 2) (e:=9) (cs:=#[.string Oz,.string Pd]) ?_ ?_);(simp[Act.eval];exact Lc _ _ _);intro W2 g2 hE2 hB2 hg2;replace hE:=hE.trans hE2;(try replace hB0:=hB0.ext hE2);(try replace hB1:=hB1.ext hE2)))|(((with_reducible refine eV (d:=some 3) (e:=9) (cs:=#[.string bAm,.string bPm]) ?_ ?_);(simp[Act.eval];exact Lc _ _ _);intro W3 g3 hE3 hB3 hg3;replace hE:=hE.trans hE3;(try replace hB0:=hB0.ext hE3);(try replace hB1:=hB1.ext hE3);(try replace hB2:=hB2.ext hE3)))|(((with_reducible refine iZ (d:=some 5) (n0:=2) (n1:=2) ?_ ?_ ?_);rfl;rfl;intro W5 g5 hE5 hB5 hg5;replace hE:=hE.trans hE5;(try replace hB0:=hB0.ext hE5);(try replace hB1:=hB1.ext hE5);(try replace hB2:=hB2.ext hE5);(try replace hB3:=hB3.ext hE5)))|(((with_reducible refine iZ (d:=some 8) (n0:=0) (n1:=1) ?_ ?_ ?_);rfl;rfl;intro W8 g8 hE8 hB8 hg8;replace hE:=hE.trans hE8;(try replace hB0:=hB0.ext hE8);(try replace hB1:=hB1.ext hE8);(try replace hB2:=hB2.ext hE8);(try replace hB3:=hB3.ext hE8);(try replace hB5:=hB5.ext hE8)))|(((with_reducible refine iZ (d:=some 11) (n0:=0) (n1:=0) ?_ ?_ ?_);rfl;rfl;intro W11 g11 hE11 hB11 hg11;replace hE:=hE.trans hE11;(try replace hB0:=hB0.ext hE11);(try replace hB1:=hB1.ext hE11);(try replace hB2:=hB2.ext hE11);(try replace hB3:=hB3.ext hE11);(try replace hB5:=hB5.ext hE11);(try replace hB8:=hB8.ext hE11)))|(((with_reducible refine iZ (d:=some 14) (n0:=1) (n1:=1) ?_ ?_ ?_);rfl;rfl;intro W14 g14 hE14 hB14 hg14;replace hE:=hE.trans hE14;(try replace hB0:=hB0.ext hE14);(try replace hB1:=hB1.ext hE14);(try replace hB2:=hB2.ext hE14);(try replace hB3:=hB3.ext hE14);(try replace hB5:=hB5.ext hE14);(try replace hB8:=hB8.ext hE14);(try replace hB11:=hB11.ext hE14)))|(go_at_call 45;((with_reducible refine(zG _ _ _).mono ?_);rintro e Wc1 ⟨rfl,hEc1⟩;(try replace hE:=hE.trans hEc1);(try replace hB1:=hB1.ext hEc1);(try replace hB2:=hB2.ext hEc1);(try replace hB3:=hB3.ext hEc1);(try replace hB5:=hB5.ext hEc1);(try replace hB8:=hB8.ext hEc1);(try replace hB11:=hB11.ext hEc1);(try replace hB0:=hB0.ext hEc1)))|(((with_reducible refine eV (d:=some 16) (e:=87) (cs:=#[.int .i64 0,.int .i64 1,.int .i64 300,.int .i64 1,.int .i64 2,.bool true,.slice (some ⟨g5,0,none⟩) 2 2,.int .i64 1,.int .i64 2,.int .i64 500,.int .i64 2,.int .i64 3,.bool true,.slice (some ⟨g8,0,none⟩) 2 2,.int .i64 0,.int .i64 2,.int .i64 400,.int .i64 1,.int .i64 4,.bool false,.slice (some ⟨g11,0,none⟩) 2 2,.int .i64 2,.int .i64 0,.int .i64 600,.int .i64 2,.int .i64 2,.bool false,.slice (some ⟨g14,0,none⟩) 2 2]) ?_ ?_);(simp[Act.eval];exact Tf _ _ _ _ _);intro W16 g16 hE16 hB16 hg16;replace hE:=hE.trans hE16;(try replace hB0:=hB0.ext hE16);(try replace hB1:=hB1.ext hE16);(try replace hB2:=hB2.ext hE16);(try replace hB3:=hB3.ext hE16);(try replace hB5:=hB5.ext hE16);(try replace hB8:=hB8.ext hE16);(try replace hB11:=hB11.ext hE16);(try replace hB14:=hB14.ext hE16)))|(((with_reducible refine aK (t:=25) (e:=25) (g:=g0) (off:=0) (n:=4) (v:=.agg #[.slice (some ⟨g1,0,none⟩) 4 4,.slice (some ⟨g2,0,none⟩) 2 2,.slice (some ⟨g3,0,none⟩) 2 2,.slice (some ⟨g16,0,none⟩) 4 4]) ?_ ?_ hB0 zI ?_ ?_ ?_ ?_);rfl;rfl;rfl;(simp[Value.cells]);(simp[Value.cells,Value.oneCell']);intro Ws hBs hgrs;simp[aI,Value.cells] at hBs;replace hB1:=hB1.grown hgrs (fun e=>kD hB0 hB1 (by decide) (Option.some.inj e));replace hB2:=hB2.grown hgrs (fun e=>kD hB0 hB2 (by decide) (Option.some.inj e));replace hB3:=hB3.grown hgrs (fun e=>kD hB0 hB3 (by decide) (Option.some.inj e));replace hB5:=hB5.grown hgrs (fun e=>kD hB0 hB5 (by decide) (Option.some.inj e));replace hB8:=hB8.grown hgrs (fun e=>kD hB0 hB8 (by decide) (Option.some.inj e));replace hB11:=hB11.grown hgrs (fun e=>kD hB0 hB11 (by decide) (Option.some.inj e));replace hB14:=hB14.grown hgrs (fun e=>kD hB0 hB14 (by decide) (Option.some.inj e));replace hB16:=hB16.grown hgrs (fun e=>kD hB0 hB16 (by decide) (Option.some.inj e)))))
 refine tU rfl rfl rfl (aL hBs) ?_;refine⟨_,rfl,aM.of ⟨tS (xs:=bF.places) hB1 (by decide),tS (xs:=bF.shows) hB2 (by decide),tS (xs:=bF.times) hB3 (by decide),Bz hB16 (cO hB5) (cO hB8) (cO hB11) (cO hB14),Rq⟩,?_⟩
 exact aD hE hgrs hg00
end Go.St
end
section
namespace Go.St
open Go Go.Bp Go.RowKit Go.Proofs
def yH(a b:Int):Int:=if a<b then -1 else if a>b then 1 else 0
theorem nF(a b:Int)(w:World):Calls Tryz.prog 121 #[.int .i64 a,.int .i64 b] w (dF w (yH a b)):=by
 have hE:=Ext.refl w;by_cases h1:a<b
 ·have Hr:=Lib.hid (show yH a b= -1 by unfold yH;rw[if_pos h1])
  go_enter Tryz.func121,Tryz.ntmps121
  go_wp2
  go_ret
  exact dF.of Hr.out hE
 ·by_cases h2:b<a
  ·have Hr:=Lib.hid (show yH a b=1 by unfold yH;rw[if_neg h1,if_pos h2])
   go_enter Tryz.func121,Tryz.ntmps121
   go_wp2
   go_ret
   exact dF.of Hr.out hE
  ·have Hr:=Lib.hid (show yH a b=0 by unfold yH;rw[if_neg h1,if_neg h2])
   go_enter Tryz.func121,Tryz.ntmps121
   go_wp2
   go_ret
   exact dF.of Hr.out hE
def iN:List Int→Int
 | []=>0
 |x::l=>if x≠0 then x else iN l
theorem yD{l:List Int}{k:Nat}(hk:k<l.length):iN (l.drop k)=if l[k]≠0 then l[k] else iN (l.drop (k+1)):=by
 rw[List.drop_eq_getElem_cons hk];rfl
set_option maxHeartbeats 1000000 in
theorem Gx(v:Value)(l:List Int)(w:World)(h:bG w v l):Calls Tryz.prog 120 #[v] w (dF w (iN l)):=by
 obtain⟨A,c,rfl,h1,h2,h3,h4⟩:=h;unfold maxLen at h2;clear h3;go_enter Tryz.func120,Tryz.ntmps120
 go_wp2
 go_loopw [8] (fun i wr=>Ext w wr∧∃k:Nat,k≤l.length∧i=.int .i64 k∧iN l=iN (l.drop k)) (fun i _=>l.length-(intOf i).toNat)
 case atStart=>exact⟨Ext.refl _,0,by omega,rfl,rfl⟩
 case round=>
  obtain⟨hEr,k,hk,rfl,hn⟩:=hrel;have Hn:=Lib.hid hn;clear hn;by_cases hlt:k<l.length
  ·obtain⟨ad,rfl,hc⟩:=h4 (by omega)
   have e1:=(hc.ext hEr).i hlt;have Hd:=Lib.hid (yD hlt);clear h4 hc;by_cases hx:l[k]=0
   ·have Hs:=Lib.hid (show iN l=iN (l.drop (k+1)) by rw[Hn.out,Hd.out,if_neg (by simp[hx])])
    have q0:(l[k] !=0)=false:=by simp[hx]
    clear hx;go_wp2
    go_roundw
    case rel=>exact⟨hEr,k+1,by omega,by go_num,Hs.out⟩
    case measure=>simp[intOf];omega
   ·have Hs:=Lib.hid (show iN l=l[k] by rw[Hn.out,Hd.out,if_pos hx])
    have q0:(l[k] !=0)=true:=by simp[hx]
    clear hx;go_wp2
    go_ret
    exact dF.of Hs.out hEr
  ·obtain rfl:k=l.length:=by omega
   have Hs:=Lib.hid (show iN l=0 by rw[Hn.out,List.drop_length];rfl)
   clear h4;go_wp2
   go_ret
   exact dF.of Hs.out hEr
end Go.St
end
section
namespace Go.St
open Go.Bp
namespace Town
section
variable(t:Town)(k:Task)
def intoOf(xs:List Step)(q:Int):List Step:=xs.filter fun x=>decide ((t.ends x).2=q)
theorem intoOf_snoc(xs:List Step)(x:Step)(q:Int):t.intoOf (xs++ [x]) q=if(t.ends x).2=q then t.intoOf xs q++ [x] else t.intoOf xs q:=by
 unfold intoOf;rw[List.filter_append];by_cases h:(t.ends x).2=q
 ·rw[if_pos h];simp[h]
 ·rw[if_neg h];simp[h]
theorem intoOf_len(xs:List Step)(q:Int):(t.intoOf xs q).length≤xs.length:=List.length_filter_le _ _
def into(q:Int):List Step:=t.intoOf (t.stepsAll k) q
theorem mem_into{q:Int}{x:Step}:x∈t.into k q↔x∈t.stepsAll k∧(t.ends x).2=q:=by unfold into intoOf;simp[List.mem_filter]
def meas(T:Tab)(todo:List (Int×Int)):Nat:=2*pot (10000*t.stands.length) t.stands T+todo.length
structure Srch(T:Tab)(todo:List (Int×Int)):Prop where
 ref:RefT t k T
 near:Dw aE (t.arcs k) k.b (PartOf t k) T todo
 nod:todo.Nodup
def Lo(q:Int)(i:Nat)(set:Int):Arc→Int→Prop:=fun a s=>∃(j:Nat)(hj:j<(t.into k q).length),a=t.arcOf k (t.into k q)[j]∧(j<i∨(j=i∧s<set))
structure Rnd(q z:Int)(c:Int×Int)(i:Nat)(set:Int)(m:Nat)(T:Tab)(todo:List (Int×Int)):Prop where
 ref:RefT t k T
 rnd:kQ aE (t.arcs k) k.b (PartOf t k) q z c (Lo t k q i set) T todo
 nod:todo.Nodup
 fell:t.meas T todo+1≤m
end
variable{t:Town}{k:Task}{T:Tab}{todo:List (Int×Int)}
theorem srch_start(h:TaskOk t k):Srch t k (tab0 k) [(k.b,0)]:=by
 have hr:=tab0_ref h;refine⟨hr,⟨hr.sound,hr.base,?_,?_⟩,by simp⟩
 ·intro x hx;simp at hx;subst hx;rw[hr.base];rfl
 ·intro a ha s hs c hc hn;exfalso;apply hn;unfold tab0 put at hc;split at hc
  ·rename_i e;rw[e.1,e.2];simp
  ·cases hc
theorem Srch.stand(h:Srch t k T todo){x:Int×Int}(hx:x∈todo):∃c,T x.1 x.2=some c∧x∈t.stands∧PartOf t k x.2:=by
 obtain⟨c,hc⟩:=Option.isSome_iff_exists.1 (h.near.2.2.1 x hx);exact⟨c,hc,(h.ref.bound _ _ _ hc).1,h.ref.inD _ _ _ hc⟩
theorem Srch.len(h:Srch t k T todo):todo.length≤t.stands.length:=iL h.nod (fun x hx=>let⟨_,_,h2,_⟩:=h.stand hx;h2)
theorem Srch.perm(h:Srch t k T todo){todo':List (Int×Int)}(hp:todo'.Perm todo):Srch t k T todo'∧t.meas T todo'=t.meas T todo:=by
 refine⟨⟨h.ref,⟨h.near.1,h.near.2.1,fun x hx=>h.near.2.2.1 x (hp.mem_iff.1 hx),fun a ha s hs c hc hn=>h.near.2.2.2 a ha s hs c hc (fun hm=>hn (hp.mem_iff.2 hm))⟩,hp.nodup_iff.2 h.nod⟩,?_⟩
 unfold meas;rw[hp.length_eq]
theorem Srch.open_{q z:Int}{c:Int×Int}{rest:List (Int×Int)}(h:Srch t k T ((q,z)::rest))(hc:T q z=some c):Rnd t k q z c 0 0 (t.meas T ((q,z)::rest)) T rest:=by
 refine⟨h.ref,(Dw.start h.near hc (fun x=>by simp)).mono (fun a ha hq s hs ht hQ=> ?_),(List.nodup_cons.1 h.nod).2,by unfold meas;simp;omega⟩
 obtain⟨j,hj,_,h1|⟨_,h1⟩⟩:=hQ
 ·omega
 ·have:=hs.1;omega
theorem Srch.done(h:TaskOk t k)(hs:Srch t k T [])(p s:Int):T p s=t.cost k p s:=hs.ref.eq h hs.near.closed p s
section
variable{q z:Int}{c:Int×Int}{i:Nat}{set:Int}{m:Nat}
theorem Rnd.cc(h:Rnd t k q z c i set m T todo):T q z=some c:=h.rnd.2.2.1
theorem Rnd.len(h:Rnd t k q z c i set m T todo):todo.length≤t.stands.length:=by
 refine iL h.nod (fun x hx=> ?_)
 obtain⟨c,hc⟩:=Option.isSome_iff_exists.1 (h.rnd.2.2.2.1 x hx);exact(h.ref.bound _ _ _ hc).1
theorem lZ{a:Arc}{s:Int}(hi:i<(t.into k q).length)(hq:Lo t k q i (set+1) a s):Lo t k q i set a s∨(a=t.arcOf k (t.into k q)[i]∧s=set):=by
 obtain⟨j,hj,e,h1|⟨h1,h2⟩⟩:=hq
 ·exact .inl ⟨j,hj,e,.inl h1⟩
 ·subst h1;by_cases hs:s=set
  ·exact .inr ⟨e,hs⟩
  ·exact .inl ⟨j,hj,e,.inr ⟨rfl,by omega⟩⟩
theorem Rnd.row(ht:TaskOk t k)(h:Rnd t k q z c i (k.show_+1) m T todo):Rnd t k q z c (i+1) 0 m T todo:=by
 refine⟨h.ref,h.rnd.mono (fun a ha hq s hs hz hQ=> ?_),h.nod,h.fell⟩
 obtain⟨j,hj,e,h1|⟨_,h1⟩⟩:=hQ
 ·by_cases hji:j=i
  ·exact⟨j,hj,e,.inr ⟨hji,by have:=yA ht hs;omega⟩⟩
  ·exact⟨j,hj,e,.inl (by omega)⟩
 ·have:=hs.1;omega
theorem Rnd.cont(hi:i<(t.into k q).length)(hn:z.toNat&&&(t.shownAt k.time (t.into k q)[i]).toNat≠0)(h:Rnd t k q z c i set m T todo):Rnd t k q z c (i+1) 0 m T todo:=by
 refine⟨h.ref,h.rnd.mono (fun a ha hq s hs hz hQ=> ?_),h.nod,h.fell⟩
 obtain⟨j,hj,e,h1|⟨_,h1⟩⟩:=hQ
 ·by_cases hji:j=i
  ·subst hji;exfalso;apply hn;rw[←hz,e];show(aE s (t.shownAt k.time (t.into k q)[j])).toNat&&&_=0
   unfold aE;rw[Int.toNat_natCast];exact wM _ _
  ·exact⟨j,hj,e,.inl (by omega)⟩
 ·have:=hs.1;omega
theorem Rnd.noPart(hi:i<(t.into k q).length)(hn:¬PartOf t k set)(h:Rnd t k q z c i set m T todo):Rnd t k q z c i (set+1) m T todo:=by
 refine⟨h.ref,h.rnd.mono (fun a ha hq s hs hz hQ=> ?_),h.nod,h.fell⟩
 rcases lZ hi hQ with h1|⟨_,h1⟩
 ·exact h1
 ·exact absurd (h1▸hs) hn
theorem Rnd.noLess(hi:i<(t.into k q).length)(hn:aE set (t.shownAt k.time (t.into k q)[i])≠z)(h:Rnd t k q z c i set m T todo):Rnd t k q z c i (set+1) m T todo:=by
 refine⟨h.ref,h.rnd.mono (fun a ha hq s hs hz hQ=> ?_),h.nod,h.fell⟩
 rcases lZ hi hQ with h1|⟨h0,h1⟩
 ·exact h1
 ·rw[h0,h1] at hz;exact absurd hz hn
theorem Rnd.known(hi:i<(t.into k q).length){d:Int×Int}(hd:T (t.ends (t.into k q)[i]).1 set=some d)(hle:le2 d (c.1+(t.at_ (t.into k q)[i].st).metres,c.2+1))(h:Rnd t k q z c i set m T todo):Rnd t k q z c i (set+1) m T todo:=
 ⟨h.ref,(h.rnd.skip (b:=t.arcOf k (t.into k q)[i]) (u:=set) hd hle).mono (fun a ha hq s hs hz hQ=>lZ hi hQ),h.nod,h.fell⟩
theorem Kh(hi:i<(t.into k q).length):t.arcOf k (t.into k q)[i]∈t.arcs k∧(t.ends (t.into k q)[i]).2=q:=by
 obtain⟨h1,h2⟩:=(mem_into t k).1 (List.getElem_mem hi);exact⟨by rw[arcs_map];exact List.mem_map_of_mem h1,h2⟩
theorem Rnd.better(ht:TaskOk t k)(hi:i<(t.into k q).length)(hs:PartOf t k set)(hz:aE set (t.shownAt k.time (t.into k q)[i])=z){todo':List (Int×Int)}
 (hn:∀d,T (t.ends (t.into k q)[i]).1 set=some d→¬le2 d (c.1+(t.at_ (t.into k q)[i].st).metres,c.2+1))
 (hm:todo'=if((t.ends (t.into k q)[i]).1,set)∈todo then todo else todo++ [((t.ends (t.into k q)[i]).1,set)])(h:Rnd t k q z c i set m T todo):
 Rnd t k q z c i (set+1) m (put T (t.ends (t.into k q)[i]).1 set (c.1+(t.at_ (t.into k q)[i].st).metres,c.2+1)) todo':=by
 obtain⟨hb,hbq⟩:=Kh hi;have hbo:=mH ht _ hb;have hmm:∀a∈t.arcs k,1≤a.m:=nI ht;have hr:=kQ.better h.rnd hmm (fun a ha=>(mH ht a ha).pq) hb hbq (u:=set) hz hn (todo':=todo') (fun x=>by
  rw[hm];split
  ·rename_i hin;constructor
   ·exact fun hx=>.inr hx
   ·rintro(rfl|hx)
    ·exact hin
    ·exact hx
  ·simp only[List.mem_append,List.mem_singleton];exact⟨fun hx=>hx.elim .inr .inl,fun hx=>hx.elim .inr .inl⟩)
 have hst:((t.ends (t.into k q)[i]).1,set)∈t.stands:=mem_stands.2 ⟨hbo.p,hs.1,hs.2.1⟩;have hf:=wI qB h.ref.bound h.cc hbo.m1 hbo.m2 hst hn;have hbd:=kR.put h.ref.bound h.cc hbo.m1 hbo.m2 hst hn;refine⟨⟨hr.1,hr.2.1,hbd,fun p s c' hc'=> ?_⟩,hr.mono (fun a ha hq s hs hz hQ=>lZ hi hQ),?_,?_⟩
 ·by_cases e:p=(t.ends (t.into k q)[i]).1∧s=set
  ·rw[e.2];exact hs
  ·rw[dY T _ e] at hc';exact h.ref.inD _ _ _ hc'
 ·rw[hm];split
  ·exact h.nod
  ·rename_i hin;rw[List.nodup_append];refine⟨h.nod,by simp,fun a ha b hb e=> ?_⟩
   simp at hb;subst hb;subst e;exact hin ha
 ·have hl:todo'.length≤todo.length+1:=by rw[hm];split<;>simp
  have hfl:=h.fell;unfold meas at hfl⊢;change pot _ _ (put T _ _ (c.1+(t.at_ (t.into k q)[i].st).metres,c.2+1))+1≤_ at hf;omega
theorem Rnd.close(h:Rnd t k q z c (t.into k q).length 0 m T todo):Srch t k T todo∧t.meas T todo+1≤m:=by
 refine⟨⟨h.ref,h.rnd.stop (fun a ha hq s hs hz=> ?_),h.nod⟩,h.fell⟩
 rw[arcs_map] at ha;obtain⟨x,hx,rfl⟩:=List.mem_map.1 ha;have hin:x∈t.into k q:=(mem_into t k).2 ⟨hx,hq⟩;obtain⟨j,hj,rfl⟩:=List.getElem_of_mem hin;exact⟨j,hj,rfl,.inl hj⟩
end
end Town
end Go.St
end
section
namespace Go.St
open Go Go.Bp Go.RowKit Go.Proofs
theorem tN:(Tryz.prog.info? 113).map (fun i=>(i.zero,i.size,i.bytes))=some (some (.agg #[.int .i64 0,.int .i64 0]),2,16):=by kernel_rfl
theorem oH:(Tryz.prog.info? 115).map (fun i=>(i.zero,i.size,i.bytes))=some (some (.agg #[.int .i64 0,.int .i64 0]),2,16):=by kernel_rfl
theorem yX:(Tryz.prog.info? 109).map (fun i=>(i.zero,i.size,i.bytes))=some (some (.pointer none),1,8):=by kernel_rfl
theorem aW:(Tryz.prog.info? 113).map TypeInfo.size=some 2:=by kernel_rfl
theorem gT:(Tryz.prog.info? 115).map TypeInfo.size=some 2:=by kernel_rfl
theorem Ja:(Tryz.prog.info? 109).map TypeInfo.size=some 1:=by kernel_rfl
theorem lK:Pair2 113 (.int .i64) 3 3 where
 und:=by kernel_rfl
 eqg:=by kernel_rfl
 sto:=by kernel_rfl
 fld:=⟨"place","set",by kernel_rfl,by decide,by decide⟩
 u0:=Tryz.underlying3
 u1:=Tryz.underlying3
theorem uE:Pair2 115 (.int .i64) 3 3 where
 und:=by kernel_rfl
 eqg:=by kernel_rfl
 sto:=by kernel_rfl
 fld:=⟨"metres","steps",by kernel_rfl,by decide,by decide⟩
 u0:=Tryz.underlying3
 u1:=Tryz.underlying3
structure JobAt(W:World)(gj:Nat)(pv sv tv xv cv iv mv:Value)(t:Town)(k:Task):Prop where
 blk:Blk W gj 120 #[pv,sv,tv,xv,.int .i64 k.a,.int .i64 k.b,.int .i64 k.show_,.int .i64 k.time,cv,iv,mv]
 town:TownP W pv sv tv xv t
 closed:bG W cv k.closed
theorem JobAt.ext{W W':World}{gj:Nat}{pv sv tv xv cv iv mv:Value}{t:Town}{k:Task}(h:JobAt W gj pv sv tv xv cv iv mv t k)(e:Ext W W'):JobAt W' gj pv sv tv xv cv iv mv t k:=⟨h.blk.ext e,h.town.ext e,h.closed.ext e⟩
theorem JobAt.d{W:World}{gj:Nat}{pv sv tv xv cv iv mv:Value}{t:Town}{k:Task}(h:JobAt W gj pv sv tv xv cv iv mv t k):JobAt W.drew gj pv sv tv xv cv iv mv t k:=⟨h.blk,h.town.d,h.closed.ext (Ext.todrew (Ext.refl _))⟩
theorem JobAt.cells{W:World}{gj:Nat}{pv sv tv xv cv iv mv:Value}{t:Town}{k:Task}(h:JobAt W gj pv sv tv xv cv iv mv t k):cS W ⟨gj,0,none⟩ [pv,sv,tv,xv]:=by
 intro j u hu;refine h.blk.cells j u ?_;rcases j with _|_|_|_|j<;>simp_all
theorem qP{W:World}{gj:Nat}{pv sv tv xv cv iv mv:Value}{t:Town}{k:Task}(h:JobAt W gj pv sv tv xv cv iv mv t k):(loadVar 90 ⟨gj,0,none⟩).run Tryz.prog W=.ok (.agg #[pv,sv,tv,xv]) W:=by
 obtain⟨i,hi,hs⟩:=iJ jE;exact eH Tryz.underlying90 hi hs h.cells
set_option maxHeartbeats 1000000 in
theorem pB(gj n:Nat)(b:Bool)(pv sv tv xv cv iv mv:Value)(t:Town)(k:Task)(w:World)(h:JobAt w gj pv sv tv xv cv iv mv t k)(hk:Town.TaskOk t k)(hn:n<t.streets.length):
 Calls Tryz.prog 66 #[.pointer (some ⟨gj,0,none⟩),.agg #[.int .i64 n,.bool b]] w (dF w (t.shownAt k.time ⟨n,b⟩)):=by
 obtain⟨A,cp,rfl,h1,h2,h4⟩:=h.town.streets;unfold maxLen at h2;obtain⟨ad,rfl,hc⟩:=h4 (by omega)
 obtain⟨ssv,hs⟩:=hc n hn;have hso:=hk.ok.at_ hn;have hsh:=hso.sh;have htm:=aV.1 hk.time;obtain⟨tm,htm2⟩:∃m:Nat,k.time=m:=⟨k.time.toNat,by omega⟩
 have Hr:=Lib.hid (show t.shownAt k.time ⟨(n:Int),b⟩=t.streets[n].shows.getD tm 0 by unfold Town.shownAt;rw[Town.at_eq hn,htm2];simp)
 obtain⟨s,hst⟩:∃s,t.streets[n]=s:=⟨_,rfl⟩;rw[hst] at hs Hr hsh;have html:tm<s.shows.length:=by omega
 obtain⟨hs1,As,cs,rfl,i1,i2,i3,i4⟩:=hs;obtain⟨adI,rfl,hcI⟩:=i4 (by omega)
 have e7:=hcI.i html;have e6:=fld hs1 (i:=6) (by decide) rfl
 have Hg:=Lib.hid (show s.shows.getD tm 0=s.shows[tm] by simp[List.getD,html])
 obtain⟨x,hx⟩:∃x,s.shows[tm]=x:=⟨_,rfl⟩;rw[hx] at e7 Hg;unfold maxLen at i2;have j3:=h.blk.cell 3;have j7:=h.blk.cell 7;simp at j3 j7;rw[htm2] at j7;have z1:(n:Int)<(t.streets.length:Int):=by omega
 have z2:(tm:Int)<(s.shows.length:Int):=by omega
 have hE:=Ext.refl w;clear h hc h4 hst hso hs1 htm htm2 hx i4 hcI;go_enter Tryz.func66,Tryz.ntmps66
 go_wp2_with (first|((with_reducible refine aF (d:=some 3) ?_);intro W3 g3 hE3 hB3 hg3;simp[Act.eval,Act.put,Value.cells] at hB3;(try replace hE:=hE.trans hE3);(try replace j3:=hE3.c j3);(try replace j7:=hE3.c j7);(try replace e6:=hE3.c e6);(try replace e7:=hE3.c e7);have hb3_0:=hB3.cell 0;simp at hb3_0;clear hE3))
 refine wp_region_quiet_lit (by kernel_rfl) (by kernel_rfl) ?_
 repeat(any_goals(first|go_big_quiet_step (fail)|quiet_step (fail)))
 refine wpQuiet_nil ?_;intro _ hw';obtain⟨nq,hw''⟩:=hw';subst hw'';go_wp2
 go_ret
 refine dF.of ?_ (hE.drewN _);rw[Hr.out,Hg.out]
end Go.St
end
