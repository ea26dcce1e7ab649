/- Chapter 03: contracts of functions of the program and of the reference, and plain laws (out of StE SB SR1 SR2 SR6 SR7 SR8). No condition of its own. -/
import Derived.Test.YtfjnacajjpaeiaaGreatDoorQA01
set_option maxRecDepth 100000
set_option linter.all false
section
namespace Go.St
def mT(a b:Int):Int:=dO (fun i=>cZ a i||cZ b i) 6
theorem yS{a b:Int}(h0:0≤a)(h:a<64)(h1:0≤b)(h2:b<64):mT a b=bP a b:=by
 obtain⟨m,rfl⟩:∃m:Nat,a=m:=⟨a.toNat,by omega⟩
 obtain⟨n,rfl⟩:∃m:Nat,b=m:=⟨b.toNat,by omega⟩
 unfold mT bP;simp only[Int.toNat_natCast];refine rV (fun i _=> ?_) (Nat.or_lt_two_pow (n:=6) (by omega) (by omega))
 rw[mE,mE,Nat.testBit_or]
end Go.St
end
section
namespace Go.St
open Go Go.Bp Go.RowKit Go.Proofs
/-! ### loads -/
theorem Gi{w:World}{p:Addr}{cs:List Value}(h:cS w p cs){u:Value}(hu:cs[0]? =some u):w.cell? p=some u:=by
 have:=h 0 u hu;rwa [rN] at this
section
variable{w:World}{ad p:Addr}{k:Nat}
end
end Go.St
end
section
namespace Go.St
open Go Go.Bp Go.RowKit Go.Proofs
set_option maxHeartbeats 1000000 in
theorem Ez(a b:Int)(ha:0≤a∧a≤1000000)(hb:0≤b∧b≤1000000)(w:World):Calls Tryz.prog 61 #[.int .i64 a,.int .i64 b] w fun e w'=>e=.returned (.int .i64 (mT a b))∧w=w':=by
 have Hl:=Lib.hid (show mT a b=dO (fun i=>cZ a i||cZ b i) 6 from rfl)
 go_enter Tryz.func61,Tryz.ntmps61
 go_wp2
 go_loop [5,6] (fun p i=>∃k:Nat,k≤6∧i=.int .i64 k∧p=.int .i64 (dO (fun i=>cZ a i||cZ b i) k)) (fun _ i=>6-(intOf i).toNat)
 case atStart=>exact⟨0,by omega,rfl,rfl⟩
 case round=>
  obtain⟨k,hk,rfl,rfl⟩:=hrel;have Hs:=Lib.hid (lU (fun i=>cZ a i||cZ b i) k)
  obtain⟨hb1,hb2⟩:=oP (fun i=>cZ a i||cZ b i) k
  have hp:=nP hk;have hp0:=(iC hk (by omega)).1
  obtain⟨x,hx⟩:∃x,dO (fun i=>cZ a i||cZ b i) k=x:=⟨_,rfl⟩
  have Hx:=Lib.hid hx;rw[hx] at hb1 hb2⊢;clear hx;have hk61:k≤61:=by omega
  have c3:=fun w=>jP k hk61 w
  obtain⟨p,hpp⟩:∃p:Int,2^k=p:=⟨_,rfl⟩;have Hp:=Lib.hid hpp;rw[hpp] at hb2 hp hp0 c3;clear hpp;by_cases hlt:k<6
  ·cases q1:cZ a k<;>cases q2:cZ b k
   all_goals
    have Q1:=Lib.hid q1;have Q2:=Lib.hid q2;go_wp2_with (first|(go_at_call 43;(with_reducible refine(Ep _ k (by first|exact ha.1|exact hb.1) (by first|exact ha.2|exact hb.2) hk61 _).mono ?_);rintro e w' ⟨rfl,rfl⟩)|(go_at_call 42;refine(c3 _).mono ?_;rintro e w' ⟨rfl,rfl⟩))
    go_round
    case rel=>exact⟨k+1,by omega,by go_num,by rw[Hs.out,Q1.out,Q2.out,Hx.out,Hp.out];rfl⟩
    case measure=>simp[intOf];omega
  ·obtain rfl:k=6:=by omega
   go_wp2
   go_ret
   exact⟨lI (by rw[Hl.out,Hx.out]),rfl⟩
end Go.St
end
section
namespace Go.St
open Go Go.Bp Go.RowKit Go.Proofs
set_option maxHeartbeats 1000000 in
theorem dW(tv:Value)(t:Town)(k:Nat)(b:Bool)(w:World)(h:aM w tv t)(hk:k<t.streets.length):
 Calls Tryz.prog 69 #[tv,.agg #[.int .i64 k,.bool b]] w (dQ w (t.ends ⟨k,b⟩).1 (t.ends ⟨k,b⟩).2):=by
 obtain⟨pv,sv,tmv,xv,rfl,hT⟩:=h;obtain⟨A,cp,rfl,h1,h2,h4⟩:=hT.streets;unfold maxLen at h2;have hE:=Ext.refl w;obtain⟨ad,rfl,hc⟩:=h4 (by omega)
 obtain⟨ssv,hs⟩:=hc k hk;clear hc h4 hT;have Hf:=Lib.hid (Town.ends_f (t:=t) hk);have Ht:=Lib.hid (Town.ends_t (t:=t) hk);obtain⟨s,hst⟩:∃s,t.streets[k]=s:=⟨_,rfl⟩;rw[hst] at hs Hf Ht;clear hst;obtain⟨hs1,As,cs,rfl,hs2⟩:=hs;replace hs1:gB w _ s _:=⟨hs1,As,cs,rfl,hs2⟩
 cases b
 ·go_enter Tryz.func69,Tryz.ntmps69
  go_wp2_with (first|(((with_reducible refine aC (d:=some 12) (hl:=eA hs1) ?_ ?_);rfl))|((with_reducible refine aO (e:=87) (u:=6) (v:=.agg #[.int .i64 s.a,.int .i64 s.b,.int .i64 s.metres,.int .i64 s.lo,.int .i64 s.hi,.bool s.both,.slice As s.shows.length cs]) sY ?_ ?_ ?_ ?_ ?_ ?_);(intro g;rfl);(intro g;rfl);rfl;rfl;(simp[Value.cells,Value.oneCell']);intro W6 g6 hE6 hB6 hg6;simp[Value.cells] at hB6;(try replace hE:=hE.trans hE6);(try replace hb3_1:=hE6.c hb3_1);have hb6_0:=hB6.cell 0;have hb6_1:=hB6.cell 1;simp at hb6_0 hb6_1;clear hE6)|((with_reducible refine aF (d:=some 2) ?_);intro W2 g2 hE2 hB2 hg2;simp[Act.eval,Act.put,Value.cells] at hB2;(try replace hE:=hE.trans hE2);(try replace hs1:=hs1.ext hE2);have hb2_3:=hB2.cell 3;simp at hb2_3;clear hE2)|((with_reducible refine aF (d:=some 3) ?_);intro W3 g3 hE3 hB3 hg3;simp[Act.eval,Act.put,Value.cells] at hB3;(try replace hE:=hE.trans hE3);(try replace hs1:=hs1.ext hE3);(try replace hb2_3:=hE3.c hb2_3);have hb3_0:=hB3.cell 0;have hb3_1:=hB3.cell 1;simp at hb3_0 hb3_1;clear hE3))
  go_quiet (fail)
  go_wp2
  go_ret2
  exact dQ.of Hf.out (hE.drewN _)
 ·go_enter Tryz.func69,Tryz.ntmps69
  go_wp2_with (first|(((with_reducible refine aC (d:=some 12) (hl:=eA hs1) ?_ ?_);rfl))|((with_reducible refine aO (e:=87) (u:=6) (v:=.agg #[.int .i64 s.a,.int .i64 s.b,.int .i64 s.metres,.int .i64 s.lo,.int .i64 s.hi,.bool s.both,.slice As s.shows.length cs]) sY ?_ ?_ ?_ ?_ ?_ ?_);(intro g;rfl);(intro g;rfl);rfl;rfl;(simp[Value.cells,Value.oneCell']);intro W6 g6 hE6 hB6 hg6;simp[Value.cells] at hB6;(try replace hE:=hE.trans hE6);(try replace hb3_1:=hE6.c hb3_1);have hb6_0:=hB6.cell 0;have hb6_1:=hB6.cell 1;simp at hb6_0 hb6_1;clear hE6)|((with_reducible refine aF (d:=some 2) ?_);intro W2 g2 hE2 hB2 hg2;simp[Act.eval,Act.put,Value.cells] at hB2;(try replace hE:=hE.trans hE2);(try replace hs1:=hs1.ext hE2);have hb2_3:=hB2.cell 3;simp at hb2_3;clear hE2)|((with_reducible refine aF (d:=some 3) ?_);intro W3 g3 hE3 hB3 hg3;simp[Act.eval,Act.put,Value.cells] at hB3;(try replace hE:=hE.trans hE3);(try replace hs1:=hs1.ext hE3);(try replace hb2_3:=hE3.c hb2_3);have hb3_0:=hB3.cell 0;have hb3_1:=hB3.cell 1;simp at hb3_0 hb3_1;clear hE3))
  go_quiet (fail)
  go_wp2
  go_ret2
  exact dQ.of Ht.out (hE.drewN _)
end Go.St
end
section
namespace Go.St
open Go Go.Bp Go.RowKit Go.Proofs
set_option maxHeartbeats 4000000 in
theorem vE(tv lv:Value)(t:Town)(a:Int)(l:List Step)(w:World)(h:aM w tv t)(hok:t.Ok)(hl:bY w lv l):
 Calls Tryz.prog 60 #[tv,.int .i64 a,lv] w (dQ w (t.stepsErr a l).1 (t.stepsErr a l).2):=by
 obtain⟨pv,shv,tmv,xv,rfl,hT⟩:=h;obtain⟨A1,cp1,rfl,_,hc1,_,_⟩:=hT.places;obtain⟨A2,cp2,rfl,_,hc2,_,_⟩:=hT.shows;obtain⟨A3,cp3,rfl,_,hc3,_,_⟩:=hT.times;obtain⟨A4,cp4,rfl,_,h42,h44⟩:=hT.streets;obtain⟨A,c,rfl,h1,h2,h3,h4⟩:=hl;unfold maxLen at h2 h42;have hst:=hok.st;clear h3;have hE:=Ext.refl w;by_cases hle:l.length≤1100
 ·have q1:¬(1100<(l.length:Int)):=by omega
  have Hs:=Lib.hid (show t.stepsErr a l=t.follow a l by unfold Town.stepsErr;rw[if_neg (by omega)])
  go_enter Tryz.func60,Tryz.ntmps60
  go_wp2_with (first|((with_reducible refine aF (d:=some 3) ?_);intro W3 g3 hE3 hB3 hg3;simp[Act.eval,Act.put,Value.cells] at hB3;(try replace hE:=hE.trans hE3);have hb3_0:=hB3.cell 0;have hb3_1:=hB3.cell 1;have hb3_2:=hB3.cell 2;have hb3_3:=hB3.cell 3;simp at hb3_0 hb3_1 hb3_2 hb3_3;clear hE3))
  go_loopw [8,9,10,11] (fun at0 i _ _ wr=>Ext W3 wr∧∃(k:Nat)(av:Int),k≤l.length∧i=.int .i64 k∧at0=.int .i64 av∧t.follow a l=t.follow av (l.drop k)) (fun _ i _ _ _=>l.length-(intOf i).toNat)
  case atStart=>exact⟨Ext.refl _,0,a,by omega,rfl,rfl,rfl⟩
  case round=>
   obtain⟨hEr,k,av,hk,rfl,rfl,hf⟩:=hrel;have Hf:=Lib.hid (show t.stepsErr a l=t.follow av (l.drop k) by rw[Hs.out,hf])
   have hEq:=hE.trans hEr;have hB3r:=hB3.ext hEr;have b3:=hB3r.cell 3;simp at b3;clear hf hb3_0 hb3_1 hb3_2 hb3_3 hB3;by_cases hlt:k<l.length
   ·obtain⟨ad,rfl,hc⟩:=h4 (by omega)
    have hcq:=hc.ext hEq;obtain⟨⟨st,bk⟩,hx⟩:∃x,l[k]=x:=⟨_,rfl⟩;have Hx:=Lib.hid hx;have hcs:=oU hcq hlt;rw[hx] at hcs;have e1:=Gi hcs (u:=.int .i64 st) rfl;have e2:=fld hcs (i:=1) (by decide) (u:=.bool bk) rfl
    have hEd:=hEq.todrew;have hEo:=Ext.todrew (Ext.refl wr);have b3d:=hEo.c b3;have hTd:=hT.ext hEd;clear h4 hc hx
    cases hin:inB st 0 ((t.streets.length:Int)-1) with
    |false=>
     have Hr:=Lib.hid (Town.follow_bad hlt (a:=av) (e:=4) (by rw[Hx.out];exact Town.stepErr_4 hin) (by decide))
     have zl:IntKind.i64.wrap ((t.streets.length:Int)-1)=(t.streets.length:Int)-1:=IntWalk.i64_in _ (by omega)
     go_wp2
     go_region_held3 (fun w'=>w'.cell? (ad.add (k*2))=some (.int .i64 st)∧w'.cell? (⟨g3,3,none⟩)=some (.slice A4 t.streets.length cp4)) (simp[*]) ((first|((go_at_call 53;refine(cN _ _ _ _).mono ?_;rintro e w' ⟨rfl,rfl⟩))))
     go_wp2
     go_ret2
     exact dQ.of (by rw[Hf.out,Hr.out]) hEd
    |true=>
     obtain⟨n,rfl,hn⟩:=fB hin;have hnlt:n<t.streets.length:=by omega
     obtain⟨ad4,rfl,hc4⟩:=h44 (by omega)
     obtain⟨sv,hs⟩:=hc4 n hnlt;have hsq:=(hs.ext hEq).1;have Hat:=Lib.hid (Town.at_eq hnlt);have zl:IntKind.i64.wrap ((t.streets.length:Int)-1)=(t.streets.length:Int)-1:=IntWalk.i64_in _ (by omega)
     have e5:=fld hsq (i:=5) (by decide) rfl
     have HstL:=Lib.hid (fun W(h:Ext wr W)=>(by have:=iM (hcq.ext h) hlt;rw[Hx.out] at this;exact this:(loadVar 82 (ad.add (k*2))).run Tryz.prog W=.ok (.agg #[.int .i64 (n:Int),.bool bk]) W))
     obtain⟨bo,hbo⟩:∃b,t.streets[n].both=b:=⟨_,rfl⟩;rw[hbo] at e5;have Hbo:=Lib.hid hbo;clear h44 hc4 hs hsq hcs hcq hbo
     cases bk with
     |false=>
      go_wp2
      go_region_held3 (fun w'=>w'.cell? (ad.add (k*2))=some (.int .i64 n)∧w'.cell? (⟨g3,3,none⟩)=some (.slice (some ad4) t.streets.length cp4)) (simp[*]) ((first|((go_at_call 53;refine(cN _ _ _ _).mono ?_;rintro e w' ⟨rfl,rfl⟩))))
      go_wp2
      have hEr7:=Ext.todrew (Ext.refl wr);generalize wr.drew=W7 at hEr7⊢;have b3n:=hEr7.c b3;have e1:=hEr7.c e1;have e2:=hEr7.c e2;have e5:=hEr7.c e5;refine wp_region_quiet_lit (by kernel_rfl) (by kernel_rfl) ?_
      repeat(any_goals(first|go_big_quiet_step (fail)|quiet_step (fail)))
      refine wpQuiet_nil ?_;intro _ hw';obtain⟨nq,hw''⟩:=hw';subst hw'';replace hEr7:=hEr7.drewN nq;generalize World.drewN W7 nq=W9 at hEr7⊢;have Hnb:=Lib.hid (show¬((false:Bool)=true∧(t.at_ (n:Int)).both=false) by rw[Hat.out];simp[Hbo.out])
      by_cases c9:(t.ends ⟨(n:Int),false⟩).1=av
      ·have q9:((t.ends ⟨(n:Int),false⟩).1 !=av)=false:=by simp[c9]
       have Hg:=Lib.hid (Town.follow_good hlt (a:=av) (by rw[Hx.out];exact Town.stepErr_0 hin Hnb.out c9))
       clear c9;go_wp2
       have hEo:=Ext.todrew hEr7;have hEd:=hEq.trans hEo;have hTd:=hT.ext hEd;have b3d:=hEo.c b3;refine aR (.take 0 (.take 1 (.take 2 (.take 3 (.take 4 (.one 5 (.take 6 (.take 7 (.take 8 (.take 9 (.take 10 .nil))))))))))) (fun w'=>Ext wr w'∧w'.cell? ⟨g3,3,none⟩=some (.slice (some ad4) t.streets.length cp4)) ?_ (fun hHd=> ?_)
       ·(first|exact True.intro|((try dsimp only);(repeat' apply And.intro)<;>first|assumption|(refine Ext.cell_some (Ext.todrew (Ext.refl _)) ?_;assumption)))
       repeat' first|((with_reducible refine aB ?_);(first|((with_reducible refine aB (i:=0) ?_);refine tk (v:=.agg #[.slice A1 t.places.length cp1,.slice A2 t.shows.length cp2,.slice A3 t.times.length cp3,.slice (some ad4) t.streets.length cp4]) ?_ hHd ?_;(·exact aA (by rfl) (fun W h=>aL (hB3r.ext h.1))))|((with_reducible refine aB (i:=4) ?_);refine tk (v:=.agg #[.int .i64 (n:Int),.bool false]) ?_ hHd ?_;(·exact aA (by rfl) (fun W h=>HstL.out W h.1)))|(refine tk (v:= ?_) ?_ hHd ?_;rotate_left;(·(intro wq hSw;(try dsimp only at hSw);go_simp;(try with_reducible rfl)))));(try simp only[pS]))|((with_reducible refine bC ?_);refine aQ (by simp only[gS];rfl) ?_)|((with_reducible refine aH (d:=some 57) ?_);((refine bD (by rfl) (dW _ t n false _ (aM.of hTd) hnlt) (by go_simp) ?_;rintro e W57 ⟨rfl,hE57⟩;refine⟨_,rfl,?_⟩;have hEw:=hEd.trans hE57;have b3w:=hE57.c b3d;have hEow:=hEo.trans hE57)))|((with_reducible refine bB ?_);clear hHd;refine aJ ?_ (fun hHd=> ?_);(·(first|exact True.intro|((try dsimp only);(repeat' apply And.intro)<;>first|assumption|(refine Ext.cell_some (Ext.todrew (Ext.refl _)) ?_;assumption))));(try simp only[pS]))|(with_reducible refine aG ?_)
       go_wp2
       go_roundw
       case rel=>exact⟨hEr.trans hEow,k+1,_,by omega,by go_num,rfl,by rw[←Hs.out,Hf.out,Hg.out,Hx.out]⟩
       case measure=>simp[intOf];omega
      ·have q9:((t.ends ⟨(n:Int),false⟩).1 !=av)=true:=by simp[c9]
       have Hg:=Lib.hid (Town.follow_bad hlt (a:=av) (e:=9) (by rw[Hx.out];exact Town.stepErr_9 hin Hnb.out c9) (by decide))
       clear c9;go_wp2
       have hEo:=Ext.todrew hEr7;have hEd:=hEq.trans hEo;have hTd:=hT.ext hEd;have b3d:=hEo.c b3;refine aR (.take 0 (.take 1 (.take 2 (.take 3 (.take 4 (.one 5 (.take 6 (.take 7 (.take 8 (.take 9 (.take 10 .nil))))))))))) (fun w'=>Ext wr w'∧w'.cell? ⟨g3,3,none⟩=some (.slice (some ad4) t.streets.length cp4)) ?_ (fun hHd=> ?_)
       ·(first|exact True.intro|((try dsimp only);(repeat' apply And.intro)<;>first|assumption|(refine Ext.cell_some (Ext.todrew (Ext.refl _)) ?_;assumption)))
       repeat' first|((with_reducible refine aB ?_);(first|((with_reducible refine aB (i:=0) ?_);refine tk (v:=.agg #[.slice A1 t.places.length cp1,.slice A2 t.shows.length cp2,.slice A3 t.times.length cp3,.slice (some ad4) t.streets.length cp4]) ?_ hHd ?_;(·exact aA (by rfl) (fun W h=>aL (hB3r.ext h.1))))|((with_reducible refine aB (i:=4) ?_);refine tk (v:=.agg #[.int .i64 (n:Int),.bool false]) ?_ hHd ?_;(·exact aA (by rfl) (fun W h=>HstL.out W h.1)))|(refine tk (v:= ?_) ?_ hHd ?_;rotate_left;(·(intro wq hSw;(try dsimp only at hSw);go_simp;(try with_reducible rfl)))));(try simp only[pS]))|((with_reducible refine bC ?_);refine aQ (by simp only[gS];rfl) ?_)|((with_reducible refine aH (d:=some 57) ?_);((refine bD (by rfl) (dW _ t n false _ (aM.of hTd) hnlt) (by go_simp) ?_;rintro e W57 ⟨rfl,hE57⟩;refine⟨_,rfl,?_⟩;have hEw:=hEd.trans hE57;have b3w:=hE57.c b3d;have hEow:=hEo.trans hE57)))|((with_reducible refine bB ?_);clear hHd;refine aJ ?_ (fun hHd=> ?_);(·(first|exact True.intro|((try dsimp only);(repeat' apply And.intro)<;>first|assumption|(refine Ext.cell_some (Ext.todrew (Ext.refl _)) ?_;assumption))));(try simp only[pS]))|(with_reducible refine aG ?_)
       go_wp2
       go_ret2
       exact dQ.of (by rw[Hf.out,Hg.out]) hEw
     |true=>
      cases bo with
      |false=>
       have Hr:=Lib.hid (Town.follow_bad hlt (a:=av) (e:=2) (by rw[Hx.out];exact Town.stepErr_2 hin rfl (by rw[Hat.out];exact Hbo.out)) (by decide))
       go_wp2
       go_region_held3 (fun w'=>w'.cell? (ad.add (k*2))=some (.int .i64 n)∧w'.cell? (⟨g3,3,none⟩)=some (.slice (some ad4) t.streets.length cp4)) (simp[*]) ((first|((go_at_call 53;refine(cN _ _ _ _).mono ?_;rintro e w' ⟨rfl,rfl⟩))))
       go_wp2
       have hEr7:=Ext.todrew (Ext.refl wr);generalize wr.drew=W7 at hEr7⊢;have b3n:=hEr7.c b3;have e1:=hEr7.c e1;have e2:=hEr7.c e2;have e5:=hEr7.c e5;refine wp_region_quiet_lit (by kernel_rfl) (by kernel_rfl) ?_
       repeat(any_goals(first|go_big_quiet_step (fail)|quiet_step (fail)))
       refine wpQuiet_nil ?_;intro _ hw';obtain⟨nq,hw''⟩:=hw';subst hw'';replace hEr7:=hEr7.drewN nq;generalize World.drewN W7 nq=W9 at hEr7⊢;go_wp2
       go_ret2
       exact dQ.of (by rw[Hf.out,Hr.out]) (hEq.trans hEr7)
      |true=>
       go_wp2
       go_region_held3 (fun w'=>w'.cell? (ad.add (k*2))=some (.int .i64 n)∧w'.cell? (⟨g3,3,none⟩)=some (.slice (some ad4) t.streets.length cp4)) (simp[*]) ((first|((go_at_call 53;refine(cN _ _ _ _).mono ?_;rintro e w' ⟨rfl,rfl⟩))))
       go_wp2
       have hEr7:=Ext.todrew (Ext.refl wr);generalize wr.drew=W7 at hEr7⊢;have b3n:=hEr7.c b3;have e1:=hEr7.c e1;have e2:=hEr7.c e2;have e5:=hEr7.c e5;refine wp_region_quiet_lit (by kernel_rfl) (by kernel_rfl) ?_
       repeat(any_goals(first|go_big_quiet_step (fail)|quiet_step (fail)))
       refine wpQuiet_nil ?_;intro _ hw';obtain⟨nq,hw''⟩:=hw';subst hw'';replace hEr7:=hEr7.drewN nq;generalize World.drewN W7 nq=W9 at hEr7⊢;have Hnb:=Lib.hid (show¬((true:Bool)=true∧(t.at_ (n:Int)).both=false) by rw[Hat.out];simp[Hbo.out])
       by_cases c9:(t.ends ⟨(n:Int),true⟩).1=av
       ·have q9:((t.ends ⟨(n:Int),true⟩).1 !=av)=false:=by simp[c9]
        have Hg:=Lib.hid (Town.follow_good hlt (a:=av) (by rw[Hx.out];exact Town.stepErr_0 hin Hnb.out c9))
        clear c9;go_wp2
        have hEo:=Ext.todrew hEr7;have hEd:=hEq.trans hEo;have hTd:=hT.ext hEd;have b3d:=hEo.c b3;refine aR (.take 0 (.take 1 (.take 2 (.take 3 (.take 4 (.one 5 (.take 6 (.take 7 (.take 8 (.take 9 (.take 10 .nil))))))))))) (fun w'=>Ext wr w'∧w'.cell? ⟨g3,3,none⟩=some (.slice (some ad4) t.streets.length cp4)) ?_ (fun hHd=> ?_)
        ·(first|exact True.intro|((try dsimp only);(repeat' apply And.intro)<;>first|assumption|(refine Ext.cell_some (Ext.todrew (Ext.refl _)) ?_;assumption)))
        repeat' first|((with_reducible refine aB ?_);(first|((with_reducible refine aB (i:=0) ?_);refine tk (v:=.agg #[.slice A1 t.places.length cp1,.slice A2 t.shows.length cp2,.slice A3 t.times.length cp3,.slice (some ad4) t.streets.length cp4]) ?_ hHd ?_;(·exact aA (by rfl) (fun W h=>aL (hB3r.ext h.1))))|((with_reducible refine aB (i:=4) ?_);refine tk (v:=.agg #[.int .i64 (n:Int),.bool true]) ?_ hHd ?_;(·exact aA (by rfl) (fun W h=>HstL.out W h.1)))|(refine tk (v:= ?_) ?_ hHd ?_;rotate_left;(·(intro wq hSw;(try dsimp only at hSw);go_simp;(try with_reducible rfl)))));(try simp only[pS]))|((with_reducible refine bC ?_);refine aQ (by simp only[gS];rfl) ?_)|((with_reducible refine aH (d:=some 57) ?_);((refine bD (by rfl) (dW _ t n true _ (aM.of hTd) hnlt) (by go_simp) ?_;rintro e W57 ⟨rfl,hE57⟩;refine⟨_,rfl,?_⟩;have hEw:=hEd.trans hE57;have b3w:=hE57.c b3d;have hEow:=hEo.trans hE57)))|((with_reducible refine bB ?_);clear hHd;refine aJ ?_ (fun hHd=> ?_);(·(first|exact True.intro|((try dsimp only);(repeat' apply And.intro)<;>first|assumption|(refine Ext.cell_some (Ext.todrew (Ext.refl _)) ?_;assumption))));(try simp only[pS]))|(with_reducible refine aG ?_)
        go_wp2
        go_roundw
        case rel=>exact⟨hEr.trans hEow,k+1,_,by omega,by go_num,rfl,by rw[←Hs.out,Hf.out,Hg.out,Hx.out]⟩
        case measure=>simp[intOf];omega
       ·have q9:((t.ends ⟨(n:Int),true⟩).1 !=av)=true:=by simp[c9]
        have Hg:=Lib.hid (Town.follow_bad hlt (a:=av) (e:=9) (by rw[Hx.out];exact Town.stepErr_9 hin Hnb.out c9) (by decide))
        clear c9;go_wp2
        have hEo:=Ext.todrew hEr7;have hEd:=hEq.trans hEo;have hTd:=hT.ext hEd;have b3d:=hEo.c b3;refine aR (.take 0 (.take 1 (.take 2 (.take 3 (.take 4 (.one 5 (.take 6 (.take 7 (.take 8 (.take 9 (.take 10 .nil))))))))))) (fun w'=>Ext wr w'∧w'.cell? ⟨g3,3,none⟩=some (.slice (some ad4) t.streets.length cp4)) ?_ (fun hHd=> ?_)
        ·(first|exact True.intro|((try dsimp only);(repeat' apply And.intro)<;>first|assumption|(refine Ext.cell_some (Ext.todrew (Ext.refl _)) ?_;assumption)))
        repeat' first|((with_reducible refine aB ?_);(first|((with_reducible refine aB (i:=0) ?_);refine tk (v:=.agg #[.slice A1 t.places.length cp1,.slice A2 t.shows.length cp2,.slice A3 t.times.length cp3,.slice (some ad4) t.streets.length cp4]) ?_ hHd ?_;(·exact aA (by rfl) (fun W h=>aL (hB3r.ext h.1))))|((with_reducible refine aB (i:=4) ?_);refine tk (v:=.agg #[.int .i64 (n:Int),.bool true]) ?_ hHd ?_;(·exact aA (by rfl) (fun W h=>HstL.out W h.1)))|(refine tk (v:= ?_) ?_ hHd ?_;rotate_left;(·(intro wq hSw;(try dsimp only at hSw);go_simp;(try with_reducible rfl)))));(try simp only[pS]))|((with_reducible refine bC ?_);refine aQ (by simp only[gS];rfl) ?_)|((with_reducible refine aH (d:=some 57) ?_);((refine bD (by rfl) (dW _ t n true _ (aM.of hTd) hnlt) (by go_simp) ?_;rintro e W57 ⟨rfl,hE57⟩;refine⟨_,rfl,?_⟩;have hEw:=hEd.trans hE57;have b3w:=hE57.c b3d;have hEow:=hEo.trans hE57)))|((with_reducible refine bB ?_);clear hHd;refine aJ ?_ (fun hHd=> ?_);(·(first|exact True.intro|((try dsimp only);(repeat' apply And.intro)<;>first|assumption|(refine Ext.cell_some (Ext.todrew (Ext.refl _)) ?_;assumption))));(try simp only[pS]))|(with_reducible refine aG ?_)
        go_wp2
        go_ret2
        exact dQ.of (by rw[Hf.out,Hg.out]) hEw
   ·obtain rfl:k=l.length:=by omega
    have Hr:=Lib.hid (show t.follow av (l.drop l.length)=(av,0) by rw[List.drop_length];rfl)
    clear h4;go_wp2
    go_ret2
    exact dQ.of (by rw[Hf.out,Hr.out]) hEq
 ·have q1:1100<(l.length:Int):=by omega
  have Hs:=Lib.hid (show t.stepsErr a l=(0,3) by unfold Town.stepsErr;rw[if_pos (by omega)])
  clear h4;go_enter Tryz.func60,Tryz.ntmps60
  go_wp2_with (first|((with_reducible refine aF (d:=some 3) ?_);intro W3 g3 hE3 hB3 hg3;simp[Act.eval,Act.put,Value.cells] at hB3;(try replace hE:=hE.trans hE3);have hb3_0:=hB3.cell 0;have hb3_1:=hB3.cell 1;have hb3_2:=hB3.cell 2;have hb3_3:=hB3.cell 3;simp at hb3_0 hb3_1 hb3_2 hb3_3;clear hE3))
  go_ret2
  exact dQ.of Hs.out hE
end Go.St
end
section
namespace Go.St
open Go Go.Bp Go.RowKit Go.Proofs
set_option maxHeartbeats 4000000 in
theorem fN(tv kv:Value)(t:Town)(k:Task)(w:World)(h:aM w tv t)(hk:bA w kv k):
 Calls Tryz.prog 38 #[tv,kv] w (dF w (t.taskErr k)):=by
 obtain⟨pv,shv,tmv,xv,rfl,hT⟩:=h;obtain⟨A1,cp1,rfl,_,hc1,_,_⟩:=hT.places;obtain⟨A2,cp2,rfl,_,hc2,_,_⟩:=hT.shows;obtain⟨A3,cp3,rfl,_,hc3,_,_⟩:=hT.times;obtain⟨A4,cp4,rfl,_,h42,_⟩:=hT.streets;obtain⟨cv,rfl,⟨A,c,rfl,h1,h2,h3,h4⟩⟩:=hk;unfold maxLen at h2 h42 hc1 hc2 hc3;clear h3;have hE:=Ext.refl w;by_cases hce:t.check.2.2=0
 ·have Hc:=Lib.hid (Town.check_zero hce);have hok:=Town.ok_of hce;have hp2:=hok.p2;have hsh:=hok.sh;have ht2:=hok.t2;have hst:=hok.st;have Hs:=Lib.hid (show t.taskErr k=if inB k.a 0 (t.places.length-1)=false∨inB k.b 0 (t.places.length-1)=false∨inB k.time 0 (t.times.length-1)=false then 4
   else if inB k.show_ 0 (t.sets-1)=false then 7 else if 40<k.closed.length then 3
   else if(k.closed.all fun n=>inB n 0 (t.streets.length-1))=false then 4 else 0 by unfold Town.taskErr;rw[if_neg (by simp[hce])])
  clear hce hok
  cases c1:inB k.a 0 (t.places.length-1) with
  |false=>
   go_enter Tryz.func38,Tryz.ntmps38
   go_wp2_with (first|((go_at_call 53;refine(cN _ _ _ _).mono ?_;rintro e w' ⟨rfl,rfl⟩))|(go_at_call 18;((with_reducible refine(dH _ t _ (by exact aM.of hT)).mono ?_);rintro e WcC ⟨rfl,hEcC⟩;(try replace hE:=hE.trans hEcC);(try replace hB2:=hB2.ext hEcC);(try replace hB3:=hB3.ext hEcC);(try replace hb2_0:=hEcC.c hb2_0);(try replace hb2_1:=hEcC.c hb2_1);(try replace hb2_2:=hEcC.c hb2_2);(try replace hb3_0:=hEcC.c hb3_0);(try replace hb3_1:=hEcC.c hb3_1);(try replace hb3_2:=hEcC.c hb3_2);(try replace hb3_3:=hEcC.c hb3_3);(try replace hb3_4:=hEcC.c hb3_4);rw[Hc.out]))|((with_reducible refine aF (d:=some 2) ?_);intro W2 g2 hE2 hB2 hg2;simp[Act.eval,Act.put,Value.cells] at hB2;(try replace hE:=hE.trans hE2);(try replace hT:=hT.ext hE2);have hb2_0:=hB2.cell 0;have hb2_1:=hB2.cell 1;have hb2_2:=hB2.cell 2;have hb2_3:=hB2.cell 3;simp at hb2_0 hb2_1 hb2_2 hb2_3;clear hE2)|((with_reducible refine aF (d:=some 3) ?_);intro W3 g3 hE3 hB3 hg3;simp[Act.eval,Act.put,Value.cells] at hB3;(try replace hE:=hE.trans hE3);(try replace hT:=hT.ext hE3);(try replace hB2:=hB2.ext hE3);(try replace hb2_0:=hE3.c hb2_0);(try replace hb2_1:=hE3.c hb2_1);(try replace hb2_2:=hE3.c hb2_2);(try replace hb2_3:=hE3.c hb2_3);have hb3_0:=hB3.cell 0;have hb3_1:=hB3.cell 1;have hb3_2:=hB3.cell 2;have hb3_3:=hB3.cell 3;have hb3_4:=hB3.cell 4;simp at hb3_0 hb3_1 hb3_2 hb3_3 hb3_4;clear hE3))
   go_ret
   exact dF.of (by rw[Hs.out,if_pos (.inl c1)]) hE
  |true=>
   cases c2:inB k.b 0 (t.places.length-1) with
   |false=>
    go_enter Tryz.func38,Tryz.ntmps38
    go_wp2_with (first|((go_at_call 53;refine(cN _ _ _ _).mono ?_;rintro e w' ⟨rfl,rfl⟩))|(go_at_call 18;((with_reducible refine(dH _ t _ (by exact aM.of hT)).mono ?_);rintro e WcC ⟨rfl,hEcC⟩;(try replace hE:=hE.trans hEcC);(try replace hB2:=hB2.ext hEcC);(try replace hB3:=hB3.ext hEcC);(try replace hb2_0:=hEcC.c hb2_0);(try replace hb2_1:=hEcC.c hb2_1);(try replace hb2_2:=hEcC.c hb2_2);(try replace hb3_0:=hEcC.c hb3_0);(try replace hb3_1:=hEcC.c hb3_1);(try replace hb3_2:=hEcC.c hb3_2);(try replace hb3_3:=hEcC.c hb3_3);(try replace hb3_4:=hEcC.c hb3_4);rw[Hc.out]))|((with_reducible refine aF (d:=some 2) ?_);intro W2 g2 hE2 hB2 hg2;simp[Act.eval,Act.put,Value.cells] at hB2;(try replace hE:=hE.trans hE2);(try replace hT:=hT.ext hE2);have hb2_0:=hB2.cell 0;have hb2_1:=hB2.cell 1;have hb2_2:=hB2.cell 2;have hb2_3:=hB2.cell 3;simp at hb2_0 hb2_1 hb2_2 hb2_3;clear hE2)|((with_reducible refine aF (d:=some 3) ?_);intro W3 g3 hE3 hB3 hg3;simp[Act.eval,Act.put,Value.cells] at hB3;(try replace hE:=hE.trans hE3);(try replace hT:=hT.ext hE3);(try replace hB2:=hB2.ext hE3);(try replace hb2_0:=hE3.c hb2_0);(try replace hb2_1:=hE3.c hb2_1);(try replace hb2_2:=hE3.c hb2_2);(try replace hb2_3:=hE3.c hb2_3);have hb3_0:=hB3.cell 0;have hb3_1:=hB3.cell 1;have hb3_2:=hB3.cell 2;have hb3_3:=hB3.cell 3;have hb3_4:=hB3.cell 4;simp at hb3_0 hb3_1 hb3_2 hb3_3 hb3_4;clear hE3))
    go_ret
    exact dF.of (by rw[Hs.out,if_pos (.inr (.inl c2))]) hE
   |true=>
    cases c3:inB k.time 0 (t.times.length-1) with
    |false=>
     go_enter Tryz.func38,Tryz.ntmps38
     go_wp2_with (first|((go_at_call 53;refine(cN _ _ _ _).mono ?_;rintro e w' ⟨rfl,rfl⟩))|(go_at_call 18;((with_reducible refine(dH _ t _ (by exact aM.of hT)).mono ?_);rintro e WcC ⟨rfl,hEcC⟩;(try replace hE:=hE.trans hEcC);(try replace hB2:=hB2.ext hEcC);(try replace hB3:=hB3.ext hEcC);(try replace hb2_0:=hEcC.c hb2_0);(try replace hb2_1:=hEcC.c hb2_1);(try replace hb2_2:=hEcC.c hb2_2);(try replace hb3_0:=hEcC.c hb3_0);(try replace hb3_1:=hEcC.c hb3_1);(try replace hb3_2:=hEcC.c hb3_2);(try replace hb3_3:=hEcC.c hb3_3);(try replace hb3_4:=hEcC.c hb3_4);rw[Hc.out]))|((with_reducible refine aF (d:=some 2) ?_);intro W2 g2 hE2 hB2 hg2;simp[Act.eval,Act.put,Value.cells] at hB2;(try replace hE:=hE.trans hE2);(try replace hT:=hT.ext hE2);have hb2_0:=hB2.cell 0;have hb2_1:=hB2.cell 1;have hb2_2:=hB2.cell 2;have hb2_3:=hB2.cell 3;simp at hb2_0 hb2_1 hb2_2 hb2_3;clear hE2)|((with_reducible refine aF (d:=some 3) ?_);intro W3 g3 hE3 hB3 hg3;simp[Act.eval,Act.put,Value.cells] at hB3;(try replace hE:=hE.trans hE3);(try replace hT:=hT.ext hE3);(try replace hB2:=hB2.ext hE3);(try replace hb2_0:=hE3.c hb2_0);(try replace hb2_1:=hE3.c hb2_1);(try replace hb2_2:=hE3.c hb2_2);(try replace hb2_3:=hE3.c hb2_3);have hb3_0:=hB3.cell 0;have hb3_1:=hB3.cell 1;have hb3_2:=hB3.cell 2;have hb3_3:=hB3.cell 3;have hb3_4:=hB3.cell 4;simp at hb3_0 hb3_1 hb3_2 hb3_3 hb3_4;clear hE3))
     go_ret
     exact dF.of (by rw[Hs.out,if_pos (.inr (.inr c3))]) hE
    |true=>
     have Hn1:=Lib.hid (show¬(inB k.a 0 (t.places.length-1)=false∨inB k.b 0 (t.places.length-1)=false∨inB k.time 0 (t.times.length-1)=false) by simp[c1,c2,c3])
     obtain⟨hset0,hset2⟩:=Town.sets_bd hsh;have cset:∀w,Calls Tryz.prog 42 #[.int .i64 t.shows.length] w fun e w'=>e=.returned (.int .i64 t.sets)∧w=w':=fun w=>jP t.shows.length (by omega) w
     obtain⟨m,hm⟩:∃m:Int,t.sets=m:=⟨_,rfl⟩;have Hm:=Lib.hid hm;rw[hm] at hset0 hset2 cset;rw[hm] at Hs;have zm:IntKind.i64.wrap (m-1)=m-1:=IntWalk.i64_in _ (by omega)
     clear hm
     cases c4:inB k.show_ 0 (m-1) with
     |false=>
      go_enter Tryz.func38,Tryz.ntmps38
      go_wp2_with (first|((go_at_call 53;refine(cN _ _ _ _).mono ?_;rintro e w' ⟨rfl,rfl⟩))|(go_at_call 18;((with_reducible refine(dH _ t _ (by exact aM.of hT)).mono ?_);rintro e WcC ⟨rfl,hEcC⟩;(try replace hE:=hE.trans hEcC);(try replace hB2:=hB2.ext hEcC);(try replace hB3:=hB3.ext hEcC);(try replace hb2_0:=hEcC.c hb2_0);(try replace hb2_1:=hEcC.c hb2_1);(try replace hb2_2:=hEcC.c hb2_2);(try replace hb3_0:=hEcC.c hb3_0);(try replace hb3_1:=hEcC.c hb3_1);(try replace hb3_2:=hEcC.c hb3_2);(try replace hb3_3:=hEcC.c hb3_3);(try replace hb3_4:=hEcC.c hb3_4);rw[Hc.out]))|((with_reducible refine aF (d:=some 2) ?_);intro W2 g2 hE2 hB2 hg2;simp[Act.eval,Act.put,Value.cells] at hB2;(try replace hE:=hE.trans hE2);(try replace hT:=hT.ext hE2);have hb2_0:=hB2.cell 0;have hb2_1:=hB2.cell 1;have hb2_2:=hB2.cell 2;have hb2_3:=hB2.cell 3;simp at hb2_0 hb2_1 hb2_2 hb2_3;clear hE2)|((with_reducible refine aF (d:=some 3) ?_);intro W3 g3 hE3 hB3 hg3;simp[Act.eval,Act.put,Value.cells] at hB3;(try replace hE:=hE.trans hE3);(try replace hT:=hT.ext hE3);(try replace hB2:=hB2.ext hE3);(try replace hb2_0:=hE3.c hb2_0);(try replace hb2_1:=hE3.c hb2_1);(try replace hb2_2:=hE3.c hb2_2);(try replace hb2_3:=hE3.c hb2_3);have hb3_0:=hB3.cell 0;have hb3_1:=hB3.cell 1;have hb3_2:=hB3.cell 2;have hb3_3:=hB3.cell 3;have hb3_4:=hB3.cell 4;simp at hb3_0 hb3_1 hb3_2 hb3_3 hb3_4;clear hE3))
      go_region_held3 (fun w'=>w'.cell? (⟨g3,2,none⟩)=some (.int .i64 k.show_)∧w'.cell? (⟨g2,1,none⟩)=some (.slice A2 t.shows.length cp2)) (simp[*]) ((first|((go_at_call 53;refine(cN _ _ _ _).mono ?_;rintro e w' ⟨rfl,rfl⟩))|((go_at_call 42;refine(cset _).mono ?_;rintro e w' ⟨rfl,rfl⟩))))
      go_wp2
      go_ret
      exact dF.of (by rw[Hs.out,if_neg Hn1.out,if_pos c4]) hE.todrew
     |true=>
      by_cases c5:40<(k.closed.length:Int)
      ·go_enter Tryz.func38,Tryz.ntmps38
       go_wp2_with (first|((go_at_call 53;refine(cN _ _ _ _).mono ?_;rintro e w' ⟨rfl,rfl⟩))|(go_at_call 18;((with_reducible refine(dH _ t _ (by exact aM.of hT)).mono ?_);rintro e WcC ⟨rfl,hEcC⟩;(try replace hE:=hE.trans hEcC);(try replace hB2:=hB2.ext hEcC);(try replace hB3:=hB3.ext hEcC);(try replace hb2_0:=hEcC.c hb2_0);(try replace hb2_1:=hEcC.c hb2_1);(try replace hb2_2:=hEcC.c hb2_2);(try replace hb3_0:=hEcC.c hb3_0);(try replace hb3_1:=hEcC.c hb3_1);(try replace hb3_2:=hEcC.c hb3_2);(try replace hb3_3:=hEcC.c hb3_3);(try replace hb3_4:=hEcC.c hb3_4);rw[Hc.out]))|((with_reducible refine aF (d:=some 2) ?_);intro W2 g2 hE2 hB2 hg2;simp[Act.eval,Act.put,Value.cells] at hB2;(try replace hE:=hE.trans hE2);(try replace hT:=hT.ext hE2);have hb2_0:=hB2.cell 0;have hb2_1:=hB2.cell 1;have hb2_2:=hB2.cell 2;have hb2_3:=hB2.cell 3;simp at hb2_0 hb2_1 hb2_2 hb2_3;clear hE2)|((with_reducible refine aF (d:=some 3) ?_);intro W3 g3 hE3 hB3 hg3;simp[Act.eval,Act.put,Value.cells] at hB3;(try replace hE:=hE.trans hE3);(try replace hT:=hT.ext hE3);(try replace hB2:=hB2.ext hE3);(try replace hb2_0:=hE3.c hb2_0);(try replace hb2_1:=hE3.c hb2_1);(try replace hb2_2:=hE3.c hb2_2);(try replace hb2_3:=hE3.c hb2_3);have hb3_0:=hB3.cell 0;have hb3_1:=hB3.cell 1;have hb3_2:=hB3.cell 2;have hb3_3:=hB3.cell 3;have hb3_4:=hB3.cell 4;simp at hb3_0 hb3_1 hb3_2 hb3_3 hb3_4;clear hE3))
       go_region_held3 (fun w'=>w'.cell? (⟨g3,2,none⟩)=some (.int .i64 k.show_)∧w'.cell? (⟨g2,1,none⟩)=some (.slice A2 t.shows.length cp2)) (simp[*]) ((first|((go_at_call 53;refine(cN _ _ _ _).mono ?_;rintro e w' ⟨rfl,rfl⟩))|((go_at_call 42;refine(cset _).mono ?_;rintro e w' ⟨rfl,rfl⟩))))
       go_wp2
       go_ret
       exact dF.of (by rw[Hs.out,if_neg Hn1.out,if_neg (by simp[c4]),if_pos (by omega)]) hE.todrew
      ·have Hs2:=Lib.hid (show t.taskErr k=if(k.closed.all fun n=>inB n 0 (t.streets.length-1))=false then 4 else 0 by rw[Hs.out,if_neg Hn1.out,if_neg (by simp[c4]),if_neg (by omega)])
       go_enter Tryz.func38,Tryz.ntmps38
       go_wp2_with (first|((go_at_call 53;refine(cN _ _ _ _).mono ?_;rintro e w' ⟨rfl,rfl⟩))|(go_at_call 18;((with_reducible refine(dH _ t _ (by exact aM.of hT)).mono ?_);rintro e WcC ⟨rfl,hEcC⟩;(try replace hE:=hE.trans hEcC);(try replace hB2:=hB2.ext hEcC);(try replace hB3:=hB3.ext hEcC);(try replace hb2_0:=hEcC.c hb2_0);(try replace hb2_1:=hEcC.c hb2_1);(try replace hb2_2:=hEcC.c hb2_2);(try replace hb3_0:=hEcC.c hb3_0);(try replace hb3_1:=hEcC.c hb3_1);(try replace hb3_2:=hEcC.c hb3_2);(try replace hb3_3:=hEcC.c hb3_3);(try replace hb3_4:=hEcC.c hb3_4);rw[Hc.out]))|((with_reducible refine aF (d:=some 2) ?_);intro W2 g2 hE2 hB2 hg2;simp[Act.eval,Act.put,Value.cells] at hB2;(try replace hE:=hE.trans hE2);(try replace hT:=hT.ext hE2);have hb2_0:=hB2.cell 0;have hb2_1:=hB2.cell 1;have hb2_2:=hB2.cell 2;have hb2_3:=hB2.cell 3;simp at hb2_0 hb2_1 hb2_2 hb2_3;clear hE2)|((with_reducible refine aF (d:=some 3) ?_);intro W3 g3 hE3 hB3 hg3;simp[Act.eval,Act.put,Value.cells] at hB3;(try replace hE:=hE.trans hE3);(try replace hT:=hT.ext hE3);(try replace hB2:=hB2.ext hE3);(try replace hb2_0:=hE3.c hb2_0);(try replace hb2_1:=hE3.c hb2_1);(try replace hb2_2:=hE3.c hb2_2);(try replace hb2_3:=hE3.c hb2_3);have hb3_0:=hB3.cell 0;have hb3_1:=hB3.cell 1;have hb3_2:=hB3.cell 2;have hb3_3:=hB3.cell 3;have hb3_4:=hB3.cell 4;simp at hb3_0 hb3_1 hb3_2 hb3_3 hb3_4;clear hE3))
       go_region_held3 (fun w'=>w'.cell? (⟨g3,2,none⟩)=some (.int .i64 k.show_)∧w'.cell? (⟨g2,1,none⟩)=some (.slice A2 t.shows.length cp2)) (simp[*]) ((first|((go_at_call 53;refine(cN _ _ _ _).mono ?_;rintro e w' ⟨rfl,rfl⟩))|((go_at_call 42;refine(cset _).mono ?_;rintro e w' ⟨rfl,rfl⟩))))
       have hEd:=hE.todrew;have hEz:=Ext.todrew (Ext.refl WcC);generalize WcC.drew=Wz at hEd hEz⊢;replace hB2:=hB2.ext hEz;replace hB3:=hB3.ext hEz;have k23:=hB2.cell 3;have k34:=hB3.cell 4;simp at k23 k34;go_wp2
       clear hE hEz hb2_0 hb2_1 hb2_2 hb2_3 hb3_0 hb3_1 hb3_2 hb3_3 hb3_4 hB2 hB3 hT;go_loopw [8] (fun i wr=>Ext Wz wr∧∃j:Nat,j≤k.closed.length∧i=.int .i64 j∧∀x∈k.closed.take j,inB x 0 (t.streets.length-1)=true) (fun i _=>k.closed.length-(intOf i).toNat)
       case atStart=>exact⟨Ext.refl _,0,by omega,rfl,by simp⟩
       case round=>
        obtain⟨hEr,j,hk,rfl,hn⟩:=hrel;have Hn:=Lib.hid hn;have hEq:=hEd.trans hEr;have b3:=hEr.c k23;have b4:=hEr.c k34;clear hn k23 k34;by_cases hlt:j<k.closed.length
        ·obtain⟨ad,rfl,hc⟩:=h4 (by omega)
         have e1:=(hc.ext hEq).i hlt;have zl:IntKind.i64.wrap ((t.streets.length:Int)-1)=(t.streets.length:Int)-1:=IntWalk.i64_in _ (by omega)
         clear h4 hc
         cases c8:inB k.closed[j] 0 (t.streets.length-1) with
         |false=>
          have Hr:=Lib.hid (show(k.closed.all fun n=>inB n 0 (t.streets.length-1))=false from List.all_eq_false.2 ⟨_,List.getElem_mem hlt,by simp[c8]⟩)
          go_wp2
          go_region_held3 (fun w'=>w'.cell? (ad.add j)=some (.int .i64 k.closed[j])∧w'.cell? (⟨g3,4,none⟩)=some (.slice (some ad) k.closed.length c)∧w'.cell? (⟨g2,3,none⟩)=some (.slice A4 t.streets.length cp4)) (simp[*]) ((first|((go_at_call 53;refine(cN _ _ _ _).mono ?_;rintro e w' ⟨rfl,rfl⟩))))
          go_wp2
          go_ret
          exact dF.of (by rw[Hs2.out,if_pos Hr.out]) hEq.todrew
         |true=>
          have Ht:=Lib.hid (lD (p:=fun n=>inB n 0 (t.streets.length-1)) hlt Hn.out c8)
          go_wp2
          go_region_held3 (fun w'=>w'.cell? (ad.add j)=some (.int .i64 k.closed[j])∧w'.cell? (⟨g3,4,none⟩)=some (.slice (some ad) k.closed.length c)∧w'.cell? (⟨g2,3,none⟩)=some (.slice A4 t.streets.length cp4)) (simp[*]) ((first|((go_at_call 53;refine(cN _ _ _ _).mono ?_;rintro e w' ⟨rfl,rfl⟩))))
          go_wp2
          go_roundw
          case rel=>exact⟨hEr.todrew,j+1,by omega,by go_num,Ht.out⟩
          case measure=>simp[intOf];omega
        ·obtain rfl:j=k.closed.length:=by omega
         have Hr:=Lib.hid (show¬(k.closed.all fun n=>inB n 0 (t.streets.length-1))=false by simp only[Bool.not_eq_false,List.all_eq_true];exact fun x hx=>Hn.out x (by rwa [List.take_length]))
         clear h4;go_wp2
         go_ret
         exact dF.of (by rw[Hs2.out,if_neg Hr.out]) hEq
 ·have Hs:=Lib.hid (show t.taskErr k=t.check.2.2 by unfold Town.taskErr;rw[if_pos hce])
  have q1:(t.check.2.2 !=0)=true:=by simp[hce]
  clear hce h4;go_enter Tryz.func38,Tryz.ntmps38
  go_wp2_with (first|(go_at_call 18;((with_reducible refine(dH _ t _ (by exact aM.of hT)).mono ?_);rintro e Wc7 ⟨rfl,hEc7⟩;(try replace hE:=hE.trans hEc7)))|((with_reducible refine aF (d:=some 2) ?_);intro W2 g2 hE2 hB2 hg2;simp[Act.eval,Act.put,Value.cells] at hB2;(try replace hE:=hE.trans hE2);(try replace hT:=hT.ext hE2);have hb2_0:=hB2.cell 0;have hb2_1:=hB2.cell 1;have hb2_2:=hB2.cell 2;have hb2_3:=hB2.cell 3;simp at hb2_0 hb2_1 hb2_2 hb2_3;clear hE2)|((with_reducible refine aF (d:=some 3) ?_);intro W3 g3 hE3 hB3 hg3;simp[Act.eval,Act.put,Value.cells] at hB3;(try replace hE:=hE.trans hE3);(try replace hT:=hT.ext hE3);(try replace hB2:=hB2.ext hE3);(try replace hb2_0:=hE3.c hb2_0);(try replace hb2_1:=hE3.c hb2_1);(try replace hb2_2:=hE3.c hb2_2);(try replace hb2_3:=hE3.c hb2_3);have hb3_0:=hB3.cell 0;have hb3_1:=hB3.cell 1;have hb3_2:=hB3.cell 2;have hb3_3:=hB3.cell 3;have hb3_4:=hB3.cell 4;simp at hb3_0 hb3_1 hb3_2 hb3_3 hb3_4;clear hE3))
  go_ret
  exact dF.of Hs.out hE
end Go.St
end
section
namespace Go.St
open Go Go.Bp Go.RowKit Go.Proofs
theorem Iz:(Tryz.prog.info? 34).map TypeInfo.size=some 2:=by kernel_rfl
namespace Town
variable{t:Town}{l:List Step}{k:Nat}
end Town
set_option maxHeartbeats 8000000 in
theorem mK(tv lv:Value)(t:Town)(a time:Int)(l:List Step)(w:World)(h:aM w tv t)(hl:bY w lv l):
 Calls Tryz.prog 21 #[tv,.int .i64 a,.int .i64 time,lv] w (Ln w (t.driveAns a time l).1 (t.driveAns a time l).2.1 (t.driveAns a time l).2.2):=by
 obtain⟨pv,shv,tmv,xv,rfl,hT⟩:=h;obtain⟨A1,cp1,rfl,_,hc1,_,_⟩:=hT.places;obtain⟨A2,cp2,rfl,_,hc2,_,_⟩:=hT.shows;obtain⟨A3,cp3,rfl,_,hc3,_,_⟩:=hT.times;obtain⟨A4,cp4,rfl,_,h42,h44⟩:=hT.streets;have hL:=hl;obtain⟨A,c,rfl,h1,h2,h3,h4⟩:=hl;unfold maxLen at h2 h42 hc1 hc2 hc3;clear h3;have hE:=Ext.refl w;by_cases hce:t.check.2.2=0
 ·have Hc:=Lib.hid (Town.check_zero hce);have Hce:=Lib.hid hce;have hok:=Town.ok_of hce;have hp2:=hok.p2;have hsh:=hok.sh;have ht2:=hok.t2;have hst:=hok.st;clear hce
  cases c1:inB a 0 (t.places.length-1) with
  |false=>
   rw[Town.driveAns_4 Hce.out (.inl c1)];go_enter Tryz.func21,Tryz.ntmps21
   go_wp2_with (first|((go_at_call 53;refine(cN _ _ _ _).mono ?_;rintro e w' ⟨rfl,rfl⟩))|(((with_reducible refine aS (d:=some 8) fW ?_);intro W8 g8 hE8 hB8 hg8;have h80:=Nat.le_trans hE.size hg8;simp[Value.cells] at hB8;replace hE:=hE.trans hE8;replace hT:=hT.ext hE8;replace hL:=hL.ext hE8;replace hB4:=hB4.ext hE8;replace hb4_0:=hE8.c hb4_0;replace hb4_1:=hE8.c hb4_1;replace hb4_2:=hE8.c hb4_2;replace hb4_3:=hE8.c hb4_3))|(go_at_call 18;((with_reducible refine(dH _ t _ (by exact aM.of hT)).mono ?_);rintro e WcC ⟨rfl,hEcC⟩;(try replace hE:=hE.trans hEcC);(try replace hT:=hT.ext hEcC);(try replace hL:=hL.ext hEcC);(try replace hB8:=hB8.ext hEcC);(try replace hB4:=hB4.ext hEcC);(try replace hb4_0:=hEcC.c hb4_0);(try replace hb4_1:=hEcC.c hb4_1);(try replace hb4_2:=hEcC.c hb4_2);(try replace hb4_3:=hEcC.c hb4_3);rw[Hc.out]))|(((with_reducible refine aK (t:=36) (e:=36) (g:=g8) (off:=0) (n:=5) (v:=.agg #[.slice none 0 0,.int .i64 0,.int .i64 0,.int .i64 0,.int .i64 0]) ?_ ?_ hB8 cW ?_ ?_ ?_ ?_);rfl;rfl;rfl;(simp[Value.cells]);(simp[Value.cells,Value.oneCell']);intro Ws hBs hgrs;simp[aI,Value.cells] at hBs;replace hE:=bI hE hgrs h80 hE.size))|((with_reducible refine aF (d:=some 4) ?_);intro W4 g4 hE4 hB4 hg4;simp[Act.eval,Act.put,Value.cells] at hB4;(try replace hE:=hE.trans hE4);(try replace hT:=hT.ext hE4);(try replace hL:=hL.ext hE4);have hb4_0:=hB4.cell 0;have hb4_1:=hB4.cell 1;have hb4_2:=hB4.cell 2;have hb4_3:=hB4.cell 3;simp at hb4_0 hb4_1 hb4_2 hb4_3;clear hE4))
   refine iK rfl rfl rfl (bT hBs) ?_;exact⟨_,rfl,⟨_,rfl,aX.nil _ _⟩,hE⟩
  |true=>
   cases c2:inB time 0 (t.times.length-1) with
   |false=>
    rw[Town.driveAns_4 Hce.out (.inr c2)];go_enter Tryz.func21,Tryz.ntmps21
    go_wp2_with (first|((go_at_call 53;refine(cN _ _ _ _).mono ?_;rintro e w' ⟨rfl,rfl⟩))|(((with_reducible refine aS (d:=some 8) fW ?_);intro W8 g8 hE8 hB8 hg8;have h80:=Nat.le_trans hE.size hg8;simp[Value.cells] at hB8;replace hE:=hE.trans hE8;replace hT:=hT.ext hE8;replace hL:=hL.ext hE8;replace hB4:=hB4.ext hE8;replace hb4_0:=hE8.c hb4_0;replace hb4_1:=hE8.c hb4_1;replace hb4_2:=hE8.c hb4_2;replace hb4_3:=hE8.c hb4_3))|(go_at_call 18;((with_reducible refine(dH _ t _ (by exact aM.of hT)).mono ?_);rintro e WcC ⟨rfl,hEcC⟩;(try replace hE:=hE.trans hEcC);(try replace hT:=hT.ext hEcC);(try replace hL:=hL.ext hEcC);(try replace hB8:=hB8.ext hEcC);(try replace hB4:=hB4.ext hEcC);(try replace hb4_0:=hEcC.c hb4_0);(try replace hb4_1:=hEcC.c hb4_1);(try replace hb4_2:=hEcC.c hb4_2);(try replace hb4_3:=hEcC.c hb4_3);rw[Hc.out]))|(((with_reducible refine aK (t:=36) (e:=36) (g:=g8) (off:=0) (n:=5) (v:=.agg #[.slice none 0 0,.int .i64 0,.int .i64 0,.int .i64 0,.int .i64 0]) ?_ ?_ hB8 cW ?_ ?_ ?_ ?_);rfl;rfl;rfl;(simp[Value.cells]);(simp[Value.cells,Value.oneCell']);intro Ws hBs hgrs;simp[aI,Value.cells] at hBs;replace hE:=bI hE hgrs h80 hE.size))|((with_reducible refine aF (d:=some 4) ?_);intro W4 g4 hE4 hB4 hg4;simp[Act.eval,Act.put,Value.cells] at hB4;(try replace hE:=hE.trans hE4);(try replace hT:=hT.ext hE4);(try replace hL:=hL.ext hE4);have hb4_0:=hB4.cell 0;have hb4_1:=hB4.cell 1;have hb4_2:=hB4.cell 2;have hb4_3:=hB4.cell 3;simp at hb4_0 hb4_1 hb4_2 hb4_3;clear hE4))
    refine iK rfl rfl rfl (bT hBs) ?_;exact⟨_,rfl,⟨_,rfl,aX.nil _ _⟩,hE⟩
   |true=>
    by_cases hse:(t.stepsErr a l).2=0
    ·rw[Town.driveAns_0 Hce.out c1 c2 hse];obtain⟨hl11,hfo⟩:=Town.stepsErr_follow hse;have hv:=Town.follow_st l a hfo;have Hbd:=Lib.hid (Town.to_bd hok hv);have Hsb:=Lib.hid (Town.sh_bd hok c2 hv);have Hsa:=Lib.hid (fun(j:Nat)(hj:j<l.length)=>Town.shownAt_bd hok (hv _ (List.getElem_mem hj)) c2)
     have Hv:=Lib.hid hv;have hset:=(Town.sets_bd hsh).2;have htm:=aV.1 c2;obtain⟨tm,rfl⟩:∃n:Nat,time=n:=⟨time.toNat,by omega⟩
     have q1:((t.stepsErr a l).2 !=0)=false:=by simp[hse]
     have Hse:=Lib.hid hse;have hl1g:([]:List Step).length+l.length≤1000000000:=by simp;omega
     clear hse hfo hv;go_enter Tryz.func21,Tryz.ntmps21
     go_wp2_with (first|((go_at_call 53;refine(cN _ _ _ _).mono ?_;rintro e w' ⟨rfl,rfl⟩))|(((with_reducible refine aS (d:=some 8) fW ?_);intro W8 g8 hE8 hB8 hg8;have h80:=Nat.le_trans hE.size hg8;simp[Value.cells] at hB8;replace hE:=hE.trans hE8;replace hT:=hT.ext hE8;replace hL:=hL.ext hE8;replace hB4:=hB4.ext hE8;replace hb4_0:=hE8.c hb4_0;replace hb4_1:=hE8.c hb4_1;replace hb4_2:=hE8.c hb4_2;replace hb4_3:=hE8.c hb4_3))|(go_at_call 18;((with_reducible refine(dH _ t _ (by exact aM.of hT)).mono ?_);rintro e WcC ⟨rfl,hEcC⟩;(try replace hE:=hE.trans hEcC);(try replace hT:=hT.ext hEcC);(try replace hL:=hL.ext hEcC);(try replace hB8:=hB8.ext hEcC);(try replace hB4:=hB4.ext hEcC);(try replace hb4_0:=hEcC.c hb4_0);(try replace hb4_1:=hEcC.c hb4_1);(try replace hb4_2:=hEcC.c hb4_2);(try replace hb4_3:=hEcC.c hb4_3);rw[Hc.out]))|(go_at_call 60;((with_reducible refine(vE _ _ t a l _ (by exact aM.of hT) hok (by exact hL)).mono ?_);rintro e WcS ⟨rfl,hEcS⟩;(try replace hE:=hE.trans hEcS);(try replace hT:=hT.ext hEcS);(try replace hL:=hL.ext hEcS);(try replace hB8:=hB8.ext hEcS);(try replace hB4:=hB4.ext hEcS);(try replace hb4_3:=hEcS.c hb4_3)))|(((with_reducible refine Eh (d:=some 59) ?_);intro W59 g59 hE59 hB59 hg59;have hO59:=aX.of_blk0 hB59 (Nat.le_trans hE.size hg59);replace hE:=hE.trans hE59;replace hL:=hL.ext hE59;replace hT:=hT.ext hE59;replace hB8:=hB8.ext hE59;replace hB4:=hB4.ext hE59))|(((with_reducible refine tZ (d:=some 61) (xs:=[]) (ys:=l) ?_ hO59 ?_ hL hl1g hE.size ?_);rfl;rfl;intro A61 c61 W61 hO61 hmono hgr;simp only[List.length_nil,Nat.zero_add,List.nil_append] at hO61⊢;replace hE:=hmono _ hE;replace hB8:=hB8.grown hgr (Blk.notown hB8 hO59 (.inl (by decide)));replace hB4:=hB4.grown hgr (Blk.notown hB4 hO59 (.inl (by decide)))))|(((with_reducible refine aO (e:=36) (u:=15) (v:=.agg #[.slice A61 l.length c61,.int .i64 0,.int .i64 0,.int .i64 0,.int .i64 0]) fW ?_ ?_ ?_ ?_ ?_ ?_);(intro g;rfl);(intro g;rfl);rfl;rfl;(exact mB rfl);intro W15 g15 hE15 hB15 hg15;simp[Value.cells] at hB15))|((with_reducible refine aF (d:=some 4) ?_);intro W4 g4 hE4 hB4 hg4;simp[Act.eval,Act.put,Value.cells] at hB4;(try replace hE:=hE.trans hE4);(try replace hT:=hT.ext hE4);(try replace hL:=hL.ext hE4);have hb4_0:=hB4.cell 0;have hb4_1:=hB4.cell 1;have hb4_2:=hB4.cell 2;have hb4_3:=hB4.cell 3;simp at hb4_0 hb4_1 hb4_2 hb4_3;clear hE4))
     have h6:=hE.size;go_loopw [16,17] (fun i _ wr=>Ext W61 wr∧∃k:Nat,k≤l.length∧i=.int .i64 k∧Blk wr g15 36 #[.slice A61 l.length c61,.int .i64 (t.mTo l k),.int .i64 (t.loTo l k),.int .i64 (t.hiTo l k),.int .i64 (t.shTo tm l k)]) (fun i _ _=>l.length-(intOf i).toNat)
     case atStart=>exact⟨hE15,0,by omega,rfl,hB15⟩
     case round=>
      obtain⟨hEr,k,hk,rfl,hB15r⟩:=hrel;clear hB15 hE15;have hEq:=Ext.trans hE hEr;have hB4r:=hB4.ext hEr;have b3:=hB4r.cell 3;simp at b3;obtain⟨⟨bm0,bm1⟩,⟨bl0,bl1⟩,⟨bh0,bh1⟩⟩:=Hbd.out k hk;obtain⟨bs0,bs1⟩:=Hsb.out k hk;by_cases hlt:k<l.length
      ·obtain⟨ad,rfl,hc⟩:=h4 (by omega)
       obtain⟨⟨st,bk⟩,hx⟩:∃x,l[k]=x:=⟨_,rfl⟩;have Hx:=Lib.hid hx;have hcs:=oU (hc.ext hEq) hlt;have hin:=Hv.out _ (List.getElem_mem hlt);have hsa:=Hsa.out k hlt;have Hm1:=Lib.hid (Town.mTo_succ (t:=t) hlt);have Hl1:=Lib.hid (Town.loTo_succ (t:=t) hlt);have Hh1:=Lib.hid (Town.hiTo_succ (t:=t) hlt);have Hs1:=Lib.hid (Town.shTo_succ (t:=t) (time:=(tm:Int)) hlt);rw[hx] at hcs hin hsa Hm1 Hl1 Hh1 Hs1;obtain⟨n,rfl,hn⟩:=fB hin;have hnlt:n<t.streets.length:=by omega
       obtain⟨ad4,rfl,hc4⟩:=h44 (by omega)
       obtain⟨sv,hs⟩:=hc4 n hnlt;have hso:=hok.at_ hnlt;have hsm:=aV.1 hso.m;have hslo:=aV.1 hso.lo;have hshi:=aV.1 hso.hi;have hsl:=hso.sh;rw[Town.at_eq hnlt] at Hm1 Hl1 Hh1;have hsx:t.shownAt (tm:Int) ⟨(n:Int),bk⟩=t.streets[n].shows.getD tm 0:=by unfold Town.shownAt;rw[Town.at_eq hnlt];simp
       rw[hsx] at hsa Hs1;obtain⟨s,hst'⟩:∃s,t.streets[n]=s:=⟨_,rfl⟩;rw[hst'] at hs hsm hslo hshi hsl hsa Hm1 Hl1 Hh1 Hs1;clear hx hc hc4 hst' hso hsx;have hsq:=hs.ext hEq;obtain⟨hs1,Ai,ci,rfl,i1,i2,i3,i4⟩:=hs;obtain⟨adI,rfl,hcI⟩:=i4 (by omega)
       have html:tm<s.shows.length:=by omega
       have e7w:=hcI.i html;have e7:=hEq.c e7w;have e1:=Gi hcs (u:=.int .i64 (n:Int)) rfl;have hsg:s.shows.getD tm 0=s.shows[tm]:=by simp[List.getD,html]
       rw[hsg] at hsa Hs1;unfold maxLen at i2;obtain⟨x,hxx⟩:∃x,s.shows[tm]=x:=⟨_,rfl⟩;rw[hxx] at e7 e7w hsa Hs1;obtain⟨m,hm⟩:∃m,t.mTo l k=m:=⟨_,rfl⟩;obtain⟨lo,hlo⟩:∃m,t.loTo l k=m:=⟨_,rfl⟩;obtain⟨hi,hhi⟩:∃m,t.hiTo l k=m:=⟨_,rfl⟩;obtain⟨sh,hsh'⟩:∃m,t.shTo (tm:Int) l k=m:=⟨_,rfl⟩;rw[hm] at bm0 bm1 hB15r Hm1;rw[hlo] at bl0 bl1 hB15r Hl1;rw[hhi] at bh0 bh1 hB15r Hh1;rw[hsh'] at bs0 bs1 hB15r Hs1;have hun:mT sh x=bP sh x:=yS bs0 (by omega) hsa.1 (by omega)
       have Hun:=Lib.hid hun;have cun:∀w,Calls Tryz.prog 61 #[.int .i64 sh,.int .i64 x] w fun e w'=>e=.returned (.int .i64 (bP sh x))∧w=w':=fun w=>by rw[←hun];exact Ez sh x ⟨bs0,by omega⟩ ⟨hsa.1,by omega⟩ w
       have z1:IntKind.i64.wrap (m+s.metres)=m+s.metres:=IntWalk.i64_in _ (by omega)
       clear hsl hm hlo hhi hsh' hun i1 i3 i4 hcI hs1 hcs h4 h44 hT hL hsg hxx hin;have hEo:=Ext.todrew (Ext.refl wr);have hlt15:=hB15r.lt;go_wp2
       refine aR (.take 0 (.take 1 (.take 2 (.take 3 (.take 4 (.take 5 (.take 6 (.take 7 (.take 8 (.one 9 (.one 10 .nil))))))))))) (fun w'=>Ext wr w'∧w'.cell? ⟨g4,3,none⟩=some (.slice (some ad4) t.streets.length cp4)∧w'.cell? (ad.add (k*2))=some (.int .i64 (n:Int))) ?_ (fun hHd=> ?_)
       ·(first|exact True.intro|((try dsimp only);(repeat' apply And.intro)<;>first|assumption|(refine Ext.cell_some (Ext.todrew (Ext.refl _)) ?_;assumption)))
       repeat' first|((with_reducible refine aB ?_);(first|((with_reducible refine aB (i:=8) ?_);refine tk (v:=.agg #[.int .i64 s.a,.int .i64 s.b,.int .i64 s.metres,.int .i64 s.lo,.int .i64 s.hi,.bool s.both,.slice (some adI) s.shows.length ci]) ?_ hHd ?_;(·exact aA (by rfl) (fun W h=>eA (hsq.ext h.1))))|(refine tk (v:= ?_) ?_ hHd ?_;rotate_left;(·(intro wq hSw;(try dsimp only at hSw);go_simp;(try with_reducible rfl)))));(try simp only[pS]))|((with_reducible refine bC ?_);refine aQ (by simp only[gS];rfl) ?_)|((with_reducible refine aH (d:=some 17) ?_);(((with_reducible refine aS (d:=some 17) sY ?_);intro W17 g17 hE17 hB17 hg17;simp[Value.cells] at hB17;have hX17:=hEo.trans hE17;have b3a:=Ext.cell_some hX17 b3;have e1a:=Ext.cell_some hX17 e1)))|((with_reducible refine aH (d:=none) ?_);(((with_reducible refine aK (t:=87) (e:=87) (g:=g17) (off:=0) (n:=7) (v:=.agg #[.int .i64 s.a,.int .i64 s.b,.int .i64 s.metres,.int .i64 s.lo,.int .i64 s.hi,.bool s.both,.slice (some adI) s.shows.length ci]) ?_ ?_ hB17 fT ?_ ?_ ?_ ?_);rfl;rfl;rfl;(simp[Value.cells]);(simp[Value.cells,Value.oneCell']);intro Ws hBs hgrs;simp[aI,Value.cells] at hBs;have hXs:=bI hX17 hgrs hg17 hX17.size;have b3s:=Ext.cell_some hXs b3;have e1s:=Ext.cell_some hXs e1;have hlt17:=hBs.lt)))|((with_reducible refine bB ?_);clear hHd;refine aJ ?_ (fun hHd=> ?_);(·(first|exact True.intro|((try dsimp only);(repeat' apply And.intro)<;>first|assumption|(refine Ext.cell_some (Ext.todrew (Ext.refl _)) ?_;assumption))));(try simp only[pS]))|(with_reducible refine aG ?_)
       have hB15s:=hB15r.ext hXs;have e7s:=Ext.cell_some hXs e7;have n57:g15≠g17:=by have:wr.heap.size≤g17:=hg17;omega
       have hEs:=hEr.trans hXs;have p1:=hB15s.cell 1;have q2:=hBs.cell 2;have q3:=hBs.cell 3;have q4:=hBs.cell 4;have q6:=hBs.cell 6;simp at p1 q2 q3 q4 q6;clear b3s e1s;go_wp2_with (first|((with_reducible refine aT (t:=3) (e:=36) (g:=g15) (off:=1) (v:=.int .i64 (m+s.metres)) ?_ ?_ hB15s jN ?_ ?_ ?_ ?_);rfl;rfl;rfl;simp;rfl;intro Wa hBa hgra;simp at hBa;have hB17a:=hBs.grown hgra (fun e=>n57 (Option.some.inj e).symm);have hEa:=bI hEs hgra hg15 hEs.size;have p2:=hBa.cell 2;have p3:=hBa.cell 3;have r3:=hB17a.cell 3;have r4:=hB17a.cell 4;simp at p2 p3 r3 r4)|((with_reducible refine aK (t:=34) (e:=36) (g:=g15) (off:=2) (n:=2) (v:=.agg #[.int .i64 (lo+s.lo),.int .i64 (hi+s.hi)]) ?_ ?_ hBa Iz ?_ ?_ ?_ ?_);rfl;rfl;rfl;(simp[Value.cells]);(simp[Value.cells,Value.oneCell']);intro Wb hBb hgrb;simp[aI,Value.cells] at hBb;have hB17b:=hB17a.grown hgrb (fun e=>n57 (Option.some.inj e).symm);have hEb:=bI hEa hgrb hg15 hEa.size))
       have r6:=hB17b.cell 6;simp at r6;have e8:Wb.cell? (adI.add tm)=some (.int .i64 x):=Ext.cell_some (Ext.trans hE hEb) e7w;have hBbd:=hBb.d;refine aR (.take 0 (.take 2 (.take 3 (.take 4 (.take 5 (.take 6 (.one 1 (.one 7 (.take 8 (.one 9 .nil)))))))))) (fun w'=>w'.cell? ⟨g17,6,none⟩=some (.slice (some adI) s.shows.length ci)∧w'.cell? (adI.add tm)=some (.int .i64 x)) ?_ (fun hHd=> ?_)
       ·(first|exact True.intro|((try dsimp only);(repeat' apply And.intro)<;>first|assumption|(refine Ext.cell_some (Ext.todrew (Ext.refl _)) ?_;assumption)))
       repeat' first|((with_reducible refine aB ?_);(refine tk (v:= ?_) ?_ hHd ?_;rotate_left;(·(intro wq hSw;(try dsimp only at hSw);go_simp;(try with_reducible rfl))));(try simp only[pS]))|((with_reducible refine bC ?_);refine aQ (by simp only[gS];rfl) ?_)|((with_reducible refine aH (d:=some 101) ?_);(((with_reducible refine aC (d:=some 101) (p:=⟨g15,4,none⟩) (v:=.int .i64 sh) ?_ ?_ ?_);rfl;exact aY Tryz.underlying3 rfl (by simpa using hBbd.cell 4))))|((with_reducible refine aH (d:=some 107) ?_);((refine bD (by rfl) (cun _) (by go_simp) ?_;rintro e w' ⟨rfl,rfl⟩;refine⟨_,rfl,?_⟩)))|((with_reducible refine aH (d:=none) ?_);(((with_reducible refine aT (t:=3) (e:=36) (g:=g15) (off:=4) (v:=.int .i64 (bP sh x)) ?_ ?_ hBbd jN ?_ ?_ ?_ ?_);rfl;rfl;rfl;simp;rfl;intro Wc hBc hgrc;simp at hBc;have hEc:=bI (Ext.todrew hEb) hgrc hg15 (Ext.todrew hEb).size;have r6c:=(Blk.cell (hB17b.d.grown hgrc (fun e=>n57 (Option.some.inj e).symm)) 6);simp at r6c;have e8c:Wc.cell? (adI.add tm)=some (.int .i64 x):=Ext.cell_some (Ext.trans hE hEc) e7w)))|((with_reducible refine bB ?_);clear hHd;refine aJ ?_ (fun hHd=> ?_);(·(first|exact True.intro|((try dsimp only);(repeat' apply And.intro)<;>first|assumption|(refine Ext.cell_some (Ext.todrew (Ext.refl _)) ?_;assumption))));(try simp only[pS]))|(with_reducible refine aG ?_)
       go_wp2
       go_roundw
       case rel=>exact⟨hEc,k+1,by omega,by go_num,by rw[Hm1.out,Hl1.out,Hh1.out,Hs1.out];exact hBc⟩
       case measure=>simp[intOf];omega
      ·obtain rfl:k=l.length:=by omega
       have hB8r:=hB8.ext hEr;have n58:g15≠g8:=by have:=hB8.lt;omega
       have hOr:=(aX.ext hO61 hEr).steps;clear hB8;go_wp2_with (first|((with_reducible refine aC (d:=some 109) (hl:=bT hB15r) ?_ ?_);rfl)|((with_reducible refine aK (t:=36) (e:=36) (g:=g8) (off:=0) (n:=5) (v:=.agg #[.slice A61 l.length c61,.int .i64 (t.mTo l l.length),.int .i64 (t.loTo l l.length),.int .i64 (t.hiTo l l.length),.int .i64 (t.shTo tm l l.length)]) ?_ ?_ hB8r cW ?_ ?_ ?_ ?_);rfl;rfl;rfl;(simp[Value.cells]);(exact mB rfl);intro Ws hBs hgrs;simp[aI,Value.cells] at hBs))
       have hOs:=fM (aX.ext hO61 hEr) hgrs (kY (aX.ext hO61 hEr) hB8r (.inl (by decide)))
       have hEs:=bI hEq hgrs h80 hEq.size;refine iK rfl rfl rfl (bT hBs) ?_;exact⟨_,rfl,⟨_,by rw[Town.tourOf_to],hOs⟩,hEs⟩
    ·have q1:((t.stepsErr a l).2 !=0)=true:=by simp[hse]
     rw[Town.driveAns_s Hce.out c1 c2 hse];clear hse;go_enter Tryz.func21,Tryz.ntmps21
     go_wp2_with (first|((go_at_call 53;refine(cN _ _ _ _).mono ?_;rintro e w' ⟨rfl,rfl⟩))|(((with_reducible refine aS (d:=some 8) fW ?_);intro W8 g8 hE8 hB8 hg8;have h80:=Nat.le_trans hE.size hg8;simp[Value.cells] at hB8;replace hE:=hE.trans hE8;replace hT:=hT.ext hE8;replace hL:=hL.ext hE8;replace hB4:=hB4.ext hE8;replace hb4_0:=hE8.c hb4_0;replace hb4_1:=hE8.c hb4_1;replace hb4_2:=hE8.c hb4_2;replace hb4_3:=hE8.c hb4_3))|(go_at_call 18;((with_reducible refine(dH _ t _ (by exact aM.of hT)).mono ?_);rintro e WcC ⟨rfl,hEcC⟩;(try replace hE:=hE.trans hEcC);(try replace hT:=hT.ext hEcC);(try replace hL:=hL.ext hEcC);(try replace hB8:=hB8.ext hEcC);(try replace hB4:=hB4.ext hEcC);(try replace hb4_0:=hEcC.c hb4_0);(try replace hb4_1:=hEcC.c hb4_1);(try replace hb4_2:=hEcC.c hb4_2);(try replace hb4_3:=hEcC.c hb4_3);rw[Hc.out]))|(go_at_call 60;((with_reducible refine(vE _ _ t a l _ (by exact aM.of hT) hok (by exact hL)).mono ?_);rintro e WcS ⟨rfl,hEcS⟩;(try replace hE:=hE.trans hEcS);(try replace hT:=hT.ext hEcS);(try replace hL:=hL.ext hEcS);(try replace hB8:=hB8.ext hEcS);(try replace hB4:=hB4.ext hEcS);(try replace hb4_3:=hEcS.c hb4_3)))|(((with_reducible refine aK (t:=36) (e:=36) (g:=g8) (off:=0) (n:=5) (v:=.agg #[.slice none 0 0,.int .i64 0,.int .i64 0,.int .i64 0,.int .i64 0]) ?_ ?_ hB8 cW ?_ ?_ ?_ ?_);rfl;rfl;rfl;(simp[Value.cells]);(simp[Value.cells,Value.oneCell']);intro Ws hBs hgrs;simp[aI,Value.cells] at hBs;replace hE:=bI hE hgrs h80 hE.size))|((with_reducible refine aF (d:=some 4) ?_);intro W4 g4 hE4 hB4 hg4;simp[Act.eval,Act.put,Value.cells] at hB4;(try replace hE:=hE.trans hE4);(try replace hT:=hT.ext hE4);(try replace hL:=hL.ext hE4);have hb4_0:=hB4.cell 0;have hb4_1:=hB4.cell 1;have hb4_2:=hB4.cell 2;have hb4_3:=hB4.cell 3;simp at hb4_0 hb4_1 hb4_2 hb4_3;clear hE4))
     refine iK rfl rfl rfl (bT hBs) ?_;exact⟨_,rfl,⟨_,rfl,aX.nil _ _⟩,hE⟩
 ·rw[Town.driveAns_c hce];have q1:(t.check.2.2 !=0)=true:=by simp[hce]
  have q2:(t.check.2.2==0)=false:=by simp[hce]
  clear hce;go_enter Tryz.func21,Tryz.ntmps21
  go_wp2_with (first|(((with_reducible refine aS (d:=some 8) fW ?_);intro W8 g8 hE8 hB8 hg8;have h80:=Nat.le_trans hE.size hg8;simp[Value.cells] at hB8;replace hE:=hE.trans hE8;replace hT:=hT.ext hE8;replace hL:=hL.ext hE8;replace hB4:=hB4.ext hE8;replace hb4_0:=hE8.c hb4_0;replace hb4_1:=hE8.c hb4_1;replace hb4_2:=hE8.c hb4_2;replace hb4_3:=hE8.c hb4_3))|(go_at_call 18;((with_reducible refine(dH _ t _ (by exact aM.of hT)).mono ?_);rintro e WcC ⟨rfl,hEcC⟩;(try replace hE:=hE.trans hEcC);(try replace hT:=hT.ext hEcC);(try replace hL:=hL.ext hEcC);(try replace hB8:=hB8.ext hEcC);(try replace hB4:=hB4.ext hEcC);(try replace hb4_0:=hEcC.c hb4_0);(try replace hb4_1:=hEcC.c hb4_1);(try replace hb4_2:=hEcC.c hb4_2);(try replace hb4_3:=hEcC.c hb4_3)))|(((with_reducible refine aK (t:=36) (e:=36) (g:=g8) (off:=0) (n:=5) (v:=.agg #[.slice none 0 0,.int .i64 0,.int .i64 0,.int .i64 0,.int .i64 0]) ?_ ?_ hB8 cW ?_ ?_ ?_ ?_);rfl;rfl;rfl;(simp[Value.cells]);(simp[Value.cells,Value.oneCell']);intro Ws hBs hgrs;simp[aI,Value.cells] at hBs;replace hE:=bI hE hgrs h80 hE.size))|((with_reducible refine aF (d:=some 4) ?_);intro W4 g4 hE4 hB4 hg4;simp[Act.eval,Act.put,Value.cells] at hB4;(try replace hE:=hE.trans hE4);(try replace hT:=hT.ext hE4);(try replace hL:=hL.ext hE4);have hb4_0:=hB4.cell 0;have hb4_1:=hB4.cell 1;have hb4_2:=hB4.cell 2;have hb4_3:=hB4.cell 3;simp at hb4_0 hb4_1 hb4_2 hb4_3;clear hE4))
  refine iK rfl rfl rfl (bT hBs) ?_;exact⟨_,rfl,⟨_,rfl,aX.nil _ _⟩,hE⟩
end Go.St
end
