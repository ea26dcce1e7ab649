/- Chapter 03: contracts of functions of the program and of the reference, and plain laws (out of SX6 StN). No condition of its own. -/
import Derived.Test.YtfjnacajjpaeiaaGreatDoorP17
set_option maxRecDepth 100000
set_option linter.all false
section
namespace Go.St
open Go Go.Bp Go.RowKit Go.Proofs
def In(w:World)(g:Nat):Nat:=match w.cell? ⟨g,0,none⟩ with|some (.string s)=>s.size|_=>0
theorem qY{w:World}{g:Nat}{s:ByteArray}(h:Blk w g 9 #[.string s]):In w g=s.size:=by
 unfold In;rw[show w.cell? ⟨g,0,none⟩=some (.string s) by simpa using h.cell 0]
set_option maxHeartbeats 4000000 in
theorem tI(tv:Value)(t:Town)(L:List UInt8)(w:World)(h:aM w tv t)(hv:Env w)(hsz:L.length≤maxLen):
 Calls Tryz.prog 32 #[tv,.string (S L)] w (yM w (t.readAns L).1 (t.readAns L).2.1 (t.readAns L).2.2):=by
 have hT0:=h;obtain⟨pv,shv,tmv,xv,rfl,hT⟩:=h;obtain⟨A1,cp1,rfl,hp1,hc1,_,hp4⟩:=hT.places;obtain⟨A2,cp2,rfl,_,hc2,_,_⟩:=hT.shows;obtain⟨A3,cp3,rfl,_,hc3,_,_⟩:=hT.times;obtain⟨A4,cp4,rfl,_,h42,h44⟩:=hT.streets;have hTw:=hT;have HA4:=Lib.hid h44;clear hp4 h44;unfold maxLen at h42 hc1 hc2 hc3 hsz;have hE:=Ext.refl w;have hmf:∀(fn:Fn)(first cap:Array Value)(w:World),(Instr.makeFunc fn first cap).run Tryz.prog w=.ok (.func fn first cap) w:=fun _ _ _ _=>rfl
 have hI0:∀W,bG W (.slice none 0 0) []:=fun W=>Sl.none_ _ _
 have hLs:(S L).size=L.length:=fD L;obtain⟨tx,htx⟩:∃tx,S L=tx:=⟨_,rfl⟩;rw[htx] at hLs⊢;have Htx:=Lib.hid htx;clear htx;by_cases hce:t.check.2.2=0
 ·have hok:=Town.ok_of hce;have Hoe:=Lib.hid (show t.openErr []=0 by unfold Town.openErr;rw[if_neg (by simp[hce])];rfl)
  by_cases h23:23000<L.length
  ·have Hre:=Lib.hid (Town.readAns_3 hce h23);have q6:(23000:Int)<L.length:=by omega
   clear hce h23;go_enter_defers Tryz.func32,Tryz.ntmps32
   go_wp2_with (first|(((with_reducible refine aF (d:=some 3) ?_);intro W3 g3 hE3 hB3 hg3;have hg30:=Nat.le_trans hE.size hg3;simp[Act.eval,Act.put,Value.cells] at hB3;replace hE:=hE.trans hE3;replace hT0:=hT0.ext hE3;replace hB2:=hB2.ext hE3))|((with_reducible refine aS (d:=some 4) ti3 ?_);intro W4 g4 hE4 hB4 hg4;have hg40:=Nat.le_trans hE.size hg4;simp[Value.cells] at hB4;(try replace hE:=hE.trans hE4);(try replace hT0:=hT0.ext hE4);(try replace hB2:=hB2.ext hE4);(try replace hB3:=hB3.ext hE4))|((with_reducible refine aS (d:=some 5) Io ?_);intro W5 g5 hE5 hB5 hg5;have hg50:=Nat.le_trans hE.size hg5;simp[Value.cells] at hB5;(try replace hE:=hE.trans hE5);(try replace hT0:=hT0.ext hE5);(try replace hB2:=hB2.ext hE5);(try replace hB3:=hB3.ext hE5);(try replace hB4:=hB4.ext hE5))|((with_reducible refine aS (d:=some 6) Ip ?_);intro W6 g6 hE6 hB6 hg6;have hg60:=Nat.le_trans hE.size hg6;simp[Value.cells] at hB6;(try replace hE:=hE.trans hE6);(try replace hT0:=hT0.ext hE6);(try replace hB2:=hB2.ext hE6);(try replace hB3:=hB3.ext hE6);(try replace hB4:=hB4.ext hE6);(try replace hB5:=hB5.ext hE6))|(((with_reducible refine aC (d:=some 19) (hl:=aL hB2) ?_ ?_);rfl))|(go_at_call 57;((with_reducible refine(cV _ _ t [] _ (by exact hT0) (hI0 _)).mono ?_);rintro e WcP ⟨rfl,hEcP⟩;(try replace hE:=hE.trans hEcP);(try replace hB3:=hB3.ext hEcP);(try replace hB4:=hB4.ext hEcP);(try replace hB5:=hB5.ext hEcP);(try replace hB6:=hB6.ext hEcP);rw[Hoe.out];have hp0:=hE.size))|((with_reducible refine aO (e:=90) (u:=7) (v:=.agg #[.slice A1 t.places.length cp1,.slice A2 t.shows.length cp2,.slice A3 t.times.length cp3,.slice A4 t.streets.length cp4]) iD ?_ ?_ ?_ ?_ ?_ ?_);(intro g;rfl);(intro g;rfl);rfl;rfl;(simp[Value.cells,Value.oneCell']);intro W7 g7 hE7 hB7 hg7;simp[Value.cells] at hB7;(try replace hE:=hE.trans hE7);(try replace hB3:=hB3.ext hE7);(try replace hB4:=hB4.ext hE7);(try replace hB5:=hB5.ext hE7);(try replace hB6:=hB6.ext hE7);have hb7_0:=hB7.cell 0;have hb7_1:=hB7.cell 1;have hb7_2:=hB7.cell 2;have hb7_3:=hB7.cell 3;simp at hb7_0 hb7_1 hb7_2 hb7_3;clear hE7)|(((with_reducible refine aT (t:=26) (g:=g6) (off:=0) (v:=.int .i64 0) ?_ ?_ hB6 kF ?_ ?_ ?_ ?_);rfl;rfl;rfl;simp;rfl;intro Ws hBs hgrs;simp at hBs;have hR:Rd w Ws g3 g4 g5 g6 g7 #[.slice A1 t.places.length cp1,.slice A2 t.shows.length cp2,.slice A3 t.times.length cp3,.slice A4 t.streets.length cp4] tx 0 (.slice none 0 0) (.slice none 0 0) []:=Rd.put6 ⟨hE,hg30,hg40,hg50,hg60,Nat.le_trans hp0 hg7,hB3,hB4,hB5,hB6,hB7,aX.nil _ _⟩ hBs hgrs;clear hE hT0 hB2 hB3 hB4 hB5 hB6 hB7 hgrs hBs hb7_0 hb7_1 hb7_2 hb7_3))|(((with_reducible refine aC (d:=some 24) (hl:=gU hR.b6) ?_ ?_);rfl))|(((with_reducible refine aC (d:=some 28) (hl:=dA hR.b3) ?_ ?_);rfl))|(((with_reducible refine aT (t:=3) (g:=g4) (off:=0) (v:=.int .i64 0) ?_ ?_ hR.b4 jN ?_ ?_ ?_ ?_);rfl;rfl;rfl;simp;rfl;intro Wa hBa hgra;simp at hBa;replace hR:=hR.put4 hBa hgra;clear hBa hgra))|(((with_reducible refine aT (t:=32) (g:=g5) (off:=0) (v:=.slice none 0 0) ?_ ?_ hR.b5 gK ?_ ?_ ?_ ?_);rfl;rfl;rfl;simp;rfl;intro Wa hBa hgra;simp at hBa;replace hR:=hR.put5 hBa hgra;clear hBa hgra))|(((with_reducible refine aT (t:=26) (g:=g6) (off:=0) (v:=.int .i64 3) ?_ ?_ hR.b6 kF ?_ ?_ ?_ ?_);rfl;rfl;rfl;simp;rfl;intro Wf hBf hgrf;simp at hBf;have f4:=hR.b4.grown hgrf (fun e=>blk_ne hR.b4 hR.b6 (by decide) (Option.some.inj e));have f5:=hR.b5.grown hgrf (fun e=>blk_ne hR.b5 hR.b6 (by decide) (Option.some.inj e));have fE:=aD hR.E hgrf hR.p6))|((with_reducible refine aF (d:=some 2) ?_);intro W2 g2 hE2 hB2 hg2;simp[Act.eval,Act.put,Value.cells] at hB2;(try replace hE:=hE.trans hE2);(try replace hT0:=hT0.ext hE2);have hb2_3:=hB2.cell 3;simp at hb2_3;clear hE2))
   refine uA ⟨rfl,_,jB rfl rfl rfl f4 f5 hBf,?_⟩;rw[Hre.out];exact⟨_,rfl,Sl.none_ _ _,fE⟩
  ·have H6:=Lib.hid (fun h=>Town.readAns_6 hce h23 h)
   have H0:=Lib.hid (fun a xs h=>Town.readAns_0 (a:=a) (xs:=xs) hce h23 h)
   have q6:¬((23000:Int)<L.length):=by omega
   clear hce;go_enter_defers Tryz.func32,Tryz.ntmps32
   go_wp2_with (first|(((with_reducible refine aF (d:=some 3) ?_);intro W3 g3 hE3 hB3 hg3;have hg30:=Nat.le_trans hE.size hg3;simp[Act.eval,Act.put,Value.cells] at hB3;replace hE:=hE.trans hE3;replace hT0:=hT0.ext hE3;replace hB2:=hB2.ext hE3))|((with_reducible refine aS (d:=some 4) ti3 ?_);intro W4 g4 hE4 hB4 hg4;have hg40:=Nat.le_trans hE.size hg4;simp[Value.cells] at hB4;(try replace hE:=hE.trans hE4);(try replace hT0:=hT0.ext hE4);(try replace hB2:=hB2.ext hE4);(try replace hB3:=hB3.ext hE4))|((with_reducible refine aS (d:=some 5) Io ?_);intro W5 g5 hE5 hB5 hg5;have hg50:=Nat.le_trans hE.size hg5;simp[Value.cells] at hB5;(try replace hE:=hE.trans hE5);(try replace hT0:=hT0.ext hE5);(try replace hB2:=hB2.ext hE5);(try replace hB3:=hB3.ext hE5);(try replace hB4:=hB4.ext hE5))|((with_reducible refine aS (d:=some 6) Ip ?_);intro W6 g6 hE6 hB6 hg6;have hg60:=Nat.le_trans hE.size hg6;simp[Value.cells] at hB6;(try replace hE:=hE.trans hE6);(try replace hT0:=hT0.ext hE6);(try replace hB2:=hB2.ext hE6);(try replace hB3:=hB3.ext hE6);(try replace hB4:=hB4.ext hE6);(try replace hB5:=hB5.ext hE6))|(((with_reducible refine aC (d:=some 19) (hl:=aL hB2) ?_ ?_);rfl))|(go_at_call 57;((with_reducible refine(cV _ _ t [] _ (by exact hT0) (hI0 _)).mono ?_);rintro e WcP ⟨rfl,hEcP⟩;(try replace hE:=hE.trans hEcP);(try replace hB3:=hB3.ext hEcP);(try replace hB4:=hB4.ext hEcP);(try replace hB5:=hB5.ext hEcP);(try replace hB6:=hB6.ext hEcP);rw[Hoe.out];have hp0:=hE.size))|((with_reducible refine aO (e:=90) (u:=7) (v:=.agg #[.slice A1 t.places.length cp1,.slice A2 t.shows.length cp2,.slice A3 t.times.length cp3,.slice A4 t.streets.length cp4]) iD ?_ ?_ ?_ ?_ ?_ ?_);(intro g;rfl);(intro g;rfl);rfl;rfl;(simp[Value.cells,Value.oneCell']);intro W7 g7 hE7 hB7 hg7;simp[Value.cells] at hB7;(try replace hE:=hE.trans hE7);(try replace hB3:=hB3.ext hE7);(try replace hB4:=hB4.ext hE7);(try replace hB5:=hB5.ext hE7);(try replace hB6:=hB6.ext hE7);have hb7_0:=hB7.cell 0;have hb7_1:=hB7.cell 1;have hb7_2:=hB7.cell 2;have hb7_3:=hB7.cell 3;simp at hb7_0 hb7_1 hb7_2 hb7_3;clear hE7)|(((with_reducible refine aT (t:=26) (g:=g6) (off:=0) (v:=.int .i64 0) ?_ ?_ hB6 kF ?_ ?_ ?_ ?_);rfl;rfl;rfl;simp;rfl;intro Ws hBs hgrs;simp at hBs;have hR:Rd w Ws g3 g4 g5 g6 g7 #[.slice A1 t.places.length cp1,.slice A2 t.shows.length cp2,.slice A3 t.times.length cp3,.slice A4 t.streets.length cp4] tx 0 (.slice none 0 0) (.slice none 0 0) []:=Rd.put6 ⟨hE,hg30,hg40,hg50,hg60,Nat.le_trans hp0 hg7,hB3,hB4,hB5,hB6,hB7,aX.nil _ _⟩ hBs hgrs;clear hE hT0 hB2 hB3 hB4 hB5 hB6 hB7 hgrs hBs hb7_0 hb7_1 hb7_2 hb7_3))|(((with_reducible refine aC (d:=some 24) (hl:=gU hR.b6) ?_ ?_);rfl))|(((with_reducible refine aC (d:=some 28) (hl:=dA hR.b3) ?_ ?_);rfl))|((with_reducible refine aF (d:=some 2) ?_);intro W2 g2 hE2 hB2 hg2;simp[Act.eval,Act.put,Value.cells] at hB2;(try replace hE:=hE.trans hE2);(try replace hT0:=hT0.ext hE2);have hb2_3:=hB2.cell 3;simp at hb2_3;clear hE2))
   rw[←Htx.out] at hR;refine(pC g3 g7 _ _ _ _ t L Ws (by omega) hR.b3 hR.b7 (hTw.ext hR.E)).mono ?_
   rintro e W8 ⟨hn,(⟨h0,rfl,hb⟩|⟨h0,rfl,hb⟩)⟩
   case inr=>
    show bodyPostD _ _ _ (.panic eW) _ _
    exact dX rfl rfl rfl rfl (hR.text hb hn.grown1) (H6.out (Town.inv_none h0))
   have hI:=Town.inv_start h0;obtain⟨a,ha⟩:∃a,t.placeIdx (dN L)=a:=⟨_,rfl⟩;replace hR:=hR.text hb hn.grown1;rw[ha] at hI;rw[ha];have hrl:=lJ L;obtain⟨l0,hl0⟩:∃l,eU L=l:=⟨_,rfl⟩;rw[hl0] at hR hI hrl;have hl3:l0.length≤23000:=by omega
   have HI:=Lib.hid hI;clear hI hb hn ha h0 hl0 hrl h23;go_wp2_with (first|((with_reducible refine aT (t:=3) (g:=g4) (off:=0) (v:=.int .i64 a) ?_ ?_ hR.b4 jN ?_ ?_ ?_ ?_);rfl;rfl;rfl;simp;rfl;intro Wa hBa hgra;simp at hBa;replace hR:=hR.put4 hBa hgra;clear hBa hgra)|((with_reducible refine aC (d:=some 35) (hl:=En hR.b4) ?_ ?_);rfl))
   go_loopw [9] (fun i wr=>∃(l:List UInt8)(at0:Int)(xs:List Step)(u:Value),i=.int .i64 at0∧Rd w wr g3 g4 g5 g6 g7 #[.slice A1 t.places.length cp1,.slice A2 t.shows.length cp2,.slice A3 t.times.length cp3,.slice A4 t.streets.length cp4] (S l) a u u xs∧Town.Inv t L a at0 xs l∧l.length≤23000∧xs.length≤1100) (fun _ wr=>In wr g3)
   case atStart=>exact⟨l0,a,[],_,rfl,hR,HI.out,hl3,by simp⟩
   case round=>
    clear hR HI hl3;obtain⟨l,at0,xs,u,rfl,hR,hI,hl3,hx⟩:=hrel;have HI:=Lib.hid hI;clear hI;obtain⟨Ak,ck,rfl,hA1,hA2,hA3,hA4⟩:=hR.own.steps;unfold maxLen at hA2;clear hA3 hA4
    cases l with
    |nil=>
     have hemp:(S []).toList.isEmpty=true:=by rw[Lib.toList_data];rfl
     have Hres:=Lib.hid (H0.out a xs (Town.inv_nil HI.out));go_wp2_with (first|((with_reducible refine aC (d:=some 36) (hl:=dA hR.b3) ?_ ?_);rfl))
     replace hR:=hR.ext (Ext.todrew (Ext.refl wr));have d4:=hR.b4.cell 0;have d5:=hR.b5.cell 0;simp at d4 d5;refine mN (.take 0 (.take 1 (.one 2 (.one 3 (.one 4 .nil))))) (fun w'=>w'.cell? ⟨g4,0,none⟩=some (.int .i64 a)∧w'.cell? ⟨g5,0,none⟩=some (.slice Ak xs.length ck)) (fun d=>d !=4&&d !=5&&d !=6) (by kernel_rfl) (by kernel_rfl) (by kernel_rfl) (by kernel_rfl) (by kernel_rfl) (fun c a d v w hd h=>Ou hd h) ?_ (fun hHd=> ?_)
     ·(first|exact True.intro|((try dsimp only);(repeat' apply And.intro)<;>first|assumption|(refine Ext.cell_some (Ext.todrew (Ext.refl _)) ?_;assumption)))
     repeat' first|((with_reducible refine aB ?_);(first|((with_reducible refine aB (i:=0) ?_);refine tk (v:=.int .i64 a) ?_ hHd ?_;(·(intro wq hSw;have e0:=hSw.1;go_simp)))|((with_reducible refine aB (i:=1) ?_);refine tk (v:=.slice Ak xs.length ck) ?_ hHd ?_;(·(intro wq hSw;have e0:=hSw.2;go_simp))));(try simp only[pS]))|((with_reducible refine bC ?_);refine aQ (by simp only[gS];rfl) ?_)|((with_reducible refine aH (d:=none) ?_);((first|((with_reducible refine aT (t:=3) (g:=g4) (off:=0) (v:=.int .i64 a) ?_ ?_ hR.b4 jN ?_ ?_ ?_ ?_);rfl;rfl;rfl;simp;rfl;intro Wa1 hBa hgra;simp at hBa;replace hR:=hR.put4 hBa hgra;clear hBa hgra;have d4:=hR.b4.cell 0;have d5:=hR.b5.cell 0;simp at d4 d5)|((with_reducible refine aT (t:=32) (g:=g5) (off:=0) (v:=.slice Ak xs.length ck) ?_ ?_ hR.b5 gK ?_ ?_ ?_ ?_);rfl;rfl;rfl;simp;rfl;intro Wa2 hBa hgra;simp at hBa;replace hR:=hR.put5 hBa hgra;clear hBa hgra;have d4:=hR.b4.cell 0;have d5:=hR.b5.cell 0;simp at d4 d5)|((with_reducible refine aT (t:=26) (g:=g6) (off:=0) (v:=.int .i64 0) ?_ ?_ hR.b6 kF ?_ ?_ ?_ ?_);rfl;rfl;rfl;simp;rfl;intro Wa3 hBa hgra;simp at hBa;replace hR:=hR.put6 hBa hgra;clear hBa hgra;have d4:=hR.b4.cell 0;have d5:=hR.b5.cell 0;simp at d4 d5))))|((with_reducible refine bB ?_);clear hHd;refine aJ ?_ (fun hHd=> ?_);(·(first|exact True.intro|((try dsimp only);(repeat' apply And.intro)<;>first|assumption|(refine Ext.cell_some (Ext.todrew (Ext.refl _)) ?_;assumption))));(try simp only[pS]))|(with_reducible refine aG ?_)
     (go_wp2;exact Fk rfl rfl rfl rfl hR.b4 hR.b5 hR.b6 hR.own.steps hR.E Hres.out)
    |cons b l=>
     have htl:=qY hR.b3;have hemp:(S (b::l)).toList.isEmpty=false:=by rw[Lib.toList_data];rfl
     have Hbad:=Lib.hid (fun h=>H6.out (Town.inv_bad HI.out h))
     have Hstep:=Lib.hid (fun x h=>Town.inv_step (x:=x) HI.out h)
     simp only[List.length_cons] at hl3;obtain⟨ts,hts⟩:∃ts,S (b::l)=ts:=⟨_,rfl⟩;have hcutS:=fun W=>Ol (S l) (by rw[fD];omega) W
     rw[iX] at hcutS;obtain⟨r1,hr1⟩:∃r1,S l=r1:=⟨_,rfl⟩;have hsl:ts.extract 1 ts.size=r1:=by rw[←hts,←hr1];exact Bg (by rw[kC,iX,fD];simp)
     have hts1:1≤ts.size:=by rw[←hts,fD];simp
     have hr1b:r1.size≤23000:=by rw[←hr1,fD];omega
     rw[hts] at hR hemp htl;have Htl:=Lib.hid htl;clear htl;rw[hr1] at hcutS;have Hts:=Lib.hid hts;clear hts hr1;by_cases hm:(46:UInt8)∈l
     ·obtain⟨H,hH⟩:∃H,S (eD l)=H:=⟨_,rfl⟩;obtain⟨R,hR0⟩:∃R,S (cJ l)=R:=⟨_,rfl⟩;have hlt:=wS hm;have hHb:H.size≤23000:=by rw[←hH,fD];omega
      have hHl:H.data.toList=eD l:=by rw[←hH,iX]
      have hc:∀W,Calls Tryz.prog 85 #[.string r1,.string {data:=#[46]}] W fun e w'=>Ext W w'∧e=.returned (.tuple #[.string H,.string R,.bool true]):=fun W=>(hcutS W).mono fun e w' h=>⟨h.1,by rw[h.2.1 hm,hH,hR0]⟩
      have Hc:=Lib.hid hc;have HR0:=Lib.hid hR0;have Hnum:=Lib.hid (fun k h=>Town.stepL_num (t:=t) (at0:=at0) (b:=b) (k:=k) hm h (n:=xs.length))
      have Hnon:=Lib.hid (fun h=>Hbad.out (Town.stepL_nonum h))
      have Hlt:=Lib.hid hlt;have Hbad2:=Lib.hid Hbad.out;clear hcutS hc hm hR0 hH hlt Hbad;go_wp2_with (first|((with_reducible refine aC (d:=some 36) (hl:=dA hR.b3) ?_ ?_);rfl)|((with_reducible refine aC (d:=some 39) (hl:=dA hR.b3) ?_ ?_);rfl)|(go_at_call 85;refine(Hc.out _).mono ?_;rintro e Wc ⟨hEc,rfl⟩;replace hR:=hR.ext hEc))
      refine(wK H (by omega) _ (hv.ext hR.E)).mono ?_
      rw[hHl];rintro e Wd ⟨hEd,n,ev,rfl,(⟨ho,rfl⟩|⟨hno,te,pe,rfl⟩)⟩
      case inr=>
       have Hf:=Lib.hid (Hnon.out (by unfold sZ;cases h:Lib.atoiAll (eD l)<;>first|rfl|exact absurd h (hno _)))
       replace hR:=hR.ext hEd;clear hno Hnon Hnum;go_wp2_with (first|(go_at_call 84;refine(gD _).mono ?_;rintro e Wm ⟨rfl,rfl⟩))
       show bodyPostD _ _ _ (.panic eW) _ _
       exact dX rfl rfl rfl rfl hR Hf.out
      replace hR:=hR.ext hEd;have hb:=Ob ho;obtain⟨T,hT⟩:∃T,S (Lib.itoa n)=T:=⟨_,rfl⟩;have HI:=Lib.hid (fun W(hW:Env W)=>by have:=xK n hb.1 hb.2 W hW;rw[hT] at this;exact this)
      by_cases hq:Lib.itoa n=eD l
      case neg=>
       have Hf:=Lib.hid (Hnon.out (by unfold sZ;rw[ho];simp[hq]))
       have hTs:¬T=H:=by rintro rfl;exact hq (by rw[←hHl,←hT,iX])
       have hTb:(T.toList==H.toList)=false:=by rw[Bf];simp[hTs]
       clear hq ho hT hTs hHl Hnon Hnum;go_wp2_with (first|(go_at_call 77;refine(HI.out _ (hv.ext hR.E)).mono ?_;rintro e We ⟨rfl,hEe⟩;replace hR:=hR.ext hEe)|(go_at_call 84;refine(gD _).mono ?_;rintro e Wm ⟨rfl,rfl⟩))
       show bodyPostD _ _ _ (.panic eW) _ _
       exact dX rfl rfl rfl rfl hR Hf.out
      have Hn:=Lib.hid (Hnum.out n (by unfold sZ;rw[ho];simp[hq]))
      have hTb:(T.toList==H.toList)=true:=by rw[←hT,hq,←hHl,rO];simp
      clear hq ho hT hHl Hnon Hnum hb;have c73:=hR.b7.cell 3;have c50:=hR.b5.cell 0;simp at c73 c50;have hst:=hok.st
      cases hin:inB n 0 (t.streets.length-1) with
      |false=>
       have m3:eC 0 ((t.streets.length:Int)-1) [n]=true:=by rw[fU,hin];rfl
       have Hf:=Lib.hid (Hbad2.out (by rw[Hn.out,if_neg (by rw[hin];simp)]))
       clear hin;go_wp2_with (first|(go_at_call 77;((with_reducible refine(HI.out _ (by exact hv.ext hR.E)).mono ?_);rintro e Wc3 ⟨rfl,hEc3⟩;(try replace hR:=hR.ext hEc3);(try replace c73:=hEc3.c c73);(try replace c50:=hEc3.c c50)))|((with_reducible refine bR (d:=some 68) (t:=41) (n:=1) (gd:=some (11,true)) (e:=3) (cs:=#[.int .i64 (n)]) ?_ ?_ ?_);(first|rfl|(simp[Region.wanted,yielded];done)|(simp[Region.wanted,yielded];omega)|trace_state);(simp[Act.eval];exact oE (n));intro W68 g68 hE68 hB68 hg68;(try replace hR:=hR.ext hE68);(try replace c73:=hE68.c c73);(try replace c50:=hE68.c c50);have hI68:bG W68 (.slice (some ⟨g68,0,none⟩) 1 1) [n]:=aU hB68;clear hB68 hg68 hE68)|(go_at_call 46;((with_reducible refine((bS (by exact hI68) m3)).mono ?_);rintro e WcO ⟨rfl,hEcO⟩;(try replace hR:=hR.ext hEcO);(try replace hI68:=hI68.ext hEcO);(try replace c73:=hEcO.c c73);(try replace c50:=hEcO.c c50)))|((go_at_call 84;refine(gD _).mono ?_;rintro e Wm ⟨rfl,rfl⟩)))
       show bodyPostD _ _ _ (.panic eW) _ _
       exact dX rfl rfl rfl rfl hR Hf.out
      |true=>
       have m3:eC 0 ((t.streets.length:Int)-1) [n]=false:=by rw[fU,hin];rfl
       by_cases hxl:xs.length<1100
       case neg=>
        have Hf:=Lib.hid (Hbad2.out (by rw[Hn.out,if_neg (by simp[hxl])]))
        have q11:decide ((xs.length:Int)<1100)=false:=by simp;omega
        clear hin hxl;go_wp2_with (first|(go_at_call 77;((with_reducible refine(HI.out _ (by exact hv.ext hR.E)).mono ?_);rintro e Wc5 ⟨rfl,hEc5⟩;(try replace hR:=hR.ext hEc5);(try replace c73:=hEc5.c c73);(try replace c50:=hEc5.c c50)))|((with_reducible refine bR (d:=some 68) (t:=41) (n:=1) (gd:=some (11,true)) (e:=3) (cs:=#[.int .i64 (n)]) ?_ ?_ ?_);(first|rfl|(simp[Region.wanted,yielded];done)|(simp[Region.wanted,yielded];omega)|trace_state);(simp[Act.eval];exact oE (n));intro W68 g68 hE68 hB68 hg68;(try replace hR:=hR.ext hE68);(try replace c73:=hE68.c c73);(try replace c50:=hE68.c c50);have hI68:bG W68 (.slice (some ⟨g68,0,none⟩) 1 1) [n]:=aU hB68;clear hB68 hg68 hE68)|(go_at_call 46;((with_reducible refine((bS (by exact hI68) m3)).mono ?_);rintro e WcO ⟨rfl,hEcO⟩;(try replace hR:=hR.ext hEcO);(try replace hI68:=hI68.ext hEcO);(try replace c73:=hEcO.c c73);(try replace c50:=hEcO.c c50)))|((go_at_call 84;(try rw[q11]);refine(gD _).mono ?_;rintro e Wm ⟨rfl,rfl⟩)))
        show bodyPostD _ _ _ (.panic eW) _ _
        exact dX rfl rfl rfl rfl hR Hf.out
       have q11:decide ((xs.length:Int)<1100)=true:=by simp;omega
       obtain⟨m,rfl,hm⟩:=fB hin;have hm':m<t.streets.length:=by omega
       obtain⟨bk,hbk⟩:∃k,decide (b=61)=k:=⟨_,rfl⟩;have hb61:((b.toNat:Int)==61)=bk:=by
        rw[←hbk];by_cases h:b=61
        ·subst h;decide
        ·have:b.toNat≠61:=fun e=>h (UInt8.toNat_inj.1 e)
         simp[h];omega
       rw[hbk] at Hn;have Hn2:=Lib.hid (show(xs.length<1100∧inB (m:Int) 0 (t.streets.length-1)=true) from⟨hxl,hin⟩)
       clear hin hbk;have hget:ts[0]'(by omega)=b:=by
        have h1:=Lib.data_getElem? ts 0 (by omega)
        have h0:ts.data.toList=b::l:=by rw[←Hts.out,iX]
        rw[h0] at h1;simpa using h1.symm
       rw[←hget] at hb61;have hls:l.length+1=ts.size:=by rw[←Hts.out,fD];simp
       have Hls:=Lib.hid hls;clear hls hget;obtain⟨ad4,rfl,hc4⟩:=HA4.out (by omega)
       obtain⟨ssv,hss⟩:=hc4 m hm';have e5:=fld hss.1 (i:=5) (by decide) rfl
       rw[show t.streets[m]=t.at_ (m:Int) from(Town.at_eq hm').symm] at e5
       replace e5:=Ext.cell_some hR.E e5;have zm:(m:Int)<(t.streets.length:Int):=by omega
       clear hss hc4;obtain⟨f0,hf0⟩:∃x,(t.ends ⟨(m:Int),bk⟩).1=x:=⟨_,rfl⟩;obtain⟨e0,he0⟩:∃x,(t.ends ⟨(m:Int),bk⟩).2=x:=⟨_,rfl⟩;have Hends:=Lib.hid (fun W(hW:aM W (.agg #[.slice A1 t.places.length cp1,.slice A2 t.shows.length cp2,.slice A3 t.times.length cp3,.slice (some ad4) t.streets.length cp4]) t)=>by have:=fL _ t m bk W hW hm';rw[hf0,he0] at this;exact this)
       rw[hf0,he0] at Hn;have He0:=Lib.hid he0;clear hf0 he0;obtain⟨bo,hbo⟩:∃k,(t.at_ (m:Int)).both=k:=⟨_,rfl⟩;rw[hbo] at e5 Hn;have Hbo:=Lib.hid hbo;clear hbo hxl
       cases bk
       case false=>
        by_cases hfa:f0=at0
        case neg=>
         have Hf:=Lib.hid (Hbad2.out (by rw[Hn.out,if_neg (fun h=>hfa h.2.2.2.1)]))
         have q12:(f0==at0)=false:=by simp[hfa]
         go_wp2_with (first|(go_at_call 77;((with_reducible refine(HI.out _ (by exact hv.ext hR.E)).mono ?_);rintro e Wc7 ⟨rfl,hEc7⟩;(try replace hR:=hR.ext hEc7);(try replace c73:=hEc7.c c73);(try replace c50:=hEc7.c c50);(try replace e5:=hEc7.c e5)))|((with_reducible refine bR (d:=some 68) (t:=41) (n:=1) (gd:=some (11,true)) (e:=3) (cs:=#[.int .i64 ((m:Int))]) ?_ ?_ ?_);(first|rfl|(simp[Region.wanted,yielded];done)|(simp[Region.wanted,yielded];omega)|trace_state);(simp[Act.eval];exact oE ((m:Int)));intro W68 g68 hE68 hB68 hg68;(try replace hR:=hR.ext hE68);(try replace c73:=hE68.c c73);(try replace c50:=hE68.c c50);(try replace e5:=hE68.c e5);have hI68:bG W68 (.slice (some ⟨g68,0,none⟩) 1 1) [(m:Int)]:=aU hB68;clear hB68 hg68 hE68)|(go_at_call 46;((with_reducible refine((bS (by exact hI68) m3)).mono ?_);rintro e WcO ⟨rfl,hEcO⟩;(try replace hR:=hR.ext hEcO);(try replace hI68:=hI68.ext hEcO);(try replace c73:=hEcO.c c73);(try replace c50:=hEcO.c c50);(try replace e5:=hEcO.c e5)))|((go_at_call 84;(try rw[q11]);refine(jC _).mono ?_;rintro e Wm ⟨rfl,rfl⟩))|((go_at_call 84;refine(gD _).mono ?_;rintro e Wm ⟨rfl,rfl⟩))|(((with_reducible refine aC (d:=some 79) (hl:=dA hR.b3) ?_ ?_);rfl))|((with_reducible refine aO (e:=82) (u:=15) (v:=.agg #[.int .i64 (m:Int),.bool false]) qZ ?_ ?_ ?_ ?_ ?_ ?_);(intro g;rfl);(intro g;rfl);rfl;rfl;(simp[Value.cells,Value.oneCell']);intro W15 g15 hE15 hB15 hg15;simp[Value.cells] at hB15;(try replace hR:=hR.ext hE15);(try replace hI68:=hI68.ext hE15);(try replace c73:=hE15.c c73);(try replace c50:=hE15.c c50);(try replace e5:=hE15.c e5);have hb15_0:=hB15.cell 0;have hb15_1:=hB15.cell 1;simp at hb15_0 hb15_1;clear hE15)|(((with_reducible refine aT (t:=9) (g:=g3) (off:=0) (v:=.string R) ?_ ?_ hR.b3 nN ?_ ?_ ?_ ?_);rfl;rfl;rfl;simp;rfl;intro Wx hBx hgrx;simp at hBx;have n153:=blk_ne hB15 hR.b3 (by decide);replace hB15:=hB15.grown hgrx (fun e=>n153 (Option.some.inj e));replace hR:=hR.text hBx hgrx;clear hBx hgrx))|(((with_reducible refine aC (d:=some 98) (hl:=bJ hR.b7) ?_ ?_);rfl))|(((with_reducible refine aC (d:=some 99) (hl:=bZ hB15) ?_ ?_);rfl))|(go_at_call 65;((with_reducible refine(Hends.out _ (by exact aM.of (hTw.ext hR.E))).mono ?_);rintro e WcE ⟨rfl,hEcE⟩;(try replace hR:=hR.ext hEcE);(try replace hB15:=hB15.ext hEcE))))
         show bodyPostD _ _ _ (.panic eW) _ _
         exact dX rfl rfl rfl rfl hR Hf.out
        have q12:(f0==at0)=true:=by simp[hfa]
        go_wp2_with (first|(go_at_call 77;((with_reducible refine(HI.out _ (by exact hv.ext hR.E)).mono ?_);rintro e Wc10 ⟨rfl,hEc10⟩;(try replace hR:=hR.ext hEc10);(try replace c73:=hEc10.c c73);(try replace c50:=hEc10.c c50);(try replace e5:=hEc10.c e5)))|((with_reducible refine bR (d:=some 68) (t:=41) (n:=1) (gd:=some (11,true)) (e:=3) (cs:=#[.int .i64 ((m:Int))]) ?_ ?_ ?_);(first|rfl|(simp[Region.wanted,yielded];done)|(simp[Region.wanted,yielded];omega)|trace_state);(simp[Act.eval];exact oE ((m:Int)));intro W68 g68 hE68 hB68 hg68;(try replace hR:=hR.ext hE68);(try replace c73:=hE68.c c73);(try replace c50:=hE68.c c50);(try replace e5:=hE68.c e5);have hI68:bG W68 (.slice (some ⟨g68,0,none⟩) 1 1) [(m:Int)]:=aU hB68;clear hB68 hg68 hE68)|(go_at_call 46;((with_reducible refine((bS (by exact hI68) m3)).mono ?_);rintro e WcO ⟨rfl,hEcO⟩;(try replace hR:=hR.ext hEcO);(try replace hI68:=hI68.ext hEcO);(try replace c73:=hEcO.c c73);(try replace c50:=hEcO.c c50);(try replace e5:=hEcO.c e5)))|((go_at_call 84;(try rw[q11]);refine(jC _).mono ?_;rintro e Wm ⟨rfl,rfl⟩))|(((with_reducible refine aC (d:=some 79) (hl:=dA hR.b3) ?_ ?_);rfl))|((with_reducible refine aO (e:=82) (u:=15) (v:=.agg #[.int .i64 (m:Int),.bool false]) qZ ?_ ?_ ?_ ?_ ?_ ?_);(intro g;rfl);(intro g;rfl);rfl;rfl;(simp[Value.cells,Value.oneCell']);intro W15 g15 hE15 hB15 hg15;simp[Value.cells] at hB15;(try replace hR:=hR.ext hE15);(try replace hI68:=hI68.ext hE15);(try replace c73:=hE15.c c73);(try replace c50:=hE15.c c50);(try replace e5:=hE15.c e5);have hb15_0:=hB15.cell 0;have hb15_1:=hB15.cell 1;simp at hb15_0 hb15_1;clear hE15)|(((with_reducible refine aT (t:=9) (g:=g3) (off:=0) (v:=.string R) ?_ ?_ hR.b3 nN ?_ ?_ ?_ ?_);rfl;rfl;rfl;simp;rfl;intro Wx hBx hgrx;simp at hBx;have n153:=blk_ne hB15 hR.b3 (by decide);replace hB15:=hB15.grown hgrx (fun e=>n153 (Option.some.inj e));replace hR:=hR.text hBx hgrx;clear hBx hgrx))|(((with_reducible refine aC (d:=some 98) (hl:=bJ hR.b7) ?_ ?_);rfl))|(((with_reducible refine aC (d:=some 99) (hl:=bZ hB15) ?_ ?_);rfl))|(go_at_call 65;((with_reducible refine(Hends.out _ (by exact aM.of (hTw.ext hR.E))).mono ?_);rintro e WcE ⟨rfl,hEcE⟩;(try replace hR:=hR.ext hEcE);(try replace hB15:=hB15.ext hEcE))))
        rw[←HR0.out] at hR;have hlb:=Hlt.out;refine(pC g3 g7 _ _ _ _ t (cJ l) _ (by omega) hR.b3 hR.b7 (hTw.ext hR.E)).mono ?_
        rintro e Wp ⟨hn,(⟨h0,rfl,hb⟩|⟨h0,rfl,hb⟩)⟩
        case inr=>
         have Hf:=Lib.hid (Hbad2.out (by rw[Hn.out,if_neg (fun h=>by have:=h.2.2.2.2.2;omega)]))
         show bodyPostD _ _ _ (.panic eW) _ _
         exact dX rfl rfl rfl rfl (hR.text hb hn.grown1) Hf.out
        have n153:=blk_ne hB15 hR.b3 (by decide)
        replace hB15:=hB15.grown hn.grown1 (fun e=>n153 (Option.some.inj e))
        replace hR:=hR.text hb hn.grown1;have hrl:=lJ (cJ l);obtain⟨l2,hl2⟩:∃x,eU (cJ l)=x:=⟨_,rfl⟩;rw[hl2] at hR hrl Hstep;obtain⟨p,hp⟩:∃p,t.placeIdx (dN (cJ l))=p:=⟨_,rfl⟩;rw[hp] at h0 Hn⊢;clear hb hn hp hl2 n153;by_cases hpe:p=e0
        case neg=>
         have Hf:=Lib.hid (Hbad2.out (by rw[Hn.out,if_neg (fun h=>hpe h.2.2.2.2.1)]))
         have q13:(p==e0)=false:=by simp[hpe]
         clear hrl hlb;go_wp2_with (first|(go_at_call 84;(try rw[q13]);refine(gD _).mono ?_;rintro e Wm ⟨rfl,rfl⟩))
         show bodyPostD _ _ _ (.panic eW) _ _
         exact dX rfl rfl rfl rfl hR Hf.out
        have q13:(p==e0)=true:=by simp[hpe]
        have Hs:=Lib.hid (Hstep.out ⟨(m:Int),false⟩ (by rw[Hn.out,if_pos ⟨Hn2.out.2,Hn2.out.1,by simp,hfa,hpe,h0⟩]))
        rw[He0.out] at Hs;have hx1:xs.length<1100:=Hn2.out.1;have hlen:l2.length<ts.size∧l2.length≤23000:=by have:=Hls.out;omega
        have Hlen:=Lib.hid hlen;clear hrl hlb hlen hpe hfa h0;go_wp2_with (first|(go_at_call 84;(try rw[q13]);refine(jC _).mono ?_;rintro e Wm ⟨rfl,rfl⟩)|((with_reducible refine aC (d:=some 113) (hl:=rH hR.b5) ?_ ?_);rfl)|((with_reducible refine aC (d:=some 114) (hl:=bZ hB15) ?_ ?_);rfl)|((with_reducible refine kU (d:=some 115) (p:=(m:Int)) (q:=false) ?_ ?_);rfl;intro W20 g20 hE20 hB20 hg20;replace hR:=hR.ext hE20)|((with_reducible refine iV (d:=some 116) (y:=⟨(m:Int),false⟩) ?_ hR.own ?_ hB20 ?_ ?_ ?_);rfl;rfl;omega;exact hR.E.size;intro A21 c21 W21 hO21 hm21 hg21;replace hR:=hR.app hO21 hm21 hg21)|((with_reducible refine aT (t:=32) (g:=g5) (off:=0) (v:=.slice A21 (xs.length+1) c21) ?_ ?_ hR.b5 gK ?_ ?_ ?_ ?_);rfl;rfl;rfl;simp;rfl;intro Wz hBz hgrz;simp at hBz;replace hR:=hR.put5 hBz hgrz))
        go_roundw
        case rel=>exact⟨l2,e0,xs++ [⟨(m:Int),false⟩],_,rfl,hR,Hs.out,Hlen.out.2,by simp;omega⟩
        case measure=>rw[qY hR.b3,Htl.out,fD];exact Hlen.out.1
       case true=>
        cases bo
        case false=>
         have Hf:=Lib.hid (Hbad2.out (by rw[Hn.out,if_neg (by simp[Hbo.out])]))
         go_wp2_with (first|(go_at_call 77;((with_reducible refine(HI.out _ (by exact hv.ext hR.E)).mono ?_);rintro e Wc13 ⟨rfl,hEc13⟩;(try replace hR:=hR.ext hEc13);(try replace c73:=hEc13.c c73);(try replace c50:=hEc13.c c50);(try replace e5:=hEc13.c e5)))|((with_reducible refine bR (d:=some 68) (t:=41) (n:=1) (gd:=some (11,true)) (e:=3) (cs:=#[.int .i64 ((m:Int))]) ?_ ?_ ?_);(first|rfl|(simp[Region.wanted,yielded];done)|(simp[Region.wanted,yielded];omega)|trace_state);(simp[Act.eval];exact oE ((m:Int)));intro W68 g68 hE68 hB68 hg68;(try replace hR:=hR.ext hE68);(try replace c73:=hE68.c c73);(try replace c50:=hE68.c c50);(try replace e5:=hE68.c e5);have hI68:bG W68 (.slice (some ⟨g68,0,none⟩) 1 1) [(m:Int)]:=aU hB68;clear hB68 hg68 hE68)|(go_at_call 46;((with_reducible refine((bS (by exact hI68) m3)).mono ?_);rintro e WcO ⟨rfl,hEcO⟩;(try replace hR:=hR.ext hEcO);(try replace hI68:=hI68.ext hEcO);(try replace c73:=hEcO.c c73);(try replace c50:=hEcO.c c50);(try replace e5:=hEcO.c e5)))|((go_at_call 84;(try rw[q11]);refine(jC _).mono ?_;rintro e Wm ⟨rfl,rfl⟩))|((go_at_call 84;refine(gD _).mono ?_;rintro e Wm ⟨rfl,rfl⟩))|(((with_reducible refine aC (d:=some 79) (hl:=dA hR.b3) ?_ ?_);rfl))|((with_reducible refine aO (e:=82) (u:=15) (v:=.agg #[.int .i64 (m:Int),.bool true]) qZ ?_ ?_ ?_ ?_ ?_ ?_);(intro g;rfl);(intro g;rfl);rfl;rfl;(simp[Value.cells,Value.oneCell']);intro W15 g15 hE15 hB15 hg15;simp[Value.cells] at hB15;(try replace hR:=hR.ext hE15);(try replace hI68:=hI68.ext hE15);(try replace c73:=hE15.c c73);(try replace c50:=hE15.c c50);(try replace e5:=hE15.c e5);have hb15_0:=hB15.cell 0;have hb15_1:=hB15.cell 1;simp at hb15_0 hb15_1;clear hE15))
         show bodyPostD _ _ _ (.panic eW) _ _
         exact dX rfl rfl rfl rfl hR Hf.out
        case true=>
         by_cases hfa:f0=at0
         case neg=>
          have Hf:=Lib.hid (Hbad2.out (by rw[Hn.out,if_neg (fun h=>hfa h.2.2.2.1)]))
          have q12:(f0==at0)=false:=by simp[hfa]
          go_wp2_with (first|(go_at_call 77;((with_reducible refine(HI.out _ (by exact hv.ext hR.E)).mono ?_);rintro e Wc16 ⟨rfl,hEc16⟩;(try replace hR:=hR.ext hEc16);(try replace c73:=hEc16.c c73);(try replace c50:=hEc16.c c50);(try replace e5:=hEc16.c e5)))|((with_reducible refine bR (d:=some 68) (t:=41) (n:=1) (gd:=some (11,true)) (e:=3) (cs:=#[.int .i64 ((m:Int))]) ?_ ?_ ?_);(first|rfl|(simp[Region.wanted,yielded];done)|(simp[Region.wanted,yielded];omega)|trace_state);(simp[Act.eval];exact oE ((m:Int)));intro W68 g68 hE68 hB68 hg68;(try replace hR:=hR.ext hE68);(try replace c73:=hE68.c c73);(try replace c50:=hE68.c c50);(try replace e5:=hE68.c e5);have hI68:bG W68 (.slice (some ⟨g68,0,none⟩) 1 1) [(m:Int)]:=aU hB68;clear hB68 hg68 hE68)|(go_at_call 46;((with_reducible refine((bS (by exact hI68) m3)).mono ?_);rintro e WcO ⟨rfl,hEcO⟩;(try replace hR:=hR.ext hEcO);(try replace hI68:=hI68.ext hEcO);(try replace c73:=hEcO.c c73);(try replace c50:=hEcO.c c50);(try replace e5:=hEcO.c e5)))|((go_at_call 84;(try rw[q11]);refine(jC _).mono ?_;rintro e Wm ⟨rfl,rfl⟩))|((go_at_call 84;refine(gD _).mono ?_;rintro e Wm ⟨rfl,rfl⟩))|(((with_reducible refine aC (d:=some 79) (hl:=dA hR.b3) ?_ ?_);rfl))|((with_reducible refine aO (e:=82) (u:=15) (v:=.agg #[.int .i64 (m:Int),.bool true]) qZ ?_ ?_ ?_ ?_ ?_ ?_);(intro g;rfl);(intro g;rfl);rfl;rfl;(simp[Value.cells,Value.oneCell']);intro W15 g15 hE15 hB15 hg15;simp[Value.cells] at hB15;(try replace hR:=hR.ext hE15);(try replace hI68:=hI68.ext hE15);(try replace c73:=hE15.c c73);(try replace c50:=hE15.c c50);(try replace e5:=hE15.c e5);have hb15_0:=hB15.cell 0;have hb15_1:=hB15.cell 1;simp at hb15_0 hb15_1;clear hE15)|(((with_reducible refine aT (t:=9) (g:=g3) (off:=0) (v:=.string R) ?_ ?_ hR.b3 nN ?_ ?_ ?_ ?_);rfl;rfl;rfl;simp;rfl;intro Wx hBx hgrx;simp at hBx;have n153:=blk_ne hB15 hR.b3 (by decide);replace hB15:=hB15.grown hgrx (fun e=>n153 (Option.some.inj e));replace hR:=hR.text hBx hgrx;clear hBx hgrx))|(((with_reducible refine aC (d:=some 98) (hl:=bJ hR.b7) ?_ ?_);rfl))|(((with_reducible refine aC (d:=some 99) (hl:=bZ hB15) ?_ ?_);rfl))|(go_at_call 65;((with_reducible refine(Hends.out _ (by exact aM.of (hTw.ext hR.E))).mono ?_);rintro e WcE ⟨rfl,hEcE⟩;(try replace hR:=hR.ext hEcE);(try replace hB15:=hB15.ext hEcE))))
          show bodyPostD _ _ _ (.panic eW) _ _
          exact dX rfl rfl rfl rfl hR Hf.out
         have q12:(f0==at0)=true:=by simp[hfa]
         go_wp2_with (first|(go_at_call 77;((with_reducible refine(HI.out _ (by exact hv.ext hR.E)).mono ?_);rintro e Wc19 ⟨rfl,hEc19⟩;(try replace hR:=hR.ext hEc19);(try replace c73:=hEc19.c c73);(try replace c50:=hEc19.c c50);(try replace e5:=hEc19.c e5)))|((with_reducible refine bR (d:=some 68) (t:=41) (n:=1) (gd:=some (11,true)) (e:=3) (cs:=#[.int .i64 ((m:Int))]) ?_ ?_ ?_);(first|rfl|(simp[Region.wanted,yielded];done)|(simp[Region.wanted,yielded];omega)|trace_state);(simp[Act.eval];exact oE ((m:Int)));intro W68 g68 hE68 hB68 hg68;(try replace hR:=hR.ext hE68);(try replace c73:=hE68.c c73);(try replace c50:=hE68.c c50);(try replace e5:=hE68.c e5);have hI68:bG W68 (.slice (some ⟨g68,0,none⟩) 1 1) [(m:Int)]:=aU hB68;clear hB68 hg68 hE68)|(go_at_call 46;((with_reducible refine((bS (by exact hI68) m3)).mono ?_);rintro e WcO ⟨rfl,hEcO⟩;(try replace hR:=hR.ext hEcO);(try replace hI68:=hI68.ext hEcO);(try replace c73:=hEcO.c c73);(try replace c50:=hEcO.c c50);(try replace e5:=hEcO.c e5)))|((go_at_call 84;(try rw[q11]);refine(jC _).mono ?_;rintro e Wm ⟨rfl,rfl⟩))|(((with_reducible refine aC (d:=some 79) (hl:=dA hR.b3) ?_ ?_);rfl))|((with_reducible refine aO (e:=82) (u:=15) (v:=.agg #[.int .i64 (m:Int),.bool true]) qZ ?_ ?_ ?_ ?_ ?_ ?_);(intro g;rfl);(intro g;rfl);rfl;rfl;(simp[Value.cells,Value.oneCell']);intro W15 g15 hE15 hB15 hg15;simp[Value.cells] at hB15;(try replace hR:=hR.ext hE15);(try replace hI68:=hI68.ext hE15);(try replace c73:=hE15.c c73);(try replace c50:=hE15.c c50);(try replace e5:=hE15.c e5);have hb15_0:=hB15.cell 0;have hb15_1:=hB15.cell 1;simp at hb15_0 hb15_1;clear hE15)|(((with_reducible refine aT (t:=9) (g:=g3) (off:=0) (v:=.string R) ?_ ?_ hR.b3 nN ?_ ?_ ?_ ?_);rfl;rfl;rfl;simp;rfl;intro Wx hBx hgrx;simp at hBx;have n153:=blk_ne hB15 hR.b3 (by decide);replace hB15:=hB15.grown hgrx (fun e=>n153 (Option.some.inj e));replace hR:=hR.text hBx hgrx;clear hBx hgrx))|(((with_reducible refine aC (d:=some 98) (hl:=bJ hR.b7) ?_ ?_);rfl))|(((with_reducible refine aC (d:=some 99) (hl:=bZ hB15) ?_ ?_);rfl))|(go_at_call 65;((with_reducible refine(Hends.out _ (by exact aM.of (hTw.ext hR.E))).mono ?_);rintro e WcE ⟨rfl,hEcE⟩;(try replace hR:=hR.ext hEcE);(try replace hB15:=hB15.ext hEcE))))
         rw[←HR0.out] at hR;have hlb:=Hlt.out;refine(pC g3 g7 _ _ _ _ t (cJ l) _ (by omega) hR.b3 hR.b7 (hTw.ext hR.E)).mono ?_
         rintro e Wp ⟨hn,(⟨h0,rfl,hb⟩|⟨h0,rfl,hb⟩)⟩
         case inr=>
          have Hf:=Lib.hid (Hbad2.out (by rw[Hn.out,if_neg (fun h=>by have:=h.2.2.2.2.2;omega)]))
          show bodyPostD _ _ _ (.panic eW) _ _
          exact dX rfl rfl rfl rfl (hR.text hb hn.grown1) Hf.out
         have n153:=blk_ne hB15 hR.b3 (by decide)
         replace hB15:=hB15.grown hn.grown1 (fun e=>n153 (Option.some.inj e))
         replace hR:=hR.text hb hn.grown1;have hrl:=lJ (cJ l);obtain⟨l2,hl2⟩:∃x,eU (cJ l)=x:=⟨_,rfl⟩;rw[hl2] at hR hrl Hstep;obtain⟨p,hp⟩:∃p,t.placeIdx (dN (cJ l))=p:=⟨_,rfl⟩;rw[hp] at h0 Hn⊢;clear hb hn hp hl2 n153;by_cases hpe:p=e0
         case neg=>
          have Hf:=Lib.hid (Hbad2.out (by rw[Hn.out,if_neg (fun h=>hpe h.2.2.2.2.1)]))
          have q13:(p==e0)=false:=by simp[hpe]
          clear hrl hlb;go_wp2_with (first|(go_at_call 84;(try rw[q13]);refine(gD _).mono ?_;rintro e Wm ⟨rfl,rfl⟩))
          show bodyPostD _ _ _ (.panic eW) _ _
          exact dX rfl rfl rfl rfl hR Hf.out
         have q13:(p==e0)=true:=by simp[hpe]
         have Hs:=Lib.hid (Hstep.out ⟨(m:Int),true⟩ (by rw[Hn.out,if_pos ⟨Hn2.out.2,Hn2.out.1,by simp,hfa,hpe,h0⟩]))
         rw[He0.out] at Hs;have hx1:xs.length<1100:=Hn2.out.1;have hlen:l2.length<ts.size∧l2.length≤23000:=by have:=Hls.out;omega
         have Hlen:=Lib.hid hlen;clear hrl hlb hlen hpe hfa h0;go_wp2_with (first|(go_at_call 84;(try rw[q13]);refine(jC _).mono ?_;rintro e Wm ⟨rfl,rfl⟩)|((with_reducible refine aC (d:=some 113) (hl:=rH hR.b5) ?_ ?_);rfl)|((with_reducible refine aC (d:=some 114) (hl:=bZ hB15) ?_ ?_);rfl)|((with_reducible refine kU (d:=some 115) (p:=(m:Int)) (q:=true) ?_ ?_);rfl;intro W20 g20 hE20 hB20 hg20;replace hR:=hR.ext hE20)|((with_reducible refine iV (d:=some 116) (y:=⟨(m:Int),true⟩) ?_ hR.own ?_ hB20 ?_ ?_ ?_);rfl;rfl;omega;exact hR.E.size;intro A21 c21 W21 hO21 hm21 hg21;replace hR:=hR.app hO21 hm21 hg21)|((with_reducible refine aT (t:=32) (g:=g5) (off:=0) (v:=.slice A21 (xs.length+1) c21) ?_ ?_ hR.b5 gK ?_ ?_ ?_ ?_);rfl;rfl;rfl;simp;rfl;intro Wz hBz hgrz;simp at hBz;replace hR:=hR.put5 hBz hgrz))
         go_roundw
         case rel=>exact⟨l2,e0,xs++ [⟨(m:Int),true⟩],_,rfl,hR,Hs.out,Hlen.out.2,by simp;omega⟩
         case measure=>rw[qY hR.b3,Htl.out,fD];exact Hlen.out.1
     ·have hc:∀W,Calls Tryz.prog 85 #[.string r1,.string {data:=#[46]}] W fun e w'=>Ext W w'∧e=.returned (.tuple #[.string r1,.string (S []),.bool false]):=fun W=>(hcutS W).mono fun e w' h=>⟨h.1,h.2.2 hm⟩
      have Hc:=Lib.hid hc;have hat:=fun W(hW:Env W)=>wK r1 (by omega) W hW
      have Hat:=Lib.hid hat;have Hf:=Lib.hid (Hbad.out (Town.stepL_no46 hm));clear hcutS hc hm hat;go_wp2_with (first|((with_reducible refine aC (d:=some 36) (hl:=dA hR.b3) ?_ ?_);rfl)|((with_reducible refine aC (d:=some 39) (hl:=dA hR.b3) ?_ ?_);rfl)|(go_at_call 85;refine(Hc.out _).mono ?_;rintro e Wc ⟨hEc,rfl⟩;replace hR:=hR.ext hEc)|(go_at_call 86;refine(Hat.out _ (hv.ext hR.E)).mono ?_;rintro e Wd ⟨hEd,n,ev,rfl,_⟩;replace hR:=hR.ext hEd)|(go_at_call 84;refine(gD _).mono ?_;rintro e Wm ⟨rfl,rfl⟩))
      show bodyPostD _ _ _ (.panic eW) _ _
      exact dX rfl rfl rfl rfl hR Hf.out
 ·obtain⟨er,hck⟩:∃er,t.check.2.2=er:=⟨_,rfl⟩;have Hoe:=Lib.hid (show t.openErr []=er by unfold Town.openErr;rw[if_pos hce,hck])
  have Hre:=Lib.hid (show t.readAns L=(0,[],er) by rw[Town.readAns_err hce,hck])
  have hneq:(er !=0)=true:=by rw[←hck];simp[hce]
  clear hce hck;go_enter_defers Tryz.func32,Tryz.ntmps32
  go_wp2_with (first|(((with_reducible refine aF (d:=some 3) ?_);intro W3 g3 hE3 hB3 hg3;have hg30:=Nat.le_trans hE.size hg3;simp[Act.eval,Act.put,Value.cells] at hB3;replace hE:=hE.trans hE3;replace hT0:=hT0.ext hE3;replace hB2:=hB2.ext hE3))|((with_reducible refine aS (d:=some 4) ti3 ?_);intro W4 g4 hE4 hB4 hg4;have hg40:=Nat.le_trans hE.size hg4;simp[Value.cells] at hB4;(try replace hE:=hE.trans hE4);(try replace hT0:=hT0.ext hE4);(try replace hB2:=hB2.ext hE4);(try replace hB3:=hB3.ext hE4))|((with_reducible refine aS (d:=some 5) Io ?_);intro W5 g5 hE5 hB5 hg5;have hg50:=Nat.le_trans hE.size hg5;simp[Value.cells] at hB5;(try replace hE:=hE.trans hE5);(try replace hT0:=hT0.ext hE5);(try replace hB2:=hB2.ext hE5);(try replace hB3:=hB3.ext hE5);(try replace hB4:=hB4.ext hE5))|((with_reducible refine aS (d:=some 6) Ip ?_);intro W6 g6 hE6 hB6 hg6;have hg60:=Nat.le_trans hE.size hg6;simp[Value.cells] at hB6;(try replace hE:=hE.trans hE6);(try replace hT0:=hT0.ext hE6);(try replace hB2:=hB2.ext hE6);(try replace hB3:=hB3.ext hE6);(try replace hB4:=hB4.ext hE6);(try replace hB5:=hB5.ext hE6))|(((with_reducible refine aC (d:=some 19) (hl:=aL hB2) ?_ ?_);rfl))|(go_at_call 57;((with_reducible refine(cV _ _ t [] _ (by exact hT0) (hI0 _)).mono ?_);rintro e WcP ⟨rfl,hEcP⟩;(try replace hE:=hE.trans hEcP);(try replace hB3:=hB3.ext hEcP);(try replace hB4:=hB4.ext hEcP);(try replace hB5:=hB5.ext hEcP);(try replace hB6:=hB6.ext hEcP);rw[Hoe.out];have hp0:=hE.size))|((with_reducible refine aO (e:=90) (u:=7) (v:=.agg #[.slice A1 t.places.length cp1,.slice A2 t.shows.length cp2,.slice A3 t.times.length cp3,.slice A4 t.streets.length cp4]) iD ?_ ?_ ?_ ?_ ?_ ?_);(intro g;rfl);(intro g;rfl);rfl;rfl;(simp[Value.cells,Value.oneCell']);intro W7 g7 hE7 hB7 hg7;simp[Value.cells] at hB7;(try replace hE:=hE.trans hE7);(try replace hB3:=hB3.ext hE7);(try replace hB4:=hB4.ext hE7);(try replace hB5:=hB5.ext hE7);(try replace hB6:=hB6.ext hE7);have hb7_0:=hB7.cell 0;have hb7_1:=hB7.cell 1;have hb7_2:=hB7.cell 2;have hb7_3:=hB7.cell 3;simp at hb7_0 hb7_1 hb7_2 hb7_3;clear hE7)|(((with_reducible refine aT (t:=26) (g:=g6) (off:=0) (v:=.int .i64 er) ?_ ?_ hB6 kF ?_ ?_ ?_ ?_);rfl;rfl;rfl;simp;rfl;intro Ws hBs hgrs;simp at hBs;have n46:=blk_ne hB4 hB6 (by decide);have n56:=blk_ne hB5 hB6 (by decide);have hB4s:=hB4.grown hgrs (fun e=>n46 (Option.some.inj e));have hB5s:=hB5.grown hgrs (fun e=>n56 (Option.some.inj e));have hEs:=aD hE hgrs hg60;have n45:=blk_ne hB4 hB5 (by decide);clear hB6 hB4 hB5 hgrs))|(((with_reducible refine aC (d:=some 24) (hl:=gU hBs) ?_ ?_);rfl))|((with_reducible refine aF (d:=some 2) ?_);intro W2 g2 hE2 hB2 hg2;simp[Act.eval,Act.put,Value.cells] at hB2;(try replace hE:=hE.trans hE2);(try replace hT0:=hT0.ext hE2);have hb2_3:=hB2.cell 3;simp at hb2_3;clear hE2))
  have hdr:=Ext.todrew (Ext.refl Ws);replace hEs:=Ext.trans hEs hdr;replace hB4s:=hB4s.d;replace hB5s:=hB5s.d;replace hBs:=hBs.d;refine mN (.take 0 (.one 1 (.one 2 (.one 3 .nil)))) (fun w'=>Blk w' g6 26 #[.int .i64 er]) (fun d=>d !=4&&d !=5&&d !=6) (by kernel_rfl) (by kernel_rfl) (by kernel_rfl) (by kernel_rfl) (by kernel_rfl) (fun c a d v w hd h=>Ou hd h) ?_ (fun hHd=> ?_)
  ·(first|exact True.intro|((try dsimp only);(repeat' apply And.intro)<;>first|assumption|(refine Ext.cell_some (Ext.todrew (Ext.refl _)) ?_;assumption)))
  repeat' first|((with_reducible refine aB ?_);((with_reducible refine aB (i:=0) ?_);refine tk (v:=.int .i64 er) ?_ hHd ?_;(·(intro wq hSw;have e0:=hSw.cell 0;simp at e0;go_simp)));(try simp only[pS]))|((with_reducible refine bC ?_);refine aQ (by simp only[gS];rfl) ?_)|((with_reducible refine aH (d:=none) ?_);((first|((with_reducible refine aT (t:=3) (g:=g4) (off:=0) (v:=.int .i64 0) ?_ ?_ hB4s jN ?_ ?_ ?_ ?_);rfl;rfl;rfl;simp;rfl;intro Wa1 hBa hgra;simp at hBa;replace hEs:=aD hEs hgra hg40;replace hB4s:=hBa;replace hB5s:=hB5s.grown hgra (fun e=>n45 (Option.some.inj e).symm);replace hBs:=hBs.grown hgra (fun e=>n46 (Option.some.inj e).symm);clear hgra)|((with_reducible refine aT (t:=32) (g:=g5) (off:=0) (v:=.slice none 0 0) ?_ ?_ hB5s gK ?_ ?_ ?_ ?_);rfl;rfl;rfl;simp;rfl;intro Wa2 hBa hgra;simp at hBa;replace hEs:=aD hEs hgra hg50;replace hB5s:=hBa;replace hB4s:=hB4s.grown hgra (fun e=>n45 (Option.some.inj e));replace hBs:=hBs.grown hgra (fun e=>n56 (Option.some.inj e).symm);clear hgra)|((with_reducible refine aT (t:=26) (g:=g6) (off:=0) (v:=.int .i64 er) ?_ ?_ hBs kF ?_ ?_ ?_ ?_);rfl;rfl;rfl;simp;rfl;intro Wa3 hBa hgra;simp at hBa;replace hEs:=aD hEs hgra hg60;replace hBs:=hBa;replace hB4s:=hB4s.grown hgra (fun e=>n46 (Option.some.inj e));replace hB5s:=hB5s.grown hgra (fun e=>n56 (Option.some.inj e));clear hgra))))|((with_reducible refine bB ?_);clear hHd;refine aJ ?_ (fun hHd=> ?_);(·(first|exact True.intro|((try dsimp only);(repeat' apply And.intro)<;>first|assumption|(refine Ext.cell_some (Ext.todrew (Ext.refl _)) ?_;assumption))));(try simp only[pS]))|(with_reducible refine aG ?_)
  (go_wp2;refine uA ⟨rfl,_,jB rfl rfl rfl hB4s hB5s hBs,?_⟩;rw[Hre.out];exact⟨_,rfl,Sl.none_ _ _,hEs⟩)
end Go.St
end
section
namespace Go.St
open Go.Bp
theorem lT(a b c:Int):bP (bP a b) c=bP a (bP b c):=by
 unfold bP;simp only[Int.toNat_natCast,Nat.or_assoc]
theorem vM(a b:Int):bP (bP 0 a) b=bP a b:=by
 unfold bP;simp only[Int.toNat_natCast];simp
theorem iI(a b:Int):0≤bP a b:=by unfold bP;omega
theorem qU{α:Type}(f:α→Int):∀(l:List α)(u:Int),l.foldl (fun n x=>n+f x) u=u+l.foldl (fun n x=>n+f x) 0
 | [],u=>by simp
 |x::l,u=>by
  rw[List.foldl_cons,List.foldl_cons,qU f l (u+f x),qU f l (0+f x)];omega
theorem pL{α:Type}(f:α→Int):∀(l:List α)(u:Int),0≤u→l.foldl (fun n x=>bP n (f x)) u=bP u (l.foldl (fun n x=>bP n (f x)) 0)
 | [],u,h=>by
  simp only[List.foldl_nil];unfold bP;simp;omega
 |x::l,u,h=>by
  rw[List.foldl_cons,List.foldl_cons,pL f l _ (iI _ _),pL f l (bP 0 (f x)) (iI _ _)];rw[←lT,←lT,show bP u 0=u by unfold bP;simp;omega]
namespace Town
variable{t:Town}{k:Task}
def metresL(t:Town)(l:List Step):Int:=l.foldl (fun n x=>n+(t.at_ x.st).metres) 0
def shownL(t:Town)(time:Int)(l:List Step):Int:=l.foldl (fun n x=>bP n (t.shownAt time x)) 0
theorem jD(x:Step)(l:List Step):t.metresL (x::l)=(t.at_ x.st).metres+t.metresL l:=by
 unfold metresL;rw[List.foldl_cons,qU (fun x:Step=>(t.at_ x.st).metres)];omega
theorem iU(time:Int)(x:Step)(l:List Step):t.shownL time (x::l)=bP (t.shownAt time x) (t.shownL time l):=by
 unfold shownL;rw[List.foldl_cons,pL (fun x:Step=>t.shownAt time x) l _ (iI _ _)]
 rw[vM]
theorem Gg{to p s m:Int}{l:List Arc}(g:Goes aE (t.arcs k) to p s m l):m=t.metresL (l.map stepOf)∧aE s (t.shownL k.time (l.map stepOf))=0:=by
 induction g with
 |nil=>exact⟨rfl,uH⟩
 | @cons a s m l ha _ ih=>
  rw[arcs_map] at ha;obtain⟨x,hx,rfl⟩:=List.mem_map.1 ha;rw[List.map_cons,oT,jD,iU,←sK];refine⟨?_,ih.2⟩;rw[ih.1];show _+(t.at_ x.st).metres=_
  omega
theorem Gh{to p s m:Int}{l:List Arc}(g:Goes aE (t.arcs k) to p s m l):∀x∈l.map stepOf,x∈t.stepsAll k:=by
 induction g with
 |nil=>simp
 | @cons a s m l ha _ ih=>
  rw[arcs_map] at ha;obtain⟨y,hy,rfl⟩:=List.mem_map.1 ha;intro x hx;rw[List.map_cons,oT] at hx;rcases List.mem_cons.1 hx with rfl|hx
  ·exact hy
  ·exact ih x hx
structure BestT(t:Town)(k:Task)(c:Int×Int):Prop where
 cost:t.cost k k.a k.show_=some c
 find:t.findAns k=(t.tourOf k.time (t.bestSteps k),0)
 drive:t.stepsErr k.a (t.bestSteps k)=(k.b,0)
 isOpen:∀x∈t.bestSteps k,x∈t.stepsAll k
 metres:(t.tourOf k.time (t.bestSteps k)).metres=c.1
 len:((t.bestSteps k).length:Int)=c.2
 all:aE k.show_ (t.tourOf k.time (t.bestSteps k)).shown=0
theorem best_t(h:TaskOk t k)(hc0:t.check.2.2=0){c:Int×Int}(hc:t.cost k k.a k.show_=some c):BestT t k c:=by
 have hb:=cost_bd h hc;have hc2:t.cost k k.a k.show_=some (c.1,((c.2.toNat:Nat):Int)):=by rw[hc];congr 1;exact Prod.ext rfl (by simp only;omega)
 obtain⟨hg,hl⟩:=xH h hc2;have he:=fS hc0 h;have hbs:=bestSteps_eq hc2;have hs:=Gg hg;rw[←hbs] at hs;refine⟨hc,?_,best_steps h hc,?_,hs.1.symm,by omega,hs.2⟩
 ·unfold findAns;rw[if_neg (by simp[he]),if_neg (by rw[hc];simp)]
 ·rw[hbs];exact Gh hg
theorem find_none(h:TaskOk t k)(hc0:t.check.2.2=0)(hc:t.cost k k.a k.show_=none):t.findAns k=(⟨[],0,0,0,0⟩,9):=by
 unfold findAns;rw[if_neg (by simp[fS hc0 h]),if_pos hc]
theorem check_of{k:Task}(he:t.taskErr k=0):t.check.2.2=0:=by
 refine Classical.byContradiction fun hn=> ?_
 unfold taskErr at he;rw[if_pos hn] at he;exact hn he
/-! ### ANY way -/
def canOf(t:Town)(k:Task)(p:Int):List Step:=(t.stepsAll k).filter fun x=>decide ((t.ends x).1=p)
def takenTo(t:Town)(k:Task):List Nat→Int→List Step
 | [],_=>[]
 |n::l,p=>match(t.canOf k p)[n%(t.canOf k p).length]? with
  |none=>[]
  |some s=>s::takenTo t k l (t.ends s).2
def taken(t:Town)(k:Task)(l:List Nat):List Step:=takenTo t k (l.take 200) k.a
structure WayL(t:Town)(k:Task)(l:List Step)(b:Int):Prop where
 isOpen:∀x∈l,x∈t.stepsAll k
 goes:t.stepsErr k.a l=(b,0)
 follow:t.follow k.a l=(b,0)
 place:inB b 0 (t.places.length-1)=true
 len:l.length≤200
end Town
end Go.St
end
