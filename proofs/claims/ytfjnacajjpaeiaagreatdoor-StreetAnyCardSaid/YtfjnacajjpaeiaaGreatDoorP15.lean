/- Chapter 03: contracts of functions of the program and of the reference, and plain laws (out of SV4 SW1 StO SV5). No condition of its own. -/
import Derived.Test.YtfjnacajjpaeiaaGreatDoorP14
set_option maxRecDepth 100000
set_option linter.all false
section
namespace Go.St
open Go Go.Bp Go.RowKit Go.Proofs
theorem iA.of_row{B g:Nat}{w:World}{xs:List Int}(h:Blk w g 3 (gA xs).toArray)(hB:B≤g)(hl:xs.length≤1000):iA B w (.slice (some ⟨g,0,none⟩) xs.length xs.length) xs:=
 ⟨by simp[gA],.inr ⟨g,xs.length,_,rfl,hB,h,Nat.le_refl _,by unfold maxLen;omega,by simp[gA],by simp[gA,List.take_of_length_le]⟩⟩
def mW(f:Nat→Int)(j M:Nat):List Int:=(List.range M).map fun s=>if s<j then f s else -1
theorem zO(f:Nat→Int)(j M:Nat):(mW f j M).length=M:=by simp[mW]
theorem Pp(f:Nat→Int)(M:Nat):(gA (mW f 0 M)).toArray=mX M M:=by
 unfold mX mW gA;congr 1
 apply List.ext_getElem
 ·simp
 ·intro i h1 h2;simp
theorem Je{f:Nat→Int}{j M:Nat}(h:j<M){x:Int}(hx:f j=x):(gA (mW f j M)).toArray.setIfInBounds j (.int .i64 x)=(gA (mW f (j+1) M)).toArray:=by
 subst hx;rw[List.setIfInBounds_toArray];congr 1
 apply List.ext_getElem
 ·simp[gA,mW]
 ·intro i h1 h2;simp only[gA,mW,List.getElem_set,List.getElem_map,List.getElem_range];by_cases e:j=i
  ·subst e;simp
  ·rw[if_neg e];by_cases h3:i<j
   ·rw[if_pos h3,if_pos (by omega)]
   ·rw[if_neg h3,if_neg (by omega)]
theorem Fg{f:Nat→Int}{j M:Nat}(hx:f j= -1):mW f (j+1) M=mW f j M:=by
 unfold mW;apply List.map_congr_left;intro s _;by_cases e:s=j
 ·subst e;simp[hx]
 ·by_cases h:s<j
  ·rw[if_pos h,if_pos (by omega)]
  ·rw[if_neg h,if_neg (by omega)]
theorem Fh(f:Nat→Int)(M:Nat):mW f M M=(List.range M).map f:=by
 unfold mW;apply List.map_congr_left;intro s hs;rw[if_pos (List.mem_range.1 hs)]
section
variable{ops:Array Oper}{Q:Exit→Act→World→Prop}{a:Act}{w:World}{d:Option Tmp}{ty:TypeId}{pos:String}{after:Array Edge}{rest:List Oper}
theorem Ef{x y:Operand}{gm:Nat}{T:Tab}{p s:Int}{c:Int×Int}{b:Bool}(hM:cD kvI w gm (eR T))(hc:dU T (p,s)=c)(hb:(T p s).isSome=b)(hx:a.eval x=.map (some gm))(hy:a.eval y=.agg #[.int .i64 p,.int .i64 s])
 (k:wpList Tryz.prog ops Q rest (a.put d (.tuple #[.agg #[.int .i64 c.1,.int .i64 c.2],.bool b])) w):wpList Tryz.prog ops Q (⟨d,.lookup 118 x y true,ty,pos,after,none⟩::rest) a w:=by
 subst hc;subst hb;exact On rfl (lX (S:=fun W=>cD kvI W gm (eR T)) (p:=(p,s)) (fun W h=>h) hx hy w hM) k
end
theorem wN{W:World}{gj:Nat}{pv sv tv xv a b c d e f g:Value}(h:Blk W gj 120 #[pv,sv,tv,xv,a,b,c,d,e,f,g]):(loadVar 90 ⟨gj,0,none⟩).run Tryz.prog W=.ok (.agg #[pv,sv,tv,xv]) W:=by
 obtain⟨i,hi,hs⟩:=iJ jE;refine eH Tryz.underlying90 hi hs (fun j u hu=>h.cells j u ?_)
 rcases j with _|_|_|_|j<;>simp_all
theorem vG.ok{w w':World}{t:Town}{k:Task}{e:Ending}(h:vG w t k e w')(h0:t.taskErr k=0):Ext w w'∧∃gj gi gm pv sv tv xv cv vs,e=.returned (.tuple #[.pointer (some ⟨gj,0,none⟩),.int .i64 0])∧TownP w pv sv tv xv t∧bG w cv k.closed∧w.heap.size≤gj∧w.heap.size≤gm∧JobQ w' w.heap.size gj gi gm t.places.length pv sv tv xv cv vs (fun _ _=>none) t k:=by
 obtain⟨hE,h⟩:=h;obtain⟨_,gj,gi,gm,pv,sv,tv,xv,cv,vs,h1,h2,h3,h4,_,h6,h7⟩:=h.resolve_left (fun h=>h.1 h0)
 exact⟨hE,gj,gi,gm,pv,sv,tv,xv,cv,vs,h1,h2,h3,h4,h6,h7⟩
theorem vG.bad{w w':World}{t:Town}{k:Task}{e:Ending}(h:vG w t k e w')(h0:t.taskErr k≠0):Ext w w'∧e=.returned (.tuple #[.pointer none,.int .i64 (t.taskErr k)]):=by
 obtain⟨hE,h⟩:=h;exact⟨hE,(h.resolve_right (fun h=>h0 h.1)).2⟩
set_option maxHeartbeats 8000000 in
theorem mL(tv kv:Value)(t:Town)(k:Task)(w:World)(h:aM w tv t)(hk:bA w kv k):Calls Tryz.prog 25 #[tv,kv] w (Ey w (t.tableAns k).1 (t.tableAns k).2):=by
 obtain⟨pv0,sv0,tv0,xv0,rfl,hT⟩:=h;obtain⟨clv,rfl,hC⟩:=hk;have hE:=Ext.refl w;by_cases hte:t.taskErr k=0
 ·have Hte:=Lib.hid hte;have hok:=Town.taskOk_of hte;have HK:=Lib.hid hok;have hp2:=hok.ok.p2;rw[Town.tableAns_0 hte];have hsb:=Town.sets_bd hok.ok.sh;obtain⟨M,hM⟩:∃M:Nat,2^t.shows.length=M:=⟨_,rfl⟩;have hMs:t.sets=(M:Int):=by unfold Town.sets;rw[←hM];push_cast;rfl
  have hM2:1≤M∧M≤64:=by rw[hMs] at hsb;omega
  have HM:=Lib.hid hM;have HMs:=Lib.hid hMs;have hsh:=hok.ok.sh;clear hte hok hsb hM hMs;go_enter Tryz.func25,Tryz.ntmps25
  go_wp2_with (first|((go_at_call 62;refine(iG _ _ t k _ (aM.of hT) (bA.of hC)).mono ?_;rintro e Wb hb;obtain⟨hEb,gj,gi,gm,pv,sv,tv,xv,cv,vs,rfl,hTp,hCp,hgj,hgm,hQ⟩:=hb.ok Hte.out;have hE1:=hE;replace hE:=hE.trans hEb))|((go_at_call 63;refine(sC HK.out hEb hTp hCp hgj hgm hQ).mono ?_;rintro e Ws ⟨⟨vr,rfl⟩,hGs,hS⟩;have j0:=hS.job.blk.cell 0;simp at j0;obtain⟨A1,cp1,ep,_,hc1,_,_⟩:=hTp.places;subst ep;unfold maxLen at hc1))|((with_reducible refine aF (d:=some 2) ?_);intro W2 g2 hE2 hB2 hg2;simp[Act.eval,Act.put,Value.cells] at hB2;(try replace hE:=hE.trans hE2);(try replace hT:=hT.ext hE2);(try replace hC:=hC.ext hE2);have hb2_0:=hB2.cell 0;have hb2_1:=hB2.cell 1;have hb2_2:=hB2.cell 2;have hb2_3:=hB2.cell 3;simp at hb2_0 hb2_1 hb2_2 hb2_3;clear hE2)|((with_reducible refine aF (d:=some 3) ?_);intro W3 g3 hE3 hB3 hg3;simp[Act.eval,Act.put,Value.cells] at hB3;(try replace hE:=hE.trans hE3);(try replace hT:=hT.ext hE3);(try replace hC:=hC.ext hE3);(try replace hb2_0:=hE3.c hb2_0);(try replace hb2_1:=hE3.c hb2_1);(try replace hb2_2:=hE3.c hb2_2);(try replace hb2_3:=hE3.c hb2_3);have hb3_0:=hB3.cell 0;have hb3_1:=hB3.cell 1;have hb3_2:=hB3.cell 2;have hb3_3:=hB3.cell 3;have hb3_4:=hB3.cell 4;simp at hb3_0 hb3_1 hb3_2 hb3_3 hb3_4;clear hE3))
  have hsz:=hE1.size;have hE0:=hE1.trans hS.ext;clear hE1 hE hEb hB2 hB3 hb2_0 hb2_1 hb2_2 hb2_3 hb3_0 hb3_1 hb3_2 hb3_3 hb3_4 hT hC hTp hCp hQ hb hGs;go_loopw [4,30] (fun out p W=>Ext Ws W∧∃n:Nat,n≤t.places.length∧p=.int .i64 n∧fY Ws.heap.size W out (t.tabTo k n)) (fun _ p _=>t.places.length-(intOf p).toNat)
  case atStart=>exact⟨Ext.refl _,0,by omega,rfl,fY.nil _ _⟩
  case round=>
   obtain⟨hEr,n,hn,rfl,hO⟩:=hrel;obtain⟨out,hout⟩:∃v,v=u4:=⟨_,rfl⟩;subst hout;obtain⟨Wr,hWr⟩:∃W,W=wr:=⟨_,rfl⟩;subst hWr;have hSr:=hS.up hEr;have hJr:=hSr.job;by_cases hlt:n<t.places.length
   ·have z:(n:Int)<(t.places.length:Int):=by omega
    have hS0:=hEr.size;go_wp2_with (first|((with_reducible refine Jm (d:=some 33) (n:= -1) ?_ ?_);rfl;intro W33 g33 hE33 hB33 hg33;replace hJr:=hJr.ext hE33)|((with_reducible refine aC (d:=some 37) (hl:=qP hJr) ?_ ?_);rfl)|(go_at_call 72;refine(gL _ t _ (aM.of hJr.town) hsh).mono ?_;rintro e W38 ⟨rfl,hE38⟩;rw[HMs.out];replace hB33:=hB33.ext hE38)|(go_at_call 71;refine(Ce g33 M hM2.1 hM2.2 _ hB33).mono ?_;rintro e W39 ⟨g8,rfl,hg8,hB8,hE39⟩))
    have hX0:=(hE33.trans hE38).trans hE39;replace hg8:=Nat.le_trans (hE33.trans hE38).size hg8;obtain⟨f,hf⟩:∃f:Nat→Int,f=fun s:Nat=>(Go.St.cv (t.cost k (n:Int) (s:Int))).1:=⟨_,rfl⟩
    have Hf:=Lib.hid hf;have hB80:Blk W39 g8 3 (gA (mW f 0 M)).toArray:=by rw[Pp];exact hB8
    clear hB8 hf hJr hB33 hE33 hE38 hE39 hg33;go_loopw [42] (fun s W=>Ext Wr W∧∃j:Nat,j≤M∧s=.int .i64 j∧Blk W g8 3 (gA (mW f j M)).toArray) (fun s _=>M-(intOf s).toNat)
    case atStart=>exact⟨hX0,0,by omega,rfl,hB80⟩
    case round=>
     clear hX0 hB80;obtain⟨hX,j,hj,rfl,hB8⟩:=hrel;by_cases hjl:j<M
     ·have hSj:=hSr.up hX;have j10:=hSj.blk.cell 10;simp at j10;have hz:(j:Int)<(M:Int):=by omega
      have hrl:=zO f j M;have hMp:=hSj.map
      cases hc:t.cost k (n:Int) (j:Int) with
      |none=>
       have h1:dU (t.cost k) ((n:Int),(j:Int))=(0,0):=by unfold dU;rw[hc];rfl
       have h2:(t.cost k (n:Int) (j:Int)).isSome=false:=by rw[hc];rfl
       have hfj:f j= -1:=by rw[Hf.out];simp only;rw[hc];rfl
       have Hs:=Lib.hid (Fg (M:=M) hfj);clear hc hrl hfj;go_wp2_with (first|((with_reducible refine Ef (d:=some 53) hMp h1 h2 ?_ ?_ ?_);rfl;rfl)|((with_reducible refine aO (e:=115) (u:=10) (v:=.agg #[.int .i64 0,.int .i64 0]) oH ?_ ?_ ?_ ?_ ?_ ?_);(intro g;rfl);(intro g;rfl);rfl;rfl;(simp[Value.cells,Value.oneCell']);intro W10 g10 hE10 hB10 hg10;replace hX:=hX.trans hE10;replace hB8:=hB8.ext hE10))
       go_roundw
       case rel=>exact⟨hX,j+1,by omega,by go_num,by rw[Hs.out];exact hB8⟩
       case measure=>simp[intOf];omega
      |some c=>
       obtain⟨c1,c2⟩:=c;have h1:dU (t.cost k) ((n:Int),(j:Int))=(c1,c2):=by unfold dU;rw[hc];rfl
       have h2:(t.cost k (n:Int) (j:Int)).isSome=true:=by rw[hc];rfl
       have hfj:f j=c1:=by rw[Hf.out];simp only;rw[hc];rfl
       have Hs:=Lib.hid (Je hjl hfj);have hsz8:(gA (mW f j M)).toArray.size=M:=by simp[gA,hrl]
       clear hc hrl hfj;go_wp2_with (first|((with_reducible refine Ef (d:=some 53) hMp h1 h2 ?_ ?_ ?_);rfl;rfl)|((with_reducible refine aO (e:=115) (u:=10) (v:=.agg #[.int .i64 c1,.int .i64 c2]) oH ?_ ?_ ?_ ?_ ?_ ?_);(intro g;rfl);(intro g;rfl);rfl;rfl;(simp[Value.cells,Value.oneCell']);intro W10 g10 hE10 hB10 hg10;simp[Value.cells] at hB10;have b0:=hB10.cell 0;simp at b0;replace hX:=hX.trans hE10;replace hB8:=hB8.ext hE10)|((with_reducible refine aT (t:=3) (e:=3) (g:=g8) (off:=j) (v:=.int .i64 c1) ?_ ?_ hB8 jN ?_ ?_ ?_ ?_);rfl;rfl;rfl;(rw[hsz8];exact hjl);rfl;intro Ws8 hBs8 hgs8;rw[Hs.out] at hBs8))
       go_roundw
       case rel=>exact⟨aD hX hgs8 hg8,j+1,by omega,by go_num,hBs8⟩
       case measure=>simp[intOf];omega
     ·obtain rfl:j=M:=by omega
      have hrl:=zO f j j;have hR:=iA.of_row hB8 hg8 (by omega)
      rw[hrl] at hR;have hrow:mW f j j=t.rowTo k n j:=by rw[Fh,Hf.out];rfl
      rw[hrow] at hR;have hrl2:=Town.rowTo_len t k n j;have Hs:=Lib.hid (Town.tabTo_succ t k n);have Htl:=Lib.hid (Town.tabTo_len t k n);have Hrl:=Lib.hid hrl2;clear hrl hrl2 hrow;go_wp2_with (first|((with_reducible refine Oo (d:=some 65) (v:=.slice (some ⟨g8,0,none⟩) j j) ?_ ?_ ?_);rfl;rfl;intro W49 g49 hE49 hB49 hg49;have hR2:=hR.ext hE49;have hEs2:=Ext.trans hX hE49)|((with_reducible refine Jn (d:=some 66) ?_ hO hEs2 ?_ hB49 hR2 ?_ ?_ ?_ ?_);rfl;rfl;(rw[Hrl.out];omega);(rw[Htl.out];omega);exact hEr.size;intro A50 c50 W50 hO50 hm50;have hE50:=hm50 _ (Ext.trans hEr hEs2)))
      go_roundw
      case rel=>exact⟨hE50,n+1,by omega,by go_num,by rw[Hs.out,show 2^t.shows.length=j from HM.out];exact hO50⟩
      case measure=>simp[intOf];omega
   ·obtain rfl:n=t.places.length:=by omega
    go_wp2
    go_ret2
    exact⟨_,rfl,fY.base hO (Nat.le_trans hsz hS.ext.size),hE0.trans hEr⟩
 ·have q1:(t.taskErr k !=0)=true:=by simp[hte]
  rw[Town.tableAns_e hte];have Hte:=Lib.hid hte;clear hte;go_enter Tryz.func25,Tryz.ntmps25
  go_wp2_with (first|((go_at_call 62;refine(iG _ _ t k _ (aM.of hT) (bA.of hC)).mono ?_;rintro e Wb hb;obtain⟨hEb,rfl⟩:=hb.bad Hte.out;replace hE:=hE.trans hEb))|((with_reducible refine aF (d:=some 2) ?_);intro W2 g2 hE2 hB2 hg2;simp[Act.eval,Act.put,Value.cells] at hB2;(try replace hE:=hE.trans hE2);(try replace hT:=hT.ext hE2);(try replace hC:=hC.ext hE2);have hb2_0:=hB2.cell 0;have hb2_1:=hB2.cell 1;have hb2_2:=hB2.cell 2;have hb2_3:=hB2.cell 3;simp at hb2_0 hb2_1 hb2_2 hb2_3;clear hE2)|((with_reducible refine aF (d:=some 3) ?_);intro W3 g3 hE3 hB3 hg3;simp[Act.eval,Act.put,Value.cells] at hB3;(try replace hE:=hE.trans hE3);(try replace hT:=hT.ext hE3);(try replace hC:=hC.ext hE3);(try replace hb2_0:=hE3.c hb2_0);(try replace hb2_1:=hE3.c hb2_1);(try replace hb2_2:=hE3.c hb2_2);(try replace hb2_3:=hE3.c hb2_3);have hb3_0:=hB3.cell 0;have hb3_1:=hB3.cell 1;have hb3_2:=hB3.cell 2;have hb3_3:=hB3.cell 3;have hb3_4:=hB3.cell 4;simp at hb3_0 hb3_1 hb3_2 hb3_3 hb3_4;clear hE3))
  go_ret2
  exact⟨_,rfl,fY.nil _ _,hE⟩
end Go.St
end
section
namespace Go.St
open Go Go.Bp Go.RowKit Go.Proofs
def Ph(w:World)(F:FuncId)(cap:Array Value)(p:List Int→Bool)(rows:List (List Int)):Prop:=
 ∀x∈rows,∀W u,Ext w W→bG W u x→Calls Tryz.prog F (#[u]++cap) W fun e W'=>e=.returned (.bool (p x))∧Ext W W'
set_option maxHeartbeats 400000 in
theorem vJ(F:FuncId)(cap:Array Value)(p:List Int→Bool)(v:Value)(rows:List (List Int))(w:World)(h:Rows w v rows)
 (hF:∀(args:Array Value)(W:World),(callFunc F args).run Tryz.prog W=.ok (.enter F args) W)(hp:Ph w F cap p rows):
 Calls Tryz.prog 104 #[v,.func (.func F) #[] cap] w fun e w'=>e=.returned (.int .i64 (mQ p rows))∧Ext w w':=by
 obtain⟨A,c,rfl,h1,h2,h4⟩:=lY h;unfold maxLen at h2;have Hp:=Lib.hid hp;clear hp h;go_enter Tryz.func104,Tryz.ntmps104
 go_wp2
 go_loopw [8] (fun i wr=>Ext w wr∧∃k:Nat,k≤rows.length∧i=.int .i64 k∧∀x∈rows.take k,p x=false) (fun i _=>rows.length-(intOf i).toNat)
 case atStart=>exact⟨Ext.refl _,0,by omega,rfl,by simp⟩
 case round=>
  obtain⟨hEr,k,hk,rfl,hn⟩:=hrel;have Hn:=Lib.hid hn;clear hn;by_cases hlt:k<rows.length
  ·obtain⟨ad,rfl,hrow⟩:=h4 (by omega)
   obtain⟨B,cB,e1,b1,b2,b3⟩:=(hrow k hlt).ext hEr;have hu:bG wr (.slice B rows[k].length cB) rows[k]:=⟨B,cB,rfl,b1,b2,by simp[gA],b3⟩
   have hcall:=Hp.out rows[k] (List.getElem_mem hlt) wr _ hEr hu;have Hcall:=Lib.hid hcall;have hz:(k:Int)<(rows.length:Int):=by omega
   clear h4 hrow hcall hu b3 b1 b2;go_wp2_with fail
   refine Hcall.out.mono ?_;rintro e W1 ⟨rfl,hE1⟩;replace hEr:=hEr.trans hE1;by_cases hpk:p rows[k]=true
   ·have hr:=nX hlt hpk Hn.out;have Hr:=Lib.hid hr;clear hr;go_wp2
    go_ret
    exact⟨lI Hr.out.symm,hEr⟩
   ·simp only[Bool.not_eq_true] at hpk;go_wp2
    go_roundw
    case rel=>exact⟨hEr,k+1,by omega,by go_num,eG hlt Hn.out hpk⟩
    case measure=>simp[intOf];omega
  ·go_wp2
   go_ret
   obtain rfl:k=rows.length:=by omega
   have:=Hn.out;rw[List.take_length] at this;exact⟨lI (lM this).symm,hEr⟩
theorem gZ(F:FuncId)(cap:Array Value)(p:List Int→Bool)(v:Value)(rows:List (List Int))(w:World)(h:Rows w v rows)
 (hF:∀(args:Array Value)(W:World),(callFunc F args).run Tryz.prog W=.ok (.enter F args) W)(hp:Ph w F cap p rows):
 Calls Tryz.prog 73 #[v,.func (.func F) #[] cap] w fun e w'=>e=.returned (.bool (rows.any p))∧Ext w w':=by
 have hg:=nW p rows;have Hg:=Lib.hid hg;have Hp:=Lib.hid hp;have HF:=Lib.hid hF;clear hg hp hF;go_enter Tryz.func73,Tryz.ntmps73
 go_wp2_with (go_at_call 104;refine(vJ F cap p _ rows _ h HF.out Hp.out).mono ?_;rintro e w' ⟨rfl,hE⟩)
 go_ret
 exact⟨jR Hg.out,hE⟩
theorem Kt:∀(args:Array Value)(W:World),(callFunc 74 args).run Tryz.prog W=.ok (.enter 74 args) W:=enters_of Tryz.func74 (by kernel_rfl) rfl
theorem At:∀(args:Array Value)(W:World),(callFunc 75 args).run Tryz.prog W=.ok (.enter 75 args) W:=enters_of Tryz.func75 (by kernel_rfl) rfl
theorem zR(g8 gj M:Nat)(pv sv tv xv a b c d e f g u:Value)(t:Town)(r:List Int)(w:World)(hM:t.sets=(M:Int))(hM2:M≤64)(hsh:t.shows.length≤6)(h8:Blk w g8 109 #[.pointer (some ⟨gj,0,none⟩)])(hj:Blk w gj 120 #[pv,sv,tv,xv,a,b,c,d,e,f,g])(hT:TownP w pv sv tv xv t)(hu:bG w u r):
 Calls Tryz.prog 74 #[u,.pointer (some ⟨g8,0,none⟩)] w fun e W'=>e=.returned (.bool (!decide (r.length=M)))∧Ext w W':=by
 obtain⟨B,cB,rfl,_⟩:=hu;have hE:=Ext.refl w;have c8:=h8.cell 0;simp at c8;have Hd:=Lib.hid (show((r.length:Int) !=(M:Int))= !decide (r.length=M) by
  by_cases h:r.length=M
  ·simp[h]
  ·have:¬((r.length:Int)=(M:Int)):=by omega
   simp[h,bne_iff_ne,this])
 go_enter Tryz.func74,Tryz.ntmps74
 go_wp2_with (first|(((with_reducible refine aC (d:=some 9) (hl:=wN hj) ?_ ?_);rfl))|(go_at_call 72;((with_reducible refine(gL _ t _ (by exact aM.of hT) hsh).mono ?_);rintro e WcS ⟨rfl,hEcS⟩;(try replace hE:=hE.trans hEcS);rw[hM])))
 go_ret
 exact⟨jR Hd.out,hE⟩
theorem sD(u:Value)(r:List Int)(w:World)(hu:bG w u r):
 Calls Tryz.prog 75 #[u] w fun e W'=>e=.returned (.bool (eC (-1) 20000000 r))∧Ext w W':=by
 have hE:=Ext.refl w;go_enter Tryz.func75,Tryz.ntmps75
 go_wp2_with (first|(go_at_call 46;((with_reducible refine(zS (-1) 20000000 _ r _ (by exact hu)).mono ?_);rintro e WcO ⟨rfl,hEcO⟩;(try replace hE:=hE.trans hEcO))))
 go_ret
 exact⟨rfl,hE⟩
end Go.St
end
section
namespace Go.St
open Go.Bp
namespace Town
variable{t:Town}{k:Task}
noncomputable def onP(t:Town)(k:Task)(p s m n:Int)(x:Step):Prop:=(t.ends x).1=p∧t.cost k (t.ends x).2 (aE s (t.shownAt k.time x))=some (m-(t.at_ x.st).metres,n-1)
theorem Jt{p s m n:Int}(hm:0≤m)(x:Step):onB t k p s m n x=true↔onP t k p s m n x:=by
 rw[←uI hm];unfold jA onP;rw[Bool.and_eq_true,decide_eq_true_eq,decide_eq_true_eq];exact Iff.rfl
structure Onway(t:Town)(k:Task)(p s m:Int)(n:Nat)(l:List Step):Prop where
 cost:t.cost k p s=some (m,(n:Int))
 rest:t.bestSteps k=l++(cF aE (t.arcs k) (t.cost k) n p s m).map stepOf
theorem Onway.start{m:Int}{n:Nat}(hc:t.cost k k.a k.show_=some (m,(n:Int))):Onway t k k.a k.show_ m n []:=⟨hc,by rw[bestSteps_eq hc];rfl⟩
theorem Onway.end_{p s m:Int}{l:List Step}(h:Onway t k p s m 0 l):t.bestSteps k=l:=by
 rw[h.rest];unfold cF;simp
theorem Onway.zero(ht:TaskOk t k){p s m:Int}{l:List Step}(h:Onway t k p s m 0 l):m=0:=(cost_end ht h.cost).2.2
theorem Onway.bd(ht:TaskOk t k){p s m:Int}{n:Nat}{l:List Step}(h:Onway t k p s m n l):0≤m∧m≤100000000∧n<1024:=by
 have h1:=cost_bd ht h.cost;simp only at h1;omega
theorem Onway.none_on(ht:TaskOk t k){p s m:Int}{n:Nat}{l:List Step}(h:Onway t k p s m (n+1) l):¬∀x∈t.stepsAll k,¬onP t k p s m ((n+1:Nat):Int) x:=by
 obtain⟨j,hj,h1,_⟩:=step_on ht h.cost;intro hn;exact hn _ (List.getElem_mem hj) ((Jt (h.bd ht).1 _).1 h1)
theorem Onway.step(ht:TaskOk t k){p s m:Int}{n:Nat}{l pre:List Step}{x:Step}{c:Nat}(h:Onway t k p s m (n+1) l)(hp:pre++ [x]=(t.stepsAll k).take c)(hn:∀y∈pre,¬onP t k p s m ((n+1:Nat):Int) y)(hx:onP t k p s m ((n+1:Nat):Int) x):
 Onway t k (t.ends x).2 (aE s (t.shownAt k.time x)) (m-(t.at_ x.st).metres) n (l++ [x]):=by
 obtain⟨j,hj,h1,h2,h3,h4,h5⟩:=step_on ht h.cost;have hb:=(h.bd ht).1;have hlen:pre.length+1≤(t.stepsAll k).length:=by
  have:=congrArg List.length hp;rw[List.length_append,List.length_take] at this;simp at this;omega
 have hget:∀i(hi:i<(t.stepsAll k).length)(hi2:i<pre.length+1),(t.stepsAll k)[i]=(pre++ [x])[i]'(by simp;omega):=by
  intro i hi hi2;have hc:i<((t.stepsAll k).take c).length:=by rw[←hp];simp;omega
  have:((t.stepsAll k).take c)[i]=(t.stepsAll k)[i]:=List.getElem_take;rw[←this];congr 1
  exact hp.symm
 have hjx:j=pre.length:=by
  rcases Nat.lt_trichotomy j pre.length with h0|h0|h0
  ·exfalso;have e:=hget j hj (by omega)
   rw[List.getElem_append_left h0] at e;exact hn pre[j] (List.getElem_mem h0) ((Jt hb _).1 (by rw[←e];exact h1))
  ·exact h0
  ·exfalso;have e:=hget pre.length (by omega) (by omega)
   have e2:=h2 pre.length (by omega) h0
   rw[e] at e2;have e3:(pre++ [x])[pre.length]'(by simp)=x:=by simp
   rw[e3,(Jt hb x).2 hx] at e2
   cases e2
 have ex:(t.stepsAll k)[j]=x:=by
  subst hjx;rw[hget pre.length hj (by omega)]
  simp
 rw[ex] at h3 h4 h5;exact⟨h4,by rw[h.rest,h5,List.append_assoc];rfl⟩
end Town
end Go.St
end
section
namespace Go.St
open Go Go.Bp Go.RowKit Go.Proofs
theorem gI{P:Program}{F:Fence}{n:Nat}{c:Go.Code}{Q:Exit→Act→World→Prop}{a:Act}{w:World}(ks:List Nat)(R:(Nat→Value)→World→Prop)(h:c.wpIn F n P (fun e a' w'=>e=.normal∧∃x,a'=Act.sets a ks x∧R x w') a w)(k:∀x w',R x w'→Q .normal (Act.sets a ks x) w'):c.wpIn F n P Q a w:=
 wpIn_mono h (fun e a' w' ⟨he,x,ha,hR⟩=>by subst he;subst ha;exact k x w' hR)
structure FNow(wb W:World)(gj gi gm g3 g4 g6 g7 g8 g10:Nat)(pv sv tv xv cv kc:Value)(t:Town)(k:Task)(ds:List Nat)(p s m:Int)(n:Nat)(l:List Step)(v:Value):Prop where
 S:Solved wb W gj gi gm pv sv tv xv cv t k
 B3:Blk W g3 43 #[.int .i64 k.a,.int .i64 k.b,.int .i64 k.show_,.int .i64 k.time,kc]
 B4:Blk W g4 36 #[.slice none 0 0,.int .i64 0,.int .i64 0,.int .i64 0,.int .i64 0]
 B6:Blk W g6 109 #[.pointer (some ⟨gj,0,none⟩)]
 B7:Blk W g7 113 #[.int .i64 p,.int .i64 s]
 B8:Blk W g8 115 #[.int .i64 m,.int .i64 n]
 B10:Blk W g10 32 #[v]
 O:OwnAt W wb.heap.size 82 2 v l.length (dJ l)
 lo:wb.heap.size≤g7∧wb.heap.size≤g8∧wb.heap.size≤g10
 marks:∀D∈ds,W.heap[D]? =some (.deferred (some []))
section
variable{wb W W':World}{gj gi gm g3 g4 g6 g7 g8 g10:Nat}{pv sv tv xv cv kc:Value}{t:Town}{k:Task}{ds:List Nat}{p s m:Int}{n:Nat}{l:List Step}{v:Value}
theorem FNow.ext(h:FNow wb W gj gi gm g3 g4 g6 g7 g8 g10 pv sv tv xv cv kc t k ds p s m n l v)(e:Ext W W'):FNow wb W' gj gi gm g3 g4 g6 g7 g8 g10 pv sv tv xv cv kc t k ds p s m n l v:=
 ⟨h.S.up e,h.B3.ext e,h.B4.ext e,h.B6.ext e,h.B7.ext e,h.B8.ext e,h.B10.ext e,h.O.ext e,h.lo,fun D hD=>e.heap_some (h.marks D hD)⟩
theorem FNow.gm_lt(h:FNow wb W gj gi gm g3 g4 g6 g7 g8 g10 pv sv tv xv cv kc t k ds p s m n l v):gm<W.heap.size:=h.S.map.lt
theorem FNow.ds_lt(h:FNow wb W gj gi gm g3 g4 g6 g7 g8 g10 pv sv tv xv cv kc t k ds p s m n l v):∀D∈ds,D<W.heap.size:=fun D hD=>(Array.getElem?_eq_some_iff.1 (h.marks D hD)).1
theorem FNow.abide{row:Option Nat}{C:Nat}(h:FNow wb W gj gi gm g3 g4 g6 g7 g8 g10 pv sv tv xv cv kc t k ds p s m n l v)(hm:gm<C)(hd:∀D∈ds,D<C)(hb:wb.heap.size≤C)(hg:W.grownBy W' row)(hr:∀r,row=some r→C≤r∧∃o:Obj,W.heap[r]? =some o∧o.isCells=false):
 FNow wb W' gj gi gm g3 g4 g6 g7 g8 g10 pv sv tv xv cv kc t k ds p s m n l v:=by
 have hj:∀r,row=some r→r≠gj:=by
  rintro r e rfl;obtain⟨_,o,h1,h2⟩:=hr _ e;have:=h.S.blk;unfold Blk at this;rw[this] at h1;cases h1;cases h2
 refine⟨h.S.grown hg (fun r e=>⟨Nat.le_trans hb (hr r e).1,hj r e,fun e2=>by have:=(hr r e).1;omega⟩),Blk.abide h.B3 hg hr,Blk.abide h.B4 hg hr,Blk.abide h.B6 hg hr,Blk.abide h.B7 hg hr,Blk.abide h.B8 hg hr,Blk.abide h.B10 hg hr,h.O.kept hg ?_,h.lo,fun D hD=> ?_⟩
 ·cases hv:v.ownBlock with
  |none=>exact .inl rfl
  |some g=>
   right
   intro e;obtain⟨_,o,h1,h2⟩:=hr g e.symm;obtain⟨_,cs,fz,h3⟩:=h.O.row g hv;rw[h3] at h1;cases h1;cases h2
 ·have hlt:=h.ds_lt D hD;rw[hg.block D hlt (fun e=>by have:=(hr D e.symm).1;have:=hd D hD;omega)]
  exact h.marks D hD
theorem FNow.mark{D:Nat}(h:FNow wb W gj gi gm g3 g4 g6 g7 g8 g10 pv sv tv xv cv kc t k ds p s m n l v)(hD:W.heap[D]? =some (.deferred (some []))):FNow wb W gj gi gm g3 g4 g6 g7 g8 g10 pv sv tv xv cv kc t k (D::ds) p s m n l v:=
 ⟨h.S,h.B3,h.B4,h.B6,h.B7,h.B8,h.B10,h.O,h.lo,fun E hE=>by(rcases List.mem_cons.1 hE with rfl|hE);exact hD;exact h.marks E hE⟩
theorem FNow.next{W1 W2 W3 W4:World}{B:Nat}{v':Value}{p' s' m':Int}{n':Nat}{x:Step}(h:FNow wb W gj gi gm g3 g4 g6 g7 g8 g10 pv sv tv xv cv kc t k ds p s m n l v)
 (hg1:W.grownBy W1 v.ownBlock)(hO:OwnAt W1 wb.heap.size 82 2 v' (l++ [x]).length (dJ (l++ [x])))(hg2:W1.grownBy W2 (some g10))(hB10:Blk W2 g10 32 #[v'])
 (hg3:W2.grownBy W3 (some g7))(hB7:Blk W3 g7 113 #[.int .i64 p',.int .i64 s'])(hg4:W3.grownBy W4 (some g8))(hB8:Blk W4 g8 115 #[.int .i64 m',.int .i64 n'])(hlt:g7<B∧g8<B∧g10<B):
 FNow wb W4 gj gi gm g3 g4 g6 g7 g8 g10 pv sv tv xv cv kc t k ds p' s' m' n' (l++ [x]) v'∧UpT 82 B W W4:=by
 have b10:=h.B10.grown hg1 (h.O.blk_ne h.B10 (by decide))
 have b7:=(h.B7.grown hg1 (h.O.blk_ne h.B7 (by decide))).grown hg2 (fun e=>blk_ne (h.B7.grown hg1 (h.O.blk_ne h.B7 (by decide))) b10 (by decide) (Option.some.inj e))
 have b8a:=h.B8.grown hg1 (h.O.blk_ne h.B8 (by decide))
 have b8b:=b8a.grown hg2 (fun e=>blk_ne b8a b10 (by decide) (Option.some.inj e))
 have b8:=b8b.grown hg3 (fun e=>blk_ne b8b b7 (by decide) (Option.some.inj e))
 have keep:∀(q:Nat)(o:Obj),W.heap[q]? =some o→(∀cs fz,o≠ .cells cs 82 fz)→(∀cs fz,o≠ .cells cs 32 fz)→(∀cs fz,o≠ .cells cs 113 fz)→(∀cs fz,o≠ .cells cs 115 fz)→W4.heap[q]? =some o:=by
  intro q o ho n1 n2 n3 n4;have l0:=(Array.getElem?_eq_some_iff.1 ho).1;have e1:=(hg1.block q l0 (fun e=>by obtain⟨_,cs,fz,h3⟩:=h.O.row q e.symm;rw[ho] at h3;exact n1 _ _ (Option.some.inj h3))).trans ho
  have l1:=(Array.getElem?_eq_some_iff.1 e1).1;have e2:=(hg2.block q l1 (fun e=>by cases e;unfold Blk at b10;rw[e1] at b10;exact n2 _ _ (Option.some.inj b10))).trans e1
  have l2:=(Array.getElem?_eq_some_iff.1 e2).1;have e3:=(hg3.block q l2 (fun e=>by cases e;unfold Blk at b7;rw[e2] at b7;exact n3 _ _ (Option.some.inj b7))).trans e2
  have l3:=(Array.getElem?_eq_some_iff.1 e3).1;exact(hg4.block q l3 (fun e=>by cases e;unfold Blk at b8;rw[e3] at b8;exact n4 _ _ (Option.some.inj b8))).trans e3
 have kb:∀{g:Nat}{t':TypeId}{cs:Array Value},Blk W g t' cs→t'≠82→t'≠32→t'≠113→t'≠115→Blk W4 g t' cs:=by
  intro g t' cs hb n1 n2 n3 n4;exact keep g _ hb (fun _ _ e=>by simp only[Obj.cells.injEq] at e;exact n1 e.2.1) (fun _ _ e=>by simp only[Obj.cells.injEq] at e;exact n2 e.2.1) (fun _ _ e=>by simp only[Obj.cells.injEq] at e;exact n3 e.2.1) (fun _ _ e=>by simp only[Obj.cells.injEq] at e;exact n4 e.2.1)
 have hS1:=h.S.grown hg1 (fun r e=>⟨(h.O.lt r e).1,fun e2=>h.O.blk_ne h.S.blk (by decide) (by rw[e,e2]),fun e2=>h.O.map_ne h.S.map (by rw[e,e2])⟩)
 have hS2:=hS1.grown hg2 (fun r e=>by cases e;exact⟨h.lo.2.2,fun e2=>blk_ne b10 hS1.blk (by decide) e2,fun e2=>cD.notblk hS1.map b10 e2.symm⟩)
 have hS3:=hS2.grown hg3 (fun r e=>by cases e;exact⟨h.lo.1,fun e2=>blk_ne b7 hS2.blk (by decide) e2,fun e2=>cD.notblk hS2.map b7 e2.symm⟩)
 have hS4:=hS3.grown hg4 (fun r e=>by cases e;exact⟨h.lo.2.1,fun e2=>blk_ne b8 hS3.blk (by decide) e2,fun e2=>cD.notblk hS3.map b8 e2.symm⟩)
 have o2:=hO.kept hg2 (hO.ne b10 (by decide))
 have o3:=o2.kept hg3 (o2.ne b7 (by decide))
 have o4:=o3.kept hg4 (o3.ne b8 (by decide))
 have c10:=hB10.grown hg3 (fun e=>blk_ne hB10 b7 (by decide) (Option.some.inj e))
 have d10:=c10.grown hg4 (fun e=>blk_ne c10 b8 (by decide) (Option.some.inj e))
 have d7:=hB7.grown hg4 (fun e=>blk_ne hB7 b8 (by decide) (Option.some.inj e))
 refine⟨⟨hS4,kb h.B3 (by decide) (by decide) (by decide) (by decide),kb h.B4 (by decide) (by decide) (by decide) (by decide),kb h.B6 (by decide) (by decide) (by decide) (by decide),d7,hB8,d10,o4,h.lo,fun D hD=>keep D _ (h.marks D hD) (fun _ _ e=>by cases e) (fun _ _ e=>by cases e) (fun _ _ e=>by cases e) (fun _ _ e=>by cases e)⟩,?_⟩
 obtain⟨l7,l8,l10⟩:=hlt;exact(((UpT.grown hg1 (fun g e=>.inr (h.O.row g e).2)).trans (UpT.grown hg2 (fun g e=>by cases e;exact .inl l10))).trans (UpT.grown hg3 (fun g e=>by cases e;exact .inl l7))).trans (UpT.grown hg4 (fun g e=>by cases e;exact .inl l8))
end
theorem zC{t:Town}{k:Task}(hk:Town.TaskOk t k){x:Step}(hx:x∈t.stepsAll k):∃(n pn qn u:Nat)(b:Bool),x=⟨(n:Int),b⟩∧n<t.streets.length∧(t.ends ⟨(n:Int),b⟩).1=(pn:Int)∧pn<t.places.length∧(t.ends ⟨(n:Int),b⟩).2=(qn:Int)∧qn<t.places.length∧t.shownAt k.time ⟨(n:Int),b⟩=(u:Int)∧u<64∧1≤(t.at_ (n:Int)).metres∧(t.at_ (n:Int)).metres≤10000:=by
 have h3:=(Town.mem_stepsAll.1 hx).1;obtain⟨st,bk⟩:=x;obtain⟨n,rfl,hn⟩:=fB h3;obtain⟨pn,h4,h5⟩:=fB (hk.ok.ends h3).1;obtain⟨qn,g4,g5⟩:=fB (hk.ok.ends h3).2;have h6:=hk.ok.atI h3;obtain⟨_,h7,h8⟩:=hk.ok.shown h6 hk.time;have h9:=(Town.sets_bd hk.ok.sh).2;have h10:=aV.1 h6.m;refine⟨n,pn,qn,(t.shownAt k.time ⟨(n:Int),bk⟩).toNat,bk,rfl,by omega,h4,by omega,g4,by omega,?_,?_,h10.1,h10.2⟩
 ·unfold Town.shownAt;omega
 ·unfold Town.shownAt;omega
end Go.St
end
