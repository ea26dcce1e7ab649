/- Chapter 03: contracts of functions of the program and of the reference, and plain laws (out of SR11 StL SR13). No condition of its own. -/
import Derived.Test.YtfjnacajjpaeiaaGreatDoorQE01
set_option maxRecDepth 100000
set_option linter.all false
section
namespace Go.St
open Go Go.Bp Go.RowKit Go.Proofs
theorem Rm:∀n:Nat,madeCells #[.int .i64 0,.int .i64 0] (n*2)=(aZ (fun _=>(0,0)) n).toArray:=by
 intro n;apply Array.ext
 ·simp[madeCells,dV]
 ·intro i h1 h2;have hl:i<n*2:=by simpa [dV] using h2
  obtain⟨k1,k2⟩:=iR (fun _=>(0,0)) n (i/2) (by omega)
  have e:(aZ (fun _=>(0,0)) n).toArray[i]? =some (.int .i64 0):=by
   by_cases hi:i%2=0
   ·have:i=i/2*2:=by omega
    rw[this];simpa using k1
   ·have:i=i/2*2+1:=by omega
    rw[this];simpa using k2
  rw[Array.getElem?_eq_getElem h2] at e;injection e with e
  rw[e];have:i%2=0∨i%2=1:=by omega
  rcases this with h|h<;>simp[madeCells,h]
section
variable{ops:Array Oper}{Q:Exit→Act→World→Prop}{a:Act}{w:World}{rest:List Oper}
variable{d:Option Tmp}{ty:TypeId}{pos:String}{after:Array Edge}
theorem Fl{x y:Operand}{n:Nat}(hn:n≤1000000)(hx:a.eval x=.int .i64 n)(hy:a.eval y=.int .i64 n)
 (k:∀W g,Ext w W→Blk W g 130 (aZ (fun _=>(0,0)) n).toArray→w.heap.size≤g→wpList Tryz.prog ops Q rest (a.put d (.slice (some ⟨g,0,none⟩) n n)) W):
 wpList Tryz.prog ops Q (⟨d,.makeSlice 131 x y,ty,pos,after,none⟩::rest) a w:=by
 obtain⟨i,hi0,hz0,hs,hby⟩:=info_parts yW;have hbi:(i.bytes:Int)*(n:Int)≤281474976710656:=by rw[hby];omega
 have hr:=run_make (P:=Tryz.prog) w 131 130 i _ Tryz.underlying131 hi0 hz0 .i64 .i64 (n:Int) (n:Int) (by omega) (by omega) hbi (by omega)
 simp only[Int.toNat_natCast,hs,Value.cells,Rm] at hr;refine wpList_plain rfl fun K hK=> ?_
 have h:(execOp a.eval (⟨d,.makeSlice 131 x y,ty,pos,after,none⟩:Oper)).run Tryz.prog w=.ok (.value (.slice (some ⟨w.heap.size,0,none⟩) n n)) (w.alloc (.cells (aZ (fun _=>(0,0)) n).toArray 130)):=by
  simp[execOp,hx,hy,hr,Result.andThen]
 unfold Oper.wp;rw[h];exact hK _ _ (k _ _ (Ext.ofAlloc _ _) (Blk.new _ _ _) (Nat.le_refl _))
end
theorem Cv{A B C:World}{r:Option Nat}(h:A.grownBy B r)(k:B.grownBy C r):A.grownBy C r:=
 ⟨k.os.trans h.os,k.tape.trans h.tape,k.output.trans h.output,Nat.le_trans h.size k.size,fun j hj hne=>(k.block j (Nat.lt_of_lt_of_le hj h.size) hne).trans (h.block j hj hne)⟩
theorem Kc{gs:List Nat}{g n:Nat}(h:gs.length<n):(gs++ [g]).length≤n:=by rw[List.length_append];exact h
theorem Mw{gs:List Nat}{g:Nat}:Value.int .i64 ((gs.length:Int)+1)=Value.int .i64 (((gs++ [g]).length:Nat):Int):=by rw[List.length_append];rfl
theorem Jd(M j:Nat):aZ (fun i=>if i=j then((-1:Int),(0:Int)) else(fun i=>if i<j then((-1:Int),(0:Int)) else(0,0)) i) M=aZ (fun i=>if i<j+1 then(-1,0) else(0,0)) M:=
 dR (fun i _=>by
  by_cases e:i=j
  ·simp[e]
  ·by_cases e2:i<j
   ·simp[e,e2,show i<j+1 by omega]
   ·simp[e,e2,show¬i<j+1 by omega])
def fR(gs:List Nat)(m n:Nat):List Value:=gs.map (fun g=>Value.slice (some ⟨g,0,none⟩) m m)++List.replicate (n-gs.length) (.slice none 0 0)
theorem xO(m n:Nat):(fR [] m n).toArray=Array.replicate n (.slice none 0 0):=by simp[fR]
theorem vN{gs:List Nat}{m n:Nat}(h:gs.length=n):fR gs m n=gs.map fun g=>Value.slice (some ⟨g,0,none⟩) m m:=by simp[fR,h]
theorem xN{gs:List Nat}{m n g:Nat}(h:gs.length<n):(fR gs m n).toArray.setIfInBounds gs.length (.slice (some ⟨g,0,none⟩) m m)=(fR (gs++ [g]) m n).toArray:=by
 obtain⟨r,hr⟩:∃r,n-gs.length=r+1:=⟨n-gs.length-1,by omega⟩
 have hr2:n-(gs++ [g]).length=r:=by rw[List.length_append];simp;omega
 unfold fR;rw[hr,hr2,List.setIfInBounds_toArray];congr 1
 rw[List.set_append_right _ _ (by simp)]
 simp[List.replicate_succ]
theorem KT.full{w:World}{G:Nat}{gs:List Nat}{m n:Nat}{f:Nat→Nat→Int×Int}(ht:Blk w G 131 (fR gs m n).toArray)(hn:gs.length=n)(hr:∀p(hp:p<gs.length),Blk w gs[p] 130 (aZ (f p) m).toArray)(hd:gs.Nodup):KT w G gs m f:=
 ⟨by rw[vN hn] at ht;exact ht,hr,hd⟩
theorem rE(tv kv:Value)(t:Town)(k:Task)(w:World)(h:aM w tv t)(hst:t.streets.length≤40)(hk:bA w kv k):
 Calls Tryz.prog 68 #[tv,kv] w fun e w'=>∃A c,e=.returned (.slice A (t.stepsAll k).length c)∧aX w.heap.size w' (.slice A (t.stepsAll k).length c) (t.stepsAll k)∧Ext w w':=
 (Jh tv kv t k w h hst hk).mono fun e w' ⟨v,h1,h2,h3⟩=>by
  obtain⟨A,c,rfl,_⟩:=h2.steps;exact⟨A,c,h1,h2,h3⟩
theorem vB{t:Town}{k:Task}(h:Town.TaskOk t k){T:Tab}(h0:∀p s c,T p s=some c→0≤c.1){x:Step}(hx:inB x.st 0 (t.streets.length-1)=true){n:Nat}:byF t k (fun p s=>cv (T (p:Int) (s:Int))) x n=cv (Town.via T (t.arcOf k x) n):=by
 have h1:=aV.1 (h.ok.ends hx).2;have h2:=cM (n:Int) (t.shownAt k.time x);rw[Town.via_cv0 h0];unfold byF;have e1:(((t.ends x).2.toNat:Nat):Int)=(t.ends x).2:=by omega
 have e2:(((aE (n:Int) (t.shownAt k.time x)).toNat:Nat):Int)=aE (n:Int) (t.shownAt k.time x):=by omega
 simp only[e1,e2];rfl
theorem Nw{t:Town}{k:Task}(h:Town.TaskOk t k){T:Tab}(hr:Town.RefT t k T){x:Step}(hx:inB x.st 0 (t.streets.length-1)=true){n:Nat}:byF t k (fun p s=>cv (T (p:Int) (s:Int))) x n=cv (Town.via T (t.arcOf k x) n):=vB (T:=T) h (fun p s c hc=>(hr.bd h (p:=p) (s:=s) hc).1) hx
set_option maxHeartbeats 8000000 in
theorem oX(tv kv:Value)(t:Town)(k:Task)(w:World)(h:aM w tv t)(hk:bA w kv k)(hok:Town.TaskOk t k):
 Calls Tryz.prog 67 #[tv,kv] w fun e w'=>∃G gs,e=.returned (.slice (some ⟨G,0,none⟩) t.places.length t.places.length)∧gs.length=t.places.length∧KT w' G gs (2^t.shows.length) (fun p s=>cv (t.cost k (p:Int) (s:Int)))∧Ext w w':=by
 obtain⟨pv,shv,tmv,xv,rfl,hT⟩:=h;obtain⟨A1,cp1,rfl,_,hc1,_,_⟩:=hT.places;obtain⟨A2,cp2,rfl,_,hc2,_,_⟩:=hT.shows;obtain⟨clv,rfl,hC⟩:=hk;unfold maxLen at hc1 hc2;have hE:=Ext.refl w;have hTw:=hT;have hCw:=hC;have Hok:=Lib.hid hok;have hp1:=hok.ok.p1;have hp2:=hok.ok.p2;have hsh:=hok.ok.sh;have hst:=hok.ok.st;have hb:=aV.1 hok.b;have hset:=Town.sets_bd hsh;have cset:∀w,Calls Tryz.prog 42 #[.int .i64 t.shows.length] w fun e w'=>e=.returned (.int .i64 ((2^t.shows.length:Nat):Int))∧w=w':=fun w=>by have:=jP t.shows.length (by omega) w;push_cast;exact this
 obtain⟨M,hM⟩:∃M:Nat,2^t.shows.length=M:=⟨_,rfl⟩;have hM2:1≤M∧M≤64:=by
  have e:t.sets=((2^t.shows.length:Nat):Int):=by unfold Town.sets;push_cast;rfl
  rw[e,hM] at hset;omega
 have HM:=Lib.hid hM;rw[hM] at cset;rw[hM];obtain⟨bn,hbn⟩:∃n:Nat,k.b=n:=⟨k.b.toNat,by omega⟩
 have Hbn:=Lib.hid hbn;clear hok hset hM hbn;go_enter Tryz.func67,Tryz.ntmps67
 go_wp2_with (first|(((with_reducible refine Ch (d:=some 18) (z:=.slice none 0 0) (n:=t.places.length) (b:=24) Tryz.underlying127 Rg ?_ ?_ ?_ ?_ ?_ ?_);rfl;omega;omega;rfl;rfl;intro W18 G hE18 hBG hgG;rw[←xO M] at hBG))|((with_reducible refine aF (d:=some 2) ?_);intro W2 g2 hE2 hB2 hg2;simp[Act.eval,Act.put,Value.cells] at hB2;(try replace hE:=hE.trans hE2);have hb2_0:=hB2.cell 0;have hb2_1:=hB2.cell 1;have hb2_2:=hB2.cell 2;have hb2_3:=hB2.cell 3;simp at hb2_0 hb2_1 hb2_2 hb2_3;clear hE2)|((with_reducible refine aF (d:=some 3) ?_);intro W3 g3 hE3 hB3 hg3;simp[Act.eval,Act.put,Value.cells] at hB3;(try replace hE:=hE.trans hE3);(try replace hB2:=hB2.ext hE3);(try replace hb2_0:=Ext.c hE3 hb2_0);have hb3_0:=hB3.cell 0;have hb3_1:=hB3.cell 1;have hb3_2:=hB3.cell 2;have hb3_3:=hB3.cell 3;have hb3_4:=hB3.cell 4;simp at hb3_0 hb3_1 hb3_2 hb3_3 hb3_4;clear hE3))
 have hEg:=hE.trans hE18;have hG0:=hgG;clear hb2_0 hb2_1 hb2_2 hb2_3 hb3_0 hb3_1 hb3_2 hb3_3 hb3_4 hT hC;go_loopw [6,7] (fun p _ wr=>Ext W3 wr∧∃gs:List Nat,gs.length≤t.places.length∧p=.int .i64 gs.length∧Blk wr G 131 (fR gs M t.places.length).toArray∧(∀i(hi:i<gs.length),Blk wr gs[i] 130 (aZ (fun _=>(-1,0)) M).toArray)∧gs.Nodup∧∀g∈gs,W3.heap.size≤g) (fun p _ _=>t.places.length-(intOf p).toNat)
 case atStart=>exact⟨hE18,[],by simp,rfl,hBG,by simp,by simp,by simp⟩
 case round=>
  obtain⟨hEr,gs,hk,rfl,hTop,hRow,hnd,hge⟩:=hrel;have b21:=(hB2.ext hEr).cell 1;simp at b21;have HR:=Lib.hid hRow;have HN:=Lib.hid hnd;have HG:=Lib.hid hge;clear hBG hRow hnd hge;by_cases hlt:gs.length<t.places.length
  ·go_wp2_with (first|(go_at_call 42;refine(cset _).mono ?_;rintro e w' ⟨rfl,rfl⟩)|((with_reducible refine Fl (d:=some 31) (n:=M) ?_ ?_ ?_ ?_);omega;rfl;rfl;intro W31 g31 hE31 hB31 hg31;have hTop1:=hTop.ext hE31)|((with_reducible refine aT (t:=131) (e:=131) (g:=G) (off:=gs.length) (v:=.slice (some ⟨g31,0,none⟩) M M) ?_ ?_ hTop1 Cc ?_ ?_ ?_ ?_);rfl;rfl;rfl;(simp[fR];omega);rfl;intro W32 hB32 hgr32;rw[xN hlt] at hB32;have hE3:=bI (hEr.trans hE31) hgr32 hG0 (hEr.trans hE31).size;have hBg:=hB31.grown hgr32 (fun e=>blk_ne hTop1 hB31 (by decide) (Option.some.inj e).symm)))
   have n1:G≠g31:=blk_ne hB32 hBg (by decide)
   obtain⟨Wx,hWx⟩:∃W,W=W32:=⟨_,rfl⟩;subst hWx;go_loopw [7] (fun s W=>Wx.grownBy W (some g31)∧∃j:Nat,j≤M∧s=.int .i64 j∧Blk W g31 130 (aZ (fun i=>if i<j then(-1,0) else(0,0)) M).toArray) (fun s _=>M-(intOf s).toNat)
   case atStart=>exact⟨World.grownBy.refl _ _,0,by omega,rfl,by simpa using hBg⟩
   case round=>
    obtain⟨hgx,j,hj,rfl,hBj⟩:=hrel;have hTx:=hB32.grown hgx (fun e=>n1 (Option.some.inj e))
    have cx:wr.cell? ⟨G,gs.length,none⟩=some (.slice (some ⟨g31,0,none⟩) M M):=by rw[hTx.cell];simp[fR]
    by_cases hjl:j<M
    ·have hput:=lC (f:=fun i=>if i<j then((-1:Int),(0:Int)) else(0,0)) (c:=(-1,0)) hjl
     have hcon:=Jd M j;rw[hcon] at hput;have Hput:=Lib.hid hput;have hsz:j*2+2≤(aZ (fun i=>if i<j then((-1:Int),(0:Int)) else(0,0)) M).toArray.size:=by simp[dV];omega
     have Hsz:=Lib.hid hsz;clear hput hcon hsz;go_wp2_with (first|((with_reducible refine aK (t:=130) (e:=130) (g:=g31) (off:=j*2) (n:=2) (v:=.agg #[.int .i64 (-1),.int .i64 0]) ?_ ?_ hBj fK ?_ Hsz.out ?_ ?_);rfl;rfl;rfl;(exact yU);intro Wy hBy hgy))
     have hBy2:Blk Wy g31 130 (aZ (fun i=>if i<j+1 then(-1,0) else(0,0)) M).toArray:=by rw[←Hput.out];exact hBy
     go_roundw
     case rel=>exact⟨Cv hgx hgy,j+1,by omega,by go_num,hBy2⟩
     case measure=>simp[intOf];omega
    ·obtain rfl:j=M:=by omega
     have hfull:aZ (fun i=>if i<j then((-1:Int),(0:Int)) else(0,0)) j=aZ (fun _=>(-1,0)) j:=dR (fun i hi=>by simp[hi])
     rw[hfull] at hBj;have hEx:=bI hE3 hgx (Nat.le_trans hEr.size hg31) hE3.size;clear hfull;go_wp2
     go_roundw
     case rel=>
      refine⟨hEx,gs++ [g31],Kc hlt,Mw,hTx,?_,?_,?_⟩
      ·intro i hi;rw[List.length_append,List.length_singleton] at hi;by_cases e:i<gs.length
       ·rw[List.getElem_append_left e];have h0:=HR.out i e;have h1:=(h0.ext hE31).grown hgr32 (fun e2=>blk_ne hTop1 (h0.ext hE31) (by decide) (Option.some.inj e2).symm)
        exact h1.grown hgx (fun e2=>by have:=h0.lt;have:=Option.some.inj e2;omega)
       ·obtain rfl:i=gs.length:=by omega
        rw[List.getElem_append_right (Nat.le_refl _)];simpa using hBj
      ·rw[List.nodup_append];refine⟨HN.out,by simp,?_⟩
       intro a ha b hb;simp at hb;subst hb;obtain⟨i,hi,rfl⟩:=List.mem_iff_getElem.1 ha;have:=(HR.out i hi).lt;omega
      ·intro g hg;rcases List.mem_append.1 hg with h|h
       ·exact HG.out g h
       ·simp at h;subst h;exact Nat.le_trans hEr.size hg31
     case measure=>simp[intOf];omega
  ·have hgl:gs.length=t.places.length:=by omega
   have hK0:KT wr G gs M (fun _ _=>(-1,0)):=KT.full hTop hgl HR.out HN.out
   have hbl:bn<gs.length:=by have:=Hbn.out;omega
   have cb:=hK0.cell hbl;have hBb:=hK0.row bn hbl;have hB2r:=hB2.ext hEr;have hB3r:=hB3.ext hEr;have hTr:=hTw.ext (hE.trans hEr);have hCr:=hCw.ext (hE.trans hEr);have d0:=hB2r.cell 0;have d1:=hB2r.cell 1;have d2:=hB2r.cell 2;have d3:=hB2r.cell 3;have f0:=hB3r.cell 0;have f1:=hB3r.cell 1;have f2:=hB3r.cell 2;have f3:=hB3r.cell 3;have f4:=hB3r.cell 4;simp at d0 d1 d2 d3 f0 f1 f2 f3 f4;rw[Hbn.out] at f1;have hge:∀g∈gs,W3.heap.size≤g:=HG.out;have hgb:=hge _ (List.getElem_mem hbl);have Hsz:=Lib.hid (show 0+2≤(aZ (fun _=>((-1:Int),(0:Int))) M).toArray.size by simp[dV];omega)
   have Hgl:=Lib.hid hgl;have q0:¬((gs.length:Int)<(t.places.length:Int)):=by omega
   have q1:(bn:Int)<(t.places.length:Int):=by omega
   have q2:(0:Int)<(M:Int):=by omega
   clear hTop b21 HR HN hgl;go_wp2_with (first|((with_reducible refine aK (t:=130) (e:=130) (g:=gs[bn]) (off:=0) (n:=2) (v:=.agg #[.int .i64 0,.int .i64 0]) ?_ ?_ hBb fK ?_ Hsz.out ?_ ?_);rfl;rfl;rfl;(exact yU);intro Wy hBy hgy;have hEy:=bI hEr hgy hgb hEr.size;have hB2y:=hB2.ext hEy;have hB3y:=hB3.ext hEy;have hTy:=hTw.ext (hE.trans hEy);have hCy:=hCw.ext (hE.trans hEy);have hKy:=KT.put (c:=(0,0)) hK0 hbl (show 0<M by omega) (by rw[Nat.zero_mul];exact hBy) hgy;clear hBy)|((with_reducible refine aC (d:=some 56) (hl:=aL hB2y) ?_ ?_);rfl)|((with_reducible refine aC (d:=some 57) (hl:=bU hB3y) ?_ ?_);rfl)|(go_at_call 68;refine(rE _ _ t k _ (aM.of hTy) hst (bA.of hCy)).mono ?_;rintro e W8 ⟨A8,c8,rfl,hO8,hE8⟩))
   clear hBb cb hK0 hB2r hB3r hTr hCr d0 d1 d2 d3 f0 f1 f2 f3 f4;have hEz:=Ext.trans hEy hE8;have hO:=aX.base hO8 hEy.size;have hKz:=hKy.ext hE8;clear hO8 hKy hgy hEr hEy hB2y hB3y hTy hCy;have hK1:KT W8 G gs M (fun p s=>cv (Town.tab0 k (p:Int) (s:Int))):=hKz.congr (fun p s _ _=>by
    unfold Town.tab0 put;rw[Hbn.out];by_cases e:p=bn∧s=0
    ·rw[if_pos e,if_pos (by omega)];rfl
    ·rw[if_neg e,if_neg (by omega)];rfl)
   have hR0:=Lib.hid (Town.tab0_ref Hok.out);obtain⟨l,hl⟩:∃l,t.stepsAll k=l:=⟨_,rfl⟩;have Hl:=Lib.hid hl;rw[hl] at hO⊢;have hlen:l.length≤80:=by rw[←hl];have:=Town.stepsTo_len (t:=t) (k:=k) t.streets.length;unfold Town.stepsAll;omega
   have hsb:=aV.1 Hok.out.sh;obtain⟨sn,hsn⟩:∃n:Nat,k.show_=n:=⟨k.show_.toNat,by omega⟩
   have Hsn:=Lib.hid hsn;have hsnM:sn<M:=by
    have e:t.sets=((2^t.shows.length:Nat):Int):=by unfold Town.sets;push_cast;rfl
    rw[e,HM.out] at hsb;omega
   have HB:=Lib.hid (show Blk W3 g2 25 #[.slice A1 t.places.length cp1,.slice A2 t.shows.length cp2,tmv,xv]∧Blk W3 g3 43 #[.int .i64 k.a,.int .i64 k.b,.int .i64 k.show_,.int .i64 k.time,clv] from⟨hB2,hB3⟩)
   have HW:=Lib.hid (show TownP W3 (.slice A1 t.places.length cp1) (.slice A2 t.shows.length cp2) tmv xv t∧bG W3 clv k.closed from⟨hTw.ext hE,hCw.ext hE⟩)
   clear hKz hsb hsn hl hB2 hB3 hTw hCw q0 q1 q2 Hsz hgb;go_loopg [9,10,11,12,13,14] (2*pot (10000*t.stands.length) t.stands (Town.tab0 k)+1) (fun g ch _ _ _ _ _ wr=>Ext W3 wr∧aX W3.heap.size wr (.slice A8 l.length c8) l∧∃(T:Tab)(b:Bool),ch=.bool b∧Town.RefT t k T∧KT wr G gs M (fun p s=>cv (T (p:Int) (s:Int)))∧((b=true∧g=2*pot (10000*t.stands.length) t.stands T+1)∨(b=false∧eY aE (t.arcs k) k.b (Town.PartOf t k) T)))
   case atStart=>exact⟨hEz,hO,_,true,rfl,hR0.out,hK1,.inl ⟨rfl,rfl⟩⟩
   case round=>
    clear hEz hO hK1;obtain⟨hEr,hO,T0,b,rfl,hRT,hKr,hcase⟩:=hrel;rcases hcase with ⟨rfl,hg⟩|⟨rfl,hcl⟩
    ·have Hg:=Lib.hid hg;have HP0:=Lib.hid (Town.pass_start hRT);have HRT:=Lib.hid hRT;clear hg hRT;go_wp2
     obtain⟨Wq,hWq⟩:∃W,W=wr:=⟨_,rfl⟩;subst hWq;go_loopw [9,10,11,12,13,14] (fun ch set _ _ _ _ W=>Ext W3 W∧aX W3.heap.size W (.slice A8 l.length c8) l∧∃(n:Nat)(T:Tab)(b:Bool),n≤sn+1∧set=.int .i64 n∧ch=.bool b∧Town.RefT t k T∧KT W G gs M (fun p s=>cv (T (p:Int) (s:Int)))∧Town.Pss t k T0 T b (n:Int) 0) (fun _ set _ _ _ _ _=>sn+1-(intOf set).toNat)
     case atStart=>exact⟨hEr,hO,0,T0,false,by omega,rfl,rfl,HRT.out,hKr,HP0.out⟩
     case round=>
      clear hEr hO hKr HP0;obtain⟨hEr,hO,n,T,b,hn,rfl,rfl,hRT,hKr,hP⟩:=hrel;have hHB:=HB.out;have hB2r:=hHB.1.ext hEr;have hB3r:=hHB.2.ext hEr;have f2:=hB3r.cell 2;simp at f2;rw[show k.show_=sn from Hsn.out] at f2
      clear hHB hB2r hB3r;by_cases hlt:n≤sn
      ·have HRT2:=Lib.hid hRT;have HP:=Lib.hid hP;clear hRT hP;have q1:(n:Int)≤(sn:Int):=by omega
       by_cases hpo:Town.PartOf t k (n:Int)
       ·have hle:cH (n:Int) (sn:Int)=0:=by
         rw[dE (by omega) (by omega) (by omega)]
         have:=hpo.2.2;rw[show k.show_=sn from Hsn.out] at this;exact this
        have cless:∀w,Calls Tryz.prog 44 #[.int .i64 n,.int .i64 sn] w fun e w'=>e=.returned (.int .i64 0)∧w=w':=fun w=>by rw[←hle];exact fI n sn ⟨by omega,by omega⟩ ⟨by omega,by omega⟩ w
        have hnM:n<M:=by omega
        have Hpo:=Lib.hid hpo;clear hle hpo;go_wp2
        obtain⟨Wn,hWn⟩:∃W,W=wr:=⟨_,rfl⟩;subst hWn;go_loopw [9,11,12,13,14] (fun ch i _ _ _ W=>Ext W3 W∧aX W3.heap.size W (.slice A8 l.length c8) l∧∃(j:Nat)(T:Tab)(b:Bool),j≤l.length∧i=.int .i64 j∧ch=.bool b∧Town.RefT t k T∧KT W G gs M (fun p s=>cv (T (p:Int) (s:Int)))∧Town.Pss t k T0 T b (n:Int) j) (fun _ i _ _ _ _=>l.length-(intOf i).toNat)
        case atStart=>exact⟨hEr,hO,0,T,b,by omega,rfl,rfl,HRT2.out,hKr,HP.out⟩
        case round=>
         clear hEr hO hKr HRT2 HP f2;obtain⟨hEr,hO,j,T,b,hj,rfl,rfl,hRT,hKr,hP⟩:=hrel;have hHB:=HB.out;have hB2r:=hHB.1.ext hEr;have hB3r:=hHB.2.ext hEr;have f2:=hB3r.cell 2;simp at f2;rw[show k.show_=sn from Hsn.out] at f2
         have hHW:=HW.out;have hTr:=hHW.1.ext hEr;have hCr:=hHW.2.ext hEr;clear hHB hHW;by_cases hlt2:j<l.length
         ·have hal:(t.arcs k).length=l.length:=by rw[Town.arcs_map,show t.stepsAll k=l from Hl.out,List.length_map]
          obtain⟨x,hx⟩:∃x,l[j]=x:=⟨_,rfl⟩;have harc:(t.arcs k)[j]'(by omega)=t.arcOf k x:=by
           have e:t.arcs k=l.map (t.arcOf k):=by rw[Town.arcs_map,show t.stepsAll k=l from Hl.out]
           simp only[e,List.getElem_map,hx]
          have hxm:x∈t.stepsAll k:=by rw[show t.stepsAll k=l from Hl.out,←hx];exact List.getElem_mem hlt2
          have hin:=(Town.mem_stepsAll.1 hxm).1;have hbmem:t.arcOf k x∈t.arcs k:=by rw[←harc];exact List.getElem_mem (by omega)
          obtain⟨pn,hpn⟩:∃q:Nat,(t.ends x).1=q:=by have:=aV.1 (Hok.out.ok.ends hin).1;exact⟨((t.ends x).1).toNat,by omega⟩
          have hpl:pn<gs.length:=by have h1:=aV.1 (Hok.out.ok.ends hin).1;have h2:gs.length=t.places.length:=Hgl.out;rw[hpn] at h1;omega
          have hby:=Nw Hok.out hRT hin (n:=n);have hov:=Mm (x:=T (pn:Int) (n:Int)) (y:=Town.via T (t.arcOf k x) n) (fun c hc=>(hRT.bd Hok.out hc).1) (Town.via_nonneg Hok.out hRT hbmem)
          have Hskip:=Lib.hid (fun hv=>Town.pass_skip (by omega) harc hP hv)
          have Hbet:=Lib.hid (fun v(hv:Town.via T (t.arcOf k x) n=some v)hn=>Town.pass_better Hok.out (by omega) harc Hpo.out hRT hP hv hn)
          obtain⟨st,bk⟩:=x;obtain⟨i0,rfl,hi0⟩:=fB hin;have hi0l:i0<t.streets.length:=by omega
          have cby:=fun w(h1:aM w _ t)(h2:bA w _ k)(h3:KT w G gs M (fun p s=>cv (T (p:Int) (s:Int))))=>xX (.agg #[.slice A1 t.places.length cp1,.slice A2 t.shows.length cp2,tmv,xv]) (.agg #[.int .i64 k.a,.int .i64 k.b,.int .i64 k.show_,.int .i64 k.time,clv]) t k i0 bk (n:Int) G gs (fun p s=>cv (T (p:Int) (s:Int))) w h1 Hok.out.ok h2 Hok.out.time hi0l ⟨by omega,by have:=HM.out;have e:t.sets=((2^t.shows.length:Nat):Int):=(by unfold Town.sets;push_cast;rfl);rw[e,this];omega⟩ (by rw[HM.out];exact h3) Hgl.out (fun p s=>hRT.cvbd Hok.out _ _)
          have cends:=fun w h=>dW (.agg #[.slice A1 t.places.length cp1,.slice A2 t.shows.length cp2,tmv,xv]) t i0 bk w h hi0l
          rw[hby] at cby;rw[hpn] at cends;have hfx:(fun(p s:Nat)=>cv (T (p:Int) (s:Int))) pn n=cv (T (pn:Int) (n:Int)):=rfl
          obtain⟨v1,v2,hv⟩:∃v1 v2,cv (Town.via T (t.arcOf k ⟨(i0:Int),bk⟩) n)=(v1,v2):=⟨_,_,rfl⟩;obtain⟨o1,o2,ho⟩:∃o1 o2,cv (T (pn:Int) (n:Int))=(o1,o2):=⟨_,_,rfl⟩;rw[hv] at cby hov;rw[ho] at hov;have Hv:=Lib.hid hv;have Ho:=Lib.hid ho;have HRT2:=Lib.hid hRT;have Hpn:=Lib.hid hpn;clear hby hfx hv ho hRT hP hbmem hxm harc hal;have hcs:=aX.steps hO;obtain⟨A,cc,e8,hcc1,hcc2,_,hcc4⟩:=hcs;injection e8 with e81 e82 e83
          subst e81;subst e83;obtain⟨ad,rfl,hcells⟩:=hcc4 (by omega)
          have HstL:=Lib.hid (fun W(h:Ext wr W)=>(by have:=iM (hcells.ext h) hlt2;rw[hx] at this;exact this:(loadVar 82 (ad.add (j*2))).run Tryz.prog W=.ok (.agg #[.int .i64 (i0:Int),.bool bk]) W))
          unfold maxLen at hcc2;clear hcells hcc4 hx;have hX0:=Ext.refl wr;have hlt2z:(j:Int)<(l.length:Int):=by omega
          go_wp2_with (go_at_call 44;refine(cless _).mono ?_;rintro e w' ⟨rfl,rfl⟩)
          have hX1:=Ext.todrew hX0;refine aR (.take 0 (.take 1 (.take 2 (.take 3 (.take 4 (.one 5 (.take 6 (.take 7 (.take 8 (.take 9 (.take 10 .nil))))))))))) (fun w'=>Ext wr w') ?_ (fun hHd=> ?_)
          ·assumption
          repeat' first|((with_reducible refine aB ?_);(first|((with_reducible refine aB (i:=0) ?_);refine tk (v:=.agg #[.slice A1 t.places.length cp1,.slice A2 t.shows.length cp2,tmv,xv]) ?_ hHd ?_;(·exact aA (by rfl) (fun W h=>aL (hB2r.ext h))))|((with_reducible refine aB (i:=4) ?_);refine tk (v:=.agg #[.int .i64 (i0:Int),.bool bk]) ?_ hHd ?_;(·exact aA (by rfl) (fun W h=>HstL.out W h)))|(refine tk (v:= ?_) ?_ hHd ?_;rotate_left;(·(intro wq hSw;(try dsimp only at hSw);go_simp;(try with_reducible rfl)))));(try simp only[pS]))|((with_reducible refine bC ?_);refine aQ (by simp only[gS];rfl) ?_)|((with_reducible refine aH (d:=some 85) ?_);((refine bD (by rfl) (cends _ (aM.of (hTr.ext hX1))) (by go_simp) ?_;rintro e W85 ⟨rfl,hE85⟩;refine⟨_,rfl,?_⟩;have hX2:=hX1.trans hE85)))|((with_reducible refine bB ?_);clear hHd;refine aJ ?_ (fun hHd=> ?_);(·assumption);(try simp only[pS]))|(with_reducible refine aG ?_)
          go_wp2
          have hX3:=Ext.todrew hX2;refine aR (.take 0 (.take 1 (.take 2 (.take 3 (.take 4 (.take 5 (.take 6 (.take 7 (.two 8 (.one 9 (.one 10 .nil)) 9 (.one 8 (.one 10 .nil))))))))))) (fun w'=>Ext wr w') ?_ (fun hHd=> ?_)
          ·assumption
          repeat' first|((with_reducible refine aB ?_);(first|((with_reducible refine aB (i:=0) ?_);refine tk (v:=.agg #[.slice A1 t.places.length cp1,.slice A2 t.shows.length cp2,tmv,xv]) ?_ hHd ?_;(·exact aA (by rfl) (fun W h=>aL (hB2r.ext h))))|((with_reducible refine aB (i:=1) ?_);refine tk (v:=.agg #[.int .i64 k.a,.int .i64 k.b,.int .i64 k.show_,.int .i64 k.time,clv]) ?_ hHd ?_;(·exact aA (by rfl) (fun W h=>bU (hB3r.ext h))))|((with_reducible refine aB (i:=6) ?_);refine tk (v:=.agg #[.int .i64 (i0:Int),.bool bk]) ?_ hHd ?_;(·exact aA (by rfl) (fun W h=>HstL.out W h)))|(refine tk (v:= ?_) ?_ hHd ?_;rotate_left;(·(intro wq hSw;(try dsimp only at hSw);go_simp;(try with_reducible rfl)))));(try simp only[pS]))|((with_reducible refine bC ?_);refine aQ (by simp only[gS];rfl) ?_)|((with_reducible refine fQ ?_);refine dI (by simp only[gS];rfl) (by simp only[gS];rfl) ?_ ?_)|((with_reducible refine aH (d:=some 96) ?_);((refine bD (by rfl) (cby _ (aM.of (hTr.ext (by assumption))) (bA.of (hCr.ext (by assumption))) (hKr.ext (by assumption))) (by have hgl:=Hgl.out;rw[←hgl];go_simp) ?_;rintro e W96 ⟨rfl,hE96⟩;refine⟨_,rfl,?_⟩;have hX96:Ext wr W96:=Ext.trans (by assumption) hE96;(try replace hB14:=hB14.ext hE96))))|((with_reducible refine aH (d:=some 14) ?_);(((with_reducible refine aS (d:=some 14) yW ?_);intro W14 g14 hE14 hB14 hg14;simp[Value.cells] at hB14;have hX14:Ext wr W14:=Ext.trans (by assumption) hE14;have hq14:wr.heap.size≤g14:=Nat.le_trans (Ext.le (by assumption)) hg14)))|((with_reducible refine aH (d:=none) ?_);(((with_reducible refine aK (t:=130) (e:=130) (g:=g14) (off:=0) (n:=2) (v:=.agg #[.int .i64 v1,.int .i64 v2]) ?_ ?_ hB14 fK ?_ ?_ ?_ ?_);rfl;rfl;rfl;(simp[Value.cells]);(exact yU);intro Ws hBs hgrs;simp[aI,Value.cells] at hBs;have hXs:Ext wr Ws:=aD (by assumption) hgrs hq14)))|((with_reducible refine bB ?_);clear hHd;refine aJ ?_ (fun hHd=> ?_);(·assumption);(try simp only[pS]))|(with_reducible refine aG ?_)
          all_goals
           have cG:=(hKr.ext hXs).cell hpl;have hXd:=Ext.todrew (Ext.refl Ws);have cGd:=Ext.cell_some hXd cG;have hplz:(pn:Int)<(gs.length:Int):=by omega
           have hplz2:(pn:Int)<(t.places.length:Int):=by have:=Hgl.out;omega
           have hnMz:(n:Int)<(M:Int):=by omega
           cases hq:sF (o1,o2) (v1,v2) with
           |false=>
            have HP1:=Lib.hid (Hskip.out (fun v hv=>by
             show∃d,T (t.ends ⟨(i0:Int),bk⟩).1 (n:Int)=some d∧le2 d v
             rw[show(t.ends ⟨(i0:Int),bk⟩).1=(pn:Int) from Hpn.out]
             refine Classical.byContradiction fun hno=> ?_
             have:=hov.2 ⟨v,hv,fun d hd hle=>hno ⟨d,hd,hle⟩⟩
             rw[hq] at this;cases this))
            go_wp2
            refine aR (.take 0 (.take 1 (.take 2 (.take 3 (.take 4 (.take 5 (.take 6 (.take 7 (.one 8 .nil))))))))) (fun w'=>Ext Ws w'∧w'.cell? ⟨G,pn,none⟩=some (.slice (some ⟨gs[pn],0,none⟩) M M)) ?_ (fun hHd=> ?_)
            ·(first|exact True.intro|((try dsimp only);(repeat' apply And.intro)<;>first|assumption|(refine Ext.cell_some (Ext.todrew (Ext.refl _)) ?_;assumption)))
            repeat' first|((with_reducible refine aB ?_);(first|((with_reducible refine aB (i:=6) ?_);refine tk (v:=.agg #[.int .i64 o1,.int .i64 o2]) ?_ hHd ?_;(·exact aA (by rfl) (fun W h=>KT.ldc ((hKr.ext hXs).ext h.1) hpl hnM Ho.out)))|((with_reducible refine aB (i:=7) ?_);refine tk (v:=.agg #[.int .i64 v1,.int .i64 v2]) ?_ hHd ?_;(·exact aA (by rfl) (fun W h=>jG (hBs.ext h.1))))|(refine tk (v:= ?_) ?_ hHd ?_;rotate_left;(·(intro wq hSw;(try dsimp only at hSw);go_simp;(try with_reducible rfl)))));(try simp only[pS]))|((with_reducible refine bC ?_);refine aQ (by simp only[gS];rfl) ?_)|((with_reducible refine aH (d:=some 105) ?_);((refine bD (by rfl) (zW o1 o2 v1 v2 _) (by go_simp) ?_;rintro e W105 ⟨rfl,hE105⟩;refine⟨_,rfl,?_⟩;have hX5s:=hXd.trans hE105;have hX5:=hXs.trans hX5s;have cG5:=Ext.cell_some hX5s cG)))|((with_reducible refine bB ?_);clear hHd;refine aJ ?_ (fun hHd=> ?_);(·(first|exact True.intro|((try dsimp only);(repeat' apply And.intro)<;>first|assumption|(refine Ext.cell_some (Ext.todrew (Ext.refl _)) ?_;assumption))));(try simp only[pS]))|(with_reducible refine aG ?_)
            rw[hq];go_wp2
            go_roundw
            case rel=>exact⟨hEr.trans hX5,aX.ext hO hX5,j+1,T,b,by omega,by go_num,rfl,HRT2.out,hKr.ext hX5,HP1.out⟩
            case measure=>simp[intOf];omega
           |true=>
            obtain⟨v,hv,hn⟩:=hov.1 hq;have hvv:v=(v1,v2):=by have:=Hv.out;rw[hv,iQ] at this;exact this
            have HPR:=Lib.hid (Hbet.out v hv (by
             show∀d,T (t.ends ⟨(i0:Int),bk⟩).1 (n:Int)=some d→¬le2 d v
             rw[show(t.ends ⟨(i0:Int),bk⟩).1=(pn:Int) from Hpn.out];exact hn))
            have HT':Hid ((t.arcOf k ⟨(i0:Int),bk⟩).p=(pn:Int)):=Hpn.out;have Hvv:=Lib.hid hvv;clear hv hn hvv;go_wp2
            refine aR (.take 0 (.take 1 (.take 2 (.take 3 (.take 4 (.take 5 (.take 6 (.take 7 (.one 8 .nil))))))))) (fun w'=>Ext Ws w'∧w'.cell? ⟨G,pn,none⟩=some (.slice (some ⟨gs[pn],0,none⟩) M M)) ?_ (fun hHd=> ?_)
            ·(first|exact True.intro|((try dsimp only);(repeat' apply And.intro)<;>first|assumption|(refine Ext.cell_some (Ext.todrew (Ext.refl _)) ?_;assumption)))
            repeat' first|((with_reducible refine aB ?_);(first|((with_reducible refine aB (i:=6) ?_);refine tk (v:=.agg #[.int .i64 o1,.int .i64 o2]) ?_ hHd ?_;(·exact aA (by rfl) (fun W h=>KT.ldc ((hKr.ext hXs).ext h.1) hpl hnM Ho.out)))|((with_reducible refine aB (i:=7) ?_);refine tk (v:=.agg #[.int .i64 v1,.int .i64 v2]) ?_ hHd ?_;(·exact aA (by rfl) (fun W h=>jG (hBs.ext h.1))))|(refine tk (v:= ?_) ?_ hHd ?_;rotate_left;(·(intro wq hSw;(try dsimp only at hSw);go_simp;(try with_reducible rfl)))));(try simp only[pS]))|((with_reducible refine bC ?_);refine aQ (by simp only[gS];rfl) ?_)|((with_reducible refine aH (d:=some 105) ?_);((refine bD (by rfl) (zW o1 o2 v1 v2 _) (by go_simp) ?_;rintro e W105 ⟨rfl,hE105⟩;refine⟨_,rfl,?_⟩;have hX5s:=hXd.trans hE105;have hX5:=hXs.trans hX5s;have cG5:=Ext.cell_some hX5s cG)))|((with_reducible refine bB ?_);clear hHd;refine aJ ?_ (fun hHd=> ?_);(·(first|exact True.intro|((try dsimp only);(repeat' apply And.intro)<;>first|assumption|(refine Ext.cell_some (Ext.todrew (Ext.refl _)) ?_;assumption))));(try simp only[pS]))|(with_reducible refine aG ?_)
            rw[hq];go_wp2
            have hX6:=Ext.todrew hX5;have hK6:=hKr.ext hX6;have hB6:=hK6.row pn hpl;have cG6:=hK6.cell hpl;have hB146:=hBs.ext (Ext.todrew hX5s);have ng:g14≠gs[pn]:=by have h1:=(hKr.row pn hpl).lt;omega
            have nG:G≠gs[pn]:=blk_ne hK6.top hB6 (by decide)
            have Hsz:=Lib.hid (show n*2+2≤(aZ ((fun(p s:Nat)=>cv (T (p:Int) (s:Int))) pn) M).toArray.size by simp[dV];omega)
            refine aR (.take 0 (.take 1 (.take 2 (.take 3 (.take 4 (.take 5 (.take 6 (.one 7 (.take 8 .nil))))))))) (fun w'=>w'.cell? ⟨G,pn,none⟩=some (.slice (some ⟨gs[pn],0,none⟩) M M)∧Blk w' g14 130 #[.int .i64 v1,.int .i64 v2]) ?_ (fun hHd=> ?_)
            ·(first|exact True.intro|((try dsimp only);(repeat' apply And.intro)<;>first|assumption|(refine Ext.cell_some (Ext.todrew (Ext.refl _)) ?_;assumption)))
            repeat' first|((with_reducible refine aB ?_);(first|((with_reducible refine aB (i:=5) ?_);refine tk (v:=.agg #[.int .i64 v1,.int .i64 v2]) ?_ hHd ?_;(·exact aA (by rfl) (fun W h=>jG h.2)))|(refine tk (v:= ?_) ?_ hHd ?_;rotate_left;(·(intro wq hSw;(try dsimp only at hSw);go_simp;(try with_reducible rfl)))));(try simp only[pS]))|((with_reducible refine bC ?_);refine aQ (by simp only[gS];rfl) ?_)|((with_reducible refine aH (d:=none) ?_);(((with_reducible refine aK (t:=130) (e:=130) (g:=gs[pn]) (off:=n*2) (n:=2) (v:=.agg #[.int .i64 v1,.int .i64 v2]) ?_ ?_ hB6 fK ?_ Hsz.out ?_ ?_);rfl;rfl;rfl;(exact yU);intro W7 hB7 hg7;have cG7:=(Blk.cell (hK6.top.grown hg7 (fun e=>nG (Option.some.inj e))) pn);rw[←Blk.cell hK6.top pn,cG6] at cG7;have hB147:=hB146.grown hg7 (fun e=>ng (Option.some.inj e)))))|((with_reducible refine bB ?_);clear hHd;refine aJ ?_ (fun hHd=> ?_);(·(first|exact True.intro|((try dsimp only);(repeat' apply And.intro)<;>first|assumption|(refine Ext.cell_some (Ext.todrew (Ext.refl _)) ?_;assumption))));(try simp only[pS]))|(with_reducible refine aG ?_)
            have hK7:=KT.put (c:=(v1,v2)) hK6 hpl hnM hB7 hg7;have hO7:=fM (aX.ext hO hX6) hg7 (kY (aX.ext hO hX6) hB6 (.inl (by decide)))
            have hE7:=aD (hEr.trans hX6) hg7 (hge _ (List.getElem_mem hpl));clear hB7;go_wp2
            go_roundw
            case rel=>
             refine⟨hE7,hO7,j+1,_,true,by omega,by go_num,rfl,HPR.out.2,hK7.congr (fun p s _ _=> ?_),HPR.out.1⟩
             unfold put;rw[show(t.arcOf k ⟨(i0:Int),bk⟩).p=(pn:Int) from HT'.out]
             by_cases e:p=pn∧s=n
             ·rw[if_pos e,if_pos (by omega),iQ,Hvv.out]
             ·rw[if_neg e,if_neg (by omega)]
            case measure=>simp[intOf];omega
         ·obtain rfl:j=l.length:=by omega
          have hal:(t.arcs k).length=l.length:=by rw[Town.arcs_map,show t.stepsAll k=l from Hl.out,List.length_map]
          have HPn:=Lib.hid (Town.pass_row (by rw[hal];exact hP))
          have HRT2:=Lib.hid hRT;clear hRT hP hal;go_wp2
          go_roundw
          case rel=>exact⟨hEr,hO,n+1,T,b,by omega,by go_num,rfl,HRT2.out,hKr,HPn.out⟩
          case measure=>simp[intOf];omega
       ·have hle:cH (n:Int) (sn:Int)=aE n sn:=dE (by omega) (by omega) (by omega)
        have hnz:aE (n:Int) (sn:Int)≠0:=fun e=>hpo ⟨by omega,by have:=HM.out;have e2:((2:Int)^t.shows.length)=((2^t.shows.length:Nat):Int):=(by push_cast;rfl);rw[e2,this];omega,by rw[show k.show_=sn from Hsn.out];exact e⟩
        have HPn:=Lib.hid (Town.pass_no hpo HP.out);have cless:∀w,Calls Tryz.prog 44 #[.int .i64 n,.int .i64 sn] w fun e w'=>e=.returned (.int .i64 (aE n sn))∧w=w':=fun w=>by rw[←hle];exact fI n sn ⟨by omega,by omega⟩ ⟨by omega,by omega⟩ w
        have q2:(aE (n:Int) (sn:Int)==0)=false:=by simp[hnz]
        clear hle hnz hpo;go_wp2
        obtain⟨Wn,hWn⟩:∃W,W=wr:=⟨_,rfl⟩;subst hWn;go_loopw [9,11] (fun ch i W=>W=Wn∧i=.int .i64 0∧ch=.bool b) (fun _ _ _=>0)
        case atStart=>exact⟨rfl,rfl,rfl⟩
        case round=>
         obtain⟨rfl,rfl,rfl⟩:=hrel;by_cases hl0:0<l.length
         ·go_wp2_with (go_at_call 44;refine(cless _).mono ?_;rintro e w' ⟨rfl,rfl⟩)
          go_roundw
          case rel=>exact⟨hEr,hO,n+1,T,b,by omega,by go_num,rfl,HRT2.out,hKr,HPn.out⟩
          case measure=>simp[intOf];omega
         ·go_wp2
          go_roundw
          case rel=>exact⟨hEr,hO,n+1,T,b,by omega,by go_num,rfl,HRT2.out,hKr,HPn.out⟩
          case measure=>simp[intOf];omega
      ·obtain rfl:n=sn+1:=by omega
       have q1:¬(((sn+1:Nat):Int)≤(sn:Int)):=by omega
       have HRT2:=Lib.hid hRT;have HP:=Lib.hid hP;clear hRT hP
       cases b with
       |true=>
        have Hf:=Lib.hid (HP.out.fell rfl);go_wp2
        go_roundg (2*pot (10000*t.stands.length) t.stands T+1)
        case rel=>exact⟨hEr,hO,T,true,rfl,HRT2.out,hKr,.inl ⟨rfl,rfl⟩⟩
        case measure=>have:=Hf.out;have:=Hg.out;omega
       |false=>
        have Hf:=Lib.hid (Town.pass_end Hok.out (by have:=HP.out;rw[show k.show_=sn from Hsn.out];exact this))
        go_wp2
        go_roundg (2*pot (10000*t.stands.length) t.stands T0)
        case rel=>exact⟨hEr,hO,T,false,rfl,HRT2.out,hKr,.inr ⟨rfl,Hf.out.2⟩⟩
        case measure=>have:=Hg.out;omega
    ·have Hc:=Lib.hid (Town.RefT.eq Hok.out hRT hcl);clear hcl;go_wp2
     go_ret
     have hgl:=Hgl.out;exact⟨G,gs,rfl,hgl,hKr.congr (fun p s _ _=>by rw[Hc.out]),hE.trans hEr⟩
end Go.St
end
section
namespace Go.St
open Go.Bp
namespace Town
variable(t:Town)(k:Task)
theorem rowTo_succ(p j:Nat):t.rowTo k p (j+1)=t.rowTo k p j++ [(cv (t.cost k (p:Int) (j:Int))).1]:=by unfold rowTo;rw[List.range_succ,List.map_append];rfl
end Town
namespace Town
variable(t:Town)(k:Task)
open Classical in
variable{t k}
end Town
end Go.St
end
section
namespace Go.St
open Go Go.Bp Go.RowKit Go.Proofs
section
variable{ops:Array Oper}{Q:Exit→Act→World→Prop}{a:Act}{w:World}{rest:List Oper}
variable{d:Option Tmp}{ty:TypeId}{pos:String}{after:Array Edge}
theorem Mj{s x:Operand}{B g:Nat}{v:Value}{xs:List Int}{n:Int}(hs:a.eval s=v)(hO:iA B w v xs)(hx:a.eval x=.slice (some ⟨g,0,none⟩) 1 1)(hb:Blk w g 3 #[.int .i64 n])(hlen:xs.length≤1000000000)(hB:B≤w.heap.size)
 (k:∀A' c' W,iA B W (.slice A' (xs.length+1) c') (xs++ [n])→(∀w0,Below B w0 w→Below B w0 W)→w.grownBy W v.ownBlock→wpList Tryz.prog ops Q rest (a.put d (.slice A' (xs.length+1) c')) W):
 wpList Tryz.prog ops Q (⟨d,.call {callee:=.builtin .append,args:=#[s,x],argTypes:=#[41,41]},ty,pos,after,none⟩::rest) a w:=
 Ps hs hO hx hb hlen hB fun v' W h1 h2 h3=>by
  obtain⟨A',c',e,_⟩:=h1.ints;rw[List.length_append] at e;subst e;exact k A' c' W h1 h2 h3
end
set_option maxHeartbeats 8000000 in
theorem Ds(tv kv:Value)(t:Town)(k:Task)(w:World)(h:aM w tv t)(hk:bA w kv k):
 Calls Tryz.prog 26 #[tv,kv] w (Ey w (t.tableAns k).1 (t.tableAns k).2):=by
 obtain⟨pv,shv,tmv,xv,rfl,hT⟩:=h;obtain⟨clv,rfl,hC⟩:=hk;have hE:=Ext.refl w;by_cases hte:t.taskErr k=0
 ·have Hte:=Lib.hid hte;have hok:=Town.taskOk_of hte;have Hok:=Lib.hid hok;have hp2:=hok.ok.p2;rw[Town.tableAns_0 hte];have hsb:=(Town.sets_bd hok.ok.sh);obtain⟨M,hM⟩:∃M:Nat,2^t.shows.length=M:=⟨_,rfl⟩;have hM2:1≤M∧M≤64:=by
   have e:t.sets=((2^t.shows.length:Nat):Int):=by unfold Town.sets;push_cast;rfl
   rw[e,hM] at hsb;omega
  have HM:=Lib.hid hM;clear hte hok hsb;go_enter Tryz.func26,Tryz.ntmps26
  go_wp2_with (first|(go_at_call 38;((with_reducible refine(fN _ _ t k _ (by exact aM.of hT) (by exact bA.of hC)).mono ?_);rintro e WcT ⟨rfl,hEcT⟩;(try replace hE:=hE.trans hEcT);(try replace hT:=hT.ext hEcT);(try replace hC:=hC.ext hEcT);(try replace hb2_0:=Ext.c hEcT hb2_0);(try replace hb2_1:=Ext.c hEcT hb2_1);(try replace hb2_2:=Ext.c hEcT hb2_2);(try replace hb2_3:=Ext.c hEcT hb2_3);(try replace hb3_0:=Ext.c hEcT hb3_0);(try replace hb3_1:=Ext.c hEcT hb3_1);(try replace hb3_2:=Ext.c hEcT hb3_2);(try replace hb3_3:=Ext.c hEcT hb3_3);(try replace hb3_4:=Ext.c hEcT hb3_4);rw[show t.taskErr k=0 from Hte.out]))|((go_at_call 67;refine(oX _ _ t k _ (aM.of hT) (bA.of hC) Hok.out).mono ?_;rintro e Wk ⟨G,gs,rfl,hgl,hK,hEk⟩;have Hgl:=Lib.hid hgl;clear hgl;replace hE:=hE.trans hEk))|((with_reducible refine aF (d:=some 2) ?_);intro W2 g2 hE2 hB2 hg2;simp[Act.eval,Act.put,Value.cells] at hB2;(try replace hE:=hE.trans hE2);(try replace hT:=hT.ext hE2);(try replace hC:=hC.ext hE2);have hb2_0:=hB2.cell 0;have hb2_1:=hB2.cell 1;have hb2_2:=hB2.cell 2;have hb2_3:=hB2.cell 3;simp at hb2_0 hb2_1 hb2_2 hb2_3;clear hE2)|((with_reducible refine aF (d:=some 3) ?_);intro W3 g3 hE3 hB3 hg3;simp[Act.eval,Act.put,Value.cells] at hB3;(try replace hE:=hE.trans hE3);(try replace hT:=hT.ext hE3);(try replace hC:=hC.ext hE3);(try replace hb2_0:=Ext.c hE3 hb2_0);(try replace hb2_1:=Ext.c hE3 hb2_1);(try replace hb2_2:=Ext.c hE3 hb2_2);(try replace hb2_3:=Ext.c hE3 hb2_3);have hb3_0:=hB3.cell 0;have hb3_1:=hB3.cell 1;have hb3_2:=hB3.cell 2;have hb3_3:=hB3.cell 3;have hb3_4:=hB3.cell 4;simp at hb3_0 hb3_1 hb3_2 hb3_3 hb3_4;clear hE3))
  rw[hM] at hK;have hW:=hE.size;clear hM hB2 hB3 hb2_0 hb2_1 hb2_2 hb2_3 hb3_0 hb3_1 hb3_2 hb3_3 hb3_4 hT hC;go_loopw [8,9,10,11] (fun out p _ _ W=>Ext Wk W∧∃n:Nat,n≤t.places.length∧p=.int .i64 n∧fY Wk.heap.size W out (t.tabTo k n)) (fun _ p _ _ _=>t.places.length-(intOf p).toNat)
  case atStart=>exact⟨Ext.refl _,0,by omega,rfl,fY.nil _ _⟩
  case round=>
   obtain⟨hEr,n,hn,rfl,hO⟩:=hrel;obtain⟨out,hout⟩:∃v,v=u8:=⟨_,rfl⟩;subst hout;obtain⟨Wr,hWr⟩:∃W,W=wr:=⟨_,rfl⟩;subst hWr;by_cases hlt:n<t.places.length
   ·go_wp2
    go_loopw [10,11] (fun row s W=>Ext Wr W∧∃j:Nat,j≤M∧s=.int .i64 j∧iA Wr.heap.size W row (t.rowTo k n j)) (fun _ s _=>M-(intOf s).toNat)
    case atStart=>exact⟨Ext.refl _,0,by omega,rfl,iA.nil _ _⟩
    case round=>
     obtain⟨hEs,j,hj,rfl,hR⟩:=hrel;have hXs:=hEr.trans hEs;have hKs:=hK.ext hXs;have hpl:n<gs.length:=by have:=Hgl.out;omega
     have cG:=hKs.cell hpl;have hz:(n:Int)<(t.places.length:Int):=by omega
     by_cases hjl:j<M
     ·have c1:=hKs.c1 hpl hjl;have Hs:=Lib.hid (Town.rowTo_succ t k n j);have hrl:=Town.rowTo_len t k n j;obtain⟨x,hx⟩:∃x,(cv (t.cost k (n:Int) (j:Int))).1=x:=⟨_,rfl⟩;rw[hx] at c1 Hs;have Hrl:=Lib.hid hrl;clear hx hrl;go_wp2_with (first|((with_reducible refine Jm (d:=some 45) (n:=x) ?_ ?_);rfl;intro W45 g45 hE45 hB45 hg45;replace hEs:=hEs.trans hE45;replace hR:=hR.ext hE45)|((with_reducible refine Mj (d:=some 46) ?_ hR ?_ hB45 ?_ hEs.size ?_);rfl;rfl;(rw[Hrl.out];omega);intro A46 c46 W46 hR46 hm46 hgr46;replace hEs:=hm46 _ hEs))
      go_roundw
      case rel=>exact⟨hEs,j+1,by omega,by go_num,by rw[Hs.out];exact hR46⟩
      case measure=>simp[intOf];omega
     ·obtain rfl:j=M:=by omega
      have Hs:=Lib.hid (Town.tabTo_succ t k n);have hrl:=Town.rowTo_len t k n j;have hRv:=An hR.ints;obtain⟨rowv,hrow⟩:∃v,v=u10:=⟨_,rfl⟩;subst hrow;have Htl:=Lib.hid (Town.tabTo_len t k n);have Hrl:=Lib.hid hrl;clear hrl;go_wp2_with (first|((with_reducible refine Oo (d:=some 49) (v:=rowv) ?_ ?_ ?_);rfl;exact hRv.1;intro W49 g49 hE49 hB49 hg49;have hR2:=hR.ext hE49;have hEs2:=Ext.trans hEs hE49)|((with_reducible refine Jn (d:=some 50) ?_ hO hEs2 ?_ hB49 hR2 ?_ ?_ ?_ ?_);rfl;rfl;(rw[Hrl.out];omega);(rw[Htl.out];omega);exact hEr.size;intro A50 c50 W50 hO50 hm50;have hE50:=hm50 _ (Ext.trans hEr hEs2)))
      go_roundw
      case rel=>exact⟨hE50,n+1,by omega,by go_num,by rw[Hs.out,show 2^t.shows.length=j from HM.out];exact hO50⟩
      case measure=>simp[intOf];omega
   ·obtain rfl:n=t.places.length:=by omega
    go_wp2
    go_ret2
    exact⟨_,rfl,fY.base hO hW,hE.trans hEr⟩
 ·have q1:(t.taskErr k !=0)=true:=by simp[hte]
  rw[Town.tableAns_e hte];clear hte;go_enter Tryz.func26,Tryz.ntmps26
  go_wp2_with (first|(go_at_call 38;((with_reducible refine(fN _ _ t k _ (by exact aM.of hT) (by exact bA.of hC)).mono ?_);rintro e WcT ⟨rfl,hEcT⟩;(try replace hE:=hE.trans hEcT);(try replace hT:=hT.ext hEcT);(try replace hC:=hC.ext hEcT);(try replace hb2_0:=Ext.c hEcT hb2_0);(try replace hb2_1:=Ext.c hEcT hb2_1);(try replace hb2_2:=Ext.c hEcT hb2_2);(try replace hb2_3:=Ext.c hEcT hb2_3);(try replace hb3_0:=Ext.c hEcT hb3_0);(try replace hb3_1:=Ext.c hEcT hb3_1);(try replace hb3_2:=Ext.c hEcT hb3_2);(try replace hb3_3:=Ext.c hEcT hb3_3);(try replace hb3_4:=Ext.c hEcT hb3_4)))|((with_reducible refine aF (d:=some 2) ?_);intro W2 g2 hE2 hB2 hg2;simp[Act.eval,Act.put,Value.cells] at hB2;(try replace hE:=hE.trans hE2);(try replace hT:=hT.ext hE2);(try replace hC:=hC.ext hE2);have hb2_0:=hB2.cell 0;have hb2_1:=hB2.cell 1;have hb2_2:=hB2.cell 2;have hb2_3:=hB2.cell 3;simp at hb2_0 hb2_1 hb2_2 hb2_3;clear hE2)|((with_reducible refine aF (d:=some 3) ?_);intro W3 g3 hE3 hB3 hg3;simp[Act.eval,Act.put,Value.cells] at hB3;(try replace hE:=hE.trans hE3);(try replace hT:=hT.ext hE3);(try replace hC:=hC.ext hE3);(try replace hb2_0:=Ext.c hE3 hb2_0);(try replace hb2_1:=Ext.c hE3 hb2_1);(try replace hb2_2:=Ext.c hE3 hb2_2);(try replace hb2_3:=Ext.c hE3 hb2_3);have hb3_0:=hB3.cell 0;have hb3_1:=hB3.cell 1;have hb3_2:=hB3.cell 2;have hb3_3:=hB3.cell 3;have hb3_4:=hB3.cell 4;simp at hb3_0 hb3_1 hb3_2 hb3_3 hb3_4;clear hE3))
  go_ret2
  exact⟨_,rfl,fY.nil _ _,hE⟩
end Go.St
end
