import Derived.Test.YtbfbepnkofampaaGreatDoorXP29
import Derived.Test.YtbfbepnkofampaaGreatDoorXSA01
set_option maxRecDepth 100000
set_option synthInstance.maxSize 2000
set_option synthInstance.maxHeartbeats 400000
set_option maxHeartbeats 8000000
set_option linter.all false
section
namespace Go.Rg
open Go Go.Bp Go.RowKit Go.Walk Go.Proofs
def rowG(M n:Nat)(gs:List Nat):List Value:=gs.map (fun q=>Value.slice (some ⟨q,0,none⟩) M M)++List.replicate (n-gs.length) (.slice none 0 0)
theorem Ir{M n:Nat}{gs:List Nat}(h:gs.length≤n):(rowG M n gs).length=n:=by unfold rowG;simp;omega
theorem Iq{M n q:Nat}{gs:List Nat}(h:gs.length<n):(rowG M n gs).set gs.length (.slice (some ⟨q,0,none⟩) M M)=rowG M n (gs++ [q]):=by
 unfold rowG;rw[List.set_append_right _ _ (by simp)]
 have e:n-gs.length=(n-(gs.length+1))+1:=by omega
 rw[e,List.replicate_succ];simp[List.append_assoc]
theorem vW{M n c:Nat}{gs:List Nat}(h:c<gs.length):(rowG M n gs)[c]? =some (.slice (some ⟨gs[c],0,none⟩) M M):=by
 unfold rowG;rw[List.getElem?_append_left (by simpa using h)]
 simp[h]
structure Grid(W0 W:World)(g n M:Nat)(gs:List Nat)(X:List (List Bool)):Prop where
 row:Blk W g 181 (rowG M n gs).toArray
 g0:g<W0.heap.size
 n:gs.length≤n
 x:X.length=gs.length
 nd:gs.Nodup
 old:∀q∈gs,W0.heap.size≤q
 each:∀c(h:c<gs.length)(h2:c<X.length),Blk W gs[c] 4 (encL X[c]).toArray∧X[c].length=M
theorem Grid.ext{W0 W W':World}{g n M:Nat}{gs:List Nat}{X:List (List Bool)}(h:Grid W0 W g n M gs X)(e:Ext W W'):Grid W0 W' g n M gs X:=
 ⟨h.row.ext e,h.g0,h.n,h.x,h.nd,h.old,fun c h1 h2=>⟨(h.each c h1 h2).1.ext e,(h.each c h1 h2).2⟩⟩
theorem Grid.more{W0 W Wm W':World}{g n M q:Nat}{gs:List Nat}{X:List (List Bool)}{x:List Bool}(h:Grid W0 W g n M gs X)(hn:gs.length<n)(hq:W.heap.size≤q)(h0:W0.heap.size≤W.heap.size)(he:Ext W Wm)(hb:Blk Wm q 4 (encL x).toArray)(hx:x.length=M)
 (hs:Wm.grownBy W' (some g))(hr:Blk W' g 181 (rowG M n (gs++ [q])).toArray):Grid W0 W' g n M (gs++ [q]) (X++ [x]):=by
 have hlt:∀c(hc:c<gs.length),gs[c]<W.heap.size:=fun c hc=>by
  have:=(h.each c hc (by rw[h.x];exact hc)).1
  exact(Array.getElem?_eq_some_iff.1 this).1
 have hne:∀{q'},W0.heap.size≤q'→(some q':Option Nat)≠some g:=fun hq' e=>by injection e with e;have:=h.g0;omega
 refine⟨hr,h.g0,by simp;omega,by simp[h.x],?_,?_,?_⟩
 ·rw[List.nodup_append];refine⟨h.nd,by simp,fun a ha b hb e=> ?_⟩
  simp at hb;subst hb;obtain⟨c,hc,rfl⟩:=List.mem_iff_getElem.1 ha;have:=hlt c hc;omega
 ·intro a ha;rcases List.mem_append.1 ha with ha|ha
  ·exact h.old a ha
  ·simp at ha;omega
 ·intro c h1 h2;by_cases hc:c<gs.length
  ·rw[List.getElem_append_left hc,List.getElem_append_left (by rw[h.x];exact hc)]
   have:=h.each c hc (by rw[h.x];exact hc)
   exact⟨(this.1.ext he).grown hs (fun e=>hne (h.old _ (List.getElem_mem hc)) e),this.2⟩
  ·have hcl:c=gs.length:=by simp at h1;omega
   subst hcl;have e1:(gs++ [q])[gs.length]=q:=by simp
   have e2:(X++ [x])[gs.length]'h2=x:=by
    rw[List.getElem_append_right (by rw[h.x];exact Nat.le_refl _)];simp[h.x]
   rw[e1,e2];exact⟨hb.grown hs (fun e=>hne (by omega) e),hx⟩
theorem Grid.set{W0 W W':World}{g n M a b:Nat}{gs:List Nat}{X:List (List Bool)}(h:Grid W0 W g n M gs X)(ha:a<gs.length)(ha2:a<X.length)(hs:W.grownBy W' (some gs[a]))(hr:Blk W' gs[a] 4 (encL (X[a].set b true)).toArray):Grid W0 W' g n M gs (X.set a (X[a].set b true)):=by
 refine⟨h.row.grown hs (fun e=> ?_),h.g0,h.n,by simp[h.x],h.nd,h.old,fun c h1 h2=> ?_⟩
 ·injection e with e
  have:=h.old _ (List.getElem_mem ha);have:=h.g0;omega
 ·have h2':c<X.length:=by simpa using h2
  have:=h.each c h1 h2';rw[List.getElem_set];by_cases e:a=c
  ·subst e;rw[if_pos rfl];exact⟨hr,by rw[List.length_set];exact this.2⟩
  ·rw[if_neg e];refine⟨this.1.grown hs (fun e2=> ?_),this.2⟩
   injection e2 with e2
   have:=(List.getElem_inj h.nd).1 e2;exact e this.symm
theorem Grid.cell{W0 W:World}{g n M c:Nat}{gs:List Nat}{X:List (List Bool)}(h:Grid W0 W g n M gs X)(hc:c<gs.length):W.cell? ⟨g,c,none⟩=some (.slice (some ⟨gs[c],0,none⟩) M M):=by
 rw[h.row.cell];simpa using vW hc
theorem vU{W:World}{g n M c:Nat}{gs:List Nat}(h:Blk W g 181 (rowG M n gs).toArray)(hc:c<gs.length):W.cell? ⟨g,c,none⟩=some (.slice (some ⟨gs[c],0,none⟩) M M):=by
 rw[h.cell];simpa using vW hc
theorem Grid.mark{W0 W:World}{g n M c k:Nat}{gs:List Nat}{X:List (List Bool)}(h:Grid W0 W g n M gs X)(hc:c<gs.length)(hk:k<M){x:List Bool}(hx:X[c]? =some x):W.cell? ⟨gs[c],k,none⟩=some (.bool (x.getD k false)):=by
 have h2:c<X.length:=by rw[h.x];exact hc
 have e:X[c]=x:=by rw[List.getElem?_eq_getElem h2] at hx;exact Option.some.inj hx
 have:=h.each c hc h2;rw[e] at this;exact iH this.1 (by rw[this.2];exact hk)
theorem Fk{a b c:World}{g q:Nat}(h:a.grownBy b (some g))(hs:b.grownBy c (some q))(hq:a.heap.size≤q):a.grownBy c (some g):=
 ⟨hs.os.trans h.os,hs.tape.trans h.tape,hs.output.trans h.output,Nat.le_trans h.size hs.size,fun j hj hr=>(hs.block j (Nat.lt_of_lt_of_le hj h.size) (fun e=>by injection e with e;omega)).trans (h.block j hj hr)⟩
set_option maxHeartbeats 32000000 in
theorem Ek(s:Sys)(v lv:Value)(l:List Right)(w:World)(h:SysV w v s)(hl:ListV w lv l)(hk:CntC s)(hio:s.InclOk)(hr:∀r∈l,s.rightErr r=0):Calls Tryz.prog 74 #[v,lv] w (fun e W'=>∃A c,e=.returned (.slice A (s.least l).length c)∧RowC W' (.slice A (s.least l).length c) w 74 2 (s.least l).length (encL (s.least l))∧StepC w W'):=by
 have i1:=SysB.mk h;obtain⟨A,n,cp,A',c',rfl,hnn,-⟩:=h.h;obtain⟨B,kb,rfl,q1,q2⟩:=hl.form;unfold maxLen at q2;have i2:=ListB.mk hl;have hn12:n≤12:=by have:=hk.h.1;omega
 obtain⟨M,hM⟩:∃M:Nat,2^s.codes.length=M:=⟨_,rfl⟩;have hM256:M≤256:=by rw[←hM];exact Nat.pow_le_pow_right (by decide) hk.h.2
 have i3:PowE s.codes.length (M:Int):=⟨hk.h.2,by rw[←hM];push_cast;rfl⟩
 have Hnn:=Lib.hid hnn;have HM:=Lib.hid hM;have Hr:=Lib.hid hr;have Hio:=Lib.hid hio;have Hk:=Lib.hid hk;clear hnn hM hr hio;go_enter Tryz.func74,Tryz.ntmps74
 go_wp2_with (first|(with_reducible refine aH (d:=some 2) ?_;intro V2 g2 hE2 hB2 hA2)|(with_reducible refine qM ?_;intro V3 g hE3 hM3 hA3)|(first|(with_reducible refine aA ?_)))
 have hg3:g<V3.heap.size:=hM3.lt;have hG0:Grid V3 V3 g n M [] []:=⟨by simpa [rowG] using hM3,hg3,by simp,rfl,by simp,by simp,by simp⟩
 go_loopw [6] (fun cv wr=>V3.grownBy wr (some g)∧∃gs:List Nat,gs.length≤n∧cv=.int .i64 gs.length∧Grid V3 wr g n M gs (List.replicate gs.length (List.replicate M false))) (fun cv _=>n-(RowKit.intOf cv).toNat)
 case atStart=>exact⟨grown_of_ext (Ext.refl _),[],by simp,rfl,hG0⟩
 case round=>
  obtain⟨hg1,gs,hgl,rfl,hG⟩:=hrel;have hs1:StoreC V3 wr g:=⟨hg1⟩;by_cases lc:gs.length<n
  ·obtain⟨c,hc⟩:∃c,gs.length=c:=⟨_,rfl⟩;have zc:IntKind.i64.wrap ((c:Int)+1)=(c:Int)+1:=IntWalk.i64_in _ (by omega)
   have HG:=Lib.hid hG;have Hc:=Lib.hid hc;rw[hc] at lc⊢;clear hG hc hgl;have hcz:c<(rowG M n gs).toArray.size:=by have:=Hc.out;rw[List.size_toArray,Ir (by omega)];exact lc
   go_wp2_with (first|(with_reducible refine qM ?_;intro V4 gq hE4 hM4 hA4)|((with_reducible refine bstore (off:=c) (v:=.slice (some ⟨gq,0,none⟩) M M) (HG.out.row.ext (ExtC.h:Ext wr V4)) ?_ ⟨by with_unfolding_all rfl,by with_unfolding_all rfl,by with_unfolding_all rfl,by with_unfolding_all rfl,hcz,by with_unfolding_all rfl⟩);intro V5 hS5 hB5)|(first|(with_reducible refine aA ?_)|(with_reducible refine aB ?_;first|rintro _ V ⟨rfl,(_:StepC _ _)⟩)))
   (try simp only[pS])
   go_roundw
   case rel=>
    have hcc:=Hc.out;rw[List.setIfInBounds_toArray,←hcc,Iq (by omega)] at hB5
    rw[xK] at hM4;refine⟨bN (hg1.ext' ExtC.h) hS5.h,gs++ [gq],by simp;omega,by simp[hcc],?_⟩
    rw[List.length_append,List.length_singleton,List.replicate_succ'];exact Grid.more HG.out (by omega) (Nat.le_trans (ExtC.h:Ext wr _).size hA4.h) hg1.size ExtC.h hM4 (by simp) hS5.h hB5
   case measure=>simp[RowKit.intOf];omega
  ·obtain rfl:n=gs.length:=by omega
   have HG:=Lib.hid (show Grid V3 wr g gs.length M gs (Sys.marksF gs.length M []) by rw[Sys.marksF_nil];exact hG)
   obtain⟨W4,rfl⟩:∃W4,W4=wr:=⟨wr,rfl⟩;have Hg1:=Lib.hid hg1;clear hG hg1;go_wp2
   go_loopw [7] (fun iv wr=>V3.grownBy wr (some g)∧∃i:Nat,i≤l.length∧iv=.int .i64 i∧Grid V3 wr g gs.length M gs (Sys.marksF gs.length M (l.take i))) (fun iv _=>l.length-(RowKit.intOf iv).toNat)
   case atStart=>exact⟨Hg1.out,0,by omega,rfl,HG.out⟩
   case round=>
    clear HG Hg1;obtain⟨hg1,i,hi,rfl,hG⟩:=hrel;have hs1:StoreC V3 wr g:=⟨hg1⟩;by_cases li:i<l.length
    ·obtain⟨bd,rfl,hbc⟩:=hl.elem li;have hri:=Sys.right_in (Hr.out _ (List.getElem_mem li));have hx:l.take (i+1)=l.take i++ [l[i]]:=List.take_succ_eq_append_getElem li;obtain⟨⟨rc,ro⟩,hy⟩:∃x,l[i]=x:=⟨_,rfl⟩;rw[hy] at hbc hri hx;simp only at hri;have hset:s.sets=(M:Int):=by unfold Sys.sets;rw[←HM.out];push_cast;rfl
     rw[hset] at hri;obtain⟨x,rfl⟩:∃x:Nat,rc=(x:Int):=⟨rc.toNat,by omega⟩
     obtain⟨y,rfl⟩:∃y:Nat,ro=(y:Int):=⟨ro.toNat,by omega⟩
     have hxg:x<gs.length:=by have:=Hnn.out;omega
     have hyM:y<M:=by omega
     have i8:CellsB w (bd.add (i*2)) [.int .i64 x,.int .i64 y]:=⟨hbc⟩;have zi:IntKind.i64.wrap ((i:Int)+1)=(i:Int)+1:=IntWalk.i64_in _ (by omega)
     have hXl:x<(Sys.marksF gs.length M (l.take i)).length:=by rw[Sys.marksF_len];exact hxg
     have hms:=Sys.marksF_set gs.length M (l.take i) hXl hyM;rw[←hx] at hms;have hBx:=(hG.each x hxg hXl);obtain⟨gx,hgx⟩:∃gx,gs[x]=gx:=⟨_,rfl⟩;have hgo:V3.heap.size≤gx:=by rw[←hgx];exact hG.old _ (List.getElem_mem hxg)
     have hAx:AtC V3 gx:=⟨hgo⟩;rw[hgx] at hBx;have HB:=Lib.hid hBx;have HG:=Lib.hid hG;have Hms:=Lib.hid hms;have Hgx:=Lib.hid hgx;have hyb:y<(encL (Sys.marksF gs.length M (l.take i))[x]).toArray.size:=by rw[encB];simp;rw[hBx.2];exact hyM
     have hgg:(some g:Option Nat)≠some gx:=fun e=>by injection e with e;omega
     clear hbc hri hx hy hset hms hBx hG hgx;go_wp2
     refine dA ((.take 0 (.take 1 (.take 2 (.take 3 (.take 4 (.take 5 (.take 6 (.take 7 (.take 8 (.take 9 (.take 10 (.take 11 (.take 12 (.take 13 (.one 14 .nil)))))))))))))))) (fun w'=>Ext w w'∧Blk w' g 181 (rowG M gs.length gs).toArray) ?_ (fun hHd=> ?_) (hQ:=by intro _ _ _ _ _ h;exact h)
     ·exact⟨ExtC.h,HG.out.row.ext ExtC.h⟩
     repeat' first|((first|with_reducible refine bY ?_|(with_reducible refine cJ (v:= ?_) ?_ ?_;rotate_left;(·(intro W' h;(obtain⟨h,ha⟩:=h;have:=StepC.mk h;have k9:CellB W' ⟨g,x,none⟩ (.slice (some ⟨gx,0,none⟩) M M):=⟨by rw[←Hgx.out];exact vU ha hxg⟩);infer_instance)))|(with_reducible refine bX (v:= ?_) ?_ ?_;rotate_left;(·(intro W' h;(obtain⟨h,ha⟩:=h;have:=StepC.mk h;have k9:CellB W' ⟨g,x,none⟩ (.slice (some ⟨gx,0,none⟩) M M):=⟨by rw[←Hgx.out];exact vU ha hxg⟩);first|(simp only[execOp,eS];go_simp;(try with_reducible rfl))))));(try dsimp only[sS0,sS1]))|(with_reducible refine eT hHd ?_)|((with_reducible refine bC ?_);refine aQ (by simp only[gS];rfl) ?_)|((with_reducible refine bstore (off:=y) (v:=.bool true) (HB.out.1.ext (ExtC.h:Ext wr wr.drew)) ?_ ⟨by with_unfolding_all rfl,by with_unfolding_all rfl,by with_unfolding_all rfl,by with_unfolding_all rfl,hyb,by with_unfolding_all rfl⟩);intro V9 hS9 hB9)|((with_reducible refine bD ?_);clear hHd;refine aM ⟨ExtC.h,(HG.out.row.ext ExtC.h).grown hS9.h hgg⟩ (fun hHd=> ?_);(try simp only[pS]))|(with_reducible refine aF ?_)
     rw[oU] at hB9;go_wp2
     go_roundw
     case rel=>
      have hS':wr.drew.grownBy V9 (some gs[x]):=by rw[Hgx.out];exact hS9.h
      refine⟨Fk (hg1.ext' ExtC.h) hS9.h hgo,i+1,li,by push_cast;rfl,?_⟩
      rw[←Hms.out];exact(HG.out.ext ExtC.h).set hxg (by rw[Sys.marksF_len];exact hxg) hS' (by rw[Hgx.out];exact hB9)
     case measure=>simp[RowKit.intOf];omega
    ·obtain rfl:i=l.length:=by omega
     rw[List.take_length] at hG;obtain⟨W5,rfl⟩:∃W5,W5=wr:=⟨wr,rfl⟩;have HG:=Lib.hid hG;have Hco:=Lib.hid (Sys.ordTo_all s l);clear hG hg1;go_wp2
     go_loopw [9,8] (fun cv ov wr=>StepC W5 wr∧∃(c:Nat)(o:List Right)(A4:Option Addr)(c4:Nat),c≤gs.length∧cv=.int .i64 c∧o=Sys.ordTo l M c∧ov=.slice A4 o.length c4∧RowC wr (.slice A4 o.length c4) W5 74 2 o.length (encL o)) (fun cv _ _=>gs.length-(RowKit.intOf cv).toNat)
     case atStart=>exact⟨⟨Ext.refl _⟩,0,[],none,0,by omega,rfl,rfl,rfl,RowC.nil⟩
     case round=>
      obtain⟨_,c,o,A4,c4,hc,rfl,ho,rfl,hR⟩:=hrel;by_cases lc:c<gs.length
      ·obtain⟨W6,rfl⟩:∃W6,W6=wr:=⟨wr,rfl⟩;obtain⟨gc,hgc⟩:∃gx,gs[c]=gx:=⟨_,rfl⟩;have k1:CellB W5 ⟨g,c,none⟩ (.slice (some ⟨gc,0,none⟩) M M):=⟨by rw[←hgc];exact HG.out.cell lc⟩
       have Hmk:=Lib.hid (show∀k,k<M→W5.cell? ⟨gc,k,none⟩=some (.bool (decide ((⟨(c:Int),(k:Int)⟩:Right)∈l))) from fun k hk=>by
        have hX:c<(Sys.marksF gs.length M l).length:=by rw[Sys.marksF_len];exact lc
        have:=HG.out.mark lc hk (List.getElem?_eq_getElem hX);rw[hgc] at this;rw[this];have hr:=Sys.marksF_row gs.length M l hX;have hk2:k<(Sys.marksF gs.length M l)[c].length:=by rw[hr];exact hk
        have e:(Sys.marksF gs.length M l)[c].getD k false=(Sys.marksF gs.length M l)[c][k]:=by simp[List.getD,hk2]
        rw[e,Sys.marksF_at])
       have hol0:o.length≤12*256:=by
        have:=Sys.ordTo_len l M c;rw[ho];exact Nat.le_trans this (Nat.mul_le_mul (by omega) hM256)
       have Ho:=Lib.hid ho;have zc:IntKind.i64.wrap ((c:Int)+1)=(c:Int)+1:=IntWalk.i64_in _ (by omega)
       clear ho hgc;go_wp2
       go_loopw [10,8] (fun kv ov wr=>StepC W5 wr∧∃(k:Nat)(o2:List Right)(A5:Option Addr)(c5:Nat),k≤M∧kv=.int .i64 k∧o2=o++Sys.rowTo l c k∧ov=.slice A5 o2.length c5∧RowC wr (.slice A5 o2.length c5) W5 74 2 o2.length (encL o2)) (fun kv _ _=>M-(RowKit.intOf kv).toNat)
       case atStart=>exact⟨⟨ExtC.h⟩,0,o,A4,c4,by omega,rfl,by simp[Sys.rowTo],rfl,inferInstance⟩
       case round=>
        obtain⟨_,k,o2,A5,c5,hk2,rfl,ho2,rfl,hR2⟩:=hrel;by_cases lk:k<M
        ·obtain⟨b,hb⟩:∃b,decide ((⟨(c:Int),(k:Int)⟩:Right)∈l)=b:=⟨_,rfl⟩;have hmk:=Hmk.out k lk;have hsu:=Sys.rowTo_succ l c k;rw[hb] at hmk hsu;have k2:CellB W5 ⟨gc,k,none⟩ (.bool b):=⟨hmk⟩;have hol2:o2.length≤12*256+256:=by
          have:=Sys.rowTo_len l c k;rw[ho2,List.length_append];omega
         have zk:IntKind.i64.wrap ((k:Int)+1)=(k:Int)+1:=IntWalk.i64_in _ (by omega)
         have Ho2:=Lib.hid ho2;have Hsu:=Lib.hid hsu;clear hmk hb ho2 hsu
         cases b
         ·have Hn:=Lib.hid (show o++Sys.rowTo l c (k+1)=o2 by rw[Hsu.out,Ho2.out];rfl)
          go_wp2_with (first|(with_reducible refine aA ?_))
          go_roundw
          case rel=>exact⟨⟨ExtC.h⟩,k+1,o2,A5,c5,lk,by push_cast;rfl,Hn.out.symm,rfl,inferInstance⟩
          case measure=>simp[RowKit.intOf];omega
         ·have Hn:=Lib.hid (show o++Sys.rowTo l c (k+1)=o2++ [⟨(c:Int),(k:Int)⟩] by rw[Hsu.out,Ho2.out,if_pos rfl,List.append_assoc])
          go_wp2_with (first|(with_reducible refine bR ?_;intro A9 c9 Va hR9 hG9)|(first|(with_reducible refine aA ?_)|(with_reducible refine aD ?_;intro V g _ _ _)))
          go_roundw
          case rel=>
           obtain⟨A8,c8,e8,h8⟩:=cV Hn.out hR9;exact⟨⟨ExtC.h⟩,k+1,_,A8,c8,lk,by push_cast;rfl,rfl,e8,h8⟩
          case measure=>simp[RowKit.intOf];omega
        ·obtain rfl:k=M:=by omega
         have Hn:=Lib.hid (show Sys.ordTo l k (c+1)=o2 by rw[Sys.ordTo_succ,ho2,Ho.out])
         clear ho2;go_wp2_with (first|(with_reducible refine aA ?_))
         exact⟨⟨⟨ExtC.h⟩,c+1,o2,A5,c5,lc,by push_cast;rfl,Hn.out.symm,rfl,inferInstance⟩,by simp[RowKit.intOf];omega⟩
      ·obtain rfl:c=gs.length:=by omega
       obtain⟨W7,rfl⟩:∃W7,W7=wr:=⟨wr,rfl⟩;rw[←Hnn.out] at Hco;have hao:o=s.ordered l:=by rw[ho,Hnn.out,←HM.out];exact Sys.ordTo_all s l
       have Hall:=Lib.hid (show∀r∈o,s.rightErr r=0 from fun r hr=>by
        rw[hao] at hr;exact Hr.out r ((Sys.ordered_mem Hr.out r).1 hr))
       have hol0:o.length≤12*256:=by
        have:=Sys.ordTo_len l M gs.length;rw[ho];exact Nat.le_trans this (Nat.mul_le_mul (by omega) hM256)
       have Hls:=Lib.hid (show s.leastTo o o.length=s.least l by rw[hao];exact Sys.leastTo_all s l)
       have hol:=hR.list (l:=o) rfl rfl rfl;have k1:=ListB.mk hol;clear ho hao HG Hco;go_wp2
       go_loopw [12,11] (fun iv ov wr=>StepC W7 wr∧∃(i:Nat)(q:List Right)(A5:Option Addr)(c5:Nat),i≤o.length∧iv=.int .i64 i∧q=s.leastTo o i∧ov=.slice A5 q.length c5∧RowC wr (.slice A5 q.length c5) W7 74 2 q.length (encL q)) (fun iv _ _=>o.length-(RowKit.intOf iv).toNat)
       case atStart=>exact⟨⟨Ext.refl _⟩,0,[],none,0,by omega,rfl,by simp[Sys.leastTo],rfl,RowC.nil⟩
       case round=>
        obtain⟨_,i,q,A5,c5,hi,rfl,hq,rfl,hR2⟩:=hrel;by_cases li:i<o.length
        ·obtain⟨ad,rfl,ha⟩:=hol.elem li;have hri:=Sys.right_in (Hall.out _ (List.getElem_mem li));have hsu:=Sys.leastTo_succ s o li;rw[←hq] at hsu;obtain⟨⟨rc,ro⟩,hy⟩:∃x,o[i]=x:=⟨_,rfl⟩;rw[hy] at ha hri hsu;simp only at hri;obtain⟨ac,rfl⟩:∃x:Nat,rc=(x:Int):=⟨rc.toNat,by omega⟩
         have hset:=eU Hk.out.h.2;have hro:0≤ro∧ro<256:=by have:=hri.2;unfold Sys.sets at this;omega
         have k4:CellsB W7 (ad.add (i*2)) [.int .i64 ac,.int .i64 ro]:=⟨ha⟩;have hql:q.length≤i:=by rw[hq];exact Sys.leastTo_len s o i
         have zi:IntKind.i64.wrap ((i:Int)+1)=(i:Int)+1:=IntWalk.i64_in _ (by omega)
         have hac:ac<s.classes.length:=by omega
         have Hsu:=Lib.hid hsu;have Hw0:=Lib.hid (show s.weakTo ⟨(ac:Int),ro⟩ o 0=false by simp[Sys.weakTo])
         clear ha hy hsu hri hset hq;go_wp2
         go_loopw [14,13] (fun kv wv wr=>StepC W7 wr∧RowC wr (.slice A5 q.length c5) W7 74 2 q.length (encL q)∧∃k:Nat,k≤o.length∧kv=.int .i64 k∧wv=.bool (s.weakTo ⟨(ac:Int),ro⟩ o k)) (fun kv _ _=>o.length-(RowKit.intOf kv).toNat)
         case atStart=>exact⟨⟨ExtC.h⟩,inferInstance,0,by omega,rfl,by rw[Hw0.out]⟩
         case round=>
          obtain⟨_,hR3,k,hk2,rfl,rfl⟩:=hrel;have Hst:=Lib.hid (Sys.weakTo_stop s ⟨(ac:Int),ro⟩ o (k:=k));obtain⟨wk,hwk⟩:∃b,s.weakTo ⟨(ac:Int),ro⟩ o k=b:=⟨_,rfl⟩;have Hwk:=Lib.hid hwk;rw[hwk];obtain⟨hc,hChid⟩:∃f:Nat→Array Oper→Bool→Go.Code,f=Go.Code.region:=⟨_,rfl⟩;rw[show Go.Code.region 25=hc 25 by rw[hChid]]
          have HCh:=Lib.hid hChid;clear hChid;by_cases lk:k<o.length
          ·cases wk
           ·obtain⟨_,e1,hb⟩:=hol.elem lk
            cases e1
            have hrk:=Sys.right_in (Hall.out _ (List.getElem_mem lk));have hws:=Sys.weakTo_succ s ⟨(ac:Int),ro⟩ o lk;rw[hwk] at hws;obtain⟨⟨bc0,bo⟩,hz⟩:∃x,o[k]=x:=⟨_,rfl⟩;rw[hz] at hb hrk hws;simp only at hrk;obtain⟨bc,rfl⟩:∃x:Nat,bc0=(x:Int):=⟨bc0.toNat,by omega⟩
            have hset:=eU Hk.out.h.2;have hbo:0≤bo∧bo<256:=by have:=hrk.2;unfold Sys.sets at this;omega
            have k5:CellsB W7 (ad.add (k*2)) [.int .i64 bc,.int .i64 bo]:=⟨hb⟩;obtain⟨wb,hwb⟩:∃b,s.weaker ⟨(ac:Int),ro⟩ ⟨(bc:Int),bo⟩=b:=⟨_,rfl⟩;have k6:WkE s ⟨(ac:Int),ro⟩ ⟨(bc:Int),bo⟩ wb:=⟨⟨⟨ac,bc,rfl,rfl,hac,by omega⟩,Hk.out.h.1,Hio.out,hro,hbo⟩,hwb⟩
            have Hws:=Lib.hid (show s.weakTo ⟨(ac:Int),ro⟩ o (k+1)=wb by rw[hws,hwb];rfl)
            have zk:IntKind.i64.wrap ((k:Int)+1)=(k:Int)+1:=IntWalk.i64_in _ (by omega)
            clear hwk hws hb hrk hz hset hwb;go_wp2
            have hChid:=HCh.out;clear HCh;subst hChid;refine wp_region_lit ?_;(try simp only[pS])
            repeat' first|((first|with_reducible refine gG ?_|with_reducible refine bY ?_|(with_reducible refine bX (v:= ?_) ?_ ?_;rotate_left;(·(intro W' h;cases h;first|(simp only[execOp,eS];go_simp;(try with_reducible rfl))))));(try dsimp only[sS0,sS1]))|(first|(with_reducible refine dI ?_))|(with_reducible refine bO ?_)|((fail_if_success (with_reducible refine dY ?_));(with_reducible refine dD ?_))
            go_wp2
            refine aP ((.take 0 (.take 1 (.take 2 (.take 3 (.take 4 (.take 5 (.take 6 (.take 7 (.take 8 (.one 9 (.take 10 .nil)))))))))))) (fun hHd=> ?_) (hQ:=by intro _ _ _ _ _ h;exact h)
            repeat' first|((first|with_reducible refine bY ?_|with_reducible refine kW ?_|(with_reducible refine cJ (v:= ?_) ?_ ?_;rotate_left;(·(intro W' h;have:=StepC.mk h;infer_instance)))|(with_reducible refine bX (v:= ?_) ?_ ?_;rotate_left;(·(intro W' h;have:=StepC.mk h;first|(simp only[execOp,eS];go_simp;(try with_reducible rfl))))));(try dsimp only[sS0,sS1]))|(with_reducible refine eT hHd ?_)|((with_reducible refine bC ?_);refine aQ (by simp only[gS];rfl) ?_)|((first|with_reducible refine aN ?_);first|(rintro _ V ⟨rfl,(_:StepC _ _)⟩;refine⟨_,rfl,?_⟩))|((with_reducible refine bD ?_);clear hHd;refine aM ExtC.h (fun hHd=> ?_);(try simp only[pS]))|(with_reducible refine aF ?_)
            all_goals
             go_wp2
             go_roundw
             case rel=>exact⟨⟨ExtC.h⟩,inferInstance,k+1,lk,by push_cast;rfl,by rw[Hws.out]⟩
             case measure=>simp[RowKit.intOf];omega
           ·have Hn:=Lib.hid (Hsu.out.trans (if_pos (Hst.out hwk)));clear hwk;go_wp2
            have hChid:=HCh.out;clear HCh;subst hChid;refine wp_region_lit ?_;(try simp only[pS])
            repeat' first|((first|with_reducible refine gG ?_|with_reducible refine bY ?_|(with_reducible refine bX (v:= ?_) ?_ ?_;rotate_left;(·(intro W' h;cases h;first|(simp only[execOp,eS];go_simp;(try with_reducible rfl))))));(try dsimp only[sS0,sS1]))|(first|(with_reducible refine dI ?_))|(with_reducible refine bO ?_)|((fail_if_success (with_reducible refine dY ?_));(with_reducible refine dD ?_))
            go_wp2
            exact⟨⟨⟨ExtC.h⟩,i+1,q,A5,c5,li,by push_cast;rfl,Hn.out.symm,rfl,inferInstance⟩,by simp[RowKit.intOf];omega⟩
          ·obtain rfl:k=o.length:=by omega
           cases wk
           ·have Hn:=Lib.hid (Hsu.out.trans (if_neg (by rw[hwk];simp)))
            clear hwk;go_wp2
            have hChid:=HCh.out;clear HCh;subst hChid;refine wp_region_lit ?_;(try simp only[pS])
            repeat' first|((first|with_reducible refine bY ?_|with_reducible refine lJ ?_|(with_reducible refine bX (v:= ?_) ?_ ?_;rotate_left;(·(intro W' h;cases h;first|(simp only[execOp,eS];go_simp;(try with_reducible rfl))))));(try dsimp only[sS0,sS1]))|(first|(with_reducible refine dI ?_))|(with_reducible refine bO ?_)|((fail_if_success (with_reducible refine dY ?_));(with_reducible refine dD ?_))
            go_wp2_with (first|(with_reducible refine bR ?_;intro A9 c9 Va hR9 hG9)|(first|(with_reducible refine aA ?_)|(with_reducible refine aD ?_;intro V g _ _ _)))
            obtain⟨A8,c8,e8,h8⟩:=cV Hn.out hR9;exact⟨⟨⟨ExtC.h⟩,i+1,_,A8,c8,li,by push_cast;rfl,rfl,e8,h8⟩,by simp[RowKit.intOf];omega⟩
           ·have Hn:=Lib.hid (Hsu.out.trans (if_pos hwk));clear hwk;go_wp2
            have hChid:=HCh.out;clear HCh;subst hChid;refine wp_region_lit ?_;(try simp only[pS])
            repeat' first|((first|with_reducible refine bY ?_|with_reducible refine lJ ?_|(with_reducible refine bX (v:= ?_) ?_ ?_;rotate_left;(·(intro W' h;cases h;first|(simp only[execOp,eS];go_simp;(try with_reducible rfl))))));(try dsimp only[sS0,sS1]))|(first|(with_reducible refine dI ?_))|(with_reducible refine bO ?_)|((fail_if_success (with_reducible refine dY ?_));(with_reducible refine dD ?_))
            go_wp2
            exact⟨⟨⟨ExtC.h⟩,i+1,q,A5,c5,li,by push_cast;rfl,Hn.out.symm,rfl,inferInstance⟩,by simp[RowKit.intOf];omega⟩
        ·obtain rfl:i=o.length:=by omega
         rw[Hls.out] at hq;subst hq;go_wp2
         go_ret
         exact⟨A5,c5,rfl,(inferInstance:RowC _ (.slice A5 (s.least l).length c5) W7 74 2 _ _).base (ExtC.h:Ext w W7).size,⟨ExtC.h⟩⟩
class FrmE (s:Sys) (l:List Right) (R:outParam (List Right)):Prop where h:(CntC s∧s.InclOk∧∀r∈l,s.rightErr r=0)∧s.least l=R
abbrev RL74(W:World)(l:List Right)(e:Ending)(W':World):Prop:=∃A c,e=.returned (.slice A l.length c)∧RowC W' (.slice A l.length c) W 74 2 l.length (encL l)∧StepC W W'
instance qRSp28{W:World}{v lv:Value}{s:Sys}{l R:List Right}[h:SysC W v s][hl:ListC Right W lv l][q:FrmE s l R]:FunC Tryz.prog 74 #[v,lv] W (RL74 W R):=⟨by
 rw[←q.h.2];exact Ek s v lv l W h.h hl.h q.h.1.1 q.h.1.2.1 q.h.1.2.2⟩
end Go.Rg
end
