import Derived.Test.YtbfbepnkofampaaGreatDoorXP28
set_option maxRecDepth 100000
set_option synthInstance.maxSize 2000
set_option synthInstance.maxHeartbeats 400000
set_option maxHeartbeats 8000000
set_option linter.all false
section
namespace Go.Rg
open Go Go.Bp Go.RowKit Go.Walk Go.Proofs
theorem encI11:∀b:List Int,encL b=b.map (Value.int .i64)
 | []=>rfl
 |x::b=>by rw[eZ,encI11 b];rfl
theorem vL{b:List Int}{j:Nat}{x:Int}:(encL b).toArray.setIfInBounds j (.int .i64 x)=(encL (b.set j x)).toArray:=by
 rw[encI11,encI11,List.setIfInBounds_toArray,List.map_set]
theorem Fp(n:Nat):Array.replicate n (Value.int .i64 0)=(encL (List.replicate n (0:Int))).toArray:=by rw[encI11];simp
def negTo(n k:Nat):List Int:=List.replicate k (-1)++List.replicate (n-k) 0
theorem Mp(n:Nat):negTo n 0=List.replicate n 0:=by simp[negTo]
theorem Ew{n k:Nat}(h:k≤n):(negTo n k).length=n:=by simp[negTo];omega
theorem Ev{n k:Nat}(h:k<n):(negTo n k).set k (-1)=negTo n (k+1):=by
 unfold negTo;rw[List.set_append_right _ _ (by simp)]
 have e:n-k=(n-(k+1))+1:=by omega
 rw[e,List.replicate_succ];simp[List.replicate_succ',List.append_assoc]
theorem Ex(l:List Event):negTo l.length l.length=l.map fun _=>(-1:Int):=by
 unfold negTo;simp[List.map_const']
class GetI (l:List Int) (i:Nat) (x:outParam Int):Prop where h:i<l.length∧l.getD i 0=x
instance{l:List Int}{i:Nat}{x:Int}[q:GetI l i x]:NthC (encL l) i (.int .i64 x):=⟨by
 obtain⟨h1,rfl⟩:=q.h;rw[encI11];simp[List.getD,h1]⟩
theorem Ax{a b c B:World}{v:Value}{g:Nat}(h:a.grownBy b (some g))(s:GrowC b c B v)(hB:a.heap.size≤B.heap.size):a.grownBy c (some g):=
 ⟨s.h.os.trans h.os,s.h.tape.trans h.tape,s.h.output.trans h.output,Nat.le_trans h.size s.h.size,fun j hj hr=>(s.h.block j (Nat.lt_of_lt_of_le hj h.size) (fun e=>by have:=s.k j e.symm;omega)).trans (h.block j hj hr)⟩
theorem _root_.Go.World.grownBy.ext'{a b c:World}{g:Option Nat}(h:a.grownBy b g)(k:Ext b c):a.grownBy c g:=bN h (grown_of_ext k)
theorem oO{l:List Event}{k:Nat}(h:k<l.length):l.getD k (Rules.bare 0 0)=l[k]:=by simp[List.getD,h]
theorem Ma{r:Rules}{l:List Event}{out:List Int}{day:Int}{k:Nat}{x:Event}(hk:k<l.length)(hx:l[k]=x){y:Int}(hy:out.getD k 0=y):
 r.sumK l out day (k+1)=if x.kind=3∧x.day≤day∧y<0∧day-x.day<r.fall then r.sumK l out day k+x.points else r.sumK l out day k:=by
 rw[Rules.sumK_succ];unfold Rules.counts;rw[oO hk,hx,hy];unfold isOff;simp only[Bool.and_eq_true,decide_eq_true_eq,and_assoc]
theorem Je{r:Rules}{l:List Event}{out:List Int}{day:Int}{k:Nat}{x:Event}(hk:k<l.length)(hx:l[k]=x){y:Int}(hy:out.getD k 0=y):
 r.outK l out day (k+1)=if x.kind=3∧x.day≤day∧y<0∧day-x.day<r.fall then(r.outK l out day k).set k day else r.outK l out day k:=by
 show(if r.counts l out day k=true then _ else _)=_
 unfold Rules.counts;rw[oO hk,hx,hy];unfold isOff;simp only[Bool.and_eq_true,decide_eq_true_eq,and_assoc]
theorem Kb{l:List Event}{i k:Nat}{x z:Event}(hk:k<l.length)(hx:l[k]=x)(hi:i<l.length)(hz:l[i]=z):
 Rules.lastK l i (k+1)=(Rules.lastK l i k&& !(decide (i<k)&&decide (x.kind=3)&&decide (x.day=z.day))):=by
 rw[Rules.lastK_succ,oO hk,oO hi,hx,hz];rfl
theorem zB(r:Rules)(v lv:Value)(l:List Event)(w:World)(h:RulesV w v r)(hl:ListV w lv l)(ho:EvsOk r l):
 Calls Tryz.prog 66 #[v,lv] w (fun e W'=>∃g A c,e=.returned (.tuple #[.slice (some ⟨g,0,none⟩) l.length l.length,.slice A (r.takenR l).2.length c])∧BlkC W' g 3 (encL (r.takenR l).1)∧ListB Span W' (.slice A (r.takenR l).2.length c) (r.takenR l).2∧StepC w W'):=by
 obtain⟨A,n,kc,A',c',A2,c2,rfl,hn,hhr⟩:=h.h;subst hn;clear hhr;obtain⟨B,cb,rfl,q1,q2⟩:=hl.form;unfold maxLen at q2;have i1:=RulesB.mk h;have i2:=ListB.mk hl;have hn30:=ho.n;have Hd:=Lib.hid ho.d;have hb:=ho.b;have H0:=Lib.hid (Rules.takenK_all (r:=r) l);clear ho;go_enter Tryz.func66,Tryz.ntmps66
 go_wp2_with (first|(with_reducible refine aH (d:=some 2) ?_;intro V2 g2 hE2 hB2 hA2)|(with_reducible refine qM ?_;intro V3 gb hE3 hM hA3))
 rw[Fp,←Mp] at hM;have hg0:V3.grownBy V3 (some gb):=grown_of_ext (Ext.refl _);go_loopw [7] (fun iv wr=>V3.grownBy wr (some gb)∧∃k:Nat,k≤l.length∧iv=.int .i64 k∧Blk wr gb 3 (encL (negTo l.length k)).toArray) (fun iv _=>l.length-(RowKit.intOf iv).toNat)
 case atStart=>exact⟨hg0,0,by omega,rfl,hM⟩
 case round=>
  obtain⟨hg1,k,hk,rfl,hB1⟩:=hrel;have hs1:StoreC V3 wr gb:=⟨hg1⟩;by_cases lk:k<l.length
  ·have zk:IntKind.i64.wrap ((k:Int)+1)=(k:Int)+1:=IntWalk.i64_in _ (by omega)
   have hkb:k<(encL (negTo l.length k)).toArray.size:=by rw[encI11];simp;rw[Ew hk];exact lk
   have Hns:=Lib.hid (Ev lk);go_wp2_with (first|((with_reducible refine bstore (off:=k) (v:=.int .i64 (-1)) hB1 ?_ ⟨by with_unfolding_all rfl,by with_unfolding_all rfl,by with_unfolding_all rfl,by with_unfolding_all rfl,hkb,by with_unfolding_all rfl⟩);intro V hs4 hB4;rw[vL] at hB4))
   (try simp only[pS])
   go_roundw
   case rel=>exact⟨bN hg1 hs4.h,k+1,lk,by push_cast;rfl,by rw[←Hns.out];exact hB4⟩
   case measure=>simp[RowKit.intOf];omega
  ·obtain rfl:k=l.length:=by omega
   rw[Ex] at hB1;have i3:=BlkC.mk hB1;have hg1':=hg1;clear hg1;have iM:=BlkC.mk hM;obtain⟨W1,rfl⟩:∃W1,W1=wr:=⟨wr,rfl⟩;have hs2:StoreC V3 W1 gb:=⟨hg1'⟩;have Hg1:=Lib.hid hg1';clear hg1' hM hs1;go_wp2
   go_loopw [9,8] (fun iv bv wr2=>W1.grownBy wr2 (some gb)∧∃(i:Nat)(o:List Int)(bs:List Span)(A3:Option Addr)(c3:Nat),i≤l.length∧iv=.int .i64 i∧Rules.takenK r l i=(o,bs)∧Blk wr2 gb 3 (encL o).toArray∧bv=.slice A3 bs.length c3∧RowC wr2 (.slice A3 bs.length c3) W1 95 2 bs.length (encL bs)) (fun iv _ _=>l.length-(RowKit.intOf iv).toNat)
   case atStart=>exact⟨grown_of_ext (Ext.refl _),0,_,[],none,0,by omega,rfl,rfl,hB1,rfl,RowC.nil⟩
   case round=>
    obtain⟨hg2,i,o,bs,A3,c3,hi,rfl,htk,hBo,rfl,hR2⟩:=hrel;obtain⟨W2,rfl⟩:∃W2,W2=wr:=⟨wr,rfl⟩;have hs3:StoreC W1 W2 gb:=⟨hg2⟩;have hlen:=Rules.takenK_len (r:=r) l i;rw[htk] at hlen;obtain⟨hol,hbl⟩:=hlen;simp only at hol hbl;have Hol:=Lib.hid hol;have Htk:=Lib.hid htk;have i5:=BlkC.mk hBo;clear htk hol;by_cases li:i<l.length
    ·obtain⟨ad,rfl,ha⟩:=hl.elem li;obtain⟨⟨ek,ed,⟨ec,eo⟩,et,eq,ep,eu,em⟩,hx⟩:∃x,l[i]=x:=⟨_,rfl⟩;have hdd:=Hd.out _ (List.getElem_mem li);rw[hx] at ha hdd;simp only at hdd;have hd0:=hdd.1;have hd1:=hdd.2.1;have i6:CellsB w (ad.add (i*9)) [.int .i64 ek,.int .i64 ed,.int .i64 ec,.int .i64 eo,.int .i64 et,.int .i64 eq,.int .i64 ep,.int .i64 eu,.int .i64 em]:=⟨ha⟩;have zi:IntKind.i64.wrap ((i:Int)+1)=(i:Int)+1:=IntWalk.i64_in _ (by omega)
     have Hx:=Lib.hid hx;obtain⟨b0,q0⟩:∃b,(ek==3)=b:=⟨_,rfl⟩;have Hl0:=Lib.hid (show Rules.lastK l i 0=b0 from by rw[Rules.lastK_0,oO li,hx,←q0];rfl)
     have Hskip:=Lib.hid (show Rules.lastK l i l.length=false∨r.sumK l o ed l.length<r.limit→Rules.takenK r l (i+1)=(o,bs) from fun hh=>by
      rw[Rules.takenK_succ,Htk.out,Rules.stepT_skip];rw[oO li,hx];exact hh)
     have Htake:=Lib.hid (show Rules.lastK l i l.length=true→¬r.sumK l o ed l.length<r.limit→Rules.takenK r l (i+1)=(r.outK l o ed l.length,bs++r.banOf ed) from fun h1 h2=>by
      rw[Rules.takenK_succ,Htk.out];have:=Rules.stepT_take (r:=r) (l:=l) (s:=(o,bs)) (i:=i) h1 (by rw[oO li,hx];exact h2) Hol.out
      rw[this,oO li,hx])
     clear ha hx hdd;go_wp2_with (first|(with_reducible refine aA ?_))
     go_loopw [13,11,12] (fun kv sv lv wr2=>StepC W2 wr2∧∃k:Nat,k≤l.length∧kv=.int .i64 k∧sv=.int .i64 (r.sumK l o ed k)∧lv=.bool (Rules.lastK l i k)) (fun kv _ _ _=>l.length-(RowKit.intOf kv).toNat)
     case atStart=>exact⟨⟨ExtC.h⟩,0,by omega,rfl,rfl,by rw[Hl0.out]⟩
     case round=>
      obtain⟨_,k,hk2,rfl,rfl,rfl⟩:=hrel;by_cases lk2:k<l.length
      ·obtain⟨_,e1,hb2⟩:=hl.elem lk2
       cases e1
       obtain⟨⟨fk,fd,⟨fc,fo⟩,ft,fq,fp,fu,fm⟩,hy⟩:∃x,l[k]=x:=⟨_,rfl⟩;obtain⟨y,hyo⟩:∃y,o.getD k 0=y:=⟨_,rfl⟩;have hff:=Hd.out _ (List.getElem_mem lk2);rw[hy] at hb2 hff;simp only at hff;have hf0:=hff.1;have hf1:=hff.2.1;have i7:CellsB w (ad.add (k*9)) [.int .i64 fk,.int .i64 fd,.int .i64 fc,.int .i64 fo,.int .i64 ft,.int .i64 fq,.int .i64 fp,.int .i64 fu,.int .i64 fm]:=⟨hb2⟩;have i8:GetI o k y:=⟨by rw[Hol.out];exact lk2,hyo⟩
       have hS:=Ma (r:=r) (day:=ed) lk2 hy hyo;have hL:=Kb lk2 hy li Hx.out;have hbd:=Rules.sumK_bd (r:=r) (out:=o) (day:=ed) (fun x hx=>(Hd.out x hx).2.2) k hk2
       obtain⟨sm,hsm⟩:∃s,r.sumK l o ed k=s:=⟨_,rfl⟩;obtain⟨lt,hlt⟩:∃s,Rules.lastK l i k=s:=⟨_,rfl⟩;rw[hsm] at hS hbd⊢;rw[hlt] at hL⊢;simp only at hS hL;have zs:IntKind.i64.wrap (sm+fp)=sm+fp:=IntWalk.i64_in _ (by omega)
       have zd:IntKind.i64.wrap (ed-fd)=ed-fd:=IntWalk.i64_in _ (by omega)
       have zk:IntKind.i64.wrap ((k:Int)+1)=(k:Int)+1:=IntWalk.i64_in _ (by omega)
       have HS:=Lib.hid hS;have hL:Rules.lastK l i (k+1)=(lt&&(!decide (i<k)|| !(fk==3)|| !(fd==ed))):=by rw[hL];simp only[Bool.not_and];rfl
       have HL:=Lib.hid hL;clear hS hL hbd hsm hlt hy hyo hff hb2;obtain⟨cn,hcn⟩:∃b,((((fk==3)&&decide (fd≤ed))&&decide (y<0))&&decide (ed-fd<r.fall))=b:=⟨_,rfl⟩;have Hcn:=Lib.hid hcn;have Hs':=Lib.hid (show r.sumK l o ed (k+1)=if cn=true then sm+fp else sm from by
        rw[HS.out,←hcn];simp only[Bool.and_eq_true,decide_eq_true_eq,beq_iff_eq,and_assoc])
       clear hcn;obtain⟨hc,hChid⟩:∃f:Nat→Array Oper→Bool→Go.Code,f=Go.Code.region:=⟨_,rfl⟩;rw[show Go.Code.region 18=hc 18 by rw[hChid]]
       have HCh:=Lib.hid hChid;clear hChid;go_wp2
       refine aP ((.take 0 (.take 1 (.take 2 (.take 3 (.take 4 (.take 5 (.take 6 (.take 7 (.take 8 (.take 9 (.take 10 (.take 11 (.take 12 (.take 13 (.take 14 (.take 15 (.take 16 (.take 17 (.take 18 (.take 19 (.take 20 (.take 21 (.take 22 (.take 23 (.take 24 (.take 25 (.take 26 (.take 27 (.take 28 (.take 29 (.take 30 (.take 31 (.take 32 (.take 33 .nil))))))))))))))))))))))))))))))))))) (fun hHd=> ?_) (hQ:=by intro _ _ _ _ _ h;exact h)
       repeat' first|((first|with_reducible refine bY ?_|with_reducible refine iV ?_|with_reducible refine gB ?_|(with_reducible refine cJ (v:= ?_) ?_ ?_;rotate_left;(·(intro W' h;have:=StepC.mk h;infer_instance)))|(with_reducible refine jJ (v:= ?_) ?_ ?_;rotate_left;(·(intro hq W' h;have:=StepC.mk h;infer_instance)))|(with_reducible refine bX (v:= ?_) ?_ ?_;rotate_left;(·(intro W' h;have:=StepC.mk h;first|(simp only[execOp,eS];go_simp;(try with_reducible rfl)))))|(with_reducible refine eI (v:= ?_) ?_ ?_;rotate_left;(·(intro hq W' h;have:=StepC.mk h;simp only[execOp,eS,hq,mbT];(try(simp only[Bool.and_eq_true,Bool.not_eq_true'] at hq;simp only[hq,mbT,Bool.not_false]));go_simp;(try with_reducible rfl)))));(try dsimp only[sS0,sS1]))|(first|(with_reducible refine dI ?_))|(with_reducible refine eT hHd ?_)|(with_reducible refine aF ?_)
       have e1:=Hcn.out;try simp only[e1]
       clear e1
       cases cn
       ·have Hs:=Lib.hid (show r.sumK l o ed (k+1)=sm by rw[Hs'.out];rfl)
        go_wp2
        have hChid:=HCh.out;clear HCh;subst hChid;refine wp_region_lit ?_;repeat' first|((first|with_reducible refine bY ?_|with_reducible refine kW ?_|with_reducible refine iV ?_|with_reducible refine Ro ?_|with_reducible refine gB ?_|with_reducible refine Rn ?_|(with_reducible refine jJ (v:= ?_) ?_ ?_;rotate_left;(·(intro hq W' h;cases h;infer_instance)))|(with_reducible refine eI (v:= ?_) ?_ ?_;rotate_left;(·(intro hq W' h;cases h;simp only[execOp,eS,hq,mbT];(try(simp only[Bool.and_eq_true,Bool.not_eq_true'] at hq;simp only[hq,mbT,Bool.not_false]));go_simp;(try with_reducible rfl)))));(try dsimp only[sS0,sS1]))|(first|(with_reducible refine dI ?_)|(with_reducible refine Rh ?_))|(with_reducible refine bO ?_)|(with_reducible refine dD ?_)
        go_wp2
        go_roundw
        case rel=>exact⟨⟨ExtC.h⟩,k+1,lk2,by push_cast;rfl,by rw[Hs.out],by rw[HL.out]⟩
        case measure=>simp[RowKit.intOf];omega
       ·have Hs:=Lib.hid (show r.sumK l o ed (k+1)=sm+fp by rw[Hs'.out];rfl)
        go_wp2_with (first|(with_reducible refine aA ?_))
        have hChid:=HCh.out;clear HCh;subst hChid;refine wp_region_lit ?_;repeat' first|((first|with_reducible refine bY ?_|with_reducible refine kW ?_|with_reducible refine iV ?_|with_reducible refine Ro ?_|with_reducible refine gB ?_|with_reducible refine Rn ?_|(with_reducible refine jJ (v:= ?_) ?_ ?_;rotate_left;(·(intro hq W' h;cases h;infer_instance)))|(with_reducible refine eI (v:= ?_) ?_ ?_;rotate_left;(·(intro hq W' h;cases h;simp only[execOp,eS,hq,mbT];(try(simp only[Bool.and_eq_true,Bool.not_eq_true'] at hq;simp only[hq,mbT,Bool.not_false]));go_simp;(try with_reducible rfl)))));(try dsimp only[sS0,sS1]))|(first|(with_reducible refine dI ?_)|(with_reducible refine Rh ?_))|(with_reducible refine bO ?_)|(with_reducible refine dD ?_)
        go_wp2
        go_roundw
        case rel=>exact⟨⟨ExtC.h⟩,k+1,lk2,by push_cast;rfl,by rw[Hs.out],by rw[HL.out]⟩
        case measure=>simp[RowKit.intOf];omega
      ·obtain rfl:k=l.length:=by omega
       have hbd:=Rules.sumK_bd (r:=r) (out:=o) (day:=ed) (fun x hx=>(Hd.out x hx).2.2) l.length (Nat.le_refl _)
       obtain⟨sm,hsm⟩:∃s,r.sumK l o ed l.length=s:=⟨_,rfl⟩;obtain⟨lt,hlt⟩:∃s,Rules.lastK l i l.length=s:=⟨_,rfl⟩;rw[hsm] at hbd⊢;rw[hlt] at⊢;have Hskip2:=Lib.hid (show lt=false∨sm<r.limit→Rules.takenK r l (i+1)=(o,bs) from fun h=>Hskip.out (by rw[hlt,hsm];exact h))
       have Htake2:=Lib.hid (show lt=true→¬sm<r.limit→Rules.takenK r l (i+1)=(r.outK l o ed l.length,bs++r.banOf ed) from fun h1 h2=>Htake.out (by rw[hlt];exact h1) (by rw[hsm];omega))
       clear Hskip Htake hsm hlt Hl0 q0;obtain⟨W3,rfl⟩:∃W3,W3=wr:=⟨wr,rfl⟩
       cases lt
       ·have HN:=Lib.hid (Hskip2.out (.inl rfl));clear Hskip2 Htake2;go_wp2
        exact⟨⟨hg2.ext' ExtC.h,i+1,o,bs,A3,c3,li,by push_cast;rfl,HN.out,(inferInstance:BlkC _ gb 3 (encL o)).h,rfl,inferInstance⟩,by simp[RowKit.intOf];omega⟩
       ·by_cases hsl:sm<r.limit
        ·have HN:=Lib.hid (Hskip2.out (.inr hsl));clear Hskip2 Htake2;go_wp2_with (first|(with_reducible refine bA ?_))
         exact⟨⟨hg2.ext' ExtC.h,i+1,o,bs,A3,c3,li,by push_cast;rfl,HN.out,(inferInstance:BlkC _ gb 3 (encL o)).h,rfl,inferInstance⟩,by simp[RowKit.intOf];omega⟩
        ·have HN:=Lib.hid (Htake2.out rfl (by omega))
         have hB3:Blk W3 gb 3 (encL o).toArray:=(inferInstance:BlkC W3 gb 3 (encL o)).h;clear Hskip2 Htake2;go_wp2_with (first|(with_reducible refine bA ?_))
         go_loopw [14] (fun kv wr3=>W3.grownBy wr3 (some gb)∧∃k:Nat,k≤l.length∧kv=.int .i64 k∧Blk wr3 gb 3 (encL (r.outK l o ed k)).toArray) (fun kv _=>l.length-(RowKit.intOf kv).toNat)
         case atStart=>exact⟨grown_of_ext ExtC.h,0,by omega,rfl,hB3⟩
         case round=>
          obtain⟨hg4,k,hk4,rfl,hB4⟩:=hrel;have hs4:StoreC W3 wr gb:=⟨hg4⟩;by_cases lk4:k<l.length
          ·obtain⟨_,e1,hb2⟩:=hl.elem lk4
           cases e1
           obtain⟨⟨fk,fd,⟨fc,fo⟩,ft,fq,fp,fu,fm⟩,hy⟩:∃x,l[k]=x:=⟨_,rfl⟩;obtain⟨y,hyo⟩:∃y,o.getD k 0=y:=⟨_,rfl⟩;have hff:=Hd.out _ (List.getElem_mem lk4);rw[hy] at hb2 hff;simp only at hff;have hf0:=hff.1;have hf1:=hff.2.1;have i7:CellsB w (ad.add (k*9)) [.int .i64 fk,.int .i64 fd,.int .i64 fc,.int .i64 fo,.int .i64 ft,.int .i64 fq,.int .i64 fp,.int .i64 fu,.int .i64 fm]:=⟨hb2⟩;have hS:=Je (r:=r) (day:=ed) lk4 hy hyo;have hyk:=Rules.outK_at (r:=r) (l:=l) (out:=o) (day:=ed) (k:=k) (by rw[Hol.out];exact lk4)
           have hkl:=Rules.outK_len (r:=r) (l:=l) (out:=o) (day:=ed) k;rw[Hol.out] at hkl;obtain⟨ok,hok⟩:∃s,r.outK l o ed k=s:=⟨_,rfl⟩;rw[hok] at hS hyk hkl hB4;have i8:GetI ok k y:=⟨by rw[hkl];exact lk4,by rw[hyk,hyo]⟩
           have i9:=BlkC.mk hB4;simp only at hS;have zd:IntKind.i64.wrap (ed-fd)=ed-fd:=IntWalk.i64_in _ (by omega)
           have zk:IntKind.i64.wrap ((k:Int)+1)=(k:Int)+1:=IntWalk.i64_in _ (by omega)
           have hkb:k<(encL ok).toArray.size:=by rw[encI11];simp;rw[hkl];exact lk4
           obtain⟨cn,hcn⟩:∃b,((((fk==3)&&decide (fd≤ed))&&decide (y<0))&&decide (ed-fd<r.fall))=b:=⟨_,rfl⟩;have Hcn:=Lib.hid hcn;have Hs':=Lib.hid (show r.outK l o ed (k+1)=if cn=true then ok.set k ed else ok from by
            rw[hS,←hcn];simp only[Bool.and_eq_true,decide_eq_true_eq,beq_iff_eq,and_assoc])
           clear hS hyk hkl hok hy hyo hff hb2 hcn;go_wp2
           refine aP ((.take 0 (.take 1 (.take 2 (.take 3 (.take 4 (.take 5 (.take 6 (.take 7 (.take 8 (.take 9 (.take 10 (.take 11 (.take 12 (.take 13 (.take 14 (.take 15 (.take 16 (.take 17 (.take 18 (.take 19 (.take 20 (.take 21 (.take 22 (.take 23 (.take 24 (.take 25 (.take 26 (.take 27 (.take 28 (.take 29 (.take 30 (.take 31 (.take 32 (.take 33 .nil))))))))))))))))))))))))))))))))))) (fun hHd=> ?_) (hQ:=by intro _ _ _ _ _ h;exact h)
           repeat' first|((first|with_reducible refine bY ?_|with_reducible refine iV ?_|with_reducible refine gB ?_|(with_reducible refine cJ (v:= ?_) ?_ ?_;rotate_left;(·(intro W' h;have:=StepC.mk h;infer_instance)))|(with_reducible refine jJ (v:= ?_) ?_ ?_;rotate_left;(·(intro hq W' h;have:=StepC.mk h;infer_instance)))|(with_reducible refine bX (v:= ?_) ?_ ?_;rotate_left;(·(intro W' h;have:=StepC.mk h;first|(simp only[execOp,eS];go_simp;(try with_reducible rfl)))))|(with_reducible refine eI (v:= ?_) ?_ ?_;rotate_left;(·(intro hq W' h;have:=StepC.mk h;simp only[execOp,eS,hq,mbT];(try(simp only[Bool.and_eq_true,Bool.not_eq_true'] at hq;simp only[hq,mbT,Bool.not_false]));go_simp;(try with_reducible rfl)))));(try dsimp only[sS0,sS1]))|(first|(with_reducible refine dI ?_))|(with_reducible refine eT hHd ?_)|(with_reducible refine aF ?_)
           have e1:=Hcn.out;try simp only[e1]
           clear e1;have hB5:Blk wr.drew gb 3 (encL ok).toArray:=(inferInstance:BlkC wr.drew gb 3 (encL ok)).h
           cases cn
           ·have Hs:=Lib.hid (show r.outK l o ed (k+1)=ok by rw[Hs'.out];rfl)
            go_wp2
            go_roundw
            case rel=>exact⟨hg4.ext' ExtC.h,k+1,lk4,by push_cast;rfl,by rw[Hs.out];exact hB5⟩
            case measure=>simp[RowKit.intOf];omega
           ·have Hs:=Lib.hid (show r.outK l o ed (k+1)=ok.set k ed by rw[Hs'.out];rfl)
            go_wp2_with (first|((with_reducible refine bstore (off:=k) (v:=.int .i64 ed) hB5 ?_ ⟨by with_unfolding_all rfl,by with_unfolding_all rfl,by with_unfolding_all rfl,by with_unfolding_all rfl,hkb,by with_unfolding_all rfl⟩);intro V hs6 hB6;rw[vL] at hB6))
            (try simp only[pS])
            go_roundw
            case rel=>exact⟨bN (hg4.ext' ExtC.h) hs6.h,k+1,lk4,by push_cast;rfl,by rw[Hs.out];exact hB6⟩
            case measure=>simp[RowKit.intOf];omega
          ·obtain rfl:k=l.length:=by omega
           obtain⟨o2,ho2⟩:∃s,r.outK l o ed l.length=s:=⟨_,rfl⟩;rw[ho2] at hB4;have i9:=BlkC.mk hB4;have hN:=HN.out;rw[ho2] at hN;have HN2:=Lib.hid hN;clear hN HN ho2;by_cases hmd:ed<40000
           ·have HN3:=Lib.hid (show Rules.takenK r l (i+1)=(o2,bs++ [⟨ed+1,min 40000 (ed+r.ban)⟩]) from by rw[HN2.out];unfold Rules.banOf;rw[if_pos hmd])
            have zb:IntKind.i64.wrap (ed+r.ban)=ed+r.ban:=IntWalk.i64_in _ (by omega)
            have ze:IntKind.i64.wrap (ed+1)=ed+1:=IntWalk.i64_in _ (by omega)
            clear HN2;go_wp2_with (first|(with_reducible refine yD ?_;intro A9 c9 Va hR hG)|(first|(with_reducible refine aA ?_)|(with_reducible refine aD ?_;intro V g _ _ _)))
            obtain⟨A8,c8,e8,h8⟩:=cV (rfl:bs++ [(⟨ed+1,min 40000 (ed+r.ban)⟩:Span)]=_) (inferInstance:RowC Va (.slice A9 (bs.length+1) c9) W1 95 2 _ _)
            exact⟨⟨Ax ((bN (hg2.ext' ExtC.h) hg4).ext' ExtC.h) hG (Nat.le_refl _),i+1,o2,_,A8,c8,li,by push_cast;rfl,HN3.out,(inferInstance:BlkC Va gb 3 (encL o2)).h,e8,h8⟩,by simp[RowKit.intOf];omega⟩
           ·have HN3:=Lib.hid (show Rules.takenK r l (i+1)=(o2,bs) from by rw[HN2.out];unfold Rules.banOf;rw[if_neg hmd,List.append_nil])
            clear HN2;go_wp2
            exact⟨⟨bN (hg2.ext' ExtC.h) hg4,i+1,o2,bs,A3,c3,li,by push_cast;rfl,HN3.out,hB4,rfl,inferInstance⟩,by simp[RowKit.intOf];omega⟩
    ·obtain rfl:i=l.length:=by omega
     have hF:=Htk.out;rw[H0.out] at hF;clear hBo;have HF:=Lib.hid hF;clear hF;go_wp2
     go_ret2
     rw[HF.out];exact⟨gb,A3,c3,rfl,inferInstance,⟨(inferInstance:RowC _ (.slice A3 bs.length c3) W1 95 2 _ _).list rfl rfl rfl⟩,⟨ExtC.h⟩⟩
class EvsC (r:Rules) (l:List Event):Prop where h:EvsOk r l
abbrev RTkn(W:World)(r:Rules)(l:List Event)(e:Ending)(W':World):Prop:=∃g A c,e=.returned (.tuple #[.slice (some ⟨g,0,none⟩) l.length l.length,.slice A (r.takenR l).2.length c])∧BlkC W' g 3 (encL (r.takenR l).1)∧ListB Span W' (.slice A (r.takenR l).2.length c) (r.takenR l).2∧StepC W W'
instance{W:World}{v lv:Value}{r:Rules}{l:List Event}[h:RulesC W v r][hl:ListC Event W lv l][q:EvsC r l]:FunC Tryz.prog 66 #[v,lv] W (RTkn W r l):=⟨zB r v lv l W h.h hl.h q.h⟩
theorem kM{r:Rules}{p:Person}(h:r.personErr p=0):p.events.length≤30:=by
 unfold Rules.personErr at h;by_cases h1:r.check.2.2≠0
 ·rw[if_pos h1] at h;exact absurd h h1
 ·rw[if_neg h1] at h;by_cases h2:inB p.born 0 40000=false
  ·rw[if_pos h2] at h;simp at h
  ·rw[if_neg h2] at h;by_cases h3:30<p.events.length
   ·rw[if_pos h3] at h;simp at h
   ·omega
end Go.Rg
end
section
namespace Go.Rg
open Go.Bp
namespace Rules
variable{r:Rules}
theorem Fo{born:Int}{x:Event}(h:r.eventErr born x=0):0≤x.points∧x.points≤20:=by
 rcases(bI h).2 with ⟨y,m,e,_⟩|⟨i,e,_⟩|⟨i,e,_⟩|⟨n,e,h1,h2⟩|⟨u,e,_⟩
 all_goals(rw[e];simp only;omega)
theorem evs_ok{p:Person}(h:r.personErr p=0):EvsOk r (sortE p.events):=by
 obtain⟨h1,h2,h3,h4⟩:=person_ok h;refine⟨Nat.le_trans (sortE_len _) h3,fun x hx=> ?_,(ok_of h1).ban⟩
 have he:=h4 x ((cZ _ _).1 hx);have:=(bI he).1;have:=Fo he;omega
end Rules
end Go.Rg
end
section
namespace Go.Rg
open Go Go.Bp Go.RowKit Go.Walk Go.Proofs
theorem wB(v:Value)(l:List Event)(w:World)(h:ListV w v l)(hl:l.length≤1000):Calls Tryz.prog 67 #[v] w (RLW w 95 (courts l)):=by
 obtain⟨A,c,rfl,q1,q2⟩:=h.form;unfold maxLen at q2;have i0:=ListB.mk h;go_enter Tryz.func67,Tryz.ntmps67
 go_wp2
 go_loopw [4,3] (fun iv ov wr=>StepC w wr∧∃(k:Nat)(o:List Span)(A2:Option Addr)(c2:Nat),k≤l.length∧iv=.int .i64 k∧o=courts (l.take k)∧ov=.slice A2 o.length c2∧RowC wr (.slice A2 o.length c2) w 95 2 o.length (encL o)∧o.length≤k) (fun iv _ _=>l.length-(RowKit.intOf iv).toNat)
 case atStart=>exact⟨⟨Ext.refl _⟩,0,[],none,0,by omega,rfl,by simp[courts],rfl,RowC.nil,by simp⟩
 case round=>
  obtain⟨_,k,o,A2,c2,hk,rfl,ho,rfl,hR,hol⟩:=hrel;by_cases lk:k<l.length
  ·obtain⟨ad,rfl,ha⟩:=h.elem lk;have hs:=xQ l lk;rw[←ho] at hs;obtain⟨⟨ek,ed,⟨ec,eo⟩,et,eq,ep,eu,em⟩,hx⟩:∃x,l[k]=x:=⟨_,rfl⟩;rw[hx] at ha hs;simp only at hs;have i4:CellsB w (ad.add (k*9)) [.int .i64 ek,.int .i64 ed,.int .i64 ec,.int .i64 eo,.int .i64 et,.int .i64 eq,.int .i64 ep,.int .i64 eu,.int .i64 em]:=⟨ha⟩;have zk:IntKind.i64.wrap ((k:Int)+1)=(k:Int)+1:=IntWalk.i64_in _ (by omega)
   have Ho:=Lib.hid ho;clear ha hx ho;by_cases hk4:ek=4
   ·subst hk4;rw[if_pos rfl] at hs;have Hs:=Lib.hid hs;clear hs;go_wp2_with (first|(with_reducible refine aA ?_))
    refine dA ((.take 0 (.take 1 (.take 2 (.take 3 (.take 4 (.take 5 (.take 6 (.take 7 (.take 8 (.take 9 (.take 10 (.take 11 (.one 12 (.one 13 (.take 14 .nil)))))))))))))))) (fun w'=>Ext w w') ?_ (fun hHd=> ?_) (hQ:=by intro _ _ _ _ _ h;exact h)
    ·exact ExtC.h
    repeat' first|((with_reducible refine aX ?_);(first|(refine tk (v:= ?_) ?_ hHd ?_;rotate_left;(·(intro W' h;have:=StepC.mk h;first|with_reducible exact aJ)))|(refine tk (v:= ?_) ?_ hHd ?_;rotate_left;(·(intro wq hSw;go_simp;(try with_reducible rfl)))));(try simp only[pS]))|((with_reducible refine bC ?_);refine aQ (by simp only[gS];rfl) ?_)|(with_reducible refine aD ?_;intro Vb g9 _ _ _)|(with_reducible refine bR ?_;intro A9 c9 Va hR hG)|((with_reducible refine bD ?_);clear hHd;refine aM ExtC.h (fun hHd=> ?_);(try simp only[pS]))|(with_reducible refine aF ?_)
    all_goals
     go_wp2
     go_roundw
     case rel=>
      obtain⟨A8,c8,e8,h8⟩:=cV Hs.out (inferInstance:RowC Va (.slice A9 (o.length+1) c9) w 95 2 _ _);exact⟨⟨ExtC.h⟩,k+1,_,A8,c8,lk,by push_cast;rfl,rfl,e8,h8,by rw[Hs.out];simp;omega⟩
     case measure=>simp[RowKit.intOf];omega
   ·have q:(ek==4)=false:=by simpa using hk4
    rw[if_neg hk4] at hs;have Hs:=Lib.hid hs;clear hs hk4;go_wp2_with (first|(with_reducible refine aA ?_))
    go_roundw
    case rel=>exact⟨⟨ExtC.h⟩,k+1,o,A2,c2,lk,by push_cast;rfl,by rw[Hs.out];simp,rfl,inferInstance,by omega⟩
    case measure=>simp[RowKit.intOf];omega
  ·obtain rfl:k=l.length:=by omega
   rw[List.take_length] at ho;subst ho;go_wp2
   go_ret
   exact⟨A2,c2,rfl,inferInstance,⟨ExtC.h⟩⟩
abbrev RL95(W:World)(l:List Span)(e:Ending)(W':World):Prop:=∃A c,e=.returned (.slice A l.length c)∧RowC W' (.slice A l.length c) W 95 2 l.length (encL l)∧StepC W W'
instance(priority:=2000){W:World}{v:Value}{l:List Event}[h:ListC Event W v l][q:LenC2 l]:FunC Tryz.prog 67 #[v] W (RL95 W (courts l)):=⟨wB v l W h.h q.h⟩
end Go.Rg
end
section
namespace Go.Rg
open Go.Bp
def endT(day term:Int):Int:=if term=0 then 40001 else if(plusAns day term 0).2=0 then(plusAns day term 0).1 else 40001
def metK(s:Sys)(needs day:Int)(l:List Grant):Bool:=decide (needs<0)||l.any fun g=>decide (0≤needs)&&decide (g.day<day)&&decide (g.reason=0)&&decide (day<g.end_)&&s.covers g.right.cls needs
theorem sS(s:Sys)(needs day:Int)(l:List Grant){k:Nat}(h:k<l.length){g:Grant}(hg:l[k]=g):metK s needs day (l.take (k+1))=(metK s needs day (l.take k)||(decide (0≤needs)&&decide (g.day<day)&&decide (g.reason=0)&&decide (day<g.end_)&&s.covers g.right.cls needs)):=by
 unfold metK;rw[List.take_succ_eq_append_getElem h,List.any_append,hg,Bool.or_assoc];simp
def reasonW(r:Rules)(born:Int)(bans:List Span)(earlier:List Grant)(x:Event)(y:Right):Int:=
 if hasDay bans x.day=true then 4 else if x.kind=1∧inB x.day (r.daysOf x).lo (r.daysOf x).hi=false then 5 else if(ageAns born x.day).1<(r.sys.at_ y.cls).age then 6
 else if metK r.sys (r.sys.at_ y.cls).needs x.day earlier=false then 7 else 0
namespace Rules
variable{r:Rules}
theorem banned_iff(l:List Event)(d:Int):r.bannedBy l d≠0↔hasDay (r.bansOf l) d=true:=by
 unfold bannedBy bansOf;rw[oW]
 cases hasDay (courts l) d<;>cases hasDay (r.offs l).bans d<;>simp
theorem reason_eq(born:Int)(l:List Event)(o:List Grant)(x:Event)(y:Right):r.reasonOf born l o x y=Go.Rg.reasonW r born (r.bansOf l) o x y:=by
 unfold reasonOf Go.Rg.reasonW;by_cases h1:r.bannedBy l x.day≠0
 ·rw[if_pos h1,if_pos ((banned_iff l x.day).1 h1)]
 ·rw[if_neg h1,if_neg (fun h=>h1 ((banned_iff l x.day).2 h))]
  by_cases h2:x.kind=1∧inB x.day (r.daysOf x).lo (r.daysOf x).hi=false
  ·rw[if_pos h2,if_pos h2]
  ·rw[if_neg h2,if_neg h2];by_cases h3:(ageAns born x.day).1<(r.sys.at_ y.cls).age
   ·rw[if_pos h3,if_pos h3]
   ·rw[if_neg h3,if_neg h3];have e:(0≤(r.sys.at_ y.cls).needs∧(o.any fun g=>decide (g.day<x.day)&&decide (g.reason=0)&&decide (x.day<g.end_)&&r.sys.covers g.right.cls (r.sys.at_ y.cls).needs)=false)↔metK r.sys (r.sys.at_ y.cls).needs x.day o=false:=by
     unfold metK;by_cases hn:(r.sys.at_ y.cls).needs<0
     ·simp only[hn,decide_true,Bool.true_or];constructor
      ·intro h;omega
      ·intro h;cases h
     ·have hn':0≤(r.sys.at_ y.cls).needs:=by omega
      simp only[hn,hn',decide_true,decide_false,Bool.false_or,Bool.true_and,true_and]
    by_cases h4:metK r.sys (r.sys.at_ y.cls).needs x.day o=false
    ·rw[if_pos h4,if_pos (e.2 h4)]
    ·rw[if_neg h4,if_neg (fun h=>h4 (e.1 h))]
def grK(r:Rules)(born:Int)(l:List Event)(k:Nat):List Grant:=r.grantsR born l (l.take k) []
theorem jI(born:Int)(l:List Event)(x:Event):∀(a:List Event)(o:List Grant),r.grantsR born l (a++ [x]) o=if x.kind=0∨x.kind=1 then r.grantsR born l a o++ [⟨x.day,r.rightOf x,r.reasonOf born l (r.grantsR born l a o) x (r.rightOf x),r.endR born l (r.grantsR born l a o) x⟩] else r.grantsR born l a o
 | [],o=>by
  show(if _ then _ else _)=_
  split<;>rfl
 |z::a,o=>by
  rw[List.cons_append];by_cases h:z.kind=0∨z.kind=1
  ·have e1:∀b,r.grantsR born l (z::b) o=r.grantsR born l b (o++ [⟨z.day,r.rightOf z,r.reasonOf born l o z (r.rightOf z),r.endR born l o z⟩]):=fun b=>by
    show(if z.kind=0∨z.kind=1 then _ else _)=_
    rw[if_pos h]
   rw[e1,e1,jI born l x a]
  ·have e1:∀b,r.grantsR born l (z::b) o=r.grantsR born l b o:=fun b=>by
    show(if z.kind=0∨z.kind=1 then _ else _)=_
    rw[if_neg h]
   rw[e1,e1,jI born l x a]
theorem grK_succ(born:Int)(l:List Event){k:Nat}(h:k<l.length){x:Event}(hx:l[k]=x):r.grK born l (k+1)=if x.kind=0∨x.kind=1 then r.grK born l k++ [⟨x.day,r.rightOf x,r.reasonOf born l (r.grK born l k) x (r.rightOf x),r.endR born l (r.grK born l k) x⟩] else r.grK born l k:=by
 unfold grK;rw[List.take_succ_eq_append_getElem h,hx,jI]
theorem lV(l:List Event)(y:Right)(day:Int)(z:Event):∀(a:List Event)(e:Int),r.renewedR l y day (a++ [z]) e=if z.kind=2∧z.cls=y.cls∧day≤z.day∧z.day<r.renewedR l y day a e∧r.bannedBy l z.day=0 then r.endOf z.day y.cls else r.renewedR l y day a e
 | [],e=>rfl
 |x::a,e=>lV l y day z a _
theorem renewed_succ(l:List Event)(y:Right)(day e:Int){k:Nat}(h:k<l.length){z:Event}(hz:l[k]=z):r.renewedR l y day (l.take (k+1)) e=if z.kind=2∧z.cls=y.cls∧day≤z.day∧z.day<r.renewedR l y day (l.take k) e∧r.bannedBy l z.day=0 then r.endOf z.day y.cls else r.renewedR l y day (l.take k) e:=by
 rw[List.take_succ_eq_append_getElem h,hz,lV]
theorem grK_len(born:Int)(l:List Event):∀k,k≤l.length→(r.grK born l k).length≤k
 |0,_=>by simp[grK,grantsR]
 |k+1,hk=>by
  have ih:=grK_len born l k (by omega)
  rw[grK_succ born l (by omega) rfl]
  split
  ·simp;omega
  ·omega
theorem endOf_T(day cls:Int):r.endOf day cls=endT day (r.sys.at_ cls).term:=rfl
end Rules
end Go.Rg
end
section
namespace Go.Rg
open Go Go.Bp Go.RowKit Go.Walk Go.Proofs
class RBndE (r:Rules) (p:Person) (day:Int) (R:outParam Int):Prop where h:r.personErr p=0∧r.bannedBy (sortE p.events) day=R
theorem wC(r:Rules)(p:Person)(v pv:Value)(day R:Int)(w:World)(h:RulesV w v r)(hp:PersonV w pv p)(hz:r.personErr p=0)(hR:r.bannedBy (sortE p.events) day=R):Calls Tryz.prog 72 #[v,pv,.int .i64 day] w (RI w R):=by
 have i1:=RulesB.mk h;have i2:=PersonB.mk hp;obtain⟨A1,n1,c1,A2,c2,A3,c3,rfl,hn1,-⟩:=h.h;subst hn1;obtain⟨A,c,rfl,hl⟩:=hp.h;have i3:=ListB.mk hl;have hlen:p.events.length≤30:=kM hz;have i5:LenC2 p.events:=⟨by omega⟩
 have i6:EvsC r (sortE p.events):=⟨Rules.evs_ok hz⟩;have i7:LenC2 (sortE p.events):=⟨by have:=sortE_len p.events;omega⟩
 have htb:=(Rules.taken_both hz).1;unfold Rules.bannedBy at hR;rw[←htb] at hR;obtain⟨b1,h1⟩:∃b,hasDay (courts (sortE p.events)) day=b:=⟨_,rfl⟩;obtain⟨b2,h2⟩:∃b,hasDay (r.takenR (sortE p.events)).2 day=b:=⟨_,rfl⟩;rw[h1,h2] at hR;clear htb hz
 cases b1<;>cases b2
 all_goals
  simp at hR;subst hR;go_enter Tryz.func72,Tryz.ntmps72
  go_wp2_with (first|(with_reducible refine aB ?_;rintro _ Vt ⟨gt,At,ct,rfl,(_:BlkC _ _ _ _),(_:ListB Span _ _ _),(_:StepC _ _)⟩)|(with_reducible refine aB ?_;rintro _ Vc ⟨Ac,cc,rfl,(_:RowC _ _ _ 95 2 _ _),(_:StepC _ _)⟩)|(first|(with_reducible refine aA ?_)|(with_reducible refine aB ?_;first|rintro _ V ⟨rfl,(_:StepC _ _)⟩|rintro _ V ⟨_,_,rfl,_,(_:StepC _ _)⟩)|(with_reducible refine aH ?_;intro V g _ _ _)))
  go_ret
  exact⟨rfl,⟨ExtC.h⟩⟩
instance{W:World}{v pv:Value}{r:Rules}{p:Person}{day R:Int}[h:RulesC W v r][hp:PersonC W pv p][q:RBndE r p day R]:FunC Tryz.prog 72 #[v,pv,.int .i64 day] W (RI W R):=⟨wC r p v pv day R W h.h hp.h q.h.1 q.h.2⟩
end Go.Rg
end
