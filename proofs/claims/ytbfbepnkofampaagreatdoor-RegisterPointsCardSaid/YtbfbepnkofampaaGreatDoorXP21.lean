import Derived.Test.YtbfbepnkofampaaGreatDoorXP20
set_option maxRecDepth 100000
set_option synthInstance.maxSize 2000
set_option synthInstance.maxHeartbeats 400000
set_option maxHeartbeats 8000000
set_option linter.all false
section
namespace Go.Rg
open Go Go.Bp Go.RowKit Go.Walk Go.Proofs
def KeysOf(m:List (Right×Int))(K:List Right):Prop:=∀x,x∈m.map Prod.fst↔x∈K
def innerTo(s:Sys)(L:List Right)(r:Right)(j:Nat):List Right:=L.filter fun x=> !(decide (x∈L.take j)&&s.weaker x r)
theorem Na(s:Sys)(L:List Right)(r:Right):innerTo s L r 0=L:=by unfold innerTo;simp
theorem Fh(s:Sys)(L:List Right)(r:Right):innerTo s L r L.length=L.filter fun x=> !s.weaker x r:=by
 unfold innerTo;apply List.filter_congr;intro x hx;simp[List.take_length,hx]
theorem Ar{s:Sys}{L:List Right}{r:Right}{j:Nat}(hj:j<L.length)(y:Right):y∈innerTo s L r (j+1)↔y∈innerTo s L r j∧¬(y=L[j]∧s.weaker L[j] r=true):=by
 unfold innerTo;rw[List.mem_filter,List.mem_filter,List.take_succ_eq_append_getElem hj];simp only[List.mem_append,List.mem_singleton,Bool.not_eq_true',Bool.and_eq_false_iff,decide_eq_false_iff_not];constructor
 ·rintro⟨h1,h2⟩;refine⟨⟨h1,h2.imp (fun h h3=>h (.inl h3)) id⟩,?_⟩
  rintro⟨rfl,h4⟩;rcases h2 with h|h
  ·exact h (.inr rfl)
  ·rw[h4] at h;cases h
 ·rintro⟨⟨h1,h2⟩,h3⟩;refine⟨h1,?_⟩;by_cases e:y=L[j]
  ·right
   cases hw:s.weaker y r
   ·rfl
   ·exact absurd ⟨e,by rw[←e];exact hw⟩ h3
  ·rcases h2 with h|h
   ·exact .inl fun h4=>h4.elim h e
   ·exact .inr h
theorem Kc{m:List (Right×Int)}{K:List Right}(h:KeysOf m K)(x:Right)(v:Int):KeysOf (putL m x v) (K++ [x]):=fun y=>by
 rw[sL,h y];simp only[List.mem_append,List.mem_singleton];exact Or.comm
theorem wZ{m:List (Right×Int)}{K K':List Right}(h:KeysOf m K){x:Right}(h':∀y,y∈K'↔y∈K∧y≠x):KeysOf (delL m x) K':=fun y=>by
 rw[h' y,←h y];have h1:=getL_none (m:=delL m x) (k:=y);rw[Fm] at h1;by_cases e:x=y
 ·subst e;rw[if_pos rfl] at h1;exact⟨fun hm=>absurd hm (h1.1 rfl),fun hm=>absurd rfl hm.2⟩
 ·rw[if_neg e] at h1;have h2:=getL_none (m:=m) (k:=y);have h3:y∉(delL m x).map Prod.fst↔y∉m.map Prod.fst:=h1.symm.trans h2;constructor
  ·intro hm;exact⟨Classical.byContradiction fun hn=>(h3.2 hn) hm,fun e2=>e e2.symm⟩
  ·intro hm;exact Classical.byContradiction fun hn=>(h3.1 hn) hm.1
theorem Ko(m:List (Right×Int))(x:Right):(delL m x).length≤m.length:=List.length_filter_le _ _
theorem Pv(m:List (Right×Int))(x:Right)(v:Int):(putL m x v).length≤m.length+1:=by unfold putL;split<;>simp
theorem yX(s:Sys)(gs n:Nat)(v1 v2 cv v:Value)(l:List Right)(w:World)[hSys:BlkC w gs 177 [v1,v2,cv]][hCov:CovC w cv n s](h:ListV w v l)(hr:∀r∈l,s.rightErr r=0)(hl:l.length≤1000)(hk8:s.codes.length≤8):
 Calls Tryz.prog 130 #[.pointer (some ⟨gs,0,none⟩),v] w (RRw 74 w (s.least l)):=by
 obtain⟨A,c,rfl,q1,q2⟩:=h.form;unfold maxLen at q2;have i0:=ListB.mk h;have Hr:=Lib.hid hr;clear hr;refine dC Tryz.func130 rfl ?_;simp only[Tryz.ntmps130,List.size_toArray,List.length_cons,List.length_nil,Nat.reduceAdd,Nat.reduceSub,Array.replicate_succ,Array.replicate_zero,List.push_toArray,List.append_toArray,List.nil_append,List.cons_append];go_wp2_with (first|(with_reducible refine aH (d:=some 2) ?_;intro V1 g2 hE1 hB2 hA2)|(with_reducible refine iG Right ?_;intro V2 gm hE2 hM hA)|(with_reducible refine aG (uu:=5) ?_;intro V3 g5 hE3 hB5 hA5))
 go_loopw [13] (fun iv wr=>Ext w wr∧Blk wr g2 172 #[.pointer (some ⟨gs,0,none⟩)]∧Blk wr g5 260 #[.map (some gm)]∧∃k:Nat,k≤l.length∧iv=.int .i64 k∧∃m:List (Right×Int),MapL wr gm m∧KeysOf m (l.take k)∧m.length≤k) (fun iv _=>l.length-(RowKit.intOf iv).toNat)
 case atStart=>exact⟨ExtC.h,(inferInstance:BlkC V3 g2 172 _).h,hB5.h,0,by omega,rfl,[],(inferInstance:MapC Right V3 gm []).h,fun x=>by simp,by simp⟩
 case round=>
  obtain⟨hEw,hb2,hb5,k,hk,rfl,m,hm,hK,hml⟩:=hrel;have j1:StepC w wr:=⟨hEw⟩;have j2:BlkC wr g2 172 [.pointer (some ⟨gs,0,none⟩)]:=⟨hb2⟩;have j5:BlkC wr g5 260 [.map (some gm)]:=⟨hb5⟩;have jm:MapC Right wr gm m:=⟨hm⟩;by_cases lk:k<l.length
  ·obtain⟨ad,rfl,hc⟩:=h.elem lk;have hts:=List.take_succ_eq_append_getElem lk;obtain⟨⟨a,b⟩,hx⟩:∃x,l[k]=x:=⟨_,rfl⟩;rw[hx] at hc hts;have j6:CellsB w (ad.add (k*2)) [.int .i64 a,.int .i64 b]:=⟨hc⟩;have zk:IntKind.i64.wrap ((k:Int)+1)=(k:Int)+1:=IntWalk.i64_in _ (by omega)
   have Hts:=Lib.hid hts;have HK:=Lib.hid hK;clear hc hts hx hK hb2 hb5 hm hEw;go_wp2_with (first|(with_reducible refine Cs (κ:=Right) (k:=⟨a,b⟩) (v:=(k:Int)) ?_;intro V hS hM2)|(first|(with_reducible refine aA ?_)|(with_reducible refine aI ?_;intro V _ _)|(with_reducible refine aR ?_;intro V g _ _ _)))
   (try simp only[pS])
   go_roundw
   case rel=>exact⟨ExtC.h,(inferInstance:BlkC V g2 172 _).h,(inferInstance:BlkC V g5 260 _).h,k+1,lk,by push_cast;rfl,_,hM2.h,by rw[Hts.out];exact Kc HK.out _ _,by have:=Pv m ⟨a,b⟩ (k:Int);omega⟩
   case measure=>simp[RowKit.intOf];omega
  ·obtain rfl:k=l.length:=by omega
   rw[List.take_length] at hK;have hord:∀x,x∈s.ordered l↔x∈l:=fun x=>Sys.ordered_mem Hr.out x
   obtain⟨L1,hL1⟩:∃L,s.ordered l=L:=⟨_,rfl⟩;have HL1:=Lib.hid hL1;have iK:KeysE m L1:=⟨by rw[←hL1];exact Sys.ordered_sorted l,fun x=>by rw[←hL1,hord,hK x],by omega⟩
   have Hord:=Lib.hid hord;have HK:=Lib.hid hK;clear hL1 hord hK hb2 hb5 hm hEw;go_wp2_with (first|(with_reducible refine aB ?_;rintro _ V4 ⟨A1,c1,g1,rfl,hB1,hLL1,hE4⟩)|(first|(with_reducible refine aA ?_)))
   have k1:LstC Right V4 (.slice A1 L1.length c1) L1:=⟨hLL1.h⟩;have kA:AtC w g2:=hA2;refine eE (xs:=L1) rfl enters_vals (pH g1 A1 c1 L1) (fun _=>rfl) (fun A B h=>KeepsFrom.ofExt h) ?hSt (fun k W=>Ext w W∧Blk W g2 172 #[.pointer (some ⟨gs,0,none⟩)]∧Blk W g5 260 #[.map (some gm)]∧∃m:List (Right×Int),MapL W gm m∧KeysOf m (s.leftTo l (L1.take k))∧m.length≤1000) (fun _ _ _=>False) ?hI ?hIr ?hIx ?hIxr ?h0 ?hs0 ?hround ?hdone ?hstop
   case hSt=>
    refine cL fun k X Y hc h=> ?_
    have j2:BlkC X g1 48 [.slice A1 L1.length c1]:=⟨h.1⟩;have j3:LstC Right X (.slice A1 L1.length c1) L1:=⟨h.2⟩;exact⟨(inferInstance:BlkC Y g1 48 [.slice A1 L1.length c1]).h,(inferInstance:LstC Right Y (.slice A1 L1.length c1) L1).h⟩
   case hI=>
    refine cL fun k X Y hc h=> ?_
    obtain⟨h1,h2,h3,m2,h4,h5,h6⟩:=h;have j1:StepC w X:=⟨h1⟩;have j2:BlkC X g2 172 [.pointer (some ⟨gs,0,none⟩)]:=⟨h2⟩;have j5:BlkC X g5 260 [.map (some gm)]:=⟨h3⟩;have jm:MapC Right X gm m2:=⟨h4⟩;exact⟨ExtC.h,(inferInstance:BlkC Y g2 172 _).h,(inferInstance:BlkC Y g5 260 _).h,m2,(inferInstance:MapC Right Y gm m2).h,h5,h6⟩
   case hIr=>exact fun k A B ⟨h1,h2,h3,m2,h4,h5⟩h=>⟨h1.trans h,h2.ext h,h3.ext h,m2,h4.ext h,h5⟩
   case hIx=>exact fun _ _ _ _ _ h=>h.elim
   case hIxr=>exact fun _ _ _ _ h=>h.elim
   case h0=>exact⟨ExtC.h,(inferInstance:BlkC V4 g2 172 _).h,(inferInstance:BlkC V4 g5 260 _).h,m,(inferInstance:MapC Right V4 gm m).h,fun x=>by rw[HK.out x,List.take_zero,Sys.leftTo_nil,Hord.out],by omega⟩
   case hs0=>exact⟨hB1.h,k1.h⟩
   case hround=>
    intro lp k hk W hlp hI hS;obtain⟨h1,h2,h3,m2,h4,h5,h6⟩:=hI;obtain⟨hS1,hS2⟩:=hS;have j1:StepC w W:=⟨h1⟩;have j2:BlkC W g2 172 [.pointer (some ⟨gs,0,none⟩)]:=⟨h2⟩;have j5:BlkC W g5 260 [.map (some gm)]:=⟨h3⟩;have jm:MapC Right W gm m2:=⟨h4⟩;have js:BlkC W g1 48 [.slice A1 L1.length c1]:=⟨hS1⟩;have jl:LstC Right W (.slice A1 L1.length c1) L1:=⟨hS2⟩;have hts:=List.take_succ_eq_append_getElem hk;have hmem:L1[k]∈L1:=List.getElem_mem hk;have hrv:s.rightErr L1[k]=0:=Hr.out _ ((Hord.out _).1 (by rw[HL1.out];exact hmem))
    obtain⟨⟨rc,ro⟩,hx⟩:∃x,L1[k]=x:=⟨_,rfl⟩;rw[hx] at hts hrv;obtain⟨L2,hL2⟩:∃L,s.leftTo l (L1.take k)=L:=⟨_,rfl⟩;have iK2:KeysE m2 L2:=⟨by rw[←hL2];exact Sys.leftTo_sorted l _,fun x=>by rw[h5 x,hL2],h6⟩
    have Hts:=Lib.hid hts;have HL2:=Lib.hid hL2;have H5:=Lib.hid h5;have Hrv:=Lib.hid hrv;rw[hx,rAct1];simp only[Enc.val,List.setIfInBounds_toArray,List.set_cons_zero,List.set_cons_succ];clear hx hts hmem hrv hL2 h5 h1 h2 h3 h4 hS1 hS2;gi_wp2_with (first|(refine aK (by rintro⟨_,_,h⟩;exact h) (by kernel_rfl) ?_;go_wp2_with (first|(with_reducible refine aG (uu:=8) ?_;intro V5 g8 hE5 hB8 hA8))))
    refine⟨ExtC.h,fun V6 hc6 hlo=> ?_⟩
    gi_wp2_with (first|(refine aK (by rintro⟨_,_,h⟩;exact h) (by kernel_rfl) ?_;go_wp2_with (first|(with_reducible refine aB ?_;rintro _ V7 ⟨A2,c2,g3,rfl,hB3,hLL2,hE7⟩)|(first|(with_reducible refine aA ?_)))))
    have jo:∃r,V7.heap[lp]? =some (.loop r):=by obtain⟨r,hr⟩:=hlo;exact⟨r,hE7.h.heap_some hr⟩
    obtain⟨r0,hr0⟩:=jo;have k2:LstC Right V7 (.slice A2 L2.length c2) L2:=⟨hLL2.h⟩;have hgm4:gm<V4.heap.size:=(inferInstance:MapC Right V4 gm m).h.lt;have b4:LtB gm V4.heap.size:=⟨hgm4⟩;have b7:LtB gm V7.heap.size:=⟨(inferInstance:MapC Right V7 gm m2).h.lt⟩;refine nV (xs:=L2) hr0 rfl enters_vals (pH g3 A2 c2 L2) (fun _=>rfl) (fun A B h=>KeepsFrom.ofExt h) ?iSt (fun j W=>Ext w W∧Blk W g2 172 #[.pointer (some ⟨gs,0,none⟩)]∧Blk W g5 260 #[.map (some gm)]∧Blk W g8 74 #[.int .i64 rc,.int .i64 ro]∧ValSt g1 A1 c1 L1 0 W∧KeepsFrom V4.heap.size V6 W∧∃m:List (Right×Int),MapL W gm m∧KeysOf m (innerTo s L2 ⟨rc,ro⟩ j)∧m.length≤1000) (fun _ _ _=>False) ?iI ?iIr ?iIx ?iIxr ?i0 ?is0 ?iround ?idone ?istop
    case iSt=>
     refine cL fun k X Y hc h=> ?_
     have j2:BlkC X g3 48 [.slice A2 L2.length c2]:=⟨h.1⟩;have j3:LstC Right X (.slice A2 L2.length c2) L2:=⟨h.2⟩;exact⟨(inferInstance:BlkC Y g3 48 [.slice A2 L2.length c2]).h,(inferInstance:LstC Right Y (.slice A2 L2.length c2) L2).h⟩
    case iI=>
     refine cL fun k X Y hc h=> ?_
     obtain⟨h1,h2,h3,h4,h5,h6,m3,h7,h8,h9⟩:=h;have j1:StepC w X:=⟨h1⟩;have j2:BlkC X g2 172 [.pointer (some ⟨gs,0,none⟩)]:=⟨h2⟩;have j5:BlkC X g5 260 [.map (some gm)]:=⟨h3⟩;have j8:BlkC X g8 74 [.int .i64 rc,.int .i64 ro]:=⟨h4⟩;have js:BlkC X g1 48 [.slice A1 L1.length c1]:=⟨h5.1⟩;have jl:LstC Right X (.slice A1 L1.length c1) L1:=⟨h5.2⟩;have jm:MapC Right X gm m3:=⟨h7⟩;exact⟨ExtC.h,(inferInstance:BlkC Y g2 172 _).h,(inferInstance:BlkC Y g5 260 _).h,(inferInstance:BlkC Y g8 74 _).h,⟨(inferInstance:BlkC Y g1 48 _).h,(inferInstance:LstC Right Y _ L1).h⟩,nQ hc h6 hE7.h.size,m3,(inferInstance:MapC Right Y gm m3).h,h8,h9⟩
    case iIr=>exact fun k A B ⟨h1,h2,h3,h4,h5,h6,m3,h7,h8⟩h=>⟨h1.trans h,h2.ext h,h3.ext h,h4.ext h,⟨h5.1.ext h,h5.2.ext h⟩,h6.trans (KeepsFrom.ofExt h),m3,h7.ext h,h8⟩
    case iIx=>exact fun _ _ _ _ _ h=>h.elim
    case iIxr=>exact fun _ _ _ _ h=>h.elim
    case i0=>exact⟨ExtC.h,(inferInstance:BlkC V7 g2 172 _).h,(inferInstance:BlkC V7 g5 260 _).h,(inferInstance:BlkC V7 g8 74 _).h,⟨(inferInstance:BlkC V7 g1 48 [.slice A1 L1.length c1]).h,(inferInstance:LstC Right V7 (.slice A1 L1.length c1) L1).h⟩,KfC.h,m2,(inferInstance:MapC Right V7 gm m2).h,fun x=>by rw[Na,←HL2.out];exact H5.out x,h6⟩
    case is0=>exact⟨hB3.h,k2.h⟩
    case iround=>
     intro lq j hj W hlq hI hS;obtain⟨h1,h2,h3,h4,h5,hkf,m3,h7,h8,h9⟩:=hI;obtain⟨hS1,hS2⟩:=hS;have j1:StepC w W:=⟨h1⟩;have j2:BlkC W g2 172 [.pointer (some ⟨gs,0,none⟩)]:=⟨h2⟩;have j5:BlkC W g5 260 [.map (some gm)]:=⟨h3⟩;have j8:BlkC W g8 74 [.int .i64 rc,.int .i64 ro]:=⟨h4⟩;have js:BlkC W g1 48 [.slice A1 L1.length c1]:=⟨h5.1⟩;have jl:LstC Right W (.slice A1 L1.length c1) L1:=⟨h5.2⟩;have jm:MapC Right W gm m3:=⟨h7⟩;have jt:BlkC W g3 48 [.slice A2 L2.length c2]:=⟨hS1⟩;have ju:LstC Right W (.slice A2 L2.length c2) L2:=⟨hS2⟩;have jk:KfC V4.heap.size V6 W:=⟨hkf⟩;have hin:=fun y=>Ar (s:=s) (r:=⟨rc,ro⟩) hj y
     have hxm:L2[j]∈L2:=List.getElem_mem hj;have hxv:s.rightErr L2[j]=0:=by
      refine Hr.out _ ((Hord.out _).1 ?_);have h10:L2[j]∈s.leftTo l (L1.take k):=by rw[HL2.out];exact hxm
      exact(List.mem_filter.1 h10).1
     have hxi:=Sys.right_in hxv;have hri:=Sys.right_in Hrv.out;obtain⟨⟨xc,xo⟩,hx⟩:∃x,L2[j]=x:=⟨_,rfl⟩;rw[hx] at hin hxi;simp only at hxi hri;have hp:=eU hk8;obtain⟨xc,rfl⟩:∃n:Nat,xc=(n:Int):=⟨xc.toNat,by omega⟩
     obtain⟨rc,rfl⟩:∃n:Nat,rc=(n:Int):=⟨rc.toNat,by omega⟩
     have hcn:=hCov.h.2;obtain⟨A7,c7,ad7,g7,e7,rfl,x1,x2⟩:=hCov.h.1.at_ (i:=rc) (j:=xc) (by simp;omega) (by omega)
     rw[kT hcn (by omega)] at x2
     have hlen:((List.range n).map fun i:Nat=>s.coverL i).length=n:=by simp
     rw[hlen] at e7;subst e7;have c1':=CellB.mk x1;obtain⟨t,ht⟩:∃t,s.covers rc xc=t:=⟨_,rfl⟩;rw[ht] at x2;have c2':=CellB.mk x2;obtain⟨xo,rfl⟩:∃n:Nat,xo=(n:Int):=⟨xo.toNat,by omega⟩
     obtain⟨ro,rfl⟩:∃n:Nat,ro=(n:Int):=⟨ro.toNat,by omega⟩
     have hsets:=hxi.2.2;have hsetr:=hri.2.2;unfold Sys.sets at hsets hsetr;obtain⟨u,hu⟩:∃u,decide (ro&&&xo=ro)=u:=⟨_,rfl⟩;have hand:(bits .andNot .i64 (ro:Int) (xo:Int)==0)=u:=by rw[xX (by omega) (by omega),hu]
     have hw:s.weaker ⟨(xc:Int),(xo:Int)⟩ ⟨(rc:Int),(ro:Int)⟩=(decide (¬(xc=rc∧xo=ro))&&t&&u):=by
      unfold Sys.weaker;simp only;rw[ht,←hu];congr 2
      apply decide_eq_decide.2;constructor
      ·intro h1 h2;exact h1 (by rw[h2.1,h2.2])
      ·intro h1 h2;injection h2 with h3 h4;exact h1 ⟨by omega,by omega⟩
     rw[hw] at hin;have hxcn:xc<n:=by omega
     have hrcn:rc<n:=by omega
     have Hin:=Lib.hid hin;have H8:=Lib.hid h8;rw[hx,rAct1];simp only[Enc.val,List.setIfInBounds_toArray,List.set_cons_zero,List.set_cons_succ];clear hx hin hxm hxv hxi hri hp hcn x1 x2 ht hu hw hsets hsetr h1 h2 h3 h4 h5 hkf h7 h8 hS1 hS2 hlen;by_cases e:xc=rc∧xo=ro
     ·obtain⟨rfl,rfl⟩:=e;gi_wp2_with (first|(refine aK (by rintro⟨_,_,h⟩;exact h) (by kernel_rfl) ?_;go_wp2_with (first|(with_reducible refine aG (uu:=9) ?_;intro V8 g9 hE8 hB9 hA9))))
      refine⟨ExtC.h,fun V9 hc9=> ?_⟩
      intros
      gi_wp2
      refine fE ((.take 0 (.take 1 (.take 2 (.take 3 (.take 4 (.take 5 (.take 6 (.take 7 (.take 8 (.take 9 (.take 10 (.take 11 (.take 12 (.take 13 (.take 14 (.take 15 (.take 16 (.take 17 (.take 18 (.take 19 (.take 20 (.take 21 (.take 22 (.take 23 (.take 24 .nil)))))))))))))))))))))))))) (fun hHd=> ?_)
      repeat' first|((with_reducible refine aX ?_);(first|(refine tk (v:= ?_) ?_ hHd ?_;rotate_left;(·(intro W' h;have:=StepC.mk h;first|with_reducible exact aJ)))|(refine tk (v:= ?_) ?_ hHd ?_;rotate_left;(·(intro wq hSw;go_simp;(try with_reducible rfl))))|(refine ts hHd ?_));(try simp only[pS]))|(with_reducible refine aF ?_)
      gi_wp2_with (first|(refine aK (by rintro⟨_,_,h⟩;exact h) (by kernel_rfl) ?_;go_wp2))
      refine⟨KfC.h,⟨ExtC.h,(inferInstance:BlkC _ g2 172 _).h,(inferInstance:BlkC _ g5 260 _).h,(inferInstance:BlkC _ g8 74 _).h,⟨(inferInstance:BlkC _ g1 48 [.slice A1 L1.length c1]).h,(inferInstance:LstC Right _ (.slice A1 L1.length c1) L1).h⟩,KfC.h,m3,(inferInstance:MapC Right _ gm m3).h,fun y=>(H8.out y).trans ?_,h9⟩,⟨(inferInstance:BlkC _ g3 48 [.slice A2 L2.length c2]).h,(inferInstance:LstC Right _ (.slice A2 L2.length c2) L2).h⟩⟩
      rw[Hin.out y];simp
     have E:=Lib.hid e;by_cases e1:xc=rc
     ·subst e1;have e2:¬xo=ro:=fun h=>e ⟨rfl,h⟩
      have q1:((xo:Int)==(ro:Int))=false:=by simp;omega
      clear e
      cases t
      ·skip
       gi_wp2_with (first|(refine aK (by rintro⟨_,_,h⟩;exact h) (by kernel_rfl) ?_;go_wp2_with (first|(with_reducible refine aG (uu:=9) ?_;intro V8 g9 hE8 hB9 hA9))))
       refine⟨ExtC.h,fun V9 hc9=> ?_⟩
       intros
       gi_wp2
       refine fE ((.take 0 (.take 1 (.take 2 (.take 3 (.take 4 (.take 5 (.take 6 (.take 7 (.take 8 (.take 9 (.take 10 (.take 11 (.take 12 (.take 13 (.take 14 (.take 15 (.take 16 (.take 17 (.take 18 (.take 19 (.take 20 (.take 21 (.take 22 (.take 23 (.take 24 .nil)))))))))))))))))))))))))) (fun hHd=> ?_)
       repeat' first|((with_reducible refine aX ?_);(first|(refine tk (v:= ?_) ?_ hHd ?_;rotate_left;(·(intro W' h;have:=StepC.mk h;first|with_reducible exact aJ)))|(refine tk (v:= ?_) ?_ hHd ?_;rotate_left;(·(intro wq hSw;go_simp;(try with_reducible rfl))))|(refine tw (v:= ?_) ?_ hHd ?_;rotate_left;(·(intro W' h;have:=StepC.mk h;first|with_reducible exact aJ)))|(refine tw (v:= ?_) ?_ hHd ?_;rotate_left;(·(intro wq hSw;go_simp;(try with_reducible rfl))))|(refine ts hHd ?_));(try simp only[pS]))|(with_reducible refine aF ?_)
       gi_wp2_with (first|(refine aK (by rintro⟨_,_,h⟩;exact h) (by kernel_rfl) ?_;go_wp2))
       refine⟨KfC.h,⟨ExtC.h,(inferInstance:BlkC _ g2 172 _).h,(inferInstance:BlkC _ g5 260 _).h,(inferInstance:BlkC _ g8 74 _).h,⟨(inferInstance:BlkC _ g1 48 [.slice A1 L1.length c1]).h,(inferInstance:LstC Right _ (.slice A1 L1.length c1) L1).h⟩,KfC.h,m3,(inferInstance:MapC Right _ gm m3).h,fun y=>(H8.out y).trans ?_,h9⟩,⟨(inferInstance:BlkC _ g3 48 [.slice A2 L2.length c2]).h,(inferInstance:LstC Right _ (.slice A2 L2.length c2) L2).h⟩⟩
       rw[Hin.out y];simp
      ·cases u
       ·skip
        gi_wp2_with (first|(refine aK (by rintro⟨_,_,h⟩;exact h) (by kernel_rfl) ?_;go_wp2_with (first|(with_reducible refine aG (uu:=9) ?_;intro V8 g9 hE8 hB9 hA9))))
        refine⟨ExtC.h,fun V9 hc9=> ?_⟩
        intros
        gi_wp2
        refine fE ((.take 0 (.take 1 (.take 2 (.take 3 (.take 4 (.take 5 (.take 6 (.take 7 (.take 8 (.take 9 (.take 10 (.take 11 (.take 12 (.take 13 (.take 14 (.take 15 (.take 16 (.take 17 (.take 18 (.take 19 (.take 20 (.take 21 (.take 22 (.take 23 (.take 24 .nil)))))))))))))))))))))))))) (fun hHd=> ?_)
        repeat' first|((with_reducible refine aX ?_);(first|(refine tk (v:= ?_) ?_ hHd ?_;rotate_left;(·(intro W' h;have:=StepC.mk h;first|with_reducible exact aJ)))|(refine tk (v:= ?_) ?_ hHd ?_;rotate_left;(·(intro wq hSw;go_simp;(try with_reducible rfl))))|(refine tw (v:= ?_) ?_ hHd ?_;rotate_left;(·(intro W' h;have:=StepC.mk h;first|with_reducible exact aJ)))|(refine tw (v:= ?_) ?_ hHd ?_;rotate_left;(·(intro wq hSw;go_simp;(try with_reducible rfl)))));(try simp only[pS]))|(with_reducible refine aF ?_)
        gi_wp2_with (first|(refine aK (by rintro⟨_,_,h⟩;exact h) (by kernel_rfl) ?_;go_wp2))
        refine⟨KfC.h,⟨ExtC.h,(inferInstance:BlkC _ g2 172 _).h,(inferInstance:BlkC _ g5 260 _).h,(inferInstance:BlkC _ g8 74 _).h,⟨(inferInstance:BlkC _ g1 48 [.slice A1 L1.length c1]).h,(inferInstance:LstC Right _ (.slice A1 L1.length c1) L1).h⟩,KfC.h,m3,(inferInstance:MapC Right _ gm m3).h,fun y=>(H8.out y).trans ?_,h9⟩,⟨(inferInstance:BlkC _ g3 48 [.slice A2 L2.length c2]).h,(inferInstance:LstC Right _ (.slice A2 L2.length c2) L2).h⟩⟩
        rw[Hin.out y];simp
       ·skip
        gi_wp2_with (first|(refine aK (by rintro⟨_,_,h⟩;exact h) (by kernel_rfl) ?_;go_wp2_with (first|(with_reducible refine aG (uu:=9) ?_;intro V8 g9 hE8 hB9 hA9))))
        refine⟨ExtC.h,fun V9 hc9=> ?_⟩
        intros
        gi_wp2
        refine fE ((.take 0 (.take 1 (.take 2 (.take 3 (.take 4 (.take 5 (.take 6 (.take 7 (.take 8 (.take 9 (.take 10 (.take 11 (.take 12 (.take 13 (.take 14 (.take 15 (.take 16 (.take 17 (.take 18 (.take 19 (.take 20 (.take 21 (.take 22 (.take 23 (.take 24 .nil)))))))))))))))))))))))))) (fun hHd=> ?_)
        repeat' first|((with_reducible refine aX ?_);(first|(refine tk (v:= ?_) ?_ hHd ?_;rotate_left;(·(intro W' h;have:=StepC.mk h;first|with_reducible exact aJ)))|(refine tk (v:= ?_) ?_ hHd ?_;rotate_left;(·(intro wq hSw;go_simp;(try with_reducible rfl))))|(refine tw (v:= ?_) ?_ hHd ?_;rotate_left;(·(intro W' h;have:=StepC.mk h;first|with_reducible exact aJ)))|(refine tw (v:= ?_) ?_ hHd ?_;rotate_left;(·(intro wq hSw;go_simp;(try with_reducible rfl)))));(try simp only[pS]))|(with_reducible refine aF ?_)
        gi_wp2_with (first|(refine aK (by rintro⟨_,_,h⟩;exact h) (by kernel_rfl) ?_;go_wp2_with (first|(with_reducible refine Pc (κ:=Right) (k:=⟨(xc:Int),(xo:Int)⟩) ?_;intro V hS hM2)|(first|(with_reducible refine aA ?_)))))
        have key:∀y,y∈innerTo s L2 ⟨(xc:Int),(ro:Int)⟩ (j+1)↔y∈innerTo s L2 ⟨(xc:Int),(ro:Int)⟩ j∧y≠⟨(xc:Int),(xo:Int)⟩:=fun y=>by
         rw[Hin.out y];refine and_congr_right fun _=>not_congr ⟨fun h=>h.1,fun h=>⟨h,by rw[Bool.and_true,Bool.and_true];exact decide_eq_true E.out⟩⟩
        exact⟨KfC.h,⟨ExtC.h,(inferInstance:BlkC _ g2 172 _).h,(inferInstance:BlkC _ g5 260 _).h,(inferInstance:BlkC _ g8 74 _).h,⟨(inferInstance:BlkC _ g1 48 [.slice A1 L1.length c1]).h,(inferInstance:LstC Right _ (.slice A1 L1.length c1) L1).h⟩,KfC.h,_,hM2.h,wZ H8.out key,Nat.le_trans (Ko _ _) h9⟩,⟨(inferInstance:BlkC _ g3 48 [.slice A2 L2.length c2]).h,(inferInstance:LstC Right _ (.slice A2 L2.length c2) L2).h⟩⟩
     ·have q1:((xc:Int)==(rc:Int))=false:=by simp;omega
      clear e
      cases t
      ·skip
       gi_wp2_with (first|(refine aK (by rintro⟨_,_,h⟩;exact h) (by kernel_rfl) ?_;go_wp2_with (first|(with_reducible refine aG (uu:=9) ?_;intro V8 g9 hE8 hB9 hA9))))
       refine⟨ExtC.h,fun V9 hc9=> ?_⟩
       intros
       gi_wp2
       refine fE ((.take 0 (.take 1 (.take 2 (.take 3 (.take 4 (.take 5 (.take 6 (.take 7 (.take 8 (.take 9 (.take 10 (.take 11 (.take 12 (.take 13 (.take 14 (.take 15 (.take 16 (.take 17 (.take 18 (.take 19 (.take 20 (.take 21 (.take 22 (.take 23 (.take 24 .nil)))))))))))))))))))))))))) (fun hHd=> ?_)
       repeat' first|((with_reducible refine aX ?_);(first|(refine tk (v:= ?_) ?_ hHd ?_;rotate_left;(·(intro W' h;have:=StepC.mk h;first|with_reducible exact aJ)))|(refine tk (v:= ?_) ?_ hHd ?_;rotate_left;(·(intro wq hSw;go_simp;(try with_reducible rfl))))|(refine tw (v:= ?_) ?_ hHd ?_;rotate_left;(·(intro W' h;have:=StepC.mk h;first|with_reducible exact aJ)))|(refine tw (v:= ?_) ?_ hHd ?_;rotate_left;(·(intro wq hSw;go_simp;(try with_reducible rfl))))|(refine ts hHd ?_));(try simp only[pS]))|(with_reducible refine aF ?_)
       gi_wp2_with (first|(refine aK (by rintro⟨_,_,h⟩;exact h) (by kernel_rfl) ?_;go_wp2))
       refine⟨KfC.h,⟨ExtC.h,(inferInstance:BlkC _ g2 172 _).h,(inferInstance:BlkC _ g5 260 _).h,(inferInstance:BlkC _ g8 74 _).h,⟨(inferInstance:BlkC _ g1 48 [.slice A1 L1.length c1]).h,(inferInstance:LstC Right _ (.slice A1 L1.length c1) L1).h⟩,KfC.h,m3,(inferInstance:MapC Right _ gm m3).h,fun y=>(H8.out y).trans ?_,h9⟩,⟨(inferInstance:BlkC _ g3 48 [.slice A2 L2.length c2]).h,(inferInstance:LstC Right _ (.slice A2 L2.length c2) L2).h⟩⟩
       rw[Hin.out y];simp
      ·cases u
       ·skip
        gi_wp2_with (first|(refine aK (by rintro⟨_,_,h⟩;exact h) (by kernel_rfl) ?_;go_wp2_with (first|(with_reducible refine aG (uu:=9) ?_;intro V8 g9 hE8 hB9 hA9))))
        refine⟨ExtC.h,fun V9 hc9=> ?_⟩
        intros
        gi_wp2
        refine fE ((.take 0 (.take 1 (.take 2 (.take 3 (.take 4 (.take 5 (.take 6 (.take 7 (.take 8 (.take 9 (.take 10 (.take 11 (.take 12 (.take 13 (.take 14 (.take 15 (.take 16 (.take 17 (.take 18 (.take 19 (.take 20 (.take 21 (.take 22 (.take 23 (.take 24 .nil)))))))))))))))))))))))))) (fun hHd=> ?_)
        repeat' first|((with_reducible refine aX ?_);(first|(refine tk (v:= ?_) ?_ hHd ?_;rotate_left;(·(intro W' h;have:=StepC.mk h;first|with_reducible exact aJ)))|(refine tk (v:= ?_) ?_ hHd ?_;rotate_left;(·(intro wq hSw;go_simp;(try with_reducible rfl))))|(refine tw (v:= ?_) ?_ hHd ?_;rotate_left;(·(intro W' h;have:=StepC.mk h;first|with_reducible exact aJ)))|(refine tw (v:= ?_) ?_ hHd ?_;rotate_left;(·(intro wq hSw;go_simp;(try with_reducible rfl)))));(try simp only[pS]))|(with_reducible refine aF ?_)
        gi_wp2_with (first|(refine aK (by rintro⟨_,_,h⟩;exact h) (by kernel_rfl) ?_;go_wp2))
        refine⟨KfC.h,⟨ExtC.h,(inferInstance:BlkC _ g2 172 _).h,(inferInstance:BlkC _ g5 260 _).h,(inferInstance:BlkC _ g8 74 _).h,⟨(inferInstance:BlkC _ g1 48 [.slice A1 L1.length c1]).h,(inferInstance:LstC Right _ (.slice A1 L1.length c1) L1).h⟩,KfC.h,m3,(inferInstance:MapC Right _ gm m3).h,fun y=>(H8.out y).trans ?_,h9⟩,⟨(inferInstance:BlkC _ g3 48 [.slice A2 L2.length c2]).h,(inferInstance:LstC Right _ (.slice A2 L2.length c2) L2).h⟩⟩
        rw[Hin.out y];simp
       ·skip
        gi_wp2_with (first|(refine aK (by rintro⟨_,_,h⟩;exact h) (by kernel_rfl) ?_;go_wp2_with (first|(with_reducible refine aG (uu:=9) ?_;intro V8 g9 hE8 hB9 hA9))))
        refine⟨ExtC.h,fun V9 hc9=> ?_⟩
        intros
        gi_wp2
        refine fE ((.take 0 (.take 1 (.take 2 (.take 3 (.take 4 (.take 5 (.take 6 (.take 7 (.take 8 (.take 9 (.take 10 (.take 11 (.take 12 (.take 13 (.take 14 (.take 15 (.take 16 (.take 17 (.take 18 (.take 19 (.take 20 (.take 21 (.take 22 (.take 23 (.take 24 .nil)))))))))))))))))))))))))) (fun hHd=> ?_)
        repeat' first|((with_reducible refine aX ?_);(first|(refine tk (v:= ?_) ?_ hHd ?_;rotate_left;(·(intro W' h;have:=StepC.mk h;first|with_reducible exact aJ)))|(refine tk (v:= ?_) ?_ hHd ?_;rotate_left;(·(intro wq hSw;go_simp;(try with_reducible rfl))))|(refine tw (v:= ?_) ?_ hHd ?_;rotate_left;(·(intro W' h;have:=StepC.mk h;first|with_reducible exact aJ)))|(refine tw (v:= ?_) ?_ hHd ?_;rotate_left;(·(intro wq hSw;go_simp;(try with_reducible rfl)))));(try simp only[pS]))|(with_reducible refine aF ?_)
        gi_wp2_with (first|(refine aK (by rintro⟨_,_,h⟩;exact h) (by kernel_rfl) ?_;go_wp2_with (first|(with_reducible refine Pc (κ:=Right) (k:=⟨(xc:Int),(xo:Int)⟩) ?_;intro V hS hM2)|(first|(with_reducible refine aA ?_)))))
        have key:∀y,y∈innerTo s L2 ⟨(rc:Int),(ro:Int)⟩ (j+1)↔y∈innerTo s L2 ⟨(rc:Int),(ro:Int)⟩ j∧y≠⟨(xc:Int),(xo:Int)⟩:=fun y=>by
         rw[Hin.out y];refine and_congr_right fun _=>not_congr ⟨fun h=>h.1,fun h=>⟨h,by rw[Bool.and_true,Bool.and_true];exact decide_eq_true E.out⟩⟩
        exact⟨KfC.h,⟨ExtC.h,(inferInstance:BlkC _ g2 172 _).h,(inferInstance:BlkC _ g5 260 _).h,(inferInstance:BlkC _ g8 74 _).h,⟨(inferInstance:BlkC _ g1 48 [.slice A1 L1.length c1]).h,(inferInstance:LstC Right _ (.slice A1 L1.length c1) L1).h⟩,KfC.h,_,hM2.h,wZ H8.out key,Nat.le_trans (Ko _ _) h9⟩,⟨(inferInstance:BlkC _ g3 48 [.slice A2 L2.length c2]).h,(inferInstance:LstC Right _ (.slice A2 L2.length c2) L2).h⟩⟩
    case idone=>
     intro W hI;obtain⟨h1,h2,h3,h4,h5,hkf,m3,h7,h8,h9⟩:=hI;refine⟨hkf,⟨h1,h2,h3,m3,h7,fun y=>(h8 y).trans ?_,h9⟩,h5⟩
     rw[Fh,Hts.out,Sys.leftTo_snoc,HL2.out]
    case istop=>exact fun _ _ _ _ h=>h.elim
   case hdone=>
    intro D W hD hI hk;obtain⟨h1,h2,h3,m2,h4,h5,h6⟩:=hI;have j1:StepC w W:=⟨h1⟩;have j2:BlkC W g2 172 [.pointer (some ⟨gs,0,none⟩)]:=⟨h2⟩;have j5:BlkC W g5 260 [.map (some gm)]:=⟨h3⟩;have jm:MapC Right W gm m2:=⟨h4⟩;obtain⟨L3,hL3⟩:∃L,s.least l=L:=⟨_,rfl⟩;have hkk:s.leftTo l (L1.take L1.length)=L3:=by rw[List.take_length,←HL1.out,Sys.leftTo_all,hL3]
    have iK3:KeysE m2 L3:=⟨by rw[←hkk];exact Sys.leftTo_sorted l _,fun x=>by rw[h5 x,hkk],h6⟩
    have iL3:LenC L3:=⟨by
     have:=hkk▸Sys.leftTo_sorted l (L1.take L1.length);have h7:L3.length≤l.length:=by rw[←hL3];exact Sys.least_len Hr.out
     omega⟩
    have HL3:=Lib.hid hL3;clear h1 h2 h3 h4 h5 hkk hL3;go_wp2_with (first|(with_reducible refine aB ?_;first|rintro _ V ⟨A8,c8,g8,rfl,hB8,hL8,(_:StepC _ _)⟩|rintro _ V ⟨A9,c9,B9,rfl,hL9,(_:StepC _ _)⟩)|(first|(with_reducible refine aA ?_)))
    have j9:CtlC V (V.putObj D (.deferred none)) w:=gI ((ExtC.h:Ext W V).heap_some hk) (by have:=(ExtC.h:Ext w V4).size;omega)
    refine iW rfl ((ExtC.h:Ext W V).heap_some hk) ?_;have e:=HL3.out;subst e;go_ret
    exact⟨A9,c9,B9,rfl,(inferInstance:RowC _ (.slice A9 (s.least l).length c9) B9 74 _ _ _),⟨ExtC.h⟩⟩
   case hstop=>exact fun _ _ _ _ _ _ h=>h.elim
class LeastE (s:Sys) (l:List Right) (m:outParam (List Right)) (r:outParam Int):Prop where h:s.leastAns l=(m,r)
class FormE (s:outParam Sys) (l:List Right) (m:outParam (List Right)):Prop where h:((∀r∈l,s.rightErr r=0)∧l.length≤1000∧s.codes.length≤8)∧s.least l=m
instance{W:World}{gs n:Nat}{v1 v2 cv v:Value}{s:Sys}{l m:List Right}[hSys:BlkC W gs 177 [v1,v2,cv]][hCov:CovC W cv n s][h:ListC Right W v l][q:FormE s l m]:FunC Tryz.prog 130 #[.pointer (some ⟨gs,0,none⟩),v] W (RRw 74 W m):=⟨by
 rw[←q.h.2];exact yX s gs n v1 v2 cv v l W h.h q.h.1.1 q.h.1.2.1 q.h.1.2.2⟩
abbrev RLR{α:Type}[Enc α](t:TypeId)(W:World)(l:List α)(n:Int)(e:Ending)(W':World):Prop:=∃A c B,e=.returned (.tuple #[.slice A l.length c,.int .i64 n])∧RowC W' (.slice A l.length c) B t (Enc.size α) l.length (encL l)∧StepC W W'
theorem Gp(s:Sys)(v lv:Value)(l m:List Right)(r:Int)(w:World)(h:SysV w v s)(hl:ListV w lv l)(hm:s.leastAns l=(m,r)):Calls Tryz.prog 71 #[v,lv] w (RLR 74 w m r):=by
 obtain⟨A,_,k,A',k',rfl,rfl,-⟩:=h.h;obtain⟨B,kb,rfl,-⟩:=hl.form;have i1:=SysB.mk h;have i2:=ListB.mk hl;unfold Sys.leastAns at hm;obtain⟨ra,hra⟩:∃x,s.asked l=x:=⟨_,rfl⟩;rw[hra] at hm;by_cases hz:ra=0
 ·subst hz;have i3:AskOk s l:=⟨hra⟩;have hok:=Hw hra;have hrs:=sJ (mV hra).2;rw[if_neg (by simp)] at hm
  injection hm with m1 m2
  subst m2;have i5:FormE s l m:=⟨⟨hrs.1,by have:=hrs.2;omega,hok.c⟩,m1⟩
  clear hra hok m1;go_enter Tryz.func71,Tryz.ntmps71
  go_wp2_with (first|(with_reducible refine aB ?_;rintro _ V ⟨A9,c9,B9,rfl,hL9,(_:StepC _ _)⟩)|(first|(with_reducible refine aA ?_)|(with_reducible refine aB ?_;first|rintro _ V ⟨gp,Ap,kp,Aq,kq,cv,rfl,_,_,_,_,(_:StepC _ _)⟩)|(with_reducible refine aH ?_;intro V g _ _ _)|(with_reducible refine aD ?_;intro V g _ _ _)))
  go_ret2
  exact⟨A9,c9,B9,rfl,hL9,⟨ExtC.h⟩⟩
 ·have i3:AskBad s l ra:=⟨hra,hz⟩;rw[if_pos hz] at hm;injection hm with m1 m2
  subst m1 m2;have q1:(ra !=0)=true:=by simpa using hz
  clear hra;go_enter Tryz.func71,Tryz.ntmps71
  go_wp2_with (first|(with_reducible refine aA ?_)|(with_reducible refine aB ?_;first|rintro _ V ⟨pv,rfl,(_:StepC _ _)⟩)|(with_reducible refine aH ?_;intro V g _ _ _)|(with_reducible refine aD ?_;intro V g _ _ _))
  go_ret2
  exact⟨none,0,w,rfl,RowC.nil,⟨ExtC.h⟩⟩
instance{W:World}{v lv:Value}{s:Sys}{l m:List Right}{r:Int}[h:SysC W v s][hl:ListC Right W lv l][q:LeastE s l m r]:FunC Tryz.prog 71 #[v,lv] W (RLR 74 W m r):=⟨Gp s v lv l m r W h.h hl.h q.h⟩
class SysOk (s:Sys):Prop where h:s.check=(0,0,0)
theorem uQ{s:Sys}(h:s.check=(0,0,0))(x:Right):s.asked [x]=s.rightErr x:=by
 unfold Sys.asked Sys.rightsErr;rw[h,if_neg (by simp),if_neg (by simp)]
 by_cases hx:s.rightErr x=0
 ·rw[bU (fun i hi=>by simp at hi;subst hi;exact hx),hx]
 ·rw[cN (k:=0) (by simp) (by simpa using hx) (fun i hi=>by omega)];rfl
instance{W:World}{g:Nat}{t:TypeId}{a b:Int}[h:BlkC W g t [.int .i64 a,.int .i64 b]]:ListC Right W (.slice (some ⟨g,0,none⟩) 1 1) [⟨a,b⟩]:=⟨ListV.blk h.h rfl rfl (by simp[maxLen])⟩
class RightE (s:Sys) (x:Right) (r:outParam Int):Prop where h:s.rightErr x=r
theorem Ee(r:Rules)(v:Value)(a b e:Int)(w:World)(h:RulesV w v r)(h0:r.sys.check=(0,0,0))(hr:r.sys.rightErr ⟨a,b⟩=e):Calls Tryz.prog 106 #[v,.agg #[.int .i64 a,.int .i64 b]] w (RI w e):=by
 obtain⟨A,n,c,A',c',A2,c2,rfl,rfl,-⟩:=h.h;have i1:=SysB.mk h.sys;obtain⟨⟨m,e'⟩,hm⟩:∃x,r.sys.leastAns [⟨a,b⟩]=x:=⟨_,rfl⟩;have he:e'=e:=by
  have:=uQ h0 ⟨a,b⟩;unfold Sys.leastAns at hm;rw[this,hr] at hm;split at hm<;>injection hm with h1 h2
  ·exact h2.symm
  ·rename_i h3;simp at h3;rw[h3,←h2]
 subst he;have i2:=LeastE.mk hm;clear hm hr h0;go_enter Tryz.func106,Tryz.ntmps106
 go_wp2_with (first|(with_reducible refine aA ?_)|(with_reducible refine aB ?_;first|rintro _ V ⟨_,_,_,rfl,(_:RowC _ _ _ _ _ _ _),(_:StepC _ _)⟩)|(with_reducible refine aH ?_;intro V g _ _ _)|(with_reducible refine aD ?_;intro V g _ _ _))
 go_ret
 exact⟨rfl,⟨ExtC.h⟩⟩
instance{W:World}{v:Value}{r:Rules}{a b e:Int}[h:RulesC W v r][h0:SysOk r.sys][q:RightE r.sys ⟨a,b⟩ e]:FunC Tryz.prog 106 #[v,.agg #[.int .i64 a,.int .i64 b]] W (RI W e):=⟨Ee r v a b e W h.h h0.h q.h⟩
instance{W:World}{g t:Nat}{s:ByteArray}{v1 v2 v3 v4:Value}{l:List Treaty}[h:BlkC W g t [.string s,v1,v2,v3,v4]]:PredC Treaty W (.func (.func 105) #[] #[.pointer (some ⟨g,0,none⟩)]) l (fun x=>decide (x.name=s)):=
 ⟨_,_,rfl,enters_of Tryz.func105 (by kernel_rfl) rfl,fun x hx W' hE=>by
  have i1:BlkC W' g t [.string s,v1,v2,v3,v4]:=⟨h.h.ext hE⟩;obtain⟨nm,⟨rc,ro⟩,dl,dh⟩:=x;have go:Calls Tryz.prog 105 #[.agg #[.string nm,.int .i64 rc,.int .i64 ro,.int .i64 dl,.int .i64 dh],.pointer (some ⟨g,0,none⟩)] W' (RB W' (decide (nm=s))):=by
   obtain⟨b,hb⟩:∃b,decide (nm=s)=b:=⟨_,rfl⟩;have hb2:=tE nm s;rw[hb] at hb2;rw[hb];clear hb;go_enter Tryz.func105,Tryz.ntmps105
   go_wp2_with (first|(with_reducible refine aA ?_)|(with_reducible refine aH ?_;intro V g _ _ _))
   go_ret
   exact⟨by first|rfl,⟨ExtC.h⟩⟩
  exact go.mono fun e W2 ⟨h,hE⟩=>⟨h,hE.h⟩⟩
theorem yS(r:Rules)(v:Value)(i:Nat)(nm:ByteArray)(a b lo hi:Int)(w:World)(h:RulesV w v r)(h0:r.sys.check=(0,0,0))(hi0:i<r.treaties.length)(hz:nm.size≤maxLen):
 Calls Tryz.prog 56 #[v,.int .i64 i,.agg #[.string nm,.int .i64 a,.int .i64 b,.int .i64 lo,.int .i64 hi]] w (RI w (r.treatyErr i ⟨nm,⟨a,b⟩,⟨lo,hi⟩⟩)):=by
 obtain⟨A,n,c,A',c',A2,c2,rfl,hn,h1,h2,h3⟩:=h.h;subst hn;have i1:=RulesB.mk h;have i2:=ListB.mk (h3.upto (k:=i) (by omega))
 have hcap:=h3.caps.2;have i3:SysOk r.sys:=⟨h0⟩;have i4:=SzC.mk hz;obtain⟨e,he⟩:∃e,r.sys.rightErr ⟨a,b⟩=e:=⟨_,rfl⟩;have i5:=RightE.mk he;obtain⟨d1,e1⟩:∃d,isName nm= !d:=⟨!isName nm,by simp⟩
 obtain⟨d2,e2⟩:∃d,((r.treaties.take i).any fun x=>decide (x.name=nm))=d:=⟨_,rfl⟩
 obtain⟨d3,e3⟩:∃d,(e !=0)=d:=⟨_,rfl⟩;obtain⟨d4,e4⟩:∃d,outB 0 40000 [lo,hi]=d:=⟨_,rfl⟩;obtain⟨d5,e5⟩:∃d,decide (hi<lo)=d:=⟨_,rfl⟩;have E:r.treatyErr i ⟨nm,⟨a,b⟩,⟨lo,hi⟩⟩=firstT [(d1,6),(d2,5),(d3,e),(d4,7),(d5,2)] 0:=by
  unfold Rules.treatyErr;simp only[he,e1,e2];rw[zT] at e4;have e3':(e≠0)=(d3=true):=by rw[←e3];simp
  have e5':(hi<lo)=(d5=true):=by rw[←e5];simp
  have e4':(inB lo 0 40000=false∨inB hi 0 40000=false)=(d4=true):=by rw[←e4];simp
  simp only[e3',e4',e5'];clear e1 e2 e3 e4 e5 e3' e4' e5'
  cases d1<;>cases d2<;>cases d3<;>cases d4<;>cases d5<;>rfl
 rw[E];have hic:i≤c2:=by omega
 clear E he h0 hcap h h1 h2 h3;go_enter Tryz.func56,Tryz.ntmps56
 go_wp2_with (first|(with_reducible refine aA ?_)|(with_reducible refine aB ?_;first|rintro _ V ⟨rfl,(_:StepC _ _)⟩)|(with_reducible refine aH ?_;intro V g _ _ _)|(with_reducible refine aD ?_;intro V g _ _ _))
 all_goals(try(go_ret;refine⟨?_,⟨ExtC.h⟩⟩;first|(simp only[*];rfl)))
end Go.Rg
end
