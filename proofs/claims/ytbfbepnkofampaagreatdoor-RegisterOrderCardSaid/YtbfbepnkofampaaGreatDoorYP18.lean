/- Chapter 11: contracts of functions of the program and of the reference, and plain laws (out of RUb RS RUc RUd). No condition of its own. -/
import Derived.Lib.LazyBuf
import Derived.Test.YtbfbepnkofampaaGreatDoorYP17
set_option maxRecDepth 100000
set_option linter.all false
section
namespace Go.Rg
open Go Go.Bp Go.RowKit Go.Walk Go.Proofs
set_option synthInstance.maxSize 2000
set_option synthInstance.maxHeartbeats 400000
set_option maxHeartbeats 4000000
theorem enters_vals:∀(args:Array Value)(W:World),(callFunc 280 args).run Tryz.prog W=.ok (.enter 280 args) W:=enters_of Tryz.func280 (by kernel_rfl) rfl
def ValSt(g1:Nat)(A:Option Addr)(c:Nat)(L:List Right)(_:Nat)(W:World):Prop:=Blk W g1 48 #[.slice A L.length c]∧ListV W (.slice A L.length c) L
theorem vals_seq(g1:Nat)(A:Option Addr)(c:Nat)(L:List Right):SeqG Tryz.prog 280 #[.pointer (some ⟨g1,0,none⟩)] L (fun x=>#[Enc.val x]) Ext (ValSt g1 A c L):=by
 intro l J Jx W hJ hJx hY h0 hs0;show Calls Tryz.prog 280 #[.func (.yield l) #[] #[],.pointer (some ⟨g1,0,none⟩)] W _
 have i1:BlkC W g1 48 [.slice A L.length c]:=⟨hs0.1⟩;have hcap:=hs0.2.caps;have HJ:=Lib.hid hJ;have HY:=Lib.hid hY;have HS:=Lib.hid hs0;clear hJ hY hs0;go_enter Tryz.func280,Tryz.ntmps280
 obtain⟨hc,hChid⟩:∃f:Nat→Array Oper→Bool→Go.Code,f=Go.Code.region:=⟨_,rfl⟩;rw[show Go.Code.region 3=hc 3 by rw[hChid]]
 have HCh:=Lib.hid hChid;clear hChid;go_wp2_with (first|(with_reducible refine load_c ?_))
 go_loopw [7] (fun iv wr=>∃k:Nat,k≤L.length∧iv=.int .i64 k∧J k wr∧ValSt g1 A c L k wr) (fun iv _=>L.length-(RowKit.intOf iv).toNat)
 case atStart=>exact⟨0,by omega,rfl,h0,HS.out⟩
 case round=>
  obtain⟨k,hk,rfl,hJ1,hS1,hL1⟩:=hrel;clear h0;by_cases lk:k<L.length
  ·obtain⟨ad,rfl,hc⟩:=hL1.elem lk;have hy:=fun W1=>HY.out k lk W1
   obtain⟨⟨a,b⟩,hx⟩:∃x,L[k]=x:=⟨_,rfl⟩;rw[hx] at hc hy;have i2:BlkC wr g1 48 [.slice (some ad) L.length c]:=⟨hS1⟩;have i3:CellsB wr (ad.add (k*2)) [.int .i64 a,.int .i64 b]:=⟨hc⟩;have zk:IntKind.i64.wrap ((k:Int)+1)=(k:Int)+1:=IntWalk.i64_in _ (by omega)
   have Hy:=Lib.hid hy;have HS1:=Lib.hid (show∀W1,Ext wr W1→ValSt g1 (some ad) c L k W1 from fun W1 h=>⟨hS1.ext h,hL1.ext h⟩)
   have HJ1:=Lib.hid (show∀W1,Ext wr W1→J k W1 from fun W1 h=>HJ.out _ _ _ hJ1 h)
   clear hc hx hy hJ1 hL1 hS1;go_wp2_with (first|(with_reducible refine load_c ?_)|(with_reducible refine newvar_c ?_;intro V g _ _ _))
   have hChid:=HCh.out;clear HCh;subst hChid;refine region_w ?_;gi_wp2_with (first|(with_reducible refine load_w ?_)|(with_reducible refine yield_w (Hy.out _ (HJ1.out _ ExtC.h) (HS1.out _ ExtC.h)) ?_;rintro _ W5 (⟨rfl,hJ5,hS5⟩|⟨rfl,hJx5⟩);(all_goals refine⟨_,rfl,?_⟩)))
   ·go_wp2
    exact⟨⟨k+1,lk,by push_cast;rfl,hJ5,hS5⟩,by simp[RowKit.intOf];omega⟩
   ·go_wp2
    (first|refine bodyPost_ret (results_none rfl _ _ _) (by rfl) ?_)
    exact⟨⟨_,rfl⟩,.inr ⟨k+1,lk,hJx5⟩⟩
  ·obtain rfl:k=L.length:=by omega
   go_wp2
   (first|refine bodyPost_end (results_none rfl _ _ _) (by rfl) ?_)
   exact⟨⟨_,rfl⟩,.inl hJ1⟩
end Go.Rg
end
section
namespace Go.Rg
open Go Go.Bp Go.RowKit Go.Walk Go.Proofs
set_option synthInstance.maxSize 2000
set_option synthInstance.maxHeartbeats 400000
set_option maxHeartbeats 4000000
abbrev RRow{α:Type}[Enc α](t:TypeId)(W:World)(l:List α)(e:Ending)(W':World):Prop:=∃A c,e=.returned (.slice A l.length c)∧RowC W' (.slice A l.length c) W t (Enc.size α) l.length (encL l)∧StepC W W'
theorem eql_nil{W:World}{A:Option Addr}{n c:Nat}(b:Bool)(hb:A.isNone=b):(binOp .eql 29 (.slice A n c) (.slice none 0 0)).run Tryz.prog W=.ok (.bool b) W:=by
 rw[←hb];exact Go.run_eql_slice_nil W 29 80 A n c Tryz.underlying29
theorem Clone_any(v:Value)(l:List Event)(w:World)(h:ListV w v l)(hl:l.length≤1000000):Calls Tryz.prog 115 #[v] w (RRow 80 w l):=by
 obtain⟨A,c,rfl,hc⟩:=h.form;have i1:=ListB.mk h;have hN:=fun W:World=>eql_nil (W:=W) (A:=A) (n:=l.length) (c:=c) _ rfl
 cases A with
 |none=>
  have:l=[]:=by
   cases l with
   |nil=>rfl
   |cons x l=>obtain⟨ad,h1,_⟩:=h.elem (i:=0) (by simp);cases h1
  subst this;have hN:∀W:World,_:=fun W=>eql_nil (W:=W) (A:=none) (n:=0) (c:=c) true rfl
  go_enter Tryz.func115,Tryz.ntmps115
  go_wp2
  go_ret
  exact⟨none,0,rfl,RowC.nil,⟨ExtC.h⟩⟩
 |some ad=>
  go_enter Tryz.func115,Tryz.ntmps115
  go_wp2_with (first|(with_reducible refine bslice0_c ?_;intro V0 g _ _)|(with_reducible refine append_s ?_;intro A9 c9 V hR hG))
  go_ret
  exact⟨A9,c9,rfl,by simp only[Nat.zero_add,List.nil_append] at hR;exact hR,⟨ExtC.h⟩⟩
class LenC {α:Type} (l:List α):Prop where h:l.length≤1000000
instance{W:World}{v:Value}{l:List Event}[h:ListC Event W v l][q:LenC l]:FunC Tryz.prog 115 #[v] W (RRow 80 W l):=⟨Clone_any v l W h.h q.h⟩
end Go.Rg
end
section
namespace Go.Rg
open Go Go.Bp Go.RowKit Go.Walk Go.Proofs
set_option synthInstance.maxSize 2000
set_option synthInstance.maxHeartbeats 400000
set_option maxHeartbeats 4000000
instance:TyNe 48 74:=⟨by decide⟩
abbrev RRw{α:Type}[Enc α](t:TypeId)(W:World)(l:List α)(e:Ending)(W':World):Prop:=∃A c B,e=.returned (.slice A l.length c)∧RowC W' (.slice A l.length c) B t (Enc.size α) l.length (encL l)∧StepC W W'
theorem AppendSeq_any(g1 c:Nat)(A:Option Addr)(L:List Right)(w:World)[hB:BlkC w g1 48 [.slice A L.length c]](hL:ListV w (.slice A L.length c) L)(hn:L.length≤1000000):
 Calls Tryz.prog 255 #[.slice none 0 0,.func (.func 280) #[] #[.pointer (some ⟨g1,0,none⟩)]] w (RRw 74 w L):=by
 refine calls_marks Tryz.func255 rfl ?_;simp only[Tryz.ntmps255,List.size_toArray,List.length_cons,List.length_nil,Nat.reduceAdd,Nat.reduceSub,Array.replicate_succ,Array.replicate_zero,List.push_toArray,List.append_toArray,List.nil_append,List.cons_append];go_wp2_with (first|(with_reducible refine box_c ?_;intro V0 g2 hE0 hB2 hA2))
 have i1:ListB Right w (.slice A L.length c) L:=⟨hL⟩;refine wp_rangeG (xs:=L) rfl enters_vals (vals_seq g1 A c L) (fun _=>rfl) (fun A B h=>KeepsFrom.ofExt h) ?hSt (fun k W=>Ext w W∧∃A2 c2,Blk W g2 48 #[.slice A2 (L.take k).length c2]∧W.ownsRow w.heap.size 74 2 (.slice A2 (L.take k).length c2) (L.take k).length (encL (L.take k))) (fun _ _ _=>False) ?hI ?hIr ?hIx ?hIxr ?h0 ?hs0 ?hround ?hdone ?hstop
 case hSt=>
  exact own_ctl fun k X Y hc h=>by
   have j2:BlkC X g1 48 [.slice A L.length c]:=⟨h.1⟩;exact⟨(inferInstance:BlkC Y g1 48 [.slice A L.length c]).h,sl_ctl h.2 hc⟩
 case hI=>
  refine own_ctl fun k A B hc h=> ?_
  obtain⟨h1,A2,c2,h2,h3⟩:=h;have j1:StepC w A:=⟨h1⟩;have j2:BlkC A g2 48 [.slice A2 (L.take k).length c2]:=⟨h2⟩;have j3:RowC A (.slice A2 (L.take k).length c2) w 74 2 (L.take k).length (encL (L.take k)):=⟨h3⟩;exact⟨ExtC.h,A2,c2,(inferInstance:BlkC B g2 48 _).h,(inferInstance:RowC B _ w 74 2 _ _).h⟩
 case hIr=>exact fun k A B ⟨h1,A2,c2,h2,h3⟩h=>⟨h1.trans h,A2,c2,h2.ext h,own_ext h3 h⟩
 case hIx=>exact fun _ _ _ _ _ h=>h.elim
 case hIxr=>exact fun _ _ _ _ h=>h.elim
 case h0=>exact⟨ExtC.h,none,0,by simpa using hB2.h,by simpa [encL_nil] using World.ownsRow_nil V0 w.heap.size 74 2⟩
 case hs0=>exact⟨(inferInstance:BlkC V0 g1 48 [.slice A L.length c]).h,hL.ext ExtC.h⟩
 case hround=>
  intro l k hk W hl hI hS;obtain⟨hE,A2,c2,hb,ho⟩:=hI;have hsn:=List.take_succ_eq_append_getElem hk;obtain⟨⟨a,b⟩,hx⟩:∃x,L[k]=x:=⟨_,rfl⟩;obtain⟨m,hm⟩:∃m,L.take k=m:=⟨_,rfl⟩;have hml:m.length≤1000000:=by rw[←hm,List.length_take];omega
  rw[hm] at hb ho hsn;rw[hx] at hsn;have j1:StepC w W:=⟨hE⟩;have j2:BlkC W g2 48 [.slice A2 m.length c2]:=⟨hb⟩;have j3:RowC W (.slice A2 m.length c2) w 74 2 m.length (encL m):=⟨ho⟩;have Hsn:=Lib.hid hsn;have HS:=Lib.hid hS;rw[hx,rAct1];simp only[Enc.val,List.setIfInBounds_toArray,List.set_cons_zero,List.set_cons_succ];clear hx hm hsn hb ho hS;gi_wp2_with (first|(refine regionIn_lit (by rintro⟨_,_,h⟩;exact h) (by kernel_rfl) ?_;go_wp2_with (first|(with_reducible refine newvar_c ?_;intro V g _ _ _))))
  refine⟨ExtC.h,fun V2 hc2 _=> ?_⟩
  gi_wp2_with (first|(refine regionIn_lit (by rintro⟨_,_,h⟩;exact h) (by kernel_rfl) ?_;go_wp2_with (first|(with_reducible refine load_c ?_)|(with_reducible refine store_c ?_;intro V _ _)|(with_reducible refine bslice_c ?_;intro V g _ _ _)|(with_reducible refine append_c ?_;intro _ _ V hR _))))
  refine⟨KfC.h,⟨ExtC.h,?_⟩,?_⟩
  ·exact var_snoc Hsn.out inferInstance inferInstance
  ·exact⟨(inferInstance:BlkC V g1 48 [.slice A L.length c]).h,hL.ext ExtC.h⟩
 case hdone=>
  intro D W hD hI hk;obtain⟨hE,A2,c2,hb,ho⟩:=hI;rw[List.take_length] at hb ho;have j1:StepC w W:=⟨hE⟩;have j2:BlkC W g2 48 [.slice A2 L.length c2]:=⟨hb⟩;have j3:RowC W (.slice A2 L.length c2) w 74 2 L.length (encL L):=⟨ho⟩;go_wp2_with (first|(with_reducible refine load_c ?_))
  have j4:CtlC W (W.putObj D (.deferred none)) w:=ctl_mark hk (by have:=hE0.h.size;omega)
  refine postM_mark rfl hk ?_;go_ret
  exact⟨A2,c2,w,rfl,(inferInstance:RowC _ (.slice A2 L.length c2) w 74 2 L.length (encL L)),⟨ExtC.h⟩⟩
 case hstop=>exact fun _ _ _ _ _ _ h=>h.elim
instance{W:World}{g1 c:Nat}{A:Option Addr}{L:List Right}[hB:BlkC W g1 48 [.slice A L.length c]][hL:ListC Right W (.slice A L.length c) L][q:LenC L]:FunC Tryz.prog 255 #[.slice none 0 0,.func (.func 280) #[] #[.pointer (some ⟨g1,0,none⟩)]] W (RRw 74 W L):=⟨AppendSeq_any g1 c A L W hL.h q.h⟩
theorem Collect_any(g1 c:Nat)(A:Option Addr)(L:List Right)(w:World)[hB:BlkC w g1 48 [.slice A L.length c]][hL:ListC Right w (.slice A L.length c) L][q:LenC L]:
 Calls Tryz.prog 197 #[.func (.func 280) #[] #[.pointer (some ⟨g1,0,none⟩)]] w (RRw 74 w L):=by
 have i1:ListB Right w (.slice A L.length c) L:=⟨hL.h⟩;go_enter Tryz.func197,Tryz.ntmps197
 go_wp2_with (first|(with_reducible refine call_c ?_;rintro _ V ⟨A8,c8,B8,rfl,hR8,(_:StepC _ _)⟩))
 go_ret
 exact⟨A8,c8,B8,rfl,hR8,⟨ExtC.h⟩⟩
instance{W:World}{g1 c:Nat}{A:Option Addr}{L:List Right}[hB:BlkC W g1 48 [.slice A L.length c]][hL:ListC Right W (.slice A L.length c) L][q:LenC L]:FunC Tryz.prog 197 #[.func (.func 280) #[] #[.pointer (some ⟨g1,0,none⟩)]] W (RRw 74 W L):=⟨Collect_any g1 c A L W⟩
end Go.Rg
end
section
namespace Go.Rg
open Go Go.Bp Go.RowKit Go.Walk Go.Proofs
set_option synthInstance.maxSize 2000
set_option synthInstance.maxHeartbeats 400000
set_option maxHeartbeats 4000000
def KeysOf(m:List (Right×Int))(K:List Right):Prop:=∀x,x∈m.map Prod.fst↔x∈K
def innerTo(s:Sys)(L:List Right)(r:Right)(j:Nat):List Right:=L.filter fun x=> !(decide (x∈L.take j)&&s.weaker x r)
theorem inner_0(s:Sys)(L:List Right)(r:Right):innerTo s L r 0=L:=by unfold innerTo;simp
theorem inner_end(s:Sys)(L:List Right)(r:Right):innerTo s L r L.length=L.filter fun x=> !s.weaker x r:=by
 unfold innerTo;apply List.filter_congr;intro x hx;simp[List.take_length,hx]
theorem inner_succ{s:Sys}{L:List Right}{r:Right}{j:Nat}(hj:j<L.length)(y:Right):y∈innerTo s L r (j+1)↔y∈innerTo s L r j∧¬(y=L[j]∧s.weaker L[j] r=true):=by
 unfold innerTo;rw[List.mem_filter,List.mem_filter,List.take_succ_eq_append_getElem hj];simp only[List.mem_append,List.mem_singleton,Bool.not_eq_true',Bool.and_eq_false_iff,decide_eq_false_iff_not];constructor
 ·rintro⟨h1,h2⟩;refine⟨⟨h1,h2.imp (fun h h3=>h (.inl h3)) id⟩,?_⟩
  rintro⟨rfl,h4⟩;rcases h2 with h|h
  ·exact h (.inr rfl)
  ·rw[h4] at h;cases h
 ·rintro⟨⟨h1,h2⟩,h3⟩;refine⟨h1,?_⟩;by_cases e:y=L[j]
  ·right
   cases hw:s.weaker y r
   ·rfl
   ·exact absurd ⟨e,by rw[←e];exact hw⟩ h3
  ·rcases h2 with h|h
   ·exact .inl fun h4=>h4.elim h e
   ·exact .inr h
theorem keys_put{m:List (Right×Int)}{K:List Right}(h:KeysOf m K)(x:Right)(v:Int):KeysOf (putL m x v) (K++ [x]):=fun y=>by
 rw[putL_keys,h y];simp only[List.mem_append,List.mem_singleton];exact Or.comm
theorem keys_del{m:List (Right×Int)}{K K':List Right}(h:KeysOf m K){x:Right}(h':∀y,y∈K'↔y∈K∧y≠x):KeysOf (delL m x) K':=fun y=>by
 rw[h' y,←h y];have h1:=getL_none (m:=delL m x) (k:=y);rw[getL_delL] at h1;by_cases e:x=y
 ·subst e;rw[if_pos rfl] at h1;exact⟨fun hm=>absurd hm (h1.1 rfl),fun hm=>absurd rfl hm.2⟩
 ·rw[if_neg e] at h1;have h2:=getL_none (m:=m) (k:=y);have h3:y∉(delL m x).map Prod.fst↔y∉m.map Prod.fst:=h1.symm.trans h2;constructor
  ·intro hm;exact⟨Classical.byContradiction fun hn=>(h3.2 hn) hm,fun e2=>e e2.symm⟩
  ·intro hm;exact Classical.byContradiction fun hn=>(h3.1 hn) hm.1
theorem del_le(m:List (Right×Int))(x:Right):(delL m x).length≤m.length:=List.length_filter_le _ _
theorem put_le(m:List (Right×Int))(x:Right)(v:Int):(putL m x v).length≤m.length+1:=by unfold putL;split<;>simp
set_option maxHeartbeats 8000000 in
theorem sleast_any(s:Sys)(gs n:Nat)(v1 v2 cv v:Value)(l:List Right)(w:World)[hSys:BlkC w gs 177 [v1,v2,cv]][hCov:CovC w cv n s](h:ListV w v l)(hr:∀r∈l,s.rightErr r=0)(hl:l.length≤1000)(hk8:s.codes.length≤8):
 Calls Tryz.prog 130 #[.pointer (some ⟨gs,0,none⟩),v] w (RRw 74 w (s.least l)):=by
 obtain⟨A,c,rfl,q1,q2⟩:=h.form;unfold maxLen at q2;have i0:=ListB.mk h;have Hr:=Lib.hid hr;clear hr;refine calls_marks Tryz.func130 rfl ?_;simp only[Tryz.ntmps130,List.size_toArray,List.length_cons,List.length_nil,Nat.reduceAdd,Nat.reduceSub,Array.replicate_succ,Array.replicate_zero,List.push_toArray,List.append_toArray,List.nil_append,List.cons_append];go_wp2_with (first|(with_reducible refine box_c (d:=some 2) ?_;intro V1 g2 hE1 hB2 hA2)|(with_reducible refine makeMap_c Right ?_;intro V2 gm hE2 hM hA)|(with_reducible refine newvar_c (uu:=5) ?_;intro V3 g5 hE3 hB5 hA5))
 go_loopw [13] (fun iv wr=>Ext w wr∧Blk wr g2 172 #[.pointer (some ⟨gs,0,none⟩)]∧Blk wr g5 260 #[.map (some gm)]∧∃k:Nat,k≤l.length∧iv=.int .i64 k∧∃m:List (Right×Int),MapL wr gm m∧KeysOf m (l.take k)∧m.length≤k) (fun iv _=>l.length-(RowKit.intOf iv).toNat)
 case atStart=>exact⟨ExtC.h,(inferInstance:BlkC V3 g2 172 _).h,hB5.h,0,by omega,rfl,[],(inferInstance:MapC Right V3 gm []).h,fun x=>by simp,by simp⟩
 case round=>
  obtain⟨hEw,hb2,hb5,k,hk,rfl,m,hm,hK,hml⟩:=hrel;have j1:StepC w wr:=⟨hEw⟩;have j2:BlkC wr g2 172 [.pointer (some ⟨gs,0,none⟩)]:=⟨hb2⟩;have j5:BlkC wr g5 260 [.map (some gm)]:=⟨hb5⟩;have jm:MapC Right wr gm m:=⟨hm⟩;by_cases lk:k<l.length
  ·obtain⟨ad,rfl,hc⟩:=h.elem lk;have hts:=List.take_succ_eq_append_getElem lk;obtain⟨⟨a,b⟩,hx⟩:∃x,l[k]=x:=⟨_,rfl⟩;rw[hx] at hc hts;have j6:CellsB w (ad.add (k*2)) [.int .i64 a,.int .i64 b]:=⟨hc⟩;have zk:IntKind.i64.wrap ((k:Int)+1)=(k:Int)+1:=IntWalk.i64_in _ (by omega)
   have Hts:=Lib.hid hts;have HK:=Lib.hid hK;clear hc hts hx hK hb2 hb5 hm hEw;go_wp2_with (first|(with_reducible refine put_c (κ:=Right) (k:=⟨a,b⟩) (v:=(k:Int)) ?_;intro V hS hM2)|(first|(with_reducible refine load_c ?_)|(with_reducible refine store_c ?_;intro V _ _)|(with_reducible refine alloc_c ?_;intro V g _ _ _)))
   (try simp only[pS])
   go_roundw
   case rel=>exact⟨ExtC.h,(inferInstance:BlkC V g2 172 _).h,(inferInstance:BlkC V g5 260 _).h,k+1,lk,by push_cast;rfl,_,hM2.h,by rw[Hts.out];exact keys_put HK.out _ _,by have:=put_le m ⟨a,b⟩ (k:Int);omega⟩
   case measure=>simp[RowKit.intOf];omega
  ·obtain rfl:k=l.length:=by omega
   rw[List.take_length] at hK;have hord:∀x,x∈s.ordered l↔x∈l:=fun x=>Sys.ordered_mem Hr.out x
   obtain⟨L1,hL1⟩:∃L,s.ordered l=L:=⟨_,rfl⟩;have HL1:=Lib.hid hL1;have iK:KeysE m L1:=⟨by rw[←hL1];exact Sys.ordered_sorted l,fun x=>by rw[←hL1,hord,hK x],by omega⟩
   have Hord:=Lib.hid hord;have HK:=Lib.hid hK;clear hL1 hord hK hb2 hb5 hm hEw;go_wp2_with (first|(with_reducible refine call_c ?_;rintro _ V4 ⟨A1,c1,g1,rfl,hB1,hLL1,hE4⟩)|(first|(with_reducible refine load_c ?_)))
   have k1:LstC Right V4 (.slice A1 L1.length c1) L1:=⟨hLL1.h⟩;have kA:AtC w g2:=hA2;refine wp_rangeG (xs:=L1) rfl enters_vals (vals_seq g1 A1 c1 L1) (fun _=>rfl) (fun A B h=>KeepsFrom.ofExt h) ?hSt (fun k W=>Ext w W∧Blk W g2 172 #[.pointer (some ⟨gs,0,none⟩)]∧Blk W g5 260 #[.map (some gm)]∧∃m:List (Right×Int),MapL W gm m∧KeysOf m (s.leftTo l (L1.take k))∧m.length≤1000) (fun _ _ _=>False) ?hI ?hIr ?hIx ?hIxr ?h0 ?hs0 ?hround ?hdone ?hstop
   case hSt=>
    refine own_ctl fun k X Y hc h=> ?_
    have j2:BlkC X g1 48 [.slice A1 L1.length c1]:=⟨h.1⟩;have j3:LstC Right X (.slice A1 L1.length c1) L1:=⟨h.2⟩;exact⟨(inferInstance:BlkC Y g1 48 [.slice A1 L1.length c1]).h,(inferInstance:LstC Right Y (.slice A1 L1.length c1) L1).h⟩
   case hI=>
    refine own_ctl fun k X Y hc h=> ?_
    obtain⟨h1,h2,h3,m2,h4,h5,h6⟩:=h;have j1:StepC w X:=⟨h1⟩;have j2:BlkC X g2 172 [.pointer (some ⟨gs,0,none⟩)]:=⟨h2⟩;have j5:BlkC X g5 260 [.map (some gm)]:=⟨h3⟩;have jm:MapC Right X gm m2:=⟨h4⟩;exact⟨ExtC.h,(inferInstance:BlkC Y g2 172 _).h,(inferInstance:BlkC Y g5 260 _).h,m2,(inferInstance:MapC Right Y gm m2).h,h5,h6⟩
   case hIr=>exact fun k A B ⟨h1,h2,h3,m2,h4,h5⟩h=>⟨h1.trans h,h2.ext h,h3.ext h,m2,h4.ext h,h5⟩
   case hIx=>exact fun _ _ _ _ _ h=>h.elim
   case hIxr=>exact fun _ _ _ _ h=>h.elim
   case h0=>exact⟨ExtC.h,(inferInstance:BlkC V4 g2 172 _).h,(inferInstance:BlkC V4 g5 260 _).h,m,(inferInstance:MapC Right V4 gm m).h,fun x=>by rw[HK.out x,List.take_zero,Sys.leftTo_nil,Hord.out],by omega⟩
   case hs0=>exact⟨hB1.h,k1.h⟩
   case hround=>
    intro lp k hk W hlp hI hS;obtain⟨h1,h2,h3,m2,h4,h5,h6⟩:=hI;obtain⟨hS1,hS2⟩:=hS;have j1:StepC w W:=⟨h1⟩;have j2:BlkC W g2 172 [.pointer (some ⟨gs,0,none⟩)]:=⟨h2⟩;have j5:BlkC W g5 260 [.map (some gm)]:=⟨h3⟩;have jm:MapC Right W gm m2:=⟨h4⟩;have js:BlkC W g1 48 [.slice A1 L1.length c1]:=⟨hS1⟩;have jl:LstC Right W (.slice A1 L1.length c1) L1:=⟨hS2⟩;have hts:=List.take_succ_eq_append_getElem hk;have hmem:L1[k]∈L1:=List.getElem_mem hk;have hrv:s.rightErr L1[k]=0:=Hr.out _ ((Hord.out _).1 (by rw[HL1.out];exact hmem))
    obtain⟨⟨rc,ro⟩,hx⟩:∃x,L1[k]=x:=⟨_,rfl⟩;rw[hx] at hts hrv;obtain⟨L2,hL2⟩:∃L,s.leftTo l (L1.take k)=L:=⟨_,rfl⟩;have iK2:KeysE m2 L2:=⟨by rw[←hL2];exact Sys.leftTo_sorted l _,fun x=>by rw[h5 x,hL2],h6⟩
    have Hts:=Lib.hid hts;have HL2:=Lib.hid hL2;have H5:=Lib.hid h5;have Hrv:=Lib.hid hrv;rw[hx,rAct1];simp only[Enc.val,List.setIfInBounds_toArray,List.set_cons_zero,List.set_cons_succ];clear hx hts hmem hrv hL2 h5 h1 h2 h3 h4 hS1 hS2;gi_wp2_with (first|(refine regionIn_lit (by rintro⟨_,_,h⟩;exact h) (by kernel_rfl) ?_;go_wp2_with (first|(with_reducible refine newvar_c (uu:=8) ?_;intro V5 g8 hE5 hB8 hA8))))
    refine⟨ExtC.h,fun V6 hc6 hlo=> ?_⟩
    gi_wp2_with (first|(refine regionIn_lit (by rintro⟨_,_,h⟩;exact h) (by kernel_rfl) ?_;go_wp2_with (first|(with_reducible refine call_c ?_;rintro _ V7 ⟨A2,c2,g3,rfl,hB3,hLL2,hE7⟩)|(first|(with_reducible refine load_c ?_)))))
    have jo:∃r,V7.heap[lp]? =some (.loop r):=by obtain⟨r,hr⟩:=hlo;exact⟨r,hE7.h.heap_some hr⟩
    obtain⟨r0,hr0⟩:=jo;have k2:LstC Right V7 (.slice A2 L2.length c2) L2:=⟨hLL2.h⟩;have hgm4:gm<V4.heap.size:=(inferInstance:MapC Right V4 gm m).h.lt;have b4:LtB gm V4.heap.size:=⟨hgm4⟩;have b7:LtB gm V7.heap.size:=⟨(inferInstance:MapC Right V7 gm m2).h.lt⟩;refine wpIn_rangeG (xs:=L2) hr0 rfl enters_vals (vals_seq g3 A2 c2 L2) (fun _=>rfl) (fun A B h=>KeepsFrom.ofExt h) ?iSt (fun j W=>Ext w W∧Blk W g2 172 #[.pointer (some ⟨gs,0,none⟩)]∧Blk W g5 260 #[.map (some gm)]∧Blk W g8 74 #[.int .i64 rc,.int .i64 ro]∧ValSt g1 A1 c1 L1 0 W∧KeepsFrom V4.heap.size V6 W∧∃m:List (Right×Int),MapL W gm m∧KeysOf m (innerTo s L2 ⟨rc,ro⟩ j)∧m.length≤1000) (fun _ _ _=>False) ?iI ?iIr ?iIx ?iIxr ?i0 ?is0 ?iround ?idone ?istop
    case iSt=>
     refine own_ctl fun k X Y hc h=> ?_
     have j2:BlkC X g3 48 [.slice A2 L2.length c2]:=⟨h.1⟩;have j3:LstC Right X (.slice A2 L2.length c2) L2:=⟨h.2⟩;exact⟨(inferInstance:BlkC Y g3 48 [.slice A2 L2.length c2]).h,(inferInstance:LstC Right Y (.slice A2 L2.length c2) L2).h⟩
    case iI=>
     refine own_ctl fun k X Y hc h=> ?_
     obtain⟨h1,h2,h3,h4,h5,h6,m3,h7,h8,h9⟩:=h;have j1:StepC w X:=⟨h1⟩;have j2:BlkC X g2 172 [.pointer (some ⟨gs,0,none⟩)]:=⟨h2⟩;have j5:BlkC X g5 260 [.map (some gm)]:=⟨h3⟩;have j8:BlkC X g8 74 [.int .i64 rc,.int .i64 ro]:=⟨h4⟩;have js:BlkC X g1 48 [.slice A1 L1.length c1]:=⟨h5.1⟩;have jl:LstC Right X (.slice A1 L1.length c1) L1:=⟨h5.2⟩;have jm:MapC Right X gm m3:=⟨h7⟩;exact⟨ExtC.h,(inferInstance:BlkC Y g2 172 _).h,(inferInstance:BlkC Y g5 260 _).h,(inferInstance:BlkC Y g8 74 _).h,⟨(inferInstance:BlkC Y g1 48 _).h,(inferInstance:LstC Right Y _ L1).h⟩,ctl_keeps hc h6 hE7.h.size,m3,(inferInstance:MapC Right Y gm m3).h,h8,h9⟩
    case iIr=>exact fun k A B ⟨h1,h2,h3,h4,h5,h6,m3,h7,h8⟩h=>⟨h1.trans h,h2.ext h,h3.ext h,h4.ext h,⟨h5.1.ext h,h5.2.ext h⟩,h6.trans (KeepsFrom.ofExt h),m3,h7.ext h,h8⟩
    case iIx=>exact fun _ _ _ _ _ h=>h.elim
    case iIxr=>exact fun _ _ _ _ h=>h.elim
    case i0=>exact⟨ExtC.h,(inferInstance:BlkC V7 g2 172 _).h,(inferInstance:BlkC V7 g5 260 _).h,(inferInstance:BlkC V7 g8 74 _).h,⟨(inferInstance:BlkC V7 g1 48 [.slice A1 L1.length c1]).h,(inferInstance:LstC Right V7 (.slice A1 L1.length c1) L1).h⟩,KfC.h,m2,(inferInstance:MapC Right V7 gm m2).h,fun x=>by rw[inner_0,←HL2.out];exact H5.out x,h6⟩
    case is0=>exact⟨hB3.h,k2.h⟩
    case iround=>
     intro lq j hj W hlq hI hS;obtain⟨h1,h2,h3,h4,h5,hkf,m3,h7,h8,h9⟩:=hI;obtain⟨hS1,hS2⟩:=hS;have j1:StepC w W:=⟨h1⟩;have j2:BlkC W g2 172 [.pointer (some ⟨gs,0,none⟩)]:=⟨h2⟩;have j5:BlkC W g5 260 [.map (some gm)]:=⟨h3⟩;have j8:BlkC W g8 74 [.int .i64 rc,.int .i64 ro]:=⟨h4⟩;have js:BlkC W g1 48 [.slice A1 L1.length c1]:=⟨h5.1⟩;have jl:LstC Right W (.slice A1 L1.length c1) L1:=⟨h5.2⟩;have jm:MapC Right W gm m3:=⟨h7⟩;have jt:BlkC W g3 48 [.slice A2 L2.length c2]:=⟨hS1⟩;have ju:LstC Right W (.slice A2 L2.length c2) L2:=⟨hS2⟩;have jk:KfC V4.heap.size V6 W:=⟨hkf⟩;have hin:=fun y=>inner_succ (s:=s) (r:=⟨rc,ro⟩) hj y
     have hxm:L2[j]∈L2:=List.getElem_mem hj;have hxv:s.rightErr L2[j]=0:=by
      refine Hr.out _ ((Hord.out _).1 ?_);have h10:L2[j]∈s.leftTo l (L1.take k):=by rw[HL2.out];exact hxm
      exact(List.mem_filter.1 h10).1
     have hxi:=Sys.right_in hxv;have hri:=Sys.right_in Hrv.out;obtain⟨⟨xc,xo⟩,hx⟩:∃x,L2[j]=x:=⟨_,rfl⟩;rw[hx] at hin hxi;simp only at hxi hri;have hp:=pow_bd hk8;obtain⟨xc,rfl⟩:∃n:Nat,xc=(n:Int):=⟨xc.toNat,by omega⟩
     obtain⟨rc,rfl⟩:∃n:Nat,rc=(n:Int):=⟨rc.toNat,by omega⟩
     have hcn:=hCov.h.2;obtain⟨A7,c7,ad7,g7,e7,rfl,x1,x2⟩:=hCov.h.1.at_ (i:=rc) (j:=xc) (by simp;omega) (by omega)
     rw[covers_at hcn (by omega)] at x2
     have hlen:((List.range n).map fun i:Nat=>s.coverL i).length=n:=by simp
     rw[hlen] at e7;subst e7;have c1':=CellB.mk x1;obtain⟨t,ht⟩:∃t,s.covers rc xc=t:=⟨_,rfl⟩;rw[ht] at x2;have c2':=CellB.mk x2;obtain⟨xo,rfl⟩:∃n:Nat,xo=(n:Int):=⟨xo.toNat,by omega⟩
     obtain⟨ro,rfl⟩:∃n:Nat,ro=(n:Int):=⟨ro.toNat,by omega⟩
     have hsets:=hxi.2.2;have hsetr:=hri.2.2;unfold Sys.sets at hsets hsetr;obtain⟨u,hu⟩:∃u,decide (ro&&&xo=ro)=u:=⟨_,rfl⟩;have hand:(bits .andNot .i64 (ro:Int) (xo:Int)==0)=u:=by rw[bits_andNot (by omega) (by omega),hu]
     have hw:s.weaker ⟨(xc:Int),(xo:Int)⟩ ⟨(rc:Int),(ro:Int)⟩=(decide (¬(xc=rc∧xo=ro))&&t&&u):=by
      unfold Sys.weaker;simp only;rw[ht,←hu];congr 2
      apply decide_eq_decide.2;constructor
      ·intro h1 h2;exact h1 (by rw[h2.1,h2.2])
      ·intro h1 h2;injection h2 with h3 h4;exact h1 ⟨by omega,by omega⟩
     rw[hw] at hin;have hxcn:xc<n:=by omega
     have hrcn:rc<n:=by omega
     have Hin:=Lib.hid hin;have H8:=Lib.hid h8;rw[hx,rAct1];simp only[Enc.val,List.setIfInBounds_toArray,List.set_cons_zero,List.set_cons_succ];clear hx hin hxm hxv hxi hri hp hcn x1 x2 ht hu hw hsets hsetr h1 h2 h3 h4 h5 hkf h7 h8 hS1 hS2 hlen;by_cases e:xc=rc∧xo=ro
     ·obtain⟨rfl,rfl⟩:=e;gi_wp2_with (first|(refine regionIn_lit (by rintro⟨_,_,h⟩;exact h) (by kernel_rfl) ?_;go_wp2_with (first|(with_reducible refine newvar_c (uu:=9) ?_;intro V8 g9 hE8 hB9 hA9))))
      refine⟨ExtC.h,fun V9 hc9=> ?_⟩
      intros
      gi_wp2
      refine wpIn_rd ((.take 0 (.take 1 (.take 2 (.take 3 (.take 4 (.take 5 (.take 6 (.take 7 (.take 8 (.take 9 (.take 10 (.take 11 (.take 12 (.take 13 (.take 14 (.take 15 (.take 16 (.take 17 (.take 18 (.take 19 (.take 20 (.take 21 (.take 22 (.take 23 (.take 24 .nil)))))))))))))))))))))))))) (fun hHd=> ?_)
      repeat' first|((with_reducible refine t_tk ?_);(first|(refine tk (v:= ?_) ?_ hHd ?_;rotate_left;(·(intro W' h;have:=StepC.mk h;first|with_reducible exact run_lc)))|(refine tk (v:= ?_) ?_ hHd ?_;rotate_left;(·(intro wq hSw;go_simp;(try with_reducible rfl))))|(refine ts hHd ?_));(try simp only[pS]))|(with_reducible refine t_done ?_)
      gi_wp2_with (first|(refine regionIn_lit (by rintro⟨_,_,h⟩;exact h) (by kernel_rfl) ?_;go_wp2))
      refine⟨KfC.h,⟨ExtC.h,(inferInstance:BlkC _ g2 172 _).h,(inferInstance:BlkC _ g5 260 _).h,(inferInstance:BlkC _ g8 74 _).h,⟨(inferInstance:BlkC _ g1 48 [.slice A1 L1.length c1]).h,(inferInstance:LstC Right _ (.slice A1 L1.length c1) L1).h⟩,KfC.h,m3,(inferInstance:MapC Right _ gm m3).h,fun y=>(H8.out y).trans ?_,h9⟩,⟨(inferInstance:BlkC _ g3 48 [.slice A2 L2.length c2]).h,(inferInstance:LstC Right _ (.slice A2 L2.length c2) L2).h⟩⟩
      rw[Hin.out y];simp
     have E:=Lib.hid e;by_cases e1:xc=rc
     ·subst e1;have e2:¬xo=ro:=fun h=>e ⟨rfl,h⟩
      have q1:((xo:Int)==(ro:Int))=false:=by simp;omega
      clear e
      cases t
      ·skip
       gi_wp2_with (first|(refine regionIn_lit (by rintro⟨_,_,h⟩;exact h) (by kernel_rfl) ?_;go_wp2_with (first|(with_reducible refine newvar_c (uu:=9) ?_;intro V8 g9 hE8 hB9 hA9))))
       refine⟨ExtC.h,fun V9 hc9=> ?_⟩
       intros
       gi_wp2
       refine wpIn_rd ((.take 0 (.take 1 (.take 2 (.take 3 (.take 4 (.take 5 (.take 6 (.take 7 (.take 8 (.take 9 (.take 10 (.take 11 (.take 12 (.take 13 (.take 14 (.take 15 (.take 16 (.take 17 (.take 18 (.take 19 (.take 20 (.take 21 (.take 22 (.take 23 (.take 24 .nil)))))))))))))))))))))))))) (fun hHd=> ?_)
       repeat' first|((with_reducible refine t_tk ?_);(first|(refine tk (v:= ?_) ?_ hHd ?_;rotate_left;(·(intro W' h;have:=StepC.mk h;first|with_reducible exact run_lc)))|(refine tk (v:= ?_) ?_ hHd ?_;rotate_left;(·(intro wq hSw;go_simp;(try with_reducible rfl))))|(refine tw (v:= ?_) ?_ hHd ?_;rotate_left;(·(intro W' h;have:=StepC.mk h;first|with_reducible exact run_lc)))|(refine tw (v:= ?_) ?_ hHd ?_;rotate_left;(·(intro wq hSw;go_simp;(try with_reducible rfl))))|(refine ts hHd ?_));(try simp only[pS]))|(with_reducible refine t_done ?_)
       gi_wp2_with (first|(refine regionIn_lit (by rintro⟨_,_,h⟩;exact h) (by kernel_rfl) ?_;go_wp2))
       refine⟨KfC.h,⟨ExtC.h,(inferInstance:BlkC _ g2 172 _).h,(inferInstance:BlkC _ g5 260 _).h,(inferInstance:BlkC _ g8 74 _).h,⟨(inferInstance:BlkC _ g1 48 [.slice A1 L1.length c1]).h,(inferInstance:LstC Right _ (.slice A1 L1.length c1) L1).h⟩,KfC.h,m3,(inferInstance:MapC Right _ gm m3).h,fun y=>(H8.out y).trans ?_,h9⟩,⟨(inferInstance:BlkC _ g3 48 [.slice A2 L2.length c2]).h,(inferInstance:LstC Right _ (.slice A2 L2.length c2) L2).h⟩⟩
       rw[Hin.out y];simp
      ·cases u
       ·skip
        gi_wp2_with (first|(refine regionIn_lit (by rintro⟨_,_,h⟩;exact h) (by kernel_rfl) ?_;go_wp2_with (first|(with_reducible refine newvar_c (uu:=9) ?_;intro V8 g9 hE8 hB9 hA9))))
        refine⟨ExtC.h,fun V9 hc9=> ?_⟩
        intros
        gi_wp2
        refine wpIn_rd ((.take 0 (.take 1 (.take 2 (.take 3 (.take 4 (.take 5 (.take 6 (.take 7 (.take 8 (.take 9 (.take 10 (.take 11 (.take 12 (.take 13 (.take 14 (.take 15 (.take 16 (.take 17 (.take 18 (.take 19 (.take 20 (.take 21 (.take 22 (.take 23 (.take 24 .nil)))))))))))))))))))))))))) (fun hHd=> ?_)
        repeat' first|((with_reducible refine t_tk ?_);(first|(refine tk (v:= ?_) ?_ hHd ?_;rotate_left;(·(intro W' h;have:=StepC.mk h;first|with_reducible exact run_lc)))|(refine tk (v:= ?_) ?_ hHd ?_;rotate_left;(·(intro wq hSw;go_simp;(try with_reducible rfl))))|(refine tw (v:= ?_) ?_ hHd ?_;rotate_left;(·(intro W' h;have:=StepC.mk h;first|with_reducible exact run_lc)))|(refine tw (v:= ?_) ?_ hHd ?_;rotate_left;(·(intro wq hSw;go_simp;(try with_reducible rfl)))));(try simp only[pS]))|(with_reducible refine t_done ?_)
        gi_wp2_with (first|(refine regionIn_lit (by rintro⟨_,_,h⟩;exact h) (by kernel_rfl) ?_;go_wp2))
        refine⟨KfC.h,⟨ExtC.h,(inferInstance:BlkC _ g2 172 _).h,(inferInstance:BlkC _ g5 260 _).h,(inferInstance:BlkC _ g8 74 _).h,⟨(inferInstance:BlkC _ g1 48 [.slice A1 L1.length c1]).h,(inferInstance:LstC Right _ (.slice A1 L1.length c1) L1).h⟩,KfC.h,m3,(inferInstance:MapC Right _ gm m3).h,fun y=>(H8.out y).trans ?_,h9⟩,⟨(inferInstance:BlkC _ g3 48 [.slice A2 L2.length c2]).h,(inferInstance:LstC Right _ (.slice A2 L2.length c2) L2).h⟩⟩
        rw[Hin.out y];simp
       ·skip
        gi_wp2_with (first|(refine regionIn_lit (by rintro⟨_,_,h⟩;exact h) (by kernel_rfl) ?_;go_wp2_with (first|(with_reducible refine newvar_c (uu:=9) ?_;intro V8 g9 hE8 hB9 hA9))))
        refine⟨ExtC.h,fun V9 hc9=> ?_⟩
        intros
        gi_wp2
        refine wpIn_rd ((.take 0 (.take 1 (.take 2 (.take 3 (.take 4 (.take 5 (.take 6 (.take 7 (.take 8 (.take 9 (.take 10 (.take 11 (.take 12 (.take 13 (.take 14 (.take 15 (.take 16 (.take 17 (.take 18 (.take 19 (.take 20 (.take 21 (.take 22 (.take 23 (.take 24 .nil)))))))))))))))))))))))))) (fun hHd=> ?_)
        repeat' first|((with_reducible refine t_tk ?_);(first|(refine tk (v:= ?_) ?_ hHd ?_;rotate_left;(·(intro W' h;have:=StepC.mk h;first|with_reducible exact run_lc)))|(refine tk (v:= ?_) ?_ hHd ?_;rotate_left;(·(intro wq hSw;go_simp;(try with_reducible rfl))))|(refine tw (v:= ?_) ?_ hHd ?_;rotate_left;(·(intro W' h;have:=StepC.mk h;first|with_reducible exact run_lc)))|(refine tw (v:= ?_) ?_ hHd ?_;rotate_left;(·(intro wq hSw;go_simp;(try with_reducible rfl)))));(try simp only[pS]))|(with_reducible refine t_done ?_)
        gi_wp2_with (first|(refine regionIn_lit (by rintro⟨_,_,h⟩;exact h) (by kernel_rfl) ?_;go_wp2_with (first|(with_reducible refine del_c (κ:=Right) (k:=⟨(xc:Int),(xo:Int)⟩) ?_;intro V hS hM2)|(first|(with_reducible refine load_c ?_)))))
        have key:∀y,y∈innerTo s L2 ⟨(xc:Int),(ro:Int)⟩ (j+1)↔y∈innerTo s L2 ⟨(xc:Int),(ro:Int)⟩ j∧y≠⟨(xc:Int),(xo:Int)⟩:=fun y=>by
         rw[Hin.out y];refine and_congr_right fun _=>not_congr ⟨fun h=>h.1,fun h=>⟨h,by rw[Bool.and_true,Bool.and_true];exact decide_eq_true E.out⟩⟩
        exact⟨KfC.h,⟨ExtC.h,(inferInstance:BlkC _ g2 172 _).h,(inferInstance:BlkC _ g5 260 _).h,(inferInstance:BlkC _ g8 74 _).h,⟨(inferInstance:BlkC _ g1 48 [.slice A1 L1.length c1]).h,(inferInstance:LstC Right _ (.slice A1 L1.length c1) L1).h⟩,KfC.h,_,hM2.h,keys_del H8.out key,Nat.le_trans (del_le _ _) h9⟩,⟨(inferInstance:BlkC _ g3 48 [.slice A2 L2.length c2]).h,(inferInstance:LstC Right _ (.slice A2 L2.length c2) L2).h⟩⟩
     ·have q1:((xc:Int)==(rc:Int))=false:=by simp;omega
      clear e
      cases t
      ·skip
       gi_wp2_with (first|(refine regionIn_lit (by rintro⟨_,_,h⟩;exact h) (by kernel_rfl) ?_;go_wp2_with (first|(with_reducible refine newvar_c (uu:=9) ?_;intro V8 g9 hE8 hB9 hA9))))
       refine⟨ExtC.h,fun V9 hc9=> ?_⟩
       intros
       gi_wp2
       refine wpIn_rd ((.take 0 (.take 1 (.take 2 (.take 3 (.take 4 (.take 5 (.take 6 (.take 7 (.take 8 (.take 9 (.take 10 (.take 11 (.take 12 (.take 13 (.take 14 (.take 15 (.take 16 (.take 17 (.take 18 (.take 19 (.take 20 (.take 21 (.take 22 (.take 23 (.take 24 .nil)))))))))))))))))))))))))) (fun hHd=> ?_)
       repeat' first|((with_reducible refine t_tk ?_);(first|(refine tk (v:= ?_) ?_ hHd ?_;rotate_left;(·(intro W' h;have:=StepC.mk h;first|with_reducible exact run_lc)))|(refine tk (v:= ?_) ?_ hHd ?_;rotate_left;(·(intro wq hSw;go_simp;(try with_reducible rfl))))|(refine tw (v:= ?_) ?_ hHd ?_;rotate_left;(·(intro W' h;have:=StepC.mk h;first|with_reducible exact run_lc)))|(refine tw (v:= ?_) ?_ hHd ?_;rotate_left;(·(intro wq hSw;go_simp;(try with_reducible rfl))))|(refine ts hHd ?_));(try simp only[pS]))|(with_reducible refine t_done ?_)
       gi_wp2_with (first|(refine regionIn_lit (by rintro⟨_,_,h⟩;exact h) (by kernel_rfl) ?_;go_wp2))
       refine⟨KfC.h,⟨ExtC.h,(inferInstance:BlkC _ g2 172 _).h,(inferInstance:BlkC _ g5 260 _).h,(inferInstance:BlkC _ g8 74 _).h,⟨(inferInstance:BlkC _ g1 48 [.slice A1 L1.length c1]).h,(inferInstance:LstC Right _ (.slice A1 L1.length c1) L1).h⟩,KfC.h,m3,(inferInstance:MapC Right _ gm m3).h,fun y=>(H8.out y).trans ?_,h9⟩,⟨(inferInstance:BlkC _ g3 48 [.slice A2 L2.length c2]).h,(inferInstance:LstC Right _ (.slice A2 L2.length c2) L2).h⟩⟩
       rw[Hin.out y];simp
      ·cases u
       ·skip
        gi_wp2_with (first|(refine regionIn_lit (by rintro⟨_,_,h⟩;exact h) (by kernel_rfl) ?_;go_wp2_with (first|(with_reducible refine newvar_c (uu:=9) ?_;intro V8 g9 hE8 hB9 hA9))))
        refine⟨ExtC.h,fun V9 hc9=> ?_⟩
        intros
        gi_wp2
        refine wpIn_rd ((.take 0 (.take 1 (.take 2 (.take 3 (.take 4 (.take 5 (.take 6 (.take 7 (.take 8 (.take 9 (.take 10 (.take 11 (.take 12 (.take 13 (.take 14 (.take 15 (.take 16 (.take 17 (.take 18 (.take 19 (.take 20 (.take 21 (.take 22 (.take 23 (.take 24 .nil)))))))))))))))))))))))))) (fun hHd=> ?_)
        repeat' first|((with_reducible refine t_tk ?_);(first|(refine tk (v:= ?_) ?_ hHd ?_;rotate_left;(·(intro W' h;have:=StepC.mk h;first|with_reducible exact run_lc)))|(refine tk (v:= ?_) ?_ hHd ?_;rotate_left;(·(intro wq hSw;go_simp;(try with_reducible rfl))))|(refine tw (v:= ?_) ?_ hHd ?_;rotate_left;(·(intro W' h;have:=StepC.mk h;first|with_reducible exact run_lc)))|(refine tw (v:= ?_) ?_ hHd ?_;rotate_left;(·(intro wq hSw;go_simp;(try with_reducible rfl)))));(try simp only[pS]))|(with_reducible refine t_done ?_)
        gi_wp2_with (first|(refine regionIn_lit (by rintro⟨_,_,h⟩;exact h) (by kernel_rfl) ?_;go_wp2))
        refine⟨KfC.h,⟨ExtC.h,(inferInstance:BlkC _ g2 172 _).h,(inferInstance:BlkC _ g5 260 _).h,(inferInstance:BlkC _ g8 74 _).h,⟨(inferInstance:BlkC _ g1 48 [.slice A1 L1.length c1]).h,(inferInstance:LstC Right _ (.slice A1 L1.length c1) L1).h⟩,KfC.h,m3,(inferInstance:MapC Right _ gm m3).h,fun y=>(H8.out y).trans ?_,h9⟩,⟨(inferInstance:BlkC _ g3 48 [.slice A2 L2.length c2]).h,(inferInstance:LstC Right _ (.slice A2 L2.length c2) L2).h⟩⟩
        rw[Hin.out y];simp
       ·skip
        gi_wp2_with (first|(refine regionIn_lit (by rintro⟨_,_,h⟩;exact h) (by kernel_rfl) ?_;go_wp2_with (first|(with_reducible refine newvar_c (uu:=9) ?_;intro V8 g9 hE8 hB9 hA9))))
        refine⟨ExtC.h,fun V9 hc9=> ?_⟩
        intros
        gi_wp2
        refine wpIn_rd ((.take 0 (.take 1 (.take 2 (.take 3 (.take 4 (.take 5 (.take 6 (.take 7 (.take 8 (.take 9 (.take 10 (.take 11 (.take 12 (.take 13 (.take 14 (.take 15 (.take 16 (.take 17 (.take 18 (.take 19 (.take 20 (.take 21 (.take 22 (.take 23 (.take 24 .nil)))))))))))))))))))))))))) (fun hHd=> ?_)
        repeat' first|((with_reducible refine t_tk ?_);(first|(refine tk (v:= ?_) ?_ hHd ?_;rotate_left;(·(intro W' h;have:=StepC.mk h;first|with_reducible exact run_lc)))|(refine tk (v:= ?_) ?_ hHd ?_;rotate_left;(·(intro wq hSw;go_simp;(try with_reducible rfl))))|(refine tw (v:= ?_) ?_ hHd ?_;rotate_left;(·(intro W' h;have:=StepC.mk h;first|with_reducible exact run_lc)))|(refine tw (v:= ?_) ?_ hHd ?_;rotate_left;(·(intro wq hSw;go_simp;(try with_reducible rfl)))));(try simp only[pS]))|(with_reducible refine t_done ?_)
        gi_wp2_with (first|(refine regionIn_lit (by rintro⟨_,_,h⟩;exact h) (by kernel_rfl) ?_;go_wp2_with (first|(with_reducible refine del_c (κ:=Right) (k:=⟨(xc:Int),(xo:Int)⟩) ?_;intro V hS hM2)|(first|(with_reducible refine load_c ?_)))))
        have key:∀y,y∈innerTo s L2 ⟨(rc:Int),(ro:Int)⟩ (j+1)↔y∈innerTo s L2 ⟨(rc:Int),(ro:Int)⟩ j∧y≠⟨(xc:Int),(xo:Int)⟩:=fun y=>by
         rw[Hin.out y];refine and_congr_right fun _=>not_congr ⟨fun h=>h.1,fun h=>⟨h,by rw[Bool.and_true,Bool.and_true];exact decide_eq_true E.out⟩⟩
        exact⟨KfC.h,⟨ExtC.h,(inferInstance:BlkC _ g2 172 _).h,(inferInstance:BlkC _ g5 260 _).h,(inferInstance:BlkC _ g8 74 _).h,⟨(inferInstance:BlkC _ g1 48 [.slice A1 L1.length c1]).h,(inferInstance:LstC Right _ (.slice A1 L1.length c1) L1).h⟩,KfC.h,_,hM2.h,keys_del H8.out key,Nat.le_trans (del_le _ _) h9⟩,⟨(inferInstance:BlkC _ g3 48 [.slice A2 L2.length c2]).h,(inferInstance:LstC Right _ (.slice A2 L2.length c2) L2).h⟩⟩
    case idone=>
     intro W hI;obtain⟨h1,h2,h3,h4,h5,hkf,m3,h7,h8,h9⟩:=hI;refine⟨hkf,⟨h1,h2,h3,m3,h7,fun y=>(h8 y).trans ?_,h9⟩,h5⟩
     rw[inner_end,Hts.out,Sys.leftTo_snoc,HL2.out]
    case istop=>exact fun _ _ _ _ h=>h.elim
   case hdone=>
    intro D W hD hI hk;obtain⟨h1,h2,h3,m2,h4,h5,h6⟩:=hI;have j1:StepC w W:=⟨h1⟩;have j2:BlkC W g2 172 [.pointer (some ⟨gs,0,none⟩)]:=⟨h2⟩;have j5:BlkC W g5 260 [.map (some gm)]:=⟨h3⟩;have jm:MapC Right W gm m2:=⟨h4⟩;obtain⟨L3,hL3⟩:∃L,s.least l=L:=⟨_,rfl⟩;have hkk:s.leftTo l (L1.take L1.length)=L3:=by rw[List.take_length,←HL1.out,Sys.leftTo_all,hL3]
    have iK3:KeysE m2 L3:=⟨by rw[←hkk];exact Sys.leftTo_sorted l _,fun x=>by rw[h5 x,hkk],h6⟩
    have iL3:LenC L3:=⟨by
     have:=hkk▸Sys.leftTo_sorted l (L1.take L1.length);have h7:L3.length≤l.length:=by rw[←hL3];exact Sys.least_len Hr.out
     omega⟩
    have HL3:=Lib.hid hL3;clear h1 h2 h3 h4 h5 hkk hL3;go_wp2_with (first|(with_reducible refine call_c ?_;first|rintro _ V ⟨A8,c8,g8,rfl,hB8,hL8,(_:StepC _ _)⟩|rintro _ V ⟨A9,c9,B9,rfl,hL9,(_:StepC _ _)⟩)|(first|(with_reducible refine load_c ?_)))
    have j9:CtlC V (V.putObj D (.deferred none)) w:=ctl_mark ((ExtC.h:Ext W V).heap_some hk) (by have:=(ExtC.h:Ext w V4).size;omega)
    refine postM_mark rfl ((ExtC.h:Ext W V).heap_some hk) ?_;have e:=HL3.out;subst e;go_ret
    exact⟨A9,c9,B9,rfl,(inferInstance:RowC _ (.slice A9 (s.least l).length c9) B9 74 _ _ _),⟨ExtC.h⟩⟩
   case hstop=>exact fun _ _ _ _ _ _ h=>h.elim
end Go.Rg
end
