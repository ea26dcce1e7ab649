import Derived.Lib.LazyBuf
import Derived.Test.YtbfbepnkofampaaGreatDoorXP19
set_option maxRecDepth 100000
set_option synthInstance.maxSize 2000
set_option synthInstance.maxHeartbeats 400000
set_option maxHeartbeats 8000000
set_option linter.all false
section
namespace Go.Rg
open Go Go.Bp Go.RowKit Go.Walk Go.Proofs
instance{W:World}{A:Option Addr}{n c:Nat}:FunC Tryz.prog 254 #[.slice A n c] W (fun e W'=>∃g1,e=.returned (.func (.func 280) #[] #[.pointer (some ⟨g1,0,none⟩)])∧BlkC W' g1 48 [.slice A n c]∧StepC W W'):=⟨Bv A n c W⟩
theorem Nk(a b:Right):cmpL [a.cls,a.codes] [b.cls,b.codes]<0↔ltR a b:=by
 unfold ltR;simp only[cmpL];by_cases h1:a.cls<b.cls
 ·simp[h1]
 ·by_cases h2:b.cls<a.cls
  ·simp[h1,h2];omega
  ·simp only[if_neg h1,if_neg h2];have e:a.cls=b.cls:=by omega
   by_cases h3:a.codes<b.codes
   ·simp[h3,e]
   ·by_cases h4:b.codes<a.codes
    ·simp[h3,h4,e]
    ·simp[h3,h4,e]
theorem vH{l L:List Right}(hn:l.Nodup)(hs:l.Pairwise fun a b=>¬cmpL [b.cls,b.codes] [a.cls,a.codes]<0)(hL:L.Pairwise ltR)(hm:∀x,x∈l↔x∈L):l=L:=by
 refine gU (lt:=ltR) qN (fun h k=>Fa h k) ?_ hL hm
 refine(hs.and hn).imp fun{a b}h=> ?_
 have h1:=h.1;rw[Nk] at h1;have h2:=h.2;unfold ltR at*;have:¬(a.cls=b.cls∧a.codes=b.codes):=fun e=>h2 (by obtain⟨a1,a2⟩:=a;obtain⟨b1,b2⟩:=b;simp only at e;rw[e.1,e.2])
 omega
class KeysE (m:List (Right×Int)) (L:outParam (List Right)):Prop where h:L.Pairwise ltR∧(∀x,x∈L↔x∈m.map Prod.fst)∧m.length≤1000
abbrev REach(W:World)(L:List Right)(e:Ending)(W':World):Prop:=∃A c g1,e=.returned (.func (.func 280) #[] #[.pointer (some ⟨g1,0,none⟩)])∧BlkC W' g1 48 [.slice A L.length c]∧ListB Right W' (.slice A L.length c) L∧StepC W W'
theorem Km(gm:Nat)(m:List (Right×Int))(L:List Right)(w:World)[hM:MapC Right w gm m](hL:L.Pairwise ltR∧(∀x,x∈L↔x∈m.map Prod.fst)∧m.length≤1000):Calls Tryz.prog 196 #[.map (some gm)] w (REach w L):=by
 have hnd:=hM.h.nodup;have HL:=Lib.hid hL;have Hnd:=Lib.hid hnd;have Hlen:=Lib.hid (show(m.map Prod.fst).length≤1000 by simpa using hL.2.2)
 clear hL hnd;go_enter Tryz.func196,Tryz.ntmps196
 go_wp2_with (first|(with_reducible refine tV (κ:=Right) ?_;intro V r _ hR hA))
 (try simp only[pS])
 go_loopg [3] m.length (fun g sv wr=>StepC w wr∧∃(left:List (Right×Int))(vis:List Right),RngC Right wr r gm m left∧g=left.length∧(vis++left.map Prod.fst).Perm (m.map Prod.fst)∧∃A c,sv=.slice A vis.length c∧RowC wr (.slice A vis.length c) w 74 2 vis.length (encL vis))
 case atStart=>exact⟨⟨ExtC.h⟩,m,[],hR,rfl,by simp,none,0,rfl,RowC.nil⟩
 case round=>
  obtain⟨_,left,vis,hR1,hg,hp,A,c,rfl,hO⟩:=hrel;have hl:=Hlen.out;have hpl:=hp.length_eq;have hvl:vis.length≤1000:=by simp at hpl hl;omega
  have Hp:=Lib.hid hp;have Hg:=Lib.hid hg;clear hR hp hg hpl hl
  cases left with
  |nil=>
   have hpv:vis.Perm (m.map Prod.fst):=by have:=Hp.out;simpa using this
   have Hpv:=Lib.hid hpv;have i1:LtC vis.length:=⟨by omega⟩
   clear hpv;go_wp2_with (first|(with_reducible refine mH 74 hR1 ?_)|(with_reducible refine aB ?_;first|rintro _ Vs ⟨l',rfl,⟨hp',hs'⟩,(hRo:RowC _ _ _ _ _ _ _),(_:GrowC _ _ _ _)⟩|rintro _ V3 ⟨g1,rfl,_,(_:StepC _ _)⟩))
   have e:l'=L:=vH ((hp'.trans Hpv.out).nodup_iff.2 Hnd.out) (hs'.imp fun h=>by omega) HL.out.1 fun x=>by rw[(hp'.trans Hpv.out).mem_iff,HL.out.2.1 x]
   have el:vis.length=L.length:=by rw[←e,hp'.length_eq]
   have hRo2:ListV V3 (.slice A vis.length c) L:=by
    have:=hRo.list (l:=l') rfl rfl (hp'.length_eq.symm);rw[e] at this;exact this.ext ExtC.h
   have i2:BlkC V3 g1 48 [.slice A vis.length c]:=inferInstance;rw[el] at hRo2 i2;go_ret
   exact⟨A,c,g1,rfl,i2,⟨hRo2⟩,⟨ExtC.h⟩⟩
  |cons q l=>
   go_wp2_with (first|(with_reducible refine uC 74 hR1 (by simp) ?_;rintro⟨⟨pc,po⟩,pn⟩ V4 hp4 (_:NcC _ _ _) hR4 (hN:NowC _ _ _ _))|(with_reducible refine lL ?_)|(first|(with_reducible refine aA ?_)|(with_reducible refine aG ?_;intro V g _ _ _)|(with_reducible refine aD ?_;intro V g _ _ _)|(with_reducible refine bR ?_;intro _ _ V hR _)))
   go_roundg (delL (q::l) (⟨pc,po⟩:Right)).length
   case rel=>
    have h1:=(xN hR1.h.nodup hp4).map Prod.fst;exact⟨⟨ExtC.h⟩,delL (q::l) ⟨pc,po⟩,vis++ [⟨pc,po⟩],inferInstance,rfl,by
     refine List.Perm.trans ?_ Hp.out;rw[List.append_assoc];exact(List.Perm.append_left vis h1.symm),cV rfl hR⟩
   case measure=>
    have h1:=oX hR1.h.nodup hp4;have h2:=Hg.out;simp only at h1;omega
instance{W:World}{gm:Nat}{m:List (Right×Int)}{L:List Right}[hM:MapC Right W gm m][h:KeysE m L]:FunC Tryz.prog 196 #[.map (some gm)] W (REach W L):=⟨Km gm m L W h.h⟩
theorem enters_vals:∀(args:Array Value)(W:World),(callFunc 280 args).run Tryz.prog W=.ok (.enter 280 args) W:=enters_of Tryz.func280 (by kernel_rfl) rfl
def ValSt(g1:Nat)(A:Option Addr)(c:Nat)(L:List Right)(_:Nat)(W:World):Prop:=Blk W g1 48 #[.slice A L.length c]∧ListV W (.slice A L.length c) L
theorem pH(g1:Nat)(A:Option Addr)(c:Nat)(L:List Right):SeqG Tryz.prog 280 #[.pointer (some ⟨g1,0,none⟩)] L (fun x=>#[Enc.val x]) Ext (ValSt g1 A c L):=by
 intro l J Jx W hJ hJx hY h0 hs0;show Calls Tryz.prog 280 #[.func (.yield l) #[] #[],.pointer (some ⟨g1,0,none⟩)] W _
 have i1:BlkC W g1 48 [.slice A L.length c]:=⟨hs0.1⟩;have hcap:=hs0.2.caps;have HJ:=Lib.hid hJ;have HY:=Lib.hid hY;have HS:=Lib.hid hs0;clear hJ hY hs0;go_enter Tryz.func280,Tryz.ntmps280
 obtain⟨hc,hChid⟩:∃f:Nat→Array Oper→Bool→Go.Code,f=Go.Code.region:=⟨_,rfl⟩;rw[show Go.Code.region 3=hc 3 by rw[hChid]]
 have HCh:=Lib.hid hChid;clear hChid;go_wp2_with (first|(with_reducible refine aA ?_))
 go_loopw [7] (fun iv wr=>∃k:Nat,k≤L.length∧iv=.int .i64 k∧J k wr∧ValSt g1 A c L k wr) (fun iv _=>L.length-(RowKit.intOf iv).toNat)
 case atStart=>exact⟨0,by omega,rfl,h0,HS.out⟩
 case round=>
  obtain⟨k,hk,rfl,hJ1,hS1,hL1⟩:=hrel;clear h0;by_cases lk:k<L.length
  ·obtain⟨ad,rfl,hc⟩:=hL1.elem lk;have hy:=fun W1=>HY.out k lk W1
   obtain⟨⟨a,b⟩,hx⟩:∃x,L[k]=x:=⟨_,rfl⟩;rw[hx] at hc hy;have i2:BlkC wr g1 48 [.slice (some ad) L.length c]:=⟨hS1⟩;have i3:CellsB wr (ad.add (k*2)) [.int .i64 a,.int .i64 b]:=⟨hc⟩;have zk:IntKind.i64.wrap ((k:Int)+1)=(k:Int)+1:=IntWalk.i64_in _ (by omega)
   have Hy:=Lib.hid hy;have HS1:=Lib.hid (show∀W1,Ext wr W1→ValSt g1 (some ad) c L k W1 from fun W1 h=>⟨hS1.ext h,hL1.ext h⟩)
   have HJ1:=Lib.hid (show∀W1,Ext wr W1→J k W1 from fun W1 h=>HJ.out _ _ _ hJ1 h)
   clear hc hx hy hJ1 hL1 hS1;go_wp2_with (first|(with_reducible refine aA ?_)|(with_reducible refine aG ?_;intro V g _ _ _))
   have hChid:=HCh.out;clear HCh;subst hChid;refine pX ?_;gi_wp2_with (first|(with_reducible refine Ah ?_)|(with_reducible refine Ce (Hy.out _ (HJ1.out _ ExtC.h) (HS1.out _ ExtC.h)) ?_;rintro _ W5 (⟨rfl,hJ5,hS5⟩|⟨rfl,hJx5⟩);(all_goals refine⟨_,rfl,?_⟩)))
   ·go_wp2
    exact⟨⟨k+1,lk,by push_cast;rfl,hJ5,hS5⟩,by simp[RowKit.intOf];omega⟩
   ·go_wp2
    (first|refine bodyPost_ret (results_none rfl _ _ _) (by rfl) ?_)
    exact⟨⟨_,rfl⟩,.inr ⟨k+1,lk,hJx5⟩⟩
  ·obtain rfl:k=L.length:=by omega
   go_wp2
   (first|refine bodyPost_end (results_none rfl _ _ _) (by rfl) ?_)
   exact⟨⟨_,rfl⟩,.inl hJ1⟩
abbrev RRow{α:Type}[Enc α](t:TypeId)(W:World)(l:List α)(e:Ending)(W':World):Prop:=∃A c,e=.returned (.slice A l.length c)∧RowC W' (.slice A l.length c) W t (Enc.size α) l.length (encL l)∧StepC W W'
theorem Db{W:World}{A:Option Addr}{n c:Nat}(b:Bool)(hb:A.isNone=b):(binOp .eql 29 (.slice A n c) (.slice none 0 0)).run Tryz.prog W=.ok (.bool b) W:=by
 rw[←hb];exact Go.run_eql_slice_nil W 29 80 A n c Tryz.underlying29
theorem Gr(v:Value)(l:List Event)(w:World)(h:ListV w v l)(hl:l.length≤1000000):Calls Tryz.prog 115 #[v] w (RRow 80 w l):=by
 obtain⟨A,c,rfl,hc⟩:=h.form;have i1:=ListB.mk h;have hN:=fun W:World=>Db (W:=W) (A:=A) (n:=l.length) (c:=c) _ rfl
 cases A with
 |none=>
  have:l=[]:=by
   cases l with
   |nil=>rfl
   |cons x l=>obtain⟨ad,h1,_⟩:=h.elem (i:=0) (by simp);cases h1
  subst this;have hN:∀W:World,_:=fun W=>Db (W:=W) (A:=none) (n:=0) (c:=c) true rfl
  go_enter Tryz.func115,Tryz.ntmps115
  go_wp2
  go_ret
  exact⟨none,0,rfl,RowC.nil,⟨ExtC.h⟩⟩
 |some ad=>
  go_enter Tryz.func115,Tryz.ntmps115
  go_wp2_with (first|(with_reducible refine kV ?_;intro V0 g _ _)|(with_reducible refine kK ?_;intro A9 c9 V hR hG))
  go_ret
  exact⟨A9,c9,rfl,by simp only[Nat.zero_add,List.nil_append] at hR;exact hR,⟨ExtC.h⟩⟩
class LenC {α:Type} (l:List α):Prop where h:l.length≤1000000
instance{W:World}{v:Value}{l:List Event}[h:ListC Event W v l][q:LenC l]:FunC Tryz.prog 115 #[v] W (RRow 80 W l):=⟨Gr v l W h.h q.h⟩
instance:TyNe 48 74:=⟨by decide⟩
abbrev RRw{α:Type}[Enc α](t:TypeId)(W:World)(l:List α)(e:Ending)(W':World):Prop:=∃A c B,e=.returned (.slice A l.length c)∧RowC W' (.slice A l.length c) B t (Enc.size α) l.length (encL l)∧StepC W W'
theorem sD(g1 c:Nat)(A:Option Addr)(L:List Right)(w:World)[hB:BlkC w g1 48 [.slice A L.length c]](hL:ListV w (.slice A L.length c) L)(hn:L.length≤1000000):
 Calls Tryz.prog 255 #[.slice none 0 0,.func (.func 280) #[] #[.pointer (some ⟨g1,0,none⟩)]] w (RRw 74 w L):=by
 refine dC Tryz.func255 rfl ?_;simp only[Tryz.ntmps255,List.size_toArray,List.length_cons,List.length_nil,Nat.reduceAdd,Nat.reduceSub,Array.replicate_succ,Array.replicate_zero,List.push_toArray,List.append_toArray,List.nil_append,List.cons_append];go_wp2_with (first|(with_reducible refine aH ?_;intro V0 g2 hE0 hB2 hA2))
 have i1:ListB Right w (.slice A L.length c) L:=⟨hL⟩;refine eE (xs:=L) rfl enters_vals (pH g1 A c L) (fun _=>rfl) (fun A B h=>KeepsFrom.ofExt h) ?hSt (fun k W=>Ext w W∧∃A2 c2,Blk W g2 48 #[.slice A2 (L.take k).length c2]∧W.ownsRow w.heap.size 74 2 (.slice A2 (L.take k).length c2) (L.take k).length (encL (L.take k))) (fun _ _ _=>False) ?hI ?hIr ?hIx ?hIxr ?h0 ?hs0 ?hround ?hdone ?hstop
 case hSt=>
  exact cL fun k X Y hc h=>by
   have j2:BlkC X g1 48 [.slice A L.length c]:=⟨h.1⟩;exact⟨(inferInstance:BlkC Y g1 48 [.slice A L.length c]).h,yY h.2 hc⟩
 case hI=>
  refine cL fun k A B hc h=> ?_
  obtain⟨h1,A2,c2,h2,h3⟩:=h;have j1:StepC w A:=⟨h1⟩;have j2:BlkC A g2 48 [.slice A2 (L.take k).length c2]:=⟨h2⟩;have j3:RowC A (.slice A2 (L.take k).length c2) w 74 2 (L.take k).length (encL (L.take k)):=⟨h3⟩;exact⟨ExtC.h,A2,c2,(inferInstance:BlkC B g2 48 _).h,(inferInstance:RowC B _ w 74 2 _ _).h⟩
 case hIr=>exact fun k A B ⟨h1,A2,c2,h2,h3⟩h=>⟨h1.trans h,A2,c2,h2.ext h,mC h3 h⟩
 case hIx=>exact fun _ _ _ _ _ h=>h.elim
 case hIxr=>exact fun _ _ _ _ h=>h.elim
 case h0=>exact⟨ExtC.h,none,0,by simpa using hB2.h,by simpa [encL_nil] using World.ownsRow_nil V0 w.heap.size 74 2⟩
 case hs0=>exact⟨(inferInstance:BlkC V0 g1 48 [.slice A L.length c]).h,hL.ext ExtC.h⟩
 case hround=>
  intro l k hk W hl hI hS;obtain⟨hE,A2,c2,hb,ho⟩:=hI;have hsn:=List.take_succ_eq_append_getElem hk;obtain⟨⟨a,b⟩,hx⟩:∃x,L[k]=x:=⟨_,rfl⟩;obtain⟨m,hm⟩:∃m,L.take k=m:=⟨_,rfl⟩;have hml:m.length≤1000000:=by rw[←hm,List.length_take];omega
  rw[hm] at hb ho hsn;rw[hx] at hsn;have j1:StepC w W:=⟨hE⟩;have j2:BlkC W g2 48 [.slice A2 m.length c2]:=⟨hb⟩;have j3:RowC W (.slice A2 m.length c2) w 74 2 m.length (encL m):=⟨ho⟩;have Hsn:=Lib.hid hsn;have HS:=Lib.hid hS;rw[hx,rAct1];simp only[Enc.val,List.setIfInBounds_toArray,List.set_cons_zero,List.set_cons_succ];clear hx hm hsn hb ho hS;gi_wp2_with (first|(refine aK (by rintro⟨_,_,h⟩;exact h) (by kernel_rfl) ?_;go_wp2_with (first|(with_reducible refine aG ?_;intro V g _ _ _))))
  refine⟨ExtC.h,fun V2 hc2 _=> ?_⟩
  gi_wp2_with (first|(refine aK (by rintro⟨_,_,h⟩;exact h) (by kernel_rfl) ?_;go_wp2_with (first|(with_reducible refine aA ?_)|(with_reducible refine aI ?_;intro V _ _)|(with_reducible refine aD ?_;intro V g _ _ _)|(with_reducible refine bR ?_;intro _ _ V hR _))))
  refine⟨KfC.h,⟨ExtC.h,?_⟩,?_⟩
  ·exact Gy Hsn.out inferInstance inferInstance
  ·exact⟨(inferInstance:BlkC V g1 48 [.slice A L.length c]).h,hL.ext ExtC.h⟩
 case hdone=>
  intro D W hD hI hk;obtain⟨hE,A2,c2,hb,ho⟩:=hI;rw[List.take_length] at hb ho;have j1:StepC w W:=⟨hE⟩;have j2:BlkC W g2 48 [.slice A2 L.length c2]:=⟨hb⟩;have j3:RowC W (.slice A2 L.length c2) w 74 2 L.length (encL L):=⟨ho⟩;go_wp2_with (first|(with_reducible refine aA ?_))
  have j4:CtlC W (W.putObj D (.deferred none)) w:=gI hk (by have:=hE0.h.size;omega)
  refine iW rfl hk ?_;go_ret
  exact⟨A2,c2,w,rfl,(inferInstance:RowC _ (.slice A2 L.length c2) w 74 2 L.length (encL L)),⟨ExtC.h⟩⟩
 case hstop=>exact fun _ _ _ _ _ _ h=>h.elim
instance{W:World}{g1 c:Nat}{A:Option Addr}{L:List Right}[hB:BlkC W g1 48 [.slice A L.length c]][hL:ListC Right W (.slice A L.length c) L][q:LenC L]:FunC Tryz.prog 255 #[.slice none 0 0,.func (.func 280) #[] #[.pointer (some ⟨g1,0,none⟩)]] W (RRw 74 W L):=⟨sD g1 c A L W hL.h q.h⟩
theorem yL(g1 c:Nat)(A:Option Addr)(L:List Right)(w:World)[hB:BlkC w g1 48 [.slice A L.length c]][hL:ListC Right w (.slice A L.length c) L][q:LenC L]:
 Calls Tryz.prog 197 #[.func (.func 280) #[] #[.pointer (some ⟨g1,0,none⟩)]] w (RRw 74 w L):=by
 have i1:ListB Right w (.slice A L.length c) L:=⟨hL.h⟩;go_enter Tryz.func197,Tryz.ntmps197
 go_wp2_with (first|(with_reducible refine aB ?_;rintro _ V ⟨A8,c8,B8,rfl,hR8,(_:StepC _ _)⟩))
 go_ret
 exact⟨A8,c8,B8,rfl,hR8,⟨ExtC.h⟩⟩
instance{W:World}{g1 c:Nat}{A:Option Addr}{L:List Right}[hB:BlkC W g1 48 [.slice A L.length c]][hL:ListC Right W (.slice A L.length c) L][q:LenC L]:FunC Tryz.prog 197 #[.func (.func 280) #[] #[.pointer (some ⟨g1,0,none⟩)]] W (RRw 74 W L):=⟨yL g1 c A L W⟩
end Go.Rg
end
