/- Chapter 11: contracts of functions of the program and of the reference, and plain laws (out of RRi RRj RSc). No condition of its own. -/
import Derived.Test.YtbfbepnkofampaaGreatDoorYP20
set_option maxRecDepth 100000
set_option linter.all false
section
namespace Go.Rg
open Go Go.Bp Go.RowKit Go.Walk Go.Proofs
set_option synthInstance.maxSize 2000
set_option synthInstance.maxHeartbeats 400000
set_option maxHeartbeats 4000000
theorem enc_repl(n:Nat):Array.replicate n (Value.bool false)=(encL (List.replicate n false)).toArray:=by rw[encB];simp
theorem mark_succ(o:List Bool)(l:List Int)(k:Nat)(y:Nat)(h:k<l.length)(hy:l[k]=(y:Int)):Sys.markAll o (l.take (k+1))=(Sys.markAll o (l.take k)).set y true:=by
 unfold Sys.markAll;rw[List.take_succ_eq_append_getElem h,List.foldl_append,hy];rfl
set_option maxHeartbeats 8000000 in
theorem Cover_any(s:Sys)(v:Value)(c:Nat)(w:World)(h:SysV w v s)(hc:c<s.classes.length)(hn:s.classes.length≤12)(hio:s.InclOk):Calls Tryz.prog 99 #[v,.int .i64 c] w (fun e W'=>∃g,e=.returned (.slice (some ⟨g,0,none⟩) s.classes.length s.classes.length)∧Blk W' g 4 (encL (s.coverL c)).toArray∧StepC w W'):=by
 obtain⟨A,n,cp,A',c',rfl,hnn,hC,hD⟩:=h.h;obtain⟨m,hm1,hm2,hm3⟩:=hC.h;have hml:m.length=n:=by rw[hnn,←hm1,List.length_map]
 obtain⟨ad,rfl,-⟩:=hm2.elem (i:=0) (by omega)
 have Hel:=Lib.hid (show∀j(hj:j<m.length),CellsB w (ad.add (j*5)) [.string (m[j]).c.name,.slice (m[j]).a (m[j]).c.incl.length (m[j]).k,.int .i64 (m[j]).c.needs,.int .i64 (m[j]).c.age,.int .i64 (m[j]).c.term] from fun j hj=>by
  obtain⟨ad',e,hc⟩:=hm2.elem hj
  cases e
  exact⟨hc⟩)
 have Hat:=Lib.hid (show∀j(hj:j<m.length),(s.at_ (j:Nat)).incl=(m[j]).c.incl from fun j hj=>by rw[Sys.at_eq (by omega)];simp[←hm1])
 have Hio:=Lib.hid (show∀j(hj:j<m.length),∀y∈(m[j]).c.incl,0≤y∧y<n from fun j hj y hy=>by rw[hnn];exact hio (j:Nat) y (by rw[Hat.out j hj];exact hy))
 have Hm3:=Lib.hid hm3;have Hml:=Lib.hid hml;have hcn:c<n:=by omega
 have hn12:n≤12:=by omega
 obtain⟨o0,ho0⟩:∃o,(List.replicate n false).set c true=o:=⟨_,rfl⟩;have hol:o0.length=n:=by rw[←ho0];simp
 have Hres:=Lib.hid (show s.coverL c=s.sweeps o0 n from by unfold Sys.coverL;rw[←hnn,←ho0];simp)
 have Hsw:=Lib.hid (show∀o:List Bool,s.sweep o=s.sweepTo o n from fun o=>by unfold Sys.sweep;rw[←hnn])
 have Hol:=Lib.hid hol;have hcs:c<(encL (List.replicate n false)).toArray.size:=by rw[encB];simpa using hcn
 rw[←hnn];have i1:SysB w (.agg #[.slice (some ad) n cp,.slice A' s.codes.length c']) s:=⟨h⟩;clear hm1 hml hnn hc hn hol hm3 hio;go_enter Tryz.func99,Tryz.ntmps99
 go_wp2_with (first|(with_reducible refine load_c ?_)|(with_reducible refine box_c ?_;intro V2 g2 _ _ _)|(with_reducible refine make_c ?_;intro V3 gb hE3 hM hA)|((with_reducible refine bstore (off:=c) (v:=.bool true) (by rw[←enc_repl];exact hM) ?_ ⟨by with_unfolding_all rfl,by with_unfolding_all rfl,by with_unfolding_all rfl,by with_unfolding_all rfl,hcs,by with_unfolding_all rfl⟩);intro V hs hB;rw[set_enc,ho0] at hB))
 have hg0:V3.grownBy V (some gb):=hs.h;clear hs;go_loopw [6] (fun iv wr=>V3.grownBy wr (some gb)∧∃a:Nat,a≤n∧iv=.int .i64 a∧Blk wr gb 4 (encL (s.sweeps o0 a)).toArray) (fun iv _=>n-(RowKit.intOf iv).toNat)
 case atStart=>exact⟨hg0,0,by omega,rfl,hB⟩
 case round=>
  obtain⟨hg1,a,ha,rfl,hB1⟩:=hrel;have hs1:StoreC V3 wr gb:=⟨hg1⟩;by_cases la:a<n
  ·obtain⟨o1,ho1⟩:∃o,s.sweeps o0 a=o:=⟨_,rfl⟩;have Hs1:=Lib.hid (show s.sweeps o0 (a+1)=s.sweepTo o1 n from by unfold Sys.sweeps;rw[Hsw.out,ho1])
   have hl1:o1.length=n:=by rw[←ho1,Sys.sweeps_len];exact Hol.out
   have Hl1:=Lib.hid hl1;rw[ho1] at hB1;have za:IntKind.i64.wrap ((a:Int)+1)=(a:Int)+1:=IntWalk.i64_in _ (by omega)
   clear ho1 hl1;go_wp2_with (first|(with_reducible refine load_c ?_))
   go_loopw [7] (fun iv wr=>V3.grownBy wr (some gb)∧∃b:Nat,b≤n∧iv=.int .i64 b∧Blk wr gb 4 (encL (s.sweepTo o1 b)).toArray) (fun iv _=>n-(RowKit.intOf iv).toNat)
   case atStart=>exact⟨hg1,0,by omega,rfl,hB1⟩
   case round=>
    obtain⟨hg2,b,hb,rfl,hB2⟩:=hrel;have hs2:StoreC V3 wr gb:=⟨hg2⟩;by_cases lb:b<n
    ·obtain⟨o2,ho2⟩:∃o,s.sweepTo o1 b=o:=⟨_,rfl⟩;have hbm:b<m.length:=by have:=Hml.out;omega
     have i8:=Hel.out b hbm;have hI:=Hm3.out _ (List.getElem_mem hbm);have hat:=Hat.out b hbm;have hio:=Hio.out b hbm;obtain⟨⟨⟨nm,ic,ne,ag,te⟩,xa,xk⟩,hq⟩:∃y,m[b]=y:=⟨_,rfl⟩;rw[hq] at i8 hI hat hio;simp only at i8 hI hat hio;have Hio2:=Lib.hid hio;have Hs2:=Lib.hid (show s.sweepTo o1 (b+1)=if o2.getD b false=true then Sys.markAll o2 ic else o2 from by rw[Sys.sweepTo_succ,ho2];unfold Sys.sweep1;rw[hat])
     have hl2:o2.length=n:=by rw[←ho2,Sys.sweepTo_len];exact Hl1.out
     have Hl2:=Lib.hid hl2;rw[ho2] at hB2;obtain⟨-,q1,q2⟩:=hI.caps;have zb:IntKind.i64.wrap ((b:Int)+1)=(b:Int)+1:=IntWalk.i64_in _ (by omega)
     clear ho2 hl2 hq hat hio hbm;go_wp2_with (first|(with_reducible refine load_c ?_))
     go_loopw [8] (fun iv wr=>V3.grownBy wr (some gb)∧∃k:Nat,k≤ic.length∧(k=0∨o2.getD b false=true)∧iv=.int .i64 k∧Blk wr gb 4 (encL (Sys.markAll o2 (ic.take k))).toArray) (fun iv _=>ic.length-(RowKit.intOf iv).toNat)
     case atStart=>exact⟨hg2,0,by omega,.inl rfl,rfl,hB2⟩
     case round=>
      obtain⟨hg3,k,hk,hko,rfl,hB3⟩:=hrel;have hs3:StoreC V3 wr gb:=⟨hg3⟩;have Hko:=Lib.hid hko;clear hko;obtain⟨o3,ho3⟩:∃o,Sys.markAll o2 (ic.take k)=o:=⟨_,rfl⟩;have hl3:o3.length=n:=by rw[←ho3,Sys.markAll_len];exact Hl2.out
      rw[ho3] at hB3;have hbl:b<o3.length:=by rw[hl3];exact lb
      have i9:=CellB.mk (bool_cell hB3 hbl);have hbo:o2.getD b false=true→o3.getD b false=true:=fun h=>by rw[←ho3];exact(Sys.markAll_iff _ _ _).2 (.inr h)
      have hk0:k=0→o3=o2:=fun h=>by subst h;rw[←ho3];rfl
      by_cases lk:k<ic.length
      ·obtain⟨t,ht⟩:∃t,o3.getD b false=t:=⟨_,rfl⟩;rw[ht] at i9
       cases t
       ·have Hfin:=Lib.hid (show o3=s.sweepTo o1 (b+1) from by
         have e:o2.getD b false=false:=by cases e:o2.getD b false;rfl;rw[hbo e] at ht;cases ht
         have k0:k=0:=by rcases Hko.out with h|h;exact h;rw[e] at h;cases h
         rw[Hs2.out,if_neg (by rw[e];simp)];exact hk0 k0)
        clear ho3 hbo hk0 ht hbl hl3;go_wp2_with (first|(with_reducible refine load_c ?_)|(with_reducible refine load_g ?_))
        exact⟨⟨hg3,b+1,lb,by push_cast;rfl,by rw[←Hfin.out];exact hB3⟩,by simp[RowKit.intOf];omega⟩
       ·have ho2:o2.getD b false=true:=by
         rcases Hko.out with h|h
         ·rw[←hk0 h];exact ht
         ·exact h
        obtain⟨bd,rfl,hcb⟩:=(hI.ext (ExtC.h:Ext w wr)).elem lk;have hy:=Hio2.out ic[k] (List.getElem_mem lk);obtain⟨y,hyy⟩:∃y:Nat,ic[k]=(y:Int):=⟨ic[k].toNat,by omega⟩
        have hms:=mark_succ o2 ic k y lk hyy;rw[ho3] at hms;have Hms:=Lib.hid hms;have Ho2:=Lib.hid ho2;rw[hyy] at hcb hy;have i10:CellsB wr (bd.add k) [.int .i64 y]:=⟨by simpa [Enc.size,Enc.enc] using hcb⟩
        have hyb:y<(encL o3).toArray.size:=by rw[encB];simp;omega
        have hyn:y<n:=by omega
        have zk:IntKind.i64.wrap ((k:Int)+1)=(k:Int)+1:=IntWalk.i64_in _ (by omega)
        clear hms ho2 hyy hcb ho3 hbo hk0 ht hbl hl3 hy;go_wp2_with (first|((with_reducible refine bstore (off:=y) (v:=.bool true) hB3 ?_ ⟨by with_unfolding_all rfl,by with_unfolding_all rfl,by with_unfolding_all rfl,by with_unfolding_all rfl,hyb,by with_unfolding_all rfl⟩);intro V hs4 hB4;rw[set_enc] at hB4)|(first|(with_reducible refine load_c ?_)|(with_reducible refine load_g ?_)))
        (try simp only[pS])
        go_roundw
        case rel=>exact⟨grown_trans hg3 hs4.h,k+1,lk,.inr Ho2.out,by push_cast;rfl,by rw[Hms.out];exact hB4⟩
        case measure=>simp[RowKit.intOf];omega
      ·obtain rfl:k=ic.length:=by omega
       rw[List.take_length] at ho3;have Hfin:=Lib.hid (show o3=s.sweepTo o1 (b+1) from by
        rw[Hs2.out];rcases Hko.out with h|h
        ·have:ic=[]:=List.length_eq_zero_iff.1 h;subst this;rw[←ho3];split<;>rfl
        ·rw[if_pos h];exact ho3.symm)
       clear ho3 hbo hk0 hbl hl3;go_wp2_with (first|(with_reducible refine load_c ?_))
       exact⟨⟨hg3,b+1,lb,by push_cast;rfl,by rw[←Hfin.out];exact hB3⟩,by simp[RowKit.intOf];omega⟩
    ·obtain rfl:b=n:=by omega
     go_wp2_with (first|(with_reducible refine load_c ?_))
     exact⟨⟨hg2,a+1,la,by push_cast;rfl,by rw[Hs1.out];exact hB2⟩,by simp[RowKit.intOf];omega⟩
  ·obtain rfl:a=n:=by omega
   have hres:=Hres.out;rw[←hres] at hB1;clear hres;go_wp2_with (first|(with_reducible refine load_c ?_))
   go_ret
   exact⟨gb,rfl,hB1,⟨ExtC.h⟩⟩
class CovE (s:Sys) (c n:Nat) (l:outParam (List Bool)):Prop where h:(c<s.classes.length∧s.classes.length=n∧n≤12∧s.InclOk)∧s.coverL c=l
class GetB (l:List Bool) (i:Nat) (b:outParam Bool):Prop where h:i<l.length∧l.getD i false=b
instance{l:List Bool}{i:Nat}{b:Bool}[q:GetB l i b]:NthC (encL l) i (.bool b):=⟨by
 obtain⟨h1,rfl⟩:=q.h;have:=List.getElem?_eq_getElem h1;rw[encB];simp[List.getD,h1]⟩
instance{W:World}{A A':Option Addr}{n m c c' k:Nat}{s:Sys}{l:List Bool}[h:SysC W (.agg #[.slice A n c,.slice A' m c']) s][q:CovE s k n l]:FunC Tryz.prog 99 #[.agg #[.slice A n c,.slice A' m c'],.int .i64 k] W (fun e W'=>∃g,e=.returned (.slice (some ⟨g,0,none⟩) n n)∧BlkC W' g 4 (encL l)∧StepC W W'):=⟨by
 obtain⟨⟨h1,h2,h3,h4⟩,rfl⟩:=q.h;subst h2;exact(Cover_any s _ k W h.h h1 h3 h4).mono fun e W' ⟨g,he,hb,hs⟩=>⟨g,he,⟨hb⟩,hs⟩⟩
end Go.Rg
end
section
namespace Go.Rg
open Go Go.Bp Go.RowKit Go.Walk Go.Proofs
set_option synthInstance.maxSize 2000
set_option synthInstance.maxHeartbeats 400000
set_option maxHeartbeats 4000000
set_option maxHeartbeats 8000000 in
theorem RCheck1_any(s:Sys)(v:Value)(p a r:Int)(w:World)(h:SysV w v s)(hk:s.check=(p,a,r)):Calls Tryz.prog 58 #[v] w (RIII w p a r):=by
 obtain⟨A,n,cp,A',c',rfl,hnn,hC,hD⟩:=h.h;have i1:=SysB.mk h;have hcap:=hD.caps.2;by_cases b1:inB s.classes.length 1 12=false∨8<s.codes.length
 ·rw[check_1 b1] at hk;injection hk with h1 h2
  injection h2 with h2 h3
  subst h1 h2 h3;subst hnn;obtain⟨e1,g1⟩:∃e,inB s.classes.length 1 12=e:=⟨_,rfl⟩;rw[g1] at b1;by_cases e2:8<s.codes.length
  ·have q2:((s.codes.length:Int)>8):=by omega
   clear b1
   cases e1
   all_goals
    go_enter Tryz.func58,Tryz.ntmps58
    go_wp2_with (first|go_skip|(with_reducible refine load_c ?_)|(with_reducible refine load_g ?_)|(with_reducible refine call_c ?_;first|rintro _ V ⟨rfl,(_:StepC _ _)⟩)|(with_reducible refine box_c ?_;intro V g _ _ _))
    all_goals(go_ret3;exact⟨rfl,⟨ExtC.h⟩⟩)
  ·obtain rfl:e1=false:=by rcases b1 with h|h;exact h;exact absurd h e2
   clear b1;go_enter Tryz.func58,Tryz.ntmps58
   go_wp2_with (first|go_skip|(with_reducible refine load_c ?_)|(with_reducible refine call_c ?_;first|rintro _ V ⟨rfl,(_:StepC _ _)⟩)|(with_reducible refine box_c ?_;intro V g _ _ _))
   all_goals(go_ret3;exact⟨rfl,⟨ExtC.h⟩⟩)
 have g1:inB s.classes.length 1 12=true:=by cases hh:inB s.classes.length 1 12;exact absurd (.inl hh) b1;rfl
 have g2:¬8<s.codes.length:=fun h=>b1 (.inr h)
 have q2:¬((s.codes.length:Int)>8):=by omega
 have B1:=Lib.hid b1;have hn12:=inB_t.1 g1;rw[←hnn] at g1;have hn2:1≤n∧n≤12:=by omega
 have Hk:=Lib.hid hk;have Hnn:=Lib.hid hnn;clear hk hnn b1 hn12;go_enter Tryz.func58,Tryz.ntmps58
 go_wp2_with (first|(with_reducible refine load_c ?_)|(with_reducible refine load_g ?_)|(with_reducible refine call_c ?_;first|rintro _ V ⟨rfl,(_:StepC _ _)⟩)|(with_reducible refine box_c ?_;intro V g _ _ _))
 go_loopw [5] (fun iv wr=>StepC V wr∧∃k:Nat,k≤n∧iv=.int .i64 k∧∀j(hj:j<k)(hl:j<s.classes.length),s.clsErr j s.classes[j]=0) (fun iv _=>n-(RowKit.intOf iv).toNat)
 case atStart=>exact⟨⟨ExtC.h⟩,0,by omega,rfl,fun j hj=>by omega⟩
 case round=>
  obtain⟨_,k,hk,rfl,hz⟩:=hrel;have Hz:=Lib.hid hz;clear hz;by_cases lk:k<n
  ·have hks:k<s.classes.length:=by have:=Hnn.out;omega
   obtain⟨e,he⟩:∃e,s.clsErr k s.classes[k]=e:=⟨_,rfl⟩;have i2:ClsE s k e:=⟨hks,by have:=Hnn.out;omega,he⟩
   have zk:IntKind.i64.wrap ((k:Int)+1)=(k:Int)+1:=IntWalk.i64_in _ (by omega)
   by_cases z:e=0
   ·subst z;have Hn:=Lib.hid (show∀j(hj:j<k+1)(hl:j<s.classes.length),s.clsErr j s.classes[j]=0 from fun j hj hl=>by
     by_cases hjk:j=k
     ·subst hjk;exact he
     ·exact Hz.out j (by omega) hl)
    clear he hks;go_wp2_with (first|(with_reducible refine load_c ?_)|(with_reducible refine call_c ?_;first|rintro _ V ⟨rfl,(_:StepC _ _)⟩))
    go_roundw
    case rel=>exact⟨⟨ExtC.h⟩,k+1,lk,rfl,Hn.out⟩
    case measure=>simp[RowKit.intOf];omega
   ·have hf:=check_2 (s:=s) (a:=(k:Int)) (r:=e) B1.out (by rw[firstE_at (k:=k) hks (by rw[he];exact z) (fun i hi=>Hz.out i hi (by omega)),he]) z
    rw[Hk.out] at hf;injection hf with h1 h2
    injection h2 with h2 h3
    subst h1 h2 h3;have q:(r !=0)=true:=by simpa using z
    clear he hks;go_wp2_with (first|(with_reducible refine load_c ?_)|(with_reducible refine call_c ?_;first|rintro _ V ⟨rfl,(_:StepC _ _)⟩))
    go_ret3
    exact⟨rfl,⟨ExtC.h⟩⟩
  ·obtain rfl:k=n:=by omega
   have Hc:=Lib.hid (show firstE s.classes s.clsErr=(0,0) from firstE_none fun i hi=>Hz.out i (by have:=Hnn.out;omega) hi)
   go_wp2_with (first|(with_reducible refine load_c ?_))
   go_loopw [7] (fun iv wr=>StepC V wr∧∃k:Nat,k≤s.codes.length∧iv=.int .i64 k∧∀j(hj:j<k),nameErr s.codes j=0) (fun iv _=>s.codes.length-(RowKit.intOf iv).toNat)
   case atStart=>exact⟨⟨ExtC.h⟩,0,by omega,rfl,fun j hj=>by omega⟩
   case round=>
    obtain⟨_,q,hq,rfl,hz2⟩:=hrel;have Hz2:=Lib.hid hz2;clear hz2;by_cases lq:q<s.codes.length
    ·have i3:=ListB.mk (hD.upto (k:=q) (by omega))
     obtain⟨ad,rfl,hcx⟩:=(hD.ext (ExtC.h:Ext w wr)).elem lq;have hsz:=h.wf.code _ (List.getElem_mem lq);have hne:nameErr s.codes q=if isName s.codes[q]=false then 6 else if((s.codes.take q).any fun y=>decide (y=s.codes[q]))=true then 5 else 0:=by
      unfold nameErr;have e:s.codes.getD q ByteArray.empty=s.codes[q]:=by simp[List.getD,lq]
      rw[e];have:(s.codes[q]∈s.codes.take q)↔((s.codes.take q).any fun y=>decide (y=s.codes[q]))=true:=by simp
      simp only[this]
     rw[←idxP_ge] at hne;have Hst:=Lib.hid (show∀e,e≠0→nameErr s.codes q=e→p=3∧a=q∧r=e from fun e h0 he=>by
      have hf:=check_3 (s:=s) (a:=(q:Int)) (r:=e) B1.out Hc.out (by rw[firstE_at (f:=fun i _=>nameErr s.codes i) (k:=q) lq (by rw[he];exact h0) (fun i hi=>Hz2.out i hi),he]) h0
      rw[Hk.out] at hf;injection hf with h1 h2
      injection h2 with h2 h3
      exact⟨h1,h2,h3⟩)
     have Hnx:=Lib.hid (show nameErr s.codes q=0→∀j(hj:j<q+1),nameErr s.codes j=0 from fun h0 j hj=>by
      by_cases hjk:j=q
      ·subst hjk;exact h0
      ·exact Hz2.out j (by omega))
     obtain⟨x,hx⟩:∃x,s.codes[q]=x:=⟨_,rfl⟩;rw[hx] at hcx hsz hne;have i4:CellsB wr (ad.add q) [.string x]:=⟨by simpa [Enc.size,Enc.enc] using hcx⟩
     have i5:=SzC.mk hsz;have zq:IntKind.i64.wrap ((q:Int)+1)=(q:Int)+1:=IntWalk.i64_in _ (by omega)
     have hqc:q≤c':=by omega
     have Hx:=Lib.hid hx;obtain⟨d1,e1⟩:∃d,isName x=d:=⟨_,rfl⟩;obtain⟨d2,e2⟩:∃d,decide (0≤idxP (fun y=>decide (y=x)) (s.codes.take q))=d:=⟨_,rfl⟩
     rw[e1,e2] at hne;clear hcx hx
     cases d1
     ·rw[if_pos rfl] at hne;obtain⟨rfl,rfl,rfl⟩:=Hst.out 6 (by decide) hne
      clear hne Hst Hnx;go_wp2_with (first|(with_reducible refine load_c ?_)|(with_reducible refine call_c ?_;first|rintro _ V ⟨rfl,(_:StepC _ _)⟩))
      go_ret3
      exact⟨rfl,⟨ExtC.h⟩⟩
     ·cases d2
      ·rw[if_neg (by simp),if_neg (by simp)] at hne
       have Hn:=Lib.hid (Hnx.out hne);clear hne Hst Hnx;go_wp2_with (first|(with_reducible refine load_c ?_)|(with_reducible refine call_c ?_;first|rintro _ V ⟨rfl,(_:StepC _ _)⟩))
       refine wp_rd ((.take 0 (.take 1 (.take 2 (.take 3 (.take 4 (.take 5 (.take 6 (.take 7 (.take 8 (.one 9 (.take 10 .nil)))))))))))) (fun hHd=> ?_) (hQ:=by intro _ _ _ _ _ h;exact h)
       repeat' first|((with_reducible refine t_tk ?_);(first|(refine tk (v:= ?_) ?_ hHd ?_;rotate_left;(·(intro W' h;have:=StepC.mk h;first|with_reducible exact run_lc)))|(refine tk (v:= ?_) ?_ hHd ?_;rotate_left;(·(intro wq hSw;go_simp;(try with_reducible rfl)))));(try simp only[pS]))|((with_reducible refine t_on ?_);refine t_one (by simp only[gS];rfl) ?_)|((with_reducible refine callop_c ?_);first|(rintro _ V ⟨rfl,(_:StepC _ _)⟩;refine⟨_,rfl,?_⟩))|((with_reducible refine q_nl ?_);clear hHd;refine t_next ExtC.h (fun hHd=> ?_);(try simp only[pS]))|(with_reducible refine t_done ?_)
       all_goals
        go_wp2
        go_roundw
        case rel=>exact⟨⟨ExtC.h⟩,q+1,lq,rfl,Hn.out⟩
        case measure=>simp[RowKit.intOf];omega
      ·rw[if_neg (by simp),if_pos rfl] at hne
       obtain⟨rfl,rfl,rfl⟩:=Hst.out 5 (by decide) hne
       clear hne Hst Hnx;go_wp2_with (first|(with_reducible refine load_c ?_)|(with_reducible refine call_c ?_;first|rintro _ V ⟨rfl,(_:StepC _ _)⟩))
       refine wp_rd ((.take 0 (.take 1 (.take 2 (.take 3 (.take 4 (.take 5 (.take 6 (.take 7 (.take 8 (.one 9 (.take 10 .nil)))))))))))) (fun hHd=> ?_) (hQ:=by intro _ _ _ _ _ h;exact h)
       repeat' first|((with_reducible refine t_tk ?_);(first|(refine tk (v:= ?_) ?_ hHd ?_;rotate_left;(·(intro W' h;have:=StepC.mk h;first|with_reducible exact run_lc)))|(refine tk (v:= ?_) ?_ hHd ?_;rotate_left;(·(intro wq hSw;go_simp;(try with_reducible rfl)))));(try simp only[pS]))|((with_reducible refine t_on ?_);refine t_one (by simp only[gS];rfl) ?_)|((with_reducible refine callop_c ?_);first|(rintro _ V ⟨rfl,(_:StepC _ _)⟩;refine⟨_,rfl,?_⟩))|((with_reducible refine q_nl ?_);clear hHd;refine t_next ExtC.h (fun hHd=> ?_);(try simp only[pS]))|(with_reducible refine t_done ?_)
       all_goals
        go_wp2
        go_ret3
        exact⟨rfl,⟨ExtC.h⟩⟩
    ·obtain rfl:q=s.codes.length:=by omega
     have H4:=Lib.hid (show s.check=_ from check_4 (s:=s) (a:=0) (a2:=0) B1.out Hc.out (firstE_none fun i hi=>Hz2.out i hi))
     have hio:s.InclOk:=inclOk_of (by rw[Hc.out])
     have Hio:=Lib.hid hio;obtain⟨m,hm1,hm2,hm3⟩:=hC.h;have hml:m.length=k:=by rw[Hnn.out,←hm1,List.length_map]
     obtain⟨ad,rfl,-⟩:=hm2.elem (i:=0) (by omega)
     have Hel:=Lib.hid (show∀j(hj:j<m.length),CellsB w (ad.add (j*5)) [.string (m[j]).c.name,.slice (m[j]).a (m[j]).c.incl.length (m[j]).k,.int .i64 (m[j]).c.needs,.int .i64 (m[j]).c.age,.int .i64 (m[j]).c.term] from fun j hj=>by
      obtain⟨ad',e,hc⟩:=hm2.elem hj
      cases e
      exact⟨hc⟩)
     have Hat:=Lib.hid (show∀j(hj:j<m.length),(s.at_ (j:Nat)).incl=(m[j]).c.incl from fun j hj=>by rw[Sys.at_eq (by have:=Hnn.out;omega)];simp[←hm1])
     have Hm3:=Lib.hid hm3;have Hml:=Lib.hid hml;clear hml hm1 hm3 hio;go_wp2_with (first|(with_reducible refine load_c ?_))
     go_loopw [8] (fun iv wr=>StepC V wr∧∃i:Nat,i≤k∧iv=.int .i64 i∧∀j<i,((s.at_ (j:Nat)).incl.any fun y=>s.covers y j)=false) (fun iv _=>k-(RowKit.intOf iv).toNat)
     case atStart=>exact⟨⟨ExtC.h⟩,0,by omega,rfl,fun j hj=>by omega⟩
     case round=>
      obtain⟨_,i,hi,rfl,hb⟩:=hrel;have Hb:=Lib.hid hb;clear hb;by_cases li:i<k
      ·have him:i<m.length:=by have:=Hml.out;omega
       have i8:=Hel.out i him;have hI:=Hm3.out _ (List.getElem_mem him);have hat:=Hat.out i him;obtain⟨⟨⟨nm,ic,ne,ag,te⟩,xa,xk⟩,hy⟩:∃y,m[i]=y:=⟨_,rfl⟩;rw[hy] at i8 hI hat;simp only at i8 hI hat;have Hat2:=Lib.hid hat;obtain⟨-,c1,c2⟩:=hI.caps;have zi:IntKind.i64.wrap ((i:Int)+1)=(i:Int)+1:=IntWalk.i64_in _ (by omega)
       clear hy hat him;go_wp2_with (first|(with_reducible refine load_c ?_))
       go_loopw [9] (fun iv wr=>StepC V wr∧∃t:Nat,t≤ic.length∧iv=.int .i64 t∧∀j(hj:j<t)(hl:j<ic.length),s.covers ic[j] i=false) (fun iv _=>ic.length-(RowKit.intOf iv).toNat)
       case atStart=>exact⟨⟨ExtC.h⟩,0,by omega,rfl,fun j hj=>by omega⟩
       case round=>
        obtain⟨_,t,ht,rfl,hc⟩:=hrel;have Hc2:=Lib.hid hc;clear hc;by_cases lt:t<ic.length
        ·obtain⟨bd,rfl,hcb⟩:=(hI.ext (ExtC.h:Ext w wr)).elem lt;have hy:=Hio.out (i:Nat) ic[t] (by rw[Hat2.out];exact List.getElem_mem lt)
         obtain⟨y,hyy⟩:∃y:Nat,ic[t]=(y:Int):=⟨ic[t].toNat,by omega⟩
         obtain⟨b,hbv⟩:∃b,s.covers (y:Int) i=b:=⟨_,rfl⟩;have Hnx:=Lib.hid (show b=false→∀j(hj:j<t+1)(hl:j<ic.length),s.covers ic[j] i=false from fun h0 j hj hl=>by
          by_cases hjk:j=t
          ·subst hjk;rw[hyy,hbv];exact h0
          ·exact Hc2.out j (by omega) hl)
         have Hst:=Lib.hid (show b=true→p=4∧a=i∧r=9 from fun h0=>by
          have hl:=loop_at (s:=s) (i:=i) Hnn.out li (by rw[Hat2.out,List.any_eq_true];exact⟨ic[t],List.getElem_mem lt,by rw[hyy,hbv];exact h0⟩) (fun j hj=>Hb.out j hj)
          have hf:=H4.out;rw[hl,Hk.out] at hf;injection hf with h1 h2
          injection h2 with h2 h3
          exact⟨h1,h2,h3⟩)
         rw[hyy] at hcb hy;have i10:CellsB wr (bd.add t) [.int .i64 y]:=⟨by simpa [Enc.size,Enc.enc] using hcb⟩
         obtain⟨o,ho⟩:∃o,s.coverL (y:Int)=o:=⟨_,rfl⟩;have hol:o.length=k:=by rw[←ho];unfold Sys.coverL;rw[Sys.sweeps_len];simp;exact Hnn.out.symm
         have i11:CovE s y k o:=⟨⟨by omega,Hnn.out.symm,hn2.2,Hio.out⟩,ho⟩
         have i12:GetB o i b:=⟨by omega,by rw[←hbv,←ho];rfl⟩
         have zt:IntKind.i64.wrap ((t:Int)+1)=(t:Int)+1:=IntWalk.i64_in _ (by omega)
         clear hcb hyy hy ho hol hbv;go_wp2_with (first|(with_reducible refine load_c ?_))
         refine wp_rd ((.take 0 (.take 1 (.take 2 (.take 3 (.take 4 (.take 5 (.take 6 (.take 7 (.take 8 (.take 9 (.take 11 (.one 10 (.take 12 (.one 13 .nil))))))))))))))) (fun hHd=> ?_) (hQ:=by intro _ _ _ _ _ h;exact h)
         repeat' first|((with_reducible refine t_tk ?_);(first|(refine tk (v:= ?_) ?_ hHd ?_;rotate_left;(·(intro W' h;have:=StepC.mk h;first|with_reducible exact run_lc)))|(refine tk (v:= ?_) ?_ hHd ?_;rotate_left;(·(intro wq hSw;go_simp;(try with_reducible rfl)))));(try simp only[pS]))|((with_reducible refine t_on ?_);refine t_one (by simp only[gS];rfl) ?_)
         with_reducible refine callop_c ?_
         rintro _ V9 ⟨g9,rfl,_,(_:StepC _ _)⟩;refine⟨_,rfl,?_⟩;repeat' first|((with_reducible refine t_tk ?_);(first|(refine tk (v:= ?_) ?_ hHd ?_;rotate_left;(·(intro wq hSw;go_simp;(try with_reducible rfl)))));(try simp only[pS]))|((with_reducible refine t_on ?_);refine t_one (by simp only[gS];rfl) ?_)|((with_reducible refine q_nl ?_);clear hHd;refine t_next ExtC.h (fun hHd=> ?_);(try simp only[pS]))
         with_reducible refine load_c ?_
         repeat' first|((with_reducible refine q_nl ?_);clear hHd;refine t_next ExtC.h (fun hHd=> ?_);(try simp only[pS]))|(with_reducible refine t_done ?_)
         cases b
         ·have Hn:=Lib.hid (Hnx.out rfl);clear Hnx Hst;go_wp2
          go_roundw
          case rel=>exact⟨⟨ExtC.h⟩,t+1,lt,rfl,Hn.out⟩
          case measure=>simp[RowKit.intOf];omega
         ·obtain⟨rfl,rfl,rfl⟩:=Hst.out rfl;clear Hnx Hst;go_wp2
          go_ret3
          exact⟨rfl,⟨ExtC.h⟩⟩
        ·obtain rfl:t=ic.length:=by omega
         have Hn:=Lib.hid (show∀j<i+1,((s.at_ (j:Nat)).incl.any fun y=>s.covers y j)=false from fun j hj=>by
          by_cases hji:j=i
          ·subst hji;rw[Hat2.out,List.any_eq_false];intro y hy;obtain⟨q,hq,rfl⟩:=List.mem_iff_getElem.1 hy;have:=Hc2.out q hq hq;simp[this]
          ·exact Hb.out j (by omega))
         go_wp2_with (first|(with_reducible refine load_c ?_))
         exact⟨⟨⟨ExtC.h⟩,i+1,li,by push_cast;rfl,Hn.out⟩,by simp[RowKit.intOf];omega⟩
      ·obtain rfl:i=k:=by omega
       have hf:=H4.out;rw[loop_none Hnn.out Hb.out,Hk.out] at hf;injection hf with h1 h2
       injection h2 with h2 h3
       subst h1 h2 h3;go_wp2_with (first|(with_reducible refine load_c ?_))
       go_ret3
       exact⟨rfl,⟨ExtC.h⟩⟩
class RChk1E (s:Sys) (p a r:outParam Int):Prop where h:s.check=(p,a,r)
instance{W:World}{v:Value}{s:Sys}{p a r:Int}[h:SysC W v s][q:RChk1E s p a r]:FunC Tryz.prog 58 #[v] W (RIII W p a r):=⟨RCheck1_any s v p a r W h.h q.h⟩
end Go.Rg
end
section
namespace Go.Rg
open Go Go.Bp Go.RowKit Go.Walk Go.Proofs
set_option synthInstance.maxSize 2000
set_option synthInstance.maxHeartbeats 400000
set_option maxHeartbeats 4000000
class InE (n lo hi:Int) (b:outParam Bool):Prop where h:inB n lo hi=b
instance(priority:=1500){W:World}{n lo hi:Int}{b:Bool}[q:InE n lo hi b]:FunC Tryz.prog 60 #[.int .i64 n,.int .i64 lo,.int .i64 hi] W (RB W b):=⟨by
 rw[←q.h];exact(in11_any n lo hi W).mono fun e W' ⟨h,hE⟩=>⟨h,⟨hE▸Ext.refl _⟩⟩⟩
class NmE (s:ByteArray) (b:outParam Bool):Prop where h:s.size≤maxLen∧isName s=b
instance(priority:=1500){W:World}{s:ByteArray}{b:Bool}[p:NmE s b]:FunC Tryz.prog 111 #[.string s] W (RB W b):=⟨by
 rw[←p.h.2];exact(Name1_any s W p.h.1).mono fun e W' ⟨h,hE⟩=>⟨h,⟨hE▸Ext.refl _⟩⟩⟩
class RgtE (s:outParam Sys) (l:List Right) (e:outParam Int):Prop where h:s.rightsErr l=e
instance(priority:=1500){W:World}{v lv:Value}{s:Sys}{l:List Right}{e:Int}[h:SysC W v s][hl:ListC Right W lv l][q:CntC s][z:RgtE s l e]:FunC Tryz.prog 113 #[v,lv] W (RI W e):=⟨by rw[←z.h];exact RRights_any s v lv l W h.h hl.h q.h⟩
theorem rights_one{s:Sys}(x:Right):s.rightsErr [x]=s.rightErr x:=by
 unfold Sys.rightsErr;rw[if_neg (by simp)]
 by_cases hx:s.rightErr x=0
 ·rw[firstE_none (fun i hi=>by simp at hi;subst hi;exact hx),hx]
 ·rw[firstE_at (k:=0) (by simp) (by simpa using hx) (fun i hi=>by omega)];rfl
instance oneRight{W:World}{g:Nat}{t:TypeId}{a b:Int}[h:BlkC W g t [.int .i64 a,.int .i64 b]]:ListC Right W (.slice (some ⟨g,0,none⟩) 1 1) [⟨a,b⟩]:=⟨ListV.blk h.h rfl rfl (by simp[maxLen])⟩
theorem treaty_first(r:Rules)(i:Nat)(nm:ByteArray)(a b lo hi:Int){n0 d2 b4 b5 d5:Bool}{e:Int}(h0:isName nm=n0)(h2:((r.treaties.take i).any fun x=>decide (x.name=nm))=d2)(h3:r.sys.rightErr ⟨a,b⟩=e)(h4:inB lo 0 40000=b4)(h5:inB hi 0 40000=b5)(h6:decide (hi<lo)=d5):
 r.treatyErr i ⟨nm,⟨a,b⟩,⟨lo,hi⟩⟩=firstT [(!n0,6),(d2,5),(decide (e≠0),e),(!b4|| !b5,7),(d5,2)] 0:=by
 unfold Rules.treatyErr;simp only[h0,h2,h3,h4,h5];have e6:(hi<lo)=(d5=true):=by rw[←h6];simp
 simp only[e6];by_cases he:e=0
 ·subst he;cases n0<;>cases d2<;>cases b4<;>cases b5<;>cases d5<;>rfl
 ·cases n0<;>cases d2<;>cases b4<;>cases b5<;>cases d5<;>simp[firstT,he]
set_option maxHeartbeats 8000000 in
theorem rtreaty_any(r:Rules)(v:Value)(i:Nat)(w:World)(h:RulesV w v r)(hc:CntC r.sys)(hi0:i<r.treaties.length):Calls Tryz.prog 59 #[v,.int .i64 i] w (RI w (r.treatyErr i r.treaties[i])):=by
 obtain⟨A,n,c,A',c',A2,c2,rfl,hn,h1,h2,h3⟩:=h.h;subst hn;have i1:=RulesB.mk h;have i0:=SysB.mk h.sys;have hwf:=h.wf.2;have hcap:=h3.caps.2;obtain⟨ad,rfl,ha⟩:=h3.elem hi0;have i3':=ListB.mk h3;have hz:r.treaties[i].name.size≤maxLen:=hwf _ (List.getElem_mem hi0);obtain⟨⟨nm,⟨a,b⟩,lo,hi⟩,hx⟩:∃x,r.treaties[i]=x:=⟨_,rfl⟩;rw[hx] at ha hz⊢;have i4:CellsB w (ad.add (i*5)) [.string nm,.int .i64 a,.int .i64 b,.int .i64 lo,.int .i64 hi]:=⟨ha⟩;have i5:=SzC.mk hz;obtain⟨n0,e0⟩:∃x,isName nm=x:=⟨_,rfl⟩;obtain⟨d2,e2⟩:∃x,((r.treaties.take i).any fun x=>decide (x.name=nm))=x:=⟨_,rfl⟩
 obtain⟨e,e3⟩:∃x,r.sys.rightErr ⟨a,b⟩=x:=⟨_,rfl⟩;obtain⟨b4,e4⟩:∃x,inB lo 0 40000=x:=⟨_,rfl⟩;obtain⟨b5,e5⟩:∃x,inB hi 0 40000=x:=⟨_,rfl⟩;obtain⟨d5,e6⟩:∃x,decide (hi<lo)=x:=⟨_,rfl⟩;rw[treaty_first r i nm a b lo hi e0 e2 e3 e4 e5 e6];have i6:=InE.mk e4;have i7:=InE.mk e5;have e3':r.sys.rightsErr [⟨a,b⟩]=e:=by rw[rights_one,e3]
 have HT:=Lib.hid (show∀j(hj:j<r.treaties.length),j<i→r.treaties[j].name=nm→d2=true from fun j hj hji hn=>by
  rw[←e2];refine List.any_eq_true.2 ⟨r.treaties[j],?_,by simpa using hn⟩
  rw[List.mem_take_iff_getElem];exact⟨j,by omega,rfl⟩)
 have HF:=Lib.hid (show(∀j(hj:j<r.treaties.length),j<i→r.treaties[j].name≠nm)→d2=false from fun h=>by
  rw[←e2,List.any_eq_false];intro x hx;rw[List.mem_take_iff_getElem] at hx;obtain⟨j,hj,rfl⟩:=hx;simpa using h j (by omega) (by omega))
 have E3:=Lib.hid e3';have hgt:(lo>hi)=(hi<lo):=rfl;have e6':decide (lo>hi)=d5:=e6;clear e2 e3 e4 e5 e6 h1 h2 hx ha hwf e3' hgt h3;have i8:=NmE.mk ⟨hz,e0⟩;have i9:=RgtE.mk E3.out;clear E3
 cases n0
 ·go_enter Tryz.func59,Tryz.ntmps59
  go_wp2_with (first|(with_reducible refine load_c ?_)|(with_reducible refine call_c ?_;first|rintro _ V ⟨rfl,(_:StepC _ _)⟩)|(with_reducible refine newvar_c ?_;intro V g _ _ _)|(with_reducible refine box_c ?_;intro V g _ _ _))
  go_ret
  exact⟨rfl,⟨ExtC.h⟩⟩
 ·go_enter Tryz.func59,Tryz.ntmps59
  go_wp2_with (first|(with_reducible refine newvar_c (uu:=5) ?_;intro V5 g5 hE5 hB5 hA5)|(first|(with_reducible refine load_c ?_)|(with_reducible refine call_c ?_;first|rintro _ V ⟨rfl,(_:StepC _ _)⟩)|(with_reducible refine box_c ?_;intro V g _ _ _)))
  go_loopw [6] (fun iv wr=>StepC V5 wr∧∃k:Nat,k≤i∧iv=.int .i64 k∧∀j(hj:j<r.treaties.length),j<k→r.treaties[j].name≠nm) (fun iv _=>i-(RowKit.intOf iv).toNat)
  case atStart=>exact⟨⟨ExtC.h⟩,0,by omega,rfl,fun j _ hj=>by omega⟩
  case round=>
   obtain⟨_,k,hk,rfl,hz⟩:=hrel;have Hz:=Lib.hid hz;clear hz;by_cases lk:k<i
   ·have lk2:k<r.treaties.length:=by omega
    obtain⟨_,e1,ha⟩:=i3'.h.elem lk2;injection e1 with e1
    subst e1;have hT:=HT.out k lk2 lk;have hN:=Lib.hid (show r.treaties[k].name≠nm→∀j(hj:j<r.treaties.length),j<k+1→r.treaties[j].name≠nm from fun h j hj hj2=>by
     by_cases hjk:j=k
     ·subst hjk;exact h
     ·exact Hz.out j hj (by omega))
    obtain⟨⟨nk,⟨ka,kb⟩,klo,khi⟩,hx⟩:∃x,r.treaties[k]=x:=⟨_,rfl⟩;rw[hx] at ha hT hN;simp only at hT hN;have j1:CellsB w (ad.add (k*5)) [.string nk,.int .i64 ka,.int .i64 kb,.int .i64 klo,.int .i64 khi]:=⟨ha⟩;have zk:IntKind.i64.wrap ((k:Int)+1)=(k:Int)+1:=IntWalk.i64_in _ (by omega)
    have hb:=ba_tl nk nm;by_cases hkn:nk=nm
    ·obtain rfl:=hT hkn;rw[decide_eq_true hkn] at hb;clear hT hN hkn hx ha;go_wp2
     refine wp_rd ((.take 0 (.take 1 (.take 2 (.take 3 (.take 4 (.take 5 (.take 6 (.take 7 (.take 8 .nil)))))))))) (fun hHd=> ?_) (hQ:=by intro _ _ _ _ _ h;exact h)
     repeat' first|((with_reducible refine t_tk ?_);(first|(refine tk (v:= ?_) ?_ hHd ?_;rotate_left;(·(intro W' h;have:=StepC.mk h;first|with_reducible exact run_lc)))|(refine tk (v:= ?_) ?_ hHd ?_;rotate_left;(·(intro wq hSw;go_simp;(try with_reducible rfl)))));(try simp only[pS]))|(with_reducible refine t_done ?_)
     all_goals
      (try simp only[hb])
      go_wp2
      go_ret
      exact⟨rfl,⟨ExtC.h⟩⟩
    ·have Hn:=Lib.hid (hN.out hkn);rw[decide_eq_false hkn] at hb;clear hT hN hkn hx ha;go_wp2
     refine wp_rd ((.take 0 (.take 1 (.take 2 (.take 3 (.take 4 (.take 5 (.take 6 (.take 7 (.take 8 .nil)))))))))) (fun hHd=> ?_) (hQ:=by intro _ _ _ _ _ h;exact h)
     repeat' first|((with_reducible refine t_tk ?_);(first|(refine tk (v:= ?_) ?_ hHd ?_;rotate_left;(·(intro W' h;have:=StepC.mk h;first|with_reducible exact run_lc)))|(refine tk (v:= ?_) ?_ hHd ?_;rotate_left;(·(intro wq hSw;go_simp;(try with_reducible rfl)))));(try simp only[pS]))|(with_reducible refine t_done ?_)
     all_goals
      (try simp only[hb])
      go_wp2
      go_roundw
      case rel=>exact⟨⟨ExtC.h⟩,k+1,lk,by push_cast;rfl,Hn.out⟩
      case measure=>simp[RowKit.intOf];omega
   ·obtain rfl:k=i:=by omega
    obtain rfl:=HF.out (fun j hj hji=>Hz.out j hj hji)
    by_cases he:e=0
    ·subst he
     cases b4
     ·go_wp2_with (first|go_skip|(with_reducible refine load_c ?_)|(with_reducible refine call_c ?_;first|rintro _ V ⟨rfl,(_:StepC _ _)⟩)|(with_reducible refine bslice_c ?_;intro V g _ _ _))
      go_ret
      exact⟨rfl,⟨ExtC.h⟩⟩
     ·cases b5
      ·go_wp2_with (first|(with_reducible refine load_c ?_)|(with_reducible refine load_g ?_)|(with_reducible refine call_c ?_;first|rintro _ V ⟨rfl,(_:StepC _ _)⟩)|(with_reducible refine bslice_c ?_;intro V g _ _ _))
       go_ret
       exact⟨rfl,⟨ExtC.h⟩⟩
      ·cases d5
       all_goals
        go_wp2_with (first|(with_reducible refine load_c ?_)|(with_reducible refine load_g ?_)|(with_reducible refine call_c ?_;first|rintro _ V ⟨rfl,(_:StepC _ _)⟩)|(with_reducible refine bslice_c ?_;intro V g _ _ _))
        go_ret
        exact⟨rfl,⟨ExtC.h⟩⟩
    ·have q:(e !=0)=true:=by simpa using he
     have E:firstT [(!true,6),(false,5),(decide (e≠0),e),(!b4|| !b5,7),(d5,2)] 0=e:=by simp[firstT,he]
     have HE:=Lib.hid E;clear E he;go_wp2_with (first|(with_reducible refine load_c ?_)|(with_reducible refine call_c ?_;first|rintro _ V ⟨rfl,(_:StepC _ _)⟩)|(with_reducible refine bslice_c ?_;intro V g _ _ _))
     go_ret
     exact⟨by rw[HE.out];rfl,⟨ExtC.h⟩⟩
end Go.Rg
end
