import Derived.Test.YtbfbepnkofampaaGreatDoorXP23
set_option maxRecDepth 100000
set_option synthInstance.maxSize 2000
set_option synthInstance.maxHeartbeats 400000
set_option maxHeartbeats 8000000
set_option linter.all false
section
namespace Go.Rg
open Go Go.Bp Go.RowKit Go.Walk Go.Proofs
theorem Ra{s:Sys}{i:Nat}{c:Cls}(h:isName c.name=false):s.clsErr i c=6:=by unfold Sys.clsErr;rw[if_pos h]
theorem Qz{s:Sys}{i:Nat}{c:Cls}(h:isName c.name=true)(h2:((s.classes.take i).any fun x=>decide (x.name=c.name))=true):s.clsErr i c=5:=by unfold Sys.clsErr;rw[if_neg (by simp[h]),if_pos h2]
theorem Qy{s:Sys}{i n:Nat}{c:Cls}(hn:n=s.classes.length)(h:isName c.name=true)(h2:((s.classes.take i).any fun x=>decide (x.name=c.name))=false){d3 d6 e5 e7 e8:Bool}(e3:decide (n<c.incl.length)=d3)(h5:inB c.needs (-1) ((n:Int)-1)=e5)(e6:(c.needs==(i:Int))=d6)(h7:inB c.age 0 100=e7)(h8:inB c.term 0 100=e8):
 s.clsErr i c=firstT [(d3,3),(!(c.incl.all fun k=>inB k 0 ((n:Int)-1)),4),(!e5,4),(d6,2),(!e7|| !e8,7)] 0:=by
 unfold Sys.clsErr;subst hn;have o3:(s.classes.length<c.incl.length)=(d3=true):=by rw[←e3];simp
 have o6:(c.needs=(i:Int))=(d6=true):=by rw[←e6];simp
 rw[if_neg (by simp[h]),if_neg (by simp[h2]),h5,h7,h8]
 simp only[o3,o6];clear e3 e6 h5 h7 h8 o3 o6
 cases(c.incl.all fun k=>inB k 0 ((s.classes.length:Int)-1))<;>cases d3<;>cases d6<;>cases e5<;>cases e7<;>cases e8<;>rfl
theorem Ml(s:Sys)(v:Value)(i:Nat)(x:Cls)(w:World)(h:SysV w v s)(hi:i<s.classes.length)(hn:s.classes.length≤12)(hx:s.classes[i]=x):Calls Tryz.prog 110 #[v,.int .i64 i] w (RI w (s.clsErr i x)):=by
 obtain⟨A,n,c,A',c',rfl,hnn,hC,hD⟩:=h.h;obtain⟨m,hm1,hm2,hm3⟩:=hC.h;have hml:m.length=n:=by rw[hnn,←hm1,List.length_map]
 have hin:i<m.length:=by omega
 have hxm:m[i].c=x:=by rw[←hx];simp[←hm1]
 have hI:=hm3 _ (List.getElem_mem hin);obtain⟨ad,rfl,hcx⟩:=hm2.elem hin;have hsz:x.name.size≤maxLen:=by rw[←hx];exact h.wf.cls _ (List.getElem_mem hi)
 obtain⟨⟨⟨nm,ic,ne,ag,te⟩,xa,xk⟩,hy⟩:∃y,m[i]=y:=⟨_,rfl⟩;rw[hy] at hxm hI hcx;subst hxm;simp only at hI hsz;have i0:CellsB w (ad.add (i*5)) [.string nm,.slice xa ic.length xk,.int .i64 ne,.int .i64 ag,.int .i64 te]:=⟨hcx⟩;have i1:=ListB.mk hI;have i2:=SzC.mk hsz;obtain⟨-,q1,q2⟩:=hI.caps;have z1:IntKind.i64.wrap ((n:Int)-1)=(n:Int)-1:=IntWalk.i64_in _ (by omega)
 have hnn12:n≤12:=by omega
 have hin2:i<n:=by omega
 by_cases b1:isName nm=false
 ·rw[Ra b1];clear hm1 hml hy hcx hx hnn;go_enter Tryz.func110,Tryz.ntmps110
  go_wp2_with (first|(with_reducible refine aA ?_)|(with_reducible refine aB ?_;first|rintro _ V ⟨rfl,(_:StepC _ _)⟩)|(with_reducible refine aG ?_;intro V g _ _ _)|(with_reducible refine aH ?_;intro V g _ _ _))
  all_goals(try(go_ret;refine⟨?_,⟨ExtC.h⟩⟩;first|rfl))
 have b1:isName nm=true:=by simpa using b1
 have HB:=Lib.hid (fun h2=>Qz (s:=s) (i:=i) (c:=⟨nm,ic,ne,ag,te⟩) b1 h2)
 obtain⟨d3,e3⟩:∃b,decide (n<ic.length)=b:=⟨_,rfl⟩;obtain⟨e5,h5⟩:∃b,inB ne (-1) ((n:Int)-1)=b:=⟨_,rfl⟩;obtain⟨d6,e6⟩:∃b,(ne==(i:Int))=b:=⟨_,rfl⟩;obtain⟨e7,h7⟩:∃b,inB ag 0 100=b:=⟨_,rfl⟩;obtain⟨e8,h8⟩:∃b,inB te 0 100=b:=⟨_,rfl⟩;have HC:=Lib.hid (fun h2=>Qy (s:=s) (i:=i) (n:=n) (c:=⟨nm,ic,ne,ag,te⟩) hnn b1 h2 e3 h5 e6 h7 h8)
 simp only at HB HC;have Hel:=Lib.hid (show∀j(hj:j<m.length),CellsB w (ad.add (j*5)) [.string (m[j]).c.name,.slice (m[j]).a (m[j]).c.incl.length (m[j]).k,.int .i64 (m[j]).c.needs,.int .i64 (m[j]).c.age,.int .i64 (m[j]).c.term] from fun j hj=>by
  obtain⟨ad',e,hc⟩:=hm2.elem hj
  cases e
  exact⟨hc⟩)
 have ht:=uY hm1 i fun y=>decide (y.name=nm)
 have Ht:=Lib.hid ht;have Hml:=Lib.hid hml;obtain⟨R,hR⟩:∃R,s.clsErr i ⟨nm,ic,ne,ag,te⟩=R:=⟨_,rfl⟩;rw[hR] at HB HC⊢;have hil:i≤n:=by omega
 clear hm1 hml hy hcx hx hnn ht hR hin;go_enter Tryz.func110,Tryz.ntmps110
 go_wp2_with (first|(with_reducible refine aG (uu:=5) ?_;intro V5 g5 _ _ _)|(first|(with_reducible refine aA ?_)|(with_reducible refine aB ?_;first|rintro _ V ⟨rfl,(_:StepC _ _)⟩)|(with_reducible refine aH ?_;intro V g _ _ _)))
 go_loopw [6] (fun iv wr=>StepC V wr∧∃k:Nat,k≤i∧iv=.int .i64 k∧∀j(hj:j<k)(hl:j<m.length),decide (m[j].c.name=nm)=false) (fun iv _=>i-(RowKit.intOf iv).toNat)
 case atStart=>exact⟨⟨ExtC.h⟩,0,by omega,rfl,fun j hj=>by omega⟩
 case round=>
  obtain⟨_,k,hk,rfl,hz⟩:=hrel;have Hz:=Lib.hid hz;clear hz;by_cases hlt:k<i
  ·have hkn:k<n:=by omega
   have hkm:k<m.length:=by have:=Hml.out;omega
   have i8:=Hel.out k hkm;obtain⟨b,hb⟩:∃b,decide (m[k].c.name=nm)=b:=⟨_,rfl⟩;have hbe:((m[k]).c.name.toList==nm.toList)=b:=by rw[tE];exact hb
   have Hnx:=Lib.hid (show b=false→∀j(hj:j<k+1)(hl:j<m.length),decide (m[j].c.name=nm)=false from fun h0 j hj hl=>by
    by_cases hjk:j=k
    ·subst hjk;rw[hb];exact h0
    ·exact Hz.out j (by omega) hl)
   have Hst:=Lib.hid (show b=true→R=5 from fun h0=>HB.out (by
    rw[←Ht.out,List.any_eq_true];refine⟨m[k],?_,by rw[hb];exact h0⟩
    rw[List.mem_take_iff_getElem];exact⟨k,by omega,rfl⟩))
   obtain⟨⟨⟨n1,n2,n3,n4,n5⟩,n6,n7⟩,hq⟩:∃y,m[k]=y:=⟨_,rfl⟩;rw[hq] at i8 hbe;simp only at i8 hbe;have z3:IntKind.i64.wrap ((k:Int)+1)=(k:Int)+1:=IntWalk.i64_in _ (by omega)
   clear hb hq hkm
   cases b
   ·have Hnx2:=Lib.hid (Hnx.out rfl);clear Hst Hnx;go_wp2
    refine aP ((.take 0 (.take 1 (.take 2 (.take 3 (.take 4 (.take 5 (.take 6 (.take 7 (.take 8 .nil)))))))))) (fun hHd=> ?_) (hQ:=by intro _ _ _ _ _ h;exact h)
    repeat' first|((with_reducible refine aX ?_);(first|(refine tk (v:= ?_) ?_ hHd ?_;rotate_left;(·(intro W' h;have:=StepC.mk h;first|with_reducible exact aJ)))|(refine tk (v:= ?_) ?_ hHd ?_;rotate_left;(·(intro wq hSw;go_simp;(try with_reducible rfl)))));(try simp only[pS]))|(with_reducible refine aF ?_)
    all_goals
     go_wp2
     go_roundw
     case rel=>exact⟨⟨ExtC.h⟩,k+1,hlt,rfl,Hnx2.out⟩
     case measure=>simp[RowKit.intOf];omega
   ·have Hst2:=Lib.hid (Hst.out rfl);clear Hst Hnx;go_wp2
    refine aP ((.take 0 (.take 1 (.take 2 (.take 3 (.take 4 (.take 5 (.take 6 (.take 7 (.take 8 .nil)))))))))) (fun hHd=> ?_) (hQ:=by intro _ _ _ _ _ h;exact h)
    repeat' first|((with_reducible refine aX ?_);(first|(refine tk (v:= ?_) ?_ hHd ?_;rotate_left;(·(intro W' h;have:=StepC.mk h;first|with_reducible exact aJ)))|(refine tk (v:= ?_) ?_ hHd ?_;rotate_left;(·(intro wq hSw;go_simp;(try with_reducible rfl)))));(try simp only[pS]))|(with_reducible refine aF ?_)
    all_goals
     go_wp2
     go_ret
     exact⟨by rw[Hst2.out];rfl,⟨ExtC.h⟩⟩
  ·obtain rfl:k=i:=by omega
   have hE:=HC.out (by
    rw[←Ht.out,List.any_eq_false];intro y hy;obtain⟨j,hj,rfl⟩:=List.mem_take_iff_getElem.1 hy;have:=Hz.out j (by omega) (by omega)
    simpa using this)
   have HE:=Lib.hid hE;have z2:decide ((ic.length:Int)>(n:Int))=decide (n<ic.length):=by simp
   clear hE
   cases d3
   ·go_wp2_with (first|(with_reducible refine aA ?_))
    go_loopw [8] (fun iv wr=>StepC V wr∧∃k2:Nat,k2≤ic.length∧iv=.int .i64 k2∧∀j(hj:j<k2)(hl:j<ic.length),inB ic[j] 0 ((n:Int)-1)=true) (fun iv _=>ic.length-(RowKit.intOf iv).toNat)
    case atStart=>exact⟨⟨ExtC.h⟩,0,by omega,rfl,fun j hj=>by omega⟩
    case round=>
     obtain⟨_,k2,hk2,rfl,hz2⟩:=hrel;have Hz2:=Lib.hid hz2;clear hz2;by_cases l2:k2<ic.length
     ·obtain⟨bd,rfl,hcb⟩:=(hI.ext (ExtC.h:Ext w wr)).elem l2;obtain⟨b,hb⟩:∃b,inB ic[k2] 0 ((n:Int)-1)=b:=⟨_,rfl⟩;have Hnx:=Lib.hid (show b=true→∀j(hj:j<k2+1)(hl:j<ic.length),inB ic[j] 0 ((n:Int)-1)=true from fun h0 j hj hl=>by
       by_cases hjk:j=k2
       ·subst hjk;rw[hb];exact h0
       ·exact Hz2.out j (by omega) hl)
      have Hst:=Lib.hid (show b=false→R=4 from fun h0=>by
       have:(ic.all fun k=>inB k 0 ((n:Int)-1))=false:=List.all_eq_false.2 ⟨ic[k2],List.getElem_mem l2,by rw[hb,h0];simp⟩
       rw[HE.out,this];rfl)
      obtain⟨a,ha⟩:∃a,ic[k2]=a:=⟨_,rfl⟩;rw[ha] at hcb hb;have i8:CellsB wr (bd.add k2) [.int .i64 a]:=⟨by simpa [Enc.size,Enc.enc] using hcb⟩
      have z3:IntKind.i64.wrap ((k2:Int)+1)=(k2:Int)+1:=IntWalk.i64_in _ (by omega)
      clear hcb ha
      cases b
      ·have Hst2:=Lib.hid (Hst.out rfl);clear Hst Hnx;go_wp2_with (first|(with_reducible refine aA ?_)|(with_reducible refine aB ?_;first|rintro _ V ⟨rfl,(_:StepC _ _)⟩))
       go_ret
       exact⟨by rw[Hst2.out];rfl,⟨ExtC.h⟩⟩
      ·have Hnx2:=Lib.hid (Hnx.out rfl);clear Hst Hnx;go_wp2_with (first|(with_reducible refine aA ?_)|(with_reducible refine aB ?_;first|rintro _ V ⟨rfl,(_:StepC _ _)⟩))
       go_roundw
       case rel=>exact⟨⟨ExtC.h⟩,k2+1,l2,rfl,Hnx2.out⟩
       case measure=>simp[RowKit.intOf];omega
     ·have hall:(ic.all fun k=>inB k 0 ((n:Int)-1))=true:=by
       rw[List.all_eq_true];intro y hy;obtain⟨j,hj,rfl⟩:=List.mem_iff_getElem.1 hy;exact Hz2.out j (by omega) hj
      have HF:=HE.out;rw[hall] at HF;obtain rfl:k2=ic.length:=by omega
      have HF2:=Lib.hid HF;clear HF hall;go_wp2_with (first|go_skip|(with_reducible refine aA ?_)|(with_reducible refine bA ?_)|(with_reducible refine aB ?_;first|rintro _ V ⟨rfl,(_:StepC _ _)⟩))
      all_goals(go_ret;exact⟨by rw[HF2.out];simp[firstT, *],⟨ExtC.h⟩⟩)
   ·have HF:=Lib.hid (show R=3 by rw[HE.out];rfl)
    go_wp2_with (first|(with_reducible refine aA ?_))
    go_ret
    exact⟨by rw[HF.out];rfl,⟨ExtC.h⟩⟩
class ClsE (s:Sys) (i:Nat) (r:outParam Int):Prop where h:∃hi:i<s.classes.length,s.classes.length≤12∧s.clsErr i s.classes[i]=r
instance{W:World}{v:Value}{s:Sys}{i:Nat}{r:Int}[h:SysC W v s][q:ClsE s i r]:FunC Tryz.prog 110 #[v,.int .i64 i] W (RI W r):=⟨by obtain⟨h1,h2,h3⟩:=q.h;rw[←h3];exact Ml s v i _ W h.h h1 h2 rfl⟩
theorem xK(n:Nat):Array.replicate n (Value.bool false)=(encL (List.replicate n false)).toArray:=by rw[encB];simp
theorem Ez(o:List Bool)(l:List Int)(k:Nat)(y:Nat)(h:k<l.length)(hy:l[k]=(y:Int)):Sys.markAll o (l.take (k+1))=(Sys.markAll o (l.take k)).set y true:=by
 unfold Sys.markAll;rw[List.take_succ_eq_append_getElem h,List.foldl_append,hy];rfl
theorem Gq(s:Sys)(v:Value)(c:Nat)(w:World)(h:SysV w v s)(hc:c<s.classes.length)(hn:s.classes.length≤12)(hio:s.InclOk):Calls Tryz.prog 99 #[v,.int .i64 c] w (fun e W'=>∃g,e=.returned (.slice (some ⟨g,0,none⟩) s.classes.length s.classes.length)∧Blk W' g 4 (encL (s.coverL c)).toArray∧StepC w W'):=by
 obtain⟨A,n,cp,A',c',rfl,hnn,hC,hD⟩:=h.h;obtain⟨m,hm1,hm2,hm3⟩:=hC.h;have hml:m.length=n:=by rw[hnn,←hm1,List.length_map]
 obtain⟨ad,rfl,-⟩:=hm2.elem (i:=0) (by omega)
 have Hel:=Lib.hid (show∀j(hj:j<m.length),CellsB w (ad.add (j*5)) [.string (m[j]).c.name,.slice (m[j]).a (m[j]).c.incl.length (m[j]).k,.int .i64 (m[j]).c.needs,.int .i64 (m[j]).c.age,.int .i64 (m[j]).c.term] from fun j hj=>by
  obtain⟨ad',e,hc⟩:=hm2.elem hj
  cases e
  exact⟨hc⟩)
 have Hat:=Lib.hid (show∀j(hj:j<m.length),(s.at_ (j:Nat)).incl=(m[j]).c.incl from fun j hj=>by rw[Sys.at_eq (by omega)];simp[←hm1])
 have Hio:=Lib.hid (show∀j(hj:j<m.length),∀y∈(m[j]).c.incl,0≤y∧y<n from fun j hj y hy=>by rw[hnn];exact hio (j:Nat) y (by rw[Hat.out j hj];exact hy))
 have Hm3:=Lib.hid hm3;have Hml:=Lib.hid hml;have hcn:c<n:=by omega
 have hn12:n≤12:=by omega
 obtain⟨o0,ho0⟩:∃o,(List.replicate n false).set c true=o:=⟨_,rfl⟩;have hol:o0.length=n:=by rw[←ho0];simp
 have Hres:=Lib.hid (show s.coverL c=s.sweeps o0 n from by unfold Sys.coverL;rw[←hnn,←ho0];simp)
 have Hsw:=Lib.hid (show∀o:List Bool,s.sweep o=s.sweepTo o n from fun o=>by unfold Sys.sweep;rw[←hnn])
 have Hol:=Lib.hid hol;have hcs:c<(encL (List.replicate n false)).toArray.size:=by rw[encB];simpa using hcn
 rw[←hnn];have i1:SysB w (.agg #[.slice (some ad) n cp,.slice A' s.codes.length c']) s:=⟨h⟩;clear hm1 hml hnn hc hn hol hm3 hio;go_enter Tryz.func99,Tryz.ntmps99
 go_wp2_with (first|(with_reducible refine aA ?_)|(with_reducible refine aH ?_;intro V2 g2 _ _ _)|(with_reducible refine qM ?_;intro V3 gb hE3 hM hA)|((with_reducible refine bstore (off:=c) (v:=.bool true) (by rw[←xK];exact hM) ?_ ⟨by with_unfolding_all rfl,by with_unfolding_all rfl,by with_unfolding_all rfl,by with_unfolding_all rfl,hcs,by with_unfolding_all rfl⟩);intro V hs hB;rw[oU,ho0] at hB))
 have hg0:V3.grownBy V (some gb):=hs.h;clear hs;go_loopw [6] (fun iv wr=>V3.grownBy wr (some gb)∧∃a:Nat,a≤n∧iv=.int .i64 a∧Blk wr gb 4 (encL (s.sweeps o0 a)).toArray) (fun iv _=>n-(RowKit.intOf iv).toNat)
 case atStart=>exact⟨hg0,0,by omega,rfl,hB⟩
 case round=>
  obtain⟨hg1,a,ha,rfl,hB1⟩:=hrel;have hs1:StoreC V3 wr gb:=⟨hg1⟩;by_cases la:a<n
  ·obtain⟨o1,ho1⟩:∃o,s.sweeps o0 a=o:=⟨_,rfl⟩;have Hs1:=Lib.hid (show s.sweeps o0 (a+1)=s.sweepTo o1 n from by unfold Sys.sweeps;rw[Hsw.out,ho1])
   have hl1:o1.length=n:=by rw[←ho1,Sys.sweeps_len];exact Hol.out
   have Hl1:=Lib.hid hl1;rw[ho1] at hB1;have za:IntKind.i64.wrap ((a:Int)+1)=(a:Int)+1:=IntWalk.i64_in _ (by omega)
   clear ho1 hl1;go_wp2_with (first|(with_reducible refine aA ?_))
   go_loopw [7] (fun iv wr=>V3.grownBy wr (some gb)∧∃b:Nat,b≤n∧iv=.int .i64 b∧Blk wr gb 4 (encL (s.sweepTo o1 b)).toArray) (fun iv _=>n-(RowKit.intOf iv).toNat)
   case atStart=>exact⟨hg1,0,by omega,rfl,hB1⟩
   case round=>
    obtain⟨hg2,b,hb,rfl,hB2⟩:=hrel;have hs2:StoreC V3 wr gb:=⟨hg2⟩;by_cases lb:b<n
    ·obtain⟨o2,ho2⟩:∃o,s.sweepTo o1 b=o:=⟨_,rfl⟩;have hbm:b<m.length:=by have:=Hml.out;omega
     have i8:=Hel.out b hbm;have hI:=Hm3.out _ (List.getElem_mem hbm);have hat:=Hat.out b hbm;have hio:=Hio.out b hbm;obtain⟨⟨⟨nm,ic,ne,ag,te⟩,xa,xk⟩,hq⟩:∃y,m[b]=y:=⟨_,rfl⟩;rw[hq] at i8 hI hat hio;simp only at i8 hI hat hio;have Hio2:=Lib.hid hio;have Hs2:=Lib.hid (show s.sweepTo o1 (b+1)=if o2.getD b false=true then Sys.markAll o2 ic else o2 from by rw[Sys.sweepTo_succ,ho2];unfold Sys.sweep1;rw[hat])
     have hl2:o2.length=n:=by rw[←ho2,Sys.sweepTo_len];exact Hl1.out
     have Hl2:=Lib.hid hl2;rw[ho2] at hB2;obtain⟨-,q1,q2⟩:=hI.caps;have zb:IntKind.i64.wrap ((b:Int)+1)=(b:Int)+1:=IntWalk.i64_in _ (by omega)
     clear ho2 hl2 hq hat hio hbm;go_wp2_with (first|(with_reducible refine aA ?_))
     go_loopw [8] (fun iv wr=>V3.grownBy wr (some gb)∧∃k:Nat,k≤ic.length∧(k=0∨o2.getD b false=true)∧iv=.int .i64 k∧Blk wr gb 4 (encL (Sys.markAll o2 (ic.take k))).toArray) (fun iv _=>ic.length-(RowKit.intOf iv).toNat)
     case atStart=>exact⟨hg2,0,by omega,.inl rfl,rfl,hB2⟩
     case round=>
      obtain⟨hg3,k,hk,hko,rfl,hB3⟩:=hrel;have hs3:StoreC V3 wr gb:=⟨hg3⟩;have Hko:=Lib.hid hko;clear hko;obtain⟨o3,ho3⟩:∃o,Sys.markAll o2 (ic.take k)=o:=⟨_,rfl⟩;have hl3:o3.length=n:=by rw[←ho3,Sys.markAll_len];exact Hl2.out
      rw[ho3] at hB3;have hbl:b<o3.length:=by rw[hl3];exact lb
      have i9:=CellB.mk (iH hB3 hbl);have hbo:o2.getD b false=true→o3.getD b false=true:=fun h=>by rw[←ho3];exact(Sys.markAll_iff _ _ _).2 (.inr h)
      have hk0:k=0→o3=o2:=fun h=>by subst h;rw[←ho3];rfl
      by_cases lk:k<ic.length
      ·obtain⟨t,ht⟩:∃t,o3.getD b false=t:=⟨_,rfl⟩;rw[ht] at i9
       cases t
       ·have Hfin:=Lib.hid (show o3=s.sweepTo o1 (b+1) from by
         have e:o2.getD b false=false:=by cases e:o2.getD b false;rfl;rw[hbo e] at ht;cases ht
         have k0:k=0:=by rcases Hko.out with h|h;exact h;rw[e] at h;cases h
         rw[Hs2.out,if_neg (by rw[e];simp)];exact hk0 k0)
        clear ho3 hbo hk0 ht hbl hl3;go_wp2_with (first|(with_reducible refine aA ?_)|(with_reducible refine bA ?_))
        exact⟨⟨hg3,b+1,lb,by push_cast;rfl,by rw[←Hfin.out];exact hB3⟩,by simp[RowKit.intOf];omega⟩
       ·have ho2:o2.getD b false=true:=by
         rcases Hko.out with h|h
         ·rw[←hk0 h];exact ht
         ·exact h
        obtain⟨bd,rfl,hcb⟩:=(hI.ext (ExtC.h:Ext w wr)).elem lk;have hy:=Hio2.out ic[k] (List.getElem_mem lk);obtain⟨y,hyy⟩:∃y:Nat,ic[k]=(y:Int):=⟨ic[k].toNat,by omega⟩
        have hms:=Ez o2 ic k y lk hyy;rw[ho3] at hms;have Hms:=Lib.hid hms;have Ho2:=Lib.hid ho2;rw[hyy] at hcb hy;have i10:CellsB wr (bd.add k) [.int .i64 y]:=⟨by simpa [Enc.size,Enc.enc] using hcb⟩
        have hyb:y<(encL o3).toArray.size:=by rw[encB];simp;omega
        have hyn:y<n:=by omega
        have zk:IntKind.i64.wrap ((k:Int)+1)=(k:Int)+1:=IntWalk.i64_in _ (by omega)
        clear hms ho2 hyy hcb ho3 hbo hk0 ht hbl hl3 hy;go_wp2_with (first|((with_reducible refine bstore (off:=y) (v:=.bool true) hB3 ?_ ⟨by with_unfolding_all rfl,by with_unfolding_all rfl,by with_unfolding_all rfl,by with_unfolding_all rfl,hyb,by with_unfolding_all rfl⟩);intro V hs4 hB4;rw[oU] at hB4)|(first|(with_reducible refine aA ?_)|(with_reducible refine bA ?_)))
        (try simp only[pS])
        go_roundw
        case rel=>exact⟨bN hg3 hs4.h,k+1,lk,.inr Ho2.out,by push_cast;rfl,by rw[Hms.out];exact hB4⟩
        case measure=>simp[RowKit.intOf];omega
      ·obtain rfl:k=ic.length:=by omega
       rw[List.take_length] at ho3;have Hfin:=Lib.hid (show o3=s.sweepTo o1 (b+1) from by
        rw[Hs2.out];rcases Hko.out with h|h
        ·have:ic=[]:=List.length_eq_zero_iff.1 h;subst this;rw[←ho3];split<;>rfl
        ·rw[if_pos h];exact ho3.symm)
       clear ho3 hbo hk0 hbl hl3;go_wp2_with (first|(with_reducible refine aA ?_))
       exact⟨⟨hg3,b+1,lb,by push_cast;rfl,by rw[←Hfin.out];exact hB3⟩,by simp[RowKit.intOf];omega⟩
    ·obtain rfl:b=n:=by omega
     go_wp2_with (first|(with_reducible refine aA ?_))
     exact⟨⟨hg2,a+1,la,by push_cast;rfl,by rw[Hs1.out];exact hB2⟩,by simp[RowKit.intOf];omega⟩
  ·obtain rfl:a=n:=by omega
   have hres:=Hres.out;rw[←hres] at hB1;clear hres;go_wp2_with (first|(with_reducible refine aA ?_))
   go_ret
   exact⟨gb,rfl,hB1,⟨ExtC.h⟩⟩
class CovE (s:Sys) (c n:Nat) (l:outParam (List Bool)):Prop where h:(c<s.classes.length∧s.classes.length=n∧n≤12∧s.InclOk)∧s.coverL c=l
class GetB (l:List Bool) (i:Nat) (b:outParam Bool):Prop where h:i<l.length∧l.getD i false=b
instance{l:List Bool}{i:Nat}{b:Bool}[q:GetB l i b]:NthC (encL l) i (.bool b):=⟨by
 obtain⟨h1,rfl⟩:=q.h;have:=List.getElem?_eq_getElem h1;rw[encB];simp[List.getD,h1]⟩
instance{W:World}{A A':Option Addr}{n m c c' k:Nat}{s:Sys}{l:List Bool}[h:SysC W (.agg #[.slice A n c,.slice A' m c']) s][q:CovE s k n l]:FunC Tryz.prog 99 #[.agg #[.slice A n c,.slice A' m c'],.int .i64 k] W (fun e W'=>∃g,e=.returned (.slice (some ⟨g,0,none⟩) n n)∧BlkC W' g 4 (encL l)∧StepC W W'):=⟨by
 obtain⟨⟨h1,h2,h3,h4⟩,rfl⟩:=q.h;subst h2;exact(Gq s _ k W h.h h1 h3 h4).mono fun e W' ⟨g,he,hb,hs⟩=>⟨g,he,⟨hb⟩,hs⟩⟩
theorem yH(s:Sys)(v:Value)(p a r:Int)(w:World)(h:SysV w v s)(hk:s.check=(p,a,r)):Calls Tryz.prog 58 #[v] w (RIII w p a r):=by
 obtain⟨A,n,cp,A',c',rfl,hnn,hC,hD⟩:=h.h;have i1:=SysB.mk h;have hcap:=hD.caps.2;by_cases b1:inB s.classes.length 1 12=false∨8<s.codes.length
 ·rw[check_1 b1] at hk;injection hk with h1 h2
  injection h2 with h2 h3
  subst h1 h2 h3;subst hnn;obtain⟨e1,g1⟩:∃e,inB s.classes.length 1 12=e:=⟨_,rfl⟩;rw[g1] at b1;by_cases e2:8<s.codes.length
  ·have q2:((s.codes.length:Int)>8):=by omega
   clear b1
   cases e1
   all_goals
    go_enter Tryz.func58,Tryz.ntmps58
    go_wp2_with (first|go_skip|(with_reducible refine aA ?_)|(with_reducible refine bA ?_)|(with_reducible refine aB ?_;first|rintro _ V ⟨rfl,(_:StepC _ _)⟩)|(with_reducible refine aH ?_;intro V g _ _ _))
    all_goals(go_ret3;exact⟨rfl,⟨ExtC.h⟩⟩)
  ·obtain rfl:e1=false:=by rcases b1 with h|h;exact h;exact absurd h e2
   clear b1;go_enter Tryz.func58,Tryz.ntmps58
   go_wp2_with (first|go_skip|(with_reducible refine aA ?_)|(with_reducible refine aB ?_;first|rintro _ V ⟨rfl,(_:StepC _ _)⟩)|(with_reducible refine aH ?_;intro V g _ _ _))
   all_goals(go_ret3;exact⟨rfl,⟨ExtC.h⟩⟩)
 have g1:inB s.classes.length 1 12=true:=by cases hh:inB s.classes.length 1 12;exact absurd (.inl hh) b1;rfl
 have g2:¬8<s.codes.length:=fun h=>b1 (.inr h)
 have q2:¬((s.codes.length:Int)>8):=by omega
 have B1:=Lib.hid b1;have hn12:=inB_t.1 g1;rw[←hnn] at g1;have hn2:1≤n∧n≤12:=by omega
 have Hk:=Lib.hid hk;have Hnn:=Lib.hid hnn;clear hk hnn b1 hn12;go_enter Tryz.func58,Tryz.ntmps58
 go_wp2_with (first|(with_reducible refine aA ?_)|(with_reducible refine bA ?_)|(with_reducible refine aB ?_;first|rintro _ V ⟨rfl,(_:StepC _ _)⟩)|(with_reducible refine aH ?_;intro V g _ _ _))
 go_loopw [5] (fun iv wr=>StepC V wr∧∃k:Nat,k≤n∧iv=.int .i64 k∧∀j(hj:j<k)(hl:j<s.classes.length),s.clsErr j s.classes[j]=0) (fun iv _=>n-(RowKit.intOf iv).toNat)
 case atStart=>exact⟨⟨ExtC.h⟩,0,by omega,rfl,fun j hj=>by omega⟩
 case round=>
  obtain⟨_,k,hk,rfl,hz⟩:=hrel;have Hz:=Lib.hid hz;clear hz;by_cases lk:k<n
  ·have hks:k<s.classes.length:=by have:=Hnn.out;omega
   obtain⟨e,he⟩:∃e,s.clsErr k s.classes[k]=e:=⟨_,rfl⟩;have i2:ClsE s k e:=⟨hks,by have:=Hnn.out;omega,he⟩
   have zk:IntKind.i64.wrap ((k:Int)+1)=(k:Int)+1:=IntWalk.i64_in _ (by omega)
   by_cases z:e=0
   ·subst z;have Hn:=Lib.hid (show∀j(hj:j<k+1)(hl:j<s.classes.length),s.clsErr j s.classes[j]=0 from fun j hj hl=>by
     by_cases hjk:j=k
     ·subst hjk;exact he
     ·exact Hz.out j (by omega) hl)
    clear he hks;go_wp2_with (first|(with_reducible refine aA ?_)|(with_reducible refine aB ?_;first|rintro _ V ⟨rfl,(_:StepC _ _)⟩))
    go_roundw
    case rel=>exact⟨⟨ExtC.h⟩,k+1,lk,rfl,Hn.out⟩
    case measure=>simp[RowKit.intOf];omega
   ·have hf:=uO (s:=s) (a:=(k:Int)) (r:=e) B1.out (by rw[cN (k:=k) hks (by rw[he];exact z) (fun i hi=>Hz.out i hi (by omega)),he]) z
    rw[Hk.out] at hf;injection hf with h1 h2
    injection h2 with h2 h3
    subst h1 h2 h3;have q:(r !=0)=true:=by simpa using z
    clear he hks;go_wp2_with (first|(with_reducible refine aA ?_)|(with_reducible refine aB ?_;first|rintro _ V ⟨rfl,(_:StepC _ _)⟩))
    go_ret3
    exact⟨rfl,⟨ExtC.h⟩⟩
  ·obtain rfl:k=n:=by omega
   have Hc:=Lib.hid (show firstE s.classes s.clsErr=(0,0) from bU fun i hi=>Hz.out i (by have:=Hnn.out;omega) hi)
   go_wp2_with (first|(with_reducible refine aA ?_))
   go_loopw [7] (fun iv wr=>StepC V wr∧∃k:Nat,k≤s.codes.length∧iv=.int .i64 k∧∀j(hj:j<k),nameErr s.codes j=0) (fun iv _=>s.codes.length-(RowKit.intOf iv).toNat)
   case atStart=>exact⟨⟨ExtC.h⟩,0,by omega,rfl,fun j hj=>by omega⟩
   case round=>
    obtain⟨_,q,hq,rfl,hz2⟩:=hrel;have Hz2:=Lib.hid hz2;clear hz2;by_cases lq:q<s.codes.length
    ·have i3:=ListB.mk (hD.upto (k:=q) (by omega))
     obtain⟨ad,rfl,hcx⟩:=(hD.ext (ExtC.h:Ext w wr)).elem lq;have hsz:=h.wf.code _ (List.getElem_mem lq);have hne:nameErr s.codes q=if isName s.codes[q]=false then 6 else if((s.codes.take q).any fun y=>decide (y=s.codes[q]))=true then 5 else 0:=by
      unfold nameErr;have e:s.codes.getD q ByteArray.empty=s.codes[q]:=by simp[List.getD,lq]
      rw[e];have:(s.codes[q]∈s.codes.take q)↔((s.codes.take q).any fun y=>decide (y=s.codes[q]))=true:=by simp
      simp only[this]
     rw[←fY] at hne;have Hst:=Lib.hid (show∀e,e≠0→nameErr s.codes q=e→p=3∧a=q∧r=e from fun e h0 he=>by
      have hf:=uN (s:=s) (a:=(q:Int)) (r:=e) B1.out Hc.out (by rw[cN (f:=fun i _=>nameErr s.codes i) (k:=q) lq (by rw[he];exact h0) (fun i hi=>Hz2.out i hi),he]) h0
      rw[Hk.out] at hf;injection hf with h1 h2
      injection h2 with h2 h3
      exact⟨h1,h2,h3⟩)
     have Hnx:=Lib.hid (show nameErr s.codes q=0→∀j(hj:j<q+1),nameErr s.codes j=0 from fun h0 j hj=>by
      by_cases hjk:j=q
      ·subst hjk;exact h0
      ·exact Hz2.out j (by omega))
     obtain⟨x,hx⟩:∃x,s.codes[q]=x:=⟨_,rfl⟩;rw[hx] at hcx hsz hne;have i4:CellsB wr (ad.add q) [.string x]:=⟨by simpa [Enc.size,Enc.enc] using hcx⟩
     have i5:=SzC.mk hsz;have zq:IntKind.i64.wrap ((q:Int)+1)=(q:Int)+1:=IntWalk.i64_in _ (by omega)
     have hqc:q≤c':=by omega
     have Hx:=Lib.hid hx;obtain⟨d1,e1⟩:∃d,isName x=d:=⟨_,rfl⟩;obtain⟨d2,e2⟩:∃d,decide (0≤idxP (fun y=>decide (y=x)) (s.codes.take q))=d:=⟨_,rfl⟩
     rw[e1,e2] at hne;clear hcx hx
     cases d1
     ·rw[if_pos rfl] at hne;obtain⟨rfl,rfl,rfl⟩:=Hst.out 6 (by decide) hne
      clear hne Hst Hnx;go_wp2_with (first|(with_reducible refine aA ?_)|(with_reducible refine aB ?_;first|rintro _ V ⟨rfl,(_:StepC _ _)⟩))
      go_ret3
      exact⟨rfl,⟨ExtC.h⟩⟩
     ·cases d2
      ·rw[if_neg (by simp),if_neg (by simp)] at hne
       have Hn:=Lib.hid (Hnx.out hne);clear hne Hst Hnx;go_wp2_with (first|(with_reducible refine aA ?_)|(with_reducible refine aB ?_;first|rintro _ V ⟨rfl,(_:StepC _ _)⟩))
       refine aP ((.take 0 (.take 1 (.take 2 (.take 3 (.take 4 (.take 5 (.take 6 (.take 7 (.take 8 (.one 9 (.take 10 .nil)))))))))))) (fun hHd=> ?_) (hQ:=by intro _ _ _ _ _ h;exact h)
       repeat' first|((with_reducible refine aX ?_);(first|(refine tk (v:= ?_) ?_ hHd ?_;rotate_left;(·(intro W' h;have:=StepC.mk h;first|with_reducible exact aJ)))|(refine tk (v:= ?_) ?_ hHd ?_;rotate_left;(·(intro wq hSw;go_simp;(try with_reducible rfl)))));(try simp only[pS]))|((with_reducible refine bC ?_);refine aQ (by simp only[gS];rfl) ?_)|((with_reducible refine aN ?_);first|(rintro _ V ⟨rfl,(_:StepC _ _)⟩;refine⟨_,rfl,?_⟩))|((with_reducible refine bD ?_);clear hHd;refine aM ExtC.h (fun hHd=> ?_);(try simp only[pS]))|(with_reducible refine aF ?_)
       all_goals
        go_wp2
        go_roundw
        case rel=>exact⟨⟨ExtC.h⟩,q+1,lq,rfl,Hn.out⟩
        case measure=>simp[RowKit.intOf];omega
      ·rw[if_neg (by simp),if_pos rfl] at hne
       obtain⟨rfl,rfl,rfl⟩:=Hst.out 5 (by decide) hne
       clear hne Hst Hnx;go_wp2_with (first|(with_reducible refine aA ?_)|(with_reducible refine aB ?_;first|rintro _ V ⟨rfl,(_:StepC _ _)⟩))
       refine aP ((.take 0 (.take 1 (.take 2 (.take 3 (.take 4 (.take 5 (.take 6 (.take 7 (.take 8 (.one 9 (.take 10 .nil)))))))))))) (fun hHd=> ?_) (hQ:=by intro _ _ _ _ _ h;exact h)
       repeat' first|((with_reducible refine aX ?_);(first|(refine tk (v:= ?_) ?_ hHd ?_;rotate_left;(·(intro W' h;have:=StepC.mk h;first|with_reducible exact aJ)))|(refine tk (v:= ?_) ?_ hHd ?_;rotate_left;(·(intro wq hSw;go_simp;(try with_reducible rfl)))));(try simp only[pS]))|((with_reducible refine bC ?_);refine aQ (by simp only[gS];rfl) ?_)|((with_reducible refine aN ?_);first|(rintro _ V ⟨rfl,(_:StepC _ _)⟩;refine⟨_,rfl,?_⟩))|((with_reducible refine bD ?_);clear hHd;refine aM ExtC.h (fun hHd=> ?_);(try simp only[pS]))|(with_reducible refine aF ?_)
       all_goals
        go_wp2
        go_ret3
        exact⟨rfl,⟨ExtC.h⟩⟩
    ·obtain rfl:q=s.codes.length:=by omega
     have H4:=Lib.hid (show s.check=_ from check_4 (s:=s) (a:=0) (a2:=0) B1.out Hc.out (bU fun i hi=>Hz2.out i hi))
     have hio:s.InclOk:=sX (by rw[Hc.out])
     have Hio:=Lib.hid hio;obtain⟨m,hm1,hm2,hm3⟩:=hC.h;have hml:m.length=k:=by rw[Hnn.out,←hm1,List.length_map]
     obtain⟨ad,rfl,-⟩:=hm2.elem (i:=0) (by omega)
     have Hel:=Lib.hid (show∀j(hj:j<m.length),CellsB w (ad.add (j*5)) [.string (m[j]).c.name,.slice (m[j]).a (m[j]).c.incl.length (m[j]).k,.int .i64 (m[j]).c.needs,.int .i64 (m[j]).c.age,.int .i64 (m[j]).c.term] from fun j hj=>by
      obtain⟨ad',e,hc⟩:=hm2.elem hj
      cases e
      exact⟨hc⟩)
     have Hat:=Lib.hid (show∀j(hj:j<m.length),(s.at_ (j:Nat)).incl=(m[j]).c.incl from fun j hj=>by rw[Sys.at_eq (by have:=Hnn.out;omega)];simp[←hm1])
     have Hm3:=Lib.hid hm3;have Hml:=Lib.hid hml;clear hml hm1 hm3 hio;go_wp2_with (first|(with_reducible refine aA ?_))
     go_loopw [8] (fun iv wr=>StepC V wr∧∃i:Nat,i≤k∧iv=.int .i64 i∧∀j<i,((s.at_ (j:Nat)).incl.any fun y=>s.covers y j)=false) (fun iv _=>k-(RowKit.intOf iv).toNat)
     case atStart=>exact⟨⟨ExtC.h⟩,0,by omega,rfl,fun j hj=>by omega⟩
     case round=>
      obtain⟨_,i,hi,rfl,hb⟩:=hrel;have Hb:=Lib.hid hb;clear hb;by_cases li:i<k
      ·have him:i<m.length:=by have:=Hml.out;omega
       have i8:=Hel.out i him;have hI:=Hm3.out _ (List.getElem_mem him);have hat:=Hat.out i him;obtain⟨⟨⟨nm,ic,ne,ag,te⟩,xa,xk⟩,hy⟩:∃y,m[i]=y:=⟨_,rfl⟩;rw[hy] at i8 hI hat;simp only at i8 hI hat;have Hat2:=Lib.hid hat;obtain⟨-,c1,c2⟩:=hI.caps;have zi:IntKind.i64.wrap ((i:Int)+1)=(i:Int)+1:=IntWalk.i64_in _ (by omega)
       clear hy hat him;go_wp2_with (first|(with_reducible refine aA ?_))
       go_loopw [9] (fun iv wr=>StepC V wr∧∃t:Nat,t≤ic.length∧iv=.int .i64 t∧∀j(hj:j<t)(hl:j<ic.length),s.covers ic[j] i=false) (fun iv _=>ic.length-(RowKit.intOf iv).toNat)
       case atStart=>exact⟨⟨ExtC.h⟩,0,by omega,rfl,fun j hj=>by omega⟩
       case round=>
        obtain⟨_,t,ht,rfl,hc⟩:=hrel;have Hc2:=Lib.hid hc;clear hc;by_cases lt:t<ic.length
        ·obtain⟨bd,rfl,hcb⟩:=(hI.ext (ExtC.h:Ext w wr)).elem lt;have hy:=Hio.out (i:Nat) ic[t] (by rw[Hat2.out];exact List.getElem_mem lt)
         obtain⟨y,hyy⟩:∃y:Nat,ic[t]=(y:Int):=⟨ic[t].toNat,by omega⟩
         obtain⟨b,hbv⟩:∃b,s.covers (y:Int) i=b:=⟨_,rfl⟩;have Hnx:=Lib.hid (show b=false→∀j(hj:j<t+1)(hl:j<ic.length),s.covers ic[j] i=false from fun h0 j hj hl=>by
          by_cases hjk:j=t
          ·subst hjk;rw[hyy,hbv];exact h0
          ·exact Hc2.out j (by omega) hl)
         have Hst:=Lib.hid (show b=true→p=4∧a=i∧r=9 from fun h0=>by
          have hl:=Cy (s:=s) (i:=i) Hnn.out li (by rw[Hat2.out,List.any_eq_true];exact⟨ic[t],List.getElem_mem lt,by rw[hyy,hbv];exact h0⟩) (fun j hj=>Hb.out j hj)
          have hf:=H4.out;rw[hl,Hk.out] at hf;injection hf with h1 h2
          injection h2 with h2 h3
          exact⟨h1,h2,h3⟩)
         rw[hyy] at hcb hy;have i10:CellsB wr (bd.add t) [.int .i64 y]:=⟨by simpa [Enc.size,Enc.enc] using hcb⟩
         obtain⟨o,ho⟩:∃o,s.coverL (y:Int)=o:=⟨_,rfl⟩;have hol:o.length=k:=by rw[←ho];unfold Sys.coverL;rw[Sys.sweeps_len];simp;exact Hnn.out.symm
         have i11:CovE s y k o:=⟨⟨by omega,Hnn.out.symm,hn2.2,Hio.out⟩,ho⟩
         have i12:GetB o i b:=⟨by omega,by rw[←hbv,←ho];rfl⟩
         have zt:IntKind.i64.wrap ((t:Int)+1)=(t:Int)+1:=IntWalk.i64_in _ (by omega)
         clear hcb hyy hy ho hol hbv;go_wp2_with (first|(with_reducible refine aA ?_))
         refine aP ((.take 0 (.take 1 (.take 2 (.take 3 (.take 4 (.take 5 (.take 6 (.take 7 (.take 8 (.take 9 (.take 11 (.one 10 (.take 12 (.one 13 .nil))))))))))))))) (fun hHd=> ?_) (hQ:=by intro _ _ _ _ _ h;exact h)
         repeat' first|((with_reducible refine aX ?_);(first|(refine tk (v:= ?_) ?_ hHd ?_;rotate_left;(·(intro W' h;have:=StepC.mk h;first|with_reducible exact aJ)))|(refine tk (v:= ?_) ?_ hHd ?_;rotate_left;(·(intro wq hSw;go_simp;(try with_reducible rfl)))));(try simp only[pS]))|((with_reducible refine bC ?_);refine aQ (by simp only[gS];rfl) ?_)
         with_reducible refine aN ?_
         rintro _ V9 ⟨g9,rfl,_,(_:StepC _ _)⟩;refine⟨_,rfl,?_⟩;repeat' first|((with_reducible refine aX ?_);(first|(refine tk (v:= ?_) ?_ hHd ?_;rotate_left;(·(intro wq hSw;go_simp;(try with_reducible rfl)))));(try simp only[pS]))|((with_reducible refine bC ?_);refine aQ (by simp only[gS];rfl) ?_)|((with_reducible refine bD ?_);clear hHd;refine aM ExtC.h (fun hHd=> ?_);(try simp only[pS]))
         with_reducible refine aA ?_
         repeat' first|((with_reducible refine bD ?_);clear hHd;refine aM ExtC.h (fun hHd=> ?_);(try simp only[pS]))|(with_reducible refine aF ?_)
         cases b
         ·have Hn:=Lib.hid (Hnx.out rfl);clear Hnx Hst;go_wp2
          go_roundw
          case rel=>exact⟨⟨ExtC.h⟩,t+1,lt,rfl,Hn.out⟩
          case measure=>simp[RowKit.intOf];omega
         ·obtain⟨rfl,rfl,rfl⟩:=Hst.out rfl;clear Hnx Hst;go_wp2
          go_ret3
          exact⟨rfl,⟨ExtC.h⟩⟩
        ·obtain rfl:t=ic.length:=by omega
         have Hn:=Lib.hid (show∀j<i+1,((s.at_ (j:Nat)).incl.any fun y=>s.covers y j)=false from fun j hj=>by
          by_cases hji:j=i
          ·subst hji;rw[Hat2.out,List.any_eq_false];intro y hy;obtain⟨q,hq,rfl⟩:=List.mem_iff_getElem.1 hy;have:=Hc2.out q hq hq;simp[this]
          ·exact Hb.out j (by omega))
         go_wp2_with (first|(with_reducible refine aA ?_))
         exact⟨⟨⟨ExtC.h⟩,i+1,li,by push_cast;rfl,Hn.out⟩,by simp[RowKit.intOf];omega⟩
      ·obtain rfl:i=k:=by omega
       have hf:=H4.out;rw[sT Hnn.out Hb.out,Hk.out] at hf;injection hf with h1 h2
       injection h2 with h2 h3
       subst h1 h2 h3;go_wp2_with (first|(with_reducible refine aA ?_))
       go_ret3
       exact⟨rfl,⟨ExtC.h⟩⟩
class RChk1E (s:Sys) (p a r:outParam Int):Prop where h:s.check=(p,a,r)
instance{W:World}{v:Value}{s:Sys}{p a r:Int}[h:SysC W v s][q:RChk1E s p a r]:FunC Tryz.prog 58 #[v] W (RIII W p a r):=⟨yH s v p a r W h.h q.h⟩
end Go.Rg
end
