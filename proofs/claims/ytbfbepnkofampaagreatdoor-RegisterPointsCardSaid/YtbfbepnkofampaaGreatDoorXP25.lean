import Derived.Test.YtbfbepnkofampaaGreatDoorXP24
set_option maxRecDepth 100000
set_option synthInstance.maxSize 2000
set_option synthInstance.maxHeartbeats 400000
set_option maxHeartbeats 8000000
set_option linter.all false
section
namespace Go.Rg
open Go Go.Bp Go.RowKit Go.Walk Go.Proofs
class InE (n lo hi:Int) (b:outParam Bool):Prop where h:inB n lo hi=b
instance(priority:=1500){W:World}{n lo hi:Int}{b:Bool}[q:InE n lo hi b]:FunC Tryz.prog 60 #[.int .i64 n,.int .i64 lo,.int .i64 hi] W (RB W b):=⟨by
 rw[←q.h];exact(xC n lo hi W).mono fun e W' ⟨h,hE⟩=>⟨h,⟨hE▸Ext.refl _⟩⟩⟩
class NmE (s:ByteArray) (b:outParam Bool):Prop where h:s.size≤maxLen∧isName s=b
instance(priority:=1500){W:World}{s:ByteArray}{b:Bool}[p:NmE s b]:FunC Tryz.prog 111 #[.string s] W (RB W b):=⟨by
 rw[←p.h.2];exact(tG s W p.h.1).mono fun e W' ⟨h,hE⟩=>⟨h,⟨hE▸Ext.refl _⟩⟩⟩
class RgtE (s:outParam Sys) (l:List Right) (e:outParam Int):Prop where h:s.rightsErr l=e
instance(priority:=1500){W:World}{v lv:Value}{s:Sys}{l:List Right}{e:Int}[h:SysC W v s][hl:ListC Right W lv l][q:CntC s][z:RgtE s l e]:FunC Tryz.prog 113 #[v,lv] W (RI W e):=⟨by rw[←z.h];exact yE s v lv l W h.h hl.h q.h⟩
theorem pU{s:Sys}(x:Right):s.rightsErr [x]=s.rightErr x:=by
 unfold Sys.rightsErr;rw[if_neg (by simp)]
 by_cases hx:s.rightErr x=0
 ·rw[bU (fun i hi=>by simp at hi;subst hi;exact hx),hx]
 ·rw[cN (k:=0) (by simp) (by simpa using hx) (fun i hi=>by omega)];rfl
instance oneRight{W:World}{g:Nat}{t:TypeId}{a b:Int}[h:BlkC W g t [.int .i64 a,.int .i64 b]]:ListC Right W (.slice (some ⟨g,0,none⟩) 1 1) [⟨a,b⟩]:=⟨ListV.blk h.h rfl rfl (by simp[maxLen])⟩
theorem tN(r:Rules)(i:Nat)(nm:ByteArray)(a b lo hi:Int){n0 d2 b4 b5 d5:Bool}{e:Int}(h0:isName nm=n0)(h2:((r.treaties.take i).any fun x=>decide (x.name=nm))=d2)(h3:r.sys.rightErr ⟨a,b⟩=e)(h4:inB lo 0 40000=b4)(h5:inB hi 0 40000=b5)(h6:decide (hi<lo)=d5):
 r.treatyErr i ⟨nm,⟨a,b⟩,⟨lo,hi⟩⟩=firstT [(!n0,6),(d2,5),(decide (e≠0),e),(!b4|| !b5,7),(d5,2)] 0:=by
 unfold Rules.treatyErr;simp only[h0,h2,h3,h4,h5];have e6:(hi<lo)=(d5=true):=by rw[←h6];simp
 simp only[e6];by_cases he:e=0
 ·subst he;cases n0<;>cases d2<;>cases b4<;>cases b5<;>cases d5<;>rfl
 ·cases n0<;>cases d2<;>cases b4<;>cases b5<;>cases d5<;>simp[firstT,he]
theorem vP(r:Rules)(v:Value)(i:Nat)(w:World)(h:RulesV w v r)(hc:CntC r.sys)(hi0:i<r.treaties.length):Calls Tryz.prog 59 #[v,.int .i64 i] w (RI w (r.treatyErr i r.treaties[i])):=by
 obtain⟨A,n,c,A',c',A2,c2,rfl,hn,h1,h2,h3⟩:=h.h;subst hn;have i1:=RulesB.mk h;have i0:=SysB.mk h.sys;have hwf:=h.wf.2;have hcap:=h3.caps.2;obtain⟨ad,rfl,ha⟩:=h3.elem hi0;have i3':=ListB.mk h3;have hz:r.treaties[i].name.size≤maxLen:=hwf _ (List.getElem_mem hi0);obtain⟨⟨nm,⟨a,b⟩,lo,hi⟩,hx⟩:∃x,r.treaties[i]=x:=⟨_,rfl⟩;rw[hx] at ha hz⊢;have i4:CellsB w (ad.add (i*5)) [.string nm,.int .i64 a,.int .i64 b,.int .i64 lo,.int .i64 hi]:=⟨ha⟩;have i5:=SzC.mk hz;obtain⟨n0,e0⟩:∃x,isName nm=x:=⟨_,rfl⟩;obtain⟨d2,e2⟩:∃x,((r.treaties.take i).any fun x=>decide (x.name=nm))=x:=⟨_,rfl⟩
 obtain⟨e,e3⟩:∃x,r.sys.rightErr ⟨a,b⟩=x:=⟨_,rfl⟩;obtain⟨b4,e4⟩:∃x,inB lo 0 40000=x:=⟨_,rfl⟩;obtain⟨b5,e5⟩:∃x,inB hi 0 40000=x:=⟨_,rfl⟩;obtain⟨d5,e6⟩:∃x,decide (hi<lo)=x:=⟨_,rfl⟩;rw[tN r i nm a b lo hi e0 e2 e3 e4 e5 e6];have i6:=InE.mk e4;have i7:=InE.mk e5;have e3':r.sys.rightsErr [⟨a,b⟩]=e:=by rw[pU,e3]
 have HT:=Lib.hid (show∀j(hj:j<r.treaties.length),j<i→r.treaties[j].name=nm→d2=true from fun j hj hji hn=>by
  rw[←e2];refine List.any_eq_true.2 ⟨r.treaties[j],?_,by simpa using hn⟩
  rw[List.mem_take_iff_getElem];exact⟨j,by omega,rfl⟩)
 have HF:=Lib.hid (show(∀j(hj:j<r.treaties.length),j<i→r.treaties[j].name≠nm)→d2=false from fun h=>by
  rw[←e2,List.any_eq_false];intro x hx;rw[List.mem_take_iff_getElem] at hx;obtain⟨j,hj,rfl⟩:=hx;simpa using h j (by omega) (by omega))
 have E3:=Lib.hid e3';have hgt:(lo>hi)=(hi<lo):=rfl;have e6':decide (lo>hi)=d5:=e6;clear e2 e3 e4 e5 e6 h1 h2 hx ha hwf e3' hgt h3;have i8:=NmE.mk ⟨hz,e0⟩;have i9:=RgtE.mk E3.out;clear E3
 cases n0
 ·go_enter Tryz.func59,Tryz.ntmps59
  go_wp2_with (first|(with_reducible refine aA ?_)|(with_reducible refine aB ?_;first|rintro _ V ⟨rfl,(_:StepC _ _)⟩)|(with_reducible refine aG ?_;intro V g _ _ _)|(with_reducible refine aH ?_;intro V g _ _ _))
  go_ret
  exact⟨rfl,⟨ExtC.h⟩⟩
 ·go_enter Tryz.func59,Tryz.ntmps59
  go_wp2_with (first|(with_reducible refine aG (uu:=5) ?_;intro V5 g5 hE5 hB5 hA5)|(first|(with_reducible refine aA ?_)|(with_reducible refine aB ?_;first|rintro _ V ⟨rfl,(_:StepC _ _)⟩)|(with_reducible refine aH ?_;intro V g _ _ _)))
  go_loopw [6] (fun iv wr=>StepC V5 wr∧∃k:Nat,k≤i∧iv=.int .i64 k∧∀j(hj:j<r.treaties.length),j<k→r.treaties[j].name≠nm) (fun iv _=>i-(RowKit.intOf iv).toNat)
  case atStart=>exact⟨⟨ExtC.h⟩,0,by omega,rfl,fun j _ hj=>by omega⟩
  case round=>
   obtain⟨_,k,hk,rfl,hz⟩:=hrel;have Hz:=Lib.hid hz;clear hz;by_cases lk:k<i
   ·have lk2:k<r.treaties.length:=by omega
    obtain⟨_,e1,ha⟩:=i3'.h.elem lk2;injection e1 with e1
    subst e1;have hT:=HT.out k lk2 lk;have hN:=Lib.hid (show r.treaties[k].name≠nm→∀j(hj:j<r.treaties.length),j<k+1→r.treaties[j].name≠nm from fun h j hj hj2=>by
     by_cases hjk:j=k
     ·subst hjk;exact h
     ·exact Hz.out j hj (by omega))
    obtain⟨⟨nk,⟨ka,kb⟩,klo,khi⟩,hx⟩:∃x,r.treaties[k]=x:=⟨_,rfl⟩;rw[hx] at ha hT hN;simp only at hT hN;have j1:CellsB w (ad.add (k*5)) [.string nk,.int .i64 ka,.int .i64 kb,.int .i64 klo,.int .i64 khi]:=⟨ha⟩;have zk:IntKind.i64.wrap ((k:Int)+1)=(k:Int)+1:=IntWalk.i64_in _ (by omega)
    have hb:=tE nk nm;by_cases hkn:nk=nm
    ·obtain rfl:=hT hkn;rw[decide_eq_true hkn] at hb;clear hT hN hkn hx ha;go_wp2
     refine aP ((.take 0 (.take 1 (.take 2 (.take 3 (.take 4 (.take 5 (.take 6 (.take 7 (.take 8 .nil)))))))))) (fun hHd=> ?_) (hQ:=by intro _ _ _ _ _ h;exact h)
     repeat' first|((with_reducible refine aX ?_);(first|(refine tk (v:= ?_) ?_ hHd ?_;rotate_left;(·(intro W' h;have:=StepC.mk h;first|with_reducible exact aJ)))|(refine tk (v:= ?_) ?_ hHd ?_;rotate_left;(·(intro wq hSw;go_simp;(try with_reducible rfl)))));(try simp only[pS]))|(with_reducible refine aF ?_)
     all_goals
      (try simp only[hb])
      go_wp2
      go_ret
      exact⟨rfl,⟨ExtC.h⟩⟩
    ·have Hn:=Lib.hid (hN.out hkn);rw[decide_eq_false hkn] at hb;clear hT hN hkn hx ha;go_wp2
     refine aP ((.take 0 (.take 1 (.take 2 (.take 3 (.take 4 (.take 5 (.take 6 (.take 7 (.take 8 .nil)))))))))) (fun hHd=> ?_) (hQ:=by intro _ _ _ _ _ h;exact h)
     repeat' first|((with_reducible refine aX ?_);(first|(refine tk (v:= ?_) ?_ hHd ?_;rotate_left;(·(intro W' h;have:=StepC.mk h;first|with_reducible exact aJ)))|(refine tk (v:= ?_) ?_ hHd ?_;rotate_left;(·(intro wq hSw;go_simp;(try with_reducible rfl)))));(try simp only[pS]))|(with_reducible refine aF ?_)
     all_goals
      (try simp only[hb])
      go_wp2
      go_roundw
      case rel=>exact⟨⟨ExtC.h⟩,k+1,lk,by push_cast;rfl,Hn.out⟩
      case measure=>simp[RowKit.intOf];omega
   ·obtain rfl:k=i:=by omega
    obtain rfl:=HF.out (fun j hj hji=>Hz.out j hj hji)
    by_cases he:e=0
    ·subst he
     cases b4
     ·go_wp2_with (first|go_skip|(with_reducible refine aA ?_)|(with_reducible refine aB ?_;first|rintro _ V ⟨rfl,(_:StepC _ _)⟩)|(with_reducible refine aD ?_;intro V g _ _ _))
      go_ret
      exact⟨rfl,⟨ExtC.h⟩⟩
     ·cases b5
      ·go_wp2_with (first|(with_reducible refine aA ?_)|(with_reducible refine bA ?_)|(with_reducible refine aB ?_;first|rintro _ V ⟨rfl,(_:StepC _ _)⟩)|(with_reducible refine aD ?_;intro V g _ _ _))
       go_ret
       exact⟨rfl,⟨ExtC.h⟩⟩
      ·cases d5
       all_goals
        go_wp2_with (first|(with_reducible refine aA ?_)|(with_reducible refine bA ?_)|(with_reducible refine aB ?_;first|rintro _ V ⟨rfl,(_:StepC _ _)⟩)|(with_reducible refine aD ?_;intro V g _ _ _))
        go_ret
        exact⟨rfl,⟨ExtC.h⟩⟩
    ·have q:(e !=0)=true:=by simpa using he
     have E:firstT [(!true,6),(false,5),(decide (e≠0),e),(!b4|| !b5,7),(d5,2)] 0=e:=by simp[firstT,he]
     have HE:=Lib.hid E;clear E he;go_wp2_with (first|(with_reducible refine aA ?_)|(with_reducible refine aB ?_;first|rintro _ V ⟨rfl,(_:StepC _ _)⟩)|(with_reducible refine aD ?_;intro V g _ _ _))
     go_ret
     exact⟨by rw[HE.out];rfl,⟨ExtC.h⟩⟩
class TrtE (r:Rules) (i:Nat) (e:outParam Int):Prop where h:∃hi:i<r.treaties.length,r.treatyErr i r.treaties[i]=e
instance{W:World}{v:Value}{r:Rules}{i:Nat}{e:Int}[h:RulesC W v r][hc:CntC r.sys][q:TrtE r i e]:FunC Tryz.prog 59 #[v,.int .i64 i] W (RI W e):=⟨by obtain⟨h1,h2⟩:=q.h;rw[←h2];exact vP r v i W h.h hc h1⟩
theorem kH{s:Sys}(h:s.check.2.2=0):CntC s:=⟨(Sys.ok_of h).n.2,(Sys.ok_of h).c⟩
theorem xT{r:Rules}{p a e:Int}(hc:r.check=(p,a,e)):
 (∃p1 a1,r.sys.check=(p1,a1,e)∧e≠0∧p=1∧a=0)∨
 (r.sys.check=(0,0,0)∧6<r.treaties.length∧p=2∧a=0∧e=3)∨
 (r.sys.check=(0,0,0)∧r.treaties.length≤6∧firstE r.treaties r.treatyErr=(a,e)∧e≠0∧p=2)∨
 (r.sys.check=(0,0,0)∧r.treaties.length≤6∧(∀i(hi:i<r.treaties.length),r.treatyErr i r.treaties[i]=0)∧
  ∃b1 b2 b3,inB r.limit 1 100=b1∧inB r.fall 1 40000=b2∧inB r.ban 1 40000=b3∧(p,a,e)=if(!b1|| !b2|| !b3)=true then((3:Int),(0:Int),(7:Int)) else(0,0,0)):=by
 obtain⟨⟨p1,a1,e1⟩,hk⟩:∃x,r.sys.check=x:=⟨_,rfl⟩;unfold Rules.check at hc;rw[hk] at hc;simp only at hc;by_cases z1:e1=0
 ·subst z1;obtain⟨rfl,rfl⟩:=eD hk;rw[if_neg (by simp)] at hc
  by_cases z2:6<r.treaties.length
  ·rw[if_pos z2] at hc;injection hc with m1 m2
   injection m2 with m2 m3
   exact .inr (.inl ⟨hk,z2,m1.symm,m2.symm,m3.symm⟩)
  rw[if_neg z2] at hc;obtain⟨⟨a3,e3⟩,hf⟩:∃x,firstE r.treaties r.treatyErr=x:=⟨_,rfl⟩;rw[hf] at hc;simp only at hc;by_cases z3:e3=0
  ·subst z3;rw[if_neg (by simp)] at hc
   refine .inr (.inr (.inr ⟨hk,by omega,fun i hi=>dH (by rw[hf]) i hi,_,_,_,rfl,rfl,rfl,?_⟩))
   rw[←hc];by_cases hb:inB r.limit 1 100=false∨inB r.fall 1 40000=false∨inB r.ban 1 40000=false
   ·rw[if_pos hb,if_pos (by rcases hb with h|h|h<;>rw[h]<;>simp)]
   ·rw[if_neg hb,if_neg (by simp only[not_or,Bool.not_eq_false] at hb;rw[hb.1,hb.2.1,hb.2.2];simp)]
  ·rw[if_pos z3] at hc;injection hc with m1 m2
   injection m2 with m2 m3
   subst m1 m2 m3;exact .inr (.inr (.inl ⟨hk,by omega,hf,z3,rfl⟩))
 ·rw[if_pos z1] at hc;injection hc with m1 m2
  injection m2 with m2 m3
  subst m1 m2 m3;exact .inl ⟨_,_,hk,z1,rfl,rfl⟩
theorem zL(r:Rules)(v:Value)(p a e:Int)(w:World)(h:RulesV w v r)(hc:r.check=(p,a,e)):Calls Tryz.prog 17 #[v] w (RIII w p a e):=by
 obtain⟨A,n,c,A',c',A2,c2,rfl,hn,h1,h2,h3⟩:=h.h;subst hn;have i1:=RulesB.mk h;have i0:=SysB.mk h.sys;have hcap:=h3.caps.2;clear h1 h2 h3;rcases xT hc with ⟨p1,a1,hk,he,rfl,rfl⟩|⟨hk,ht,rfl,rfl,rfl⟩|⟨hk,ht,hf,he,rfl⟩|⟨hk,ht,hz,b1,b2,b3,e1,e2,e3,hpe⟩
 ·have i2:=RChk1E.mk hk;have q:(e !=0)=true:=by simpa using he
  clear hk hc he;go_enter Tryz.func17,Tryz.ntmps17
  go_wp2_with (first|(with_reducible refine aA ?_)|(with_reducible refine aB ?_;first|rintro _ V ⟨rfl,(_:StepC _ _)⟩)|(with_reducible refine aH ?_;intro V g _ _ _))
  go_ret3
  exact⟨rfl,⟨ExtC.h⟩⟩
 ·have i2:=RChk1E.mk hk;have q:decide ((r.treaties.length:Int)>6)=true:=by simp;omega
  clear hk hc ht;go_enter Tryz.func17,Tryz.ntmps17
  go_wp2_with (first|(with_reducible refine aA ?_)|(with_reducible refine aB ?_;first|rintro _ V ⟨rfl,(_:StepC _ _)⟩)|(with_reducible refine aH ?_;intro V g _ _ _))
  go_ret3
  exact⟨rfl,⟨ExtC.h⟩⟩
 ·have i2:=RChk1E.mk hk;have i3:CntC r.sys:=kH (by rw[hk])
  have q:decide ((r.treaties.length:Int)>6)=false:=by simp;omega
  have HA:=Lib.hid (show∀i(hi:i<r.treaties.length),(∀j(hj:j<r.treaties.length),j<i→r.treatyErr j r.treaties[j]=0)→r.treatyErr i r.treaties[i]≠0→a=i∧e=r.treatyErr i r.treaties[i] from fun i hi hj h=>by
   have:=cN (f:=r.treatyErr) hi h (fun j hj2=>hj j (by omega) hj2)
   rw[hf] at this;injection this with m1 m2
   exact⟨m1,m2⟩)
  have HN:=Lib.hid (show(∀j(hj:j<r.treaties.length),r.treatyErr j r.treaties[j]=0)→False from fun h=>by
   rw[bU h] at hf;injection hf with m1 m2
   exact he m2.symm)
  clear hk hc hf;go_enter Tryz.func17,Tryz.ntmps17
  go_wp2_with (first|(with_reducible refine aA ?_)|(with_reducible refine aB ?_;first|rintro _ V ⟨rfl,(_:StepC _ _)⟩)|(with_reducible refine aH ?_;intro V g _ _ _))
  go_loopw [8] (fun iv wr=>StepC V wr∧∃k:Nat,k≤r.treaties.length∧iv=.int .i64 k∧∀j(hj:j<r.treaties.length),j<k→r.treatyErr j r.treaties[j]=0) (fun iv _=>r.treaties.length-(RowKit.intOf iv).toNat)
  case atStart=>exact⟨⟨ExtC.h⟩,0,by omega,rfl,fun j _ hj=>by omega⟩
  case round=>
   obtain⟨_,k,hk,rfl,hz⟩:=hrel;have Hz:=Lib.hid hz;clear hz;by_cases lk:k<r.treaties.length
   ·have hA:=HA.out k lk (fun j hj hji=>Hz.out j hj hji)
    obtain⟨ek,hek⟩:∃x,r.treatyErr k r.treaties[k]=x:=⟨_,rfl⟩;rw[hek] at hA;have i4:TrtE r k ek:=⟨lk,hek⟩;have zk:IntKind.i64.wrap ((k:Int)+1)=(k:Int)+1:=IntWalk.i64_in _ (by omega)
    by_cases hz:ek=0
    ·have Hn:=Lib.hid (show∀j(hj:j<r.treaties.length),j<k+1→r.treatyErr j r.treaties[j]=0 from fun j hj hj2=>by
      by_cases hjk:j=k
      ·subst hjk;rw[hek];exact hz
      ·exact Hz.out j hj (by omega))
     subst hz;clear hek hA;go_wp2_with (first|(with_reducible refine aA ?_)|(with_reducible refine aB ?_;first|rintro _ V ⟨rfl,(_:StepC _ _)⟩))
     go_roundw
     case rel=>exact⟨⟨ExtC.h⟩,k+1,lk,by push_cast;rfl,Hn.out⟩
     case measure=>simp[RowKit.intOf];omega
    ·obtain⟨rfl,rfl⟩:=hA hz;have q2:(e !=0)=true:=by simpa using hz
     clear hek hA hz;go_wp2_with (first|(with_reducible refine aA ?_)|(with_reducible refine aB ?_;first|rintro _ V ⟨rfl,(_:StepC _ _)⟩))
     go_ret3
     exact⟨rfl,⟨ExtC.h⟩⟩
   ·exact(HN.out fun j hj=>Hz.out j hj (by omega)).elim
 ·have i2:=RChk1E.mk hk;have i3:CntC r.sys:=kH (by rw[hk])
  have q:decide ((r.treaties.length:Int)>6)=false:=by simp;omega
  have i4:=InE.mk e1;have i5:=InE.mk e2;have i6:=InE.mk e3;have Hz:=Lib.hid hz;clear hk hc e1 e2 e3 hz;go_enter Tryz.func17,Tryz.ntmps17
  go_wp2_with (first|(with_reducible refine aA ?_)|(with_reducible refine aB ?_;first|rintro _ V ⟨rfl,(_:StepC _ _)⟩)|(with_reducible refine aH ?_;intro V g _ _ _))
  go_loopw [8] (fun iv wr=>StepC V wr∧∃k:Nat,k≤r.treaties.length∧iv=.int .i64 k) (fun iv _=>r.treaties.length-(RowKit.intOf iv).toNat)
  case atStart=>exact⟨⟨ExtC.h⟩,0,by omega,rfl⟩
  case round=>
   obtain⟨_,k,hk,rfl⟩:=hrel;by_cases lk:k<r.treaties.length
   ·have i7:TrtE r k 0:=⟨lk,Hz.out k lk⟩;have zk:IntKind.i64.wrap ((k:Int)+1)=(k:Int)+1:=IntWalk.i64_in _ (by omega)
    go_wp2_with (first|(with_reducible refine aA ?_)|(with_reducible refine aB ?_;first|rintro _ V ⟨rfl,(_:StepC _ _)⟩))
    go_roundw
    case rel=>exact⟨⟨ExtC.h⟩,k+1,lk,by push_cast;rfl⟩
    case measure=>simp[RowKit.intOf];omega
   ·obtain rfl:k=r.treaties.length:=by omega
    cases b1
    ·obtain⟨rfl,rfl,rfl⟩:p=3∧a=0∧e=7:=by simpa using hpe
     clear hpe;go_wp2_with (first|go_skip|(with_reducible refine aA ?_)|(with_reducible refine aB ?_;first|rintro _ V ⟨rfl,(_:StepC _ _)⟩))
     go_ret3
     exact⟨rfl,⟨ExtC.h⟩⟩
    ·cases b2
     ·obtain⟨rfl,rfl,rfl⟩:p=3∧a=0∧e=7:=by simpa using hpe
      clear hpe;go_wp2_with (first|go_skip|(with_reducible refine aA ?_)|(with_reducible refine bA ?_)|(with_reducible refine aB ?_;first|rintro _ V ⟨rfl,(_:StepC _ _)⟩))
      go_ret3
      exact⟨rfl,⟨ExtC.h⟩⟩
     ·cases b3
      ·obtain⟨rfl,rfl,rfl⟩:p=3∧a=0∧e=7:=by simpa using hpe
       clear hpe;go_wp2_with (first|(with_reducible refine aA ?_)|(with_reducible refine bA ?_)|(with_reducible refine aB ?_;first|rintro _ V ⟨rfl,(_:StepC _ _)⟩))
       go_ret3
       exact⟨rfl,⟨ExtC.h⟩⟩
      ·obtain⟨rfl,rfl,rfl⟩:p=0∧a=0∧e=0:=by simpa using hpe
       clear hpe;go_wp2_with (first|(with_reducible refine aA ?_)|(with_reducible refine bA ?_)|(with_reducible refine aB ?_;first|rintro _ V ⟨rfl,(_:StepC _ _)⟩))
       go_ret3
       exact⟨rfl,⟨ExtC.h⟩⟩
class RfChkE (r:Rules) (p a e:outParam Int):Prop where h:r.check=(p,a,e)
instance{W:World}{v:Value}{r:Rules}{p a e:Int}[h:RulesC W v r][q:RfChkE r p a e]:FunC Tryz.prog 17 #[v] W (RIII W p a e):=⟨zL r v p a e W h.h q.h⟩
class HadE (r:Rules) (x:Event) (y:outParam Event) (e:outParam Int):Prop where h:r.had x=(y,e)
abbrev REv(W:World)(y:Event)(n:Int)(e:Ending)(W':World):Prop:=e=.returned (.tuple #[Enc.val y,.int .i64 n])∧StepC W W'
theorem Nc(r:Rules)(v:Value)(k d c o t q p u m e:Int)(y:Event)(w:World)(h:RulesV w v r)(hc:CntC r.sys)(hh:r.had ⟨k,d,⟨c,o⟩,t,q,p,u,m⟩=(y,e)):
 Calls Tryz.prog 159 #[v,.agg #[.int .i64 k,.int .i64 d,.int .i64 c,.int .i64 o,.int .i64 t,.int .i64 q,.int .i64 p,.int .i64 u,.int .i64 m]] w (REv w y e):=by
 obtain⟨A,n,kc,A',c',A2,c2,rfl,hn,hhr⟩:=h.h;subst hn;have i1:=RulesB.mk h;have i0:=SysB.mk h.sys;have hz1:IntKind.i64.wrap ((r.treaties.length:Int)-1)=(r.treaties.length:Int)-1:=by
  have:=hhr.2.2.caps.2;exact IntWalk.i64_in _ (by omega)
 have hz2:IntKind.i64.wrap ((r.sys.classes.length:Int)-1)=(r.sys.classes.length:Int)-1:=by
  obtain⟨l,q1,q2,-⟩:=hhr.1.h;have:=q2.caps;exact IntWalk.i64_in _ (by omega)
 clear hhr;unfold Rules.had at hh;simp only at hh;by_cases k0:k=0
 ·subst k0;rw[if_pos rfl] at hh;injection hh with h1 h2
  subst h1;obtain⟨e1,he⟩:∃x,r.sys.rightErr ⟨c,o⟩=x:=⟨_,rfl⟩;obtain⟨b,hb⟩:∃x,inB m 0 1439=x:=⟨_,rfl⟩;have i2:=RgtE.mk (by rw[pU,he]:r.sys.rightsErr [⟨c,o⟩]=e1)
  have i3:=InE.mk hb;rw[he,hb] at h2;clear he hb;by_cases z:e1=0
  ·subst z;rw[if_neg (by simp)] at h2
   cases b
   ·obtain rfl:7=e:=by simpa using h2
    clear h2;go_enter Tryz.func159,Tryz.ntmps159
    go_wp2_with (first|(with_reducible refine aA ?_)|(with_reducible refine bA ?_)|(with_reducible refine aB ?_;first|rintro _ V ⟨rfl,(_:StepC _ _)⟩)|(with_reducible refine aI ?_;intro V _ _)|(with_reducible refine aH ?_;intro V g _ _ _)|(with_reducible refine aR ?_;intro V g _ _ _)|(with_reducible refine aD ?_;intro V g _ _ _))
    exact bM rfl rfl (by with_unfolding_all rfl) ⟨rfl,⟨ExtC.h⟩⟩
   ·obtain rfl:0=e:=by simpa using h2
    clear h2;go_enter Tryz.func159,Tryz.ntmps159
    go_wp2_with (first|(with_reducible refine aA ?_)|(with_reducible refine bA ?_)|(with_reducible refine aB ?_;first|rintro _ V ⟨rfl,(_:StepC _ _)⟩)|(with_reducible refine aI ?_;intro V _ _)|(with_reducible refine aH ?_;intro V g _ _ _)|(with_reducible refine aR ?_;intro V g _ _ _)|(with_reducible refine aD ?_;intro V g _ _ _))
    exact bM rfl rfl (by with_unfolding_all rfl) ⟨rfl,⟨ExtC.h⟩⟩
  ·rw[if_pos z] at h2;subst h2;have q0:(e1==0)=false:=by simpa using z
   clear z;go_enter Tryz.func159,Tryz.ntmps159
   go_wp2_with (first|go_skip|(with_reducible refine aA ?_)|(with_reducible refine aB ?_;first|rintro _ V ⟨rfl,(_:StepC _ _)⟩)|(with_reducible refine aI ?_;intro V _ _)|(with_reducible refine aH ?_;intro V g _ _ _)|(with_reducible refine aR ?_;intro V g _ _ _)|(with_reducible refine aD ?_;intro V g _ _ _))
   exact bM rfl rfl (by with_unfolding_all rfl) ⟨rfl,⟨ExtC.h⟩⟩
 rw[if_neg k0] at hh;have q0:(k==0)=false:=by simpa using k0
 by_cases k1:k=1
 ·subst k1;rw[if_pos rfl] at hh;injection hh with h1 h2
  subst h1;obtain⟨b,hb⟩:∃x,inB t 0 ((r.treaties.length:Int)-1)=x:=⟨_,rfl⟩;have i3:=InE.mk hb;rw[hb] at h2;clear hb
  cases b
  ·obtain rfl:4=e:=by simpa using h2
   clear h2;go_enter Tryz.func159,Tryz.ntmps159
   go_wp2_with (first|(with_reducible refine aA ?_)|(with_reducible refine aB ?_;first|rintro _ V ⟨rfl,(_:StepC _ _)⟩)|(with_reducible refine aI ?_;intro V _ _)|(with_reducible refine aH ?_;intro V g _ _ _)|(with_reducible refine aR ?_;intro V g _ _ _))
   exact bM rfl rfl (by with_unfolding_all rfl) ⟨rfl,⟨ExtC.h⟩⟩
  ·obtain rfl:0=e:=by simpa using h2
   clear h2;go_enter Tryz.func159,Tryz.ntmps159
   go_wp2_with (first|(with_reducible refine aA ?_)|(with_reducible refine aB ?_;first|rintro _ V ⟨rfl,(_:StepC _ _)⟩)|(with_reducible refine aI ?_;intro V _ _)|(with_reducible refine aH ?_;intro V g _ _ _)|(with_reducible refine aR ?_;intro V g _ _ _))
   exact bM rfl rfl (by with_unfolding_all rfl) ⟨rfl,⟨ExtC.h⟩⟩
 rw[if_neg k1] at hh;have q1:(k==1)=false:=by simpa using k1
 by_cases k2:k=2
 ·subst k2;rw[if_pos rfl] at hh;injection hh with h1 h2
  subst h1;obtain⟨b,hb⟩:∃x,inB q 0 ((r.sys.classes.length:Int)-1)=x:=⟨_,rfl⟩;have i3:=InE.mk hb;rw[hb] at h2;clear hb
  cases b
  ·obtain rfl:4=e:=by simpa using h2
   clear h2;go_enter Tryz.func159,Tryz.ntmps159
   go_wp2_with (first|(with_reducible refine aA ?_)|(with_reducible refine aB ?_;first|rintro _ V ⟨rfl,(_:StepC _ _)⟩)|(with_reducible refine aI ?_;intro V _ _)|(with_reducible refine aH ?_;intro V g _ _ _)|(with_reducible refine aR ?_;intro V g _ _ _))
   exact bM rfl rfl (by with_unfolding_all rfl) ⟨rfl,⟨ExtC.h⟩⟩
  ·obtain rfl:0=e:=by simpa using h2
   clear h2;go_enter Tryz.func159,Tryz.ntmps159
   go_wp2_with (first|(with_reducible refine aA ?_)|(with_reducible refine aB ?_;first|rintro _ V ⟨rfl,(_:StepC _ _)⟩)|(with_reducible refine aI ?_;intro V _ _)|(with_reducible refine aH ?_;intro V g _ _ _)|(with_reducible refine aR ?_;intro V g _ _ _))
   exact bM rfl rfl (by with_unfolding_all rfl) ⟨rfl,⟨ExtC.h⟩⟩
 rw[if_neg k2] at hh;have q2:(k==2)=false:=by simpa using k2
 obtain⟨bp,hbp⟩:∃x,inB p 1 20=x:=⟨_,rfl⟩;have i4:=InE.mk hbp;rw[hbp] at hh;clear hbp;by_cases k4:k=4
 ·subst k4;rw[if_pos rfl] at hh;injection hh with h1 h2
  subst h1;obtain⟨b,hb⟩:∃x,inB u d 40000=x:=⟨_,rfl⟩;have i3:=InE.mk hb;rw[hb] at h2;clear hb
  cases b
  ·obtain rfl:7=e:=by simpa using h2
   clear h2;go_enter Tryz.func159,Tryz.ntmps159
   go_wp2_with (first|(with_reducible refine aA ?_)|(with_reducible refine aB ?_;first|rintro _ V ⟨rfl,(_:StepC _ _)⟩)|(with_reducible refine aI ?_;intro V _ _)|(with_reducible refine aH ?_;intro V g _ _ _)|(with_reducible refine aR ?_;intro V g _ _ _))
   exact bM rfl rfl (by with_unfolding_all rfl) ⟨rfl,⟨ExtC.h⟩⟩
  ·obtain rfl:0=e:=by simpa using h2
   clear h2;go_enter Tryz.func159,Tryz.ntmps159
   go_wp2_with (first|(with_reducible refine aA ?_)|(with_reducible refine aB ?_;first|rintro _ V ⟨rfl,(_:StepC _ _)⟩)|(with_reducible refine aI ?_;intro V _ _)|(with_reducible refine aH ?_;intro V g _ _ _)|(with_reducible refine aR ?_;intro V g _ _ _))
   exact bM rfl rfl (by with_unfolding_all rfl) ⟨rfl,⟨ExtC.h⟩⟩
 rw[if_neg k4] at hh;have q4:(k==4)=false:=by simpa using k4
 injection hh with h1 h2
 subst h1
 cases bp
 ·obtain rfl:7=e:=by simpa using h2
  clear h2 k0 k1 k2 k4;go_enter Tryz.func159,Tryz.ntmps159
  go_wp2_with (first|(with_reducible refine aA ?_)|(with_reducible refine aB ?_;first|rintro _ V ⟨rfl,(_:StepC _ _)⟩)|(with_reducible refine aI ?_;intro V _ _)|(with_reducible refine aH ?_;intro V g _ _ _)|(with_reducible refine aR ?_;intro V g _ _ _))
  exact bM rfl rfl (by with_unfolding_all rfl) ⟨rfl,⟨ExtC.h⟩⟩
 ·obtain rfl:0=e:=by simpa using h2
  clear h2 k0 k1 k2 k4;go_enter Tryz.func159,Tryz.ntmps159
  go_wp2_with (first|(with_reducible refine aA ?_)|(with_reducible refine aB ?_;first|rintro _ V ⟨rfl,(_:StepC _ _)⟩)|(with_reducible refine aI ?_;intro V _ _)|(with_reducible refine aH ?_;intro V g _ _ _)|(with_reducible refine aR ?_;intro V g _ _ _))
  exact bM rfl rfl (by with_unfolding_all rfl) ⟨rfl,⟨ExtC.h⟩⟩
instance{W:World}{v:Value}{r:Rules}{k d c o t q p u m e:Int}{y:Event}[h:RulesC W v r][hc:CntC r.sys][z:HadE r ⟨k,d,⟨c,o⟩,t,q,p,u,m⟩ y e]:FunC Tryz.prog 159 #[v,.agg #[.int .i64 k,.int .i64 d,.int .i64 c,.int .i64 o,.int .i64 t,.int .i64 q,.int .i64 p,.int .i64 u,.int .i64 m]] W (REv W y e):=⟨Nc r v k d c o t q p u m e y W h.h hc z.h⟩
end Go.Rg
end
