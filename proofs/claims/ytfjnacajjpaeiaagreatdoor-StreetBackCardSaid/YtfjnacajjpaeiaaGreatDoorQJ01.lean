/- Chapter 03: contracts of functions of the program and of the reference, and plain laws (out of KBack NSL5). No condition of its own. -/
import Derived.Test.YtfjnacajjpaeiaaGreatDoorQU01
set_option maxRecDepth 100000
set_option linter.all false
section
namespace Go.Proofs.YtfjnacajjpaeiaaGreatDoor
open Go Go.Bp Go.St Go.RowKit Go.Proofs Go.ChangeShapes Go.WideShapes Go.ChangeAt
theorem Ye:(Rows.streetBackRow.inPlace==Tryz.pinned.checked.prog.inPlace 14)=true:=by kernel_rfl
theorem Xy:(Rows.streetBackRow.unfollowed==Tryz.pinned.checked.prog.unfollowed 14)=true:=by kernel_rfl
theorem Ya:(Rows.streetBackRow.recurses==Tryz.pinned.checked.prog.recurses 14)=true:=by kernel_rfl
theorem Yc:(Rows.streetBackRow.named==Tryz.pinned.checked.prog.varsNamed 14)=true:=by kernel_rfl
theorem Xt:joinedFacts Tryz.pinned.checked.prog 14 Tryz.f14 Rows.streetBackSpec Rows.streetBackRow=true:=by
 unfold joinedFacts;rw[Ye,Xy,Ya,Yc];kernel_rfl
end Go.Proofs.YtfjnacajjpaeiaaGreatDoor
end
section
namespace Go.Walk
open Go Go.Bp Go.St Go.RowKit Go.Proofs
set_option synthInstance.maxSize 2000
set_option synthInstance.maxHeartbeats 400000
set_option maxHeartbeats 8000000
theorem LBack(tv kv:Value)(t:Town)(k:Task)(w:World)(h:aM w tv t)(hk:bA w kv k)(hv:Env w):
 Calls Tryz.prog 14 #[tv,kv] w (dB w true):=by
 obtain⟨pv,sv,tmv,xv,rfl,hT⟩:=id h;obtain⟨A1,cp1,rfl,_,hc1,_,_⟩:=hT.places;obtain⟨A2,cp2,rfl,_,hc2,_,_⟩:=hT.shows;obtain⟨A3,cp3,rfl,_,_,_,_⟩:=hT.times;obtain⟨A4,cp4,rfl,_,hc4,_⟩:=id hT.streets;obtain⟨ka,kb,ks,km,kl⟩:=k;obtain⟨cv,rfl,hC⟩:=hk;obtain⟨A5,cp5,rfl,_⟩:=id hC;have i1:=TownB.mk h;have i2:=IntsB.mk hC;have hST:=hT.streets;clear hT;have i3:=EnvB.mk hv;by_cases he:t.taskErr ⟨ka,kb,ks,km,kl⟩=0
 ·have f4:=TaskE.mk he;have hok:=Town.taskOk_of he;have hst:=hok.ok.st;obtain⟨⟨X,e⟩,hX⟩:∃r,t.allBoth.findAns ⟨ka,kb,ks,km,kl⟩=r:=⟨_,rfl⟩;obtain⟨⟨Y,f⟩,hY⟩:∃r,t.allBoth.findAns ⟨kb,ka,ks,km,kl⟩=r:=⟨_,rfl⟩;obtain⟨b1,b2,b3⟩:=Town.Qx he;rw[hX,show t.allBoth.findAns _=(Y,f) from hY] at b1 b2 b3
  simp only at b1 b2 b3;have f1:=FindE.mk hX;have f2:=FindE.mk hY;subst b1;have z2:(X.metres==Y.metres)=true:=by simpa using b2
  have z3:((X.steps.length:Int)==(Y.steps.length:Int))=true:=by simp;omega
  obtain⟨svs,s1,s2,i5⟩:=Xe hST;have hlen:svs.length=t.streets.length:=by have:=congrArg List.length s1;simpa using this
  have S1:=Lib.hid s1;have S2:=Lib.hid s2;have HL:=Lib.hid hlen;clear hX hY he hok b2 b3 s1 s2 hlen;go_enter Tryz.func14,Tryz.ntmps14
  go_wp2_with (first|(with_reducible refine Wh (uu:=5) ?_;rintro W0 rfl W5 g5 _ hB5 hA5)|(with_reducible refine Wi ?_;intro V g _ hR18)|(with_reducible refine Wv (d:=some 21) ?_;intro A21 c21 V hR21 _;simp only[Nat.zero_add,List.nil_append] at hR21)|(first|go_skip|(with_reducible refine pZ ?_)|(with_reducible refine pY ?_)|(with_reducible refine qA ?_;first|rintro _ V ⟨rfl,_⟩|rintro _ V ⟨_,_,rfl,_,_⟩)|(with_reducible refine oQ ?_;intro V g _ _ _)|(with_reducible refine pX ?_;intro V _ _)|(with_reducible refine Tq ?_;intro V g _ _ _)|(with_reducible refine oR ?_;intro V g _ _ _)|(with_reducible refine oS ?_;intro _ _ V hR _)))
  go_loopw [6] (fun iv wr=>StepC W0 wr∧∃i:Nat,i≤t.streets.length∧iv=.int .i64 i∧BlkC wr g5 25 [.slice A1 t.places.length cp1,.slice A2 t.shows.length cp2,.slice A3 t.times.length cp3,.slice A21 t.streets.length c21]∧RowC wr (.slice A21 t.streets.length c21) W5 87 7 t.streets.length (Vz (Wu svs i))) (fun iv _=>t.streets.length-(intOf iv).toNat)
  case atStart=>exact⟨⟨ExtC.h⟩,0,by omega,rfl,inferInstance,(inferInstance:RowC V (.slice A21 t.streets.length c21) W5 87 7 t.streets.length (Vz svs))⟩
  case round=>
   obtain⟨_,i,hi,rfl,hB,hR⟩:=hrel;by_cases hlt:i<t.streets.length
   ·have z1:(i:Int)<(t.streets.length:Int):=by omega
    have Hset:=Lib.hid (Xn svs i (by rw[HL.out];exact hlt))
    obtain⟨g21,rfl⟩:=Xm hR (by omega)
    go_wp2_with (first|(with_reducible refine Xk (t:=4) (off:=i*7+5) (v:=.bool true) hR ?_;intro V hR2 _)|(first|go_skip|(with_reducible refine pZ ?_)|(with_reducible refine pY ?_)|(with_reducible refine qA ?_;first|rintro _ V ⟨rfl,_⟩|rintro _ V ⟨_,_,rfl,_,_⟩)|(with_reducible refine oQ ?_;intro V g _ _ _)|(with_reducible refine pX ?_;intro V _ _)|(with_reducible refine Tq ?_;intro V g _ _ _)|(with_reducible refine oR ?_;intro V g _ _ _)|(with_reducible refine oS ?_;intro _ _ V hR _)))
    go_roundw
    case rel=>exact⟨⟨ExtC.h⟩,i+1,hlt,by go_num,inferInstance,by rw[←Hset.out];exact hR2⟩
    case measure=>simp[intOf];omega
   ·obtain rfl:i=t.streets.length:=by omega
    have z1:¬((t.streets.length:Int)<(t.streets.length:Int)):=by omega
    have i6:=TownB.mk (Xj (x:=.slice A21 t.streets.length c21) i1.h (ExtC.h (a:=w) (b:=wr)) S1.out S2.out HL.out.symm (Sl.of_own hR.h));go_wp2_with (first|(with_reducible refine Wh (uu:=7) ?_;rintro W6 rfl W7 g7 _ hB7 hA7)|(first|go_skip|(with_reducible refine pZ ?_)|(with_reducible refine pY ?_)|(with_reducible refine qA ?_;first|rintro _ V ⟨rfl,_⟩|rintro _ V ⟨_,_,rfl,_,_⟩)|(with_reducible refine oQ ?_;intro V g _ _ _)|(with_reducible refine pX ?_;intro V _ _)|(with_reducible refine Tq ?_;intro V g _ _ _)|(with_reducible refine oR ?_;intro V g _ _ _)|(with_reducible refine oS ?_;intro _ _ V hR _)))
    refine aR (.take 0 (.take 1 (.take 2 (.take 3 (.take 4 (.one 5 (.take 6 (.one 7 .nil)))))))) (fun w'=>Ext W6 w') ?_ (fun hHd=> ?_) (hQ:=by intro _ _ _ _ _ h;exact h)
    ·exact ExtC.h
    repeat' first|((with_reducible refine aB ?_);(first|(refine tk (v:= ?_) ?_ hHd ?_;rotate_left;(·(intro W' h;have:=StepC.mk h;with_reducible exact Ue)))|(refine tk (v:= ?_) ?_ hHd ?_;rotate_left;(·(intro wq hSw;go_simp;(try with_reducible rfl)))));(try simp only[pS]))|((with_reducible refine bC ?_);refine aQ (by simp only[gS];rfl) ?_)|((with_reducible refine fQ ?_);refine dI (by simp only[gS];rfl) (by simp only[gS];rfl) ?_ ?_)|(with_reducible refine Ua ?_;intro V g _ _ _)|(with_reducible refine pX ?_;intro V _ _)|((with_reducible refine Tx ?_);first|(rintro _ V ⟨rfl,_⟩;refine⟨_,rfl,?_⟩)|(rintro _ V ⟨_,_,rfl,_,_⟩;refine⟨_,rfl,?_⟩))|((with_reducible refine bB ?_);clear hHd;refine aJ ExtC.h (fun hHd=> ?_);(try simp only[pS]))|(with_reducible refine aG ?_)
    go_wp2_with (first|go_skip|(with_reducible refine pZ ?_)|(with_reducible refine pY ?_)|(with_reducible refine qA ?_;first|rintro _ V ⟨rfl,_⟩|rintro _ V ⟨_,_,rfl,_,_⟩)|(with_reducible refine oQ ?_;intro V g _ _ _)|(with_reducible refine pX ?_;intro V _ _)|(with_reducible refine Tq ?_;intro V g _ _ _)|(with_reducible refine oR ?_;intro V g _ _ _)|(with_reducible refine oS ?_;intro _ _ V hR _))
    go_ret
    exact⟨rfl,ExtC.h⟩
 ·obtain⟨e,hee⟩:∃e,t.taskErr ⟨ka,kb,ks,km,kl⟩=e:=⟨_,rfl⟩;rw[hee] at he;have f4:=TaskE.mk hee;have q1:(e !=0)=true:=by simpa using he
  clear hee he;go_enter Tryz.func14,Tryz.ntmps14
  go_wp2_with (first|go_skip|(with_reducible refine pZ ?_)|(with_reducible refine pY ?_)|(with_reducible refine qA ?_;first|rintro _ W ⟨rfl,_⟩|rintro _ W ⟨_,_,rfl,_,_⟩)|(with_reducible refine oQ ?_;intro W g _ _ _)|(with_reducible refine pX ?_;intro W _ _)|(with_reducible refine Tq ?_;intro W g _ _ _)|(with_reducible refine oR ?_;intro W g _ _ _)|(with_reducible refine oS ?_;intro _ _ W hR _))
  go_ret
  exact⟨rfl,ExtC.h⟩
end Go.Walk
end
