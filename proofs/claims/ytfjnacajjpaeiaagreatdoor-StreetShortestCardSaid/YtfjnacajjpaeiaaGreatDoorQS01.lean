/- Chapter 03: contracts of functions of the program and of the reference, and plain laws (out of KShortest NSL2). No condition of its own. -/
import Derived.Test.YtfjnacajjpaeiaaGreatDoorQG01
import Derived.Test.YtfjnacajjpaeiaaGreatDoorQM01
set_option maxRecDepth 100000
set_option linter.all false
section
namespace Go.Proofs.YtfjnacajjpaeiaaGreatDoor
open Go Go.Bp Go.St Go.RowKit Go.Proofs Go.ChangeShapes Go.WideShapes Go.ChangeAt
theorem ip9:(Rows.streetShortestRow.inPlace==Tryz.pinned.checked.prog.inPlace 9)=true:=by kernel_rfl
theorem uf9:(Rows.streetShortestRow.unfollowed==Tryz.pinned.checked.prog.unfollowed 9)=true:=by kernel_rfl
theorem rc9:(Rows.streetShortestRow.recurses==Tryz.pinned.checked.prog.recurses 9)=true:=by kernel_rfl
theorem nm9:(Rows.streetShortestRow.named==Tryz.pinned.checked.prog.varsNamed 9)=true:=by kernel_rfl
theorem Uq:joinedFacts Tryz.pinned.checked.prog 9 Tryz.f9 Rows.streetShortestSpec Rows.streetShortestRow=true:=by
 unfold joinedFacts;rw[ip9,uf9,rc9,nm9];kernel_rfl
end Go.Proofs.YtfjnacajjpaeiaaGreatDoor
end
section
namespace Go.Walk
open Go Go.Bp Go.St Go.RowKit Go.Proofs
theorem Town.taken_open{t:Town}{k:Task}(he:t.taskErr k=0)(x:List Nat):∀s∈t.taken k x,s.st∉k.closed:=fun s hs=>
 (Town.mem_stepsAll.1 ((Town.tO (Town.taskOk_of he) (x.take 200) k.a (Town.taskOk_of he).a).1 s hs)).2.1
set_option synthInstance.maxSize 2000
set_option synthInstance.maxHeartbeats 400000
set_option maxHeartbeats 4000000
theorem LShortest(tv kv uv:Value)(t:Town)(k:Task)(xs:List Nat)(w:World)(h:aM w tv t)(hk:bA w kv k)(hu:Ts w uv xs)(hv:Env w):
 Calls Tryz.prog 9 #[tv,kv,uv] w (dB w true):=by
 obtain⟨pv,sv,tmv,xv,rfl,hT⟩:=id h;obtain⟨A1,cp1,rfl,_,hc1,_,_⟩:=hT.places;obtain⟨A2,cp2,rfl,_,hc2,_,_⟩:=hT.shows;obtain⟨A3,cp3,rfl,_,_,_,_⟩:=hT.times;obtain⟨A4,cp4,rfl,_,hc4,_⟩:=id hT.streets;obtain⟨ka,kb,ks,km,kl⟩:=k;obtain⟨cv,rfl,hC⟩:=hk;obtain⟨A5,cp5,rfl,_⟩:=id hC;have i1:=TownB.mk h;have i2:=IntsB.mk hC;have hST:=hT.streets;clear hT;have i3:=EnvB.mk hv;have i4:=NumsB.mk hu;by_cases he:t.taskErr ⟨ka,kb,ks,km,kl⟩=0
 ·have f4:=TaskE.mk he;obtain⟨k2,m,hA,he2,h0,hd,hm,hl,_⟩:=Town.Qm he xs;obtain⟨l,hl0⟩:∃l,t.taken ⟨ka,kb,ks,km,kl⟩ xs=l:=⟨_,rfl⟩;have f5:TakenE t ⟨ka,kb,ks,km,kl⟩ xs l:=⟨hl0,he⟩;rw[hl0] at hA hl;have f6:AimE t ⟨ka,kb,ks,km,kl⟩ l k2 m:=⟨hA,he,by rw[←hl0];exact Town.taken_open he xs⟩
  obtain⟨⟨Y,u⟩,hY⟩:∃r,t.findAns k2=r:=⟨_,rfl⟩;rw[hY] at h0 hd hm hl;simp only at h0 hd hm hl;subst h0;have f2:=FindE.mk hY;have f7:DoesE t k2 Y true:=⟨hd,he2⟩;have Hl:=Lib.hid hl;have Hfin:Hid (decide (Y.metres<m)=true∨(decide (Y.metres<m)=false∧(Y.steps.length:Int)≤(l.length:Int))):=Lib.hid (by by_cases h:Y.metres<m<;>rcases Hl.out with h2|h2<;>simp[h]<;>omega)
  rcases Town.lO he with ⟨_,hX⟩|⟨c,hb,hd1⟩
  ·have f1:=FindE.mk hX;clear hA hl0 hY hd hX he hl Hl;rcases Hfin.out with hf|⟨hf,hf2⟩
   all_goals
    go_enter Tryz.func9,Tryz.ntmps9
    go_wp2_with (first|go_skip|(with_reducible refine pZ ?_)|(with_reducible refine pY ?_)|(with_reducible refine qA ?_;first|rintro _ W ⟨rfl,_⟩|rintro _ W ⟨_,_,rfl,_,_⟩)|(with_reducible refine oQ ?_;intro W g _ _ _)|(with_reducible refine pX ?_;intro W _ _)|(with_reducible refine Tq ?_;intro W g _ _ _)|(with_reducible refine oR ?_;intro W g _ _ _)|(with_reducible refine oS ?_;intro _ _ W hR _))
    go_ret
    exact⟨rfl,ExtC.h⟩
  ·obtain⟨⟨X,e⟩,hX⟩:∃r,t.findAns ⟨ka,kb,ks,km,kl⟩=r:=⟨_,rfl⟩;have h9:=hb.find;rw[hX] at hd1 h9;injection h9 with h8 h9
   clear h8;subst h9;have f1:=FindE.mk hX;have f8:DoesE t ⟨ka,kb,ks,km,kl⟩ X true:=⟨hd1,he⟩;clear hA hl0 hY hd hX he hb hd1 hl Hl;rcases Hfin.out with hf|⟨hf,hf2⟩
   all_goals
    go_enter Tryz.func9,Tryz.ntmps9
    go_wp2_with (first|go_skip|(with_reducible refine pZ ?_)|(with_reducible refine pY ?_)|(with_reducible refine qA ?_;first|rintro _ W ⟨rfl,_⟩|rintro _ W ⟨_,_,rfl,_,_⟩)|(with_reducible refine oQ ?_;intro W g _ _ _)|(with_reducible refine pX ?_;intro W _ _)|(with_reducible refine Tq ?_;intro W g _ _ _)|(with_reducible refine oR ?_;intro W g _ _ _)|(with_reducible refine oS ?_;intro _ _ W hR _))
    go_ret
    exact⟨rfl,ExtC.h⟩
 ·have hX:=Town.find_no he;obtain⟨e,hee⟩:∃e,t.taskErr ⟨ka,kb,ks,km,kl⟩=e:=⟨_,rfl⟩;rw[hee] at hX he;have f1:=FindE.mk hX;have f4:=TaskE.mk hee;have q1:(e !=0)=true:=by simpa using he
  clear hX hee he;go_enter Tryz.func9,Tryz.ntmps9
  go_wp2_with (first|go_skip|(with_reducible refine pZ ?_)|(with_reducible refine pY ?_)|(with_reducible refine qA ?_;first|rintro _ W ⟨rfl,_⟩|rintro _ W ⟨_,_,rfl,_,_⟩)|(with_reducible refine oQ ?_;intro W g _ _ _)|(with_reducible refine pX ?_;intro W _ _)|(with_reducible refine Tq ?_;intro W g _ _ _)|(with_reducible refine oR ?_;intro W g _ _ _)|(with_reducible refine oS ?_;intro _ _ W hR _))
  go_ret
  exact⟨rfl,ExtC.h⟩
end Go.Walk
end
