/- Chapter 03: contracts of functions of the program and of the reference, and plain laws (out of KParts StY2 NSL3). No condition of its own. -/
import Derived.Test.YtfjnacajjpaeiaaGreatDoorQG01
import Derived.Test.YtfjnacajjpaeiaaGreatDoorQM01
import Derived.Test.YtfjnacajjpaeiaaGreatDoorQV01
set_option maxRecDepth 100000
set_option linter.all false
section
namespace Go.Proofs.YtfjnacajjpaeiaaGreatDoor
open Go Go.Bp Go.St Go.RowKit Go.Proofs Go.ChangeShapes Go.WideShapes Go.ChangeAt
theorem Vv:(Rows.streetPartsRow.inPlace==Tryz.pinned.checked.prog.inPlace 15)=true:=by kernel_rfl
theorem Vs:(Rows.streetPartsRow.unfollowed==Tryz.pinned.checked.prog.unfollowed 15)=true:=by kernel_rfl
theorem Vt:(Rows.streetPartsRow.recurses==Tryz.pinned.checked.prog.recurses 15)=true:=by kernel_rfl
theorem Vu:(Rows.streetPartsRow.named==Tryz.pinned.checked.prog.varsNamed 15)=true:=by kernel_rfl
theorem Vq:joinedFacts Tryz.pinned.checked.prog 15 Tryz.f15 Rows.streetPartsSpec Rows.streetPartsRow=true:=by
 unfold joinedFacts;rw[Vv,Vs,Vt,Vu];kernel_rfl
end Go.Proofs.YtfjnacajjpaeiaaGreatDoor
end
section
namespace Go.St
open Go.Bp
namespace Town
variable{t:Town}{k:Task}
theorem Vk{α:Type}(f:α→Int)(B:Int)(l:List α)(h:∀x∈l,0≤f x∧f x≤B):0≤l.foldl (fun n x=>n+f x) 0∧l.foldl (fun n x=>n+f x) 0≤B*l.length:=by
 have g:∀(l:List α)(a:Int),(∀x∈l,0≤f x∧f x≤B)→a≤l.foldl (fun n x=>n+f x) a∧l.foldl (fun n x=>n+f x) a≤a+B*l.length:=by
  intro l;induction l with
  |nil=>intro a _;simp
  |cons x l ih=>
   intro a hx;have h1:=hx x (by simp)
   have h2:=ih (a+f x) (fun y hy=>hx y (by simp[hy]))
   rw[List.foldl_cons,List.length_cons];have e:B*((l.length+1:Nat):Int)=B*l.length+B:=by push_cast;rw[Int.mul_add];omega
   omega
 have:=g l 0 h;omega
theorem Vd(h:TaskOk t k){x:Step}(hx:x∈t.stepsAll k):StreetOk t (t.at_ x.st):=by
 have h1:=aV.1 (mem_stepsAll.1 hx).1;have h2:x.st.toNat<t.streets.length:=by omega
 have e:t.at_ x.st=t.streets[x.st.toNat]:=by
  have:=at_eq (t:=t) (k:=x.st.toNat) h2;rwa [show((x.st.toNat:Nat):Int)=x.st by omega] at this
 rw[e];exact h.ok.streets _ (List.getElem_mem h2)
theorem Vm(h:TaskOk t k){l:List Step}(hl:∀x∈l,x∈t.stepsAll k)(hn:l.length≤200):
 (0≤(t.tourOf k.time l).metres∧(t.tourOf k.time l).metres≤2000000)∧(0≤(t.tourOf k.time l).lo∧(t.tourOf k.time l).lo≤12000)∧(0≤(t.tourOf k.time l).hi∧(t.tourOf k.time l).hi≤12000):=by
 have h1:=Vk (fun x:Step=>(t.at_ x.st).metres) 10000 l (fun x hx=>by have:=aV.1 (Vd h (hl x hx)).m;omega)
 have h2:=Vk (fun x:Step=>(t.at_ x.st).lo) 60 l (fun x hx=>by have:=aV.1 (Vd h (hl x hx)).lo;omega)
 have h3:=Vk (fun x:Step=>(t.at_ x.st).hi) 60 l (fun x hx=>by have:=aV.1 (Vd h (hl x hx)).hi;omega)
 refine⟨⟨h1.1,?_⟩,⟨h2.1,?_⟩,⟨h3.1,?_⟩⟩
 ·have:=h1.2;show l.foldl (fun n x=>n+(t.at_ x.st).metres) 0≤_;omega
 ·have:=h2.2;show l.foldl (fun n x=>n+(t.at_ x.st).lo) 0≤_;omega
 ·have:=h3.2;show l.foldl (fun n x=>n+(t.at_ x.st).hi) 0≤_;omega
theorem parts_pack(he:t.taskErr k=0)(x:List Nat)(c:Nat):∃b mid m1 m2 lo1 lo2 hi1 hi2 s1 s2 r:Int,
 t.driveAns k.a k.time (t.taken k x)=(⟨t.taken k x,m1+m2,lo1+lo2,hi1+hi2,s1+r⟩,b,0)∧t.driveAns k.a k.time ((t.taken k x).take c)=(⟨(t.taken k x).take c,m1,lo1,hi1,s1⟩,mid,0)∧
 (0≤mid∧mid<t.places.length)∧t.driveAns mid k.time ((t.taken k x).drop c)=(⟨(t.taken k x).drop c,m2,lo2,hi2,s2⟩,b,0)∧cH s2 s1=r∧
 (0≤m1∧m1≤2000000)∧(0≤m2∧m2≤2000000)∧(0≤lo1∧lo1≤12000)∧(0≤lo2∧lo2≤12000)∧(0≤hi1∧hi1≤12000)∧(0≤hi2∧hi2≤12000)∧(0≤s1∧s1≤64)∧(0≤s2∧s2≤64)∧(0≤r∧r≤64)∧(t.taken k x).length≤200:=by
 have h:=taskOk_of he;obtain⟨b,mid,d1,d2,hm,d3,e1,e2,e3,e4⟩:=Qu he x c;obtain⟨b',hw⟩:=wB h x;have hlen:=hw.len;have o1:∀y∈(t.taken k x).take c,y∈t.stepsAll k:=fun y hy=>hw.isOpen y (List.mem_of_mem_take hy)
 have o2:∀y∈(t.taken k x).drop c,y∈t.stepsAll k:=fun y hy=>hw.isOpen y (List.mem_of_mem_drop hy)
 obtain⟨a1,a2,a3⟩:=Vm h o1 (by rw[List.length_take];omega)
 obtain⟨b1,b2,b3⟩:=Vm h o2 (by rw[List.length_drop];omega)
 have hset:=sets_bd h.ok.sh;have w1:=jF h _ o1;have w2:=jF h _ o2;have hm':=aV.1 hm;obtain⟨_,r1,_,r2⟩:=Ty (n:=t.shows.length) (a:=t.shownL k.time ((t.taken k x).drop c)) (b:=t.shownL k.time ((t.taken k x).take c)) (by have:=h.ok.sh;omega) w2.1 w2.2 w1.1
 refine⟨b,mid,(t.tourOf k.time ((t.taken k x).take c)).metres,(t.tourOf k.time ((t.taken k x).drop c)).metres,(t.tourOf k.time ((t.taken k x).take c)).lo,(t.tourOf k.time ((t.taken k x).drop c)).lo,(t.tourOf k.time ((t.taken k x).take c)).hi,(t.tourOf k.time ((t.taken k x).drop c)).hi,(t.tourOf k.time ((t.taken k x).take c)).shown,(t.tourOf k.time ((t.taken k x).drop c)).shown,_,?_,d2,by omega,d3,rfl,a1,b1,a2,b2,a3,b3,⟨w1.1,?_⟩,⟨w2.1,?_⟩,⟨r1,by exact Int.le_of_lt r2⟩,hlen⟩
 ·rw[d1,←e1,←e2,←e3,←e4];rfl
 ·have:=w1.2;show t.shownL k.time _≤64;omega
 ·have:=w2.2;show t.shownL k.time _≤64;omega
end Town
end Go.St
end
section
namespace Go.Walk
open Go Go.Bp Go.St Go.RowKit Go.Proofs
theorem Vx{W:World}{A0:Option Addr}{c k:Nat}{l l1:List Step}(h:bY W (.slice A0 l.length c) l)(hk:k≤l.length)(e:l.take k=l1):bY W (.slice A0 k c) l1:=by rw[←e];exact Ve h hk
theorem Vw{W:World}{A0:Option Addr}{c k:Nat}{l l1:List Step}(h:bY W (.slice A0 l.length c) l)(hk:k≤l.length)(e:l.drop k=l1):bY W (.slice (Vj A0 c k 2) (l.length-k) (c-k)) l1:=by rw[←e];exact Vf h hk
theorem Vy{W:World}{A0:Option Addr}{c:Nat}{l l1:List Step}(h:bY W (.slice A0 l.length c) l)(e:l.drop 0=l1):bY W (.slice (Vj A0 c 0 2) l.length c) l1:=by have:=Vw h (Nat.zero_le _) e;simpa using this
theorem Vn{a v0:World}{g:Nat}[q:AtC v0 g][y:ExtC a v0]:AtC a g:=⟨Nat.le_trans y.h.size q.h⟩
theorem Vi{W:World}{A0:Option Addr}{c:Nat}{l:List Step}(h:bY W (.slice A0 l.length c) l):l.length≤c:=by
 obtain⟨_,_,e,h1,_⟩:=h;injection e with _ _ e3
 rw[e3];exact h1
set_option synthInstance.maxSize 4000
set_option synthInstance.maxHeartbeats 400000
set_option maxHeartbeats 8000000
theorem LParts(tv kv uv:Value)(t:Town)(k:Task)(xs:List Nat)(w:World)(h:aM w tv t)(hk:bA w kv k)(hu:Ts w uv xs)(hv:Env w):
 Calls Tryz.prog 15 #[tv,kv,uv] w (dB w true):=by
 obtain⟨pv,sv,tmv,xv,rfl,hT⟩:=id h;obtain⟨A1,cp1,rfl,_,hc1,_,_⟩:=hT.places;obtain⟨A2,cp2,rfl,_,hc2,_,_⟩:=hT.shows;obtain⟨A3,cp3,rfl,_,_,_,_⟩:=hT.times;obtain⟨A4,cp4,rfl,_,hc4,_⟩:=id hT.streets;obtain⟨ka,kb,ks,km,kl⟩:=k;obtain⟨cv,rfl,hC⟩:=hk;obtain⟨A5,cp5,rfl,_⟩:=id hC;have i1:=TownB.mk h;have i2:=IntsB.mk hC;have hST:=hT.streets;clear hT;have i3:=EnvB.mk hv;obtain⟨AX,cx,rfl,u1,u2,_,u4⟩:=id hu.1;unfold maxLen at u2;have i4:=NumsB.mk hu;by_cases he:t.taskErr ⟨ka,kb,ks,km,kl⟩=0
 ·have f4:=TaskE.mk he;obtain⟨l,hl0⟩:∃l,t.taken ⟨ka,kb,ks,km,kl⟩ xs=l:=⟨_,rfl⟩;have f5:TakenE t ⟨ka,kb,ks,km,kl⟩ xs l:=⟨hl0,he⟩;obtain⟨y,hy⟩:∃y,xs.getD 0 0=y:=⟨_,rfl⟩;obtain⟨c,hc⟩:∃c,y%(l.length+1)=c:=⟨_,rfl⟩;have hc2:c≤l.length:=by rw[←hc];have:=Nat.mod_lt y (show 0<l.length+1 by omega);omega
  obtain⟨b,mid,m1,m2,lo1,lo2,hi1,hi2,s1,s2,r,d1,d2,hmid,d3,hr,q1,q2,q3,q4,q5,q6,q7,q8,q9,hlen⟩:=Town.parts_pack he xs c;rw[hl0] at d1 d2 d3 hlen;simp only at d1 d2 d3;obtain⟨l1,hl1⟩:∃l1,l.take c=l1:=⟨_,rfl⟩;obtain⟨l2,hl2⟩:∃l2,l.drop c=l2:=⟨_,rfl⟩;rw[hl1] at d2;rw[hl2] at d3;have Hl1:=Lib.hid hl1;have Hl2:=Lib.hid hl2;have f6:=DriveE.mk d1;have f7:=DriveE.mk d2;have f8:=DriveE.mk d3;have f9:LessE s2 s1 r:=⟨hr,by omega,by omega⟩
  have hT7:=Lib.hid hl0;clear he hl0 d1 d2 d3 hr hl1 hl2;have z1:decide (mid<0)=false:=by simp;omega
  have z2:decide ((t.places.length:Int)≤mid)=false:=by simp;omega
  have w1:IntKind.i64.wrap (m1+m2)=m1+m2:=Dy (by omega) (by omega)
  have w2:IntKind.i64.wrap (lo1+lo2)=lo1+lo2:=Dy (by omega) (by omega)
  have w3:IntKind.i64.wrap (hi1+hi2)=hi1+hi2:=Dy (by omega) (by omega)
  have w4:IntKind.i64.wrap (s1+r)=s1+r:=Dy (by omega) (by omega)
  by_cases hz:l.length=0
  ·have hc0:c=0:=by omega
   subst hc0;have z3:decide (0<(l.length:Int))=false:=decide_eq_false (by omega)
   have z4:decide (0<l.length)=false:=decide_eq_false (by omega)
   clear hz;go_enter Tryz.func15,Tryz.ntmps15
   go_wp2_with (first|(go_at_call 40;with_reducible refine qA ?_;rintro _ W ⟨A7,c7,rfl,hS7,_⟩;have hc7:=Vi hS7.h;have i8:=StepsB.mk (Vx hS7.h hc2 Hl1.out);have i9:=StepsB.mk (Vw hS7.h hc2 Hl2.out);have i10:=StepsB.mk (Vy hS7.h Hl2.out))|(first|go_skip|(with_reducible refine pZ ?_)|(with_reducible refine pY ?_)|(with_reducible refine qA ?_;first|rintro _ W ⟨rfl,_⟩|rintro _ W ⟨_,_,rfl,_,_⟩)|(with_reducible refine oQ ?_;intro W g _ _ _)|(with_reducible refine pX ?_;intro W _ _)|(with_reducible refine Tq ?_;intro W g _ _ _)|(with_reducible refine oR ?_;intro W g _ _ _)|(with_reducible refine oS ?_;intro _ _ W hR _)))
   apply eF [51,52,53,54,55,56,57,58,59,50,60,61,62,12,13,14] (fun x w'=>∃(g:Nat)(A:Option Addr)(cc:Nat),x 12=.pointer (some ⟨g,0,none⟩)∧x 13=.int .i64 mid∧x 14=.int .i64 0∧StepC W w'∧AtC W g∧BlkC w' g 36 [.slice A l1.length cc,.int .i64 (m1),.int .i64 (lo1),.int .i64 (hi1),.int .i64 (s1)])
   case h=>
    refine aR (.take 0 (.take 1 (.take 2 (.take 3 (.take 4 (.take 5 (.take 6 (.take 7 (.two 8 (.take 9 (.take 10 (.take 11 (.take 12 (.one 13 (.one 14 (.take 15 (.take 16 .nil)))))))) 13 (.one 8 (.take 9 (.take 10 (.take 11 (.take 12 (.one 14 (.take 15 (.take 16 .nil))))))))))))))))) (fun w'=>Ext W w') ?_ (fun hHd=> ?_) (hQ:=by intro _ _ _ _ _ h;exact absurd h.1 (fun e=>by cases e))
    ·exact ExtC.h
    repeat' first|((with_reducible refine aB ?_);(first|(refine tk (v:= ?_) ?_ hHd ?_;rotate_left;(·(intro W' h;have:=StepC.mk h;with_reducible exact Ue)))|(refine tk (v:= ?_) ?_ hHd ?_;rotate_left;(·(intro W' h;first|with_reducible exact Vb|with_reducible exact Vc|with_reducible exact Vb (k:=0)|with_reducible exact Vc (k:=0))))|(refine tk (v:= ?_) ?_ hHd ?_;rotate_left;(·(intro wq hSw;go_simp;(try with_reducible rfl)))));(try simp only[pS]))|((with_reducible refine bC ?_);refine aQ (by simp only[gS];rfl) ?_)|((with_reducible refine fQ ?_);refine dI (by simp only[gS];rfl) (by simp only[gS];rfl) ?_ ?_)|(with_reducible refine Ua ?_;intro V g _ _ _)|(with_reducible refine pX ?_;intro V _ _)|((with_reducible refine Tx ?_);first|(rintro _ V ⟨rfl,_⟩;refine⟨_,rfl,?_⟩)|(rintro _ V ⟨_,_,rfl,_,_⟩;refine⟨_,rfl,?_⟩))|((with_reducible refine bB ?_);clear hHd;refine aJ ExtC.h (fun hHd=> ?_);(try simp only[pS]))|(with_reducible refine aG ?_)
    all_goals
     refine⟨rfl,?_⟩;refine bL ?_ ?_
     ·simp only[Act.sets,Act.put,List.foldl_cons,List.foldl_nil,List.setIfInBounds_toArray,List.set_cons_zero,List.set_cons_succ,Act.get];rfl
     exact⟨_,_,_,rfl,rfl,rfl,⟨ExtC.h⟩,Vn,(inferInstance:BlkC V g 36 _)⟩
   rintro x12 V ⟨g12,A12,c12,hx12,hx13,hx14,_,_,_⟩;simp only[Act.sets,Act.put,List.foldl_cons,List.foldl_nil,List.setIfInBounds_toArray,List.set_cons_zero,List.set_cons_succ,hx12,hx13,hx14];go_wp2_with (first|go_skip|(with_reducible refine pZ ?_)|(with_reducible refine pY ?_)|(with_reducible refine qA ?_;first|rintro _ V ⟨rfl,_⟩|rintro _ V ⟨_,_,rfl,_,_⟩)|(with_reducible refine oQ ?_;intro V g _ _ _)|(with_reducible refine pX ?_;intro V _ _)|(with_reducible refine Tq ?_;intro V g _ _ _)|(with_reducible refine oR ?_;intro V g _ _ _)|(with_reducible refine oS ?_;intro _ _ V hR _))
   apply eF [81,82,83,84,85,86,87,88,80,89,90,91,15,16,17] (fun x w'=>∃(g:Nat)(A:Option Addr)(cc:Nat),x 15=.pointer (some ⟨g,0,none⟩)∧x 16=.int .i64 b∧x 17=.int .i64 0∧StepC V w'∧AtC V g∧BlkC w' g 36 [.slice A l2.length cc,.int .i64 (m2),.int .i64 (lo2),.int .i64 (hi2),.int .i64 (s2)])
   case h=>
    refine aR (.take 0 (.take 1 (.take 2 (.take 3 (.take 4 (.take 5 (.take 6 (.two 7 (.take 8 (.take 9 (.take 10 (.take 11 (.one 12 (.one 13 (.take 14 (.take 15 .nil)))))))) 12 (.one 7 (.take 8 (.take 9 (.take 10 (.take 11 (.one 13 (.take 14 (.take 15 .nil)))))))))))))))) (fun w'=>Ext V w') ?_ (fun hHd=> ?_) (hQ:=by intro _ _ _ _ _ h;exact absurd h.1 (fun e=>by cases e))
    ·exact ExtC.h
    repeat' first|((with_reducible refine aB ?_);(first|(refine tk (v:= ?_) ?_ hHd ?_;rotate_left;(·(intro W' h;have:=StepC.mk h;with_reducible exact Ue)))|(refine tk (v:= ?_) ?_ hHd ?_;rotate_left;(·(intro W' h;first|with_reducible exact Vb|with_reducible exact Vc|with_reducible exact Vb (k:=0)|with_reducible exact Vc (k:=0))))|(refine tk (v:= ?_) ?_ hHd ?_;rotate_left;(·(intro wq hSw;go_simp;(try with_reducible rfl)))));(try simp only[pS]))|((with_reducible refine bC ?_);refine aQ (by simp only[gS];rfl) ?_)|((with_reducible refine fQ ?_);refine dI (by simp only[gS];rfl) (by simp only[gS];rfl) ?_ ?_)|(with_reducible refine Ua ?_;intro U g _ _ _)|(with_reducible refine pX ?_;intro U _ _)|((with_reducible refine Tx ?_);first|(rintro _ U ⟨rfl,_⟩;refine⟨_,rfl,?_⟩)|(rintro _ U ⟨_,_,rfl,_,_⟩;refine⟨_,rfl,?_⟩))|((with_reducible refine bB ?_);clear hHd;refine aJ ExtC.h (fun hHd=> ?_);(try simp only[pS]))|(with_reducible refine aG ?_)
    all_goals
     refine⟨rfl,?_⟩;refine bL ?_ ?_
     ·simp only[Act.sets,Act.put,List.foldl_cons,List.foldl_nil,List.setIfInBounds_toArray,List.set_cons_zero,List.set_cons_succ,Act.get];rfl
     exact⟨_,_,_,rfl,rfl,rfl,⟨ExtC.h⟩,Vn,(inferInstance:BlkC U g 36 _)⟩
   rintro x15 U ⟨g15,A15,c15,hx15,hx16,hx17,_,_,_⟩;simp only[Act.sets,Act.put,List.foldl_cons,List.foldl_nil,List.setIfInBounds_toArray,List.set_cons_zero,List.set_cons_succ,hx15,hx16,hx17];go_wp2_with (first|go_skip|(with_reducible refine pZ ?_)|(with_reducible refine pY ?_)|(with_reducible refine qA ?_;first|rintro _ U ⟨rfl,_⟩|rintro _ U ⟨_,_,rfl,_,_⟩)|(with_reducible refine oQ ?_;intro U g _ _ _)|(with_reducible refine pX ?_;intro U _ _)|(with_reducible refine Tq ?_;intro U g _ _ _)|(with_reducible refine oR ?_;intro U g _ _ _)|(with_reducible refine oS ?_;intro _ _ U hR _))
   refine aR (.take 0 (.take 1 (.take 2 (.take 3 (.take 4 (.take 5 (.one 6 (.take 7 (.take 8 .nil))))))))) (fun w'=>Ext U w') ?_ (fun hHd=> ?_) (hQ:=by intro _ _ _ _ _ h;exact h)
   ·exact ExtC.h
   repeat' first|((with_reducible refine aB ?_);(first|(refine tk (v:= ?_) ?_ hHd ?_;rotate_left;(·(intro W' h;have:=StepC.mk h;with_reducible exact Ue)))|(refine tk (v:= ?_) ?_ hHd ?_;rotate_left;(·(intro wq hSw;go_simp;(try with_reducible rfl)))));(try simp only[pS]))|((with_reducible refine bC ?_);refine aQ (by simp only[gS];rfl) ?_)|((with_reducible refine fQ ?_);refine dI (by simp only[gS];rfl) (by simp only[gS];rfl) ?_ ?_)|(with_reducible refine Ua ?_;intro X g _ _ _)|(with_reducible refine pX ?_;intro X _ _)|((with_reducible refine Tx ?_);first|(rintro _ X ⟨rfl,_⟩;refine⟨_,rfl,?_⟩)|(rintro _ X ⟨_,_,rfl,_,_⟩;refine⟨_,rfl,?_⟩))|((with_reducible refine bB ?_);clear hHd;refine aJ ExtC.h (fun hHd=> ?_);(try simp only[pS]))|(with_reducible refine aG ?_)
   go_wp2_with (first|go_skip|(with_reducible refine pZ ?_)|(with_reducible refine pY ?_)|(with_reducible refine qA ?_;first|rintro _ X ⟨rfl,_⟩|rintro _ X ⟨_,_,rfl,_,_⟩)|(with_reducible refine oQ ?_;intro X g _ _ _)|(with_reducible refine pX ?_;intro X _ _)|(with_reducible refine Tq ?_;intro X g _ _ _)|(with_reducible refine oR ?_;intro X g _ _ _)|(with_reducible refine oS ?_;intro _ _ X hR _))
   refine aR (.take 0 (.take 1 (.take 2 (.take 3 (.take 4 (.take 5 (.take 6 (.take 7 (.take 8 (.take 9 (.take 10 (.take 11 (.take 12 (.take 13 (.take 14 (.take 15 (.take 16 (.take 17 (.take 18 (.take 19 (.take 20 (.take 21 (.take 22 (.take 23 (.take 24 (.take 25 (.take 26 (.take 27 (.take 28 (.take 29 (.take 30 (.take 31 (.take 32 (.take 33 (.one 34 (.take 35 (.take 36 (.take 37 (.take 38 (.take 39 (.take 40 (.take 41 (.take 42 (.take 43 (.take 44 (.take 45 (.take 46 (.one 47 (.take 48 (.take 49 (.one 50 (.take 51 (.take 52 .nil))))))))))))))))))))))))))))))))))))))))))))))))))))) (fun w'=>Ext X w') ?_ (fun hHd=> ?_) (hQ:=by intro _ _ _ _ _ h;exact h)
   ·exact ExtC.h
   repeat' first|((with_reducible refine aB ?_);(first|(refine tk (v:= ?_) ?_ hHd ?_;rotate_left;(·(intro W' h;have:=StepC.mk h;with_reducible exact Ue)))|(refine tw (v:= ?_) ?_ hHd ?_;rotate_left;(·(intro W' h;have:=StepC.mk h;with_reducible exact Ue)))|(refine tk (v:= ?_) ?_ hHd ?_;rotate_left;(·(intro W' h;first|with_reducible exact Vb|with_reducible exact Vc|with_reducible exact Vb (k:=0)|with_reducible exact Vc (k:=0))))|(refine tk (v:= ?_) ?_ hHd ?_;rotate_left;(·(intro wq hSw;go_simp;(try with_reducible rfl))))|(refine tw (v:= ?_) ?_ hHd ?_;rotate_left;(·(intro wq hSw;go_simp;(try with_reducible rfl)))));(try simp only[pS]))|((with_reducible refine bC ?_);refine aQ (by simp only[gS];rfl) ?_)|((with_reducible refine fQ ?_);refine dI (by simp only[gS];rfl) (by simp only[gS];rfl) ?_ ?_)|(with_reducible refine Ua ?_;intro Y g _ _ _)|(with_reducible refine pX ?_;intro Y _ _)|((first|with_reducible refine Tx ?_|with_reducible refine Vl ?_);first|(rintro _ Y ⟨rfl,_⟩;refine⟨_,rfl,?_⟩)|(rintro _ Y ⟨_,_,rfl,_,_⟩;refine⟨_,rfl,?_⟩))|((with_reducible refine bB ?_);clear hHd;refine aJ ExtC.h (fun hHd=> ?_);(try simp only[pS]))|(with_reducible refine aG ?_)
   go_wp2_with (first|go_skip|(with_reducible refine pZ ?_)|(with_reducible refine pY ?_)|(with_reducible refine qA ?_;first|rintro _ Y ⟨rfl,_⟩|rintro _ Y ⟨_,_,rfl,_,_⟩)|(with_reducible refine oQ ?_;intro Y g _ _ _)|(with_reducible refine pX ?_;intro Y _ _)|(with_reducible refine Tq ?_;intro Y g _ _ _)|(with_reducible refine oR ?_;intro Y g _ _ _)|(with_reducible refine oS ?_;intro _ _ Y hR _))
   go_ret
   exact⟨rfl,ExtC.h⟩
  ·have z3:0<(l.length:Int):=by omega
   obtain⟨x0,xs',hxs⟩:∃x l,xs=x::l:=by
    cases xs with
    |nil=>exact absurd (show l.length=0 by rw[←hT7.out];rfl) hz
    |cons x l=>exact⟨x,l,rfl⟩
   subst hxs;have hy0:x0=y:=hy;subst hy0;obtain⟨ad,rfl,hcu⟩:=u4 (by simp)
   have i6:CellsB w ad [.int .u8 (x0:Int)]:=⟨by
    intro j u hu
    cases j with
    |zero=>simp at hu;rw[rN,←hu];have:=cS.n8 (h:=hcu) (k:=0) (by simp);rw[rN] at this;exact this
    |succ j=>simp at hu⟩
   have hx8:(x0:Int)<256:=by have:=hu.2 x0 (by simp);omega
   have e38:(x0:Int)%((l.length:Int)+1)=(c:Int):=by rw[←hc];push_cast;rfl
   clear hc hcu u4;go_enter Tryz.func15,Tryz.ntmps15
   go_wp2_with (first|(go_at_call 40;with_reducible refine qA ?_;rintro _ W ⟨A7,c7,rfl,hS7,_⟩;have hc7:=Vi hS7.h;have i8:=StepsB.mk (Vx hS7.h hc2 Hl1.out);have i9:=StepsB.mk (Vw hS7.h hc2 Hl2.out);skip)|(first|go_skip|(with_reducible refine pZ ?_)|(with_reducible refine pY ?_)|(with_reducible refine qA ?_;first|rintro _ W ⟨rfl,_⟩|rintro _ W ⟨_,_,rfl,_,_⟩)|(with_reducible refine oQ ?_;intro W g _ _ _)|(with_reducible refine pX ?_;intro W _ _)|(with_reducible refine Tq ?_;intro W g _ _ _)|(with_reducible refine oR ?_;intro W g _ _ _)|(with_reducible refine oS ?_;intro _ _ W hR _)))
   apply eF [51,52,53,54,55,56,57,58,59,50,60,61,62,12,13,14] (fun x w'=>∃(g:Nat)(A:Option Addr)(cc:Nat),x 12=.pointer (some ⟨g,0,none⟩)∧x 13=.int .i64 mid∧x 14=.int .i64 0∧StepC W w'∧AtC W g∧BlkC w' g 36 [.slice A l1.length cc,.int .i64 (m1),.int .i64 (lo1),.int .i64 (hi1),.int .i64 (s1)])
   case h=>
    refine aR (.take 0 (.take 1 (.take 2 (.take 3 (.take 4 (.take 5 (.take 6 (.take 7 (.two 8 (.take 9 (.take 10 (.take 11 (.take 12 (.one 13 (.one 14 (.take 15 (.take 16 .nil)))))))) 13 (.one 8 (.take 9 (.take 10 (.take 11 (.take 12 (.one 14 (.take 15 (.take 16 .nil))))))))))))))))) (fun w'=>Ext W w') ?_ (fun hHd=> ?_) (hQ:=by intro _ _ _ _ _ h;exact absurd h.1 (fun e=>by cases e))
    ·exact ExtC.h
    repeat' first|((with_reducible refine aB ?_);(first|(refine tk (v:= ?_) ?_ hHd ?_;rotate_left;(·(intro W' h;have:=StepC.mk h;with_reducible exact Ue)))|(refine tk (v:= ?_) ?_ hHd ?_;rotate_left;(·(intro W' h;first|with_reducible exact Vb|with_reducible exact Vc|with_reducible exact Vb (k:=0)|with_reducible exact Vc (k:=0))))|(refine tk (v:= ?_) ?_ hHd ?_;rotate_left;(·(intro wq hSw;go_simp;(try with_reducible rfl)))));(try simp only[pS]))|((with_reducible refine bC ?_);refine aQ (by simp only[gS];rfl) ?_)|((with_reducible refine fQ ?_);refine dI (by simp only[gS];rfl) (by simp only[gS];rfl) ?_ ?_)|(with_reducible refine Ua ?_;intro V g _ _ _)|(with_reducible refine pX ?_;intro V _ _)|((with_reducible refine Tx ?_);first|(rintro _ V ⟨rfl,_⟩;refine⟨_,rfl,?_⟩)|(rintro _ V ⟨_,_,rfl,_,_⟩;refine⟨_,rfl,?_⟩))|((with_reducible refine bB ?_);clear hHd;refine aJ ExtC.h (fun hHd=> ?_);(try simp only[pS]))|(with_reducible refine aG ?_)
    all_goals
     refine⟨rfl,?_⟩;refine bL ?_ ?_
     ·simp only[Act.sets,Act.put,List.foldl_cons,List.foldl_nil,List.setIfInBounds_toArray,List.set_cons_zero,List.set_cons_succ,Act.get];rfl
     exact⟨_,_,_,rfl,rfl,rfl,⟨ExtC.h⟩,Vn,(inferInstance:BlkC V g 36 _)⟩
   rintro x12 V ⟨g12,A12,c12,hx12,hx13,hx14,_,_,_⟩;simp only[Act.sets,Act.put,List.foldl_cons,List.foldl_nil,List.setIfInBounds_toArray,List.set_cons_zero,List.set_cons_succ,hx12,hx13,hx14];go_wp2_with (first|go_skip|(with_reducible refine pZ ?_)|(with_reducible refine pY ?_)|(with_reducible refine qA ?_;first|rintro _ V ⟨rfl,_⟩|rintro _ V ⟨_,_,rfl,_,_⟩)|(with_reducible refine oQ ?_;intro V g _ _ _)|(with_reducible refine pX ?_;intro V _ _)|(with_reducible refine Tq ?_;intro V g _ _ _)|(with_reducible refine oR ?_;intro V g _ _ _)|(with_reducible refine oS ?_;intro _ _ V hR _))
   apply eF [81,82,83,84,85,86,87,88,80,89,90,91,15,16,17] (fun x w'=>∃(g:Nat)(A:Option Addr)(cc:Nat),x 15=.pointer (some ⟨g,0,none⟩)∧x 16=.int .i64 b∧x 17=.int .i64 0∧StepC V w'∧AtC V g∧BlkC w' g 36 [.slice A l2.length cc,.int .i64 (m2),.int .i64 (lo2),.int .i64 (hi2),.int .i64 (s2)])
   case h=>
    refine aR (.take 0 (.take 1 (.take 2 (.take 3 (.take 4 (.take 5 (.take 6 (.two 7 (.take 8 (.take 9 (.take 10 (.take 11 (.one 12 (.one 13 (.take 14 (.take 15 .nil)))))))) 12 (.one 7 (.take 8 (.take 9 (.take 10 (.take 11 (.one 13 (.take 14 (.take 15 .nil)))))))))))))))) (fun w'=>Ext V w') ?_ (fun hHd=> ?_) (hQ:=by intro _ _ _ _ _ h;exact absurd h.1 (fun e=>by cases e))
    ·exact ExtC.h
    repeat' first|((with_reducible refine aB ?_);(first|(refine tk (v:= ?_) ?_ hHd ?_;rotate_left;(·(intro W' h;have:=StepC.mk h;with_reducible exact Ue)))|(refine tk (v:= ?_) ?_ hHd ?_;rotate_left;(·(intro W' h;first|with_reducible exact Vb|with_reducible exact Vc|with_reducible exact Vb (k:=0)|with_reducible exact Vc (k:=0))))|(refine tk (v:= ?_) ?_ hHd ?_;rotate_left;(·(intro wq hSw;go_simp;(try with_reducible rfl)))));(try simp only[pS]))|((with_reducible refine bC ?_);refine aQ (by simp only[gS];rfl) ?_)|((with_reducible refine fQ ?_);refine dI (by simp only[gS];rfl) (by simp only[gS];rfl) ?_ ?_)|(with_reducible refine Ua ?_;intro U g _ _ _)|(with_reducible refine pX ?_;intro U _ _)|((with_reducible refine Tx ?_);first|(rintro _ U ⟨rfl,_⟩;refine⟨_,rfl,?_⟩)|(rintro _ U ⟨_,_,rfl,_,_⟩;refine⟨_,rfl,?_⟩))|((with_reducible refine bB ?_);clear hHd;refine aJ ExtC.h (fun hHd=> ?_);(try simp only[pS]))|(with_reducible refine aG ?_)
    all_goals
     refine⟨rfl,?_⟩;refine bL ?_ ?_
     ·simp only[Act.sets,Act.put,List.foldl_cons,List.foldl_nil,List.setIfInBounds_toArray,List.set_cons_zero,List.set_cons_succ,Act.get];rfl
     exact⟨_,_,_,rfl,rfl,rfl,⟨ExtC.h⟩,Vn,(inferInstance:BlkC U g 36 _)⟩
   rintro x15 U ⟨g15,A15,c15,hx15,hx16,hx17,_,_,_⟩;simp only[Act.sets,Act.put,List.foldl_cons,List.foldl_nil,List.setIfInBounds_toArray,List.set_cons_zero,List.set_cons_succ,hx15,hx16,hx17];go_wp2_with (first|go_skip|(with_reducible refine pZ ?_)|(with_reducible refine pY ?_)|(with_reducible refine qA ?_;first|rintro _ U ⟨rfl,_⟩|rintro _ U ⟨_,_,rfl,_,_⟩)|(with_reducible refine oQ ?_;intro U g _ _ _)|(with_reducible refine pX ?_;intro U _ _)|(with_reducible refine Tq ?_;intro U g _ _ _)|(with_reducible refine oR ?_;intro U g _ _ _)|(with_reducible refine oS ?_;intro _ _ U hR _))
   refine aR (.take 0 (.take 1 (.take 2 (.take 3 (.take 4 (.take 5 (.one 6 (.take 7 (.take 8 .nil))))))))) (fun w'=>Ext U w') ?_ (fun hHd=> ?_) (hQ:=by intro _ _ _ _ _ h;exact h)
   ·exact ExtC.h
   repeat' first|((with_reducible refine aB ?_);(first|(refine tk (v:= ?_) ?_ hHd ?_;rotate_left;(·(intro W' h;have:=StepC.mk h;with_reducible exact Ue)))|(refine tk (v:= ?_) ?_ hHd ?_;rotate_left;(·(intro wq hSw;go_simp;(try with_reducible rfl)))));(try simp only[pS]))|((with_reducible refine bC ?_);refine aQ (by simp only[gS];rfl) ?_)|((with_reducible refine fQ ?_);refine dI (by simp only[gS];rfl) (by simp only[gS];rfl) ?_ ?_)|(with_reducible refine Ua ?_;intro X g _ _ _)|(with_reducible refine pX ?_;intro X _ _)|((with_reducible refine Tx ?_);first|(rintro _ X ⟨rfl,_⟩;refine⟨_,rfl,?_⟩)|(rintro _ X ⟨_,_,rfl,_,_⟩;refine⟨_,rfl,?_⟩))|((with_reducible refine bB ?_);clear hHd;refine aJ ExtC.h (fun hHd=> ?_);(try simp only[pS]))|(with_reducible refine aG ?_)
   go_wp2_with (first|go_skip|(with_reducible refine pZ ?_)|(with_reducible refine pY ?_)|(with_reducible refine qA ?_;first|rintro _ X ⟨rfl,_⟩|rintro _ X ⟨_,_,rfl,_,_⟩)|(with_reducible refine oQ ?_;intro X g _ _ _)|(with_reducible refine pX ?_;intro X _ _)|(with_reducible refine Tq ?_;intro X g _ _ _)|(with_reducible refine oR ?_;intro X g _ _ _)|(with_reducible refine oS ?_;intro _ _ X hR _))
   refine aR (.take 0 (.take 1 (.take 2 (.take 3 (.take 4 (.take 5 (.take 6 (.take 7 (.take 8 (.take 9 (.take 10 (.take 11 (.take 12 (.take 13 (.take 14 (.take 15 (.take 16 (.take 17 (.take 18 (.take 19 (.take 20 (.take 21 (.take 22 (.take 23 (.take 24 (.take 25 (.take 26 (.take 27 (.take 28 (.take 29 (.take 30 (.take 31 (.take 32 (.take 33 (.one 34 (.take 35 (.take 36 (.take 37 (.take 38 (.take 39 (.take 40 (.take 41 (.take 42 (.take 43 (.take 44 (.take 45 (.take 46 (.one 47 (.take 48 (.take 49 (.one 50 (.take 51 (.take 52 .nil))))))))))))))))))))))))))))))))))))))))))))))))))))) (fun w'=>Ext X w') ?_ (fun hHd=> ?_) (hQ:=by intro _ _ _ _ _ h;exact h)
   ·exact ExtC.h
   repeat' first|((with_reducible refine aB ?_);(first|(refine tk (v:= ?_) ?_ hHd ?_;rotate_left;(·(intro W' h;have:=StepC.mk h;with_reducible exact Ue)))|(refine tw (v:= ?_) ?_ hHd ?_;rotate_left;(·(intro W' h;have:=StepC.mk h;with_reducible exact Ue)))|(refine tk (v:= ?_) ?_ hHd ?_;rotate_left;(·(intro W' h;first|with_reducible exact Vb|with_reducible exact Vc|with_reducible exact Vb (k:=0)|with_reducible exact Vc (k:=0))))|(refine tk (v:= ?_) ?_ hHd ?_;rotate_left;(·(intro wq hSw;go_simp;(try with_reducible rfl))))|(refine tw (v:= ?_) ?_ hHd ?_;rotate_left;(·(intro wq hSw;go_simp;(try with_reducible rfl)))));(try simp only[pS]))|((with_reducible refine bC ?_);refine aQ (by simp only[gS];rfl) ?_)|((with_reducible refine fQ ?_);refine dI (by simp only[gS];rfl) (by simp only[gS];rfl) ?_ ?_)|(with_reducible refine Ua ?_;intro Y g _ _ _)|(with_reducible refine pX ?_;intro Y _ _)|((first|with_reducible refine Tx ?_|with_reducible refine Vl ?_);first|(rintro _ Y ⟨rfl,_⟩;refine⟨_,rfl,?_⟩)|(rintro _ Y ⟨_,_,rfl,_,_⟩;refine⟨_,rfl,?_⟩))|((with_reducible refine bB ?_);clear hHd;refine aJ ExtC.h (fun hHd=> ?_);(try simp only[pS]))|(with_reducible refine aG ?_)
   go_wp2_with (first|go_skip|(with_reducible refine pZ ?_)|(with_reducible refine pY ?_)|(with_reducible refine qA ?_;first|rintro _ Y ⟨rfl,_⟩|rintro _ Y ⟨_,_,rfl,_,_⟩)|(with_reducible refine oQ ?_;intro Y g _ _ _)|(with_reducible refine pX ?_;intro Y _ _)|(with_reducible refine Tq ?_;intro Y g _ _ _)|(with_reducible refine oR ?_;intro Y g _ _ _)|(with_reducible refine oS ?_;intro _ _ Y hR _))
   go_ret
   exact⟨rfl,ExtC.h⟩
 ·obtain⟨e,hee⟩:∃e,t.taskErr ⟨ka,kb,ks,km,kl⟩=e:=⟨_,rfl⟩;rw[hee] at he;have f4:=TaskE.mk hee;have q1:(e !=0)=true:=by simpa using he
  clear hee he;go_enter Tryz.func15,Tryz.ntmps15
  go_wp2_with (first|go_skip|(with_reducible refine pZ ?_)|(with_reducible refine pY ?_)|(with_reducible refine qA ?_;first|rintro _ W ⟨rfl,_⟩|rintro _ W ⟨_,_,rfl,_,_⟩)|(with_reducible refine oQ ?_;intro W g _ _ _)|(with_reducible refine pX ?_;intro W _ _)|(with_reducible refine Tq ?_;intro W g _ _ _)|(with_reducible refine oR ?_;intro W g _ _ _)|(with_reducible refine oS ?_;intro _ _ W hR _))
  go_ret
  exact⟨rfl,ExtC.h⟩
end Go.Walk
end
