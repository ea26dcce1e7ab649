/- Chapter 03: contracts of functions of the program and of the reference, and plain laws (out of KBy StY NSBy). No condition of its own. -/
import Derived.Test.YtfjnacajjpaeiaaGreatDoorQN01
import Derived.Test.YtfjnacajjpaeiaaGreatDoorQZ01
set_option maxRecDepth 100000
set_option linter.all false
section
namespace Go.Proofs.YtfjnacajjpaeiaaGreatDoor
open Go Go.Bp Go.St Go.RowKit Go.Proofs Go.ChangeShapes Go.WideShapes Go.ChangeAt
theorem Va:(Rows.streetByRow.inPlace==Tryz.pinned.checked.prog.inPlace 13)=true:=by kernel_rfl
theorem Uw:(Rows.streetByRow.unfollowed==Tryz.pinned.checked.prog.unfollowed 13)=true:=by kernel_rfl
theorem Uy:(Rows.streetByRow.recurses==Tryz.pinned.checked.prog.recurses 13)=true:=by kernel_rfl
theorem Uz:(Rows.streetByRow.named==Tryz.pinned.checked.prog.varsNamed 13)=true:=by kernel_rfl
theorem Uh:joinedFacts Tryz.pinned.checked.prog 13 Tryz.f13 Rows.streetBySpec Rows.streetByRow=true:=by
 unfold joinedFacts;rw[Va,Uw,Uy,Uz];kernel_rfl
end Go.Proofs.YtfjnacajjpaeiaaGreatDoor
end
section
namespace Go.St
open Go.Bp
namespace Town
variable{t:Town}{k:Task}
theorem find_no(he:t.taskErr k≠0):t.findAns k=(⟨[],0,0,0,0⟩,t.taskErr k):=by unfold findAns;rw[if_pos he]
theorem Tz(he:t.taskErr k=0)(h0:(t.findAns k).2=0):0≤(t.findAns k).1.metres∧(t.findAns k).1.metres≤20000000:=by
 have h:=taskOk_of he;rcases lO he with ⟨_,e⟩|⟨c,hb,_⟩
 ·rw[e] at h0;simp at h0
 ·have h1:=cost_bd h hb.cost;have h2:=hb.metres;have h3:(t.findAns k).1.metres=c.1:=by rw[hb.find];exact h2
  omega
theorem Ty{a b:Int}{n:Nat}(hn:n≤6)(h0:0≤a)(h:a<2^n)(hb:0≤b):cH a b=aE a b∧0≤cH a b∧cH a b<2^n∧cH a b<64:=by
 have h64:(2:Int)^n≤64:=by
  have:(2:Nat)^n≤2^6:=Nat.pow_le_pow_right (by omega) hn
  have e:(2:Int)^n=((2^n:Nat):Int):=by push_cast;rfl
  omega
 have e:=dE h0 (by omega) hb
 have h1:=cM a b;have h2:=lL (b:=b) h0 h;rw[e];exact⟨rfl,h1,h2,by omega⟩
theorem by_pack(he:t.taskErr k=0){p y:Int}(hp:0≤p∧p<t.places.length)(hy:0≤y):
 (0≤k.show_∧k.show_<64)∧(0≤cH k.show_ y∧cH k.show_ y<64)∧
 ((t.findAns {k with b:=p,show_:=cH k.show_ y}).2=0∨(t.findAns {k with b:=p,show_:=cH k.show_ y}).2=9)∧
 ((t.findAns {k with a:=p,show_:=cH k.show_ (cH k.show_ y)}).2=0∨(t.findAns {k with a:=p,show_:=cH k.show_ (cH k.show_ y)}).2=9)∧
 ((t.findAns {k with b:=p,show_:=cH k.show_ y}).2=0→(t.findAns {k with a:=p,show_:=cH k.show_ (cH k.show_ y)}).2=0→
  (t.findAns k).2=0∧(t.findAns k).1.metres≤(t.findAns {k with b:=p,show_:=cH k.show_ y}).1.metres+(t.findAns {k with a:=p,show_:=cH k.show_ (cH k.show_ y)}).1.metres∧
  0≤(t.findAns {k with b:=p,show_:=cH k.show_ y}).1.metres∧(t.findAns {k with b:=p,show_:=cH k.show_ y}).1.metres≤20000000∧
  0≤(t.findAns {k with a:=p,show_:=cH k.show_ (cH k.show_ y)}).1.metres∧(t.findAns {k with a:=p,show_:=cH k.show_ (cH k.show_ y)}).1.metres≤20000000):=by
 have h:=taskOk_of he;have hc0:=check_of he;have hsh:=aV.1 h.sh;have hn:=h.ok.sh;have hsets:t.sets=2^t.shows.length:=rfl;have hb:=sets_bd hn;obtain⟨e1,l1,l2,l3⟩:=Ty (n:=t.shows.length) (a:=k.show_) (b:=y) (by omega) hsh.1 (by omega) hy
 obtain⟨e2,m1,m2,m3⟩:=Ty (n:=t.shows.length) (a:=k.show_) (b:=cH k.show_ y) (by omega) hsh.1 (by omega) l1
 have hpi:inB p 0 (t.places.length-1)=true:=aV.2 (by omega)
 have hsi:inB (cH k.show_ y) 0 (t.sets-1)=true:=aV.2 (by omega)
 have hui:inB (cH k.show_ (cH k.show_ y)) 0 (t.sets-1)=true:=aV.2 (by omega)
 have q1:=fS hc0 (nR h h.a hpi hsi);have q2:=fS hc0 (nR h hpi h.b hui);refine⟨by omega,by omega,jH q1,jH q2,fun f1 f2=> ?_⟩
 have hw:=Te he hpi hsi hui (fun i hi=>by
  rw[e2,e1];unfold aE;simp only[Int.toNat_natCast,dZ,hi,Bool.true_and]
  cases y.toNat.testBit i<;>simp) f1 f2
 have b1:=Tz q1 f1;have b2:=Tz q2 f2;exact⟨hw.1,hw.2,b1.1,b1.2,b2.1,b2.2⟩
end Town
end Go.St
end
section
namespace Go.Walk
open Go Go.Bp Go.St Go.RowKit Go.Proofs
set_option synthInstance.maxSize 2000
set_option synthInstance.maxHeartbeats 400000
set_option maxHeartbeats 4000000
theorem LBy(tv kv:Value)(t:Town)(k:Task)(x0 x1:Int)(w:World)(h:aM w tv t)(hk:bA w kv k)(hv:Env w)(h0:0≤x0∧x0≤255)(h1:0≤x1∧x1≤255):
 Calls Tryz.prog 13 #[tv,kv,.agg #[.int .u8 x0,.int .u8 x1]] w (dB w true):=by
 obtain⟨pv,sv,tmv,xv,rfl,hT⟩:=id h;obtain⟨A1,cp1,rfl,_,hc1,_,_⟩:=hT.places;obtain⟨A2,cp2,rfl,_,hc2,_,_⟩:=hT.shows;obtain⟨A3,cp3,rfl,_,_,_,_⟩:=hT.times;obtain⟨A4,cp4,rfl,_,hc4,_⟩:=id hT.streets;obtain⟨ka,kb,ks,km,kl⟩:=k;obtain⟨cv,rfl,hC⟩:=hk;obtain⟨A5,cp5,rfl,_⟩:=id hC;have i1:=TownB.mk h;have i2:=IntsB.mk hC;have hST:=hT.streets;clear hT;have i3:=EnvB.mk hv;obtain⟨⟨X,e⟩,hX⟩:∃r,t.findAns ⟨ka,kb,ks,km,kl⟩=r:=⟨_,rfl⟩;have f1:=FindE.mk hX;by_cases he:t.taskErr ⟨ka,kb,ks,km,kl⟩=0
 ·have hok:=Town.taskOk_of he;have p1:=hok.ok.p1;have p2:=hok.ok.p2;have p3:=hok.ok.sh;have q0:¬((t.places.length:Int)=0):=by omega
  obtain⟨p,hp⟩:∃p,x0%(t.places.length:Int)=p:=⟨_,rfl⟩;obtain⟨M,hM⟩:∃m,(2:Int)^t.shows.length=m:=⟨_,rfl⟩;have hM2:1≤M∧M≤64:=by have:=Town.sets_bd p3;unfold Town.sets at this;omega
  have q3:¬(M=0):=by omega
  obtain⟨y,hy⟩:∃y,x1%M=y:=⟨_,rfl⟩;have w1:IntKind.i64.wrap x1=x1:=Dy (by omega) (by omega)
  have w2:x1.tmod M=y:=by rw[Int.tmod_eq_emod_of_nonneg h1.1];exact hy
  have hp2:0≤p∧p<t.places.length:=by rw[←hp];exact⟨Int.emod_nonneg _ q0,Int.emod_lt_of_pos _ (by omega)⟩
  have hy2:0≤y∧y<M:=by rw[←hy];exact⟨Int.emod_nonneg _ q3,Int.emod_lt_of_pos _ (by omega)⟩
  obtain⟨hk6,hs1,c1,c2,c3⟩:=Town.by_pack he hp2 hy2.1;simp only at hk6 hs1 c1 c2 c3;obtain⟨s1,e1⟩:∃s,cH ks y=s:=⟨_,rfl⟩;rw[e1] at hs1 c1 c2 c3;obtain⟨s2,e2⟩:∃s,cH ks s1=s:=⟨_,rfl⟩;rw[e2] at c2 c3;obtain⟨⟨Y,u⟩,hY⟩:∃r,t.findAns ⟨ka,p,s1,km,kl⟩=r:=⟨_,rfl⟩;obtain⟨⟨Z,z⟩,hZ⟩:∃r,t.findAns ⟨p,kb,s2,km,kl⟩=r:=⟨_,rfl⟩;rw[hY] at c1 c3;rw[hZ] at c2 c3;rw[hX] at c3;simp only at c1 c2 c3;have f2:=FindE.mk hY;have f3:=FindE.mk hZ;have f4:=TaskE.mk he;have f5:LessE ks y s1:=⟨e1,by omega,by omega⟩
  have f6:LessE ks s1 s2:=⟨e2,by omega,by omega⟩
  have f7:SetsE t.shows.length M:=⟨_,rfl,by omega,hM⟩
  have C1:=Lib.hid c1;have C2:=Lib.hid c2;have C3:=Lib.hid c3;clear hX hY hZ e1 e2 he hM c1 c2 c3;go_enter Tryz.func13,Tryz.ntmps13
  go_wp2_with (first|go_skip|(with_reducible refine pZ ?_)|(with_reducible refine pY ?_)|(with_reducible refine qA ?_;first|rintro _ W ⟨rfl,_⟩|rintro _ W ⟨_,_,rfl,_,_⟩)|(with_reducible refine oQ ?_;intro W g _ _ _)|(with_reducible refine pX ?_;intro W _ _)|(with_reducible refine Tq ?_;intro W g _ _ _)|(with_reducible refine oR ?_;intro W g _ _ _)|(with_reducible refine oS ?_;intro _ _ W hR _))
  refine aR (.take 0 (.take 1 (.two 2 (.one 3 (.one 4 (.one 5 .nil))) 3 (.one 2 (.one 4 (.one 5 .nil)))))) (fun w'=>Ext W w') ?_ (fun hHd=> ?_) (hQ:=by intro _ _ _ _ _ h;exact h)
  ·exact ExtC.h
  repeat' first|((with_reducible refine aB ?_);(first|(refine tk (v:= ?_) ?_ hHd ?_;rotate_left;(·(intro W' h;have:=StepC.mk h;exact Ue)))|(refine tk (v:= ?_) ?_ hHd ?_;rotate_left;(·(intro wq hSw;go_simp;(try with_reducible rfl)))));(try simp only[pS]))|((with_reducible refine bC ?_);refine aQ (by simp only[gS];rfl) ?_)|((with_reducible refine fQ ?_);refine dI (by simp only[gS];rfl) (by simp only[gS];rfl) ?_ ?_)|(with_reducible refine Ua ?_;intro V g _ _ _)|(with_reducible refine pX ?_;intro V _ _)|((with_reducible refine Tx ?_);first|(rintro _ V ⟨rfl,_⟩;refine⟨_,rfl,?_⟩)|(rintro _ V ⟨_,_,rfl,_,_⟩;refine⟨_,rfl,?_⟩))|((with_reducible refine bB ?_);clear hHd;refine aJ ExtC.h (fun hHd=> ?_);(try simp only[pS]))|(with_reducible refine aG ?_)
  all_goals
   go_wp2_with (first|go_skip|(with_reducible refine pZ ?_)|(with_reducible refine pY ?_)|(with_reducible refine qA ?_;first|rintro _ V ⟨rfl,_⟩|rintro _ V ⟨_,_,rfl,_,_⟩)|(with_reducible refine oQ ?_;intro V g _ _ _)|(with_reducible refine pX ?_;intro V _ _)|(with_reducible refine Tq ?_;intro V g _ _ _)|(with_reducible refine oR ?_;intro V g _ _ _)|(with_reducible refine oS ?_;intro _ _ V hR _))
   refine aR (.take 0 (.take 1 (.take 2 (.take 3 (.take 4 (.take 5 (.take 6 (.take 7 (.one 8 (.take 9 (.one 10 (.take 11 (.one 12 .nil))))))))))))) (fun w'=>Ext W w') ?_ (fun hHd=> ?_) (hQ:=by intro _ _ _ _ _ h;exact h)
   ·exact ExtC.h
   repeat' first|((with_reducible refine aB ?_);(first|(refine tk (v:= ?_) ?_ hHd ?_;rotate_left;(·(intro W' h;have:=StepC.mk h;exact Ue)))|(refine tk (v:= ?_) ?_ hHd ?_;rotate_left;(·(intro wq hSw;go_simp;(try with_reducible rfl)))));(try simp only[pS]))|((with_reducible refine bC ?_);refine aQ (by simp only[gS];rfl) ?_)|((with_reducible refine fQ ?_);refine dI (by simp only[gS];rfl) (by simp only[gS];rfl) ?_ ?_)|(with_reducible refine Ua ?_;intro V g _ _ _)|(with_reducible refine pX ?_;intro V _ _)|((with_reducible refine Tx ?_);first|(rintro _ V ⟨rfl,_⟩;refine⟨_,rfl,?_⟩)|(rintro _ V ⟨_,_,rfl,_,_⟩;refine⟨_,rfl,?_⟩))|((with_reducible refine bB ?_);clear hHd;refine aJ ExtC.h (fun hHd=> ?_);(try simp only[pS]))|(with_reducible refine aG ?_)
   rcases C1.out with d1|d1<;>rcases C2.out with d2|d2<;>subst d1 d2
   ·obtain⟨g1,g2,g3,g4,g5,g6⟩:=C3.out rfl rfl;subst g1;go_wp2_with (first|go_skip|(with_reducible refine pZ ?_)|(with_reducible refine pY ?_)|(with_reducible refine qA ?_;first|rintro _ V ⟨rfl,_⟩|rintro _ V ⟨_,_,rfl,_,_⟩)|(with_reducible refine oQ ?_;intro V g _ _ _)|(with_reducible refine pX ?_;intro V _ _)|(with_reducible refine Tq ?_;intro V g _ _ _)|(with_reducible refine oR ?_;intro V g _ _ _)|(with_reducible refine oS ?_;intro _ _ V hR _))
    go_ret
    exact⟨rfl,ExtC.h⟩
   all_goals
    go_wp2_with (first|go_skip|(with_reducible refine pZ ?_)|(with_reducible refine pY ?_)|(with_reducible refine qA ?_;first|rintro _ V ⟨rfl,_⟩|rintro _ V ⟨_,_,rfl,_,_⟩)|(with_reducible refine oQ ?_;intro V g _ _ _)|(with_reducible refine pX ?_;intro V _ _)|(with_reducible refine Tq ?_;intro V g _ _ _)|(with_reducible refine oR ?_;intro V g _ _ _)|(with_reducible refine oS ?_;intro _ _ V hR _))
    go_ret
    exact⟨rfl,ExtC.h⟩
 ·rw[Town.find_no he] at hX;injection hX with g1 g2
  rw[g2] at he;have f4:=TaskE.mk g2;have q1:(e !=0)=true:=by simpa using he
  clear g1 g2 he;go_enter Tryz.func13,Tryz.ntmps13
  go_wp2_with (first|go_skip|(with_reducible refine pZ ?_)|(with_reducible refine pY ?_)|(with_reducible refine qA ?_;first|rintro _ W ⟨rfl,_⟩|rintro _ W ⟨_,_,rfl,_,_⟩)|(with_reducible refine oQ ?_;intro W g _ _ _)|(with_reducible refine pX ?_;intro W _ _)|(with_reducible refine Tq ?_;intro W g _ _ _)|(with_reducible refine oR ?_;intro W g _ _ _)|(with_reducible refine oS ?_;intro _ _ W hR _))
  go_ret
  exact⟨rfl,ExtC.h⟩
end Go.Walk
end
