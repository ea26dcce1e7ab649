import Derived.Test.YtbfbepnkofampaaGreatDoorXP25
set_option maxRecDepth 100000
set_option synthInstance.maxSize 2000
set_option synthInstance.maxHeartbeats 400000
set_option maxHeartbeats 8000000
set_option linter.all false
section
namespace Go.Rg
open Go Go.Bp Go.RowKit Go.Walk Go.Proofs
class EvtE (r:Rules) (born:Int) (x:Event) (e:outParam Int):Prop where h:r.eventErr born x=e
theorem zG(r:Rules)(v:Value)(born k d c o t q p u m e:Int)(w:World)(h:RulesV w v r)(hc:CntC r.sys)(he:r.eventErr born ⟨k,d,⟨c,o⟩,t,q,p,u,m⟩=e):
 Calls Tryz.prog 93 #[v,.int .i64 born,.agg #[.int .i64 k,.int .i64 d,.int .i64 c,.int .i64 o,.int .i64 t,.int .i64 q,.int .i64 p,.int .i64 u,.int .i64 m]] w (RI w e):=by
 obtain⟨A,n,kc,A',c',A2,c2,rfl,hn,hhr⟩:=h.h;subst hn;clear hhr;have i1:=RulesB.mk h;unfold Rules.eventErr at he;simp only at he;obtain⟨b1,h1⟩:∃x,inB k 0 4=x:=⟨_,rfl⟩;have j1:=InE.mk h1;rw[h1] at he;clear h1
 cases b1
 case false=>
  obtain rfl:2=e:=by simpa using he
  clear he;go_enter Tryz.func93,Tryz.ntmps93
  go_wp2_with (first|(with_reducible refine aH (d:=some 5) ?_;intro V5 g5 hE5 hB5 hA5)|(first|(with_reducible refine aA ?_)|(with_reducible refine aB ?_;first|rintro _ V ⟨rfl,(_:StepC _ _)⟩)|(with_reducible refine aH ?_;intro V g _ _ _)))
  all_goals
   go_ret
   exact⟨rfl,⟨ExtC.h⟩⟩
 obtain⟨b2,h2⟩:∃x,inB d 0 40000=x:=⟨_,rfl⟩;have j2:=InE.mk h2;rw[h2] at he;clear h2
 cases b2
 case false=>
  obtain rfl:7=e:=by simpa using he
  clear he;go_enter Tryz.func93,Tryz.ntmps93
  go_wp2_with (first|(with_reducible refine aH (d:=some 5) ?_;intro V5 g5 hE5 hB5 hA5)|(first|(with_reducible refine aA ?_)|(with_reducible refine aB ?_;first|rintro _ V ⟨rfl,(_:StepC _ _)⟩)|(with_reducible refine aH ?_;intro V g _ _ _)))
  all_goals
   go_ret
   exact⟨rfl,⟨ExtC.h⟩⟩
 obtain⟨b3,h3⟩:∃x,decide (d<born)=x:=⟨_,rfl⟩
 cases b3
 case true=>
  obtain rfl:2=e:=by simpa [of_decide_eq_true h3] using he
  clear he;go_enter Tryz.func93,Tryz.ntmps93
  go_wp2_with (first|(with_reducible refine aH (d:=some 5) ?_;intro V5 g5 hE5 hB5 hA5)|(first|(with_reducible refine aA ?_)|(with_reducible refine aB ?_;first|rintro _ V ⟨rfl,(_:StepC _ _)⟩)|(with_reducible refine aH ?_;intro V g _ _ _)))
  all_goals
   go_ret
   exact⟨rfl,⟨ExtC.h⟩⟩
 obtain⟨⟨y,e1⟩,hh⟩:∃x,r.had ⟨k,d,⟨c,o⟩,t,q,p,u,m⟩=x:=⟨_,rfl⟩;have j4:=HadE.mk hh;rw[hh] at he;clear hh;obtain⟨yk,yd,⟨yc,yo⟩,yt,yq,yp,yu,ym⟩:=y;by_cases z:e1=0
 ·subst z;have hE:=fun W=>neq80 W yk yd yc yo yt yq yp yu ym k d 0 0 0 0 0 0 0
  obtain⟨b,hb⟩:∃b,decide ((⟨yk,yd,⟨yc,yo⟩,yt,yq,yp,yu,ym⟩:Event)=⟨k,d,⟨0,0⟩,0,0,0,0,0⟩)=b:=⟨_,rfl⟩;simp only[hb] at hE
  cases b
  ·obtain rfl:2=e:=by simpa [of_decide_eq_false h3,Rules.bare,of_decide_eq_false hb] using he
   clear he hb;go_enter Tryz.func93,Tryz.ntmps93
   go_wp2_with (first|(with_reducible refine aH (d:=some 5) ?_;intro V5 g5 hE5 hB5 hA5)|(with_reducible refine aG (uu:=7) ?_;intro V7 g7 hE7 hB7 hA7;have h7:=hB7.h;have h5:=(inferInstance:BlkC V7 g5 80 _).h;have c0:=h7.cell 0;have c1:=h7.cell 1;have c2:=h7.cell 2;have c3:=h7.cell 3;have c4:=h7.cell 4;have c5:=h7.cell 5;have c6:=h7.cell 6;have c7:=h7.cell 7;have c8:=h7.cell 8;have k0:=h5.cell 0;have k1:=h5.cell 1;simp at c0 c1 c2 c3 c4 c5 c6 c7 c8 k0 k1)|(first|(with_reducible refine aA ?_)|(with_reducible refine bA ?_)|(with_reducible refine aB ?_;first|rintro _ V ⟨rfl,(_:StepC _ _)⟩)|(with_reducible refine aH ?_;intro V g _ _ _)))
   all_goals
    go_ret
    exact⟨rfl,⟨ExtC.h⟩⟩
  ·obtain rfl:0=e:=by simpa [of_decide_eq_false h3,Rules.bare,of_decide_eq_true hb] using he
   clear he hb;go_enter Tryz.func93,Tryz.ntmps93
   go_wp2_with (first|(with_reducible refine aH (d:=some 5) ?_;intro V5 g5 hE5 hB5 hA5)|(with_reducible refine aG (uu:=7) ?_;intro V7 g7 hE7 hB7 hA7;have h7:=hB7.h;have h5:=(inferInstance:BlkC V7 g5 80 _).h;have c0:=h7.cell 0;have c1:=h7.cell 1;have c2:=h7.cell 2;have c3:=h7.cell 3;have c4:=h7.cell 4;have c5:=h7.cell 5;have c6:=h7.cell 6;have c7:=h7.cell 7;have c8:=h7.cell 8;have k0:=h5.cell 0;have k1:=h5.cell 1;simp at c0 c1 c2 c3 c4 c5 c6 c7 c8 k0 k1)|(first|(with_reducible refine aA ?_)|(with_reducible refine bA ?_)|(with_reducible refine aB ?_;first|rintro _ V ⟨rfl,(_:StepC _ _)⟩)|(with_reducible refine aH ?_;intro V g _ _ _)))
   all_goals
    go_ret
    exact⟨rfl,⟨ExtC.h⟩⟩
 ·obtain rfl:e1=e:=by simpa [of_decide_eq_false h3,z] using he
  have q0:(e1==0)=false:=by simpa using z
  clear he z;go_enter Tryz.func93,Tryz.ntmps93
  go_wp2_with (first|(with_reducible refine aH (d:=some 5) ?_;intro V5 g5 hE5 hB5 hA5)|(with_reducible refine aG (uu:=7) ?_;intro V7 g7 hE7 hB7 hA7;have h7:=hB7.h;have h5:=(inferInstance:BlkC V7 g5 80 _).h;have c0:=h7.cell 0;have c1:=h7.cell 1;have c2:=h7.cell 2;have c3:=h7.cell 3;have c4:=h7.cell 4;have c5:=h7.cell 5;have c6:=h7.cell 6;have c7:=h7.cell 7;have c8:=h7.cell 8;have k0:=h5.cell 0;have k1:=h5.cell 1;simp at c0 c1 c2 c3 c4 c5 c6 c7 c8 k0 k1)|(first|go_skip|(with_reducible refine aA ?_)|(with_reducible refine aB ?_;first|rintro _ V ⟨rfl,(_:StepC _ _)⟩)|(with_reducible refine aH ?_;intro V g _ _ _)))
  all_goals
   go_ret
   exact⟨rfl,⟨ExtC.h⟩⟩
instance{W:World}{v:Value}{r:Rules}{born k d c o t q p u m e:Int}[h:RulesC W v r][hc:CntC r.sys][z:EvtE r born ⟨k,d,⟨c,o⟩,t,q,p,u,m⟩ e]:FunC Tryz.prog 93 #[v,.int .i64 born,.agg #[.int .i64 k,.int .i64 d,.int .i64 c,.int .i64 o,.int .i64 t,.int .i64 q,.int .i64 p,.int .i64 u,.int .i64 m]] W (RI W e):=⟨zG r v born k d c o t q p u m e W h.h hc z.h⟩
theorem tU(r:Rules)(p:Person)(dd dc df:Int){b1 d2 b3 b4:Bool}(h1:inB dd 0 40000=b1)(h2:decide (dd<p.born)=d2)(h3:inB dc 0 ((r.sys.classes.length:Int)-1)=b3)(h4:inB df 0 (r.sys.sets-1)=b4):
 r.driveErr p ⟨dd,dc,df⟩=firstT [(!b1,7),(d2,2),(!b3,4),(!b4,7)] 0:=by
 unfold Rules.driveErr;simp only[h1,h3,h4];have e2:(dd<p.born)=(d2=true):=by rw[←h2];simp
 simp only[e2]
 cases b1<;>cases d2<;>cases b3<;>cases b4<;>rfl
theorem zK(r:Rules)(p:Person)(v pv:Value)(dd dc df:Int)(w:World)(h:RulesV w v r)(hp:PersonV w pv p)(hc:CntC r.sys):Calls Tryz.prog 77 #[v,pv,.agg #[.int .i64 dd,.int .i64 dc,.int .i64 df]] w (RI w (r.driveErr p ⟨dd,dc,df⟩)):=by
 obtain⟨A,n,kc,A',c',A2,c2,rfl,hn,hhr⟩:=h.h;subst hn;obtain⟨A9,c9,rfl,hl⟩:=hp.h;have i1:=RulesB.mk h;have hz2:IntKind.i64.wrap ((r.sys.classes.length:Int)-1)=(r.sys.classes.length:Int)-1:=by
  obtain⟨l,q1,q2,-⟩:=hhr.1.h;have:=q2.caps;exact IntWalk.i64_in _ (by omega)
 obtain⟨M,hM⟩:∃M:Int,2^r.sys.codes.length=M:=⟨_,rfl⟩;have i5:PowE r.sys.codes.length M:=⟨hc.h.2,hM⟩;have hpb:=eU hc.h.2;rw[hM] at hpb;have hz3:IntKind.i64.wrap (M-1)=M-1:=IntWalk.i64_in _ (by omega)
 obtain⟨b1,e1⟩:∃x,inB dd 0 40000=x:=⟨_,rfl⟩;obtain⟨d2,e2⟩:∃x,decide (dd<p.born)=x:=⟨_,rfl⟩;obtain⟨b3,e3⟩:∃x,inB dc 0 ((r.sys.classes.length:Int)-1)=x:=⟨_,rfl⟩;obtain⟨b4,e4⟩:∃x,inB df 0 (M-1)=x:=⟨_,rfl⟩;have e4':inB df 0 (r.sys.sets-1)=b4:=by unfold Sys.sets;rw[hM];exact e4
 rw[tU r p dd dc df e1 e2 e3 e4'];have j1:=InE.mk e1;have j3:=InE.mk e3;have j4:=InE.mk e4;clear e1 e3 e4 e4' hhr hl hM hpb h hp hc
 cases b1
 ·go_enter Tryz.func77,Tryz.ntmps77
  go_wp2_with (first|(with_reducible refine aA ?_)|(with_reducible refine aB ?_;first|rintro _ V ⟨rfl,(_:StepC _ _)⟩)|(with_reducible refine aH ?_;intro V g _ _ _))
  all_goals(try(go_ret;refine⟨?_,⟨ExtC.h⟩⟩;first|rfl))
 ·cases d2
  ·cases b3
   ·go_enter Tryz.func77,Tryz.ntmps77
    go_wp2_with (first|(with_reducible refine aA ?_)|(with_reducible refine aB ?_;first|rintro _ V ⟨rfl,(_:StepC _ _)⟩)|(with_reducible refine aH ?_;intro V g _ _ _))
    all_goals(try(go_ret;refine⟨?_,⟨ExtC.h⟩⟩;first|rfl))
   ·go_enter Tryz.func77,Tryz.ntmps77
    go_wp2_with (first|(with_reducible refine aA ?_)|(with_reducible refine aB ?_;first|rintro _ V ⟨rfl,(_:StepC _ _)⟩)|(with_reducible refine aH ?_;intro V g _ _ _))
    refine aP ((.take 0 (.take 1 (.take 2 (.take 3 (.take 4 (.take 5 (.one 6 (.take 7 (.one 8 (.take 9 .nil))))))))))) (fun hHd=> ?_) (hQ:=by intro _ _ _ _ _ h;exact h)
    repeat' first|((with_reducible refine aX ?_);(first|(refine tk (v:= ?_) ?_ hHd ?_;rotate_left;(·(intro W' h;have:=StepC.mk h;first|with_reducible exact aJ)))|(refine tk (v:= ?_) ?_ hHd ?_;rotate_left;(·(intro wq hSw;go_simp;(try with_reducible rfl)))));(try simp only[pS]))|((with_reducible refine bC ?_);refine aQ (by simp only[gS];rfl) ?_)|((with_reducible refine aN ?_);first|(rintro _ V ⟨rfl,(_:StepC _ _)⟩;refine⟨_,rfl,?_⟩))|((with_reducible refine bD ?_);clear hHd;refine aM ExtC.h (fun hHd=> ?_);(try simp only[pS]))|(with_reducible refine aF ?_)
    all_goals
     cases b4
     ·skip
      go_wp2
      all_goals(try(go_ret;refine⟨?_,⟨ExtC.h⟩⟩;first|rfl))
     ·skip
      go_wp2
      all_goals(try(go_ret;refine⟨?_,⟨ExtC.h⟩⟩;first|rfl))
  ·go_enter Tryz.func77,Tryz.ntmps77
   go_wp2_with (first|(with_reducible refine aA ?_)|(with_reducible refine aB ?_;first|rintro _ V ⟨rfl,(_:StepC _ _)⟩)|(with_reducible refine aH ?_;intro V g _ _ _))
   all_goals(try(go_ret;refine⟨?_,⟨ExtC.h⟩⟩;first|rfl))
class RPerE (r:Rules) (p:Person) (e:outParam Int):Prop where h:r.personErr p=e
theorem wF(r:Rules)(p:Person)(v pv:Value)(R:Int)(w:World)(h:RulesV w v r)(hp:PersonV w pv p)(hR:r.personErr p=R):Calls Tryz.prog 49 #[v,pv] w (RI w R):=by
 obtain⟨A,n,kc,A',c',A2,c2,rfl,hn,hhr⟩:=h.h;subst hn;clear hhr;obtain⟨A9,c9,rfl,hl⟩:=hp.h;have i1:=RulesB.mk h;have i2:=ListB.mk hl;have hcap:=hl.caps;obtain⟨⟨a,b,e⟩,hk⟩:∃x,r.check=x:=⟨_,rfl⟩;have i3:=RfChkE.mk hk;obtain⟨b1,h1⟩:∃x,inB p.born 0 40000=x:=⟨_,rfl⟩;have j1:=InE.mk h1;obtain⟨d1,h2⟩:∃x,decide ((p.events.length:Int)>30)=x:=⟨_,rfl⟩;obtain⟨e0,he0⟩:∃x:Int,(if e≠0 then e else if b1=false then 7 else if d1=true then 3 else 0)=x:=⟨_,rfl⟩
 have HC:=Lib.hid (show e0=0→CntC r.sys from fun h=>by
  rw[h] at he0;by_cases z:e=0
  ·have:=Rules.ok_of (r:=r) (by rw[hk];exact z)
   exact kH this.check
  ·rw[if_pos z] at he0;exact absurd he0 z)
 have hP:R=if e0≠0 then e0 else(firstE p.events fun _ x=>r.eventErr p.born x).2:=by
  rw[←hR];unfold Rules.personErr;rw[hk,h1];simp only;have e2:(30<p.events.length)=(d1=true):=by rw[←h2];simp;omega
  simp only[e2];rw[←he0];by_cases z:e=0
  ·cases b1<;>cases d1<;>simp[z]
  ·simp[z]
 have HA:=Lib.hid (show e0=0→∀k(hk:k<p.events.length),(∀j(hj:j<p.events.length),j<k→r.eventErr p.born p.events[j]=0)→r.eventErr p.born p.events[k]≠0→r.eventErr p.born p.events[k]=R from fun h k hk hj hn=>by
  rw[hP,if_neg (by simpa using h),cN hk hn (fun j hj2=>hj j (by omega) hj2)])
 have HN:=Lib.hid (show e0=0→(∀j(hj:j<p.events.length),r.eventErr p.born p.events[j]=0)→R=0 from fun h hj=>by
  rw[hP,if_neg (by simpa using h),bU hj])
 have HE:=Lib.hid (show e0≠0→e0=R from fun h=>by rw[hP,if_pos h])
 clear hP hR hk h1 h hp;by_cases z:e=0
 ·subst z;rw[if_neg (by simp)] at he0
  cases b1
  ·rw[if_pos rfl] at he0;have H1:=Lib.hid (show 7=R by have:=HE.out (by omega);omega)
   clear he0;go_enter Tryz.func49,Tryz.ntmps49
   go_wp2_with (first|go_skip|(with_reducible refine aA ?_)|(with_reducible refine bA ?_)|(with_reducible refine aB ?_;first|rintro _ V ⟨rfl,(_:StepC _ _)⟩)|(with_reducible refine aH ?_;intro V g _ _ _))
   go_loopw [7,8] (fun ev iv wr=>StepC V wr∧∃(k:Nat)(x:Int),k≤p.events.length∧ev=.int .i64 x∧iv=.int .i64 k∧(x≠0→x=R)∧(x=0→e0=0∧∀j(hj:j<p.events.length),j<k→r.eventErr p.born p.events[j]=0)) (fun _ iv _=>p.events.length-(RowKit.intOf iv).toNat)
   case atStart=>exact⟨⟨ExtC.h⟩,0,7,by omega,rfl,rfl,fun _=>H1.out,fun h=>absurd h (by omega)⟩
   case round=>
    obtain⟨_,k,x,hk,rfl,rfl,h3,h4⟩:=hrel;have H3:=Lib.hid h3;have H4:=Lib.hid h4;clear h3 h4;by_cases hx:x=0
    ·subst hx;by_cases lk:k<p.events.length
     ·obtain⟨ad,rfl,ha⟩:=hl.elem lk;obtain⟨h5,h6⟩:=H4.out rfl;have cn:=HC.out h5;obtain⟨e9,h9⟩:∃x,r.eventErr p.born p.events[k]=x:=⟨_,rfl⟩;have Hr:=Lib.hid (show e9≠0→e9=R from fun h=>by rw[←h9] at h⊢;exact HA.out h5 k lk h6 h)
      have Hn:=Lib.hid (show e9=0→e0=0∧∀j(hj:j<p.events.length),j<k+1→r.eventErr p.born p.events[j]=0 from fun h=>⟨h5,fun j hj hj2=>by
       by_cases hjk:j=k
       ·subst hjk;rw[h9];exact h
       ·exact h6 j hj (by omega)⟩)
      obtain⟨⟨ek,ed,⟨ec,eo⟩,et,eq,ep,eu,em⟩,hev⟩:∃x,p.events[k]=x:=⟨_,rfl⟩;rw[hev] at ha h9;have j6:CellsB w (ad.add (k*9)) [.int .i64 ek,.int .i64 ed,.int .i64 ec,.int .i64 eo,.int .i64 et,.int .i64 eq,.int .i64 ep,.int .i64 eu,.int .i64 em]:=⟨ha⟩;have j7:=EvtE.mk h9;have zk:IntKind.i64.wrap ((k:Int)+1)=(k:Int)+1:=IntWalk.i64_in _ (by omega)
      clear h5 h6 h9 hev ha H3 H4;go_wp2_with (first|(with_reducible refine aA ?_))
      refine aP ((.take 0 (.take 1 (.take 2 (.take 3 (.take 4 (.take 5 (.take 6 (.take 7 (.one 8 (.take 9 .nil))))))))))) (fun hHd=> ?_) (hQ:=by intro _ _ _ _ _ h;exact h)
      repeat' first|((with_reducible refine aX ?_);(first|(refine tk (v:= ?_) ?_ hHd ?_;rotate_left;(·(intro W' h;have:=StepC.mk h;first|with_reducible exact aJ)))|(refine tk (v:= ?_) ?_ hHd ?_;rotate_left;(·(intro wq hSw;go_simp;(try with_reducible rfl)))));(try simp only[pS]))|((with_reducible refine bC ?_);refine aQ (by simp only[gS];rfl) ?_)|((with_reducible refine aN ?_);first|(rintro _ V ⟨rfl,(_:StepC _ _)⟩;refine⟨_,rfl,?_⟩))|((with_reducible refine bD ?_);clear hHd;refine aM ExtC.h (fun hHd=> ?_);(try simp only[pS]))|(with_reducible refine aF ?_)
      all_goals
       go_wp2
       exact⟨⟨⟨ExtC.h⟩,k+1,e9,lk,rfl,by push_cast;rfl,Hr.out,Hn.out⟩,by simp[RowKit.intOf];omega⟩
     ·obtain rfl:k=p.events.length:=by omega
      obtain rfl:0=R:=(HN.out (H4.out rfl).1 fun j hj=>(H4.out rfl).2 j hj hj).symm
      go_wp2_with (first|(with_reducible refine aA ?_))
      go_ret
      exact⟨rfl,⟨ExtC.h⟩⟩
    ·obtain rfl:=H3.out hx;have q9:(x==0)=false:=by simpa using hx
     by_cases lk:k<p.events.length
     ·go_wp2_with (first|(with_reducible refine aA ?_))
      go_ret
      exact⟨rfl,⟨ExtC.h⟩⟩
     ·obtain rfl:k=p.events.length:=by omega
      go_wp2_with (first|(with_reducible refine aA ?_))
      go_ret
      exact⟨rfl,⟨ExtC.h⟩⟩
  ·rw[if_neg (by simp)] at he0
   cases d1
   ·rw[if_neg (by simp)] at he0
    have H1:=Lib.hid (show e0=0 from he0.symm)
    clear he0;go_enter Tryz.func49,Tryz.ntmps49
    go_wp2_with (first|(with_reducible refine aA ?_)|(with_reducible refine bA ?_)|(with_reducible refine aB ?_;first|rintro _ V ⟨rfl,(_:StepC _ _)⟩)|(with_reducible refine aH ?_;intro V g _ _ _))
    go_loopw [7,8] (fun ev iv wr=>StepC V wr∧∃(k:Nat)(x:Int),k≤p.events.length∧ev=.int .i64 x∧iv=.int .i64 k∧(x≠0→x=R)∧(x=0→e0=0∧∀j(hj:j<p.events.length),j<k→r.eventErr p.born p.events[j]=0)) (fun _ iv _=>p.events.length-(RowKit.intOf iv).toNat)
    case atStart=>exact⟨⟨ExtC.h⟩,0,0,by omega,rfl,rfl,fun h=>absurd rfl h,fun _=>⟨H1.out,fun j _ hj=>by omega⟩⟩
    case round=>
     obtain⟨_,k,x,hk,rfl,rfl,h3,h4⟩:=hrel;have H3:=Lib.hid h3;have H4:=Lib.hid h4;clear h3 h4;by_cases hx:x=0
     ·subst hx;by_cases lk:k<p.events.length
      ·obtain⟨ad,rfl,ha⟩:=hl.elem lk;obtain⟨h5,h6⟩:=H4.out rfl;have cn:=HC.out h5;obtain⟨e9,h9⟩:∃x,r.eventErr p.born p.events[k]=x:=⟨_,rfl⟩;have Hr:=Lib.hid (show e9≠0→e9=R from fun h=>by rw[←h9] at h⊢;exact HA.out h5 k lk h6 h)
       have Hn:=Lib.hid (show e9=0→e0=0∧∀j(hj:j<p.events.length),j<k+1→r.eventErr p.born p.events[j]=0 from fun h=>⟨h5,fun j hj hj2=>by
        by_cases hjk:j=k
        ·subst hjk;rw[h9];exact h
        ·exact h6 j hj (by omega)⟩)
       obtain⟨⟨ek,ed,⟨ec,eo⟩,et,eq,ep,eu,em⟩,hev⟩:∃x,p.events[k]=x:=⟨_,rfl⟩;rw[hev] at ha h9;have j6:CellsB w (ad.add (k*9)) [.int .i64 ek,.int .i64 ed,.int .i64 ec,.int .i64 eo,.int .i64 et,.int .i64 eq,.int .i64 ep,.int .i64 eu,.int .i64 em]:=⟨ha⟩;have j7:=EvtE.mk h9;have zk:IntKind.i64.wrap ((k:Int)+1)=(k:Int)+1:=IntWalk.i64_in _ (by omega)
       clear h5 h6 h9 hev ha H3 H4;go_wp2_with (first|(with_reducible refine aA ?_))
       refine aP ((.take 0 (.take 1 (.take 2 (.take 3 (.take 4 (.take 5 (.take 6 (.take 7 (.one 8 (.take 9 .nil))))))))))) (fun hHd=> ?_) (hQ:=by intro _ _ _ _ _ h;exact h)
       repeat' first|((with_reducible refine aX ?_);(first|(refine tk (v:= ?_) ?_ hHd ?_;rotate_left;(·(intro W' h;have:=StepC.mk h;first|with_reducible exact aJ)))|(refine tk (v:= ?_) ?_ hHd ?_;rotate_left;(·(intro wq hSw;go_simp;(try with_reducible rfl)))));(try simp only[pS]))|((with_reducible refine bC ?_);refine aQ (by simp only[gS];rfl) ?_)|((with_reducible refine aN ?_);first|(rintro _ V ⟨rfl,(_:StepC _ _)⟩;refine⟨_,rfl,?_⟩))|((with_reducible refine bD ?_);clear hHd;refine aM ExtC.h (fun hHd=> ?_);(try simp only[pS]))|(with_reducible refine aF ?_)
       all_goals
        go_wp2
        exact⟨⟨⟨ExtC.h⟩,k+1,e9,lk,rfl,by push_cast;rfl,Hr.out,Hn.out⟩,by simp[RowKit.intOf];omega⟩
      ·obtain rfl:k=p.events.length:=by omega
       obtain rfl:0=R:=(HN.out (H4.out rfl).1 fun j hj=>(H4.out rfl).2 j hj hj).symm
       go_wp2_with (first|(with_reducible refine aA ?_))
       go_ret
       exact⟨rfl,⟨ExtC.h⟩⟩
     ·obtain rfl:=H3.out hx;have q9:(x==0)=false:=by simpa using hx
      by_cases lk:k<p.events.length
      ·go_wp2_with (first|(with_reducible refine aA ?_))
       go_ret
       exact⟨rfl,⟨ExtC.h⟩⟩
      ·obtain rfl:k=p.events.length:=by omega
       go_wp2_with (first|(with_reducible refine aA ?_))
       go_ret
       exact⟨rfl,⟨ExtC.h⟩⟩
   ·rw[if_pos rfl] at he0;have H1:=Lib.hid (show 3=R by have:=HE.out (by omega);omega)
    clear he0;go_enter Tryz.func49,Tryz.ntmps49
    go_wp2_with (first|(with_reducible refine aA ?_)|(with_reducible refine bA ?_)|(with_reducible refine aB ?_;first|rintro _ V ⟨rfl,(_:StepC _ _)⟩)|(with_reducible refine aH ?_;intro V g _ _ _))
    go_loopw [7,8] (fun ev iv wr=>StepC V wr∧∃(k:Nat)(x:Int),k≤p.events.length∧ev=.int .i64 x∧iv=.int .i64 k∧(x≠0→x=R)∧(x=0→e0=0∧∀j(hj:j<p.events.length),j<k→r.eventErr p.born p.events[j]=0)) (fun _ iv _=>p.events.length-(RowKit.intOf iv).toNat)
    case atStart=>exact⟨⟨ExtC.h⟩,0,3,by omega,rfl,rfl,fun _=>H1.out,fun h=>absurd h (by omega)⟩
    case round=>
     obtain⟨_,k,x,hk,rfl,rfl,h3,h4⟩:=hrel;have H3:=Lib.hid h3;have H4:=Lib.hid h4;clear h3 h4;by_cases hx:x=0
     ·subst hx;by_cases lk:k<p.events.length
      ·obtain⟨ad,rfl,ha⟩:=hl.elem lk;obtain⟨h5,h6⟩:=H4.out rfl;have cn:=HC.out h5;obtain⟨e9,h9⟩:∃x,r.eventErr p.born p.events[k]=x:=⟨_,rfl⟩;have Hr:=Lib.hid (show e9≠0→e9=R from fun h=>by rw[←h9] at h⊢;exact HA.out h5 k lk h6 h)
       have Hn:=Lib.hid (show e9=0→e0=0∧∀j(hj:j<p.events.length),j<k+1→r.eventErr p.born p.events[j]=0 from fun h=>⟨h5,fun j hj hj2=>by
        by_cases hjk:j=k
        ·subst hjk;rw[h9];exact h
        ·exact h6 j hj (by omega)⟩)
       obtain⟨⟨ek,ed,⟨ec,eo⟩,et,eq,ep,eu,em⟩,hev⟩:∃x,p.events[k]=x:=⟨_,rfl⟩;rw[hev] at ha h9;have j6:CellsB w (ad.add (k*9)) [.int .i64 ek,.int .i64 ed,.int .i64 ec,.int .i64 eo,.int .i64 et,.int .i64 eq,.int .i64 ep,.int .i64 eu,.int .i64 em]:=⟨ha⟩;have j7:=EvtE.mk h9;have zk:IntKind.i64.wrap ((k:Int)+1)=(k:Int)+1:=IntWalk.i64_in _ (by omega)
       clear h5 h6 h9 hev ha H3 H4;go_wp2_with (first|(with_reducible refine aA ?_))
       refine aP ((.take 0 (.take 1 (.take 2 (.take 3 (.take 4 (.take 5 (.take 6 (.take 7 (.one 8 (.take 9 .nil))))))))))) (fun hHd=> ?_) (hQ:=by intro _ _ _ _ _ h;exact h)
       repeat' first|((with_reducible refine aX ?_);(first|(refine tk (v:= ?_) ?_ hHd ?_;rotate_left;(·(intro W' h;have:=StepC.mk h;first|with_reducible exact aJ)))|(refine tk (v:= ?_) ?_ hHd ?_;rotate_left;(·(intro wq hSw;go_simp;(try with_reducible rfl)))));(try simp only[pS]))|((with_reducible refine bC ?_);refine aQ (by simp only[gS];rfl) ?_)|((with_reducible refine aN ?_);first|(rintro _ V ⟨rfl,(_:StepC _ _)⟩;refine⟨_,rfl,?_⟩))|((with_reducible refine bD ?_);clear hHd;refine aM ExtC.h (fun hHd=> ?_);(try simp only[pS]))|(with_reducible refine aF ?_)
       all_goals
        go_wp2
        exact⟨⟨⟨ExtC.h⟩,k+1,e9,lk,rfl,by push_cast;rfl,Hr.out,Hn.out⟩,by simp[RowKit.intOf];omega⟩
      ·obtain rfl:k=p.events.length:=by omega
       obtain rfl:0=R:=(HN.out (H4.out rfl).1 fun j hj=>(H4.out rfl).2 j hj hj).symm
       go_wp2_with (first|(with_reducible refine aA ?_))
       go_ret
       exact⟨rfl,⟨ExtC.h⟩⟩
     ·obtain rfl:=H3.out hx;have q9:(x==0)=false:=by simpa using hx
      by_cases lk:k<p.events.length
      ·go_wp2_with (first|(with_reducible refine aA ?_))
       go_ret
       exact⟨rfl,⟨ExtC.h⟩⟩
      ·obtain rfl:k=p.events.length:=by omega
       go_wp2_with (first|(with_reducible refine aA ?_))
       go_ret
       exact⟨rfl,⟨ExtC.h⟩⟩
 ·rw[if_pos z] at he0;have q0:(e==0)=false:=by simpa using z
  have H1:=Lib.hid (show e=R by rw[he0];exact HE.out (by rw[←he0];exact z))
  have H2:=Lib.hid z;clear z he0;go_enter Tryz.func49,Tryz.ntmps49
  go_wp2_with (first|go_skip|(with_reducible refine aA ?_)|(with_reducible refine aB ?_;first|rintro _ V ⟨rfl,(_:StepC _ _)⟩)|(with_reducible refine aH ?_;intro V g _ _ _))
  go_loopw [7,8] (fun ev iv wr=>StepC V wr∧∃(k:Nat)(x:Int),k≤p.events.length∧ev=.int .i64 x∧iv=.int .i64 k∧(x≠0→x=R)∧(x=0→e0=0∧∀j(hj:j<p.events.length),j<k→r.eventErr p.born p.events[j]=0)) (fun _ iv _=>p.events.length-(RowKit.intOf iv).toNat)
  case atStart=>exact⟨⟨ExtC.h⟩,0,e,by omega,rfl,rfl,fun _=>H1.out,fun h=>absurd h H2.out⟩
  case round=>
   obtain⟨_,k,x,hk,rfl,rfl,h3,h4⟩:=hrel;have H3:=Lib.hid h3;have H4:=Lib.hid h4;clear h3 h4;by_cases hx:x=0
   ·subst hx;by_cases lk:k<p.events.length
    ·obtain⟨ad,rfl,ha⟩:=hl.elem lk;obtain⟨h5,h6⟩:=H4.out rfl;have cn:=HC.out h5;obtain⟨e9,h9⟩:∃x,r.eventErr p.born p.events[k]=x:=⟨_,rfl⟩;have Hr:=Lib.hid (show e9≠0→e9=R from fun h=>by rw[←h9] at h⊢;exact HA.out h5 k lk h6 h)
     have Hn:=Lib.hid (show e9=0→e0=0∧∀j(hj:j<p.events.length),j<k+1→r.eventErr p.born p.events[j]=0 from fun h=>⟨h5,fun j hj hj2=>by
      by_cases hjk:j=k
      ·subst hjk;rw[h9];exact h
      ·exact h6 j hj (by omega)⟩)
     obtain⟨⟨ek,ed,⟨ec,eo⟩,et,eq,ep,eu,em⟩,hev⟩:∃x,p.events[k]=x:=⟨_,rfl⟩;rw[hev] at ha h9;have j6:CellsB w (ad.add (k*9)) [.int .i64 ek,.int .i64 ed,.int .i64 ec,.int .i64 eo,.int .i64 et,.int .i64 eq,.int .i64 ep,.int .i64 eu,.int .i64 em]:=⟨ha⟩;have j7:=EvtE.mk h9;have zk:IntKind.i64.wrap ((k:Int)+1)=(k:Int)+1:=IntWalk.i64_in _ (by omega)
     clear h5 h6 h9 hev ha H3 H4;go_wp2_with (first|(with_reducible refine aA ?_))
     refine aP ((.take 0 (.take 1 (.take 2 (.take 3 (.take 4 (.take 5 (.take 6 (.take 7 (.one 8 (.take 9 .nil))))))))))) (fun hHd=> ?_) (hQ:=by intro _ _ _ _ _ h;exact h)
     repeat' first|((with_reducible refine aX ?_);(first|(refine tk (v:= ?_) ?_ hHd ?_;rotate_left;(·(intro W' h;have:=StepC.mk h;first|with_reducible exact aJ)))|(refine tk (v:= ?_) ?_ hHd ?_;rotate_left;(·(intro wq hSw;go_simp;(try with_reducible rfl)))));(try simp only[pS]))|((with_reducible refine bC ?_);refine aQ (by simp only[gS];rfl) ?_)|((with_reducible refine aN ?_);first|(rintro _ V ⟨rfl,(_:StepC _ _)⟩;refine⟨_,rfl,?_⟩))|((with_reducible refine bD ?_);clear hHd;refine aM ExtC.h (fun hHd=> ?_);(try simp only[pS]))|(with_reducible refine aF ?_)
     all_goals
      go_wp2
      exact⟨⟨⟨ExtC.h⟩,k+1,e9,lk,rfl,by push_cast;rfl,Hr.out,Hn.out⟩,by simp[RowKit.intOf];omega⟩
    ·obtain rfl:k=p.events.length:=by omega
     obtain rfl:0=R:=(HN.out (H4.out rfl).1 fun j hj=>(H4.out rfl).2 j hj hj).symm
     go_wp2_with (first|(with_reducible refine aA ?_))
     go_ret
     exact⟨rfl,⟨ExtC.h⟩⟩
   ·obtain rfl:=H3.out hx;have q9:(x==0)=false:=by simpa using hx
    by_cases lk:k<p.events.length
    ·go_wp2_with (first|(with_reducible refine aA ?_))
     go_ret
     exact⟨rfl,⟨ExtC.h⟩⟩
    ·obtain rfl:k=p.events.length:=by omega
     go_wp2_with (first|(with_reducible refine aA ?_))
     go_ret
     exact⟨rfl,⟨ExtC.h⟩⟩
instance{W:World}{v pv:Value}{r:Rules}{p:Person}{e:Int}[h:RulesC W v r][hp:PersonC W pv p][q:RPerE r p e]:FunC Tryz.prog 49 #[v,pv] W (RI W e):=⟨wF r p v pv e W h.h hp.h q.h⟩
theorem Lg(u v:Value)(l m:List Right)(w:World)(hu:ListV w u l)(hv:ListV w v m):Calls Tryz.prog 29 #[u,v] w (RB w (decide (l=m))):=by
 obtain⟨A,c,rfl,hc1,hc2⟩:=hu.form;obtain⟨B,d,rfl,hd1,hd2⟩:=hv.form;unfold maxLen at hc2 hd2;by_cases hl:l.length=m.length
 ·have q:((l.length:Int) !=(m.length:Int))=false:=by simp[hl]
  obtain⟨R,hR⟩:∃R,decide (l=m)=R:=⟨_,rfl⟩;rw[hR];have HT:=Lib.hid (show(∀j(h1:j<l.length)(h2:j<m.length),l[j]=m[j])→R=true from fun h=>by
   rw[←hR];exact decide_eq_true (List.ext_getElem hl fun j h1 h2=>h j h1 h2))
  have HF:=Lib.hid (show∀j(h1:j<l.length)(h2:j<m.length),l[j]≠m[j]→R=false from fun j h1 h2 h=>by
   rw[←hR];exact decide_eq_false fun e=>h (by subst e;rfl))
  have Hl:=Lib.hid hl;clear hR hl;go_enter Tryz.func29,Tryz.ntmps29
  go_wp2
  go_loopw [5] (fun iv wr=>StepC w wr∧∃k:Nat,k≤l.length∧iv=.int .i64 k∧∀j(hj:j<k)(h1:j<l.length)(h2:j<m.length),l[j]=m[j]) (fun iv _=>l.length-(RowKit.intOf iv).toNat)
  case atStart=>exact⟨⟨ExtC.h⟩,0,by omega,rfl,fun j hj=>by omega⟩
  case round=>
   obtain⟨_,k,hk,rfl,hz⟩:=hrel;have Hz:=Lib.hid hz;clear hz;by_cases lk:k<l.length
   ·have lm:k<m.length:=by have:=Hl.out;omega
    obtain⟨ad,rfl,ha⟩:=(hu.ext (ExtC.h:Ext w wr)).elem lk;obtain⟨bd,rfl,hb⟩:=(hv.ext (ExtC.h:Ext w wr)).elem lm;have Hn:=Lib.hid (show l[k]=m[k]→∀j(hj:j<k+1)(h1:j<l.length)(h2:j<m.length),l[j]=m[j] from fun h j hj h1 h2=>by
     by_cases hjk:j=k
     ·subst hjk;exact h
     ·exact Hz.out j (by omega) h1 h2)
    have Hs:=Lib.hid (show l[k]≠m[k]→R=false from fun h=>HF.out k lk lm h)
    obtain⟨⟨a1,a2⟩,hx⟩:∃x,l[k]=x:=⟨_,rfl⟩;obtain⟨⟨b1,b2⟩,hy⟩:∃x,m[k]=x:=⟨_,rfl⟩;rw[hx,hy] at Hn Hs;rw[hx] at ha;rw[hy] at hb;have i1:CellsB wr (ad.add (k*2)) [.int .i64 a1,.int .i64 a2]:=⟨ha⟩;have i2:CellsB wr (bd.add (k*2)) [.int .i64 b1,.int .i64 b2]:=⟨hb⟩;have zk:IntKind.i64.wrap ((k:Int)+1)=(k:Int)+1:=IntWalk.i64_in _ (by omega)
    clear ha hb hx hy;by_cases e:a1=b1∧a2=b2
    ·obtain⟨rfl,rfl⟩:=e;have Hn2:=Lib.hid (Hn.out rfl);clear Hn Hs;go_wp2
     refine aP ((.take 0 (.take 1 (.take 2 (.take 3 (.take 4 (.take 5 (.take 6 (.take 7 (.take 8 .nil)))))))))) (fun hHd=> ?_) (hQ:=by intro _ _ _ _ _ h;exact h)
     repeat' first|((with_reducible refine aX ?_);(first|(refine tk (v:= ?_) ?_ hHd ?_;rotate_left;(·(intro W' h;have:=StepC.mk h;first|with_reducible exact aJ)))|(refine tk (v:= ?_) ?_ hHd ?_;rotate_left;(·(intro wq hSw;go_simp;(try with_reducible rfl)))));(try simp only[pS]))|(with_reducible refine aF ?_)
     all_goals
      go_wp2
      go_roundw
      case rel=>exact⟨⟨ExtC.h⟩,k+1,lk,rfl,Hn2.out⟩
      case measure=>simp[RowKit.intOf];omega
    ·obtain rfl:=Hs.out (fun h=>by injection h with h1 h2;exact e ⟨h1,h2⟩)
     clear Hn Hs;have e':a1=b1→¬a2=b2:=fun h1 h2=>e ⟨h1,h2⟩
     by_cases e1:a1=b1
     ·have e2:=e' e1;subst e1;clear e e';go_wp2
      refine aP ((.take 0 (.take 1 (.take 2 (.take 3 (.take 4 (.take 5 (.take 6 (.take 7 (.take 8 .nil)))))))))) (fun hHd=> ?_) (hQ:=by intro _ _ _ _ _ h;exact h)
      repeat' first|((with_reducible refine aX ?_);(first|(refine tk (v:= ?_) ?_ hHd ?_;rotate_left;(·(intro W' h;have:=StepC.mk h;first|with_reducible exact aJ)))|(refine tk (v:= ?_) ?_ hHd ?_;rotate_left;(·(intro wq hSw;go_simp;(try with_reducible rfl)))));(try simp only[pS]))|(with_reducible refine aF ?_)
      all_goals
       go_wp2
       go_ret
       exact⟨rfl,⟨ExtC.h⟩⟩
     ·clear e e';go_wp2
      refine aP ((.take 0 (.take 1 (.take 2 (.take 3 (.take 4 (.take 5 (.take 6 (.take 7 (.take 8 .nil)))))))))) (fun hHd=> ?_) (hQ:=by intro _ _ _ _ _ h;exact h)
      repeat' first|((with_reducible refine aX ?_);(first|(refine tk (v:= ?_) ?_ hHd ?_;rotate_left;(·(intro W' h;have:=StepC.mk h;first|with_reducible exact aJ)))|(refine tk (v:= ?_) ?_ hHd ?_;rotate_left;(·(intro wq hSw;go_simp;(try with_reducible rfl)))));(try simp only[pS]))|(with_reducible refine aF ?_)
      all_goals
       go_wp2
       go_ret
       exact⟨rfl,⟨ExtC.h⟩⟩
   ·obtain rfl:k=l.length:=by omega
    obtain rfl:=HT.out fun j h1 h2=>Hz.out j h1 h1 h2
    go_wp2
    go_ret
    exact⟨rfl,⟨ExtC.h⟩⟩
 ·have hR:decide (l=m)=false:=decide_eq_false fun e=>hl (by rw[e])
  rw[hR];have q:((l.length:Int) !=(m.length:Int))=true:=by simp;omega
  clear hR hl;go_enter Tryz.func29,Tryz.ntmps29
  go_wp2
  all_goals(try(go_ret;refine⟨?_,⟨ExtC.h⟩⟩;first|rfl))
instance{W:World}{u v:Value}{l m:List Right}[h1:ListC Right W u l][h2:ListC Right W v m]:FunC Tryz.prog 29 #[u,v] W (RB W (decide (l=m))):=⟨Lg u v l m W h1.h h2.h⟩
end Go.Rg
end
