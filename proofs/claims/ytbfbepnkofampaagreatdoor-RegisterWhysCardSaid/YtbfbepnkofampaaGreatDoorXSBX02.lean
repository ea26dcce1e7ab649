/- The tied card of RegisterWhys is proved: for every input the law returns true, and each argument reads afterwards as it read before; condition: the listed package variables start as the text lays them (the card ties them). -/
import Derived.Test.YtbfbepnkofampaaGreatDoorXSBX01
set_option maxRecDepth 100000
set_option synthInstance.maxSize 2000
set_option synthInstance.maxHeartbeats 400000
set_option maxHeartbeats 8000000
set_option linter.all false
section
namespace Go.Rg
open Go Go.Bp Go.RowKit Go.Walk Go.Proofs
class RWrgE (r:Rules) (p:Person) (ds:List Drive) (l:outParam (List (Int×Int))) (n:outParam Int):Prop where h:r.wrongAns p ds=(l,n)
theorem zJ(r:Rules)(p:Person)(v pv dv:Value)(ds:List Drive)(l:List (Int×Int))(n:Int)(w:World)(h:RulesV w v r)(hp:PersonV w pv p)(hd:ListV w dv ds)(hs:r.wrongAns p ds=(l,n)):Calls Tryz.prog 33 #[v,pv,dv] w (RLI w l n):=by
 have i1:=RulesB.mk h;have i2:=PersonB.mk hp;obtain⟨A1,n1,c1,A2,c2,A3,c3,rfl,hn1,-⟩:=h.h;subst hn1;obtain⟨A,c,rfl,hl⟩:=hp.h;obtain⟨B,cb,rfl,q1,q2⟩:=hd.form;unfold maxLen at q2;have i3:=ListB.mk hd;unfold Rules.wrongAns at hs;by_cases hz:r.personErr p=0
 ·rw[if_neg (by simp[hz])] at hs
  have i4:=RPerE.mk hz;have i9:CntC r.sys:=kH (Rules.ok_of (Rules.person_ok hz).1).check;by_cases hlen:30<ds.length
  ·rw[if_pos hlen] at hs;injection hs with m1 m2
   subst m1 m2;clear hz;go_enter Tryz.func33,Tryz.ntmps33
   go_wp2_with (first|(with_reducible refine aA ?_)|(with_reducible refine aB ?_;first|rintro _ V ⟨rfl,(_:StepC _ _)⟩)|(with_reducible refine aH ?_;intro V g _ _ _))
   go_loopw [9,8] (fun iv ev wr=>StepC V wr∧∃k:Nat,k≤ds.length∧iv=.int .i64 k∧ev=.int .i64 3) (fun iv _ _=>ds.length-(RowKit.intOf iv).toNat)
   case atStart=>exact⟨⟨ExtC.h⟩,0,by omega,rfl,rfl⟩
   case round=>
    obtain⟨_,k,hk,rfl,rfl⟩:=hrel;by_cases lk:k<ds.length
    all_goals
     go_wp2
     go_ret2
     exact⟨none,0,rfl,⟨ListV.nil⟩,⟨ExtC.h⟩⟩
  ·rw[if_neg hlen] at hs;obtain⟨E,hE⟩:∃E,(firstE ds fun _ d=>r.driveErr p d).2=E:=⟨_,rfl⟩
   rw[hE] at hs;have HA:=Lib.hid (show∀k(hk:k<ds.length),(∀j(hj:j<ds.length),j<k→r.driveErr p ds[j]=0)→r.driveErr p ds[k]≠0→r.driveErr p ds[k]=E from fun k hk hj hn=>by
    rw[←hE,cN hk hn (fun j hj2=>hj j (by omega) hj2)])
   have HN:=Lib.hid (show(∀j(hj:j<ds.length),r.driveErr p ds[j]=0)→E=0 from fun hj=>by rw[←hE,bU hj])
   have HZ:=Lib.hid hz;have HL0:=Lib.hid (show E≠0→([],E)=(l,n) from fun h=>by rw[←hs,if_pos h])
   have HL1:=Lib.hid (show E=0→(wrR r p ds ds.length,(0:Int))=(l,n) from fun h=>by rw[←hs,if_neg (by simp[h]),Lt])
   clear hz hE hs;go_enter Tryz.func33,Tryz.ntmps33
   go_wp2_with (first|(with_reducible refine aA ?_)|(with_reducible refine aB ?_;first|rintro _ V ⟨rfl,(_:StepC _ _)⟩)|(with_reducible refine aH ?_;intro V g _ _ _))
   go_loopw [9,8] (fun iv ev wr=>StepC V wr∧∃(k:Nat)(x:Int),k≤ds.length∧iv=.int .i64 k∧ev=.int .i64 x∧(x≠0→x=E)∧(x=0→∀j(hj:j<ds.length),j<k→r.driveErr p ds[j]=0)) (fun iv _ _=>ds.length-(RowKit.intOf iv).toNat)
   case atStart=>exact⟨⟨ExtC.h⟩,0,0,by omega,rfl,rfl,fun h=>absurd rfl h,fun _ j _ hj=>by omega⟩
   case round=>
    obtain⟨_,k,x,hk,rfl,rfl,h3,h4⟩:=hrel;have H3:=Lib.hid h3;have H4:=Lib.hid h4;clear h3 h4;by_cases hx:x=0
    ·subst hx;by_cases lk:k<ds.length
     ·obtain⟨ad,rfl,ha⟩:=hd.elem lk;have h6:=H4.out rfl;obtain⟨e9,h9⟩:∃x,r.driveErr p ds[k]=x:=⟨_,rfl⟩;have Hr:=Lib.hid (show e9≠0→e9=E from fun h=>by rw[←h9] at h⊢;exact HA.out k lk h6 h)
      have Hn:=Lib.hid (show e9=0→∀j(hj:j<ds.length),j<k+1→r.driveErr p ds[j]=0 from fun h j hj hj2=>by
       by_cases hjk:j=k
       ·subst hjk;rw[h9];exact h
       ·exact h6 j hj (by omega))
      obtain⟨⟨xd,xc,xf⟩,hev⟩:∃x,ds[k]=x:=⟨_,rfl⟩;rw[hev] at ha h9;have j6:CellsB w (ad.add (k*3)) [.int .i64 xd,.int .i64 xc,.int .i64 xf]:=⟨ha⟩;have j7:=RDrvE.mk h9;have zk:IntKind.i64.wrap ((k:Int)+1)=(k:Int)+1:=IntWalk.i64_in _ (by omega)
      clear h6 h9 hev ha H3 H4;go_wp2
      refine aP ((.take 0 (.take 1 (.take 2 (.take 3 (.take 4 (.take 5 (.one 6 (.take 7 .nil))))))))) (fun hHd=> ?_) (hQ:=by intro _ _ _ _ _ h;exact h)
      repeat' first|((first|with_reducible refine bY ?_|with_reducible refine kW ?_|(with_reducible refine cJ (v:= ?_) ?_ ?_;rotate_left;(·(intro W' h;have:=StepC.mk h;infer_instance)))|(with_reducible refine bX (v:= ?_) ?_ ?_;rotate_left;(·(intro W' h;have:=StepC.mk h;first|(simp only[execOp,eS];go_simp;(try with_reducible rfl))))));(try dsimp only[sS0,sS1]))|(with_reducible refine eT hHd ?_)|((with_reducible refine bC ?_);refine aQ (by simp only[gS];rfl) ?_)|((first|with_reducible refine aN ?_);first|(rintro _ V ⟨rfl,(_:StepC _ _)⟩;refine⟨_,rfl,?_⟩))|((with_reducible refine bD ?_);clear hHd;refine aM ExtC.h (fun hHd=> ?_);(try simp only[pS]))|(with_reducible refine aF ?_)
      all_goals
       go_wp2
       exact⟨⟨⟨ExtC.h⟩,k+1,e9,lk,by push_cast;rfl,rfl,Hr.out,Hn.out⟩,by simp[RowKit.intOf];omega⟩
     ·obtain rfl:k=ds.length:=by omega
      have hall:=H4.out rfl;have hE0:=HN.out fun j hj=>hall j hj hj
      have hL:=HL1.out hE0;injection hL with m1 m2
      have HW:=Lib.hid m1;have Hall:=Lib.hid (fun j(hj:j<ds.length)=>hall j hj hj)
      subst m2;obtain⟨W2,rfl⟩:∃W2,W2=wr:=⟨wr,rfl⟩;clear H3 H4 hall hE0 m1;go_wp2
      go_loopw [11,10] (fun iv ov wr=>StepC W2 wr∧∃(k:Nat)(o:List (Int×Int))(A4:Option Addr)(c4:Nat),k≤ds.length∧iv=.int .i64 k∧o=wrR r p ds k∧ov=.slice A4 o.length c4∧RowC wr (.slice A4 o.length c4) W2 97 2 o.length (encL o)∧o.length≤k) (fun iv _ _=>ds.length-(RowKit.intOf iv).toNat)
      case atStart=>exact⟨⟨Ext.refl _⟩,0,[],none,0,by omega,rfl,by simp[wrR],rfl,RowC.nil,by simp⟩
      case round=>
       obtain⟨_,k,o,A4,c4,hk2,rfl,ho,rfl,hR,hol⟩:=hrel;by_cases lk2:k<ds.length
       ·obtain⟨ad,rfl,ha⟩:=hd.elem lk2;have hde:=Hall.out k lk2;obtain⟨⟨xd,xc,xf⟩,hev⟩:∃x,ds[k]=x:=⟨_,rfl⟩;rw[hev] at ha hde;obtain⟨m,hm⟩:∃m,r.whyL p.born (sortE p.events) ⟨xd,xc,xf⟩=m:=⟨_,rfl⟩;have hsu:=Gv r p ds lk2 hev hm;rw[←ho] at hsu;have j6:CellsB w (ad.add (k*3)) [.int .i64 xd,.int .i64 xc,.int .i64 xf]:=⟨ha⟩;have j7:RWhyE r p ⟨xd,xc,xf⟩ m:=⟨HZ.out,hde,hm⟩;have zk:IntKind.i64.wrap ((k:Int)+1)=(k:Int)+1:=IntWalk.i64_in _ (by omega)
        have Hsu:=Lib.hid hsu;clear ha hde hev hm hsu ho;by_cases hm0:m=0
        ·subst hm0;have Hn:=Lib.hid (Hsu.out.trans (if_pos rfl));go_wp2
         refine aP ((.take 0 (.take 1 (.take 2 (.take 3 (.take 4 (.take 5 (.one 6 (.take 7 .nil))))))))) (fun hHd=> ?_) (hQ:=by intro _ _ _ _ _ h;exact h)
         repeat' first|((first|with_reducible refine bY ?_|with_reducible refine kW ?_|(with_reducible refine cJ (v:= ?_) ?_ ?_;rotate_left;(·(intro W' h;have:=StepC.mk h;infer_instance)))|(with_reducible refine bX (v:= ?_) ?_ ?_;rotate_left;(·(intro W' h;have:=StepC.mk h;first|(simp only[execOp,eS];go_simp;(try with_reducible rfl))))));(try dsimp only[sS0,sS1]))|(with_reducible refine eT hHd ?_)|((with_reducible refine bC ?_);refine aQ (by simp only[gS];rfl) ?_)|((first|with_reducible refine aN ?_);first|(rintro _ V ⟨rfl,(_:StepC _ _)⟩;refine⟨_,rfl,?_⟩))|((with_reducible refine bD ?_);clear hHd;refine aM ExtC.h (fun hHd=> ?_);(try simp only[pS]))|(with_reducible refine aF ?_)
         all_goals
          go_wp2
          go_roundw
          case rel=>exact⟨⟨ExtC.h⟩,k+1,o,A4,c4,lk2,by push_cast;rfl,Hn.out.symm,rfl,inferInstance,by omega⟩
          case measure=>simp[RowKit.intOf];omega
        ·have Hn:=Lib.hid (Hsu.out.trans (if_neg hm0));have q9:(m !=0)=true:=by simpa using hm0
         clear hm0;go_wp2
         refine aP ((.take 0 (.take 1 (.take 2 (.take 3 (.take 4 (.take 5 (.one 6 (.take 7 .nil))))))))) (fun hHd=> ?_) (hQ:=by intro _ _ _ _ _ h;exact h)
         repeat' first|((first|with_reducible refine bY ?_|with_reducible refine kW ?_|(with_reducible refine cJ (v:= ?_) ?_ ?_;rotate_left;(·(intro W' h;have:=StepC.mk h;infer_instance)))|(with_reducible refine bX (v:= ?_) ?_ ?_;rotate_left;(·(intro W' h;have:=StepC.mk h;first|(simp only[execOp,eS];go_simp;(try with_reducible rfl))))));(try dsimp only[sS0,sS1]))|(with_reducible refine eT hHd ?_)|((with_reducible refine bC ?_);refine aQ (by simp only[gS];rfl) ?_)|((first|with_reducible refine aN ?_);first|(rintro _ V ⟨rfl,(_:StepC _ _)⟩;refine⟨_,rfl,?_⟩))|((with_reducible refine bD ?_);clear hHd;refine aM ExtC.h (fun hHd=> ?_);(try simp only[pS]))|(with_reducible refine aF ?_)
         all_goals
          go_wp2_with (first|(with_reducible refine bR ?_;intro A9 c9 Va hR9 hG9)|(first|(with_reducible refine aD ?_;intro V g _ _ _)))
          go_roundw
          case rel=>
           obtain⟨A8,c8,e8,h8⟩:=cV Hn.out hR9;exact⟨⟨ExtC.h⟩,k+1,_,A8,c8,lk2,by push_cast;rfl,rfl,e8,h8,by rw[Hn.out];simp;omega⟩
          case measure=>simp[RowKit.intOf];omega
       ·obtain rfl:k=ds.length:=by omega
        rw[HW.out] at ho;subst ho;go_wp2
        go_ret2
        exact⟨A4,c4,rfl,⟨(inferInstance:RowC _ (.slice A4 o.length c4) W2 97 2 _ _).list rfl rfl rfl⟩,⟨ExtC.h⟩⟩
    ·obtain rfl:=H3.out hx;have hL:=HL0.out hx;injection hL with m1 m2
     subst m1 m2;have q9:(x==0)=false:=by simpa using hx
     have q8:(x !=0)=true:=by simpa using hx
     clear hx;by_cases lk:k<ds.length
     all_goals
      go_wp2
      go_ret2
      exact⟨none,0,rfl,⟨ListV.nil⟩,⟨ExtC.h⟩⟩
 ·rw[if_pos hz] at hs;injection hs with m1 m2
  subst m1 m2;obtain⟨er,her⟩:∃e,r.personErr p=e:=⟨_,rfl⟩;have i4:=RPerE.mk her;rw[her] at hz⊢;have q:(er !=0)=true:=by simpa using hz
  have q0:(er==0)=false:=by simpa using hz
  clear hz her;go_enter Tryz.func33,Tryz.ntmps33
  go_wp2_with (first|(with_reducible refine aA ?_)|(with_reducible refine aB ?_;first|rintro _ V ⟨rfl,(_:StepC _ _)⟩)|(with_reducible refine aH ?_;intro V g _ _ _))
  go_loopw [9,8] (fun iv ev wr=>StepC V wr∧∃k:Nat,k≤ds.length∧iv=.int .i64 k∧ev=.int .i64 er) (fun iv _ _=>ds.length-(RowKit.intOf iv).toNat)
  case atStart=>exact⟨⟨ExtC.h⟩,0,by omega,rfl,rfl⟩
  case round=>
   obtain⟨_,k,hk,rfl,rfl⟩:=hrel;by_cases lk:k<ds.length
   all_goals
    go_wp2
    go_ret2
    exact⟨none,0,rfl,⟨ListV.nil⟩,⟨ExtC.h⟩⟩
instance qRSs14{W:World}{v pv dv:Value}{r:Rules}{p:Person}{ds:List Drive}{l:List (Int×Int)}{n:Int}[h:RulesC W v r][hp:PersonC W pv p][hd:ListC Drive W dv ds][q:RWrgE r p ds l n]:FunC Tryz.prog 33 #[v,pv,dv] W (RLI W l n):=⟨zJ r p v pv dv ds l n W h.h hp.h hd.h q.h⟩
theorem LWhys(r:Rules)(p:Person)(v pv dv:Value)(ds:List Drive)(w:World)(h:RulesV w v r)(hp:PersonV w pv p)(hd:ListV w dv ds)(hv:EnvC w):
 Calls Tryz.prog 5 #[v,pv,dv] w (RB w true):=by
 have i1:=RulesB.mk h;have i2:=PersonB.mk hp;have i0:=EnvB.mk hv.h;obtain⟨A1,n1,c1,A2,c2,A3,c3,rfl,hn,-⟩:=h.h;subst hn;obtain⟨A,c,rfl,hl⟩:=hp.h;obtain⟨B,cb,rfl,q1,q2⟩:=hd.form;unfold maxLen at q2;have i3:=ListB.mk hd;obtain⟨⟨wl,wn⟩,hw⟩:∃x,r.wrongAns p ds=x:=⟨_,rfl⟩;obtain⟨⟨il,iN⟩,hi⟩:∃x,r.impostorsAns p=x:=⟨_,rfl⟩;have j1:=WrongE.mk hw;have j2:=RWrgE.mk hw;have j3:=ImpE.mk hi;have j4:=RImpE.mk hi;clear hw hi hl;go_enter Tryz.func5,Tryz.ntmps5
 go_wp2_with (first|(with_reducible refine aH ?_;intro V g _ _ _))
 go_loopw [7] (fun iv wr=>StepC V wr∧∃k:Nat,k≤ds.length∧k≤3∧iv=.int .i64 k) (fun iv _=>ds.length-(RowKit.intOf iv).toNat)
 case atStart=>exact⟨⟨ExtC.h⟩,0,by omega,by omega,rfl⟩
 case round=>
  obtain⟨_,k,hk,hk3,rfl⟩:=hrel;by_cases lk:k<ds.length∧k<3
  ·obtain⟨lk1,lk2⟩:=lk;obtain⟨ad,rfl,ha⟩:=hd.elem lk1;obtain⟨⟨xd,xc,xf⟩,hx⟩:∃x,ds[k]=x:=⟨_,rfl⟩;rw[hx] at ha;obtain⟨⟨m,n⟩,hm⟩:∃x,r.whyAns p ⟨xd,xc,xf⟩=x:=⟨_,rfl⟩;have j6:CellsB w (ad.add (k*3)) [.int .i64 xd,.int .i64 xc,.int .i64 xf]:=⟨ha⟩;have j7:=WhyAE.mk hm;have j8:=RWhyAE.mk hm;have zk:IntKind.i64.wrap ((k:Int)+1)=(k:Int)+1:=IntWalk.i64_in _ (by omega)
   clear ha hx hm;go_wp2
   refine aP ((.take 0 (.take 1 (.take 2 (.take 3 (.take 4 (.take 5 (.one 6 (.take 7 (.take 8 (.take 9 (.take 10 (.take 11 .nil))))))))))))) (fun hHd=> ?_) (hQ:=by intro _ _ _ _ _ h;exact h)
   repeat' first|((first|with_reducible refine bY ?_|with_reducible refine kW ?_|(with_reducible refine cJ (v:= ?_) ?_ ?_;rotate_left;(·(intro W' h;have:=StepC.mk h;infer_instance)))|(with_reducible refine bX (v:= ?_) ?_ ?_;rotate_left;(·(intro W' h;have:=StepC.mk h;first|(simp only[execOp,eS];go_simp;(try with_reducible rfl))))));(try dsimp only[sS0,sS1]))|(with_reducible refine eT hHd ?_)|((with_reducible refine bC ?_);refine aQ (by simp only[gS];rfl) ?_)|((first|with_reducible refine aN ?_);first|(rintro _ V ⟨rfl,(_:StepC _ _)⟩;refine⟨_,rfl,?_⟩))|((with_reducible refine bD ?_);clear hHd;refine aM ExtC.h (fun hHd=> ?_);(try simp only[pS]))|(with_reducible refine aF ?_)
   all_goals
    go_wp2
    refine aP ((.take 0 (.take 1 (.take 2 (.take 3 (.take 4 (.take 5 (.one 6 (.take 7 (.take 8 (.take 9 (.take 10 (.take 11 .nil))))))))))))) (fun hHd=> ?_) (hQ:=by intro _ _ _ _ _ h;exact h)
    repeat' first|((first|with_reducible refine bY ?_|with_reducible refine kW ?_|(with_reducible refine cJ (v:= ?_) ?_ ?_;rotate_left;(·(intro W' h;have:=StepC.mk h;infer_instance)))|(with_reducible refine bX (v:= ?_) ?_ ?_;rotate_left;(·(intro W' h;have:=StepC.mk h;first|(simp only[execOp,eS];go_simp;(try with_reducible rfl))))));(try dsimp only[sS0,sS1]))|(with_reducible refine eT hHd ?_)|((with_reducible refine bC ?_);refine aQ (by simp only[gS];rfl) ?_)|((first|with_reducible refine aN ?_);first|(rintro _ V ⟨rfl,(_:StepC _ _)⟩;refine⟨_,rfl,?_⟩))|((with_reducible refine bD ?_);clear hHd;refine aM ExtC.h (fun hHd=> ?_);(try simp only[pS]))|(with_reducible refine aF ?_)
    all_goals
     go_wp2
     go_roundw
     case rel=>exact⟨⟨ExtC.h⟩,k+1,by omega,by omega,by push_cast;rfl⟩
     case measure=>simp[RowKit.intOf];omega
  ·have hk':¬k<ds.length∨¬k<3:=by omega
   clear lk;rcases hk' with hk'|hk'
   all_goals
    go_wp2_with (first|(with_reducible refine aB ?_;first|(rintro _ Vp ⟨Ap,cp,rfl,(_:ListB (Int×Int) _ _ _),(_:StepC _ _)⟩))|((first|with_reducible refine aB ?_);rintro _ V ⟨rfl,(_:StepC _ _)⟩;(try simp only[eq_self,decide_true]))|(first|(with_reducible refine aA ?_)))
   all_goals
    go_ret
    exact⟨rfl,⟨ExtC.h⟩⟩
end Go.Rg
end
section
namespace Go.Proofs.YtbfbepnkofampaaGreatDoor
open Go Go.Bp Go.Rg Go.Walk Go.RowKit Go.Proofs Go.ChangeShapes Go.WideShapes Go.ChangeAt
theorem lifted5(os:Os)(started:os.Started)(H:Type)(enc:TypeId×Value→H):
 ReturnsInHanded {} Tryz.checked os 5 .any (fun w args=>(Go.Proofs.YtbfbepnkofampaaGreatDoor.Rows.registerWhysSpec.pre enc Tryz.prog Tryz.f5 [] false w args∧laidMetH Tryz.prog listed w)∧sizedMet enc Tryz.prog Tryz.f5 (OpenSpec.ofChange Go.Proofs.YtbfbepnkofampaaGreatDoor.Rows.registerWhysSpec) false w args)
  (Go.Proofs.YtbfbepnkofampaaGreatDoor.Rows.registerWhysSpec.post enc Tryz.prog Tryz.f5 false true false false):=by
 refine kZ (C:=Tryz.checked) (X:=fun w _=>laidMetH Tryz.prog listed w) (fun _ _ _ hh h=>h.of_heap hh) own_knob started (by kernel_rfl) Tryz.func5
  (ChangeSpec.witness_shaped (enc:=enc) (C:=Tryz.checked) (os:=os) (X:=fun w _=>laidMetH Tryz.prog listed w) false (World.laidAll Tryz.prog os listed) #[.agg #[.slice none 0 0,.slice none 0 0,.slice none 0 0,.int .i64 0,.int .i64 0,.int .i64 0],.agg #[.int .i64 0,.slice none 0 0],.slice none 0 0] 8 (World.laidAll_os _ _ _)
   (World.shaped_of_ZipB (by kernel_rfl) (by kernel_rfl)) (by kernel_rfl) (by kernel_rfl) (by kernel_rfl) (by rw[MakeChecks.laidMetH_plain _ _ _ (by kernel_rfl)];exact laidMet_laidAll _ (by kernel_rfl) (by kernel_rfl))) ?_
 intro W base args ds gs before hval0 hW hL hSh hZ;have hval:∀(j:Nat)t v,Tryz.f5.params[j]? =some t→args[j]? =some v→Value.okWide Tryz.prog W .any base t v:=hval0;have hW':=hW;obtain⟨p,q,hA0,hV,rfl,_,_⟩:=hW;have hA:DataW.TrodAll enc Tryz.prog W 0 (fun _=>true) true Tryz.f5.params.toList args.toList ds p:=hA0
 rw[Tryz.params5] at hA hval;obtain⟨v0,v1,v2,d0,d1,d2,p0,p1,p2,rfl,rfl,rfl,h0,h1,h2⟩:=trodAll_three hA;obtain⟨rfl,rfl⟩:=trodVars_none hV;have k0:=h0;have k1:=h1;have k2:=h2;obtain⟨x0,hx0⟩:=tF (hval 0 28 v0 rfl rfl) h0;obtain⟨x1,hx1⟩:=rJ (hval 1 31 v1 rfl rfl) h1;obtain⟨x2,hx2⟩:=Bo (hval 2 53 v2 rfl rfl) h2;have lt0:∀x∈p0,x.block<W.heap.size:=fun x hx=>hW'.lt x (by simp[hx])
 have lt1:∀x∈p1,x.block<W.heap.size:=fun x hx=>hW'.lt x (by simp[hx])
 have lt2:∀x∈p2,x.block<W.heap.size:=fun x hx=>hW'.lt x (by simp[hx])
 refine(LWhys x0 x1 _ _ _ x2 W hx0 hx1 hx2 ⟨Ki hL hSh⟩).mono fun e W' ⟨he,⟨hb⟩⟩=> ?_
 subst he;exact⟨_,rfl,_,_,_,[],_,[],hW',trodAll_mk1 (shut_bool Tryz.underlying4 _),trodAll_mk3 (Below.trod laid_out (by kernel_rfl) (of_decide_eq_true (by kernel_rfl)) k0 hb lt0) (Below.trod laid_out (by kernel_rfl) (of_decide_eq_true (by kernel_rfl)) k1 hb lt1) (Below.trod laid_out (by kernel_rfl) (of_decide_eq_true (by kernel_rfl)) k2 hb lt2),rfl,hb.frame _,fun h=>by cases h⟩
theorem holds5:Go.Proofs.YtbfbepnkofampaaGreatDoor.Rows.RegisterWhysSaid:=
 OpenClaim.holds_of_wide 5 Tryz.f5 rfl rfl rfl rfl rfl rfl rfl ⟨rfl,rfl,rfl,rfl,rfl⟩ rfl rfl rfl rfl rfl (by kernel_rfl) Tryz.func5 closed5
  (of_decide_eq_true (by kernel_rfl)) (by unfold Func.isWrapper;first|(rw[if_pos (by decide +kernel)];kernel_rfl)|(rw[if_neg (by decide +kernel)];exact⟨rfl,rfl⟩))
  (fun os started H enc _=>lifted5 os started H enc)
theorem registerWhys_holds:Go.Proofs.YtbfbepnkofampaaGreatDoor.Rows.RegisterWhysCardSaid:=
 Claim7.holds_tied_plain_at .later [] [.data,.data,.data,.data,.sentinel,.sentinel,.pinned] true (true,"4970e1223911c70aa7bcdc0bdc6bbce8f6a3c11b3c24a4250f4776a5114b5b9d") true
  holds5 (fun _ h=>by cases h) wf5 (fun _ h=>by cases h) Go.Proofs.YtbfbepnkofampaaGreatDoor.registerWhys_row_tie rfl ⟨rfl,rfl⟩ mainP rfl
  (fun f fn hf hfn=>by
   obtain rfl:f=5:=Option.some.inj (fm5.symm.trans hf) |>.symm
   obtain rfl:fn=Tryz.f5:=(Option.some.inj (Tryz.func5.symm.trans hfn)).symm;exact⟨looksP,fun j t ht=>by
    rw[Tryz.params5] at ht;have hm:t∈([28,31,53]:List TypeId):=by simpa using Array.mem_of_getElem? ht
    have hall:(([28,31,53]:List TypeId).all fun u=> !Tryz.prog.wantsStandIn u)=true:=by kernel_rfl
    exact(show Tryz.prog.wantsStandIn t=false by simpa using List.all_eq_true.1 hall t hm)⟩)
  gs5
#print axioms registerWhys_holds
end Go.Proofs.YtbfbepnkofampaaGreatDoor
end
