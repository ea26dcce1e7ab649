import Derived.Test.YtbfbepnkofampaaGreatDoorXPX12
import Derived.Test.YtbfbepnkofampaaGreatDoorXPX18
import Derived.Test.YtbfbepnkofampaaGreatDoorXSA02
set_option maxRecDepth 100000
set_option synthInstance.maxSize 2000
set_option synthInstance.maxHeartbeats 400000
set_option maxHeartbeats 8000000
set_option linter.all false
section
namespace Go.Proofs.YtbfbepnkofampaaGreatDoor
open Go Go.Bp Go.Rg Go.Walk Go.RowKit Go.Proofs Go.ChangeShapes Go.WideShapes Go.ChangeAt
theorem ip4:(Rows.registerPointsRow.inPlace==Tryz.pinned.checked.prog.inPlace 4)=true:=by kernel_rfl
theorem uf4:(Rows.registerPointsRow.unfollowed==Tryz.pinned.checked.prog.unfollowed 4)=true:=by kernel_rfl
theorem rc4:(Rows.registerPointsRow.recurses==Tryz.pinned.checked.prog.recurses 4)=true:=by kernel_rfl
theorem wf4:Rows.registerPointsRow.wfByText (OpenSpec.ofChange Rows.registerPointsSpec)=true:=by kernel_rfl
theorem gs4:false=Rows.registerPointsRow.goesBy Tryz.pinned.checked.prog:=by kernel_rfl
theorem fm4:Tryz.prog.funcNamed Rows.registerPointsRow.func=some 4:=by kernel_rfl
theorem closed4:joinedFacts Tryz.pinned.checked.prog 4 Tryz.f4 Rows.registerPointsSpec Rows.registerPointsRow=true:=by
 unfold joinedFacts;rw[ip4,uf4,rc4,nm4,loP,mrP,meP,shP,show(Rows.registerPointsRow.lifted==Tryz.pinned.checked.prog.liftsFinal)=true from liP,show(Tryz.pinned.checked.prog.make==some Rows.registerPointsRow.make)=true from mkP]
 kernel_rfl
end Go.Proofs.YtbfbepnkofampaaGreatDoor
end
section
namespace Go.Rg
open Go Go.Bp Go.RowKit Go.Walk Go.Proofs
class RPntE (r:Rules) (p:Person) (day:Int) (s:outParam Points) (n:outParam Int):Prop where h:r.pointsAns p day=(s,n)
theorem wE(r:Rules)(p:Person)(v pv:Value)(day:Int)(s:Points)(n:Int)(w:World)(h:RulesV w v r)(hp:PersonV w pv p)(hs:r.pointsAns p day=(s,n)):Calls Tryz.prog 26 #[v,pv,.int .i64 day] w (RPts w s n):=by
 have i1:=RulesB.mk h;have i2:=PersonB.mk hp;obtain⟨A1,n1,c1,A2,c2,A3,c3,rfl,hn1,-⟩:=h.h;subst hn1;obtain⟨A,c,rfl,hl⟩:=hp.h;have i3:=ListB.mk hl;unfold Rules.pointsAns at hs;by_cases hz:r.personErr p=0
 ·rw[if_neg (by simp[hz])] at hs
  have i4:=RPerE.mk hz;obtain⟨b1,h1⟩:∃x,inB day 0 40000=x:=⟨_,rfl⟩;have j1:=InE.mk h1
  cases b1
  ·rw[if_pos h1] at hs;injection hs with m1 m2
   subst m1 m2;clear hz h1;go_enter Tryz.func26,Tryz.ntmps26
   go_wp2_with (first|(with_reducible refine aA ?_)|(with_reducible refine aB ?_;first|rintro _ V ⟨rfl,(_:StepC _ _)⟩)|(with_reducible refine aI ?_;intro V _ _)|(with_reducible refine aH ?_;intro V g _ _ _)|(with_reducible refine aR ?_;intro V g _ _ _))
   exact bM rfl rfl (by with_unfolding_all rfl) ⟨rfl,⟨ExtC.h⟩⟩
  ·rw[if_neg (by rw[h1];simp)] at hs
   injection hs with m1 m2
   have hdy:=inB_t.1 h1;have hlen:p.events.length≤30:=kM hz;have i5:LenC2 p.events:=⟨by omega⟩
   have hev:=Rules.evs_ok hz;have i6:EvsC r (sortE p.events):=⟨hev⟩;have htb:=Rules.taken_both hz;have hwh:=Rules.offs_when (r:=r) (l:=sortE p.events) (fun x hx=>(hev.d x hx).1)
   obtain⟨l,hle⟩:∃l,sortE p.events=l:=⟨_,rfl⟩;obtain⟨o,hoe⟩:∃o,r.offs l=o:=⟨_,rfl⟩;obtain⟨⟨ts,bs⟩,hte⟩:∃t,r.takenR l=t:=⟨_,rfl⟩;rw[hle] at htb hwh m1 hev;rw[hoe,hte] at htb;rw[hoe] at hwh;have HM:=Lib.hid (show s=⟨r.sumOf o day l 3,r.sumOf o day l 2,r.sumOf o day l 1⟩ from by rw[←m1];unfold Rules.pointsOf;rw[hoe])
   have Hev:=Lib.hid hev.d;have hl30:=hev.n;have Hts:=Lib.hid htb.2.2;have Htl:=Lib.hid htb.2.1;have Hwh:=Lib.hid hwh;have Hle:=Lib.hid hle;have Hte:=Lib.hid hte;subst m2;clear hz htb hwh hev m1 h1 hle hoe hte;go_enter Tryz.func26,Tryz.ntmps26
   go_wp2_with (first|(with_reducible refine aB ?_;rintro _ Vs ⟨As,cs,rfl,(_:RowC _ _ _ 80 _ _ _),(_:StepC _ _)⟩)|(with_reducible refine aB ?_;rintro _ Vt ⟨gt,At,ct,rfl,(_:BlkC _ _ _ _),(_:ListB Span _ _ _),(_:StepC _ _)⟩)|(with_reducible refine aR (d:=some 6) ?_;intro V6 g6 hE6 hB6 hA6)|(with_reducible refine aR (d:=some 12) ?_;intro V12 g12 hE12 hB12 hA12)|(first|(with_reducible refine aA ?_)|(with_reducible refine aB ?_;first|rintro _ V ⟨rfl,(_:StepC _ _)⟩)|(with_reducible refine aH ?_;intro V g _ _ _)))
   have hLs:ListV Vt (.slice As l.length cs) l:=by
    have:=(inferInstance:RowC Vt (.slice As (sortE p.events).length cs) _ 80 9 _ _).list (l:=sortE p.events) rfl rfl rfl;rwa [Hle.out] at this
   have hBt:Blk Vt gt 3 (encL ts).toArray:=by
    have:=(inferInstance:BlkC Vt gt 3 (encL (r.takenR (sortE p.events)).1)).h;rwa [Hle.out,Hte.out] at this
   simp only[Hle.out];have k1:=ListB.mk hLs;have k2:=BlkC.mk hBt;have hcp:=hLs.caps;have HM2:=Lib.hid (show∀j,r.sumOf o day (l.take 0) j=0 from fun j=>by simp[Rules.sumOf,sumL])
   go_loopw [13] (fun iv wr=>V12.grownBy wr (some g12)∧∃k:Nat,k≤l.length∧iv=.int .i64 k∧Blk wr g12 45 #[.int .i64 (r.sumOf o day (l.take k) 3),.int .i64 (r.sumOf o day (l.take k) 2),.int .i64 (r.sumOf o day (l.take k) 1)]) (fun iv _=>l.length-(RowKit.intOf iv).toNat)
   case atStart=>exact⟨grown_of_ext (Ext.refl _),0,by omega,rfl,by rw[HM2.out,HM2.out,HM2.out];exact hB12.h⟩
   case round=>
    obtain⟨hg1,k,hk,rfl,hB1⟩:=hrel;have hs1:StoreC V12 wr g12:=⟨hg1⟩;by_cases lk:k<l.length
    ·obtain⟨ad,rfl,ha⟩:=hLs.elem lk;have hbd:=fun n=>Rules.sumOf_bd (r:=r) (o:=o) (day:=day) (n:=n) (fun x hx=>(Hev.out x hx).2.2) k hk
     have hsu:=fun n=>Rules.sumOf_succ (r:=r) o l day lk n
     have hye:=Hts.out k lk;have hat:evAt l k=l[k]:=by unfold evAt;simp[List.getD,lk]
     rw[hat] at hye;have hst:=Rules.stands_R (r:=r) (day:=day) Hwh.out hye.symm;have hxp:=Hev.out _ (List.getElem_mem lk);obtain⟨y,hy⟩:∃y,ts.getD k 0=y:=⟨_,rfl⟩;rw[hy] at hst;have k3:GetI ts k y:=⟨by rw[Htl.out];exact lk,hy⟩
     obtain⟨⟨xk,xd,⟨xc,xo⟩,xt,xq,xp,xu,xm⟩,hx⟩:∃x,l[k]=x:=⟨_,rfl⟩;rw[hx] at ha hst hxp;simp only[hx] at hsu;simp only at hst hxp;have hd0:=hxp.1;have hd1:=hxp.2.1;have k4:CellsB Vt (ad.add (k*9)) [.int .i64 xk,.int .i64 xd,.int .i64 xc,.int .i64 xo,.int .i64 xt,.int .i64 xq,.int .i64 xp,.int .i64 xu,.int .i64 xm]:=⟨ha⟩;have b3:=hbd 3;have b2:=hbd 2;have b1:=hbd 1;obtain⟨s3,e3⟩:∃x,r.sumOf o day (l.take k) 3=x:=⟨_,rfl⟩;obtain⟨s2,e2⟩:∃x,r.sumOf o day (l.take k) 2=x:=⟨_,rfl⟩;obtain⟨s1,e1⟩:∃x,r.sumOf o day (l.take k) 1=x:=⟨_,rfl⟩;have u3:=hsu 3;have u2:=hsu 2;have u1:=hsu 1;rw[e3] at b3 u3 hB1;rw[e2] at b2 u2 hB1;rw[e1] at b1 u1 hB1;have k5:BlkC wr g12 45 [.int .i64 s3,.int .i64 s2,.int .i64 s1]:=⟨hB1⟩;have zk:IntKind.i64.wrap ((k:Int)+1)=(k:Int)+1:=IntWalk.i64_in _ (by omega)
     have z3:IntKind.i64.wrap (s3+xp)=s3+xp:=IntWalk.i64_in _ (by omega)
     have z2:IntKind.i64.wrap (s2+xp)=s2+xp:=IntWalk.i64_in _ (by omega)
     have z1:IntKind.i64.wrap (s1+xp)=s1+xp:=IntWalk.i64_in _ (by omega)
     have zd:IntKind.i64.wrap (day-xd)=day-xd:=IntWalk.i64_in _ (by omega)
     have U3:=Lib.hid u3;have U2:=Lib.hid u2;have U1:=Lib.hid u1;have HS:=Lib.hid hst;clear ha hsu hye hat hst hy hx hbd e3 e2 e1 u3 u2 u1 b3 b2 b1 hxp;obtain⟨hca,hChida⟩:∃f:Nat→Array Oper→Bool→Go.Code,f=Go.Code.region:=⟨_,rfl⟩;rw[show Go.Code.region 12=hca 12 by rw[hChida]]
     have HCha:=Lib.hid hChida;clear hChida;obtain⟨hcb,hChidb⟩:∃f:Nat→Array Oper→Bool→Go.Code,f=Go.Code.region:=⟨_,rfl⟩;rw[show Go.Code.region 13=hcb 13 by rw[hChidb]]
     have HChb:=Lib.hid hChidb;clear hChidb;by_cases c1:xk=3
     ·subst c1;by_cases c2:xd>day
      ·have E:=Lib.hid (HS.out.trans (if_pos (.inr c2)));go_wp2
       have hChida:=HCha.out;clear HCha;subst hChida;refine wp_region_lit ?_;repeat' first|((first|with_reducible refine bY ?_|with_reducible refine gB ?_|(with_reducible refine cJ (v:= ?_) ?_ ?_;rotate_left;(·(intro W' h;cases h;infer_instance)))|(with_reducible refine jJ (v:= ?_) ?_ ?_;rotate_left;(·(intro hq W' h;cases h;infer_instance)))|(with_reducible refine bX (v:= ?_) ?_ ?_;rotate_left;(·(intro W' h;cases h;first|(simp only[execOp,eS];go_simp;(try with_reducible rfl)))))|(with_reducible refine eI (v:= ?_) ?_ ?_;rotate_left;(·(intro hq W' h;cases h;simp only[execOp,eS,hq,mbT];(try(simp only[Bool.and_eq_true,Bool.not_eq_true'] at hq;simp only[hq,mbT,Bool.not_false]));go_simp;(try with_reducible rfl)))));(try dsimp only[sS0,sS1]))|(first|(with_reducible refine jU ?_;(try simp only[Bool.not_true,Bool.not_false])))|(with_reducible refine bO ?_)|(with_reducible refine dD ?_)
       go_wp2
       go_roundw
       case rel=>exact⟨hg1.ext' ExtC.h,k+1,lk,by push_cast;rfl,by rw[U3.out,U2.out,U1.out,E.out];exact(inferInstance:BlkC _ g12 45 [.int .i64 s3,.int .i64 s2,.int .i64 s1]).h⟩
       case measure=>simp[RowKit.intOf];omega
      ·by_cases c3:0≤y∧y≤day
       ·have E:=Lib.hid (HS.out.trans (by rw[if_neg (by rintro(h|h);exact h rfl;exact c2 h),if_pos c3]))
        have c4:=c3.1;have c5:=c3.2;clear c3;go_wp2
        have hChida:=HCha.out;clear HCha;subst hChida;refine wp_region_lit ?_;repeat' first|((first|with_reducible refine bY ?_|with_reducible refine gB ?_|(with_reducible refine cJ (v:= ?_) ?_ ?_;rotate_left;(·(intro W' h;cases h;infer_instance)))|(with_reducible refine jJ (v:= ?_) ?_ ?_;rotate_left;(·(intro hq W' h;cases h;infer_instance)))|(with_reducible refine bX (v:= ?_) ?_ ?_;rotate_left;(·(intro W' h;cases h;first|(simp only[execOp,eS];go_simp;(try with_reducible rfl)))))|(with_reducible refine eI (v:= ?_) ?_ ?_;rotate_left;(·(intro hq W' h;cases h;simp only[execOp,eS,hq,mbT];(try(simp only[Bool.and_eq_true,Bool.not_eq_true'] at hq;simp only[hq,mbT,Bool.not_false]));go_simp;(try with_reducible rfl)))));(try dsimp only[sS0,sS1]))|(first|(with_reducible refine jU ?_;(try simp only[Bool.not_true,Bool.not_false])))|(with_reducible refine bO ?_)|(with_reducible refine dD ?_)
        go_wp2
        have hChidb:=HChb.out;clear HChb;subst hChidb;refine wp_region_lit ?_;repeat' first|((first|with_reducible refine bY ?_|with_reducible refine iV ?_|with_reducible refine gB ?_|(with_reducible refine cJ (v:= ?_) ?_ ?_;rotate_left;(·(intro W' h;cases h;infer_instance)))|(with_reducible refine jJ (v:= ?_) ?_ ?_;rotate_left;(·(intro hq W' h;cases h;infer_instance)))|(with_reducible refine bX (v:= ?_) ?_ ?_;rotate_left;(·(intro W' h;cases h;first|(simp only[execOp,eS];go_simp;(try with_reducible rfl)))))|(with_reducible refine eI (v:= ?_) ?_ ?_;rotate_left;(·(intro hq W' h;cases h;simp only[execOp,eS,hq,mbT];(try(simp only[Bool.and_eq_true,Bool.not_eq_true'] at hq;simp only[hq,mbT,Bool.not_false]));go_simp;(try with_reducible rfl)))));(try dsimp only[sS0,sS1]))|(first|(with_reducible refine dI ?_))|(with_reducible refine bO ?_)|(with_reducible refine dD ?_)
        go_wp2
        refine dA ((.take 0 (.take 2 (.take 3 (.take 4 (.take 5 (.take 6 (.one 1 (.take 7 (.take 8 (.one 9 .nil))))))))))) (fun w'=>Ext Vt w') ?_ (fun hHd=> ?_) (hQ:=by intro _ _ _ _ _ h;exact h)
        ·exact ExtC.h
        repeat' first|((with_reducible refine aX ?_);(first|(refine tk (v:= ?_) ?_ hHd ?_;rotate_left;(·(intro W' h;have:=StepC.mk h;first|with_reducible exact aJ)))|(refine tk (v:= ?_) ?_ hHd ?_;rotate_left;(·(intro wq hSw;go_simp;(try with_reducible rfl)))));(try simp only[pS]))|((with_reducible refine bC ?_);refine aQ (by simp only[gS];rfl) ?_)|(with_reducible refine aA ?_)|(with_reducible refine aI ?_;intro Vs hS hSB)|((with_reducible refine bD ?_);clear hHd;refine aM ExtC.h (fun hHd=> ?_);(try simp only[pS]))|(with_reducible refine aF ?_)
        all_goals
         go_wp2
         go_roundw
         case rel=>exact⟨bN (hg1.ext' ExtC.h) hS.h,k+1,lk,by push_cast;rfl,by rw[U3.out,U2.out,U1.out,E.out];exact(inferInstance:BlkC _ g12 45 [.int .i64 (s3),.int .i64 (s2),.int .i64 (s1+xp)]).h⟩
         case measure=>simp[RowKit.intOf];omega
       ·by_cases c6:r.fall≤day-xd
        ·have E:=Lib.hid (HS.out.trans (by rw[if_neg (by rintro(h|h);exact h rfl;exact c2 h),if_neg c3,if_pos c6]))
         by_cases c4:y≥0
         all_goals
          go_wp2
          have hChida:=HCha.out;clear HCha;subst hChida;refine wp_region_lit ?_;repeat' first|((first|with_reducible refine bY ?_|with_reducible refine gB ?_|(with_reducible refine cJ (v:= ?_) ?_ ?_;rotate_left;(·(intro W' h;cases h;infer_instance)))|(with_reducible refine jJ (v:= ?_) ?_ ?_;rotate_left;(·(intro hq W' h;cases h;infer_instance)))|(with_reducible refine bX (v:= ?_) ?_ ?_;rotate_left;(·(intro W' h;cases h;first|(simp only[execOp,eS];go_simp;(try with_reducible rfl)))))|(with_reducible refine eI (v:= ?_) ?_ ?_;rotate_left;(·(intro hq W' h;cases h;simp only[execOp,eS,hq,mbT];(try(simp only[Bool.and_eq_true,Bool.not_eq_true'] at hq;simp only[hq,mbT,Bool.not_false]));go_simp;(try with_reducible rfl)))));(try dsimp only[sS0,sS1]))|(first|(with_reducible refine jU ?_;(try simp only[Bool.not_true,Bool.not_false])))|(with_reducible refine bO ?_)|(with_reducible refine dD ?_)
          go_wp2
          have hChidb:=HChb.out;clear HChb;subst hChidb;refine wp_region_lit ?_;repeat' first|((first|with_reducible refine bY ?_|with_reducible refine iV ?_|with_reducible refine gB ?_|(with_reducible refine cJ (v:= ?_) ?_ ?_;rotate_left;(·(intro W' h;cases h;infer_instance)))|(with_reducible refine jJ (v:= ?_) ?_ ?_;rotate_left;(·(intro hq W' h;cases h;infer_instance)))|(with_reducible refine bX (v:= ?_) ?_ ?_;rotate_left;(·(intro W' h;cases h;first|(simp only[execOp,eS];go_simp;(try with_reducible rfl)))))|(with_reducible refine eI (v:= ?_) ?_ ?_;rotate_left;(·(intro hq W' h;cases h;simp only[execOp,eS,hq,mbT];(try(simp only[Bool.and_eq_true,Bool.not_eq_true'] at hq;simp only[hq,mbT,Bool.not_false]));go_simp;(try with_reducible rfl)))));(try dsimp only[sS0,sS1]))|(first|(with_reducible refine dI ?_))|(with_reducible refine bO ?_)|(with_reducible refine dD ?_)
          go_wp2
          refine aP ((.take 0 (.take 1 (.take 2 (.take 3 (.take 4 (.take 5 (.take 6 (.take 7 (.take 8 (.take 9 .nil))))))))))) (fun hHd=> ?_) (hQ:=by intro _ _ _ _ _ h;exact h)
          repeat' first|((first|with_reducible refine bY ?_|(with_reducible refine cJ (v:= ?_) ?_ ?_;rotate_left;(·(intro W' h;have:=StepC.mk h;infer_instance)))|(with_reducible refine bX (v:= ?_) ?_ ?_;rotate_left;(·(intro W' h;have:=StepC.mk h;first|(simp only[execOp,eS];go_simp;(try with_reducible rfl))))));(try dsimp only[sS0,sS1]))|(with_reducible refine eT hHd ?_)|(with_reducible refine aF ?_)
          go_wp2
          refine dA ((.take 0 (.take 2 (.take 3 (.take 4 (.take 5 (.take 6 (.one 1 (.take 7 (.take 8 (.one 9 .nil))))))))))) (fun w'=>Ext Vt w') ?_ (fun hHd=> ?_) (hQ:=by intro _ _ _ _ _ h;exact h)
          ·exact ExtC.h
          repeat' first|((with_reducible refine aX ?_);(first|(refine tk (v:= ?_) ?_ hHd ?_;rotate_left;(·(intro W' h;have:=StepC.mk h;first|with_reducible exact aJ)))|(refine tk (v:= ?_) ?_ hHd ?_;rotate_left;(·(intro wq hSw;go_simp;(try with_reducible rfl)))));(try simp only[pS]))|((with_reducible refine bC ?_);refine aQ (by simp only[gS];rfl) ?_)|(with_reducible refine aA ?_)|(with_reducible refine aI ?_;intro Vs hS hSB)|((with_reducible refine bD ?_);clear hHd;refine aM ExtC.h (fun hHd=> ?_);(try simp only[pS]))|(with_reducible refine aF ?_)
          all_goals
           go_wp2
           go_roundw
           case rel=>exact⟨bN (hg1.ext' ExtC.h) hS.h,k+1,lk,by push_cast;rfl,by rw[U3.out,U2.out,U1.out,E.out];exact(inferInstance:BlkC _ g12 45 [.int .i64 (s3),.int .i64 (s2+xp),.int .i64 (s1)]).h⟩
           case measure=>simp[RowKit.intOf];omega
        ·have E:=Lib.hid (HS.out.trans (by rw[if_neg (by rintro(h|h);exact h rfl;exact c2 h),if_neg c3,if_neg c6]))
         by_cases c4:y≥0
         all_goals
          go_wp2
          have hChida:=HCha.out;clear HCha;subst hChida;refine wp_region_lit ?_;repeat' first|((first|with_reducible refine bY ?_|with_reducible refine gB ?_|(with_reducible refine cJ (v:= ?_) ?_ ?_;rotate_left;(·(intro W' h;cases h;infer_instance)))|(with_reducible refine jJ (v:= ?_) ?_ ?_;rotate_left;(·(intro hq W' h;cases h;infer_instance)))|(with_reducible refine bX (v:= ?_) ?_ ?_;rotate_left;(·(intro W' h;cases h;first|(simp only[execOp,eS];go_simp;(try with_reducible rfl)))))|(with_reducible refine eI (v:= ?_) ?_ ?_;rotate_left;(·(intro hq W' h;cases h;simp only[execOp,eS,hq,mbT];(try(simp only[Bool.and_eq_true,Bool.not_eq_true'] at hq;simp only[hq,mbT,Bool.not_false]));go_simp;(try with_reducible rfl)))));(try dsimp only[sS0,sS1]))|(first|(with_reducible refine jU ?_;(try simp only[Bool.not_true,Bool.not_false])))|(with_reducible refine bO ?_)|(with_reducible refine dD ?_)
          go_wp2
          have hChidb:=HChb.out;clear HChb;subst hChidb;refine wp_region_lit ?_;repeat' first|((first|with_reducible refine bY ?_|with_reducible refine iV ?_|with_reducible refine gB ?_|(with_reducible refine cJ (v:= ?_) ?_ ?_;rotate_left;(·(intro W' h;cases h;infer_instance)))|(with_reducible refine jJ (v:= ?_) ?_ ?_;rotate_left;(·(intro hq W' h;cases h;infer_instance)))|(with_reducible refine bX (v:= ?_) ?_ ?_;rotate_left;(·(intro W' h;cases h;first|(simp only[execOp,eS];go_simp;(try with_reducible rfl)))))|(with_reducible refine eI (v:= ?_) ?_ ?_;rotate_left;(·(intro hq W' h;cases h;simp only[execOp,eS,hq,mbT];(try(simp only[Bool.and_eq_true,Bool.not_eq_true'] at hq;simp only[hq,mbT,Bool.not_false]));go_simp;(try with_reducible rfl)))));(try dsimp only[sS0,sS1]))|(first|(with_reducible refine dI ?_))|(with_reducible refine bO ?_)|(with_reducible refine dD ?_)
          go_wp2
          refine aP ((.take 0 (.take 1 (.take 2 (.take 3 (.take 4 (.take 5 (.take 6 (.take 7 (.take 8 (.take 9 .nil))))))))))) (fun hHd=> ?_) (hQ:=by intro _ _ _ _ _ h;exact h)
          repeat' first|((first|with_reducible refine bY ?_|(with_reducible refine cJ (v:= ?_) ?_ ?_;rotate_left;(·(intro W' h;have:=StepC.mk h;infer_instance)))|(with_reducible refine bX (v:= ?_) ?_ ?_;rotate_left;(·(intro W' h;have:=StepC.mk h;first|(simp only[execOp,eS];go_simp;(try with_reducible rfl))))));(try dsimp only[sS0,sS1]))|(with_reducible refine eT hHd ?_)|(with_reducible refine aF ?_)
          go_wp2
          refine dA ((.take 0 (.take 2 (.take 3 (.take 4 (.take 5 (.take 6 (.one 1 (.take 7 (.take 8 (.one 9 .nil))))))))))) (fun w'=>Ext Vt w') ?_ (fun hHd=> ?_) (hQ:=by intro _ _ _ _ _ h;exact h)
          ·exact ExtC.h
          repeat' first|((with_reducible refine aX ?_);(first|(refine tk (v:= ?_) ?_ hHd ?_;rotate_left;(·(intro W' h;have:=StepC.mk h;first|with_reducible exact aJ)))|(refine tk (v:= ?_) ?_ hHd ?_;rotate_left;(·(intro wq hSw;go_simp;(try with_reducible rfl)))));(try simp only[pS]))|((with_reducible refine bC ?_);refine aQ (by simp only[gS];rfl) ?_)|(with_reducible refine aA ?_)|(with_reducible refine aI ?_;intro Vs hS hSB)|((with_reducible refine bD ?_);clear hHd;refine aM ExtC.h (fun hHd=> ?_);(try simp only[pS]))|(with_reducible refine aF ?_)
          all_goals
           go_wp2
           go_roundw
           case rel=>exact⟨bN (hg1.ext' ExtC.h) hS.h,k+1,lk,by push_cast;rfl,by rw[U3.out,U2.out,U1.out,E.out];exact(inferInstance:BlkC _ g12 45 [.int .i64 (s3+xp),.int .i64 (s2),.int .i64 (s1)]).h⟩
           case measure=>simp[RowKit.intOf];omega
     ·have q1:(xk !=3)=true:=by simpa using c1
      have E:=Lib.hid (HS.out.trans (if_pos (.inl c1)));clear c1;go_wp2
      have hChida:=HCha.out;clear HCha;subst hChida;refine wp_region_lit ?_;repeat' first|((first|with_reducible refine bY ?_|with_reducible refine lJ ?_|(with_reducible refine cJ (v:= ?_) ?_ ?_;rotate_left;(·(intro W' h;cases h;infer_instance)))|(with_reducible refine bX (v:= ?_) ?_ ?_;rotate_left;(·(intro W' h;cases h;first|(simp only[execOp,eS];go_simp;(try with_reducible rfl))))));(try dsimp only[sS0,sS1]))|(first|(with_reducible refine jU ?_;(try simp only[Bool.not_true,Bool.not_false])))|(with_reducible refine bO ?_)|(with_reducible refine dD ?_)
      go_wp2
      go_roundw
      case rel=>exact⟨hg1.ext' ExtC.h,k+1,lk,by push_cast;rfl,by rw[U3.out,U2.out,U1.out,E.out];exact(inferInstance:BlkC _ g12 45 [.int .i64 s3,.int .i64 s2,.int .i64 s1]).h⟩
      case measure=>simp[RowKit.intOf];omega
    ·obtain rfl:k=l.length:=by omega
     rw[List.take_length] at hB1;have k5:BlkC wr g12 45 [.int .i64 (r.sumOf o day l 3),.int .i64 (r.sumOf o day l 2),.int .i64 (r.sumOf o day l 1)]:=⟨hB1⟩;go_wp2_with (first|(with_reducible refine aA ?_)|(with_reducible refine aI ?_;intro V _ _))
     rw[HM.out];exact bM rfl rfl (by with_unfolding_all rfl) ⟨rfl,⟨ExtC.h⟩⟩
 ·rw[if_pos hz] at hs;injection hs with m1 m2
  subst m1 m2;obtain⟨er,her⟩:∃e,r.personErr p=e:=⟨_,rfl⟩;have i4:=RPerE.mk her;rw[her] at hz⊢;have q:(er !=0)=true:=by simpa using hz
  have q2:(er==0)=false:=by simpa using hz
  clear hz her;go_enter Tryz.func26,Tryz.ntmps26
  go_wp2_with (first|(with_reducible refine aA ?_)|(with_reducible refine aB ?_;first|rintro _ V ⟨rfl,(_:StepC _ _)⟩)|(with_reducible refine aI ?_;intro V _ _)|(with_reducible refine aH ?_;intro V g _ _ _)|(with_reducible refine aR ?_;intro V g _ _ _))
  exact bM rfl rfl (by with_unfolding_all rfl) ⟨rfl,⟨ExtC.h⟩⟩
instance qRSl14{W:World}{v pv:Value}{r:Rules}{p:Person}{day:Int}{s:Points}{n:Int}[h:RulesC W v r][hp:PersonC W pv p][q:RPntE r p day s n]:FunC Tryz.prog 26 #[v,pv,.int .i64 day] W (RPts W s n):=⟨wE r p v pv day s n W h.h hp.h q.h⟩
end Go.Rg
end
