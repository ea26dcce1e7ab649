import Derived.Test.YtbfbepnkofampaaGreatDoorXPX15
import Derived.Test.YtbfbepnkofampaaGreatDoorXSAX04
set_option maxRecDepth 100000
set_option synthInstance.maxSize 2000
set_option synthInstance.maxHeartbeats 400000
set_option maxHeartbeats 8000000
set_option linter.all false
section
namespace Go.Rg
open Go Go.Bp Go.RowKit Go.Walk Go.Proofs
instance(priority:=2000)rowBans{W:World}{v pv:Value}{r:Rules}{p:Person}{l:List Span}{n:Int}[h:RulesC W v r][hp:PersonC W pv p][q:BansE r p l n]:FunC Tryz.prog 22 #[v,pv] W (RLR 95 W l n):=⟨yM r p v pv l n W h.h hp.h q.h⟩
instance(priority:=2000)rowHeld{W:World}{v pv:Value}{r:Rules}{p:Person}{day:Int}{l:List Right}{n:Int}[h:RulesC W v r][hp:PersonC W pv p][q:HeldE r p day l n]:FunC Tryz.prog 27 #[v,pv,.int .i64 day] W (RLR 74 W l n):=⟨yJ r p v pv day l n W h.h hp.h q.h⟩
class RHldE (r:Rules) (p:Person) (day:Int) (l:outParam (List Right)) (n:outParam Int):Prop where h:r.heldAns p day=(l,n)
theorem Au(G:List Grant)(day:Int){k:Nat}(h:k<G.length){g:Grant}(hg:G[k]=g):Rules.heldL (G.take (k+1)) day=if((decide (g.day≤day)&&(g.reason==0))&&decide (day<g.end_))=true then Rules.heldL (G.take k) day++ [g.right] else Rules.heldL (G.take k) day:=by
 unfold Rules.heldL;rw[List.take_succ_eq_append_getElem h,hg,List.filter_append,List.map_append];have e:Rules.holds day g=((decide (g.day≤day)&&(g.reason==0))&&decide (day<g.end_)):=rfl;split
 ·rename_i h2;rw[←e] at h2;simp[List.filter_cons,h2]
 ·rename_i h2;rw[←e] at h2;simp only[Bool.not_eq_true] at h2;simp[List.filter_cons,h2]
theorem Ej(r:Rules)(p:Person)(v pv:Value)(day:Int)(l:List Right)(n:Int)(w:World)(h:RulesV w v r)(hp:PersonV w pv p)(hs:r.heldAns p day=(l,n)):Calls Tryz.prog 28 #[v,pv,.int .i64 day] w (RLI w l n):=by
 have i1:=RulesB.mk h;have i2:=PersonB.mk hp;obtain⟨A1,n1,c1,A2,c2,A3,c3,rfl,hn1,-⟩:=h.h;subst hn1;have i0:SysB w (.agg #[.slice A1 r.sys.classes.length c1,.slice A2 r.sys.codes.length c2]) r.sys:=⟨h.sys⟩;obtain⟨A,c,rfl,hl⟩:=hp.h;have i3:=ListB.mk hl;unfold Rules.heldAns at hs;by_cases hz:r.personErr p=0
 ·rw[if_neg (by simp[hz])] at hs
  have i4:=RPerE.mk hz;obtain⟨b1,h1⟩:∃x,inB day 0 40000=x:=⟨_,rfl⟩;have j1:=InE.mk h1
  cases b1
  ·rw[if_pos h1] at hs;injection hs with m1 m2
   subst m1 m2;clear hz h1;go_enter Tryz.func28,Tryz.ntmps28
   obtain⟨hca,hChida⟩:∃f:Nat→Array Oper→Bool→Go.Code,f=Go.Code.region:=⟨_,rfl⟩;rw[show Go.Code.region 4=hca 4 by rw[hChida]]
   have HCha:=Lib.hid hChida;clear hChida;go_wp2_with (first|(with_reducible refine aA ?_)|(with_reducible refine aB ?_;first|rintro _ V ⟨rfl,(_:StepC _ _)⟩)|(with_reducible refine aH ?_;intro V g _ _ _))
   have hChida:=HCha.out;clear HCha;subst hChida;refine wp_region_lit ?_;(try simp only[pS])
   repeat' first|((first|with_reducible refine bY ?_|with_reducible refine lJ ?_|(with_reducible refine bX (v:= ?_) ?_ ?_;rotate_left;(·(intro W' h;cases h;first|(simp only[execOp,eS];go_simp;(try with_reducible rfl))))));(try dsimp only[sS0,sS1]))|(first|(with_reducible refine dI ?_))|(with_reducible refine bO ?_)|((fail_if_success (with_reducible refine dY ?_));(with_reducible refine dD ?_))
   go_wp2
   go_ret2
   exact⟨none,0,rfl,⟨ListV.nil⟩,⟨ExtC.h⟩⟩
  ·rw[if_neg (by rw[h1];simp)] at hs
   by_cases hd:day<p.born
   ·rw[if_pos hd] at hs;injection hs with m1 m2
    subst m1 m2;clear hz h1;go_enter Tryz.func28,Tryz.ntmps28
    obtain⟨hca,hChida⟩:∃f:Nat→Array Oper→Bool→Go.Code,f=Go.Code.region:=⟨_,rfl⟩;rw[show Go.Code.region 4=hca 4 by rw[hChida]]
    have HCha:=Lib.hid hChida;clear hChida;go_wp2_with (first|(with_reducible refine aA ?_)|(with_reducible refine aB ?_;first|rintro _ V ⟨rfl,(_:StepC _ _)⟩)|(with_reducible refine aH ?_;intro V g _ _ _))
    have hChida:=HCha.out;clear HCha;subst hChida;refine wp_region_lit ?_;(try simp only[pS])
    repeat' first|((first|with_reducible refine gG ?_|with_reducible refine bY ?_|(with_reducible refine cJ (v:= ?_) ?_ ?_;rotate_left;(·(intro W' h;cases h;infer_instance)))|(with_reducible refine bX (v:= ?_) ?_ ?_;rotate_left;(·(intro W' h;cases h;first|(simp only[execOp,eS];go_simp;(try with_reducible rfl))))));(try dsimp only[sS0,sS1]))|(first|(with_reducible refine dI ?_))|(with_reducible refine bO ?_)|((fail_if_success (with_reducible refine dY ?_));(with_reducible refine dD ?_))
    go_wp2
    go_ret2
    exact⟨none,0,rfl,⟨ListV.nil⟩,⟨ExtC.h⟩⟩
   ·rw[if_neg hd] at hs;obtain⟨nb,hnb⟩:∃x,r.bannedBy (sortE p.events) day=x:=⟨_,rfl⟩;have i5:RBndE r p day nb:=⟨hz,hnb⟩;rw[hnb] at hs;by_cases hb:nb=0
    ·subst hb;rw[if_neg (by simp)] at hs
     injection hs with m1 m2
     obtain⟨G,hG⟩:∃G,r.grantsR p.born (sortE p.events) (sortE p.events) []=G:=⟨_,rfl⟩;have i6:RGrnE r p G:=⟨hz,hG⟩;have hnm:=Rules.held_norm (Rules.grants_both hz) day;rw[hG] at hnm;have hho:=(Rules.held_ok hz day).1;rw[hnm] at hho m1;have hso:=Rules.ok_of (Rules.person_ok hz).1;have i7:FrmE r.sys (Rules.heldL G day) l:=⟨⟨kH hso.check,hso.sys.incl,hho⟩,m1⟩;have hgl:G.length≤30:=by
      have h1:=Rules.grK_len (r:=r) p.born (sortE p.events) (sortE p.events).length (Nat.le_refl _);unfold Rules.grK at h1;rw[List.take_length,hG] at h1;have:=sortE_len p.events;have:=kM hz;omega
     subst m2;have HF:=Lib.hid i7;clear hz h1 hnb hG hnm hho hso m1 i7;go_enter Tryz.func28,Tryz.ntmps28
     obtain⟨hca,hChida⟩:∃f:Nat→Array Oper→Bool→Go.Code,f=Go.Code.region:=⟨_,rfl⟩;rw[show Go.Code.region 4=hca 4 by rw[hChida]]
     have HCha:=Lib.hid hChida;clear hChida;go_wp2_with (first|(with_reducible refine aA ?_)|(with_reducible refine aB ?_;first|rintro _ V ⟨rfl,(_:StepC _ _)⟩)|(with_reducible refine aH ?_;intro V g _ _ _))
     have hChida:=HCha.out;clear HCha;subst hChida;refine wp_region_lit ?_;(try simp only[pS])
     repeat' first|((first|with_reducible refine gG ?_|with_reducible refine bY ?_|(with_reducible refine cJ (v:= ?_) ?_ ?_;rotate_left;(·(intro W' h;cases h;infer_instance)))|(with_reducible refine bX (v:= ?_) ?_ ?_;rotate_left;(·(intro W' h;cases h;first|(simp only[execOp,eS];go_simp;(try with_reducible rfl))))));(try dsimp only[sS0,sS1]))|(first|(with_reducible refine dI ?_))|(with_reducible refine bO ?_)|((fail_if_success (with_reducible refine dY ?_));(with_reducible refine dD ?_))
     go_wp2_with (first|(with_reducible refine aB ?_;rintro _ Vg ⟨Ag,cg,rfl,hLg,(_:StepC _ _)⟩)|(first|(with_reducible refine aA ?_)|(with_reducible refine aB ?_;first|rintro _ V ⟨rfl,(_:StepC _ _)⟩)))
     have hgc:=hLg.h.caps.2;have k1:=hLg;go_loopw [11,10] (fun iv ov wr=>StepC Vg wr∧∃(k:Nat)(o:List Right)(A4:Option Addr)(c4:Nat),k≤G.length∧iv=.int .i64 k∧o=Rules.heldL (G.take k) day∧ov=.slice A4 o.length c4∧RowC wr (.slice A4 o.length c4) Vg 74 2 o.length (encL o)∧o.length≤k) (fun iv _ _=>G.length-(RowKit.intOf iv).toNat)
     case atStart=>exact⟨⟨Ext.refl _⟩,0,[],none,0,by omega,rfl,by simp[Rules.heldL],rfl,RowC.nil,by simp⟩
     case round=>
      obtain⟨_,k,o,A4,c4,hk,rfl,ho,rfl,hR,hol⟩:=hrel;by_cases lk:k<G.length
      ·obtain⟨gd,rfl,hgd⟩:=k1.h.elem lk;obtain⟨⟨xd,⟨xc,xo⟩,xr,xe⟩,hx⟩:∃x,G[k]=x:=⟨_,rfl⟩;have hsu:=Au G day lk hx;rw[hx] at hgd;rw[←ho] at hsu;simp only at hsu;have k2:CellsB Vg (gd.add (k*5)) [.int .i64 xd,.int .i64 xc,.int .i64 xo,.int .i64 xr,.int .i64 xe]:=⟨hgd⟩;obtain⟨cn,hcn⟩:∃b,((decide (xd≤day)&&(xr==0))&&decide (day<xe))=b:=⟨_,rfl⟩;rw[hcn] at hsu;have zk:IntKind.i64.wrap ((k:Int)+1)=(k:Int)+1:=IntWalk.i64_in _ (by omega)
       have Hcn:=Lib.hid hcn;have Hsu:=Lib.hid hsu;clear hgd hx hsu hcn ho;obtain⟨hcb,hChidb⟩:∃f:Nat→Array Oper→Bool→Go.Code,f=Go.Code.region:=⟨_,rfl⟩;rw[show Go.Code.region 16=hcb 16 by rw[hChidb]]
       have HChb:=Lib.hid hChidb;clear hChidb;go_wp2_with (first|(with_reducible refine aG (uu:=12) ?_;intro V12 g12 hE12 hB12 hA12)|(first|(with_reducible refine aA ?_)))
       have hChidb:=HChb.out;clear HChb;subst hChidb;refine wp_region_lit ?_;(try simp only[pS])
       repeat' first|((first|with_reducible refine bY ?_|with_reducible refine iV ?_|with_reducible refine gB ?_|(with_reducible refine cJ (v:= ?_) ?_ ?_;rotate_left;(·(intro W' h;cases h;infer_instance)))|(with_reducible refine jJ (v:= ?_) ?_ ?_;rotate_left;(·(intro hq W' h;cases h;infer_instance)))|(with_reducible refine bX (v:= ?_) ?_ ?_;rotate_left;(·(intro W' h;cases h;first|(simp only[execOp,eS];go_simp;(try with_reducible rfl)))))|(with_reducible refine eI (v:= ?_) ?_ ?_;rotate_left;(·(intro hq W' h;cases h;simp only[execOp,eS,hq,mbT];(try(simp only[Bool.and_eq_true,Bool.not_eq_true'] at hq;simp only[hq,mbT,Bool.not_false]));go_simp;(try with_reducible rfl)))));(try dsimp only[sS0,sS1]))|(first|(with_reducible refine dI ?_))|(with_reducible refine bO ?_)|((fail_if_success (with_reducible refine dY ?_));(with_reducible refine dD ?_))
       have e1:=Hcn.out;(try simp only[e1])
       clear e1
       cases cn
       ·have Hn:=Lib.hid (Hsu.out.trans (if_neg (by simp)))
        go_wp2
        go_roundw
        case rel=>exact⟨⟨ExtC.h⟩,k+1,o,A4,c4,lk,by push_cast;rfl,Hn.out.symm,rfl,inferInstance,by omega⟩
        case measure=>simp[RowKit.intOf];omega
       ·have Hn:=Lib.hid (Hsu.out.trans (if_pos rfl));go_wp2_with (first|(with_reducible refine bR ?_;intro A9 c9 Va hR9 hG9)|(first|(with_reducible refine aA ?_)|(with_reducible refine aD ?_;intro V g _ _ _)))
        go_roundw
        case rel=>
         obtain⟨A8,c8,e8,h8⟩:=cV Hn.out hR9;exact⟨⟨ExtC.h⟩,k+1,_,A8,c8,lk,by push_cast;rfl,rfl,e8,h8,by rw[Hn.out];simp;omega⟩
        case measure=>simp[RowKit.intOf];omega
      ·obtain rfl:k=G.length:=by omega
       rw[List.take_length] at ho;subst ho;have i7:=HF.out;go_wp2_with (first|(with_reducible refine aB ?_;rintro _ Vf ⟨Af,cf,rfl,hRf,(_:StepC _ _)⟩)|(first|(with_reducible refine aA ?_)))
       go_ret2
       exact⟨Af,cf,rfl,⟨hRf.list rfl rfl rfl⟩,⟨ExtC.h⟩⟩
    ·rw[if_pos hb] at hs;injection hs with m1 m2
     subst m1 m2;have q3:(nb !=0)=true:=by simpa using hb
     clear hz h1 hnb hb;go_enter Tryz.func28,Tryz.ntmps28
     obtain⟨hca,hChida⟩:∃f:Nat→Array Oper→Bool→Go.Code,f=Go.Code.region:=⟨_,rfl⟩;rw[show Go.Code.region 4=hca 4 by rw[hChida]]
     have HCha:=Lib.hid hChida;clear hChida;go_wp2_with (first|(with_reducible refine aA ?_)|(with_reducible refine aB ?_;first|rintro _ V ⟨rfl,(_:StepC _ _)⟩)|(with_reducible refine aH ?_;intro V g _ _ _))
     have hChida:=HCha.out;clear HCha;subst hChida;refine wp_region_lit ?_;(try simp only[pS])
     repeat' first|((first|with_reducible refine gG ?_|with_reducible refine bY ?_|(with_reducible refine cJ (v:= ?_) ?_ ?_;rotate_left;(·(intro W' h;cases h;infer_instance)))|(with_reducible refine bX (v:= ?_) ?_ ?_;rotate_left;(·(intro W' h;cases h;first|(simp only[execOp,eS];go_simp;(try with_reducible rfl))))));(try dsimp only[sS0,sS1]))|(first|(with_reducible refine dI ?_))|(with_reducible refine bO ?_)|((fail_if_success (with_reducible refine dY ?_));(with_reducible refine dD ?_))
     go_wp2_with (first|(with_reducible refine aA ?_)|(with_reducible refine aB ?_;first|rintro _ V ⟨rfl,(_:StepC _ _)⟩))
     go_ret2
     exact⟨none,0,rfl,⟨ListV.nil⟩,⟨ExtC.h⟩⟩
 ·rw[if_pos hz] at hs;injection hs with m1 m2
  subst m1 m2;obtain⟨er,her⟩:∃e,r.personErr p=e:=⟨_,rfl⟩;have i4:=RPerE.mk her;rw[her] at hz⊢;have q:(er !=0)=true:=by simpa using hz
  have q2:(er==0)=false:=by simpa using hz
  clear hz her;go_enter Tryz.func28,Tryz.ntmps28
  obtain⟨hca,hChida⟩:∃f:Nat→Array Oper→Bool→Go.Code,f=Go.Code.region:=⟨_,rfl⟩;rw[show Go.Code.region 4=hca 4 by rw[hChida]]
  have HCha:=Lib.hid hChida;clear hChida;go_wp2_with (first|(with_reducible refine aA ?_)|(with_reducible refine aB ?_;first|rintro _ V ⟨rfl,(_:StepC _ _)⟩)|(with_reducible refine aH ?_;intro V g _ _ _))
  have hChida:=HCha.out;clear HCha;subst hChida;refine wp_region_lit ?_;(try simp only[pS])
  repeat' first|((first|with_reducible refine bY ?_|with_reducible refine lJ ?_|(with_reducible refine bX (v:= ?_) ?_ ?_;rotate_left;(·(intro W' h;cases h;first|(simp only[execOp,eS];go_simp;(try with_reducible rfl))))));(try dsimp only[sS0,sS1]))|(first|(with_reducible refine dI ?_))|(with_reducible refine bO ?_)|((fail_if_success (with_reducible refine dY ?_));(with_reducible refine dD ?_))
  go_wp2
  go_ret2
  exact⟨none,0,rfl,⟨ListV.nil⟩,⟨ExtC.h⟩⟩
instance qRSq18{W:World}{v pv:Value}{r:Rules}{p:Person}{day:Int}{l:List Right}{n:Int}[h:RulesC W v r][hp:PersonC W pv p][q:RHldE r p day l n]:FunC Tryz.prog 28 #[v,pv,.int .i64 day] W (RLI W l n):=⟨Ej r p v pv day l n W h.h hp.h q.h⟩
theorem LPoints(r:Rules)(p:Person)(v pv:Value)(day:Int)(w:World)(h:RulesV w v r)(hp:PersonV w pv p)(hv:EnvC w):
 Calls Tryz.prog 4 #[v,pv,.int .i64 day] w (RB w true):=by
 have i1:=RulesB.mk h;have i2:=PersonB.mk hp;have i0:=EnvB.mk hv.h;obtain⟨A1,n1,c1,A2,c2,A3,c3,rfl,hn,-⟩:=h.h;subst hn;obtain⟨A,c,rfl,hl⟩:=hp.h;obtain⟨⟨bl,bn⟩,hb⟩:∃x,r.bansAns p=x:=⟨_,rfl⟩;obtain⟨⟨⟨s1,s2,s3⟩,sn⟩,hs⟩:∃x,r.pointsAns p day=x:=⟨_,rfl⟩;obtain⟨⟨hl2,hn2⟩,hh⟩:∃x,r.heldAns p day=x:=⟨_,rfl⟩;have j1:=BansE.mk hb;have j2:=RBanE.mk hb;have j3:=PointsE.mk hs;have j4:=RPntE.mk hs;have j5:=HeldE.mk hh;have j6:=RHldE.mk hh;have hE:=fun W=>eql45 W s1 s2 s3 s1 s2 s3
 simp only[and_self,decide_true] at hE;clear hb hs hh hl;go_enter Tryz.func4,Tryz.ntmps4
 go_wp2_with (first|(with_reducible refine aG (uu:=11) ?_;intro V11 g11 hE11 hB11 hA11)|(with_reducible refine aG (uu:=12) ?_;intro V12 g12 hE12 hB12 hA12)|(with_reducible refine aB ?_;first|(rintro _ Vp ⟨Ap,cp,rfl,(_:ListB Span _ _ _),(_:StepC _ _)⟩)|(rintro _ Vp ⟨Ap,cp,rfl,(_:ListB Right _ _ _),(_:StepC _ _)⟩))|((first|with_reducible refine aB ?_);rintro _ V ⟨rfl,(_:StepC _ _)⟩;(try simp only[eq_self,decide_true]))|(first|(with_reducible refine aA ?_)|(with_reducible refine aB ?_;first|rintro _ V ⟨_,_,_,rfl,(_:RowC _ _ _ _ _ _ _),(_:StepC _ _)⟩)|(with_reducible refine aH ?_;intro V g _ _ _)))
 all_goals
  go_ret
  exact⟨rfl,⟨ExtC.h⟩⟩
end Go.Rg
end
