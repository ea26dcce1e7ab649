import Derived.Test.YtbfbepnkofampaaGreatDoorXPX15
import Derived.Test.YtbfbepnkofampaaGreatDoorXSBX03
set_option maxRecDepth 100000
set_option synthInstance.maxSize 2000
set_option synthInstance.maxHeartbeats 400000
set_option maxHeartbeats 8000000
set_option linter.all false
section
namespace Go.Rg
open Go Go.Bp Go.RowKit Go.Walk Go.Proofs
def saysTo(r:Rules)(d:Drive)(G:List Grant):List Int:=(G.filter fun g=>decide (g.day≤d.day)&&r.sys.allow [g.right] d.cls d.features).map (Rules.against d)
theorem vM(r:Rules)(d:Drive)(G:List Grant){k:Nat}(h:k<G.length){g:Grant}(hg:G[k]=g):saysTo r d (G.take (k+1))=if(decide (g.day≤d.day)&&r.sys.allow [g.right] d.cls d.features)=true then saysTo r d (G.take k)++ [Rules.against d g] else saysTo r d (G.take k):=by
 unfold saysTo;rw[List.take_succ_eq_append_getElem h,hg,List.filter_append,List.map_append];split
 ·rename_i h2;simp[List.filter_cons,h2]
 ·rename_i h2;simp only[Bool.not_eq_true] at h2;simp[List.filter_cons,h2]
class RWhyE (r:Rules) (p:Person) (d:Drive) (R:outParam Int):Prop where h:r.personErr p=0∧r.driveErr p d=0∧r.whyL p.born (sortE p.events) d=R
theorem Ih(r:Rules)(p:Person)(v pv:Value)(dd dc df R:Int)(w:World)(h:RulesV w v r)(hp:PersonV w pv p)(hz:r.personErr p=0)(hd:r.driveErr p ⟨dd,dc,df⟩=0)(hR:r.whyL p.born (sortE p.events) ⟨dd,dc,df⟩=R):Calls Tryz.prog 78 #[v,pv,.agg #[.int .i64 dd,.int .i64 dc,.int .i64 df]] w (RI w R):=by
 have i1:=RulesB.mk h;have i2:=PersonB.mk hp;obtain⟨A1,n1,c1,A2,c2,A3,c3,rfl,hn1,-⟩:=h.h;subst hn1;have i0:SysB w (.agg #[.slice A1 r.sys.classes.length c1,.slice A2 r.sys.codes.length c2]) r.sys:=⟨h.sys⟩;obtain⟨A,c,rfl,hl⟩:=hp.h;obtain⟨nb,hnb⟩:∃x,r.bannedBy (sortE p.events) dd=x:=⟨_,rfl⟩;have i5:RBndE r p dd nb:=⟨hz,hnb⟩;unfold Rules.whyL at hR;simp only[hnb] at hR;by_cases hb:nb=0
 ·subst hb;rw[if_neg (by simp)] at hR
  obtain⟨G,hG⟩:∃G,r.grantsR p.born (sortE p.events) (sortE p.events) []=G:=⟨_,rfl⟩;have i6:RGrnE r p G:=⟨hz,hG⟩;rw[Rules.why_norm (r:=r) (Rules.grants_both hz),hG] at hR;have hgn:=Rules.grants_both hz;rw[hG] at hgn;have hok:=drive_ok hd;simp only at hok;obtain⟨⟨hd0,hd1⟩,_,⟨hc0,hc1⟩,hf0,hf1⟩:=hok;obtain⟨cd,rfl⟩:∃cd:Nat,dc=(cd:Int):=⟨dc.toNat,by omega⟩
  have hso:=Rules.ok_of (Rules.person_ok hz).1;have hcnt:=kH hso.check;have hpb:=eU hcnt.h.2;have hf2:df<256:=by unfold Sys.sets at hf1;omega
  have hgr:=kQ hz;have hrg:∀g∈G,r.sys.rightErr g.right=0:=fun g hg=>by
   have:normG g∈G.map normG:=List.mem_map.2 ⟨g,hg,rfl⟩;rw[←hgn] at this;obtain⟨g',hg',e⟩:=List.mem_map.1 this;have:=hgr g' hg';rw[←Rules.norm_right g,←e,Rules.norm_right g'];exact this.right
  have hrs:∀g∈G,0≤g.reason∧g.reason≤7:=fun g hg=>by
   have:normG g∈G.map normG:=List.mem_map.2 ⟨g,hg,rfl⟩;rw[←hgn] at this;obtain⟨g',hg',e⟩:=List.mem_map.1 this;have:=(hgr g' hg').reason;rw[←Rules.norm_reason g,←e,Rules.norm_reason g'];omega
  have hgl:G.length≤30:=by
   have h1:=Rules.grK_len (r:=r) p.born (sortE p.events) (sortE p.events).length (Nat.le_refl _);unfold Rules.grK at h1;rw[List.take_length,hG] at h1;have:=sortE_len p.events;have:=kM hz;omega
  have Hrg:=Lib.hid hrg;have Hrs:=Lib.hid hrs;have HR:=Lib.hid (show(if 0∈saysTo r ⟨dd,(cd:Int),df⟩ G then(0:Int) else(saysTo r ⟨dd,(cd:Int),df⟩ G).foldl max 3)=R from hR)
  have Hin:=Lib.hid hso.sys.incl;have Hcn:=Lib.hid hcnt;have hcd:cd<r.sys.classes.length:=by omega
  clear hz hnb hd hG hgn hgr hrg hrs hR hso hcnt hpb;go_enter Tryz.func78,Tryz.ntmps78
  go_wp2_with (first|(with_reducible refine aH (d:=some 5) ?_;intro V5 g5 hE5 hB5 hA5)|(with_reducible refine aB ?_;rintro _ Vg ⟨Ag,cg,rfl,hLg,(_:StepC _ _)⟩)|(first|(with_reducible refine aA ?_)|(with_reducible refine aB ?_;first|rintro _ V ⟨rfl,(_:StepC _ _)⟩)|(with_reducible refine aH ?_;intro V g _ _ _)))
  have hgc:=hLg.h.caps.2;have k1:=hLg;go_loopw [11,9,10] (fun iv wv sv wr=>StepC Vg wr∧∃k:Nat,k≤G.length∧iv=.int .i64 k∧wv=.int .i64 ((saysTo r ⟨dd,(cd:Int),df⟩ (G.take k)).foldl max 3)∧sv=.bool (decide (0∈saysTo r ⟨dd,(cd:Int),df⟩ (G.take k)))) (fun iv _ _ _=>G.length-(RowKit.intOf iv).toNat)
  case atStart=>exact⟨⟨Ext.refl _⟩,0,by omega,rfl,by simp[saysTo],by simp[saysTo]⟩
  case round=>
   obtain⟨_,k,hk,rfl,rfl,rfl⟩:=hrel;obtain⟨mx,hmx⟩:∃x,(saysTo r ⟨dd,(cd:Int),df⟩ (G.take k)).foldl max 3=x:=⟨_,rfl⟩;obtain⟨sm,hsm⟩:∃x,decide (0∈saysTo r ⟨dd,(cd:Int),df⟩ (G.take k))=x:=⟨_,rfl⟩;rw[hmx,hsm];by_cases lk:k<G.length
   ·obtain⟨gd,rfl,hgd⟩:=k1.h.elem lk;have hre:=Hrg.out _ (List.getElem_mem lk);have hrb:=Hrs.out _ (List.getElem_mem lk);obtain⟨⟨xd,⟨xc,xo⟩,xr,xe⟩,hx⟩:∃x,G[k]=x:=⟨_,rfl⟩;have hsu:=vM r ⟨dd,(cd:Int),df⟩ G lk hx;rw[hx] at hgd hre hrb;simp only at hsu hre hrb;have k2:CellsB Vg (gd.add (k*5)) [.int .i64 xd,.int .i64 xc,.int .i64 xo,.int .i64 xr,.int .i64 xe]:=⟨hgd⟩;obtain⟨al,hal⟩:∃b,r.sys.allow [⟨xc,xo⟩] (cd:Int) df=b:=⟨_,rfl⟩;have k3:AllE r.sys [⟨xc,xo⟩] (cd:Int) df al:=⟨⟨⟨cd,rfl,hcd⟩,Hcn.out.h.1,Hcn.out.h.2,Hin.out,by intro y hy;simp at hy;subst hy;exact hre,hf0,hf2⟩,hal⟩
    rw[hal] at hsu;have zk:IntKind.i64.wrap ((k:Int)+1)=(k:Int)+1:=IntWalk.i64_in _ (by omega)
    have HM:=Lib.hid hmx;have HS:=Lib.hid hsm;have Hsu:=Lib.hid hsu;clear hgd hx hsu hal hre hmx hsm;obtain⟨hca,hChida⟩:∃f:Nat→Array Oper→Bool→Go.Code,f=Go.Code.region:=⟨_,rfl⟩;rw[show Go.Code.region 10=hca 10 by rw[hChida]]
    have HCha:=Lib.hid hChida;clear hChida;obtain⟨hcb,hChidb⟩:∃f:Nat→Array Oper→Bool→Go.Code,f=Go.Code.region:=⟨_,rfl⟩;rw[show Go.Code.region 12=hcb 12 by rw[hChidb]]
    have HChb:=Lib.hid hChidb;clear hChidb;obtain⟨hcc,hChidc⟩:∃f:Nat→Array Oper→Bool→Go.Code,f=Go.Code.region:=⟨_,rfl⟩;rw[show Go.Code.region 14=hcc 14 by rw[hChidc]]
    have HChc:=Lib.hid hChidc;clear hChidc;by_cases c1:xd>dd
    ·have Hc1:=Lib.hid (show decide (xd≤dd)=false by simp;omega)
     have Hn:=Lib.hid (Hsu.out.trans (if_neg (by simp;intro h;exact absurd h (by omega))))
     go_wp2_with (first|(with_reducible refine aG (uu:=12) ?_;intro V12 g12 hE12 hB12 hA12)|(first|(with_reducible refine aA ?_)))
     have hChida:=HCha.out;clear HCha;subst hChida;have e7:decide (dd<xd)= !decide (xd≤dd):=by by_cases h:xd≤dd<;>simp[h]<;>omega
     have e8:=Hc1.out;refine wp_region_lit ?_;(try simp only[pS])
     repeat' first|(((first|with_reducible refine bY ?_|with_reducible refine lJ ?_|(with_reducible refine cJ (v:= ?_) ?_ ?_;rotate_left;(·(intro W' h;cases h;infer_instance)))|(with_reducible refine bX (v:= ?_) ?_ ?_;rotate_left;(·(intro W' h;cases h;first|(simp only[execOp,eS];go_simp;(try with_reducible rfl))))));(try dsimp only[sS0,sS1]));(try simp only[e7,e8,Bool.not_true,Bool.not_false]))|(first|(with_reducible refine jU ?_;(try simp only[Bool.not_true,Bool.not_false])))|((fail_if_success (with_reducible refine dY ?_));(with_reducible refine dD ?_))
     clear e7 e8;go_wp2
     go_roundw
     case rel=>exact⟨⟨ExtC.h⟩,k+1,lk,by push_cast;rfl,by rw[Hn.out,HM.out],by rw[Hn.out,HS.out]⟩
     case measure=>simp[RowKit.intOf];omega
    ·have c1':xd≤dd:=by omega
     have Hc1:=Lib.hid (show decide (xd≤dd)=true by simp;omega)
     cases al
     ·have Hn:=Lib.hid (Hsu.out.trans (if_neg (by simp)))
      clear c1';go_wp2_with (first|(with_reducible refine aG (uu:=12) ?_;intro V12 g12 hE12 hB12 hA12)|(first|(with_reducible refine aA ?_)))
      have hChida:=HCha.out;clear HCha;subst hChida;have e7:decide (dd<xd)= !decide (xd≤dd):=by by_cases h:xd≤dd<;>simp[h]<;>omega
      have e8:=Hc1.out;refine wp_region_lit ?_;(try simp only[pS])
      repeat' first|((first|with_reducible refine cG ?_);first|(rintro _ V ⟨rfl,(_:StepC _ _)⟩;refine⟨_,rfl,?_⟩);(try simp only[pS]))|(with_reducible refine bH ?_)|((with_reducible refine aD ?_);intro Vb g9 _ _ _;(try simp only[pS]))|(((first|with_reducible refine gG ?_|with_reducible refine bY ?_|(with_reducible refine cJ (v:= ?_) ?_ ?_;rotate_left;(·(intro W' h;cases h;infer_instance)))|(with_reducible refine bX (v:= ?_) ?_ ?_;rotate_left;(·(intro W' h;cases h;first|(simp only[execOp,eS];go_simp;(try with_reducible rfl))))));(try dsimp only[sS0,sS1]));(try simp only[e7,e8,Bool.not_true,Bool.not_false]))|(first|(with_reducible refine jU ?_;(try simp only[Bool.not_true,Bool.not_false])))|(with_reducible refine bO ?_)|((fail_if_success (with_reducible refine dY ?_));(with_reducible refine dD ?_))
      clear e7 e8;go_wp2
      go_roundw
      case rel=>exact⟨⟨ExtC.h⟩,k+1,lk,by push_cast;rfl,by rw[Hn.out,HM.out],by rw[Hn.out,HS.out]⟩
      case measure=>simp[RowKit.intOf];omega
     ·have Hn:=Lib.hid (Hsu.out.trans (if_pos (by simp[c1'])))
      clear c1';by_cases z:xr=0
      ·subst z;by_cases c2:dd≥xe
       ·have c2':xe≤dd:=c2;have hav:Rules.against ⟨dd,(cd:Int),df⟩ ⟨xd,⟨xc,xo⟩,0,xe⟩=8:=by show(if(0:Int)≠0 then(0:Int) else if xe≤dd then 8 else 0)=8;rw[if_neg (by simp),if_pos c2']
        have Ha:=Lib.hid (show saysTo r ⟨dd,(cd:Int),df⟩ (G.take (k+1))=saysTo r ⟨dd,(cd:Int),df⟩ (G.take k)++ [8] by rw[Hn.out,hav])
        have Hm:=Lib.hid (show(saysTo r ⟨dd,(cd:Int),df⟩ (G.take (k+1))).foldl max 3=max mx (8) by rw[Ha.out,List.foldl_append,HM.out];rfl)
        have Hs:=Lib.hid (show decide (0∈saysTo r ⟨dd,(cd:Int),df⟩ (G.take (k+1)))=(sm||decide (0=(8:Int))) by
         rw[Ha.out,←HS.out];simp[List.mem_append,Bool.decide_or])
        clear Hn hav Ha;go_wp2_with (first|(with_reducible refine aG (uu:=12) ?_;intro V12 g12 hE12 hB12 hA12)|(first|(with_reducible refine aA ?_)))
        have hChida:=HCha.out;clear HCha;subst hChida;have e7:decide (dd<xd)= !decide (xd≤dd):=by by_cases h:xd≤dd<;>simp[h]<;>omega
        have e8:=Hc1.out;refine wp_region_lit ?_;(try simp only[pS])
        repeat' first|((first|with_reducible refine cG ?_);first|(rintro _ V ⟨rfl,(_:StepC _ _)⟩;refine⟨_,rfl,?_⟩);(try simp only[pS]))|(with_reducible refine bH ?_)|((with_reducible refine aD ?_);intro Vb g9 _ _ _;(try simp only[pS]))|(((first|with_reducible refine gG ?_|with_reducible refine bY ?_|(with_reducible refine cJ (v:= ?_) ?_ ?_;rotate_left;(·(intro W' h;cases h;infer_instance)))|(with_reducible refine bX (v:= ?_) ?_ ?_;rotate_left;(·(intro W' h;cases h;first|(simp only[execOp,eS];go_simp;(try with_reducible rfl))))));(try dsimp only[sS0,sS1]));(try simp only[e7,e8,Bool.not_true,Bool.not_false]))|(first|(with_reducible refine jU ?_;(try simp only[Bool.not_true,Bool.not_false])))|(with_reducible refine bO ?_)|((fail_if_success (with_reducible refine dY ?_));(with_reducible refine dD ?_))
        clear e7 e8;go_wp2_with (first|(with_reducible refine aA ?_))
        have hChidb:=HChb.out;clear HChb;subst hChidb;refine wp_region_lit ?_;(try simp only[pS])
        repeat' first|((first|with_reducible refine gG ?_|with_reducible refine bY ?_|(with_reducible refine cJ (v:= ?_) ?_ ?_;rotate_left;(·(intro W' h;cases h;infer_instance)))|(with_reducible refine bX (v:= ?_) ?_ ?_;rotate_left;(·(intro W' h;cases h;first|(simp only[execOp,eS];go_simp;(try with_reducible rfl))))));(try dsimp only[sS0,sS1]))|(first|(with_reducible refine dI ?_))|(with_reducible refine bO ?_)|((fail_if_success (with_reducible refine dY ?_));(with_reducible refine dD ?_))
        go_wp2
        have hChidc:=HChc.out;clear HChc;subst hChidc;refine wp_region_lit ?_;(try simp only[pS])
        repeat' first|((first|with_reducible refine bY ?_|with_reducible refine kW ?_|with_reducible refine Ps ?_|with_reducible refine gB ?_|(with_reducible refine eI (v:= ?_) ?_ ?_;rotate_left;(·(intro hq W' h;cases h;simp only[execOp,eS,hq,mbT];(try(simp only[Bool.and_eq_true,Bool.not_eq_true'] at hq;simp only[hq,mbT,Bool.not_false]));go_simp;(try with_reducible rfl)))));(try dsimp only[sS0,sS1]))|(first|(with_reducible refine jU ?_;(try simp only[Bool.not_true,Bool.not_false])))|(with_reducible refine bO ?_)|((fail_if_success (with_reducible refine dY ?_));(with_reducible refine dD ?_))
        go_wp2
        exact⟨⟨⟨ExtC.h⟩,k+1,lk,by push_cast;rfl,by rw[Hm.out],by rw[Hs.out];simp⟩,by simp[RowKit.intOf];omega⟩
       ·have c2':¬xe≤dd:=c2;have hav:Rules.against ⟨dd,(cd:Int),df⟩ ⟨xd,⟨xc,xo⟩,0,xe⟩=0:=by show(if(0:Int)≠0 then(0:Int) else if xe≤dd then 8 else 0)=0;rw[if_neg (by simp),if_neg c2']
        have Ha:=Lib.hid (show saysTo r ⟨dd,(cd:Int),df⟩ (G.take (k+1))=saysTo r ⟨dd,(cd:Int),df⟩ (G.take k)++ [0] by rw[Hn.out,hav])
        have Hm:=Lib.hid (show(saysTo r ⟨dd,(cd:Int),df⟩ (G.take (k+1))).foldl max 3=max mx (0) by rw[Ha.out,List.foldl_append,HM.out];rfl)
        have Hs:=Lib.hid (show decide (0∈saysTo r ⟨dd,(cd:Int),df⟩ (G.take (k+1)))=(sm||decide (0=(0:Int))) by
         rw[Ha.out,←HS.out];simp[List.mem_append,Bool.decide_or])
        clear Hn hav Ha;go_wp2_with (first|(with_reducible refine aG (uu:=12) ?_;intro V12 g12 hE12 hB12 hA12)|(first|(with_reducible refine aA ?_)))
        have hChida:=HCha.out;clear HCha;subst hChida;have e7:decide (dd<xd)= !decide (xd≤dd):=by by_cases h:xd≤dd<;>simp[h]<;>omega
        have e8:=Hc1.out;refine wp_region_lit ?_;(try simp only[pS])
        repeat' first|((first|with_reducible refine cG ?_);first|(rintro _ V ⟨rfl,(_:StepC _ _)⟩;refine⟨_,rfl,?_⟩);(try simp only[pS]))|(with_reducible refine bH ?_)|((with_reducible refine aD ?_);intro Vb g9 _ _ _;(try simp only[pS]))|(((first|with_reducible refine gG ?_|with_reducible refine bY ?_|(with_reducible refine cJ (v:= ?_) ?_ ?_;rotate_left;(·(intro W' h;cases h;infer_instance)))|(with_reducible refine bX (v:= ?_) ?_ ?_;rotate_left;(·(intro W' h;cases h;first|(simp only[execOp,eS];go_simp;(try with_reducible rfl))))));(try dsimp only[sS0,sS1]));(try simp only[e7,e8,Bool.not_true,Bool.not_false]))|(first|(with_reducible refine jU ?_;(try simp only[Bool.not_true,Bool.not_false])))|(with_reducible refine bO ?_)|((fail_if_success (with_reducible refine dY ?_));(with_reducible refine dD ?_))
        clear e7 e8;go_wp2_with (first|(with_reducible refine aA ?_))
        have hChidb:=HChb.out;clear HChb;subst hChidb;refine wp_region_lit ?_;(try simp only[pS])
        repeat' first|((first|with_reducible refine gG ?_|with_reducible refine bY ?_|(with_reducible refine cJ (v:= ?_) ?_ ?_;rotate_left;(·(intro W' h;cases h;infer_instance)))|(with_reducible refine bX (v:= ?_) ?_ ?_;rotate_left;(·(intro W' h;cases h;first|(simp only[execOp,eS];go_simp;(try with_reducible rfl))))));(try dsimp only[sS0,sS1]))|(first|(with_reducible refine dI ?_))|(with_reducible refine bO ?_)|((fail_if_success (with_reducible refine dY ?_));(with_reducible refine dD ?_))
        go_wp2
        have hChidc:=HChc.out;clear HChc;subst hChidc;refine wp_region_lit ?_;(try simp only[pS])
        repeat' first|((first|with_reducible refine bY ?_|with_reducible refine kW ?_|with_reducible refine Ps ?_|with_reducible refine gB ?_|(with_reducible refine eI (v:= ?_) ?_ ?_;rotate_left;(·(intro hq W' h;cases h;simp only[execOp,eS,hq,mbT];(try(simp only[Bool.and_eq_true,Bool.not_eq_true'] at hq;simp only[hq,mbT,Bool.not_false]));go_simp;(try with_reducible rfl)))));(try dsimp only[sS0,sS1]))|(first|(with_reducible refine jU ?_;(try simp only[Bool.not_true,Bool.not_false])))|(with_reducible refine bO ?_)|((fail_if_success (with_reducible refine dY ?_));(with_reducible refine dD ?_))
        go_wp2
        exact⟨⟨⟨ExtC.h⟩,k+1,lk,by push_cast;rfl,by rw[Hm.out],by rw[Hs.out];simp⟩,by simp[RowKit.intOf];omega⟩
      ·have q8:(xr==0)=false:=by simpa using z
       have hav:Rules.against ⟨dd,(cd:Int),df⟩ ⟨xd,⟨xc,xo⟩,xr,xe⟩=xr:=by show(if xr≠0 then xr else if xe≤dd then 8 else 0)=xr;rw[if_pos z]
       have Ha:=Lib.hid (show saysTo r ⟨dd,(cd:Int),df⟩ (G.take (k+1))=saysTo r ⟨dd,(cd:Int),df⟩ (G.take k)++ [xr] by rw[Hn.out,hav])
       have Hm:=Lib.hid (show(saysTo r ⟨dd,(cd:Int),df⟩ (G.take (k+1))).foldl max 3=max mx (xr) by rw[Ha.out,List.foldl_append,HM.out];rfl)
       have Hs:=Lib.hid (show decide (0∈saysTo r ⟨dd,(cd:Int),df⟩ (G.take (k+1)))=(sm||decide (0=(xr:Int))) by
        rw[Ha.out,←HS.out];simp[List.mem_append,Bool.decide_or])
       clear Hn hav Ha;go_wp2_with (first|(with_reducible refine aG (uu:=12) ?_;intro V12 g12 hE12 hB12 hA12)|(first|(with_reducible refine aA ?_)))
       have hChida:=HCha.out;clear HCha;subst hChida;have e7:decide (dd<xd)= !decide (xd≤dd):=by by_cases h:xd≤dd<;>simp[h]<;>omega
       have e8:=Hc1.out;refine wp_region_lit ?_;(try simp only[pS])
       repeat' first|((first|with_reducible refine cG ?_);first|(rintro _ V ⟨rfl,(_:StepC _ _)⟩;refine⟨_,rfl,?_⟩);(try simp only[pS]))|(with_reducible refine bH ?_)|((with_reducible refine aD ?_);intro Vb g9 _ _ _;(try simp only[pS]))|(((first|with_reducible refine gG ?_|with_reducible refine bY ?_|(with_reducible refine cJ (v:= ?_) ?_ ?_;rotate_left;(·(intro W' h;cases h;infer_instance)))|(with_reducible refine bX (v:= ?_) ?_ ?_;rotate_left;(·(intro W' h;cases h;first|(simp only[execOp,eS];go_simp;(try with_reducible rfl))))));(try dsimp only[sS0,sS1]));(try simp only[e7,e8,Bool.not_true,Bool.not_false]))|(first|(with_reducible refine jU ?_;(try simp only[Bool.not_true,Bool.not_false])))|(with_reducible refine bO ?_)|((fail_if_success (with_reducible refine dY ?_));(with_reducible refine dD ?_))
       clear e7 e8;go_wp2_with (first|(with_reducible refine aA ?_))
       have hChidb:=HChb.out;clear HChb;subst hChidb;refine wp_region_lit ?_;(try simp only[pS])
       repeat' first|((first|with_reducible refine bY ?_|with_reducible refine lJ ?_|(with_reducible refine bX (v:= ?_) ?_ ?_;rotate_left;(·(intro W' h;cases h;first|(simp only[execOp,eS];go_simp;(try with_reducible rfl))))));(try dsimp only[sS0,sS1]))|(first|(with_reducible refine dI ?_))|(with_reducible refine bO ?_)|((fail_if_success (with_reducible refine dY ?_));(with_reducible refine dD ?_))
       go_wp2
       have hChidc:=HChc.out;clear HChc;subst hChidc;refine wp_region_lit ?_;(try simp only[pS])
       repeat' first|((first|with_reducible refine bY ?_|with_reducible refine kW ?_|with_reducible refine Ps ?_|with_reducible refine gB ?_|(with_reducible refine eI (v:= ?_) ?_ ?_;rotate_left;(·(intro hq W' h;cases h;simp only[execOp,eS,hq,mbT];(try(simp only[Bool.and_eq_true,Bool.not_eq_true'] at hq;simp only[hq,mbT,Bool.not_false]));go_simp;(try with_reducible rfl)))));(try dsimp only[sS0,sS1]))|(first|(with_reducible refine jU ?_;(try simp only[Bool.not_true,Bool.not_false])))|(with_reducible refine bO ?_)|((fail_if_success (with_reducible refine dY ?_));(with_reducible refine dD ?_))
       go_wp2
       exact⟨⟨⟨ExtC.h⟩,k+1,lk,by push_cast;rfl,by rw[Hm.out],by rw[Hs.out];simp[Ne.symm z]⟩,by simp[RowKit.intOf];omega⟩
   ·obtain rfl:k=G.length:=by omega
    rw[List.take_length] at hmx hsm;have hF:=HR.out;rw[hmx] at hF;have hF2:(if sm=true then(0:Int) else mx)=R:=by
     rw[←hF,←hsm];simp only[decide_eq_true_eq]
    have HF:=Lib.hid hF2;clear hF hF2 hmx hsm
    cases sm
    all_goals
     go_wp2
     go_ret
     exact⟨by rw[←HF.out];rfl,⟨ExtC.h⟩⟩
 ·rw[if_pos hb] at hR;subst hR;have q3:(nb !=0)=true:=by simpa using hb
  clear hz hnb hb hd;go_enter Tryz.func78,Tryz.ntmps78
  go_wp2_with (first|(with_reducible refine aA ?_)|(with_reducible refine aB ?_;first|rintro _ V ⟨rfl,(_:StepC _ _)⟩)|(with_reducible refine aH ?_;intro V g _ _ _))
  go_ret
  exact⟨rfl,⟨ExtC.h⟩⟩
instance qRSr17{W:World}{v pv:Value}{r:Rules}{p:Person}{dd dc df R:Int}[h:RulesC W v r][hp:PersonC W pv p][q:RWhyE r p ⟨dd,dc,df⟩ R]:FunC Tryz.prog 78 #[v,pv,.agg #[.int .i64 dd,.int .i64 dc,.int .i64 df]] W (RI W R):=⟨Ih r p v pv dd dc df R W h.h hp.h q.h.1 q.h.2.1 q.h.2.2⟩
class RWhyAE (r:Rules) (p:Person) (d:Drive) (m n:outParam Int):Prop where h:r.whyAns p d=(m,n)
theorem Iu(r:Rules)(p:Person)(v pv:Value)(dd dc df m n:Int)(w:World)(h:RulesV w v r)(hp:PersonV w pv p)(hs:r.whyAns p ⟨dd,dc,df⟩=(m,n)):Calls Tryz.prog 31 #[v,pv,.agg #[.int .i64 dd,.int .i64 dc,.int .i64 df]] w (RII w m n):=by
 have i1:=RulesB.mk h;have i2:=PersonB.mk hp;obtain⟨A1,n1,c1,A2,c2,A3,c3,rfl,hn1,-⟩:=h.h;subst hn1;obtain⟨A,c,rfl,hl⟩:=hp.h;unfold Rules.whyAns at hs;by_cases hz:r.personErr p=0
 ·rw[if_neg (by simp[hz])] at hs
  have i4:=RPerE.mk hz;have i9:CntC r.sys:=kH (Rules.ok_of (Rules.person_ok hz).1).check;by_cases hd:r.driveErr p ⟨dd,dc,df⟩=0
  ·rw[if_neg (by simp[hd])] at hs
   injection hs with m1 m2
   have i5:=RDrvE.mk hd;have i6:RWhyE r p ⟨dd,dc,df⟩ m:=⟨hz,hd,m1⟩;subst m2;clear hz hd m1;go_enter Tryz.func31,Tryz.ntmps31
   go_wp2_with (first|(with_reducible refine aA ?_)|(with_reducible refine aB ?_;first|rintro _ V ⟨rfl,(_:StepC _ _)⟩)|(with_reducible refine aH ?_;intro V g _ _ _))
   go_ret2
   exact⟨rfl,⟨ExtC.h⟩⟩
  ·rw[if_pos hd] at hs;injection hs with m1 m2
   subst m1 m2;obtain⟨er,her⟩:∃e,r.driveErr p ⟨dd,dc,df⟩=e:=⟨_,rfl⟩;have i5:=RDrvE.mk her;rw[her] at hd⊢;have q:(er !=0)=true:=by simpa using hd
   clear hz hd her;go_enter Tryz.func31,Tryz.ntmps31
   go_wp2_with (first|(with_reducible refine aA ?_)|(with_reducible refine aB ?_;first|rintro _ V ⟨rfl,(_:StepC _ _)⟩)|(with_reducible refine aH ?_;intro V g _ _ _))
   go_ret2
   exact⟨rfl,⟨ExtC.h⟩⟩
 ·rw[if_pos hz] at hs;injection hs with m1 m2
  subst m1 m2;obtain⟨er,her⟩:∃e,r.personErr p=e:=⟨_,rfl⟩;have i4:=RPerE.mk her;rw[her] at hz⊢;have q:(er !=0)=true:=by simpa using hz
  have q2:(er==0)=false:=by simpa using hz
  clear hz her;go_enter Tryz.func31,Tryz.ntmps31
  go_wp2_with (first|(with_reducible refine aA ?_)|(with_reducible refine aB ?_;first|rintro _ V ⟨rfl,(_:StepC _ _)⟩)|(with_reducible refine aH ?_;intro V g _ _ _))
  go_ret2
  exact⟨rfl,⟨ExtC.h⟩⟩
instance qRSr21{W:World}{v pv:Value}{r:Rules}{p:Person}{dd dc df m n:Int}[h:RulesC W v r][hp:PersonC W pv p][q:RWhyAE r p ⟨dd,dc,df⟩ m n]:FunC Tryz.prog 31 #[v,pv,.agg #[.int .i64 dd,.int .i64 dc,.int .i64 df]] W (RII W m n):=⟨Iu r p v pv dd dc df m n W h.h hp.h q.h⟩
end Go.Rg
end
