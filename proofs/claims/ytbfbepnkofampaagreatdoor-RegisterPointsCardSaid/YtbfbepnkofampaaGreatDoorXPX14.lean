import Derived.Test.YtbfbepnkofampaaGreatDoorXP25
import Derived.Test.YtbfbepnkofampaaGreatDoorXPX13
set_option maxRecDepth 100000
set_option synthInstance.maxSize 2000
set_option synthInstance.maxHeartbeats 400000
set_option maxHeartbeats 8000000
set_option linter.all false
section
namespace Go.Rg
open Go Go.Bp Go.RowKit Go.Walk Go.Proofs
class RGrnE (r:Rules) (p:Person) (G:outParam (List Grant)):Prop where h:r.personErr p=0∧r.grantsR p.born (sortE p.events) (sortE p.events) []=G
theorem pT{r:Rules}(ho:r.Ok){c:Nat}(hc:c<r.sys.classes.length): -1≤(r.sys.at_ (c:Int)).needs∧(r.sys.at_ (c:Int)).needs<r.sys.classes.length:=by
 have e:r.sys.at_ (c:Int)=r.sys.classes[c]:=Sys.at_eq hc;rw[e];have:=Sys.clsErr_0 (ho.sys.cls _ hc);have:=inB_t.1 this.2.2.2.1;omega
class SysOk1 (r:Rules):Prop where
 k:CntC r.sys
 i:r.sys.InclOk
set_option maxHeartbeats 64000000 in
theorem wG(r:Rules)(p:Person)(v pv:Value)(G:List Grant)(w:World)(h:RulesV w v r)(hp:PersonV w pv p)(hz:r.personErr p=0)(hG:r.grantsR p.born (sortE p.events) (sortE p.events) []=G):Calls Tryz.prog 73 #[v,pv] w (RL w G):=by
 have i1:=RulesB.mk h;have i2:=PersonB.mk hp;obtain⟨A1,n1,c1,A2,c2,A3,c3,rfl,hn1,hC,-,hT⟩:=h.h;subst hn1;obtain⟨A,c,rfl,hl⟩:=hp.h;have i3:=ListB.mk hl;have i4:=ListB.mk hT;have hlen:p.events.length≤30:=kM hz;have i5:LenC2 p.events:=⟨by omega⟩
 have i6:EvsC r (sortE p.events):=⟨Rules.evs_ok hz⟩;have i7:LenC2 (sortE p.events):=⟨by have:=sortE_len p.events;omega⟩
 have htb:=(Rules.taken_both hz).1;have Hal:=Lib.hid (show courts (sortE p.events)++(r.takenR (sortE p.events)).2=r.bansOf (sortE p.events) by rw[htb];rfl)
 have hbl:(r.takenR (sortE p.events)).2.length≤1000:=by
  have:=(Rules.takenK_len (r:=r) (sortE p.events) (sortE p.events).length).2;rw[Rules.takenK_all] at this;have:=i7.h;omega
 have hcl:(courts (sortE p.events)).length≤1000:=Nat.le_trans (Bh _) i7.h;obtain⟨hck,hbn,_,hpe⟩:=Rules.person_ok hz;have ho:=Rules.ok_of hck;have HO:=Lib.hid ho;have HP:=Lib.hid (show∀x∈sortE p.events,r.eventErr p.born x=0 from fun x hx=>hpe x ((cZ _ _).1 hx))
 clear htb hz hck hpe ho;go_enter Tryz.func73,Tryz.ntmps73
 go_wp2_with (first|(with_reducible refine aH (d:=some 2) ?_;intro V2 g2 hE2 hB2 hA2)|(with_reducible refine aH (d:=some 3) ?_;intro V3 g3 hE3 hB3 hA3)|(with_reducible refine aB ?_;rintro _ Vs ⟨As,cs,rfl,(_:RowC _ _ _ 80 _ _ _),(_:StepC _ _)⟩)|(with_reducible refine aB ?_;rintro _ Vt ⟨gt,At,ct,rfl,(_:BlkC _ _ _ _),(_:ListB Span _ _ _),(_:StepC _ _)⟩)|(with_reducible refine aB ?_;rintro _ Vc ⟨Ac,cc,rfl,(_:RowC _ _ _ 95 2 _ _),(_:StepC _ _)⟩)|(with_reducible refine kK ?_;intro A9 c9 Va hR hG9)|(first|(with_reducible refine aA ?_)))
 obtain⟨W1,rfl⟩:∃W1,W1=Va:=⟨Va,rfl⟩;have hls:ListV W1 (.slice As (sortE p.events).length cs) (sortE p.events):=(inferInstance:RowC W1 (.slice As (sortE p.events).length cs) _ 80 9 _ _).list rfl rfl rfl;have hall:ListV W1 (.slice A9 ((courts (sortE p.events)).length+(r.takenR (sortE p.events)).2.length) c9) (r.bansOf (sortE p.events)):=by
  rw[←Hal.out];exact hR.list (by rw[Walk.encL_app]) rfl (by simp)
 have hw1:Ext w W1:=ExtC.h;have hb2:BlkC W1 g2 28 [.slice A1 r.sys.classes.length c1,.slice A2 r.sys.codes.length c2,.slice A3 r.treaties.length c3,.int .i64 r.limit,.int .i64 r.fall,.int .i64 r.ban]:=inferInstance;have hb3:BlkC W1 g3 31 [.int .i64 p.born,.slice A p.events.length c]:=inferInstance;have hsl:=i7.h;obtain⟨na,hna⟩:∃x,(courts (sortE p.events)).length+(r.takenR (sortE p.events)).2.length=x:=⟨_,rfl⟩;simp only[hna] at hall⊢;obtain⟨l,hle⟩:∃l,sortE p.events=l:=⟨_,rfl⟩;rw[hle] at hG hls hall HP hsl;simp only[hle];obtain⟨all,hal⟩:∃x,r.bansOf l=x:=⟨_,rfl⟩;rw[hal] at hall;have Hal2:=Lib.hid hal;have HGa:=Lib.hid (show r.grK p.born l l.length=G by unfold Rules.grK;rw[List.take_length];exact hG)
 have k1:=ListB.mk hls;have k2:=ListB.mk hall;have j1:=StepC.mk hw1;have hl30:l.length≤30:=by rw[←hle];exact Nat.le_trans (sortE_len _) hlen
 have hlc:=hls.caps.2;clear hR hG9 hna hal hle hG Hal i6 i7 hbl hcl hw1;obtain⟨m,hm1,hm2,-⟩:=hC.h;have hml:m.length=r.sys.classes.length:=by rw[←hm1,List.length_map]
 have Hml:=Lib.hid hml;have Hat:=Lib.hid (show∀j(hj:j<m.length),r.sys.at_ (j:Int)=m[j].c from fun j hj=>by rw[Sys.at_eq (by omega)];simp[←hm1])
 have hcap1:=hm2.caps.2;have i9:SysOk1 r:=⟨kH HO.out.check,HO.out.sys.incl⟩;clear hC hm1 hml;go_loopw [10,9] (fun iv gv wr=>StepC W1 wr∧∃(k:Nat)(o:List Grant)(A4:Option Addr)(c4:Nat),k≤l.length∧iv=.int .i64 k∧o=r.grK p.born l k∧gv=.slice A4 o.length c4∧RowC wr (.slice A4 o.length c4) W1 143 5 o.length (encL o)∧o.length≤k∧∀g∈o,∃c:Nat,g.right.cls=c∧c<r.sys.classes.length) (fun iv _ _=>l.length-(RowKit.intOf iv).toNat)
 case atStart=>exact⟨⟨Ext.refl _⟩,0,[],none,0,by omega,rfl,rfl,rfl,RowC.nil,by simp,by simp⟩
 case round=>
  obtain⟨_,k,o,A4,c4,hk,rfl,hok,rfl,hR,hol,hgc⟩:=hrel;obtain⟨W2,rfl⟩:∃W2,W2=wr:=⟨wr,rfl⟩;by_cases lk:k<l.length
  ·obtain⟨ad,rfl,ha⟩:=hls.elem lk;have herr:=HP.out _ (List.getElem_mem lk);obtain⟨⟨xk,xd,⟨xc,xo⟩,xt,xq,xp,xu,xm⟩,hx⟩:∃x,l[k]=x:=⟨_,rfl⟩;have hsu:=Rules.grK_succ (r:=r) p.born l lk hx;rw[←hok] at hsu;rw[hx] at ha herr;have i8:CellsB W1 (ad.add (k*9)) [.int .i64 xk,.int .i64 xd,.int .i64 xc,.int .i64 xo,.int .i64 xt,.int .i64 xq,.int .i64 xp,.int .i64 xu,.int .i64 xm]:=⟨ha⟩;have hsh:=bI herr;have hd0:=hsh.1.1;have hd1:=hsh.1.2.1;simp only at hd0 hd1 hsu;have zk:IntKind.i64.wrap ((k:Int)+1)=(k:Int)+1:=IntWalk.i64_in _ (by omega)
   have Hre:=Lib.hid (fun hk=>Rules.right_event HO.out herr hk)
   have Hsh:=Lib.hid hsh.2;have Hsu:=Lib.hid hsu;have Hgc:=Lib.hid hgc;have Hok:=Lib.hid hok;clear ha hx herr hsh hsu hok hgc;obtain⟨hc,hChid⟩:∃f:Nat→Array Oper→Bool→Go.Code,f=Go.Code.region:=⟨_,rfl⟩;rw[show Go.Code.region 11=hc 11 by rw[hChid]]
   have HCh:=Lib.hid hChid;clear hChid;by_cases kz:xk=0
   ·subst kz;have hro:r.rightOf ⟨0,xd,⟨xc,xo⟩,xt,xq,xp,xu,xm⟩=⟨xc,xo⟩:=rfl;have hre:=Hre.out (by simp)
    rw[hro] at hre;have hri:=(Sys.right_in hre).1;simp only at hri;obtain⟨cn,rfl⟩:∃cn:Nat,xc=(cn:Int):=⟨(xc).toNat,by omega⟩
    have hcn:cn<r.sys.classes.length:=by omega
    have hcm:cn<m.length:=by have:=Hml.out;omega
    obtain⟨cd,rfl,hcc⟩:=hm2.elem hcm;have hat:=Hat.out cn hcm;have hnd:=pT HO.out hcn;obtain⟨⟨⟨nm,ic,ne,ag,te⟩,xa,xk2⟩,hq⟩:∃y,m[cn]=y:=⟨_,rfl⟩;rw[hq] at hcc hat;simp only at hat;have i11:CellsB w (cd.add (cn*5)) [.string nm,.slice xa ic.length xk2,.int .i64 ne,.int .i64 ag,.int .i64 te]:=⟨hcc⟩;obtain⟨re,hrr⟩:∃e,reasonW r p.born all o ⟨0,xd,⟨(cn:Int),xo⟩,xt,xq,xp,xu,xm⟩ ⟨(cn:Int),xo⟩=e:=⟨_,rfl⟩;have i12:RRsnE r p.born all o ⟨0,xd,⟨(cn:Int),xo⟩,xt,xq,xp,xu,xm⟩ ⟨(cn:Int),xo⟩ re:=⟨⟨⟨cn,rfl,hcn⟩,(fun h=>absurd (show(0:Int)=1 from h) (by decide)),hnd,Hgc.out,i9.k,i9.i⟩,hrr⟩
    obtain⟨e0,he0⟩:∃e,endT xd te=e:=⟨_,rfl⟩;have i13:REndE xd te e0:=⟨he0⟩;obtain⟨cw,hcw⟩:∃b,((re==0)&&decide (te>0))=b:=⟨_,rfl⟩;have hcw2:(re=0∧0<te)↔cw=true:=by rw[←hcw];simp
    have hrs:r.reasonOf p.born l o ⟨0,xd,⟨(cn:Int),xo⟩,xt,xq,xp,xu,xm⟩ ⟨(cn:Int),xo⟩=re:=by rw[Rules.reason_eq,Hal2.out,hrr]
    have hte:(r.sys.at_ (cn:Int)).term=te:=by rw[hat]
    have HN:=Lib.hid (show r.grK p.born l (k+1)=o++ [⟨xd,⟨(cn:Int),xo⟩,re,if cw=true then r.renewedR l ⟨(cn:Int),xo⟩ xd l e0 else e0⟩] from by
     have e1:=Hsu.out.trans (if_pos (by simp))
     rw[e1,hro];unfold Rules.endR;rw[hro,hrs,Rules.endOf_T];simp only[hte,he0];by_cases z:re=0∧0<te
     ·rw[if_pos z,if_pos (hcw2.1 z)]
     ·rw[if_neg z,if_neg (fun h=>z (hcw2.2 h))])
    have Hcw:=Lib.hid hcw;have HT:=Lib.hid hte;clear Hre Hsh Hsu hre hri hq hcc hat hrr he0 hcw hcw2 hrs hte hcm hnd;go_wp2_with (first|(with_reducible refine aG (uu:=11) ?_;intro V11 g11 hE11 hB11 hA11)|(first|(with_reducible refine aA ?_)))
    have hChid:=HCh.out;clear HCh;subst hChid;refine wp_region_lit ?_;(try simp only[pS])
    repeat' first|((first|with_reducible refine bY ?_|with_reducible refine lJ ?_|(with_reducible refine cJ (v:= ?_) ?_ ?_;rotate_left;(·(intro W' h;cases h;infer_instance)))|(with_reducible refine bX (v:= ?_) ?_ ?_;rotate_left;(·(intro W' h;cases h;first|(simp only[execOp,eS];go_simp;(try with_reducible rfl))))));(try dsimp only[sS0,sS1]))|(first|(with_reducible refine dI ?_))|(with_reducible refine bO ?_)|((fail_if_success (with_reducible refine dY ?_));(with_reducible refine dD ?_))
    go_wp2
    refine kL [12,69,70,71,72,73,74,75,76,77,78,79,80,81,82,83,84,85,86] (fun x W'=>∃g12,x 12=.pointer (some ⟨g12,0,none⟩)∧AtC V11 g12∧BlkC W' g12 143 [.int .i64 xd,.int .i64 cn,.int .i64 xo,.int .i64 re,.int .i64 0]∧∃Va,StepC V11 Va∧StoreC Va W' g12) ?h12a ?k12a
    case h12a=>
     refine dA ((.take 0 (.take 1 (.take 2 (.take 3 (.take 4 (.take 5 (.take 6 (.take 7 (.take 8 (.take 9 (.take 10 (.take 11 (.take 12 (.take 13 (.take 14 (.take 15 (.two 16 (.take 17 (.one 18 (.one 19 .nil))) 18 (.one 16 (.take 17 (.one 19 .nil))))))))))))))))))))) (fun w'=>Ext V11 w') ?_ (fun hHd=> ?_) (hQ:=by intro _ _ _ _ _ h;exact absurd h.1 (fun e=>by cases e))
     ·exact ExtC.h
     repeat' first|((first|with_reducible refine bY ?_|(with_reducible refine cJ (v:= ?_) ?_ ?_;rotate_left;(·(intro W' h;have:=StepC.mk h;infer_instance)))|(with_reducible refine bX (v:= ?_) ?_ ?_;rotate_left;(·(intro W' h;have:=StepC.mk h;first|(simp only[execOp,eS];go_simp;(try with_reducible rfl))))));(try dsimp only[sS0,sS1]))|(with_reducible refine eT hHd ?_)|((with_reducible refine bC ?_);refine aQ (by simp only[gS];rfl) ?_)|((with_reducible refine gK ?_);refine dV (by simp only[gS];rfl) (by simp only[gS];rfl) ?_ ?_)|((with_reducible refine aN ?_);(rintro _ Vr ⟨rfl,(_:StepC _ _)⟩;refine⟨_,rfl,?_⟩))|(with_reducible refine aR (d:=some 12) ?_;intro V12 g12 hE12 hB12 hA12)|(with_reducible refine aI ?_;intro Vs hS hSB)|((with_reducible refine bD ?_);clear hHd;refine aM ExtC.h (fun hHd=> ?_);(try simp only[pS]))|(with_reducible refine aF ?_)
     all_goals
      refine⟨rfl,eC ?_ ⟨g12,rfl,⟨Nat.le_trans (ExtC.h:Ext V11 _).size hA12.h⟩,inferInstance,_,⟨ExtC.h⟩,hS⟩⟩;simp only[Act.sets,Act.put,List.foldl_cons,List.foldl_nil,List.setIfInBounds_toArray,List.set_cons_zero,List.set_cons_succ,Act.get];rfl
    rintro x12 W12 ⟨g12,hx12,(hA12:AtC _ _),(_:BlkC _ _ _ _),Va12,(_:StepC _ _),(_:StoreC _ _ _)⟩;simp only[Act.sets,Act.put,List.foldl_cons,List.foldl_nil,List.setIfInBounds_toArray,List.set_cons_zero,List.set_cons_succ,hx12];as_aux_lemma=>
    go_wp2_with (first|(with_reducible refine aI ?_;intro V14 hS14 hB14)|(first|(with_reducible refine aA ?_)|(with_reducible refine aB ?_;first|rintro _ V13 ⟨rfl,(_:StepC _ _)⟩)))
    obtain⟨e,he⟩:∃e,e=e0:=⟨_,rfl⟩;have HT0:=Lib.hid (show r.renewedR l ⟨(cn:Int),xo⟩ xd (l.take 0) e0=e0 from rfl)
    go_loopw [14] (fun jv wr=>V14.grownBy wr (some g12)∧∃(j:Nat)(e:Int),j≤l.length∧jv=.int .i64 j∧(cw=true∨j=0)∧e=r.renewedR l ⟨(cn:Int),xo⟩ xd (l.take j) e0∧Blk wr g12 143 #[.int .i64 xd,.int .i64 cn,.int .i64 xo,.int .i64 re,.int .i64 e]) (fun jv _=>l.length-(RowKit.intOf jv).toNat)
    case atStart=>exact⟨grown_of_ext (Ext.refl _),0,e0,by omega,rfl,.inr rfl,HT0.out.symm,hB14.h⟩
    case round=>
     clear he e;obtain⟨hg6,j,e,hj,rfl,hcj,hej,hB6⟩:=hrel;have hs6:StoreC V14 wr g12:=⟨hg6⟩;have k6:BlkC wr g12 143 [.int .i64 xd,.int .i64 cn,.int .i64 xo,.int .i64 re,.int .i64 e]:=⟨hB6⟩;have Hcj:=Lib.hid hcj;have Hej:=Lib.hid hej;clear hcj hej;obtain⟨hcs,hChids⟩:∃f:Nat→Array Oper→Bool→Go.Code,f=Go.Code.region:=⟨_,rfl⟩;rw[show Go.Code.region 16=hcs 16 by rw[hChids]]
     have HChs:=Lib.hid hChids;clear hChids;by_cases lj:j<l.length
     ·cases cw
      ·have HF:=Lib.hid (show r.grK p.born l (k+1)=o++ [⟨xd,⟨(cn:Int),xo⟩,re,e⟩] from by
        rw[HN.out];have h0:j=0:=by rcases Hcj.out with h|h;cases h;exact h
        have e2:=Hej.out;rw[h0] at e2;rw[e2,HT0.out];simp)
       go_wp2
       have hChids:=HChs.out;clear HChs;subst hChids;refine wp_region_lit ?_;(try simp only[pS])
       repeat' first|((first|with_reducible refine gG ?_|with_reducible refine bY ?_|with_reducible refine iV ?_|with_reducible refine gB ?_|(with_reducible refine cJ (v:= ?_) ?_ ?_;rotate_left;(·(intro W' h;cases h;infer_instance)))|(with_reducible refine bX (v:= ?_) ?_ ?_;rotate_left;(·(intro W' h;cases h;first|(simp only[execOp,eS];go_simp;(try with_reducible rfl)))))|(with_reducible refine eI (v:= ?_) ?_ ?_;rotate_left;(·(intro hq W' h;cases h;simp only[execOp,eS,hq,mbT];(try(simp only[Bool.and_eq_true,Bool.not_eq_true'] at hq;simp only[hq,mbT,Bool.not_false]));go_simp;(try with_reducible rfl)))));(try dsimp only[sS0,sS1]))|(first|(with_reducible refine dI ?_))|(with_reducible refine bO ?_)|((fail_if_success (with_reducible refine dY ?_));(with_reducible refine dD ?_))
       have e1:=Hcw.out;(try simp only[e1])
       clear e1;go_wp2_with (first|(with_reducible refine bR ?_;intro A5 c5 V5 hR5 hG5)|(first|(with_reducible refine aA ?_)|(with_reducible refine aD ?_;intro V g _ _ _)))
       obtain⟨A8,c8,e8,h8⟩:=cV HF.out hR5;exact⟨⟨⟨ExtC.h⟩,k+1,_,A8,c8,lk,by push_cast;rfl,rfl,e8,h8,by rw[HF.out];simp;omega,by
        rw[HF.out];intro g hg;rcases List.mem_append.1 hg with hg|hg
        ·exact Hgc.out g hg
        ·simp at hg;subst hg;exact⟨cn,rfl,hcn⟩⟩,by simp[RowKit.intOf];omega⟩
      ·obtain⟨_,e1,hbz⟩:=hls.elem lj
       cases e1
       obtain⟨⟨zk2,zd,⟨zc,zo⟩,zt,zq,zp,zu,zm⟩,hz⟩:∃x,l[j]=x:=⟨_,rfl⟩;have hsj:=Rules.renewed_succ (r:=r) l ⟨(cn:Int),xo⟩ xd e0 lj hz;rw[←Hej.out] at hsj;rw[hz] at hbz;simp only at hsj;have k7:CellsB W1 (ad.add (j*9)) [.int .i64 zk2,.int .i64 zd,.int .i64 zc,.int .i64 zo,.int .i64 zt,.int .i64 zq,.int .i64 zp,.int .i64 zu,.int .i64 zm]:=⟨hbz⟩;have zj:IntKind.i64.wrap ((j:Int)+1)=(j:Int)+1:=IntWalk.i64_in _ (by omega)
       obtain⟨e2,he2⟩:∃e2,endT zd te=e2:=⟨_,rfl⟩;have k8:REndE zd te e2:=⟨he2⟩;obtain⟨b5,h5⟩:∃b,hasDay all zd=b:=⟨_,rfl⟩;obtain⟨c4',h4⟩:∃b,((((zk2==2)&&(zq==(cn:Int)))&&decide (xd≤zd))&&decide (zd<e))=b:=⟨_,rfl⟩;have HS:=Lib.hid (show r.renewedR l ⟨(cn:Int),xo⟩ xd (l.take (j+1)) e0=if(c4'&& !b5)=true then e2 else e from by
        rw[hsj,Rules.endOf_T,HT.out,he2];have hbn:r.bannedBy l zd=0↔b5=false:=by
         have:=Rules.banned_iff (r:=r) l zd;rw[Hal2.out,h5] at this
         cases b5
         ·simp at this⊢;exact this
         ·simp at this⊢;exact this
        rw[←h4];simp only[hbn,Bool.and_eq_true,beq_iff_eq,decide_eq_true_eq,Bool.not_eq_true',and_assoc])
       have H4:=Lib.hid h4;have H5:=Lib.hid h5;have hg6':=Lib.hid hg6;clear hsj hbz hz he2 h4 h5 hg6 Hej;go_wp2
       have hChids:=HChs.out;clear HChs;subst hChids;refine wp_region_lit ?_;(try simp only[pS])
       repeat' first|((first|with_reducible refine gG ?_|with_reducible refine bY ?_|with_reducible refine iV ?_|with_reducible refine gB ?_|(with_reducible refine cJ (v:= ?_) ?_ ?_;rotate_left;(·(intro W' h;cases h;infer_instance)))|(with_reducible refine bX (v:= ?_) ?_ ?_;rotate_left;(·(intro W' h;cases h;first|(simp only[execOp,eS];go_simp;(try with_reducible rfl)))))|(with_reducible refine eI (v:= ?_) ?_ ?_;rotate_left;(·(intro hq W' h;cases h;simp only[execOp,eS,hq,mbT];(try(simp only[Bool.and_eq_true,Bool.not_eq_true'] at hq;simp only[hq,mbT,Bool.not_false]));go_simp;(try with_reducible rfl)))));(try dsimp only[sS0,sS1]))|(first|(with_reducible refine dI ?_))|(with_reducible refine bO ?_)|((fail_if_success (with_reducible refine dY ?_));(with_reducible refine dD ?_))
       have e1:=Hcw.out;(try simp only[e1])
       clear e1;go_wp2
       cases c4'
       ·have HS2:=Lib.hid (show r.renewedR l ⟨(cn:Int),xo⟩ xd (l.take (j+1)) e0=e by rw[HS.out];rfl)
        have e4:=H4.out;refine aP ((.take 0 (.take 1 (.take 2 (.take 3 (.take 4 (.take 5 (.take 6 (.take 7 (.take 8 (.take 9 (.take 10 (.take 11 (.take 12 (.take 13 (.take 14 (.take 15 (.take 16 (.take 17 (.take 18 (.take 19 (.take 20 (.take 21 (.take 22 (.take 23 (.take 24 (.take 25 (.take 26 (.take 27 (.take 28 (.take 29 (.take 30 (.take 31 (.take 32 (.take 33 (.take 34 (.take 35 (.take 36 (.take 37 (.take 38 (.take 39 (.take 40 (.take 41 (.take 42 (.one 43 (.take 44 (.take 45 .nil))))))))))))))))))))))))))))))))))))))))))))))) (fun hHd=> ?_) (hQ:=by intro _ _ _ _ _ h;exact h)
        repeat' first|((with_reducible refine iV ?_);(try dsimp only[sS0,sS1]);(try simp only[e4]))|((first|with_reducible refine bY ?_|with_reducible refine lJ ?_|with_reducible refine gB ?_|(with_reducible refine cJ (v:= ?_) ?_ ?_;rotate_left;(·(intro W' h;have:=StepC.mk h;infer_instance)))|(with_reducible refine jJ (v:= ?_) ?_ ?_;rotate_left;(·(intro hq W' h;have:=StepC.mk h;infer_instance)))|(with_reducible refine bX (v:= ?_) ?_ ?_;rotate_left;(·(intro W' h;have:=StepC.mk h;first|(simp only[execOp,eS];go_simp;(try with_reducible rfl)))))|(with_reducible refine eI (v:= ?_) ?_ ?_;rotate_left;(·(intro hq W' h;have:=StepC.mk h;simp only[execOp,eS,hq,mbT];(try(simp only[Bool.and_eq_true,Bool.not_eq_true'] at hq;simp only[hq,mbT,Bool.not_false]));go_simp;(try with_reducible rfl)))));(try dsimp only[sS0,sS1]))|(first|(with_reducible refine dI ?_))|(with_reducible refine eT hHd ?_)|((with_reducible refine bC ?_);refine aQ (by simp only[gS];rfl) ?_)|(with_reducible refine fO ?_)|((with_reducible refine bD ?_);clear hHd;refine aM ExtC.h (fun hHd=> ?_);(try simp only[pS]))|(with_reducible refine aF ?_)
        clear e4;go_wp2
        go_roundw
        case rel=>exact⟨hg6'.out.ext' ExtC.h,j+1,e,lj,by push_cast;rfl,(by first|exact .inl trivial),HS2.out.symm,(inferInstance:BlkC _ g12 143 [.int .i64 xd,.int .i64 cn,.int .i64 xo,.int .i64 re,.int .i64 e]).h⟩
        case measure=>simp[RowKit.intOf];omega
       ·have e4:=H4.out;refine aP ((.take 0 (.take 1 (.take 2 (.take 3 (.take 4 (.take 5 (.take 6 (.take 7 (.take 8 (.take 9 (.take 10 (.take 11 (.take 12 (.take 13 (.take 14 (.take 15 (.take 16 (.take 17 (.take 18 (.take 19 (.take 20 (.take 21 (.take 22 (.take 23 (.take 24 (.take 25 (.take 26 (.take 27 (.take 28 (.take 29 (.take 30 (.take 31 (.take 32 (.take 33 (.take 34 (.take 35 (.take 36 (.take 37 (.take 38 (.take 39 (.take 40 (.take 41 (.take 42 (.one 43 (.take 44 (.take 45 .nil))))))))))))))))))))))))))))))))))))))))))))))) (fun hHd=> ?_) (hQ:=by intro _ _ _ _ _ h;exact h)
        repeat' first|((with_reducible refine iV ?_);(try dsimp only[sS0,sS1]);(try simp only[e4]))|((first|with_reducible refine gG ?_|with_reducible refine bY ?_|with_reducible refine gB ?_|(with_reducible refine cJ (v:= ?_) ?_ ?_;rotate_left;(·(intro W' h;have:=StepC.mk h;infer_instance)))|(with_reducible refine jJ (v:= ?_) ?_ ?_;rotate_left;(·(intro hq W' h;have:=StepC.mk h;infer_instance)))|(with_reducible refine bX (v:= ?_) ?_ ?_;rotate_left;(·(intro W' h;have:=StepC.mk h;first|(simp only[execOp,eS];go_simp;(try with_reducible rfl)))))|(with_reducible refine eI (v:= ?_) ?_ ?_;rotate_left;(·(intro hq W' h;have:=StepC.mk h;simp only[execOp,eS,hq,mbT];(try(simp only[Bool.and_eq_true,Bool.not_eq_true'] at hq;simp only[hq,mbT,Bool.not_false]));go_simp;(try with_reducible rfl)))));(try dsimp only[sS0,sS1]))|(first|(with_reducible refine dI ?_))|(with_reducible refine eT hHd ?_)|((with_reducible refine bC ?_);refine aQ (by simp only[gS];rfl) ?_)|((first|with_reducible refine cG ?_);first|(rintro _ V ⟨rfl,(_:StepC _ _)⟩;refine⟨_,rfl,?_⟩))|((with_reducible refine bD ?_);clear hHd;refine aM ExtC.h (fun hHd=> ?_);(try simp only[pS]))|(with_reducible refine aF ?_)
        all_goals
         clear e4;have e5:=H5.out;(try simp only[e5])
         clear e5
         cases b5
         ·have HS2:=Lib.hid (show r.renewedR l ⟨(cn:Int),xo⟩ xd (l.take (j+1)) e0=e2 by rw[HS.out];rfl)
          go_wp2_with (first|(with_reducible refine aI ?_;intro V19 hS19 hB19)|(first|(with_reducible refine aA ?_)|(with_reducible refine aB ?_;first|rintro _ V18 ⟨rfl,(_:StepC _ _)⟩)))
          go_roundw
          case rel=>exact⟨bN (hg6'.out.ext' ExtC.h) hS19.h,j+1,e2,lj,by push_cast;rfl,(by first|exact .inl trivial),HS2.out.symm,hB19.h⟩
          case measure=>simp[RowKit.intOf];omega
         ·have HS2:=Lib.hid (show r.renewedR l ⟨(cn:Int),xo⟩ xd (l.take (j+1)) e0=e by rw[HS.out];rfl)
          go_wp2
          go_roundw
          case rel=>exact⟨hg6'.out.ext' ExtC.h,j+1,e,lj,by push_cast;rfl,(by first|exact .inl trivial),HS2.out.symm,(inferInstance:BlkC _ g12 143 [.int .i64 xd,.int .i64 cn,.int .i64 xo,.int .i64 re,.int .i64 e]).h⟩
          case measure=>simp[RowKit.intOf];omega
     ·obtain rfl:j=l.length:=by omega
      have HF:=Lib.hid (show r.grK p.born l (k+1)=o++ [⟨xd,⟨(cn:Int),xo⟩,re,e⟩] from by
       rw[HN.out];have e2:=Hej.out;rw[List.take_length] at e2
       cases cw
       ·have h0:l.length=0:=by rcases Hcj.out with h|h;cases h;exact h
        have hl0:l=[]:=List.length_eq_zero_iff.1 h0;subst hl0;rw[e2];rfl
       ·rw[e2];rfl)
      go_wp2
      have hChids:=HChs.out;clear HChs;subst hChids;refine wp_region_lit ?_;(try simp only[pS])
      repeat' first|((first|with_reducible refine bY ?_|with_reducible refine lJ ?_|(with_reducible refine bX (v:= ?_) ?_ ?_;rotate_left;(·(intro W' h;cases h;first|(simp only[execOp,eS];go_simp;(try with_reducible rfl))))));(try dsimp only[sS0,sS1]))|(first|(with_reducible refine dI ?_))|(with_reducible refine bO ?_)|((fail_if_success (with_reducible refine dY ?_));(with_reducible refine dD ?_))
      go_wp2_with (first|(with_reducible refine bR ?_;intro A5 c5 V5 hR5 hG5)|(first|(with_reducible refine aA ?_)|(with_reducible refine aD ?_;intro V g _ _ _)))
      obtain⟨A8,c8,e8,h8⟩:=cV HF.out hR5;exact⟨⟨⟨ExtC.h⟩,k+1,_,A8,c8,lk,by push_cast;rfl,rfl,e8,h8,by rw[HF.out];simp;omega,by
       rw[HF.out];intro g hg;rcases List.mem_append.1 hg with hg|hg
       ·exact Hgc.out g hg
       ·simp at hg;subst hg;exact⟨cn,rfl,hcn⟩⟩,by simp[RowKit.intOf];omega⟩
   ·by_cases ko:xk=1
    ·subst ko;have hxr:0≤xt∧xt<r.treaties.length:=by
      rcases Hsh.out with ⟨y,m',e,_⟩|⟨t',e,h1,h2⟩|⟨t',e,_⟩|⟨t',e,h⟩|⟨t',e,_⟩
      ·have:=congrArg Event.kind e;simp at this
      ·have e3:xt=t':=congrArg Event.treaty e;omega
      ·have:=congrArg Event.kind e;simp at this
      ·have:=congrArg Event.kind e;simp at this
      ·have:=congrArg Event.kind e;simp at this
     obtain⟨t,rfl⟩:∃t:Nat,xt=(t:Int):=⟨xt.toNat,by omega⟩
     have htl:t<r.treaties.length:=by omega
     clear hxr;obtain⟨td,rfl,hct⟩:=hT.elem htl;have htc:=hT.caps.2;obtain⟨⟨tn,⟨ta,tb⟩,tlo,thi⟩,hxt⟩:∃x,r.treaties[t]=x:=⟨_,rfl⟩;have hro:r.rightOf ⟨1,xd,⟨xc,xo⟩,(t:Int),xq,xp,xu,xm⟩=⟨ta,tb⟩:=by
      unfold Rules.rightOf;simp[List.getD,htl,hxt]
     rw[hxt] at hct;have i10:CellsB w (td.add (t*5)) [.string tn,.int .i64 ta,.int .i64 tb,.int .i64 tlo,.int .i64 thi]:=⟨hct⟩;clear hct hxt;have hre:=Hre.out (by simp)
     rw[hro] at hre;have hri:=(Sys.right_in hre).1;simp only at hri;obtain⟨cn,rfl⟩:∃cn:Nat,ta=(cn:Int):=⟨(ta).toNat,by omega⟩
     have hcn:cn<r.sys.classes.length:=by omega
     have hcm:cn<m.length:=by have:=Hml.out;omega
     obtain⟨cd,rfl,hcc⟩:=hm2.elem hcm;have hat:=Hat.out cn hcm;have hnd:=pT HO.out hcn;obtain⟨⟨⟨nm,ic,ne,ag,te⟩,xa,xk2⟩,hq⟩:∃y,m[cn]=y:=⟨_,rfl⟩;rw[hq] at hcc hat;simp only at hat;have i11:CellsB w (cd.add (cn*5)) [.string nm,.slice xa ic.length xk2,.int .i64 ne,.int .i64 ag,.int .i64 te]:=⟨hcc⟩;obtain⟨re,hrr⟩:∃e,reasonW r p.born all o ⟨1,xd,⟨xc,xo⟩,(t:Int),xq,xp,xu,xm⟩ ⟨(cn:Int),tb⟩=e:=⟨_,rfl⟩;have i12:RRsnE r p.born all o ⟨1,xd,⟨xc,xo⟩,(t:Int),xq,xp,xu,xm⟩ ⟨(cn:Int),tb⟩ re:=⟨⟨⟨cn,rfl,hcn⟩,(fun _=>⟨t,rfl,htl⟩),hnd,Hgc.out,i9.k,i9.i⟩,hrr⟩
     obtain⟨e0,he0⟩:∃e,endT xd te=e:=⟨_,rfl⟩;have i13:REndE xd te e0:=⟨he0⟩;obtain⟨cw,hcw⟩:∃b,((re==0)&&decide (te>0))=b:=⟨_,rfl⟩;have hcw2:(re=0∧0<te)↔cw=true:=by rw[←hcw];simp
     have hrs:r.reasonOf p.born l o ⟨1,xd,⟨xc,xo⟩,(t:Int),xq,xp,xu,xm⟩ ⟨(cn:Int),tb⟩=re:=by rw[Rules.reason_eq,Hal2.out,hrr]
     have hte:(r.sys.at_ (cn:Int)).term=te:=by rw[hat]
     have HN:=Lib.hid (show r.grK p.born l (k+1)=o++ [⟨xd,⟨(cn:Int),tb⟩,re,if cw=true then r.renewedR l ⟨(cn:Int),tb⟩ xd l e0 else e0⟩] from by
      have e1:=Hsu.out.trans (if_pos (by simp))
      rw[e1,hro];unfold Rules.endR;rw[hro,hrs,Rules.endOf_T];simp only[hte,he0];by_cases z:re=0∧0<te
      ·rw[if_pos z,if_pos (hcw2.1 z)]
      ·rw[if_neg z,if_neg (fun h=>z (hcw2.2 h))])
     have Hcw:=Lib.hid hcw;have HT:=Lib.hid hte;clear Hre Hsh Hsu hre hri hq hcc hat hrr he0 hcw hcw2 hrs hte hcm hnd;go_wp2_with (first|(with_reducible refine aG (uu:=11) ?_;intro V11 g11 hE11 hB11 hA11)|(first|(with_reducible refine aA ?_)))
     refine dA ((.take 0 (.take 1 (.take 2 (.take 3 (.take 4 (.take 5 (.take 6 (.take 7 (.take 8 (.take 9 (.one 10 .nil)))))))))))) (fun w'=>Ext W2 w') ?_ (fun hHd=> ?_) (hQ:=by intro _ _ _ _ _ h;exact h)
     ·exact ExtC.h
     repeat' first|((first|with_reducible refine bY ?_|(with_reducible refine cJ (v:= ?_) ?_ ?_;rotate_left;(·(intro W' h;have:=StepC.mk h;infer_instance)))|(with_reducible refine bX (v:= ?_) ?_ ?_;rotate_left;(·(intro W' h;have:=StepC.mk h;first|(simp only[execOp,eS];go_simp;(try with_reducible rfl))))));(try dsimp only[sS0,sS1]))|(with_reducible refine eT hHd ?_)|((with_reducible refine bC ?_);refine aQ (by simp only[gS];rfl) ?_)|(with_reducible refine aI ?_;intro V10 hS10 hB10)|((with_reducible refine bD ?_);clear hHd;refine aM ExtC.h (fun hHd=> ?_);(try simp only[pS]))|(with_reducible refine aF ?_)
     all_goals
      go_wp2
      have hChid:=HCh.out;clear HCh;subst hChid;refine wp_region_lit ?_;(try simp only[pS])
      repeat' first|((first|with_reducible refine gG ?_|with_reducible refine bY ?_|(with_reducible refine cJ (v:= ?_) ?_ ?_;rotate_left;(·(intro W' h;cases h;infer_instance)))|(with_reducible refine bX (v:= ?_) ?_ ?_;rotate_left;(·(intro W' h;cases h;first|(simp only[execOp,eS];go_simp;(try with_reducible rfl))))));(try dsimp only[sS0,sS1]))|(first|(with_reducible refine dI ?_))|(with_reducible refine bO ?_)|((fail_if_success (with_reducible refine dY ?_));(with_reducible refine dD ?_))
      go_wp2
      refine kL [12,69,70,71,72,73,74,75,76,77,78,79,80,81,82,83,84,85,86] (fun x W'=>∃g12,x 12=.pointer (some ⟨g12,0,none⟩)∧AtC V10 g12∧BlkC W' g12 143 [.int .i64 xd,.int .i64 cn,.int .i64 tb,.int .i64 re,.int .i64 0]∧∃Va,StepC V10 Va∧StoreC Va W' g12) ?h12b ?k12b
      case h12b=>
       refine dA ((.take 0 (.take 1 (.take 2 (.take 3 (.take 4 (.take 5 (.take 6 (.take 7 (.take 8 (.take 9 (.take 10 (.take 11 (.take 12 (.take 13 (.take 14 (.take 15 (.two 16 (.take 17 (.one 18 (.one 19 .nil))) 18 (.one 16 (.take 17 (.one 19 .nil))))))))))))))))))))) (fun w'=>Ext V10 w') ?_ (fun hHd=> ?_) (hQ:=by intro _ _ _ _ _ h;exact absurd h.1 (fun e=>by cases e))
       ·exact ExtC.h
       repeat' first|((first|with_reducible refine bY ?_|(with_reducible refine cJ (v:= ?_) ?_ ?_;rotate_left;(·(intro W' h;have:=StepC.mk h;infer_instance)))|(with_reducible refine bX (v:= ?_) ?_ ?_;rotate_left;(·(intro W' h;have:=StepC.mk h;first|(simp only[execOp,eS];go_simp;(try with_reducible rfl))))));(try dsimp only[sS0,sS1]))|(with_reducible refine eT hHd ?_)|((with_reducible refine bC ?_);refine aQ (by simp only[gS];rfl) ?_)|((with_reducible refine gK ?_);refine dV (by simp only[gS];rfl) (by simp only[gS];rfl) ?_ ?_)|((with_reducible refine aN ?_);(rintro _ Vr ⟨rfl,(_:StepC _ _)⟩;refine⟨_,rfl,?_⟩))|(with_reducible refine aR (d:=some 12) ?_;intro V12 g12 hE12 hB12 hA12)|(with_reducible refine aI ?_;intro Vs hS hSB)|((with_reducible refine bD ?_);clear hHd;refine aM ExtC.h (fun hHd=> ?_);(try simp only[pS]))|(with_reducible refine aF ?_)
       all_goals
        refine⟨rfl,eC ?_ ⟨g12,rfl,⟨Nat.le_trans (ExtC.h:Ext V10 _).size hA12.h⟩,inferInstance,_,⟨ExtC.h⟩,hS⟩⟩;simp only[Act.sets,Act.put,List.foldl_cons,List.foldl_nil,List.setIfInBounds_toArray,List.set_cons_zero,List.set_cons_succ,Act.get];rfl
      rintro x12 W12 ⟨g12,hx12,(hA12:AtC _ _),(_:BlkC _ _ _ _),Va12,(_:StepC _ _),(_:StoreC _ _ _)⟩;simp only[Act.sets,Act.put,List.foldl_cons,List.foldl_nil,List.setIfInBounds_toArray,List.set_cons_zero,List.set_cons_succ,hx12];as_aux_lemma=>
      go_wp2_with (first|(with_reducible refine aI ?_;intro V14 hS14 hB14)|(first|(with_reducible refine aA ?_)|(with_reducible refine aB ?_;first|rintro _ V13 ⟨rfl,(_:StepC _ _)⟩)))
      obtain⟨e,he⟩:∃e,e=e0:=⟨_,rfl⟩;have HT0:=Lib.hid (show r.renewedR l ⟨(cn:Int),tb⟩ xd (l.take 0) e0=e0 from rfl)
      go_loopw [14] (fun jv wr=>V14.grownBy wr (some g12)∧∃(j:Nat)(e:Int),j≤l.length∧jv=.int .i64 j∧(cw=true∨j=0)∧e=r.renewedR l ⟨(cn:Int),tb⟩ xd (l.take j) e0∧Blk wr g12 143 #[.int .i64 xd,.int .i64 cn,.int .i64 tb,.int .i64 re,.int .i64 e]) (fun jv _=>l.length-(RowKit.intOf jv).toNat)
      case atStart=>exact⟨grown_of_ext (Ext.refl _),0,e0,by omega,rfl,.inr rfl,HT0.out.symm,hB14.h⟩
      case round=>
       clear he e;obtain⟨hg6,j,e,hj,rfl,hcj,hej,hB6⟩:=hrel;have hs6:StoreC V14 wr g12:=⟨hg6⟩;have k6:BlkC wr g12 143 [.int .i64 xd,.int .i64 cn,.int .i64 tb,.int .i64 re,.int .i64 e]:=⟨hB6⟩;have Hcj:=Lib.hid hcj;have Hej:=Lib.hid hej;clear hcj hej;obtain⟨hcs,hChids⟩:∃f:Nat→Array Oper→Bool→Go.Code,f=Go.Code.region:=⟨_,rfl⟩;rw[show Go.Code.region 16=hcs 16 by rw[hChids]]
       have HChs:=Lib.hid hChids;clear hChids;by_cases lj:j<l.length
       ·cases cw
        ·have HF:=Lib.hid (show r.grK p.born l (k+1)=o++ [⟨xd,⟨(cn:Int),tb⟩,re,e⟩] from by
          rw[HN.out];have h0:j=0:=by rcases Hcj.out with h|h;cases h;exact h
          have e2:=Hej.out;rw[h0] at e2;rw[e2,HT0.out];simp)
         go_wp2
         have hChids:=HChs.out;clear HChs;subst hChids;refine wp_region_lit ?_;(try simp only[pS])
         repeat' first|((first|with_reducible refine gG ?_|with_reducible refine bY ?_|with_reducible refine iV ?_|with_reducible refine gB ?_|(with_reducible refine cJ (v:= ?_) ?_ ?_;rotate_left;(·(intro W' h;cases h;infer_instance)))|(with_reducible refine bX (v:= ?_) ?_ ?_;rotate_left;(·(intro W' h;cases h;first|(simp only[execOp,eS];go_simp;(try with_reducible rfl)))))|(with_reducible refine eI (v:= ?_) ?_ ?_;rotate_left;(·(intro hq W' h;cases h;simp only[execOp,eS,hq,mbT];(try(simp only[Bool.and_eq_true,Bool.not_eq_true'] at hq;simp only[hq,mbT,Bool.not_false]));go_simp;(try with_reducible rfl)))));(try dsimp only[sS0,sS1]))|(first|(with_reducible refine dI ?_))|(with_reducible refine bO ?_)|((fail_if_success (with_reducible refine dY ?_));(with_reducible refine dD ?_))
         have e1:=Hcw.out;(try simp only[e1])
         clear e1;go_wp2_with (first|(with_reducible refine bR ?_;intro A5 c5 V5 hR5 hG5)|(first|(with_reducible refine aA ?_)|(with_reducible refine aD ?_;intro V g _ _ _)))
         obtain⟨A8,c8,e8,h8⟩:=cV HF.out hR5;exact⟨⟨⟨ExtC.h⟩,k+1,_,A8,c8,lk,by push_cast;rfl,rfl,e8,h8,by rw[HF.out];simp;omega,by
          rw[HF.out];intro g hg;rcases List.mem_append.1 hg with hg|hg
          ·exact Hgc.out g hg
          ·simp at hg;subst hg;exact⟨cn,rfl,hcn⟩⟩,by simp[RowKit.intOf];omega⟩
        ·obtain⟨_,e1,hbz⟩:=hls.elem lj
         cases e1
         obtain⟨⟨zk2,zd,⟨zc,zo⟩,zt,zq,zp,zu,zm⟩,hz⟩:∃x,l[j]=x:=⟨_,rfl⟩;have hsj:=Rules.renewed_succ (r:=r) l ⟨(cn:Int),tb⟩ xd e0 lj hz;rw[←Hej.out] at hsj;rw[hz] at hbz;simp only at hsj;have k7:CellsB W1 (ad.add (j*9)) [.int .i64 zk2,.int .i64 zd,.int .i64 zc,.int .i64 zo,.int .i64 zt,.int .i64 zq,.int .i64 zp,.int .i64 zu,.int .i64 zm]:=⟨hbz⟩;have zj:IntKind.i64.wrap ((j:Int)+1)=(j:Int)+1:=IntWalk.i64_in _ (by omega)
         obtain⟨e2,he2⟩:∃e2,endT zd te=e2:=⟨_,rfl⟩;have k8:REndE zd te e2:=⟨he2⟩;obtain⟨b5,h5⟩:∃b,hasDay all zd=b:=⟨_,rfl⟩;obtain⟨c4',h4⟩:∃b,((((zk2==2)&&(zq==(cn:Int)))&&decide (xd≤zd))&&decide (zd<e))=b:=⟨_,rfl⟩;have HS:=Lib.hid (show r.renewedR l ⟨(cn:Int),tb⟩ xd (l.take (j+1)) e0=if(c4'&& !b5)=true then e2 else e from by
          rw[hsj,Rules.endOf_T,HT.out,he2];have hbn:r.bannedBy l zd=0↔b5=false:=by
           have:=Rules.banned_iff (r:=r) l zd;rw[Hal2.out,h5] at this
           cases b5
           ·simp at this⊢;exact this
           ·simp at this⊢;exact this
          rw[←h4];simp only[hbn,Bool.and_eq_true,beq_iff_eq,decide_eq_true_eq,Bool.not_eq_true',and_assoc])
         have H4:=Lib.hid h4;have H5:=Lib.hid h5;have hg6':=Lib.hid hg6;clear hsj hbz hz he2 h4 h5 hg6 Hej;go_wp2
         have hChids:=HChs.out;clear HChs;subst hChids;refine wp_region_lit ?_;(try simp only[pS])
         repeat' first|((first|with_reducible refine gG ?_|with_reducible refine bY ?_|with_reducible refine iV ?_|with_reducible refine gB ?_|(with_reducible refine cJ (v:= ?_) ?_ ?_;rotate_left;(·(intro W' h;cases h;infer_instance)))|(with_reducible refine bX (v:= ?_) ?_ ?_;rotate_left;(·(intro W' h;cases h;first|(simp only[execOp,eS];go_simp;(try with_reducible rfl)))))|(with_reducible refine eI (v:= ?_) ?_ ?_;rotate_left;(·(intro hq W' h;cases h;simp only[execOp,eS,hq,mbT];(try(simp only[Bool.and_eq_true,Bool.not_eq_true'] at hq;simp only[hq,mbT,Bool.not_false]));go_simp;(try with_reducible rfl)))));(try dsimp only[sS0,sS1]))|(first|(with_reducible refine dI ?_))|(with_reducible refine bO ?_)|((fail_if_success (with_reducible refine dY ?_));(with_reducible refine dD ?_))
         have e1:=Hcw.out;(try simp only[e1])
         clear e1;go_wp2
         cases c4'
         ·have HS2:=Lib.hid (show r.renewedR l ⟨(cn:Int),tb⟩ xd (l.take (j+1)) e0=e by rw[HS.out];rfl)
          have e4:=H4.out;refine aP ((.take 0 (.take 1 (.take 2 (.take 3 (.take 4 (.take 5 (.take 6 (.take 7 (.take 8 (.take 9 (.take 10 (.take 11 (.take 12 (.take 13 (.take 14 (.take 15 (.take 16 (.take 17 (.take 18 (.take 19 (.take 20 (.take 21 (.take 22 (.take 23 (.take 24 (.take 25 (.take 26 (.take 27 (.take 28 (.take 29 (.take 30 (.take 31 (.take 32 (.take 33 (.take 34 (.take 35 (.take 36 (.take 37 (.take 38 (.take 39 (.take 40 (.take 41 (.take 42 (.one 43 (.take 44 (.take 45 .nil))))))))))))))))))))))))))))))))))))))))))))))) (fun hHd=> ?_) (hQ:=by intro _ _ _ _ _ h;exact h)
          repeat' first|((with_reducible refine iV ?_);(try dsimp only[sS0,sS1]);(try simp only[e4]))|((first|with_reducible refine bY ?_|with_reducible refine lJ ?_|with_reducible refine gB ?_|(with_reducible refine cJ (v:= ?_) ?_ ?_;rotate_left;(·(intro W' h;have:=StepC.mk h;infer_instance)))|(with_reducible refine jJ (v:= ?_) ?_ ?_;rotate_left;(·(intro hq W' h;have:=StepC.mk h;infer_instance)))|(with_reducible refine bX (v:= ?_) ?_ ?_;rotate_left;(·(intro W' h;have:=StepC.mk h;first|(simp only[execOp,eS];go_simp;(try with_reducible rfl)))))|(with_reducible refine eI (v:= ?_) ?_ ?_;rotate_left;(·(intro hq W' h;have:=StepC.mk h;simp only[execOp,eS,hq,mbT];(try(simp only[Bool.and_eq_true,Bool.not_eq_true'] at hq;simp only[hq,mbT,Bool.not_false]));go_simp;(try with_reducible rfl)))));(try dsimp only[sS0,sS1]))|(first|(with_reducible refine dI ?_))|(with_reducible refine eT hHd ?_)|((with_reducible refine bC ?_);refine aQ (by simp only[gS];rfl) ?_)|(with_reducible refine fO ?_)|((with_reducible refine bD ?_);clear hHd;refine aM ExtC.h (fun hHd=> ?_);(try simp only[pS]))|(with_reducible refine aF ?_)
          clear e4;go_wp2
          go_roundw
          case rel=>exact⟨hg6'.out.ext' ExtC.h,j+1,e,lj,by push_cast;rfl,(by first|exact .inl trivial),HS2.out.symm,(inferInstance:BlkC _ g12 143 [.int .i64 xd,.int .i64 cn,.int .i64 tb,.int .i64 re,.int .i64 e]).h⟩
          case measure=>simp[RowKit.intOf];omega
         ·have e4:=H4.out;refine aP ((.take 0 (.take 1 (.take 2 (.take 3 (.take 4 (.take 5 (.take 6 (.take 7 (.take 8 (.take 9 (.take 10 (.take 11 (.take 12 (.take 13 (.take 14 (.take 15 (.take 16 (.take 17 (.take 18 (.take 19 (.take 20 (.take 21 (.take 22 (.take 23 (.take 24 (.take 25 (.take 26 (.take 27 (.take 28 (.take 29 (.take 30 (.take 31 (.take 32 (.take 33 (.take 34 (.take 35 (.take 36 (.take 37 (.take 38 (.take 39 (.take 40 (.take 41 (.take 42 (.one 43 (.take 44 (.take 45 .nil))))))))))))))))))))))))))))))))))))))))))))))) (fun hHd=> ?_) (hQ:=by intro _ _ _ _ _ h;exact h)
          repeat' first|((with_reducible refine iV ?_);(try dsimp only[sS0,sS1]);(try simp only[e4]))|((first|with_reducible refine gG ?_|with_reducible refine bY ?_|with_reducible refine gB ?_|(with_reducible refine cJ (v:= ?_) ?_ ?_;rotate_left;(·(intro W' h;have:=StepC.mk h;infer_instance)))|(with_reducible refine jJ (v:= ?_) ?_ ?_;rotate_left;(·(intro hq W' h;have:=StepC.mk h;infer_instance)))|(with_reducible refine bX (v:= ?_) ?_ ?_;rotate_left;(·(intro W' h;have:=StepC.mk h;first|(simp only[execOp,eS];go_simp;(try with_reducible rfl)))))|(with_reducible refine eI (v:= ?_) ?_ ?_;rotate_left;(·(intro hq W' h;have:=StepC.mk h;simp only[execOp,eS,hq,mbT];(try(simp only[Bool.and_eq_true,Bool.not_eq_true'] at hq;simp only[hq,mbT,Bool.not_false]));go_simp;(try with_reducible rfl)))));(try dsimp only[sS0,sS1]))|(first|(with_reducible refine dI ?_))|(with_reducible refine eT hHd ?_)|((with_reducible refine bC ?_);refine aQ (by simp only[gS];rfl) ?_)|((first|with_reducible refine cG ?_);first|(rintro _ V ⟨rfl,(_:StepC _ _)⟩;refine⟨_,rfl,?_⟩))|((with_reducible refine bD ?_);clear hHd;refine aM ExtC.h (fun hHd=> ?_);(try simp only[pS]))|(with_reducible refine aF ?_)
          all_goals
           clear e4;have e5:=H5.out;(try simp only[e5])
           clear e5
           cases b5
           ·have HS2:=Lib.hid (show r.renewedR l ⟨(cn:Int),tb⟩ xd (l.take (j+1)) e0=e2 by rw[HS.out];rfl)
            go_wp2_with (first|(with_reducible refine aI ?_;intro V19 hS19 hB19)|(first|(with_reducible refine aA ?_)|(with_reducible refine aB ?_;first|rintro _ V18 ⟨rfl,(_:StepC _ _)⟩)))
            go_roundw
            case rel=>exact⟨bN (hg6'.out.ext' ExtC.h) hS19.h,j+1,e2,lj,by push_cast;rfl,(by first|exact .inl trivial),HS2.out.symm,hB19.h⟩
            case measure=>simp[RowKit.intOf];omega
           ·have HS2:=Lib.hid (show r.renewedR l ⟨(cn:Int),tb⟩ xd (l.take (j+1)) e0=e by rw[HS.out];rfl)
            go_wp2
            go_roundw
            case rel=>exact⟨hg6'.out.ext' ExtC.h,j+1,e,lj,by push_cast;rfl,(by first|exact .inl trivial),HS2.out.symm,(inferInstance:BlkC _ g12 143 [.int .i64 xd,.int .i64 cn,.int .i64 tb,.int .i64 re,.int .i64 e]).h⟩
            case measure=>simp[RowKit.intOf];omega
       ·obtain rfl:j=l.length:=by omega
        have HF:=Lib.hid (show r.grK p.born l (k+1)=o++ [⟨xd,⟨(cn:Int),tb⟩,re,e⟩] from by
         rw[HN.out];have e2:=Hej.out;rw[List.take_length] at e2
         cases cw
         ·have h0:l.length=0:=by rcases Hcj.out with h|h;cases h;exact h
          have hl0:l=[]:=List.length_eq_zero_iff.1 h0;subst hl0;rw[e2];rfl
         ·rw[e2];rfl)
        go_wp2
        have hChids:=HChs.out;clear HChs;subst hChids;refine wp_region_lit ?_;(try simp only[pS])
        repeat' first|((first|with_reducible refine bY ?_|with_reducible refine lJ ?_|(with_reducible refine bX (v:= ?_) ?_ ?_;rotate_left;(·(intro W' h;cases h;first|(simp only[execOp,eS];go_simp;(try with_reducible rfl))))));(try dsimp only[sS0,sS1]))|(first|(with_reducible refine dI ?_))|(with_reducible refine bO ?_)|((fail_if_success (with_reducible refine dY ?_));(with_reducible refine dD ?_))
        go_wp2_with (first|(with_reducible refine bR ?_;intro A5 c5 V5 hR5 hG5)|(first|(with_reducible refine aA ?_)|(with_reducible refine aD ?_;intro V g _ _ _)))
        obtain⟨A8,c8,e8,h8⟩:=cV HF.out hR5;exact⟨⟨⟨ExtC.h⟩,k+1,_,A8,c8,lk,by push_cast;rfl,rfl,e8,h8,by rw[HF.out];simp;omega,by
         rw[HF.out];intro g hg;rcases List.mem_append.1 hg with hg|hg
         ·exact Hgc.out g hg
         ·simp at hg;subst hg;exact⟨cn,rfl,hcn⟩⟩,by simp[RowKit.intOf];omega⟩
    ·have q1:(xk==1)=false:=by simpa using ko
     have q2:(xk !=0)=true:=by simpa using kz
     have q3:(xk !=1)=true:=by simpa using ko
     have Hs:=Lib.hid (Hsu.out.trans (if_neg (by rintro(h|h);exact kz h;exact ko h)))
     clear kz ko Hre Hsh Hsu;go_wp2_with (first|(with_reducible refine aG (uu:=11) ?_;intro V11 g11 hE11 hB11 hA11)|(first|(with_reducible refine aA ?_)))
     have hChid:=HCh.out;clear HCh;subst hChid;refine wp_region_lit ?_;(try simp only[pS])
     repeat' first|((first|with_reducible refine gG ?_|with_reducible refine bY ?_|(with_reducible refine cJ (v:= ?_) ?_ ?_;rotate_left;(·(intro W' h;cases h;infer_instance)))|(with_reducible refine bX (v:= ?_) ?_ ?_;rotate_left;(·(intro W' h;cases h;first|(simp only[execOp,eS];go_simp;(try with_reducible rfl))))));(try dsimp only[sS0,sS1]))|(first|(with_reducible refine dI ?_))|(with_reducible refine bO ?_)|((fail_if_success (with_reducible refine dY ?_));(with_reducible refine dD ?_))
     go_wp2
     go_roundw
     case rel=>exact⟨⟨ExtC.h⟩,k+1,o,A4,c4,lk,by push_cast;rfl,Hs.out.symm,rfl,inferInstance,by omega,Hgc.out⟩
     case measure=>simp[RowKit.intOf];omega
  ·obtain rfl:k=l.length:=by omega
   rw[HGa.out] at hok;subst hok;go_wp2
   go_ret
   exact⟨A4,c4,rfl,⟨(inferInstance:RowC _ (.slice A4 o.length c4) W1 143 5 _ _).list rfl rfl rfl⟩,⟨ExtC.h⟩⟩
end Go.Rg
end
