import Derived.Test.YtbfbepnkofampaaGreatDoorXPX02
set_option maxRecDepth 100000
set_option synthInstance.maxSize 2000
set_option synthInstance.maxHeartbeats 400000
set_option maxHeartbeats 8000000
set_option linter.all false
section
namespace Go.Rg
open Go Go.Bp Go.RowKit Go.Walk Go.Proofs
class InCls (s:Sys) (n:Int):Prop where h:0≤n∧n<s.classes.length
class GrOk (s:Sys) (gs:List Grant):Prop where h:∀g∈gs,0≤g.right.cls∧g.right.cls<s.classes.length
theorem Bg{s:Sys}(h:s.check=(0,0,0)){c:Int}(hc:0≤c∧c<s.classes.length){n:Int}(hn:0≤n∧n<s.classes.length):∃l,s.coversAns c=(l,0)∧(l.any fun x=>decide (n=x))=s.covers c n:=by
 unfold Sys.coversAns;rw[if_neg (by rw[h];simp),if_neg (by rw[inB_t.2 (by omega)];simp)]
 refine⟨_,rfl,?_⟩;obtain⟨j,rfl⟩:∃j:Nat,n=(j:Int):=⟨n.toNat,by omega⟩
 cases hcv:s.covers c (j:Int)
 ·rw[Bool.eq_false_iff];intro ha;rw[List.any_eq_true] at ha;obtain⟨x,hx,e⟩:=ha;rw[List.mem_filterMap] at hx;obtain⟨i,_,h2⟩:=hx;have e:=of_decide_eq_true e;split at h2
  ·injection h2 with h2
   rename_i h3;rw[h2,←e,hcv] at h3;cases h3
  ·cases h2
 ·rw[List.any_eq_true];exact⟨_,List.mem_filterMap.2 ⟨j,List.mem_range.2 (by omega),by rw[if_pos hcv]⟩,by simp⟩
theorem yA(g3 g4 g7 gf gt:Nat)(vC vD vT:Value)(vl vf vb born n k d c o t q p u m gd gc go gr ge:Int)(ve vc vp vg:Value)(r:Rules)(w:World)[hB:BlkC w gf 121 [vC,vD,vT,.int .i64 vl,.int .i64 vf,.int .i64 vb,.int .i64 born,ve,vc,vp,.map (some gt),vg]][hR:RulesC w (.agg #[vC,vD,vT,.int .i64 vl,.int .i64 vf,.int .i64 vb]) r][h0:SysOk r.sys][b3:BlkC w g3 115 [.pointer (some ⟨gf,0,none⟩)]][b4:BlkC w g4 80 [.int .i64 k,.int .i64 d,.int .i64 c,.int .i64 o,.int .i64 t,.int .i64 q,.int .i64 p,.int .i64 u,.int .i64 m]][b7:BlkC w g7 3 [.int .i64 n]](hc:0≤gc∧gc<r.sys.classes.length)(hn:0≤n∧n<r.sys.classes.length):
 Calls Tryz.prog 241 #[.agg #[.int .i64 gd,.int .i64 gc,.int .i64 go,.int .i64 gr,.int .i64 ge],.pointer (some ⟨g3,0,none⟩),.pointer (some ⟨g4,0,none⟩),.pointer (some ⟨g7,0,none⟩)] w (RB w (decide (gd<d)&&decide (gr=0)&&decide (d<ge)&&r.sys.covers gc n)):=by
 obtain⟨l,hl,ha⟩:=Bg h0.h hc hn;obtain⟨cv,hcv⟩:∃b,r.sys.covers gc n=b:=⟨_,rfl⟩;rw[hcv] at ha⊢;have i1:=CoversE.mk hl;obtain⟨A1,n1,c1,A2,c2,A3,c3,e,hh⟩:=hR.h.h;injection e with e
 have e:=congrArg Array.toList e;simp at e;obtain⟨rfl,rfl,rfl,rfl,rfl,rfl⟩:=e;have i2:=SysB.mk hR.h.sys;obtain⟨d1,h1⟩:∃b,decide (gd<d)=b:=⟨_,rfl⟩;obtain⟨d2,h2⟩:∃b,decide (gr=0)=b:=⟨_,rfl⟩;have h2':(gr==0)=d2:=h2;obtain⟨d3,h3⟩:∃b,decide (d<ge)=b:=⟨_,rfl⟩;rw[h1,h2,h3];clear hl hcv hh h2
 cases d1<;>cases d2<;>cases d3
 all_goals
  go_enter Tryz.func241,Tryz.ntmps241
  go_wp2_with (first|(with_reducible refine aH ?_;intro V g _ _ _))
  refine aP ((.take 0 (.take 1 (.take 2 (.take 3 (.take 4 (.take 5 (.take 6 (.take 7 (.take 8 (.one 9 (.take 10 (.take 11 (.take 12 (.take 13 (.take 14 .nil)))))))))))))))) (fun hHd=> ?_) (hQ:=by intro _ _ _ _ _ h;exact h)
  repeat' first|((with_reducible refine aX ?_);(first|(refine tk (v:= ?_) ?_ hHd ?_;rotate_left;(·(intro W' h;have:=StepC.mk h;first|with_reducible exact aJ)))|(refine tk (v:= ?_) ?_ hHd ?_;rotate_left;(·(intro wq hSw;go_simp;(try with_reducible rfl)))));(try simp only[pS]))|((with_reducible refine bC ?_);refine aQ (by simp only[gS];rfl) ?_)|((with_reducible refine aN ?_);first|(rintro _ V ⟨_,_,rfl,_,(_:StepC _ _)⟩;refine⟨_,rfl,?_⟩))|((with_reducible refine bD ?_);clear hHd;refine aM ExtC.h (fun hHd=> ?_);(try simp only[pS]))|(with_reducible refine aF ?_)
  simp only[Exit.then];go_wp2_with (first|go_skip|(with_reducible refine aA ?_)|(with_reducible refine bA ?_)|(with_reducible refine aB ?_;first|rintro _ V ⟨rfl,(_:StepC _ _)⟩))
  go_ret
  exact⟨by simp[*],⟨ExtC.h⟩⟩
instance{W:World}{g3 g4 g7 gf gt:Nat}{vC vD vT:Value}{vl vf vb born n k d c o t q p u m:Int}{ve vc vp vg:Value}{r:Rules}{gs:List Grant}[hB:BlkC W gf 121 [vC,vD,vT,.int .i64 vl,.int .i64 vf,.int .i64 vb,.int .i64 born,ve,vc,vp,.map (some gt),vg]][hR:RulesC W (.agg #[vC,vD,vT,.int .i64 vl,.int .i64 vf,.int .i64 vb]) r][h0:SysOk r.sys][b3:BlkC W g3 115 [.pointer (some ⟨gf,0,none⟩)]][b4:BlkC W g4 80 [.int .i64 k,.int .i64 d,.int .i64 c,.int .i64 o,.int .i64 t,.int .i64 q,.int .i64 p,.int .i64 u,.int .i64 m]][b7:BlkC W g7 3 [.int .i64 n]][hg:GrOk r.sys gs][hn:InCls r.sys n]:
 PredC Grant W (.func (.func 241) #[] #[.pointer (some ⟨g3,0,none⟩),.pointer (some ⟨g4,0,none⟩),.pointer (some ⟨g7,0,none⟩)]) gs (fun g=>decide (g.day<d)&&decide (g.reason=0)&&decide (d<g.end_)&&r.sys.covers g.right.cls n):=
 ⟨_,_,rfl,enters_of Tryz.func241 (by kernel_rfl) rfl,fun x hx W' hE=>by
  have i1:BlkC W' gf 121 [vC,vD,vT,.int .i64 vl,.int .i64 vf,.int .i64 vb,.int .i64 born,ve,vc,vp,.map (some gt),vg]:=⟨hB.h.ext hE⟩;have i2:RulesC W' (.agg #[vC,vD,vT,.int .i64 vl,.int .i64 vf,.int .i64 vb]) r:=⟨hR.h.ext hE⟩;have i3:BlkC W' g3 115 [.pointer (some ⟨gf,0,none⟩)]:=⟨b3.h.ext hE⟩;have i4:BlkC W' g4 80 [.int .i64 k,.int .i64 d,.int .i64 c,.int .i64 o,.int .i64 t,.int .i64 q,.int .i64 p,.int .i64 u,.int .i64 m]:=⟨b4.h.ext hE⟩;have i5:BlkC W' g7 3 [.int .i64 n]:=⟨b7.h.ext hE⟩;exact(yA g3 g4 g7 gf gt vC vD vT vl vf vb born n k d c o t q p u m x.day x.right.cls x.right.codes x.reason x.end_ ve vc vp vg r W' (hg.h x hx) hn.h).mono fun e W2 ⟨h,hE⟩=>⟨h,hE.h⟩⟩
theorem rH(gf gt:Nat)(vC vD vT:Value)(vl vf vb born k d c o t q p u m y1 y2:Int)(ve vc vp vg:Value)(r:Rules)(gs:List Grant)(w:World)[hB:BlkC w gf 121 [vC,vD,vT,.int .i64 vl,.int .i64 vf,.int .i64 vb,.int .i64 born,ve,vc,vp,.map (some gt),vg]][hR:RulesC w (.agg #[vC,vD,vT,.int .i64 vl,.int .i64 vf,.int .i64 vb]) r][h0:SysOk r.sys][hL:ListC Grant w vg gs][hg:GrOk r.sys gs](hc:0≤y1∧y1<r.sys.classes.length)(b:Bool)(hb:b= !(decide (0≤(r.sys.at_ y1).needs)&& !(gs.any fun g=>decide (g.day<d)&&decide (g.reason=0)&&decide (d<g.end_)&&r.sys.covers g.right.cls (r.sys.at_ y1).needs))):
 Calls Tryz.prog 181 #[.pointer (some ⟨gf,0,none⟩),.agg #[.int .i64 k,.int .i64 d,.int .i64 c,.int .i64 o,.int .i64 t,.int .i64 q,.int .i64 p,.int .i64 u,.int .i64 m],.agg #[.int .i64 y1,.int .i64 y2]] w (RB w b):=by
 obtain⟨j,rfl⟩:∃k:Nat,y1=(k:Int):=⟨y1.toNat,by omega⟩
 have hk:j<r.sys.classes.length:=by omega
 have hcb:=lN h0.h hk;obtain⟨ad,n,qq,nm,ai,il,pp,rfl,hn,hnq,hq,hC⟩:=nA hR.h hk;have i1:=CellsB.mk hC;have lk:j<n:=by omega
 have iL:=ListB.mk hL.h;have iR:=RulesB.mk hR.h;obtain⟨nd,hnd⟩:∃t,(r.sys.at_ (j:Int)).needs=t:=⟨_,rfl⟩;rw[hnd] at i1 hcb hb;by_cases z:nd<0
 ·rw[decide_eq_false (by omega:¬0≤nd)] at hb
  simp only[Bool.false_and,Bool.not_false] at hb;subst hb;clear hC hnd hn hc hk hL;go_enter Tryz.func181,Tryz.ntmps181
  go_wp2_with (first|(with_reducible refine aH ?_;intro V g _ _ _))
  refine aP ((.take 0 (.take 1 (.take 2 (.take 3 (.take 4 (.take 5 (.take 6 (.take 7 (.take 8 (.take 9 (.take 10 (.take 11 (.one 12 (.one 13 .nil))))))))))))))) (fun hHd=> ?_) (hQ:=by intro _ _ _ _ _ h;exact h)
  repeat' first|((with_reducible refine aX ?_);(first|(refine tk (v:= ?_) ?_ hHd ?_;rotate_left;(·(intro W' h;have:=StepC.mk h;first|with_reducible exact aJ)))|(refine tk (v:= ?_) ?_ hHd ?_;rotate_left;(·(intro wq hSw;go_simp;(try with_reducible rfl)))));(try simp only[pS]))|((with_reducible refine bC ?_);refine aQ (by simp only[gS];rfl) ?_)|(with_reducible refine aR ?_;intro V g _ _ _)|(with_reducible refine aI ?_;intro V _ _)|((with_reducible refine bD ?_);clear hHd;refine aM ExtC.h (fun hHd=> ?_);(try simp only[pS]))|(with_reducible refine aF ?_)
  all_goals
   simp only[Exit.then];go_wp2_with (first|go_skip|(with_reducible refine aA ?_))
   go_ret
   exact⟨rfl,⟨ExtC.h⟩⟩
 ·have hni:InCls r.sys nd:=⟨by omega⟩
  rw[decide_eq_true (by omega:0≤nd)] at hb
  simp only[Bool.true_and,Bool.not_not] at hb;have Hb:=Lib.hid hb;have z1:decide (nd<0)=false:=decide_eq_false z;clear hC hnd hn hc hk hL hb z hcb;go_enter Tryz.func181,Tryz.ntmps181
  go_wp2_with (first|(with_reducible refine aH ?_;intro V g _ _ _))
  refine aP ((.take 0 (.take 1 (.take 2 (.take 3 (.take 4 (.take 5 (.take 6 (.take 7 (.take 8 (.take 9 (.take 10 (.take 11 (.one 12 (.one 13 .nil))))))))))))))) (fun hHd=> ?_) (hQ:=by intro _ _ _ _ _ h;exact h)
  repeat' first|((with_reducible refine aX ?_);(first|(refine tk (v:= ?_) ?_ hHd ?_;rotate_left;(·(intro W' h;have:=StepC.mk h;first|with_reducible exact aJ)))|(refine tk (v:= ?_) ?_ hHd ?_;rotate_left;(·(intro wq hSw;go_simp;(try with_reducible rfl)))));(try simp only[pS]))|((with_reducible refine bC ?_);refine aQ (by simp only[gS];rfl) ?_)|(with_reducible refine aR ?_;intro V g _ _ _)|(with_reducible refine aI ?_;intro V _ _)|((with_reducible refine bD ?_);clear hHd;refine aM ExtC.h (fun hHd=> ?_);(try simp only[pS]))|(with_reducible refine aF ?_)
  all_goals
   simp only[Exit.then];go_wp2_with (first|(with_reducible refine aA ?_)|(with_reducible refine bA ?_)|(with_reducible refine aB ?_;first|rintro _ V ⟨rfl,(_:StepC _ _)⟩))
   go_ret
   have e:=Hb.out;subst e;exact⟨rfl,⟨ExtC.h⟩⟩
end Go.Rg
end
section
namespace Go.Rg
open Go Go.Bp Go.RowKit Go.Walk Go.Proofs
theorem fH{r:Rules}(h:r.check.2.2=0):SysOk r.sys:=⟨by
 have h1:r.sys.check.2.2=0:=by
  unfold Rules.check at h;split at h
  ·rename_i h2;exact absurd h h2
  ·rename_i h2;exact Classical.not_not.1 h2
 obtain⟨⟨p,a,e⟩,hk⟩:∃x,r.sys.check=x:=⟨_,rfl⟩;rw[hk] at h1;simp only at h1;subst h1;obtain⟨rfl,rfl⟩:=eD hk;exact hk⟩
theorem qY{r:Rules}(h:r.check.2.2=0){d c:Int}(hd:0≤d∧d≤40000)(hc:0≤c∧c<r.sys.classes.length):0≤r.endOf d c:=by
 obtain⟨k,rfl⟩:∃k:Nat,c=(k:Int):=⟨c.toNat,by omega⟩
 have hb:=lN (fH h).h (k:=k) (by omega)
 have:=Rules.endOf_gt (r:=r) (day:=d) (cls:=(k:Int)) (by omega) hd.1 hd.2
 omega
theorem vY{r:Rules}{born:Int}(h:r.check.2.2=0){z:Event}(hz:r.eventErr born z=0)(hk:z.kind=2):0≤r.endOf z.day z.cls:=by
 obtain⟨hd,hs⟩:=bI hz;have hcl:0≤z.cls∧z.cls<r.sys.classes.length:=by
  rcases hs with ⟨y,m',e,_⟩|⟨t',e,_⟩|⟨t',e,h⟩|⟨t',e,_⟩|⟨t',e,_⟩
  ·rw[e] at hk;simp at hk
  ·rw[e] at hk;simp at hk
  ·rw[e];exact h
  ·rw[e] at hk;simp at hk
  ·rw[e] at hk;simp at hk
 exact qY h ⟨hd.1,hd.2.1⟩ hcl
end Go.Rg
end
