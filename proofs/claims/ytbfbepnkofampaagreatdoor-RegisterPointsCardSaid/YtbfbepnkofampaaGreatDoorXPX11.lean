import Derived.Test.YtbfbepnkofampaaGreatDoorXPX08
set_option maxRecDepth 100000
set_option synthInstance.maxSize 2000
set_option synthInstance.maxHeartbeats 400000
set_option maxHeartbeats 8000000
set_option linter.all false
section
namespace Go.Rg
open Go Go.Bp Go.RowKit Go.Walk Go.Proofs
instance{W:World}:ListC Right W (.slice none 0 0) []:=⟨ListV.nil⟩
theorem Oa{s:Sys}(h:s.check=(0,0,0)):s.asked []=0:=by
 unfold Sys.asked Sys.rightsErr;rw[h,if_neg (by simp),if_neg (by simp)]
 rfl
class DrvE (r:Rules) (born:Int) (d:Drive) (e:outParam Int):Prop where h:r.driveErr ⟨born,[]⟩ d=e
theorem xM{r:Rules}{born:Int}{d:Drive}{b:Bool}{e:Int}(h0:r.sys.check=(0,0,0))(hm:r.sys.mayAns [] d.cls d.features=(b,e)){d1 d2:Bool}(h1:outB 0 40000 [d.day]=d1)(h2:decide (d.day<born)=d2):r.driveErr ⟨born,[]⟩ d=firstT [(d1,7),(d2,2)] e:=by
 unfold Rules.driveErr;unfold Sys.mayAns at hm;rw[Oa h0] at hm;rw[if_neg (by simp)] at hm
 rw[bL] at h1;have e1:(inB d.day 0 40000=false)=(d1=true):=by rw[←h1];simp
 have e2:(d.day<(⟨born,[]⟩:Person).born)=(d2=true):=by rw[←h2];simp
 simp only[e1,e2];clear e1 e2 h1 h2
 cases d1
 ·cases d2
  ·simp only[Bool.false_eq_true,if_false,firstT];split at hm
   ·rename_i h3;rw[if_pos h3];injection hm
   ·rename_i h3;rw[if_neg h3];split at hm
    ·rename_i h4;rw[if_pos h4];injection hm
    ·rename_i h4;rw[if_neg h4];injection hm
  ·simp[firstT]
 ·simp[firstT]
theorem tD(gf:Nat)(vC vD vT:Value)(vl vf vb born d c f i e:Int)(ve vc vp vm vg:Value)(r:Rules)(w:World)[hB:BlkC w gf 121 [vC,vD,vT,.int .i64 vl,.int .i64 vf,.int .i64 vb,.int .i64 born,ve,vc,vp,vm,vg]][hS:SysC w (.agg #[vC,vD]) r.sys][h0:SysOk r.sys](he:r.driveErr ⟨born,[]⟩ ⟨d,c,f⟩=e):
 Calls Tryz.prog 75 #[.pointer (some ⟨gf,0,none⟩),.int .i64 i,.agg #[.int .i64 d,.int .i64 c,.int .i64 f]] w (RI w e):=by
 have i1:=SysB.mk hS.h;obtain⟨⟨b,e1⟩,hm⟩:∃x,r.sys.mayAns [] c f=x:=⟨_,rfl⟩;have i2:=MayE.mk hm;obtain⟨d1,h1⟩:∃x,outB 0 40000 [d]=x:=⟨_,rfl⟩;obtain⟨d2,h2⟩:∃x,decide (d<born)=x:=⟨_,rfl⟩;have E:=xM (d:=⟨d,c,f⟩) h0.h hm h1 h2;rw[he] at E;subst E;clear hm he hS
 cases d1<;>cases d2
 all_goals
  go_enter Tryz.func75,Tryz.ntmps75
  go_wp2_with (first|(with_reducible refine aA ?_)|(with_reducible refine aB ?_;first|rintro _ V ⟨rfl,(_:StepC _ _)⟩)|(with_reducible refine aH ?_;intro V g _ _ _)|(with_reducible refine aD ?_;intro V g _ _ _))
 all_goals(try(go_ret;exact⟨rfl,⟨ExtC.h⟩⟩))
 all_goals
  refine aP ((.take 0 (.take 1 (.take 2 (.take 3 (.take 4 (.take 5 (.take 6 (.take 7 .nil))))))))) (fun hHd=> ?_) (hQ:=by intro _ _ _ _ _ h;exact h)
  repeat' first|((with_reducible refine aX ?_);(first|(refine tk (v:= ?_) ?_ hHd ?_;rotate_left;(·(intro W' h;have:=StepC.mk h;first|with_reducible exact aJ)))|(refine tk (v:= ?_) ?_ hHd ?_;rotate_left;(·(intro wq hSw;go_simp;(try with_reducible rfl)))));(try simp only[pS]))|(with_reducible refine aF ?_)
  simp only[Exit.then];go_wp2
 all_goals(try(go_ret;exact⟨rfl,⟨ExtC.h⟩⟩))
 all_goals
  refine aP ((.take 0 (.take 1 (.take 2 (.take 3 (.take 4 (.take 5 (.take 6 (.take 7 (.take 8 (.take 9 (.one 10 (.take 11 (.take 12 (.take 13 (.take 14 (.take 15 .nil))))))))))))))))) (fun hHd=> ?_) (hQ:=by intro _ _ _ _ _ h;exact h)
  repeat' first|((with_reducible refine aX ?_);(first|(refine tk (v:= ?_) ?_ hHd ?_;rotate_left;(·(intro W' h;have:=StepC.mk h;first|with_reducible exact aJ)))|(refine tk (v:= ?_) ?_ hHd ?_;rotate_left;(·(intro wq hSw;go_simp;(try with_reducible rfl)))));(try simp only[pS]))|((with_reducible refine bC ?_);refine aQ (by simp only[gS];rfl) ?_)|((first|with_reducible refine aN ?_);first|(rintro _ V ⟨rfl,(_:StepC _ _)⟩;refine⟨_,rfl,?_⟩))|((with_reducible refine bD ?_);clear hHd;refine aM ExtC.h (fun hHd=> ?_);(try simp only[pS]))|(with_reducible refine aF ?_)
  go_wp2
  go_ret
  exact⟨rfl,⟨ExtC.h⟩⟩
instance{W:World}{gf:Nat}{vC vD vT:Value}{vl vf vb born d c f i e:Int}{ve vc vp vm vg:Value}{r:Rules}[hB:BlkC W gf 121 [vC,vD,vT,.int .i64 vl,.int .i64 vf,.int .i64 vb,.int .i64 born,ve,vc,vp,vm,vg]][hS:SysC W (.agg #[vC,vD]) r.sys][h0:SysOk r.sys][q:DrvE r born ⟨d,c,f⟩ e]:
 FunC Tryz.prog 75 #[.pointer (some ⟨gf,0,none⟩),.int .i64 i,.agg #[.int .i64 d,.int .i64 c,.int .i64 f]] W (RI W e):=⟨tD gf vC vD vT vl vf vb born d c f i e ve vc vp vm vg r W q.h⟩
instance{W:World}{gf:Nat}{vC vD vT:Value}{vl vf vb born:Int}{ve vc vp vm vg:Value}{r:Rules}{l:List Drive}[hB:BlkC W gf 121 [vC,vD,vT,.int .i64 vl,.int .i64 vf,.int .i64 vb,.int .i64 born,ve,vc,vp,vm,vg]][hS:SysC W (.agg #[vC,vD]) r.sys][h0:SysOk r.sys]:
 ChkC Drive W (.func (.func 75) #[.pointer (some ⟨gf,0,none⟩)] #[]) l (fun _ d=>r.driveErr ⟨born,[]⟩ d):=
 ⟨_,_,_,rfl,enters_of Tryz.func75 (by kernel_rfl) rfl,fun k hk W' hE=>by
  have i1:BlkC W' gf 121 [vC,vD,vT,.int .i64 vl,.int .i64 vf,.int .i64 vb,.int .i64 born,ve,vc,vp,vm,vg]:=⟨hB.h.ext hE⟩;have i2:SysC W' (.agg #[vC,vD]) r.sys:=⟨hS.h.ext hE⟩;exact(tD gf vC vD vT vl vf vb born _ _ _ _ _ ve vc vp vm vg r W' rfl).mono fun e W2 ⟨h,hE⟩=>⟨h,hE.h⟩⟩
class DrvC (s:Sys) (d:Drive):Prop where h:(0≤d.cls∧d.cls<s.classes.length)∧0≤d.features∧d.features<s.sets
theorem Mq{s:Sys}(h0:s.check=(0,0,0)){x:Right}(hx:s.rightErr x=0){d:Drive}(hd:DrvC s d):s.mayAns [x] d.cls d.features=(s.allow [x] d.cls d.features,0):=by
 unfold Sys.mayAns;rw[uQ h0,hx,if_neg (by simp),if_neg (by rw[inB_t.2 (by have:=hd.h;omega)];simp),if_neg (by rw[inB_t.2 (by have:=hd.h;omega)];simp)]
theorem Lv(gf gt:Nat)(vC vD vT:Value)(vl vf vb born d c f n:Int)(ve vc vp:Value)(Ag:Option Addr)(cg:Nat)(r:Rules)(co bs:List Span)(gs:List Grant)(w:World)[hB:BlkC w gf 121 [vC,vD,vT,.int .i64 vl,.int .i64 vf,.int .i64 vb,.int .i64 born,ve,vc,vp,.map (some gt),.slice Ag gs.length cg]][hS:SysC w (.agg #[vC,vD]) r.sys][h0:SysOk r.sys]
 [h1:ListC Span w vc co][h2:ListC Span w vp bs][h3:ListC Grant w (.slice Ag gs.length cg) gs](hg:∀g∈gs,GrIn r g)(hd:DrvC r.sys ⟨d,c,f⟩)(hn:(if banN co bs d≠0 then banN co bs d else r.whyG gs ⟨d,c,f⟩)=n):
 Calls Tryz.prog 76 #[.pointer (some ⟨gf,0,none⟩),.agg #[.int .i64 d,.int .i64 c,.int .i64 f]] w (RI w n):=by
 have i1:=SysB.mk hS.h;have i2:=ListB.mk h1.h;have i3:=ListB.mk h2.h;have hL:=h3.h;have hcap:=hL.caps;obtain⟨b,hb⟩:∃b,banN co bs d=b:=⟨_,rfl⟩;have i4:=BanE.mk hb;rw[hb] at hn;have Hg:=Lib.hid hg;clear hg hb h1 h2 h3 hS;by_cases hz:b=0
 ·subst hz;rw[if_neg (by simp)] at hn
  have Hn:=Lib.hid hn;clear hn;go_enter Tryz.func76,Tryz.ntmps76
  go_wp2_with (first|(with_reducible refine aA ?_)|(with_reducible refine aB ?_;first|rintro _ V ⟨rfl,(_:StepC _ _)⟩)|(with_reducible refine aH ?_;intro V g _ _ _))
  go_loopw [23,6] (fun iv wv wr=>StepC V wr∧∃k:Nat,k≤gs.length∧iv=.int .i64 k∧wv=.int .i64 (worstN r gs ⟨d,c,f⟩ k)∧0∉whyN r gs ⟨d,c,f⟩ k) (fun iv _ _=>gs.length-(RowKit.intOf iv).toNat)
  case atStart=>exact⟨⟨ExtC.h⟩,0,by omega,rfl,rfl,by simp[whyN]⟩
  case round=>
   obtain⟨_,k,hk,rfl,rfl,hno⟩:=hrel;by_cases lk:k<gs.length
   ·obtain⟨ad,rfl,hc⟩:=hL.elem lk;have hgi:=Hg.out _ (List.getElem_mem lk);have hsk:=yO r gs ⟨d,c,f⟩ lk;have htk:=pC r gs ⟨d,c,f⟩ lk;have hfr:=yP r gs ⟨d,c,f⟩ lk;have hmay:=Mq h0.h hgi.right hd;obtain⟨⟨gd,⟨gc,go⟩,gr,ge⟩,hx⟩:∃x,gs[k]=x:=⟨_,rfl⟩;rw[hx] at hc hgi hsk htk hfr hmay;simp only[Rules.against] at hsk htk hfr hmay;have i9:CellsB w (ad.add (k*5)) [.int .i64 gd,.int .i64 gc,.int .i64 go,.int .i64 gr,.int .i64 ge]:=⟨hc⟩;obtain⟨al,hal⟩:∃b,r.sys.allow [⟨gc,go⟩] c f=b:=⟨_,rfl⟩;rw[hal] at hsk htk hfr hmay;have i10:=MayE.mk hmay;obtain⟨wn,hwn⟩:∃n,worstN r gs ⟨d,c,f⟩ k=n:=⟨_,rfl⟩;rw[hwn] at htk⊢;have zk:IntKind.i64.wrap ((k:Int)+1)=(k:Int)+1:=IntWalk.i64_in _ (by omega)
    have Hno:=Lib.hid hno;clear hc hx hal hmay hno;by_cases c1:gd>d
    ·have e1:whyN r gs ⟨d,c,f⟩ (k+1)=whyN r gs ⟨d,c,f⟩ k:=hsk (by simp;intro h;omega)
     have e2:worstN r gs ⟨d,c,f⟩ (k+1)=wn:=by unfold worstN at hwn⊢;rw[e1];exact hwn
     have q1:decide (gd>d)=true:=decide_eq_true c1;have E2:=Lib.hid e2;have E1:=Lib.hid (show 0∉whyN r gs ⟨d,c,f⟩ (k+1) by rw[e1];exact Hno.out)
     clear hsk htk hfr e1 e2 c1 hwn;go_wp2_with (first|(with_reducible refine aG (uu:=8) ?_;intro V8 g8 hE8 hB8 hA8)|(first|(with_reducible refine aA ?_)))
     refine aP ((.take 0 (.take 1 (.take 2 (.take 3 (.take 4 (.take 5 (.take 6 (.take 7 (.take 9 (.take 10 (.take 11 (.take 12 (.one 8 (.one 13 (.take 14 (.take 15 (.take 16 (.take 17 (.take 18 .nil)))))))))))))))))))) (fun hHd=> ?_) (hQ:=by intro _ _ _ _ _ h;exact h)
     repeat' first|((with_reducible refine aX ?_);(first|(refine tk (v:= ?_) ?_ hHd ?_;rotate_left;(·(intro W' h;have:=StepC.mk h;first|with_reducible exact aJ)))|(refine tk (v:= ?_) ?_ hHd ?_;rotate_left;(·(intro wq hSw;go_simp;(try with_reducible rfl)))));(try simp only[pS]))|((with_reducible refine bC ?_);refine aQ (by simp only[gS];rfl) ?_)|(with_reducible refine aD ?_;intro V g _ _ _)|((first|with_reducible refine aN ?_);first|(rintro _ V ⟨rfl,(_:StepC _ _)⟩;refine⟨_,rfl,?_⟩))|((with_reducible refine bD ?_);clear hHd;refine aM ExtC.h (fun hHd=> ?_);(try simp only[pS]))|(with_reducible refine aF ?_)
     all_goals
      simp only[Exit.then];go_wp2_with (first|(with_reducible refine aA ?_))
      exact⟨⟨⟨ExtC.h⟩,k+1,lk,by push_cast;rfl,by rw[E2.out],E1.out⟩,by simp[RowKit.intOf];omega⟩
    have q1:decide (gd>d)=false:=decide_eq_false c1
    cases al
    ·have e1:whyN r gs ⟨d,c,f⟩ (k+1)=whyN r gs ⟨d,c,f⟩ k:=hsk (by simp)
     have e2:worstN r gs ⟨d,c,f⟩ (k+1)=wn:=by unfold worstN at hwn⊢;rw[e1];exact hwn
     have E2:=Lib.hid e2;have E1:=Lib.hid (show 0∉whyN r gs ⟨d,c,f⟩ (k+1) by rw[e1];exact Hno.out)
     clear hsk htk hfr e1 e2 c1 hwn;go_wp2_with (first|(with_reducible refine aG (uu:=8) ?_;intro V8 g8 hE8 hB8 hA8)|(first|(with_reducible refine aA ?_)))
     refine aP ((.take 0 (.take 1 (.take 2 (.take 3 (.take 4 (.take 5 (.take 6 (.take 7 (.take 9 (.take 10 (.take 11 (.take 12 (.one 8 (.one 13 (.take 14 (.take 15 (.take 16 (.take 17 (.take 18 .nil)))))))))))))))))))) (fun hHd=> ?_) (hQ:=by intro _ _ _ _ _ h;exact h)
     repeat' first|((with_reducible refine aX ?_);(first|(refine tk (v:= ?_) ?_ hHd ?_;rotate_left;(·(intro W' h;have:=StepC.mk h;first|with_reducible exact aJ)))|(refine tk (v:= ?_) ?_ hHd ?_;rotate_left;(·(intro wq hSw;go_simp;(try with_reducible rfl)))));(try simp only[pS]))|((with_reducible refine bC ?_);refine aQ (by simp only[gS];rfl) ?_)|(with_reducible refine aD ?_;intro V g _ _ _)|((first|with_reducible refine aN ?_);first|(rintro _ V ⟨rfl,(_:StepC _ _)⟩;refine⟨_,rfl,?_⟩))|((with_reducible refine bD ?_);clear hHd;refine aM ExtC.h (fun hHd=> ?_);(try simp only[pS]))|(with_reducible refine aF ?_)
     all_goals
      simp only[Exit.then];go_wp2_with (first|(with_reducible refine aA ?_))
      exact⟨⟨⟨ExtC.h⟩,k+1,lk,by push_cast;rfl,by rw[E2.out],E1.out⟩,by simp[RowKit.intOf];omega⟩
    have htk2:=htk (by simp;omega)
    by_cases c2:gr=0
    ·subst c2;rw[if_neg (by simp)] at htk2 hfr
     by_cases c3:ge≤d
     ·rw[if_pos c3] at htk2;have q3:decide (d≥ge)=true:=decide_eq_true c3;have E2:=Lib.hid htk2.2;have E1:=Lib.hid (show 0∉whyN r gs ⟨d,c,f⟩ (k+1) by rw[htk2.1];simp;exact Hno.out)
      clear hsk htk hfr htk2 c1 c3 hwn;go_wp2_with (first|(with_reducible refine aG (uu:=8) ?_;intro V8 g8 hE8 hB8 hA8)|(first|(with_reducible refine aA ?_)))
      refine aP ((.take 0 (.take 1 (.take 2 (.take 3 (.take 4 (.take 5 (.take 6 (.take 7 (.take 9 (.take 10 (.take 11 (.take 12 (.one 8 (.one 13 (.take 14 (.take 15 (.take 16 (.take 17 (.take 18 .nil)))))))))))))))))))) (fun hHd=> ?_) (hQ:=by intro _ _ _ _ _ h;exact h)
      repeat' first|((with_reducible refine aX ?_);(first|(refine tk (v:= ?_) ?_ hHd ?_;rotate_left;(·(intro W' h;have:=StepC.mk h;first|with_reducible exact aJ)))|(refine tk (v:= ?_) ?_ hHd ?_;rotate_left;(·(intro wq hSw;go_simp;(try with_reducible rfl)))));(try simp only[pS]))|((with_reducible refine bC ?_);refine aQ (by simp only[gS];rfl) ?_)|(with_reducible refine aD ?_;intro V g _ _ _)|((first|with_reducible refine aN ?_);first|(rintro _ V ⟨rfl,(_:StepC _ _)⟩;refine⟨_,rfl,?_⟩))|((with_reducible refine bD ?_);clear hHd;refine aM ExtC.h (fun hHd=> ?_);(try simp only[pS]))|(with_reducible refine aF ?_)
      all_goals
       simp only[Exit.then];go_wp2_with (first|(with_reducible refine aA ?_))
       exact⟨⟨⟨ExtC.h⟩,k+1,lk,by push_cast;rfl,by rw[E2.out],E1.out⟩,by simp[RowKit.intOf];omega⟩
     ·rw[if_neg c3] at hfr;have e:=hfr (by simp;omega) rfl
      rw[Hn.out] at e;subst e;have q3:decide (d≥ge)=false:=decide_eq_false c3;clear hsk htk hfr htk2 c1 c3 hwn;go_wp2_with (first|(with_reducible refine aG (uu:=8) ?_;intro V8 g8 hE8 hB8 hA8)|(first|(with_reducible refine aA ?_)))
      refine aP ((.take 0 (.take 1 (.take 2 (.take 3 (.take 4 (.take 5 (.take 6 (.take 7 (.take 9 (.take 10 (.take 11 (.take 12 (.one 8 (.one 13 (.take 14 (.take 15 (.take 16 (.take 17 (.take 18 .nil)))))))))))))))))))) (fun hHd=> ?_) (hQ:=by intro _ _ _ _ _ h;exact h)
      repeat' first|((with_reducible refine aX ?_);(first|(refine tk (v:= ?_) ?_ hHd ?_;rotate_left;(·(intro W' h;have:=StepC.mk h;first|with_reducible exact aJ)))|(refine tk (v:= ?_) ?_ hHd ?_;rotate_left;(·(intro wq hSw;go_simp;(try with_reducible rfl)))));(try simp only[pS]))|((with_reducible refine bC ?_);refine aQ (by simp only[gS];rfl) ?_)|(with_reducible refine aD ?_;intro V g _ _ _)|((first|with_reducible refine aN ?_);first|(rintro _ V ⟨rfl,(_:StepC _ _)⟩;refine⟨_,rfl,?_⟩))|((with_reducible refine bD ?_);clear hHd;refine aM ExtC.h (fun hHd=> ?_);(try simp only[pS]))|(with_reducible refine aF ?_)
      all_goals
       simp only[Exit.then];go_wp2_with (first|(with_reducible refine aA ?_))
       go_ret;exact⟨rfl,⟨ExtC.h⟩⟩
    ·rw[if_pos c2] at htk2;have q2:(gr !=0)=true:=by simpa using c2
     have E2:=Lib.hid htk2.2;have E1:=Lib.hid (show 0∉whyN r gs ⟨d,c,f⟩ (k+1) by rw[htk2.1];simp;exact⟨Hno.out,fun h=>c2 h.symm⟩)
     clear hsk htk hfr htk2 c1 c2 hwn;go_wp2_with (first|(with_reducible refine aG (uu:=8) ?_;intro V8 g8 hE8 hB8 hA8)|(first|(with_reducible refine aA ?_)))
     refine aP ((.take 0 (.take 1 (.take 2 (.take 3 (.take 4 (.take 5 (.take 6 (.take 7 (.take 9 (.take 10 (.take 11 (.take 12 (.one 8 (.one 13 (.take 14 (.take 15 (.take 16 (.take 17 (.take 18 .nil)))))))))))))))))))) (fun hHd=> ?_) (hQ:=by intro _ _ _ _ _ h;exact h)
     repeat' first|((with_reducible refine aX ?_);(first|(refine tk (v:= ?_) ?_ hHd ?_;rotate_left;(·(intro W' h;have:=StepC.mk h;first|with_reducible exact aJ)))|(refine tk (v:= ?_) ?_ hHd ?_;rotate_left;(·(intro wq hSw;go_simp;(try with_reducible rfl)))));(try simp only[pS]))|((with_reducible refine bC ?_);refine aQ (by simp only[gS];rfl) ?_)|(with_reducible refine aD ?_;intro V g _ _ _)|((first|with_reducible refine aN ?_);first|(rintro _ V ⟨rfl,(_:StepC _ _)⟩;refine⟨_,rfl,?_⟩))|((with_reducible refine bD ?_);clear hHd;refine aM ExtC.h (fun hHd=> ?_);(try simp only[pS]))|(with_reducible refine aF ?_)
     all_goals
      simp only[Exit.then];go_wp2_with (first|(with_reducible refine aA ?_))
      exact⟨⟨⟨ExtC.h⟩,k+1,lk,by push_cast;rfl,by rw[E2.out],E1.out⟩,by simp[RowKit.intOf];omega⟩
   ·obtain rfl:k=gs.length:=by omega
    have e:=Dq r gs ⟨d,c,f⟩ hno;rw[Hn.out] at e;subst e;go_wp2
    go_ret
    exact⟨rfl,⟨ExtC.h⟩⟩
 ·rw[if_pos hz] at hn;subst hn;have q:(b !=0)=true:=by simpa using hz
  clear hz;go_enter Tryz.func76,Tryz.ntmps76
  go_wp2_with (first|(with_reducible refine aA ?_)|(with_reducible refine aB ?_;first|rintro _ V ⟨rfl,(_:StepC _ _)⟩)|(with_reducible refine aH ?_;intro V g _ _ _))
  go_ret
  exact⟨rfl,⟨ExtC.h⟩⟩
class WhyE (r:Rules) (co bs:List Span) (gs:List Grant) (d:Drive) (n:outParam Int):Prop where h:((∀g∈gs,GrIn r g)∧DrvC r.sys d)∧(if banN co bs d.day≠0 then banN co bs d.day else r.whyG gs d)=n
instance{W:World}{gf gt:Nat}{vC vD vT:Value}{vl vf vb born d c f n:Int}{ve vc vp:Value}{Ag:Option Addr}{cg:Nat}{r:Rules}{co bs:List Span}{gs:List Grant}[hB:BlkC W gf 121 [vC,vD,vT,.int .i64 vl,.int .i64 vf,.int .i64 vb,.int .i64 born,ve,vc,vp,.map (some gt),.slice Ag gs.length cg]][hS:SysC W (.agg #[vC,vD]) r.sys][h0:SysOk r.sys]
 [h1:ListC Span W vc co][h2:ListC Span W vp bs][h3:ListC Grant W (.slice Ag gs.length cg) gs][q:WhyE r co bs gs ⟨d,c,f⟩ n]:FunC Tryz.prog 76 #[.pointer (some ⟨gf,0,none⟩),.agg #[.int .i64 d,.int .i64 c,.int .i64 f]] W (RI W n):=⟨Lv gf gt vC vD vT vl vf vb born d c f n ve vc vp Ag cg r co bs gs W q.h.1.1 q.h.1.2 q.h.2⟩
class HeldE (r:Rules) (p:Person) (day:Int) (l:outParam (List Right)) (n:outParam Int):Prop where h:r.heldAns p day=(l,n)
theorem Jy{r:Rules}{l:List Right}(hk:r.sys.check=(0,0,0))(hl:(∀x∈l,r.sys.rightErr x=0)∧l.length≤30):r.sys.leastAns l=(r.sys.least l,0):=by
 have h1:r.sys.asked l=0:=by
  unfold Sys.asked;rw[hk,if_neg (by simp)]
  exact Sys.rights_0 (by omega) hl.1
 unfold Sys.leastAns;rw[h1,if_neg (by simp)]
theorem Fj{r:Rules}{p:Person}(h:r.personErr p=0)(day:Int):(∀y∈Rules.heldL (r.grants p.born (sortE p.events)) day,r.sys.rightErr y=0)∧(Rules.heldL (r.grants p.born (sortE p.events)) day).length≤30:=Rules.held_ok h day
theorem yJ(r:Rules)(p:Person)(v pv:Value)(day:Int)(l:List Right)(n:Int)(w:World)(h:RulesV w v r)(hp:PersonV w pv p)(hs:r.heldAns p day=(l,n)):Calls Tryz.prog 27 #[v,pv,.int .i64 day] w (RLR 74 w l n):=by
 obtain⟨A1,n1,c1,A2,n2,c2,A3,n3,c3,rfl⟩:=h.form;obtain⟨A,c,rfl,hl⟩:=hp.h;have i1:=RulesB.mk h;have i0:=SysB.mk h.sys;have i2:=PersonB.mk hp;unfold Rules.heldAns at hs;by_cases hz:r.personErr p=0
 ·rw[if_neg (by simp[hz])] at hs
  have i3:PersOk r p:=⟨hz⟩;obtain⟨d1,e1⟩:∃x,outB 0 40000 [day]=x:=⟨_,rfl⟩;have e1':=e1;rw[bL] at e1'
  cases d1
  case true=>
   rw[if_pos (by simpa using e1')] at hs
   injection hs with m1 m2
   subst m1 m2;clear hz e1';go_enter Tryz.func27,Tryz.ntmps27
   go_wp2_with (first|(with_reducible refine aB ?_;rintro _ Vo ⟨gf,gt,Ae,ce,Ac,cc,Ap,cp,Ag,cg,tkn,rfl,(_:BlkC _ _ _ _),(_:RowC _ _ _ _ _ _ _),(_:RowC _ _ _ _ _ _ _),(_:RowC _ _ _ _ _ _ _),(_:RowC _ _ _ _ _ _ _),(_:MapC _ _ _ _),hTk,hagf,hagt,(_:StepC _ _)⟩)|(first|(with_reducible refine aA ?_)|(with_reducible refine aB ?_;first|rintro _ V ⟨rfl,(_:StepC _ _)⟩)|(with_reducible refine aH ?_;intro V g _ _ _)|(with_reducible refine aD ?_;intro V g _ _ _)))
   go_ret2
   exact⟨none,0,w,rfl,RowC.nil,⟨ExtC.h⟩⟩
  rw[if_neg (by simpa using e1')] at hs
  obtain⟨d2,e2⟩:∃x,decide (day<p.born)=x:=⟨_,rfl⟩
  cases d2
  case true=>
   rw[if_pos (of_decide_eq_true e2)] at hs;injection hs with m1 m2
   subst m1 m2;clear hz e1';go_enter Tryz.func27,Tryz.ntmps27
   go_wp2_with (first|(with_reducible refine aB ?_;rintro _ Vo ⟨gf,gt,Ae,ce,Ac,cc,Ap,cp,Ag,cg,tkn,rfl,(_:BlkC _ _ _ _),(_:RowC _ _ _ _ _ _ _),(_:RowC _ _ _ _ _ _ _),(_:RowC _ _ _ _ _ _ _),(_:RowC _ _ _ _ _ _ _),(_:MapC _ _ _ _),hTk,hagf,hagt,(_:StepC _ _)⟩)|(first|(with_reducible refine aA ?_)|(with_reducible refine aB ?_;first|rintro _ V ⟨rfl,(_:StepC _ _)⟩)|(with_reducible refine aH ?_;intro V g _ _ _)|(with_reducible refine aD ?_;intro V g _ _ _)))
   go_ret2
   exact⟨none,0,w,rfl,RowC.nil,⟨ExtC.h⟩⟩
  rw[if_neg (of_decide_eq_false e2)] at hs;obtain⟨nb,hnb⟩:∃x,r.bannedBy (sortE p.events) day=x:=⟨_,rfl⟩;have i4:BanE (courts (sortE p.events)) (r.offs (sortE p.events)).bans day nb:=⟨hnb⟩;rw[hnb] at hs;by_cases hb:nb=0
  case neg=>
   rw[if_pos hb] at hs;injection hs with m1 m2
   subst m1 m2;have q3:(nb !=0)=true:=by simpa using hb
   clear hz e1' hnb hb;go_enter Tryz.func27,Tryz.ntmps27
   go_wp2_with (first|(with_reducible refine aB ?_;rintro _ Vo ⟨gf,gt,Ae,ce,Ac,cc,Ap,cp,Ag,cg,tkn,rfl,(_:BlkC _ _ _ _),(_:RowC _ _ _ _ _ _ _),(_:RowC _ _ _ _ _ _ _),(_:RowC _ _ _ _ _ _ _),(_:RowC _ _ _ _ _ _ _),(_:MapC _ _ _ _),hTk,hagf,hagt,(_:StepC _ _)⟩)|(first|(with_reducible refine aA ?_)|(with_reducible refine aB ?_;first|rintro _ V ⟨rfl,(_:StepC _ _)⟩)|(with_reducible refine aH ?_;intro V g _ _ _)|(with_reducible refine aD ?_;intro V g _ _ _)))
   go_ret2
   exact⟨none,0,w,rfl,RowC.nil,⟨ExtC.h⟩⟩
  subst hb;rw[if_neg (by simp)] at hs
  injection hs with m1 m2
  subst m1 m2;have hho:=Fj hz day;have hgb:=kQ hz;obtain⟨hck,hbo,hn,hev⟩:=Rules.person_ok hz;have hso:SysOk r.sys:=fH hck;have hls:=Jy hso.h hho;have hgl:(r.grants p.born (sortE p.events)).length≤30:=by
   have h1:=Rules.grants_len (r:=r) p.born (sortE p.events) (sortE p.events) [];have h2:=Rules.sortE_len p.events;simp only[List.length_nil,Nat.zero_add] at h1;unfold Rules.grants;omega
  have Hgb:=Lib.hid hgb;have Hls:=Lib.hid hls;clear hz e1' hnb hho hgb hck hbo hn hev hls;go_enter Tryz.func27,Tryz.ntmps27
  go_wp2_with (first|(with_reducible refine aB ?_;rintro _ Vo ⟨gf,gt,Ae,ce,Ac,cc,Ap,cp,Ag,cg,tkn,rfl,(_:BlkC _ _ _ _),(_:RowC _ _ _ _ _ _ _),(_:RowC _ _ _ _ _ _ _),(_:RowC _ _ _ _ _ _ _),(_:RowC _ _ _ _ _ _ _),(_:MapC _ _ _ _),hTk,hagf,hagt,(_:StepC _ _)⟩)|(first|(with_reducible refine aA ?_)|(with_reducible refine aB ?_;first|rintro _ V ⟨rfl,(_:StepC _ _)⟩)|(with_reducible refine aH ?_;intro V g _ _ _)|(with_reducible refine aD ?_;intro V g _ _ _)))
  have hL:=(inferInstance:RowC Vo (.slice Ag (r.grants p.born (sortE p.events)).length cg) _ 137 5 _ _).list (l:=(r.grants p.born (sortE p.events))) rfl rfl rfl;have hcap:=hL.caps;have iL:=LeastE.mk Hls.out;go_loopw [44,10] (fun iv lv wr=>StepC V wr∧∃(k:Nat)(o:List Right)(Ao:Option Addr)(co:Nat),k≤(r.grants p.born (sortE p.events)).length∧iv=.int .i64 k∧o=Rules.heldL ((r.grants p.born (sortE p.events)).take k) day∧lv=.slice Ao o.length co∧RowC wr (.slice Ao o.length co) V 74 2 o.length (encL o)∧o.length≤k) (fun iv _ _=>(r.grants p.born (sortE p.events)).length-(RowKit.intOf iv).toNat)
  case atStart=>exact⟨⟨ExtC.h⟩,0,[],none,0,by omega,rfl,by simp[Rules.heldL],rfl,RowC.nil,by simp⟩
  case round=>
   obtain⟨_,k,o,Ao,co,hk,rfl,ho,rfl,hRo,hok⟩:=hrel;by_cases lk:k<(r.grants p.born (sortE p.events)).length
   ·obtain⟨ad,rfl,hc⟩:=hL.elem lk;have hgi:=Hgb.out _ (List.getElem_mem lk);have hsu:=Av (r.grants p.born (sortE p.events)) day lk;rw[←ho] at hsu;obtain⟨⟨gd,⟨gc,go⟩,gr,ge⟩,hx⟩:∃x,(r.grants p.born (sortE p.events))[k]=x:=⟨_,rfl⟩;rw[hx] at hc hgi hsu;have hge:=hgi.end_;simp only at hge;have i9:CellsB Vo (ad.add (k*5)) [.int .i64 gd,.int .i64 gc,.int .i64 go,.int .i64 gr,.int .i64 ge]:=⟨hc⟩;have zk:IntKind.i64.wrap ((k:Int)+1)=(k:Int)+1:=IntWalk.i64_in _ (by omega)
    have ze:IntKind.i64.wrap (ge-1)=ge-1:=IntWalk.i64_in _ (by omega)
    obtain⟨b,hb⟩:∃b,inB day gd (ge-1)=b:=⟨_,rfl⟩;have hb':outB gd (ge-1) [day]= !b:=by rw[bL,hb]
    have hhs:Rules.holds day ⟨gd,⟨gc,go⟩,gr,ge⟩=(decide (gr=0)&&b):=by
     rw[←hb,Bool.eq_iff_iff];simp[Rules.holds,inB];omega
    rw[hhs] at hsu;clear hc hx hhs ho hgi hge hb;by_cases c1:gr=0
    ·subst c1
     cases b
     ·simp only[decide_true,Bool.true_and,Bool.false_eq_true,if_false,List.append_nil] at hsu;have Hsu:=Lib.hid hsu;clear hsu;go_wp2_with (first|(with_reducible refine aG (uu:=12) ?_;intro V8 g8 hE8 hB8 hA8)|(first|(with_reducible refine aA ?_)|(with_reducible refine bA ?_)|(with_reducible refine bH ?_)|(with_reducible refine aB ?_;first|rintro _ V1 ⟨rfl,(_:StepC _ _)⟩)|(with_reducible refine aD ?_;intro V1 g _ _ _)))
      exact⟨⟨⟨ExtC.h⟩,k+1,o,Ao,co,lk,by push_cast;rfl,Hsu.out.symm,rfl,inferInstance,by omega⟩,by simp[RowKit.intOf];omega⟩
     ·simp only[decide_true,Bool.true_and,if_true] at hsu;have Hsu:=Lib.hid hsu;clear hsu;go_wp2_with (first|(with_reducible refine aG (uu:=12) ?_;intro V8 g8 hE8 hB8 hA8)|(first|(with_reducible refine aA ?_)|(with_reducible refine bA ?_)|(with_reducible refine bH ?_)|(with_reducible refine aB ?_;first|rintro _ V1 ⟨rfl,(_:StepC _ _)⟩)|(with_reducible refine aD ?_;intro V1 g _ _ _)|(with_reducible refine bR ?_;intro _ _ V1 hR _)))
      obtain⟨A8,c8,e8,h8⟩:=cV (l:=o) (x:=(⟨gc,go⟩:Right)) Hsu.out hR;exact⟨⟨⟨ExtC.h⟩,k+1,_,A8,c8,lk,by push_cast;rfl,rfl,e8,h8,by rw[Hsu.out];simp;omega⟩,by simp[RowKit.intOf];omega⟩
    ·have q5:(gr==0)=false:=by simpa using c1
     simp only[decide_eq_false c1,Bool.false_and,Bool.false_eq_true,if_false,List.append_nil] at hsu;have Hsu:=Lib.hid hsu;clear hsu c1;go_wp2_with (first|(with_reducible refine aG (uu:=12) ?_;intro V8 g8 hE8 hB8 hA8)|(first|(with_reducible refine aA ?_)))
     exact⟨⟨⟨ExtC.h⟩,k+1,o,Ao,co,lk,by push_cast;rfl,Hsu.out.symm,rfl,inferInstance,by omega⟩,by simp[RowKit.intOf];omega⟩
   ·obtain rfl:k=(r.grants p.born (sortE p.events)).length:=by omega
    rw[List.take_length] at ho;subst ho;go_wp2_with (first|(with_reducible refine aB ?_;rintro _ V1 ⟨A8,c8,B8,rfl,hR8,(_:StepC _ _)⟩)|(first|(with_reducible refine aA ?_)))
    go_ret2
    exact⟨A8,c8,B8,rfl,hR8,⟨ExtC.h⟩⟩
 ·rw[if_pos hz] at hs;injection hs with m1 m2
  subst m1 m2;have i3:PersBad r p _:=⟨rfl,hz⟩;have q:(r.personErr p !=0)=true:=by simpa using hz
  obtain⟨er,her⟩:∃e,r.personErr p=e:=⟨_,rfl⟩;rw[her] at i3 q⊢;clear hz her;go_enter Tryz.func27,Tryz.ntmps27
  go_wp2_with (first|(first|(with_reducible refine aA ?_)|(with_reducible refine aB ?_;first|rintro _ V ⟨rfl,(_:StepC _ _)⟩)|(with_reducible refine aH ?_;intro V g _ _ _)))
  go_ret2
  exact⟨none,0,w,rfl,RowC.nil,⟨ExtC.h⟩⟩
theorem Lp(r:Rules)(p:Person)(v pv:Value)(day:Int)(l:List Right)(n:Int)(w:World)(h:RulesV w v r)(hp:PersonV w pv p)(hs:r.heldAns p day=(l,n)):Calls Tryz.prog 27 #[v,pv,.int .i64 day] w (RLI w l n):=by
 refine(yJ r p v pv day l n w h hp hs).mono ?_;rintro e W' ⟨A,c,B,rfl,hR,hS⟩;exact⟨A,c,rfl,⟨hR.list rfl rfl rfl⟩,hS⟩
instance{W:World}{v pv:Value}{r:Rules}{p:Person}{day:Int}{l:List Right}{n:Int}[h:RulesC W v r][hp:PersonC W pv p][q:HeldE r p day l n]:FunC Tryz.prog 27 #[v,pv,.int .i64 day] W (RLI W l n):=⟨Lp r p v pv day l n W h.h hp.h q.h⟩
end Go.Rg
end
