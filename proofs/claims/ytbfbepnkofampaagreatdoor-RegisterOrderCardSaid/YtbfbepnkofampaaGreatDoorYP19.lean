/- Chapter 11: contracts of functions of the program and of the reference, and plain laws (out of RLs RO ROa ROb RfC NLm RhD). No condition of its own. -/
import Derived.Test.YtbfbepnkofampaaGreatDoorYP18
set_option maxRecDepth 100000
set_option linter.all false
section
namespace Go.Rg
open Go Go.Bp Go.RowKit Go.Walk Go.Proofs
set_option synthInstance.maxSize 2000
set_option synthInstance.maxHeartbeats 400000
set_option maxHeartbeats 4000000
class LeastE (s:Sys) (l:List Right) (m:outParam (List Right)) (r:outParam Int):Prop where h:s.leastAns l=(m,r)
class FormE (s:outParam Sys) (l:List Right) (m:outParam (List Right)):Prop where h:((∀r∈l,s.rightErr r=0)∧l.length≤1000∧s.codes.length≤8)∧s.least l=m
instance{W:World}{gs n:Nat}{v1 v2 cv v:Value}{s:Sys}{l m:List Right}[hSys:BlkC W gs 177 [v1,v2,cv]][hCov:CovC W cv n s][h:ListC Right W v l][q:FormE s l m]:FunC Tryz.prog 130 #[.pointer (some ⟨gs,0,none⟩),v] W (RRw 74 W m):=⟨by
 rw[←q.h.2];exact sleast_any s gs n v1 v2 cv v l W h.h q.h.1.1 q.h.1.2.1 q.h.1.2.2⟩
abbrev RLR{α:Type}[Enc α](t:TypeId)(W:World)(l:List α)(n:Int)(e:Ending)(W':World):Prop:=∃A c B,e=.returned (.tuple #[.slice A l.length c,.int .i64 n])∧RowC W' (.slice A l.length c) B t (Enc.size α) l.length (encL l)∧StepC W W'
theorem Least_any(s:Sys)(v lv:Value)(l m:List Right)(r:Int)(w:World)(h:SysV w v s)(hl:ListV w lv l)(hm:s.leastAns l=(m,r)):Calls Tryz.prog 71 #[v,lv] w (RLR 74 w m r):=by
 obtain⟨A,_,k,A',k',rfl,rfl,-⟩:=h.h;obtain⟨B,kb,rfl,-⟩:=hl.form;have i1:=SysB.mk h;have i2:=ListB.mk hl;unfold Sys.leastAns at hm;obtain⟨ra,hra⟩:∃x,s.asked l=x:=⟨_,rfl⟩;rw[hra] at hm;by_cases hz:ra=0
 ·subst hz;have i3:AskOk s l:=⟨hra⟩;have hok:=sys_ok hra;have hrs:=rights_ok (asked_ok hra).2;rw[if_neg (by simp)] at hm
  injection hm with m1 m2
  subst m2;have i5:FormE s l m:=⟨⟨hrs.1,by have:=hrs.2;omega,hok.c⟩,m1⟩
  clear hra hok m1;go_enter Tryz.func71,Tryz.ntmps71
  go_wp2_with (first|(with_reducible refine call_c ?_;rintro _ V ⟨A9,c9,B9,rfl,hL9,(_:StepC _ _)⟩)|(first|(with_reducible refine load_c ?_)|(with_reducible refine call_c ?_;first|rintro _ V ⟨gp,Ap,kp,Aq,kq,cv,rfl,_,_,_,_,(_:StepC _ _)⟩)|(with_reducible refine box_c ?_;intro V g _ _ _)|(with_reducible refine bslice_c ?_;intro V g _ _ _)))
  go_ret2
  exact⟨A9,c9,B9,rfl,hL9,⟨ExtC.h⟩⟩
 ·have i3:AskBad s l ra:=⟨hra,hz⟩;rw[if_pos hz] at hm;injection hm with m1 m2
  subst m1 m2;have q1:(ra !=0)=true:=by simpa using hz
  clear hra;go_enter Tryz.func71,Tryz.ntmps71
  go_wp2_with (first|(with_reducible refine load_c ?_)|(with_reducible refine call_c ?_;first|rintro _ V ⟨pv,rfl,(_:StepC _ _)⟩)|(with_reducible refine box_c ?_;intro V g _ _ _)|(with_reducible refine bslice_c ?_;intro V g _ _ _))
  go_ret2
  exact⟨none,0,w,rfl,RowC.nil,⟨ExtC.h⟩⟩
instance{W:World}{v lv:Value}{s:Sys}{l m:List Right}{r:Int}[h:SysC W v s][hl:ListC Right W lv l][q:LeastE s l m r]:FunC Tryz.prog 71 #[v,lv] W (RLR 74 W m r):=⟨Least_any s v lv l m r W h.h hl.h q.h⟩
end Go.Rg
end
section
namespace Go.Rg
open Go Go.Bp Go.RowKit Go.Walk Go.Proofs
set_option synthInstance.maxSize 2000
set_option synthInstance.maxHeartbeats 400000
set_option maxHeartbeats 4000000
class SysOk (s:Sys):Prop where h:s.check=(0,0,0)
theorem asked_1{s:Sys}(h:s.check=(0,0,0))(x:Right):s.asked [x]=s.rightErr x:=by
 unfold Sys.asked Sys.rightsErr;rw[h,if_neg (by simp),if_neg (by simp)]
 by_cases hx:s.rightErr x=0
 ·rw[firstE_none (fun i hi=>by simp at hi;subst hi;exact hx),hx]
 ·rw[firstE_at (k:=0) (by simp) (by simpa using hx) (fun i hi=>by omega)];rfl
instance{W:World}{g:Nat}{t:TypeId}{a b:Int}[h:BlkC W g t [.int .i64 a,.int .i64 b]]:ListC Right W (.slice (some ⟨g,0,none⟩) 1 1) [⟨a,b⟩]:=⟨ListV.blk h.h rfl rfl (by simp[maxLen])⟩
class RightE (s:Sys) (x:Right) (r:outParam Int):Prop where h:s.rightErr x=r
theorem right_any(r:Rules)(v:Value)(a b e:Int)(w:World)(h:RulesV w v r)(h0:r.sys.check=(0,0,0))(hr:r.sys.rightErr ⟨a,b⟩=e):Calls Tryz.prog 106 #[v,.agg #[.int .i64 a,.int .i64 b]] w (RI w e):=by
 obtain⟨A,n,c,A',c',A2,c2,rfl,rfl,-⟩:=h.h;have i1:=SysB.mk h.sys;obtain⟨⟨m,e'⟩,hm⟩:∃x,r.sys.leastAns [⟨a,b⟩]=x:=⟨_,rfl⟩;have he:e'=e:=by
  have:=asked_1 h0 ⟨a,b⟩;unfold Sys.leastAns at hm;rw[this,hr] at hm;split at hm<;>injection hm with h1 h2
  ·exact h2.symm
  ·rename_i h3;simp at h3;rw[h3,←h2]
 subst he;have i2:=LeastE.mk hm;clear hm hr h0;go_enter Tryz.func106,Tryz.ntmps106
 go_wp2_with (first|(with_reducible refine load_c ?_)|(with_reducible refine call_c ?_;first|rintro _ V ⟨_,_,_,rfl,(_:RowC _ _ _ _ _ _ _),(_:StepC _ _)⟩)|(with_reducible refine box_c ?_;intro V g _ _ _)|(with_reducible refine bslice_c ?_;intro V g _ _ _))
 go_ret
 exact⟨rfl,⟨ExtC.h⟩⟩
instance{W:World}{v:Value}{r:Rules}{a b e:Int}[h:RulesC W v r][h0:SysOk r.sys][q:RightE r.sys ⟨a,b⟩ e]:FunC Tryz.prog 106 #[v,.agg #[.int .i64 a,.int .i64 b]] W (RI W e):=⟨right_any r v a b e W h.h h0.h q.h⟩
instance{W:World}{g t:Nat}{s:ByteArray}{v1 v2 v3 v4:Value}{l:List Treaty}[h:BlkC W g t [.string s,v1,v2,v3,v4]]:PredC Treaty W (.func (.func 105) #[] #[.pointer (some ⟨g,0,none⟩)]) l (fun x=>decide (x.name=s)):=
 ⟨_,_,rfl,enters_of Tryz.func105 (by kernel_rfl) rfl,fun x hx W' hE=>by
  have i1:BlkC W' g t [.string s,v1,v2,v3,v4]:=⟨h.h.ext hE⟩;obtain⟨nm,⟨rc,ro⟩,dl,dh⟩:=x;have go:Calls Tryz.prog 105 #[.agg #[.string nm,.int .i64 rc,.int .i64 ro,.int .i64 dl,.int .i64 dh],.pointer (some ⟨g,0,none⟩)] W' (RB W' (decide (nm=s))):=by
   obtain⟨b,hb⟩:∃b,decide (nm=s)=b:=⟨_,rfl⟩;have hb2:=ba_tl nm s;rw[hb] at hb2;rw[hb];clear hb;go_enter Tryz.func105,Tryz.ntmps105
   go_wp2_with (first|(with_reducible refine load_c ?_)|(with_reducible refine box_c ?_;intro V g _ _ _))
   go_ret
   exact⟨by first|rfl,⟨ExtC.h⟩⟩
  exact go.mono fun e W2 ⟨h,hE⟩=>⟨h,hE.h⟩⟩
set_option maxHeartbeats 8000000 in
theorem treaty_any(r:Rules)(v:Value)(i:Nat)(nm:ByteArray)(a b lo hi:Int)(w:World)(h:RulesV w v r)(h0:r.sys.check=(0,0,0))(hi0:i<r.treaties.length)(hz:nm.size≤maxLen):
 Calls Tryz.prog 56 #[v,.int .i64 i,.agg #[.string nm,.int .i64 a,.int .i64 b,.int .i64 lo,.int .i64 hi]] w (RI w (r.treatyErr i ⟨nm,⟨a,b⟩,⟨lo,hi⟩⟩)):=by
 obtain⟨A,n,c,A',c',A2,c2,rfl,hn,h1,h2,h3⟩:=h.h;subst hn;have i1:=RulesB.mk h;have i2:=ListB.mk (h3.upto (k:=i) (by omega))
 have hcap:=h3.caps.2;have i3:SysOk r.sys:=⟨h0⟩;have i4:=SzC.mk hz;obtain⟨e,he⟩:∃e,r.sys.rightErr ⟨a,b⟩=e:=⟨_,rfl⟩;have i5:=RightE.mk he;obtain⟨d1,e1⟩:∃d,isName nm= !d:=⟨!isName nm,by simp⟩
 obtain⟨d2,e2⟩:∃d,((r.treaties.take i).any fun x=>decide (x.name=nm))=d:=⟨_,rfl⟩
 obtain⟨d3,e3⟩:∃d,(e !=0)=d:=⟨_,rfl⟩;obtain⟨d4,e4⟩:∃d,outB 0 40000 [lo,hi]=d:=⟨_,rfl⟩;obtain⟨d5,e5⟩:∃d,decide (hi<lo)=d:=⟨_,rfl⟩;have E:r.treatyErr i ⟨nm,⟨a,b⟩,⟨lo,hi⟩⟩=firstT [(d1,6),(d2,5),(d3,e),(d4,7),(d5,2)] 0:=by
  unfold Rules.treatyErr;simp only[he,e1,e2];rw[outB_2] at e4;have e3':(e≠0)=(d3=true):=by rw[←e3];simp
  have e5':(hi<lo)=(d5=true):=by rw[←e5];simp
  have e4':(inB lo 0 40000=false∨inB hi 0 40000=false)=(d4=true):=by rw[←e4];simp
  simp only[e3',e4',e5'];clear e1 e2 e3 e4 e5 e3' e4' e5'
  cases d1<;>cases d2<;>cases d3<;>cases d4<;>cases d5<;>rfl
 rw[E];have hic:i≤c2:=by omega
 clear E he h0 hcap h h1 h2 h3;go_enter Tryz.func56,Tryz.ntmps56
 go_wp2_with (first|(with_reducible refine load_c ?_)|(with_reducible refine call_c ?_;first|rintro _ V ⟨rfl,(_:StepC _ _)⟩)|(with_reducible refine box_c ?_;intro V g _ _ _)|(with_reducible refine bslice_c ?_;intro V g _ _ _))
 all_goals(try(go_ret;refine⟨?_,⟨ExtC.h⟩⟩;first|(simp only[*];rfl)))
end Go.Rg
end
section
namespace Go.Rg
open Go Go.Bp Go.RowKit Go.Walk Go.Proofs
set_option synthInstance.maxSize 2000
set_option synthInstance.maxHeartbeats 400000
set_option maxHeartbeats 4000000
instance{W:World}{v:Value}{r:Rules}[h:RulesC W v r][h0:SysOk r.sys]:ChkC Treaty W (.func (.func 56) #[v] #[]) r.treaties r.treatyErr:=
 ⟨_,_,_,rfl,enters_of Tryz.func56 (by kernel_rfl) rfl,fun k hk W' hE=>by
  have hz:=h.h.wf.2 _ (List.getElem_mem hk);exact(treaty_any r v k _ _ _ _ _ W' (h.h.ext hE) h0.h hk hz).mono fun e W2 ⟨h,hE⟩=>⟨h,hE.h⟩⟩
class RChkE (r:Rules) (p a e:outParam Int):Prop where h:r.check=(p,a,e)
set_option maxHeartbeats 8000000 in
theorem RCheck_any(r:Rules)(v:Value)(p a e:Int)(w:World)(h:RulesV w v r)(hc:r.check=(p,a,e)):Calls Tryz.prog 16 #[v] w (RIII w p a e):=by
 obtain⟨A,n,c,A',c',A2,c2,rfl,hn,h1,h2,h3⟩:=h.h;subst hn;have i1:=RulesB.mk h;have i2:=SysB.mk h.sys;have i3:=ListB.mk h3;have i3':=ListB.mk h2;have hcap:=h3.caps.2;clear h1 h2 h3;obtain⟨⟨p1,a1,e1⟩,hk⟩:∃x,r.sys.check=x:=⟨_,rfl⟩;have i4:=ChkE.mk hk;unfold Rules.check at hc;rw[hk] at hc;simp only at hc;by_cases z1:e1=0
 ·subst z1;obtain⟨rfl,rfl⟩:=check_zero hk;rw[if_neg (by simp)] at hc
  have i5:SysOk r.sys:=⟨hk⟩;by_cases z2:6<r.treaties.length
  ·rw[if_pos z2] at hc;injection hc with m1 m2
   injection m2 with m2 m3
   subst m1 m2 m3;have q:((r.treaties.length:Int)>6):=by omega
   clear hk;go_enter Tryz.func16,Tryz.ntmps16
   go_wp2_with (first|(with_reducible refine load_c ?_)|(with_reducible refine call_c ?_;first|rintro _ V ⟨rfl,(_:StepC _ _)⟩)|(with_reducible refine newvar_c ?_;intro V g _ _ _)|(with_reducible refine box_c ?_;intro V g _ _ _))
   go_ret3
   exact⟨rfl,⟨ExtC.h⟩⟩
  rw[if_neg z2] at hc;have q:¬((r.treaties.length:Int)>6):=by omega
  obtain⟨⟨a3,e3⟩,hf⟩:∃x,firstE r.treaties r.treatyErr=x:=⟨_,rfl⟩;rw[hf] at hc;simp only at hc;by_cases z3:e3=0
  ·subst z3;rw[if_neg (by simp)] at hc
   obtain⟨d1,g1⟩:∃d,outB 1 100 [r.limit]=d:=⟨_,rfl⟩;obtain⟨d2,g2⟩:∃d,outB 1 40000 [r.fall,r.ban]=d:=⟨_,rfl⟩;have e4:(inB r.limit 1 100=false∨inB r.fall 1 40000=false∨inB r.ban 1 40000=false)=(d1=true∨d2=true):=by rw[←g1,←g2,outB_1,outB_2];simp
   simp only[e4] at hc;clear e4 hk
   cases d1
   ·cases d2
    ·rw[if_neg (by simp)] at hc
     injection hc with m1 m2
     injection m2 with m2 m3
     subst m1 m2 m3;go_enter Tryz.func16,Tryz.ntmps16
     go_wp2_with (first|(with_reducible refine load_c ?_)|(with_reducible refine load_g ?_)|(with_reducible refine unguard_b ?_)|(with_reducible refine call_c ?_;first|rintro _ V ⟨rfl,(_:StepC _ _)⟩)|(with_reducible refine newvar_c ?_;intro V g _ _ _)|(with_reducible refine box_c ?_;intro V g _ _ _)|(with_reducible refine bslice_c ?_;intro V g _ _ _))
     go_ret3
     exact⟨rfl,⟨ExtC.h⟩⟩
    ·rw[if_pos (by simp)] at hc
     injection hc with m1 m2
     injection m2 with m2 m3
     subst m1 m2 m3;go_enter Tryz.func16,Tryz.ntmps16
     go_wp2_with (first|(with_reducible refine load_c ?_)|(with_reducible refine load_g ?_)|(with_reducible refine unguard_b ?_)|(with_reducible refine call_c ?_;first|rintro _ V ⟨rfl,(_:StepC _ _)⟩)|(with_reducible refine newvar_c ?_;intro V g _ _ _)|(with_reducible refine box_c ?_;intro V g _ _ _)|(with_reducible refine bslice_c ?_;intro V g _ _ _))
     go_ret3
     exact⟨rfl,⟨ExtC.h⟩⟩
   ·rw[if_pos (by simp)] at hc
    injection hc with m1 m2
    injection m2 with m2 m3
    subst m1 m2 m3;go_enter Tryz.func16,Tryz.ntmps16
    go_wp2_with (first|go_skip|(with_reducible refine load_c ?_)|(with_reducible refine call_c ?_;first|rintro _ V ⟨rfl,(_:StepC _ _)⟩)|(with_reducible refine newvar_c ?_;intro V g _ _ _)|(with_reducible refine box_c ?_;intro V g _ _ _)|(with_reducible refine bslice_c ?_;intro V g _ _ _))
    go_ret3
    exact⟨rfl,⟨ExtC.h⟩⟩
  ·rw[if_pos z3] at hc;injection hc with m1 m2
   injection m2 with m2 m3
   subst m1 m2 m3;have q3:(e3 !=0)=true:=by simpa using z3
   clear hk;go_enter Tryz.func16,Tryz.ntmps16
   go_wp2_with (first|(with_reducible refine load_c ?_)|(with_reducible refine call_c ?_;first|rintro _ V ⟨rfl,(_:StepC _ _)⟩)|(with_reducible refine newvar_c ?_;intro V g _ _ _)|(with_reducible refine box_c ?_;intro V g _ _ _))
   go_ret3
   exact⟨rfl,⟨ExtC.h⟩⟩
 ·rw[if_pos z1] at hc;injection hc with m1 m2
  injection m2 with m2 m3
  subst m1 m2 m3;have q:(e1 !=0)=true:=by simpa using z1
  clear hk;go_enter Tryz.func16,Tryz.ntmps16
  go_wp2_with (first|(with_reducible refine load_c ?_)|(with_reducible refine call_c ?_;first|rintro _ V ⟨rfl,(_:StepC _ _)⟩)|(with_reducible refine newvar_c ?_;intro V g _ _ _)|(with_reducible refine box_c ?_;intro V g _ _ _))
  go_ret3
  exact⟨rfl,⟨ExtC.h⟩⟩
instance{W:World}{v:Value}{r:Rules}{p a e:Int}[h:RulesC W v r][q:RChkE r p a e]:FunC Tryz.prog 16 #[v] W (RIII W p a e):=⟨RCheck_any r v p a e W h.h q.h⟩
end Go.Rg
end
section
namespace Go.Rg
open Go Go.Bp Go.RowKit Go.Walk Go.Proofs
set_option synthInstance.maxSize 2000
set_option synthInstance.maxHeartbeats 400000
set_option maxHeartbeats 4000000
def anyN(l:List Int):Bool:=l.any fun x=>decide (x≠0)
theorem event_e{r:Rules}{b:Int}{x:Event}{d2 d3:Bool}{l:List (Bool×Int)}{n:List Int}(hk:inB x.kind 0 4=true)(e2:outB 0 40000 [x.day]=d2)(e3:decide (x.day<b)=d3)(h1:(r.had x).2=firstT l 0)(h2:(r.had x).1≠Rules.bare x.kind x.day↔anyN n=true)(hl:∀y∈l,y.1=true→y.2≠0):r.eventErr b x=firstT ((d2,7)::(d3,2)::(l++ [(anyN n,2)])) 0:=by
 unfold Rules.eventErr;rw[if_neg (by simp[hk])]
 rw[outB_1] at e2;have e2':(inB x.day 0 40000=false)=(d2=true):=by rw[←e2];simp
 have e3':(x.day<b)=(d3=true):=by rw[←e3];simp
 simp only[e2',e3',h1,h2];clear e2 e3 e2' e3' h1 h2
 cases d2
 ·cases d3
  ·simp only[Bool.false_eq_true,if_false];show _=firstT (l++ [(anyN n,2)]) 0
   induction l with
   |nil=>cases anyN n<;>simp[firstT]
   |cons y l ih=>
    obtain⟨y1,y2⟩:=y
    cases y1
    ·have:=ih fun z hz=>hl z (by simp[hz])
     simp only[firstT,List.cons_append];exact this
    ·simp[firstT,hl (true,y2) (by simp) rfl]
  ·simp[firstT]
 ·simp[firstT]
theorem firstT_cons(b:Bool)(a z:Int)(l:List (Bool×Int)):firstT ((b,a)::l) z=if b=true then a else firstT l z:=by cases b<;>rfl
set_option maxHeartbeats 8000000 in
theorem event_any(r:Rules)(v:Value)(b k d c o t q p u m:Int)(w:World)(h:RulesV w v r)(h0:r.sys.check=(0,0,0)):
 Calls Tryz.prog 118 #[v,.int .i64 b,.agg #[.int .i64 k,.int .i64 d,.int .i64 c,.int .i64 o,.int .i64 t,.int .i64 q,.int .i64 p,.int .i64 u,.int .i64 m]] w (RI w (r.eventErr b ⟨k,d,⟨c,o⟩,t,q,p,u,m⟩)):=by
 obtain⟨A,n,kc,A',c',A2,c2,rfl,hn,hh⟩:=h.h;subst hn;have i1:=RulesB.mk h;have hz1:IntKind.i64.wrap ((r.treaties.length:Int)-1)=(r.treaties.length:Int)-1:=by
  have:=hh.2.2.caps.2;exact IntWalk.i64_in _ (by omega)
 have hz2:IntKind.i64.wrap ((r.sys.classes.length:Int)-1)=(r.sys.classes.length:Int)-1:=by
  obtain⟨l,q1,q2,-⟩:=hh.1.h;have:=q2.caps;exact IntWalk.i64_in _ (by omega)
 clear hh;have i3:SysOk r.sys:=⟨h0⟩;obtain⟨e,he⟩:∃e,r.sys.rightErr ⟨c,o⟩=e:=⟨_,rfl⟩;have i5:=RightE.mk he;obtain⟨d2,e2⟩:∃x,outB 0 40000 [d]=x:=⟨_,rfl⟩;obtain⟨d3,e3⟩:∃x,decide (d<b)=x:=⟨_,rfl⟩;by_cases k0:k=0
 ·subst k0;have q1:outB 0 4 [0]=false:=by decide
  have E:=event_e (r:=r) (x:=⟨0,d,⟨c,o⟩,t,q,p,u,m⟩) (l:=[(decide (e≠0),e),(outB 0 1439 [m],7)]) (n:=[t,q,p,u]) (by show inB 0 0 4=true;decide) e2 e3 (by simp[Rules.had];(rw[he,outB_1];cases inB m 0 1439<;>simp[firstT_cons,firstT];try(split<;>simp_all))) (by simp[Rules.had,Rules.bare,anyN];try omega) (by simp)
  rw[E];clear E he h0;go_enter Tryz.func118,Tryz.ntmps118
  go_wp2_with (first|go_skip|(with_reducible refine load_c ?_)|(with_reducible refine load_g ?_)|(with_reducible refine unguard_b ?_)|(with_reducible refine call_c ?_;first|rintro _ V ⟨rfl,(_:StepC _ _)⟩)|(with_reducible refine newvar_c ?_;intro V g _ _ _)|(with_reducible refine store_c ?_;intro V _ _)|(with_reducible refine box_c ?_;intro V g _ _ _)|(with_reducible refine bslice_c ?_;intro V g _ _ _))
  all_goals(try(go_ret;exact⟨by simp[firstT_cons,firstT,anyN, *],⟨ExtC.h⟩⟩))
 by_cases k1:k=1
 ·subst k1;have q1:outB 0 4 [1]=false:=by decide
  have E:=event_e (r:=r) (x:=⟨1,d,⟨c,o⟩,t,q,p,u,m⟩) (l:=[(outB 0 ((r.treaties.length:Int)-1) [t],4)]) (n:=[c,o,q,p,u,m]) (by show inB 1 0 4=true;decide) e2 e3 (by simp[Rules.had];(rw[outB_1];cases inB t 0 _<;>rfl)) (by simp[Rules.had,Rules.bare,anyN];try omega) (by simp)
  rw[E];clear E he h0;go_enter Tryz.func118,Tryz.ntmps118
  go_wp2_with (first|go_skip|(with_reducible refine load_c ?_)|(with_reducible refine load_g ?_)|(with_reducible refine call_c ?_;first|rintro _ V ⟨rfl,(_:StepC _ _)⟩)|(with_reducible refine newvar_c ?_;intro V g _ _ _)|(with_reducible refine store_c ?_;intro V _ _)|(with_reducible refine box_c ?_;intro V g _ _ _)|(with_reducible refine bslice_c ?_;intro V g _ _ _))
  all_goals(try(go_ret;exact⟨by simp[firstT_cons,firstT,anyN, *],⟨ExtC.h⟩⟩))
 by_cases k2:k=2
 ·subst k2;have q1:outB 0 4 [2]=false:=by decide
  have E:=event_e (r:=r) (x:=⟨2,d,⟨c,o⟩,t,q,p,u,m⟩) (l:=[(outB 0 ((r.sys.classes.length:Int)-1) [q],4)]) (n:=[c,o,t,p,u,m]) (by show inB 2 0 4=true;decide) e2 e3 (by simp[Rules.had];(rw[outB_1];cases inB q 0 _<;>rfl)) (by simp[Rules.had,Rules.bare,anyN];try omega) (by simp)
  rw[E];clear E he h0;go_enter Tryz.func118,Tryz.ntmps118
  go_wp2_with (first|go_skip|(with_reducible refine load_c ?_)|(with_reducible refine load_g ?_)|(with_reducible refine call_c ?_;first|rintro _ V ⟨rfl,(_:StepC _ _)⟩)|(with_reducible refine newvar_c ?_;intro V g _ _ _)|(with_reducible refine store_c ?_;intro V _ _)|(with_reducible refine box_c ?_;intro V g _ _ _)|(with_reducible refine bslice_c ?_;intro V g _ _ _))
  all_goals(try(go_ret;exact⟨by simp[firstT_cons,firstT,anyN, *],⟨ExtC.h⟩⟩))
 by_cases k3:k=3
 ·subst k3;have q1:outB 0 4 [3]=false:=by decide
  have E:=event_e (r:=r) (x:=⟨3,d,⟨c,o⟩,t,q,p,u,m⟩) (l:=[(outB 1 20 [p],7)]) (n:=[c,o,t,q,u,m]) (by show inB 3 0 4=true;decide) e2 e3 (by simp[Rules.had];(rw[outB_1];cases inB p 1 20<;>rfl)) (by simp[Rules.had,Rules.bare,anyN];try omega) (by simp)
  rw[E];clear E he h0;go_enter Tryz.func118,Tryz.ntmps118
  go_wp2_with (first|go_skip|(with_reducible refine load_c ?_)|(with_reducible refine load_g ?_)|(with_reducible refine call_c ?_;first|rintro _ V ⟨rfl,(_:StepC _ _)⟩)|(with_reducible refine newvar_c ?_;intro V g _ _ _)|(with_reducible refine store_c ?_;intro V _ _)|(with_reducible refine box_c ?_;intro V g _ _ _)|(with_reducible refine bslice_c ?_;intro V g _ _ _))
  all_goals(try(go_ret;exact⟨by simp[firstT_cons,firstT,anyN, *],⟨ExtC.h⟩⟩))
 by_cases k4:k=4
 ·subst k4;have q1:outB 0 4 [4]=false:=by decide
  have E:=event_e (r:=r) (x:=⟨4,d,⟨c,o⟩,t,q,p,u,m⟩) (l:=[(outB d 40000 [u],7)]) (n:=[c,o,t,q,p,m]) (by show inB 4 0 4=true;decide) e2 e3 (by simp[Rules.had];(rw[outB_1];cases inB u d 40000<;>rfl)) (by simp[Rules.had,Rules.bare,anyN];try omega) (by simp)
  rw[E];clear E he h0;go_enter Tryz.func118,Tryz.ntmps118
  go_wp2_with (first|go_skip|(with_reducible refine load_c ?_)|(with_reducible refine load_g ?_)|(with_reducible refine call_c ?_;first|rintro _ V ⟨rfl,(_:StepC _ _)⟩)|(with_reducible refine newvar_c ?_;intro V g _ _ _)|(with_reducible refine store_c ?_;intro V _ _)|(with_reducible refine box_c ?_;intro V g _ _ _)|(with_reducible refine bslice_c ?_;intro V g _ _ _))
  all_goals(try(go_ret;exact⟨by simp[firstT_cons,firstT,anyN, *],⟨ExtC.h⟩⟩))
 have hb:inB k 0 4=false:=by
  cases hb:inB k 0 4
  ·rfl
  ·have:=inB_t.1 hb;omega
 have q1:outB 0 4 [k]=true:=by rw[outB_1,hb];rfl
 have E:r.eventErr b ⟨k,d,⟨c,o⟩,t,q,p,u,m⟩=2:=by unfold Rules.eventErr;rw[if_pos hb]
 rw[E];clear E he h0 hb k0 k1 k2 k3 k4;go_enter Tryz.func118,Tryz.ntmps118
 go_wp2_with (first|(with_reducible refine load_c ?_)|(with_reducible refine call_c ?_;first|rintro _ V ⟨rfl,(_:StepC _ _)⟩)|(with_reducible refine box_c ?_;intro V g _ _ _)|(with_reducible refine bslice_c ?_;intro V g _ _ _))
 all_goals(try(go_ret;refine⟨?_,⟨ExtC.h⟩⟩;first|rfl))
class EvE (r:Rules) (b:Int) (x:Event) (e:outParam Int):Prop where h:r.eventErr b x=e
instance{W:World}{v:Value}{r:Rules}{b k d c o t q p u m e:Int}[h:RulesC W v r][h0:SysOk r.sys][z:EvE r b ⟨k,d,⟨c,o⟩,t,q,p,u,m⟩ e]:FunC Tryz.prog 118 #[v,.int .i64 b,.agg #[.int .i64 k,.int .i64 d,.int .i64 c,.int .i64 o,.int .i64 t,.int .i64 q,.int .i64 p,.int .i64 u,.int .i64 m]] W (RI W e):=⟨by rw[←z.h];exact event_any r v b k d c o t q p u m W h.h h0.h⟩
end Go.Rg
end
section
namespace Go.Bp
open Go.RowKit
def _root_.Go.Act.sets(a:Act)(ks:List Nat)(x:Nat→Value):Act:={a with tmps:=ks.foldl (fun t k=>t.setIfInBounds k (x k)) a.tmps}
def _root_.Go.Act.get(a:Act)(k:Nat):Value:=(a.tmps[k]?).getD undef
theorem cut_ex{a a':Act}{ks:List Nat}{T:(Nat→Value)→Prop}(h:a'=Act.sets a ks a'.get)(hT:T a'.get):∃x,a'=Act.sets a ks x∧T x:=⟨_,h,hT⟩
theorem cut_ex0{a a':Act}{ks:List Nat}(h:a'=Act.sets a ks a'.get):∃x,a'=Act.sets a ks x:=⟨_,h⟩
theorem wp_cutG{P:Program}{c:Go.Code}{Q:Exit→Act→World→Prop}{a:Act}{w:World}(ks:List Nat)(R:(Nat→Value)→World→Prop)(h:c.wp P (fun e a' w'=>e=.normal∧∃x,a'=Act.sets a ks x∧R x w') a w)(k:∀x w',R x w'→Q .normal (Act.sets a ks x) w'):c.wp P Q a w:=
 Code.wp_mono (fun e a' w' ⟨he,x,ha,hR⟩=>by subst he;subst ha;exact k x w' hR) h
theorem wp_cutX{P:Program}{c:Go.Code}{Q:Exit→Act→World→Prop}{a:Act}{w:World}(e0:Exit)(ks:List Nat)(R:(Nat→Value)→World→Prop)(h:c.wp P (fun e a' w'=>e=e0∧∃x,a'=Act.sets a ks x∧R x w') a w)(k:∀x w',R x w'→Q e0 (Act.sets a ks x) w'):c.wp P Q a w:=
 Code.wp_mono (fun e a' w' ⟨he,x,ha,hR⟩=>by subst he;subst ha;exact k x w' hR) h
end Go.Bp
end
section
namespace Go.Walk
open Go Go.Bp Go.RowKit
theorem wp_loopM{P:Program}{Q:Exit→Act→World→Prop}{a:Act}{w:World}{c:Go.Code}(f:(Nat→Value)→Array Value)(i0:Nat)(R:Nat→List Nat→Value→World→Prop)(n₀:Nat)(hd:a.defers=[])(ha:a.tmps=f a.get)(h0:R n₀ [] (a.get i0) w)
 (round:∀(n:Nat)(ds:List Nat)(x:Nat→Value)(W:World)(K:Act→World→Prop),R n ds (x i0) W→(∀n' ds'(a':Act)W',n'<n→a'.defers=marksL ds'→a'.tmps=f a'.get→R n' ds' (a'.get i0) W'→K a' W')→c.wp P (Exit.then K Q) {tmps:=f x,defers:=marksL ds} W):(Go.Code.loop c).wp P Q a w:=by
 refine wp_loop_ghost (fun n a' W=>∃ds x,a'={tmps:=f x,defers:=marksL ds}∧R n ds (x i0) W) n₀ ⟨[],a.get,?_,h0⟩ ?_
 ·cases a
  simp only at hd ha;subst hd;rw[←ha];rfl
 ·rintro n a' W ⟨ds,x,rfl,hR⟩;refine round n ds x W _ hR ?_;rintro n' ds' a' W' hlt hd' ha' hR';refine⟨n',hlt,ds',a'.get,?_,hR'⟩
  cases a'
  simp only at hd' ha';subst hd';rw[←ha']
theorem postM_manyL{P:Program}{fn:Func}{R:Ending→World→Prop}{a:Act}{w:World}{l:List Nat}(hd:a.defers=marksL l)(hn:l.Nodup)(hK:∀D∈l,MarkC w D)
 (h:bodyPost P fn R .ret {a with defers:=[]} (shutL l w)):bodyPostM Fence.wide 0 P fn R .ret a w:=by
 obtain⟨_,v,hr,hR⟩:=h;show LeavesInM Fence.wide 0 P fn a.tmps R a.defers .returning w
 rw[hd];exact leaves_marksL l w hn (fun D hD=>(hK D hD).h) ⟨v,hr,hR⟩
theorem shut_ind{v0:World}(I:World→Prop)(hI:∀A B D,CtlC A B v0→ShutC A B D→I A→I B):∀(l:List Nat)(w:World),l.Nodup→(∀D∈l,MarkC w D)→(∀D∈l,v0.heap.size≤D)→I w→I (shutL l w)
 | [],_,_,_,_,h=>h
 |D::l,w,hn,hK,hv,h=>by
  rw[List.nodup_cons] at hn;have h1:=hK D (by simp)
  refine shut_ind I hI l _ hn.2 (fun E hE=>⟨(World.putObj_heap_other ?_).trans (hK E (by simp[hE])).h⟩) (fun E hE=>hv E (by simp[hE])) ?_
  ·intro e;subst e;exact hn.1 hE
  ·exact hI _ _ D (ctl_mark (o':=.deferred none) h1.h (hv D (by simp))) ⟨grownBy_putObj' w D _,h1⟩ h
end Go.Walk
end
section
namespace Go.Rg
open Go Go.Bp Go.Walk
def grantOf(r:Rules)(born:Int)(l:List Event)(o:List Grant)(x:Event):Grant:=⟨x.day,r.rightOf x,r.reasonOf born l o x (r.rightOf x),r.renewed l (r.rightOf x) x.day l (r.endOf x.day (r.rightOf x).cls)⟩
def granted(r:Rules)(born:Int)(l:List Event)(k:Nat):List Grant:=r.grantsTo born l (l.take k) []
theorem granted_zero(r:Rules)(born:Int)(l:List Event):granted r born l 0=[]:=rfl
theorem granted_all(r:Rules)(born:Int)(l:List Event):granted r born l l.length=r.grants born l:=by unfold granted Rules.grants;rw[List.take_length]
theorem granted_succ(r:Rules)(born:Int)(l:List Event){k:Nat}(h:k<l.length):granted r born l (k+1)=if l[k].kind=0∨l[k].kind=1 then granted r born l k++ [grantOf r born l (granted r born l k) l[k]] else granted r born l k:=by
 unfold granted;rw[List.take_succ_eq_append_getElem h,Rules.grants_append];simp only[Rules.grantsTo,grantOf]
def endTo(r:Rules)(l:List Event)(y:Right)(day:Int)(k:Nat)(e:Int):Int:=r.renewed l y day (((ofL 2 l).take k).map Prod.snd) e
theorem endTo_all(r:Rules)(l:List Event)(y:Right)(day e:Int):endTo r l y day (ofL 2 l).length e=r.renewed l y day l e:=by
 unfold endTo;rw[List.take_length,ofL_map,←Rules.renewed_filter]
theorem endTo_succ(r:Rules)(l:List Event)(y:Right)(day e:Int){k:Nat}(h:k<(ofL 2 l).length):endTo r l y day (k+1) e=if endTo r l y day k e<40001∧(ofL 2 l)[k].2.cls=y.cls∧day≤(ofL 2 l)[k].2.day∧(ofL 2 l)[k].2.day<endTo r l y day k e∧r.bannedBy l (ofL 2 l)[k].2.day=0 then r.endOf (ofL 2 l)[k].2.day (ofL 2 l)[k].2.cls else endTo r l y day k e:=by
 have hk:(ofL 2 l)[k].2.kind=2:=by
  have hm:(ofL 2 l)[k].2∈(ofL 2 l).map Prod.snd:=List.mem_map.2 ⟨_,List.getElem_mem h,rfl⟩;rw[ofL_map] at hm;exact of_decide_eq_true (List.mem_filter.1 hm).2
 unfold endTo;rw[List.take_succ_eq_append_getElem h,List.map_append,Rules.renewed_append];simp only[List.map_cons,List.map_nil,Rules.renewed,hk,true_and]
theorem reason_first(r:Rules)(born:Int)(l:List Event)(o:List Grant)(x:Event)(y:Right):r.reasonOf born l o x y=firstT [(!decide (r.bannedBy l x.day=0),4),(decide (x.kind=1)&& !inB x.day (r.daysOf x).lo (r.daysOf x).hi,5),(!decide ((r.sys.at_ y.cls).age≤(ageAns born x.day).1),6),(decide (0≤(r.sys.at_ y.cls).needs)&& !(o.any fun g=>decide (g.day<x.day)&&decide (g.reason=0)&&decide (x.day<g.end_)&&r.sys.covers g.right.cls (r.sys.at_ y.cls).needs),7)] 0:=by
 unfold Rules.reasonOf;simp only;by_cases h1:r.bannedBy l x.day=0
 ·by_cases h2:x.kind=1∧inB x.day (r.daysOf x).lo (r.daysOf x).hi=false
  ·simp[firstT,h1,h2.1,h2.2]
  ·have this:(decide (x.kind=1)&& !inB x.day (r.daysOf x).lo (r.daysOf x).hi)=false:=by
    cases h:inB x.day (r.daysOf x).lo (r.daysOf x).hi<;>simp_all
   rw[if_neg (by simp[h1]),if_neg h2,this,h1]
   by_cases h3:(r.sys.at_ y.cls).age≤(ageAns born x.day).1
   ·rw[if_neg (by omega),decide_eq_true h3]
    by_cases h4:0≤(r.sys.at_ y.cls).needs
    ·cases h5:o.any fun g=>decide (g.day<x.day)&&decide (g.reason=0)&&decide (x.day<g.end_)&&r.sys.covers g.right.cls (r.sys.at_ y.cls).needs
     ·rw[if_pos ⟨h4,rfl⟩,decide_eq_true h4];rfl
     ·rw[if_neg (by simp),decide_eq_true h4];rfl
    ·rw[if_neg (fun h=>h4 h.1),decide_eq_false h4];rfl
   ·rw[if_pos (by omega),decide_eq_false h3];rfl
 ·simp[firstT,h1]
theorem granted_mem{r:Rules}{born:Int}{l:List Event}{k:Nat}{g:Grant}(h:g∈granted r born l k):∃x∈l,(x.kind=0∨x.kind=1)∧g.right=r.rightOf x∧g.day=x.day:=by
 have key:∀(xs:List Event)(o:List Grant),g∈r.grantsTo born l xs o→g∈o∨∃x∈xs,(x.kind=0∨x.kind=1)∧g.right=r.rightOf x∧g.day=x.day:=by
  intro xs;induction xs with
  |nil=>intro o h;exact .inl h
  |cons x xs ih=>
   intro o h;unfold Rules.grantsTo at h;split at h
   ·rename_i hk;rcases ih _ h with h|⟨y,hy,h⟩
    ·rcases List.mem_append.1 h with h|h
     ·exact .inl h
     ·rw[List.mem_singleton.1 h];exact .inr ⟨x,by simp,hk,rfl,rfl⟩
    ·exact .inr ⟨y,by simp[hy],h⟩
   ·rcases ih _ h with h|⟨y,hy,h⟩
    ·exact .inl h
    ·exact .inr ⟨y,by simp[hy],h⟩
 rcases key _ _ h with h|⟨x,hx,h⟩
 ·cases h
 ·exact⟨x,List.mem_of_mem_take hx,h⟩
end Go.Rg
namespace Go.Rg
open Go Go.Bp Go.Walk
theorem endTo_nn{r:Rules}{l:List Event}{y:Right}{day e:Int}(h:∀z∈l,z.kind=2→0≤r.endOf z.day z.cls)(he:0≤e):∀k,k≤(ofL 2 l).length→0≤endTo r l y day k e
 |0,_=>he
 |k+1,hk=>by
  have ih:=endTo_nn (y:=y) (day:=day) h he k (by omega)
  rw[endTo_succ r l y day e (by omega:k<(ofL 2 l).length)]
  have hm:(ofL 2 l)[k].2∈(ofL 2 l).map Prod.snd:=List.mem_map.2 ⟨_,List.getElem_mem (by omega),rfl⟩
  rw[ofL_map] at hm;have h2:=List.mem_filter.1 hm;split
  ·exact h _ h2.1 (of_decide_eq_true h2.2)
  ·exact ih
theorem endTo_step(r:Rules)(l:List Event)(y:Right)(day e:Int){k:Nat}(h:k<(ofL 2 l).length){z:Event}(hz:(ofL 2 l)[k].2=z){b1 b2 b3 b4:Bool}(h1:decide (endTo r l y day k e<40001)=b1)(h2:decide (z.cls=y.cls)=b2)(h3:inB z.day day (endTo r l y day k e-1)=b3)(h4:decide (r.bannedBy l z.day=0)=b4):
 endTo r l y day (k+1) e=if b1&&b2&&b3&&b4 then r.endOf z.day z.cls else endTo r l y day k e:=by
 rw[endTo_succ r l y day e h,hz];have h3':(day≤z.day∧z.day<endTo r l y day k e)↔b3=true:=by rw[←h3,inB_t];omega
 have h1':(endTo r l y day k e<40001)↔b1=true:=by rw[←h1];simp
 have h2':(z.cls=y.cls)↔b2=true:=by rw[←h2];simp
 have h4':(r.bannedBy l z.day=0)↔b4=true:=by rw[←h4];simp
 have:(endTo r l y day k e<40001∧z.cls=y.cls∧day≤z.day∧z.day<endTo r l y day k e∧r.bannedBy l z.day=0)↔(b1&&b2&&b3&&b4)=true:=by
  simp only[Bool.and_eq_true];rw[←h1',←h2',←h3',←h4'];constructor
  ·rintro⟨a,b,c,d,e⟩;exact⟨⟨⟨a,b⟩,c,d⟩,e⟩
  ·rintro⟨⟨⟨a,b⟩,c,d⟩,e⟩;exact⟨a,b,c,d,e⟩
 by_cases hc:(b1&&b2&&b3&&b4)=true
 ·rw[if_pos hc,if_pos (this.2 hc)]
 ·rw[if_neg hc,if_neg (fun h=>hc (this.1 h))]
end Go.Rg
end
