import Derived.Test.YtbfbepnkofampaaGreatDoorXP21
set_option maxRecDepth 100000
set_option synthInstance.maxSize 2000
set_option synthInstance.maxHeartbeats 400000
set_option maxHeartbeats 8000000
set_option linter.all false
section
namespace Go.Rg
open Go Go.Bp Go.RowKit Go.Walk Go.Proofs
instance{W:World}{v:Value}{r:Rules}[h:RulesC W v r][h0:SysOk r.sys]:ChkC Treaty W (.func (.func 56) #[v] #[]) r.treaties r.treatyErr:=
 ⟨_,_,_,rfl,enters_of Tryz.func56 (by kernel_rfl) rfl,fun k hk W' hE=>by
  have hz:=h.h.wf.2 _ (List.getElem_mem hk);exact(yS r v k _ _ _ _ _ W' (h.h.ext hE) h0.h hk hz).mono fun e W2 ⟨h,hE⟩=>⟨h,hE.h⟩⟩
class RChkE (r:Rules) (p a e:outParam Int):Prop where h:r.check=(p,a,e)
theorem Bz(r:Rules)(v:Value)(p a e:Int)(w:World)(h:RulesV w v r)(hc:r.check=(p,a,e)):Calls Tryz.prog 16 #[v] w (RIII w p a e):=by
 obtain⟨A,n,c,A',c',A2,c2,rfl,hn,h1,h2,h3⟩:=h.h;subst hn;have i1:=RulesB.mk h;have i2:=SysB.mk h.sys;have i3:=ListB.mk h3;have i3':=ListB.mk h2;have hcap:=h3.caps.2;clear h1 h2 h3;obtain⟨⟨p1,a1,e1⟩,hk⟩:∃x,r.sys.check=x:=⟨_,rfl⟩;have i4:=ChkE.mk hk;unfold Rules.check at hc;rw[hk] at hc;simp only at hc;by_cases z1:e1=0
 ·subst z1;obtain⟨rfl,rfl⟩:=eD hk;rw[if_neg (by simp)] at hc
  have i5:SysOk r.sys:=⟨hk⟩;by_cases z2:6<r.treaties.length
  ·rw[if_pos z2] at hc;injection hc with m1 m2
   injection m2 with m2 m3
   subst m1 m2 m3;have q:((r.treaties.length:Int)>6):=by omega
   clear hk;go_enter Tryz.func16,Tryz.ntmps16
   go_wp2_with (first|(with_reducible refine aA ?_)|(with_reducible refine aB ?_;first|rintro _ V ⟨rfl,(_:StepC _ _)⟩)|(with_reducible refine aG ?_;intro V g _ _ _)|(with_reducible refine aH ?_;intro V g _ _ _))
   go_ret3
   exact⟨rfl,⟨ExtC.h⟩⟩
  rw[if_neg z2] at hc;have q:¬((r.treaties.length:Int)>6):=by omega
  obtain⟨⟨a3,e3⟩,hf⟩:∃x,firstE r.treaties r.treatyErr=x:=⟨_,rfl⟩;rw[hf] at hc;simp only at hc;by_cases z3:e3=0
  ·subst z3;rw[if_neg (by simp)] at hc
   obtain⟨d1,g1⟩:∃d,outB 1 100 [r.limit]=d:=⟨_,rfl⟩;obtain⟨d2,g2⟩:∃d,outB 1 40000 [r.fall,r.ban]=d:=⟨_,rfl⟩;have e4:(inB r.limit 1 100=false∨inB r.fall 1 40000=false∨inB r.ban 1 40000=false)=(d1=true∨d2=true):=by rw[←g1,←g2,bL,zT];simp
   simp only[e4] at hc;clear e4 hk
   cases d1
   ·cases d2
    ·rw[if_neg (by simp)] at hc
     injection hc with m1 m2
     injection m2 with m2 m3
     subst m1 m2 m3;go_enter Tryz.func16,Tryz.ntmps16
     go_wp2_with (first|(with_reducible refine aA ?_)|(with_reducible refine bA ?_)|(with_reducible refine bH ?_)|(with_reducible refine aB ?_;first|rintro _ V ⟨rfl,(_:StepC _ _)⟩)|(with_reducible refine aG ?_;intro V g _ _ _)|(with_reducible refine aH ?_;intro V g _ _ _)|(with_reducible refine aD ?_;intro V g _ _ _))
     go_ret3
     exact⟨rfl,⟨ExtC.h⟩⟩
    ·rw[if_pos (by simp)] at hc
     injection hc with m1 m2
     injection m2 with m2 m3
     subst m1 m2 m3;go_enter Tryz.func16,Tryz.ntmps16
     go_wp2_with (first|(with_reducible refine aA ?_)|(with_reducible refine bA ?_)|(with_reducible refine bH ?_)|(with_reducible refine aB ?_;first|rintro _ V ⟨rfl,(_:StepC _ _)⟩)|(with_reducible refine aG ?_;intro V g _ _ _)|(with_reducible refine aH ?_;intro V g _ _ _)|(with_reducible refine aD ?_;intro V g _ _ _))
     go_ret3
     exact⟨rfl,⟨ExtC.h⟩⟩
   ·rw[if_pos (by simp)] at hc
    injection hc with m1 m2
    injection m2 with m2 m3
    subst m1 m2 m3;go_enter Tryz.func16,Tryz.ntmps16
    go_wp2_with (first|go_skip|(with_reducible refine aA ?_)|(with_reducible refine aB ?_;first|rintro _ V ⟨rfl,(_:StepC _ _)⟩)|(with_reducible refine aG ?_;intro V g _ _ _)|(with_reducible refine aH ?_;intro V g _ _ _)|(with_reducible refine aD ?_;intro V g _ _ _))
    go_ret3
    exact⟨rfl,⟨ExtC.h⟩⟩
  ·rw[if_pos z3] at hc;injection hc with m1 m2
   injection m2 with m2 m3
   subst m1 m2 m3;have q3:(e3 !=0)=true:=by simpa using z3
   clear hk;go_enter Tryz.func16,Tryz.ntmps16
   go_wp2_with (first|(with_reducible refine aA ?_)|(with_reducible refine aB ?_;first|rintro _ V ⟨rfl,(_:StepC _ _)⟩)|(with_reducible refine aG ?_;intro V g _ _ _)|(with_reducible refine aH ?_;intro V g _ _ _))
   go_ret3
   exact⟨rfl,⟨ExtC.h⟩⟩
 ·rw[if_pos z1] at hc;injection hc with m1 m2
  injection m2 with m2 m3
  subst m1 m2 m3;have q:(e1 !=0)=true:=by simpa using z1
  clear hk;go_enter Tryz.func16,Tryz.ntmps16
  go_wp2_with (first|(with_reducible refine aA ?_)|(with_reducible refine aB ?_;first|rintro _ V ⟨rfl,(_:StepC _ _)⟩)|(with_reducible refine aG ?_;intro V g _ _ _)|(with_reducible refine aH ?_;intro V g _ _ _))
  go_ret3
  exact⟨rfl,⟨ExtC.h⟩⟩
instance{W:World}{v:Value}{r:Rules}{p a e:Int}[h:RulesC W v r][q:RChkE r p a e]:FunC Tryz.prog 16 #[v] W (RIII W p a e):=⟨Bz r v p a e W h.h q.h⟩
def anyN(l:List Int):Bool:=l.any fun x=>decide (x≠0)
theorem mK{r:Rules}{b:Int}{x:Event}{d2 d3:Bool}{l:List (Bool×Int)}{n:List Int}(hk:inB x.kind 0 4=true)(e2:outB 0 40000 [x.day]=d2)(e3:decide (x.day<b)=d3)(h1:(r.had x).2=firstT l 0)(h2:(r.had x).1≠Rules.bare x.kind x.day↔anyN n=true)(hl:∀y∈l,y.1=true→y.2≠0):r.eventErr b x=firstT ((d2,7)::(d3,2)::(l++ [(anyN n,2)])) 0:=by
 unfold Rules.eventErr;rw[if_neg (by simp[hk])]
 rw[bL] at e2;have e2':(inB x.day 0 40000=false)=(d2=true):=by rw[←e2];simp
 have e3':(x.day<b)=(d3=true):=by rw[←e3];simp
 simp only[e2',e3',h1,h2];clear e2 e3 e2' e3' h1 h2
 cases d2
 ·cases d3
  ·simp only[Bool.false_eq_true,if_false];show _=firstT (l++ [(anyN n,2)]) 0
   induction l with
   |nil=>cases anyN n<;>simp[firstT]
   |cons y l ih=>
    obtain⟨y1,y2⟩:=y
    cases y1
    ·have:=ih fun z hz=>hl z (by simp[hz])
     simp only[firstT,List.cons_append];exact this
    ·simp[firstT,hl (true,y2) (by simp) rfl]
  ·simp[firstT]
 ·simp[firstT]
theorem eH(b:Bool)(a z:Int)(l:List (Bool×Int)):firstT ((b,a)::l) z=if b=true then a else firstT l z:=by cases b<;>rfl
theorem Fn(r:Rules)(v:Value)(b k d c o t q p u m:Int)(w:World)(h:RulesV w v r)(h0:r.sys.check=(0,0,0)):
 Calls Tryz.prog 118 #[v,.int .i64 b,.agg #[.int .i64 k,.int .i64 d,.int .i64 c,.int .i64 o,.int .i64 t,.int .i64 q,.int .i64 p,.int .i64 u,.int .i64 m]] w (RI w (r.eventErr b ⟨k,d,⟨c,o⟩,t,q,p,u,m⟩)):=by
 obtain⟨A,n,kc,A',c',A2,c2,rfl,hn,hh⟩:=h.h;subst hn;have i1:=RulesB.mk h;have hz1:IntKind.i64.wrap ((r.treaties.length:Int)-1)=(r.treaties.length:Int)-1:=by
  have:=hh.2.2.caps.2;exact IntWalk.i64_in _ (by omega)
 have hz2:IntKind.i64.wrap ((r.sys.classes.length:Int)-1)=(r.sys.classes.length:Int)-1:=by
  obtain⟨l,q1,q2,-⟩:=hh.1.h;have:=q2.caps;exact IntWalk.i64_in _ (by omega)
 clear hh;have i3:SysOk r.sys:=⟨h0⟩;obtain⟨e,he⟩:∃e,r.sys.rightErr ⟨c,o⟩=e:=⟨_,rfl⟩;have i5:=RightE.mk he;obtain⟨d2,e2⟩:∃x,outB 0 40000 [d]=x:=⟨_,rfl⟩;obtain⟨d3,e3⟩:∃x,decide (d<b)=x:=⟨_,rfl⟩;by_cases k0:k=0
 ·subst k0;have q1:outB 0 4 [0]=false:=by decide
  have E:=mK (r:=r) (x:=⟨0,d,⟨c,o⟩,t,q,p,u,m⟩) (l:=[(decide (e≠0),e),(outB 0 1439 [m],7)]) (n:=[t,q,p,u]) (by show inB 0 0 4=true;decide) e2 e3 (by simp[Rules.had];(rw[he,bL];cases inB m 0 1439<;>simp[eH,firstT];try(split<;>simp_all))) (by simp[Rules.had,Rules.bare,anyN];try omega) (by simp)
  rw[E];clear E he h0;go_enter Tryz.func118,Tryz.ntmps118
  go_wp2_with (first|go_skip|(with_reducible refine aA ?_)|(with_reducible refine bA ?_)|(with_reducible refine bH ?_)|(with_reducible refine aB ?_;first|rintro _ V ⟨rfl,(_:StepC _ _)⟩)|(with_reducible refine aG ?_;intro V g _ _ _)|(with_reducible refine aI ?_;intro V _ _)|(with_reducible refine aH ?_;intro V g _ _ _)|(with_reducible refine aD ?_;intro V g _ _ _))
  all_goals(try(go_ret;exact⟨by simp[eH,firstT,anyN, *],⟨ExtC.h⟩⟩))
 by_cases k1:k=1
 ·subst k1;have q1:outB 0 4 [1]=false:=by decide
  have E:=mK (r:=r) (x:=⟨1,d,⟨c,o⟩,t,q,p,u,m⟩) (l:=[(outB 0 ((r.treaties.length:Int)-1) [t],4)]) (n:=[c,o,q,p,u,m]) (by show inB 1 0 4=true;decide) e2 e3 (by simp[Rules.had];(rw[bL];cases inB t 0 _<;>rfl)) (by simp[Rules.had,Rules.bare,anyN];try omega) (by simp)
  rw[E];clear E he h0;go_enter Tryz.func118,Tryz.ntmps118
  go_wp2_with (first|go_skip|(with_reducible refine aA ?_)|(with_reducible refine bA ?_)|(with_reducible refine aB ?_;first|rintro _ V ⟨rfl,(_:StepC _ _)⟩)|(with_reducible refine aG ?_;intro V g _ _ _)|(with_reducible refine aI ?_;intro V _ _)|(with_reducible refine aH ?_;intro V g _ _ _)|(with_reducible refine aD ?_;intro V g _ _ _))
  all_goals(try(go_ret;exact⟨by simp[eH,firstT,anyN, *],⟨ExtC.h⟩⟩))
 by_cases k2:k=2
 ·subst k2;have q1:outB 0 4 [2]=false:=by decide
  have E:=mK (r:=r) (x:=⟨2,d,⟨c,o⟩,t,q,p,u,m⟩) (l:=[(outB 0 ((r.sys.classes.length:Int)-1) [q],4)]) (n:=[c,o,t,p,u,m]) (by show inB 2 0 4=true;decide) e2 e3 (by simp[Rules.had];(rw[bL];cases inB q 0 _<;>rfl)) (by simp[Rules.had,Rules.bare,anyN];try omega) (by simp)
  rw[E];clear E he h0;go_enter Tryz.func118,Tryz.ntmps118
  go_wp2_with (first|go_skip|(with_reducible refine aA ?_)|(with_reducible refine bA ?_)|(with_reducible refine aB ?_;first|rintro _ V ⟨rfl,(_:StepC _ _)⟩)|(with_reducible refine aG ?_;intro V g _ _ _)|(with_reducible refine aI ?_;intro V _ _)|(with_reducible refine aH ?_;intro V g _ _ _)|(with_reducible refine aD ?_;intro V g _ _ _))
  all_goals(try(go_ret;exact⟨by simp[eH,firstT,anyN, *],⟨ExtC.h⟩⟩))
 by_cases k3:k=3
 ·subst k3;have q1:outB 0 4 [3]=false:=by decide
  have E:=mK (r:=r) (x:=⟨3,d,⟨c,o⟩,t,q,p,u,m⟩) (l:=[(outB 1 20 [p],7)]) (n:=[c,o,t,q,u,m]) (by show inB 3 0 4=true;decide) e2 e3 (by simp[Rules.had];(rw[bL];cases inB p 1 20<;>rfl)) (by simp[Rules.had,Rules.bare,anyN];try omega) (by simp)
  rw[E];clear E he h0;go_enter Tryz.func118,Tryz.ntmps118
  go_wp2_with (first|go_skip|(with_reducible refine aA ?_)|(with_reducible refine bA ?_)|(with_reducible refine aB ?_;first|rintro _ V ⟨rfl,(_:StepC _ _)⟩)|(with_reducible refine aG ?_;intro V g _ _ _)|(with_reducible refine aI ?_;intro V _ _)|(with_reducible refine aH ?_;intro V g _ _ _)|(with_reducible refine aD ?_;intro V g _ _ _))
  all_goals(try(go_ret;exact⟨by simp[eH,firstT,anyN, *],⟨ExtC.h⟩⟩))
 by_cases k4:k=4
 ·subst k4;have q1:outB 0 4 [4]=false:=by decide
  have E:=mK (r:=r) (x:=⟨4,d,⟨c,o⟩,t,q,p,u,m⟩) (l:=[(outB d 40000 [u],7)]) (n:=[c,o,t,q,p,m]) (by show inB 4 0 4=true;decide) e2 e3 (by simp[Rules.had];(rw[bL];cases inB u d 40000<;>rfl)) (by simp[Rules.had,Rules.bare,anyN];try omega) (by simp)
  rw[E];clear E he h0;go_enter Tryz.func118,Tryz.ntmps118
  go_wp2_with (first|go_skip|(with_reducible refine aA ?_)|(with_reducible refine bA ?_)|(with_reducible refine aB ?_;first|rintro _ V ⟨rfl,(_:StepC _ _)⟩)|(with_reducible refine aG ?_;intro V g _ _ _)|(with_reducible refine aI ?_;intro V _ _)|(with_reducible refine aH ?_;intro V g _ _ _)|(with_reducible refine aD ?_;intro V g _ _ _))
  all_goals(try(go_ret;exact⟨by simp[eH,firstT,anyN, *],⟨ExtC.h⟩⟩))
 have hb:inB k 0 4=false:=by
  cases hb:inB k 0 4
  ·rfl
  ·have:=inB_t.1 hb;omega
 have q1:outB 0 4 [k]=true:=by rw[bL,hb];rfl
 have E:r.eventErr b ⟨k,d,⟨c,o⟩,t,q,p,u,m⟩=2:=by unfold Rules.eventErr;rw[if_pos hb]
 rw[E];clear E he h0 hb k0 k1 k2 k3 k4;go_enter Tryz.func118,Tryz.ntmps118
 go_wp2_with (first|(with_reducible refine aA ?_)|(with_reducible refine aB ?_;first|rintro _ V ⟨rfl,(_:StepC _ _)⟩)|(with_reducible refine aH ?_;intro V g _ _ _)|(with_reducible refine aD ?_;intro V g _ _ _))
 all_goals(try(go_ret;refine⟨?_,⟨ExtC.h⟩⟩;first|rfl))
class EvE (r:Rules) (b:Int) (x:Event) (e:outParam Int):Prop where h:r.eventErr b x=e
instance{W:World}{v:Value}{r:Rules}{b k d c o t q p u m e:Int}[h:RulesC W v r][h0:SysOk r.sys][z:EvE r b ⟨k,d,⟨c,o⟩,t,q,p,u,m⟩ e]:FunC Tryz.prog 118 #[v,.int .i64 b,.agg #[.int .i64 k,.int .i64 d,.int .i64 c,.int .i64 o,.int .i64 t,.int .i64 q,.int .i64 p,.int .i64 u,.int .i64 m]] W (RI W e):=⟨by rw[←z.h];exact Fn r v b k d c o t q p u m W h.h h0.h⟩
end Go.Rg
end
section
namespace Go.Bp
open Go.RowKit
def _root_.Go.Act.sets(a:Act)(ks:List Nat)(x:Nat→Value):Act:={a with tmps:=ks.foldl (fun t k=>t.setIfInBounds k (x k)) a.tmps}
def _root_.Go.Act.get(a:Act)(k:Nat):Value:=(a.tmps[k]?).getD undef
theorem eC{a a':Act}{ks:List Nat}{T:(Nat→Value)→Prop}(h:a'=Act.sets a ks a'.get)(hT:T a'.get):∃x,a'=Act.sets a ks x∧T x:=⟨_,h,hT⟩
theorem Nj{a a':Act}{ks:List Nat}(h:a'=Act.sets a ks a'.get):∃x,a'=Act.sets a ks x:=⟨_,h⟩
theorem kL{P:Program}{c:Go.Code}{Q:Exit→Act→World→Prop}{a:Act}{w:World}(ks:List Nat)(R:(Nat→Value)→World→Prop)(h:c.wp P (fun e a' w'=>e=.normal∧∃x,a'=Act.sets a ks x∧R x w') a w)(k:∀x w',R x w'→Q .normal (Act.sets a ks x) w'):c.wp P Q a w:=
 Code.wp_mono (fun e a' w' ⟨he,x,ha,hR⟩=>by subst he;subst ha;exact k x w' hR) h
theorem Ci{P:Program}{c:Go.Code}{Q:Exit→Act→World→Prop}{a:Act}{w:World}(e0:Exit)(ks:List Nat)(R:(Nat→Value)→World→Prop)(h:c.wp P (fun e a' w'=>e=e0∧∃x,a'=Act.sets a ks x∧R x w') a w)(k:∀x w',R x w'→Q e0 (Act.sets a ks x) w'):c.wp P Q a w:=
 Code.wp_mono (fun e a' w' ⟨he,x,ha,hR⟩=>by subst he;subst ha;exact k x w' hR) h
end Go.Bp
end
section
namespace Go.Walk
open Go Go.Bp Go.RowKit
theorem Gw{P:Program}{Q:Exit→Act→World→Prop}{a:Act}{w:World}{c:Go.Code}(f:(Nat→Value)→Array Value)(i0:Nat)(R:Nat→List Nat→Value→World→Prop)(n₀:Nat)(hd:a.defers=[])(ha:a.tmps=f a.get)(h0:R n₀ [] (a.get i0) w)
 (round:∀(n:Nat)(ds:List Nat)(x:Nat→Value)(W:World)(K:Act→World→Prop),R n ds (x i0) W→(∀n' ds'(a':Act)W',n'<n→a'.defers=marksL ds'→a'.tmps=f a'.get→R n' ds' (a'.get i0) W'→K a' W')→c.wp P (Exit.then K Q) {tmps:=f x,defers:=marksL ds} W):(Go.Code.loop c).wp P Q a w:=by
 refine wp_loop_ghost (fun n a' W=>∃ds x,a'={tmps:=f x,defers:=marksL ds}∧R n ds (x i0) W) n₀ ⟨[],a.get,?_,h0⟩ ?_
 ·cases a
  simp only at hd ha;subst hd;rw[←ha];rfl
 ·rintro n a' W ⟨ds,x,rfl,hR⟩;refine round n ds x W _ hR ?_;rintro n' ds' a' W' hlt hd' ha' hR';refine⟨n',hlt,ds',a'.get,?_,hR'⟩
  cases a'
  simp only at hd' ha';subst hd';rw[←ha']
theorem wI{P:Program}{fn:Func}{R:Ending→World→Prop}{a:Act}{w:World}{l:List Nat}(hd:a.defers=marksL l)(hn:l.Nodup)(hK:∀D∈l,MarkC w D)
 (h:bodyPost P fn R .ret {a with defers:=[]} (shutL l w)):bodyPostM Fence.wide 0 P fn R .ret a w:=by
 obtain⟨_,v,hr,hR⟩:=h;show LeavesInM Fence.wide 0 P fn a.tmps R a.defers .returning w
 rw[hd];exact gX l w hn (fun D hD=>(hK D hD).h) ⟨v,hr,hR⟩
theorem vJ{v0:World}(I:World→Prop)(hI:∀A B D,CtlC A B v0→ShutC A B D→I A→I B):∀(l:List Nat)(w:World),l.Nodup→(∀D∈l,MarkC w D)→(∀D∈l,v0.heap.size≤D)→I w→I (shutL l w)
 | [],_,_,_,_,h=>h
 |D::l,w,hn,hK,hv,h=>by
  rw[List.nodup_cons] at hn;have h1:=hK D (by simp)
  refine vJ I hI l _ hn.2 (fun E hE=>⟨(World.putObj_heap_other ?_).trans (hK E (by simp[hE])).h⟩) (fun E hE=>hv E (by simp[hE])) ?_
  ·intro e;subst e;exact hn.1 hE
  ·exact hI _ _ D (gI (o':=.deferred none) h1.h (hv D (by simp))) ⟨grownBy_putObj' w D _,h1⟩ h
end Go.Walk
end
section
namespace Go.Rg
open Go Go.Bp Go.Walk
def grantOf(r:Rules)(born:Int)(l:List Event)(o:List Grant)(x:Event):Grant:=⟨x.day,r.rightOf x,r.reasonOf born l o x (r.rightOf x),r.renewed l (r.rightOf x) x.day l (r.endOf x.day (r.rightOf x).cls)⟩
def granted(r:Rules)(born:Int)(l:List Event)(k:Nat):List Grant:=r.grantsTo born l (l.take k) []
theorem uG(r:Rules)(born:Int)(l:List Event):granted r born l 0=[]:=rfl
theorem oJ(r:Rules)(born:Int)(l:List Event):granted r born l l.length=r.grants born l:=by unfold granted Rules.grants;rw[List.take_length]
theorem dR(r:Rules)(born:Int)(l:List Event){k:Nat}(h:k<l.length):granted r born l (k+1)=if l[k].kind=0∨l[k].kind=1 then granted r born l k++ [grantOf r born l (granted r born l k) l[k]] else granted r born l k:=by
 unfold granted;rw[List.take_succ_eq_append_getElem h,Rules.grants_append];simp only[Rules.grantsTo,grantOf]
def endTo(r:Rules)(l:List Event)(y:Right)(day:Int)(k:Nat)(e:Int):Int:=r.renewed l y day (((ofL 2 l).take k).map Prod.snd) e
theorem nM(r:Rules)(l:List Event)(y:Right)(day e:Int):endTo r l y day (ofL 2 l).length e=r.renewed l y day l e:=by
 unfold endTo;rw[List.take_length,dK,←Rules.renewed_filter]
theorem qW(r:Rules)(l:List Event)(y:Right)(day e:Int){k:Nat}(h:k<(ofL 2 l).length):endTo r l y day (k+1) e=if endTo r l y day k e<40001∧(ofL 2 l)[k].2.cls=y.cls∧day≤(ofL 2 l)[k].2.day∧(ofL 2 l)[k].2.day<endTo r l y day k e∧r.bannedBy l (ofL 2 l)[k].2.day=0 then r.endOf (ofL 2 l)[k].2.day (ofL 2 l)[k].2.cls else endTo r l y day k e:=by
 have hk:(ofL 2 l)[k].2.kind=2:=by
  have hm:(ofL 2 l)[k].2∈(ofL 2 l).map Prod.snd:=List.mem_map.2 ⟨_,List.getElem_mem h,rfl⟩;rw[dK] at hm;exact of_decide_eq_true (List.mem_filter.1 hm).2
 unfold endTo;rw[List.take_succ_eq_append_getElem h,List.map_append,Rules.renewed_append];simp only[List.map_cons,List.map_nil,Rules.renewed,hk,true_and]
theorem lX(r:Rules)(born:Int)(l:List Event)(o:List Grant)(x:Event)(y:Right):r.reasonOf born l o x y=firstT [(!decide (r.bannedBy l x.day=0),4),(decide (x.kind=1)&& !inB x.day (r.daysOf x).lo (r.daysOf x).hi,5),(!decide ((r.sys.at_ y.cls).age≤(ageAns born x.day).1),6),(decide (0≤(r.sys.at_ y.cls).needs)&& !(o.any fun g=>decide (g.day<x.day)&&decide (g.reason=0)&&decide (x.day<g.end_)&&r.sys.covers g.right.cls (r.sys.at_ y.cls).needs),7)] 0:=by
 unfold Rules.reasonOf;simp only;by_cases h1:r.bannedBy l x.day=0
 ·by_cases h2:x.kind=1∧inB x.day (r.daysOf x).lo (r.daysOf x).hi=false
  ·simp[firstT,h1,h2.1,h2.2]
  ·have this:(decide (x.kind=1)&& !inB x.day (r.daysOf x).lo (r.daysOf x).hi)=false:=by
    cases h:inB x.day (r.daysOf x).lo (r.daysOf x).hi<;>simp_all
   rw[if_neg (by simp[h1]),if_neg h2,this,h1]
   by_cases h3:(r.sys.at_ y.cls).age≤(ageAns born x.day).1
   ·rw[if_neg (by omega),decide_eq_true h3]
    by_cases h4:0≤(r.sys.at_ y.cls).needs
    ·cases h5:o.any fun g=>decide (g.day<x.day)&&decide (g.reason=0)&&decide (x.day<g.end_)&&r.sys.covers g.right.cls (r.sys.at_ y.cls).needs
     ·rw[if_pos ⟨h4,rfl⟩,decide_eq_true h4];rfl
     ·rw[if_neg (by simp),decide_eq_true h4];rfl
    ·rw[if_neg (fun h=>h4 h.1),decide_eq_false h4];rfl
   ·rw[if_pos (by omega),decide_eq_false h3];rfl
 ·simp[firstT,h1]
theorem oI{r:Rules}{born:Int}{l:List Event}{k:Nat}{g:Grant}(h:g∈granted r born l k):∃x∈l,(x.kind=0∨x.kind=1)∧g.right=r.rightOf x∧g.day=x.day:=by
 have key:∀(xs:List Event)(o:List Grant),g∈r.grantsTo born l xs o→g∈o∨∃x∈xs,(x.kind=0∨x.kind=1)∧g.right=r.rightOf x∧g.day=x.day:=by
  intro xs;induction xs with
  |nil=>intro o h;exact .inl h
  |cons x xs ih=>
   intro o h;unfold Rules.grantsTo at h;split at h
   ·rename_i hk;rcases ih _ h with h|⟨y,hy,h⟩
    ·rcases List.mem_append.1 h with h|h
     ·exact .inl h
     ·rw[List.mem_singleton.1 h];exact .inr ⟨x,by simp,hk,rfl,rfl⟩
    ·exact .inr ⟨y,by simp[hy],h⟩
   ·rcases ih _ h with h|⟨y,hy,h⟩
    ·exact .inl h
    ·exact .inr ⟨y,by simp[hy],h⟩
 rcases key _ _ h with h|⟨x,hx,h⟩
 ·cases h
 ·exact⟨x,List.mem_of_mem_take hx,h⟩
end Go.Rg
namespace Go.Rg
open Go Go.Bp Go.Walk
theorem mN{r:Rules}{l:List Event}{y:Right}{day e:Int}(h:∀z∈l,z.kind=2→0≤r.endOf z.day z.cls)(he:0≤e):∀k,k≤(ofL 2 l).length→0≤endTo r l y day k e
 |0,_=>he
 |k+1,hk=>by
  have ih:=mN (y:=y) (day:=day) h he k (by omega)
  rw[qW r l y day e (by omega:k<(ofL 2 l).length)]
  have hm:(ofL 2 l)[k].2∈(ofL 2 l).map Prod.snd:=List.mem_map.2 ⟨_,List.getElem_mem (by omega),rfl⟩
  rw[dK] at hm;have h2:=List.mem_filter.1 hm;split
  ·exact h _ h2.1 (of_decide_eq_true h2.2)
  ·exact ih
theorem qX(r:Rules)(l:List Event)(y:Right)(day e:Int){k:Nat}(h:k<(ofL 2 l).length){z:Event}(hz:(ofL 2 l)[k].2=z){b1 b2 b3 b4:Bool}(h1:decide (endTo r l y day k e<40001)=b1)(h2:decide (z.cls=y.cls)=b2)(h3:inB z.day day (endTo r l y day k e-1)=b3)(h4:decide (r.bannedBy l z.day=0)=b4):
 endTo r l y day (k+1) e=if b1&&b2&&b3&&b4 then r.endOf z.day z.cls else endTo r l y day k e:=by
 rw[qW r l y day e h,hz];have h3':(day≤z.day∧z.day<endTo r l y day k e)↔b3=true:=by rw[←h3,inB_t];omega
 have h1':(endTo r l y day k e<40001)↔b1=true:=by rw[←h1];simp
 have h2':(z.cls=y.cls)↔b2=true:=by rw[←h2];simp
 have h4':(r.bannedBy l z.day=0)↔b4=true:=by rw[←h4];simp
 have:(endTo r l y day k e<40001∧z.cls=y.cls∧day≤z.day∧z.day<endTo r l y day k e∧r.bannedBy l z.day=0)↔(b1&&b2&&b3&&b4)=true:=by
  simp only[Bool.and_eq_true];rw[←h1',←h2',←h3',←h4'];constructor
  ·rintro⟨a,b,c,d,e⟩;exact⟨⟨⟨a,b⟩,c,d⟩,e⟩
  ·rintro⟨⟨⟨a,b⟩,c,d⟩,e⟩;exact⟨a,b,c,d,e⟩
 by_cases hc:(b1&&b2&&b3&&b4)=true
 ·rw[if_pos hc,if_pos (this.2 hc)]
 ·rw[if_neg hc,if_neg (fun h=>hc (this.1 h))]
end Go.Rg
end
