import Derived.Test.YtbfbepnkofampaaGreatDoorXP19
set_option maxRecDepth 100000
set_option synthInstance.maxSize 2000
set_option synthInstance.maxHeartbeats 400000
set_option maxHeartbeats 8000000
set_option linter.all false
section
namespace Go.Rg
open Go Go.Bp Go.RowKit Go.Walk Go.Proofs
theorem Ln(y m:Int)(w:World)(hy: -1000000000≤y∧y≤1000000000):Calls Tryz.prog 219 #[.int .i64 y,.int .i64 m] w (RI w (longRef y m)):=by
 obtain⟨a,ha⟩:∃a,y.tmod 400=a:=⟨_,rfl⟩;obtain⟨b,hb⟩:∃b,y.tmod 4=b:=⟨_,rfl⟩;obtain⟨c,hc⟩:∃c,y.tmod 100=c:=⟨_,rfl⟩;have z1:IntKind.i64.wrap a=a:=IntWalk.i64_in _ (by
  have h1:=Int.tmod_add_mul_tdiv y 400;have h3:=Int.natAbs_tmod y 400;have:=Nat.mod_lt y.natAbs (show 0<(400:Int).natAbs by decide)
  rw[←h3,ha] at this;simp at this;omega)
 have z2:IntKind.i64.wrap b=b:=IntWalk.i64_in _ (by
  have h3:=Int.natAbs_tmod y 4;have:=Nat.mod_lt y.natAbs (show 0<(4:Int).natAbs by decide)
  rw[←h3,hb] at this;simp at this;omega)
 have z3:IntKind.i64.wrap c=c:=IntWalk.i64_in _ (by
  have h3:=Int.natAbs_tmod y 100;have:=Nat.mod_lt y.natAbs (show 0<(100:Int).natAbs by decide)
  rw[←h3,hc] at this;simp at this;omega)
 obtain⟨d1,e1⟩:∃d,(m==4)=d:=⟨_,rfl⟩;obtain⟨d2,e2⟩:∃d,(m==6)=d:=⟨_,rfl⟩;obtain⟨d3,e3⟩:∃d,(m==9)=d:=⟨_,rfl⟩;obtain⟨d4,e4⟩:∃d,(m==11)=d:=⟨_,rfl⟩;obtain⟨d5,e5⟩:∃d,(m !=2)=d:=⟨_,rfl⟩;obtain⟨d6,e6⟩:∃d,(a==0)=d:=⟨_,rfl⟩;obtain⟨d7,e7⟩:∃d,(b==0)=d:=⟨_,rfl⟩;obtain⟨d8,e8⟩:∃d,(c !=0)=d:=⟨_,rfl⟩;have E:longRef y m=firstT [(d1||d2||d3||d4,30),(d5,31),(d6||d7&&d8,29)] 28:=by
  unfold longRef;rw[ha,hb,hc];have q1:(m=4)=(d1=true):=by rw[←e1];simp
  have q2:(m=6)=(d2=true):=by rw[←e2];simp
  have q3:(m=9)=(d3=true):=by rw[←e3];simp
  have q4:(m=11)=(d4=true):=by rw[←e4];simp
  have q5:(m≠2)=(d5=true):=by rw[←e5];simp
  have q6:(a=0)=(d6=true):=by rw[←e6];simp
  have q7:(b=0)=(d7=true):=by rw[←e7];simp
  have q8:(c≠0)=(d8=true):=by rw[←e8];simp
  simp only[q1,q2,q3,q4,q5,q6,q7,q8];clear e1 e2 e3 e4 e5 e6 e7 e8 q1 q2 q3 q4 q5 q6 q7 q8;revert d1 d2 d3 d4 d5 d6 d7 d8
  decide
 rw[E];clear E;go_enter Tryz.func219,Tryz.ntmps219
 go_wp2_with (first|go_skip)
 all_goals(go_ret;exact⟨by simp[firstT, *],⟨ExtC.h⟩⟩)
class LongE (y m:Int) (r:outParam Int):Prop where h:longRef y m=r∧ -1000000000≤y∧y≤1000000000
instance{W:World}{y m r:Int}[h:LongE y m r]:FunC Tryz.prog 219 #[.int .i64 y,.int .i64 m] W (RI W r):=⟨by rw[←h.h.1];exact Ln y m W h.h.2⟩
theorem kP(y m:Int):28≤longRef y m∧longRef y m≤31:=by
 unfold longRef;split
 ·omega
 ·split
  ·omega
  ·split<;>omega
theorem yd_bd:∀k:Nat,k≤203→0≤yearDays k∧yearDays k≤366*k
 |0,_=>by rw[←begin_eq 0 (by omega)];simp[beginTo]
 |k+1,h=>by
  have:=yd_bd k (by omega)
  have e:=fC (n:=k) (by omega)
  push_cast
  rw[e];split<;>omega
theorem Cg(k:Nat)(h:k<203):yearDays ((k:Int)+1)=yearDays k+337+longRef (2000+(k:Int)) 2:=by
 have:=begin_eq (k+1) (by omega)
 rw[beginTo,begin_eq k (by omega)] at this
 push_cast at this
 exact this.symm
theorem Ga(n:Nat)(hn:n≤203)(w:World):Calls Tryz.prog 220 #[.int .i64 (2000+(n:Int))] w (RI w (yearDays n)):=by
 have z0:IntKind.i64.wrap (2000+(n:Int))=2000+(n:Int):=IntWalk.i64_in _ (by omega)
 go_enter Tryz.func220,Tryz.ntmps220
 go_wp2
 go_loopw [3,4] (fun sv iv wr=>StepC w wr∧∃k:Nat,k≤n∧sv=.int .i64 (yearDays k)∧iv=.int .i64 (2000+(k:Int))) (fun _ iv _=>n+2000-(RowKit.intOf iv).toNat)
 case atStart=>exact⟨⟨Ext.refl _⟩,0,by omega,by rw[←begin_eq 0 (by omega)];rfl,rfl⟩
 case round=>
  obtain⟨_,k,hk,rfl,rfl⟩:=hrel;by_cases hlt:k<n
  ·have q:(2000+(k:Int))<2000+(n:Int):=by omega
   have hb:=yd_bd k (by omega)
   have hl:=kP (2000+(k:Int)) 2;have he:=Cg k (by omega)
   obtain⟨S,hS⟩:∃S,yearDays k=S:=⟨_,rfl⟩;obtain⟨L,hL⟩:∃L,longRef (2000+(k:Int)) 2=L:=⟨_,rfl⟩;have i1:LongE (2000+(k:Int)) 2 L:=⟨hL,by omega,by omega⟩
   rw[hS] at hb he⊢;rw[hL] at hl he;have He:=Lib.hid he;clear hS hL he;have z1:IntKind.i64.wrap (S+337)=S+337:=IntWalk.i64_in _ (by omega)
   have z2:IntKind.i64.wrap (S+337+L)=S+337+L:=IntWalk.i64_in _ (by omega)
   have z3:IntKind.i64.wrap (2000+(k:Int)+1)=2000+(k:Int)+1:=IntWalk.i64_in _ (by omega)
   go_wp2_with (first|(with_reducible refine aB ?_;first|rintro _ V ⟨rfl,(_:StepC _ _)⟩))
   go_roundw
   case rel=>exact⟨⟨ExtC.h⟩,k+1,by omega,by push_cast;rw[He.out],by push_cast;congr 1⟩
   case measure=>simp[RowKit.intOf];omega
  ·obtain rfl:k=n:=by omega
   go_wp2
   go_ret
   exact⟨rfl,⟨ExtC.h⟩⟩
class BegE (y:Int) (r:outParam Int):Prop where h:∃n:Nat,n≤203∧y=2000+(n:Int)∧yearDays n=r
instance{W:World}{y r:Int}[h:BegE y r]:FunC Tryz.prog 220 #[.int .i64 y] W (RI W r):=⟨by obtain⟨n,h1,rfl,rfl⟩:=h.h;exact Ga n h1 W⟩
theorem Gb(lp:Bool)(k:Int)(h1:1≤k)(h2:k≤12):0≤before lp k∧before lp k≤366:=by
 have:k=1∨k=2∨k=3∨k=4∨k=5∨k=6∨k=7∨k=8∨k=9∨k=10∨k=11∨k=12:=by omega
 rcases this with rfl|rfl|rfl|rfl|rfl|rfl|rfl|rfl|rfl|rfl|rfl|rfl<;>cases lp<;>decide
theorem Lj(y m d p r:Int)(hy:0≤y∧y≤100000)(hd: -100000≤d∧d≤100000)(h:dayOf y m d=(p,r))(w:World):Calls Tryz.prog 156 #[.agg #[.int .i64 y,.int .i64 m,.int .i64 d]] w (RII w p r):=by
 by_cases b1:inB m 1 12=false∨d<1∨31<d
 ·rw[Pd (b1.elim .inl fun h=>.inr (h.elim .inl fun h=>.inr (.inl h)))] at h
  injection h with h1 h2
  subst h1 h2;obtain⟨e1,he1⟩:∃e,inB m 1 12=e:=⟨_,rfl⟩;obtain⟨e2,he2⟩:∃e,decide (d<1)=e:=⟨_,rfl⟩;obtain⟨e3,he3⟩:∃e,decide (31<d)=e:=⟨_,rfl⟩;have b2:e1=false∨e2=true∨e3=true:=by rw[←he1,←he2,←he3];simpa using b1
  clear b1;have B:=Lib.hid b2;clear b2
  cases e1
  ·go_enter Tryz.func156,Tryz.ntmps156
   go_wp2_with (first|go_skip|(with_reducible refine aA ?_)|(with_reducible refine aB ?_;first|rintro _ V ⟨rfl,(_:StepC _ _)⟩)|(with_reducible refine aH ?_;intro V g _ _ _))
   all_goals(go_ret2;exact⟨rfl,⟨ExtC.h⟩⟩)
  ·cases e2
   ·obtain rfl:e3=true:=by have:=B.out;simpa using this
    clear B;go_enter Tryz.func156,Tryz.ntmps156
    go_wp2_with (first|(with_reducible refine aA ?_)|(with_reducible refine bA ?_)|(with_reducible refine aB ?_;first|rintro _ V ⟨rfl,(_:StepC _ _)⟩)|(with_reducible refine aH ?_;intro V g _ _ _))
    all_goals(go_ret2;exact⟨rfl,⟨ExtC.h⟩⟩)
   ·clear B he3;go_enter Tryz.func156,Tryz.ntmps156
    go_wp2_with (first|go_skip|(with_reducible refine aA ?_)|(with_reducible refine bA ?_)|(with_reducible refine aB ?_;first|rintro _ V ⟨rfl,(_:StepC _ _)⟩)|(with_reducible refine aH ?_;intro V g _ _ _))
    all_goals(go_ret2;exact⟨rfl,⟨ExtC.h⟩⟩)
 have b1':inB m 1 12=true∧¬d<1∧¬31<d:=by
  refine⟨by cases hh:inB m 1 12;exact absurd (.inl hh) b1;rfl,fun h=>b1 (.inr (.inl h)),fun h=>b1 (.inr (.inr h))⟩
 obtain⟨h1,h2,h3⟩:=b1';clear b1;have hm:=inB_t.1 h1;have q2:decide (d<1)=false:=by simpa using h2
 have q3:decide (31<d)=false:=by simpa using h3
 have y0:Int.tmod y 400=y%400:=Int.tmod_eq_emod_of_nonneg (by omega)
 obtain⟨Y,hY⟩:∃Y,y%400=Y:=⟨_,rfl⟩;have hY2:0≤Y∧Y<400:=by omega
 have z1:IntKind.i64.wrap Y=Y:=IntWalk.i64_in _ (by omega)
 have q4:decide (Y<0)=false:=by simp;omega
 obtain⟨L,hL⟩:∃L,longRef Y m=L:=⟨_,rfl⟩;have i1:LongE Y m L:=⟨hL,by omega,by omega⟩
 by_cases b2:L<d
 ·rw[Pd (.inr (.inr (.inr (by rw[hY,hL];exact b2))))] at h
  injection h with g1 g2
  subst g1 g2;have q5:decide (L<d)=true:=by simpa using b2
  rw[hY] at y0;clear hm hL hY h2 h3;go_enter Tryz.func156,Tryz.ntmps156
  go_wp2_with (first|(with_reducible refine aA ?_)|(with_reducible refine bA ?_)|(with_reducible refine aB ?_;first|rintro _ V ⟨rfl,(_:StepC _ _)⟩)|(with_reducible refine aH ?_;intro V g _ _ _))
  refine aP ((.take 0 (.take 1 (.take 2 (.take 3 (.take 4 (.one 5 (.take 6 .nil)))))))) (fun hHd=> ?_) (hQ:=by intro _ _ _ _ _ h;exact h)
  repeat' first|((with_reducible refine aX ?_);(first|(refine tk (v:= ?_) ?_ hHd ?_;rotate_left;(·(intro W' h;have:=StepC.mk h;first|with_reducible exact aJ)))|(refine tk (v:= ?_) ?_ hHd ?_;rotate_left;(·(intro wq hSw;go_simp;(try with_reducible rfl)))));(try simp only[pS]))|((with_reducible refine bC ?_);refine aQ (by simp only[gS];rfl) ?_)|((with_reducible refine aN ?_);first|(rintro _ V ⟨rfl,(_:StepC _ _)⟩;refine⟨_,rfl,?_⟩))|((with_reducible refine bD ?_);clear hHd;refine aM ExtC.h (fun hHd=> ?_);(try simp only[pS]))|(with_reducible refine aF ?_)
  all_goals
   go_wp2
   go_ret2
   exact⟨rfl,⟨ExtC.h⟩⟩
 have hdi:=Qw (y:=y) (d:=d) h1 (by omega) (by rw[hY,hL];exact b2)
 rw[uK h1 hdi] at h;have q5:decide (L<d)=false:=by simpa using b2
 rw[hY] at y0;by_cases c1:inB y 2000 2200=false
 ·rw[if_pos c1] at h;injection h with g1 g2
  subst g1 g2;clear hm hL hY h2 h3 hdi b2;go_enter Tryz.func156,Tryz.ntmps156
  go_wp2_with (first|(with_reducible refine aA ?_)|(with_reducible refine bA ?_)|(with_reducible refine aB ?_;first|rintro _ V ⟨rfl,(_:StepC _ _)⟩)|(with_reducible refine aH ?_;intro V g _ _ _))
  refine aP ((.take 0 (.take 1 (.take 2 (.take 3 (.take 4 (.one 5 (.take 6 .nil)))))))) (fun hHd=> ?_) (hQ:=by intro _ _ _ _ _ h;exact h)
  repeat' first|((with_reducible refine aX ?_);(first|(refine tk (v:= ?_) ?_ hHd ?_;rotate_left;(·(intro W' h;have:=StepC.mk h;first|with_reducible exact aJ)))|(refine tk (v:= ?_) ?_ hHd ?_;rotate_left;(·(intro wq hSw;go_simp;(try with_reducible rfl)))));(try simp only[pS]))|((with_reducible refine bC ?_);refine aQ (by simp only[gS];rfl) ?_)|((with_reducible refine aN ?_);first|(rintro _ V ⟨rfl,(_:StepC _ _)⟩;refine⟨_,rfl,?_⟩))|((with_reducible refine bD ?_);clear hHd;refine aM ExtC.h (fun hHd=> ?_);(try simp only[pS]))|(with_reducible refine aF ?_)
  all_goals
   go_wp2_with (first|(with_reducible refine aA ?_)|(with_reducible refine aB ?_;first|rintro _ V ⟨rfl,(_:StepC _ _)⟩))
   go_ret2
   exact⟨rfl,⟨ExtC.h⟩⟩
 have c1:inB y 2000 2200=true:=by simpa using c1
 have hyr:=inB_t.1 c1;obtain⟨n,rfl⟩:∃n:Nat,y=2000+(n:Int):=⟨(y-2000).toNat,by omega⟩
 obtain⟨S,hS⟩:∃S,yearDays n=S:=⟨_,rfl⟩;have hSb:=yd_bd n (by omega)
 rw[hS] at hSb;have i2:BegE (2000+(n:Int)) S:=⟨n,by omega,rfl,hS⟩
 have hord:ord (2000+(n:Int)) m d=S+d-1+before (leap (2000+(n:Int))) m:=by unfold ord;rw[show(2000:Int)+n-2000=n by omega,hS]
 rw[hord] at h;have H:=Lib.hid h;have HD:=Lib.hid hdi;have HL:=Lib.hid (show∀k:Int,1≤k→k≤12→before (leap (2000+(n:Int))) (k+1)=before (leap (2000+(n:Int))) k+longRef (2000+(n:Int)) k from fun k a b=>Ju (inB_t.2 ⟨a,b⟩))
 have HB:=Lib.hid (show∀k:Int,1≤k→k≤12→0≤before (leap (2000+(n:Int))) k∧before (leap (2000+(n:Int))) k≤366 from fun k a b=>Gb _ k a b)
 have z2:IntKind.i64.wrap (S+d)=S+d:=IntWalk.i64_in _ (by omega)
 have z3:IntKind.i64.wrap (S+d-1)=S+d-1:=IntWalk.i64_in _ (by omega)
 clear h hdi hord hS hL hY b2;go_enter Tryz.func156,Tryz.ntmps156
 go_wp2_with (first|(with_reducible refine aA ?_)|(with_reducible refine bA ?_)|(with_reducible refine aB ?_;first|rintro _ V ⟨rfl,(_:StepC _ _)⟩)|(with_reducible refine aH ?_;intro V g _ _ _))
 refine aP ((.take 0 (.take 1 (.take 2 (.take 3 (.take 4 (.one 5 (.take 6 .nil)))))))) (fun hHd=> ?_) (hQ:=by intro _ _ _ _ _ h;exact h)
 repeat' first|((with_reducible refine aX ?_);(first|(refine tk (v:= ?_) ?_ hHd ?_;rotate_left;(·(intro W' h;have:=StepC.mk h;first|with_reducible exact aJ)))|(refine tk (v:= ?_) ?_ hHd ?_;rotate_left;(·(intro wq hSw;go_simp;(try with_reducible rfl)))));(try simp only[pS]))|((with_reducible refine bC ?_);refine aQ (by simp only[gS];rfl) ?_)|((with_reducible refine aN ?_);first|(rintro _ V ⟨rfl,(_:StepC _ _)⟩;refine⟨_,rfl,?_⟩))|((with_reducible refine bD ?_);clear hHd;refine aM ExtC.h (fun hHd=> ?_);(try simp only[pS]))|(with_reducible refine aF ?_)
 all_goals
  go_wp2_with (first|(with_reducible refine aA ?_)|(with_reducible refine aB ?_;first|rintro _ V ⟨rfl,(_:StepC _ _)⟩))
  refine aP ((.take 0 (.take 1 (.take 3 (.take 4 (.one 2 (.take 5 (.take 6 (.take 7 .nil))))))))) (fun hHd=> ?_) (hQ:=by intro _ _ _ _ _ h;exact h)
  repeat' first|((with_reducible refine aX ?_);(first|(refine tk (v:= ?_) ?_ hHd ?_;rotate_left;(·(intro W' h;have:=StepC.mk h;first|with_reducible exact aJ)))|(refine tk (v:= ?_) ?_ hHd ?_;rotate_left;(·(intro wq hSw;go_simp;(try with_reducible rfl)))));(try simp only[pS]))|((with_reducible refine bC ?_);refine aQ (by simp only[gS];rfl) ?_)|((with_reducible refine aN ?_);first|(rintro _ V ⟨rfl,(_:StepC _ _)⟩;refine⟨_,rfl,?_⟩))|((with_reducible refine bD ?_);clear hHd;refine aM ExtC.h (fun hHd=> ?_);(try simp only[pS]))|(with_reducible refine aF ?_)
 all_goals
  go_wp2
  go_loopw [5,6] (fun sv iv wr=>StepC V wr∧∃k:Int,1≤k∧k≤m∧sv=.int .i64 (S+d-1+before (leap (2000+(n:Int))) k)∧iv=.int .i64 k) (fun _ iv _=>(m-RowKit.intOf iv).toNat)
  case atStart=>exact⟨⟨ExtC.h⟩,1,by omega,by omega,by rw[mT];simp,rfl⟩
  case round=>
   obtain⟨_,k,hk1,hk2,rfl,rfl⟩:=hrel;have hbk:=HB.out k hk1 (by omega)
   have hs:=HL.out k hk1 (by omega)
   obtain⟨b,hb⟩:∃b,before (leap (2000+(n:Int))) k=b:=⟨_,rfl⟩;obtain⟨Lk,hLk⟩:∃x,longRef (2000+(n:Int)) k=x:=⟨_,rfl⟩;have hlb:=kP (2000+(n:Int)) k;have i3:LongE (2000+(n:Int)) k Lk:=⟨hLk,by omega,by omega⟩
   rw[hLk] at hs hlb;by_cases hlt:k<m
   ·rw[hb] at hs hbk⊢;have Hs:=Lib.hid hs;have z4:IntKind.i64.wrap (S+d-1+b+Lk)=S+d-1+b+Lk:=IntWalk.i64_in _ (by omega)
    have z5:IntKind.i64.wrap (k+1)=k+1:=IntWalk.i64_in _ (by omega)
    have q6:decide (k<m)=true:=by simpa using hlt
    clear hb hLk hs;go_wp2_with (first|(with_reducible refine aA ?_)|(with_reducible refine aB ?_;first|rintro _ V ⟨rfl,(_:StepC _ _)⟩))
    go_roundw
    case rel=>exact⟨⟨ExtC.h⟩,k+1,by omega,by omega,by rw[Hs.out];congr 1;omega,rfl⟩
    case measure=>simp[RowKit.intOf];omega
   ·obtain rfl:k=m:=by omega
    have hF:=H.out;rw[hb] at hF hbk⊢;obtain⟨T,hT⟩:∃T,S+d-1+b=T:=⟨_,rfl⟩;rw[if_neg (by rw[c1];simp),hT] at hF
    rw[hT];have q6:decide (k<k)=false:=by simp
    clear hb hLk hs;by_cases c2:40000<T
    ·rw[if_pos c2] at hF;injection hF with g1 g2
     subst g1 g2;clear hT;go_wp2_with (first|(with_reducible refine aA ?_))
     go_ret2
     exact⟨rfl,⟨ExtC.h⟩⟩
    ·rw[if_neg c2] at hF;injection hF with g1 g2
     subst g1 g2;clear hT;go_wp2_with (first|(with_reducible refine aA ?_))
     go_ret2
     exact⟨rfl,⟨ExtC.h⟩⟩
class RDayE (y m d:Int) (p r:outParam Int):Prop where h:(0≤y∧y≤100000)∧(-100000≤d∧d≤100000)∧dayOf y m d=(p,r)
instance{W:World}{y m d p r:Int}[h:RDayE y m d p r]:FunC Tryz.prog 156 #[.agg #[.int .i64 y,.int .i64 m,.int .i64 d]] W (RII W p r):=⟨Lj y m d p r h.h.1 h.h.2.1 h.h.2.2 W⟩
abbrev RDt(W:World)(y m d:Int)(e:Ending)(W':World):Prop:=e=.returned (.agg #[.int .i64 y,.int .i64 m,.int .i64 d])∧StepC W W'
theorem Jm(y m d y' m' d':Int)(hy:0≤y∧y≤100000)(hm:1≤m∧m≤12)(hd:0≤d∧d≤100)(h:nextD ⟨y,m,d⟩=⟨y',m',d'⟩)(w:World):Calls Tryz.prog 281 #[.agg #[.int .i64 y,.int .i64 m,.int .i64 d]] w (RDt w y' m' d'):=by
 unfold nextD at h;simp only at h;obtain⟨L,hL⟩:∃L,longRef y m=L:=⟨_,rfl⟩;have i1:LongE y m L:=⟨hL,by omega,by omega⟩
 have hl:=kP y m;rw[hL] at h hl;have z1:IntKind.i64.wrap (d+1)=d+1:=IntWalk.i64_in _ (by omega)
 have z2:IntKind.i64.wrap (m+1)=m+1:=IntWalk.i64_in _ (by omega)
 have z3:IntKind.i64.wrap (y+1)=y+1:=IntWalk.i64_in _ (by omega)
 clear hL;by_cases c1:L<d+1
 ·rw[if_pos c1] at h;simp only at h;have q1:decide (L<d+1)=true:=by simpa using c1
  by_cases c2:12<m+1
  ·rw[if_pos c2] at h;injection h with h1 h2 h3
   subst h1 h2 h3;have q2:decide (12<m+1)=true:=by simpa using c2
   go_enter Tryz.func281,Tryz.ntmps281
   go_wp2_with (first|(with_reducible refine aA ?_)|(with_reducible refine aI ?_;intro V _ _)|(with_reducible refine aH ?_;intro V g _ _ _)|(with_reducible refine aR ?_;intro V g _ _ _))
   refine aP ((.take 0 (.take 1 (.take 2 (.take 3 (.take 4 (.take 5 (.one 6 (.take 7 .nil))))))))) (fun hHd=> ?_) (hQ:=by intro _ _ _ _ _ h;exact h)
   repeat' first|((with_reducible refine aX ?_);(first|(refine tk (v:= ?_) ?_ hHd ?_;rotate_left;(·(intro W' h;have:=StepC.mk h;first|with_reducible exact aJ)))|(refine tk (v:= ?_) ?_ hHd ?_;rotate_left;(·(intro wq hSw;go_simp;(try with_reducible rfl)))));(try simp only[pS]))|((with_reducible refine bC ?_);refine aQ (by simp only[gS];rfl) ?_)|((with_reducible refine aN ?_);first|(rintro _ V ⟨rfl,(_:StepC _ _)⟩;refine⟨_,rfl,?_⟩))|((with_reducible refine bD ?_);clear hHd;refine aM ExtC.h (fun hHd=> ?_);(try simp only[pS]))|(with_reducible refine aF ?_)
   all_goals
    go_wp2_with (first|(with_reducible refine aA ?_)|(with_reducible refine aI ?_;intro V _ _))
    exact gF rfl rfl (by with_unfolding_all rfl) ⟨rfl,⟨ExtC.h⟩⟩
  ·rw[if_neg c2] at h;injection h with h1 h2 h3
   subst h1 h2 h3;have q2:decide (12<m+1)=false:=by simpa using c2
   go_enter Tryz.func281,Tryz.ntmps281
   go_wp2_with (first|(with_reducible refine aA ?_)|(with_reducible refine aI ?_;intro V _ _)|(with_reducible refine aH ?_;intro V g _ _ _)|(with_reducible refine aR ?_;intro V g _ _ _))
   refine aP ((.take 0 (.take 1 (.take 2 (.take 3 (.take 4 (.take 5 (.one 6 (.take 7 .nil))))))))) (fun hHd=> ?_) (hQ:=by intro _ _ _ _ _ h;exact h)
   repeat' first|((with_reducible refine aX ?_);(first|(refine tk (v:= ?_) ?_ hHd ?_;rotate_left;(·(intro W' h;have:=StepC.mk h;first|with_reducible exact aJ)))|(refine tk (v:= ?_) ?_ hHd ?_;rotate_left;(·(intro wq hSw;go_simp;(try with_reducible rfl)))));(try simp only[pS]))|((with_reducible refine bC ?_);refine aQ (by simp only[gS];rfl) ?_)|((with_reducible refine aN ?_);first|(rintro _ V ⟨rfl,(_:StepC _ _)⟩;refine⟨_,rfl,?_⟩))|((with_reducible refine bD ?_);clear hHd;refine aM ExtC.h (fun hHd=> ?_);(try simp only[pS]))|(with_reducible refine aF ?_)
   all_goals
    go_wp2_with (first|(with_reducible refine aA ?_)|(with_reducible refine aI ?_;intro V _ _))
    exact gF rfl rfl (by with_unfolding_all rfl) ⟨rfl,⟨ExtC.h⟩⟩
 ·rw[if_neg c1] at h;simp only at h;have q1:decide (L<d+1)=false:=by simpa using c1
  rw[if_neg (by omega)] at h
  injection h with h1 h2 h3
  subst h1 h2 h3;have q2:decide (12<m)=false:=by simp;omega
  go_enter Tryz.func281,Tryz.ntmps281
  go_wp2_with (first|(with_reducible refine aA ?_)|(with_reducible refine aI ?_;intro V _ _)|(with_reducible refine aH ?_;intro V g _ _ _)|(with_reducible refine aR ?_;intro V g _ _ _))
  refine aP ((.take 0 (.take 1 (.take 2 (.take 3 (.take 4 (.take 5 (.one 6 (.take 7 .nil))))))))) (fun hHd=> ?_) (hQ:=by intro _ _ _ _ _ h;exact h)
  repeat' first|((with_reducible refine aX ?_);(first|(refine tk (v:= ?_) ?_ hHd ?_;rotate_left;(·(intro W' h;have:=StepC.mk h;first|with_reducible exact aJ)))|(refine tk (v:= ?_) ?_ hHd ?_;rotate_left;(·(intro wq hSw;go_simp;(try with_reducible rfl)))));(try simp only[pS]))|((with_reducible refine bC ?_);refine aQ (by simp only[gS];rfl) ?_)|((with_reducible refine aN ?_);first|(rintro _ V ⟨rfl,(_:StepC _ _)⟩;refine⟨_,rfl,?_⟩))|((with_reducible refine bD ?_);clear hHd;refine aM ExtC.h (fun hHd=> ?_);(try simp only[pS]))|(with_reducible refine aF ?_)
  all_goals
   go_wp2_with (first|(with_reducible refine aA ?_)|(with_reducible refine aI ?_;intro V _ _))
   exact gF rfl rfl (by with_unfolding_all rfl) ⟨rfl,⟨ExtC.h⟩⟩
class NextE (y m d:Int) (y' m' d':outParam Int):Prop where h:((0≤y∧y≤100000)∧(1≤m∧m≤12)∧0≤d∧d≤100)∧nextD ⟨y,m,d⟩=⟨y',m',d'⟩
instance{W:World}{y m d y' m' d':Int}[h:NextE y m d y' m' d']:FunC Tryz.prog 281 #[.agg #[.int .i64 y,.int .i64 m,.int .i64 d]] W (RDt W y' m' d'):=⟨Jm y m d y' m' d' h.h.1.1 h.h.1.2.1 h.h.1.2.2 h.h.2 W⟩
theorem Cf(a:Nat):∀b:Nat,a≤b→b≤203→yearDays a≤yearDays b
 |0,h,_=>by
  obtain rfl:a=0:=Nat.le_zero.1 h;exact Int.le_refl _
 |b+1,h,hb=>by
  by_cases e:a=b+1
  ·subst e;exact Int.le_refl _
  ·have:=Cf a b (by omega) (by omega)
   have e2:=Cg b (by omega)
   have:=kP (2000+(b:Int)) 2;push_cast
   omega
theorem Ib(n j:Nat)(hj:(j:Int)<yearLen (leap (2000+(n:Int)))):(stepD (2000+(n:Int)) j).year=2000+(n:Int)∧(1≤(stepD (2000+(n:Int)) j).month∧(stepD (2000+(n:Int)) j).month≤12)∧0≤(stepD (2000+(n:Int)) j).day∧(stepD (2000+(n:Int)) j).day≤100:=by
 rw[pJ _ _ hj];obtain⟨m1,m2,_⟩:=Cw hj;have a:=inB_t.1 m1;have b:=inB_t.1 m2;have c:=(bW (leap (2000+(n:Int))) m1).2.2;exact⟨rfl,a,by show(0:Int)≤(monthDay _ _ _).2;omega,by show(monthDay _ _ _).2≤(100:Int);omega⟩
theorem Ku(day y m d:Int)(h0:0≤day)(h:day≤40000)(hd:dateOf day=⟨y,m,d⟩)(w:World):Calls Tryz.prog 256 #[.int .i64 day] w (RDt w y m d):=by
 obtain⟨n,hn,e1,h1,h2⟩:=oT h0 h;have hr:=Kt h0 h;rw[e1,hd] at hr;have hlen:=fV (n:=(n:Int)) (by omega) (by omega)
 obtain⟨Y0,hY0⟩:∃Y,yearDays (n:Int)=Y:=⟨_,rfl⟩;rw[hY0] at hr h1 hlen;have hY:=(yd_bd n (by omega))
 rw[hY0] at hY;have Hm:=Lib.hid (fun b hb=>Cf b n hb (by omega):∀b:Nat,b≤n→yearDays b≤yearDays n)
 have HY:=Lib.hid hY0;have Hr:=Lib.hid hr;have Hn:=Lib.hid h2;have Hlen:=Lib.hid hlen;have Hs:=Lib.hid (Ib n);clear e1 hd hr hY0 h2 hlen;go_enter Tryz.func256,Tryz.ntmps256
 go_wp2_with (first|(with_reducible refine aR (d:=some 2) ?_;intro V1 g2 _ _ _))
 go_loopw [3] (fun iv wr=>StepC V1 wr∧∃k:Nat,k≤n∧iv=.int .i64 (2000+(k:Int))) (fun iv _=>n+2000-(RowKit.intOf iv).toNat)
 case atStart=>exact⟨⟨ExtC.h⟩,0,by omega,rfl⟩
 case round=>
  obtain⟨_,k,hk,rfl⟩:=hrel;obtain⟨Y,hYe⟩:∃Y,yearDays ((k:Int)+1)=Y:=⟨_,rfl⟩;have i1:BegE (2000+(k:Int)+1) Y:=⟨k+1,by omega,by push_cast;omega,by rw[←hYe];rfl⟩
  have z1:IntKind.i64.wrap (2000+(k:Int)+1)=2000+(k:Int)+1:=IntWalk.i64_in _ (by omega)
  by_cases hlt:k<n
  ·have q1:decide (Y≤day)=true:=by
    have:=Hm.out (k+1) hlt;rw[HY.out] at this;push_cast at this
    rw[hYe] at this;simp;omega
   clear hYe;go_wp2_with (first|(with_reducible refine aB ?_;first|rintro _ V ⟨rfl,(_:StepC _ _)⟩))
   go_roundw
   case rel=>exact⟨⟨ExtC.h⟩,k+1,hlt,by push_cast;congr 1⟩
   case measure=>simp[RowKit.intOf];omega
  ·obtain rfl:k=n:=by omega
   have q1:decide (Y≤day)=false:=by have:=Hn.out;rw[hYe] at this;simp;omega
   have i2:BegE (2000+(k:Int)) Y0:=⟨k,by omega,rfl,HY.out⟩
   clear hYe;go_wp2_with (first|(with_reducible refine aG (uu:=4) ?_;intro V g4 _ hB4 hA4)|(first|(with_reducible refine aB ?_;first|rintro _ V2 ⟨rfl,(_:StepC _ _)⟩)))
   have ne:NeC g4 g2:=inferInstance;have hEw:Ext w V2:=ExtC.h;have iA:AtC w g4:=⟨Nat.le_trans (ExtC.h:Ext w _).size hA4.h⟩;have hb0:=(inferInstance:BlkC V2 g4 184 [.int .i64 (2000+(k:Int)),.int .i64 1,.int .i64 1]).h;have hb2:=(inferInstance:BlkC V2 g2 184 [.int .i64 0,.int .i64 0,.int .i64 0]).h;have hJ:=Hlen.out;go_loopw [5] (fun iv wr=>StepC w wr∧Blk wr g2 184 #[.int .i64 0,.int .i64 0,.int .i64 0]∧∃j:Nat,j≤(day-Y0).toNat∧iv=.int .i64 (Y0+j)∧Blk wr g4 184 #[.int .i64 (stepD (2000+(k:Int)) j).year,.int .i64 (stepD (2000+(k:Int)) j).month,.int .i64 (stepD (2000+(k:Int)) j).day]) (fun iv _=>(day-RowKit.intOf iv).toNat)
   case atStart=>exact⟨⟨hEw⟩,hb2,0,by omega,by simp,hb0⟩
   case round=>
    obtain⟨_,hb2,j,hj,rfl,hb4⟩:=hrel;have hjl:(j:Int)<yearLen (leap (2000+(k:Int))):=by have:=Hn.out;omega
    obtain⟨s1,s2,s3⟩:=Hs.out j hjl;have i2:BlkC wr g2 184 [.int .i64 0,.int .i64 0,.int .i64 0]:=⟨hb2⟩;by_cases hl2:j<(day-Y0).toNat
    ·have hnx:nextD (stepD (2000+(k:Int)) j)=stepD (2000+(k:Int)) (j+1):=rfl;obtain⟨⟨a',b',c'⟩,hD'⟩:∃D,stepD (2000+(k:Int)) (j+1)=D:=⟨_,rfl⟩;obtain⟨⟨a,b,c⟩,hD⟩:∃D,stepD (2000+(k:Int)) j=D:=⟨_,rfl⟩;rw[hD] at hb4 hnx s1 s2 s3;rw[hD'] at hnx;have i4:BlkC wr g4 184 [.int .i64 a,.int .i64 b,.int .i64 c]:=⟨hb4⟩;have i5:NextE a b c a' b' c':=⟨⟨by simp only at s1;omega,s2,s3⟩,hnx⟩
     have q2:decide (Y0+(j:Int)<day)=true:=by simp;omega
     have z2:IntKind.i64.wrap (Y0+(j:Int)+1)=Y0+(j:Int)+1:=IntWalk.i64_in _ (by omega)
     have HD':=Lib.hid hD';clear hnx hD hD' s1 s2 s3 hJ hjl;go_wp2_with (first|(with_reducible refine aA ?_)|(with_reducible refine aB ?_;first|rintro _ V ⟨rfl,(_:StepC _ _)⟩)|(with_reducible refine aI ?_;intro V _ _))
     (try simp only[pS])
     go_roundw
     case rel=>exact⟨⟨ExtC.h⟩,(inferInstance:BlkC _ g2 184 [.int .i64 0,.int .i64 0,.int .i64 0]).h,j+1,hl2,by push_cast;congr 1;omega,by rw[HD'.out];exact(inferInstance:BlkC _ g4 184 [.int .i64 a',.int .i64 b',.int .i64 c']).h⟩
     case measure=>simp[RowKit.intOf];omega
    ·obtain rfl:j=(day-Y0).toNat:=by omega
     have hr:=Hr.out;rw[hr] at hb4;have i4:BlkC wr g4 184 [.int .i64 y,.int .i64 m,.int .i64 d]:=⟨hb4⟩;have q2:decide (Y0+(((day-Y0).toNat:Nat):Int)<day)=false:=by simp;omega
     clear hr s1 s2 s3 hJ hjl;go_wp2_with (first|(with_reducible refine aA ?_)|(with_reducible refine aI ?_;intro V _ _))
     (try simp only[Exit.inBlock,Exit.then])
     exact gF rfl rfl (by with_unfolding_all rfl) ⟨rfl,⟨ExtC.h⟩⟩
class RdtE (day:Int) (y m d:outParam Int):Prop where h:(0≤day∧day≤40000)∧dateOf day=⟨y,m,d⟩
instance{W:World}{day y m d:Int}[h:RdtE day y m d]:FunC Tryz.prog 256 #[.int .i64 day] W (RDt W y m d):=⟨Ku day y m d h.h.1.1 h.h.1.2 h.h.2 W⟩
class RPlusE (day years months:Int) (p r:outParam Int):Prop where h:plusAns day years months=(p,r)
theorem Ni{y m d p r:Int}(hm:inB m 1 12=true)(hd:inB d 1 (monthLen (leap y) m)=true)(h:dayOf y m d=(p,r))(hr:r≠0):p=0∧r=7:=by
 rw[uK hm hd] at h;split at h
 ·injection h with h1 h2;exact⟨h1.symm,h2.symm⟩
 ·split at h
  ·injection h with h1 h2;exact⟨h1.symm,h2.symm⟩
  ·injection h with h1 h2;exact absurd h2.symm hr
theorem Gl(day years months p r:Int)(h:plusAns day years months=(p,r))(w:World):Calls Tryz.prog 199 #[.int .i64 day,.int .i64 years,.int .i64 months] w (RII w p r):=by
 unfold plusAns at h;by_cases hall:inB day 0 40000=false∨inB years 0 100=false∨inB months 0 1200=false
 ·rw[if_pos hall] at h;injection h with h1 h2
  subst h1 h2;obtain⟨e1,he1⟩:∃e,inB day 0 40000=e:=⟨_,rfl⟩;obtain⟨e2,he2⟩:∃e,inB years 0 100=e:=⟨_,rfl⟩;obtain⟨e3,he3⟩:∃e,inB months 0 1200=e:=⟨_,rfl⟩;rw[he1,he2,he3] at hall
  cases e1
  ·clear hall;go_enter Tryz.func199,Tryz.ntmps199
   go_wp2_with (first|(with_reducible refine aB ?_;first|rintro _ V ⟨rfl,(_:StepC _ _)⟩))
   all_goals(go_ret2;exact⟨rfl,⟨ExtC.h⟩⟩)
  ·cases e2
   ·clear hall;go_enter Tryz.func199,Tryz.ntmps199
    go_wp2_with (first|(with_reducible refine aB ?_;first|rintro _ V ⟨rfl,(_:StepC _ _)⟩))
    all_goals(go_ret2;exact⟨rfl,⟨ExtC.h⟩⟩)
   ·obtain rfl:e3=false:=by simpa using hall
    clear hall;go_enter Tryz.func199,Tryz.ntmps199
    go_wp2_with (first|(with_reducible refine aB ?_;first|rintro _ V ⟨rfl,(_:StepC _ _)⟩))
    all_goals(go_ret2;exact⟨rfl,⟨ExtC.h⟩⟩)
 rw[if_neg hall] at h;have hd:inB day 0 40000=true:=by cases hh:inB day 0 40000;exact absurd (.inl hh) hall;rfl
 have hy:inB years 0 100=true:=by cases hh:inB years 0 100;exact absurd (.inr (.inl hh)) hall;rfl
 have hm:inB months 0 1200=true:=by cases hh:inB months 0 1200;exact absurd (.inr (.inr hh)) hall;rfl
 clear hall;obtain⟨Y,M,D,hD,hA,hY,hM,hDd⟩:=kS hd;have i1:RdtE day Y M D:=⟨inB_t.1 hd,hD⟩;have y1:=inB_t.1 hy;have m1:=inB_t.1 hm;simp only[hD] at h;obtain⟨k,hk⟩:∃k:Int,months+M-1=k:=⟨_,rfl⟩;have hkb:0≤k∧k≤1211:=by omega
 have t1:=Int.tdiv_eq_ediv_of_nonneg (b:=12) hkb.1;have t2:=Int.tmod_eq_emod_of_nonneg (b:=12) hkb.1;rw[hk,t1,t2] at h;have z0:IntKind.i64.wrap (months+M)=months+M:=IntWalk.i64_in _ (by omega)
 have z1:IntKind.i64.wrap (months+M-1)=k:=by rw[hk];exact IntWalk.i64_in _ (by omega)
 obtain⟨m',hm'⟩:∃m':Int,k%12=m':=⟨_,rfl⟩;have hq12:0≤m'∧m'<12:=by omega
 obtain⟨t,ht⟩:∃t:Int,k/12=t:=⟨_,rfl⟩;have htb:0≤t∧t≤101:=by omega
 rw[hm',ht] at h;rw[hm'] at t2;rw[ht] at t1;obtain⟨y',hy'⟩:∃y':Int,Y+years+t=y':=⟨_,rfl⟩;rw[hy'] at h;have z2:IntKind.i64.wrap (Y+years)=Y+years:=IntWalk.i64_in _ (by omega)
 have z3:IntKind.i64.wrap (Y+years+t)=y':=by rw[hy'];exact IntWalk.i64_in _ (by omega)
 have z4:IntKind.i64.wrap (m'+1)=m'+1:=IntWalk.i64_in _ (by omega)
 have z5:IntKind.i64.wrap t=t:=IntWalk.i64_in _ (by omega)
 have z6:IntKind.i64.wrap m'=m':=IntWalk.i64_in _ (by omega)
 have hmi:inB (m'+1) 1 12=true:=inB_t.2 (by omega)
 obtain⟨L,hL⟩:∃L,longRef y' (m'+1)=L:=⟨_,rfl⟩;have hb:=kP y' (m'+1);rw[←gP hmi,hL] at h;have i2:LongE y' (m'+1) L:=⟨hL,by omega,by omega⟩
 have he:r≠0→p=0∧r=7:=fun hr=>Ni hmi (by rw[←gP hmi,hL];exact inB_t.2 (by omega)) h hr
 rw[hL] at hb;have i3:RDayE y' (m'+1) (if L<D then L else D) p r:=by
  have:min D L=if L<D then L else D:=by split<;>omega
  rw[←this];exact⟨⟨by omega,by omega⟩,⟨by omega,by omega⟩,h⟩
 clear hD hA hk hL hy' h hmi hm' ht;have hc2:D≤L↔¬L<D:=by omega
 by_cases hr:r=0
 ·subst hr;clear he;by_cases hc:L<D
  all_goals
   first|rw[if_pos hc] at i3|rw[if_neg hc] at i3
   have i9:=i3;first|rw[show L=min D L by omega] at i9|rw[show D=min D L by omega] at i9
   go_enter Tryz.func199,Tryz.ntmps199
   go_wp2_with (first|(with_reducible refine aG (uu:=8) ?_;intro V g8 _ _ hA8;have iA:AtC w g8:=AtC.up hA8)|(first|(with_reducible refine aA ?_)|(with_reducible refine aB ?_;first|rintro _ V ⟨rfl,(_:StepC _ _)⟩)|(with_reducible refine aI ?_;intro V _ _)))
   refine dA ((.take 0 (.take 2 (.take 3 (.take 4 (.take 5 (.two 1 (.one 6 (.take 7 (.take 8 (.one 9 .nil)))) 6 (.one 1 (.take 7 (.take 8 (.one 9 .nil))))))))))) (fun w'=>Ext w w'∧w'.cell? ⟨g8,0,none⟩=some (.int .i64 y')∧w'.cell? ⟨g8,1,none⟩=some (.int .i64 (m'+1))) ?_ (fun hHd=> ?_) (hQ:=by intro _ _ _ _ _ h;exact h)
   ·exact⟨ExtC.h,BlkC.at0 (t:=184),BlkC.at1 (t:=184)⟩
   repeat' first|((with_reducible refine aX ?_);(first|(refine tk (v:= ?_) ?_ hHd ?_;rotate_left;(·(intro W' h;obtain⟨h,ha,hb⟩:=h;have:=StepC.mk h;have c0:=CellB.mk ha;have c1:=CellB.mk hb;first|with_reducible exact aJ)))|(refine tk (v:= ?_) ?_ hHd ?_;rotate_left;(·(intro wq hSw;go_simp;(try with_reducible rfl)))));(try simp only[pS]))|((with_reducible refine bC ?_);refine aQ (by simp only[gS];rfl) ?_)|((with_reducible refine gK ?_);refine dV (by simp only[gS];rfl) (by simp only[gS];rfl) ?_ ?_)|(with_reducible refine aA ?_)|(with_reducible refine aI ?_;intro Vs hS hSB)|((with_reducible refine aN ?_);first|(rintro _ V ⟨rfl,(_:StepC _ _)⟩;refine⟨_,rfl,?_⟩))|((with_reducible refine bD ?_);clear hHd;refine aM ⟨ExtC.h,BlkC.at0 (t:=184),BlkC.at1 (t:=184)⟩ (fun hHd=> ?_);(try simp only[pS]))|(with_reducible refine aF ?_)
   all_goals
    go_wp2_with (first|(with_reducible refine aA ?_)|(with_reducible refine aB ?_;first|rintro _ V ⟨rfl,(_:StepC _ _)⟩))
    go_ret2
    exact⟨rfl,⟨ExtC.h⟩⟩
 ·obtain⟨rfl,rfl⟩:=he hr;clear he hr;by_cases hc:L<D
  all_goals
   first|rw[if_pos hc] at i3|rw[if_neg hc] at i3
   have i9:=i3;first|rw[show L=min D L by omega] at i9|rw[show D=min D L by omega] at i9
   go_enter Tryz.func199,Tryz.ntmps199
   go_wp2_with (first|(with_reducible refine aG (uu:=8) ?_;intro V g8 _ _ hA8;have iA:AtC w g8:=AtC.up hA8)|(first|(with_reducible refine aA ?_)|(with_reducible refine aB ?_;first|rintro _ V ⟨rfl,(_:StepC _ _)⟩)|(with_reducible refine aI ?_;intro V _ _)))
   refine dA ((.take 0 (.take 2 (.take 3 (.take 4 (.take 5 (.two 1 (.one 6 (.take 7 (.take 8 (.one 9 .nil)))) 6 (.one 1 (.take 7 (.take 8 (.one 9 .nil))))))))))) (fun w'=>Ext w w'∧w'.cell? ⟨g8,0,none⟩=some (.int .i64 y')∧w'.cell? ⟨g8,1,none⟩=some (.int .i64 (m'+1))) ?_ (fun hHd=> ?_) (hQ:=by intro _ _ _ _ _ h;exact h)
   ·exact⟨ExtC.h,BlkC.at0 (t:=184),BlkC.at1 (t:=184)⟩
   repeat' first|((with_reducible refine aX ?_);(first|(refine tk (v:= ?_) ?_ hHd ?_;rotate_left;(·(intro W' h;obtain⟨h,ha,hb⟩:=h;have:=StepC.mk h;have c0:=CellB.mk ha;have c1:=CellB.mk hb;first|with_reducible exact aJ)))|(refine tk (v:= ?_) ?_ hHd ?_;rotate_left;(·(intro wq hSw;go_simp;(try with_reducible rfl)))));(try simp only[pS]))|((with_reducible refine bC ?_);refine aQ (by simp only[gS];rfl) ?_)|((with_reducible refine gK ?_);refine dV (by simp only[gS];rfl) (by simp only[gS];rfl) ?_ ?_)|(with_reducible refine aA ?_)|(with_reducible refine aI ?_;intro Vs hS hSB)|((with_reducible refine aN ?_);first|(rintro _ V ⟨rfl,(_:StepC _ _)⟩;refine⟨_,rfl,?_⟩))|((with_reducible refine bD ?_);clear hHd;refine aM ⟨ExtC.h,BlkC.at0 (t:=184),BlkC.at1 (t:=184)⟩ (fun hHd=> ?_);(try simp only[pS]))|(with_reducible refine aF ?_)
   all_goals
    go_wp2_with (first|(with_reducible refine aA ?_)|(with_reducible refine aB ?_;first|rintro _ V ⟨rfl,(_:StepC _ _)⟩))
    go_ret2
    exact⟨rfl,⟨ExtC.h⟩⟩
instance{W:World}{day years months p r:Int}[h:RPlusE day years months p r]:FunC Tryz.prog 199 #[.int .i64 day,.int .i64 years,.int .i64 months] W (RII W p r):=⟨Gl _ _ _ _ _ h.h W⟩
end Go.Rg
end
