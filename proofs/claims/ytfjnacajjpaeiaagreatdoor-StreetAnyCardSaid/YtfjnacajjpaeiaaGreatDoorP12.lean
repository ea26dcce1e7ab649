/- Chapter 03: contracts of functions of the program and of the reference, and plain laws (out of SQ9 SQ10 MapM MapN MapK SJ2 SJ3 SJ5). No condition of its own. -/
import Derived.RangeFuncBound
import Derived.Test.YtfjnacajjpaeiaaGreatDoorP11
set_option maxRecDepth 100000
set_option linter.all false
section
namespace Go.St
open Go Go.Bp Go.RowKit Go.Proofs
set_option maxRecDepth 1000000 in
set_option maxHeartbeats 8000000 in
theorem Mk(W0:World)(p:Value)(g o cap:Nat)(xs0:List (Int×Int))(hcmp:tA W0 g p)(hl:xs0.length≤60000)(n:Nat):∀(a b lim:Nat)(w:World),Sw W0 113 g o cap xs0 w→b≤xs0.length→a≤b→b<a+n→lim≤1000→
 Calls Tryz.prog 118 #[.slice (some ⟨g,o,none⟩) xs0.length cap,.int .i64 a,.int .i64 b,.int .i64 lim,.func (.func 97) #[p] #[]] w (fun e w'=>(∃v,e=.returned v)∧Sw W0 113 g o cap xs0 w'):=by
 induction n with
 |zero=>intro a b lim w _ _ h1 h2;omega
 |succ n ih=>
 intro a0 b0 lim0 w hS hb0 hab0 hn hlim;have hl':xs0.length≤1000000:=by omega
 go_enter Tryz.func118,Tryz.ntmps118
 go_wp2
 go_loopw [1,2,3,10,11] (fun va vb vl v10 v11 wr=>Sw W0 113 g o cap xs0 wr∧∃(a b l:Nat)(c10 c11:Bool),va=.int .i64 a∧vb=.int .i64 b∧vl=.int .i64 l∧v10=.bool c10∧v11=.bool c11∧l≤1000∧a0≤a∧a≤b∧b≤b0) (fun va vb _ _ _ _=>(intOf vb).toNat-(intOf va).toNat)
 case atStart=>exact⟨hS,a0,b0,lim0,true,true,rfl,rfl,rfl,rfl,rfl,hlim,by omega,by omega,by omega⟩
 case round=>
  obtain⟨hSr,a,b,lim,c10,c11,rfl,rfl,rfl,rfl,rfl,hlm,ha,hab,hb⟩:=hrel;clear hS;obtain⟨len,hlen⟩:∃l:Nat,l=b-a:=⟨_,rfl⟩;have wl:IntKind.i64.wrap ((b:Int)-(a:Int))=(len:Int):=by rw[bM (by omega) (by omega)];omega
  have hbl:b≤xs0.length:=by omega
  have Hlen:=Lib.hid hlen;have hab12:¬len≤12→a+12<b:=by omega
  clear hlen;by_cases h12:len≤12
  ·clear hab12;have l12:(len:Int)≤12:=by omega
   go_wp2_with (go_at_call 138;refine(Cu W0 p g o cap xs0 hcmp a b _ hSr hl' hbl hab).mono ?_;rintro e Wn ⟨⟨v,rfl⟩,hSn⟩)
   refine bodyPost_ret (results_none rfl _ _ _) (by rfl) ?_
   exact⟨⟨_,rfl⟩,hSn⟩
  ·have l12:¬((len:Int)≤12):=by omega
   replace hab12:=hab12 h12;by_cases h0:lim=0
   ·subst h0;go_wp2_with (go_at_call 139;refine(Kk W0 p g o cap xs0 hcmp a b _ hSr hl' hbl hab).mono ?_;rintro e Wn ⟨⟨v,rfl⟩,hSn⟩)
    refine bodyPost_ret (results_none rfl _ _ _) (by rfl) ?_
    exact⟨⟨_,rfl⟩,hSn⟩
   ·have l0:¬((lim:Int)=0):=by omega
    have Hn:=Lib.hid (⟨hn,ha,hab,hb,Hlen.out⟩:_∧_∧_∧_∧_);clear hn ha hab hb Hlen h12;obtain⟨d10,rfl⟩:∃d,c10= !d:=⟨!c10,by simp⟩
    obtain⟨h39,h39e⟩:∃f:Operand→Go.Code→Go.Code→Go.Code,f=Go.Code.cond:=⟨_,rfl⟩;rw[show Go.Code.cond (Operand.tmp 39)=h39 (Operand.tmp 39) by rw[h39e]]
    replace h39e:=Lib.hid h39e;obtain⟨h56,h56e⟩:∃f:Operand→Go.Code→Go.Code→Go.Code,f=Go.Code.cond:=⟨_,rfl⟩;rw[show Go.Code.cond (Operand.tmp 56)=h56 (Operand.tmp 56) by rw[h56e]]
    replace h56e:=Lib.hid h56e;obtain⟨h75,h75e⟩:∃f:Operand→Go.Code→Go.Code→Go.Code,f=Go.Code.cond:=⟨_,rfl⟩;rw[show Go.Code.cond (Operand.tmp 75)=h75 (Operand.tmp 75) by rw[h75e]]
    replace h75e:=Lib.hid h75e;obtain⟨h97,h97e⟩:∃f:Operand→Go.Code→Go.Code→Go.Code,f=Go.Code.cond:=⟨_,rfl⟩;rw[show Go.Code.cond (Operand.tmp 97)=h97 (Operand.tmp 97) by rw[h97e]]
    replace h97e:=Lib.hid h97e;obtain⟨r15,r15e⟩:∃f:Nat→Array Oper→Bool→Go.Code,f=Go.Code.region:=⟨_,rfl⟩;rw[show Go.Code.region 15=r15 15 by rw[r15e]]
    replace r15e:=Lib.hid r15e;obtain⟨r17,r17e⟩:∃f:Nat→Array Oper→Bool→Go.Code,f=Go.Code.region:=⟨_,rfl⟩;rw[show Go.Code.region 17=r17 17 by rw[r17e]]
    replace r17e:=Lib.hid r17e;go_wp2
    apply tB [40,41,42,43,44,45,46,3] (fun x wr=>Sw W0 113 g o cap xs0 wr∧∃l:Nat,x 3=.int .i64 l∧l≤1000)
    case h=>
     have e39:=h39e.out;subst e39;have wlm:IntKind.i64.wrap ((lim:Int)-1)=((lim-1:Nat):Int):=by rw[bM (by omega) (by omega)];omega
     cases d10
     ·go_wp2
      refine bL ?_ ?_
      ·simp only[Act.sets,Act.put,List.foldl_cons,List.foldl_nil,List.setIfInBounds_toArray,List.set_cons_zero,List.set_cons_succ,Act.get];rfl
      exact⟨_,rfl,by omega⟩
     ·go_wp2_with (go_at_call 140;refine(Ig W0 _ g o cap xs0 a b _ hSr hl hbl hab12).mono ?_;rintro e Wn ⟨⟨v,rfl⟩,hSn⟩)
      refine bL ?_ ?_
      ·simp only[Act.sets,Act.put,List.foldl_cons,List.foldl_nil,List.setIfInBounds_toArray,List.set_cons_zero,List.set_cons_succ,Act.get];rfl
      exact⟨_,rfl,by omega⟩
    case k=>
     rintro x Wk ⟨hSk,lim',hx3,hlim'⟩;simp only[Act.sets,Act.put,List.foldl_cons,List.foldl_nil,List.setIfInBounds_toArray,List.set_cons_zero,List.set_cons_succ,hx3];go_wp2_with (go_at_call 141;refine(Dm W0 p g o cap xs0 hcmp a b _ hSk hl' hbl hab12).mono ?_;rintro e Wc ⟨hSc,d,h,rfl,hd1,hd2⟩)
     apply tB [57,58,59,60,61,62,63,64,65,66,67,13,14] (fun x wr=>Sw W0 113 g o cap xs0 wr∧∃(d:Nat)(h:Int),x 13=.int .i64 d∧x 14=.int .i64 h∧a≤d∧d<b)
     case h=>
      have e56:=h56e.out;subst e56;obtain⟨bm,hbm⟩:∃m:Nat,m=b-1:=⟨_,rfl⟩;obtain⟨da,hda⟩:∃m:Nat,m=d-a:=⟨_,rfl⟩;obtain⟨pd,hpd⟩:∃m:Nat,m=b-1-(d-a):=⟨_,rfl⟩;have wbm:IntKind.i64.wrap ((b:Int)-1)=(bm:Int):=by rw[bM (by omega) (by omega)];omega
      have wda:IntKind.i64.wrap ((d:Int)-(a:Int))=(da:Int):=by rw[bM (by omega) (by omega)];omega
      have wpd:IntKind.i64.wrap ((bm:Int)-(da:Int))=(pd:Int):=by rw[bM (by omega) (by omega)];omega
      have hpd1:a≤pd:=by omega
      have hpd2:pd<b:=by omega
      clear hbm hda hpd;by_cases h2:h=2
      ·subst h2;go_wp2_with (go_at_call 142;refine(zP W0 _ g o cap xs0 a b _ hSc hl' hbl (by omega)).mono ?_;rintro e Wn ⟨⟨v,rfl⟩,hSn⟩)
       refine bL ?_ ?_
       ·simp only[Act.sets,Act.put,List.foldl_cons,List.foldl_nil,List.setIfInBounds_toArray,List.set_cons_zero,List.set_cons_succ,Act.get];rfl
       exact⟨pd,rfl,⟨_,rfl⟩,hpd1,hpd2⟩
      ·go_wp2
       refine bL ?_ ?_
       ·simp only[Act.sets,Act.put,List.foldl_cons,List.foldl_nil,List.setIfInBounds_toArray,List.set_cons_zero,List.set_cons_succ,Act.get];rfl
       exact⟨d,rfl,⟨_,rfl⟩,hd1,hd2⟩
     case k=>
      rintro y Wy ⟨hSy,d',h',hy13,hy14,hd1',hd2'⟩;simp only[Act.sets,Act.put,List.foldl_cons,List.foldl_nil,List.setIfInBounds_toArray,List.set_cons_zero,List.set_cons_succ,hy13,hy14];clear hd1 hd2;go_wp2
      apply tB [68,69,70,71,72,73,74,75] (fun x wr=>Sw W0 113 g o cap xs0 wr∧∃c,x 75=.bool c)
      case h=>
       have e15:=r15e.out;subst e15
       cases d10<;>cases c11<;>by_cases h1:h'=1
       all_goals
        go_wp2
        refine bL ?_ ?_
        ·simp only[Act.sets,Act.put,List.foldl_cons,List.foldl_nil,List.setIfInBounds_toArray,List.set_cons_zero,List.set_cons_succ,Act.get];rfl
        first|exact Or.inl rfl|exact Or.inr rfl|exact⟨_,rfl⟩|(simp[Act.get,h1])
      case k=>
       rintro z Wz ⟨hSz,c75,hz75⟩;simp only[Act.sets,Act.put,List.foldl_cons,List.foldl_nil,List.setIfInBounds_toArray,List.set_cons_zero,List.set_cons_succ,hz75];go_wp2
       apply tB [76,77,78,79,80] (fun x wr=>Sw W0 113 g o cap xs0 wr)
       case h=>
        have e75:=h75e.out;subst e75
        cases c75
        ·go_wp2
         refine Es ?_;simp only[Act.sets,Act.put,List.foldl_cons,List.foldl_nil,List.setIfInBounds_toArray,List.set_cons_zero,List.set_cons_succ,Act.get];rfl
        ·go_wp2_with (go_at_call 143;refine(zU W0 p g o cap xs0 hcmp a b _ hSz hl' hbl (by omega)).mono ?_;rintro e Wn ⟨hSn,cn,rfl⟩)
         ·refine⟨fun e=>(by cases e),fun _=> ?_⟩
          exact⟨rfl,_,results_none rfl _ _ _,⟨_,rfl⟩,hSn⟩
         ·
          refine Es ?_;simp only[Act.sets,Act.put,List.foldl_cons,List.foldl_nil,List.setIfInBounds_toArray,List.set_cons_zero,List.set_cons_succ,Act.get];rfl
       case k=>
        rintro y2 wr hS2;simp only[Act.sets,List.foldl_cons,List.foldl_nil,List.setIfInBounds_toArray,List.set_cons_zero,List.set_cons_succ];go_wp2
        apply eF [81,82,83,84,85,86,87,88,89,90,91,92,93,94,95,96,97] (fun x wr=>Sw W0 113 g o cap xs0 wr∧∃c,x 97=.bool c)
        case h=>
         have e17:=r17e.out;subst e17;clear hSr hSk hSc hSy hSz;have hSr:=hS2;clear hS2;by_cases ha0:0<a
         ·obtain⟨am,rfl⟩:∃m,a=m+1:=⟨a-1,by omega⟩
          have z3:(am:Int)+1<(xs0.length:Int):=by omega
          have z4:(am:Int)<(xs0.length:Int):=by omega
          have z6:(d':Int)<(xs0.length:Int):=by omega
          have q3:am<xs0.length:=by omega
          have q4:d'<xs0.length:=by omega
          have wj:IntKind.i64.wrap (am:Int)=am:=bM (by omega) (by omega)
          obtain⟨hg,cur,xs,hR,hp⟩:=hSr;have hlen:=hp.length_eq;have hix:am<xs.length:=by omega
          have hjx:d'<xs.length:=by omega
          have hi2:=hR.at_ hix;have hj2:=hR.at_ hjx;obtain⟨x,hx⟩:∃x,xs[am]=x:=⟨_,rfl⟩;obtain⟨y,hy⟩:∃y,xs[d']=y:=⟨_,rfl⟩;rw[hx] at hi2;rw[hy] at hj2;have f1:=hR.lt2 hix;have f2:=hR.lt2 hjx;have hB:=hR.blk;have Hput:Hid (∀W1 W2,Blk W1 g 113 (aI cur (o+(am)*2) [.int .i64 y.1,.int .i64 y.2])→wr.grownBy W1 (some g)→Blk W2 g 113 (aI (aI cur (o+(am)*2) [.int .i64 y.1,.int .i64 y.2]) (o+(d')*2) [.int .i64 x.1,.int .i64 x.2])→W1.grownBy W2 (some g)→Sw W0 113 g o cap xs0 W2):=Lib.hid (by intro W1 W2 h1 h2 h3 h4;subst hx hy;exact Sw.put2 hg hR hp hix hjx h1 h2 h3 h4)
          have hmA:True:=trivial;have hX:=Ext.todrew (Ext.refl wr);refine aR (.take 0 (.take 1 (.take 2 (.take 3 (.take 4 (.take 5 (.take 6 (.take 7 (.take 8 (.take 9 (.take 10 (.take 11 (.take 12 (.one 13 (.take 14 (.take 15 (.take 16 .nil))))))))))))))))) (fun w'=>Ext wr w') ?_ (fun hHd=> ?_)
          ·assumption
          repeat' first|((with_reducible refine aB ?_);(first|((with_reducible refine aB (i:=1) ?_);refine tk (v:=.bool true) ?_ hHd ?_;(·(intro wq hSw;go_simp;first|done|omega|(simp;omega))))|((with_reducible refine aB (i:=8) ?_);refine tw (v:=.agg #[.int .i64 x.1,.int .i64 x.2]) ?_ hHd ?_;(·exact aA (by rfl) (fun W h=>aN (hi2.ext h))))|((with_reducible refine aB (i:=12) ?_);refine tw (v:=.agg #[.int .i64 y.1,.int .i64 y.2]) ?_ hHd ?_;(·exact aA (by rfl) (fun W h=>aN (hj2.ext h))))|(refine tk (v:= ?_) ?_ hHd ?_;rotate_left;(·(intro wq hSw;(try dsimp only at hSw);go_simp;(try with_reducible rfl))))|(refine tw (v:= ?_) ?_ hHd ?_;rotate_left;(·(intro wq hSw;(try dsimp only at hSw);go_simp;(try with_reducible rfl)))));(try simp only[pS]))|((with_reducible refine bC ?_);refine aQ (by simp only[gS];rfl) ?_)|((with_reducible refine aH (d:=some 94) ?_);((refine bN (by rfl) (hcmp _ (bQ hg hX) x y) (by go_simp) ?_;rintro e Wc ⟨⟨r,rfl⟩,hEc⟩;refine⟨_,rfl,?_⟩;have hXc:=hX.trans hEc;obtain⟨bb,hbb⟩:∃b,decide (r<0)=b:=⟨_,rfl⟩)))|((with_reducible refine bB ?_);clear hHd;refine aJ ?_ (fun hHd=> ?_);(·assumption);(try simp only[pS]))|(with_reducible refine aG ?_)
          all_goals
           have hSr:=Sw.ext (⟨hg,cur,xs,hR,hp⟩:Sw W0 113 g o cap xs0 wr) hXc;clear hX hXc hi2 hj2 hB hR Hput hg hx hy hp f1 f2 hmA;generalize Wc=wr at hSr⊢;refine⟨rfl,?_⟩;refine bL ?_ ?_
           ·simp only[Act.sets,Act.put,List.foldl_cons,List.foldl_nil,List.setIfInBounds_toArray,List.set_cons_zero,List.set_cons_succ,Act.get];rfl
           exact⟨hSr,_,rfl⟩
         ·have ha0':a=0:=by omega
          subst ha0';have hX:=Ext.todrew (Ext.refl wr);refine aR (.take 0 (.take 1 (.take 2 (.take 3 (.take 4 (.take 5 (.take 6 (.take 7 (.take 8 (.take 9 (.take 10 (.take 11 (.take 12 (.one 13 (.take 14 (.take 15 (.take 16 .nil))))))))))))))))) (fun w'=>Ext wr w') ?_ (fun hHd=> ?_)
          ·assumption
          repeat' first|((with_reducible refine aB ?_);(first|((with_reducible refine aB (i:=1) ?_);refine tk (v:=.bool false) ?_ hHd ?_;(·(intro wq hSw;go_simp;first|done|omega|(simp;omega))))|(refine tk (v:= ?_) ?_ hHd ?_;rotate_left;(·(intro wq hSw;(try dsimp only at hSw);go_simp;(try with_reducible rfl))))|refine ts hHd ?_);(try simp only[pS]))|((with_reducible refine bC ?_);refine aQ (by simp only[gS];rfl) ?_)|((with_reducible refine aH (d:=some 94) ?_);refine dK (by rfl) ?_)|((with_reducible refine bB ?_);clear hHd;refine aJ ?_ (fun hHd=> ?_);(·assumption);(try simp only[pS]))|(with_reducible refine aG ?_)
          have hSr:=Sw.ext hSr hX;refine⟨rfl,?_⟩;refine bL ?_ ?_
          ·simp only[Act.sets,Act.put,List.foldl_cons,List.foldl_nil,List.setIfInBounds_toArray,List.set_cons_zero,List.set_cons_succ,Act.get];rfl
          exact⟨hSr,_,rfl⟩
        case k=>
         rintro y3 W3 ⟨hS3,c97,hy97⟩;simp only[Act.sets,Act.put,List.foldl_cons,List.foldl_nil,List.setIfInBounds_toArray,List.set_cons_zero,List.set_cons_succ,hy97];clear hSr hSk hSc hSy hSz hS2;go_wp2
         have e97:=h97e.out;subst e97
         cases c97
         rotate_left
         ·go_wp2_with (go_at_call 144;refine(Cm W0 p g o cap xs0 hcmp a b d' _ hS3 hl' hbl hd1' hd2').mono ?_;rintro e Wn ⟨hSn,dd,rfl,hdd1,hdd2⟩)
          go_roundw
          case rel=>obtain⟨e1,e2,e3,e4,e5⟩:=Hn.out;exact⟨hSn,dd,b,lim',_,_,rfl,rfl,rfl,rfl,rfl,hlim',by omega,by omega,by omega⟩
          case measure=>simp[intOf];omega
         ·obtain⟨q,hq⟩:∃q:Nat,q=len/8:=⟨_,rfl⟩;have wq:((len:Int)).tdiv 8=(q:Int):=by rw[Int.tdiv_eq_ediv_of_nonneg (by omega)];omega
          have hlen2:len≤60000:=by obtain⟨e1,e2,e3,e4,e5⟩:=Hn.out;omega
          have wqq:IntKind.i64.wrap (q:Int)=(q:Int):=bM (by omega) (by omega)
          clear hq;go_wp2_with (first|(go_at_call 145;(refine(Jo W0 p g o cap xs0 hcmp a b d' _ hS3 hl' hbl hd1' hd2').mono ?_;rintro e Wn ⟨hSn,m,cm,rfl,hm1,hm2⟩;obtain⟨ll,hll⟩:∃x:Nat,x=m-a:=⟨_,rfl⟩;obtain⟨rl,hrl⟩:∃x:Nat,x=b-m:=⟨_,rfl⟩;obtain⟨m1,hm1'⟩:∃x:Nat,x=m+1:=⟨_,rfl⟩;have wll:IntKind.i64.wrap ((m:Int)-(a:Int))=(ll:Int):=(by rw[bM (by omega) (by omega)];omega);have wrl:IntKind.i64.wrap ((b:Int)-(m:Int))=(rl:Int):=(by rw[bM (by omega) (by omega)];omega);have wm1:IntKind.i64.wrap ((m:Int)+1)=(m1:Int):=(by rw[bM (by omega) (by omega)];omega);have Hm1:=Lib.hid hm1';clear hll hrl hm1'))|(go_at_call 118;with_reducible refine(ih a m lim' _ hSn (by omega) (by omega) (by obtain⟨e1,e2,e3,e4,e5⟩:=Hn.out;omega) hlim').mono ?_;rintro e Wo ⟨⟨v,rfl⟩,hSo⟩)|(go_at_call 118;with_reducible refine(ih m1 b lim' _ hSn (by omega) (by have:=Hm1.out;omega) (by have:=Hm1.out;obtain⟨e1,e2,e3,e4,e5⟩:=Hn.out;omega) hlim').mono ?_;rintro e Wo ⟨⟨v,rfl⟩,hSo⟩))
          ·have f1:=Hm1.out;obtain⟨e1,e2,e3,e4,e5⟩:=Hn.out;exact⟨⟨hSo,m1,b,lim',_,_,rfl,rfl,rfl,rfl,rfl,hlim',by omega,by omega,by omega⟩,by simp[intOf];omega⟩
          ·have f1:=Hm1.out;obtain⟨e1,e2,e3,e4,e5⟩:=Hn.out;exact⟨⟨hSo,a,m,lim',_,_,rfl,rfl,rfl,rfl,rfl,hlim',by omega,by omega,by omega⟩,by simp[intOf];omega⟩
end Go.St
end
section
namespace Go.St
open Go Go.Bp Go.RowKit Go.Proofs
theorem Iy(p:Value)(g o cap:Nat)(cur:Array Value)(xs:List (Int×Int))(w:World)(hR:Row w 113 g o cap cur xs)(hcmp:tA w g p)(h0:0<xs.length)(hl:xs.length≤60000):
 Calls Tryz.prog 96 #[.slice (some ⟨g,o,none⟩) xs.length cap,.func (.func 97) #[p] #[]] w (fun e w'=>(∃v,e=.returned v)∧Sw w 113 g o cap xs w'):=by
 have hS:Sw w 113 g o cap xs w:=⟨pK w _,cur,xs,hR,List.Perm.refl _⟩;have wu:IntKind.u64.wrap (xs.length:Int)=(xs.length:Int):=by simp[IntKind.wrap,IntKind.bits,IntKind.signed];omega
 have hb:=qN (y:=xs.length) (n:=16) (by omega)
 go_enter Tryz.func96,Tryz.ntmps96
 go_wp2_with (first|(go_at_call 119;(refine(El xs.length _ h0 (by omega)).mono ?_;rintro e W1 ⟨rfl,hE1⟩;have hS1:=hS.ext hE1))|(go_at_call 118;(refine(Mk w p g o cap xs hcmp hl (xs.length+1) 0 xs.length _ _ hS1 (by omega) (by omega) (by omega) (by omega)).mono ?_;rintro e W2 ⟨⟨v,rfl⟩,hS2⟩)))
 go_end0
 exact⟨⟨_,rfl⟩,hS2⟩
end Go.St
end
section
namespace Go.Bp
open Go.RowKit
structure KeyKind(κ:Type)[DecidableEq κ](kd:TypeDesc)(kv:κ→Value):Prop where
 same:∀a b,Instr.sameNow kd (kv a) (kv b)=some (decide (a=b))
 check:∀(P:Program)(w:World)(t:TypeId)(n:Nat)(b:Bool)(a:κ),P.underlying t=some kd→(Instr.checkKey b (n+1) t (kv a)).run P w=.ok () w
 bits:∀a,Instr.sameBits 10000 (kv a) (kv a)=true
section
variable{κ:Type}[DecidableEq κ]{kd:TypeDesc}{kv:κ→Value}
structure Ents(kv:κ→Value)(es:List MapEntry)(clock:Nat)(m:κ→Option Value):Prop where
 keys:∀e∈es,∃a,e.key=kv a
 born:∀e∈es,e.born<clock
 rises:es.Pairwise fun x y=>x.born<y.born
 look:∀a,m a=none∧(∀e∈es,e.key≠kv a)∨∃i,∃h:i<es.length,es[i].key=kv a∧m a=some es[i].val∧∀j(hj:j<i),es[j].key≠kv a
theorem KeyKind.inj(K:KeyKind κ kd kv){a b:κ}(h:kv a=kv b):a=b:=by
 have h1:=K.same a b;have h2:=K.same a a;rw[←h,h2] at h1;simpa using h1
def cD(kv:κ→Value)(w:World)(g:Nat)(m:κ→Option Value):Prop:=∃es clock,w.heap[g]? =some (.map es clock)∧Ents kv es.toList clock m
end
section
variable{κ:Type}{kv:κ→Value}
theorem cD.ext{w w':World}{g:Nat}{m:κ→Option Value}(h:cD kv w g m)(e:Ext w w'):cD kv w' g m:=by
 obtain⟨es,c,h1,h2⟩:=h;exact⟨es,c,e.heap_some h1,h2⟩
theorem cD.lt{w:World}{g:Nat}{m:κ→Option Value}(h:cD kv w g m):g<w.heap.size:=by
 obtain⟨es,c,h1,_⟩:=h;exact(Array.getElem?_eq_some_iff.1 h1).1
theorem cD.grown{w w':World}{g:Nat}{m:κ→Option Value}{row:Option Nat}(h:cD kv w g m)(hg:w.grownBy w' row)(hne:some g≠row):cD kv w' g m:=by
 have hlt:=h.lt;obtain⟨es,c,h1,h2⟩:=h;exact⟨es,c,(hg.block g hlt hne).trans h1,h2⟩
theorem cD.notblk{w:World}{g b:Nat}{m:κ→Option Value}{t:TypeId}{cs:Array Value}(h:cD kv w g m)(hb:Blk w b t cs):g≠b:=by
 rintro rfl;obtain⟨es,c,h1,_⟩:=h;unfold Blk at hb;rw[hb] at h1;cases h1
theorem cD.made(w:World):cD kv (w.alloc (.map #[] 0)) w.heap.size (fun _=>none):=
 ⟨#[],0,heap_alloc_new w _,⟨by simp,by simp,by simp,fun a=>.inl ⟨rfl,by simp⟩⟩⟩
end
section
variable{κ:Type}[DecidableEq κ]{kd:TypeDesc}{kv:κ→Value}
variable{P:Program}{w:World}{t k e:TypeId}{g:Nat}{m:κ→Option Value}
def upd(m:κ→Option Value)(a:κ)(v:Value):κ→Option Value:=fun b=>if b=a then some v else m b
end
end Go.Bp
end
section
namespace Go.Bp
open Go.RowKit
section
variable{κ:Type}[DecidableEq κ]{kd:TypeDesc}{kv:κ→Value}
variable{P:Program}{w:World}{t k e:TypeId}{g:Nat}{m:κ→Option Value}
theorem Ents.push(K:KeyKind κ kd kv){es:Array MapEntry}{c:Nat}(hE:Ents kv es.toList c m){a:κ}(hn:m a=none)(v:Value):Ents kv (es.push {key:=kv a,val:=v,born:=c}).toList (c+1) (upd m a v):=by
 have hno:∀e∈es.toList,e.key≠kv a:=by
  rcases hE.look a with ⟨_,h3⟩|⟨i,hi,_,h3,_⟩
  ·exact h3
  ·rw[hn] at h3;cases h3
 have hl:(es.push {key:=kv a,val:=v,born:=c}).toList=es.toList++ [{key:=kv a,val:=v,born:=c}]:=by simp
 rw[hl];refine⟨fun e he=> ?_,fun e he=> ?_,?_,fun b=> ?_⟩
 ·rcases List.mem_append.1 he with he|he
  ·exact hE.keys e he
  ·simp at he;exact⟨a,by rw[he]⟩
 ·rcases List.mem_append.1 he with he|he
  ·have:=hE.born e he;omega
  ·simp at he;rw[he];simp
 ·rw[List.pairwise_append];refine⟨hE.rises,by simp,fun x hx y hy=> ?_⟩
  simp at hy;rw[hy];exact hE.born x hx
 ·by_cases hb:b=a
  ·subst hb;right
   refine⟨es.toList.length,by simp,by simp,by simp[upd],fun j hj=> ?_⟩
   rw[List.getElem_append_left (by simpa using hj)]
   exact hno _ (List.getElem_mem _)
  ·rcases hE.look b with ⟨h2,h3⟩|⟨i,hi,h2,h3,h4⟩
   ·left
    refine⟨by simp[upd,hb,h2],fun e he=> ?_⟩
    rcases List.mem_append.1 he with he|he
    ·exact h3 e he
    ·simp at he;rw[he];exact fun h=>hb (K.inj h).symm
   ·right
    refine⟨i,by rw[List.length_append];omega,by rw[List.getElem_append_left hi];exact h2,by rw[List.getElem_append_left hi];simp[upd,hb,h3],fun j hj=> ?_⟩
    rw[List.getElem_append_left (by omega)];exact h4 j hj
theorem Ents.set(K:KeyKind κ kd kv){es:Array MapEntry}{c:Nat}(hE:Ents kv es.toList c m){a:κ}{i:Nat}(hi:i<es.toList.length)(hk:es.toList[i].key=kv a)(hn:∀j(hj:j<i),es.toList[j].key≠kv a)(v:Value):
 Ents kv (es.modify i fun e=>{e with key:=kv a,val:=v}).toList c (upd m a v):=by
 have hlen:(es.modify i fun e=>{e with key:=kv a,val:=v}).toList.length=es.toList.length:=by simp
 have hl:∀j(hj:j<es.toList.length),(es.modify i fun e=>{e with key:=kv a,val:=v}).toList[j]'(by simpa using hj)=if i=j then {es.toList[j] with key:=kv a,val:=v} else es.toList[j]:=by
  intro j hj;rw[Array.getElem_toList,Array.getElem_modify];split<;>simp[Array.getElem_toList]
 have hkey:∀j(hj:j<es.toList.length),((es.modify i fun e=>{e with key:=kv a,val:=v}).toList[j]'(by rw[hlen];exact hj)).key=es.toList[j].key:=by
  intro j hj;rw[hl j hj];split
  ·rename_i e1;subst e1;exact hk.symm
  ·rfl
 have hborn:∀j(hj:j<es.toList.length),((es.modify i fun e=>{e with key:=kv a,val:=v}).toList[j]'(by rw[hlen];exact hj)).born=es.toList[j].born:=by
  intro j hj;rw[hl j hj];split<;>rfl
 refine⟨fun e he=> ?_,fun e he=> ?_,?_,fun b=> ?_⟩
 ·obtain⟨j,hj,rfl⟩:=List.mem_iff_getElem.1 he;rw[hlen] at hj;obtain⟨x,hx⟩:=hE.keys _ (List.getElem_mem hj);exact⟨x,by rw[hkey j hj];exact hx⟩
 ·obtain⟨j,hj,rfl⟩:=List.mem_iff_getElem.1 he;rw[hlen] at hj;rw[hborn j hj];exact hE.born _ (List.getElem_mem hj)
 ·rw[List.pairwise_iff_getElem];intro p q hp hq hpq;rw[hlen] at hp hq;rw[hborn p hp,hborn q hq];exact List.pairwise_iff_getElem.1 hE.rises p q hp hq hpq
 ·by_cases e1:b=a
  ·subst e1;right
   refine⟨i,by rw[hlen];exact hi,by rw[hkey i hi];exact hk,by rw[hl i hi];simp[upd],fun j hj=> ?_⟩
   rw[hkey j (by omega)];exact hn j hj
  ·rcases hE.look b with ⟨h2,h3⟩|⟨q,hq,h2,h3,h4⟩
   ·left
    refine⟨by simp[upd,e1,h2],fun e he=> ?_⟩
    obtain⟨j,hj,rfl⟩:=List.mem_iff_getElem.1 he;rw[hlen] at hj;rw[hkey j hj];exact h3 _ (List.getElem_mem hj)
   ·right
    have hqi:i≠q:=by
     rintro rfl;exact e1 (K.inj (h2.symm.trans hk))
    refine⟨q,by rw[hlen];exact hq,by rw[hkey q hq];exact h2,by rw[hl q hq,if_neg hqi];simp[upd,e1,h3],fun j hj=> ?_⟩
    rw[hkey j (by omega)];exact h4 j hj
end
end Go.Bp
end
section
namespace Go.Bp
open Go.RowKit Go.Proofs
structure KeyFind(κ:Type)(P:Program)(kt:TypeId)(kv:κ→Value):Prop where
 no:∀(w:World)(a:κ)(es:List MapEntry),(∀e∈es,∃b,e.key=kv b)→(∀e∈es,e.key≠kv a)→(Instr.findKey kt (kv a) es).run P w=.ok none w
 yes:∀(w:World)(a:κ)(es:List MapEntry)(j:Nat)(h:j<es.length),(∀e∈es,∃b,e.key=kv b)→es[j].key=kv a→(∀q(hq:q<j),es[q].key≠kv a)→(Instr.findKey kt (kv a) es).run P w=.ok (some (j,es[j].val)) w
 check:∀(w:World)(b:Bool)(a:κ),(Instr.checkKey b 10000 kt (kv a)).run P w=.ok () w
 bits:∀a,Instr.sameBits 10000 (kv a) (kv a)=true
 inj:∀{a b},kv a=kv b→a=b
section
variable{κ:Type}[DecidableEq κ]{kv:κ→Value}
variable{P:Program}{w:World}{t kt e:TypeId}{g:Nat}{m:κ→Option Value}
theorem My(K:KeyFind κ P kt kv)(ht:P.underlying t=some (.map kt e))(h:cD kv w g m)(a:κ){z:Value}(hz:(zeroValue e).run P w=.ok z w):
 (Instr.lookup t (.map (some g)) (kv a) true).run P w=.ok (.tuple #[(m a).getD z,.bool (m a).isSome]) w:=by
 obtain⟨es,c,h1,hE⟩:=h;have hck:=K.check w es.isEmpty a;unfold Instr.lookup;simp only[Sem.run_bind,run_underlying ht,Result.andThen_ok,MapKept.run_getObj_map h1,Sem.run_pure,hck];rcases hE.look a with ⟨h2,h3⟩|⟨i,hi,h2,h3,h4⟩
 ·rw[K.no w a es.toList hE.keys h3,h2];simp[hz]
 ·rw[K.yes w a es.toList i hi hE.keys h2 h4,h3];simp
theorem Kg(K:KeyFind κ P kt kv)(ht:P.underlying t=some (.map kt e))(h:cD kv w g m)(a:κ){z:Value}(hz:(zeroValue e).run P w=.ok z w):
 (Instr.lookup t (.map (some g)) (kv a) false).run P w=.ok ((m a).getD z) w:=by
 obtain⟨es,c,h1,hE⟩:=h;have hck:=K.check w es.isEmpty a;unfold Instr.lookup;simp only[Sem.run_bind,run_underlying ht,Result.andThen_ok,MapKept.run_getObj_map h1,Sem.run_pure,hck];rcases hE.look a with ⟨h2,h3⟩|⟨i,hi,h2,h3,h4⟩
 ·rw[K.no w a es.toList hE.keys h3,h2];simp[hz]
 ·rw[K.yes w a es.toList i hi hE.keys h2 h4,h3];simp
theorem Ents.pushI(inj:∀{a b},kv a=kv b→a=b){es:Array MapEntry}{c:Nat}(hE:Ents kv es.toList c m){a:κ}(hn:m a=none)(v:Value):Ents kv (es.push {key:=kv a,val:=v,born:=c}).toList (c+1) (upd m a v):=by
 have hno:∀e∈es.toList,e.key≠kv a:=by
  rcases hE.look a with ⟨_,h3⟩|⟨i,hi,_,h3,_⟩
  ·exact h3
  ·rw[hn] at h3;cases h3
 have hl:(es.push {key:=kv a,val:=v,born:=c}).toList=es.toList++ [{key:=kv a,val:=v,born:=c}]:=by simp
 rw[hl];refine⟨fun e he=> ?_,fun e he=> ?_,?_,fun b=> ?_⟩
 ·rcases List.mem_append.1 he with he|he
  ·exact hE.keys e he
  ·simp at he;exact⟨a,by rw[he]⟩
 ·rcases List.mem_append.1 he with he|he
  ·have:=hE.born e he;omega
  ·simp at he;rw[he];simp
 ·rw[List.pairwise_append];refine⟨hE.rises,by simp,fun x hx y hy=> ?_⟩
  simp at hy;rw[hy];exact hE.born x hx
 ·by_cases hb:b=a
  ·subst hb;right
   refine⟨es.toList.length,by simp,by simp,by simp[upd],fun j hj=> ?_⟩
   rw[List.getElem_append_left (by simpa using hj)]
   exact hno _ (List.getElem_mem _)
  ·rcases hE.look b with ⟨h2,h3⟩|⟨i,hi,h2,h3,h4⟩
   ·left
    refine⟨by simp[upd,hb,h2],fun e he=> ?_⟩
    rcases List.mem_append.1 he with he|he
    ·exact h3 e he
    ·simp at he;rw[he];exact fun h=>hb (inj h).symm
   ·right
    refine⟨i,by rw[List.length_append];omega,by rw[List.getElem_append_left hi];exact h2,by rw[List.getElem_append_left hi];simp[upd,hb,h3],fun j hj=> ?_⟩
    rw[List.getElem_append_left (by omega)];exact h4 j hj
theorem Ents.setI(inj:∀{a b},kv a=kv b→a=b){es:Array MapEntry}{c:Nat}(hE:Ents kv es.toList c m){a:κ}{i:Nat}(hi:i<es.toList.length)(hk:es.toList[i].key=kv a)(hn:∀j(hj:j<i),es.toList[j].key≠kv a)(v:Value):
 Ents kv (es.modify i fun e=>{e with key:=kv a,val:=v}).toList c (upd m a v):=by
 have hlen:(es.modify i fun e=>{e with key:=kv a,val:=v}).toList.length=es.toList.length:=by simp
 have hl:∀j(hj:j<es.toList.length),(es.modify i fun e=>{e with key:=kv a,val:=v}).toList[j]'(by simpa using hj)=if i=j then {es.toList[j] with key:=kv a,val:=v} else es.toList[j]:=by
  intro j hj;rw[Array.getElem_toList,Array.getElem_modify];split<;>simp[Array.getElem_toList]
 have hkey:∀j(hj:j<es.toList.length),((es.modify i fun e=>{e with key:=kv a,val:=v}).toList[j]'(by rw[hlen];exact hj)).key=es.toList[j].key:=by
  intro j hj;rw[hl j hj];split
  ·rename_i e1;subst e1;exact hk.symm
  ·rfl
 have hborn:∀j(hj:j<es.toList.length),((es.modify i fun e=>{e with key:=kv a,val:=v}).toList[j]'(by rw[hlen];exact hj)).born=es.toList[j].born:=by
  intro j hj;rw[hl j hj];split<;>rfl
 refine⟨fun e he=> ?_,fun e he=> ?_,?_,fun b=> ?_⟩
 ·obtain⟨j,hj,rfl⟩:=List.mem_iff_getElem.1 he;rw[hlen] at hj;obtain⟨x,hx⟩:=hE.keys _ (List.getElem_mem hj);exact⟨x,by rw[hkey j hj];exact hx⟩
 ·obtain⟨j,hj,rfl⟩:=List.mem_iff_getElem.1 he;rw[hlen] at hj;rw[hborn j hj];exact hE.born _ (List.getElem_mem hj)
 ·rw[List.pairwise_iff_getElem];intro p q hp hq hpq;rw[hlen] at hp hq;rw[hborn p hp,hborn q hq];exact List.pairwise_iff_getElem.1 hE.rises p q hp hq hpq
 ·by_cases e1:b=a
  ·subst e1;right
   refine⟨i,by rw[hlen];exact hi,by rw[hkey i hi];exact hk,by rw[hl i hi];simp[upd],fun j hj=> ?_⟩
   rw[hkey j (by omega)];exact hn j hj
  ·rcases hE.look b with ⟨h2,h3⟩|⟨q,hq,h2,h3,h4⟩
   ·left
    refine⟨by simp[upd,e1,h2],fun e he=> ?_⟩
    obtain⟨j,hj,rfl⟩:=List.mem_iff_getElem.1 he;rw[hlen] at hj;rw[hkey j hj];exact h3 _ (List.getElem_mem hj)
   ·right
    have hqi:i≠q:=by
     rintro rfl;exact e1 (inj (h2.symm.trans hk))
    refine⟨q,by rw[hlen];exact hq,by rw[hkey q hq];exact h2,by rw[hl q hq,if_neg hqi];simp[upd,e1,h3],fun j hj=> ?_⟩
    rw[hkey j (by omega)];exact h4 j hj
theorem Gb(K:KeyFind κ P kt kv)(ht:P.underlying t=some (.map kt e))(h:cD kv w g m)(a:κ)(v:Value):
 ∃W,(Instr.mapUpdate t (.map (some g)) (kv a) v).run P w=.ok () W∧cD kv W g (upd m a v)∧w.grownBy W (some g):=by
 obtain⟨es,c,h1,hE⟩:=h;have hlt:=(Array.getElem?_eq_some_iff.1 h1).1;have hck:=K.check w false a
 cases hn:m a with
 |none=>
  have hno:∀e∈es.toList,e.key≠kv a:=by
   rcases hE.look a with ⟨_,h3⟩|⟨i,hi,_,h3,_⟩
   ·exact h3
   ·rw[hn] at h3;cases h3
  refine⟨w.putObj g (.map (es.push {key:=kv a,val:=v,born:=c}) (c+1)),?_,⟨_,_,World.putObj_heap_same hlt,hE.pushI K.inj hn v⟩,grownBy_putObj' w g _⟩;unfold Instr.mapUpdate;simp only[Sem.run_bind,run_underlying ht,Result.andThen_ok,MapKept.run_getObj_map h1,hck];rw[K.no w a es.toList hE.keys hno];simp[MapKept.run_setObj_map _ h1,World.putObj]
 |some u=>
  rcases hE.look a with ⟨h2,_⟩|⟨i,hi,h2,h3,h4⟩
  ·rw[hn] at h2;cases h2
  have hi':i<es.size:=by simpa using hi
  have hkk:es[i].key=kv a:=by simpa using h2
  refine⟨w.putObj g (.map (es.modify i fun e=>{e with key:=kv a,val:=v}) c),?_,⟨_,_,World.putObj_heap_same hlt,hE.setI K.inj hi h2 h4 v⟩,grownBy_putObj' w g _⟩
  unfold Instr.mapUpdate;simp only[Sem.run_bind,run_underlying ht,Result.andThen_ok,MapKept.run_getObj_map h1,hck];rw[K.yes w a es.toList i hi hE.keys h2 h4];have hes:es[i]? =some es[i]:=Array.getElem?_eq_getElem hi';simp only[Sem.run_pure,Result.andThen_ok,hes,Option.map_some,Option.getD_some,hkk,Instr.keyThatStays,K.bits,if_true,Sem.run_bind,MapKept.run_setObj_map _ h1];simp[World.putObj]
end
def kvI(a:Int×Int):Value:=.agg #[.int .i64 a.1,.int .i64 a.2]
theorem Mx{a b:Int×Int}(h:kvI a=kvI b):a=b:=by
 obtain⟨a1,a2⟩:=a;obtain⟨b1,b2⟩:=b;simp only[kvI,Value.agg.injEq] at h;have h2:=congrArg Array.toList h;simp at h2;simp[h2.1,h2.2]
theorem uP{t t0 t1:TypeId}(h:Pair2 t (.int .i64) t0 t1)(w:World)(a:Int×Int):∀(es:List MapEntry)(i:Nat),(∀e∈es,∃b,e.key=kvI b)→(∀e∈es,e.key≠kvI a)→(Instr.findAsking t (kvI a) es i).run Tryz.prog w=.ok none w
 | [],_,_,_=>by simp[Instr.findAsking]
 |e::es,i,hk,hn=>by
  obtain⟨b,hb⟩:=hk e (by simp)
  have hne:¬(a.1=b.1∧a.2=b.2):=fun k=>hn e (by simp) (by rw[hb,show a=b from Prod.ext k.1 k.2])
  have he:(Op.equal t (kvI a) e.key).run Tryz.prog w=.ok false w:=by
   rw[hb];have:=nE h w 9998 a.1 a.2 b.1 b.2;rw[show(9998+2:Nat)=Op.maxDepth from rfl] at this
   simpa [Op.equal,kvI,hne] using this
  unfold Instr.findAsking;simp only[Sem.run_bind,he,Result.andThen_ok,Bool.false_eq_true,if_false];exact uP h w a es (i+1) (fun e he=>hk e (by simp[he])) (fun e he=>hn e (by simp[he]))
theorem sP{t t0 t1:TypeId}(h:Pair2 t (.int .i64) t0 t1)(w:World)(a:Int×Int):∀(es:List MapEntry)(i j:Nat)(hj:j<es.length),(∀e∈es,∃b,e.key=kvI b)→es[j].key=kvI a→(∀q(hq:q<j),es[q].key≠kvI a)→(Instr.findAsking t (kvI a) es i).run Tryz.prog w=.ok (some (i+j,es[j].val)) w
 | [],_,_,hj,_,_,_=>by simp at hj
 |e::es,i,0,hj,hk,he,_=>by
  simp only[List.getElem_cons_zero] at he;have he':(Op.equal t (kvI a) e.key).run Tryz.prog w=.ok true w:=by
   rw[he];have:=nE h w 9998 a.1 a.2 a.1 a.2;rw[show(9998+2:Nat)=Op.maxDepth from rfl] at this
   simpa [Op.equal,kvI] using this
  unfold Instr.findAsking;simp[Sem.run_bind,he']
 |e::es,i,j+1,hj,hk,he,hn=>by
  obtain⟨b,hb⟩:=hk e (by simp)
  have hne:¬(a.1=b.1∧a.2=b.2):=fun k=>hn 0 (by omega) (by simp[hb,show a=b from Prod.ext k.1 k.2])
  have he':(Op.equal t (kvI a) e.key).run Tryz.prog w=.ok false w:=by
   rw[hb];have:=nE h w 9998 a.1 a.2 b.1 b.2;rw[show(9998+2:Nat)=Op.maxDepth from rfl] at this
   simpa [Op.equal,kvI,hne] using this
  unfold Instr.findAsking;simp only[Sem.run_bind,he',Result.andThen_ok,Bool.false_eq_true,if_false];have:=sP h w a es (i+1) j (by simpa using hj) (fun e he=>hk e (by simp[he])) (by simpa using he) (fun q hq=>by have:=hn (q+1) (by omega);simpa using this)
  rw[this];simp[Nat.add_assoc,Nat.add_comm 1 j]
theorem sO{t t0 t1:TypeId}(h:Pair2 t (.int .i64) t0 t1)(w:World)(a:Int×Int)(es:List MapEntry):(Instr.findKey t (kvI a) es).run Tryz.prog w=(Instr.findAsking t (kvI a) es 0).run Tryz.prog w:=by
 unfold Instr.findKey;simp only[Sem.run_bind,run_underlying h.und,Result.andThen_ok]
 cases es with
 |nil=>simp[Instr.findNow,Instr.findAsking]
 |cons e es=>simp[Instr.findNow,Instr.sameNow]
theorem Dn{t t0 t1:TypeId}(h:Pair2 t (.int .i64) t0 t1)(w:World)(b:Bool)(a:Int×Int)(n:Nat):(Instr.checkKey b (n+2) t (kvI a)).run Tryz.prog w=.ok () w:=by
 obtain⟨n0,n1,hf,m0,m1⟩:=h.fld;have hu:=h.und;unfold kvI;rw[show n+2=(n+1)+1 from rfl,Instr.checkKey]
 simp only[Sem.run_bind,run_underlying hu,Result.andThen_ok];generalize Tryz.prog.fieldsOf t=fs at hf⊢;obtain⟨l⟩:=fs;simp only at hf;have hl2:l.length=2:=by have:=congrArg List.length hf;simpa using this
 obtain⟨f0,f1,rfl⟩:∃f0 f1,l=[f0,f1]:=by
  rcases l with _|⟨f0,_|⟨f1,_|⟨f2,l⟩⟩⟩<;>simp at hl2
  exact⟨f0,f1,rfl⟩
 simp only[List.map_cons,List.map_nil,List.cons.injEq,Prod.mk.injEq,and_true] at hf;obtain⟨⟨n0',t0',o0⟩,⟨n1',t1',o1⟩⟩:=hf;simp[n0',n1',m0,m1,t0',t1',o0,o1,part,isAgg,run_underlying h.u0,run_underlying h.u1,Instr.checkKey,Sem.run_bind]
theorem uD{t t0 t1:TypeId}(h:Pair2 t (.int .i64) t0 t1):KeyFind (Int×Int) Tryz.prog t kvI where
 no w a es hk hn:=by rw[sO h];exact uP h w a es 0 hk hn
 yes w a es j hj hk he hn:=by rw[sO h,sP h w a es 0 j hj hk he hn,Nat.zero_add]
 check w b a:=Dn h w b a 9998
 bits a:=by simp[Instr.sameBits,kvI]
 inj:=Mx
end Go.Bp
end
section
namespace Go.St
open Go Go.Bp Go.RowKit Go.Proofs
theorem dP{w:World}{g:Nat}{a b:Value}(h:Blk w g 113 #[a,b]):(loadVar 113 ⟨g,0,none⟩).run Tryz.prog w=.ok (.agg #[a,b]) w:=kZ Tryz.underlying113 aW h rfl
theorem nB{w:World}{g:Nat}{a b:Value}(h:Blk w g 115 #[a,b]):(loadVar 115 ⟨g,0,none⟩).run Tryz.prog w=.ok (.agg #[a,b]) w:=kZ Tryz.underlying115 gT h rfl
theorem vZ(w:World):(zeroValue 115).run Tryz.prog w=.ok (.agg #[.int .i64 0,.int .i64 0]) w:=by
 obtain⟨i,hi0,hz,hs,hb⟩:=info_parts oH;simp[zeroValue,typeInfo,hi0,hz]
def eR(T:Tab):Int×Int→Option Value:=fun x=>(T x.1 x.2).map kvI
def dU(T:Tab)(x:Int×Int):Int×Int:=(T x.1 x.2).getD (0,0)
theorem xA(T:Tab)(x:Int×Int):(eR T x).getD (.agg #[.int .i64 0,.int .i64 0])=.agg #[.int .i64 (dU T x).1,.int .i64 (dU T x).2]:=by
 unfold eR dU
 cases T x.1 x.2<;>rfl
theorem Dk(T:Tab)(x:Int×Int):(eR T x).isSome=(T x.1 x.2).isSome:=by unfold eR;cases T x.1 x.2<;>rfl
theorem Gw(T:Tab)(p s:Int)(c:Int×Int):upd (eR T) (p,s) (kvI c)=eR (put T p s c):=by
 funext x
 unfold upd eR put;by_cases h:x=(p,s)
 ·subst h;simp
 ·have:¬(x.1=p∧x.2=s):=fun e=>h (Prod.ext e.1 e.2)
  rw[if_neg h,if_neg this]
theorem oV{S:World→Prop}{s:Act}{gd:Option (Tmp×Bool)}{d:Option Tmp}{ty:TypeId}{pos:String}{after:Array Edge}{x y:Operand}{gm:Nat}{T:Tab}{p:Int×Int}
 (hM:∀W,S W→cD kvI W gm (eR T))(hx:s.eval x=.map (some gm))(hy:s.eval y=.agg #[.int .i64 p.1,.int .i64 p.2]):
 ∀W,S W→(execOp s.eval (⟨d,.lookup 118 x y false,ty,pos,after,gd⟩:Oper)).run Tryz.prog W=.ok (.value (.agg #[.int .i64 (dU T p).1,.int .i64 (dU T p).2])) W:=by
 intro W h;have:=Kg (uD lK) Tryz.underlying118 (hM W h) p (vZ W);rw[xA] at this;simp[execOp,hx,hy];rw[show(Value.agg #[Value.int .i64 p.1,Value.int .i64 p.2])=kvI p from rfl,this]
 rfl
theorem lX{S:World→Prop}{s:Act}{gd:Option (Tmp×Bool)}{d:Option Tmp}{ty:TypeId}{pos:String}{after:Array Edge}{x y:Operand}{gm:Nat}{T:Tab}{p:Int×Int}
 (hM:∀W,S W→cD kvI W gm (eR T))(hx:s.eval x=.map (some gm))(hy:s.eval y=.agg #[.int .i64 p.1,.int .i64 p.2]):
 ∀W,S W→(execOp s.eval (⟨d,.lookup 118 x y true,ty,pos,after,gd⟩:Oper)).run Tryz.prog W=.ok (.value (.tuple #[.agg #[.int .i64 (dU T p).1,.int .i64 (dU T p).2],.bool (T p.1 p.2).isSome])) W:=by
 intro W h;have:=My (uD lK) Tryz.underlying118 (hM W h) p (vZ W);rw[xA,Dk] at this;simp[execOp,hx,hy];rw[show(Value.agg #[Value.int .i64 p.1,Value.int .i64 p.2])=kvI p from rfl,this]
 rfl
set_option maxHeartbeats 2000000 in
theorem xZ(gj gm:Nat)(T:Tab)(x y:Int×Int)(w:World)(j10:w.cell? ⟨gj,10,none⟩=some (.map (some gm)))(hM:cD kvI w gm (eR T)):
 Calls Tryz.prog 97 #[.pointer (some ⟨gj,0,none⟩),.agg #[.int .i64 x.1,.int .i64 x.2],.agg #[.int .i64 y.1,.int .i64 y.2]] w (fun e w'=>(∃r,e=.returned (.int .i64 r))∧Ext w w'):=by
 have hE:=Ext.refl w;have j10w:=j10;have hMw:=hM;go_enter Tryz.func97,Tryz.ntmps97
 go_wp2_with (first|((with_reducible refine aF (d:=some 4) ?_);intro W4 g4 hE4 hB4 hg4;simp[Act.eval,Act.put,Value.cells] at hB4;(try replace hE:=hE.trans hE4);(try replace hM:=hM.ext hE4);(try replace j10:=hE4.c j10);clear hE4)|((with_reducible refine aF (d:=some 5) ?_);intro W5 g5 hE5 hB5 hg5;simp[Act.eval,Act.put,Value.cells] at hB5;(try replace hE:=hE.trans hE5);(try replace hM:=hM.ext hE5);(try replace hB4:=hB4.ext hE5);(try replace j10:=hE5.c j10);clear hE5))
 obtain⟨Wb,hWb⟩:∃W,W5=W:=⟨_,rfl⟩;have hX:=Ext.todrew (Ext.refl W5);obtain⟨c1,hc1⟩:∃c,dU T x=c:=⟨_,rfl⟩;obtain⟨c2,hc2⟩:∃c,dU T y=c:=⟨_,rfl⟩;refine aR (.take 0 (.take 1 (.take 2 (.take 3 (.take 4 (.take 5 (.take 6 (.take 7 (.take 8 (.take 9 (.take 10 (.take 11 (.two 12 (.one 13 (.one 14 (.one 15 .nil))) 13 (.one 12 (.one 14 (.one 15 .nil)))))))))))))))) (fun w'=>Ext W5 w') ?_ (fun hHd=> ?_)
 ·assumption
 repeat' first|((with_reducible refine aB ?_);(first|((with_reducible refine aB (i:=3) ?_);refine tk (v:=.map (some gm)) ?_ hHd ?_;(·exact aA (by rfl) (rl Tryz.underlying118 j10)))|((with_reducible refine aB (i:=4) ?_);refine tk (v:=.agg #[.int .i64 x.1,.int .i64 x.2]) ?_ hHd ?_;(·exact aA (by rfl) (fun W h=>dP (hB4.ext h))))|((with_reducible refine aB (i:=5) ?_);refine tk (v:=.agg #[.int .i64 c1.1,.int .i64 c1.2]) ?_ hHd ?_;(·exact(by rw[←hc1];exact oV (fun W h=>hM.ext h) (by rfl) (by rfl))))|((with_reducible refine aB (i:=9) ?_);refine tk (v:=.map (some gm)) ?_ hHd ?_;(·exact aA (by rfl) (rl Tryz.underlying118 j10)))|((with_reducible refine aB (i:=10) ?_);refine tk (v:=.agg #[.int .i64 y.1,.int .i64 y.2]) ?_ hHd ?_;(·exact aA (by rfl) (fun W h=>dP (hB5.ext h))))|((with_reducible refine aB (i:=11) ?_);refine tk (v:=.agg #[.int .i64 c2.1,.int .i64 c2.2]) ?_ hHd ?_;(·exact(by rw[←hc2];exact oV (fun W h=>hM.ext h) (by rfl) (by rfl))))|(refine tk (v:= ?_) ?_ hHd ?_;rotate_left;(·(intro wq hSw;(try dsimp only at hSw);go_simp;(try with_reducible rfl)))));(try simp only[pS]))|((with_reducible refine bC ?_);refine aQ (by simp only[gS];rfl) ?_)|((with_reducible refine fQ ?_);refine dI (by simp only[gS];rfl) (by simp only[gS];rfl) ?_ ?_)|((with_reducible refine aH (d:=some 7) ?_);(((with_reducible refine aS (d:=some 7) oH ?_);intro W7 g7 hE7 hB7 hg7;simp[Value.cells] at hB7;(try have hn87:=hB8.lt);have hl7:=Nat.le_trans hX.size hg7;replace hX:=hX.trans hE7;(try replace hB8:=hB8.ext hE7);(try have hn78:g7≠g8:=by omega))))|((with_reducible refine aH (d:=some 8) ?_);(((with_reducible refine aS (d:=some 8) oH ?_);intro W8 g8 hE8 hB8 hg8;simp[Value.cells] at hB8;(try have hn87:=hB7.lt);have hl8:=Nat.le_trans hX.size hg8;replace hX:=hX.trans hE8;(try replace hB7:=hB7.ext hE8);(try have hn78:g7≠g8:=by omega))))|((with_reducible refine aH (d:=none) ?_);((first|((with_reducible refine aK (t:=115) (e:=115) (g:=g7) (off:=0) (n:=2) (v:=.agg #[.int .i64 c1.1,.int .i64 c1.2]) ?_ ?_ hB7 gT ?_ ?_ ?_ ?_);rfl;rfl;rfl;(simp[Value.cells]);(simp[Value.cells,Value.oneCell']);intro Ws hBs hgrs;simp[aI,Value.cells] at hBs;replace hX:=aD hX hgrs hl7;replace hB8:=hB8.grown hgrs (fun e=>hn78 (Option.some.inj e).symm))|((with_reducible refine aK (t:=115) (e:=115) (g:=g8) (off:=0) (n:=2) (v:=.agg #[.int .i64 c2.1,.int .i64 c2.2]) ?_ ?_ hB8 gT ?_ ?_ ?_ ?_);rfl;rfl;rfl;(simp[Value.cells]);(simp[Value.cells,Value.oneCell']);intro Wt hBt hgrt;simp[aI,Value.cells] at hBt;replace hX:=aD hX hgrt hl8;replace hBs:=hBs.grown hgrt (fun e=>hn78 (Option.some.inj e))))))|((with_reducible refine bB ?_);clear hHd;refine aJ ?_ (fun hHd=> ?_);(·assumption);(try simp only[pS]))|(with_reducible refine aG ?_)
 all_goals
  have s0:=hBs.cell 0;have s1:=hBs.cell 1;have s2:=hBt.cell 0;have s3:=hBt.cell 1;simp at s0 s1 s2 s3;have hXw:=Ext.trans hE hX;clear hBs hBt hX hgrs hgrt hB4 hB5 hM j10 hMw j10w hc1 hc2 hE;go_wp2
  have hY:=Ext.todrew (Ext.refl Wt);refine aR (.take 0 (.take 1 (.take 2 (.take 3 (.take 5 (.take 6 (.take 7 (.take 8 (.one 4 (.one 9 (.one 10 (.one 11 (.take 12 .nil))))))))))))) (fun w'=>Ext Wt w') ?_ (fun hHd=> ?_)
  ·assumption
  repeat' first|((with_reducible refine aB ?_);(first|((with_reducible refine aB (i:=1) ?_);refine tk (v:=.int .i64 c1.1) ?_ hHd ?_;(·exact aA (by rfl) (rl Tryz.underlying3 s0)))|((with_reducible refine aB (i:=3) ?_);refine tk (v:=.int .i64 c2.1) ?_ hHd ?_;(·exact aA (by rfl) (rl Tryz.underlying3 s2)))|((with_reducible refine aB (i:=6) ?_);refine tk (v:=.int .i64 c1.2) ?_ hHd ?_;(·exact aA (by rfl) (rl Tryz.underlying3 s1)))|((with_reducible refine aB (i:=8) ?_);refine tk (v:=.int .i64 c2.2) ?_ hHd ?_;(·exact aA (by rfl) (rl Tryz.underlying3 s3)))|(refine tk (v:= ?_) ?_ hHd ?_;rotate_left;(·(intro wq hSw;(try dsimp only at hSw);go_simp;(try with_reducible rfl)))));(try simp only[pS]))|((with_reducible refine bC ?_);refine aQ (by simp only[gS];rfl) ?_)|((with_reducible refine aH (d:=some 25) ?_);((refine bD (by rfl) (nF c1.1 c2.1 _) (by go_simp) ?_;rintro e W25 ⟨rfl,hE25⟩;refine⟨_,rfl,?_⟩;replace hY:=hY.trans hE25)))|((with_reducible refine aH (d:=some 30) ?_);((refine bD (by rfl) (nF c1.2 c2.2 _) (by go_simp) ?_;rintro e W30 ⟨rfl,hE30⟩;refine⟨_,rfl,?_⟩;replace hY:=hY.trans hE30)))|((with_reducible refine aH (d:=some 31) ?_);(((with_reducible refine iZ (d:=some 31) (n0:=yH c1.1 c2.1) (n1:=yH c1.2 c2.2) ?_ ?_ ?_);rfl;rfl;intro W31 g31 hE31 hB31 hg31;replace hY:=hY.trans hE31;have hI31:=cO hB31)))|((with_reducible refine aH (d:=some 32) ?_);((refine bD (by rfl) (Gx _ _ _ hI31) (by go_simp) ?_;rintro e W32 ⟨rfl,hE32⟩;refine⟨_,rfl,?_⟩;replace hY:=hY.trans hE32)))|((with_reducible refine bB ?_);clear hHd;refine aJ ?_ (fun hHd=> ?_);(·assumption);(try simp only[pS]))|(with_reducible refine aG ?_)
  go_wp2
  go_ret
  exact⟨⟨_,rfl⟩,Ext.trans hXw hY⟩
end Go.St
end
section
namespace Go.St
open Go Go.Bp Go.RowKit Go.Proofs
theorem xC(v:Value)(xs:List Int)(s:Int)(w:World)(h:bG w v xs):Calls Tryz.prog 100 #[v,.int .i64 s] w (dB w (decide (s∈xs))):=by
 refine(vW v xs s w h).mono ?_;rintro e w' ⟨rfl,rfl⟩;refine dB.of ?_ (Ext.refl _);rw[Bool.eq_iff_iff];simp
theorem pA(gj:Nat)(w:World):Calls Tryz.prog 64 #[.pointer (some ⟨gj,0,none⟩)] w (fun e w'=>∃gb,e=.returned (.func (.func 99) #[] #[.pointer (some ⟨gb,0,none⟩)])∧Ext w w'∧w.heap.size≤gb∧Blk w' gb 109 #[.pointer (some ⟨gj,0,none⟩)]):=by
 go_enter Tryz.func64,Tryz.ntmps64
 go_wp2_with (first|((with_reducible refine aF (d:=some 1) ?_);intro W1 g1 hE1 hB1 hg1;simp[Act.eval,Act.put,Value.cells] at hB1))
 go_ret
 exact⟨g1,rfl,hE1,hg1,hB1⟩
theorem uT:∀(args:Array Value)(W:World),(callFunc 99 args).run Tryz.prog W=.ok (.enter 99 args) W:=enters_of Tryz.func99 (by kernel_rfl) rfl
def iO(x:Step):Array Value:=#[.agg #[.int .i64 x.st,.bool x.bk]]
theorem lV(t:Town)(k:Task)(n:Nat):t.stepsTo k (n+1)=t.stepsTo k n++if(n:Int)∈k.closed then [] else⟨(n:Int),false⟩::if(t.at_ n).both=true then [⟨(n:Int),true⟩] else []:=rfl
theorem rW(t:Town)(k:Task):∀(n d:Nat),∃l,t.stepsTo k (n+d)=t.stepsTo k n++l
 |n,0=>⟨[],by simp⟩
 |n,d+1=>by
  obtain⟨l,hl⟩:=rW t k n d;exact⟨l++_,by rw[show n+(d+1)=(n+d)+1 by omega,lV,hl,List.append_assoc]⟩
theorem xQ(t:Town)(k:Task){n:Nat}(hn:n+1≤t.streets.length){pre l:List Step}(h:t.stepsTo k (n+1)=pre++l):∃m,pre=(t.stepsAll k).take m:=by
 obtain⟨r,hr⟩:=rW t k (n+1) (t.streets.length-(n+1));refine⟨pre.length,?_⟩;unfold Town.stepsAll;rw[show t.streets.length=n+1+(t.streets.length-(n+1)) by omega,hr,h,List.append_assoc,List.take_left]
theorem stepsTo_len(t:Town)(k:Task):∀n,(t.stepsTo k n).length≤2*n
 |0=>by simp[Town.stepsTo]
 |n+1=>by
  have:=stepsTo_len t k n;rw[lV,List.length_append];by_cases h1:(n:Int)∈k.closed
  ·rw[if_pos h1];simp;omega
  ·rw[if_neg h1];by_cases h2:(t.at_ n).both=true
   ·rw[if_pos h2];simp;omega
   ·rw[if_neg h2];simp;omega
def Se(gb gj:Nat)(pv sv tv xv cv iv mv:Value)(t:Town)(k:Task)(W:World):Prop:=Blk W gb 109 #[.pointer (some ⟨gj,0,none⟩)]∧JobAt W gj pv sv tv xv cv iv mv t k
set_option maxHeartbeats 4000000 in
theorem oZ(gb gj:Nat)(pv sv tv xv cv iv mv:Value)(t:Town)(k:Task)(hk:Town.TaskOk t k):
 Qn 82 Tryz.prog 99 #[.pointer (some ⟨gb,0,none⟩)] iO (fun pre x=>∃m,pre++ [x]=(t.stepsAll k).take m) (Se gb gj pv sv tv xv cv iv mv t k) (fun xs=>xs=t.stepsAll k) (fun pre=>∃m,pre=(t.stepsAll k).take m) 100:=by
 intro l J Jx W hJs hJxs hD hY hJ;show Calls Tryz.prog 99 #[.func (.yield l) #[] #[],.pointer (some ⟨gb,0,none⟩)] W _
 obtain⟨db,dj⟩:=hD _ _ hJ;obtain⟨A,cp,rfl,h1,h2,h4⟩:=dj.town.streets;unfold maxLen at h2;have hst:=hk.ok.st;have cb:=db.cell 0;have j3:=dj.blk.cell 3;simp at cb j3;have HY:=Lib.hid hY;have HD:=Lib.hid hD;have HJs:=Lib.hid hJs;have HK:=Lib.hid hk;clear db dj hD hY hk;go_enter Tryz.func99,Tryz.ntmps99
 obtain⟨hc,hChid⟩:∃f:Nat→Array Oper→Bool→Go.Code,f=Go.Code.region:=⟨_,rfl⟩;rw[show Go.Code.region 4=hc 4 by rw[hChid]]
 have HCh:=Lib.hid hChid;clear hChid;go_wp2
 go_loopw [12] (fun i wr=>W.heap.size≤wr.heap.size∧∃n:Nat,n≤t.streets.length∧i=.int .i64 n∧J (t.stepsTo k n) wr) (fun i _=>t.streets.length-(intOf i).toNat)
 case atStart=>exact⟨Nat.le_refl _,0,by omega,rfl,hJ⟩
 case round=>
  obtain⟨hsz,n,hn,rfl,hJr⟩:=hrel;clear hJ cb j3;by_cases hlt:n<t.streets.length
  ·obtain⟨ad,rfl,_⟩:=h4 (by omega)
   clear h4;obtain⟨db,dj⟩:=HD.out _ _ hJr;obtain⟨A5,cp5,e5,_,_,h45⟩:=dj.town.streets;simp only[Value.slice.injEq] at e5;obtain⟨rfl,-,rfl⟩:=e5;obtain⟨ad5,e5,hc5⟩:=h45 (by omega)
   injection e5 with e5;subst e5
   obtain⟨ssv,hs⟩:=hc5 n hlt;have hC:=dj.closed;have cb0:=db.cell 0;have j80:=dj.blk.cell 8;simp at cb0 j80;have Hlen:=Lib.hid (stepsTo_len t k n);have Hsucc:=lV t k n;rw[Town.at_eq hlt] at Hsucc;have Hpart:=Lib.hid (fun pre l=>xQ t k (n:=n) (pre:=pre) (l:=l) (by omega))
   obtain⟨s,hst'⟩:∃s,t.streets[n]=s:=⟨_,rfl⟩;rw[hst'] at hs Hsucc;have hE:=Ext.refl wr;have hls:=eA hs;obtain⟨_,As,cs,rfl,_⟩:=hs;have z1:(n:Int)<(t.streets.length:Int):=by omega
   clear h45 hc5 hst' db dj;by_cases hcl:(n:Int)∈k.closed
   ·rw[if_pos hcl,List.append_nil] at Hsucc;have qd:decide ((n:Int)∈k.closed)=true:=by simp[hcl]
    have Hs:=Lib.hid Hsucc;clear Hsucc hcl;go_wp2_with (first|(((with_reducible refine aC (d:=some 16) (hl:=hls) ?_ ?_);rfl))|((with_reducible refine aS (d:=some 4) sY ?_);intro W4 g4 hE4 hB4 hg4;have hg40:=Nat.le_trans hE.size hg4;simp[Value.cells] at hB4;(try replace hE:=hE.trans hE4))|(((with_reducible refine aK (t:=87) (e:=87) (g:=g4) (off:=0) (n:=7) (v:=.agg #[.int .i64 s.a,.int .i64 s.b,.int .i64 s.metres,.int .i64 s.lo,.int .i64 s.hi,.bool s.both,.slice As s.shows.length cs]) ?_ ?_ hB4 fT ?_ ?_ ?_ ?_);rfl;rfl;rfl;(simp[Value.cells]);(simp[Value.cells,Value.oneCell']);intro Ws hBs hgrs;simp[aI,Value.cells] at hBs;replace hE:=aD hE hgrs hg40;have cb:=hE.c cb0;have j8:=hE.c j80))|(go_at_call 100;((with_reducible refine(xC _ _ _ _ (by exact hC.ext hE)).mono ?_);rintro e WcC ⟨rfl,hEcC⟩;(try replace hE:=hE.trans hEcC);(try replace hBs:=hBs.ext hEcC);rw[qd])))
    go_roundw
    case rel=>exact⟨Nat.le_trans hsz hE.size,n+1,by omega,by go_num,by rw[Hs.out];exact HJs.out _ _ _ hJr hE⟩
    case measure=>simp[intOf];omega
   ·rw[if_neg hcl] at Hsucc;have qd:decide ((n:Int)∈k.closed)=false:=by simp[hcl]
    have Hs:=Lib.hid Hsucc;clear Hsucc hcl;go_wp2_with (first|(((with_reducible refine aC (d:=some 16) (hl:=hls) ?_ ?_);rfl))|((with_reducible refine aS (d:=some 4) sY ?_);intro W4 g4 hE4 hB4 hg4;have hg40:=Nat.le_trans hE.size hg4;simp[Value.cells] at hB4;(try replace hE:=hE.trans hE4))|(((with_reducible refine aK (t:=87) (e:=87) (g:=g4) (off:=0) (n:=7) (v:=.agg #[.int .i64 s.a,.int .i64 s.b,.int .i64 s.metres,.int .i64 s.lo,.int .i64 s.hi,.bool s.both,.slice As s.shows.length cs]) ?_ ?_ hB4 fT ?_ ?_ ?_ ?_);rfl;rfl;rfl;(simp[Value.cells]);(simp[Value.cells,Value.oneCell']);intro Ws hBs hgrs;simp[aI,Value.cells] at hBs;replace hE:=aD hE hgrs hg40;have cb:=hE.c cb0;have j8:=hE.c j80))|(go_at_call 100;((with_reducible refine(xC _ _ _ _ (by exact hC.ext hE)).mono ?_);rintro e WcC ⟨rfl,hEcC⟩;(try replace hE:=hE.trans hEcC);(try replace hBs:=hBs.ext hEcC);rw[qd])))
    have hJ4:=HJs.out _ _ _ hJr hE;have hsz4:=Nat.le_trans hsz hE.size;have hg4W:W.heap.size≤g4:=Nat.le_trans hsz hg4;have hp1:(t.stepsTo k n).length<100:=by have:=Hlen.out;omega
    have hp2:(t.stepsTo k n++([⟨(n:Int),false⟩]:List Step)).length<100:=by have:=Hlen.out;simp;omega
    have hG1:∃m,t.stepsTo k n++ [⟨(n:Int),false⟩]=(t.stepsAll k).take m:=Hpart.out _ _ (by rw[Hs.out,←List.singleton_append,List.append_assoc])
    have hG2:s.both=true→∃m,t.stepsTo k n++ [⟨(n:Int),false⟩]++ [⟨(n:Int),true⟩]=(t.stepsAll k).take m:=fun hb=>Hpart.out _ [] (by rw[Hs.out,hb];simp)
    have hY1:YieldAt Fence.wide 0 Tryz.prog l #[.agg #[.int .i64 (n:Int),.bool false]] WcC fun e W'=>
     (e=.returned (.bool true)∧J (t.stepsTo k n++ [⟨(n:Int),false⟩]) W'∧W.heap.size≤W'.heap.size∧W'.cell? ⟨g4,5,none⟩=some (.bool s.both)∧
      (s.both=true→YieldAt Fence.wide 0 Tryz.prog l #[.agg #[.int .i64 (n:Int),.bool true]] W' fun e W''=>
       (e=.returned (.bool true)∧J (t.stepsTo k n++ [⟨(n:Int),false⟩]++ [⟨(n:Int),true⟩]) W''∧W.heap.size≤W''.heap.size)∨(e=.returned (.bool false)∧Jx (t.stepsTo k n++ [⟨(n:Int),false⟩]++ [⟨(n:Int),true⟩]) W'')))∨
     (e=.returned (.bool false)∧Jx (t.stepsTo k n++ [⟨(n:Int),false⟩]) W'):=by
     refine YieldAt.mono (HY.out _ ⟨(n:Int),false⟩ _ hJ4 hG1 hp1 hsz4) fun e W' h=> ?_
     rcases h with ⟨h1,h2,h3⟩|h
     ·have hs5:=Nat.le_trans hsz4 h3.size;have c5:=(h3.blk hg4W hBs (by decide)).cell 5
      simp at c5;refine .inl ⟨h1,h2,hs5,c5,fun hbb=>YieldAt.mono (HY.out _ ⟨(n:Int),true⟩ _ h2 (hG2 hbb) hp2 hs5) fun e W'' h=> ?_⟩
      rcases h with ⟨h1,h2,h3⟩|h
      ·exact .inl ⟨h1,h2,Nat.le_trans hs5 h3.size⟩
      ·exact .inr h
     ·exact .inr h
    clear hBs cb j8 cb0 j80 hC hJr hJ4 hsz hsz4 hE hls qd hp1 hp2 hG1 hG2;obtain⟨b,hb⟩:∃b,s.both=b:=⟨_,rfl⟩;rw[hb] at hY1 Hs;clear hb;have hChid:=HCh.out;clear HCh;subst hChid;obtain⟨fn1,tm1,as1,bd1,hy1,hR1⟩:=hY1;refine(wpIn_wide (n:=1)).1 ?_;have hm1:True:=trivial
    cases b
    ·gi_wp2_with (first|(clear hm1;refine hR1.mono ?_;clear hR1;rintro e W5 (⟨rfl,hJ5,hs5,c5,-⟩|⟨rfl,hJx5⟩)))
     all_goals(try(refine⟨fun _ h=>(by cases h),?_⟩;gi_wp2))
     all_goals(try go_wp2)
     all_goals
      first
      |(go_roundw;(case rel=>exact⟨hs5,n+1,by omega,by go_num,by rw[Hs.out];simpa using hJ5⟩);(case measure=>simp[intOf];omega))
      |exact⟨⟨hs5,n+1,by omega,by go_num,by rw[Hs.out];simpa using hJ5⟩,by simp[intOf];omega⟩
      |(refine bodyPost_ret (results_none rfl _ _ _) ?_ ?_;rfl;exact⟨⟨_,rfl⟩,.inr ⟨_,Hpart.out _ [] (by rw[Hs.out];simp),hJx5⟩⟩)
      |exact absurd ‹some undef=some (Value.bool _)› (by simp[undef])
    ·gi_wp2_with (first|(clear hm1;refine hR1.mono ?_;clear hR1;rintro e W5 (⟨rfl,hJ5,hs5,c5,hY2⟩|⟨rfl,hJx5⟩);(try obtain⟨fn2,tm2,as2,bd2,hy2,hR2⟩:=hY2 rfl))|(refine hR2.mono ?_;clear hR2;rintro e W6 (⟨rfl,hJ6,hs6⟩|⟨rfl,hJx6⟩)))
     all_goals(try(refine⟨fun _ h=>(by cases h),?_⟩;gi_wp2))
     all_goals(try go_wp2)
     all_goals
      first
      |(go_roundw;(case rel=>exact⟨hs6,n+1,by omega,by go_num,by rw[Hs.out];simpa using hJ6⟩);(case measure=>simp[intOf];omega))
      |exact⟨⟨hs6,n+1,by omega,by go_num,by rw[Hs.out];simpa using hJ6⟩,by simp[intOf];omega⟩
      |(refine bodyPost_ret (results_none rfl _ _ _) ?_ ?_;rfl;exact⟨⟨_,rfl⟩,.inr ⟨_,Hpart.out _ [] (by rw[Hs.out];simp),hJx6⟩⟩)
      |(refine bodyPost_ret (results_none rfl _ _ _) ?_ ?_;rfl;exact⟨⟨_,rfl⟩,.inr ⟨_,Hpart.out _ [⟨(n:Int),true⟩] (by rw[Hs.out];simp),hJx5⟩⟩)
      |exact absurd ‹some undef=some (Value.bool _)› (by simp[undef])
  ·obtain rfl:n=t.streets.length:=by omega
   clear h4;go_wp2
   go_end0
   exact⟨⟨_,rfl⟩,.inl ⟨_,rfl,hJr⟩⟩
end Go.St
end
section
namespace Go.St
open Go Go.Bp Go.RowKit Go.Proofs
section
variable{P:Program}{ops:Array Oper}{Q:Exit→Act→World→Prop}{a:Act}{w:World}{rest:List Oper}
variable{d:Option Tmp}{ty:TypeId}{pos:String}{after:Array Edge}
theorem On{o:Oper}(hg:o.guard=none){v:Value}{W:World}(h:(execOp a.eval o).run P w=.ok (.value v) W)(k:wpList P ops Q rest (a.put o.dst v) W):wpList P ops Q (o::rest) a w:=
 wpList_plain hg fun K hK=>by unfold Oper.wp;rw[h];exact hK _ _ k
theorem Pq{o:Oper}(hg:o.guard=none){W:World}(h:(execOp a.eval o).run P w=.ok .skip W)(k:wpList P ops Q rest (a.put o.dst undef) W):wpList P ops Q (o::rest) a w:=
 wpList_plain hg fun K hK=>by unfold Oper.wp;rw[h];exact hK _ _ k
theorem Cg{t:TypeId}(k:∀W g,Ext w W→cD kvI W g (fun _=>none)→w.heap.size≤g→wpList P ops Q rest (a.put d (.map (some g))) W):
 wpList P ops Q (⟨d,.makeMap t none,ty,pos,after,none⟩::rest) a w:=by
 refine On rfl (v:=.map (some w.heap.size)) (W:=w.alloc (.map #[] 0)) ?_ (k _ _ (Ext.ofAlloc _ _) (cD.made w) (Nat.le_refl _));simp[execOp,Instr.makeMap,newObj,Sem.run,Result.andThen]
theorem Ei{s x:Operand}{B g:Nat}{v:Value}{xs:List Step}{y:Step}(hs:a.eval s=v)(hO:OwnAt w B 82 2 v xs.length (dJ xs))(hx:a.eval x=.slice (some ⟨g,0,none⟩) 1 1)(hb:Blk w g 82 #[.int .i64 y.st,.bool y.bk])(hlen:xs.length≤1000000000)(hB:B≤w.heap.size)
 (k:∀v' W,OwnAt W B 82 2 v' (xs++ [y]).length (dJ (xs++ [y]))→w.grownBy W v.ownBlock→(∃g,v'.ownBlock=some g∧(v.ownBlock=some g∨w.heap.size≤g))→wpList Tryz.prog ops Q rest (a.put d v') W):
 wpList Tryz.prog ops Q (⟨d,.call {callee:=.builtin .append,args:=#[s,x],argTypes:=#[32,32]},ty,pos,after,none⟩::rest) a w:=by
 obtain⟨i,hi,hz,hs1,hb1⟩:=info_parts jK;refine lE w rfl s x 32 rfl B 82 i _ 2 16 Tryz.underlying32 hi hz hs1 hb1 rfl (by decide) v xs.length (dJ xs) hs hO ⟨g,0,none⟩ 1 1 [.int .i64 y.st,.bool y.bk] hx rfl (fun j u hu=>hb.cells j u hu) (by simp[Value.oneCell']) (by decide) (by unfold maxLen;omega) (by omega) hB ?_
 intro v' W h1 h2 h3;refine k v' W ?_ h2 h3;have e:dJ (xs++ [y])=dJ xs++ [.int .i64 y.st,.bool y.bk]:=by rw[rI];rfl
 rw[e,List.length_append];exact h1
end
structure IntoI(B:Nat)(rows:Nat→List Step)(gi:Nat)(vs:List Value)(W:World):Prop where
 blk:Blk W gi 32 vs.toArray
 own:∀q(h:q<vs.length),OwnAt W B 82 2 vs[q] (rows q).length (dJ (rows q))
 sep:∀q q'(h:q<vs.length)(h':q'<vs.length),q≠q'→vs[q].ownBlock=none∨vs[q].ownBlock≠vs[q'].ownBlock
section
variable{B gi:Nat}{rows:Nat→List Step}{vs:List Value}{W W':World}
theorem IntoI.ext(h:IntoI B rows gi vs W)(e:Ext W W'):IntoI B rows gi vs W':=⟨h.blk.ext e,fun q hq=>(h.own q hq).ext e,h.sep⟩
theorem IntoI.step{q:Nat}{x:Step}{v':Value}{W1 W2 W3:World}(h:IntoI B rows gi vs W)(hq:q<vs.length)(hE:Ext W W1)(hg1:W1.grownBy W2 vs[q].ownBlock)(hO:OwnAt W2 B 82 2 v' (rows q++ [x]).length (dJ (rows q++ [x])))
 (hn:∃g,v'.ownBlock=some g∧(vs[q].ownBlock=some g∨W1.heap.size≤g))(hg2:W2.grownBy W3 (some gi))(hB:Blk W3 gi 32 (vs.set q v').toArray)(hBi:Blk W2 gi 32 vs.toArray):IntoI B (fun p=>if p=q then rows q++ [x] else rows p) gi (vs.set q v') W3:=by
 have hlt:∀p(hp:p<vs.length)g,vs[p].ownBlock=some g→g<W1.heap.size:=fun p hp g e=>Nat.lt_of_lt_of_le ((h.own p hp).lt g e).2 hE.size
 refine⟨hB,fun p hp=> ?_,fun p p' hp hp' hne=> ?_⟩
 ·have hp1:p<vs.length:=by simpa using hp
  by_cases e:p=q
  ·subst e;simp only[List.getElem_set_self,if_true];exact hO.kept hg2 (hO.ne hBi (by decide))
  ·rw[List.getElem_set_ne (Ne.symm e)];simp only[e,if_false];have h1:=(h.own p hp1).ext hE;have h2:=h1.kept hg1 (h.sep p q hp1 hq e);exact h2.kept hg2 (h2.ne hBi (by decide))
 ·have hp1:p<vs.length:=by simpa using hp
  have hp1':p'<vs.length:=by simpa using hp'
  obtain⟨g,hg,hor⟩:=hn;by_cases e:p=q
  ·subst e;rw[List.getElem_set_self,List.getElem_set_ne hne,hg];right
   intro e2;rcases hor with h1|h1
   ·rcases h.sep p p' hp1 hp1' hne with h2|h2
    ·rw[h2] at h1;cases h1
    ·exact h2 (h1.trans e2)
   ·have:=hlt p' hp1' g e2.symm;omega
  ·rw[List.getElem_set_ne (Ne.symm e)];by_cases e':p'=q
   ·subst e';rw[List.getElem_set_self,hg]
    cases hv:vs[p].ownBlock with
    |none=>exact .inl rfl
    |some k=>
     right
     intro e2;injection e2 with e2
     subst e2;rcases hor with h1|h1
     ·rcases h.sep p p' hp1 hp1' hne with h2|h2
      ·rw[hv] at h2;cases h2
      ·exact h2 (hv.trans h1.symm)
     ·have:=hlt p hp1 k hv;omega
   ·rw[List.getElem_set_ne (Ne.symm e')];exact h.sep p p' hp1 hp1' hne
theorem IntoI.congr{rows':Nat→List Step}(h:IntoI B rows gi vs W)(hr:∀q,q<vs.length→rows' q=rows q):IntoI B rows' gi vs W:=⟨h.blk,fun q hq=>by rw[hr q hq];exact h.own q hq,h.sep⟩
theorem Blk.abide{g:Nat}{t:TypeId}{cs:Array Value}{row:Option Nat}{B:Nat}(h:Blk W g t cs)(hg:W.grownBy W' row)(hr:∀r,row=some r→B≤r∧∃o:Obj,W.heap[r]? =some o∧o.isCells=false):Blk W' g t cs:=by
 refine h.grown hg (fun e=> ?_)
 obtain⟨_,o,ho,hc⟩:=hr g e.symm;unfold Blk at h;rw[h] at ho;injection ho with ho;subst ho;cases hc
theorem IntoI.abide{row:Option Nat}{C:Nat}(h:IntoI B rows gi vs W)(hg:W.grownBy W' row)(hr:∀r,row=some r→C≤r∧∃o:Obj,W.heap[r]? =some o∧o.isCells=false):IntoI B rows gi vs W':=by
 refine⟨Blk.abide h.blk hg hr,fun q hq=>(h.own q hq).kept hg ?_,h.sep⟩
 rcases(h.own q hq).2 with ⟨e,_⟩|⟨g,o,cap,cur,e,_,hgg,_⟩
 ·rw[e];exact .inl rfl
 ·right
  rw[e];intro e2;obtain⟨_,o',ho,hc⟩:=hr g e2.symm;rw[hgg] at ho;injection ho with ho;subst ho;cases hc
end
theorem _root_.Go.Bp.OwnAt.blk_ne{w:World}{B:Nat}{e t:TypeId}{size n g:Nat}{v:Value}{xs:List Value}{cs:Array Value}(h:OwnAt w B e size v n xs)(hb:Blk w g t cs)(ht:t≠e):some g≠v.ownBlock:=by
 intro he;rcases h.ne hb ht with h1|h1
 ·rw[h1] at he;cases he
 ·exact h1 he.symm
theorem _root_.Go.Bp.OwnAt.row{w:World}{B:Nat}{e:TypeId}{size n:Nat}{v:Value}{xs:List Value}(h:OwnAt w B e size v n xs):∀g,v.ownBlock=some g→B≤g∧∃cs fz,w.heap[g]? =some (.cells cs e fz):=by
 intro g hg;rcases h.2 with ⟨rfl,_⟩|⟨g',o,cap,cur,rfl,hb,hgg,_⟩
 ·simp[Value.ownBlock] at hg
 ·simp[Value.ownBlock] at hg;subst hg;exact⟨hb,_,_,hgg⟩
theorem _root_.Go.Bp.OwnAt.map_ne{w:World}{B:Nat}{e:TypeId}{size n g:Nat}{v:Value}{xs:List Value}{m:Int×Int→Option Value}(h:OwnAt w B e size v n xs)(hb:cD kvI w g m):some g≠v.ownBlock:=by
 intro he;obtain⟨_,cs,fz,h1⟩:=h.row g he.symm;obtain⟨es,c,h2,_⟩:=hb;rw[h1] at h2;cases h2
theorem zH{w:World}{size n:Nat}{v:Value}{xs:List Value}(h:Sl w size v n xs):v.cells=#[v]:=by
 obtain⟨A,c,rfl,_⟩:=h;rfl
theorem IntoI.at_{B gi:Nat}{rows:Nat→List Step}{vs:List Value}{W:World}(h:IntoI B rows gi vs W){q:Nat}(hq:q<vs.length):W.cell? ⟨gi,q,none⟩=some vs[q]:=by
 rw[h.blk.cell];simp[hq]
end Go.St
end
