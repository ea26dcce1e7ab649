/- Chapter 03: contracts of functions of the program and of the reference, and plain laws (out of SQ4 SQ5). No condition of its own. -/
import Derived.Test.YtfjnacajjpaeiaaGreatDoorP09
set_option maxRecDepth 100000
set_option linter.all false
section
namespace Go.St
open Go Go.Bp Go.RowKit Go.Proofs
theorem gC{P:Program}{c:Go.Code}{Q:Exit→Act→World→Prop}{a:Act}{w:World}{F:Act}{R:World→Prop}(h:c.wp P (fun e a' w'=>e=.normal∧a'=F∧R w') a w)(k:∀w',R w'→Q .normal F w'):c.wp P Q a w:=
 Code.wp_mono (fun e a' w' ⟨he,ha,hR⟩=>by subst he;subst ha;exact k w' hR) h
set_option maxHeartbeats 8000000 in
theorem Cm(W0:World)(p:Value)(g o cap:Nat)(xs0:List (Int×Int))(hcmp:tA W0 g p)(a b pv:Nat)(w:World)(hS:Sw W0 113 g o cap xs0 w)(hl:xs0.length≤1000000)(hb:b≤xs0.length)(hp1:a≤pv)(hp2:pv<b):
 Calls Tryz.prog 144 #[.slice (some ⟨g,o,none⟩) xs0.length cap,.int .i64 a,.int .i64 b,.int .i64 pv,.func (.func 97) #[p] #[]] w (fun e w'=>Sw W0 113 g o cap xs0 w'∧∃d:Nat,e=.returned (.int .i64 d)∧a+1≤d∧d≤b):=by
 obtain⟨wr,hwr⟩:∃W,W=w:=⟨_,rfl⟩;have hSr:=hS;rw[←hwr] at hSr;have q1:a<xs0.length:=by omega
 have q2:pv<xs0.length:=by omega
 have z1:(a:Int)<(xs0.length:Int):=by omega
 have z2:(pv:Int)<(xs0.length:Int):=by omega
 obtain⟨hg,cur,xs,hR,hp⟩:=hSr;have hlen:=hp.length_eq;have hix:a<xs.length:=by omega
 have hjx:pv<xs.length:=by omega
 have hi2:=hR.at_ hix;have hj2:=hR.at_ hjx;obtain⟨x,hx⟩:∃x,xs[a]=x:=⟨_,rfl⟩;obtain⟨y,hy⟩:∃y,xs[pv]=y:=⟨_,rfl⟩;rw[hx] at hi2;rw[hy] at hj2;have f1:=hR.lt2 hix;have f2:=hR.lt2 hjx;have hB:=hR.blk;have Hput:Hid (∀W1 W2,Blk W1 g 113 (aI cur (o+(a)*2) [.int .i64 y.1,.int .i64 y.2])→wr.grownBy W1 (some g)→Blk W2 g 113 (aI (aI cur (o+(a)*2) [.int .i64 y.1,.int .i64 y.2]) (o+(pv)*2) [.int .i64 x.1,.int .i64 x.2])→W1.grownBy W2 (some g)→Sw W0 113 g o cap xs0 W2):=Lib.hid (by intro W1 W2 h1 h2 h3 h4;subst hx hy;exact Sw.put2 hg hR hp hix hjx h1 h2 h3 h4)
 have hmA:True:=trivial;rw[←hwr];clear hwr hS;go_enter Tryz.func144,Tryz.ntmps144
 go_wp2
 apply gC (R:=fun w'=>Sw W0 113 g o cap xs0 w')
 case h=>
  have hBd:=hB.d;have hi2d:=hi2.d;have hj2d:=hj2.d;refine aR (.take 0 (.take 1 (.take 2 (.take 3 (.take 4 (.take 5 (.take 6 (.take 8 (.take 9 (.take 10 (.two 7 (.one 11 (.take 12 (.one 13 (.take 14 (.one 15 .nil))))) 11 (.one 7 (.take 12 (.one 13 (.take 14 (.one 15 .nil)))))))))))))))) (fun w'=>True) ?_ (fun hHd=> ?_)
  ·exact True.intro
  repeat' first|((with_reducible refine aB ?_);(refine tk (v:= ?_) ?_ hHd ?_;rotate_left;(·(intro wq hSw;(try dsimp only at hSw);go_simp;(try with_reducible rfl))));(try simp only[pS]))|((with_reducible refine bC ?_);refine aQ (by simp only[gS];rfl) ?_)|((with_reducible refine fQ ?_);refine dI (by simp only[gS];rfl) (by simp only[gS];rfl) ?_ ?_)|((with_reducible refine aH (d:=some 20) ?_);(((with_reducible refine aC (d:=some 20) (hl:=aN hj2d) ?_ ?_);rfl)))|((with_reducible refine aH (d:=some 24) ?_);(((with_reducible refine aC (d:=some 24) (hl:=aN hi2d) ?_ ?_);rfl)))|((with_reducible refine aH (d:=none) ?_);((first|((with_reducible refine aK (t:=113) (e:=113) (g:=g) (off:=o+pv*2) (n:=2) (v:=.agg #[.int .i64 x.1,.int .i64 x.2]) ?_ ?_ hB1 aW ?_ ?_ ?_ ?_);rfl;rfl;rfl;(rw[bW (by exact f1)];exact f2);(simp[Value.cells,Value.oneCell']);intro W2 hB2 hg2)|((with_reducible refine aK (t:=113) (e:=113) (g:=g) (off:=o+a*2) (n:=2) (v:=.agg #[.int .i64 y.1,.int .i64 y.2]) ?_ ?_ hBd aW ?_ ?_ ?_ ?_);rfl;rfl;rfl;exact f1;(simp[Value.cells,Value.oneCell']);intro W1 hB1 hg1;replace hg1:=bE hg1))))|((with_reducible refine bB ?_);clear hHd;refine aJ ?_ (fun hHd=> ?_);(·exact True.intro);(try simp only[pS]))|(with_reducible refine aG ?_)
  all_goals exact⟨rfl,rfl,Hput.out _ _ hB1 hg1 hB2 hg2⟩
 case k=>
  intro Wp hSw;go_wp2
  clear Hput hi2 hj2 hB hR hg hx hy hp f1 f2 z2 q2;go_loopw [11,12] (fun vi vj wr=>Sw W0 113 g o cap xs0 wr∧∃i j:Nat,vi=.int .i64 i∧vj=.int .i64 j∧a+1≤i∧i≤b∧a≤j∧j+1≤b∧i≤j+2) (fun vi vj _=>(intOf vj+2-intOf vi).toNat)
  case atStart=>exact⟨hSw,a+1,b-1,by go_num,by go_num,by omega,by omega,by omega,by omega,by omega⟩
  case round=>
   obtain⟨hSr,i0,j0,rfl,rfl,hi1,hi2,hj1,hj2,hij⟩:=hrel;clear hSw;go_wp2
   go_loopw [11] (fun vi wr=>Sw W0 113 g o cap xs0 wr∧∃i:Nat,vi=.int .i64 i∧i0≤i∧i≤b∧i≤j0+2∧(i0≤j0+1→i≤j0+1)) (fun vi _=>j0+2-(intOf vi).toNat)
   case atStart=>exact⟨hSr,i0,rfl,by omega,by omega,by omega,by omega⟩
   case round=>
    obtain⟨hSr,i,rfl,ha1,ha2,ha3,ha4⟩:=hrel;by_cases hle:i≤j0
    ·have hzz:(i:Int)≤(j0:Int):=by omega
     have q3:i<xs0.length:=by omega
     have z3:(i:Int)<(xs0.length:Int):=by omega
     have Hi:=Lib.hid (⟨⟨hi1,hi2,hj1,hj2,hij⟩,ha1,ha2,ha3,ha4,hle⟩:(_∧_∧_∧_∧_)∧_∧_∧_∧_∧_);clear hi1 hi2 hj1 hj2 hij ha1 ha2 ha3 ha4 hle;obtain⟨hg,cur,xs,hR,hp⟩:=hSr;have hlen:=hp.length_eq;have hix:a<xs.length:=by omega
     have hjx:i<xs.length:=by omega
     have hi2:=hR.at_ hix;have hj2:=hR.at_ hjx;obtain⟨x,hx⟩:∃x,xs[a]=x:=⟨_,rfl⟩;obtain⟨y,hy⟩:∃y,xs[i]=y:=⟨_,rfl⟩;rw[hx] at hi2;rw[hy] at hj2;have f1:=hR.lt2 hix;have f2:=hR.lt2 hjx;have hB:=hR.blk;have Hput:Hid (∀W1 W2,Blk W1 g 113 (aI cur (o+(a)*2) [.int .i64 y.1,.int .i64 y.2])→wr.grownBy W1 (some g)→Blk W2 g 113 (aI (aI cur (o+(a)*2) [.int .i64 y.1,.int .i64 y.2]) (o+(i)*2) [.int .i64 x.1,.int .i64 x.2])→W1.grownBy W2 (some g)→Sw W0 113 g o cap xs0 W2):=Lib.hid (by intro W1 W2 h1 h2 h3 h4;subst hx hy;exact Sw.put2 hg hR hp hix hjx h1 h2 h3 h4)
     have hmA:True:=trivial;go_wp2
     have hX:=Ext.todrew (Ext.refl wr);refine aR (.take 0 (.take 1 (.take 2 (.take 3 (.take 4 (.take 5 (.take 6 (.take 7 (.take 8 (.take 9 (.take 10 (.take 11 (.take 12 (.one 13 (.take 14 (.take 15 (.take 16 .nil))))))))))))))))) (fun w'=>Ext wr w') ?_ (fun hHd=> ?_)
     ·assumption
     repeat' first|((with_reducible refine aB ?_);(first|((with_reducible refine aB (i:=2) ?_);refine tk (v:=.bool true) ?_ hHd ?_;(·(intro wq hSw;go_simp;first|done|omega|(simp;omega))))|((with_reducible refine aB (i:=8) ?_);refine tw (v:=.agg #[.int .i64 x.1,.int .i64 x.2]) ?_ hHd ?_;(·exact aA (by rfl) (fun W h=>aN (hi2.ext h))))|((with_reducible refine aB (i:=12) ?_);refine tw (v:=.agg #[.int .i64 y.1,.int .i64 y.2]) ?_ hHd ?_;(·exact aA (by rfl) (fun W h=>aN (hj2.ext h))))|(refine tk (v:= ?_) ?_ hHd ?_;rotate_left;(·(intro wq hSw;(try dsimp only at hSw);go_simp;(try with_reducible rfl))))|(refine tw (v:= ?_) ?_ hHd ?_;rotate_left;(·(intro wq hSw;(try dsimp only at hSw);go_simp;(try with_reducible rfl)))));(try simp only[pS]))|((with_reducible refine bC ?_);refine aQ (by simp only[gS];rfl) ?_)|((with_reducible refine aH (d:=some 44) ?_);((refine bN (by rfl) (hcmp _ (bQ hg hX) x y) (by go_simp) ?_;rintro e Wc ⟨⟨r,rfl⟩,hEc⟩;refine⟨_,rfl,?_⟩;have hXc:=hX.trans hEc;obtain⟨bb,hbb⟩:∃b,decide (r<0)=b:=⟨_,rfl⟩)))|((with_reducible refine bB ?_);clear hHd;refine aJ ?_ (fun hHd=> ?_);(·assumption);(try simp only[pS]))|(with_reducible refine aG ?_)
     have hSr:=Sw.ext (⟨hg,cur,xs,hR,hp⟩:Sw W0 113 g o cap xs0 wr) hXc;clear hX hXc hi2 hj2 hB hR Hput hg hx hy hp f1 f2 hmA;generalize Wc=wr at hSr⊢
     cases bb
     ·go_wp2
      go_roundw
      case rel=>obtain⟨⟨e1,e2,e3,e4,e5⟩,e6,e7,e8,e9,e10⟩:=Hi.out;exact⟨hSr,i+1,by go_num,by omega,by omega,by omega,by omega⟩
      case measure=>obtain⟨⟨e1,e2,e3,e4,e5⟩,e6,e7,e8,e9,e10⟩:=Hi.out;simp[intOf];omega
     ·obtain⟨⟨e1,e2,e3,e4,e5⟩,e6,e7,e8,e9,e10⟩:=Hi.out;clear Hi;go_wp2
      go_loopw [12] (fun vj wr=>Sw W0 113 g o cap xs0 wr∧∃j:Nat,vj=.int .i64 j∧a≤j∧j≤j0∧(i≤j0+1→i≤j+1)) (fun vj _=>(intOf vj).toNat)
      case atStart=>exact⟨hSr,j0,rfl,by omega,by omega,by omega⟩
      case round=>
       obtain⟨hSr,j,rfl,b1,b2,b3⟩:=hrel;by_cases hle2:i≤j
       ·have hz2:(i:Int)≤(j:Int):=by omega
        have q3:i<xs0.length:=by omega
        have q4:j<xs0.length:=by omega
        have z3:(i:Int)<(xs0.length:Int):=by omega
        have z4:(j:Int)<(xs0.length:Int):=by omega
        have j1:1≤j:=by omega
        have HI:=Lib.hid (⟨⟨e1,e2,e3,e4,e5⟩,e6,b1,b2,b3,hle2⟩:(_∧_∧_∧_∧_)∧_∧_∧_∧_∧_);clear e1 e2 e3 e4 e5 e6 e7 e8 b1 b2 b3 hle2 hzz;obtain⟨hg,cur,xs,hR,hp⟩:=hSr;have hlen:=hp.length_eq;have hix:a<xs.length:=by omega
        have hjx:j<xs.length:=by omega
        have hi2:=hR.at_ hix;have hj2:=hR.at_ hjx;obtain⟨x,hx⟩:∃x,xs[a]=x:=⟨_,rfl⟩;obtain⟨y,hy⟩:∃y,xs[j]=y:=⟨_,rfl⟩;rw[hx] at hi2;rw[hy] at hj2;have f1:=hR.lt2 hix;have f2:=hR.lt2 hjx;have hB:=hR.blk;have Hput:Hid (∀W1 W2,Blk W1 g 113 (aI cur (o+(a)*2) [.int .i64 y.1,.int .i64 y.2])→wr.grownBy W1 (some g)→Blk W2 g 113 (aI (aI cur (o+(a)*2) [.int .i64 y.1,.int .i64 y.2]) (o+(j)*2) [.int .i64 x.1,.int .i64 x.2])→W1.grownBy W2 (some g)→Sw W0 113 g o cap xs0 W2):=Lib.hid (by intro W1 W2 h1 h2 h3 h4;subst hx hy;exact Sw.put2 hg hR hp hix hjx h1 h2 h3 h4)
        have hmA:True:=trivial;go_wp2
        have hX:=Ext.todrew (Ext.refl wr);refine aR (.take 0 (.take 1 (.take 2 (.take 3 (.take 4 (.take 5 (.take 6 (.take 7 (.take 8 (.take 9 (.take 10 (.take 11 (.take 12 (.one 13 (.take 14 (.take 15 .nil)))))))))))))))) (fun w'=>Ext wr w') ?_ (fun hHd=> ?_)
        ·assumption
        repeat' first|((with_reducible refine aB ?_);(first|((with_reducible refine aB (i:=2) ?_);refine tk (v:=.bool true) ?_ hHd ?_;(·(intro wq hSw;go_simp;first|done|omega|(simp;omega))))|((with_reducible refine aB (i:=8) ?_);refine tw (v:=.agg #[.int .i64 x.1,.int .i64 x.2]) ?_ hHd ?_;(·exact aA (by rfl) (fun W h=>aN (hi2.ext h))))|((with_reducible refine aB (i:=12) ?_);refine tw (v:=.agg #[.int .i64 y.1,.int .i64 y.2]) ?_ hHd ?_;(·exact aA (by rfl) (fun W h=>aN (hj2.ext h))))|(refine tk (v:= ?_) ?_ hHd ?_;rotate_left;(·(intro wq hSw;(try dsimp only at hSw);go_simp;(try with_reducible rfl))))|(refine tw (v:= ?_) ?_ hHd ?_;rotate_left;(·(intro wq hSw;(try dsimp only at hSw);go_simp;(try with_reducible rfl)))));(try simp only[pS]))|((with_reducible refine bC ?_);refine aQ (by simp only[gS];rfl) ?_)|((with_reducible refine aH (d:=some 63) ?_);((refine bN (by rfl) (hcmp _ (bQ hg hX) x y) (by go_simp) ?_;rintro e Wc ⟨⟨r,rfl⟩,hEc⟩;refine⟨_,rfl,?_⟩;have hXc:=hX.trans hEc;obtain⟨bb,hbb⟩:∃b,decide (r<0)=b:=⟨_,rfl⟩)))|((with_reducible refine bB ?_);clear hHd;refine aJ ?_ (fun hHd=> ?_);(·assumption);(try simp only[pS]))|(with_reducible refine aG ?_)
        have hSr:=Sw.ext (⟨hg,cur,xs,hR,hp⟩:Sw W0 113 g o cap xs0 wr) hXc;clear hX hXc hi2 hj2 hB hR Hput hg hx hy hp f1 f2 hmA;generalize Wc=wr at hSr⊢
        cases bb
        ·clear hbb;have hgt:¬((j:Int)<(i:Int)):=by omega
         go_wp2
         obtain⟨hg,cur,xs,hR,hp⟩:=hSr;have hlen:=hp.length_eq;have hix:i<xs.length:=by omega
         have hjx:j<xs.length:=by omega
         have hi2:=hR.at_ hix;have hj2:=hR.at_ hjx;obtain⟨x,hx⟩:∃x,xs[i]=x:=⟨_,rfl⟩;obtain⟨y,hy⟩:∃y,xs[j]=y:=⟨_,rfl⟩;rw[hx] at hi2;rw[hy] at hj2;have f1:=hR.lt2 hix;have f2:=hR.lt2 hjx;have hB:=hR.blk;have Hput:Hid (∀W1 W2,Blk W1 g 113 (aI cur (o+(i)*2) [.int .i64 y.1,.int .i64 y.2])→wr.grownBy W1 (some g)→Blk W2 g 113 (aI (aI cur (o+(i)*2) [.int .i64 y.1,.int .i64 y.2]) (o+(j)*2) [.int .i64 x.1,.int .i64 x.2])→W1.grownBy W2 (some g)→Sw W0 113 g o cap xs0 W2):=Lib.hid (by intro W1 W2 h1 h2 h3 h4;subst hx hy;exact Sw.put2 hg hR hp hix hjx h1 h2 h3 h4)
         have hmA:True:=trivial;have hBd:=hB.d;have hi2d:=hi2.d;have hj2d:=hj2.d;refine aR (.take 0 (.take 1 (.take 2 (.take 3 (.take 4 (.take 5 (.take 6 (.take 8 (.take 9 (.take 10 (.two 7 (.one 11 (.take 12 (.one 13 (.take 14 (.one 15 .nil))))) 11 (.one 7 (.take 12 (.one 13 (.take 14 (.one 15 .nil)))))))))))))))) (fun w'=>True) ?_ (fun hHd=> ?_)
         ·exact True.intro
         repeat' first|((with_reducible refine aB ?_);(refine tk (v:= ?_) ?_ hHd ?_;rotate_left;(·(intro wq hSw;(try dsimp only at hSw);go_simp;(try with_reducible rfl))));(try simp only[pS]))|((with_reducible refine bC ?_);refine aQ (by simp only[gS];rfl) ?_)|((with_reducible refine fQ ?_);refine dI (by simp only[gS];rfl) (by simp only[gS];rfl) ?_ ?_)|((with_reducible refine aH (d:=some 78) ?_);(((with_reducible refine aC (d:=some 78) (hl:=aN hj2d) ?_ ?_);rfl)))|((with_reducible refine aH (d:=some 82) ?_);(((with_reducible refine aC (d:=some 82) (hl:=aN hi2d) ?_ ?_);rfl)))|((with_reducible refine aH (d:=none) ?_);((first|((with_reducible refine aK (t:=113) (e:=113) (g:=g) (off:=o+j*2) (n:=2) (v:=.agg #[.int .i64 x.1,.int .i64 x.2]) ?_ ?_ hB1 aW ?_ ?_ ?_ ?_);rfl;rfl;rfl;(rw[bW (by exact f1)];exact f2);(simp[Value.cells,Value.oneCell']);intro W2 hB2 hg2)|((with_reducible refine aK (t:=113) (e:=113) (g:=g) (off:=o+i*2) (n:=2) (v:=.agg #[.int .i64 y.1,.int .i64 y.2]) ?_ ?_ hBd aW ?_ ?_ ?_ ?_);rfl;rfl;rfl;exact f1;(simp[Value.cells,Value.oneCell']);intro W1 hB1 hg1;replace hg1:=bE hg1))))|((with_reducible refine bB ?_);clear hHd;refine aJ ?_ (fun hHd=> ?_);(·exact True.intro);(try simp only[pS]))|(with_reducible refine aG ?_)
         all_goals
          have hSw:=Hput.out _ _ hB1 hg1 hB2 hg2;clear hB1 hB2 hg1 hg2 Hput hi2 hj2 hB hR hg hx hy hp f1 f2 hBd hi2d hj2d;go_wp2
          go_roundw
          case rel=>obtain⟨⟨e1,e2,e3,e4,e5⟩,e6,b1,b2,b3,e10⟩:=HI.out;exact⟨hSw,i+1,j-1,by go_num,by go_num,by omega,by omega,by omega,by omega,by omega⟩
          case measure=>obtain⟨⟨e1,e2,e3,e4,e5⟩,e6,b1,b2,b3,e10⟩:=HI.out;simp[intOf];omega
        ·go_wp2
         go_roundw
         case rel=>obtain⟨⟨e1,e2,e3,e4,e5⟩,e6,b1,b2,b3,e10⟩:=HI.out;exact⟨hSr,j-1,by go_num,by omega,by omega,by omega⟩
         case measure=>simp[intOf];omega
       ·have hz2:¬((i:Int)≤(j:Int)):=by omega
        have hgt:(j:Int)<(i:Int):=by omega
        go_wp2
        have hX:=Ext.todrew (Ext.refl wr);refine aR (.take 0 (.take 1 (.take 2 (.take 3 (.take 4 (.take 5 (.take 6 (.take 7 (.take 8 (.take 9 (.take 10 (.take 11 (.take 12 (.one 13 (.take 14 (.take 15 .nil)))))))))))))))) (fun w'=>Ext wr w') ?_ (fun hHd=> ?_)
        ·assumption
        repeat' first|((with_reducible refine aB ?_);(first|((with_reducible refine aB (i:=2) ?_);refine tk (v:=.bool false) ?_ hHd ?_;(·(intro wq hSw;go_simp;first|done|omega|(simp;omega))))|(refine tk (v:= ?_) ?_ hHd ?_;rotate_left;(·(intro wq hSw;(try dsimp only at hSw);go_simp;(try with_reducible rfl))))|refine ts hHd ?_);(try simp only[pS]))|((with_reducible refine bC ?_);refine aQ (by simp only[gS];rfl) ?_)|((with_reducible refine aH (d:=some 63) ?_);refine dK (by rfl) ?_)|((with_reducible refine bB ?_);clear hHd;refine aJ ?_ (fun hHd=> ?_);(·assumption);(try simp only[pS]))|(with_reducible refine aG ?_)
        have hSr:=Sw.ext hSr hX;clear hX;go_wp2
        go_ret
        exact⟨hSr,i,rfl,by omega,by omega⟩
    ·have hzz:¬((i:Int)≤(j0:Int)):=by omega
     have e1:=hi1;have e2:=hi2;have e3:=hj1;have e4:=hj2;have e5:=hij;have e6:=ha1;have e7:=ha2;have e8:=ha3;clear hi1 hi2 hj1 hj2 hij ha1 ha2 ha3 ha4;go_wp2
     have hX:=Ext.todrew (Ext.refl wr);refine aR (.take 0 (.take 1 (.take 2 (.take 3 (.take 4 (.take 5 (.take 6 (.take 7 (.take 8 (.take 9 (.take 10 (.take 11 (.take 12 (.one 13 (.take 14 (.take 15 (.take 16 .nil))))))))))))))))) (fun w'=>Ext wr w') ?_ (fun hHd=> ?_)
     ·assumption
     repeat' first|((with_reducible refine aB ?_);(first|((with_reducible refine aB (i:=2) ?_);refine tk (v:=.bool false) ?_ hHd ?_;(·(intro wq hSw;go_simp;first|done|omega|(simp;omega))))|(refine tk (v:= ?_) ?_ hHd ?_;rotate_left;(·(intro wq hSw;(try dsimp only at hSw);go_simp;(try with_reducible rfl))))|refine ts hHd ?_);(try simp only[pS]))|((with_reducible refine bC ?_);refine aQ (by simp only[gS];rfl) ?_)|((with_reducible refine aH (d:=some 44) ?_);refine dK (by rfl) ?_)|((with_reducible refine bB ?_);clear hHd;refine aJ ?_ (fun hHd=> ?_);(·assumption);(try simp only[pS]))|(with_reducible refine aG ?_)
     have hSr:=Sw.ext hSr hX;clear hX;go_wp2
     go_loopw [12] (fun vj wr=>Sw W0 113 g o cap xs0 wr∧∃j:Nat,vj=.int .i64 j∧a≤j∧j≤j0∧(i≤j0+1→i≤j+1)) (fun vj _=>(intOf vj).toNat)
     case atStart=>exact⟨hSr,j0,rfl,by omega,by omega,by omega⟩
     case round=>
      obtain⟨hSr,j,rfl,b1,b2,b3⟩:=hrel;by_cases hle2:i≤j
      ·have hz2:(i:Int)≤(j:Int):=by omega
       have q3:i<xs0.length:=by omega
       have q4:j<xs0.length:=by omega
       have z3:(i:Int)<(xs0.length:Int):=by omega
       have z4:(j:Int)<(xs0.length:Int):=by omega
       have j1:1≤j:=by omega
       have HI:=Lib.hid (⟨⟨e1,e2,e3,e4,e5⟩,e6,b1,b2,b3,hle2⟩:(_∧_∧_∧_∧_)∧_∧_∧_∧_∧_);clear e1 e2 e3 e4 e5 e6 e7 e8 b1 b2 b3 hle2 hzz;obtain⟨hg,cur,xs,hR,hp⟩:=hSr;have hlen:=hp.length_eq;have hix:a<xs.length:=by omega
       have hjx:j<xs.length:=by omega
       have hi2:=hR.at_ hix;have hj2:=hR.at_ hjx;obtain⟨x,hx⟩:∃x,xs[a]=x:=⟨_,rfl⟩;obtain⟨y,hy⟩:∃y,xs[j]=y:=⟨_,rfl⟩;rw[hx] at hi2;rw[hy] at hj2;have f1:=hR.lt2 hix;have f2:=hR.lt2 hjx;have hB:=hR.blk;have Hput:Hid (∀W1 W2,Blk W1 g 113 (aI cur (o+(a)*2) [.int .i64 y.1,.int .i64 y.2])→wr.grownBy W1 (some g)→Blk W2 g 113 (aI (aI cur (o+(a)*2) [.int .i64 y.1,.int .i64 y.2]) (o+(j)*2) [.int .i64 x.1,.int .i64 x.2])→W1.grownBy W2 (some g)→Sw W0 113 g o cap xs0 W2):=Lib.hid (by intro W1 W2 h1 h2 h3 h4;subst hx hy;exact Sw.put2 hg hR hp hix hjx h1 h2 h3 h4)
       have hmA:True:=trivial;go_wp2
       have hX:=Ext.todrew (Ext.refl wr);refine aR (.take 0 (.take 1 (.take 2 (.take 3 (.take 4 (.take 5 (.take 6 (.take 7 (.take 8 (.take 9 (.take 10 (.take 11 (.take 12 (.one 13 (.take 14 (.take 15 .nil)))))))))))))))) (fun w'=>Ext wr w') ?_ (fun hHd=> ?_)
       ·assumption
       repeat' first|((with_reducible refine aB ?_);(first|((with_reducible refine aB (i:=2) ?_);refine tk (v:=.bool true) ?_ hHd ?_;(·(intro wq hSw;go_simp;first|done|omega|(simp;omega))))|((with_reducible refine aB (i:=8) ?_);refine tw (v:=.agg #[.int .i64 x.1,.int .i64 x.2]) ?_ hHd ?_;(·exact aA (by rfl) (fun W h=>aN (hi2.ext h))))|((with_reducible refine aB (i:=12) ?_);refine tw (v:=.agg #[.int .i64 y.1,.int .i64 y.2]) ?_ hHd ?_;(·exact aA (by rfl) (fun W h=>aN (hj2.ext h))))|(refine tk (v:= ?_) ?_ hHd ?_;rotate_left;(·(intro wq hSw;(try dsimp only at hSw);go_simp;(try with_reducible rfl))))|(refine tw (v:= ?_) ?_ hHd ?_;rotate_left;(·(intro wq hSw;(try dsimp only at hSw);go_simp;(try with_reducible rfl)))));(try simp only[pS]))|((with_reducible refine bC ?_);refine aQ (by simp only[gS];rfl) ?_)|((with_reducible refine aH (d:=some 63) ?_);((refine bN (by rfl) (hcmp _ (bQ hg hX) x y) (by go_simp) ?_;rintro e Wc ⟨⟨r,rfl⟩,hEc⟩;refine⟨_,rfl,?_⟩;have hXc:=hX.trans hEc;obtain⟨bb,hbb⟩:∃b,decide (r<0)=b:=⟨_,rfl⟩)))|((with_reducible refine bB ?_);clear hHd;refine aJ ?_ (fun hHd=> ?_);(·assumption);(try simp only[pS]))|(with_reducible refine aG ?_)
       have hSr:=Sw.ext (⟨hg,cur,xs,hR,hp⟩:Sw W0 113 g o cap xs0 wr) hXc;clear hX hXc hi2 hj2 hB hR Hput hg hx hy hp f1 f2 hmA;generalize Wc=wr at hSr⊢
       cases bb
       ·clear hbb;have hgt:¬((j:Int)<(i:Int)):=by omega
        go_wp2
        obtain⟨hg,cur,xs,hR,hp⟩:=hSr;have hlen:=hp.length_eq;have hix:i<xs.length:=by omega
        have hjx:j<xs.length:=by omega
        have hi2:=hR.at_ hix;have hj2:=hR.at_ hjx;obtain⟨x,hx⟩:∃x,xs[i]=x:=⟨_,rfl⟩;obtain⟨y,hy⟩:∃y,xs[j]=y:=⟨_,rfl⟩;rw[hx] at hi2;rw[hy] at hj2;have f1:=hR.lt2 hix;have f2:=hR.lt2 hjx;have hB:=hR.blk;have Hput:Hid (∀W1 W2,Blk W1 g 113 (aI cur (o+(i)*2) [.int .i64 y.1,.int .i64 y.2])→wr.grownBy W1 (some g)→Blk W2 g 113 (aI (aI cur (o+(i)*2) [.int .i64 y.1,.int .i64 y.2]) (o+(j)*2) [.int .i64 x.1,.int .i64 x.2])→W1.grownBy W2 (some g)→Sw W0 113 g o cap xs0 W2):=Lib.hid (by intro W1 W2 h1 h2 h3 h4;subst hx hy;exact Sw.put2 hg hR hp hix hjx h1 h2 h3 h4)
        have hmA:True:=trivial;have hBd:=hB.d;have hi2d:=hi2.d;have hj2d:=hj2.d;refine aR (.take 0 (.take 1 (.take 2 (.take 3 (.take 4 (.take 5 (.take 6 (.take 8 (.take 9 (.take 10 (.two 7 (.one 11 (.take 12 (.one 13 (.take 14 (.one 15 .nil))))) 11 (.one 7 (.take 12 (.one 13 (.take 14 (.one 15 .nil)))))))))))))))) (fun w'=>True) ?_ (fun hHd=> ?_)
        ·exact True.intro
        repeat' first|((with_reducible refine aB ?_);(refine tk (v:= ?_) ?_ hHd ?_;rotate_left;(·(intro wq hSw;(try dsimp only at hSw);go_simp;(try with_reducible rfl))));(try simp only[pS]))|((with_reducible refine bC ?_);refine aQ (by simp only[gS];rfl) ?_)|((with_reducible refine fQ ?_);refine dI (by simp only[gS];rfl) (by simp only[gS];rfl) ?_ ?_)|((with_reducible refine aH (d:=some 78) ?_);(((with_reducible refine aC (d:=some 78) (hl:=aN hj2d) ?_ ?_);rfl)))|((with_reducible refine aH (d:=some 82) ?_);(((with_reducible refine aC (d:=some 82) (hl:=aN hi2d) ?_ ?_);rfl)))|((with_reducible refine aH (d:=none) ?_);((first|((with_reducible refine aK (t:=113) (e:=113) (g:=g) (off:=o+j*2) (n:=2) (v:=.agg #[.int .i64 x.1,.int .i64 x.2]) ?_ ?_ hB1 aW ?_ ?_ ?_ ?_);rfl;rfl;rfl;(rw[bW (by exact f1)];exact f2);(simp[Value.cells,Value.oneCell']);intro W2 hB2 hg2)|((with_reducible refine aK (t:=113) (e:=113) (g:=g) (off:=o+i*2) (n:=2) (v:=.agg #[.int .i64 y.1,.int .i64 y.2]) ?_ ?_ hBd aW ?_ ?_ ?_ ?_);rfl;rfl;rfl;exact f1;(simp[Value.cells,Value.oneCell']);intro W1 hB1 hg1;replace hg1:=bE hg1))))|((with_reducible refine bB ?_);clear hHd;refine aJ ?_ (fun hHd=> ?_);(·exact True.intro);(try simp only[pS]))|(with_reducible refine aG ?_)
        all_goals
         have hSw:=Hput.out _ _ hB1 hg1 hB2 hg2;clear hB1 hB2 hg1 hg2 Hput hi2 hj2 hB hR hg hx hy hp f1 f2 hBd hi2d hj2d;go_wp2
         go_roundw
         case rel=>obtain⟨⟨e1,e2,e3,e4,e5⟩,e6,b1,b2,b3,e10⟩:=HI.out;exact⟨hSw,i+1,j-1,by go_num,by go_num,by omega,by omega,by omega,by omega,by omega⟩
         case measure=>obtain⟨⟨e1,e2,e3,e4,e5⟩,e6,b1,b2,b3,e10⟩:=HI.out;simp[intOf];omega
       ·go_wp2
        go_roundw
        case rel=>obtain⟨⟨e1,e2,e3,e4,e5⟩,e6,b1,b2,b3,e10⟩:=HI.out;exact⟨hSr,j-1,by go_num,by omega,by omega,by omega⟩
        case measure=>simp[intOf];omega
      ·have hz2:¬((i:Int)≤(j:Int)):=by omega
       have hgt:(j:Int)<(i:Int):=by omega
       go_wp2
       have hX:=Ext.todrew (Ext.refl wr);refine aR (.take 0 (.take 1 (.take 2 (.take 3 (.take 4 (.take 5 (.take 6 (.take 7 (.take 8 (.take 9 (.take 10 (.take 11 (.take 12 (.one 13 (.take 14 (.take 15 .nil)))))))))))))))) (fun w'=>Ext wr w') ?_ (fun hHd=> ?_)
       ·assumption
       repeat' first|((with_reducible refine aB ?_);(first|((with_reducible refine aB (i:=2) ?_);refine tk (v:=.bool false) ?_ hHd ?_;(·(intro wq hSw;go_simp;first|done|omega|(simp;omega))))|(refine tk (v:= ?_) ?_ hHd ?_;rotate_left;(·(intro wq hSw;(try dsimp only at hSw);go_simp;(try with_reducible rfl))))|refine ts hHd ?_);(try simp only[pS]))|((with_reducible refine bC ?_);refine aQ (by simp only[gS];rfl) ?_)|((with_reducible refine aH (d:=some 63) ?_);refine dK (by rfl) ?_)|((with_reducible refine bB ?_);clear hHd;refine aJ ?_ (fun hHd=> ?_);(·assumption);(try simp only[pS]))|(with_reducible refine aG ?_)
       have hSr:=Sw.ext hSr hX;clear hX;go_wp2
       go_ret
       exact⟨hSr,i,rfl,by omega,by omega⟩
end Go.St
end
section
namespace Go.St
open Go Go.Bp Go.RowKit Go.Proofs
set_option maxHeartbeats 16000000 in
theorem Jo(W0:World)(p:Value)(g o cap:Nat)(xs0:List (Int×Int))(hcmp:tA W0 g p)(a b pv:Nat)(w:World)(hS:Sw W0 113 g o cap xs0 w)(hl:xs0.length≤1000000)(hb:b≤xs0.length)(hp1:a≤pv)(hp2:pv<b):
 Calls Tryz.prog 145 #[.slice (some ⟨g,o,none⟩) xs0.length cap,.int .i64 a,.int .i64 b,.int .i64 pv,.func (.func 97) #[p] #[]] w (fun e w'=>Sw W0 113 g o cap xs0 w'∧∃(d:Nat)(c:Bool),e=.returned (.tuple #[.int .i64 d,.bool c])∧a≤d∧d<b):=by
 obtain⟨wr,hwr⟩:∃W,W=w:=⟨_,rfl⟩;have hSr:=hS;rw[←hwr] at hSr;have q1:a<xs0.length:=by omega
 have q2:pv<xs0.length:=by omega
 have z1:(a:Int)<(xs0.length:Int):=by omega
 have z2:(pv:Int)<(xs0.length:Int):=by omega
 obtain⟨hg,cur,xs,hR,hp⟩:=hSr;have hlen:=hp.length_eq;have hix:a<xs.length:=by omega
 have hjx:pv<xs.length:=by omega
 have hi2:=hR.at_ hix;have hj2:=hR.at_ hjx;obtain⟨x,hx⟩:∃x,xs[a]=x:=⟨_,rfl⟩;obtain⟨y,hy⟩:∃y,xs[pv]=y:=⟨_,rfl⟩;rw[hx] at hi2;rw[hy] at hj2;have f1:=hR.lt2 hix;have f2:=hR.lt2 hjx;have hB:=hR.blk;have Hput:Hid (∀W1 W2,Blk W1 g 113 (aI cur (o+(a)*2) [.int .i64 y.1,.int .i64 y.2])→wr.grownBy W1 (some g)→Blk W2 g 113 (aI (aI cur (o+(a)*2) [.int .i64 y.1,.int .i64 y.2]) (o+(pv)*2) [.int .i64 x.1,.int .i64 x.2])→W1.grownBy W2 (some g)→Sw W0 113 g o cap xs0 W2):=Lib.hid (by intro W1 W2 h1 h2 h3 h4;subst hx hy;exact Sw.put2 hg hR hp hix hjx h1 h2 h3 h4)
 have hmA:True:=trivial;rw[←hwr];clear hwr hS;go_enter Tryz.func145,Tryz.ntmps145
 go_wp2
 apply gC (R:=fun w'=>Sw W0 113 g o cap xs0 w')
 case h=>
  have hBd:=hB.d;have hi2d:=hi2.d;have hj2d:=hj2.d;refine aR (.take 0 (.take 1 (.take 2 (.take 3 (.take 4 (.take 5 (.take 6 (.take 8 (.take 9 (.take 10 (.two 7 (.one 11 (.take 12 (.one 13 (.take 14 (.one 15 .nil))))) 11 (.one 7 (.take 12 (.one 13 (.take 14 (.one 15 .nil)))))))))))))))) (fun w'=>True) ?_ (fun hHd=> ?_)
  ·exact True.intro
  repeat' first|((with_reducible refine aB ?_);(refine tk (v:= ?_) ?_ hHd ?_;rotate_left;(·(intro wq hSw;(try dsimp only at hSw);go_simp;(try with_reducible rfl))));(try simp only[pS]))|((with_reducible refine bC ?_);refine aQ (by simp only[gS];rfl) ?_)|((with_reducible refine fQ ?_);refine dI (by simp only[gS];rfl) (by simp only[gS];rfl) ?_ ?_)|((with_reducible refine aH (d:=some 21) ?_);(((with_reducible refine aC (d:=some 21) (hl:=aN hj2d) ?_ ?_);rfl)))|((with_reducible refine aH (d:=some 25) ?_);(((with_reducible refine aC (d:=some 25) (hl:=aN hi2d) ?_ ?_);rfl)))|((with_reducible refine aH (d:=none) ?_);((first|((with_reducible refine aK (t:=113) (e:=113) (g:=g) (off:=o+pv*2) (n:=2) (v:=.agg #[.int .i64 x.1,.int .i64 x.2]) ?_ ?_ hB1 aW ?_ ?_ ?_ ?_);rfl;rfl;rfl;(rw[bW (by exact f1)];exact f2);(simp[Value.cells,Value.oneCell']);intro W2 hB2 hg2)|((with_reducible refine aK (t:=113) (e:=113) (g:=g) (off:=o+a*2) (n:=2) (v:=.agg #[.int .i64 y.1,.int .i64 y.2]) ?_ ?_ hBd aW ?_ ?_ ?_ ?_);rfl;rfl;rfl;exact f1;(simp[Value.cells,Value.oneCell']);intro W1 hB1 hg1;replace hg1:=bE hg1))))|((with_reducible refine bB ?_);clear hHd;refine aJ ?_ (fun hHd=> ?_);(·exact True.intro);(try simp only[pS]))|(with_reducible refine aG ?_)
  all_goals exact⟨rfl,rfl,Hput.out _ _ hB1 hg1 hB2 hg2⟩
 case k=>
  intro Wp hSr;obtain⟨i0,hi0⟩:∃i:Nat,i=a+1:=⟨_,rfl⟩;obtain⟨j0,hj0⟩:∃i:Nat,i=b-1:=⟨_,rfl⟩;have wi0:IntKind.i64.wrap ((a:Int)+1)=(i0:Int):=by rw[bM (by omega) (by omega)];omega
  have wj0:IntKind.i64.wrap ((b:Int)-1)=(j0:Int):=by rw[bM (by omega) (by omega)];omega
  have hf0:a+1≤i0∧i0≤b∧a≤j0∧j0+1≤b∧i0≤j0+2:=by omega
  clear hi0 hj0;go_wp2
  clear Hput hi2 hj2 hB hR hg hx hy hp f1 f2 z2 q2 wi0 wj0;apply pR (.exit 0) [12,32,33,34,35,36,37,38,39,40,41,42,43,44,45,46,47,48,49] (fun x w'=>∃i:Nat,x 12=.int .i64 i∧Sw W0 113 g o cap xs0 w'∧i0≤i∧(i0≤j0+1→i≤j0+1))
  case h=>
   go_loopw [12] (fun vi wr=>Sw W0 113 g o cap xs0 wr∧∃i:Nat,vi=.int .i64 i∧i0≤i∧(i0≤j0+1→i≤j0+1)) (fun vi _=>j0+2-(intOf vi).toNat)
   case atStart=>exact⟨hSr,i0,by first|rfl|go_num,by omega,by omega⟩
   case round=>
    obtain⟨hSr,i,rfl,ha1,ha4⟩:=hrel;by_cases hle:i≤j0
    ·have hzz:(i:Int)≤(j0:Int):=by omega
     have q3:i<xs0.length:=by omega
     have z3:(i:Int)<(xs0.length:Int):=by omega
     have Hi:=Lib.hid (⟨hf0,ha1,ha4,hle⟩:(_∧_∧_∧_∧_)∧_∧_∧_);clear hf0 ha1 ha4 hle;obtain⟨hg,cur,xs,hR,hp⟩:=hSr;have hlen:=hp.length_eq;have hix:i<xs.length:=by omega
     have hjx:a<xs.length:=by omega
     have hi2:=hR.at_ hix;have hj2:=hR.at_ hjx;obtain⟨x,hx⟩:∃x,xs[i]=x:=⟨_,rfl⟩;obtain⟨y,hy⟩:∃y,xs[a]=y:=⟨_,rfl⟩;rw[hx] at hi2;rw[hy] at hj2;have f1:=hR.lt2 hix;have f2:=hR.lt2 hjx;have hB:=hR.blk;have Hput:Hid (∀W1 W2,Blk W1 g 113 (aI cur (o+(i)*2) [.int .i64 y.1,.int .i64 y.2])→wr.grownBy W1 (some g)→Blk W2 g 113 (aI (aI cur (o+(i)*2) [.int .i64 y.1,.int .i64 y.2]) (o+(a)*2) [.int .i64 x.1,.int .i64 x.2])→W1.grownBy W2 (some g)→Sw W0 113 g o cap xs0 W2):=Lib.hid (by intro W1 W2 h1 h2 h3 h4;subst hx hy;exact Sw.put2 hg hR hp hix hjx h1 h2 h3 h4)
     have hmA:True:=trivial;go_wp2
     have hX:=Ext.todrew (Ext.refl wr);refine aR (.take 0 (.take 1 (.take 2 (.take 3 (.take 4 (.take 5 (.take 6 (.take 7 (.take 8 (.take 9 (.take 10 (.take 11 (.take 12 (.one 13 (.take 14 (.take 15 .nil)))))))))))))))) (fun w'=>Ext wr w') ?_ (fun hHd=> ?_)
     ·assumption
     repeat' first|((with_reducible refine aB ?_);(first|((with_reducible refine aB (i:=2) ?_);refine tk (v:=.bool true) ?_ hHd ?_;(·(intro wq hSw;go_simp;first|done|omega|(simp;omega))))|((with_reducible refine aB (i:=8) ?_);refine tw (v:=.agg #[.int .i64 x.1,.int .i64 x.2]) ?_ hHd ?_;(·exact aA (by rfl) (fun W h=>aN (hi2.ext h))))|((with_reducible refine aB (i:=12) ?_);refine tw (v:=.agg #[.int .i64 y.1,.int .i64 y.2]) ?_ hHd ?_;(·exact aA (by rfl) (fun W h=>aN (hj2.ext h))))|(refine tk (v:= ?_) ?_ hHd ?_;rotate_left;(·(intro wq hSw;(try dsimp only at hSw);go_simp;(try with_reducible rfl))))|(refine tw (v:= ?_) ?_ hHd ?_;rotate_left;(·(intro wq hSw;(try dsimp only at hSw);go_simp;(try with_reducible rfl)))));(try simp only[pS]))|((with_reducible refine bC ?_);refine aQ (by simp only[gS];rfl) ?_)|((with_reducible refine aH (d:=some 45) ?_);((refine bN (by rfl) (hcmp _ (bQ hg hX) x y) (by go_simp) ?_;rintro e Wc ⟨⟨r,rfl⟩,hEc⟩;refine⟨_,rfl,?_⟩;have hXc:=hX.trans hEc;obtain⟨bb,hbb⟩:∃b,decide (r<0)=b:=⟨_,rfl⟩)))|((with_reducible refine bB ?_);clear hHd;refine aJ ?_ (fun hHd=> ?_);(·assumption);(try simp only[pS]))|(with_reducible refine aG ?_)
     have hSr:=Sw.ext (⟨hg,cur,xs,hR,hp⟩:Sw W0 113 g o cap xs0 wr) hXc;clear hX hXc hi2 hj2 hB hR Hput hg hx hy hp f1 f2 hmA;generalize Wc=wr at hSr⊢
     cases bb
     ·obtain⟨hf0,ha1,ha4,hle⟩:=Hi.out;clear Hi;go_wp2
      refine⟨by first|rfl|trivial,?_⟩
      refine bL ?_ ?_
      ·simp only[Act.sets,Act.put,List.foldl_cons,List.foldl_nil,List.setIfInBounds_toArray,List.set_cons_zero,List.set_cons_succ,Act.get];rfl
      exact⟨i,rfl,hSr,ha1,ha4⟩
     ·go_wp2
      go_roundw
      case rel=>obtain⟨⟨e1,e2,e3,e4,e5⟩,e6,e7,e8⟩:=Hi.out;exact⟨hSr,i+1,by go_num,by omega,by omega⟩
      case measure=>obtain⟨⟨e1,e2,e3,e4,e5⟩,e6,e7,e8⟩:=Hi.out;simp[intOf];omega
    ·have hzz:¬((i:Int)≤(j0:Int)):=by omega
     go_wp2
     have hX:=Ext.todrew (Ext.refl wr);refine aR (.take 0 (.take 1 (.take 2 (.take 3 (.take 4 (.take 5 (.take 6 (.take 7 (.take 8 (.take 9 (.take 10 (.take 11 (.take 12 (.one 13 (.take 14 (.take 15 .nil)))))))))))))))) (fun w'=>Ext wr w') ?_ (fun hHd=> ?_)
     ·assumption
     repeat' first|((with_reducible refine aB ?_);(first|((with_reducible refine aB (i:=2) ?_);refine tk (v:=.bool false) ?_ hHd ?_;(·(intro wq hSw;go_simp;first|done|omega|(simp;omega))))|(refine tk (v:= ?_) ?_ hHd ?_;rotate_left;(·(intro wq hSw;(try dsimp only at hSw);go_simp;(try with_reducible rfl))))|refine ts hHd ?_);(try simp only[pS]))|((with_reducible refine bC ?_);refine aQ (by simp only[gS];rfl) ?_)|((with_reducible refine aH (d:=some 45) ?_);refine dK (by rfl) ?_)|((with_reducible refine bB ?_);clear hHd;refine aJ ?_ (fun hHd=> ?_);(·assumption);(try simp only[pS]))|(with_reducible refine aG ?_)
     have hSr:=Sw.ext hSr hX;clear hX;go_wp2
     refine⟨by first|rfl|trivial,?_⟩
     refine bL ?_ ?_
     ·simp only[Act.sets,Act.put,List.foldl_cons,List.foldl_nil,List.setIfInBounds_toArray,List.set_cons_zero,List.set_cons_succ,Act.get];rfl
     exact⟨i,rfl,hSr,ha1,ha4⟩
  clear hSr;rintro x9 wr ⟨i,hx12,hSr,ha1,ha4⟩;simp only[Act.sets,Act.put,List.foldl_cons,List.foldl_nil,List.setIfInBounds_toArray,List.set_cons_zero,List.set_cons_succ,hx12];clear hx12;go_wp2
  apply pR (.exit 2) [13,50,51,52,53,54,55,56,57,58,59,60,61,62,63,64,65,66,67,68] (fun x w'=>∃j:Nat,x 13=.int .i64 j∧Sw W0 113 g o cap xs0 w'∧a≤j∧j≤j0∧(i≤j0+1→i≤j+1))
  case h=>
   go_loopw [13] (fun vj wr=>Sw W0 113 g o cap xs0 wr∧∃j:Nat,vj=.int .i64 j∧a≤j∧j≤j0∧(i≤j0+1→i≤j+1)) (fun vj _=>(intOf vj).toNat)
   case atStart=>exact⟨hSr,j0,by first|rfl|go_num,by omega,by omega,by omega⟩
   case round=>
    obtain⟨hSr,j,rfl,b1,b2,b3⟩:=hrel;by_cases hle2:i≤j
    ·have hz2:(i:Int)≤(j:Int):=by omega
     have q4:j<xs0.length:=by omega
     have z4:(j:Int)<(xs0.length:Int):=by omega
     have j1:1≤j:=by omega
     have HI:=Lib.hid (⟨hf0,ha1,b1,b2,b3,hle2⟩:(_∧_∧_∧_∧_)∧_∧_∧_∧_∧_);clear hf0 ha1 ha4 b1 b2 b3 hle2;obtain⟨hg,cur,xs,hR,hp⟩:=hSr;have hlen:=hp.length_eq;have hix:j<xs.length:=by omega
     have hjx:a<xs.length:=by omega
     have hi2:=hR.at_ hix;have hj2:=hR.at_ hjx;obtain⟨x,hx⟩:∃x,xs[j]=x:=⟨_,rfl⟩;obtain⟨y,hy⟩:∃y,xs[a]=y:=⟨_,rfl⟩;rw[hx] at hi2;rw[hy] at hj2;have f1:=hR.lt2 hix;have f2:=hR.lt2 hjx;have hB:=hR.blk;have Hput:Hid (∀W1 W2,Blk W1 g 113 (aI cur (o+(j)*2) [.int .i64 y.1,.int .i64 y.2])→wr.grownBy W1 (some g)→Blk W2 g 113 (aI (aI cur (o+(j)*2) [.int .i64 y.1,.int .i64 y.2]) (o+(a)*2) [.int .i64 x.1,.int .i64 x.2])→W1.grownBy W2 (some g)→Sw W0 113 g o cap xs0 W2):=Lib.hid (by intro W1 W2 h1 h2 h3 h4;subst hx hy;exact Sw.put2 hg hR hp hix hjx h1 h2 h3 h4)
     have hmA:True:=trivial;go_wp2
     have hX:=Ext.todrew (Ext.refl wr);refine aR (.take 0 (.take 1 (.take 2 (.take 3 (.take 4 (.take 5 (.take 6 (.take 7 (.take 8 (.take 9 (.take 10 (.take 11 (.take 12 (.one 13 (.take 14 (.take 15 (.take 16 .nil))))))))))))))))) (fun w'=>Ext wr w') ?_ (fun hHd=> ?_)
     ·assumption
     repeat' first|((with_reducible refine aB ?_);(first|((with_reducible refine aB (i:=2) ?_);refine tk (v:=.bool true) ?_ hHd ?_;(·(intro wq hSw;go_simp;first|done|omega|(simp;omega))))|((with_reducible refine aB (i:=8) ?_);refine tw (v:=.agg #[.int .i64 x.1,.int .i64 x.2]) ?_ hHd ?_;(·exact aA (by rfl) (fun W h=>aN (hi2.ext h))))|((with_reducible refine aB (i:=12) ?_);refine tw (v:=.agg #[.int .i64 y.1,.int .i64 y.2]) ?_ hHd ?_;(·exact aA (by rfl) (fun W h=>aN (hj2.ext h))))|(refine tk (v:= ?_) ?_ hHd ?_;rotate_left;(·(intro wq hSw;(try dsimp only at hSw);go_simp;(try with_reducible rfl))))|(refine tw (v:= ?_) ?_ hHd ?_;rotate_left;(·(intro wq hSw;(try dsimp only at hSw);go_simp;(try with_reducible rfl)))));(try simp only[pS]))|((with_reducible refine bC ?_);refine aQ (by simp only[gS];rfl) ?_)|((with_reducible refine aH (d:=some 63) ?_);((refine bN (by rfl) (hcmp _ (bQ hg hX) x y) (by go_simp) ?_;rintro e Wc ⟨⟨r,rfl⟩,hEc⟩;refine⟨_,rfl,?_⟩;have hXc:=hX.trans hEc;obtain⟨bb,hbb⟩:∃b,decide (r<0)=b:=⟨_,rfl⟩)))|((with_reducible refine bB ?_);clear hHd;refine aJ ?_ (fun hHd=> ?_);(·assumption);(try simp only[pS]))|(with_reducible refine aG ?_)
     have hSr:=Sw.ext (⟨hg,cur,xs,hR,hp⟩:Sw W0 113 g o cap xs0 wr) hXc;clear hX hXc hi2 hj2 hB hR Hput hg hx hy hp f1 f2 hmA;generalize Wc=wr at hSr⊢
     cases bb
     rotate_left
     ·obtain⟨_,_,b1,b2,b3,hle2⟩:=HI.out;clear hbb HI;go_wp2
      refine⟨by first|rfl|trivial,?_⟩
      refine bL ?_ ?_
      ·simp only[Act.sets,Act.put,List.foldl_cons,List.foldl_nil,List.setIfInBounds_toArray,List.set_cons_zero,List.set_cons_succ,Act.get];rfl
      exact⟨j,rfl,hSr,b1,b2,b3⟩
     ·go_wp2
      go_roundw
      case rel=>obtain⟨⟨e1,e2,e3,e4,e5⟩,e6,b1,b2,b3,e10⟩:=HI.out;exact⟨hSr,j-1,by go_num,by omega,by omega,by omega⟩
      case measure=>simp[intOf];omega
    ·have hz2:¬((i:Int)≤(j:Int)):=by omega
     go_wp2
     have hX:=Ext.todrew (Ext.refl wr);refine aR (.take 0 (.take 1 (.take 2 (.take 3 (.take 4 (.take 5 (.take 6 (.take 7 (.take 8 (.take 9 (.take 10 (.take 11 (.take 12 (.one 13 (.take 14 (.take 15 (.take 16 .nil))))))))))))))))) (fun w'=>Ext wr w') ?_ (fun hHd=> ?_)
     ·assumption
     repeat' first|((with_reducible refine aB ?_);(first|((with_reducible refine aB (i:=2) ?_);refine tk (v:=.bool false) ?_ hHd ?_;(·(intro wq hSw;go_simp;first|done|omega|(simp;omega))))|(refine tk (v:= ?_) ?_ hHd ?_;rotate_left;(·(intro wq hSw;(try dsimp only at hSw);go_simp;(try with_reducible rfl))))|refine ts hHd ?_);(try simp only[pS]))|((with_reducible refine bC ?_);refine aQ (by simp only[gS];rfl) ?_)|((with_reducible refine aH (d:=some 63) ?_);refine dK (by rfl) ?_)|((with_reducible refine bB ?_);clear hHd;refine aJ ?_ (fun hHd=> ?_);(·assumption);(try simp only[pS]))|(with_reducible refine aG ?_)
     have hSr:=Sw.ext hSr hX;clear hX;go_wp2
     refine⟨by first|rfl|trivial,?_⟩
     refine bL ?_ ?_
     ·simp only[Act.sets,Act.put,List.foldl_cons,List.foldl_nil,List.setIfInBounds_toArray,List.set_cons_zero,List.set_cons_succ,Act.get];rfl
     exact⟨j,rfl,hSr,b1,b2,b3⟩
  clear hSr;rintro x8 wr ⟨j,hx13,hSr,b1,b2,b3⟩;simp only[Act.sets,Act.put,List.foldl_cons,List.foldl_nil,List.setIfInBounds_toArray,List.set_cons_zero,List.set_cons_succ,hx13];clear hx13;have q4:j<xs0.length:=by omega
  have z4:(j:Int)<(xs0.length:Int):=by omega
  by_cases hle2:i≤j
  ·have hgt:¬((j:Int)<(i:Int)):=by omega
   have j1:1≤j:=by omega
   obtain⟨e1,e2,e3,e4,e5⟩:=hf0;have e6:=ha1;clear ha1 ha4;go_wp2
   have q3:i<xs0.length:=by omega
   have z3:(i:Int)<(xs0.length:Int):=by omega
   obtain⟨hg,cur,xs,hR,hp⟩:=hSr;have hlen:=hp.length_eq;have hix:i<xs.length:=by omega
   have hjx:j<xs.length:=by omega
   have hi2:=hR.at_ hix;have hj2:=hR.at_ hjx;obtain⟨x,hx⟩:∃x,xs[i]=x:=⟨_,rfl⟩;obtain⟨y,hy⟩:∃y,xs[j]=y:=⟨_,rfl⟩;rw[hx] at hi2;rw[hy] at hj2;have f1:=hR.lt2 hix;have f2:=hR.lt2 hjx;have hB:=hR.blk;have Hput:Hid (∀W1 W2,Blk W1 g 113 (aI cur (o+(i)*2) [.int .i64 y.1,.int .i64 y.2])→wr.grownBy W1 (some g)→Blk W2 g 113 (aI (aI cur (o+(i)*2) [.int .i64 y.1,.int .i64 y.2]) (o+(j)*2) [.int .i64 x.1,.int .i64 x.2])→W1.grownBy W2 (some g)→Sw W0 113 g o cap xs0 W2):=Lib.hid (by intro W1 W2 h1 h2 h3 h4;subst hx hy;exact Sw.put2 hg hR hp hix hjx h1 h2 h3 h4)
   have hmA:True:=trivial;apply gC (R:=fun w'=>Sw W0 113 g o cap xs0 w')
   case h=>
    have hBd:=hB.d;have hi2d:=hi2.d;have hj2d:=hj2.d;refine aR (.take 0 (.take 1 (.take 2 (.take 3 (.take 4 (.take 5 (.take 6 (.take 8 (.take 9 (.take 10 (.two 7 (.one 11 (.take 12 (.one 13 (.take 14 (.one 15 .nil))))) 11 (.one 7 (.take 12 (.one 13 (.take 14 (.one 15 .nil)))))))))))))))) (fun w'=>True) ?_ (fun hHd=> ?_)
    ·exact True.intro
    repeat' first|((with_reducible refine aB ?_);(refine tk (v:= ?_) ?_ hHd ?_;rotate_left;(·(intro wq hSw;(try dsimp only at hSw);go_simp;(try with_reducible rfl))));(try simp only[pS]))|((with_reducible refine bC ?_);refine aQ (by simp only[gS];rfl) ?_)|((with_reducible refine fQ ?_);refine dI (by simp only[gS];rfl) (by simp only[gS];rfl) ?_ ?_)|((with_reducible refine aH (d:=some 94) ?_);(((with_reducible refine aC (d:=some 94) (hl:=aN hj2d) ?_ ?_);rfl)))|((with_reducible refine aH (d:=some 98) ?_);(((with_reducible refine aC (d:=some 98) (hl:=aN hi2d) ?_ ?_);rfl)))|((with_reducible refine aH (d:=none) ?_);((first|((with_reducible refine aK (t:=113) (e:=113) (g:=g) (off:=o+j*2) (n:=2) (v:=.agg #[.int .i64 x.1,.int .i64 x.2]) ?_ ?_ hB1 aW ?_ ?_ ?_ ?_);rfl;rfl;rfl;(rw[bW (by exact f1)];exact f2);(simp[Value.cells,Value.oneCell']);intro W2 hB2 hg2)|((with_reducible refine aK (t:=113) (e:=113) (g:=g) (off:=o+i*2) (n:=2) (v:=.agg #[.int .i64 y.1,.int .i64 y.2]) ?_ ?_ hBd aW ?_ ?_ ?_ ?_);rfl;rfl;rfl;exact f1;(simp[Value.cells,Value.oneCell']);intro W1 hB1 hg1;replace hg1:=bE hg1))))|((with_reducible refine bB ?_);clear hHd;refine aJ ?_ (fun hHd=> ?_);(·exact True.intro);(try simp only[pS]))|(with_reducible refine aG ?_)
    all_goals exact⟨rfl,rfl,Hput.out _ _ hB1 hg1 hB2 hg2⟩
   case k=>
    intro Wq hSw;go_wp2
    clear Hput hi2 hj2 hB hR hg hx hy hp f1 f2;go_loopw [12,13] (fun vi vj wr=>Sw W0 113 g o cap xs0 wr∧∃i j:Nat,vi=.int .i64 i∧vj=.int .i64 j∧a+1≤i∧i≤b∧a≤j∧j+1≤b∧i≤j+2) (fun vi vj _=>(intOf vj+2-intOf vi).toNat)
    case atStart=>exact⟨hSw,i+1,j-1,by go_num,by go_num,by omega,by omega,by omega,by omega,by omega⟩
    case round=>
     clear hSw q3 q4 z3 z4 hgt j1 e1 e2 e3 e4 e5 e6 b1 b2 b3 hle2;obtain⟨hSr,i0,j0,rfl,rfl,hf0⟩:=hrel;go_wp2
     apply pR (.exit 6) [12,105,106,107,108,109,110,111,112,113,114,115,116,117,118,119,120,121,122] (fun x w'=>∃i:Nat,x 12=.int .i64 i∧Sw W0 113 g o cap xs0 w'∧i0≤i∧(i0≤j0+1→i≤j0+1))
     case h=>
      go_loopw [12] (fun vi wr=>Sw W0 113 g o cap xs0 wr∧∃i:Nat,vi=.int .i64 i∧i0≤i∧(i0≤j0+1→i≤j0+1)) (fun vi _=>j0+2-(intOf vi).toNat)
      case atStart=>exact⟨hSr,i0,by first|rfl|go_num,by omega,by omega⟩
      case round=>
       obtain⟨hSr,i,rfl,ha1,ha4⟩:=hrel;by_cases hle:i≤j0
       ·have hzz:(i:Int)≤(j0:Int):=by omega
        have q3:i<xs0.length:=by omega
        have z3:(i:Int)<(xs0.length:Int):=by omega
        have Hi:=Lib.hid (⟨hf0,ha1,ha4,hle⟩:(_∧_∧_∧_∧_)∧_∧_∧_);clear hf0 ha1 ha4 hle;obtain⟨hg,cur,xs,hR,hp⟩:=hSr;have hlen:=hp.length_eq;have hix:i<xs.length:=by omega
        have hjx:a<xs.length:=by omega
        have hi2:=hR.at_ hix;have hj2:=hR.at_ hjx;obtain⟨x,hx⟩:∃x,xs[i]=x:=⟨_,rfl⟩;obtain⟨y,hy⟩:∃y,xs[a]=y:=⟨_,rfl⟩;rw[hx] at hi2;rw[hy] at hj2;have f1:=hR.lt2 hix;have f2:=hR.lt2 hjx;have hB:=hR.blk;have Hput:Hid (∀W1 W2,Blk W1 g 113 (aI cur (o+(i)*2) [.int .i64 y.1,.int .i64 y.2])→wr.grownBy W1 (some g)→Blk W2 g 113 (aI (aI cur (o+(i)*2) [.int .i64 y.1,.int .i64 y.2]) (o+(a)*2) [.int .i64 x.1,.int .i64 x.2])→W1.grownBy W2 (some g)→Sw W0 113 g o cap xs0 W2):=Lib.hid (by intro W1 W2 h1 h2 h3 h4;subst hx hy;exact Sw.put2 hg hR hp hix hjx h1 h2 h3 h4)
        have hmA:True:=trivial;go_wp2
        have hX:=Ext.todrew (Ext.refl wr);refine aR (.take 0 (.take 1 (.take 2 (.take 3 (.take 4 (.take 5 (.take 6 (.take 7 (.take 8 (.take 9 (.take 10 (.take 11 (.take 12 (.one 13 (.take 14 (.take 15 .nil)))))))))))))))) (fun w'=>Ext wr w') ?_ (fun hHd=> ?_)
        ·assumption
        repeat' first|((with_reducible refine aB ?_);(first|((with_reducible refine aB (i:=2) ?_);refine tk (v:=.bool true) ?_ hHd ?_;(·(intro wq hSw;go_simp;first|done|omega|(simp;omega))))|((with_reducible refine aB (i:=8) ?_);refine tw (v:=.agg #[.int .i64 x.1,.int .i64 x.2]) ?_ hHd ?_;(·exact aA (by rfl) (fun W h=>aN (hi2.ext h))))|((with_reducible refine aB (i:=12) ?_);refine tw (v:=.agg #[.int .i64 y.1,.int .i64 y.2]) ?_ hHd ?_;(·exact aA (by rfl) (fun W h=>aN (hj2.ext h))))|(refine tk (v:= ?_) ?_ hHd ?_;rotate_left;(·(intro wq hSw;(try dsimp only at hSw);go_simp;(try with_reducible rfl))))|(refine tw (v:= ?_) ?_ hHd ?_;rotate_left;(·(intro wq hSw;(try dsimp only at hSw);go_simp;(try with_reducible rfl)))));(try simp only[pS]))|((with_reducible refine bC ?_);refine aQ (by simp only[gS];rfl) ?_)|((with_reducible refine aH (d:=some 118) ?_);((refine bN (by rfl) (hcmp _ (bQ hg hX) x y) (by go_simp) ?_;rintro e Wc ⟨⟨r,rfl⟩,hEc⟩;refine⟨_,rfl,?_⟩;have hXc:=hX.trans hEc;obtain⟨bb,hbb⟩:∃b,decide (r<0)=b:=⟨_,rfl⟩)))|((with_reducible refine bB ?_);clear hHd;refine aJ ?_ (fun hHd=> ?_);(·assumption);(try simp only[pS]))|(with_reducible refine aG ?_)
        have hSr:=Sw.ext (⟨hg,cur,xs,hR,hp⟩:Sw W0 113 g o cap xs0 wr) hXc;clear hX hXc hi2 hj2 hB hR Hput hg hx hy hp f1 f2 hmA;generalize Wc=wr at hSr⊢
        cases bb
        ·obtain⟨hf0,ha1,ha4,hle⟩:=Hi.out;clear Hi;go_wp2
         refine⟨by first|rfl|trivial,?_⟩
         refine bL ?_ ?_
         ·simp only[Act.sets,Act.put,List.foldl_cons,List.foldl_nil,List.setIfInBounds_toArray,List.set_cons_zero,List.set_cons_succ,Act.get];rfl
         exact⟨i,rfl,hSr,ha1,ha4⟩
        ·go_wp2
         go_roundw
         case rel=>obtain⟨⟨e1,e2,e3,e4,e5⟩,e6,e7,e8⟩:=Hi.out;exact⟨hSr,i+1,by go_num,by omega,by omega⟩
         case measure=>obtain⟨⟨e1,e2,e3,e4,e5⟩,e6,e7,e8⟩:=Hi.out;simp[intOf];omega
       ·have hzz:¬((i:Int)≤(j0:Int)):=by omega
        go_wp2
        have hX:=Ext.todrew (Ext.refl wr);refine aR (.take 0 (.take 1 (.take 2 (.take 3 (.take 4 (.take 5 (.take 6 (.take 7 (.take 8 (.take 9 (.take 10 (.take 11 (.take 12 (.one 13 (.take 14 (.take 15 .nil)))))))))))))))) (fun w'=>Ext wr w') ?_ (fun hHd=> ?_)
        ·assumption
        repeat' first|((with_reducible refine aB ?_);(first|((with_reducible refine aB (i:=2) ?_);refine tk (v:=.bool false) ?_ hHd ?_;(·(intro wq hSw;go_simp;first|done|omega|(simp;omega))))|(refine tk (v:= ?_) ?_ hHd ?_;rotate_left;(·(intro wq hSw;(try dsimp only at hSw);go_simp;(try with_reducible rfl))))|refine ts hHd ?_);(try simp only[pS]))|((with_reducible refine bC ?_);refine aQ (by simp only[gS];rfl) ?_)|((with_reducible refine aH (d:=some 118) ?_);refine dK (by rfl) ?_)|((with_reducible refine bB ?_);clear hHd;refine aJ ?_ (fun hHd=> ?_);(·assumption);(try simp only[pS]))|(with_reducible refine aG ?_)
        have hSr:=Sw.ext hSr hX;clear hX;go_wp2
        refine⟨by first|rfl|trivial,?_⟩
        refine bL ?_ ?_
        ·simp only[Act.sets,Act.put,List.foldl_cons,List.foldl_nil,List.setIfInBounds_toArray,List.set_cons_zero,List.set_cons_succ,Act.get];rfl
        exact⟨i,rfl,hSr,ha1,ha4⟩
     clear hSr;rintro x9 wr ⟨i,hx12,hSr,ha1,ha4⟩;simp only[Act.sets,Act.put,List.foldl_cons,List.foldl_nil,List.setIfInBounds_toArray,List.set_cons_zero,List.set_cons_succ,hx12];clear hx12;go_wp2
     apply pR (.exit 8) [13,123,124,125,126,127,128,129,130,131,132,133,134,135,136,137,138,139,140,141] (fun x w'=>∃j:Nat,x 13=.int .i64 j∧Sw W0 113 g o cap xs0 w'∧a≤j∧j≤j0∧(i≤j0+1→i≤j+1))
     case h=>
      go_loopw [13] (fun vj wr=>Sw W0 113 g o cap xs0 wr∧∃j:Nat,vj=.int .i64 j∧a≤j∧j≤j0∧(i≤j0+1→i≤j+1)) (fun vj _=>(intOf vj).toNat)
      case atStart=>exact⟨hSr,j0,by first|rfl|go_num,by omega,by omega,by omega⟩
      case round=>
       obtain⟨hSr,j,rfl,b1,b2,b3⟩:=hrel;by_cases hle2:i≤j
       ·have hz2:(i:Int)≤(j:Int):=by omega
        have q4:j<xs0.length:=by omega
        have z4:(j:Int)<(xs0.length:Int):=by omega
        have j1:1≤j:=by omega
        have HI:=Lib.hid (⟨hf0,ha1,b1,b2,b3,hle2⟩:(_∧_∧_∧_∧_)∧_∧_∧_∧_∧_);clear hf0 ha1 ha4 b1 b2 b3 hle2;obtain⟨hg,cur,xs,hR,hp⟩:=hSr;have hlen:=hp.length_eq;have hix:j<xs.length:=by omega
        have hjx:a<xs.length:=by omega
        have hi2:=hR.at_ hix;have hj2:=hR.at_ hjx;obtain⟨x,hx⟩:∃x,xs[j]=x:=⟨_,rfl⟩;obtain⟨y,hy⟩:∃y,xs[a]=y:=⟨_,rfl⟩;rw[hx] at hi2;rw[hy] at hj2;have f1:=hR.lt2 hix;have f2:=hR.lt2 hjx;have hB:=hR.blk;have Hput:Hid (∀W1 W2,Blk W1 g 113 (aI cur (o+(j)*2) [.int .i64 y.1,.int .i64 y.2])→wr.grownBy W1 (some g)→Blk W2 g 113 (aI (aI cur (o+(j)*2) [.int .i64 y.1,.int .i64 y.2]) (o+(a)*2) [.int .i64 x.1,.int .i64 x.2])→W1.grownBy W2 (some g)→Sw W0 113 g o cap xs0 W2):=Lib.hid (by intro W1 W2 h1 h2 h3 h4;subst hx hy;exact Sw.put2 hg hR hp hix hjx h1 h2 h3 h4)
        have hmA:True:=trivial;go_wp2
        have hX:=Ext.todrew (Ext.refl wr);refine aR (.take 0 (.take 1 (.take 2 (.take 3 (.take 4 (.take 5 (.take 6 (.take 7 (.take 8 (.take 9 (.take 10 (.take 11 (.take 12 (.one 13 (.take 14 (.take 15 (.take 16 .nil))))))))))))))))) (fun w'=>Ext wr w') ?_ (fun hHd=> ?_)
        ·assumption
        repeat' first|((with_reducible refine aB ?_);(first|((with_reducible refine aB (i:=2) ?_);refine tk (v:=.bool true) ?_ hHd ?_;(·(intro wq hSw;go_simp;first|done|omega|(simp;omega))))|((with_reducible refine aB (i:=8) ?_);refine tw (v:=.agg #[.int .i64 x.1,.int .i64 x.2]) ?_ hHd ?_;(·exact aA (by rfl) (fun W h=>aN (hi2.ext h))))|((with_reducible refine aB (i:=12) ?_);refine tw (v:=.agg #[.int .i64 y.1,.int .i64 y.2]) ?_ hHd ?_;(·exact aA (by rfl) (fun W h=>aN (hj2.ext h))))|(refine tk (v:= ?_) ?_ hHd ?_;rotate_left;(·(intro wq hSw;(try dsimp only at hSw);go_simp;(try with_reducible rfl))))|(refine tw (v:= ?_) ?_ hHd ?_;rotate_left;(·(intro wq hSw;(try dsimp only at hSw);go_simp;(try with_reducible rfl)))));(try simp only[pS]))|((with_reducible refine bC ?_);refine aQ (by simp only[gS];rfl) ?_)|((with_reducible refine aH (d:=some 136) ?_);((refine bN (by rfl) (hcmp _ (bQ hg hX) x y) (by go_simp) ?_;rintro e Wc ⟨⟨r,rfl⟩,hEc⟩;refine⟨_,rfl,?_⟩;have hXc:=hX.trans hEc;obtain⟨bb,hbb⟩:∃b,decide (r<0)=b:=⟨_,rfl⟩)))|((with_reducible refine bB ?_);clear hHd;refine aJ ?_ (fun hHd=> ?_);(·assumption);(try simp only[pS]))|(with_reducible refine aG ?_)
        have hSr:=Sw.ext (⟨hg,cur,xs,hR,hp⟩:Sw W0 113 g o cap xs0 wr) hXc;clear hX hXc hi2 hj2 hB hR Hput hg hx hy hp f1 f2 hmA;generalize Wc=wr at hSr⊢
        cases bb
        rotate_left
        ·obtain⟨_,_,b1,b2,b3,hle2⟩:=HI.out;clear hbb HI;go_wp2
         refine⟨by first|rfl|trivial,?_⟩
         refine bL ?_ ?_
         ·simp only[Act.sets,Act.put,List.foldl_cons,List.foldl_nil,List.setIfInBounds_toArray,List.set_cons_zero,List.set_cons_succ,Act.get];rfl
         exact⟨j,rfl,hSr,b1,b2,b3⟩
        ·go_wp2
         go_roundw
         case rel=>obtain⟨⟨e1,e2,e3,e4,e5⟩,e6,b1,b2,b3,e10⟩:=HI.out;exact⟨hSr,j-1,by go_num,by omega,by omega,by omega⟩
         case measure=>simp[intOf];omega
       ·have hz2:¬((i:Int)≤(j:Int)):=by omega
        go_wp2
        have hX:=Ext.todrew (Ext.refl wr);refine aR (.take 0 (.take 1 (.take 2 (.take 3 (.take 4 (.take 5 (.take 6 (.take 7 (.take 8 (.take 9 (.take 10 (.take 11 (.take 12 (.one 13 (.take 14 (.take 15 (.take 16 .nil))))))))))))))))) (fun w'=>Ext wr w') ?_ (fun hHd=> ?_)
        ·assumption
        repeat' first|((with_reducible refine aB ?_);(first|((with_reducible refine aB (i:=2) ?_);refine tk (v:=.bool false) ?_ hHd ?_;(·(intro wq hSw;go_simp;first|done|omega|(simp;omega))))|(refine tk (v:= ?_) ?_ hHd ?_;rotate_left;(·(intro wq hSw;(try dsimp only at hSw);go_simp;(try with_reducible rfl))))|refine ts hHd ?_);(try simp only[pS]))|((with_reducible refine bC ?_);refine aQ (by simp only[gS];rfl) ?_)|((with_reducible refine aH (d:=some 136) ?_);refine dK (by rfl) ?_)|((with_reducible refine bB ?_);clear hHd;refine aJ ?_ (fun hHd=> ?_);(·assumption);(try simp only[pS]))|(with_reducible refine aG ?_)
        have hSr:=Sw.ext hSr hX;clear hX;go_wp2
        refine⟨by first|rfl|trivial,?_⟩
        refine bL ?_ ?_
        ·simp only[Act.sets,Act.put,List.foldl_cons,List.foldl_nil,List.setIfInBounds_toArray,List.set_cons_zero,List.set_cons_succ,Act.get];rfl
        exact⟨j,rfl,hSr,b1,b2,b3⟩
     clear hSr;rintro x8 wr ⟨j,hx13,hSr,b1,b2,b3⟩;simp only[Act.sets,Act.put,List.foldl_cons,List.foldl_nil,List.setIfInBounds_toArray,List.set_cons_zero,List.set_cons_succ,hx13];clear hx13;have q4:j<xs0.length:=by omega
     have z4:(j:Int)<(xs0.length:Int):=by omega
     by_cases hle2:i≤j
     ·have hgt:¬((j:Int)<(i:Int)):=by omega
      have j1:1≤j:=by omega
      obtain⟨e1,e2,e3,e4,e5⟩:=hf0;have e6:=ha1;clear ha1 ha4;go_wp2
      have q3:i<xs0.length:=by omega
      have z3:(i:Int)<(xs0.length:Int):=by omega
      obtain⟨hg,cur,xs,hR,hp⟩:=hSr;have hlen:=hp.length_eq;have hix:i<xs.length:=by omega
      have hjx:j<xs.length:=by omega
      have hi2:=hR.at_ hix;have hj2:=hR.at_ hjx;obtain⟨x,hx⟩:∃x,xs[i]=x:=⟨_,rfl⟩;obtain⟨y,hy⟩:∃y,xs[j]=y:=⟨_,rfl⟩;rw[hx] at hi2;rw[hy] at hj2;have f1:=hR.lt2 hix;have f2:=hR.lt2 hjx;have hB:=hR.blk;have Hput:Hid (∀W1 W2,Blk W1 g 113 (aI cur (o+(i)*2) [.int .i64 y.1,.int .i64 y.2])→wr.grownBy W1 (some g)→Blk W2 g 113 (aI (aI cur (o+(i)*2) [.int .i64 y.1,.int .i64 y.2]) (o+(j)*2) [.int .i64 x.1,.int .i64 x.2])→W1.grownBy W2 (some g)→Sw W0 113 g o cap xs0 W2):=Lib.hid (by intro W1 W2 h1 h2 h3 h4;subst hx hy;exact Sw.put2 hg hR hp hix hjx h1 h2 h3 h4)
      have hmA:True:=trivial;have hBd:=hB.d;have hi2d:=hi2.d;have hj2d:=hj2.d;refine aR (.take 0 (.take 1 (.take 2 (.take 3 (.take 4 (.take 5 (.take 6 (.take 8 (.take 9 (.take 10 (.two 7 (.one 11 (.take 12 (.one 13 (.take 14 (.one 15 .nil))))) 11 (.one 7 (.take 12 (.one 13 (.take 14 (.one 15 .nil)))))))))))))))) (fun w'=>True) ?_ (fun hHd=> ?_)
      ·exact True.intro
      repeat' first|((with_reducible refine aB ?_);(refine tk (v:= ?_) ?_ hHd ?_;rotate_left;(·(intro wq hSw;(try dsimp only at hSw);go_simp;(try with_reducible rfl))));(try simp only[pS]))|((with_reducible refine bC ?_);refine aQ (by simp only[gS];rfl) ?_)|((with_reducible refine fQ ?_);refine dI (by simp only[gS];rfl) (by simp only[gS];rfl) ?_ ?_)|((with_reducible refine aH (d:=some 152) ?_);(((with_reducible refine aC (d:=some 152) (hl:=aN hj2d) ?_ ?_);rfl)))|((with_reducible refine aH (d:=some 156) ?_);(((with_reducible refine aC (d:=some 156) (hl:=aN hi2d) ?_ ?_);rfl)))|((with_reducible refine aH (d:=none) ?_);((first|((with_reducible refine aK (t:=113) (e:=113) (g:=g) (off:=o+j*2) (n:=2) (v:=.agg #[.int .i64 x.1,.int .i64 x.2]) ?_ ?_ hB1 aW ?_ ?_ ?_ ?_);rfl;rfl;rfl;(rw[bW (by exact f1)];exact f2);(simp[Value.cells,Value.oneCell']);intro W2 hB2 hg2)|((with_reducible refine aK (t:=113) (e:=113) (g:=g) (off:=o+i*2) (n:=2) (v:=.agg #[.int .i64 y.1,.int .i64 y.2]) ?_ ?_ hBd aW ?_ ?_ ?_ ?_);rfl;rfl;rfl;exact f1;(simp[Value.cells,Value.oneCell']);intro W1 hB1 hg1;replace hg1:=bE hg1))))|((with_reducible refine bB ?_);clear hHd;refine aJ ?_ (fun hHd=> ?_);(·exact True.intro);(try simp only[pS]))|(with_reducible refine aG ?_)
      all_goals
       have hSw:=Hput.out _ _ hB1 hg1 hB2 hg2;clear hB1 hB2 hg1 hg2 Hput hi2 hj2 hB hR hg hx hy hp f1 f2 hBd hi2d hj2d;go_wp2
       go_roundw
       case rel=>exact⟨hSw,i+1,j-1,by go_num,by go_num,by omega,by omega,by omega,by omega,by omega⟩
       case measure=>simp[intOf];omega
     ·have hgt:(j:Int)<(i:Int):=by omega
      go_wp2
      have HJ:=Lib.hid (⟨b1,b2,hf0⟩:_∧_∧_∧_∧_∧_∧_);obtain⟨hg,cur,xs,hR,hp⟩:=hSr;have hlen:=hp.length_eq;have hix:j<xs.length:=by omega
      have hjx:a<xs.length:=by omega
      have hi2:=hR.at_ hix;have hj2:=hR.at_ hjx;obtain⟨x,hx⟩:∃x,xs[j]=x:=⟨_,rfl⟩;obtain⟨y,hy⟩:∃y,xs[a]=y:=⟨_,rfl⟩;rw[hx] at hi2;rw[hy] at hj2;have f1:=hR.lt2 hix;have f2:=hR.lt2 hjx;have hB:=hR.blk;have Hput:Hid (∀W1 W2,Blk W1 g 113 (aI cur (o+(j)*2) [.int .i64 y.1,.int .i64 y.2])→wr.grownBy W1 (some g)→Blk W2 g 113 (aI (aI cur (o+(j)*2) [.int .i64 y.1,.int .i64 y.2]) (o+(a)*2) [.int .i64 x.1,.int .i64 x.2])→W1.grownBy W2 (some g)→Sw W0 113 g o cap xs0 W2):=Lib.hid (by intro W1 W2 h1 h2 h3 h4;subst hx hy;exact Sw.put2 hg hR hp hix hjx h1 h2 h3 h4)
      have hmA:True:=trivial;have hBd:=hB.d;have hi2d:=hi2.d;have hj2d:=hj2.d;refine aR (.take 0 (.take 1 (.take 2 (.take 3 (.take 4 (.take 5 (.take 6 (.take 8 (.take 9 (.take 10 (.two 7 (.one 11 (.take 12 (.one 13 (.take 14 (.one 15 .nil))))) 11 (.one 7 (.take 12 (.one 13 (.take 14 (.one 15 .nil)))))))))))))))) (fun w'=>True) ?_ (fun hHd=> ?_)
      ·exact True.intro
      repeat' first|((with_reducible refine aB ?_);(refine tk (v:= ?_) ?_ hHd ?_;rotate_left;(·(intro wq hSw;(try dsimp only at hSw);go_simp;(try with_reducible rfl))));(try simp only[pS]))|((with_reducible refine bC ?_);refine aQ (by simp only[gS];rfl) ?_)|((with_reducible refine fQ ?_);refine dI (by simp only[gS];rfl) (by simp only[gS];rfl) ?_ ?_)|((with_reducible refine aH (d:=some 170) ?_);(((with_reducible refine aC (d:=some 170) (hl:=aN hj2d) ?_ ?_);rfl)))|((with_reducible refine aH (d:=some 174) ?_);(((with_reducible refine aC (d:=some 174) (hl:=aN hi2d) ?_ ?_);rfl)))|((with_reducible refine aH (d:=none) ?_);((first|((with_reducible refine aK (t:=113) (e:=113) (g:=g) (off:=o+a*2) (n:=2) (v:=.agg #[.int .i64 x.1,.int .i64 x.2]) ?_ ?_ hB1 aW ?_ ?_ ?_ ?_);rfl;rfl;rfl;(rw[bW (by exact f1)];exact f2);(simp[Value.cells,Value.oneCell']);intro W2 hB2 hg2)|((with_reducible refine aK (t:=113) (e:=113) (g:=g) (off:=o+j*2) (n:=2) (v:=.agg #[.int .i64 y.1,.int .i64 y.2]) ?_ ?_ hBd aW ?_ ?_ ?_ ?_);rfl;rfl;rfl;exact f1;(simp[Value.cells,Value.oneCell']);intro W1 hB1 hg1;replace hg1:=bE hg1))))|((with_reducible refine bB ?_);clear hHd;refine aJ ?_ (fun hHd=> ?_);(·exact True.intro);(try simp only[pS]))|(with_reducible refine aG ?_)
      all_goals
       have hSw:=Hput.out _ _ hB1 hg1 hB2 hg2;clear hB1 hB2 hg1 hg2 Hput;go_wp2
       go_ret2
       exact⟨hSw,j,_,rfl,by omega,by omega⟩
  ·have hgt:(j:Int)<(i:Int):=by omega
   go_wp2
   have HJ:=Lib.hid (⟨b1,b2,hf0⟩:_∧_∧_∧_∧_∧_∧_);obtain⟨hg,cur,xs,hR,hp⟩:=hSr;have hlen:=hp.length_eq;have hix:j<xs.length:=by omega
   have hjx:a<xs.length:=by omega
   have hi2:=hR.at_ hix;have hj2:=hR.at_ hjx;obtain⟨x,hx⟩:∃x,xs[j]=x:=⟨_,rfl⟩;obtain⟨y,hy⟩:∃y,xs[a]=y:=⟨_,rfl⟩;rw[hx] at hi2;rw[hy] at hj2;have f1:=hR.lt2 hix;have f2:=hR.lt2 hjx;have hB:=hR.blk;have Hput:Hid (∀W1 W2,Blk W1 g 113 (aI cur (o+(j)*2) [.int .i64 y.1,.int .i64 y.2])→wr.grownBy W1 (some g)→Blk W2 g 113 (aI (aI cur (o+(j)*2) [.int .i64 y.1,.int .i64 y.2]) (o+(a)*2) [.int .i64 x.1,.int .i64 x.2])→W1.grownBy W2 (some g)→Sw W0 113 g o cap xs0 W2):=Lib.hid (by intro W1 W2 h1 h2 h3 h4;subst hx hy;exact Sw.put2 hg hR hp hix hjx h1 h2 h3 h4)
   have hmA:True:=trivial;have hBd:=hB.d;have hi2d:=hi2.d;have hj2d:=hj2.d;refine aR (.take 0 (.take 1 (.take 2 (.take 3 (.take 4 (.take 5 (.take 6 (.take 8 (.take 9 (.take 10 (.two 7 (.one 11 (.take 12 (.one 13 (.take 14 (.one 15 .nil))))) 11 (.one 7 (.take 12 (.one 13 (.take 14 (.one 15 .nil)))))))))))))))) (fun w'=>True) ?_ (fun hHd=> ?_)
   ·exact True.intro
   repeat' first|((with_reducible refine aB ?_);(refine tk (v:= ?_) ?_ hHd ?_;rotate_left;(·(intro wq hSw;(try dsimp only at hSw);go_simp;(try with_reducible rfl))));(try simp only[pS]))|((with_reducible refine bC ?_);refine aQ (by simp only[gS];rfl) ?_)|((with_reducible refine fQ ?_);refine dI (by simp only[gS];rfl) (by simp only[gS];rfl) ?_ ?_)|((with_reducible refine aH (d:=some 79) ?_);(((with_reducible refine aC (d:=some 79) (hl:=aN hj2d) ?_ ?_);rfl)))|((with_reducible refine aH (d:=some 83) ?_);(((with_reducible refine aC (d:=some 83) (hl:=aN hi2d) ?_ ?_);rfl)))|((with_reducible refine aH (d:=none) ?_);((first|((with_reducible refine aK (t:=113) (e:=113) (g:=g) (off:=o+a*2) (n:=2) (v:=.agg #[.int .i64 x.1,.int .i64 x.2]) ?_ ?_ hB1 aW ?_ ?_ ?_ ?_);rfl;rfl;rfl;(rw[bW (by exact f1)];exact f2);(simp[Value.cells,Value.oneCell']);intro W2 hB2 hg2)|((with_reducible refine aK (t:=113) (e:=113) (g:=g) (off:=o+j*2) (n:=2) (v:=.agg #[.int .i64 y.1,.int .i64 y.2]) ?_ ?_ hBd aW ?_ ?_ ?_ ?_);rfl;rfl;rfl;exact f1;(simp[Value.cells,Value.oneCell']);intro W1 hB1 hg1;replace hg1:=bE hg1))))|((with_reducible refine bB ?_);clear hHd;refine aJ ?_ (fun hHd=> ?_);(·exact True.intro);(try simp only[pS]))|(with_reducible refine aG ?_)
   all_goals
    have hSw:=Hput.out _ _ hB1 hg1 hB2 hg2;clear hB1 hB2 hg1 hg2 Hput;go_wp2
    go_ret2
    exact⟨hSw,j,_,rfl,by omega,by omega⟩
end Go.St
end
