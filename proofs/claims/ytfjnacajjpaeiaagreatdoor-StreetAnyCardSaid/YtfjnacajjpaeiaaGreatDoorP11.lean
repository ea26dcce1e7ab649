/- Chapter 03: contracts of functions of the program and of the reference, and plain laws (out of SQ6 SQ7 SQ8). No condition of its own. -/
import Derived.Test.YtfjnacajjpaeiaaGreatDoorP10
set_option maxRecDepth 100000
set_option linter.all false
section
namespace Go.St
open Go Go.Bp Go.RowKit Go.Proofs
theorem Az{a a':Act}{ks:List Nat}{Z:Prop}(h:a'=Act.sets a ks a'.get)(hZ:Z):∃x,a'=Act.sets a ks x∧Z:=⟨_,h,hZ⟩
set_option maxHeartbeats 16000000 in
theorem zU(W0:World)(p:Value)(g o cap:Nat)(xs0:List (Int×Int))(hcmp:tA W0 g p)(a b:Nat)(w:World)(hS:Sw W0 113 g o cap xs0 w)(hl:xs0.length≤1000000)(hb:b≤xs0.length)(hab:a<b):
 Calls Tryz.prog 143 #[.slice (some ⟨g,o,none⟩) xs0.length cap,.int .i64 a,.int .i64 b,.func (.func 97) #[p] #[]] w (fun e w'=>Sw W0 113 g o cap xs0 w'∧∃c:Bool,e=.returned (.bool c)):=by
 go_enter Tryz.func143,Tryz.ntmps143
 go_wp2
 go_loopw [10,9,11,12] (fun vk vi _ _ wr=>Sw W0 113 g o cap xs0 wr∧∃k i:Nat,vk=.int .i64 k∧vi=.int .i64 i∧k≤5∧a+1≤i∧i≤b) (fun vk _ _ _ _=>5-(intOf vk).toNat)
 case atStart=>exact⟨hS,0,a+1,rfl,by go_num,by omega,by omega,by omega⟩
 case round=>
  obtain⟨hSr,k,i0,rfl,rfl,hk,hi1,hi2⟩:=hrel;clear hS;by_cases hk5:k<5
  ·go_wp2
   go_loopw [9] (fun vi wr=>Sw W0 113 g o cap xs0 wr∧∃i:Nat,vi=.int .i64 i∧a+1≤i∧i≤b) (fun vi _=>b-(intOf vi).toNat)
   case atStart=>exact⟨hSr,i0,rfl,by omega,by omega⟩
   case round=>
    clear hSr hi1 hi2;obtain⟨hSr,i,rfl,c1,c2⟩:=hrel;obtain⟨im,rfl⟩:∃m,i=m+1:=⟨i-1,by omega⟩
    have wi:IntKind.i64.wrap (im:Int)=im:=bM (by omega) (by omega)
    have z0:(0:Int)≤(im:Int)+1:=by omega
    by_cases hib:im+1<b
    ·have hzz:(im:Int)+1<(b:Int):=by omega
     have z1:(im:Int)+1<(xs0.length:Int):=by omega
     have z2:(im:Int)<(xs0.length:Int):=by omega
     have Hi:=Lib.hid (⟨c1,c2,hib⟩:_∧_∧_);obtain⟨hg,cur,xs,hR,hp⟩:=hSr;have hlen:=hp.length_eq;have hix:im+1<xs.length:=by omega
     have hjx:im<xs.length:=by omega
     have hi2:=hR.at_ hix;have hj2:=hR.at_ hjx;obtain⟨x,hx⟩:∃x,xs[im+1]=x:=⟨_,rfl⟩;obtain⟨y,hy⟩:∃y,xs[im]=y:=⟨_,rfl⟩;rw[hx] at hi2;rw[hy] at hj2;have f1:=hR.lt2 hix;have f2:=hR.lt2 hjx;have hB:=hR.blk;have Hput:Hid (∀W1 W2,Blk W1 g 113 (aI cur (o+(im+1)*2) [.int .i64 y.1,.int .i64 y.2])→wr.grownBy W1 (some g)→Blk W2 g 113 (aI (aI cur (o+(im+1)*2) [.int .i64 y.1,.int .i64 y.2]) (o+(im)*2) [.int .i64 x.1,.int .i64 x.2])→W1.grownBy W2 (some g)→Sw W0 113 g o cap xs0 W2):=Lib.hid (by intro W1 W2 h1 h2 h3 h4;subst hx hy;exact Sw.put2 hg hR hp hix hjx h1 h2 h3 h4)
     have hmA:True:=trivial;clear c1 c2 hib;go_wp2
     have hX:=Ext.todrew (Ext.refl wr);refine aR (.take 0 (.take 1 (.take 2 (.take 3 (.take 4 (.take 5 (.take 6 (.take 7 (.take 8 (.take 9 (.take 10 (.take 11 (.take 12 (.take 13 (.one 14 (.take 15 (.take 16 (.take 17 .nil)))))))))))))))))) (fun w'=>Ext wr w') ?_ (fun hHd=> ?_)
     ·assumption
     repeat' first|((with_reducible refine aB ?_);(first|((with_reducible refine aB (i:=2) ?_);refine tk (v:=.bool true) ?_ hHd ?_;(·(intro wq hSw;go_simp;first|done|omega|(simp;omega))))|((with_reducible refine aB (i:=8) ?_);refine tw (v:=.agg #[.int .i64 x.1,.int .i64 x.2]) ?_ hHd ?_;(·exact aA (by rfl) (fun W h=>aN (hi2.ext h))))|((with_reducible refine aB (i:=13) ?_);refine tw (v:=.agg #[.int .i64 y.1,.int .i64 y.2]) ?_ hHd ?_;(·exact aA (by rfl) (fun W h=>aN (hj2.ext h))))|(refine tk (v:= ?_) ?_ hHd ?_;rotate_left;(·(intro wq hSw;(try dsimp only at hSw);go_simp;(try with_reducible rfl))))|(refine tw (v:= ?_) ?_ hHd ?_;rotate_left;(·(intro wq hSw;(try dsimp only at hSw);go_simp;(try with_reducible rfl)))));(try simp only[pS]))|((with_reducible refine bC ?_);refine aQ (by simp only[gS];rfl) ?_)|((with_reducible refine aH (d:=some 33) ?_);((refine bN (by rfl) (hcmp _ (bQ hg hX) x y) (by go_simp) ?_;rintro e Wc ⟨⟨r,rfl⟩,hEc⟩;refine⟨_,rfl,?_⟩;have hXc:=hX.trans hEc;obtain⟨bb,hbb⟩:∃b,decide (r<0)=b:=⟨_,rfl⟩)))|((with_reducible refine bB ?_);clear hHd;refine aJ ?_ (fun hHd=> ?_);(·assumption);(try simp only[pS]))|(with_reducible refine aG ?_)
     have hSr:=Sw.ext (⟨hg,cur,xs,hR,hp⟩:Sw W0 113 g o cap xs0 wr) hXc;clear hX hXc hi2 hj2 hB hR Hput hg hx hy hp f1 f2 hmA;generalize Wc=wr at hSr⊢
     cases bb
     ·go_wp2
      go_roundw
      case rel=>obtain⟨c1,c2,hib⟩:=Hi.out;exact⟨hSr,im+2,by go_num,by omega,by omega⟩
      case measure=>obtain⟨c1,c2,hib⟩:=Hi.out;simp[intOf];omega
     ·have hne:((im:Int)+1==(b:Int))=false:=by simp;omega
      have w50:IntKind.i64.wrap ((b:Int)-(a:Int))=(b:Int)-(a:Int):=bM (by omega) (by omega)
      by_cases h50:(b:Int)-(a:Int)<50
      ·go_wp2
       go_ret
       exact⟨hSr,_,rfl⟩
      ·go_wp2
       obtain⟨hg,cur,xs,hR,hp⟩:=hSr;have hlen:=hp.length_eq;have hix:im+1<xs.length:=by omega
       have hjx:im<xs.length:=by omega
       have hi2:=hR.at_ hix;have hj2:=hR.at_ hjx;obtain⟨x,hx⟩:∃x,xs[im+1]=x:=⟨_,rfl⟩;obtain⟨y,hy⟩:∃y,xs[im]=y:=⟨_,rfl⟩;rw[hx] at hi2;rw[hy] at hj2;have f1:=hR.lt2 hix;have f2:=hR.lt2 hjx;have hB:=hR.blk;have Hput:Hid (∀W1 W2,Blk W1 g 113 (aI cur (o+(im+1)*2) [.int .i64 y.1,.int .i64 y.2])→wr.grownBy W1 (some g)→Blk W2 g 113 (aI (aI cur (o+(im+1)*2) [.int .i64 y.1,.int .i64 y.2]) (o+(im)*2) [.int .i64 x.1,.int .i64 x.2])→W1.grownBy W2 (some g)→Sw W0 113 g o cap xs0 W2):=Lib.hid (by intro W1 W2 h1 h2 h3 h4;subst hx hy;exact Sw.put2 hg hR hp hix hjx h1 h2 h3 h4)
       have hmA:True:=trivial;apply gC (R:=fun w'=>Sw W0 113 g o cap xs0 w')
       case h=>
        have hBd:=hB.d;have hi2d:=hi2.d;have hj2d:=hj2.d;refine aR (.take 0 (.take 1 (.take 2 (.take 3 (.take 4 (.take 5 (.take 6 (.take 7 (.take 8 (.take 10 (.take 11 (.take 12 (.two 9 (.one 13 (.take 14 (.one 15 (.take 16 (.one 17 .nil))))) 13 (.one 9 (.take 14 (.one 15 (.take 16 (.one 17 .nil)))))))))))))))))) (fun w'=>True) ?_ (fun hHd=> ?_)
        ·exact True.intro
        repeat' first|((with_reducible refine aB ?_);(refine tk (v:= ?_) ?_ hHd ?_;rotate_left;(·(intro wq hSw;(try dsimp only at hSw);go_simp;(try with_reducible rfl))));(try simp only[pS]))|((with_reducible refine bC ?_);refine aQ (by simp only[gS];rfl) ?_)|((with_reducible refine fQ ?_);refine dI (by simp only[gS];rfl) (by simp only[gS];rfl) ?_ ?_)|((with_reducible refine aH (d:=some 55) ?_);(((with_reducible refine aC (d:=some 55) (hl:=aN hj2d) ?_ ?_);rfl)))|((with_reducible refine aH (d:=some 59) ?_);(((with_reducible refine aC (d:=some 59) (hl:=aN hi2d) ?_ ?_);rfl)))|((with_reducible refine aH (d:=none) ?_);((first|((with_reducible refine aK (t:=113) (e:=113) (g:=g) (off:=o+im*2) (n:=2) (v:=.agg #[.int .i64 x.1,.int .i64 x.2]) ?_ ?_ hB1 aW ?_ ?_ ?_ ?_);rfl;rfl;rfl;(rw[bW (by exact f1)];exact f2);(simp[Value.cells,Value.oneCell']);intro W2 hB2 hg2)|((with_reducible refine aK (t:=113) (e:=113) (g:=g) (off:=o+(im+1)*2) (n:=2) (v:=.agg #[.int .i64 y.1,.int .i64 y.2]) ?_ ?_ hBd aW ?_ ?_ ?_ ?_);rfl;rfl;rfl;exact f1;(simp[Value.cells,Value.oneCell']);intro W1 hB1 hg1;replace hg1:=bE hg1))))|((with_reducible refine bB ?_);clear hHd;refine aJ ?_ (fun hHd=> ?_);(·exact True.intro);(try simp only[pS]))|(with_reducible refine aG ?_)
        all_goals exact⟨rfl,rfl,Hput.out _ _ hB1 hg1 hB2 hg2⟩
       case k=>
        intro Wq hSr;obtain⟨c1,c2,hib⟩:=Hi.out;clear Hput hi2 hj2 hB hR hg hx hy hp f1 f2;obtain⟨i,hi⟩:∃i:Nat,i=im+1:=⟨_,rfl⟩;rw[show(im:Int)+1=(i:Int) by omega]
        have hib2:i<b:=by omega
        have hai:a+1≤i:=by omega
        clear hi Hi c1 c2 hib hne z0 z1 z2 hzz wi;have v1:IntKind.i64.wrap ((b:Int)-(i:Int))=(b:Int)-(i:Int):=bM (by omega) (by omega)
        by_cases hia:a+2≤i
        ·have y1:IntKind.i64.wrap ((i:Int)-(a:Int))=(i:Int)-(a:Int):=bM (by omega) (by omega)
         have y2:(2:Int)≤(i:Int)-(a:Int):=by omega
         go_wp2
         apply pR (.exit 4) [11,68,69,70,71,72,73,74,75,76,77,78,79,80,81,82,83,84,85,86,87,88,89,90,91,92,93,94,95,96,97,98,99,100] (fun _ w'=>Sw W0 113 g o cap xs0 w')
         case h=>
          go_loopw [11] (fun vj wr=>Sw W0 113 g o cap xs0 wr∧∃j:Nat,vj=.int .i64 j∧j+1≤i) (fun vj _=>(intOf vj).toNat)
          case atStart=>exact⟨hSr,i-1,by go_num,by omega⟩
          case round=>
           clear hSr;obtain⟨hSr,j,rfl,d1⟩:=hrel;clear y1 y2;by_cases hj1:1≤j
           ·obtain⟨jm,rfl⟩:∃m,j=m+1:=⟨j-1,by omega⟩
            have z3:(jm:Int)+1<(xs0.length:Int):=by omega
            have z4:(jm:Int)<(xs0.length:Int):=by omega
            have z5:(0:Int)≤(jm:Int)+1:=by omega
            have wj:IntKind.i64.wrap (jm:Int)=jm:=bM (by omega) (by omega)
            obtain⟨hg,cur,xs,hR,hp⟩:=hSr;have hlen:=hp.length_eq;have hix:jm+1<xs.length:=by omega
            have hjx:jm<xs.length:=by omega
            have hi2:=hR.at_ hix;have hj2:=hR.at_ hjx;obtain⟨x,hx⟩:∃x,xs[jm+1]=x:=⟨_,rfl⟩;obtain⟨y,hy⟩:∃y,xs[jm]=y:=⟨_,rfl⟩;rw[hx] at hi2;rw[hy] at hj2;have f1:=hR.lt2 hix;have f2:=hR.lt2 hjx;have hB:=hR.blk;have Hput:Hid (∀W1 W2,Blk W1 g 113 (aI cur (o+(jm+1)*2) [.int .i64 y.1,.int .i64 y.2])→wr.grownBy W1 (some g)→Blk W2 g 113 (aI (aI cur (o+(jm+1)*2) [.int .i64 y.1,.int .i64 y.2]) (o+(jm)*2) [.int .i64 x.1,.int .i64 x.2])→W1.grownBy W2 (some g)→Sw W0 113 g o cap xs0 W2):=Lib.hid (by intro W1 W2 h1 h2 h3 h4;subst hx hy;exact Sw.put2 hg hR hp hix hjx h1 h2 h3 h4)
            have hmA:True:=trivial;go_wp2
            have hX:=Ext.todrew (Ext.refl wr);refine aR (.take 0 (.take 1 (.take 2 (.take 3 (.take 4 (.take 5 (.take 6 (.take 7 (.take 8 (.take 9 (.one 10 (.take 11 (.take 12 .nil))))))))))))) (fun w'=>Ext wr w') ?_ (fun hHd=> ?_)
            ·assumption
            repeat' first|((with_reducible refine aB ?_);(first|((with_reducible refine aB (i:=4) ?_);refine tk (v:=.agg #[.int .i64 x.1,.int .i64 x.2]) ?_ hHd ?_;(·exact aA (by rfl) (fun W h=>aN (hi2.ext h))))|((with_reducible refine aB (i:=9) ?_);refine tk (v:=.agg #[.int .i64 y.1,.int .i64 y.2]) ?_ hHd ?_;(·exact aA (by rfl) (fun W h=>aN (hj2.ext h))))|(refine tk (v:= ?_) ?_ hHd ?_;rotate_left;(·(intro wq hSw;(try dsimp only at hSw);go_simp;(try with_reducible rfl)))));(try simp only[pS]))|((with_reducible refine bC ?_);refine aQ (by simp only[gS];rfl) ?_)|((with_reducible refine aH (d:=some 82) ?_);((refine bD (by rfl) (hcmp _ (bQ hg hX) x y) (by go_simp) ?_;rintro e Wc ⟨⟨r,rfl⟩,hEc⟩;refine⟨_,rfl,?_⟩;have hXc:=hX.trans hEc;obtain⟨bb,hbb⟩:∃b,decide (r<0)=b:=⟨_,rfl⟩)))|((with_reducible refine bB ?_);clear hHd;refine aJ ?_ (fun hHd=> ?_);(·assumption);(try simp only[pS]))|(with_reducible refine aG ?_)
            have hSr:=Sw.ext (⟨hg,cur,xs,hR,hp⟩:Sw W0 113 g o cap xs0 wr) hXc;clear hX hXc hi2 hj2 hB hR Hput hg hx hy hp f1 f2 hmA;generalize Wc=wr at hSr⊢
            cases bb
            ·go_wp2
             refine⟨by first|rfl|trivial,?_⟩
             refine Az ?_ hSr;simp only[Act.sets,Act.put,List.foldl_cons,List.foldl_nil,List.setIfInBounds_toArray,List.set_cons_zero,List.set_cons_succ,Act.get];rfl
            ·go_wp2
             obtain⟨hg,cur,xs,hR,hp⟩:=hSr;have hlen:=hp.length_eq;have hix:jm+1<xs.length:=by omega
             have hjx:jm<xs.length:=by omega
             have hi2:=hR.at_ hix;have hj2:=hR.at_ hjx;obtain⟨x,hx⟩:∃x,xs[jm+1]=x:=⟨_,rfl⟩;obtain⟨y,hy⟩:∃y,xs[jm]=y:=⟨_,rfl⟩;rw[hx] at hi2;rw[hy] at hj2;have f1:=hR.lt2 hix;have f2:=hR.lt2 hjx;have hB:=hR.blk;have Hput:Hid (∀W1 W2,Blk W1 g 113 (aI cur (o+(jm+1)*2) [.int .i64 y.1,.int .i64 y.2])→wr.grownBy W1 (some g)→Blk W2 g 113 (aI (aI cur (o+(jm+1)*2) [.int .i64 y.1,.int .i64 y.2]) (o+(jm)*2) [.int .i64 x.1,.int .i64 x.2])→W1.grownBy W2 (some g)→Sw W0 113 g o cap xs0 W2):=Lib.hid (by intro W1 W2 h1 h2 h3 h4;subst hx hy;exact Sw.put2 hg hR hp hix hjx h1 h2 h3 h4)
             have hmA:True:=trivial;have hBd:=hB.d;have hi2d:=hi2.d;have hj2d:=hj2.d;refine aR (.take 0 (.take 1 (.take 2 (.take 3 (.take 4 (.take 5 (.take 6 (.take 7 (.take 8 (.take 10 (.take 11 (.take 12 (.two 9 (.one 13 (.take 14 (.one 15 (.take 16 (.one 17 .nil))))) 13 (.one 9 (.take 14 (.one 15 (.take 16 (.one 17 .nil)))))))))))))))))) (fun w'=>True) ?_ (fun hHd=> ?_)
             ·exact True.intro
             repeat' first|((with_reducible refine aB ?_);(refine tk (v:= ?_) ?_ hHd ?_;rotate_left;(·(intro wq hSw;(try dsimp only at hSw);go_simp;(try with_reducible rfl))));(try simp only[pS]))|((with_reducible refine bC ?_);refine aQ (by simp only[gS];rfl) ?_)|((with_reducible refine fQ ?_);refine dI (by simp only[gS];rfl) (by simp only[gS];rfl) ?_ ?_)|((with_reducible refine aH (d:=some 94) ?_);(((with_reducible refine aC (d:=some 94) (hl:=aN hj2d) ?_ ?_);rfl)))|((with_reducible refine aH (d:=some 98) ?_);(((with_reducible refine aC (d:=some 98) (hl:=aN hi2d) ?_ ?_);rfl)))|((with_reducible refine aH (d:=none) ?_);((first|((with_reducible refine aK (t:=113) (e:=113) (g:=g) (off:=o+jm*2) (n:=2) (v:=.agg #[.int .i64 x.1,.int .i64 x.2]) ?_ ?_ hB1 aW ?_ ?_ ?_ ?_);rfl;rfl;rfl;(rw[bW (by exact f1)];exact f2);(simp[Value.cells,Value.oneCell']);intro W2 hB2 hg2)|((with_reducible refine aK (t:=113) (e:=113) (g:=g) (off:=o+(jm+1)*2) (n:=2) (v:=.agg #[.int .i64 y.1,.int .i64 y.2]) ?_ ?_ hBd aW ?_ ?_ ?_ ?_);rfl;rfl;rfl;exact f1;(simp[Value.cells,Value.oneCell']);intro W1 hB1 hg1;replace hg1:=bE hg1))))|((with_reducible refine bB ?_);clear hHd;refine aJ ?_ (fun hHd=> ?_);(·exact True.intro);(try simp only[pS]))|(with_reducible refine aG ?_)
             all_goals
              have hSw:=Hput.out _ _ hB1 hg1 hB2 hg2;clear hB1 hB2 hg1 hg2 Hput hi2 hj2 hB hR hg hx hy hp f1 f2 hBd hi2d hj2d;go_wp2
              go_roundw
              case rel=>exact⟨hSw,jm,by go_num,by omega⟩
              case measure=>simp[intOf]
           ·go_wp2
            refine⟨by first|rfl|trivial,?_⟩
            refine Az ?_ hSr;simp only[Act.sets,Act.put,List.foldl_cons,List.foldl_nil,List.setIfInBounds_toArray,List.set_cons_zero,List.set_cons_succ,Act.get];rfl
         clear hSr;rintro x9 wr hSr;simp only[Act.sets,Act.put,List.foldl_cons,List.foldl_nil,List.setIfInBounds_toArray,List.set_cons_zero,List.set_cons_succ,Act.get];by_cases hbi:i+2≤b
         ·have v2:(2:Int)≤(b:Int)-(i:Int):=by omega
          go_wp2
          go_loopw [12] (fun vj wr=>Sw W0 113 g o cap xs0 wr∧∃j:Nat,vj=.int .i64 j∧i+1≤j∧j≤b) (fun vj _=>b-(intOf vj).toNat)
          case atStart=>exact⟨hSr,i+1,by go_num,by omega,by omega⟩
          case round=>
           clear hSr;obtain⟨hSr,j,rfl,d1,d2⟩:=hrel;by_cases hjb:j<b
           ·obtain⟨jm,rfl⟩:∃m,j=m+1:=⟨j-1,by omega⟩
            have z3:(jm:Int)+1<(xs0.length:Int):=by omega
            have z4:(jm:Int)<(xs0.length:Int):=by omega
            have z5:(0:Int)≤(jm:Int)+1:=by omega
            have z6:(jm:Int)+1<(b:Int):=by omega
            have wj:IntKind.i64.wrap (jm:Int)=jm:=bM (by omega) (by omega)
            have HJ:=Lib.hid (⟨d1,d2,hjb⟩:_∧_∧_);obtain⟨hg,cur,xs,hR,hp⟩:=hSr;have hlen:=hp.length_eq;have hix:jm+1<xs.length:=by omega
            have hjx:jm<xs.length:=by omega
            have hi2:=hR.at_ hix;have hj2:=hR.at_ hjx;obtain⟨x,hx⟩:∃x,xs[jm+1]=x:=⟨_,rfl⟩;obtain⟨y,hy⟩:∃y,xs[jm]=y:=⟨_,rfl⟩;rw[hx] at hi2;rw[hy] at hj2;have f1:=hR.lt2 hix;have f2:=hR.lt2 hjx;have hB:=hR.blk;have Hput:Hid (∀W1 W2,Blk W1 g 113 (aI cur (o+(jm+1)*2) [.int .i64 y.1,.int .i64 y.2])→wr.grownBy W1 (some g)→Blk W2 g 113 (aI (aI cur (o+(jm+1)*2) [.int .i64 y.1,.int .i64 y.2]) (o+(jm)*2) [.int .i64 x.1,.int .i64 x.2])→W1.grownBy W2 (some g)→Sw W0 113 g o cap xs0 W2):=Lib.hid (by intro W1 W2 h1 h2 h3 h4;subst hx hy;exact Sw.put2 hg hR hp hix hjx h1 h2 h3 h4)
            have hmA:True:=trivial;clear d1 d2 hjb;go_wp2
            have hX:=Ext.todrew (Ext.refl wr);refine aR (.take 0 (.take 1 (.take 2 (.take 3 (.take 4 (.take 5 (.take 6 (.take 7 (.take 8 (.take 9 (.one 10 (.take 11 (.take 12 .nil))))))))))))) (fun w'=>Ext wr w') ?_ (fun hHd=> ?_)
            ·assumption
            repeat' first|((with_reducible refine aB ?_);(first|((with_reducible refine aB (i:=4) ?_);refine tk (v:=.agg #[.int .i64 x.1,.int .i64 x.2]) ?_ hHd ?_;(·exact aA (by rfl) (fun W h=>aN (hi2.ext h))))|((with_reducible refine aB (i:=9) ?_);refine tk (v:=.agg #[.int .i64 y.1,.int .i64 y.2]) ?_ hHd ?_;(·exact aA (by rfl) (fun W h=>aN (hj2.ext h))))|(refine tk (v:= ?_) ?_ hHd ?_;rotate_left;(·(intro wq hSw;(try dsimp only at hSw);go_simp;(try with_reducible rfl)))));(try simp only[pS]))|((with_reducible refine bC ?_);refine aQ (by simp only[gS];rfl) ?_)|((with_reducible refine aH (d:=some 122) ?_);((refine bD (by rfl) (hcmp _ (bQ hg hX) x y) (by go_simp) ?_;rintro e Wc ⟨⟨r,rfl⟩,hEc⟩;refine⟨_,rfl,?_⟩;have hXc:=hX.trans hEc;obtain⟨bb,hbb⟩:∃b,decide (r<0)=b:=⟨_,rfl⟩)))|((with_reducible refine bB ?_);clear hHd;refine aJ ?_ (fun hHd=> ?_);(·assumption);(try simp only[pS]))|(with_reducible refine aG ?_)
            have hSr:=Sw.ext (⟨hg,cur,xs,hR,hp⟩:Sw W0 113 g o cap xs0 wr) hXc;clear hX hXc hi2 hj2 hB hR Hput hg hx hy hp f1 f2 hmA;generalize Wc=wr at hSr⊢
            cases bb
            ·go_wp2
             go_roundw
             case rel=>exact⟨hSr,k+1,i,by go_num,by first|rfl|go_num,by omega,by omega,by omega⟩
             case measure=>simp[intOf];omega
            ·go_wp2
             obtain⟨hg,cur,xs,hR,hp⟩:=hSr;have hlen:=hp.length_eq;have hix:jm+1<xs.length:=by omega
             have hjx:jm<xs.length:=by omega
             have hi2:=hR.at_ hix;have hj2:=hR.at_ hjx;obtain⟨x,hx⟩:∃x,xs[jm+1]=x:=⟨_,rfl⟩;obtain⟨y,hy⟩:∃y,xs[jm]=y:=⟨_,rfl⟩;rw[hx] at hi2;rw[hy] at hj2;have f1:=hR.lt2 hix;have f2:=hR.lt2 hjx;have hB:=hR.blk;have Hput:Hid (∀W1 W2,Blk W1 g 113 (aI cur (o+(jm+1)*2) [.int .i64 y.1,.int .i64 y.2])→wr.grownBy W1 (some g)→Blk W2 g 113 (aI (aI cur (o+(jm+1)*2) [.int .i64 y.1,.int .i64 y.2]) (o+(jm)*2) [.int .i64 x.1,.int .i64 x.2])→W1.grownBy W2 (some g)→Sw W0 113 g o cap xs0 W2):=Lib.hid (by intro W1 W2 h1 h2 h3 h4;subst hx hy;exact Sw.put2 hg hR hp hix hjx h1 h2 h3 h4)
             have hmA:True:=trivial;have hBd:=hB.d;have hi2d:=hi2.d;have hj2d:=hj2.d;refine aR (.take 0 (.take 1 (.take 2 (.take 3 (.take 4 (.take 5 (.take 6 (.take 7 (.take 8 (.take 10 (.take 11 (.take 12 (.two 9 (.one 13 (.take 14 (.one 15 (.take 16 (.one 17 .nil))))) 13 (.one 9 (.take 14 (.one 15 (.take 16 (.one 17 .nil)))))))))))))))))) (fun w'=>True) ?_ (fun hHd=> ?_)
             ·exact True.intro
             repeat' first|((with_reducible refine aB ?_);(refine tk (v:= ?_) ?_ hHd ?_;rotate_left;(·(intro wq hSw;(try dsimp only at hSw);go_simp;(try with_reducible rfl))));(try simp only[pS]))|((with_reducible refine bC ?_);refine aQ (by simp only[gS];rfl) ?_)|((with_reducible refine fQ ?_);refine dI (by simp only[gS];rfl) (by simp only[gS];rfl) ?_ ?_)|((with_reducible refine aH (d:=some 134) ?_);(((with_reducible refine aC (d:=some 134) (hl:=aN hj2d) ?_ ?_);rfl)))|((with_reducible refine aH (d:=some 138) ?_);(((with_reducible refine aC (d:=some 138) (hl:=aN hi2d) ?_ ?_);rfl)))|((with_reducible refine aH (d:=none) ?_);((first|((with_reducible refine aK (t:=113) (e:=113) (g:=g) (off:=o+jm*2) (n:=2) (v:=.agg #[.int .i64 x.1,.int .i64 x.2]) ?_ ?_ hB1 aW ?_ ?_ ?_ ?_);rfl;rfl;rfl;(rw[bW (by exact f1)];exact f2);(simp[Value.cells,Value.oneCell']);intro W2 hB2 hg2)|((with_reducible refine aK (t:=113) (e:=113) (g:=g) (off:=o+(jm+1)*2) (n:=2) (v:=.agg #[.int .i64 y.1,.int .i64 y.2]) ?_ ?_ hBd aW ?_ ?_ ?_ ?_);rfl;rfl;rfl;exact f1;(simp[Value.cells,Value.oneCell']);intro W1 hB1 hg1;replace hg1:=bE hg1))))|((with_reducible refine bB ?_);clear hHd;refine aJ ?_ (fun hHd=> ?_);(·exact True.intro);(try simp only[pS]))|(with_reducible refine aG ?_)
             all_goals
              have hSw:=Hput.out _ _ hB1 hg1 hB2 hg2;clear hB1 hB2 hg1 hg2 Hput hi2 hj2 hB hR hg hx hy hp f1 f2 hBd hi2d hj2d;go_wp2
              go_roundw
              case rel=>obtain⟨d1,d2,hjb⟩:=HJ.out;exact⟨hSw,jm+2,by go_num,by omega,by omega⟩
              case measure=>obtain⟨d1,d2,hjb⟩:=HJ.out;simp[intOf];omega
           ·go_wp2
            go_roundw
            case rel=>exact⟨hSr,k+1,i,by go_num,by first|rfl|go_num,by omega,by omega,by omega⟩
            case measure=>simp[intOf];omega
         ·have v2:¬((2:Int)≤(b:Int)-(i:Int)):=by omega
          go_wp2
          go_roundw
          case rel=>exact⟨hSr,k+1,i,by go_num,by first|rfl|go_num,by omega,by omega,by omega⟩
          case measure=>simp[intOf];omega
        ·have y1:IntKind.i64.wrap ((i:Int)-(a:Int))=(i:Int)-(a:Int):=bM (by omega) (by omega)
         have y2:¬((2:Int)≤(i:Int)-(a:Int)):=by omega
         by_cases hbi:i+2≤b
         ·have v2:(2:Int)≤(b:Int)-(i:Int):=by omega
          go_wp2
          go_loopw [12] (fun vj wr=>Sw W0 113 g o cap xs0 wr∧∃j:Nat,vj=.int .i64 j∧i+1≤j∧j≤b) (fun vj _=>b-(intOf vj).toNat)
          case atStart=>exact⟨hSr,i+1,by go_num,by omega,by omega⟩
          case round=>
           clear hSr;obtain⟨hSr,j,rfl,d1,d2⟩:=hrel;by_cases hjb:j<b
           ·obtain⟨jm,rfl⟩:∃m,j=m+1:=⟨j-1,by omega⟩
            have z3:(jm:Int)+1<(xs0.length:Int):=by omega
            have z4:(jm:Int)<(xs0.length:Int):=by omega
            have z5:(0:Int)≤(jm:Int)+1:=by omega
            have z6:(jm:Int)+1<(b:Int):=by omega
            have wj:IntKind.i64.wrap (jm:Int)=jm:=bM (by omega) (by omega)
            have HJ:=Lib.hid (⟨d1,d2,hjb⟩:_∧_∧_);obtain⟨hg,cur,xs,hR,hp⟩:=hSr;have hlen:=hp.length_eq;have hix:jm+1<xs.length:=by omega
            have hjx:jm<xs.length:=by omega
            have hi2:=hR.at_ hix;have hj2:=hR.at_ hjx;obtain⟨x,hx⟩:∃x,xs[jm+1]=x:=⟨_,rfl⟩;obtain⟨y,hy⟩:∃y,xs[jm]=y:=⟨_,rfl⟩;rw[hx] at hi2;rw[hy] at hj2;have f1:=hR.lt2 hix;have f2:=hR.lt2 hjx;have hB:=hR.blk;have Hput:Hid (∀W1 W2,Blk W1 g 113 (aI cur (o+(jm+1)*2) [.int .i64 y.1,.int .i64 y.2])→wr.grownBy W1 (some g)→Blk W2 g 113 (aI (aI cur (o+(jm+1)*2) [.int .i64 y.1,.int .i64 y.2]) (o+(jm)*2) [.int .i64 x.1,.int .i64 x.2])→W1.grownBy W2 (some g)→Sw W0 113 g o cap xs0 W2):=Lib.hid (by intro W1 W2 h1 h2 h3 h4;subst hx hy;exact Sw.put2 hg hR hp hix hjx h1 h2 h3 h4)
            have hmA:True:=trivial;clear d1 d2 hjb;go_wp2
            have hX:=Ext.todrew (Ext.refl wr);refine aR (.take 0 (.take 1 (.take 2 (.take 3 (.take 4 (.take 5 (.take 6 (.take 7 (.take 8 (.take 9 (.one 10 (.take 11 (.take 12 .nil))))))))))))) (fun w'=>Ext wr w') ?_ (fun hHd=> ?_)
            ·assumption
            repeat' first|((with_reducible refine aB ?_);(first|((with_reducible refine aB (i:=4) ?_);refine tk (v:=.agg #[.int .i64 x.1,.int .i64 x.2]) ?_ hHd ?_;(·exact aA (by rfl) (fun W h=>aN (hi2.ext h))))|((with_reducible refine aB (i:=9) ?_);refine tk (v:=.agg #[.int .i64 y.1,.int .i64 y.2]) ?_ hHd ?_;(·exact aA (by rfl) (fun W h=>aN (hj2.ext h))))|(refine tk (v:= ?_) ?_ hHd ?_;rotate_left;(·(intro wq hSw;(try dsimp only at hSw);go_simp;(try with_reducible rfl)))));(try simp only[pS]))|((with_reducible refine bC ?_);refine aQ (by simp only[gS];rfl) ?_)|((with_reducible refine aH (d:=some 122) ?_);((refine bD (by rfl) (hcmp _ (bQ hg hX) x y) (by go_simp) ?_;rintro e Wc ⟨⟨r,rfl⟩,hEc⟩;refine⟨_,rfl,?_⟩;have hXc:=hX.trans hEc;obtain⟨bb,hbb⟩:∃b,decide (r<0)=b:=⟨_,rfl⟩)))|((with_reducible refine bB ?_);clear hHd;refine aJ ?_ (fun hHd=> ?_);(·assumption);(try simp only[pS]))|(with_reducible refine aG ?_)
            have hSr:=Sw.ext (⟨hg,cur,xs,hR,hp⟩:Sw W0 113 g o cap xs0 wr) hXc;clear hX hXc hi2 hj2 hB hR Hput hg hx hy hp f1 f2 hmA;generalize Wc=wr at hSr⊢
            cases bb
            ·go_wp2
             go_roundw
             case rel=>exact⟨hSr,k+1,i,by go_num,by first|rfl|go_num,by omega,by omega,by omega⟩
             case measure=>simp[intOf];omega
            ·go_wp2
             obtain⟨hg,cur,xs,hR,hp⟩:=hSr;have hlen:=hp.length_eq;have hix:jm+1<xs.length:=by omega
             have hjx:jm<xs.length:=by omega
             have hi2:=hR.at_ hix;have hj2:=hR.at_ hjx;obtain⟨x,hx⟩:∃x,xs[jm+1]=x:=⟨_,rfl⟩;obtain⟨y,hy⟩:∃y,xs[jm]=y:=⟨_,rfl⟩;rw[hx] at hi2;rw[hy] at hj2;have f1:=hR.lt2 hix;have f2:=hR.lt2 hjx;have hB:=hR.blk;have Hput:Hid (∀W1 W2,Blk W1 g 113 (aI cur (o+(jm+1)*2) [.int .i64 y.1,.int .i64 y.2])→wr.grownBy W1 (some g)→Blk W2 g 113 (aI (aI cur (o+(jm+1)*2) [.int .i64 y.1,.int .i64 y.2]) (o+(jm)*2) [.int .i64 x.1,.int .i64 x.2])→W1.grownBy W2 (some g)→Sw W0 113 g o cap xs0 W2):=Lib.hid (by intro W1 W2 h1 h2 h3 h4;subst hx hy;exact Sw.put2 hg hR hp hix hjx h1 h2 h3 h4)
             have hmA:True:=trivial;have hBd:=hB.d;have hi2d:=hi2.d;have hj2d:=hj2.d;refine aR (.take 0 (.take 1 (.take 2 (.take 3 (.take 4 (.take 5 (.take 6 (.take 7 (.take 8 (.take 10 (.take 11 (.take 12 (.two 9 (.one 13 (.take 14 (.one 15 (.take 16 (.one 17 .nil))))) 13 (.one 9 (.take 14 (.one 15 (.take 16 (.one 17 .nil)))))))))))))))))) (fun w'=>True) ?_ (fun hHd=> ?_)
             ·exact True.intro
             repeat' first|((with_reducible refine aB ?_);(refine tk (v:= ?_) ?_ hHd ?_;rotate_left;(·(intro wq hSw;(try dsimp only at hSw);go_simp;(try with_reducible rfl))));(try simp only[pS]))|((with_reducible refine bC ?_);refine aQ (by simp only[gS];rfl) ?_)|((with_reducible refine fQ ?_);refine dI (by simp only[gS];rfl) (by simp only[gS];rfl) ?_ ?_)|((with_reducible refine aH (d:=some 134) ?_);(((with_reducible refine aC (d:=some 134) (hl:=aN hj2d) ?_ ?_);rfl)))|((with_reducible refine aH (d:=some 138) ?_);(((with_reducible refine aC (d:=some 138) (hl:=aN hi2d) ?_ ?_);rfl)))|((with_reducible refine aH (d:=none) ?_);((first|((with_reducible refine aK (t:=113) (e:=113) (g:=g) (off:=o+jm*2) (n:=2) (v:=.agg #[.int .i64 x.1,.int .i64 x.2]) ?_ ?_ hB1 aW ?_ ?_ ?_ ?_);rfl;rfl;rfl;(rw[bW (by exact f1)];exact f2);(simp[Value.cells,Value.oneCell']);intro W2 hB2 hg2)|((with_reducible refine aK (t:=113) (e:=113) (g:=g) (off:=o+(jm+1)*2) (n:=2) (v:=.agg #[.int .i64 y.1,.int .i64 y.2]) ?_ ?_ hBd aW ?_ ?_ ?_ ?_);rfl;rfl;rfl;exact f1;(simp[Value.cells,Value.oneCell']);intro W1 hB1 hg1;replace hg1:=bE hg1))))|((with_reducible refine bB ?_);clear hHd;refine aJ ?_ (fun hHd=> ?_);(·exact True.intro);(try simp only[pS]))|(with_reducible refine aG ?_)
             all_goals
              have hSw:=Hput.out _ _ hB1 hg1 hB2 hg2;clear hB1 hB2 hg1 hg2 Hput hi2 hj2 hB hR hg hx hy hp f1 f2 hBd hi2d hj2d;go_wp2
              go_roundw
              case rel=>obtain⟨d1,d2,hjb⟩:=HJ.out;exact⟨hSw,jm+2,by go_num,by omega,by omega⟩
              case measure=>obtain⟨d1,d2,hjb⟩:=HJ.out;simp[intOf];omega
           ·go_wp2
            go_roundw
            case rel=>exact⟨hSr,k+1,i,by go_num,by first|rfl|go_num,by omega,by omega,by omega⟩
            case measure=>simp[intOf];omega
         ·have v2:¬((2:Int)≤(b:Int)-(i:Int)):=by omega
          go_wp2
          go_roundw
          case rel=>exact⟨hSr,k+1,i,by go_num,by first|rfl|go_num,by omega,by omega,by omega⟩
          case measure=>simp[intOf];omega
    ·have heq:((im:Int)+1==(b:Int))=true:=by simp;omega
     have hzz:¬((im:Int)+1<(b:Int)):=by omega
     go_wp2
     have hX:=Ext.todrew (Ext.refl wr);refine aR (.take 0 (.take 1 (.take 2 (.take 3 (.take 4 (.take 5 (.take 6 (.take 7 (.take 8 (.take 9 (.take 10 (.take 11 (.take 12 (.take 13 (.one 14 (.take 15 (.take 16 (.take 17 .nil)))))))))))))))))) (fun w'=>Ext wr w') ?_ (fun hHd=> ?_)
     ·assumption
     repeat' first|((with_reducible refine aB ?_);(first|((with_reducible refine aB (i:=2) ?_);refine tk (v:=.bool false) ?_ hHd ?_;(·(intro wq hSw;go_simp;first|done|omega|(simp;omega))))|(refine tk (v:= ?_) ?_ hHd ?_;rotate_left;(·(intro wq hSw;(try dsimp only at hSw);go_simp;(try with_reducible rfl))))|refine ts hHd ?_);(try simp only[pS]))|((with_reducible refine bC ?_);refine aQ (by simp only[gS];rfl) ?_)|((with_reducible refine aH (d:=some 33) ?_);refine dK (by rfl) ?_)|((with_reducible refine bB ?_);clear hHd;refine aJ ?_ (fun hHd=> ?_);(·assumption);(try simp only[pS]))|(with_reducible refine aG ?_)
     have hSr:=Sw.ext hSr hX;go_wp2
     go_ret
     exact⟨hSr,_,rfl⟩
  ·go_wp2
   go_ret
   exact⟨hSr,_,rfl⟩
end Go.St
end
section
namespace Go.St
open Go Go.Bp Go.RowKit Go.Proofs
def lenOf(y:Nat):Nat:=if y=0 then 0 else Nat.log2 y+1
theorem Kd{y:Nat}(h:0<y):2^lenOf y≤2*y∧y<2^lenOf y:=by
 unfold lenOf;rw[if_neg (by omega)]
 have h1:=Nat.log2_self_le (n:=y) (by omega)
 have h2:=Nat.lt_log2_self (n:=y);rw[Nat.pow_succ];rw[Nat.pow_succ] at h2;omega
theorem qN{y n:Nat}(h:y<2^n):lenOf y≤n:=by
 unfold lenOf;split
 ·omega
 ·rename_i h0;have:=(Nat.log2_lt h0).2 h;omega
def Ju:Bool:=(List.range 256).all fun y=>Lib.len8 (y:Int)==((lenOf y:Nat):Int)
theorem Mo:Ju=true:=by decide +kernel
theorem Em{y:Nat}(h:y<256):Lib.len8 (y:Int)=((lenOf y:Nat):Int):=by
 have h1:=Mo;unfold Ju at h1;rw[List.all_eq_true] at h1;have:=h1 y (by simp;exact h)
 simpa using this
theorem Cq{x:Nat}(h:256≤x):Nat.log2 (x/256)=Nat.log2 x-8:=by
 have h2:8≤Nat.log2 x:=by
  rw[Nat.le_log2 (by omega)];exact h
 have h1:x/256≠0:=by
  have:=Nat.div_pos h (by decide)
  omega
 have a1:=Nat.log2_self_le (n:=x) (by omega)
 have a2:=Nat.lt_log2_self (n:=x);obtain⟨L,hL⟩:∃L,Nat.log2 x=L+8:=⟨Nat.log2 x-8,by omega⟩
 rw[hL] at a1 a2⊢;rw[Nat.log2_eq_iff h1];rw[Nat.pow_add] at a1;rw[show L+8+1=(L+1)+8 by omega,Nat.pow_add] at a2
 rw[Nat.add_sub_cancel];omega
theorem Ah{x:Nat}(h:256≤x):lenOf x=lenOf (x/256)+8:=by
 unfold lenOf;have h1:x/256≠0:=by
  have:=Nat.div_pos h (by decide)
  omega
 have h2:8≤Nat.log2 x:=by
  rw[Nat.le_log2 (by omega)];exact h
 rw[if_neg (by omega),if_neg h1,Cq h]
 omega
set_option maxRecDepth 1000000 in
set_option maxHeartbeats 2000000 in
theorem Ga(x:Nat)(w:World)(h0:0<x)(hx:x<65536):Calls Tryz.prog 147 #[.int .u64 x] w (dF w (lenOf x)):=by
 have hE:=Ext.refl w;have c1:¬((4294967296:Int)≤(x:Int)):=by omega
 have c2:¬((65536:Int)≤(x:Int)):=by omega
 by_cases h256:x<256
 ·have c3:¬((256:Int)≤(x:Int)):=by omega
  have hL:=Em h256;have hb:=qN (y:=x) (n:=8) (by omega)
  have wl:IntKind.i64.wrap (((lenOf x:Nat):Int))=((lenOf x:Nat):Int):=bM (by omega) (by omega)
  have wu:IntKind.u8.wrap (x:Int)=(x:Int):=by simp[IntKind.wrap,IntKind.bits,IntKind.signed];omega
  have l1:(x:Int)≤255:=by omega
  go_enter Tryz.func147,Tryz.ntmps147
  go_wp2
  go_ret
  refine dF.of ?_ hE;rfl
 ·have c3:(256:Int)≤(x:Int):=by omega
  obtain⟨y,hy⟩:∃y:Nat,y=x/256:=⟨_,rfl⟩;have hy1:(x:Int)/256=(y:Int):=by omega
  have hyl:y<256:=by omega
  have Hr:=Lib.hid (show lenOf x=lenOf y+8 by rw[hy];exact Ah (by omega))
  have hL:=Em hyl;have hb:=qN (y:=y) (n:=8) (by omega)
  have wl:IntKind.i64.wrap (((lenOf y:Nat):Int))=((lenOf y:Nat):Int):=bM (by omega) (by omega)
  have wu:IntKind.u8.wrap (y:Int)=(y:Int):=by simp[IntKind.wrap,IntKind.bits,IntKind.signed];omega
  have l1:(y:Int)≤255:=by omega
  clear hy;go_enter Tryz.func147,Tryz.ntmps147
  go_wp2
  go_ret
  refine dF.of ?_ hE;rw[Hr.out];first|rfl|(simp;omega)
theorem El(x:Nat)(w:World)(h0:0<x)(hx:x<65536):Calls Tryz.prog 119 #[.int .u64 x] w (dF w (lenOf x)):=by
 have hE:=Ext.refl w;go_enter Tryz.func119,Tryz.ntmps119
 go_wp2_with (first|(go_at_call 147;((with_reducible refine(Ga _ _ h0 hx).mono ?_);rintro e Wc1 ⟨rfl,hEc1⟩;(try replace hE:=hE.trans hEc1))))
 go_ret
 exact dF.of rfl hE
theorem Aa(x:Nat)(w:World)(h0:0<x)(hx:x<65536):Calls Tryz.prog 159 #[.int .i64 x] w (fun e w'=>e=.returned (.int .u64 ((2^lenOf x:Nat):Int))∧Ext w w'):=by
 have hE:=Ext.refl w;have wx:IntKind.u64.wrap (x:Int)=(x:Int):=by simp[IntKind.wrap,IntKind.bits,IntKind.signed];omega
 have hb:=qN (y:=x) (n:=16) (by omega)
 go_enter Tryz.func159,Tryz.ntmps159
 go_wp2_with (first|(go_at_call 119;((with_reducible refine(El _ _ h0 hx).mono ?_);rintro e Wc1 ⟨rfl,hEc1⟩;(try replace hE:=hE.trans hEc1))))
 go_ret
 have hp:2^lenOf x≤65536:=Nat.pow_le_pow_right (n:=2) (by decide) hb
 have e:IntKind.u64.wrap ((2:Int)^lenOf x)=((2^lenOf x:Nat):Int):=by
  rw[show(2:Int)^lenOf x=((2^lenOf x:Nat):Int) by push_cast;rfl]
  generalize 2^lenOf x=n at hp;simp[IntKind.wrap,IntKind.bits,IntKind.signed];omega
 exact⟨by rw[←e];rfl,hE⟩
end Go.St
end
section
namespace Go.St
open Go Go.Bp Go.RowKit Go.Proofs
theorem xU:(Tryz.prog.info? 223).map TypeInfo.size=some 1:=by kernel_rfl
theorem Re:(Tryz.prog.info? 223).map (fun i=>(i.zero,i.size,i.bytes))=some (some (.int .u64 0),1,8):=by kernel_rfl
set_option maxHeartbeats 2000000 in
theorem yQ(gr:Nat)(v:Int)(w:World)(hB:Blk w gr 223 #[.int .u64 v]):Calls Tryz.prog 160 #[.pointer (some ⟨gr,0,none⟩)] w (fun e w'=>∃v',e=.returned (.int .u64 v')∧Blk w' gr 223 #[.int .u64 v']∧w.grownBy w' (some gr)):=by
 have hG:=pK w (some gr);go_enter Tryz.func160,Tryz.ntmps160
 go_wp2
 apply gC (R:=fun w'=>∃v1,Blk w' gr 223 #[.int .u64 v1]∧w.grownBy w' (some gr))
 case h=>
  have hBd:=hB.d;have c0:=hBd.cell 0;simp at c0;refine aR (.take 0 (.take 1 (.take 3 (.take 4 (.two 2 (.one 5 (.take 6 (.take 7 (.take 8 (.one 9 .nil))))) 5 (.take 6 (.one 2 (.take 7 (.take 8 (.one 9 .nil)))))))))) (fun w'=>True) ?_ (fun hHd=> ?_)
  ·exact True.intro
  repeat' first|((with_reducible refine aB ?_);(refine tk (v:= ?_) ?_ hHd ?_;rotate_left;(·(intro wq hSw;(try dsimp only at hSw);go_simp;(try with_reducible rfl))));(try simp only[pS]))|((with_reducible refine bC ?_);refine aQ (by simp only[gS];rfl) ?_)|((with_reducible refine fQ ?_);refine dI (by simp only[gS];rfl) (by simp only[gS];rfl) ?_ ?_)|((with_reducible refine aH (d:=some 5) ?_);(((with_reducible refine aC (d:=some 5) (p:=⟨gr,0,none⟩) (v:=.int .u64 v) ?_ ?_ ?_);rfl;exact aY Tryz.underlying223 rfl c0)))|((with_reducible refine aH (d:=some 8) ?_);(((with_reducible refine aC (d:=some 8) (p:=⟨gr,0,none⟩) (v:=.int .u64 v) ?_ ?_ ?_);rfl;exact aY Tryz.underlying223 rfl c0)))|((with_reducible refine aH (d:=none) ?_);(((with_reducible refine aT (t:=223) (e:=223) (g:=gr) (off:=0) (v:=.int .u64 (bits .xor .u64 v (IntKind.u64.wrap (v*8192)))) ?_ ?_ hBd xU ?_ ?_ ?_ ?_);rfl;rfl;rfl;simp;rfl;intro Ws hBs hgrs;simp at hBs;replace hgrs:=gP hG (bE hgrs))))|((with_reducible refine bB ?_);clear hHd;refine aJ ?_ (fun hHd=> ?_);(·exact True.intro);(try simp only[pS]))|(with_reducible refine aG ?_)
  all_goals exact⟨rfl,rfl,_,hBs,hgrs⟩
 rintro Wk ⟨v1,hB1,hG1⟩;have c1:=hB1.cell 0;simp at c1;go_wp2
 clear hB hG;have hB:=hB1;have hG:=hG1;clear hB1 hG1;generalize v1=v at hB c1⊢;apply gC (R:=fun w'=>∃v1,Blk w' gr 223 #[.int .u64 v1]∧w.grownBy w' (some gr))
 case h=>
  have hBd:=hB.d;have c0:=hBd.cell 0;simp at c0;refine aR (.take 0 (.take 1 (.take 3 (.take 4 (.two 2 (.one 5 (.take 6 (.take 7 (.take 8 (.one 9 .nil))))) 5 (.take 6 (.one 2 (.take 7 (.take 8 (.one 9 .nil)))))))))) (fun w'=>True) ?_ (fun hHd=> ?_)
  ·exact True.intro
  repeat' first|((with_reducible refine aB ?_);(refine tk (v:= ?_) ?_ hHd ?_;rotate_left;(·(intro wq hSw;(try dsimp only at hSw);go_simp;(try with_reducible rfl))));(try simp only[pS]))|((with_reducible refine bC ?_);refine aQ (by simp only[gS];rfl) ?_)|((with_reducible refine fQ ?_);refine dI (by simp only[gS];rfl) (by simp only[gS];rfl) ?_ ?_)|((with_reducible refine aH (d:=some 14) ?_);(((with_reducible refine aC (d:=some 14) (p:=⟨gr,0,none⟩) (v:=.int .u64 v) ?_ ?_ ?_);rfl;exact aY Tryz.underlying223 rfl c0)))|((with_reducible refine aH (d:=some 17) ?_);(((with_reducible refine aC (d:=some 17) (p:=⟨gr,0,none⟩) (v:=.int .u64 v) ?_ ?_ ?_);rfl;exact aY Tryz.underlying223 rfl c0)))|((with_reducible refine aH (d:=none) ?_);(((with_reducible refine aT (t:=223) (e:=223) (g:=gr) (off:=0) (v:=.int .u64 (bits .xor .u64 v (v/128))) ?_ ?_ hBd xU ?_ ?_ ?_ ?_);rfl;rfl;rfl;simp;rfl;intro Ws hBs hgrs;simp at hBs;replace hgrs:=gP hG (bE hgrs))))|((with_reducible refine bB ?_);clear hHd;refine aJ ?_ (fun hHd=> ?_);(·exact True.intro);(try simp only[pS]))|(with_reducible refine aG ?_)
  all_goals exact⟨rfl,rfl,_,hBs,hgrs⟩
 rintro Wk ⟨v1,hB1,hG1⟩;have c1:=hB1.cell 0;simp at c1;go_wp2
 clear hB hG;have hB:=hB1;have hG:=hG1;clear hB1 hG1;generalize v1=v at hB c1⊢;apply gC (R:=fun w'=>∃v1,Blk w' gr 223 #[.int .u64 v1]∧w.grownBy w' (some gr))
 case h=>
  have hBd:=hB.d;have c0:=hBd.cell 0;simp at c0;refine aR (.take 0 (.take 1 (.take 3 (.take 4 (.two 2 (.one 5 (.take 6 (.take 7 (.take 8 (.one 9 .nil))))) 5 (.take 6 (.one 2 (.take 7 (.take 8 (.one 9 .nil)))))))))) (fun w'=>True) ?_ (fun hHd=> ?_)
  ·exact True.intro
  repeat' first|((with_reducible refine aB ?_);(refine tk (v:= ?_) ?_ hHd ?_;rotate_left;(·(intro wq hSw;(try dsimp only at hSw);go_simp;(try with_reducible rfl))));(try simp only[pS]))|((with_reducible refine bC ?_);refine aQ (by simp only[gS];rfl) ?_)|((with_reducible refine fQ ?_);refine dI (by simp only[gS];rfl) (by simp only[gS];rfl) ?_ ?_)|((with_reducible refine aH (d:=some 23) ?_);(((with_reducible refine aC (d:=some 23) (p:=⟨gr,0,none⟩) (v:=.int .u64 v) ?_ ?_ ?_);rfl;exact aY Tryz.underlying223 rfl c0)))|((with_reducible refine aH (d:=some 26) ?_);(((with_reducible refine aC (d:=some 26) (p:=⟨gr,0,none⟩) (v:=.int .u64 v) ?_ ?_ ?_);rfl;exact aY Tryz.underlying223 rfl c0)))|((with_reducible refine aH (d:=none) ?_);(((with_reducible refine aT (t:=223) (e:=223) (g:=gr) (off:=0) (v:=.int .u64 (bits .xor .u64 v (IntKind.u64.wrap (v*131072)))) ?_ ?_ hBd xU ?_ ?_ ?_ ?_);rfl;rfl;rfl;simp;rfl;intro Ws hBs hgrs;simp at hBs;replace hgrs:=gP hG (bE hgrs))))|((with_reducible refine bB ?_);clear hHd;refine aJ ?_ (fun hHd=> ?_);(·exact True.intro);(try simp only[pS]))|(with_reducible refine aG ?_)
  all_goals exact⟨rfl,rfl,_,hBs,hgrs⟩
 rintro Wk ⟨v1,hB1,hG1⟩;have c1:=hB1.cell 0;simp at c1;go_wp2
 clear hB hG;have hB:=hB1;have hG:=hG1;clear hB1 hG1;generalize v1=v at hB c1⊢;go_ret
 exact⟨_,rfl,hB,hG⟩
theorem Ql(v:Int)(M:Nat)(h1:1≤M)(h2:M≤1000000):∃o:Nat,bits .and .u64 v ((M:Int)-1)=(o:Int)∧o<M:=by
 obtain⟨m,rfl⟩:∃m,M=m+1:=⟨M-1,by omega⟩
 refine⟨(BitVec.ofInt 64 v&&&BitVec.ofInt 64 (m:Int)).toNat,?_,?_⟩
 ·rw[show((m+1:Nat):Int)-1=(m:Int) by omega]
  show IntKind.u64.wrap ((BitVec.ofInt 64 v&&&BitVec.ofInt 64 (m:Int)).toNat:Int)=((BitVec.ofInt 64 v&&&BitVec.ofInt 64 (m:Int)).toNat:Int)
  have h:=(BitVec.ofInt 64 v&&&BitVec.ofInt 64 (m:Int)).isLt;generalize (BitVec.ofInt 64 v&&&BitVec.ofInt 64 (m:Int)).toNat=n at h;show IntKind.u64.wrap (n:Int)=(n:Int)
  have h6:n<18446744073709551616:=h;clear h;simp[IntKind.wrap,IntKind.bits,IntKind.signed];omega
 ·have h3:(BitVec.ofInt 64 v&&&BitVec.ofInt 64 (m:Int)).toNat≤(BitVec.ofInt 64 (m:Int)).toNat:=by
   rw[BitVec.toNat_and];exact Nat.and_le_right
  have h4:(BitVec.ofInt 64 (m:Int)).toNat=m:=by
   rw[BitVec.toNat_ofInt];omega
  omega
theorem Jy(x:Nat)(w:World)(h0:0<x)(hx:x<65536):Calls Tryz.prog 159 #[.int .i64 x] w (fun e w'=>(∃M:Nat,e=.returned (.int .u64 (M:Int))∧1≤M∧M≤2*x)∧Ext w w'):=by
 refine(Aa x w h0 hx).mono ?_;rintro e W ⟨rfl,hE⟩;refine⟨⟨_,rfl,Nat.one_le_two_pow,?_⟩,hE⟩;exact(Kd h0).1
set_option maxHeartbeats 4000000 in
theorem Ig(W0:World)(fv:Value)(g o cap:Nat)(xs0:List (Int×Int))(a b:Nat)(w:World)(hS:Sw W0 113 g o cap xs0 w)(hl:xs0.length≤60000)(hb:b≤xs0.length)(hab:a+12<b):
 Calls Tryz.prog 140 #[.slice (some ⟨g,o,none⟩) xs0.length cap,.int .i64 a,.int .i64 b,fv] w (fun e w'=>(∃v,e=.returned v)∧Sw W0 113 g o cap xs0 w'):=by
 obtain⟨l,hL⟩:∃l:Nat,l=b-a:=⟨_,rfl⟩;obtain⟨q,hq⟩:∃q:Nat,q=l/4:=⟨_,rfl⟩;obtain⟨q2,hq2⟩:∃q:Nat,q=l/4*2:=⟨_,rfl⟩;obtain⟨s,hs⟩:∃s:Nat,s=a+q2:=⟨_,rfl⟩;obtain⟨i0,hi0⟩:∃s:Nat,s=a+q2-1:=⟨_,rfl⟩;obtain⟨e1,he1⟩:∃s:Nat,s=a+q2+1:=⟨_,rfl⟩;have wl:IntKind.i64.wrap ((b:Int)-(a:Int))=(l:Int):=by rw[bM (by omega) (by omega)];omega
 have wq:((l:Int)).tdiv 4=(q:Int):=by rw[Int.tdiv_eq_ediv_of_nonneg (by omega)];omega
 have wqq:IntKind.i64.wrap (q:Int)=(q:Int):=bM (by omega) (by omega)
 have wq2:IntKind.i64.wrap ((q:Int)*2)=(q2:Int):=by rw[bM (by omega) (by omega)];omega
 have ws:IntKind.i64.wrap ((a:Int)+(q2:Int))=(s:Int):=by rw[bM (by omega) (by omega)];omega
 have wi0:IntKind.i64.wrap ((s:Int)-1)=(i0:Int):=by rw[bM (by omega) (by omega)];omega
 have we1:IntKind.i64.wrap ((s:Int)+1)=(e1:Int):=by rw[bM (by omega) (by omega)];omega
 have wu:IntKind.u64.wrap (l:Int)=(l:Int):=by simp[IntKind.wrap,IntKind.bits,IntKind.signed];omega
 have l8:(8:Int)≤(l:Int):=by omega
 have hl0:0<l:=by omega
 have hl6:l<65536:=by omega
 have HF:=Lib.hid (show i0+2=e1∧e1<xs0.length∧a+l=b by omega)
 clear hL hq hq2 hs hi0 he1 hab;go_enter Tryz.func140,Tryz.ntmps140
 go_wp2_with (first|((with_reducible refine aO (e:=223) (u:=9) (v:=.int .u64 l) Re ?_ ?_ ?_ ?_ ?_ ?_);(intro g;rfl);(intro g;rfl);rfl;rfl;(simp[Value.cells,Value.oneCell']);intro W9 g9 hE9 hB9 hg9;simp[Value.cells] at hB9;have hS9:=Sw.ext hS hE9;have hg90:=Nat.le_trans hS.1.size hg9)|(go_at_call 159;refine(Jy l _ hl0 hl6).mono ?_;rintro e Wn ⟨⟨M,rfl,hM1,hM2⟩,hEn⟩;replace hS9:=hS9.ext hEn;replace hB9:=hB9.ext hEn))
 have wm:IntKind.u64.wrap ((M:Int)-1)=(M:Int)-1:=by simp[IntKind.wrap,IntKind.bits,IntKind.signed];omega
 go_loopw [11,12] (fun vi _ wr=>Sw W0 113 g o cap xs0 wr∧∃v,Blk wr g9 223 #[.int .u64 v]∧∃i:Nat,vi=.int .i64 i∧i0≤i∧i≤i0+3) (fun vi _ _=>i0+4-(intOf vi).toNat)
 case atStart=>exact⟨hS9,_,hB9,i0,rfl,by omega,by omega⟩
 case round=>
  obtain⟨hSr,v,hBr,i,rfl,hi1,hi2⟩:=hrel;clear hS hS9 hB9;by_cases hle:i≤e1
  ·have hzz:(i:Int)≤(e1:Int):=by omega
   have Hi:=Lib.hid (show i0≤i∧i≤i0+2∧i<xs0.length∧a+l=b by have:=HF.out;omega)
   clear hi1 hi2 hle;go_wp2_with (first|(go_at_call 160;refine(yQ g9 v _ hBr).mono ?_;rintro e Wx ⟨v',rfl,hB9,hG⟩;replace hSr:=hSr.own hG hg90 (hSr.ne hBr (by decide));obtain⟨oo,ho1,ho2⟩:=Ql v' M (by omega) (by omega);have wo:IntKind.i64.wrap (oo:Int)=(oo:Int):=bM (by omega) (by omega);clear hBr hG))
   ·have hlo:l≤oo:=by omega
    obtain⟨x2,hx2⟩:∃x:Nat,x=oo-l:=⟨_,rfl⟩;have wx2:(oo:Int)-(l:Int)=(x2:Int):=by omega
    have h1l:x2<l:=by omega
    rw[wx2];clear hlo hx2 wx2 ho1;obtain⟨ij,hij⟩:∃i:Nat,i=a+x2:=⟨_,rfl⟩;have hHi:=Hi.out;have wij:IntKind.i64.wrap ((a:Int)+(x2:Int))=(ij:Int):=by rw[bM (by omega) (by omega)];omega
    have q1:i<xs0.length:=by have:=Hi.out;omega
    have q2:ij<xs0.length:=by have:=Hi.out;omega
    have z1:(i:Int)<(xs0.length:Int):=by omega
    have z2:(ij:Int)<(xs0.length:Int):=by omega
    clear hHi h1l;have hne:=hSr.ne hB9 (by decide)
    generalize Wx=wr at hSr hB9⊢;obtain⟨hg,cur,xs,hR,hp⟩:=hSr;have hlen:=hp.length_eq;have hix:i<xs.length:=by omega
    have hjx:ij<xs.length:=by omega
    have hi2:=hR.at_ hix;have hj2:=hR.at_ hjx;obtain⟨x,hx⟩:∃x,xs[i]=x:=⟨_,rfl⟩;obtain⟨y,hy⟩:∃y,xs[ij]=y:=⟨_,rfl⟩;rw[hx] at hi2;rw[hy] at hj2;have f1:=hR.lt2 hix;have f2:=hR.lt2 hjx;have hB:=hR.blk;have Hput:Hid (∀W1 W2,Blk W1 g 113 (aI cur (o+(i)*2) [.int .i64 y.1,.int .i64 y.2])→wr.grownBy W1 (some g)→Blk W2 g 113 (aI (aI cur (o+(i)*2) [.int .i64 y.1,.int .i64 y.2]) (o+(ij)*2) [.int .i64 x.1,.int .i64 x.2])→W1.grownBy W2 (some g)→Sw W0 113 g o cap xs0 W2):=Lib.hid (by intro W1 W2 h1 h2 h3 h4;subst hx hy;exact Sw.put2 hg hR hp hix hjx h1 h2 h3 h4)
    have hmA:True:=trivial;clear hij;have hBd:=hB.d;have hi2d:=hi2.d;have hj2d:=hj2.d;refine aR (.take 0 (.take 1 (.take 2 (.take 3 (.take 4 (.take 5 (.take 6 (.take 7 (.take 8 (.take 9 (.take 10 (.take 12 (.take 13 (.take 14 (.two 11 (.one 15 (.take 16 (.one 17 (.take 18 (.one 19 .nil))))) 15 (.one 11 (.take 16 (.one 17 (.take 18 (.one 19 .nil)))))))))))))))))))) (fun w'=>True) ?_ (fun hHd=> ?_)
    ·exact True.intro
    repeat' first|((with_reducible refine aB ?_);(refine tk (v:= ?_) ?_ hHd ?_;rotate_left;(·(intro wq hSw;(try dsimp only at hSw);go_simp;(try with_reducible rfl))));(try simp only[pS]))|((with_reducible refine bC ?_);refine aQ (by simp only[gS];rfl) ?_)|((with_reducible refine fQ ?_);refine dI (by simp only[gS];rfl) (by simp only[gS];rfl) ?_ ?_)|((with_reducible refine aH (d:=some 60) ?_);(((with_reducible refine aC (d:=some 60) (hl:=aN hj2d) ?_ ?_);rfl)))|((with_reducible refine aH (d:=some 64) ?_);(((with_reducible refine aC (d:=some 64) (hl:=aN hi2d) ?_ ?_);rfl)))|((with_reducible refine aH (d:=none) ?_);((first|((with_reducible refine aK (t:=113) (e:=113) (g:=g) (off:=o+ij*2) (n:=2) (v:=.agg #[.int .i64 x.1,.int .i64 x.2]) ?_ ?_ hB1 aW ?_ ?_ ?_ ?_);rfl;rfl;rfl;(rw[bW (by exact f1)];exact f2);(simp[Value.cells,Value.oneCell']);intro W2 hB2 hg2)|((with_reducible refine aK (t:=113) (e:=113) (g:=g) (off:=o+i*2) (n:=2) (v:=.agg #[.int .i64 y.1,.int .i64 y.2]) ?_ ?_ hBd aW ?_ ?_ ?_ ?_);rfl;rfl;rfl;exact f1;(simp[Value.cells,Value.oneCell']);intro W1 hB1 hg1;replace hg1:=bE hg1))))|((with_reducible refine bB ?_);clear hHd;refine aJ ?_ (fun hHd=> ?_);(·exact True.intro);(try simp only[pS]))|(with_reducible refine aG ?_)
    all_goals
     have hSw:=Hput.out _ _ hB1 hg1 hB2 hg2;have hBw:=(hB9.grown hg1 (fun e=>hne (Option.some.inj e).symm)).grown hg2 (fun e=>hne (Option.some.inj e).symm)
     clear hB1 hB2 hg1 hg2 Hput;go_wp2
     go_roundw
     case rel=>exact⟨hSw,_,hBw,i+1,by go_num,by have:=Hi.out;omega,by have:=Hi.out;omega⟩
     case measure=>have:=Hi.out;simp[intOf];omega
   ·have h1l:oo<l:=by omega
    clear ho1;obtain⟨ij,hij⟩:∃i:Nat,i=a+oo:=⟨_,rfl⟩;have hHi:=Hi.out;have wij:IntKind.i64.wrap ((a:Int)+(oo:Int))=(ij:Int):=by rw[bM (by omega) (by omega)];omega
    have q1:i<xs0.length:=by have:=Hi.out;omega
    have q2:ij<xs0.length:=by have:=Hi.out;omega
    have z1:(i:Int)<(xs0.length:Int):=by omega
    have z2:(ij:Int)<(xs0.length:Int):=by omega
    clear hHi h1l;have hne:=hSr.ne hB9 (by decide)
    generalize Wx=wr at hSr hB9⊢;obtain⟨hg,cur,xs,hR,hp⟩:=hSr;have hlen:=hp.length_eq;have hix:i<xs.length:=by omega
    have hjx:ij<xs.length:=by omega
    have hi2:=hR.at_ hix;have hj2:=hR.at_ hjx;obtain⟨x,hx⟩:∃x,xs[i]=x:=⟨_,rfl⟩;obtain⟨y,hy⟩:∃y,xs[ij]=y:=⟨_,rfl⟩;rw[hx] at hi2;rw[hy] at hj2;have f1:=hR.lt2 hix;have f2:=hR.lt2 hjx;have hB:=hR.blk;have Hput:Hid (∀W1 W2,Blk W1 g 113 (aI cur (o+(i)*2) [.int .i64 y.1,.int .i64 y.2])→wr.grownBy W1 (some g)→Blk W2 g 113 (aI (aI cur (o+(i)*2) [.int .i64 y.1,.int .i64 y.2]) (o+(ij)*2) [.int .i64 x.1,.int .i64 x.2])→W1.grownBy W2 (some g)→Sw W0 113 g o cap xs0 W2):=Lib.hid (by intro W1 W2 h1 h2 h3 h4;subst hx hy;exact Sw.put2 hg hR hp hix hjx h1 h2 h3 h4)
    have hmA:True:=trivial;clear hij;have hBd:=hB.d;have hi2d:=hi2.d;have hj2d:=hj2.d;refine aR (.take 0 (.take 1 (.take 2 (.take 3 (.take 4 (.take 5 (.take 6 (.take 7 (.take 8 (.take 9 (.take 10 (.take 12 (.take 13 (.take 14 (.two 11 (.one 15 (.take 16 (.one 17 (.take 18 (.one 19 .nil))))) 15 (.one 11 (.take 16 (.one 17 (.take 18 (.one 19 .nil)))))))))))))))))))) (fun w'=>True) ?_ (fun hHd=> ?_)
    ·exact True.intro
    repeat' first|((with_reducible refine aB ?_);(refine tk (v:= ?_) ?_ hHd ?_;rotate_left;(·(intro wq hSw;(try dsimp only at hSw);go_simp;(try with_reducible rfl))));(try simp only[pS]))|((with_reducible refine bC ?_);refine aQ (by simp only[gS];rfl) ?_)|((with_reducible refine fQ ?_);refine dI (by simp only[gS];rfl) (by simp only[gS];rfl) ?_ ?_)|((with_reducible refine aH (d:=some 60) ?_);(((with_reducible refine aC (d:=some 60) (hl:=aN hj2d) ?_ ?_);rfl)))|((with_reducible refine aH (d:=some 64) ?_);(((with_reducible refine aC (d:=some 64) (hl:=aN hi2d) ?_ ?_);rfl)))|((with_reducible refine aH (d:=none) ?_);((first|((with_reducible refine aK (t:=113) (e:=113) (g:=g) (off:=o+ij*2) (n:=2) (v:=.agg #[.int .i64 x.1,.int .i64 x.2]) ?_ ?_ hB1 aW ?_ ?_ ?_ ?_);rfl;rfl;rfl;(rw[bW (by exact f1)];exact f2);(simp[Value.cells,Value.oneCell']);intro W2 hB2 hg2)|((with_reducible refine aK (t:=113) (e:=113) (g:=g) (off:=o+i*2) (n:=2) (v:=.agg #[.int .i64 y.1,.int .i64 y.2]) ?_ ?_ hBd aW ?_ ?_ ?_ ?_);rfl;rfl;rfl;exact f1;(simp[Value.cells,Value.oneCell']);intro W1 hB1 hg1;replace hg1:=bE hg1))))|((with_reducible refine bB ?_);clear hHd;refine aJ ?_ (fun hHd=> ?_);(·exact True.intro);(try simp only[pS]))|(with_reducible refine aG ?_)
    all_goals
     have hSw:=Hput.out _ _ hB1 hg1 hB2 hg2;have hBw:=(hB9.grown hg1 (fun e=>hne (Option.some.inj e).symm)).grown hg2 (fun e=>hne (Option.some.inj e).symm)
     clear hB1 hB2 hg1 hg2 Hput;go_wp2
     go_roundw
     case rel=>exact⟨hSw,_,hBw,i+1,by go_num,by have:=Hi.out;omega,by have:=Hi.out;omega⟩
     case measure=>have:=Hi.out;simp[intOf];omega
  ·have hzz:¬((i:Int)≤(e1:Int)):=by omega
   go_wp2
   go_end0
   exact⟨⟨_,rfl⟩,hSr⟩
end Go.St
end
