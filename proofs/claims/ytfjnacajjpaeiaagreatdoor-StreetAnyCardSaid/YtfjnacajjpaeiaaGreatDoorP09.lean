/- Chapter 03: contracts of functions of the program and of the reference, and plain laws (out of SQ1 SQ2 SQ3). No condition of its own. -/
import Derived.Test.YtfjnacajjpaeiaaGreatDoorP08
set_option maxRecDepth 100000
set_option linter.all false
section
namespace Go.St
open Go Go.Bp Go.RowKit Go.Proofs
def tA(W0:World)(gq:Nat)(p:Value):Prop:=∀W,W0.grownBy W (some gq)→∀x y:Int×Int,Calls Tryz.prog 97 #[p,.agg #[.int .i64 x.1,.int .i64 x.2],.agg #[.int .i64 y.1,.int .i64 y.2]] W (fun e W'=>(∃r,e=.returned (.int .i64 r))∧Ext W W')
theorem aN{w:World}{g off:Nat}{a b:Value}(h:cS w ⟨g,off,none⟩ [a,b]):(loadVar 113 ⟨g,off,none⟩).run Tryz.prog w=.ok (.agg #[a,b]) w:=by
 obtain⟨i,hi,hs⟩:=iJ aW;exact eH Tryz.underlying113 hi hs h
theorem Sw.put2{W0 W W1 W2:World}{g o cap:Nat}{xs0 xs:List (Int×Int)}{cur:Array Value}(hg:W0.grownBy W (some g))(hR:Row W 113 g o cap cur xs)(hp:xs.Perm xs0){i j:Nat}(hi:i<xs.length)(hj:j<xs.length)
 (hB1:Blk W1 g 113 (aI cur (o+i*2) [.int .i64 xs[j].1,.int .i64 xs[j].2]))(hg1:W.grownBy W1 (some g))(hB2:Blk W2 g 113 (aI (aI cur (o+i*2) [.int .i64 xs[j].1,.int .i64 xs[j].2]) (o+j*2) [.int .i64 xs[i].1,.int .i64 xs[i].2]))(hg2:W1.grownBy W2 (some g)):
 Sw W0 113 g o cap xs0 W2:=by
 have h1:=hR.put hi xs[j] hB1;have h2:=h1.put (i:=j) (by simpa using hj) xs[i] hB2
 exact⟨gP (gP hg hg1) hg2,_,_,h2,(List.set_set_perm hi hj).trans hp⟩
theorem _root_.Go.Bp.Row.lt2{W:World}{g o cap k:Nat}{cur:Array Value}{xs:List (Int×Int)}(hR:Row W 113 g o cap cur xs)(hk:k<xs.length):o+k*2+2≤cur.size:=by
 have h1:=hR.fit;have h2:=hR.len;have:=Nat.mul_le_mul_right 2 h2;omega
theorem bW{cs:Array Value}{o:Nat}{vs:List Value}(h:o+vs.length≤cs.size):(aI cs o vs).size=cs.size:=by
 simp only[aI,List.size_toArray,List.length_append,List.length_take,List.length_drop,Array.length_toList];omega
theorem bM{n:Int}(h: -4000000000000000000≤n)(h2:n≤4000000000000000000):IntKind.i64.wrap n=n:=by simp[IntKind.wrap,IntKind.bits,IntKind.signed];omega
theorem bE{w W:World}{r:Option Nat}(h:w.drew.grownBy W r):w.grownBy W r:=⟨h.os,h.tape,h.output,h.size,h.block⟩
set_option maxHeartbeats 1000000 in
theorem zP(W0:World)(fv:Value)(g o cap:Nat)(xs0:List (Int×Int))(a b:Nat)(w:World)(hS:Sw W0 113 g o cap xs0 w)(hl:xs0.length≤1000000)(hb:b≤xs0.length)(ha:a≤b):
 Calls Tryz.prog 142 #[.slice (some ⟨g,o,none⟩) xs0.length cap,.int .i64 a,.int .i64 b,fv] w (fun e w'=>(∃v,e=.returned v)∧Sw W0 113 g o cap xs0 w'):=by
 go_enter Tryz.func142,Tryz.ntmps142
 go_wp2
 go_loopw [8,9] (fun vi vj wr=>Sw W0 113 g o cap xs0 wr∧∃(i:Nat)(j:Int),vi=.int .i64 i∧vj=.int .i64 j∧j<xs0.length∧(i:Int)≤xs0.length∧ -1≤j) (fun vi vj _=>(intOf vj+1-intOf vi).toNat)
 case atStart=>exact⟨hS,a,(b:Int)-1,rfl,rfl,by omega,by omega,by omega⟩
 case round=>
  obtain⟨hSr,i,j,rfl,rfl,hj,hi,hj0⟩:=hrel;clear hS;by_cases hlt:(i:Int)<j
  ·obtain⟨jn,rfl⟩:∃n:Nat,j=n:=⟨j.toNat,by omega⟩
   obtain⟨hg,cur,xs,hR,hp⟩:=hSr;have hlen:=hp.length_eq;have hix:i<xs.length:=by omega
   have hjx:jn<xs.length:=by omega
   have hi2:=hR.at_ hix;have hj2:=hR.at_ hjx;obtain⟨x,hx⟩:∃x,xs[i]=x:=⟨_,rfl⟩;obtain⟨y,hy⟩:∃y,xs[jn]=y:=⟨_,rfl⟩;rw[hx] at hi2;rw[hy] at hj2;have f1:=hR.lt2 hix;have f2:=hR.lt2 hjx;have hB:=hR.blk;have Hput:Hid (∀W1 W2,Blk W1 g 113 (aI cur (o+(i)*2) [.int .i64 y.1,.int .i64 y.2])→wr.grownBy W1 (some g)→Blk W2 g 113 (aI (aI cur (o+(i)*2) [.int .i64 y.1,.int .i64 y.2]) (o+(jn)*2) [.int .i64 x.1,.int .i64 x.2])→W1.grownBy W2 (some g)→Sw W0 113 g o cap xs0 W2):=Lib.hid (by intro W1 W2 h1 h2 h3 h4;subst hx hy;exact Sw.put2 hg hR hp hix hjx h1 h2 h3 h4)
   have hmA:True:=trivial;have z1:(i:Int)<(xs0.length:Int):=by omega
   go_wp2
   have hBd:=hB.d;have hi2d:=hi2.d;have hj2d:=hj2.d;refine aR (.take 0 (.take 1 (.take 2 (.take 3 (.take 4 (.take 5 (.take 6 (.take 8 (.take 9 (.take 10 (.two 7 (.one 11 (.take 12 (.one 13 (.take 14 (.one 15 .nil))))) 11 (.one 7 (.take 12 (.one 13 (.take 14 (.one 15 .nil)))))))))))))))) (fun w'=>True) ?_ (fun hHd=> ?_)
   ·exact True.intro
   repeat' first|((with_reducible refine aB ?_);(refine tk (v:= ?_) ?_ hHd ?_;rotate_left;(·(intro wq hSw;(try dsimp only at hSw);go_simp;(try with_reducible rfl))));(try simp only[pS]))|((with_reducible refine bC ?_);refine aQ (by simp only[gS];rfl) ?_)|((with_reducible refine fQ ?_);refine dI (by simp only[gS];rfl) (by simp only[gS];rfl) ?_ ?_)|((with_reducible refine aH (d:=some 23) ?_);(((with_reducible refine aC (d:=some 23) (hl:=aN hj2d) ?_ ?_);rfl)))|((with_reducible refine aH (d:=some 27) ?_);(((with_reducible refine aC (d:=some 27) (hl:=aN hi2d) ?_ ?_);rfl)))|((with_reducible refine aH (d:=none) ?_);((first|((with_reducible refine aK (t:=113) (e:=113) (g:=g) (off:=o+jn*2) (n:=2) (v:=.agg #[.int .i64 x.1,.int .i64 x.2]) ?_ ?_ hB1 aW ?_ ?_ ?_ ?_);rfl;rfl;rfl;(rw[bW (by exact f1)];exact f2);(simp[Value.cells,Value.oneCell']);intro W2 hB2 hg2)|((with_reducible refine aK (t:=113) (e:=113) (g:=g) (off:=o+i*2) (n:=2) (v:=.agg #[.int .i64 y.1,.int .i64 y.2]) ?_ ?_ hBd aW ?_ ?_ ?_ ?_);rfl;rfl;rfl;exact f1;(simp[Value.cells,Value.oneCell']);intro W1 hB1 hg1;replace hg1:=bE hg1))))|((with_reducible refine bB ?_);clear hHd;refine aJ ?_ (fun hHd=> ?_);(·exact True.intro);(try simp only[pS]))|(with_reducible refine aG ?_)
   all_goals
    have hSw:=Hput.out _ _ hB1 hg1 hB2 hg2;go_wp2
    go_roundw
    case rel=>exact⟨hSw,i+1,(jn:Int)-1,by go_num,by go_num,by omega,by omega,by omega⟩
    case measure=>simp[intOf];omega
  ·go_wp2
   go_end0
   exact⟨⟨_,rfl⟩,hSr⟩
set_option maxHeartbeats 2000000 in
theorem Cu(W0:World)(p:Value)(g o cap:Nat)(xs0:List (Int×Int))(hcmp:tA W0 g p)(a b:Nat)(w:World)(hS:Sw W0 113 g o cap xs0 w)(hl:xs0.length≤1000000)(hb:b≤xs0.length)(ha:a≤b):
 Calls Tryz.prog 138 #[.slice (some ⟨g,o,none⟩) xs0.length cap,.int .i64 a,.int .i64 b,.func (.func 97) #[p] #[]] w (fun e w'=>(∃v,e=.returned v)∧Sw W0 113 g o cap xs0 w'):=by
 go_enter Tryz.func138,Tryz.ntmps138
 go_wp2
 go_loopw [8,9] (fun vi _ wr=>Sw W0 113 g o cap xs0 wr∧∃i:Nat,vi=.int .i64 i∧a+1≤i∧i≤b+1) (fun vi _ _=>b+1-(intOf vi).toNat)
 case atStart=>exact⟨hS,a+1,by go_num,by omega,by omega⟩
 case round=>
  obtain⟨hSr,i,rfl,hi1,hi2⟩:=hrel;clear hS;by_cases hlt:i<b
  ·go_wp2
   go_loopw [9] (fun vj wr=>Sw W0 113 g o cap xs0 wr∧∃j:Nat,vj=.int .i64 j∧a≤j∧j≤i) (fun vj _=>(intOf vj).toNat)
   case atStart=>exact⟨hSr,i,rfl,by omega,by omega⟩
   case round=>
    obtain⟨hSr,j,rfl,hj1,hj2⟩:=hrel;by_cases hja:a<j
    ·obtain⟨jm,rfl⟩:∃m,j=m+1:=⟨j-1,by omega⟩
     obtain⟨hg,cur,xs,hR,hp⟩:=hSr;have hlen:=hp.length_eq;have hix:jm+1<xs.length:=by omega
     have hjx:jm<xs.length:=by omega
     have hi2:=hR.at_ hix;have hj2:=hR.at_ hjx;obtain⟨x,hx⟩:∃x,xs[jm+1]=x:=⟨_,rfl⟩;obtain⟨y,hy⟩:∃y,xs[jm]=y:=⟨_,rfl⟩;rw[hx] at hi2;rw[hy] at hj2;have f1:=hR.lt2 hix;have f2:=hR.lt2 hjx;have hB:=hR.blk;have Hput:Hid (∀W1 W2,Blk W1 g 113 (aI cur (o+(jm+1)*2) [.int .i64 y.1,.int .i64 y.2])→wr.grownBy W1 (some g)→Blk W2 g 113 (aI (aI cur (o+(jm+1)*2) [.int .i64 y.1,.int .i64 y.2]) (o+(jm)*2) [.int .i64 x.1,.int .i64 x.2])→W1.grownBy W2 (some g)→Sw W0 113 g o cap xs0 W2):=Lib.hid (by intro W1 W2 h1 h2 h3 h4;subst hx hy;exact Sw.put2 hg hR hp hix hjx h1 h2 h3 h4)
     have hmA:True:=trivial;have z1:(jm:Int)+1<(xs0.length:Int):=by omega
     have z2:(jm:Int)<(xs0.length:Int):=by omega
     have z0:(0:Int)≤(jm:Int)+1:=by omega
     have wj:IntKind.i64.wrap (jm:Int)=jm:=bM (by omega) (by omega)
     go_wp2
     have hX:=Ext.todrew (Ext.refl wr);refine aR (.take 0 (.take 1 (.take 2 (.take 3 (.take 4 (.take 5 (.take 6 (.take 7 (.take 8 (.take 9 (.take 10 (.take 11 (.take 12 (.take 13 (.one 14 (.take 15 (.take 16 .nil))))))))))))))))) (fun w'=>Ext wr w') ?_ (fun hHd=> ?_)
     ·assumption
     repeat' first|((with_reducible refine aB ?_);(first|((with_reducible refine aB (i:=2) ?_);refine tk (v:=.bool true) ?_ hHd ?_;(·(intro wq hSw;go_simp;first|done|omega|(simp;omega))))|((with_reducible refine aB (i:=8) ?_);refine tw (v:=.agg #[.int .i64 x.1,.int .i64 x.2]) ?_ hHd ?_;(·exact aA (by rfl) (fun W h=>aN (hi2.ext h))))|((with_reducible refine aB (i:=13) ?_);refine tw (v:=.agg #[.int .i64 y.1,.int .i64 y.2]) ?_ hHd ?_;(·exact aA (by rfl) (fun W h=>aN (hj2.ext h))))|(refine tk (v:= ?_) ?_ hHd ?_;rotate_left;(·(intro wq hSw;(try dsimp only at hSw);go_simp;(try with_reducible rfl))))|(refine tw (v:= ?_) ?_ hHd ?_;rotate_left;(·(intro wq hSw;(try dsimp only at hSw);go_simp;(try with_reducible rfl)))));(try simp only[pS]))|((with_reducible refine bC ?_);refine aQ (by simp only[gS];rfl) ?_)|((with_reducible refine aH (d:=some 32) ?_);((refine bN (by rfl) (hcmp _ (bQ hg hX) x y) (by go_simp) ?_;rintro e Wc ⟨⟨r,rfl⟩,hEc⟩;refine⟨_,rfl,?_⟩;have hXc:=hX.trans hEc;obtain⟨bb,hbb⟩:∃b,decide (r<0)=b:=⟨_,rfl⟩)))|((with_reducible refine bB ?_);clear hHd;refine aJ ?_ (fun hHd=> ?_);(·assumption);(try simp only[pS]))|(with_reducible refine aG ?_)
     cases bb
     rotate_left
     ·go_wp2
      have hSc:=Sw.ext (⟨hg,cur,xs,hR,hp⟩:Sw W0 113 g o cap xs0 wr) hXc;clear hX hXc hi2 hj2 hB hR Hput hg hx hy hp;generalize Wc=wr at hSc;have hSr:=hSc;clear hSc;obtain⟨hg,cur,xs,hR,hp⟩:=hSr;have hlen:=hp.length_eq;have hix:jm+1<xs.length:=by omega
      have hjx:jm<xs.length:=by omega
      have hi2:=hR.at_ hix;have hj2:=hR.at_ hjx;obtain⟨x,hx⟩:∃x,xs[jm+1]=x:=⟨_,rfl⟩;obtain⟨y,hy⟩:∃y,xs[jm]=y:=⟨_,rfl⟩;rw[hx] at hi2;rw[hy] at hj2;have f1:=hR.lt2 hix;have f2:=hR.lt2 hjx;have hB:=hR.blk;have Hput:Hid (∀W1 W2,Blk W1 g 113 (aI cur (o+(jm+1)*2) [.int .i64 y.1,.int .i64 y.2])→wr.grownBy W1 (some g)→Blk W2 g 113 (aI (aI cur (o+(jm+1)*2) [.int .i64 y.1,.int .i64 y.2]) (o+(jm)*2) [.int .i64 x.1,.int .i64 x.2])→W1.grownBy W2 (some g)→Sw W0 113 g o cap xs0 W2):=Lib.hid (by intro W1 W2 h1 h2 h3 h4;subst hx hy;exact Sw.put2 hg hR hp hix hjx h1 h2 h3 h4)
      have hmA:True:=trivial;have hBd:=hB.d;have hi2d:=hi2.d;have hj2d:=hj2.d;refine aR (.take 0 (.take 1 (.take 2 (.take 3 (.take 4 (.take 5 (.take 6 (.take 7 (.take 8 (.take 10 (.take 11 (.take 12 (.two 9 (.one 13 (.take 14 (.one 15 (.take 16 (.one 17 .nil))))) 13 (.one 9 (.take 14 (.one 15 (.take 16 (.one 17 .nil)))))))))))))))))) (fun w'=>True) ?_ (fun hHd=> ?_)
      ·exact True.intro
      repeat' first|((with_reducible refine aB ?_);(refine tk (v:= ?_) ?_ hHd ?_;rotate_left;(·(intro wq hSw;(try dsimp only at hSw);go_simp;(try with_reducible rfl))));(try simp only[pS]))|((with_reducible refine bC ?_);refine aQ (by simp only[gS];rfl) ?_)|((with_reducible refine fQ ?_);refine dI (by simp only[gS];rfl) (by simp only[gS];rfl) ?_ ?_)|((with_reducible refine aH (d:=some 46) ?_);(((with_reducible refine aC (d:=some 46) (hl:=aN hj2d) ?_ ?_);rfl)))|((with_reducible refine aH (d:=some 50) ?_);(((with_reducible refine aC (d:=some 50) (hl:=aN hi2d) ?_ ?_);rfl)))|((with_reducible refine aH (d:=none) ?_);((first|((with_reducible refine aK (t:=113) (e:=113) (g:=g) (off:=o+jm*2) (n:=2) (v:=.agg #[.int .i64 x.1,.int .i64 x.2]) ?_ ?_ hB1 aW ?_ ?_ ?_ ?_);rfl;rfl;rfl;(rw[bW (by exact f1)];exact f2);(simp[Value.cells,Value.oneCell']);intro W2 hB2 hg2)|((with_reducible refine aK (t:=113) (e:=113) (g:=g) (off:=o+(jm+1)*2) (n:=2) (v:=.agg #[.int .i64 y.1,.int .i64 y.2]) ?_ ?_ hBd aW ?_ ?_ ?_ ?_);rfl;rfl;rfl;exact f1;(simp[Value.cells,Value.oneCell']);intro W1 hB1 hg1;replace hg1:=bE hg1))))|((with_reducible refine bB ?_);clear hHd;refine aJ ?_ (fun hHd=> ?_);(·exact True.intro);(try simp only[pS]))|(with_reducible refine aG ?_)
      all_goals
       have hSw:=Hput.out _ _ hB1 hg1 hB2 hg2;go_wp2
       go_roundw
       case rel=>exact⟨hSw,jm,by go_num,by omega,by omega⟩
       case measure=>simp[intOf]
     ·have hSr:=Sw.ext (⟨hg,cur,xs,hR,hp⟩:Sw W0 113 g o cap xs0 wr) hXc;clear hX hXc hi2 hj2 hB hR Hput hg hx hy hp;go_wp2
      go_roundw
      case rel=>exact⟨hSr,i+1,by go_num,by omega,by omega⟩
      case measure=>simp[intOf];omega
    ·obtain rfl:j=a:=by omega
     go_wp2
     have hX:=Ext.todrew (Ext.refl wr);refine aR (.take 0 (.take 1 (.take 2 (.take 3 (.take 4 (.take 5 (.take 6 (.take 7 (.take 8 (.take 9 (.take 10 (.take 11 (.take 12 (.take 13 (.one 14 (.take 15 (.take 16 .nil))))))))))))))))) (fun w'=>Ext wr w') ?_ (fun hHd=> ?_)
     ·assumption
     repeat' first|((with_reducible refine aB ?_);(first|((with_reducible refine aB (i:=2) ?_);refine tk (v:=.bool false) ?_ hHd ?_;(·(intro wq hSw;go_simp;first|done|omega|(simp;omega))))|(refine tk (v:= ?_) ?_ hHd ?_;rotate_left;(·(intro wq hSw;(try dsimp only at hSw);go_simp;(try with_reducible rfl))))|refine ts hHd ?_);(try simp only[pS]))|((with_reducible refine bC ?_);refine aQ (by simp only[gS];rfl) ?_)|((with_reducible refine aH (d:=some 32) ?_);refine dK (by rfl) ?_)|((with_reducible refine bB ?_);clear hHd;refine aJ ?_ (fun hHd=> ?_);(·assumption);(try simp only[pS]))|(with_reducible refine aG ?_)
     have hSr:=Sw.ext hSr hX;go_wp2
     go_roundw
     case rel=>exact⟨hSr,i+1,by go_num,by omega,by omega⟩
     case measure=>simp[intOf];omega
  ·go_wp2
   go_end0
   exact⟨⟨_,rfl⟩,hSr⟩
end Go.St
end
section
namespace Go.St
open Go Go.Bp Go.RowKit Go.Proofs
set_option maxHeartbeats 4000000 in
theorem zK(W0:World)(p:Value)(g o cap:Nat)(xs0:List (Int×Int))(hcmp:tA W0 g p)(lo hi first:Nat)(w:World)(hS:Sw W0 113 g o cap xs0 w)(hl:xs0.length≤1000000)(hf:first+hi≤xs0.length)(hlo:lo≤1000000):
 Calls Tryz.prog 158 #[.slice (some ⟨g,o,none⟩) xs0.length cap,.int .i64 lo,.int .i64 hi,.int .i64 first,.func (.func 97) #[p] #[]] w (fun e w'=>(∃v,e=.returned v)∧Sw W0 113 g o cap xs0 w'):=by
 go_enter Tryz.func158,Tryz.ntmps158
 go_wp2
 go_loopw [10,11] (fun vr _ wr=>Sw W0 113 g o cap xs0 wr∧∃r:Nat,vr=.int .i64 r∧r≤1000000) (fun vr _ _=>1000001-(intOf vr).toNat)
 case atStart=>exact⟨hS,lo,rfl,hlo⟩
 case round=>
  obtain⟨hSr,rt,rfl,hr1⟩:=hrel;clear hS;by_cases hch:2*rt+1<hi
  ·have w1:IntKind.i64.wrap (2*(rt:Int)+1)=2*(rt:Int)+1:=bM (by omega) (by omega)
   have w2:IntKind.i64.wrap (2*(rt:Int))=2*(rt:Int):=bM (by omega) (by omega)
   go_wp2
   obtain⟨c,hc⟩:∃c:Nat,2*(rt:Int)+1=(c:Int):=⟨2*rt+1,by omega⟩
   rw[hc];have hc1:c<hi:=by omega
   have hrc1:rt<c:=by omega
   have Hc:=Lib.hid (⟨hc1,hrc1⟩:_∧_);clear hc hch w1 w2;by_cases hc2:c+1<hi
   ·obtain⟨ia,hia⟩:∃i:Nat,i=first+c:=⟨_,rfl⟩
    obtain⟨ib,hib⟩:∃i:Nat,i=first+c+1:=⟨_,rfl⟩
    obtain⟨c2,hcc⟩:∃i:Nat,i=c+1:=⟨_,rfl⟩;have wia:IntKind.i64.wrap ((first:Int)+(c:Int))=(ia:Int):=by rw[bM (by omega) (by omega)];omega
    have wib:IntKind.i64.wrap ((ia:Int)+1)=(ib:Int):=by rw[bM (by omega) (by omega)];omega
    have wcc:IntKind.i64.wrap ((c:Int)+1)=(c2:Int):=by rw[bM (by omega) (by omega)];omega
    have q1:ia<xs0.length:=by omega
    have q2:ib<xs0.length:=by omega
    have z1:(ia:Int)<(xs0.length:Int):=by omega
    have z2:(ib:Int)<(xs0.length:Int):=by omega
    have z3:(c2:Int)<(hi:Int):=by omega
    have Hcc:=Lib.hid hcc;have Hf:=Lib.hid hf;clear hia hib hcc hf hc2 hc1 hrc1;obtain⟨hg,cur,xs,hR,hp⟩:=hSr;have hlen:=hp.length_eq;have hix:ia<xs.length:=by omega
    have hjx:ib<xs.length:=by omega
    have hi2:=hR.at_ hix;have hj2:=hR.at_ hjx;obtain⟨x,hx⟩:∃x,xs[ia]=x:=⟨_,rfl⟩;obtain⟨y,hy⟩:∃y,xs[ib]=y:=⟨_,rfl⟩;rw[hx] at hi2;rw[hy] at hj2;have f1:=hR.lt2 hix;have f2:=hR.lt2 hjx;have hB:=hR.blk;have Hput:Hid (∀W1 W2,Blk W1 g 113 (aI cur (o+(ia)*2) [.int .i64 y.1,.int .i64 y.2])→wr.grownBy W1 (some g)→Blk W2 g 113 (aI (aI cur (o+(ia)*2) [.int .i64 y.1,.int .i64 y.2]) (o+(ib)*2) [.int .i64 x.1,.int .i64 x.2])→W1.grownBy W2 (some g)→Sw W0 113 g o cap xs0 W2):=Lib.hid (by intro W1 W2 h1 h2 h3 h4;subst hx hy;exact Sw.put2 hg hR hp hix hjx h1 h2 h3 h4)
    have hmA:True:=trivial;have hX:=Ext.todrew (Ext.refl wr);refine aR (.take 0 (.take 1 (.take 2 (.take 3 (.take 4 (.take 5 (.take 6 (.take 7 (.take 8 (.take 9 (.take 10 (.take 11 (.take 12 (.take 13 (.take 14 (.take 15 (.take 16 (.take 17 (.take 18 (.one 19 (.take 20 (.take 21 .nil)))))))))))))))))))))) (fun w'=>Ext wr w') ?_ (fun hHd=> ?_)
    ·assumption
    repeat' first|((with_reducible refine aB ?_);(first|((with_reducible refine aB (i:=3) ?_);refine tk (v:=.bool true) ?_ hHd ?_;(·(intro wq hSw;go_simp;first|done|omega|(simp;omega))))|((with_reducible refine aB (i:=11) ?_);refine tw (v:=.agg #[.int .i64 x.1,.int .i64 x.2]) ?_ hHd ?_;(·exact aA (by rfl) (fun W h=>aN (hi2.ext h))))|((with_reducible refine aB (i:=18) ?_);refine tw (v:=.agg #[.int .i64 y.1,.int .i64 y.2]) ?_ hHd ?_;(·exact aA (by rfl) (fun W h=>aN (hj2.ext h))))|(refine tk (v:= ?_) ?_ hHd ?_;rotate_left;(·(intro wq hSw;(try dsimp only at hSw);go_simp;(try with_reducible rfl))))|(refine tw (v:= ?_) ?_ hHd ?_;rotate_left;(·(intro wq hSw;(try dsimp only at hSw);go_simp;(try with_reducible rfl)))));(try simp only[pS]))|((with_reducible refine bC ?_);refine aQ (by simp only[gS];rfl) ?_)|((with_reducible refine aH (d:=some 38) ?_);((refine bN (by rfl) (hcmp _ (bQ hg hX) x y) (by go_simp) ?_;rintro e Wc ⟨⟨r,rfl⟩,hEc⟩;refine⟨_,rfl,?_⟩;have hXc:=hX.trans hEc;obtain⟨bb,hbb⟩:∃b,decide (r<0)=b:=⟨_,rfl⟩)))|((with_reducible refine bB ?_);clear hHd;refine aJ ?_ (fun hHd=> ?_);(·assumption);(try simp only[pS]))|(with_reducible refine aG ?_)
    have hSc:=Sw.ext (⟨hg,cur,xs,hR,hp⟩:Sw W0 113 g o cap xs0 wr) hXc;clear hX hXc hi2 hj2 hB hR Hput hg hx hy hp f1 f2 hmA wia wib z1 z2;generalize Wc=wr at hSc⊢;have hSr:=hSc;clear hSc;have hf:=Hf.out
    cases bb
    rotate_left
    ·go_wp2
     have hc2:c2<hi:=by omega
     have hrc:rt<c2:=by have:=Hc.out;have:=Hcc.out;omega
     clear wcc z3;obtain⟨ir,hir⟩:∃i:Nat,i=first+rt:=⟨_,rfl⟩
     obtain⟨ic,hic⟩:∃i:Nat,i=first+c2:=⟨_,rfl⟩
     have wir:IntKind.i64.wrap ((first:Int)+(rt:Int))=(ir:Int):=by rw[bM (by omega) (by omega)];omega
     have wic:IntKind.i64.wrap ((first:Int)+(c2:Int))=(ic:Int):=by rw[bM (by omega) (by omega)];omega
     have q1:ir<xs0.length:=by omega
     have q2:ic<xs0.length:=by omega
     have z1:(ir:Int)<(xs0.length:Int):=by omega
     have z2:(ic:Int)<(xs0.length:Int):=by omega
     have hcm:c2≤1000000:=by omega
     have Hs:=Lib.hid (⟨hcm,hrc,hr1⟩:_∧_∧_);clear hir hic hc2 hrc hf hcm;obtain⟨hg,cur,xs,hR,hp⟩:=hSr;have hlen:=hp.length_eq;have hix:ir<xs.length:=by omega
     have hjx:ic<xs.length:=by omega
     have hi2:=hR.at_ hix;have hj2:=hR.at_ hjx;obtain⟨x,hx⟩:∃x,xs[ir]=x:=⟨_,rfl⟩;obtain⟨y,hy⟩:∃y,xs[ic]=y:=⟨_,rfl⟩;rw[hx] at hi2;rw[hy] at hj2;have f1:=hR.lt2 hix;have f2:=hR.lt2 hjx;have hB:=hR.blk;have Hput:Hid (∀W1 W2,Blk W1 g 113 (aI cur (o+(ir)*2) [.int .i64 y.1,.int .i64 y.2])→wr.grownBy W1 (some g)→Blk W2 g 113 (aI (aI cur (o+(ir)*2) [.int .i64 y.1,.int .i64 y.2]) (o+(ic)*2) [.int .i64 x.1,.int .i64 x.2])→W1.grownBy W2 (some g)→Sw W0 113 g o cap xs0 W2):=Lib.hid (by intro W1 W2 h1 h2 h3 h4;subst hx hy;exact Sw.put2 hg hR hp hix hjx h1 h2 h3 h4)
     have hmA:True:=trivial;go_wp2
     have hX:=Ext.todrew (Ext.refl wr);refine aR (.take 0 (.take 1 (.take 2 (.take 3 (.take 4 (.take 5 (.take 6 (.take 7 (.take 8 (.take 9 (.take 10 (.take 11 (.take 12 (.one 13 (.take 14 (.take 15 .nil)))))))))))))))) (fun w'=>Ext wr w') ?_ (fun hHd=> ?_)
     ·assumption
     repeat' first|((with_reducible refine aB ?_);(first|((with_reducible refine aB (i:=6) ?_);refine tk (v:=.agg #[.int .i64 x.1,.int .i64 x.2]) ?_ hHd ?_;(·exact aA (by rfl) (fun W h=>aN (hi2.ext h))))|((with_reducible refine aB (i:=12) ?_);refine tk (v:=.agg #[.int .i64 y.1,.int .i64 y.2]) ?_ hHd ?_;(·exact aA (by rfl) (fun W h=>aN (hj2.ext h))))|(refine tk (v:= ?_) ?_ hHd ?_;rotate_left;(·(intro wq hSw;(try dsimp only at hSw);go_simp;(try with_reducible rfl)))));(try simp only[pS]))|((with_reducible refine bC ?_);refine aQ (by simp only[gS];rfl) ?_)|((with_reducible refine aH (d:=some 56) ?_);((refine bD (by rfl) (hcmp _ (bQ hg hX) x y) (by go_simp) ?_;rintro e Wc ⟨⟨r,rfl⟩,hEc⟩;refine⟨_,rfl,?_⟩;have hXc:=hX.trans hEc;obtain⟨bb,hbb⟩:∃b,decide (r<0)=b:=⟨_,rfl⟩)))|((with_reducible refine bB ?_);clear hHd;refine aJ ?_ (fun hHd=> ?_);(·assumption);(try simp only[pS]))|(with_reducible refine aG ?_)
     cases bb
     rotate_left
     ·go_wp2
      have hSc:=Sw.ext (⟨hg,cur,xs,hR,hp⟩:Sw W0 113 g o cap xs0 wr) hXc;clear hX hXc hi2 hj2 hB hR Hput hg hx hy hp;generalize Wc=wr at hSc;have hSr:=hSc;clear hSc;obtain⟨hg,cur,xs,hR,hp⟩:=hSr;have hlen:=hp.length_eq;have hix:ir<xs.length:=by omega
      have hjx:ic<xs.length:=by omega
      have hi2:=hR.at_ hix;have hj2:=hR.at_ hjx;obtain⟨x,hx⟩:∃x,xs[ir]=x:=⟨_,rfl⟩;obtain⟨y,hy⟩:∃y,xs[ic]=y:=⟨_,rfl⟩;rw[hx] at hi2;rw[hy] at hj2;have f1:=hR.lt2 hix;have f2:=hR.lt2 hjx;have hB:=hR.blk;have Hput:Hid (∀W1 W2,Blk W1 g 113 (aI cur (o+(ir)*2) [.int .i64 y.1,.int .i64 y.2])→wr.grownBy W1 (some g)→Blk W2 g 113 (aI (aI cur (o+(ir)*2) [.int .i64 y.1,.int .i64 y.2]) (o+(ic)*2) [.int .i64 x.1,.int .i64 x.2])→W1.grownBy W2 (some g)→Sw W0 113 g o cap xs0 W2):=Lib.hid (by intro W1 W2 h1 h2 h3 h4;subst hx hy;exact Sw.put2 hg hR hp hix hjx h1 h2 h3 h4)
      have hmA:True:=trivial;have hBd:=hB.d;have hi2d:=hi2.d;have hj2d:=hj2.d;refine aR (.take 0 (.take 1 (.take 2 (.take 3 (.take 4 (.take 5 (.take 6 (.take 7 (.take 8 (.take 9 (.take 10 (.take 11 (.take 12 (.take 14 (.take 15 (.take 16 (.take 17 (.take 18 (.two 13 (.one 19 (.take 20 (.one 21 (.take 22 (.one 23 .nil))))) 19 (.one 13 (.take 20 (.one 21 (.take 22 (.one 23 .nil)))))))))))))))))))))))) (fun w'=>True) ?_ (fun hHd=> ?_)
      ·exact True.intro
      repeat' first|((with_reducible refine aB ?_);(refine tk (v:= ?_) ?_ hHd ?_;rotate_left;(·(intro wq hSw;(try dsimp only at hSw);go_simp;(try with_reducible rfl))));(try simp only[pS]))|((with_reducible refine bC ?_);refine aQ (by simp only[gS];rfl) ?_)|((with_reducible refine fQ ?_);refine dI (by simp only[gS];rfl) (by simp only[gS];rfl) ?_ ?_)|((with_reducible refine aH (d:=some 72) ?_);(((with_reducible refine aC (d:=some 72) (hl:=aN hj2d) ?_ ?_);rfl)))|((with_reducible refine aH (d:=some 78) ?_);(((with_reducible refine aC (d:=some 78) (hl:=aN hi2d) ?_ ?_);rfl)))|((with_reducible refine aH (d:=none) ?_);((first|((with_reducible refine aK (t:=113) (e:=113) (g:=g) (off:=o+ic*2) (n:=2) (v:=.agg #[.int .i64 x.1,.int .i64 x.2]) ?_ ?_ hB1 aW ?_ ?_ ?_ ?_);rfl;rfl;rfl;(rw[bW (by exact f1)];exact f2);(simp[Value.cells,Value.oneCell']);intro W2 hB2 hg2)|((with_reducible refine aK (t:=113) (e:=113) (g:=g) (off:=o+ir*2) (n:=2) (v:=.agg #[.int .i64 y.1,.int .i64 y.2]) ?_ ?_ hBd aW ?_ ?_ ?_ ?_);rfl;rfl;rfl;exact f1;(simp[Value.cells,Value.oneCell']);intro W1 hB1 hg1;replace hg1:=bE hg1))))|((with_reducible refine bB ?_);clear hHd;refine aJ ?_ (fun hHd=> ?_);(·exact True.intro);(try simp only[pS]))|(with_reducible refine aG ?_)
      all_goals
       have hSw:=Hput.out _ _ hB1 hg1 hB2 hg2;go_wp2
       go_roundw
       case rel=>exact⟨hSw,c2,by go_num,by have:=Hs.out;omega⟩
       case measure=>have:=Hs.out;simp[intOf];omega
     ·have hSr:=Sw.ext (⟨hg,cur,xs,hR,hp⟩:Sw W0 113 g o cap xs0 wr) hXc;clear hX hXc hi2 hj2 hB hR Hput hg hx hy hp;go_wp2
      refine bodyPost_ret (results_none rfl _ _ _) ?_ ?_
      ·rfl
      ·exact⟨⟨_,rfl⟩,hSr⟩
    ·go_wp2
     clear wcc z3;obtain⟨hc2,hrc⟩:=Hc.out;clear Hc Hcc Hf;generalize c=c2 at hc2 hrc⊢;obtain⟨ir,hir⟩:∃i:Nat,i=first+rt:=⟨_,rfl⟩
     obtain⟨ic,hic⟩:∃i:Nat,i=first+c2:=⟨_,rfl⟩
     have wir:IntKind.i64.wrap ((first:Int)+(rt:Int))=(ir:Int):=by rw[bM (by omega) (by omega)];omega
     have wic:IntKind.i64.wrap ((first:Int)+(c2:Int))=(ic:Int):=by rw[bM (by omega) (by omega)];omega
     have q1:ir<xs0.length:=by omega
     have q2:ic<xs0.length:=by omega
     have z1:(ir:Int)<(xs0.length:Int):=by omega
     have z2:(ic:Int)<(xs0.length:Int):=by omega
     have hcm:c2≤1000000:=by omega
     have Hs:=Lib.hid (⟨hcm,hrc,hr1⟩:_∧_∧_);clear hir hic hc2 hrc hf hcm;obtain⟨hg,cur,xs,hR,hp⟩:=hSr;have hlen:=hp.length_eq;have hix:ir<xs.length:=by omega
     have hjx:ic<xs.length:=by omega
     have hi2:=hR.at_ hix;have hj2:=hR.at_ hjx;obtain⟨x,hx⟩:∃x,xs[ir]=x:=⟨_,rfl⟩;obtain⟨y,hy⟩:∃y,xs[ic]=y:=⟨_,rfl⟩;rw[hx] at hi2;rw[hy] at hj2;have f1:=hR.lt2 hix;have f2:=hR.lt2 hjx;have hB:=hR.blk;have Hput:Hid (∀W1 W2,Blk W1 g 113 (aI cur (o+(ir)*2) [.int .i64 y.1,.int .i64 y.2])→wr.grownBy W1 (some g)→Blk W2 g 113 (aI (aI cur (o+(ir)*2) [.int .i64 y.1,.int .i64 y.2]) (o+(ic)*2) [.int .i64 x.1,.int .i64 x.2])→W1.grownBy W2 (some g)→Sw W0 113 g o cap xs0 W2):=Lib.hid (by intro W1 W2 h1 h2 h3 h4;subst hx hy;exact Sw.put2 hg hR hp hix hjx h1 h2 h3 h4)
     have hmA:True:=trivial;go_wp2
     have hX:=Ext.todrew (Ext.refl wr);refine aR (.take 0 (.take 1 (.take 2 (.take 3 (.take 4 (.take 5 (.take 6 (.take 7 (.take 8 (.take 9 (.take 10 (.take 11 (.take 12 (.one 13 (.take 14 (.take 15 .nil)))))))))))))))) (fun w'=>Ext wr w') ?_ (fun hHd=> ?_)
     ·assumption
     repeat' first|((with_reducible refine aB ?_);(first|((with_reducible refine aB (i:=6) ?_);refine tk (v:=.agg #[.int .i64 x.1,.int .i64 x.2]) ?_ hHd ?_;(·exact aA (by rfl) (fun W h=>aN (hi2.ext h))))|((with_reducible refine aB (i:=12) ?_);refine tk (v:=.agg #[.int .i64 y.1,.int .i64 y.2]) ?_ hHd ?_;(·exact aA (by rfl) (fun W h=>aN (hj2.ext h))))|(refine tk (v:= ?_) ?_ hHd ?_;rotate_left;(·(intro wq hSw;(try dsimp only at hSw);go_simp;(try with_reducible rfl)))));(try simp only[pS]))|((with_reducible refine bC ?_);refine aQ (by simp only[gS];rfl) ?_)|((with_reducible refine aH (d:=some 56) ?_);((refine bD (by rfl) (hcmp _ (bQ hg hX) x y) (by go_simp) ?_;rintro e Wc ⟨⟨r,rfl⟩,hEc⟩;refine⟨_,rfl,?_⟩;have hXc:=hX.trans hEc;obtain⟨bb,hbb⟩:∃b,decide (r<0)=b:=⟨_,rfl⟩)))|((with_reducible refine bB ?_);clear hHd;refine aJ ?_ (fun hHd=> ?_);(·assumption);(try simp only[pS]))|(with_reducible refine aG ?_)
     cases bb
     rotate_left
     ·go_wp2
      have hSc:=Sw.ext (⟨hg,cur,xs,hR,hp⟩:Sw W0 113 g o cap xs0 wr) hXc;clear hX hXc hi2 hj2 hB hR Hput hg hx hy hp;generalize Wc=wr at hSc;have hSr:=hSc;clear hSc;obtain⟨hg,cur,xs,hR,hp⟩:=hSr;have hlen:=hp.length_eq;have hix:ir<xs.length:=by omega
      have hjx:ic<xs.length:=by omega
      have hi2:=hR.at_ hix;have hj2:=hR.at_ hjx;obtain⟨x,hx⟩:∃x,xs[ir]=x:=⟨_,rfl⟩;obtain⟨y,hy⟩:∃y,xs[ic]=y:=⟨_,rfl⟩;rw[hx] at hi2;rw[hy] at hj2;have f1:=hR.lt2 hix;have f2:=hR.lt2 hjx;have hB:=hR.blk;have Hput:Hid (∀W1 W2,Blk W1 g 113 (aI cur (o+(ir)*2) [.int .i64 y.1,.int .i64 y.2])→wr.grownBy W1 (some g)→Blk W2 g 113 (aI (aI cur (o+(ir)*2) [.int .i64 y.1,.int .i64 y.2]) (o+(ic)*2) [.int .i64 x.1,.int .i64 x.2])→W1.grownBy W2 (some g)→Sw W0 113 g o cap xs0 W2):=Lib.hid (by intro W1 W2 h1 h2 h3 h4;subst hx hy;exact Sw.put2 hg hR hp hix hjx h1 h2 h3 h4)
      have hmA:True:=trivial;have hBd:=hB.d;have hi2d:=hi2.d;have hj2d:=hj2.d;refine aR (.take 0 (.take 1 (.take 2 (.take 3 (.take 4 (.take 5 (.take 6 (.take 7 (.take 8 (.take 9 (.take 10 (.take 11 (.take 12 (.take 14 (.take 15 (.take 16 (.take 17 (.take 18 (.two 13 (.one 19 (.take 20 (.one 21 (.take 22 (.one 23 .nil))))) 19 (.one 13 (.take 20 (.one 21 (.take 22 (.one 23 .nil)))))))))))))))))))))))) (fun w'=>True) ?_ (fun hHd=> ?_)
      ·exact True.intro
      repeat' first|((with_reducible refine aB ?_);(refine tk (v:= ?_) ?_ hHd ?_;rotate_left;(·(intro wq hSw;(try dsimp only at hSw);go_simp;(try with_reducible rfl))));(try simp only[pS]))|((with_reducible refine bC ?_);refine aQ (by simp only[gS];rfl) ?_)|((with_reducible refine fQ ?_);refine dI (by simp only[gS];rfl) (by simp only[gS];rfl) ?_ ?_)|((with_reducible refine aH (d:=some 72) ?_);(((with_reducible refine aC (d:=some 72) (hl:=aN hj2d) ?_ ?_);rfl)))|((with_reducible refine aH (d:=some 78) ?_);(((with_reducible refine aC (d:=some 78) (hl:=aN hi2d) ?_ ?_);rfl)))|((with_reducible refine aH (d:=none) ?_);((first|((with_reducible refine aK (t:=113) (e:=113) (g:=g) (off:=o+ic*2) (n:=2) (v:=.agg #[.int .i64 x.1,.int .i64 x.2]) ?_ ?_ hB1 aW ?_ ?_ ?_ ?_);rfl;rfl;rfl;(rw[bW (by exact f1)];exact f2);(simp[Value.cells,Value.oneCell']);intro W2 hB2 hg2)|((with_reducible refine aK (t:=113) (e:=113) (g:=g) (off:=o+ir*2) (n:=2) (v:=.agg #[.int .i64 y.1,.int .i64 y.2]) ?_ ?_ hBd aW ?_ ?_ ?_ ?_);rfl;rfl;rfl;exact f1;(simp[Value.cells,Value.oneCell']);intro W1 hB1 hg1;replace hg1:=bE hg1))))|((with_reducible refine bB ?_);clear hHd;refine aJ ?_ (fun hHd=> ?_);(·exact True.intro);(try simp only[pS]))|(with_reducible refine aG ?_)
      all_goals
       have hSw:=Hput.out _ _ hB1 hg1 hB2 hg2;go_wp2
       go_roundw
       case rel=>exact⟨hSw,c2,by go_num,by have:=Hs.out;omega⟩
       case measure=>have:=Hs.out;simp[intOf];omega
     ·have hSr:=Sw.ext (⟨hg,cur,xs,hR,hp⟩:Sw W0 113 g o cap xs0 wr) hXc;clear hX hXc hi2 hj2 hB hR Hput hg hx hy hp;go_wp2
      refine bodyPost_ret (results_none rfl _ _ _) ?_ ?_
      ·rfl
      ·exact⟨⟨_,rfl⟩,hSr⟩
   ·have hc3:¬((c:Int)+1<(hi:Int)):=by omega
    have wcc:IntKind.i64.wrap ((c:Int)+1)=(c:Int)+1:=bM (by omega) (by omega)
    have hX:=Ext.todrew (Ext.refl wr);refine aR (.take 0 (.take 1 (.take 2 (.take 3 (.take 4 (.take 5 (.take 6 (.take 7 (.take 8 (.take 9 (.take 10 (.take 11 (.take 12 (.take 13 (.take 14 (.take 15 (.take 16 (.take 17 (.take 18 (.one 19 (.take 20 (.take 21 .nil)))))))))))))))))))))) (fun w'=>Ext wr w') ?_ (fun hHd=> ?_)
    ·assumption
    repeat' first|((with_reducible refine aB ?_);(first|((with_reducible refine aB (i:=3) ?_);refine tk (v:=.bool false) ?_ hHd ?_;(·(intro wq hSw;go_simp;first|done|omega|(simp;omega))))|(refine tk (v:= ?_) ?_ hHd ?_;rotate_left;(·(intro wq hSw;(try dsimp only at hSw);go_simp;(try with_reducible rfl))))|refine ts hHd ?_);(try simp only[pS]))|((with_reducible refine bC ?_);refine aQ (by simp only[gS];rfl) ?_)|((with_reducible refine aH (d:=some 38) ?_);refine dK (by rfl) ?_)|((with_reducible refine bB ?_);clear hHd;refine aJ ?_ (fun hHd=> ?_);(·assumption);(try simp only[pS]))|(with_reducible refine aG ?_)
    have hSr:=Sw.ext hSr hX;clear hX hc2 hc3 wcc;generalize wr.drew=wr at hSr⊢;go_wp2
    obtain⟨hc2,hrc⟩:=Hc.out;clear Hc hc1 hrc1;generalize c=c2 at hc2 hrc⊢;obtain⟨ir,hir⟩:∃i:Nat,i=first+rt:=⟨_,rfl⟩
    obtain⟨ic,hic⟩:∃i:Nat,i=first+c2:=⟨_,rfl⟩
    have wir:IntKind.i64.wrap ((first:Int)+(rt:Int))=(ir:Int):=by rw[bM (by omega) (by omega)];omega
    have wic:IntKind.i64.wrap ((first:Int)+(c2:Int))=(ic:Int):=by rw[bM (by omega) (by omega)];omega
    have q1:ir<xs0.length:=by omega
    have q2:ic<xs0.length:=by omega
    have z1:(ir:Int)<(xs0.length:Int):=by omega
    have z2:(ic:Int)<(xs0.length:Int):=by omega
    have hcm:c2≤1000000:=by omega
    have Hs:=Lib.hid (⟨hcm,hrc,hr1⟩:_∧_∧_);clear hir hic hc2 hrc hf hcm;obtain⟨hg,cur,xs,hR,hp⟩:=hSr;have hlen:=hp.length_eq;have hix:ir<xs.length:=by omega
    have hjx:ic<xs.length:=by omega
    have hi2:=hR.at_ hix;have hj2:=hR.at_ hjx;obtain⟨x,hx⟩:∃x,xs[ir]=x:=⟨_,rfl⟩;obtain⟨y,hy⟩:∃y,xs[ic]=y:=⟨_,rfl⟩;rw[hx] at hi2;rw[hy] at hj2;have f1:=hR.lt2 hix;have f2:=hR.lt2 hjx;have hB:=hR.blk;have Hput:Hid (∀W1 W2,Blk W1 g 113 (aI cur (o+(ir)*2) [.int .i64 y.1,.int .i64 y.2])→wr.grownBy W1 (some g)→Blk W2 g 113 (aI (aI cur (o+(ir)*2) [.int .i64 y.1,.int .i64 y.2]) (o+(ic)*2) [.int .i64 x.1,.int .i64 x.2])→W1.grownBy W2 (some g)→Sw W0 113 g o cap xs0 W2):=Lib.hid (by intro W1 W2 h1 h2 h3 h4;subst hx hy;exact Sw.put2 hg hR hp hix hjx h1 h2 h3 h4)
    have hmA:True:=trivial;go_wp2
    have hX:=Ext.todrew (Ext.refl wr);refine aR (.take 0 (.take 1 (.take 2 (.take 3 (.take 4 (.take 5 (.take 6 (.take 7 (.take 8 (.take 9 (.take 10 (.take 11 (.take 12 (.one 13 (.take 14 (.take 15 .nil)))))))))))))))) (fun w'=>Ext wr w') ?_ (fun hHd=> ?_)
    ·assumption
    repeat' first|((with_reducible refine aB ?_);(first|((with_reducible refine aB (i:=6) ?_);refine tk (v:=.agg #[.int .i64 x.1,.int .i64 x.2]) ?_ hHd ?_;(·exact aA (by rfl) (fun W h=>aN (hi2.ext h))))|((with_reducible refine aB (i:=12) ?_);refine tk (v:=.agg #[.int .i64 y.1,.int .i64 y.2]) ?_ hHd ?_;(·exact aA (by rfl) (fun W h=>aN (hj2.ext h))))|(refine tk (v:= ?_) ?_ hHd ?_;rotate_left;(·(intro wq hSw;(try dsimp only at hSw);go_simp;(try with_reducible rfl)))));(try simp only[pS]))|((with_reducible refine bC ?_);refine aQ (by simp only[gS];rfl) ?_)|((with_reducible refine aH (d:=some 56) ?_);((refine bD (by rfl) (hcmp _ (bQ hg hX) x y) (by go_simp) ?_;rintro e Wc ⟨⟨r,rfl⟩,hEc⟩;refine⟨_,rfl,?_⟩;have hXc:=hX.trans hEc;obtain⟨bb,hbb⟩:∃b,decide (r<0)=b:=⟨_,rfl⟩)))|((with_reducible refine bB ?_);clear hHd;refine aJ ?_ (fun hHd=> ?_);(·assumption);(try simp only[pS]))|(with_reducible refine aG ?_)
    cases bb
    rotate_left
    ·go_wp2
     have hSc:=Sw.ext (⟨hg,cur,xs,hR,hp⟩:Sw W0 113 g o cap xs0 wr) hXc;clear hX hXc hi2 hj2 hB hR Hput hg hx hy hp;generalize Wc=wr at hSc;have hSr:=hSc;clear hSc;obtain⟨hg,cur,xs,hR,hp⟩:=hSr;have hlen:=hp.length_eq;have hix:ir<xs.length:=by omega
     have hjx:ic<xs.length:=by omega
     have hi2:=hR.at_ hix;have hj2:=hR.at_ hjx;obtain⟨x,hx⟩:∃x,xs[ir]=x:=⟨_,rfl⟩;obtain⟨y,hy⟩:∃y,xs[ic]=y:=⟨_,rfl⟩;rw[hx] at hi2;rw[hy] at hj2;have f1:=hR.lt2 hix;have f2:=hR.lt2 hjx;have hB:=hR.blk;have Hput:Hid (∀W1 W2,Blk W1 g 113 (aI cur (o+(ir)*2) [.int .i64 y.1,.int .i64 y.2])→wr.grownBy W1 (some g)→Blk W2 g 113 (aI (aI cur (o+(ir)*2) [.int .i64 y.1,.int .i64 y.2]) (o+(ic)*2) [.int .i64 x.1,.int .i64 x.2])→W1.grownBy W2 (some g)→Sw W0 113 g o cap xs0 W2):=Lib.hid (by intro W1 W2 h1 h2 h3 h4;subst hx hy;exact Sw.put2 hg hR hp hix hjx h1 h2 h3 h4)
     have hmA:True:=trivial;have hBd:=hB.d;have hi2d:=hi2.d;have hj2d:=hj2.d;refine aR (.take 0 (.take 1 (.take 2 (.take 3 (.take 4 (.take 5 (.take 6 (.take 7 (.take 8 (.take 9 (.take 10 (.take 11 (.take 12 (.take 14 (.take 15 (.take 16 (.take 17 (.take 18 (.two 13 (.one 19 (.take 20 (.one 21 (.take 22 (.one 23 .nil))))) 19 (.one 13 (.take 20 (.one 21 (.take 22 (.one 23 .nil)))))))))))))))))))))))) (fun w'=>True) ?_ (fun hHd=> ?_)
     ·exact True.intro
     repeat' first|((with_reducible refine aB ?_);(refine tk (v:= ?_) ?_ hHd ?_;rotate_left;(·(intro wq hSw;(try dsimp only at hSw);go_simp;(try with_reducible rfl))));(try simp only[pS]))|((with_reducible refine bC ?_);refine aQ (by simp only[gS];rfl) ?_)|((with_reducible refine fQ ?_);refine dI (by simp only[gS];rfl) (by simp only[gS];rfl) ?_ ?_)|((with_reducible refine aH (d:=some 72) ?_);(((with_reducible refine aC (d:=some 72) (hl:=aN hj2d) ?_ ?_);rfl)))|((with_reducible refine aH (d:=some 78) ?_);(((with_reducible refine aC (d:=some 78) (hl:=aN hi2d) ?_ ?_);rfl)))|((with_reducible refine aH (d:=none) ?_);((first|((with_reducible refine aK (t:=113) (e:=113) (g:=g) (off:=o+ic*2) (n:=2) (v:=.agg #[.int .i64 x.1,.int .i64 x.2]) ?_ ?_ hB1 aW ?_ ?_ ?_ ?_);rfl;rfl;rfl;(rw[bW (by exact f1)];exact f2);(simp[Value.cells,Value.oneCell']);intro W2 hB2 hg2)|((with_reducible refine aK (t:=113) (e:=113) (g:=g) (off:=o+ir*2) (n:=2) (v:=.agg #[.int .i64 y.1,.int .i64 y.2]) ?_ ?_ hBd aW ?_ ?_ ?_ ?_);rfl;rfl;rfl;exact f1;(simp[Value.cells,Value.oneCell']);intro W1 hB1 hg1;replace hg1:=bE hg1))))|((with_reducible refine bB ?_);clear hHd;refine aJ ?_ (fun hHd=> ?_);(·exact True.intro);(try simp only[pS]))|(with_reducible refine aG ?_)
     all_goals
      have hSw:=Hput.out _ _ hB1 hg1 hB2 hg2;go_wp2
      go_roundw
      case rel=>exact⟨hSw,c2,by go_num,by have:=Hs.out;omega⟩
      case measure=>have:=Hs.out;simp[intOf];omega
    ·have hSr:=Sw.ext (⟨hg,cur,xs,hR,hp⟩:Sw W0 113 g o cap xs0 wr) hXc;clear hX hXc hi2 hj2 hB hR Hput hg hx hy hp;go_wp2
     refine bodyPost_ret (results_none rfl _ _ _) ?_ ?_
     ·rfl
     ·exact⟨⟨_,rfl⟩,hSr⟩
  ·go_wp2
   go_end0
   exact⟨⟨_,rfl⟩,hSr⟩
set_option maxHeartbeats 4000000 in
theorem Kk(W0:World)(p:Value)(g o cap:Nat)(xs0:List (Int×Int))(hcmp:tA W0 g p)(a b:Nat)(w:World)(hS:Sw W0 113 g o cap xs0 w)(hl:xs0.length≤1000000)(hb:b≤xs0.length)(ha:a≤b):
 Calls Tryz.prog 139 #[.slice (some ⟨g,o,none⟩) xs0.length cap,.int .i64 a,.int .i64 b,.func (.func 97) #[p] #[]] w (fun e w'=>(∃v,e=.returned v)∧Sw W0 113 g o cap xs0 w'):=by
 obtain⟨n,hn⟩:∃n:Nat,n=b-a:=⟨_,rfl⟩;have wn:IntKind.i64.wrap ((b:Int)-(a:Int))=(n:Int):=by rw[bM (by omega) (by omega)];omega
 obtain⟨h0,hh0⟩:∃h:Int,h=((n:Int)-1).tdiv 2:=⟨_,rfl⟩;have hh1: -1≤h0∧h0≤n:=by
  subst hh0;by_cases h:n=0
  ·subst h;decide
  ·obtain⟨m,rfl⟩:∃m,n=m+1:=⟨n-1,by omega⟩
   rw[show((m+1:Nat):Int)-1=(m:Int) by omega,Int.tdiv_eq_ediv_of_nonneg (by omega)]
   omega
 have wm:IntKind.i64.wrap ((n:Int)-1)=(n:Int)-1:=bM (by omega) (by omega)
 have wh:((n:Int)-1).tdiv 2=h0:=hh0.symm;have wh2:IntKind.i64.wrap h0=h0:=bM (by omega) (by omega)
 have Hn:=Lib.hid hn;have hfn:a+n≤xs0.length:=by omega
 clear hn hh0;have wh0:=hh1.1;go_enter Tryz.func139,Tryz.ntmps139
 go_wp2
 go_loopw [11] (fun vi wr=>Sw W0 113 g o cap xs0 wr∧∃i:Int,vi=.int .i64 i∧ -1≤i∧i≤n) (fun vi _=>(intOf vi+1).toNat)
 case atStart=>exact⟨hS,h0,rfl,hh1.1,hh1.2⟩
 case round=>
  obtain⟨hSr,i,rfl,hi1,hi2⟩:=hrel;by_cases hi0:0≤i
  ·obtain⟨m,rfl⟩:=Int.eq_ofNat_of_zero_le hi0;have hc:=zK W0 p g o cap xs0 hcmp m n a wr hSr hl hfn (by omega)
   clear hSr hS;go_wp2_with (first|(go_at_call 158;refine hc.mono ?_;rintro e Wc ⟨⟨v,rfl⟩,hSc⟩))
   go_roundw
   case rel=>exact⟨hSc,(m:Int)-1,by go_num,by omega,by omega⟩
   case measure=>simp[intOf]
  ·clear hS hi1 wh wh2;go_wp2
   go_loopw [12] (fun vi wr=>Sw W0 113 g o cap xs0 wr∧∃i:Int,vi=.int .i64 i∧ -1≤i∧i≤n-1) (fun vi _=>(intOf vi+1).toNat)
   case atStart=>exact⟨hSr,(n:Int)-1,by go_num,by omega,by omega⟩
   case round=>
    obtain⟨hSr,j,rfl,hj1,hj2⟩:=hrel;by_cases hj0:0≤j
    ·obtain⟨m,rfl⟩:=Int.eq_ofNat_of_zero_le hj0;obtain⟨ij,hij⟩:∃i:Nat,i=a+m:=⟨_,rfl⟩;have wij:IntKind.i64.wrap ((a:Int)+(m:Int))=(ij:Int):=by rw[bM (by omega) (by omega)];omega
     have q1:a<xs0.length:=by omega
     have q2:ij<xs0.length:=by omega
     have z1:(a:Int)<(xs0.length:Int):=by omega
     have z2:(ij:Int)<(xs0.length:Int):=by omega
     have Hc:=Lib.hid (fun(W:World)(h:Sw W0 113 g o cap xs0 W)=>(zK W0 p g o cap xs0 hcmp 0 m a W h hl (by omega) (by omega):Calls Tryz.prog 158 #[.slice (some ⟨g,o,none⟩) xs0.length cap,.int .i64 0,.int .i64 m,.int .i64 a,.func (.func 97) #[p] #[]] W _))
     have Hj:=Lib.hid (⟨hj1,hj2⟩:_∧_);have hmb:m≤1000000:=by omega
     clear hij hj1 hj2 hfn;obtain⟨hg,cur,xs,hR,hp⟩:=hSr;have hlen:=hp.length_eq;have hix:a<xs.length:=by omega
     have hjx:ij<xs.length:=by omega
     have hi2:=hR.at_ hix;have hj2:=hR.at_ hjx;obtain⟨x,hx⟩:∃x,xs[a]=x:=⟨_,rfl⟩;obtain⟨y,hy⟩:∃y,xs[ij]=y:=⟨_,rfl⟩;rw[hx] at hi2;rw[hy] at hj2;have f1:=hR.lt2 hix;have f2:=hR.lt2 hjx;have hB:=hR.blk;have Hput:Hid (∀W1 W2,Blk W1 g 113 (aI cur (o+(a)*2) [.int .i64 y.1,.int .i64 y.2])→wr.grownBy W1 (some g)→Blk W2 g 113 (aI (aI cur (o+(a)*2) [.int .i64 y.1,.int .i64 y.2]) (o+(ij)*2) [.int .i64 x.1,.int .i64 x.2])→W1.grownBy W2 (some g)→Sw W0 113 g o cap xs0 W2):=Lib.hid (by intro W1 W2 h1 h2 h3 h4;subst hx hy;exact Sw.put2 hg hR hp hix hjx h1 h2 h3 h4)
     have hmA:True:=trivial;go_wp2
     have hBd:=hB.d;have hi2d:=hi2.d;have hj2d:=hj2.d;refine aR (.take 0 (.take 1 (.take 2 (.take 3 (.take 4 (.take 5 (.take 6 (.take 7 (.take 8 (.take 9 (.take 10 (.take 12 (.take 13 (.take 14 (.two 11 (.one 15 (.take 16 (.one 17 (.take 18 (.one 19 .nil))))) 15 (.one 11 (.take 16 (.one 17 (.take 18 (.one 19 .nil)))))))))))))))))))) (fun w'=>True) ?_ (fun hHd=> ?_)
     ·exact True.intro
     repeat' first|((with_reducible refine aB ?_);(refine tk (v:= ?_) ?_ hHd ?_;rotate_left;(·(intro wq hSw;(try dsimp only at hSw);go_simp;(try with_reducible rfl))));(try simp only[pS]))|((with_reducible refine bC ?_);refine aQ (by simp only[gS];rfl) ?_)|((with_reducible refine fQ ?_);refine dI (by simp only[gS];rfl) (by simp only[gS];rfl) ?_ ?_)|((with_reducible refine aH (d:=some 47) ?_);(((with_reducible refine aC (d:=some 47) (hl:=aN hj2d) ?_ ?_);rfl)))|((with_reducible refine aH (d:=some 51) ?_);(((with_reducible refine aC (d:=some 51) (hl:=aN hi2d) ?_ ?_);rfl)))|((with_reducible refine aH (d:=none) ?_);((first|((with_reducible refine aK (t:=113) (e:=113) (g:=g) (off:=o+ij*2) (n:=2) (v:=.agg #[.int .i64 x.1,.int .i64 x.2]) ?_ ?_ hB1 aW ?_ ?_ ?_ ?_);rfl;rfl;rfl;(rw[bW (by exact f1)];exact f2);(simp[Value.cells,Value.oneCell']);intro W2 hB2 hg2)|((with_reducible refine aK (t:=113) (e:=113) (g:=g) (off:=o+a*2) (n:=2) (v:=.agg #[.int .i64 y.1,.int .i64 y.2]) ?_ ?_ hBd aW ?_ ?_ ?_ ?_);rfl;rfl;rfl;exact f1;(simp[Value.cells,Value.oneCell']);intro W1 hB1 hg1;replace hg1:=bE hg1))))|((with_reducible refine bB ?_);clear hHd;refine aJ ?_ (fun hHd=> ?_);(·exact True.intro);(try simp only[pS]))|(with_reducible refine aG ?_)
     all_goals
      have hSw:=Hput.out _ _ hB1 hg1 hB2 hg2;have hc:=Hc.out _ hSw;clear hB1 hB2 hg1 hg2 Hput hSw;go_wp2_with (first|(go_at_call 158;refine hc.mono ?_;rintro e Wc ⟨⟨v,rfl⟩,hSc⟩))
      go_roundw
      case rel=>exact⟨hSc,(m:Int)-1,by go_num,by omega,by have:=Hj.out;omega⟩
      case measure=>simp[intOf]
    ·go_wp2
     go_end0
     exact⟨⟨_,rfl⟩,hSr⟩
end Go.St
end
section
namespace Go.St
open Go Go.Bp Go.RowKit Go.Proofs
theorem ti3:(Tryz.prog.info? 3).map (fun i=>(i.zero,i.size,i.bytes))=some (some (.int .i64 0),1,8):=by kernel_rfl
theorem _root_.Go.Bp.Sw.own{W0 W W':World}{e:TypeId}{g o cap gs:Nat}{xs0:List (Int×Int)}(h:Sw W0 e g o cap xs0 W)(hg:W.grownBy W' (some gs))(h0:W0.heap.size≤gs)(hne:g≠gs):Sw W0 e g o cap xs0 W':=by
 obtain⟨h1,cur,xs,hR,hp⟩:=h;refine⟨⟨hg.os.trans h1.os,hg.tape.trans h1.tape,hg.output.trans h1.output,Nat.le_trans h1.size hg.size,fun i hi hn=>(hg.block i (Nat.lt_of_lt_of_le hi h1.size) (fun e=>by injection e;omega)).trans (h1.block i hi hn)⟩,cur,xs,⟨hR.blk.grown hg (fun e=>hne (Option.some.inj e)),hR.fit,hR.len,hR.read⟩,hp⟩
theorem _root_.Go.Bp.Sw.ne{W0 W:World}{g o cap gs:Nat}{xs0:List (Int×Int)}{t:TypeId}{cs:Array Value}(h:Sw W0 113 g o cap xs0 W)(hb:Blk W gs t cs)(ht:t≠113):g≠gs:=by
 obtain⟨h1,cur,xs,hR,hp⟩:=h;exact blk_ne hR.blk hb (fun e=>ht e.symm)
set_option maxHeartbeats 2000000 in
theorem pF(W0:World)(p:Value)(g o cap:Nat)(xs0:List (Int×Int))(hcmp:tA W0 g p)(lo hi a b gs:Nat)(n:Int)(w:World)(hS:Sw W0 113 g o cap xs0 w)(hl:xs0.length≤1000000)(hhi:hi≤xs0.length)(ha:lo≤a∧a<hi)(hb:lo≤b∧b<hi)(hgs:W0.heap.size≤gs)(hBs:Blk w gs 3 #[.int .i64 n])(hn:0≤n∧n≤1000):
 Calls Tryz.prog 171 #[.slice (some ⟨g,o,none⟩) xs0.length cap,.int .i64 a,.int .i64 b,.pointer (some ⟨gs,0,none⟩),.func (.func 97) #[p] #[]] w
  (fun e w'=>Sw W0 113 g o cap xs0 w'∧∃(n':Int)(c d:Nat),e=.returned (.tuple #[.int .i64 c,.int .i64 d])∧Blk w' gs 3 #[.int .i64 n']∧0≤n'∧n'≤n+1∧(lo≤c∧c<hi)∧lo≤d∧d<hi):=by
 obtain⟨wr,hwr⟩:∃W,W=w:=⟨_,rfl⟩;have hSr:=hS;rw[←hwr] at hSr;have q1:b<xs0.length:=by omega
 have q2:a<xs0.length:=by omega
 have z1:(a:Int)<(xs0.length:Int):=by omega
 have z2:(b:Int)<(xs0.length:Int):=by omega
 obtain⟨hg,cur,xs,hR,hp⟩:=hSr;have hlen:=hp.length_eq;have hix:b<xs.length:=by omega
 have hjx:a<xs.length:=by omega
 have hi2:=hR.at_ hix;have hj2:=hR.at_ hjx;obtain⟨x,hx⟩:∃x,xs[b]=x:=⟨_,rfl⟩;obtain⟨y,hy⟩:∃y,xs[a]=y:=⟨_,rfl⟩;rw[hx] at hi2;rw[hy] at hj2;have f1:=hR.lt2 hix;have f2:=hR.lt2 hjx;have hB:=hR.blk;have Hput:Hid (∀W1 W2,Blk W1 g 113 (aI cur (o+(b)*2) [.int .i64 y.1,.int .i64 y.2])→wr.grownBy W1 (some g)→Blk W2 g 113 (aI (aI cur (o+(b)*2) [.int .i64 y.1,.int .i64 y.2]) (o+(a)*2) [.int .i64 x.1,.int .i64 x.2])→W1.grownBy W2 (some g)→Sw W0 113 g o cap xs0 W2):=Lib.hid (by intro W1 W2 h1 h2 h3 h4;subst hx hy;exact Sw.put2 hg hR hp hix hjx h1 h2 h3 h4)
 have hmA:True:=trivial;rw[←hwr] at hBs hS⊢;have wn:IntKind.i64.wrap (n+1)=n+1:=bM (by omega) (by omega)
 clear hwr;go_enter Tryz.func171,Tryz.ntmps171
 go_wp2
 have hX:=Ext.todrew (Ext.refl wr);refine aR (.take 0 (.take 1 (.take 2 (.take 3 (.take 4 (.take 5 (.take 6 (.take 7 (.take 8 (.one 9 (.take 10 .nil))))))))))) (fun w'=>Ext wr w') ?_ (fun hHd=> ?_)
 ·assumption
 repeat' first|((with_reducible refine aB ?_);(first|((with_reducible refine aB (i:=4) ?_);refine tk (v:=.agg #[.int .i64 x.1,.int .i64 x.2]) ?_ hHd ?_;(·exact aA (by rfl) (fun W h=>aN (hi2.ext h))))|((with_reducible refine aB (i:=8) ?_);refine tk (v:=.agg #[.int .i64 y.1,.int .i64 y.2]) ?_ hHd ?_;(·exact aA (by rfl) (fun W h=>aN (hj2.ext h))))|(refine tk (v:= ?_) ?_ hHd ?_;rotate_left;(·(intro wq hSw;(try dsimp only at hSw);go_simp;(try with_reducible rfl)))));(try simp only[pS]))|((with_reducible refine bC ?_);refine aQ (by simp only[gS];rfl) ?_)|((with_reducible refine aH (d:=some 21) ?_);((refine bD (by rfl) (hcmp _ (bQ hg hX) x y) (by go_simp) ?_;rintro e Wc ⟨⟨r,rfl⟩,hEc⟩;refine⟨_,rfl,?_⟩;have hXc:=hX.trans hEc;obtain⟨bb,hbb⟩:∃b,decide (r<0)=b:=⟨_,rfl⟩)))|((with_reducible refine bB ?_);clear hHd;refine aJ ?_ (fun hHd=> ?_);(·assumption);(try simp only[pS]))|(with_reducible refine aG ?_)
 have hSc:=Sw.ext hS hXc;have hBc:=hBs.ext hXc;have hne:=hSc.ne hBc (by decide)
 have cs:=hBc.cell 0;simp at cs;clear hX hXc hi2 hj2 hB hR Hput hg hx hy hp hS
 cases bb
 ·go_wp2
  go_ret2
  exact⟨hSc,n,a,b,rfl,hBc,by omega,by omega,ha,hb⟩
 ·go_wp2_with (first|((with_reducible refine aT (t:=3) (e:=3) (g:=gs) (off:=0) (v:=.int .i64 (n+1)) ?_ ?_ hBc jN ?_ ?_ ?_ ?_);rfl;rfl;rfl;simp;rfl;intro Ws hBt hgrs;simp at hBt;replace hSc:=hSc.own hgrs hgs hne))
  go_ret2
  exact⟨hSc,n+1,b,a,rfl,hBt,by omega,by omega,hb,ha⟩
set_option maxHeartbeats 2000000 in
theorem pH(W0:World)(p:Value)(g o cap:Nat)(xs0:List (Int×Int))(hcmp:tA W0 g p)(lo hi a b c gs:Nat)(n:Int)(w:World)(hS:Sw W0 113 g o cap xs0 w)(hl:xs0.length≤1000000)(hhi:hi≤xs0.length)(ha:lo≤a∧a<hi)(hb:lo≤b∧b<hi)(hc:lo≤c∧c<hi)(hgs:W0.heap.size≤gs)(hBs:Blk w gs 3 #[.int .i64 n])(hn:0≤n∧n≤900):
 Calls Tryz.prog 162 #[.slice (some ⟨g,o,none⟩) xs0.length cap,.int .i64 a,.int .i64 b,.int .i64 c,.pointer (some ⟨gs,0,none⟩),.func (.func 97) #[p] #[]] w
  (fun e w'=>Sw W0 113 g o cap xs0 w'∧∃(n':Int)(d:Nat),e=.returned (.int .i64 d)∧Blk w' gs 3 #[.int .i64 n']∧0≤n'∧n'≤n+3∧lo≤d∧d<hi):=by
 have hm0:True:=trivial;have hm1:True:=trivial;go_enter Tryz.func162,Tryz.ntmps162
 go_wp2_with (first|(clear hm0;go_at_call 171;refine(pF W0 p g o cap xs0 hcmp lo hi a b gs n _ hS hl hhi ha hb hgs hBs (by omega)).mono ?_;rintro e W1 ⟨hS1,n1,c1,d1,rfl,hB1,m1,k1,hc1,hd1⟩;clear hS hBs ha hb)|(clear hm1;go_at_call 171;refine(pF W0 p g o cap xs0 hcmp lo hi d1 c gs n1 _ hS1 hl hhi hd1 hc hgs hB1 (by omega)).mono ?_;rintro e W2 ⟨hS2,n2,c2,d2,rfl,hB2,m2,k2,hc2,hd2⟩;clear hS1 hB1 hd1 hc)|(go_at_call 171;refine(pF W0 p g o cap xs0 hcmp lo hi c1 c2 gs n2 _ hS2 hl hhi hc1 hc2 hgs hB2 (by omega)).mono ?_;rintro e W3 ⟨hS3,n3,c3,d3,rfl,hB3,m3,k3,hc3,hd3⟩;clear hS2 hB2))
 go_ret
 exact⟨hS3,n3,d3,rfl,hB3,m3,by omega,hd3⟩
set_option maxHeartbeats 2000000 in
theorem pI(W0:World)(p:Value)(g o cap:Nat)(xs0:List (Int×Int))(hcmp:tA W0 g p)(lo hi a gs:Nat)(n:Int)(w:World)(hS:Sw W0 113 g o cap xs0 w)(hl:xs0.length≤1000000)(hhi:hi≤xs0.length)(ha:lo+1≤a∧a+1<hi)(hgs:W0.heap.size≤gs)(hBs:Blk w gs 3 #[.int .i64 n])(hn:0≤n∧n≤900):
 Calls Tryz.prog 161 #[.slice (some ⟨g,o,none⟩) xs0.length cap,.int .i64 a,.pointer (some ⟨gs,0,none⟩),.func (.func 97) #[p] #[]] w
  (fun e w'=>Sw W0 113 g o cap xs0 w'∧∃(n':Int)(d:Nat),e=.returned (.int .i64 d)∧Blk w' gs 3 #[.int .i64 n']∧0≤n'∧n'≤n+3∧lo≤d∧d<hi):=by
 obtain⟨am,ham⟩:∃m:Nat,m=a-1:=⟨_,rfl⟩;obtain⟨ap,hap⟩:∃m:Nat,m=a+1:=⟨_,rfl⟩;have w1:IntKind.i64.wrap ((a:Int)-1)=(am:Int):=by rw[bM (by omega) (by omega)];omega
 have w2:IntKind.i64.wrap ((a:Int)+1)=(ap:Int):=by rw[bM (by omega) (by omega)];omega
 have b1:lo≤am∧am<hi:=by omega
 have b2:lo≤a∧a<hi:=by omega
 have b3:lo≤ap∧ap<hi:=by omega
 clear ham hap ha;go_enter Tryz.func161,Tryz.ntmps161
 go_wp2_with (first|(go_at_call 162;refine(pH W0 p g o cap xs0 hcmp lo hi am a ap gs n _ hS hl hhi b1 b2 b3 hgs hBs hn).mono ?_;rintro e W1 ⟨hS1,n1,d1,rfl,hB1,m1,k1,hd1⟩))
 go_ret
 exact⟨hS1,n1,d1,rfl,hB1,m1,k1,hd1⟩
def To(W0:World)(g o cap:Nat)(xs0:List (Int×Int))(a b:Nat)(e:Ending)(w':World):Prop:=
 Sw W0 113 g o cap xs0 w'∧∃(d:Nat)(h:Int),e=.returned (.tuple #[.int .i64 d,.int .i64 h])∧a≤d∧d<b
set_option maxHeartbeats 4000000 in
theorem Dm(W0:World)(p:Value)(g o cap:Nat)(xs0:List (Int×Int))(hcmp:tA W0 g p)(a b:Nat)(w:World)(hS:Sw W0 113 g o cap xs0 w)(hl:xs0.length≤1000000)(hb:b≤xs0.length)(hab:a+12<b):
 Calls Tryz.prog 141 #[.slice (some ⟨g,o,none⟩) xs0.length cap,.int .i64 a,.int .i64 b,.func (.func 97) #[p] #[]] w (To W0 g o cap xs0 a b):=by
 obtain⟨l,hL⟩:∃l:Nat,l=b-a:=⟨_,rfl⟩;obtain⟨q,hq⟩:∃q:Nat,q=l/4:=⟨_,rfl⟩;obtain⟨q2,hq2⟩:∃q:Nat,q=l/4*2:=⟨_,rfl⟩;obtain⟨q3,hq3⟩:∃q:Nat,q=l/4*3:=⟨_,rfl⟩;obtain⟨i,hi⟩:∃i:Nat,i=a+q:=⟨_,rfl⟩;obtain⟨j,hj⟩:∃i:Nat,i=a+q2:=⟨_,rfl⟩;obtain⟨k,hk⟩:∃i:Nat,i=a+q3:=⟨_,rfl⟩;have wl:IntKind.i64.wrap ((b:Int)-(a:Int))=(l:Int):=by rw[bM (by omega) (by omega)];omega
 have wq:((l:Int)).tdiv 4=(q:Int):=by rw[Int.tdiv_eq_ediv_of_nonneg (by omega)];omega
 have wqq:IntKind.i64.wrap (q:Int)=(q:Int):=bM (by omega) (by omega)
 have wq2:IntKind.i64.wrap ((q:Int)*2)=(q2:Int):=by rw[bM (by omega) (by omega)];omega
 have wq3:IntKind.i64.wrap ((q:Int)*3)=(q3:Int):=by rw[bM (by omega) (by omega)];omega
 have wi:IntKind.i64.wrap ((a:Int)+(q:Int))=(i:Int):=by rw[bM (by omega) (by omega)];omega
 have wj:IntKind.i64.wrap ((a:Int)+(q2:Int))=(j:Int):=by rw[bM (by omega) (by omega)];omega
 have wk:IntKind.i64.wrap ((a:Int)+(q3:Int))=(k:Int):=by rw[bM (by omega) (by omega)];omega
 have ri:a≤i∧i<b:=by omega
 have rj:a≤j∧j<b:=by omega
 have rk:a≤k∧k<b:=by omega
 have l8:(8:Int)≤(l:Int):=by omega
 have hE:=Ext.refl w;by_cases h50:50≤l
 ·have l50:(50:Int)≤(l:Int):=by omega
  have si:a+1≤i∧i+1<b:=by omega
  have sj:a+1≤j∧j+1<b:=by omega
  have sk:a+1≤k∧k+1<b:=by omega
  clear hL hq hq2 hq3 hi hj hk h50 ri rj rk;have hm0:True:=trivial;have hm1:True:=trivial;go_enter Tryz.func141,Tryz.ntmps141
  go_wp2_with (first|((with_reducible refine aS (d:=some 11) ti3 ?_);intro W11 gs hE11 hB11 hg11;simp[Value.cells] at hB11;have hS0:=Sw.ext hS hE11;have hgs:=Nat.le_trans hS.1.size hg11;clear hS)|(clear hm0;go_at_call 161;refine(pI W0 p g o cap xs0 hcmp a b i gs 0 _ hS0 hl hb si hgs hB11 (by omega)).mono ?_;rintro e W1 ⟨hS1,n1,d1,rfl,hB1,m1,k1,hd1⟩;clear hS0 hB11)|(clear hm1;go_at_call 161;refine(pI W0 p g o cap xs0 hcmp a b j gs n1 _ hS1 hl hb sj hgs hB1 (by omega)).mono ?_;rintro e W2 ⟨hS2,n2,d2,rfl,hB2,m2,k2,hd2⟩;clear hS1 hB1)|(go_at_call 161;refine(pI W0 p g o cap xs0 hcmp a b k gs n2 _ hS2 hl hb sk hgs hB2 (by omega)).mono ?_;rintro e W3 ⟨hS3,n3,d3,rfl,hB3,m3,k3,hd3⟩;clear hS2 hB2)|(go_at_call 162;refine(pH W0 p g o cap xs0 hcmp a b d1 d2 d3 gs n3 _ hS3 hl hb hd1 hd2 hd3 hgs hB3 (by omega)).mono ?_;rintro e Wn ⟨hSn,n,jj,rfl,hBn,mn,kn,hj⟩;clear hS3 hB3;have cs:=hBn.cell 0;simp at cs))
  all_goals
   go_ret2
   exact⟨hSn,jj,_,rfl,hj.1,hj.2⟩
 ·have l50:¬((50:Int)≤(l:Int)):=by omega
  clear hL hq hq2 hq3 hi hj hk h50;go_enter Tryz.func141,Tryz.ntmps141
  go_wp2_with (first|((with_reducible refine aS (d:=some 11) ti3 ?_);intro W11 gs hE11 hB11 hg11;simp[Value.cells] at hB11;have hS0:=Sw.ext hS hE11;have hgs:=Nat.le_trans hS.1.size hg11;clear hS)|(go_at_call 162;refine(pH W0 p g o cap xs0 hcmp a b i j k gs 0 _ hS0 hl hb ri rj rk hgs hB11 (by omega)).mono ?_;rintro e Wn ⟨hSn,n,jj,rfl,hBn,mn,kn,hj⟩;clear hS0 hB11;have cs:=hBn.cell 0;simp at cs))
  all_goals
   go_ret2
   exact⟨hSn,jj,_,rfl,hj.1,hj.2⟩
end Go.St
end
