import Derived.Test.YtbfbepnkofampaaGreatDoorXP17
set_option maxRecDepth 100000
set_option synthInstance.maxSize 2000
set_option synthInstance.maxHeartbeats 400000
set_option maxHeartbeats 8000000
set_option linter.all false
section
namespace Go.Rg
open Go Go.Bp Go.RowKit Go.Walk Go.Proofs
structure CpaI(l cur:List Event)(k j:Nat):Prop where
 len:cur.length=l.length
 cnt:k=(dd (l.take j)).length
 lt:k<j
 pos:1≤j-1
 pre:cur.take k=dd (l.take j)
 post:∀i,j≤i+1→cur[i]? =l[i]?
theorem CpaI.start{l:List Event}{k:Nat}(h1:1≤k)(h:k<l.length)(hd:dd (l.take k)=l.take k)(e:l[k]=l[k-1]):CpaI l l k (k+1):=by
 have e1:dd (l.take (k+1))=l.take k:=by rw[oY h1 h,if_pos e,hd,List.append_nil]
 refine⟨rfl,by rw[e1,List.length_take];omega,by omega,by omega,by rw[e1],fun i _=>rfl⟩
theorem CpaI.same{l cur:List Event}{k j:Nat}(h:CpaI l cur k j)(hj:j<l.length)(e:l[j]=l[j-1]):CpaI l cur k (j+1):=by
 have e1:dd (l.take (j+1))=dd (l.take j):=by rw[oY (by have:=h.pos;omega) hj,if_pos e,List.append_nil]
 exact⟨h.len,by rw[e1];exact h.cnt,by have:=h.lt;omega,by have:=h.pos;omega,by rw[e1];exact h.pre,fun i hi=>h.post i (by omega)⟩
theorem CpaI.other{l cur:List Event}{k j:Nat}(h:CpaI l cur k j)(hj:j<l.length)(e:¬l[j]=l[j-1]):CpaI l (cur.set k l[j]) (k+1) (j+1):=by
 have hk:=h.lt;have e1:dd (l.take (j+1))=dd (l.take j)++ [l[j]]:=by rw[oY (by have:=h.pos;omega) hj,if_neg e]
 refine⟨by rw[List.length_set];exact h.len,by rw[e1,List.length_append,←h.cnt];rfl,by omega,by have:=h.pos;omega,?_,fun i hi=> ?_⟩
 ·rw[e1,←h.pre,List.take_succ_eq_append_getElem (by rw[List.length_set,h.len];omega),List.take_set_of_le (Nat.le_refl _),List.getElem_set_self]
 ·rw[List.getElem?_set_ne (by omega)];exact h.post i (by omega)
theorem addr0(g j:Nat):(⟨g,0,none⟩:Addr).add j=⟨g,j,none⟩:=by unfold Addr.add;split<;>simp_all
theorem addr1(g i j:Nat):(⟨g,i,none⟩:Addr).add j=⟨g,i+j,none⟩:=by unfold Addr.add;split<;>simp_all
theorem lU{W B:World}{g n c:Nat}{l:List Event}(h:RowC W (.slice (some ⟨g,0,none⟩) n c) B 80 9 n (encL l))(hn:n=l.length){i:Nat}(hi:i<l.length):Cells W ⟨g,i*9,none⟩ (Enc.enc l[i]):=by
 obtain⟨a1,e1,c1⟩:=(h.list (l:=l) rfl rfl hn).elem hi;injection e1 with e1
 subst e1;rw[addr0] at c1;exact c1
class LenN (l:List Event) (n:Nat):Prop where h:n=l.length∧n≤1000
abbrev RCmp(B W:World)(v:Value)(l:List Event)(e:Ending)(W':World):Prop:=∃A' c',e=.returned (.slice A' (dd l).length c')∧RowC W' (.slice A' (dd l).length c') B 80 9 (dd l).length (encL (dd l))∧GrowC W W' B v
theorem yK(l:List Event){W B:World}{A:Option Addr}{n c:Nat}[h:RowC W (.slice A n c) B 80 9 n (encL l)](hn:n=l.length)(hN:n≤1000):
 Calls Tryz.prog 121 #[.slice A n c] W (RCmp B W (.slice A n c) l):=by
 have hG0:GrowC W W B (.slice A n c):=⟨World.grownBy.refl _ _,fun g hg=>(h.from_ hg).1⟩
 by_cases h2:n<2
 ·have e:dd l=l∧l.length=n:=by
   refine⟨?_,hn.symm⟩;rcases l with _|⟨x,_|⟨y,l⟩⟩
   ·rfl
   ·rfl
   ·simp at hn;omega
  have E:=Lib.hid e;clear hn e;go_enter Tryz.func121,Tryz.ntmps121
  go_wp2
  go_ret
  show RCmp _ _ _ _ (.returned (.slice A n c)) _
  unfold RCmp;rw[E.out.1,E.out.2];exact⟨A,c,rfl,h,hG0⟩
 obtain⟨g,rfl,hnc⟩:∃g,A=some ⟨g,0,none⟩∧n≤c:=by
  rcases h.h.2 with ⟨h',h3⟩|⟨g',cap',cur,h',hb,hg,hnc,_⟩
  ·injection h' with _ h4;omega
  ·injection h' with h4 h5 h6;subst h6;exact⟨g',h4,hnc⟩
 have Hn:=Lib.hid hn;clear hn;go_enter Tryz.func121,Tryz.ntmps121
 go_wp2
 go_loopw [3] (fun kv wr=>StepC W wr∧∃k:Nat,1≤k∧k≤n∧kv=.int .i64 k∧dd (l.take k)=l.take k) (fun kv _=>n-(RowKit.intOf kv).toNat)
 case atStart=>exact⟨⟨ExtC.h⟩,1,by omega,by omega,rfl,Qu l⟩
 case round=>
  obtain⟨_,k,hk1,hk,rfl,hd⟩:=hrel;have Hd:=Lib.hid hd;clear hd;have hr:RowC wr (.slice (some ⟨g,0,none⟩) n c) B 80 9 n (encL l):=inferInstance;by_cases lk:k<n
  ·have hkl:k<l.length:=by rw[←Hn.out];exact lk
   obtain⟨k0,hk0⟩:∃k0,k-1=k0:=⟨_,rfl⟩;have hkl1:k0<l.length:=by omega
   have c1:=lU hr Hn.out hkl;have c2:=lU hr Hn.out hkl1;have Hsu:=Lib.hid (show dd (l.take (k+1))=dd (l.take k)++if l[k]=l[k0] then [] else [l[k]] by subst hk0;exact oY hk1 hkl)
   have Hst:=Lib.hid (show l[k]=l[k0]→CpaI l l k (k+1) by subst hk0;exact CpaI.start (l:=l) hk1 hkl Hd.out)
   have w1:IntKind.i64.wrap ((k:Int)-1)=(k0:Int):=by rw[show(k:Int)-1=(k0:Int) by omega];exact IntWalk.i64_in _ (by omega)
   have lk0:k0<n:=by omega
   clear hk0;obtain⟨x,hx⟩:∃x,l[k]=x:=⟨_,rfl⟩;obtain⟨y,hy⟩:∃y,l[k0]=y:=⟨_,rfl⟩;have Hx:=Lib.hid hx;rw[hx] at c1 Hsu Hst;rw[hy] at c2 Hsu Hst;obtain⟨xk,xd,⟨xc,xo⟩,xt,xq,xp,xu,xm⟩:=x;obtain⟨yk,yd,⟨yc,yo⟩,yt,yq,yp,yu,ym⟩:=y;have i1:CellsB wr ⟨g,k*9,none⟩ [.int .i64 xk,.int .i64 xd,.int .i64 xc,.int .i64 xo,.int .i64 xt,.int .i64 xq,.int .i64 xp,.int .i64 xu,.int .i64 xm]:=⟨c1⟩;have i2:CellsB wr ⟨g,k0*9,none⟩ [.int .i64 yk,.int .i64 yd,.int .i64 yc,.int .i64 yo,.int .i64 yt,.int .i64 yq,.int .i64 yp,.int .i64 yu,.int .i64 ym]:=⟨c2⟩;have hE:=fun W=>eql80 W xk xd xc xo xt xq xp xu xm yk yd yc yo yt yq yp yu ym
   have jl:ListB Event wr (.slice (some ⟨g,0,none⟩) n c) l:=⟨hr.list rfl rfl Hn.out⟩;have w2:IntKind.i64.wrap ((k:Int)+1)=((k+1:Nat):Int):=by rw[show(k:Int)+1=((k+1:Nat):Int) by omega];exact IntWalk.i64_in _ (by omega)
   obtain⟨b,hb⟩:∃b,decide ((⟨xk,xd,⟨xc,xo⟩,xt,xq,xp,xu,xm⟩:Event)=⟨yk,yd,⟨yc,yo⟩,yt,yq,yp,yu,ym⟩)=b:=⟨_,rfl⟩;have Hb:=Lib.hid hb;simp only[hb] at hE;clear hx hy c1 c2 hb hkl1;go_wp2
   refine aP ((.take 0 (.take 1 (.take 2 (.take 3 (.take 4 (.take 5 (.take 6 (.take 7 (.take 8 (.take 9 .nil))))))))))) (fun hHd=> ?_) (hQ:=by intro _ _ _ _ _ h;exact h)
   repeat' first|((with_reducible refine aX ?_);(first|(refine tk (v:= ?_) ?_ hHd ?_;rotate_left;(·(intro W' h;have:=StepC.mk h;first|with_reducible exact aJ)))|(refine tk (v:= ?_) ?_ hHd ?_;rotate_left;(·(intro wq hSw;go_simp;(try with_reducible rfl)))));(try simp only[pS]))|(with_reducible refine aF ?_)
   cases b
   ·have Hnx:=Lib.hid (show dd (l.take (k+1))=l.take (k+1) by
     have e:=Hsu.out;rw[if_neg (of_decide_eq_false Hb.out),Hd.out] at e;rw[e,←Hx.out,←List.take_succ_eq_append_getElem])
    go_wp2
    go_roundw
    case rel=>exact⟨⟨ExtC.h⟩,k+1,by omega,lk,rfl,Hnx.out⟩
    case measure=>simp[RowKit.intOf];omega
   ·have Hs:=Lib.hid (Hst.out (of_decide_eq_true Hb.out));go_wp2
    obtain⟨m,hm⟩:∃m,n-k=m:=⟨_,rfl⟩;obtain⟨cm,hcm⟩:∃m,c-k=m:=⟨_,rfl⟩;rw[hm,hcm];have hkm:k+m=n:=by omega
    have hmc:m≤cm:=by omega
    have hG1:W.grownBy wr (some g):=grown_of_ext ExtC.h;clear hm hcm;go_loopw [3,5] (fun kv jv W2=>∃(kk k2:Nat)(cur:List Event),kv=.int .i64 kk∧jv=.int .i64 k2∧1≤k2∧k2≤m∧CpaI l cur kk (k+k2)∧RowC W2 (.slice (some ⟨g,0,none⟩) n c) B 80 9 n (encL cur)∧W.grownBy W2 (some g)) (fun _ jv _=>m-(RowKit.intOf jv).toNat)
    case atStart=>
     refine⟨k,1,l,rfl,rfl,by omega,by omega,Hs.out,inferInstance,?_⟩
     exact grown_of_ext ExtC.h
    case round=>
     obtain⟨kk,k2,cur,rfl,rfl,h21,h2m,hI,hr2,hG2⟩:=hrel;have HI:=Lib.hid hI;have hkk:=hI.lt;clear hI;by_cases l2:k2<m
     ·have hcl:n=cur.length:=by rw[HI.out.len];exact Hn.out
      have lj:k+k2<n:=by omega
      have hj1:k+k2<cur.length:=by omega
      have hjl:k+k2<l.length:=by rw[←Hn.out];exact lj
      obtain⟨k20,hk20⟩:∃q,k2-1=q:=⟨_,rfl⟩;have hj2:k+k20<cur.length:=by omega
      have hjl2:k+k20<l.length:=by omega
      have e1:cur[k+k2]=l[k+k2]:=by
       have:=HI.out.post (k+k2) (by omega)
       rw[List.getElem?_eq_getElem hj1,List.getElem?_eq_getElem hjl] at this;exact Option.some.inj this
      have e2:cur[k+k20]=l[k+k20]:=by
       have:=HI.out.post (k+k20) (by omega)
       rw[List.getElem?_eq_getElem hj2,List.getElem?_eq_getElem hjl2] at this;exact Option.some.inj this
      have c1:=lU hr2 hcl hj1;have c2:=lU hr2 hcl hj2;have hsm:l[k+k2]=l[k+k20]→CpaI l cur kk (k+k2+1):=by
       have e3:k+k2-1=k+k20:=by omega
       intro e;exact HI.out.same hjl (by simp only[e3];exact e)
      have hot:¬l[k+k2]=l[k+k20]→CpaI l (cur.set kk l[k+k2]) (kk+1) (k+k2+1):=by
       have e3:k+k2-1=k+k20:=by omega
       intro e;exact HI.out.other hjl (by simp only[e3];exact e)
      rw[e1,Nat.add_mul] at c1;rw[e2,Nat.add_mul] at c2;have w3:IntKind.i64.wrap ((k2:Int)-1)=(k20:Int):=by rw[show(k2:Int)-1=(k20:Int) by omega];exact IntWalk.i64_in _ (by omega)
      have w4:IntKind.i64.wrap ((k2:Int)+1)=((k2+1:Nat):Int):=by rw[show(k2:Int)+1=((k2+1:Nat):Int) by omega];exact IntWalk.i64_in _ (by omega)
      have w5:IntKind.i64.wrap ((kk:Int)+1)=((kk+1:Nat):Int):=by rw[show(kk:Int)+1=((kk+1:Nat):Int) by omega];exact IntWalk.i64_in _ (by omega)
      have l20:k20<m:=by omega
      have lkk:kk<n:=by omega
      have lkl:kk<cur.length:=by omega
      obtain⟨x,hx⟩:∃x,l[k+k2]=x:=⟨_,rfl⟩;obtain⟨y,hy⟩:∃y,l[k+k20]=y:=⟨_,rfl⟩;rw[hx] at c1 hsm hot;rw[hy] at c2 hsm hot;obtain⟨xk,xd,⟨xc,xo⟩,xt,xq,xp,xu,xm⟩:=x;obtain⟨yk,yd,⟨yc,yo⟩,yt,yq,yp,yu,ym⟩:=y;have i1:CellsB wr ⟨g,k*9+k2*9,none⟩ [.int .i64 xk,.int .i64 xd,.int .i64 xc,.int .i64 xo,.int .i64 xt,.int .i64 xq,.int .i64 xp,.int .i64 xu,.int .i64 xm]:=⟨c1⟩;have i2:CellsB wr ⟨g,k*9+k20*9,none⟩ [.int .i64 yk,.int .i64 yd,.int .i64 yc,.int .i64 yo,.int .i64 yt,.int .i64 yq,.int .i64 yp,.int .i64 yu,.int .i64 ym]:=⟨c2⟩;have hE:=fun W=>neq80 W xk xd xc xo xt xq xp xu xm yk yd yc yo yt yq yp yu ym
      obtain⟨b,hb⟩:∃b,decide ((⟨xk,xd,⟨xc,xo⟩,xt,xq,xp,xu,xm⟩:Event)=⟨yk,yd,⟨yc,yo⟩,yt,yq,yp,yu,ym⟩)=b:=⟨_,rfl⟩;have Hb:=Lib.hid hb;have Hsm:=Lib.hid hsm;have Hot:=Lib.hid hot;have Hcl:=Lib.hid hcl;simp only[hb] at hE;clear hx hy c1 c2 hb e1 e2 hsm hot hcl hj1 hj2 hjl hjl2 hk20;go_wp2
      refine aP ((.take 0 (.take 1 (.take 2 (.take 3 (.take 4 (.take 5 (.take 6 (.take 7 (.take 8 (.take 9 .nil))))))))))) (fun hHd=> ?_) (hQ:=by intro _ _ _ _ _ h;exact h)
      repeat' first|((with_reducible refine aX ?_);(first|(refine tk (v:= ?_) ?_ hHd ?_;rotate_left;(·(intro W' h;have:=StepC.mk h;first|with_reducible exact aJ)))|(refine tk (v:= ?_) ?_ hHd ?_;rotate_left;(·(intro wq hSw;go_simp;(try with_reducible rfl)))));(try simp only[pS]))|(with_reducible refine aF ?_)
      cases b
      ·have Ho:=Lib.hid (Hot.out (of_decide_eq_false Hb.out));simp only[Bool.not_false];go_wp2_with (first|(refine Io (off:=kk*9) (vs:=[.int .i64 xk,.int .i64 xd,.int .i64 xc,.int .i64 xo,.int .i64 xt,.int .i64 xq,.int .i64 xp,.int .i64 xu,.int .i64 xm]) (z:=[.int .i64 0,.int .i64 0,.int .i64 0,.int .i64 0,.int .i64 0,.int .i64 0,.int .i64 0,.int .i64 0,.int .i64 0]) (RowC.step (a:=wr) (x:=hr2)) ?_ ⟨by with_unfolding_all rfl,by with_unfolding_all rfl,rfl,by simp;omega,by simp[Value.oneCell']⟩;intro V9 hr9 hg9)|(first|(with_reducible refine aA ?_)))
       refine⟨⟨kk+1,k2+1,cur.set kk ⟨xk,xd,⟨xc,xo⟩,xt,xq,xp,xu,xm⟩,rfl,rfl,by omega,by omega,Ho.out,?_,bN (bN hG2 (grown_of_ext ExtC.h)) hg9.h⟩,by simp[RowKit.intOf];omega⟩
       refine hr9.cast ?_ rfl;rw[Kk cur lkl,show(kk+1)*Enc.size Event=kk*9+9 from Nat.succ_mul kk 9]
       rfl
      ·have Ho:=Lib.hid (Hsm.out (of_decide_eq_true Hb.out));simp only[Bool.not_true];go_wp2
       exact⟨⟨kk,k2+1,cur,rfl,rfl,by omega,by omega,Ho.out,RowC.step,bN hG2 (grown_of_ext ExtC.h)⟩,by simp[RowKit.intOf];omega⟩
     ·obtain rfl:k2=m:=by omega
      have hcl:n=cur.length:=by rw[HI.out.len];exact Hn.out
      have ed:dd (l.take (k+k2))=dd l:=by rw[hkm,Hn.out,List.take_length]
      have hcnt:=HI.out.cnt;have hpre:=HI.out.pre;rw[ed] at hcnt hpre;have Hcnt:=Lib.hid hcnt;have Hpre:=Lib.hid hpre;have Hcl:=Lib.hid hcl;have lkn:kk<n:=by omega
      have hpa:Go.Walk.partAt (some ⟨g,0,none⟩) c kk 9=some ⟨g,kk*9,none⟩:=by unfold Go.Walk.partAt;rw[if_neg (by omega)];exact congrArg some (addr0 g (kk*9))
      clear hcnt hpre hcl ed;go_wp2_with (first|(refine Ec (k:=kk) (z:=[.int .i64 0,.int .i64 0,.int .i64 0,.int .i64 0,.int .i64 0,.int .i64 0,.int .i64 0,.int .i64 0,.int .i64 0]) hr2 ?_ ⟨?_,by omega,rfl,by decide,by simp[Value.oneCell']⟩;rotate_left;(·rw[hpa];with_unfolding_all rfl);intro V9 hr9 hg9))
      go_ret
      show RCmp _ _ _ _ (.returned (.slice _ kk c)) _
      have ec:=Hcnt.out;have ep:=Hpre.out;have el:(encL cur).take (kk*9)=encL (dd l):=by rw[←ep];exact(nN cur kk (by have:=Hcl.out;omega)).symm
      unfold RCmp;rw[←ec];exact⟨_,c,rfl,hr9.cast el rfl,⟨bN hG2 hg9.h,hG0.k⟩⟩
  ·obtain rfl:k=n:=by omega
   have hN2:=Hn.out;subst hN2;have e:dd l=l:=by have:=Hd.out;rwa [List.take_length] at this
   have E:=Lib.hid e;clear e;go_wp2
   go_ret
   show RCmp _ _ _ _ (.returned (.slice _ l.length c)) _
   unfold RCmp;rw[E.out];exact⟨_,c,rfl,hr,⟨grown_of_ext ExtC.h,hG0.k⟩⟩
instance{W B:World}{A:Option Addr}{n c:Nat}{l:List Event}[h:RowC W (.slice A n c) B 80 9 n (encL l)][q:LenN l n]:FunC Tryz.prog 121 #[.slice A n c] W (RCmp B W (.slice A n c) l):=⟨yK l q.h.1 q.h.2⟩
end Go.Rg
end
section
namespace Go.Rg
open Go Go.Bp Go.RowKit Go.Walk
theorem nH(a:Nat):BitVec.ofInt 64 (a:Int)=BitVec.ofNat 64 a:=BitVec.ofInt_natCast ..
theorem pA{n:Nat}(h:n<2^62):IntKind.i64.wrap (n:Int)=n:=IntWalk.i64_in _ (by omega)
theorem xY{a b:Nat}(h:a<2^62)(h2:b<2^62):bits .and .i64 (a:Int) (b:Int)=((a&&&b:Nat):Int):=by
 have e:(BitVec.ofInt 64 (a:Int)&&&BitVec.ofInt 64 (b:Int)).toNat=a&&&b:=by
  rw[nH,nH,BitVec.toNat_and,BitVec.toNat_ofNat,BitVec.toNat_ofNat,Nat.mod_eq_of_lt (by omega),Nat.mod_eq_of_lt (by omega)]
 show IntKind.i64.wrap ((BitVec.ofInt 64 (a:Int)&&&BitVec.ofInt 64 (b:Int)).toNat:Int)=_
 rw[e];exact pA (Nat.lt_of_le_of_lt Nat.and_le_left h)
theorem Sb{a b n:Nat}(h:a<2^n)(h2:b<2^n)(hn:n≤62):bits .or .i64 (a:Int) (b:Int)=((a|||b:Nat):Int):=by
 have hp:(2:Nat)^n≤2^62:=Nat.pow_le_pow_right (by omega) hn
 have e:(BitVec.ofInt 64 (a:Int)|||BitVec.ofInt 64 (b:Int)).toNat=a|||b:=by
  rw[nH,nH,BitVec.toNat_or,BitVec.toNat_ofNat,BitVec.toNat_ofNat,Nat.mod_eq_of_lt (by omega),Nat.mod_eq_of_lt (by omega)]
 show IntKind.i64.wrap ((BitVec.ofInt 64 (a:Int)|||BitVec.ofInt 64 (b:Int)).toNat:Int)=_
 rw[e];exact pA (Nat.lt_of_lt_of_le (Nat.or_lt_two_pow h h2) hp)
theorem xX{a b:Nat}(h:a<2^62)(h2:b<2^62):(bits .andNot .i64 (a:Int) (b:Int)==0)=decide (a&&&b=a):=by
 have e:(BitVec.ofInt 64 (a:Int)&&& ~~~BitVec.ofInt 64 (b:Int)).toNat=a^^^(a&&&b):=by
  apply Nat.eq_of_testBit_eq;intro i;rw[BitVec.testBit_toNat,BitVec.getLsbD_and,BitVec.getLsbD_not,←BitVec.testBit_toNat,←BitVec.testBit_toNat,nH,nH,BitVec.toNat_ofNat,BitVec.toNat_ofNat,Nat.mod_eq_of_lt (by omega),Nat.mod_eq_of_lt (by omega),Nat.testBit_xor,Nat.testBit_and]
  by_cases hi:i<64
  ·cases a.testBit i<;>cases b.testBit i<;>simp[hi]
  ·rw[Nat.testBit_lt_two_pow (Nat.lt_of_lt_of_le h (Nat.pow_le_pow_right (by omega) (by omega)))];simp
 have hb:bits .andNot .i64 (a:Int) (b:Int)=((a^^^(a&&&b):Nat):Int):=by
  show IntKind.i64.wrap ((BitVec.ofInt 64 (a:Int)&&& ~~~BitVec.ofInt 64 (b:Int)).toNat:Int)=_
  rw[e];exact pA (Nat.xor_lt_two_pow (n:=62) h (Nat.lt_of_le_of_lt Nat.and_le_left h))
 rw[hb,Bool.eq_iff_iff];simp only[beq_iff_eq,decide_eq_true_eq];constructor
 ·intro h0;have h0:a^^^(a&&&b)=0:=by omega
  apply Nat.eq_of_testBit_eq;intro i;have:=congrArg (fun x=>Nat.testBit x i) h0
  simp only[Nat.testBit_xor,Nat.testBit_and,Nat.zero_testBit] at this;rw[Nat.testBit_and]
  cases h1:a.testBit i<;>cases h2:b.testBit i<;>simp_all
 ·intro h0;rw[h0];simp
end Go.Rg
end
section
namespace Go.Rg
open Go Go.Bp Go.RowKit Go.Walk Go.Proofs
theorem enters_allow1:∀(args:Array Value)(W:World),(callFunc 163 args).run Tryz.prog W=.ok (.enter 163 args) W:=enters_of Tryz.func163 (by kernel_rfl) rfl
theorem Bq(s:Sys)(g1 g2 g3 gs n i j:Nat)(v1 v2 cv:Value)(o f:Int)(w:World)(hn:n=s.classes.length)(hx:i<n)(hi:j<n)(ho:0≤o∧o<256)(hf:0≤f∧f<256)[h1:BlkC w g1 172 [.pointer (some ⟨gs,0,none⟩)]][h2:BlkC w g2 3 [.int .i64 j]][h4:BlkC w g3 3 [.int .i64 f]][h3:BlkC w gs 177 [v1,v2,cv]](hC:CovV w cv n ((List.range n).map fun i:Nat=>s.coverL i)):
 Calls Tryz.prog 163 #[.agg #[.int .i64 i,.int .i64 o],.pointer (some ⟨g1,0,none⟩),.pointer (some ⟨g2,0,none⟩),.pointer (some ⟨g3,0,none⟩)] w (RB w (s.one ⟨i,o⟩ j f)):=by
 obtain⟨A,c,ad,g,rfl,rfl,c1,c2⟩:=hC.at_ (i:=i) (j:=j) (by simpa using hx) hi
 rw[kT hn hx] at c2;have i4:=CellB.mk c1;have i5:=CellB.mk c2;have hl:((List.range n).map fun i:Nat=>s.coverL i).length=n:=by simp
 rw[hl] at h3;unfold Sys.one;simp only;obtain⟨b,hb⟩:∃b,s.covers i j=b:=⟨_,rfl⟩;rw[hb] at i5⊢;obtain⟨d,hd⟩:∃d,decide (o.toNat&&&f.toNat=0)=d:=⟨_,rfl⟩;have ha:(bits .and .i64 o f==0)=d:=by
  obtain⟨o',rfl⟩:∃n:Nat,o=n:=⟨o.toNat,by omega⟩
  obtain⟨f',rfl⟩:∃n:Nat,f=n:=⟨f.toNat,by omega⟩
  rw[xY (by omega) (by omega),←hd,Bool.eq_iff_iff]
  simp only[beq_iff_eq,decide_eq_true_eq,Int.toNat_natCast];omega
 rw[hd];clear hn hl c1 c2 hb hd
 cases b
 ·go_enter Tryz.func163,Tryz.ntmps163
  go_wp2_with (first|(with_reducible refine aH ?_;intro V g _ _ _))
  all_goals(try(go_ret;refine⟨?_,⟨ExtC.h⟩⟩;first|rfl|(simp only[*];rfl)|(simp only[Bool.not_eq_true] at *;simp only[*];rfl)))
  refine aP ((.take 0 (.take 1 (.take 2 (.take 3 (.take 4 (.take 5 (.take 6 (.take 7 (.take 8 (.take 9 (.take 10 (.take 11 (.take 12 (.take 13 (.take 14 (.take 15 (.take 16 (.take 17 (.take 18 .nil)))))))))))))))))))) (fun hHd=> ?_) (hQ:=by intro _ _ _ _ _ h;exact h)
  repeat' first|((with_reducible refine aX ?_);(first|(refine tk (v:= ?_) ?_ hHd ?_;rotate_left;(·(intro W' h;have:=StepC.mk h;first|with_reducible exact aJ)))|(refine tk (v:= ?_) ?_ hHd ?_;rotate_left;(·(intro wq hSw;go_simp;(try with_reducible rfl))))|(refine ts hHd ?_));(try simp only[pS]))|(with_reducible refine aF ?_)
  go_wp2
  all_goals(try(go_ret;refine⟨?_,⟨ExtC.h⟩⟩;first|rfl))
 ·go_enter Tryz.func163,Tryz.ntmps163
  go_wp2_with (first|(with_reducible refine aH ?_;intro V g _ _ _))
  all_goals(try(go_ret;refine⟨?_,⟨ExtC.h⟩⟩;first|rfl|(simp only[*];rfl)|(simp only[Bool.not_eq_true] at *;simp only[*];rfl)))
  refine aP ((.take 0 (.take 1 (.take 2 (.take 3 (.take 4 (.take 5 (.take 6 (.take 7 (.take 8 (.take 9 (.take 10 (.take 11 (.take 12 (.take 13 (.take 14 (.take 15 (.take 16 (.take 17 (.take 18 .nil)))))))))))))))))))) (fun hHd=> ?_) (hQ:=by intro _ _ _ _ _ h;exact h)
  repeat' first|((with_reducible refine aX ?_);(first|(refine tk (v:= ?_) ?_ hHd ?_;rotate_left;(·(intro W' h;have:=StepC.mk h;first|with_reducible exact aJ)))|(refine tk (v:= ?_) ?_ hHd ?_;rotate_left;(·(intro wq hSw;go_simp;(try with_reducible rfl))))|(refine tw (v:= ?_) ?_ hHd ?_;rotate_left;(·(intro W' h;have:=StepC.mk h;first|with_reducible exact aJ)))|(refine tw (v:= ?_) ?_ hHd ?_;rotate_left;(·(intro wq hSw;go_simp;(try with_reducible rfl)))));(try simp only[pS]))|(with_reducible refine aF ?_)
  go_wp2
  all_goals(try(go_ret;refine⟨?_,⟨ExtC.h⟩⟩;first|rfl))
structure Ask(s:Sys)(l:List Right)(c f:Int):Prop where
 rights:∀r∈l,s.rightErr r=0
 cls:0≤c∧c<s.classes.length
 feat:0≤f∧f<256
 k:s.codes.length≤8
class AskC (s:outParam Sys) (l:List Right) (c f:Int):Prop where h:Ask s l c f
instance{W:World}{g1 g2 g3 gs n:Nat}{v1 v2 cv:Value}{c f:Int}{s:Sys}{l:List Right}[h1:BlkC W g1 172 [.pointer (some ⟨gs,0,none⟩)]][h2:BlkC W g2 3 [.int .i64 c]][h3:BlkC W g3 3 [.int .i64 f]][h4:BlkC W gs 177 [v1,v2,cv]][h5:CovC W cv n s][h6:AskC s l c f]:
 PredC Right W (.func (.func 163) #[] #[.pointer (some ⟨g1,0,none⟩),.pointer (some ⟨g2,0,none⟩),.pointer (some ⟨g3,0,none⟩)]) l (fun r=>s.one r c f):=
 ⟨_,_,rfl,enters_allow1,fun x hx W' hE=>by
  have hr:=Sys.right_in (h6.h.rights x hx);have hc:=h6.h.cls;have hp:=eU h6.h.k;have hs:x.codes<256:=by have:=hr.2.2;unfold Sys.sets at this;omega
  obtain⟨i,hi⟩:∃i:Nat,x.cls=(i:Int):=⟨x.cls.toNat,by omega⟩
  obtain⟨j,rfl⟩:∃j:Nat,c=(j:Int):=⟨c.toNat,by omega⟩
  have i1:BlkC W' g1 172 [.pointer (some ⟨gs,0,none⟩)]:=⟨h1.h.ext hE⟩;have i2:BlkC W' g2 3 [.int .i64 j]:=⟨h2.h.ext hE⟩;have i3:BlkC W' g3 3 [.int .i64 f]:=⟨h3.h.ext hE⟩;have i4:BlkC W' gs 177 [v1,v2,cv]:=⟨h4.h.ext hE⟩;have hn:=h5.h.2;have:=Bq s g1 g2 g3 gs n i j v1 v2 cv x.codes f W' hn (by omega) (by omega) ⟨hr.2.1,hs⟩ h6.h.feat (h5.h.1.ext hE)
  rw[←hi] at this;exact this.mono fun e W2 ⟨h,hE⟩=>⟨h,hE.h⟩⟩
theorem allow_any(s:Sys)(gs n:Nat)(v1 v2 cv v:Value)(l:List Right)(c f:Int)(w:World)[h4:BlkC w gs 177 [v1,v2,cv]][h5:CovC w cv n s][h6:AskC s l c f](h:ListV w v l):
 Calls Tryz.prog 97 #[.pointer (some ⟨gs,0,none⟩),v,.int .i64 c,.int .i64 f] w (RB w (s.allow l c f)):=by
 have i1:=ListB.mk h;have i2:CovB w cv n s:=⟨h5.h⟩;rw[Sys.allow_any];go_enter Tryz.func97,Tryz.ntmps97
 go_wp2_with (first|(with_reducible refine aB ?_;first|rintro _ V ⟨rfl,(_:StepC _ _)⟩)|(with_reducible refine aH ?_;intro V g _ _ _))
 all_goals(try(go_ret;refine⟨?_,⟨ExtC.h⟩⟩;first|rfl))
instance{W:World}{s:Sys}{gs n:Nat}{v1 v2 cv v:Value}{l:List Right}{c f:Int}[h4:BlkC W gs 177 [v1,v2,cv]][h5:CovC W cv n s][h6:AskC s l c f][h:ListC Right W v l]:FunC Tryz.prog 97 #[.pointer (some ⟨gs,0,none⟩),v,.int .i64 c,.int .i64 f] W (RB W (s.allow l c f)):=⟨allow_any s gs n v1 v2 cv v l c f W h.h⟩
instance{W:World}{gs n k c c':Nat}{A A':Option Addr}{v v3:Value}{l:List Right}{s:Sys}[h2:BlkC W gs 177 [.slice A n c,.slice A' k c',v3]][h3:SysN s n k][h:ListC Right W v l]:FunC Tryz.prog 160 #[.pointer (some ⟨gs,0,none⟩),v] W (RI W (s.rightsErr l)):=⟨zD gs n k c c' A A' v v3 l s W h.h⟩
class OpenBad (s:Sys) (p a r:outParam Int):Prop where h:s.check=(p,a,r)∧r≠0
class OpenOk (s:Sys):Prop where h:s.check=(0,0,0)
instance(priority:=500){W:World}{v:Value}{s:Sys}{p a r:Int}[h:SysC W v s][q:OpenBad s p a r]:FunC Tryz.prog 102 #[v] W (fun e W'=>e=.returned (.tuple #[.pointer none,.int .i64 p,.int .i64 a,.int .i64 r])∧StepC W W'):=
 ⟨(wQ s v W h.h).mono fun e W' ⟨hE,hr⟩=>by
  rcases hr with ⟨_,h2⟩|⟨h1,_⟩
  ·rw[q.h.1] at h2;exact⟨h2,⟨hE⟩⟩
  ·rw[q.h.1] at h1;injection h1 with _ h1;injection h1 with _ h1;exact absurd h1 q.h.2⟩
abbrev ROk(W:World)(s:Sys)(e:Ending)(W':World):Prop:=∃gp Ap kp Aq kq cv,e=.returned (.tuple #[.pointer (some ⟨gp,0,none⟩),.int .i64 0,.int .i64 0,.int .i64 0])∧BlkC W' gp 177 [.slice Ap s.classes.length kp,.slice Aq s.codes.length kq,cv]∧CovB W' cv s.classes.length s∧ClsB W' (.slice Ap s.classes.length kp) s.classes∧ListB ByteArray W' (.slice Aq s.codes.length kq) s.codes∧StepC W W'
instance(priority:=600){W:World}{v:Value}{s:Sys}[h:SysC W v s][q:OpenOk s]:FunC Tryz.prog 102 #[v] W (ROk W s):=
 ⟨(wQ s v W h.h).mono fun e W' ⟨hE,hr⟩=>by
  rcases hr with ⟨h1,_⟩|⟨_,g,h2,h3⟩
  ·rw[q.h] at h1;exact absurd rfl h1
  ·obtain⟨A,n,k,A',m,k',cv,k1,rfl,rfl,k4,k5,k6⟩:=h3.h;exact⟨g,A,k,A',k',cv,h2,⟨k1⟩,⟨k6,rfl⟩,⟨k4⟩,⟨k5⟩,⟨hE⟩⟩⟩
class ChkE (s:Sys) (p a r:outParam Int):Prop where h:s.check=(p,a,r)
theorem eD{s:Sys}{p a:Int}(h:s.check=(p,a,0)):p=0∧a=0:=by
 have e:s.check.2.2=0:=by rw[h]
 by_cases h1:inB s.classes.length 1 12=false∨8<s.codes.length
 ·rw[check_1 h1] at e;cases e
 ·obtain⟨⟨a1,r1⟩,hr1⟩:∃x,firstE s.classes s.clsErr=x:=⟨_,rfl⟩;by_cases z1:r1=0
  ·subst z1;obtain⟨⟨a2,r2⟩,hr2⟩:∃x,(firstE s.codes fun i _=>nameErr s.codes i)=x:=⟨_,rfl⟩
   by_cases z2:r2=0
   ·subst z2;rw[check_4 h1 hr1 hr2] at h
    cases hl:s.loopAt with
    |none=>rw[hl] at h;simp at h;omega
    |some i=>rw[hl] at h;simp at h
   ·rw[uN h1 hr1 hr2 z2] at e;exact absurd e z2
  ·rw[uO h1 hr1 z1] at e;exact absurd e z1
theorem Gs(s:Sys)(v:Value)(p a r:Int)(w:World)(h:SysV w v s)(hc:s.check=(p,a,r)):Calls Tryz.prog 54 #[v] w (RIII w p a r):=by
 obtain⟨A,_,k,A',k',rfl,rfl,-⟩:=h.h;have i1:=SysB.mk h;by_cases hr:r=0
 ·subst hr;obtain⟨rfl,rfl⟩:=eD hc;have i2:OpenOk s:=⟨hc⟩;go_enter Tryz.func54,Tryz.ntmps54
  go_wp2_with (first|(with_reducible refine aA ?_)|(with_reducible refine aB ?_;first|rintro _ V ⟨gp,Ap,kp,Aq,kq,cv,rfl,_,_,_,_,(_:StepC _ _)⟩)|(with_reducible refine aH ?_;intro V g _ _ _))
  go_ret3
  exact⟨rfl,⟨ExtC.h⟩⟩
 ·have i2:OpenBad s p a r:=⟨hc,hr⟩;go_enter Tryz.func54,Tryz.ntmps54
  go_wp2_with (first|(with_reducible refine aA ?_)|(with_reducible refine aB ?_;first|rintro _ V ⟨rfl,(_:StepC _ _)⟩)|(with_reducible refine aH ?_;intro V g _ _ _))
  go_ret3
  exact⟨rfl,⟨ExtC.h⟩⟩
instance{W:World}{v:Value}{s:Sys}{p a r:Int}[h:SysC W v s][q:ChkE s p a r]:FunC Tryz.prog 54 #[v] W (RIII W p a r):=⟨Gs s v p a r W h.h q.h⟩
class AskBad (s:Sys) (l:List Right) (r:outParam Int):Prop where h:s.asked l=r∧r≠0
class AskOk (s:Sys) (l:List Right):Prop where h:s.asked l=0
abbrev RBad(W:World)(r:Int)(e:Ending)(W':World):Prop:=∃pv,e=.returned (.tuple #[pv,.int .i64 r])∧StepC W W'
abbrev RPok(W:World)(s:Sys)(e:Ending)(W':World):Prop:=∃gp Ap kp Aq kq cv,e=.returned (.tuple #[.pointer (some ⟨gp,0,none⟩),.int .i64 0])∧BlkC W' gp 177 [.slice Ap s.classes.length kp,.slice Aq s.codes.length kq,cv]∧CovB W' cv s.classes.length s∧ClsB W' (.slice Ap s.classes.length kp) s.classes∧ListB ByteArray W' (.slice Aq s.codes.length kq) s.codes∧StepC W W'
theorem Ox{s:Sys}(h:s.Ok):SysN s s.classes.length s.codes.length:=⟨rfl,rfl,h.n.2,h.c⟩
theorem It(s:Sys)(v lv:Value)(g:Nat)(l:List Right)(r:Int)(w:World)(h:SysV w v s)[hB:BlkC w g 48 [lv]](hl:ListV w lv l)(hr:s.asked l=r∧r≠0):Calls Tryz.prog 94 #[v,.slice (some ⟨g,0,none⟩) 1 1] w (RBad w r):=by
 obtain⟨A,_,k,A',k',rfl,rfl,-⟩:=h.h;have i1:=SysB.mk h;have i2:=ListB.mk hl;obtain⟨⟨p,a,r0⟩,hc⟩:∃x,s.check=x:=⟨_,rfl⟩;unfold Sys.asked at hr;rw[hc] at hr;simp only at hr;by_cases hz:r0=0
 ·subst hz;obtain⟨rfl,rfl⟩:=eD hc;have i3:OpenOk s:=⟨hc⟩;have i4:=Ox (Sys.ok_of (by rw[hc]):s.Ok)
  rw[if_neg (by simp)] at hr
  obtain⟨hr1,hr2⟩:=hr;clear hc;go_enter Tryz.func94,Tryz.ntmps94
  go_wp2_with (first|(with_reducible refine aA ?_)|(with_reducible refine aB ?_;first|rintro _ V ⟨gp,Ap,kp,Aq,kq,cv,rfl,_,_,_,_,(_:StepC _ _)⟩)|(with_reducible refine aH ?_;intro V g _ _ _))
  go_loopw [9,21] (fun ev iv wr=>StepC V wr∧((iv=.int .i64 0∧ev=.int .i64 0)∨(iv=.int .i64 1∧ev=.int .i64 r))) (fun _ iv _=>1-(RowKit.intOf iv).toNat)
  case atStart=>exact⟨⟨ExtC.h⟩,.inl ⟨rfl,rfl⟩⟩
  case round=>
   obtain⟨_,⟨rfl,rfl⟩|⟨rfl,rfl⟩⟩:=hrel
   ·go_wp2_with (first|(with_reducible refine aA ?_)|(with_reducible refine aB ?_;first|rintro _ V ⟨rfl,(_:StepC _ _)⟩))
    go_roundw
    case rel=>exact⟨⟨ExtC.h⟩,.inr ⟨rfl,rfl⟩⟩
    case measure=>simp[RowKit.intOf]
   ·go_wp2
    go_ret2
    exact⟨_,rfl,⟨ExtC.h⟩⟩
 ·rw[if_pos hz] at hr;obtain⟨rfl,_⟩:=hr;have i3:OpenBad s p a r0:=⟨hc,hz⟩;have q1:(r0==0)=false:=by simpa using hz
  clear hc;go_enter Tryz.func94,Tryz.ntmps94
  go_wp2_with (first|(with_reducible refine aA ?_)|(with_reducible refine aB ?_;first|rintro _ V ⟨rfl,(_:StepC _ _)⟩)|(with_reducible refine aH ?_;intro V g _ _ _))
  go_loopw [9,21] (fun ev iv wr=>StepC V wr∧(iv=.int .i64 0∨iv=.int .i64 1)∧ev=.int .i64 r0) (fun _ iv _=>1-(RowKit.intOf iv).toNat)
  case atStart=>exact⟨⟨ExtC.h⟩,.inl rfl,rfl⟩
  case round=>
   obtain⟨_,rfl|rfl,rfl⟩:=hrel
   ·go_wp2_with (first|(with_reducible refine aA ?_))
    go_roundw
    case rel=>exact⟨⟨ExtC.h⟩,.inr rfl,rfl⟩
    case measure=>simp[RowKit.intOf]
   ·go_wp2
    go_ret2
    exact⟨_,rfl,⟨ExtC.h⟩⟩
theorem mV{s:Sys}{l:List Right}(h:s.asked l=0):s.check=(0,0,0)∧s.rightsErr l=0:=by
 obtain⟨⟨p,a,r⟩,hc⟩:∃x,s.check=x:=⟨_,rfl⟩;unfold Sys.asked at h;rw[hc] at h;simp only at h;split at h
 ·rename_i h1;exact absurd h h1
 ·rename_i h1;have h1:r=0:=by simpa using h1
  subst h1;obtain⟨rfl,rfl⟩:=eD hc;exact⟨hc,h⟩
theorem Mc(s:Sys)(v lv:Value)(g:Nat)(l:List Right)(w:World)(h:SysV w v s)[hB:BlkC w g 48 [lv]](hl:ListV w lv l)(hr:s.asked l=0):Calls Tryz.prog 94 #[v,.slice (some ⟨g,0,none⟩) 1 1] w (RPok w s):=by
 obtain⟨A,_,k,A',k',rfl,rfl,-⟩:=h.h;have i1:=SysB.mk h;have i2:=ListB.mk hl;obtain⟨hc,hr1⟩:=mV hr;have i3:OpenOk s:=⟨hc⟩;have i4:=Ox (Sys.ok_of (by rw[hc]):s.Ok)
 clear hc hr;go_enter Tryz.func94,Tryz.ntmps94
 go_wp2_with (first|(with_reducible refine aA ?_)|(with_reducible refine aB ?_;first|rintro _ V ⟨gp,Ap,kp,Aq,kq,cv,rfl,_,_,_,_,(_:StepC _ _)⟩)|(with_reducible refine aH ?_;intro V g _ _ _))
 go_loopw [9,21] (fun ev iv wr=>StepC V wr∧(iv=.int .i64 0∨iv=.int .i64 1)∧ev=.int .i64 0) (fun _ iv _=>1-(RowKit.intOf iv).toNat)
 case atStart=>exact⟨⟨ExtC.h⟩,.inl rfl,rfl⟩
 case round=>
  obtain⟨_,rfl|rfl,rfl⟩:=hrel
  ·go_wp2_with (first|(with_reducible refine aA ?_)|(with_reducible refine aB ?_;first|rintro _ V ⟨rfl,(_:StepC _ _)⟩))
   go_roundw
   case rel=>exact⟨⟨ExtC.h⟩,.inr rfl,rfl⟩
   case measure=>simp[RowKit.intOf]
  ·go_wp2
   go_ret2
   exact⟨gp,Ap,kp,Aq,kq,cv,rfl,inferInstance,⟨CovC.h (W:=_) (v:=cv)⟩,⟨ClsC.h⟩,⟨ListC.h⟩,⟨ExtC.h⟩⟩
instance(priority:=500){W:World}{v lv:Value}{g:Nat}{s:Sys}{l:List Right}{r:Int}[h:SysC W v s][hB:BlkC W g 48 [lv]][hl:ListC Right W lv l][q:AskBad s l r]:FunC Tryz.prog 94 #[v,.slice (some ⟨g,0,none⟩) 1 1] W (RBad W r):=⟨It s v lv g l r W h.h hl.h q.h⟩
instance(priority:=600){W:World}{v lv:Value}{g:Nat}{s:Sys}{l:List Right}[h:SysC W v s][hB:BlkC W g 48 [lv]][hl:ListC Right W lv l][q:AskOk s l]:FunC Tryz.prog 94 #[v,.slice (some ⟨g,0,none⟩) 1 1] W (RPok W s):=⟨Mc s v lv g l W h.h hl.h q.h⟩
theorem Hw{s:Sys}{l:List Right}(h:s.asked l=0):s.Ok:=Sys.ok_of (by rw[(mV h).1])
theorem sJ{s:Sys}{l:List Right}(h:s.rightsErr l=0):(∀r∈l,s.rightErr r=0)∧l.length≤40:=by
 unfold Sys.rightsErr at h;split at h
 ·cases h
 ·refine⟨fun r hr=> ?_,by omega⟩
  obtain⟨i,hi,rfl⟩:=List.mem_iff_getElem.1 hr;exact dH h i hi
class MayE (s:Sys) (l:List Right) (c f:Int) (b:outParam Bool) (r:outParam Int):Prop where h:s.mayAns l c f=(b,r)
abbrev RBI(W:World)(b:Bool)(n:Int)(e:Ending)(W':World):Prop:=e=.returned (.tuple #[.bool b,.int .i64 n])∧StepC W W'
theorem Om(s:Sys)(v lv:Value)(l:List Right)(c f:Int)(b:Bool)(r:Int)(w:World)(h:SysV w v s)(hl:ListV w lv l)(hm:s.mayAns l c f=(b,r)):Calls Tryz.prog 50 #[v,lv,.int .i64 c,.int .i64 f] w (RBI w b r):=by
 obtain⟨A,_,k,A',k',rfl,rfl,-⟩:=h.h;obtain⟨B,kb,rfl,-⟩:=hl.form;have i1:=SysB.mk h;have i2:=ListB.mk hl;unfold Sys.mayAns at hm;obtain⟨ra,hra⟩:∃x,s.asked l=x:=⟨_,rfl⟩;rw[hra] at hm;by_cases hz:ra=0
 ·subst hz;have i3:AskOk s l:=⟨hra⟩;have hok:=Hw hra;have hrs:=sJ (mV hra).2;have n1:=hok.n;have n2:=hok.c;have hp:=eU n2;rw[if_neg (by simp)] at hm
  obtain⟨M,hM⟩:∃M:Int,2^s.codes.length=M:=⟨_,rfl⟩;have hsets:s.sets=M:=hM;have i4:PowE s.codes.length M:=⟨n2,hM⟩;rw[hM] at hp;rw[hsets] at hm;have z1:IntKind.i64.wrap ((s.classes.length:Int)-1)=(s.classes.length:Int)-1:=IntWalk.i64_in _ (by omega)
  have z2:IntKind.i64.wrap (M-1)=M-1:=IntWalk.i64_in _ (by omega)
  by_cases h1:inB c 0 ((s.classes.length:Int)-1)=false
  ·rw[if_pos h1] at hm;injection hm with m1 m2
   subst m1 m2;have e1:outB 0 ((s.classes.length:Int)-1) [c]=true:=by rw[bL,h1];rfl
   clear hra hok hM hsets h1;go_enter Tryz.func50,Tryz.ntmps50
   go_wp2_with (first|(with_reducible refine aA ?_)|(with_reducible refine aB ?_;first|rintro _ V ⟨rfl,(_:StepC _ _)⟩|rintro _ V ⟨gp,Ap,kp,Aq,kq,cv,rfl,_,_,_,_,(_:StepC _ _)⟩)|(with_reducible refine aH ?_;intro V g _ _ _)|(with_reducible refine aD ?_;intro V g _ _ _))
   go_ret2
   exact⟨rfl,⟨ExtC.h⟩⟩
  have e1:outB 0 ((s.classes.length:Int)-1) [c]=false:=by rw[bL];simpa using h1
  rw[if_neg h1] at hm;by_cases h2:inB f 0 (M-1)=false
  ·rw[if_pos h2] at hm;injection hm with m1 m2
   subst m1 m2;have e2:outB 0 (M-1) [f]=true:=by rw[bL,h2];rfl
   clear hra hok hM hsets h1 h2;go_enter Tryz.func50,Tryz.ntmps50
   go_wp2_with (first|(with_reducible refine aA ?_)|(with_reducible refine aB ?_;first|rintro _ V ⟨rfl,(_:StepC _ _)⟩|rintro _ V ⟨gp,Ap,kp,Aq,kq,cv,rfl,_,_,_,_,(_:StepC _ _)⟩)|(with_reducible refine aH ?_;intro V g _ _ _)|(with_reducible refine aD ?_;intro V g _ _ _))
   go_ret2
   exact⟨rfl,⟨ExtC.h⟩⟩
  rw[if_neg h2] at hm;injection hm with m1 m2
  subst m1 m2;have e2:outB 0 (M-1) [f]=false:=by rw[bL];simpa using h2
  have c1:=inB_t.1 (by simpa using h1:inB c 0 ((s.classes.length:Int)-1)=true)
  have c2:=inB_t.1 (by simpa using h2:inB f 0 (M-1)=true)
  have i5:AskC s l c f:=⟨hrs.1,by omega,by omega,n2⟩
  clear hra hok hM hsets h1 h2;go_enter Tryz.func50,Tryz.ntmps50
  go_wp2_with (first|(with_reducible refine aA ?_)|(with_reducible refine aB ?_;first|rintro _ V ⟨rfl,(_:StepC _ _)⟩|rintro _ V ⟨gp,Ap,kp,Aq,kq,cv,rfl,_,_,_,_,(_:StepC _ _)⟩)|(with_reducible refine aH ?_;intro V g _ _ _)|(with_reducible refine aD ?_;intro V g _ _ _))
  go_ret2
  exact⟨rfl,⟨ExtC.h⟩⟩
 ·have i3:AskBad s l ra:=⟨hra,hz⟩;rw[if_pos hz] at hm;injection hm with m1 m2
  subst m1 m2;have q1:(ra !=0)=true:=by simpa using hz
  clear hra;go_enter Tryz.func50,Tryz.ntmps50
  go_wp2_with (first|(with_reducible refine aA ?_)|(with_reducible refine aB ?_;first|rintro _ V ⟨pv,rfl,(_:StepC _ _)⟩)|(with_reducible refine aH ?_;intro V g _ _ _)|(with_reducible refine aD ?_;intro V g _ _ _))
  go_ret2
  exact⟨rfl,⟨ExtC.h⟩⟩
instance{W:World}{v lv:Value}{s:Sys}{l:List Right}{c f r:Int}{b:Bool}[h:SysC W v s][hl:ListC Right W lv l][q:MayE s l c f b r]:FunC Tryz.prog 50 #[v,lv,.int .i64 c,.int .i64 f] W (RBI W b r):=⟨Om s v lv l c f b r W h.h hl.h q.h⟩
end Go.Rg
end
