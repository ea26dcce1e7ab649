import Derived.Test.YtbfbepnkofampaaGreatDoorXP23
set_option maxRecDepth 100000
set_option synthInstance.maxSize 2000
set_option synthInstance.maxHeartbeats 400000
set_option maxHeartbeats 8000000
set_option linter.all false
section
namespace Go.Rg
open Go Go.Bp Go.RowKit Go.Walk Go.Proofs
theorem Gj(u v:Value)(l m:List Span)(w:World)(hu:ListV w u l)(hv:ListV w v m):Calls Tryz.prog 24 #[u,v] w (RB w (decide (l=m))):=by
 obtain⟨A,c,rfl,hc1,hc2⟩:=hu.form;obtain⟨B,d,rfl,hd1,hd2⟩:=hv.form;unfold maxLen at hc2 hd2;by_cases hl:l.length=m.length
 ·have q:((l.length:Int) !=(m.length:Int))=false:=by simp[hl]
  obtain⟨R,hR⟩:∃R,decide (l=m)=R:=⟨_,rfl⟩;rw[hR];have HT:=Lib.hid (show(∀j(h1:j<l.length)(h2:j<m.length),l[j]=m[j])→R=true from fun h=>by
   rw[←hR];exact decide_eq_true (List.ext_getElem hl fun j h1 h2=>h j h1 h2))
  have HF:=Lib.hid (show∀j(h1:j<l.length)(h2:j<m.length),l[j]≠m[j]→R=false from fun j h1 h2 h=>by
   rw[←hR];exact decide_eq_false fun e=>h (by subst e;rfl))
  have Hl:=Lib.hid hl;clear hR hl;go_enter Tryz.func24,Tryz.ntmps24
  go_wp2
  go_loopw [5] (fun iv wr=>StepC w wr∧∃k:Nat,k≤l.length∧iv=.int .i64 k∧∀j(hj:j<k)(h1:j<l.length)(h2:j<m.length),l[j]=m[j]) (fun iv _=>l.length-(RowKit.intOf iv).toNat)
  case atStart=>exact⟨⟨ExtC.h⟩,0,by omega,rfl,fun j hj=>by omega⟩
  case round=>
   obtain⟨_,k,hk,rfl,hz⟩:=hrel;have Hz:=Lib.hid hz;clear hz;by_cases lk:k<l.length
   ·have lm:k<m.length:=by have:=Hl.out;omega
    obtain⟨ad,rfl,ha⟩:=(hu.ext (ExtC.h:Ext w wr)).elem lk;obtain⟨bd,rfl,hb⟩:=(hv.ext (ExtC.h:Ext w wr)).elem lm;have Hn:=Lib.hid (show l[k]=m[k]→∀j(hj:j<k+1)(h1:j<l.length)(h2:j<m.length),l[j]=m[j] from fun h j hj h1 h2=>by
     by_cases hjk:j=k
     ·subst hjk;exact h
     ·exact Hz.out j (by omega) h1 h2)
    have Hs:=Lib.hid (show l[k]≠m[k]→R=false from fun h=>HF.out k lk lm h)
    obtain⟨⟨a1,a2⟩,hx⟩:∃x,l[k]=x:=⟨_,rfl⟩;obtain⟨⟨b1,b2⟩,hy⟩:∃x,m[k]=x:=⟨_,rfl⟩;rw[hx,hy] at Hn Hs;rw[hx] at ha;rw[hy] at hb;have i1:CellsB wr (ad.add (k*2)) [.int .i64 a1,.int .i64 a2]:=⟨ha⟩;have i2:CellsB wr (bd.add (k*2)) [.int .i64 b1,.int .i64 b2]:=⟨hb⟩;have zk:IntKind.i64.wrap ((k:Int)+1)=(k:Int)+1:=IntWalk.i64_in _ (by omega)
    clear ha hb hx hy;by_cases e:a1=b1∧a2=b2
    ·obtain⟨rfl,rfl⟩:=e;have Hn2:=Lib.hid (Hn.out rfl);clear Hn Hs;go_wp2
     refine aP ((.take 0 (.take 1 (.take 2 (.take 3 (.take 4 (.take 5 (.take 6 (.take 7 (.take 8 .nil)))))))))) (fun hHd=> ?_) (hQ:=by intro _ _ _ _ _ h;exact h)
     repeat' first|((with_reducible refine aX ?_);(first|(refine tk (v:= ?_) ?_ hHd ?_;rotate_left;(·(intro W' h;have:=StepC.mk h;first|with_reducible exact aJ)))|(refine tk (v:= ?_) ?_ hHd ?_;rotate_left;(·(intro wq hSw;go_simp;(try with_reducible rfl)))));(try simp only[pS]))|(with_reducible refine aF ?_)
     all_goals
      go_wp2
      go_roundw
      case rel=>exact⟨⟨ExtC.h⟩,k+1,lk,rfl,Hn2.out⟩
      case measure=>simp[RowKit.intOf];omega
    ·obtain rfl:=Hs.out (fun h=>by injection h with h1 h2;exact e ⟨h1,h2⟩)
     clear Hn Hs;have e':a1=b1→¬a2=b2:=fun h1 h2=>e ⟨h1,h2⟩
     by_cases e1:a1=b1
     ·have e2:=e' e1;subst e1;clear e e';go_wp2
      refine aP ((.take 0 (.take 1 (.take 2 (.take 3 (.take 4 (.take 5 (.take 6 (.take 7 (.take 8 .nil)))))))))) (fun hHd=> ?_) (hQ:=by intro _ _ _ _ _ h;exact h)
      repeat' first|((with_reducible refine aX ?_);(first|(refine tk (v:= ?_) ?_ hHd ?_;rotate_left;(·(intro W' h;have:=StepC.mk h;first|with_reducible exact aJ)))|(refine tk (v:= ?_) ?_ hHd ?_;rotate_left;(·(intro wq hSw;go_simp;(try with_reducible rfl)))));(try simp only[pS]))|(with_reducible refine aF ?_)
      all_goals
       go_wp2
       go_ret
       exact⟨rfl,⟨ExtC.h⟩⟩
     ·clear e e';go_wp2
      refine aP ((.take 0 (.take 1 (.take 2 (.take 3 (.take 4 (.take 5 (.take 6 (.take 7 (.take 8 .nil)))))))))) (fun hHd=> ?_) (hQ:=by intro _ _ _ _ _ h;exact h)
      repeat' first|((with_reducible refine aX ?_);(first|(refine tk (v:= ?_) ?_ hHd ?_;rotate_left;(·(intro W' h;have:=StepC.mk h;first|with_reducible exact aJ)))|(refine tk (v:= ?_) ?_ hHd ?_;rotate_left;(·(intro wq hSw;go_simp;(try with_reducible rfl)))));(try simp only[pS]))|(with_reducible refine aF ?_)
      all_goals
       go_wp2
       go_ret
       exact⟨rfl,⟨ExtC.h⟩⟩
   ·obtain rfl:k=l.length:=by omega
    obtain rfl:=HT.out fun j h1 h2=>Hz.out j h1 h1 h2
    go_wp2
    go_ret
    exact⟨rfl,⟨ExtC.h⟩⟩
 ·have hR:decide (l=m)=false:=decide_eq_false fun e=>hl (by rw[e])
  rw[hR];have q:((l.length:Int) !=(m.length:Int))=true:=by simp;omega
  clear hR hl;go_enter Tryz.func24,Tryz.ntmps24
  go_wp2
  all_goals(try(go_ret;refine⟨?_,⟨ExtC.h⟩⟩;first|rfl))
instance{W:World}{u v:Value}{l m:List Span}[h1:ListC Span W u l][h2:ListC Span W v m]:FunC Tryz.prog 24 #[u,v] W (RB W (decide (l=m))):=⟨Gj u v l m W h1.h h2.h⟩
theorem Bs(u v:Value)(l m:List (Int×Int))(w:World)(hu:ListV w u l)(hv:ListV w v m):Calls Tryz.prog 34 #[u,v] w (RB w (decide (l=m))):=by
 obtain⟨A,c,rfl,hc1,hc2⟩:=hu.form;obtain⟨B,d,rfl,hd1,hd2⟩:=hv.form;unfold maxLen at hc2 hd2;by_cases hl:l.length=m.length
 ·have q:((l.length:Int) !=(m.length:Int))=false:=by simp[hl]
  obtain⟨R,hR⟩:∃R,decide (l=m)=R:=⟨_,rfl⟩;rw[hR];have HT:=Lib.hid (show(∀j(h1:j<l.length)(h2:j<m.length),l[j]=m[j])→R=true from fun h=>by
   rw[←hR];exact decide_eq_true (List.ext_getElem hl fun j h1 h2=>h j h1 h2))
  have HF:=Lib.hid (show∀j(h1:j<l.length)(h2:j<m.length),l[j]≠m[j]→R=false from fun j h1 h2 h=>by
   rw[←hR];exact decide_eq_false fun e=>h (by subst e;rfl))
  have Hl:=Lib.hid hl;clear hR hl;go_enter Tryz.func34,Tryz.ntmps34
  go_wp2
  go_loopw [5] (fun iv wr=>StepC w wr∧∃k:Nat,k≤l.length∧iv=.int .i64 k∧∀j(hj:j<k)(h1:j<l.length)(h2:j<m.length),l[j]=m[j]) (fun iv _=>l.length-(RowKit.intOf iv).toNat)
  case atStart=>exact⟨⟨ExtC.h⟩,0,by omega,rfl,fun j hj=>by omega⟩
  case round=>
   obtain⟨_,k,hk,rfl,hz⟩:=hrel;have Hz:=Lib.hid hz;clear hz;by_cases lk:k<l.length
   ·have lm:k<m.length:=by have:=Hl.out;omega
    obtain⟨ad,rfl,ha⟩:=(hu.ext (ExtC.h:Ext w wr)).elem lk;obtain⟨bd,rfl,hb⟩:=(hv.ext (ExtC.h:Ext w wr)).elem lm;have Hn:=Lib.hid (show l[k]=m[k]→∀j(hj:j<k+1)(h1:j<l.length)(h2:j<m.length),l[j]=m[j] from fun h j hj h1 h2=>by
     by_cases hjk:j=k
     ·subst hjk;exact h
     ·exact Hz.out j (by omega) h1 h2)
    have Hs:=Lib.hid (show l[k]≠m[k]→R=false from fun h=>HF.out k lk lm h)
    obtain⟨⟨a1,a2⟩,hx⟩:∃x,l[k]=x:=⟨_,rfl⟩;obtain⟨⟨b1,b2⟩,hy⟩:∃x,m[k]=x:=⟨_,rfl⟩;rw[hx,hy] at Hn Hs;rw[hx] at ha;rw[hy] at hb;have i1:CellsB wr (ad.add (k*2)) [.int .i64 a1,.int .i64 a2]:=⟨ha⟩;have i2:CellsB wr (bd.add (k*2)) [.int .i64 b1,.int .i64 b2]:=⟨hb⟩;have zk:IntKind.i64.wrap ((k:Int)+1)=(k:Int)+1:=IntWalk.i64_in _ (by omega)
    clear ha hb hx hy;by_cases e:a1=b1∧a2=b2
    ·obtain⟨rfl,rfl⟩:=e;have Hn2:=Lib.hid (Hn.out rfl);clear Hn Hs;go_wp2
     refine aP ((.take 0 (.take 1 (.take 2 (.take 3 (.take 4 (.take 5 (.take 6 (.take 7 (.take 8 .nil)))))))))) (fun hHd=> ?_) (hQ:=by intro _ _ _ _ _ h;exact h)
     repeat' first|((with_reducible refine aX ?_);(first|(refine tk (v:= ?_) ?_ hHd ?_;rotate_left;(·(intro W' h;have:=StepC.mk h;first|with_reducible exact aJ)))|(refine tk (v:= ?_) ?_ hHd ?_;rotate_left;(·(intro wq hSw;go_simp;(try with_reducible rfl)))));(try simp only[pS]))|(with_reducible refine aF ?_)
     all_goals
      go_wp2
      go_roundw
      case rel=>exact⟨⟨ExtC.h⟩,k+1,lk,rfl,Hn2.out⟩
      case measure=>simp[RowKit.intOf];omega
    ·obtain rfl:=Hs.out (fun h=>by injection h with h1 h2;exact e ⟨h1,h2⟩)
     clear Hn Hs;have e':a1=b1→¬a2=b2:=fun h1 h2=>e ⟨h1,h2⟩
     by_cases e1:a1=b1
     ·have e2:=e' e1;subst e1;clear e e';go_wp2
      refine aP ((.take 0 (.take 1 (.take 2 (.take 3 (.take 4 (.take 5 (.take 6 (.take 7 (.take 8 .nil)))))))))) (fun hHd=> ?_) (hQ:=by intro _ _ _ _ _ h;exact h)
      repeat' first|((with_reducible refine aX ?_);(first|(refine tk (v:= ?_) ?_ hHd ?_;rotate_left;(·(intro W' h;have:=StepC.mk h;first|with_reducible exact aJ)))|(refine tk (v:= ?_) ?_ hHd ?_;rotate_left;(·(intro wq hSw;go_simp;(try with_reducible rfl)))));(try simp only[pS]))|(with_reducible refine aF ?_)
      all_goals
       go_wp2
       go_ret
       exact⟨rfl,⟨ExtC.h⟩⟩
     ·clear e e';go_wp2
      refine aP ((.take 0 (.take 1 (.take 2 (.take 3 (.take 4 (.take 5 (.take 6 (.take 7 (.take 8 .nil)))))))))) (fun hHd=> ?_) (hQ:=by intro _ _ _ _ _ h;exact h)
      repeat' first|((with_reducible refine aX ?_);(first|(refine tk (v:= ?_) ?_ hHd ?_;rotate_left;(·(intro W' h;have:=StepC.mk h;first|with_reducible exact aJ)))|(refine tk (v:= ?_) ?_ hHd ?_;rotate_left;(·(intro wq hSw;go_simp;(try with_reducible rfl)))));(try simp only[pS]))|(with_reducible refine aF ?_)
      all_goals
       go_wp2
       go_ret
       exact⟨rfl,⟨ExtC.h⟩⟩
   ·obtain rfl:k=l.length:=by omega
    obtain rfl:=HT.out fun j h1 h2=>Hz.out j h1 h1 h2
    go_wp2
    go_ret
    exact⟨rfl,⟨ExtC.h⟩⟩
 ·have hR:decide (l=m)=false:=decide_eq_false fun e=>hl (by rw[e])
  rw[hR];have q:((l.length:Int) !=(m.length:Int))=true:=by simp;omega
  clear hR hl;go_enter Tryz.func34,Tryz.ntmps34
  go_wp2
  all_goals(try(go_ret;refine⟨?_,⟨ExtC.h⟩⟩;first|rfl))
instance{W:World}{u v:Value}{l m:List (Int×Int)}[h1:ListC (Int×Int) W u l][h2:ListC (Int×Int) W v m]:FunC Tryz.prog 34 #[u,v] W (RB W (decide (l=m))):=⟨Bs u v l m W h1.h h2.h⟩
theorem Gm(u v:Value)(l m:List (Int×Int))(w:World)(hu:ListV w u l)(hv:ListV w v m):Calls Tryz.prog 37 #[u,v] w (RB w (decide (l=m))):=by
 obtain⟨A,c,rfl,hc1,hc2⟩:=hu.form;obtain⟨B,d,rfl,hd1,hd2⟩:=hv.form;unfold maxLen at hc2 hd2;by_cases hl:l.length=m.length
 ·have q:((l.length:Int) !=(m.length:Int))=false:=by simp[hl]
  obtain⟨R,hR⟩:∃R,decide (l=m)=R:=⟨_,rfl⟩;rw[hR];have HT:=Lib.hid (show(∀j(h1:j<l.length)(h2:j<m.length),l[j]=m[j])→R=true from fun h=>by
   rw[←hR];exact decide_eq_true (List.ext_getElem hl fun j h1 h2=>h j h1 h2))
  have HF:=Lib.hid (show∀j(h1:j<l.length)(h2:j<m.length),l[j]≠m[j]→R=false from fun j h1 h2 h=>by
   rw[←hR];exact decide_eq_false fun e=>h (by subst e;rfl))
  have Hl:=Lib.hid hl;clear hR hl;go_enter Tryz.func37,Tryz.ntmps37
  go_wp2
  go_loopw [5] (fun iv wr=>StepC w wr∧∃k:Nat,k≤l.length∧iv=.int .i64 k∧∀j(hj:j<k)(h1:j<l.length)(h2:j<m.length),l[j]=m[j]) (fun iv _=>l.length-(RowKit.intOf iv).toNat)
  case atStart=>exact⟨⟨ExtC.h⟩,0,by omega,rfl,fun j hj=>by omega⟩
  case round=>
   obtain⟨_,k,hk,rfl,hz⟩:=hrel;have Hz:=Lib.hid hz;clear hz;by_cases lk:k<l.length
   ·have lm:k<m.length:=by have:=Hl.out;omega
    obtain⟨ad,rfl,ha⟩:=(hu.ext (ExtC.h:Ext w wr)).elem lk;obtain⟨bd,rfl,hb⟩:=(hv.ext (ExtC.h:Ext w wr)).elem lm;have Hn:=Lib.hid (show l[k]=m[k]→∀j(hj:j<k+1)(h1:j<l.length)(h2:j<m.length),l[j]=m[j] from fun h j hj h1 h2=>by
     by_cases hjk:j=k
     ·subst hjk;exact h
     ·exact Hz.out j (by omega) h1 h2)
    have Hs:=Lib.hid (show l[k]≠m[k]→R=false from fun h=>HF.out k lk lm h)
    obtain⟨⟨a1,a2⟩,hx⟩:∃x,l[k]=x:=⟨_,rfl⟩;obtain⟨⟨b1,b2⟩,hy⟩:∃x,m[k]=x:=⟨_,rfl⟩;rw[hx,hy] at Hn Hs;rw[hx] at ha;rw[hy] at hb;have i1:CellsB wr (ad.add (k*2)) [.int .i64 a1,.int .i64 a2]:=⟨ha⟩;have i2:CellsB wr (bd.add (k*2)) [.int .i64 b1,.int .i64 b2]:=⟨hb⟩;have zk:IntKind.i64.wrap ((k:Int)+1)=(k:Int)+1:=IntWalk.i64_in _ (by omega)
    clear ha hb hx hy;by_cases e:a1=b1∧a2=b2
    ·obtain⟨rfl,rfl⟩:=e;have Hn2:=Lib.hid (Hn.out rfl);clear Hn Hs;go_wp2
     refine aP ((.take 0 (.take 1 (.take 2 (.take 3 (.take 4 (.take 5 (.take 6 (.take 7 (.take 8 .nil)))))))))) (fun hHd=> ?_) (hQ:=by intro _ _ _ _ _ h;exact h)
     repeat' first|((with_reducible refine aX ?_);(first|(refine tk (v:= ?_) ?_ hHd ?_;rotate_left;(·(intro W' h;have:=StepC.mk h;first|with_reducible exact aJ)))|(refine tk (v:= ?_) ?_ hHd ?_;rotate_left;(·(intro wq hSw;go_simp;(try with_reducible rfl)))));(try simp only[pS]))|(with_reducible refine aF ?_)
     all_goals
      go_wp2
      go_roundw
      case rel=>exact⟨⟨ExtC.h⟩,k+1,lk,rfl,Hn2.out⟩
      case measure=>simp[RowKit.intOf];omega
    ·obtain rfl:=Hs.out (fun h=>by injection h with h1 h2;exact e ⟨h1,h2⟩)
     clear Hn Hs;have e':a1=b1→¬a2=b2:=fun h1 h2=>e ⟨h1,h2⟩
     by_cases e1:a1=b1
     ·have e2:=e' e1;subst e1;clear e e';go_wp2
      refine aP ((.take 0 (.take 1 (.take 2 (.take 3 (.take 4 (.take 5 (.take 6 (.take 7 (.take 8 .nil)))))))))) (fun hHd=> ?_) (hQ:=by intro _ _ _ _ _ h;exact h)
      repeat' first|((with_reducible refine aX ?_);(first|(refine tk (v:= ?_) ?_ hHd ?_;rotate_left;(·(intro W' h;have:=StepC.mk h;first|with_reducible exact aJ)))|(refine tk (v:= ?_) ?_ hHd ?_;rotate_left;(·(intro wq hSw;go_simp;(try with_reducible rfl)))));(try simp only[pS]))|(with_reducible refine aF ?_)
      all_goals
       go_wp2
       go_ret
       exact⟨rfl,⟨ExtC.h⟩⟩
     ·clear e e';go_wp2
      refine aP ((.take 0 (.take 1 (.take 2 (.take 3 (.take 4 (.take 5 (.take 6 (.take 7 (.take 8 .nil)))))))))) (fun hHd=> ?_) (hQ:=by intro _ _ _ _ _ h;exact h)
      repeat' first|((with_reducible refine aX ?_);(first|(refine tk (v:= ?_) ?_ hHd ?_;rotate_left;(·(intro W' h;have:=StepC.mk h;first|with_reducible exact aJ)))|(refine tk (v:= ?_) ?_ hHd ?_;rotate_left;(·(intro wq hSw;go_simp;(try with_reducible rfl)))));(try simp only[pS]))|(with_reducible refine aF ?_)
      all_goals
       go_wp2
       go_ret
       exact⟨rfl,⟨ExtC.h⟩⟩
   ·obtain rfl:k=l.length:=by omega
    obtain rfl:=HT.out fun j h1 h2=>Hz.out j h1 h1 h2
    go_wp2
    go_ret
    exact⟨rfl,⟨ExtC.h⟩⟩
 ·have hR:decide (l=m)=false:=decide_eq_false fun e=>hl (by rw[e])
  rw[hR];have q:((l.length:Int) !=(m.length:Int))=true:=by simp;omega
  clear hR hl;go_enter Tryz.func37,Tryz.ntmps37
  go_wp2
  all_goals(try(go_ret;refine⟨?_,⟨ExtC.h⟩⟩;first|rfl))
instance{W:World}{u v:Value}{l m:List (Int×Int)}[h1:ListC (Int×Int) W u l][h2:ListC (Int×Int) W v m]:FunC Tryz.prog 37 #[u,v] W (RB W (decide (l=m))):=⟨Gm u v l m W h1.h h2.h⟩
end Go.Rg
end
section
namespace Go.Rg
open Go.Bp
theorem putE_at:∀{o:List Event}{x:Event}{p:Nat},p≤o.length→(∀j(hj:j<o.length),j<p→ltE o[j] x)→(∀h:p<o.length,¬ltE o[p] x)→
 ((∃h:p<o.length,o[p]=x)→putE x o=o)∧((∀h:p<o.length,o[p]≠x)→putE x o=o.take p++x::o.drop p)
 | [],x,p,hp,_,_=>by
  have:p=0:=by simpa using hp
  subst this;exact⟨fun⟨h,_⟩=>by simp at h,fun _=>by simp[putE]⟩
 |a::o,x,0,hp,h1,h2=>by
  have n:=h2 (by simp)
  simp only[List.getElem_cons_zero] at n;unfold putE;rw[if_neg n];refine⟨fun⟨_,e⟩=> ?_,fun e=> ?_⟩
  ·rw[if_pos (by simpa using e)]
  ·have e:=e (by simp)
   rw[if_neg (by simpa using e)];simp
 |a::o,x,p+1,hp,h1,h2=>by
  have n:=h1 0 (by simp) (by omega)
  simp only[List.getElem_cons_zero] at n;have ih:=putE_at (o:=o) (x:=x) (p:=p) (by simpa using hp) (fun j hj hjp=>by have:=h1 (j+1) (by simpa using hj) (by omega);simpa using this) (fun h=>by have:=h2 (by simpa using h);simpa using this)
  unfold putE;rw[if_pos n];refine⟨fun⟨h,e⟩=> ?_,fun e=> ?_⟩
  ·rw[ih.1 ⟨by simpa using h,by simpa using e⟩]
  ·rw[ih.2 fun h=>by have:=e (by simpa using h);simpa using this];simp
theorem putE_len(x:Event):∀o:List Event,(putE x o).length≤o.length+1
 | []=>by simp[putE]
 |a::o=>by
  unfold putE;split
  ·have:=putE_len x o;simp;omega
  ·split<;>simp
theorem pM(l:List Event){k:Nat}(h:k<l.length):sortE (l.take (k+1))=putE l[k] (sortE (l.take k)):=by
 unfold sortE;rw[List.take_succ_eq_append_getElem h,List.foldl_append];rfl
theorem sortE_len(l:List Event):(sortE l).length≤l.length:=by
 have:∀k,k≤l.length→(sortE (l.take k)).length≤k:=by
  intro k;induction k with
  |zero=>intro _;simp[sortE]
  |succ k ih=>
   intro hk;rw[pM l (by omega)]
   have:=putE_len l[k] (sortE (l.take k));have:=ih (by omega)
   omega
 simpa using this l.length (Nat.le_refl _)
structure EvsOk(r:Rules)(l:List Event):Prop where
 n:l.length≤30
 d:∀x∈l,0≤x.day∧x.day≤40000∧0≤x.points∧x.points≤20
 b:1≤r.ban∧r.ban≤40000
namespace Rules
variable(r:Rules)
def sumK(l:List Event)(out:List Int)(day:Int)(k:Nat):Int:=sumL (((List.range k).filter (r.counts l out day)).map fun k=>(l.getD k (bare 0 0)).points)
def lastK(l:List Event)(i k:Nat):Bool:=isOff (l.getD i (bare 0 0))&&(List.range k).all fun k=> !(decide (i<k)&&isOff (l.getD k (bare 0 0))&&decide ((l.getD k (bare 0 0)).day=(l.getD i (bare 0 0)).day))
def outK(l:List Event)(out:List Int)(day:Int):Nat→List Int
 |0=>out
 |k+1=>if r.counts l out day k=true then(outK l out day k).set k day else outK l out day k
variable{r}
theorem Pn(l:List Event)(out:List Int)(day:Int):r.sumK l out day 0=0:=rfl
theorem sumK_succ(l:List Event)(out:List Int)(day:Int)(k:Nat):r.sumK l out day (k+1)=if r.counts l out day k=true then r.sumK l out day k+(l.getD k (bare 0 0)).points else r.sumK l out day k:=by
 unfold sumK;rw[List.range_succ,List.filter_append,List.map_append];by_cases h:r.counts l out day k=true
 ·rw[if_pos h];simp only[List.filter_cons,h,if_true,List.filter_nil,List.map_cons,List.map_nil];unfold sumL;rw[List.foldl_append];rfl
 ·rw[if_neg h];simp only[Bool.not_eq_true] at h;simp[List.filter_cons,h]
theorem sumK_bd{l:List Event}{out:List Int}{day:Int}(h:∀x∈l,0≤x.points∧x.points≤20):∀k,k≤l.length→0≤r.sumK l out day k∧r.sumK l out day k≤20*k
 |0,_=>by rw[Pn];simp
 |k+1,hk=>by
  have ih:=sumK_bd (out:=out) (day:=day) h k (by omega)
  have hx:=h l[k] (List.getElem_mem (by omega))
  have e:l.getD k (bare 0 0)=l[k]:=by simp[List.getD,show k<l.length by omega]
  rw[sumK_succ,e];split<;>push_cast<;>omega
theorem lastK_0(l:List Event)(i:Nat):lastK l i 0=isOff (l.getD i (bare 0 0)):=by unfold lastK;simp
theorem lastK_succ(l:List Event)(i k:Nat):lastK l i (k+1)=(lastK l i k&& !(decide (i<k)&&isOff (l.getD k (bare 0 0))&&decide ((l.getD k (bare 0 0)).day=(l.getD i (bare 0 0)).day))):=by
 unfold lastK;rw[List.range_succ,List.all_append,Bool.and_assoc];simp
theorem outK_len{l:List Event}{out:List Int}{day:Int}:∀k,(r.outK l out day k).length=out.length
 |0=>rfl
 |k+1=>by unfold outK;split<;>simp[outK_len k]
theorem qG{l:List Event}{out:List Int}{day:Int}:∀(k j:Nat),j<out.length→(r.outK l out day k).getD j 0=if j<k∧r.counts l out day j=true then day else out.getD j 0
 |0,j,hj=>by simp[outK]
 |k+1,j,hj=>by
  have ih:=qG (l:=l) (out:=out) (day:=day) k j hj;have hl:=outK_len (r:=r) (l:=l) (out:=out) (day:=day) k;unfold outK;by_cases hc:r.counts l out day k=true
  ·rw[if_pos hc];by_cases hjk:j=k
   ·subst hjk;rw[if_pos ⟨by omega,hc⟩]
    simp[List.getD,hl,hj]
   ·have:((r.outK l out day k).set k day).getD j 0=(r.outK l out day k).getD j 0:=by simp[List.getD,List.getElem?_set,show¬k=j from fun h=>hjk h.symm]
    rw[this,ih];by_cases h1:j<k∧r.counts l out day j=true
    ·rw[if_pos h1,if_pos ⟨by omega,h1.2⟩]
    ·rw[if_neg h1,if_neg (by rintro⟨h2,h3⟩;exact h1 ⟨by omega,h3⟩)]
  ·rw[if_neg hc,ih];by_cases h1:j<k∧r.counts l out day j=true
   ·rw[if_pos h1,if_pos ⟨by omega,h1.2⟩]
   ·rw[if_neg h1,if_neg (by
     rintro⟨h2,h3⟩;by_cases hjk:j=k
     ·subst hjk;exact hc h3
     ·exact h1 ⟨by omega,h3⟩)]
theorem outK_at{l:List Event}{out:List Int}{day:Int}{k:Nat}(hk:k<out.length):(r.outK l out day k).getD k 0=out.getD k 0:=by
 rw[qG k k hk,if_neg (by omega)]
theorem Jf{l:List Event}{out:List Int}{day:Int}(h:out.length=l.length):r.outK l out day l.length=(List.range l.length).map fun k=>if r.counts l out day k=true then day else out.getD k 0:=by
 apply List.ext_getElem
 ·rw[outK_len,h];simp
 ·intro j h1 h2;have hj:j<l.length:=by simpa using h2
  have:=qG (r:=r) (l:=l) (out:=out) (day:=day) l.length j (by omega)
  have e:(r.outK l out day l.length).getD j 0=(r.outK l out day l.length)[j]:=by simp[List.getD,h1]
  rw[←e,this];simp[hj]
def takenK(r:Rules)(l:List Event)(i:Nat):List Int×List Span:=(List.range i).foldl (r.stepT l) (l.map fun _=> -1,[])
theorem takenK_succ(l:List Event)(i:Nat):takenK r l (i+1)=r.stepT l (takenK r l i) i:=by
 unfold takenK;rw[List.range_succ,List.foldl_append];rfl
theorem takenK_all(l:List Event):takenK r l l.length=r.takenR l:=rfl
theorem stepT_skip{l:List Event}{s:List Int×List Span}{i:Nat}(h:lastK l i l.length=false∨r.sumK l s.1 (l.getD i (bare 0 0)).day l.length<r.limit):r.stepT l s i=s:=by
 unfold stepT;exact if_pos h
theorem stepT_take{l:List Event}{s:List Int×List Span}{i:Nat}(h1:lastK l i l.length=true)(h2:¬r.sumK l s.1 (l.getD i (bare 0 0)).day l.length<r.limit)(hl:s.1.length=l.length):
 r.stepT l s i=(r.outK l s.1 (l.getD i (bare 0 0)).day l.length,s.2++r.banOf (l.getD i (bare 0 0)).day):=by
 rw[Jf hl];unfold stepT;refine if_neg ?_;rintro(h|h)
 ·have:lastK l i l.length=false:=h;rw[h1] at this;cases this
 ·exact h2 h
theorem takenK_len(l:List Event):∀i,(takenK r l i).1.length=l.length∧(takenK r l i).2.length≤i
 |0=>by simp[takenK]
 |i+1=>by
  obtain⟨h1,h2⟩:=takenK_len l i;rw[takenK_succ];by_cases h:lastK l i l.length=false∨r.sumK l (takenK r l i).1 (l.getD i (bare 0 0)).day l.length<r.limit
  ·rw[stepT_skip h];exact⟨h1,by omega⟩
  ·have h3:lastK l i l.length=true:=by
    cases e:lastK l i l.length
    ·exact absurd (.inl e) h
    ·rfl
   rw[stepT_take h3 (fun q=>h (.inr q)) h1]
   refine⟨by rw[outK_len,h1],?_⟩
   simp only[List.length_append];have:(r.banOf (l.getD i (bare 0 0)).day).length≤1:=by unfold banOf;split<;>simp
   omega
end Rules
end Go.Rg
end
section
namespace Go.Rg
open Go Go.Bp Go.RowKit Go.Walk Go.Proofs
theorem before_any'(a b:Event)(R:Bool)(w:World)(hR:decide (ltE a b)=R):Calls Tryz.prog 124 #[Enc.val a,Enc.val b] w (RB w R):=by
 obtain⟨X,hX⟩:∃X,fields a=X:=⟨_,rfl⟩;obtain⟨Y,hY⟩:∃Y,fields b=Y:=⟨_,rfl⟩;have hXl:X.length=9:=by rw[←hX];rfl
 have hYl:Y.length=9:=by rw[←hY];rfl
 have hXY:decide (cmpL X Y<0)=R:=by rw[←hR];show _=decide (cmpL (fields a) (fields b)<0);rw[hX,hY]
 have i1:=FldE.mk hX;have i2:=FldE.mk hY;have HD:=Lib.hid (show∀k(hk:k<X.length)(hk2:k<Y.length),(∀j(_:j<k)(ha:j<X.length)(hb:j<Y.length),X[j]=Y[j])→X[k]≠Y[k]→decide (X[k]<Y[k])=R from fun k hk hk2 h1 h2=>by rw[←hXY,cmpL_lt (by omega) k hk hk2 (fun j hj=>h1 j hj _ _) h2])
 have HS:=Lib.hid (show X=Y→R=false from fun h=>by rw[←hXY,cmpL_same h])
 clear hX hY hXY hR;obtain⟨k1,d1,⟨c1,o1⟩,t1,q1,p1,u1,m1⟩:=a;obtain⟨k2,d2,⟨c2,o2⟩,t2,q2,p2,u2,m2⟩:=b;have HXl:=Lib.hid hXl;have HYl:=Lib.hid hYl;have l0:0<X.length:=by omega
 have l1:0<Y.length:=by omega
 clear hXl hYl;go_enter Tryz.func124,Tryz.ntmps124
 go_wp2_with (first|(with_reducible refine aH ?_;intro V g _ _ _))
 refine aP ((.take 0 (.take 2 (.one 1 (.one 3 (.take 4 (.take 5 .nil))))))) (fun hHd=> ?_) (hQ:=by intro _ _ _ _ _ h;exact h)
 repeat' first|((with_reducible refine aX ?_);(first|(refine tk (v:= ?_) ?_ hHd ?_;rotate_left;(·(intro W' h;have:=StepC.mk h;first|with_reducible exact aJ)))|(refine tk (v:= ?_) ?_ hHd ?_;rotate_left;(·(intro wq hSw;go_simp;(try with_reducible rfl)))));(try simp only[pS]))|((with_reducible refine bC ?_);refine aQ (by simp only[gS];rfl) ?_)|((with_reducible refine aN (d:=some 9) ?_);rintro _ Va ⟨Aa,ka,rfl,hLa,(_:StepC _ _)⟩;refine⟨_,rfl,?_⟩)|((with_reducible refine aN (d:=some 11) ?_);rintro _ Vb ⟨Ab,kb,rfl,hLb,(_:StepC _ _)⟩;refine⟨_,rfl,?_⟩)|((with_reducible refine bD ?_);clear hHd;refine aM ExtC.h (fun hHd=> ?_);(try simp only[pS]))|(with_reducible refine aF ?_)
 all_goals
  obtain⟨ad1,rfl,-⟩:=hLa.h.elem l0;obtain⟨ad2,rfl,-⟩:=hLb.h.elem l1;have hca:=hLa.h.caps;have hcb:=hLb.h.caps;go_wp2
  go_loopw [7] (fun iv wr=>StepC w wr∧ListV wr (.slice (some ad1) X.length ka) X∧ListV wr (.slice (some ad2) Y.length kb) Y∧∃k:Nat,k≤X.length∧iv=.int .i64 k∧∀j(_:j<k)(ha:j<X.length)(hb:j<Y.length),X[j]=Y[j]) (fun iv _=>X.length-(RowKit.intOf iv).toNat)
  case atStart=>exact⟨⟨ExtC.h⟩,hLa.h.ext ExtC.h,hLb.h.ext ExtC.h,0,by omega,rfl,fun j hj=>by omega⟩
  case round=>
   obtain⟨_,hA,hB,k,hk,rfl,hz⟩:=hrel;have Hz:=Lib.hid hz;clear hz;by_cases lk:k<X.length
   ·have lk2:k<Y.length:=by have:=HXl.out;have:=HYl.out;omega
    obtain⟨_,e1,ha⟩:=hA.elem lk;obtain⟨_,e2,hb⟩:=hB.elem lk2;injection e1 with e1
    subst e1;injection e2 with e2
    subst e2;have hD:=HD.out k lk lk2 (fun j hj h1 h2=>Hz.out j hj h1 h2)
    have hN:=Lib.hid (show X[k]=Y[k]→∀j(_:j<k+1)(ha:j<X.length)(hb:j<Y.length),X[j]=Y[j] from fun h j hj h1 h2=>by
     by_cases hjk:j=k
     ·subst hjk;exact h
     ·exact Hz.out j (by omega) h1 h2)
    obtain⟨x,hx⟩:∃x,X[k]=x:=⟨_,rfl⟩;obtain⟨y,hy⟩:∃y,Y[k]=y:=⟨_,rfl⟩;rw[hx] at ha;rw[hy] at hb;rw[hx,hy] at hD hN;have j1:CellsB wr (ad1.add k) [.int .i64 x]:=⟨by simpa [Enc.size,Enc.enc] using ha⟩
    have j2:CellsB wr (ad2.add k) [.int .i64 y]:=⟨by simpa [Enc.size,Enc.enc] using hb⟩
    have zk:IntKind.i64.wrap ((k:Int)+1)=(k:Int)+1:=IntWalk.i64_in _ (by have:=HXl.out;omega)
    by_cases hxy:x=y
    ·have Hn:=Lib.hid (hN.out hxy);have q:(x !=y)=false:=by simpa using hxy
     clear hN hD ha hb hx hy hxy;go_wp2
     refine aP ((.take 0 (.take 1 (.take 2 (.take 3 (.take 4 (.take 5 (.take 6 (.take 7 (.take 8 .nil)))))))))) (fun hHd=> ?_) (hQ:=by intro _ _ _ _ _ h;exact h)
     repeat' first|((with_reducible refine aX ?_);(first|(refine tk (v:= ?_) ?_ hHd ?_;rotate_left;(·(intro W' h;have:=StepC.mk h;first|with_reducible exact aJ)))|(refine tk (v:= ?_) ?_ hHd ?_;rotate_left;(·(intro wq hSw;go_simp;(try with_reducible rfl)))));(try simp only[pS]))|(with_reducible refine aF ?_)
     all_goals
      (try simp only[q])
      go_wp2
      go_roundw
      case rel=>exact⟨⟨ExtC.h⟩,hA.ext ExtC.h,hB.ext ExtC.h,k+1,lk,by push_cast;rfl,Hn.out⟩
      case measure=>simp[RowKit.intOf];omega
    ·have HDr:=Lib.hid (hD hxy);have q:(x !=y)=true:=by simpa using hxy
     clear hN hD ha hb hx hy hxy;go_wp2
     refine aP ((.take 0 (.take 1 (.take 2 (.take 3 (.take 4 (.take 5 (.take 6 (.take 7 (.take 8 .nil)))))))))) (fun hHd=> ?_) (hQ:=by intro _ _ _ _ _ h;exact h)
     repeat' first|((with_reducible refine aX ?_);(first|(refine tk (v:= ?_) ?_ hHd ?_;rotate_left;(·(intro W' h;have:=StepC.mk h;first|with_reducible exact aJ)))|(refine tk (v:= ?_) ?_ hHd ?_;rotate_left;(·(intro wq hSw;go_simp;(try with_reducible rfl)))));(try simp only[pS]))|(with_reducible refine aF ?_)
     all_goals
      (try simp only[q])
      go_wp2
      refine aP ((.take 0 (.take 1 (.take 2 (.take 3 (.take 4 (.take 5 (.take 6 (.take 7 (.take 8 (.take 9 .nil))))))))))) (fun hHd=> ?_) (hQ:=by intro _ _ _ _ _ h;exact h)
      repeat' first|((with_reducible refine aX ?_);(first|(refine tk (v:= ?_) ?_ hHd ?_;rotate_left;(·(intro W' h;have:=StepC.mk h;first|with_reducible exact aJ)))|(refine tk (v:= ?_) ?_ hHd ?_;rotate_left;(·(intro wq hSw;go_simp;(try with_reducible rfl)))));(try simp only[pS]))|(with_reducible refine aF ?_)
      all_goals
       go_wp2
       go_ret
       have e:=HDr.out;subst e;exact⟨rfl,⟨ExtC.h⟩⟩
   ·obtain rfl:k=X.length:=by omega
    have hE:X=Y:=List.ext_getElem (by rw[HXl.out,HYl.out]) fun j h1 h2=>Hz.out j h1 h1 h2
    obtain rfl:=HS.out hE;have q:¬((X.length:Int)<X.length):=by omega
    go_wp2
    go_ret
    exact⟨rfl,⟨ExtC.h⟩⟩
class BefE (a b:Event) (R:outParam Bool):Prop where h:decide (ltE a b)=R
instance{W:World}{k d c o t q p u m k' d' c' o' t' q' p' u' m':Int}{R:Bool}[h:BefE ⟨k,d,⟨c,o⟩,t,q,p,u,m⟩ ⟨k',d',⟨c',o'⟩,t',q',p',u',m'⟩ R]:FunC Tryz.prog 124 #[.agg #[.int .i64 k,.int .i64 d,.int .i64 c,.int .i64 o,.int .i64 t,.int .i64 q,.int .i64 p,.int .i64 u,.int .i64 m],.agg #[.int .i64 k',.int .i64 d',.int .i64 c',.int .i64 o',.int .i64 t',.int .i64 q',.int .i64 p',.int .i64 u',.int .i64 m']] W (RB W R):=⟨before_any' ⟨k,d,⟨c,o⟩,t,q,p,u,m⟩ ⟨k',d',⟨c',o'⟩,t',q',p',u',m'⟩ R W h.h⟩
end Go.Rg
end
