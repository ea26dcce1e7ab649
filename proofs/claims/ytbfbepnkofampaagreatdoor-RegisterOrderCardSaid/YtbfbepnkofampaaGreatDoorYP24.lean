/- Chapter 11: contracts of functions of the program and of the reference, and plain laws (out of RSf Held4 Held5). No condition of its own. -/
import Derived.Test.YtbfbepnkofampaaGreatDoorYP14
set_option maxRecDepth 100000
set_option linter.all false
section
namespace Go.Rg
open Go Go.Bp Go.RowKit Go.Walk Go.Proofs
set_option synthInstance.maxSize 2000
set_option synthInstance.maxHeartbeats 400000
set_option maxHeartbeats 4000000
set_option maxHeartbeats 8000000 in
theorem Spans_any(u v:Value)(l m:List Span)(w:World)(hu:ListV w u l)(hv:ListV w v m):Calls Tryz.prog 24 #[u,v] w (RB w (decide (l=m))):=by
 obtain⟨A,c,rfl,hc1,hc2⟩:=hu.form;obtain⟨B,d,rfl,hd1,hd2⟩:=hv.form;unfold maxLen at hc2 hd2;by_cases hl:l.length=m.length
 ·have q:((l.length:Int) !=(m.length:Int))=false:=by simp[hl]
  obtain⟨R,hR⟩:∃R,decide (l=m)=R:=⟨_,rfl⟩;rw[hR];have HT:=Lib.hid (show(∀j(h1:j<l.length)(h2:j<m.length),l[j]=m[j])→R=true from fun h=>by
   rw[←hR];exact decide_eq_true (List.ext_getElem hl fun j h1 h2=>h j h1 h2))
  have HF:=Lib.hid (show∀j(h1:j<l.length)(h2:j<m.length),l[j]≠m[j]→R=false from fun j h1 h2 h=>by
   rw[←hR];exact decide_eq_false fun e=>h (by subst e;rfl))
  have Hl:=Lib.hid hl;clear hR hl;go_enter Tryz.func24,Tryz.ntmps24
  go_wp2
  go_loopw [5] (fun iv wr=>StepC w wr∧∃k:Nat,k≤l.length∧iv=.int .i64 k∧∀j(hj:j<k)(h1:j<l.length)(h2:j<m.length),l[j]=m[j]) (fun iv _=>l.length-(RowKit.intOf iv).toNat)
  case atStart=>exact⟨⟨ExtC.h⟩,0,by omega,rfl,fun j hj=>by omega⟩
  case round=>
   obtain⟨_,k,hk,rfl,hz⟩:=hrel;have Hz:=Lib.hid hz;clear hz;by_cases lk:k<l.length
   ·have lm:k<m.length:=by have:=Hl.out;omega
    obtain⟨ad,rfl,ha⟩:=(hu.ext (ExtC.h:Ext w wr)).elem lk;obtain⟨bd,rfl,hb⟩:=(hv.ext (ExtC.h:Ext w wr)).elem lm;have Hn:=Lib.hid (show l[k]=m[k]→∀j(hj:j<k+1)(h1:j<l.length)(h2:j<m.length),l[j]=m[j] from fun h j hj h1 h2=>by
     by_cases hjk:j=k
     ·subst hjk;exact h
     ·exact Hz.out j (by omega) h1 h2)
    have Hs:=Lib.hid (show l[k]≠m[k]→R=false from fun h=>HF.out k lk lm h)
    obtain⟨⟨a1,a2⟩,hx⟩:∃x,l[k]=x:=⟨_,rfl⟩;obtain⟨⟨b1,b2⟩,hy⟩:∃x,m[k]=x:=⟨_,rfl⟩;rw[hx,hy] at Hn Hs;rw[hx] at ha;rw[hy] at hb;have i1:CellsB wr (ad.add (k*2)) [.int .i64 a1,.int .i64 a2]:=⟨ha⟩;have i2:CellsB wr (bd.add (k*2)) [.int .i64 b1,.int .i64 b2]:=⟨hb⟩;have zk:IntKind.i64.wrap ((k:Int)+1)=(k:Int)+1:=IntWalk.i64_in _ (by omega)
    clear ha hb hx hy;by_cases e:a1=b1∧a2=b2
    ·obtain⟨rfl,rfl⟩:=e;have Hn2:=Lib.hid (Hn.out rfl);clear Hn Hs;go_wp2
     refine wp_rd ((.take 0 (.take 1 (.take 2 (.take 3 (.take 4 (.take 5 (.take 6 (.take 7 (.take 8 .nil)))))))))) (fun hHd=> ?_) (hQ:=by intro _ _ _ _ _ h;exact h)
     repeat' first|((with_reducible refine t_tk ?_);(first|(refine tk (v:= ?_) ?_ hHd ?_;rotate_left;(·(intro W' h;have:=StepC.mk h;first|with_reducible exact run_lc)))|(refine tk (v:= ?_) ?_ hHd ?_;rotate_left;(·(intro wq hSw;go_simp;(try with_reducible rfl)))));(try simp only[pS]))|(with_reducible refine t_done ?_)
     all_goals
      go_wp2
      go_roundw
      case rel=>exact⟨⟨ExtC.h⟩,k+1,lk,rfl,Hn2.out⟩
      case measure=>simp[RowKit.intOf];omega
    ·obtain rfl:=Hs.out (fun h=>by injection h with h1 h2;exact e ⟨h1,h2⟩)
     clear Hn Hs;have e':a1=b1→¬a2=b2:=fun h1 h2=>e ⟨h1,h2⟩
     by_cases e1:a1=b1
     ·have e2:=e' e1;subst e1;clear e e';go_wp2
      refine wp_rd ((.take 0 (.take 1 (.take 2 (.take 3 (.take 4 (.take 5 (.take 6 (.take 7 (.take 8 .nil)))))))))) (fun hHd=> ?_) (hQ:=by intro _ _ _ _ _ h;exact h)
      repeat' first|((with_reducible refine t_tk ?_);(first|(refine tk (v:= ?_) ?_ hHd ?_;rotate_left;(·(intro W' h;have:=StepC.mk h;first|with_reducible exact run_lc)))|(refine tk (v:= ?_) ?_ hHd ?_;rotate_left;(·(intro wq hSw;go_simp;(try with_reducible rfl)))));(try simp only[pS]))|(with_reducible refine t_done ?_)
      all_goals
       go_wp2
       go_ret
       exact⟨rfl,⟨ExtC.h⟩⟩
     ·clear e e';go_wp2
      refine wp_rd ((.take 0 (.take 1 (.take 2 (.take 3 (.take 4 (.take 5 (.take 6 (.take 7 (.take 8 .nil)))))))))) (fun hHd=> ?_) (hQ:=by intro _ _ _ _ _ h;exact h)
      repeat' first|((with_reducible refine t_tk ?_);(first|(refine tk (v:= ?_) ?_ hHd ?_;rotate_left;(·(intro W' h;have:=StepC.mk h;first|with_reducible exact run_lc)))|(refine tk (v:= ?_) ?_ hHd ?_;rotate_left;(·(intro wq hSw;go_simp;(try with_reducible rfl)))));(try simp only[pS]))|(with_reducible refine t_done ?_)
      all_goals
       go_wp2
       go_ret
       exact⟨rfl,⟨ExtC.h⟩⟩
   ·obtain rfl:k=l.length:=by omega
    obtain rfl:=HT.out fun j h1 h2=>Hz.out j h1 h1 h2
    go_wp2
    go_ret
    exact⟨rfl,⟨ExtC.h⟩⟩
 ·have hR:decide (l=m)=false:=decide_eq_false fun e=>hl (by rw[e])
  rw[hR];have q:((l.length:Int) !=(m.length:Int))=true:=by simp;omega
  clear hR hl;go_enter Tryz.func24,Tryz.ntmps24
  go_wp2
  all_goals(try(go_ret;refine⟨?_,⟨ExtC.h⟩⟩;first|rfl))
instance{W:World}{u v:Value}{l m:List Span}[h1:ListC Span W u l][h2:ListC Span W v m]:FunC Tryz.prog 24 #[u,v] W (RB W (decide (l=m))):=⟨Spans_any u v l m W h1.h h2.h⟩
set_option maxHeartbeats 8000000 in
theorem Wrongs_any(u v:Value)(l m:List (Int×Int))(w:World)(hu:ListV w u l)(hv:ListV w v m):Calls Tryz.prog 34 #[u,v] w (RB w (decide (l=m))):=by
 obtain⟨A,c,rfl,hc1,hc2⟩:=hu.form;obtain⟨B,d,rfl,hd1,hd2⟩:=hv.form;unfold maxLen at hc2 hd2;by_cases hl:l.length=m.length
 ·have q:((l.length:Int) !=(m.length:Int))=false:=by simp[hl]
  obtain⟨R,hR⟩:∃R,decide (l=m)=R:=⟨_,rfl⟩;rw[hR];have HT:=Lib.hid (show(∀j(h1:j<l.length)(h2:j<m.length),l[j]=m[j])→R=true from fun h=>by
   rw[←hR];exact decide_eq_true (List.ext_getElem hl fun j h1 h2=>h j h1 h2))
  have HF:=Lib.hid (show∀j(h1:j<l.length)(h2:j<m.length),l[j]≠m[j]→R=false from fun j h1 h2 h=>by
   rw[←hR];exact decide_eq_false fun e=>h (by subst e;rfl))
  have Hl:=Lib.hid hl;clear hR hl;go_enter Tryz.func34,Tryz.ntmps34
  go_wp2
  go_loopw [5] (fun iv wr=>StepC w wr∧∃k:Nat,k≤l.length∧iv=.int .i64 k∧∀j(hj:j<k)(h1:j<l.length)(h2:j<m.length),l[j]=m[j]) (fun iv _=>l.length-(RowKit.intOf iv).toNat)
  case atStart=>exact⟨⟨ExtC.h⟩,0,by omega,rfl,fun j hj=>by omega⟩
  case round=>
   obtain⟨_,k,hk,rfl,hz⟩:=hrel;have Hz:=Lib.hid hz;clear hz;by_cases lk:k<l.length
   ·have lm:k<m.length:=by have:=Hl.out;omega
    obtain⟨ad,rfl,ha⟩:=(hu.ext (ExtC.h:Ext w wr)).elem lk;obtain⟨bd,rfl,hb⟩:=(hv.ext (ExtC.h:Ext w wr)).elem lm;have Hn:=Lib.hid (show l[k]=m[k]→∀j(hj:j<k+1)(h1:j<l.length)(h2:j<m.length),l[j]=m[j] from fun h j hj h1 h2=>by
     by_cases hjk:j=k
     ·subst hjk;exact h
     ·exact Hz.out j (by omega) h1 h2)
    have Hs:=Lib.hid (show l[k]≠m[k]→R=false from fun h=>HF.out k lk lm h)
    obtain⟨⟨a1,a2⟩,hx⟩:∃x,l[k]=x:=⟨_,rfl⟩;obtain⟨⟨b1,b2⟩,hy⟩:∃x,m[k]=x:=⟨_,rfl⟩;rw[hx,hy] at Hn Hs;rw[hx] at ha;rw[hy] at hb;have i1:CellsB wr (ad.add (k*2)) [.int .i64 a1,.int .i64 a2]:=⟨ha⟩;have i2:CellsB wr (bd.add (k*2)) [.int .i64 b1,.int .i64 b2]:=⟨hb⟩;have zk:IntKind.i64.wrap ((k:Int)+1)=(k:Int)+1:=IntWalk.i64_in _ (by omega)
    clear ha hb hx hy;by_cases e:a1=b1∧a2=b2
    ·obtain⟨rfl,rfl⟩:=e;have Hn2:=Lib.hid (Hn.out rfl);clear Hn Hs;go_wp2
     refine wp_rd ((.take 0 (.take 1 (.take 2 (.take 3 (.take 4 (.take 5 (.take 6 (.take 7 (.take 8 .nil)))))))))) (fun hHd=> ?_) (hQ:=by intro _ _ _ _ _ h;exact h)
     repeat' first|((with_reducible refine t_tk ?_);(first|(refine tk (v:= ?_) ?_ hHd ?_;rotate_left;(·(intro W' h;have:=StepC.mk h;first|with_reducible exact run_lc)))|(refine tk (v:= ?_) ?_ hHd ?_;rotate_left;(·(intro wq hSw;go_simp;(try with_reducible rfl)))));(try simp only[pS]))|(with_reducible refine t_done ?_)
     all_goals
      go_wp2
      go_roundw
      case rel=>exact⟨⟨ExtC.h⟩,k+1,lk,rfl,Hn2.out⟩
      case measure=>simp[RowKit.intOf];omega
    ·obtain rfl:=Hs.out (fun h=>by injection h with h1 h2;exact e ⟨h1,h2⟩)
     clear Hn Hs;have e':a1=b1→¬a2=b2:=fun h1 h2=>e ⟨h1,h2⟩
     by_cases e1:a1=b1
     ·have e2:=e' e1;subst e1;clear e e';go_wp2
      refine wp_rd ((.take 0 (.take 1 (.take 2 (.take 3 (.take 4 (.take 5 (.take 6 (.take 7 (.take 8 .nil)))))))))) (fun hHd=> ?_) (hQ:=by intro _ _ _ _ _ h;exact h)
      repeat' first|((with_reducible refine t_tk ?_);(first|(refine tk (v:= ?_) ?_ hHd ?_;rotate_left;(·(intro W' h;have:=StepC.mk h;first|with_reducible exact run_lc)))|(refine tk (v:= ?_) ?_ hHd ?_;rotate_left;(·(intro wq hSw;go_simp;(try with_reducible rfl)))));(try simp only[pS]))|(with_reducible refine t_done ?_)
      all_goals
       go_wp2
       go_ret
       exact⟨rfl,⟨ExtC.h⟩⟩
     ·clear e e';go_wp2
      refine wp_rd ((.take 0 (.take 1 (.take 2 (.take 3 (.take 4 (.take 5 (.take 6 (.take 7 (.take 8 .nil)))))))))) (fun hHd=> ?_) (hQ:=by intro _ _ _ _ _ h;exact h)
      repeat' first|((with_reducible refine t_tk ?_);(first|(refine tk (v:= ?_) ?_ hHd ?_;rotate_left;(·(intro W' h;have:=StepC.mk h;first|with_reducible exact run_lc)))|(refine tk (v:= ?_) ?_ hHd ?_;rotate_left;(·(intro wq hSw;go_simp;(try with_reducible rfl)))));(try simp only[pS]))|(with_reducible refine t_done ?_)
      all_goals
       go_wp2
       go_ret
       exact⟨rfl,⟨ExtC.h⟩⟩
   ·obtain rfl:k=l.length:=by omega
    obtain rfl:=HT.out fun j h1 h2=>Hz.out j h1 h1 h2
    go_wp2
    go_ret
    exact⟨rfl,⟨ExtC.h⟩⟩
 ·have hR:decide (l=m)=false:=decide_eq_false fun e=>hl (by rw[e])
  rw[hR];have q:((l.length:Int) !=(m.length:Int))=true:=by simp;omega
  clear hR hl;go_enter Tryz.func34,Tryz.ntmps34
  go_wp2
  all_goals(try(go_ret;refine⟨?_,⟨ExtC.h⟩⟩;first|rfl))
instance{W:World}{u v:Value}{l m:List (Int×Int)}[h1:ListC (Int×Int) W u l][h2:ListC (Int×Int) W v m]:FunC Tryz.prog 34 #[u,v] W (RB W (decide (l=m))):=⟨Wrongs_any u v l m W h1.h h2.h⟩
set_option maxHeartbeats 8000000 in
theorem Pairs_any(u v:Value)(l m:List (Int×Int))(w:World)(hu:ListV w u l)(hv:ListV w v m):Calls Tryz.prog 37 #[u,v] w (RB w (decide (l=m))):=by
 obtain⟨A,c,rfl,hc1,hc2⟩:=hu.form;obtain⟨B,d,rfl,hd1,hd2⟩:=hv.form;unfold maxLen at hc2 hd2;by_cases hl:l.length=m.length
 ·have q:((l.length:Int) !=(m.length:Int))=false:=by simp[hl]
  obtain⟨R,hR⟩:∃R,decide (l=m)=R:=⟨_,rfl⟩;rw[hR];have HT:=Lib.hid (show(∀j(h1:j<l.length)(h2:j<m.length),l[j]=m[j])→R=true from fun h=>by
   rw[←hR];exact decide_eq_true (List.ext_getElem hl fun j h1 h2=>h j h1 h2))
  have HF:=Lib.hid (show∀j(h1:j<l.length)(h2:j<m.length),l[j]≠m[j]→R=false from fun j h1 h2 h=>by
   rw[←hR];exact decide_eq_false fun e=>h (by subst e;rfl))
  have Hl:=Lib.hid hl;clear hR hl;go_enter Tryz.func37,Tryz.ntmps37
  go_wp2
  go_loopw [5] (fun iv wr=>StepC w wr∧∃k:Nat,k≤l.length∧iv=.int .i64 k∧∀j(hj:j<k)(h1:j<l.length)(h2:j<m.length),l[j]=m[j]) (fun iv _=>l.length-(RowKit.intOf iv).toNat)
  case atStart=>exact⟨⟨ExtC.h⟩,0,by omega,rfl,fun j hj=>by omega⟩
  case round=>
   obtain⟨_,k,hk,rfl,hz⟩:=hrel;have Hz:=Lib.hid hz;clear hz;by_cases lk:k<l.length
   ·have lm:k<m.length:=by have:=Hl.out;omega
    obtain⟨ad,rfl,ha⟩:=(hu.ext (ExtC.h:Ext w wr)).elem lk;obtain⟨bd,rfl,hb⟩:=(hv.ext (ExtC.h:Ext w wr)).elem lm;have Hn:=Lib.hid (show l[k]=m[k]→∀j(hj:j<k+1)(h1:j<l.length)(h2:j<m.length),l[j]=m[j] from fun h j hj h1 h2=>by
     by_cases hjk:j=k
     ·subst hjk;exact h
     ·exact Hz.out j (by omega) h1 h2)
    have Hs:=Lib.hid (show l[k]≠m[k]→R=false from fun h=>HF.out k lk lm h)
    obtain⟨⟨a1,a2⟩,hx⟩:∃x,l[k]=x:=⟨_,rfl⟩;obtain⟨⟨b1,b2⟩,hy⟩:∃x,m[k]=x:=⟨_,rfl⟩;rw[hx,hy] at Hn Hs;rw[hx] at ha;rw[hy] at hb;have i1:CellsB wr (ad.add (k*2)) [.int .i64 a1,.int .i64 a2]:=⟨ha⟩;have i2:CellsB wr (bd.add (k*2)) [.int .i64 b1,.int .i64 b2]:=⟨hb⟩;have zk:IntKind.i64.wrap ((k:Int)+1)=(k:Int)+1:=IntWalk.i64_in _ (by omega)
    clear ha hb hx hy;by_cases e:a1=b1∧a2=b2
    ·obtain⟨rfl,rfl⟩:=e;have Hn2:=Lib.hid (Hn.out rfl);clear Hn Hs;go_wp2
     refine wp_rd ((.take 0 (.take 1 (.take 2 (.take 3 (.take 4 (.take 5 (.take 6 (.take 7 (.take 8 .nil)))))))))) (fun hHd=> ?_) (hQ:=by intro _ _ _ _ _ h;exact h)
     repeat' first|((with_reducible refine t_tk ?_);(first|(refine tk (v:= ?_) ?_ hHd ?_;rotate_left;(·(intro W' h;have:=StepC.mk h;first|with_reducible exact run_lc)))|(refine tk (v:= ?_) ?_ hHd ?_;rotate_left;(·(intro wq hSw;go_simp;(try with_reducible rfl)))));(try simp only[pS]))|(with_reducible refine t_done ?_)
     all_goals
      go_wp2
      go_roundw
      case rel=>exact⟨⟨ExtC.h⟩,k+1,lk,rfl,Hn2.out⟩
      case measure=>simp[RowKit.intOf];omega
    ·obtain rfl:=Hs.out (fun h=>by injection h with h1 h2;exact e ⟨h1,h2⟩)
     clear Hn Hs;have e':a1=b1→¬a2=b2:=fun h1 h2=>e ⟨h1,h2⟩
     by_cases e1:a1=b1
     ·have e2:=e' e1;subst e1;clear e e';go_wp2
      refine wp_rd ((.take 0 (.take 1 (.take 2 (.take 3 (.take 4 (.take 5 (.take 6 (.take 7 (.take 8 .nil)))))))))) (fun hHd=> ?_) (hQ:=by intro _ _ _ _ _ h;exact h)
      repeat' first|((with_reducible refine t_tk ?_);(first|(refine tk (v:= ?_) ?_ hHd ?_;rotate_left;(·(intro W' h;have:=StepC.mk h;first|with_reducible exact run_lc)))|(refine tk (v:= ?_) ?_ hHd ?_;rotate_left;(·(intro wq hSw;go_simp;(try with_reducible rfl)))));(try simp only[pS]))|(with_reducible refine t_done ?_)
      all_goals
       go_wp2
       go_ret
       exact⟨rfl,⟨ExtC.h⟩⟩
     ·clear e e';go_wp2
      refine wp_rd ((.take 0 (.take 1 (.take 2 (.take 3 (.take 4 (.take 5 (.take 6 (.take 7 (.take 8 .nil)))))))))) (fun hHd=> ?_) (hQ:=by intro _ _ _ _ _ h;exact h)
      repeat' first|((with_reducible refine t_tk ?_);(first|(refine tk (v:= ?_) ?_ hHd ?_;rotate_left;(·(intro W' h;have:=StepC.mk h;first|with_reducible exact run_lc)))|(refine tk (v:= ?_) ?_ hHd ?_;rotate_left;(·(intro wq hSw;go_simp;(try with_reducible rfl)))));(try simp only[pS]))|(with_reducible refine t_done ?_)
      all_goals
       go_wp2
       go_ret
       exact⟨rfl,⟨ExtC.h⟩⟩
   ·obtain rfl:k=l.length:=by omega
    obtain rfl:=HT.out fun j h1 h2=>Hz.out j h1 h1 h2
    go_wp2
    go_ret
    exact⟨rfl,⟨ExtC.h⟩⟩
 ·have hR:decide (l=m)=false:=decide_eq_false fun e=>hl (by rw[e])
  rw[hR];have q:((l.length:Int) !=(m.length:Int))=true:=by simp;omega
  clear hR hl;go_enter Tryz.func37,Tryz.ntmps37
  go_wp2
  all_goals(try(go_ret;refine⟨?_,⟨ExtC.h⟩⟩;first|rfl))
instance{W:World}{u v:Value}{l m:List (Int×Int)}[h1:ListC (Int×Int) W u l][h2:ListC (Int×Int) W v m]:FunC Tryz.prog 37 #[u,v] W (RB W (decide (l=m))):=⟨Pairs_any u v l m W h1.h h2.h⟩
end Go.Rg
end
section
namespace Go.Bp
open Go.RowKit
inductive OTree3 where
 |nil
 |take (i:Nat) (r:OTree3)
 |one (i:Nat) (r:OTree3)
 |two (i:Nat) (r:OTree3) (j:Nat) (s:OTree3)
 |three (i:Nat) (r:OTree3) (j:Nat) (s:OTree3) (k:Nat) (u:OTree3)
def OTree3.depth:OTree3→Nat
 | .nil=>0
 | .take _ r=>r.depth+1
 | .one _ r=>r.depth+1
 | .two _ r _ s=>max r.depth s.depth+1
 | .three _ r _ s _ u=>max (max r.depth s.depth) u.depth+1
section
variable{P:Program}{md:Region.Mode}{ops:Array Oper}{Q:Exit→Act→World→Prop}{S:World→Prop}
variable{i j k:Nat}{r s u:OTree3}{o:Oper}{a:Act}{w:World}
end
section
variable{P:Program}{ops:Array Oper}{Q:Exit→Act→World→Prop}{S:World→Prop}{a:Act}{w:World}{rest l:List Oper}{r:OTree3}
end
section
variable{P:Program}{ops:Array Oper}{Q:Exit→Act→World→Prop}{S:World→Prop}{a:Act}{w:World}{rest l:List Oper}{r:OTree3}
end
end Go.Bp
end
section
namespace Go.Bp
open Go.RowKit
inductive OTree4 where
 |nil
 |take (i:Nat) (r:OTree4)
 |one (i:Nat) (r:OTree4)
 |two (i:Nat) (r:OTree4) (j:Nat) (s:OTree4)
 |three (i:Nat) (r:OTree4) (j:Nat) (s:OTree4) (k:Nat) (u:OTree4)
 |four (i:Nat) (r:OTree4) (j:Nat) (s:OTree4) (k:Nat) (u:OTree4) (m:Nat) (v:OTree4)
def OTree4.depth:OTree4→Nat
 | .nil=>0
 | .take _ r=>r.depth+1
 | .one _ r=>r.depth+1
 | .two _ r _ s=>max r.depth s.depth+1
 | .three _ r _ s _ u=>max (max r.depth s.depth) u.depth+1
 | .four _ r _ s _ u _ v=>max (max (max r.depth s.depth) u.depth) v.depth+1
section
variable{P:Program}{md:Region.Mode}{ops:Array Oper}{Q:Exit→Act→World→Prop}{S:World→Prop}
variable{i j k m:Nat}{r s u v:OTree4}{o:Oper}{a:Act}{w:World}
end
section
variable{P:Program}{ops:Array Oper}{Q:Exit→Act→World→Prop}{S:World→Prop}{a:Act}{w:World}{rest l:List Oper}{r:OTree4}
end
section
variable{P:Program}{ops:Array Oper}{Q:Exit→Act→World→Prop}{S:World→Prop}{a:Act}{w:World}{rest l:List Oper}{r:OTree4}
end
end Go.Bp
end
