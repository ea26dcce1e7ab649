import Derived.Test.YtbfbepnkofampaaGreatDoorXP27
set_option maxRecDepth 100000
set_option synthInstance.maxSize 2000
set_option synthInstance.maxHeartbeats 400000
set_option maxHeartbeats 8000000
set_option linter.all false
section
namespace Go.Rg
open Go Go.Bp Go.RowKit Go.Walk Go.Proofs
class PartB (α:outParam Type) [i:outParam (Enc α)] (w:outParam World) (v:Value) (n:outParam Nat) (l:outParam (List α)):Prop where h:ListV w v l∧n=l.length
instance{α:Type}[i:Enc α]{a W:World}{v:Value}{n:Nat}{l:List α}[p:PartB α a v n l][q:ExtC a W]:SlC W v (Enc.size α) n (encL l):=⟨by
 obtain⟨h,rfl⟩:=p.h;exact⟨h.ext q.h,xL l⟩⟩
theorem Cq{W B:World}{A:Option Addr}{c n:Nat}{o':List Event}{cs:List Value}(hr:RowC W (.slice A n c) B 80 9 n cs)(hc:cs=encL o')(hn:n=o'.length):∃A' c',Value.slice A n c=.slice A' o'.length c'∧RowC W (.slice A' o'.length c') B 80 9 o'.length (encL o'):=by
 subst hn hc;exact⟨A,c,rfl,hr⟩
abbrev RLW{α:Type}[Enc α](W:World)(t:TypeId)(l:List α)(e:Ending)(W':World):Prop:=∃A c,e=.returned (.slice A l.length c)∧RowC W' (.slice A l.length c) W t (Enc.size α) l.length (encL l)∧StepC W W'
theorem vQ(v:Value)(l:List Event)(w:World)(h:ListV w v l)(hl:l.length≤1000):Calls Tryz.prog 62 #[v] w (RLW w 80 (sortE l)):=by
 obtain⟨A,c,rfl,q1,q2⟩:=h.form;unfold maxLen at q2;have i0:=ListB.mk h;go_enter Tryz.func62,Tryz.ntmps62
 go_wp2
 go_loopw [4,3] (fun iv ov wr=>StepC w wr∧∃(k:Nat)(o:List Event)(A2:Option Addr)(c2:Nat),k≤l.length∧iv=.int .i64 k∧o=sortE (l.take k)∧ov=.slice A2 o.length c2∧RowC wr (.slice A2 o.length c2) w 80 9 o.length (encL o)∧o.length≤k) (fun iv _ _=>l.length-(RowKit.intOf iv).toNat)
 case atStart=>exact⟨⟨Ext.refl _⟩,0,[],none,0,by omega,rfl,by simp[sortE],rfl,RowC.nil,by simp⟩
 case round=>
  obtain⟨_,k,o,A2,c2,hk,rfl,ho,rfl,hO',hol⟩:=hrel;have hO:=hO'.list (l:=o) rfl rfl rfl;by_cases lk:k<l.length
  ·obtain⟨ad,rfl,ha⟩:=h.elem lk;have hs:=pM l lk;rw[←ho] at hs;obtain⟨⟨ek,ed,⟨ec,eo⟩,et,eq,ep,eu,em⟩,hx⟩:∃x,l[k]=x:=⟨_,rfl⟩;rw[hx] at ha hs;have i4:CellsB w (ad.add (k*9)) [.int .i64 ek,.int .i64 ed,.int .i64 ec,.int .i64 eo,.int .i64 et,.int .i64 eq,.int .i64 ep,.int .i64 eu,.int .i64 em]:=⟨ha⟩;have zk:IntKind.i64.wrap ((k:Int)+1)=(k:Int)+1:=IntWalk.i64_in _ (by omega)
   have Hs:=Lib.hid hs;have hoc:=hO.caps.2;have HO:=Lib.hid hO;clear ha hx ho hs;go_wp2
   go_loopw [5] (fun pv wr2=>StepC wr wr2∧∃p:Nat,p≤o.length∧pv=.int .i64 p∧∀j(hj:j<o.length),j<p→ltE o[j] ⟨ek,ed,⟨ec,eo⟩,et,eq,ep,eu,em⟩) (fun pv _=>o.length-(RowKit.intOf pv).toNat)
   case atStart=>exact⟨⟨ExtC.h⟩,0,by omega,rfl,fun j _ hj=>by omega⟩
   case round=>
    obtain⟨_,p,hp,rfl,hz⟩:=hrel;have Hz:=Lib.hid hz;clear hz;have zp:IntKind.i64.wrap ((p:Int)+1)=(p:Int)+1:=IntWalk.i64_in _ (by omega)
    have i6:PartB Event wr (.slice A2 p c2) p (o.take p):=⟨(HO.out.ext ExtC.h).upto hp,by rw[List.length_take];omega⟩
    have i7:PartB Event wr (.slice (Go.Walk.partAt A2 c2 p 9) (o.length-p) (c2-p)) (o.length-p) (o.drop p):=⟨(HO.out.ext ExtC.h).from_ hp,by rw[List.length_drop]⟩
    by_cases lp:p<o.length
    ·obtain⟨od,rfl,hb⟩:=(HO.out.ext (ExtC.h:Ext _ wr)).elem lp;obtain⟨b,hbb⟩:∃b,decide (ltE o[p] ⟨ek,ed,⟨ec,eo⟩,et,eq,ep,eu,em⟩)=b:=⟨_,rfl⟩;have Hn:=Lib.hid (show b=true→∀j(hj:j<o.length),j<p+1→ltE o[j] ⟨ek,ed,⟨ec,eo⟩,et,eq,ep,eu,em⟩ from fun h0 j hj hj2=>by
      by_cases hjp:j=p
      ·subst hjp;rw[h0] at hbb;exact of_decide_eq_true hbb
      ·exact Hz.out j hj (by omega))
     have HP:=Lib.hid (show b=false→_ from fun h0=>putE_at hp Hz.out (fun _=>by rw[h0] at hbb;exact of_decide_eq_false hbb))
     obtain⟨⟨fk,fd,⟨fc,fo⟩,ft,fq,fp,fu,fm⟩,hy⟩:∃x,o[p]=x:=⟨_,rfl⟩;rw[hy] at hb hbb;have i5:CellsB wr (od.add (p*9)) [.int .i64 fk,.int .i64 fd,.int .i64 fc,.int .i64 fo,.int .i64 ft,.int .i64 fq,.int .i64 fp,.int .i64 fu,.int .i64 fm]:=⟨hb⟩;have i8:=BefE.mk hbb;have Hy:=Lib.hid hy;clear hb hbb hy;go_wp2
     refine aP ((.take 0 (.take 1 (.take 2 (.take 3 (.take 4 (.take 5 (.take 6 (.take 7 (.take 8 (.take 9 (.take 10 (.take 11 (.take 12 (.one 13 (.take 14 .nil)))))))))))))))) (fun hHd=> ?_) (hQ:=by intro _ _ _ _ _ h;exact h)
     repeat' first|((with_reducible refine aX ?_);(first|(refine tk (v:= ?_) ?_ hHd ?_;rotate_left;(·(intro wq hSw;go_simp;(try with_reducible rfl))))|(refine tw (v:= ?_) ?_ hHd ?_;rotate_left;(·(intro W' h;have:=StepC.mk h;first|with_reducible exact aJ)))|(refine tw (v:= ?_) ?_ hHd ?_;rotate_left;(·(intro wq hSw;go_simp;(try with_reducible rfl)))));(try simp only[pS]))|((with_reducible refine bC ?_);refine aQ (by simp only[gS];rfl) ?_)|((first|with_reducible refine cG ?_);first|(rintro _ V ⟨rfl,(_:StepC _ _)⟩;refine⟨_,rfl,?_⟩))|((with_reducible refine bD ?_);clear hHd;refine aM ExtC.h (fun hHd=> ?_);(try simp only[pS]))|(with_reducible refine aF ?_)
     all_goals
      cases b
      ·have hE:=fun W=>eql80 W fk fd fc fo ft fq fp fu fm ek ed ec eo et eq ep eu em
       obtain⟨b2,hb2⟩:∃b,decide ((⟨fk,fd,⟨fc,fo⟩,ft,fq,fp,fu,fm⟩:Event)=⟨ek,ed,⟨ec,eo⟩,et,eq,ep,eu,em⟩)=b:=⟨_,rfl⟩;simp only[hb2] at hE;have Hb2:=Lib.hid hb2;clear hb2;go_wp2
       refine aP ((.take 0 (.take 1 (.take 2 (.take 3 (.take 4 (.take 5 (.take 6 (.take 7 (.take 8 (.take 9 (.take 10 (.take 11 (.take 12 (.take 13 (.take 14 (.take 15 .nil))))))))))))))))) (fun hHd=> ?_) (hQ:=by intro _ _ _ _ _ h;exact h)
       repeat' first|((with_reducible refine aX ?_);(first|(refine tk (v:= ?_) ?_ hHd ?_;rotate_left;(·(intro wq hSw;go_simp;(try with_reducible rfl))))|(refine tw (v:= ?_) ?_ hHd ?_;rotate_left;(·(intro W' h;have:=StepC.mk h;first|with_reducible exact aJ)))|(refine tw (v:= ?_) ?_ hHd ?_;rotate_left;(·(intro wq hSw;go_simp;(try with_reducible rfl)))));(try simp only[pS]))|(with_reducible refine aF ?_)
       all_goals
        cases b2
        ·have HQ:=Lib.hid ((HP.out trivial).2 fun _ h=>by rw[Hy.out] at h;exact of_decide_eq_false Hb2.out h)
         clear HP Hn;go_wp2
         refine aP ((.take 1 (.take 2 (.take 3 (.take 5 (.take 6 (.take 7 (.take 8 (.take 11 (.take 12 (.take 13 (.two 0 (.two 4 (.one 9 (.one 10 (.one 14 (.take 15 .nil)))) 9 (.one 4 (.one 10 (.one 14 (.take 15 .nil))))) 9 (.one 0 (.one 4 (.one 10 (.one 14 (.take 15 .nil))))))))))))))))) (fun hHd=> ?_) (hQ:=by intro _ _ _ _ _ h;exact h)
         repeat' first|((with_reducible refine aX ?_);(first|(refine tk (v:= ?_) ?_ hHd ?_;rotate_left;(·(intro W' h;have:=StepC.mk h;first|with_reducible exact aJ|with_reducible exact pP|with_reducible exact vO)))|(refine tk (v:= ?_) ?_ hHd ?_;rotate_left;(·(intro wq hSw;go_simp;(try with_reducible rfl)))));(try simp only[pS]))|((with_reducible refine bC ?_);refine aQ (by simp only[gS];rfl) ?_)|((with_reducible refine gK ?_);refine dV (by simp only[gS];rfl) (by simp only[gS];rfl) ?_ ?_)|(with_reducible refine kV ?_;intro Vz gz hEz hRz)|(with_reducible refine aD ?_;intro Vb g9 _ _ _)|(with_reducible refine bR ?_;intro A9 c9 Va hR hG)|(with_reducible refine kK ?_;intro A9 c9 Va hR hG)|((with_reducible refine bD ?_);clear hHd;refine aM ExtC.h (fun hHd=> ?_);(try simp only[pS]))|(with_reducible refine aF ?_)
         all_goals
          go_wp2
          rw[Nat.zero_add] at hR;have hR:=hR.base (v0:=w) (ExtC.h:Ext w _).size;obtain⟨A8,c8,e8,h8⟩:=Cq hR (o':=o.take p++(⟨ek,ed,⟨ec,eo⟩,et,eq,ep,eu,em⟩:Event)::o.drop p) (by simp[Walk.encL,Enc.enc]) (by simp;omega)
          exact⟨⟨⟨ExtC.h⟩,k+1,_,A8,c8,lk,by push_cast;rfl,by rw[Hs.out,HQ.out],e8,inferInstance,by simp;omega⟩,by simp[RowKit.intOf];omega⟩
        ·have HQ:=Lib.hid ((HP.out trivial).1 ⟨lp,by rw[Hy.out];exact of_decide_eq_true Hb2.out⟩)
         clear HP Hn;go_wp2
         exact⟨⟨⟨ExtC.h⟩,k+1,o,some od,c2,lk,by push_cast;rfl,by rw[Hs.out,HQ.out],rfl,inferInstance,by omega⟩,by simp[RowKit.intOf];omega⟩
      ·have Hn2:=Lib.hid (Hn.out rfl);clear Hn HP;go_wp2
       go_roundw
       case rel=>exact⟨⟨ExtC.h⟩,p+1,lp,by push_cast;rfl,Hn2.out⟩
       case measure=>simp[RowKit.intOf];omega
    ·have HQ:=Lib.hid ((putE_at hp Hz.out (fun h=>absurd h lp)).2 fun h=>absurd h lp)
     go_wp2
     refine aP ((.take 0 (.take 1 (.take 2 (.take 3 (.take 4 (.take 5 (.take 6 (.take 7 (.take 8 (.take 9 (.take 10 (.take 11 (.take 12 (.one 13 (.take 14 .nil)))))))))))))))) (fun hHd=> ?_) (hQ:=by intro _ _ _ _ _ h;exact h)
     repeat' first|((with_reducible refine aX ?_);(first|(refine tk (v:= ?_) ?_ hHd ?_;rotate_left;(·(intro wq hSw;go_simp;(try with_reducible rfl))))|(refine ts hHd ?_));(try simp only[pS]))|((with_reducible refine bC ?_);refine aQ (by simp only[gS];rfl) ?_)|(with_reducible refine fO ?_)|((with_reducible refine bD ?_);clear hHd;refine aM ExtC.h (fun hHd=> ?_);(try simp only[pS]))|(with_reducible refine aF ?_)
     all_goals
      go_wp2
      refine aP ((.take 0 (.take 1 (.take 2 (.take 3 (.take 4 (.take 5 (.take 6 (.take 7 (.take 8 (.take 9 (.take 10 (.take 11 (.take 12 (.take 13 (.take 14 (.take 15 .nil))))))))))))))))) (fun hHd=> ?_) (hQ:=by intro _ _ _ _ _ h;exact h)
      repeat' first|((with_reducible refine aX ?_);(first|(refine tk (v:= ?_) ?_ hHd ?_;rotate_left;(·(intro wq hSw;go_simp;(try with_reducible rfl))))|(refine ts hHd ?_));(try simp only[pS]))|(with_reducible refine aF ?_)
      all_goals
       go_wp2
       refine aP ((.take 1 (.take 2 (.take 3 (.take 5 (.take 6 (.take 7 (.take 8 (.take 11 (.take 12 (.take 13 (.two 0 (.two 4 (.one 9 (.one 10 (.one 14 (.take 15 .nil)))) 9 (.one 4 (.one 10 (.one 14 (.take 15 .nil))))) 9 (.one 0 (.one 4 (.one 10 (.one 14 (.take 15 .nil))))))))))))))))) (fun hHd=> ?_) (hQ:=by intro _ _ _ _ _ h;exact h)
       repeat' first|((with_reducible refine aX ?_);(first|(refine tk (v:= ?_) ?_ hHd ?_;rotate_left;(·(intro W' h;have:=StepC.mk h;first|with_reducible exact aJ|with_reducible exact pP|with_reducible exact vO)))|(refine tk (v:= ?_) ?_ hHd ?_;rotate_left;(·(intro wq hSw;go_simp;(try with_reducible rfl)))));(try simp only[pS]))|((with_reducible refine bC ?_);refine aQ (by simp only[gS];rfl) ?_)|((with_reducible refine gK ?_);refine dV (by simp only[gS];rfl) (by simp only[gS];rfl) ?_ ?_)|(with_reducible refine kV ?_;intro Vz gz hEz hRz)|(with_reducible refine aD ?_;intro Vb g9 _ _ _)|(with_reducible refine bR ?_;intro A9 c9 Va hR hG)|(with_reducible refine kK ?_;intro A9 c9 Va hR hG)|((with_reducible refine bD ?_);clear hHd;refine aM ExtC.h (fun hHd=> ?_);(try simp only[pS]))|(with_reducible refine aF ?_)
       all_goals
        go_wp2
        rw[Nat.zero_add] at hR;have hR:=hR.base (v0:=w) (ExtC.h:Ext w _).size;obtain⟨A8,c8,e8,h8⟩:=Cq hR (o':=o.take p++(⟨ek,ed,⟨ec,eo⟩,et,eq,ep,eu,em⟩:Event)::o.drop p) (by simp[Walk.encL,Enc.enc]) (by simp;omega)
        exact⟨⟨⟨ExtC.h⟩,k+1,_,A8,c8,lk,by push_cast;rfl,by rw[Hs.out,HQ.out],e8,inferInstance,by simp;omega⟩,by simp[RowKit.intOf];omega⟩
  ·obtain rfl:k=l.length:=by omega
   rw[List.take_length] at ho;subst ho;go_wp2
   go_ret
   exact⟨A2,c2,rfl,inferInstance,⟨ExtC.h⟩⟩
instance{W:World}{v:Value}{l:List Event}[h:ListC Event W v l][q:LenC2 l]:FunC Tryz.prog 62 #[v] W (RLW W 80 (sortE l)):=⟨vQ v l W h.h q.h⟩
end Go.Rg
end
section
namespace Go.Bp
open Go Go.RowKit Go.Walk
def mb(b:Bool)(v:Value):Value:=match b with|true=>v|false=>undef
theorem mbT(v:Value):mb true v=v:=rfl
section
variable{P:Program}{ops:Array Oper}{Q:Exit→Act→World→Prop}{S:World→Prop}{a:Act}{w:World}{r:OTree}{i j:Nat}{rest:List Oper}
variable{l:List Value}{df:List Deferred}{d:Tmp}{op:Op}{t ty:TypeId}{pos:String}{after:Array Edge}{x y z:Operand}{v u:Value}{b b1 b2 c wq:Bool}{p:Addr}
def RdO(S:World→Prop)(P:Program)(ops:Array Oper)(o:Oper)(a:Act)(K:Act→Prop):Prop:=
 ∃v,(Region.wanted o (yielded ops a.tmps)=true∧(∀w,S w→(execOp a.eval o).run P w=.ok (.value v) w)∨Region.wanted o (yielded ops a.tmps)=false∧v=undef)∧K (a.put o.dst v)
theorem eT{o:Oper}(hS:S w)(h:RdO S P ops o a (fun a'=>wpTree P ops Q S r a' w))(ho:ops[i]? =some o:=by simp only[gS];rfl):wpTree P ops Q S (.take i r) a w:=by
 obtain⟨v,h1|h1,k⟩:=h
 ·exact⟨o,v,ho,.inl h1,hS,k⟩
 ·exact⟨o,v,ho,.inr h1,hS,k⟩
theorem dD{o:Oper}(h:RdO (fun w'=>w'=w) P ops o a (fun a'=>wpList P ops Q rest a' w)):wpList P ops Q (o::rest) a w:=by
 obtain⟨v,⟨h1,h2⟩|⟨h1,rfl⟩,k⟩:=h
 ·exact rR h1 fun K hK=>by
   unfold Oper.wp;rw[h2 w rfl];exact hK _ _ k
 ·exact Md h1 k
theorem dY{f:Operand}{ar:Array Operand}{ats:Array TypeId}{d':Option Tmp}{gd:Option (Tmp×Bool)}(h:wpList P ops Q (⟨d',.call {callee:=.value f,args:=ar,argTypes:=ats},ty,pos,after,gd⟩::rest) a w):wpList P ops Q (⟨d',.call {callee:=.value f,args:=ar,argTypes:=ats},ty,pos,after,gd⟩::rest) a w:=h
theorem bO(h:Q .normal a w):wpList P ops Q [] a w:=h
theorem eS:(∀(l:List Value)(df:List Deferred)(n:Nat),(⟨l.toArray,df⟩:Act).eval (.tmp n)=l.getD n undef)∧(∀(a:Act)(v:Value),a.eval (.const v)=v)∧(∀(x y:Value)(l:List Value),(x::l).getD 0 y=x)∧(∀(x y:Value)(l:List Value)(n:Nat),(x::l).getD (n+1) y=l.getD n y):=
 ⟨fun l df n=>by simp[Act.eval],fun _ _=>rfl,fun _ _ _=>rfl,fun _ _ _ _=>by simp⟩
theorem gV:(∀(l:List Value)(i:Nat),l.toArray[i]? =l[i]?)∧(∀(x:Value)(l:List Value)(i:Nat),(x::l)[i+1]? =l[i]?)∧(∀(x:Value)(l:List Value),(x::l)[0]? =some x):=
 ⟨fun _ _=>List.getElem?_toArray ..,fun _ _ _=>List.getElem?_cons_succ ..,fun _ _=>List.getElem?_cons_zero ..⟩
theorem sS0(x:Value)(l:List Value)(y:Value):(x::l).set 0 y=y::l:=rfl
theorem sS1(x:Value)(l:List Value)(y:Value)(i:Nat):(x::l).set (i+1) y=x::l.set i y:=rfl
theorem evC(a:Act)(v:Value):a.eval (.const v)=v:=rfl
theorem put_l:(⟨l.toArray,df⟩:Act).put (some d) v=⟨(l.set d v).toArray,df⟩:=by simp[Act.put]
variable{K:Act→Prop}
theorem bX(hy:∀w,S w→(execOp (⟨l.toArray,df⟩:Act).eval ⟨some d,op,ty,pos,after,none⟩).run P w=.ok (.value v) w)(k:K ⟨(l.set d v).toArray,df⟩):RdO S P ops ⟨some d,op,ty,pos,after,none⟩ ⟨l.toArray,df⟩ K:=
 ⟨v,.inl ⟨rfl,hy⟩,by rw[put_l];exact k⟩
theorem bY(k:K ⟨(l.set d v).toArray,df⟩)(hv:(⟨l.toArray,df⟩:Act).eval x=v:=by(simp only[eS];rfl)):RdO S P ops ⟨some d,.move x,ty,pos,after,none⟩ ⟨l.toArray,df⟩ K:=bX (fun w _=>by subst hv;rfl) k
theorem kW(k:K ⟨(l.set d v).toArray,df⟩)(hv:(⟨l.toArray,df⟩:Act).eval x=v:=by(simp only[eS];rfl)):RdO S P ops ⟨some d,.assign x,ty,pos,after,none⟩ ⟨l.toArray,df⟩ K:=bX (fun w _=>by subst hv;rfl) k
theorem cJ(hl:∀w,S w→LoadC P w t p v)(k:K ⟨(l.set d v).toArray,df⟩)(hx:(⟨l.toArray,df⟩:Act).eval x=.pointer (some p):=by(simp only[eS];rfl)):RdO S P ops ⟨some d,.load t x,ty,pos,after,none⟩ ⟨l.toArray,df⟩ K:=
 bX (fun w hw=>by have:=hl w hw;exact aJ hx) k
theorem iV(k:K ⟨(l.set d (.bool (b&&c))).toArray,df⟩)(hx:(⟨l.toArray,df⟩:Act).eval x=.bool b:=by(simp only[eS];rfl))(hy:(⟨l.toArray,df⟩:Act).eval y=mb b (.bool c):=by(simp only[eS];rfl)):RdO S P ops ⟨some d,.pick x y (.const (.bool false)),ty,pos,after,none⟩ ⟨l.toArray,df⟩ K:=
 bX (fun w _=>by cases b<;>simp[execOp,hx,hy,asBool,mb,evC]) k
def GdO(S:World→Prop)(P:Program)(ops:Array Oper)(o:Oper)(a:Act)(wq:Bool)(K:Act→Prop):Prop:=Region.wanted o (yielded ops a.tmps)=wq→RdO S P ops o a K
def isB(v:Value)(c:Bool):Bool:=match v with| .bool b=>b==c|_=>false
theorem tM{o:Oper}(hg:o.guard=some (j,c))(hs:((ops[j]?).bind (·.dst)).bind (l.toArray[·]?)=some v):Region.wanted o (yielded ops l.toArray)=isB v c:=by
 unfold Region.wanted yielded isB;rw[hg];simp only[hs]
 cases v<;>first|rfl|(rename_i b;cases b<;>cases c<;>rfl)
theorem dI(h:GdO S P ops ⟨some d,op,ty,pos,after,some (j,true)⟩ ⟨l.toArray,df⟩ b K)(hs:((ops[j]?).bind (·.dst)).bind (l.toArray[·]?)=some (.bool b):=by(simp only[gS,Option.bind_some,gV];rfl)):RdO S P ops ⟨some d,op,ty,pos,after,some (j,true)⟩ ⟨l.toArray,df⟩ K:=
 h (by rw[tM rfl hs];cases b<;>rfl)
theorem jU(h:GdO S P ops ⟨some d,op,ty,pos,after,some (j,false)⟩ ⟨l.toArray,df⟩ (!b) K)(hs:((ops[j]?).bind (·.dst)).bind (l.toArray[·]?)=some (.bool b):=by(simp only[gS,Option.bind_some,gV];rfl)):RdO S P ops ⟨some d,op,ty,pos,after,some (j,false)⟩ ⟨l.toArray,df⟩ K:=
 h (by rw[tM rfl hs];cases b<;>rfl)
theorem Rh(h:GdO S P ops ⟨some d,op,ty,pos,after,some (j,true)⟩ ⟨l.toArray,df⟩ (b1&&b2) K)(hs:((ops[j]?).bind (·.dst)).bind (l.toArray[·]?)=some (mb b1 (.bool b2)):=by(simp only[gS,Option.bind_some,gV];rfl)):RdO S P ops ⟨some d,op,ty,pos,after,some (j,true)⟩ ⟨l.toArray,df⟩ K:=
 h (by rw[tM rfl hs];cases b1<;>cases b2<;>rfl)
variable{g:Tmp×Bool}
theorem lJ(k:K ⟨(l.set d undef).toArray,df⟩):GdO S P ops ⟨some d,op,ty,pos,after,some g⟩ ⟨l.toArray,df⟩ false K:=fun h=>⟨undef,.inr ⟨h,rfl⟩,by rw[put_l];exact k⟩
theorem gG(h:RdO S P ops ⟨some d,op,ty,pos,after,none⟩ ⟨l.toArray,df⟩ K):GdO S P ops ⟨some d,op,ty,pos,after,some g⟩ ⟨l.toArray,df⟩ true K:=fun hw=>by
 obtain⟨v,⟨h1,h2⟩|⟨h1,_⟩,k⟩:=h
 ·exact⟨v,.inl ⟨hw,h2⟩,k⟩
 ·cases h1
theorem eI(hy:wq=true→∀w,S w→(execOp (⟨l.toArray,df⟩:Act).eval ⟨some d,op,ty,pos,after,none⟩).run P w=.ok (.value v) w)(k:K ⟨(l.set d (mb wq v)).toArray,df⟩):GdO S P ops ⟨some d,op,ty,pos,after,some g⟩ ⟨l.toArray,df⟩ wq K:=fun hw=>by
 cases wq
 ·exact⟨undef,.inr ⟨hw,rfl⟩,by rw[put_l];exact k⟩
 ·exact⟨v,.inl ⟨hw,fun w hs=>hy rfl w hs⟩,by rw[put_l];exact k⟩
theorem Ro(k:K ⟨(l.set d (mb wq v)).toArray,df⟩)(hv:(⟨l.toArray,df⟩:Act).eval x=mb wq v:=by(simp only[eS];rfl)):GdO S P ops ⟨some d,.move x,ty,pos,after,some g⟩ ⟨l.toArray,df⟩ wq K:=
 eI (fun h w _=>by subst h;show Sem.run _ _ _=_;simp only[execOp,hv];rfl) k
theorem gB(k:K ⟨(l.set d (mb wq v)).toArray,df⟩)(hv:(⟨l.toArray,df⟩:Act).eval x=v:=by(simp only[eS];rfl)):GdO S P ops ⟨some d,.move x,ty,pos,after,some g⟩ ⟨l.toArray,df⟩ wq K:=
 eI (fun h w _=>by subst hv;rfl) k
theorem jJ(hl:wq=true→∀w,S w→LoadC P w t p v)(k:K ⟨(l.set d (mb wq v)).toArray,df⟩)(hx:(⟨l.toArray,df⟩:Act).eval x=mb wq (.pointer (some p)):=by(simp only[eS];rfl)):GdO S P ops ⟨some d,.load t x,ty,pos,after,some g⟩ ⟨l.toArray,df⟩ wq K:=
 eI (fun h w hw=>by have:=hl h w hw;subst h;exact aJ hx) k
theorem Rn{c1 c2:Bool}(k:K ⟨(l.set d (mb wq (.bool (c1&&c2)))).toArray,df⟩)(hx:(⟨l.toArray,df⟩:Act).eval x=mb wq (.bool c1):=by(simp only[eS];rfl))(hy:(⟨l.toArray,df⟩:Act).eval y=mb (wq&&c1) (.bool c2):=by(simp only[eS];rfl)):GdO S P ops ⟨some d,.pick x y (.const (.bool false)),ty,pos,after,some g⟩ ⟨l.toArray,df⟩ wq K:=
 eI (fun h w _=>by subst h;cases c1<;>simp[execOp,hx,hy,asBool,mb,evC]) k
end
end Go.Bp
end
