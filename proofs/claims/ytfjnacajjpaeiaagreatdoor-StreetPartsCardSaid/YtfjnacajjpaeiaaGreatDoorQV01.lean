/- Chapter 03: contracts of functions of the program and of the reference, and plain laws (out of NSE). No condition of its own. -/
import Derived.Test.YtfjnacajjpaeiaaGreatDoorQN01
set_option maxRecDepth 100000
set_option linter.all false
section
namespace Go.Walk
open Go Go.Bp Go.St Go.RowKit Go.Proofs
section
variable{a W:World}{g i n c k:Nat}{t e:TypeId}{l s:List Value}{v u:Value}{P:Program}{p:Addr}
variable{ops:Array Oper}{Q:Exit→Act→World→Prop}{A:Act}{rest:List Oper}
variable{d:Option Tmp}{ty ty':TypeId}{pos pos':String}{after after':Array Edge}{x y:Operand}{z:List Value}{A0:Option Addr}
def Vj(A:Option Addr)(c k s:Nat):Option Addr:=if c=k then A else A.map (·.add (k*s))
theorem Vo(h:ZeroT P e z):∃i,P.info? e=some i∧i.size=z.length:=by
 have:=h.size
 cases hi:P.info? e with
 |none=>rw[hi] at this;cases this
 |some i=>rw[hi] at this;exact⟨i,rfl,by simpa using this⟩
theorem Vb{gd:Option (Tmp×Bool)}[st:SlT P t e][q:ZeroT P e z](h:A.eval x=.slice A0 n c∧A.eval y=.int .i64 (k:Int)∧k≤c∧v=.slice A0 k c:=by refine⟨by with_unfolding_all rfl,by with_unfolding_all rfl,by omega,by with_unfolding_all rfl⟩):
 (execOp A.eval (⟨d,.slice t x none (some y) none,ty,pos,after,gd⟩:Oper)).run P W=.ok (.value v) W:=by
 obtain⟨h1,h2,h3,rfl⟩:=h;obtain⟨i,hi,hs⟩:=Vo q;have hb:(Instr.sliceBound (.int .i64 (k:Int)) c .sliceAcap).run P W=.ok k W:=by rw[run_sliceBound _ _ _ _ _ (by omega) (by omega)];simp
 simp[execOp,h1,h2,Instr.sliceAt,run_underlying st.h,Instr.slice,Instr.sliceBounds,hb,sizeOf,typeInfo,hi,hs,Result.andThen];intro _
 cases A0<;>simp[Addr.add]
theorem Vc{gd:Option (Tmp×Bool)}{sz:Nat}[st:SlT P t e][q:ZeroT P e z](h:A.eval x=.slice A0 n c∧A.eval y=.int .i64 (k:Int)∧k≤n∧n≤c∧z.length=sz∧v=.slice (Vj A0 c k sz) (n-k) (c-k):=by refine⟨by with_unfolding_all rfl,by with_unfolding_all rfl,by omega,by omega,by(simp;with_unfolding_all rfl),by with_unfolding_all rfl⟩):
 (execOp A.eval (⟨d,.slice t x (some y) none none,ty,pos,after,gd⟩:Oper)).run P W=.ok (.value v) W:=by
 obtain⟨h1,h2,h3,h4,rfl,rfl⟩:=h;obtain⟨i,hi,hs⟩:=Vo q;have hb:(Instr.sliceBound (.int .i64 (k:Int)) n .sliceB).run P W=.ok k W:=by rw[run_sliceBound _ _ _ _ _ (by omega) (by omega)];simp
 simp[execOp,h1,h2,Instr.sliceAt,run_underlying st.h,Instr.slice,Instr.sliceBounds,hb,sizeOf,typeInfo,hi,hs,Result.andThen,Vj]
theorem Vl{f:FuncId}{ar:Array Operand}{ats:Array TypeId}{args:Array Value}{R:Ending→World→Prop}{gd:Tmp×Bool}
 (k:∀e W',R e W'→∃v,e=.returned v∧wpList P ops Q rest (A.put d v) W')
 (h:ar.map A.eval=args∧FunC P f args W R∧(execOp A.eval (⟨d,.call {callee:=.value (Operand.func f),args:=ar,argTypes:=ats},ty,pos,after,some gd⟩:Oper)).run P W=.ok (.enter f args) W∧Region.wanted (⟨d,.call {callee:=.value (Operand.func f),args:=ar,argTypes:=ats},ty,pos,after,some gd⟩:Oper) (yielded ops A.tmps)=true:=by
  (refine⟨by(simp[Act.eval];with_unfolding_all rfl),?_⟩;refine⟨by infer_instance,by go_simp,by with_unfolding_all rfl⟩)):
 wpList P ops Q (⟨d,.call {callee:=.value (Operand.func f),args:=ar,argTypes:=ats},ty,pos,after,some gd⟩::rest) A W:=by
 refine wpList_step fun K hK=> ?_
 rw[if_pos h.2.2.2];unfold Oper.wp;rw[h.2.2.1];refine Calls.mono h.2.1.h fun e w' he=> ?_
 obtain⟨v,rfl,hk⟩:=k e w' he;exact hK _ _ hk
theorem Vg:∀(l:List Step)(k:Nat),dJ (l.take k)=(dJ l).take (k*2)
 | [],k=>by simp[dJ]
 |x::l,0=>by simp[dJ]
 |x::l,k+1=>by rw[List.take_succ_cons,dJ,Vg l k,dJ,show(k+1)*2=k*2+1+1 by omega];rfl
theorem Vh:∀(l:List Step)(k:Nat),dJ (l.drop k)=(dJ l).drop (k*2)
 | [],k=>by simp[dJ]
 |x::l,0=>by simp
 |x::l,k+1=>by rw[List.drop_succ_cons,Vh l k,dJ,show(k+1)*2=k*2+1+1 by omega];rfl
theorem Ve{l:List Step}(h:bY W (.slice A0 l.length c) l)(hk:k≤l.length):bY W (.slice A0 k c) (l.take k):=by
 obtain⟨A1,c1,e,h1,h2,h3,h4⟩:=h;injection e with e1 e2 e3
 subst e1 e3;have hl:(l.take k).length=k:=by rw[List.length_take];omega
 refine⟨A0,c,by rw[hl],by omega,h2,by rw[Gp],fun hp=> ?_⟩
 obtain⟨ad,rfl,hc⟩:=h4 (by omega)
 refine⟨ad,rfl,?_⟩;rw[Vg];intro j u hu;refine hc j u ?_;rw[List.getElem?_take] at hu;split at hu
 ·exact hu
 ·cases hu
theorem Vf{l:List Step}(h:bY W (.slice A0 l.length c) l)(hk:k≤l.length):bY W (.slice (Vj A0 c k 2) (l.length-k) (c-k)) (l.drop k):=by
 obtain⟨A1,c1,e,h1,h2,h3,h4⟩:=h;injection e with e1 e2 e3
 subst e1 e3;have hl:(l.drop k).length=l.length-k:=List.length_drop;refine⟨_,_,by rw[hl],by omega,by omega,by rw[Gp],fun hp=> ?_⟩
 obtain⟨ad,rfl,hc⟩:=h4 (by omega)
 unfold Vj;rw[if_neg (by omega)]
 refine⟨_,rfl,?_⟩;rw[Vh];exact hc.sub (k*2) fun j u hu=>by rwa [List.getElem?_drop] at hu
end
end Go.Walk
end
