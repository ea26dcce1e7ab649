/- Chapter 03: contracts of functions of the program and of the reference, and plain laws (out of Spec NSF NSH). No condition of its own. -/
import Derived.Test.YtfjnacajjpaeiaaGreatDoorQN01
set_option maxRecDepth 100000
set_option linter.all false
section
namespace Go.Bp
open Go.RowKit
theorem Xs(xs:List Int):(gA xs).length=xs.length:=by simp[gA]
namespace Code
end Code
namespace Code
end Code
namespace Code
variable{c:Code}
end Code
end Go.Bp
end
section
namespace Go.Walk
open Go Go.Bp Go.St Go.RowKit Go.Proofs
instance:ZeroT Tryz.prog 41 [.slice none 0 0]:=⟨.slice none 0 0,24,by kernel_rfl,by simp[Value.cells],by decide⟩
instance:ZeroT Tryz.prog 23 [.slice none 0 0]:=⟨.slice none 0 0,24,by kernel_rfl,by simp[Value.cells],by decide⟩
instance:ZeroT Tryz.prog 87 [.int .i64 0,.int .i64 0,.int .i64 0,.int .i64 0,.int .i64 0,.bool false,.slice none 0 0]:=⟨.agg #[.int .i64 0,.int .i64 0,.int .i64 0,.int .i64 0,.int .i64 0,.bool false,.slice none 0 0],72,by kernel_rfl,by simp[Value.cells],by decide⟩
instance:ZeroT Tryz.prog 25 [.slice none 0 0,.slice none 0 0,.slice none 0 0,.slice none 0 0]:=⟨.agg #[.slice none 0 0,.slice none 0 0,.slice none 0 0,.slice none 0 0],96,by kernel_rfl,by simp[Value.cells],by decide⟩
instance:ZeroT Tryz.prog 4 [.bool false]:=⟨.bool false,1,by kernel_rfl,by simp[Value.cells],by decide⟩
section
variable{a W B:World}{g n m c0 c1 size:Nat}{t e:TypeId}{l cs:List Value}{v:Value}{P:Program}
variable{ops:Array Oper}{Q:Exit→Act→World→Prop}{A:Act}{rest:List Oper}
variable{d:Option Tmp}{ty:TypeId}{pos:String}{after:Array Edge}{x y:Operand}{z:List Value}{A0 A1:Option Addr}
class SlC (W:World) (v:Value) (size n:outParam Nat) (cells:outParam (List Value)):Prop where h:Sl W size v n cells∧∀u∈cells,u.oneCell'=true
theorem Xf:∀(l:List Int),∀u∈gA l,u.oneCell'=true
 | [],u,hu=>by simp[gA] at hu
 |x::l,u,hu=>by
  simp only[gA,List.mem_cons,List.map_cons] at hu;rcases hu with rfl|hu
  ·rfl
  ·exact Xf l u hu
instance{l:List Int}[p:IntsC W v l]:SlC W v 1 l.length (gA l):=⟨p.h,Xf l⟩
theorem Wi{sz:Nat}[st:SlT P t e][q:ZeroT P e z]
 (k:∀W' g,StepC W W'→RowC W' (.slice (some ⟨g,0,none⟩) 0 0) W e sz 0 []→wpList P ops Q rest (A.put d (.slice (some ⟨g,0,none⟩) 0 0)) W')
 (h:z.length=sz∧0<z.length:=by(refine⟨by(simp;with_unfolding_all rfl),by simp⟩)):
 wpList P ops Q (⟨d,.buildSlice t 0 #[],ty,pos,after,none⟩::rest) A W:=by
 obtain⟨rfl,hz⟩:=h;refine oR (z:=z) (l:=[]) (fun W' g h1 h2 h3=>k W' g h1 ⟨by simp,.inr ⟨g,0,#[],rfl,h3.h,?_,?_⟩⟩) ⟨by rfl,by simp,by rfl,by simp,hz⟩
 ·exact h2.h
 ·simp
theorem Wv[st:SlT P t e][q:ZeroT P e z]
 (k:∀A' c' W',RowC W' (.slice A' (n+m) c') B e size (n+m) (cs++l)→GrowC W W' B (.slice A0 n c0)→wpList P ops Q rest (A.put d (.slice A' (n+m) c')) W')
 (h:A.eval x=.slice A0 n c0∧RowC W (.slice A0 n c0) B e size n cs∧A.eval y=.slice A1 m c1∧SlC W (.slice A1 m c1) size m l∧size=z.length∧ExtC B W∧0<z.length∧n+m≤100000000:=by
  (refine⟨by with_unfolding_all rfl,?_⟩;refine⟨by infer_instance,?_⟩;refine⟨by with_unfolding_all rfl,?_⟩;refine⟨by infer_instance,by simp,by infer_instance,by simp,by(first|omega|(simp;omega))⟩)):
 wpList P ops Q (⟨d,.call {callee:=.builtin .append,args:=#[x,y],argTypes:=#[t,t]},ty,pos,after,none⟩::rest) A W:=by
 obtain⟨h1,h2,h3,h4,rfl,h7,h8,h9⟩:=h;obtain⟨zv,b,i1,i2,i3⟩:=q.h;have hb:(n+m)*b≤100000000*1000:=Nat.mul_le_mul h9 i3;obtain⟨⟨A2,c2,e2,_,_,s3,s4⟩,s5⟩:=h4.h;injection e2 with e21 _ e23
 subst e21 e23;refine qF st.h i1 (by rw[i2];simp) h8 h1 h2.h h3 s4 s3 s5 (by omega) (by unfold maxLen;omega) h7.h.size fun v' W' r1 r2 r3=> ?_
 obtain⟨A',c',rfl,_⟩:=Sl.of_own r1;exact k A' c' W' ⟨r1⟩ ⟨r2,fun g hg=>(h2.from_ hg).1⟩
theorem Wh{uu:Tmp}{ty':TypeId}{pos':String}{after':Array Edge}[q:ZeroT P e z]
 (k:∀W0,W0=W→∀W' g,StepC W0 W'→BlkC W' g e l→AtC W0 g→wpList P ops Q rest ((A.put (some uu) (.pointer (some ⟨g,0,none⟩))).put d undef) W')
 (hy:∀g,((A.put (some uu) (.pointer (some ⟨g,0,none⟩))).eval y).cells=l.toArray:=by(intro g;simp[Act.eval,Act.put,Value.cells];with_unfolding_all rfl))
 (hu:∀g,(A.put (some uu) (.pointer (some ⟨g,0,none⟩))).eval x=.pointer (some ⟨g,0,none⟩):=by(intro g;with_unfolding_all rfl))(hn:l.length=z.length:=by with_unfolding_all rfl)(h1:∀c∈l,c.oneCell'=true:=by simp[Value.oneCell']):
 wpList P ops Q (⟨some uu,.alloc e,ty,pos,after,none⟩::⟨d,.store e x y,ty',pos',after',none⟩::rest) A W:=oQ (k W rfl) hy hu hn h1
theorem Xc(l:List Int)(s:Int):gA l++ [.int .i64 s]=gA (l++ [s]):=by simp[gA]
theorem Xl{b:World}{l:List Int}(p:RowC W v b 3 1 n (gA l)):bG W v l:=by
 have h:=Sl.of_own p.h;have h1:=p.h.1;rw[Xs] at h1;have:n=l.length:=by omega
 subst this;exact h
instance{b:World}{l:List Int}[p:RowC W v b 3 1 n (gA l)]:IntsC W v l:=⟨Xl p⟩
class HasE (s n:Int) (b:outParam Bool):Prop where h:∃m:Nat,n=m∧m≤61∧(0≤s∧s≤1000000)∧cZ s m=b
instance{s k:Int}{b:Bool}[p:HasE s k b]:FunC Tryz.prog 43 #[.int .i64 s,.int .i64 k] W (RB W b):=⟨by
 obtain⟨m,rfl,h1,h2,rfl⟩:=p.h;exact(Ep s m h2.1 h2.2 h1 W).mono fun e W' ⟨h,hE⟩=>⟨h,⟨hE▸Ext.refl _⟩⟩⟩
end
end Go.Walk
end
section
namespace Go.Walk
open Go Go.Bp Go.St Go.RowKit Go.Proofs
section
variable{W Bv9:World}{n c p:Nat}{A0:Option Addr}{rows:List (List Int)}
theorem Xs(l:List Int):(gA l).length=l.length:=by simp[gA]
end
end Go.Walk
end
