/- Chapter 03: contracts of functions of the program and of the reference, and plain laws (out of SOQ). No condition of its own. -/
import Derived.Test.YtfjnacajjpaeiaaGreatDoorP21
set_option maxRecDepth 100000
set_option linter.all false
section
namespace Go.St
open Go Go.Bp Go.RowKit Go.Proofs Go.ChangeShapes Go.WideShapes Go.ChangeAt
section
variable{H:Type}{enc:TypeId×Value→H}{w:World}{b0:Nat}
theorem Tw:Tryz.prog.cellsOf 5=1:=by kernel_rfl
theorem Uc:Tryz.prog.cellsOf 80=2:=by kernel_rfl
theorem Uu{n:Int}(h:(Lit.int .u8 n).wf=true):0≤n∧n≤255:=by
 simp[Lit.wf,IntKind.min,IntKind.max,IntKind.signed,IntKind.bits] at h;omega
theorem Ui{n:Nat}{cs:List Value}{x:DataW H×List MemPlace}(h:DataW.trod enc Tryz.prog w 0 (fun _=>true) true n 5 cs=some x):∃k,cs=[.int .u8 k]∧0≤k∧k≤255:=by
 obtain⟨k,h1,_,h2⟩:=DataW.trod_int Tryz.underlying5 h;exact⟨k,h1,Uu h2⟩
theorem Uj{v:Value}{d:DataW H}{p:List MemPlace}(hv:Value.okWide Tryz.prog w .any b0 80 v)(h:DataW.Trod enc Tryz.prog w 0 (fun _=>true) true 80 v d p):∃m n,v=.agg #[.int .u8 m,.int .u8 n]∧(0≤m∧m≤255)∧0≤n∧n≤255:=by
 obtain⟨cs,rfl,hcs⟩:=Co Tryz.underlying80 hv;obtain⟨fuel,hf⟩:=h;obtain⟨xs,m,_,_,hl,hx,hE⟩:=DataW.trod_array Tryz.underlying80 hf;rw[Uc] at hl;have e0:=hE 0 (by decide);have e1:=hE 1 (by decide)
 rw[Tw] at e0 e1;rw[List.getElem?_eq_getElem (by omega)] at e0 e1
 obtain⟨a,h0,ha⟩:=Ui e0;obtain⟨b,h1,hb⟩:=Ui e1;have:=Lv hl (by simpa using h0) (by simpa using h1)
 refine⟨a,b,?_,ha,hb⟩;have:cs=#[.int .u8 a,.int .u8 b]:=by apply Array.ext';simpa [Value.cells] using this
 rw[this]
end
end Go.St
end
