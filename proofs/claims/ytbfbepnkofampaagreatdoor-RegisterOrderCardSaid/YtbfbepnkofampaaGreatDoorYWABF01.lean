/- Chapter 11: contracts of functions of the program and of the reference, and plain laws (out of RSh). No condition of its own. -/
import Derived.Test.YtbfbepnkofampaaGreatDoorYP14
set_option maxRecDepth 100000
set_option linter.all false
section
namespace Go.Rg
open Go Go.Bp Go.RowKit Go.Walk Go.Proofs
set_option synthInstance.maxSize 2000
set_option synthInstance.maxHeartbeats 400000
set_option maxHeartbeats 4000000
theorem eq45(W:World)(a b c a' b' c':Int):(Op.equalIn 10000 45 (.agg #[.int .i64 a,.int .i64 b,.int .i64 c]) (.agg #[.int .i64 a',.int .i64 b',.int .i64 c'])).run Tryz.prog W=.ok (decide (a=a'∧b=b'∧c=c')) W:=by
 rw[show(10000:Nat)=9999+1 from rfl,run_equalIn_struct W 9999 45 _ _ (by kernel_rfl) (by kernel_rfl)]
 obtain⟨l,hl⟩:∃l,(Tryz.prog.fieldsOf 45).toList=l:=⟨_,rfl⟩;have hf:(Tryz.prog.fieldsOf 45).toList.map (fun f=>(f.name,f.type,f.offset))=[("Counts",3,0),("Fallen",3,1),("Taken",3,2)]:=by kernel_rfl
 rw[hl] at hf⊢;have hlen:l.length=3:=by have:=congrArg List.length hf;simpa using this
 obtain⟨f0,f1,f2,rfl⟩:∃f0 f1 f2,l=[f0,f1,f2]:=by
  rcases l with _|⟨f0,_|⟨f1,_|⟨f2,_|⟨f3,l⟩⟩⟩⟩<;>simp at hlen
  exact⟨f0,f1,f2,rfl⟩
 simp only[List.map_cons,List.map_nil,List.cons.injEq,Prod.mk.injEq,and_true] at hf;obtain⟨⟨n0,t0,o0⟩,⟨n1,t1,o1⟩,⟨n2,t2,o2⟩⟩:=hf;have hA:∀(f:Field),f.type=3→∀w,(isAgg f.type).run Tryz.prog w=.ok false w:=fun f e w=>by rw[e];exact Tryz.isAgg3 w
 rw[show(9999:Nat)=9998+1 from rfl]
 rw[eqF_int (f:=f0) (a:=a) (b:=a') (by rw[n0];decide) (by rw[t0];kernel_rfl) (hA f0 t0) (by rw[o0];rfl) (by rw[o0];rfl)]
 rw[eqF_int (f:=f1) (a:=b) (b:=b') (by rw[n1];decide) (by rw[t1];kernel_rfl) (hA f1 t1) (by rw[o1];rfl) (by rw[o1];rfl)]
 rw[eqF_int (f:=f2) (a:=c) (b:=c') (by rw[n2];decide) (by rw[t2];kernel_rfl) (hA f2 t2) (by rw[o2];rfl) (by rw[o2];rfl)]
 have e1:(Op.eqFields (9998+1) #[Value.int .i64 a,.int .i64 b,.int .i64 c] #[Value.int .i64 a',.int .i64 b',.int .i64 c'] []).run Tryz.prog W=.ok true W:=by simp[Op.eqFields]
 rw[e1];by_cases h0:a=a'
 ·by_cases h1:b=b'
  ·by_cases h2:c=c'<;>simp[*]
  ·simp[*]
 ·simp[*]
theorem eql45(W:World)(a b c a' b' c':Int):(binOp .eql 45 (.agg #[.int .i64 a,.int .i64 b,.int .i64 c]) (.agg #[.int .i64 a',.int .i64 b',.int .i64 c'])).run Tryz.prog W=.ok (.bool (decide (a=a'∧b=b'∧c=c'))) W:=by
 rw[run_eql_struct,eq45];rfl
end Go.Rg
end
