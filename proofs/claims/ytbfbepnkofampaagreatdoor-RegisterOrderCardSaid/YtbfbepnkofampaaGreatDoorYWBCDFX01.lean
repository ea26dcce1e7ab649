/- Chapter 11: contracts of functions of the program and of the reference, and plain laws (out of ROP ROE RZc). No condition of its own. -/
import Derived.Shelf.Slices.In.SortNone
import Derived.Shelf.Slices.SearchI
import Derived.Shelf.Small.Wraps
import Derived.Shelf.Sort.Plain
import Derived.Shelf.Strconv.AtoiAll
import Derived.Shelf.Strconv.Itoa3
import Derived.Shelf.Strings.BuilderK
import Derived.Shelf.Strings.Explode
import Derived.Shelf.Strings.OnBuilder
import Derived.Shelf.Strings.Repeat
import Derived.Shelf.Strings.Shaped
import Derived.Shelf.Strings.SplitShaped
import Derived.Shelf.Unicode.DecodeAny
import Derived.Shelf.Utf8.RuneCount
import Derived.Stop.LaidErr
import Derived.Test.YtbfbepnkofampaaGreatDoorCards
import Derived.Test.YtbfbepnkofampaaGreatDoorTie
import Derived.Test.YtbfbepnkofampaaGreatDoorYPX05
import Derived.Test.YtbfbepnkofampaaGreatDoorYWBCDF01
set_option maxRecDepth 100000
set_option linter.all false
section
namespace Go.Rg
open Go Go.Bp Go.RowKit Go.Walk Go.Proofs Go.ChangeShapes Go.WideShapes Go.ChangeAt
structure U8 where
 v:Int
instance qROP15:Enc U8:=⟨1,fun x=>[.int .u8 x.v],fun x=>.int .u8 x.v,fun _=>rfl,by simp[Value.oneCell']⟩
section
variable{H:Type}{enc:TypeId×Value→H}{w:World}{b0:Nat}
theorem cells5:Tryz.prog.cellsOf 5=1:=by kernel_rfl
theorem cells57:Tryz.prog.cellsOf 57=3:=by kernel_rfl
theorem cells78:Tryz.prog.cellsOf 78=1:=by kernel_rfl
theorem cells82:Tryz.prog.cellsOf 82=13:=by kernel_rfl
theorem wf_u8{n:Int}(h:(Lit.int .u8 n).wf=true):0≤n∧n≤255:=by
 simp[Lit.wf,IntKind.min,IntKind.max,IntKind.signed,IntKind.bits] at h;omega
theorem at_u8{n:Nat}{cs:List Value}{x:DataW H×List MemPlace}(h:Tr enc w n 5 cs x):∃k,cs=[.int .u8 k]∧0≤k∧k≤255:=by
 obtain⟨k,h1,_,h2⟩:=DataW.trod_int Tryz.underlying5 h;exact⟨k,h1,wf_u8 h2⟩
theorem at_drive{n:Nat}{cs:List Value}{x:DataW H×List MemPlace}(h:Tr enc w n 57 cs x):∃d:Drive,cs=Enc.enc d:=by
 obtain⟨xs,m,_,_,hl,hx,hE⟩:=DataW.trod_struct Tryz.underlying57 h;rw[cells57] at hl;have hx3:xs.length=3:=hx;have e0:DataW.trod enc Tryz.prog w 0 (fun _=>true) true m 3 ((cs.drop 0).take (Tryz.prog.cellsOf 3))=xs[0]? :=hE 0 _ rfl;rw[cells3,List.getElem?_eq_getElem (by omega)] at e0
 have e1:DataW.trod enc Tryz.prog w 0 (fun _=>true) true m 3 ((cs.drop 1).take (Tryz.prog.cellsOf 3))=xs[1]? :=hE 1 _ rfl;rw[cells3,List.getElem?_eq_getElem (by omega)] at e1
 have e2:DataW.trod enc Tryz.prog w 0 (fun _=>true) true m 3 ((cs.drop 2).take (Tryz.prog.cellsOf 3))=xs[2]? :=hE 2 _ rfl;rw[cells3,List.getElem?_eq_getElem (by omega)] at e2
 obtain⟨a,h0⟩:=at_int e0;obtain⟨b,h1⟩:=at_int e1;obtain⟨c,h2⟩:=at_int e2;refine⟨⟨a,b,c⟩,?_⟩;have e:=chop 0 1 1 h0 rfl;rw[chop 1 1 2 h1 rfl,chop 2 1 3 h2 rfl,drop_end hl] at e;simpa [Enc.enc] using e
theorem arg_told{v:Value}{d:DataW H}{p:List MemPlace}(hv:Value.okWide Tryz.prog w .any b0 82 v)(h:DataW.Trod enc Tryz.prog w 0 (fun _=>true) true 82 v d p):
 ∃dd dc df A c us xk xd xc xo xt xq xp xu xm,v=.agg #[.int .i64 dd,.int .i64 dc,.int .i64 df,.slice A (List.length us) c,.int .i64 xk,.int .i64 xd,.int .i64 xc,.int .i64 xo,.int .i64 xt,.int .i64 xq,.int .i64 xp,.int .i64 xu,.int .i64 xm]∧ListV w (.slice A us.length c) us∧∀u∈us,0≤U8.v u∧U8.v u≤255:=by
 obtain⟨ca,rfl,hcs⟩:=okWide_struct Tryz.underlying82 hv;obtain⟨fuel,h⟩:=h;obtain⟨cs,hcs⟩:∃cs,(Value.agg ca).cells.toList=cs:=⟨_,rfl⟩;rw[hcs] at h;obtain⟨xs,m,_,_,hl,hx,hE⟩:=DataW.trod_struct Tryz.underlying82 h;rw[cells82] at hl;have hx3:xs.length=3:=hx;have e0:DataW.trod enc Tryz.prog w 0 (fun _=>true) true m 57 ((cs.drop 0).take (Tryz.prog.cellsOf 57))=xs[0]? :=hE 0 _ rfl;rw[cells57,List.getElem?_eq_getElem (by omega)] at e0
 have e1:DataW.trod enc Tryz.prog w 0 (fun _=>true) true m 78 ((cs.drop 3).take (Tryz.prog.cellsOf 78))=xs[1]? :=hE 1 _ rfl;rw[cells78,List.getElem?_eq_getElem (by omega)] at e1
 have e2:DataW.trod enc Tryz.prog w 0 (fun _=>true) true m 80 ((cs.drop 4).take (Tryz.prog.cellsOf 80))=xs[2]? :=hE 2 _ rfl;rw[cells80,List.getElem?_eq_getElem (by omega)] at e2
 obtain⟨⟨dd,dc,df⟩,h0⟩:=at_drive e0;obtain⟨A,c,us,h1,hL,hu⟩:=open_list (α:=U8) (fun u=>0≤u.v∧u.v≤255) Tryz.underlying78 cells5 (fun n c1 y hy=>by obtain⟨k,hk,hb⟩:=at_u8 hy;exact⟨⟨k⟩,hk,hb⟩) e1
 obtain⟨⟨xk,xd,⟨xc,xo⟩,xt,xq,xp,xu,xm⟩,h2⟩:=at_event e2;have e:=chop 0 3 3 h0 rfl;rw[chop 3 1 4 h1 rfl,chop 4 9 13 h2 rfl,drop_end hl] at e;refine⟨dd,dc,df,A,c,us,xk,xd,xc,xo,xt,xq,xp,xu,xm,?_,hL,hu⟩;rw[agg_of hcs];congr 2
end
end Go.Rg
end
section
namespace Go.Rg
open Go Go.Bp Go.RowKit Go.Walk Go.Proofs Go.ChangeShapes Go.WideShapes Go.ChangeAt
theorem room_person{H:Type}{enc:TypeId×Value→H}{w:World}{v:Value}{d:DataW H}{p:List MemPlace}{q:Person}(h:DataW.Trod enc Tryz.prog w 0 (fun _=>true) true 31 v d p)(hq:PersonV w v q)(hw:(d.weights Tryz.prog 31).all (· ≤reachBytes)=true):(q.events.length+1)*72≤140737488355328:=by
 obtain⟨A,c,rfl,hL⟩:=hq.h;obtain⟨fuel,h⟩:=h;obtain⟨cs,hcs⟩:∃cs,(Value.agg #[.int .i64 q.born,.slice A q.events.length c]).cells.toList=cs:=⟨_,rfl⟩;have hcs2:cs=[.int .i64 q.born,.slice A q.events.length c]:=by rw[←hcs];simp[Value.cells]
 rw[hcs] at h;obtain⟨xs,m,_,hd,hl,hx,hE⟩:=DataW.trod_struct Tryz.underlying31 h;have hx3:xs.length=2:=hx;have e1:DataW.trod enc Tryz.prog w 0 (fun _=>true) true m 29 ((cs.drop 1).take (Tryz.prog.cellsOf 29))=xs[1]? :=hE 1 _ rfl
 rw[cells29,List.getElem?_eq_getElem (by omega),hcs2] at e1
 obtain⟨x0,x1,rfl⟩:∃x0 x1,xs=[x0,x1]:=by
  rcases xs with _|⟨a,_|⟨b,_|⟨c,l⟩⟩⟩<;>simp at hx3
  exact⟨a,b,rfl⟩
 simp only[List.drop_succ_cons,List.drop_zero,List.take_succ_cons,List.take_zero,List.getElem_cons_succ,List.getElem_cons_zero] at e1;have hd1:d=.agg [x0.1,x1.1]:=by
  have:=congrArg Prod.fst hd;simpa using this
 subst hd1;have hb:Tryz.prog.bytesOf 80=72:=by kernel_rfl
 have hwt:∀n∈x1.1.weights Tryz.prog 29,n≤reachBytes:=by
  intro n hn;have h1:n∈(DataW.agg [x0.1,x1.1]).weights Tryz.prog 31:=by
   unfold DataW.weights;rw[Tryz.underlying31];simp[DataW.weightsEach,hn]
  have:=List.all_eq_true.1 hw n h1;simpa using this
 rcases DataW.trod_slice Tryz.underlying29 e1 with ⟨e2,_⟩|⟨ad,len,cap,elems,rest,n,_,e2,hxe,_,hlc,hm,hlen,hE2,hr,_⟩
 ·simp only[List.cons.injEq,Value.slice.injEq,and_true] at e2;rw[e2.2.1];decide
 ·simp only[List.cons.injEq,Value.slice.injEq,and_true] at e2;obtain⟨rfl,rfl,rfl⟩:=e2;have hrl:=(hr rfl).1;have h2:(elems.length+rest.length)*Tryz.prog.bytesOf 80∈x1.1.weights Tryz.prog 29:=by
   rw[hxe];simp only;unfold DataW.weights;rw[Tryz.underlying29];simp
  have h3:=hwt _ h2;rw[hb] at h3;have h4:(q.events.length+1)*72=q.events.length*72+72:=Nat.succ_mul _ _;have h5:q.events.length*72≤(elems.length+rest.length)*72:=Nat.mul_le_mul_right 72 (by omega)
  have h6:reachBytes+72≤140737488355328:=by decide
  rw[h4];exact Nat.le_trans (Nat.add_le_add_right (Nat.le_trans h5 h3) 72) h6
theorem room_of{H:Type}{enc:TypeId×Value→H}{w:World}{fn:Func}{s:OpenSpec}{v0 v1 v2:Value}{q:Person}(hp:fn.params=#[28,31,82])(hz:sizedMet enc Tryz.prog fn s false w #[v0,v1,v2])(hq:PersonV w v1 q):(q.events.length+1)*72≤140737488355328:=by
 obtain⟨_,ds,gs,bf,⟨p,q',hA,_⟩,hw⟩:=hz;rw[hp] at hA hw;have hA':DataW.TrodAll enc Tryz.prog w 0 (fun _=>true) true [28,31,82] (#[v0,v1,v2]:Array Value).toList ds p:=hA
 obtain⟨a,b,c,d0,d1,d2,p0,p1,p2,e,rfl,_,h0,h1,h2⟩:=trodAll_three hA';have e':=congrArg Array.toList e;simp only[List.cons.injEq,and_true] at e';obtain⟨rfl,rfl,rfl⟩:=e';refine room_person h1 hq ?_;rw[List.all_eq_true] at hw⊢;intro n hn;refine hw n ?_;simp[DataW.weightsEach,hn]
end Go.Rg
end
section
namespace Go.Rg
open Go Go.Bp Go.RowKit Go.Walk Go.Proofs
set_option synthInstance.maxSize 2000
set_option synthInstance.maxHeartbeats 400000
set_option maxHeartbeats 4000000
class FewE (p:Person):Prop where h:(p.events.length+1)*72≤140737488355328
instance bytZc:BytT Tryz.prog 80 72:=⟨by kernel_rfl⟩
theorem with_row(p:Person)(pv:Value)(kd dy c o t cl po un mi:Int)(w:World)(hp:PersonV w pv p)(hn:(p.events.length+1)*72≤140737488355328):Calls Tryz.prog 46 #[pv,.agg #[.int .i64 kd,.int .i64 dy,.int .i64 c,.int .i64 o,.int .i64 t,.int .i64 cl,.int .i64 po,.int .i64 un,.int .i64 mi]] w (fun e W'=>∃A k B,e=.returned (.agg #[.int .i64 p.born,.slice A (p.events.length+1) k])∧RowC W' (.slice A (p.events.length+1) k) B 80 9 (p.events.length+1) (encL (p.events++ [(⟨kd,dy,⟨c,o⟩,t,cl,po,un,mi⟩:Event)]))∧StepC w W'):=by
 obtain⟨A,k,rfl,hl⟩:=hp.h;have i1:=ListB.mk hl;have i5:RoomC 0 p.events.length 72:=⟨Nat.le_trans (Nat.mul_le_mul_right 72 (by omega)) hn⟩
 have i6:RoomC (0+p.events.length) 1 72:=⟨by rw[Nat.zero_add];exact hn⟩
 clear hn;go_enter Tryz.func46,Tryz.ntmps46
 go_wp2_with (first|(with_reducible refine box_c ?_;intro V g _ _ _)|(with_reducible refine alloc_c ?_;intro V g _ _ _))
 refine wp_rt3 ((.take 1 (.three 0 (.two 2 (.two 3 (.one 4 (.one 5 (.one 6 (.take 7 (.one 8 .nil))))) 4 (.two 3 (.one 5 (.one 6 (.take 7 (.one 8 .nil)))) 5 (.one 3 (.one 6 (.take 7 (.one 8 .nil)))))) 4 (.two 2 (.two 3 (.one 5 (.one 6 (.take 7 (.one 8 .nil)))) 5 (.one 3 (.one 6 (.take 7 (.one 8 .nil))))) 5 (.one 2 (.one 3 (.one 6 (.take 7 (.one 8 .nil))))))) 2 (.two 0 (.two 3 (.one 4 (.one 5 (.one 6 (.take 7 (.one 8 .nil))))) 4 (.two 3 (.one 5 (.one 6 (.take 7 (.one 8 .nil)))) 5 (.one 3 (.one 6 (.take 7 (.one 8 .nil)))))) 4 (.two 0 (.two 3 (.one 5 (.one 6 (.take 7 (.one 8 .nil)))) 5 (.one 3 (.one 6 (.take 7 (.one 8 .nil))))) 5 (.one 0 (.one 3 (.one 6 (.take 7 (.one 8 .nil))))))) 4 (.three 0 (.two 2 (.two 3 (.one 5 (.one 6 (.take 7 (.one 8 .nil)))) 5 (.one 3 (.one 6 (.take 7 (.one 8 .nil))))) 5 (.one 2 (.one 3 (.one 6 (.take 7 (.one 8 .nil)))))) 2 (.two 0 (.two 3 (.one 5 (.one 6 (.take 7 (.one 8 .nil)))) 5 (.one 3 (.one 6 (.take 7 (.one 8 .nil))))) 5 (.one 0 (.one 3 (.one 6 (.take 7 (.one 8 .nil)))))) 5 (.two 0 (.one 2 (.one 3 (.one 6 (.take 7 (.one 8 .nil))))) 2 (.one 0 (.one 3 (.one 6 (.take 7 (.one 8 .nil)))))))))) (fun w'=>Ext w w') ?_ (fun hHd=> ?_) (hQ:=by intro _ _ _ _ _ h;exact h)
 ·exact ExtC.h
 repeat' first|((with_reducible refine t3_tk ?_);(first|(refine t3k (v:= ?_) ?_ hHd ?_;rotate_left;(·(intro wq hSw;go_simp;(try with_reducible rfl)))));(try simp only[pS]))|((with_reducible refine t3_on ?_);refine t3_one (by simp only[gS];rfl) ?_)|((with_reducible refine t3_th ?_);refine t3_three (by simp only[gS];rfl) (by simp only[gS];rfl) (by simp only[gS];rfl) ?_ ?_ ?_)|((with_reducible refine t3_tw ?_);refine t3_two (by simp only[gS];rfl) (by simp only[gS];rfl) ?_ ?_)|(with_reducible refine load_c ?_)|(with_reducible refine store_c ?_;intro Vs hS hSB)|(with_reducible refine bslice0_c ?_;intro Vz gz hEz hRz)|(with_reducible refine bslice_c ?_;intro Vb g9 _ _ _)|(with_reducible refine append_cw ?_;intro A9 c9 Va hR hG)|(with_reducible refine append_sw ?_;intro A9 c9 Va hR hG)|((with_reducible refine q_nl ?_);clear hHd;refine t3_next ExtC.h (fun hHd=> ?_);(try simp only[pS]))|(with_reducible refine t3_done ?_)
 all_goals
  go_wp2_with (first|(with_reducible refine load_c ?_)|(with_reducible refine store_c ?_;intro V _ _))
  have hr9:=(inferInstance:RowC V (.slice A9 (0+p.events.length+1) c9) _ 80 9 _ _).cast (cs':=encL (p.events++ [(⟨kd,dy,⟨c,o⟩,t,cl,po,un,mi⟩:Event)])) (by simp[Walk.encL,Enc.enc]) rfl
  rw[Nat.zero_add] at hr9;exact ret_cell rfl rfl (by with_unfolding_all rfl) ⟨A9,c9,_,rfl,hr9,⟨ExtC.h⟩⟩
class WithE (p:Person) (x:Event) (q:outParam Person):Prop where h:q=⟨p.born,p.events++ [x]⟩
abbrev RPerR(W:World)(q:Person)(e:Ending)(W':World):Prop:=∃A c B,e=.returned (.agg #[.int .i64 q.born,.slice A q.events.length c])∧RowC W' (.slice A q.events.length c) B 80 9 q.events.length (encL q.events)∧StepC W W'
instance perRow{W B:World}{A:Option Addr}{c:Nat}{q:Person}[h:RowC W (.slice A q.events.length c) B 80 9 q.events.length (encL q.events)]:PersonC W (.agg #[.int .i64 q.born,.slice A q.events.length c]) q:=⟨⟨A,c,rfl,h.list rfl rfl rfl⟩⟩
instance withF{W:World}{p q:Person}{pv:Value}{kd dy c o t cl po un mi:Int}[hp:PersonC W pv p][f:FewE p][e:WithE p ⟨kd,dy,⟨c,o⟩,t,cl,po,un,mi⟩ q]:FunC Tryz.prog 46 #[pv,.agg #[.int .i64 kd,.int .i64 dy,.int .i64 c,.int .i64 o,.int .i64 t,.int .i64 cl,.int .i64 po,.int .i64 un,.int .i64 mi]] W (RPerR W q):=⟨by
 rw[e.h];refine(with_row p pv kd dy c o t cl po un mi W hp.h f.h).mono ?_;rintro e W' ⟨A,k,B,rfl,hr,hs⟩;have el:(p.events++ [(⟨kd,dy,⟨c,o⟩,t,cl,po,un,mi⟩:Event)]).length=p.events.length+1:=by simp
 exact⟨A,k,B,by simp only[el],by simp only[el];exact hr,hs⟩⟩
end Go.Rg
end
