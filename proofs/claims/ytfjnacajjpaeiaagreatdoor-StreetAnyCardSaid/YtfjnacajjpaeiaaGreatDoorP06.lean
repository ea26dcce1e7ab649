/- Chapter 03: contracts of functions of the program and of the reference, and plain laws (out of SP3 SP4 SP5). No condition of its own. -/
import Derived.Test.YtfjnacajjpaeiaaGreatDoorP05
set_option maxRecDepth 100000
set_option linter.all false
section
namespace Go.St
open Go Go.Bp Go.RowKit Go.Proofs
theorem gL(tv:Value)(t:Town)(w:World)(h:aM w tv t)(hsm:t.shows.length≤6):Calls Tryz.prog 72 #[tv] w (dF w t.sets):=by
 obtain⟨pv,shv,tmv,xv,rfl,hT⟩:=h;obtain⟨A1,cp1,rfl,_,_,_,_⟩:=hT.places;obtain⟨A2,cp2,rfl,_,_,_,_⟩:=hT.shows;obtain⟨A3,cp3,rfl,_,_,_,_⟩:=hT.times;obtain⟨A4,cp4,rfl,_,_,_⟩:=hT.streets;have Hs:=Lib.hid (show t.sets=2^t.shows.length from rfl)
 obtain⟨n,hn⟩:∃n,t.shows.length=n:=⟨_,rfl⟩;clear hT;rw[hn] at Hs hsm⊢;clear hn;have hE:=Ext.refl w;have hn:n=0∨n=1∨n=2∨n=3∨n=4∨n=5∨n=6:=by omega
 rcases hn with rfl|rfl|rfl|rfl|rfl|rfl|rfl
 all_goals
  go_enter Tryz.func72,Tryz.ntmps72
  go_wp2_with (first|((with_reducible refine aF (d:=some 1) ?_);intro W1 g1 hE1 hB1 hg1;simp[Act.eval,Act.put,Value.cells] at hB1;(try replace hE:=hE.trans hE1);have hb1_1:=hB1.cell 1;simp at hb1_1;clear hE1))
  go_ret
  exact dF.of Hs.out hE
theorem qR{w:World}{g:Nat}{xs:List Int}(h:Blk w g 3 (gA xs).toArray)(hn:xs.length≤1000):bG w (.slice (some ⟨g,0,none⟩) xs.length xs.length) xs:=
 ⟨_,_,rfl,Nat.le_refl _,by unfold maxLen;omega,by simp[gA],fun _=>⟨_,rfl,h.cells⟩⟩
theorem aU{w:World}{g:Nat}{a:Int}(h:Blk w g 3 #[.int .i64 a]):bG w (.slice (some ⟨g,0,none⟩) 1 1) [a]:=qR (xs:=[a]) h (by simp)
theorem cO{w:World}{g:Nat}{a b:Int}(h:Blk w g 3 #[.int .i64 a,.int .i64 b]):bG w (.slice (some ⟨g,0,none⟩) 2 2) [a,b]:=qR (xs:=[a,b]) h (by simp)
section
variable{w:World}
theorem oE(a:Int):(Instr.buildSlice 41 1 #[(0,.int .i64 a)]).run Tryz.prog w=.ok (.slice (some ⟨w.heap.size,0,none⟩) 1 1) (w.alloc (.cells #[.int .i64 a] 3)):=by kernel_rfl
theorem Ld(a b:Int):(Instr.buildSlice 41 2 #[(0,.int .i64 a),(1,.int .i64 b)]).run Tryz.prog w=.ok (.slice (some ⟨w.heap.size,0,none⟩) 2 2) (w.alloc (.cells #[.int .i64 a,.int .i64 b] 3)):=by kernel_rfl
end
section
variable{P:Program}{ops:Array Oper}{Q:Exit→Act→World→Prop}{a:Act}{w:World}{rest:List Oper}
theorem bR{d:Option Tmp}{ty:TypeId}{pos:String}{after:Array Edge}{gd:Option (Nat×Bool)}{t e:TypeId}{n:Nat}{parts:Array (Nat×Operand)}{cs:Array Value}(hw:Region.wanted (⟨d,.buildSlice t n parts,ty,pos,after,gd⟩:Oper) (yielded ops a.tmps)=true)
 (h:(Instr.buildSlice t n (parts.map fun(i,x)=>(i,a.eval x))).run P w=.ok (.slice (some ⟨w.heap.size,0,none⟩) n n) (w.alloc (.cells cs e)))
 (k:∀W g,Ext w W→Blk W g e cs→w.heap.size≤g→wpList P ops Q rest (a.put d (.slice (some ⟨g,0,none⟩) n n)) W):
 wpList P ops Q (⟨d,.buildSlice t n parts,ty,pos,after,gd⟩::rest) a w:=
 oG hw fun K hK=>by
  have h':(execOp a.eval (⟨d,.buildSlice t n parts,ty,pos,after,gd⟩:Oper)).run P w=.ok (.value (.slice (some ⟨w.heap.size,0,none⟩) n n)) (w.alloc (.cells cs e)):=by
   simp[execOp,h]
  unfold Oper.wp;rw[h'];exact hK _ _ (k _ _ (Ext.ofAlloc _ _) (Blk.new _ _ _) (Nat.le_refl _))
end
section
variable{ops:Array Oper}{Q:Exit→Act→World→Prop}{a:Act}{w:World}{rest:List Oper}{d:Option Tmp}{ty:TypeId}{pos:String}{after:Array Edge}
theorem eB{x:Operand}{n0:Int}(hx:a.eval x=.int .i64 n0)
 (k:∀W g,Ext w W→Blk W g 3 #[.int .i64 n0]→w.heap.size≤g→wpList Tryz.prog ops Q rest (a.put d (.slice (some ⟨g,0,none⟩) 1 1)) W):
 wpList Tryz.prog ops Q (⟨d,.buildSlice 41 1 #[(0,x)],ty,pos,after,none⟩::rest) a w:=eV (by have:=oE (w:=w) n0;simpa [hx] using this) k
theorem iZ{x y:Operand}{n0 n1:Int}(hx:a.eval x=.int .i64 n0)(hy:a.eval y=.int .i64 n1)
 (k:∀W g,Ext w W→Blk W g 3 #[.int .i64 n0,.int .i64 n1]→w.heap.size≤g→wpList Tryz.prog ops Q rest (a.put d (.slice (some ⟨g,0,none⟩) 2 2)) W):
 wpList Tryz.prog ops Q (⟨d,.buildSlice 41 2 #[(0,x),(1,y)],ty,pos,after,none⟩::rest) a w:=eV (by have:=Ld (w:=w) n0 n1;simpa [hx,hy] using this) k
end
theorem bS{b:Bool}{lo hi:Int}{v:Value}{xs:List Int}{w:World}(h:bG w v xs)(hb:eC lo hi xs=b):Calls Tryz.prog 46 #[.int .i64 lo,.int .i64 hi,v] w (dB w b):=hb▸zS lo hi v xs w h
theorem fU(lo hi a:Int):eC lo hi [a]= !inB a lo hi:=by simp[eC]
theorem Cn(lo hi a b:Int):eC lo hi [a,b]=(!inB a lo hi|| !inB b lo hi):=by simp[eC]
theorem qJ(lo hi:Int)(l:List Int):eC lo hi l= !(l.all fun n=>inB n lo hi):=by
 induction l with
 |nil=>rfl
 |cons x l ih=>unfold eC at ih⊢;simp only[List.any_cons,List.all_cons,ih];cases inB x lo hi<;>simp
theorem Town.streetErr_out(t:Town)(s:Street):t.streetErr s=
 if eC 0 (t.places.length-1) [s.a,s.b]=true then 4 else if s.a=s.b then 2 else if s.shows.length≠t.times.length then 3
 else if(eC 1 10000 [s.metres]||eC 0 60 [s.lo,s.hi]||eC 0 (t.sets-1) s.shows)=true then 7
 else if s.lo>s.hi then 2 else 0:=by
 unfold Town.streetErr;rw[Cn,fU,Cn,qJ]
 cases inB s.a 0 (t.places.length-1)<;>cases inB s.b 0 (t.places.length-1)<;>cases inB s.metres 1 10000<;>cases inB s.lo 0 60<;>cases inB s.hi 0 60<;>cases(s.shows.all fun n=>inB n 0 (t.sets-1))<;>simp
theorem jE:(Tryz.prog.info? 90).map TypeInfo.size=some 4:=by kernel_rfl
theorem bJ{w:World}{g:Nat}{a b c d:Value}(h:Blk w g 90 #[a,b,c,d]):(loadVar 90 ⟨g,0,none⟩).run Tryz.prog w=.ok (.agg #[a,b,c,d]) w:=kZ Tryz.underlying90 jE h rfl
set_option maxHeartbeats 4000000 in
theorem zQ(tv sv:Value)(i:Int)(t:Town)(s:Street)(w:World)(h:aM w tv t)(hsm:t.Small)(hs:iS w sv s):
 Calls Tryz.prog 52 #[tv,.int .i64 i,sv] w (dF w (t.streetErr s)):=by
 have hT0:=h;obtain⟨pv,shv,tmv,xv,rfl,hT⟩:=h;obtain⟨A1,cp1,rfl,_,_,_,_⟩:=hT.places;obtain⟨A2,cp2,rfl,_,_,_,_⟩:=hT.shows;obtain⟨A3,cp3,rfl,_,_,_,_⟩:=hT.times;obtain⟨A4,cp4,rfl,_,_,_⟩:=hT.streets;obtain⟨ssv,rfl,hs2⟩:=hs;have hS2:=hs2;obtain⟨A,c,rfl,h1,h2,h3,h4⟩:=hs2;unfold maxLen at h2;have hp1:=hsm.p1;have hp2:=hsm.p2;have hsh:=hsm.sh;have ht2:=hsm.t2;clear h3 h4 hT hsm;have hE:=Ext.refl w;have hwset:IntKind.i64.wrap (t.sets-1)=t.sets-1:=by
  have h0:=iC (show t.shows.length≤6 by omega) (by omega)
  have h1:=nP (show t.shows.length≤6 by omega)
  unfold Town.sets;exact IntWalk.i64_in _ (by omega)
 have Hs:=Lib.hid (Town.streetErr_out t s)
 cases q1:eC 0 (t.places.length-1) [s.a,s.b] with
 |true=>
  go_enter Tryz.func52,Tryz.ntmps52
  go_wp2_with (first|((with_reducible refine iZ (d:=some 17) (n0:=s.a) (n1:=s.b) ?_ ?_ ?_);rfl;rfl;intro W17 g17 hE17 hB17 hg17;(try replace hE:=hE.trans hE17);(try replace hS2:=hS2.ext hE17);(try replace hT0:=hT0.ext hE17);(try replace hB3:=hB3.ext hE17);(try replace hb3_2:=hE17.c hb3_2);(try replace hb5_0:=hE17.c hb5_0);(try replace hb5_1:=hE17.c hb5_1);(try replace hb5_2:=hE17.c hb5_2);(try replace hb5_3:=hE17.c hb5_3);(try replace hb5_4:=hE17.c hb5_4);(try replace hb5_6:=hE17.c hb5_6);have hI17:bG W17 (.slice (some ⟨g17,0,none⟩) 2 2) [s.a,s.b]:=cO hB17;clear hB17 hg17 hE17)|(go_at_call 46;((with_reducible refine((bS (by exact hI17) q1)).mono ?_);rintro e WcO ⟨rfl,hEcO⟩;(try replace hE:=hE.trans hEcO);(try replace hS2:=hS2.ext hEcO);(try replace hT0:=hT0.ext hEcO);(try replace hB3:=hB3.ext hEcO);(try replace hb3_2:=hEcO.c hb3_2);(try replace hb5_0:=hEcO.c hb5_0);(try replace hb5_1:=hEcO.c hb5_1);(try replace hb5_2:=hEcO.c hb5_2);(try replace hb5_3:=hEcO.c hb5_3);(try replace hb5_4:=hEcO.c hb5_4);(try replace hb5_6:=hEcO.c hb5_6)))|((with_reducible refine aF (d:=some 3) ?_);intro W3 g3 hE3 hB3 hg3;simp[Act.eval,Act.put,Value.cells] at hB3;(try replace hE:=hE.trans hE3);(try replace hS2:=hS2.ext hE3);(try replace hT0:=hT0.ext hE3);have hb3_0:=hB3.cell 0;have hb3_2:=hB3.cell 2;simp at hb3_0 hb3_2;clear hE3)|((with_reducible refine aF (d:=some 5) ?_);intro W5 g5 hE5 hB5 hg5;simp[Act.eval,Act.put,Value.cells] at hB5;(try replace hE:=hE.trans hE5);(try replace hS2:=hS2.ext hE5);(try replace hT0:=hT0.ext hE5);(try replace hB3:=hB3.ext hE5);(try replace hb3_0:=hE5.c hb3_0);(try replace hb3_2:=hE5.c hb3_2);have hb5_0:=hB5.cell 0;have hb5_1:=hB5.cell 1;have hb5_2:=hB5.cell 2;have hb5_3:=hB5.cell 3;have hb5_4:=hB5.cell 4;have hb5_6:=hB5.cell 6;simp at hb5_0 hb5_1 hb5_2 hb5_3 hb5_4 hb5_6;clear hE5))
  go_ret
  exact dF.of (by rw[Hs.out,if_pos q1]) hE
 |false=>
  by_cases c3:s.a=s.b
  ·have q3:(s.a==s.b)=true:=by simp[c3]
   have Hr:=Lib.hid (show t.streetErr s=2 by rw[Hs.out,if_neg (by rw[q1];simp),if_pos c3])
   clear c3;go_enter Tryz.func52,Tryz.ntmps52
   go_wp2_with (first|((with_reducible refine iZ (d:=some 17) (n0:=s.a) (n1:=s.b) ?_ ?_ ?_);rfl;rfl;intro W17 g17 hE17 hB17 hg17;(try replace hE:=hE.trans hE17);(try replace hS2:=hS2.ext hE17);(try replace hT0:=hT0.ext hE17);(try replace hB3:=hB3.ext hE17);(try replace hb3_2:=hE17.c hb3_2);(try replace hb5_0:=hE17.c hb5_0);(try replace hb5_1:=hE17.c hb5_1);(try replace hb5_2:=hE17.c hb5_2);(try replace hb5_3:=hE17.c hb5_3);(try replace hb5_4:=hE17.c hb5_4);(try replace hb5_6:=hE17.c hb5_6);have hI17:bG W17 (.slice (some ⟨g17,0,none⟩) 2 2) [s.a,s.b]:=cO hB17;clear hB17 hg17 hE17)|(go_at_call 46;((with_reducible refine((bS (by exact hI17) q1)).mono ?_);rintro e WcO ⟨rfl,hEcO⟩;(try replace hE:=hE.trans hEcO);(try replace hS2:=hS2.ext hEcO);(try replace hT0:=hT0.ext hEcO);(try replace hB3:=hB3.ext hEcO);(try replace hb3_2:=hEcO.c hb3_2);(try replace hb5_0:=hEcO.c hb5_0);(try replace hb5_1:=hEcO.c hb5_1);(try replace hb5_2:=hEcO.c hb5_2);(try replace hb5_3:=hEcO.c hb5_3);(try replace hb5_4:=hEcO.c hb5_4);(try replace hb5_6:=hEcO.c hb5_6)))|((with_reducible refine aF (d:=some 3) ?_);intro W3 g3 hE3 hB3 hg3;simp[Act.eval,Act.put,Value.cells] at hB3;(try replace hE:=hE.trans hE3);(try replace hS2:=hS2.ext hE3);(try replace hT0:=hT0.ext hE3);have hb3_0:=hB3.cell 0;have hb3_2:=hB3.cell 2;simp at hb3_0 hb3_2;clear hE3)|((with_reducible refine aF (d:=some 5) ?_);intro W5 g5 hE5 hB5 hg5;simp[Act.eval,Act.put,Value.cells] at hB5;(try replace hE:=hE.trans hE5);(try replace hS2:=hS2.ext hE5);(try replace hT0:=hT0.ext hE5);(try replace hB3:=hB3.ext hE5);(try replace hb3_0:=hE5.c hb3_0);(try replace hb3_2:=hE5.c hb3_2);have hb5_0:=hB5.cell 0;have hb5_1:=hB5.cell 1;have hb5_2:=hB5.cell 2;have hb5_3:=hB5.cell 3;have hb5_4:=hB5.cell 4;have hb5_6:=hB5.cell 6;simp at hb5_0 hb5_1 hb5_2 hb5_3 hb5_4 hb5_6;clear hE5))
   go_ret
   exact dF.of Hr.out hE
  ·have q3:(s.a==s.b)=false:=by simp[c3]
   have C3:=Lib.hid c3;clear c3;by_cases c4:s.shows.length=t.times.length
   ·have q4:((s.shows.length:Int) !=(t.times.length:Int))=false:=by simp[c4]
    have Hr:=Lib.hid (show t.streetErr s=if(eC 1 10000 [s.metres]||eC 0 60 [s.lo,s.hi]||eC 0 (t.sets-1) s.shows)=true then 7 else if s.lo>s.hi then 2 else 0 by rw[Hs.out,if_neg (by rw[q1];simp),if_neg C3.out,if_neg (by omega)])
    clear c4;go_enter Tryz.func52,Tryz.ntmps52
    go_wp2_with (first|((with_reducible refine iZ (d:=some 17) (n0:=s.a) (n1:=s.b) ?_ ?_ ?_);rfl;rfl;intro W17 g17 hE17 hB17 hg17;(try replace hE:=hE.trans hE17);(try replace hS2:=hS2.ext hE17);(try replace hT0:=hT0.ext hE17);(try replace hB3:=hB3.ext hE17);(try replace hb3_2:=hE17.c hb3_2);(try replace hb5_0:=hE17.c hb5_0);(try replace hb5_1:=hE17.c hb5_1);(try replace hb5_2:=hE17.c hb5_2);(try replace hb5_3:=hE17.c hb5_3);(try replace hb5_4:=hE17.c hb5_4);(try replace hb5_6:=hE17.c hb5_6);have hI17:bG W17 (.slice (some ⟨g17,0,none⟩) 2 2) [s.a,s.b]:=cO hB17;clear hB17 hg17 hE17)|(go_at_call 46;((with_reducible refine((bS (by exact hI17) q1)).mono ?_);rintro e WcO ⟨rfl,hEcO⟩;(try replace hE:=hE.trans hEcO);(try replace hS2:=hS2.ext hEcO);(try replace hT0:=hT0.ext hEcO);(try replace hB3:=hB3.ext hEcO);(try replace hb3_2:=hEcO.c hb3_2);(try replace hb5_0:=hEcO.c hb5_0);(try replace hb5_1:=hEcO.c hb5_1);(try replace hb5_2:=hEcO.c hb5_2);(try replace hb5_3:=hEcO.c hb5_3);(try replace hb5_4:=hEcO.c hb5_4);(try replace hb5_6:=hEcO.c hb5_6)))|((with_reducible refine aF (d:=some 3) ?_);intro W3 g3 hE3 hB3 hg3;simp[Act.eval,Act.put,Value.cells] at hB3;(try replace hE:=hE.trans hE3);(try replace hS2:=hS2.ext hE3);(try replace hT0:=hT0.ext hE3);have hb3_0:=hB3.cell 0;have hb3_2:=hB3.cell 2;simp at hb3_0 hb3_2;clear hE3)|((with_reducible refine aF (d:=some 5) ?_);intro W5 g5 hE5 hB5 hg5;simp[Act.eval,Act.put,Value.cells] at hB5;(try replace hE:=hE.trans hE5);(try replace hS2:=hS2.ext hE5);(try replace hT0:=hT0.ext hE5);(try replace hB3:=hB3.ext hE5);(try replace hb3_0:=hE5.c hb3_0);(try replace hb3_2:=hE5.c hb3_2);have hb5_0:=hB5.cell 0;have hb5_1:=hB5.cell 1;have hb5_2:=hB5.cell 2;have hb5_3:=hB5.cell 3;have hb5_4:=hB5.cell 4;have hb5_6:=hB5.cell 6;simp at hb5_0 hb5_1 hb5_2 hb5_3 hb5_4 hb5_6;clear hE5))
    have hX1:=Ext.todrew (Ext.refl WcO)
    cases m1:eC 1 10000 [s.metres] with
    |true=>
     refine aR (.take 0 (.take 1 (.one 2 (.one 3 (.take 4 (.take 5 (.take 6 (.take 7 (.take 8 (.take 9 (.take 10 (.one 11 (.one 12 (.take 13 (.take 14 (.take 15 (.take 18 (.take 19 (.one 16 (.take 17 (.one 20 (.take 21 (.take 22 .nil))))))))))))))))))))))) (fun w'=>Ext WcO w') ?_ (fun hHd=> ?_)
     ·assumption
     repeat' first|((with_reducible refine aB ?_);(first|((with_reducible refine aB (i:=1) ?_);refine tk (v:=.int .i64 s.metres) ?_ hHd ?_;(·exact aA (by rfl) (rl Tryz.underlying3 hb5_2)))|(refine tk (v:= ?_) ?_ hHd ?_;rotate_left;(·(intro wq hSw;(try dsimp only at hSw);go_simp;(try with_reducible rfl))))|refine ts hHd ?_);(try simp only[pS]))|((with_reducible refine bC ?_);refine aQ (by simp only[gS];rfl) ?_)|((with_reducible refine aH (d:=some 37) ?_);((refine bR (by rfl) (e:=3) (cs:=#[.int .i64 s.metres]) ?_ ?_;(simp[Act.eval];exact oE _);intro W37 g37 hE37 hB37 hg37;have hX2:=hX1.trans hE37;have hI37:=aU hB37)))|((with_reducible refine aH (d:=some 38) ?_);((refine bD (by rfl) (bS hI37 m1) (by go_simp) ?_;rintro e W38 ⟨rfl,hE38⟩;refine⟨_,rfl,?_⟩;have hX3:=hX2.trans hE38)))|((with_reducible refine aH (d:=some 46) ?_);refine dK (by rfl) ?_)|((with_reducible refine aH (d:=some 47) ?_);refine dK (by rfl) ?_)|((with_reducible refine aH (d:=some 51) ?_);refine dK (by rfl) ?_)|((with_reducible refine aH (d:=some 55) ?_);refine dK (by rfl) ?_)|((with_reducible refine bB ?_);clear hHd;refine aJ ?_ (fun hHd=> ?_);(·assumption);(try simp only[pS]))|(with_reducible refine aG ?_)
     go_wp2
     go_ret
     exact dF.of (by rw[Hr.out,m1];rfl) (hE.trans hX3)
    |false=>
     cases m2:eC 0 60 [s.lo,s.hi] with
     |true=>
      refine aR (.take 0 (.take 1 (.one 2 (.one 3 (.take 4 (.take 5 (.take 6 (.take 7 (.take 8 (.take 9 (.take 10 (.one 11 (.one 12 (.take 13 (.take 14 (.take 15 (.take 18 (.take 19 (.one 16 (.take 17 (.one 20 (.take 21 (.take 22 .nil))))))))))))))))))))))) (fun w'=>Ext WcO w') ?_ (fun hHd=> ?_)
      ·assumption
      repeat' first|((with_reducible refine aB ?_);(first|((with_reducible refine aB (i:=1) ?_);refine tk (v:=.int .i64 s.metres) ?_ hHd ?_;(·exact aA (by rfl) (rl Tryz.underlying3 hb5_2)))|((with_reducible refine aB (i:=7) ?_);refine tw (v:=.int .i64 s.lo) ?_ hHd ?_;(·exact aA (by rfl) (rl Tryz.underlying3 hb5_3)))|((with_reducible refine aB (i:=10) ?_);refine tw (v:=.int .i64 s.hi) ?_ hHd ?_;(·exact aA (by rfl) (rl Tryz.underlying3 hb5_4)))|((first|with_reducible refine aB (i:=15) ?_|with_reducible refine aB (i:=17) ?_|with_reducible refine aB (i:=18) ?_|with_reducible refine aB (i:=19) ?_);refine ts hHd ?_)|(refine tk (v:= ?_) ?_ hHd ?_;rotate_left;(·(intro wq hSw;(try dsimp only at hSw);go_simp;(try with_reducible rfl))))|(refine tw (v:= ?_) ?_ hHd ?_;rotate_left;(·(intro wq hSw;(try dsimp only at hSw);go_simp;(try with_reducible rfl)))));(try simp only[pS]))|((with_reducible refine bC ?_);refine aQ (by simp only[gS];rfl) ?_)|((with_reducible refine aH (d:=some 37) ?_);((refine bR (by rfl) (e:=3) (cs:=#[.int .i64 s.metres]) ?_ ?_;(simp[Act.eval];exact oE _);intro W37 g37 hE37 hB37 hg37;have hX2:=hX1.trans hE37;have hI37:=aU hB37)))|((with_reducible refine aH (d:=some 38) ?_);((refine bD (by rfl) (bS hI37 m1) (by go_simp) ?_;rintro e W38 ⟨rfl,hE38⟩;refine⟨_,rfl,?_⟩;have hX3:=hX2.trans hE38)))|((with_reducible refine aH (d:=some 46) ?_);((refine bR (by rfl) (e:=3) (cs:=#[.int .i64 s.lo,.int .i64 s.hi]) ?_ ?_;(simp[Act.eval];exact Ld _ _);intro W46 g46 hE46 hB46 hg46;have hX4:=hX3.trans hE46;have hI46:=cO hB46)))|((with_reducible refine aH (d:=some 47) ?_);((refine bN (by rfl) (bS hI46 m2) (by go_simp) ?_;rintro e W47 ⟨rfl,hE47⟩;refine⟨_,rfl,?_⟩;have hX5:=hX4.trans hE47)))|((with_reducible refine aH (d:=some 51) ?_);refine dK (by rfl) ?_)|((with_reducible refine aH (d:=some 55) ?_);refine dK (by rfl) ?_)|((with_reducible refine bB ?_);clear hHd;refine aJ ?_ (fun hHd=> ?_);(·assumption);(try simp only[pS]))|(with_reducible refine aG ?_)
      go_wp2
      go_ret
      exact dF.of (by rw[Hr.out,m1,m2];rfl) (hE.trans hX5)
     |false=>
      cases m3:eC 0 (t.sets-1) s.shows with
      |true=>
       refine aR (.take 0 (.take 1 (.one 2 (.one 3 (.take 4 (.take 5 (.take 6 (.take 7 (.take 8 (.take 9 (.take 10 (.one 11 (.one 12 (.take 13 (.take 14 (.take 15 (.take 18 (.take 19 (.one 16 (.take 17 (.one 20 (.take 21 (.take 22 .nil))))))))))))))))))))))) (fun w'=>Ext WcO w') ?_ (fun hHd=> ?_)
       ·assumption
       repeat' first|((with_reducible refine aB ?_);(first|((with_reducible refine aB (i:=1) ?_);refine tk (v:=.int .i64 s.metres) ?_ hHd ?_;(·exact aA (by rfl) (rl Tryz.underlying3 hb5_2)))|((with_reducible refine aB (i:=7) ?_);refine tw (v:=.int .i64 s.lo) ?_ hHd ?_;(·exact aA (by rfl) (rl Tryz.underlying3 hb5_3)))|((with_reducible refine aB (i:=10) ?_);refine tw (v:=.int .i64 s.hi) ?_ hHd ?_;(·exact aA (by rfl) (rl Tryz.underlying3 hb5_4)))|((with_reducible refine aB (i:=15) ?_);refine tw (v:=.agg #[.slice A1 t.places.length cp1,.slice A2 t.shows.length cp2,.slice A3 t.times.length cp3,.slice A4 t.streets.length cp4]) ?_ hHd ?_;(·exact aA (by rfl) (fun W h=>bJ (hB3.ext h))))|((with_reducible refine aB (i:=19) ?_);refine tw (v:=.slice A s.shows.length c) ?_ hHd ?_;(·exact aA (by rfl) (rl Tryz.underlying41 hb5_6)))|(refine tk (v:= ?_) ?_ hHd ?_;rotate_left;(·(intro wq hSw;(try dsimp only at hSw);go_simp;(try with_reducible rfl))))|(refine tw (v:= ?_) ?_ hHd ?_;rotate_left;(·(intro wq hSw;(try dsimp only at hSw);go_simp;(try with_reducible rfl)))));(try simp only[pS]))|((with_reducible refine bC ?_);refine aQ (by simp only[gS];rfl) ?_)|((with_reducible refine aH (d:=some 37) ?_);((refine bR (by rfl) (e:=3) (cs:=#[.int .i64 s.metres]) ?_ ?_;(simp[Act.eval];exact oE _);intro W37 g37 hE37 hB37 hg37;have hX2:=hX1.trans hE37;have hI37:=aU hB37)))|((with_reducible refine aH (d:=some 38) ?_);((refine bD (by rfl) (bS hI37 m1) (by go_simp) ?_;rintro e W38 ⟨rfl,hE38⟩;refine⟨_,rfl,?_⟩;have hX3:=hX2.trans hE38)))|((with_reducible refine aH (d:=some 46) ?_);((refine bR (by rfl) (e:=3) (cs:=#[.int .i64 s.lo,.int .i64 s.hi]) ?_ ?_;(simp[Act.eval];exact Ld _ _);intro W46 g46 hE46 hB46 hg46;have hX4:=hX3.trans hE46;have hI46:=cO hB46)))|((with_reducible refine aH (d:=some 47) ?_);((refine bN (by rfl) (bS hI46 m2) (by go_simp) ?_;rintro e W47 ⟨rfl,hE47⟩;refine⟨_,rfl,?_⟩;have hX5:=hX4.trans hE47)))|((with_reducible refine aH (d:=some 51) ?_);((refine bN (by rfl) (gL _ t _ (hT0.ext hX5) hsh) (by go_simp) ?_;rintro e W51 ⟨rfl,hE51⟩;refine⟨_,rfl,?_⟩;have hX6:=hX5.trans hE51)))|((with_reducible refine aH (d:=some 55) ?_);((refine bN (by rfl) (bS (hS2.ext hX6) m3) (by go_simp) ?_;rintro e W55 ⟨rfl,hE55⟩;refine⟨_,rfl,?_⟩;have hX7:=hX6.trans hE55)))|((with_reducible refine bB ?_);clear hHd;refine aJ ?_ (fun hHd=> ?_);(·assumption);(try simp only[pS]))|(with_reducible refine aG ?_)
       go_wp2
       go_ret
       exact dF.of (by rw[Hr.out,m1,m2,m3];rfl) (hE.trans hX7)
      |false=>
       refine aR (.take 0 (.take 1 (.one 2 (.one 3 (.take 4 (.take 5 (.take 6 (.take 7 (.take 8 (.take 9 (.take 10 (.one 11 (.one 12 (.take 13 (.take 14 (.take 15 (.take 18 (.take 19 (.one 16 (.take 17 (.one 20 (.take 21 (.take 22 .nil))))))))))))))))))))))) (fun w'=>Ext WcO w') ?_ (fun hHd=> ?_)
       ·assumption
       repeat' first|((with_reducible refine aB ?_);(first|((with_reducible refine aB (i:=1) ?_);refine tk (v:=.int .i64 s.metres) ?_ hHd ?_;(·exact aA (by rfl) (rl Tryz.underlying3 hb5_2)))|((with_reducible refine aB (i:=7) ?_);refine tw (v:=.int .i64 s.lo) ?_ hHd ?_;(·exact aA (by rfl) (rl Tryz.underlying3 hb5_3)))|((with_reducible refine aB (i:=10) ?_);refine tw (v:=.int .i64 s.hi) ?_ hHd ?_;(·exact aA (by rfl) (rl Tryz.underlying3 hb5_4)))|((with_reducible refine aB (i:=15) ?_);refine tw (v:=.agg #[.slice A1 t.places.length cp1,.slice A2 t.shows.length cp2,.slice A3 t.times.length cp3,.slice A4 t.streets.length cp4]) ?_ hHd ?_;(·exact aA (by rfl) (fun W h=>bJ (hB3.ext h))))|((with_reducible refine aB (i:=19) ?_);refine tw (v:=.slice A s.shows.length c) ?_ hHd ?_;(·exact aA (by rfl) (rl Tryz.underlying41 hb5_6)))|(refine tk (v:= ?_) ?_ hHd ?_;rotate_left;(·(intro wq hSw;(try dsimp only at hSw);go_simp;(try with_reducible rfl))))|(refine tw (v:= ?_) ?_ hHd ?_;rotate_left;(·(intro wq hSw;(try dsimp only at hSw);go_simp;(try with_reducible rfl)))));(try simp only[pS]))|((with_reducible refine bC ?_);refine aQ (by simp only[gS];rfl) ?_)|((with_reducible refine aH (d:=some 37) ?_);((refine bR (by rfl) (e:=3) (cs:=#[.int .i64 s.metres]) ?_ ?_;(simp[Act.eval];exact oE _);intro W37 g37 hE37 hB37 hg37;have hX2:=hX1.trans hE37;have hI37:=aU hB37)))|((with_reducible refine aH (d:=some 38) ?_);((refine bD (by rfl) (bS hI37 m1) (by go_simp) ?_;rintro e W38 ⟨rfl,hE38⟩;refine⟨_,rfl,?_⟩;have hX3:=hX2.trans hE38)))|((with_reducible refine aH (d:=some 46) ?_);((refine bR (by rfl) (e:=3) (cs:=#[.int .i64 s.lo,.int .i64 s.hi]) ?_ ?_;(simp[Act.eval];exact Ld _ _);intro W46 g46 hE46 hB46 hg46;have hX4:=hX3.trans hE46;have hI46:=cO hB46)))|((with_reducible refine aH (d:=some 47) ?_);((refine bN (by rfl) (bS hI46 m2) (by go_simp) ?_;rintro e W47 ⟨rfl,hE47⟩;refine⟨_,rfl,?_⟩;have hX5:=hX4.trans hE47)))|((with_reducible refine aH (d:=some 51) ?_);((refine bN (by rfl) (gL _ t _ (hT0.ext hX5) hsh) (by go_simp) ?_;rintro e W51 ⟨rfl,hE51⟩;refine⟨_,rfl,?_⟩;have hX6:=hX5.trans hE51)))|((with_reducible refine aH (d:=some 55) ?_);((refine bN (by rfl) (bS (hS2.ext hX6) m3) (by go_simp) ?_;rintro e W55 ⟨rfl,hE55⟩;refine⟨_,rfl,?_⟩;have hX7:=hX6.trans hE55)))|((with_reducible refine bB ?_);clear hHd;refine aJ ?_ (fun hHd=> ?_);(·assumption);(try simp only[pS]))|(with_reducible refine aG ?_)
       have k3:=Ext.cell_some hX7 hb5_3;have k4:=Ext.cell_some hX7 hb5_4;by_cases c9:s.hi<s.lo
       all_goals
        go_wp2
        go_ret
        exact dF.of (by rw[Hr.out,m1,m2,m3];simp;omega) (hE.trans hX7)
   ·have q4:((s.shows.length:Int) !=(t.times.length:Int))=true:=by rw[bne_iff_ne];omega
    have Hr:=Lib.hid (show t.streetErr s=3 by rw[Hs.out,if_neg (by rw[q1];simp),if_neg C3.out,if_pos c4])
    clear c4;go_enter Tryz.func52,Tryz.ntmps52
    go_wp2_with (first|((with_reducible refine iZ (d:=some 17) (n0:=s.a) (n1:=s.b) ?_ ?_ ?_);rfl;rfl;intro W17 g17 hE17 hB17 hg17;(try replace hE:=hE.trans hE17);(try replace hS2:=hS2.ext hE17);(try replace hT0:=hT0.ext hE17);(try replace hB3:=hB3.ext hE17);(try replace hb3_2:=hE17.c hb3_2);(try replace hb5_0:=hE17.c hb5_0);(try replace hb5_1:=hE17.c hb5_1);(try replace hb5_2:=hE17.c hb5_2);(try replace hb5_3:=hE17.c hb5_3);(try replace hb5_4:=hE17.c hb5_4);(try replace hb5_6:=hE17.c hb5_6);have hI17:bG W17 (.slice (some ⟨g17,0,none⟩) 2 2) [s.a,s.b]:=cO hB17;clear hB17 hg17 hE17)|(go_at_call 46;((with_reducible refine((bS (by exact hI17) q1)).mono ?_);rintro e WcO ⟨rfl,hEcO⟩;(try replace hE:=hE.trans hEcO);(try replace hS2:=hS2.ext hEcO);(try replace hT0:=hT0.ext hEcO);(try replace hB3:=hB3.ext hEcO);(try replace hb3_2:=hEcO.c hb3_2);(try replace hb5_0:=hEcO.c hb5_0);(try replace hb5_1:=hEcO.c hb5_1);(try replace hb5_2:=hEcO.c hb5_2);(try replace hb5_3:=hEcO.c hb5_3);(try replace hb5_4:=hEcO.c hb5_4);(try replace hb5_6:=hEcO.c hb5_6)))|((with_reducible refine aF (d:=some 3) ?_);intro W3 g3 hE3 hB3 hg3;simp[Act.eval,Act.put,Value.cells] at hB3;(try replace hE:=hE.trans hE3);(try replace hS2:=hS2.ext hE3);(try replace hT0:=hT0.ext hE3);have hb3_0:=hB3.cell 0;have hb3_2:=hB3.cell 2;simp at hb3_0 hb3_2;clear hE3)|((with_reducible refine aF (d:=some 5) ?_);intro W5 g5 hE5 hB5 hg5;simp[Act.eval,Act.put,Value.cells] at hB5;(try replace hE:=hE.trans hE5);(try replace hS2:=hS2.ext hE5);(try replace hT0:=hT0.ext hE5);(try replace hB3:=hB3.ext hE5);(try replace hb3_0:=hE5.c hb3_0);(try replace hb3_2:=hE5.c hb3_2);have hb5_0:=hB5.cell 0;have hb5_1:=hB5.cell 1;have hb5_2:=hB5.cell 2;have hb5_3:=hB5.cell 3;have hb5_4:=hB5.cell 4;have hb5_6:=hB5.cell 6;simp at hb5_0 hb5_1 hb5_2 hb5_3 hb5_4 hb5_6;clear hE5))
    go_ret
    exact dF.of Hr.out hE
end Go.St
end
section
namespace Go.St
open Go Go.Bp Go.RowKit Go.Proofs
theorem Hk{w:World}{l:List ByteArray}{g:Nat}{v:Value}(h1:w.cell? ⟨g,0,none⟩=some v)(h:Strs w v l)(hs:∀s∈l,s.size≤maxLen):
 Sf w 48 #[.pointer (some ⟨g,0,none⟩)] (dL l) l:=by
 intro k hk W hW;have:=Do l k g hk v W (Ext.cell_some hW h1) (h.ext hW) (hs _ (List.getElem_mem hk));simpa using this
theorem iF(v:Value)(l:List ByteArray)(g:Nat)(w:World)(h1:w.cell? ⟨g,0,none⟩=some v)(h:Strs w v l)(hs:∀s∈l,s.size≤maxLen):
 Calls Tryz.prog 47 #[v,.func (.func 48) #[] #[.pointer (some ⟨g,0,none⟩)]] w (dQ w (aP l).1 (aP l).2):=
 Ck 48 _ (dL l) v l w h vT (Hk h1 h hs)
theorem uS:∀(args:Array Value)(W:World),(callFunc 52 args).run Tryz.prog W=.ok (.enter 52 args) W:=enters_of Tryz.func52 (by kernel_rfl) rfl
theorem qG(v tv:Value)(t:Town)(w:World)(h:gY w v t.streets)(ht:aM w tv t)(hsm:t.Small):
 Calls Tryz.prog 51 #[v,.func (.func 52) #[tv] #[]] w (dQ w t.streetsErr.1 t.streetsErr.2):=by
 refine Cj 52 _ (fun i=>t.streetErr (t.streets.getD i ⟨0,0,0,0,0,false,[]⟩)) v t.streets w h uS ?_
 intro k hk sv W hW hS;dsimp only;have:=zQ tv sv k t t.streets[k] W (ht.ext hW) hsm hS;rw[show t.streets.getD k ⟨0,0,0,0,0,false,[]⟩=t.streets[k] by simp[List.getD,hk]]
 simpa using this
theorem iD:(Tryz.prog.info? 90).map (fun i=>(i.zero,i.size,i.bytes))=some (some (.agg #[.slice none 0 0,.slice none 0 0,.slice none 0 0,.slice none 0 0]),4,96):=by kernel_rfl
theorem lG:(Tryz.prog.info? 22).map TypeInfo.size=some 1:=by kernel_rfl
set_option maxHeartbeats 4000000 in
theorem mM(tv:Value)(t:Town)(w:World)(h:aM w tv t):
 Calls Tryz.prog 17 #[tv] w (fF w t.check.1 t.check.2.1 t.check.2.2):=by
 have hT0:=h;obtain⟨pv,shv,tmv,xv,rfl,hT⟩:=h;have hTP:=hT.places;have hTS:=hT.shows;have hTT:=hT.times;have hTX:=hT.streets;have hwf:=hT.wf;obtain⟨A1,cp1,rfl,_,hc1,_,_⟩:=hT.places;obtain⟨A2,cp2,rfl,_,hc2,_,_⟩:=hT.shows;obtain⟨A3,cp3,rfl,_,hc3,_,_⟩:=hT.times;obtain⟨A4,cp4,rfl,_,h2,_⟩:=hT.streets;unfold maxLen at h2 hc1 hc2 hc3;have hE:=Ext.refl w;by_cases hsm:t.Small
 ·have hp2:=hsm.p2;have hsh:=hsm.sh;have ht2:=hsm.t2;have hst:=hsm.st;have m1:eC 1 16 [(t.places.length:Int)]=false:=by rw[fU,aV.2 (by have:=hsm.p1;omega)];rfl
  have c2:¬(6<(t.shows.length:Int)):=by omega
  have m3:eC 1 4 [(t.times.length:Int)]=false:=by rw[fU,aV.2 (by have:=hsm.t1;omega)];rfl
  have c4:¬(40<(t.streets.length:Int)):=by omega
  have w0:∀s∈t.places,s.size≤maxLen:=fun s hs=>hwf s (by simp[hs])
  have w1:∀s∈t.shows,s.size≤maxLen:=fun s hs=>hwf s (by simp[hs])
  have w2:∀s∈t.times,s.size≤maxLen:=fun s hs=>hwf s (by simp[hs])
  clear hwf hT;go_enter Tryz.func17,Tryz.ntmps17
  go_wp2_with (first|(((with_reducible refine aC (d:=some 8) (hl:=aL hB1) ?_ ?_);rfl))|((with_reducible refine aO (e:=90) (u:=5) (v:=.agg #[.slice A1 t.places.length cp1,.slice A2 t.shows.length cp2,.slice A3 t.times.length cp3,.slice A4 t.streets.length cp4]) iD ?_ ?_ ?_ ?_ ?_ ?_);(intro g;rfl);(intro g;rfl);rfl;rfl;(simp[Value.cells,Value.oneCell']);intro W5 g5 hE5 hB5 hg5;simp[Value.cells] at hB5;(try replace hE:=hE.trans hE5);(try replace hT0:=hT0.ext hE5);(try replace hTP:=hTP.ext hE5);(try replace hTS:=hTS.ext hE5);(try replace hTT:=hTT.ext hE5);(try replace hTX:=hTX.ext hE5);have hb5_0:=hB5.cell 0;have hb5_1:=hB5.cell 1;have hb5_2:=hB5.cell 2;have hb5_3:=hB5.cell 3;simp at hb5_0 hb5_1 hb5_2 hb5_3;clear hE5)|((with_reducible refine eB (d:=some 14) (n0:=(t.places.length:Int)) ?_ ?_);rfl;intro W14 g14 hE14 hB14 hg14;(try replace hE:=hE.trans hE14);(try replace hT0:=hT0.ext hE14);(try replace hTP:=hTP.ext hE14);(try replace hTS:=hTS.ext hE14);(try replace hTT:=hTT.ext hE14);(try replace hTX:=hTX.ext hE14);(try replace hB5:=hB5.ext hE14);(try replace hb5_0:=hE14.c hb5_0);(try replace hb5_1:=hE14.c hb5_1);(try replace hb5_2:=hE14.c hb5_2);(try replace hb5_3:=hE14.c hb5_3);have hI14:bG W14 (.slice (some ⟨g14,0,none⟩) 1 1) [(t.places.length:Int)]:=aU hB14;clear hB14 hg14 hE14)|(go_at_call 46;((with_reducible refine((bS (by exact hI14) m1)).mono ?_);rintro e WcO ⟨rfl,hEcO⟩;(try replace hE:=hE.trans hEcO);(try replace hT0:=hT0.ext hEcO);(try replace hTP:=hTP.ext hEcO);(try replace hTS:=hTS.ext hEcO);(try replace hTT:=hTT.ext hEcO);(try replace hTX:=hTX.ext hEcO);(try replace hB5:=hB5.ext hEcO);(try replace hb5_0:=hEcO.c hb5_0);(try replace hb5_1:=hEcO.c hb5_1);(try replace hb5_2:=hEcO.c hb5_2);(try replace hb5_3:=hEcO.c hb5_3)))|((with_reducible refine bR (d:=some 28) (t:=41) (n:=1) (gd:=some (13,false)) (e:=3) (cs:=#[.int .i64 ((t.times.length:Int))]) ?_ ?_ ?_);(first|rfl|(simp[Region.wanted,yielded];done)|(simp[Region.wanted,yielded];omega)|trace_state);(simp[Act.eval];exact oE ((t.times.length:Int)));intro W28 g28 hE28 hB28 hg28;(try replace hE:=hE.trans hE28);(try replace hT0:=hT0.ext hE28);(try replace hTP:=hTP.ext hE28);(try replace hTS:=hTS.ext hE28);(try replace hTT:=hTT.ext hE28);(try replace hTX:=hTX.ext hE28);(try replace hB5:=hB5.ext hE28);(try replace hb5_0:=hE28.c hb5_0);(try replace hb5_1:=hE28.c hb5_1);(try replace hb5_2:=hE28.c hb5_2);(try replace hb5_3:=hE28.c hb5_3);have hI28:bG W28 (.slice (some ⟨g28,0,none⟩) 1 1) [(t.times.length:Int)]:=aU hB28;clear hB28 hg28 hE28)|(go_at_call 46;((with_reducible refine((bS (by exact hI28) m3)).mono ?_);rintro e WcR ⟨rfl,hEcR⟩;(try replace hE:=hE.trans hEcR);(try replace hT0:=hT0.ext hEcR);(try replace hTP:=hTP.ext hEcR);(try replace hTS:=hTS.ext hEcR);(try replace hTT:=hTT.ext hEcR);(try replace hTX:=hTX.ext hEcR);(try replace hB5:=hB5.ext hEcR);(try replace hb5_0:=hEcR.c hb5_0);(try replace hb5_1:=hEcR.c hb5_1);(try replace hb5_2:=hEcR.c hb5_2);(try replace hb5_3:=hEcR.c hb5_3)))|(((with_reducible refine Jk (d:=some 47) (p:=.slice A1 t.places.length cp1) (q:=.slice A2 t.shows.length cp2) (r:=.slice A3 t.times.length cp3) ?_ ?_ ?_ ?_ ?_ ?_ ?_);rfl;rfl;rfl;rfl;rfl;rfl;intro W47 g47 hE47 hB47 hg47;replace hE:=hE.trans hE47;replace hB5:=hB5.ext hE47;replace hT0:=hT0.ext hE47;replace hTP:=hTP.ext hE47;replace hTS:=hTS.ext hE47;replace hTT:=hTT.ext hE47;replace hTX:=hTX.ext hE47))|((with_reducible refine aF (d:=some 1) ?_);intro W1 g1 hE1 hB1 hg1;simp[Act.eval,Act.put,Value.cells] at hB1;(try replace hE:=hE.trans hE1);(try replace hT0:=hT0.ext hE1);(try replace hTP:=hTP.ext hE1);(try replace hTS:=hTS.ext hE1);(try replace hTT:=hTT.ext hE1);(try replace hTX:=hTX.ext hE1);clear hE1))
  have hEb:=hE;clear hE;go_loopw [49] (fun n wr=>Ext W47 wr∧∃k:Nat,k≤3∧n=.int .i64 k∧∀j,j<k→(aP (t.lists j)).2=0) (fun n _=>3-(intOf n).toNat)
  case atStart=>exact⟨Ext.refl _,0,by omega,rfl,by omega⟩
  case round=>
   obtain⟨hEr,k,hk,rfl,hn⟩:=hrel;have Hn:=Lib.hid hn;have hBr:=hB47.ext hEr;have hB5r:=hB5.ext hEr;have b53:=hB5r.cell 3;simp at b53;clear hn;by_cases hk3:k=3
   ·subst hk3;have Hc:=Lib.hid (Town.check_s hsm Hn.out);have hE:=hEb.trans hEr;have hTXr:=hTX.ext hEr;have hT0r:=hT0.ext hEr
    cases hq:decide (t.streetsErr.2=0) with
    |true=>
     have hq0:t.streetsErr.2=0:=of_decide_eq_true hq;have Hr:=Lib.hid (show t.check=(0,0,0) by rw[Hc.out,if_neg (by simp[hq0])])
     clear hq;go_wp2_with (first|(((with_reducible refine aC (d:=some 71) (hl:=bJ hB5r) ?_ ?_);rfl))|(go_at_call 51;((with_reducible refine(qG _ _ t _ hTXr hT0r hsm).mono ?_);rintro e WcT ⟨rfl,hEcT⟩;(try replace hE:=hE.trans hEcT);rw[hq0])))
     go_ret3
     exact fF.of Hr.out hE
    |false=>
     have hq0:¬t.streetsErr.2=0:=of_decide_eq_false hq;have Hr:=Lib.hid (show t.check=(5,t.streetsErr.1,t.streetsErr.2) by rw[Hc.out,if_pos hq0])
     have q0:(t.streetsErr.2 !=0)=true:=by simp[hq0]
     clear hq hq0;go_wp2_with (first|(((with_reducible refine aC (d:=some 71) (hl:=bJ hB5r) ?_ ?_);rfl))|(go_at_call 51;((with_reducible refine(qG _ _ t _ hTXr hT0r hsm).mono ?_);rintro e WcT ⟨rfl,hEcT⟩;(try replace hE:=hE.trans hEcT))))
     go_ret3
     exact fF.of Hr.out hE
   ·have b0:=hBr.cell 0;have b1:=hBr.cell 1;have b2:=hBr.cell 2;simp at b0 b1 b2;obtain rfl|rfl|rfl:k=0∨k=1∨k=2:=by omega
    ·
     have hT1:=hTP.ext hEr;have hE:=Ext.refl wr
     cases hq:decide ((aP t.places).2=0) with
     |true=>
      have hq0:(aP t.places).2=0:=of_decide_eq_true hq;clear hq;go_wp2_with (first|((with_reducible refine aS (d:=some 7) By ?_);intro W7 g7 hE7 hB7 hg7;have hg70:=Nat.le_trans hE.size hg7;simp[Value.cells] at hB7;(try replace hE:=hE.trans hE7))|(((with_reducible refine aK (t:=22) (e:=22) (g:=g7) (off:=0) (n:=1) (v:=.slice A1 t.places.length cp1) ?_ ?_ hB7 lG ?_ ?_ ?_ ?_);rfl;rfl;rfl;(simp[Value.cells]);(simp[Value.cells,Value.oneCell']);intro Ws hBs hgrs;simp[aI,Value.cells] at hBs;replace hE:=aD hE hgrs hg70;have c7:=hBs.cell 0;simp at c7))|(go_at_call 47;((with_reducible refine(iF _ t.places g7 _ c7 (by exact hT1.ext hE) w0).mono ?_);rintro e WcF ⟨rfl,hEcF⟩;(try replace hE:=hE.trans hEcF);rw[hq0])))
      go_roundw
      case rel=>exact⟨hEr.trans hE,0+1,by omega,by go_num,eZ (p:=fun j=>(aP (t.lists j)).2=0) Hn.out hq0⟩
      case measure=>simp[intOf]
     |false=>
      have hq0:¬(aP t.places).2=0:=of_decide_eq_false hq;have Hr:=Lib.hid (Town.check_n hsm (k:=0) (by omega) (i:=(aP t.places).1) (e:=(aP t.places).2) rfl hq0 Hn.out)
      have q0:((aP t.places).2 !=0)=true:=by simp[hq0]
      clear hq hq0;go_wp2_with (first|((with_reducible refine aS (d:=some 7) By ?_);intro W7 g7 hE7 hB7 hg7;have hg70:=Nat.le_trans hE.size hg7;simp[Value.cells] at hB7;(try replace hE:=hE.trans hE7))|(((with_reducible refine aK (t:=22) (e:=22) (g:=g7) (off:=0) (n:=1) (v:=.slice A1 t.places.length cp1) ?_ ?_ hB7 lG ?_ ?_ ?_ ?_);rfl;rfl;rfl;(simp[Value.cells]);(simp[Value.cells,Value.oneCell']);intro Ws hBs hgrs;simp[aI,Value.cells] at hBs;replace hE:=aD hE hgrs hg70;have c7:=hBs.cell 0;simp at c7))|(go_at_call 47;((with_reducible refine(iF _ t.places g7 _ c7 (by exact hT1.ext hE) w0).mono ?_);rintro e WcF ⟨rfl,hEcF⟩;(try replace hE:=hE.trans hEcF))))
      go_ret3
      exact fF.of Hr.out ((hEb.trans hEr).trans hE)
    ·
     have hT1:=hTS.ext hEr;have hE:=Ext.refl wr
     cases hq:decide ((aP t.shows).2=0) with
     |true=>
      have hq0:(aP t.shows).2=0:=of_decide_eq_true hq;clear hq;go_wp2_with (first|((with_reducible refine aS (d:=some 7) By ?_);intro W7 g7 hE7 hB7 hg7;have hg70:=Nat.le_trans hE.size hg7;simp[Value.cells] at hB7;(try replace hE:=hE.trans hE7))|(((with_reducible refine aK (t:=22) (e:=22) (g:=g7) (off:=0) (n:=1) (v:=.slice A2 t.shows.length cp2) ?_ ?_ hB7 lG ?_ ?_ ?_ ?_);rfl;rfl;rfl;(simp[Value.cells]);(simp[Value.cells,Value.oneCell']);intro Ws hBs hgrs;simp[aI,Value.cells] at hBs;replace hE:=aD hE hgrs hg70;have c7:=hBs.cell 0;simp at c7))|(go_at_call 47;((with_reducible refine(iF _ t.shows g7 _ c7 (by exact hT1.ext hE) w1).mono ?_);rintro e WcF ⟨rfl,hEcF⟩;(try replace hE:=hE.trans hEcF);rw[hq0])))
      go_roundw
      case rel=>exact⟨hEr.trans hE,1+1,by omega,by go_num,eZ (p:=fun j=>(aP (t.lists j)).2=0) Hn.out hq0⟩
      case measure=>simp[intOf]
     |false=>
      have hq0:¬(aP t.shows).2=0:=of_decide_eq_false hq;have Hr:=Lib.hid (Town.check_n hsm (k:=1) (by omega) (i:=(aP t.shows).1) (e:=(aP t.shows).2) rfl hq0 Hn.out)
      have q0:((aP t.shows).2 !=0)=true:=by simp[hq0]
      clear hq hq0;go_wp2_with (first|((with_reducible refine aS (d:=some 7) By ?_);intro W7 g7 hE7 hB7 hg7;have hg70:=Nat.le_trans hE.size hg7;simp[Value.cells] at hB7;(try replace hE:=hE.trans hE7))|(((with_reducible refine aK (t:=22) (e:=22) (g:=g7) (off:=0) (n:=1) (v:=.slice A2 t.shows.length cp2) ?_ ?_ hB7 lG ?_ ?_ ?_ ?_);rfl;rfl;rfl;(simp[Value.cells]);(simp[Value.cells,Value.oneCell']);intro Ws hBs hgrs;simp[aI,Value.cells] at hBs;replace hE:=aD hE hgrs hg70;have c7:=hBs.cell 0;simp at c7))|(go_at_call 47;((with_reducible refine(iF _ t.shows g7 _ c7 (by exact hT1.ext hE) w1).mono ?_);rintro e WcF ⟨rfl,hEcF⟩;(try replace hE:=hE.trans hEcF))))
      go_ret3
      exact fF.of Hr.out ((hEb.trans hEr).trans hE)
    ·
     have hT1:=hTT.ext hEr;have hE:=Ext.refl wr
     cases hq:decide ((aP t.times).2=0) with
     |true=>
      have hq0:(aP t.times).2=0:=of_decide_eq_true hq;clear hq;go_wp2_with (first|((with_reducible refine aS (d:=some 7) By ?_);intro W7 g7 hE7 hB7 hg7;have hg70:=Nat.le_trans hE.size hg7;simp[Value.cells] at hB7;(try replace hE:=hE.trans hE7))|(((with_reducible refine aK (t:=22) (e:=22) (g:=g7) (off:=0) (n:=1) (v:=.slice A3 t.times.length cp3) ?_ ?_ hB7 lG ?_ ?_ ?_ ?_);rfl;rfl;rfl;(simp[Value.cells]);(simp[Value.cells,Value.oneCell']);intro Ws hBs hgrs;simp[aI,Value.cells] at hBs;replace hE:=aD hE hgrs hg70;have c7:=hBs.cell 0;simp at c7))|(go_at_call 47;((with_reducible refine(iF _ t.times g7 _ c7 (by exact hT1.ext hE) w2).mono ?_);rintro e WcF ⟨rfl,hEcF⟩;(try replace hE:=hE.trans hEcF);rw[hq0])))
      go_roundw
      case rel=>exact⟨hEr.trans hE,2+1,by omega,by go_num,eZ (p:=fun j=>(aP (t.lists j)).2=0) Hn.out hq0⟩
      case measure=>simp[intOf]
     |false=>
      have hq0:¬(aP t.times).2=0:=of_decide_eq_false hq;have Hr:=Lib.hid (Town.check_n hsm (k:=2) (by omega) (i:=(aP t.times).1) (e:=(aP t.times).2) rfl hq0 Hn.out)
      have q0:((aP t.times).2 !=0)=true:=by simp[hq0]
      clear hq hq0;go_wp2_with (first|((with_reducible refine aS (d:=some 7) By ?_);intro W7 g7 hE7 hB7 hg7;have hg70:=Nat.le_trans hE.size hg7;simp[Value.cells] at hB7;(try replace hE:=hE.trans hE7))|(((with_reducible refine aK (t:=22) (e:=22) (g:=g7) (off:=0) (n:=1) (v:=.slice A3 t.times.length cp3) ?_ ?_ hB7 lG ?_ ?_ ?_ ?_);rfl;rfl;rfl;(simp[Value.cells]);(simp[Value.cells,Value.oneCell']);intro Ws hBs hgrs;simp[aI,Value.cells] at hBs;replace hE:=aD hE hgrs hg70;have c7:=hBs.cell 0;simp at c7))|(go_at_call 47;((with_reducible refine(iF _ t.times g7 _ c7 (by exact hT1.ext hE) w2).mono ?_);rintro e WcF ⟨rfl,hEcF⟩;(try replace hE:=hE.trans hEcF))))
      go_ret3
      exact fF.of Hr.out ((hEb.trans hEr).trans hE)
 ·have hbad:inB t.places.length 1 16=false∨6<t.shows.length∨inB t.times.length 1 4=false∨40<t.streets.length:=Classical.byContradiction fun h=>hsm (Town.small_of h)
  have Hr:=Lib.hid (Town.check_1 hbad);clear hsm hwf hT;have hcs:eC 1 16 [(t.places.length:Int)]=true∨(eC 1 16 [(t.places.length:Int)]=false∧6<(t.shows.length:Int))∨(eC 1 16 [(t.places.length:Int)]=false∧¬6<(t.shows.length:Int)∧eC 1 4 [(t.times.length:Int)]=true)∨
   (eC 1 16 [(t.places.length:Int)]=false∧¬6<(t.shows.length:Int)∧eC 1 4 [(t.times.length:Int)]=false∧40<(t.streets.length:Int)):=by
   rw[fU,fU]
   cases c1:inB (t.places.length:Int) 1 16<;>cases c3:inB (t.times.length:Int) 1 4<;>by_cases c2:6<(t.shows.length:Int)<;>simp[c1,c3,c2] at hbad⊢ <;>omega
  clear hbad;rcases hcs with m1|⟨m1,c2⟩|⟨m1,c2,m3⟩|⟨m1,c2,m3,c4⟩
  all_goals
   go_enter Tryz.func17,Tryz.ntmps17
   go_wp2_with (first|(((with_reducible refine aC (d:=some 8) (hl:=aL hB1) ?_ ?_);rfl))|((with_reducible refine aO (e:=90) (u:=5) (v:=.agg #[.slice A1 t.places.length cp1,.slice A2 t.shows.length cp2,.slice A3 t.times.length cp3,.slice A4 t.streets.length cp4]) iD ?_ ?_ ?_ ?_ ?_ ?_);(intro g;rfl);(intro g;rfl);rfl;rfl;(simp[Value.cells,Value.oneCell']);intro W5 g5 hE5 hB5 hg5;simp[Value.cells] at hB5;(try replace hE:=hE.trans hE5);have hb5_0:=hB5.cell 0;have hb5_1:=hB5.cell 1;have hb5_2:=hB5.cell 2;have hb5_3:=hB5.cell 3;simp at hb5_0 hb5_1 hb5_2 hb5_3;clear hE5)|((with_reducible refine eB (d:=some 14) (n0:=(t.places.length:Int)) ?_ ?_);rfl;intro W14 g14 hE14 hB14 hg14;(try replace hE:=hE.trans hE14);(try replace hB5:=hB5.ext hE14);(try replace hb5_0:=hE14.c hb5_0);(try replace hb5_1:=hE14.c hb5_1);(try replace hb5_2:=hE14.c hb5_2);(try replace hb5_3:=hE14.c hb5_3);have hI14:bG W14 (.slice (some ⟨g14,0,none⟩) 1 1) [(t.places.length:Int)]:=aU hB14;clear hB14 hg14 hE14)|(go_at_call 46;((with_reducible refine((bS (by exact hI14) m1)).mono ?_);rintro e WcO ⟨rfl,hEcO⟩;(try replace hE:=hE.trans hEcO);(try replace hB5:=hB5.ext hEcO);(try replace hb5_0:=hEcO.c hb5_0);(try replace hb5_1:=hEcO.c hb5_1);(try replace hb5_2:=hEcO.c hb5_2);(try replace hb5_3:=hEcO.c hb5_3)))|((with_reducible refine bR (d:=some 28) (t:=41) (n:=1) (gd:=some (13,false)) (e:=3) (cs:=#[.int .i64 ((t.times.length:Int))]) ?_ ?_ ?_);(first|rfl|(simp[Region.wanted,yielded];done)|(simp[Region.wanted,yielded];omega)|trace_state);(simp[Act.eval];exact oE ((t.times.length:Int)));intro W28 g28 hE28 hB28 hg28;(try replace hE:=hE.trans hE28);(try replace hB5:=hB5.ext hE28);(try replace hb5_0:=hE28.c hb5_0);(try replace hb5_1:=hE28.c hb5_1);(try replace hb5_2:=hE28.c hb5_2);(try replace hb5_3:=hE28.c hb5_3);have hI28:bG W28 (.slice (some ⟨g28,0,none⟩) 1 1) [(t.times.length:Int)]:=aU hB28;clear hB28 hg28 hE28)|(go_at_call 46;((with_reducible refine((bS (by exact hI28) m3)).mono ?_);rintro e WcR ⟨rfl,hEcR⟩;(try replace hE:=hE.trans hEcR);(try replace hB5:=hB5.ext hEcR);(try replace hb5_0:=hEcR.c hb5_0);(try replace hb5_1:=hEcR.c hb5_1);(try replace hb5_2:=hEcR.c hb5_2);(try replace hb5_3:=hEcR.c hb5_3)))|((with_reducible refine aF (d:=some 1) ?_);intro W1 g1 hE1 hB1 hg1;simp[Act.eval,Act.put,Value.cells] at hB1;(try replace hE:=hE.trans hE1);clear hE1))
   go_ret3
   exact fF.of Hr.out hE
end Go.St
end
section
namespace Go.St
open Go Go.Bp Go.RowKit Go.Proofs
def Town.openErr(t:Town)(ps:List Int):Int:=if t.check.2.2≠0 then t.check.2.2 else if eC 0 (t.places.length-1) ps=true then 4 else 0
def xJ(w:World)(v:Value)(b:Int)(e:Ending)(w':World):Prop:=e=.returned (.tuple #[v,.int .i64 b])∧Ext w w'
theorem xJ.of{w w':World}{v:Value}{a b:Int}(h:b=a)(e:Ext w w'):xJ w v b (.returned (.tuple #[v,.int .i64 a])) w':=⟨by rw[h],e⟩
set_option maxHeartbeats 4000000 in
theorem cV(tv pv:Value)(t:Town)(ps:List Int)(w:World)(h:aM w tv t)(hp:bG w pv ps):
 Calls Tryz.prog 57 #[tv,pv] w (xJ w tv (t.openErr ps)):=by
 have hT0:=h;obtain⟨plv,shv,tmv,xv,rfl,hT⟩:=h;obtain⟨A1,cp1,rfl,_,hc1,_,_⟩:=hT.places;obtain⟨A2,cp2,rfl,_,hc2,_,_⟩:=hT.shows;obtain⟨A3,cp3,rfl,_,hc3,_,_⟩:=hT.times;obtain⟨A4,cp4,rfl,_,h2,_⟩:=hT.streets;clear hT;unfold maxLen at hc1 hc2 hc3 h2;have hE:=Ext.refl w;by_cases hce:t.check.2.2=0
 ·have Hc:=Lib.hid (Town.check_zero hce)
  cases q1:eC 0 (t.places.length-1) ps with
  |true=>
   have Hr:=Lib.hid (show t.openErr ps=4 by unfold Town.openErr;rw[if_neg (by simp[hce]),if_pos q1])
   clear hce;go_enter Tryz.func57,Tryz.ntmps57
   go_wp2_with (first|((with_reducible refine aS (d:=some 4) iD ?_);intro W4 g4 hE4 hB4 hg4;have hg40:=Nat.le_trans hE.size hg4;simp[Value.cells] at hB4;(try replace hE:=hE.trans hE4);(try replace hT0:=hT0.ext hE4);(try replace hp:=hp.ext hE4);(try replace hB2:=hB2.ext hE4))|(((with_reducible refine aC (d:=some 10) (hl:=aL hB2) ?_ ?_);rfl))|(((with_reducible refine aC (d:=some 13) (hl:=aL hB2) ?_ ?_);rfl))|((with_reducible refine aO (e:=90) (u:=6) (v:=.agg #[.slice A1 t.places.length cp1,.slice A2 t.shows.length cp2,.slice A3 t.times.length cp3,.slice A4 t.streets.length cp4]) iD ?_ ?_ ?_ ?_ ?_ ?_);(intro g;rfl);(intro g;rfl);rfl;rfl;(simp[Value.cells,Value.oneCell']);intro W6 g6 hE6 hB6 hg6;simp[Value.cells] at hB6;(try replace hE:=hE.trans hE6);(try replace hT0:=hT0.ext hE6);(try replace hp:=hp.ext hE6);(try replace hB2:=hB2.ext hE6);(try replace hB4:=hB4.ext hE6);have hb6_0:=hB6.cell 0;simp at hb6_0;clear hE6)|(go_at_call 17;((with_reducible refine(mM _ t _ (by exact hT0)).mono ?_);rintro e WcC ⟨rfl,hEcC⟩;(try replace hE:=hE.trans hEcC);(try replace hp:=hp.ext hEcC);(try replace hB4:=hB4.ext hEcC);(try replace hB6:=hB6.ext hEcC);(try replace hb6_0:=hEcC.c hb6_0);rw[Hc.out]))|(go_at_call 46;((with_reducible refine((bS (by exact hp) q1)).mono ?_);rintro e WcO ⟨rfl,hEcO⟩;(try replace hE:=hE.trans hEcO);(try replace hB4:=hB4.ext hEcO);(try replace hB6:=hB6.ext hEcO)))|(((with_reducible refine aC (d:=some 29) (hl:=bJ hB6) ?_ ?_);rfl))|(((with_reducible refine aK (t:=90) (e:=90) (g:=g4) (off:=0) (n:=4) (v:=.agg #[.slice A1 t.places.length cp1,.slice A2 t.shows.length cp2,.slice A3 t.times.length cp3,.slice A4 t.streets.length cp4]) ?_ ?_ hB4 jE ?_ ?_ ?_ ?_);rfl;rfl;rfl;(simp[Value.cells]);(simp[Value.cells,Value.oneCell']);intro Ws hBs hgrs;simp[aI,Value.cells] at hBs;replace hE:=aD hE hgrs hg40))|((with_reducible refine aF (d:=some 2) ?_);intro W2 g2 hE2 hB2 hg2;simp[Act.eval,Act.put,Value.cells] at hB2;(try replace hE:=hE.trans hE2);(try replace hT0:=hT0.ext hE2);(try replace hp:=hp.ext hE2);clear hE2))
   refine jQ rfl rfl rfl (bJ hBs) ?_;exact xJ.of Hr.out hE
  |false=>
   have Hr:=Lib.hid (show t.openErr ps=0 by unfold Town.openErr;rw[if_neg (by simp[hce]),if_neg (by simp[q1])])
   clear hce;go_enter Tryz.func57,Tryz.ntmps57
   go_wp2_with (first|((with_reducible refine aS (d:=some 4) iD ?_);intro W4 g4 hE4 hB4 hg4;have hg40:=Nat.le_trans hE.size hg4;simp[Value.cells] at hB4;(try replace hE:=hE.trans hE4);(try replace hT0:=hT0.ext hE4);(try replace hp:=hp.ext hE4);(try replace hB2:=hB2.ext hE4))|(((with_reducible refine aC (d:=some 10) (hl:=aL hB2) ?_ ?_);rfl))|(((with_reducible refine aC (d:=some 13) (hl:=aL hB2) ?_ ?_);rfl))|((with_reducible refine aO (e:=90) (u:=6) (v:=.agg #[.slice A1 t.places.length cp1,.slice A2 t.shows.length cp2,.slice A3 t.times.length cp3,.slice A4 t.streets.length cp4]) iD ?_ ?_ ?_ ?_ ?_ ?_);(intro g;rfl);(intro g;rfl);rfl;rfl;(simp[Value.cells,Value.oneCell']);intro W6 g6 hE6 hB6 hg6;simp[Value.cells] at hB6;(try replace hE:=hE.trans hE6);(try replace hT0:=hT0.ext hE6);(try replace hp:=hp.ext hE6);(try replace hB2:=hB2.ext hE6);(try replace hB4:=hB4.ext hE6);have hb6_0:=hB6.cell 0;simp at hb6_0;clear hE6)|(go_at_call 17;((with_reducible refine(mM _ t _ (by exact hT0)).mono ?_);rintro e WcC ⟨rfl,hEcC⟩;(try replace hE:=hE.trans hEcC);(try replace hp:=hp.ext hEcC);(try replace hB4:=hB4.ext hEcC);(try replace hB6:=hB6.ext hEcC);(try replace hb6_0:=hEcC.c hb6_0);rw[Hc.out]))|(go_at_call 46;((with_reducible refine((bS (by exact hp) q1)).mono ?_);rintro e WcO ⟨rfl,hEcO⟩;(try replace hE:=hE.trans hEcO);(try replace hB4:=hB4.ext hEcO);(try replace hB6:=hB6.ext hEcO)))|(((with_reducible refine aC (d:=some 30) (hl:=bJ hB6) ?_ ?_);rfl))|(((with_reducible refine aK (t:=90) (e:=90) (g:=g4) (off:=0) (n:=4) (v:=.agg #[.slice A1 t.places.length cp1,.slice A2 t.shows.length cp2,.slice A3 t.times.length cp3,.slice A4 t.streets.length cp4]) ?_ ?_ hB4 jE ?_ ?_ ?_ ?_);rfl;rfl;rfl;(simp[Value.cells]);(simp[Value.cells,Value.oneCell']);intro Ws hBs hgrs;simp[aI,Value.cells] at hBs;replace hE:=aD hE hgrs hg40))|((with_reducible refine aF (d:=some 2) ?_);intro W2 g2 hE2 hB2 hg2;simp[Act.eval,Act.put,Value.cells] at hB2;(try replace hE:=hE.trans hE2);(try replace hT0:=hT0.ext hE2);(try replace hp:=hp.ext hE2);clear hE2))
   refine jQ rfl rfl rfl (bJ hBs) ?_;exact xJ.of Hr.out hE
 ·have Hr:=Lib.hid (show t.openErr ps=t.check.2.2 by unfold Town.openErr;rw[if_pos hce])
  have q0:(t.check.2.2 !=0)=true:=by simp[hce]
  clear hce;go_enter Tryz.func57,Tryz.ntmps57
  go_wp2_with (first|((with_reducible refine aS (d:=some 4) iD ?_);intro W4 g4 hE4 hB4 hg4;have hg40:=Nat.le_trans hE.size hg4;simp[Value.cells] at hB4;(try replace hE:=hE.trans hE4);(try replace hT0:=hT0.ext hE4);(try replace hp:=hp.ext hE4);(try replace hB2:=hB2.ext hE4))|(((with_reducible refine aC (d:=some 10) (hl:=aL hB2) ?_ ?_);rfl))|(((with_reducible refine aC (d:=some 13) (hl:=aL hB2) ?_ ?_);rfl))|((with_reducible refine aO (e:=90) (u:=6) (v:=.agg #[.slice A1 t.places.length cp1,.slice A2 t.shows.length cp2,.slice A3 t.times.length cp3,.slice A4 t.streets.length cp4]) iD ?_ ?_ ?_ ?_ ?_ ?_);(intro g;rfl);(intro g;rfl);rfl;rfl;(simp[Value.cells,Value.oneCell']);intro W6 g6 hE6 hB6 hg6;simp[Value.cells] at hB6;(try replace hE:=hE.trans hE6);(try replace hT0:=hT0.ext hE6);(try replace hp:=hp.ext hE6);(try replace hB2:=hB2.ext hE6);(try replace hB4:=hB4.ext hE6);have hb6_0:=hB6.cell 0;simp at hb6_0;clear hE6)|(go_at_call 17;((with_reducible refine(mM _ t _ (by exact hT0)).mono ?_);rintro e WcC ⟨rfl,hEcC⟩;(try replace hE:=hE.trans hEcC);(try replace hp:=hp.ext hEcC);(try replace hB4:=hB4.ext hEcC);(try replace hB6:=hB6.ext hEcC);(try replace hb6_0:=hEcC.c hb6_0)))|(((with_reducible refine aC (d:=some 20) (hl:=bJ hB6) ?_ ?_);rfl))|(((with_reducible refine aK (t:=90) (e:=90) (g:=g4) (off:=0) (n:=4) (v:=.agg #[.slice A1 t.places.length cp1,.slice A2 t.shows.length cp2,.slice A3 t.times.length cp3,.slice A4 t.streets.length cp4]) ?_ ?_ hB4 jE ?_ ?_ ?_ ?_);rfl;rfl;rfl;(simp[Value.cells]);(simp[Value.cells,Value.oneCell']);intro Ws hBs hgrs;simp[aI,Value.cells] at hBs;replace hE:=aD hE hgrs hg40))|((with_reducible refine aF (d:=some 2) ?_);intro W2 g2 hE2 hB2 hg2;simp[Act.eval,Act.put,Value.cells] at hB2;(try replace hE:=hE.trans hE2);(try replace hT0:=hT0.ext hE2);(try replace hp:=hp.ext hE2);clear hE2))
  refine jQ rfl rfl rfl (bJ hBs) ?_;exact xJ.of Hr.out hE
set_option maxHeartbeats 1000000 in
theorem fL(tv:Value)(t:Town)(k:Nat)(b:Bool)(w:World)(h:aM w tv t)(hk:k<t.streets.length):
 Calls Tryz.prog 65 #[tv,.agg #[.int .i64 k,.bool b]] w (dQ w (t.ends ⟨k,b⟩).1 (t.ends ⟨k,b⟩).2):=by
 obtain⟨pv,sv,tmv,xv,rfl,hT⟩:=h;obtain⟨A,cp,rfl,h1,h2,h4⟩:=hT.streets;unfold maxLen at h2;have hE:=Ext.refl w;obtain⟨ad,rfl,hc⟩:=h4 (by omega)
 obtain⟨ssv,hs⟩:=hc k hk;clear hc h4 hT;have Hf:=Lib.hid (Town.ends_f (t:=t) hk);have Ht:=Lib.hid (Town.ends_t (t:=t) hk);obtain⟨s,hst⟩:∃s,t.streets[k]=s:=⟨_,rfl⟩;rw[hst] at hs Hf Ht;clear hst;obtain⟨hs1,As,cs,rfl,hs2⟩:=hs;replace hs1:gB w _ s _:=⟨hs1,As,cs,rfl,hs2⟩
 cases b
 ·go_enter Tryz.func65,Tryz.ntmps65
  go_wp2_with (first|(((with_reducible refine aC (d:=some 13) (hl:=eA hs1) ?_ ?_);rfl))|((with_reducible refine aO (e:=87) (u:=6) (v:=.agg #[.int .i64 s.a,.int .i64 s.b,.int .i64 s.metres,.int .i64 s.lo,.int .i64 s.hi,.bool s.both,.slice As s.shows.length cs]) sY ?_ ?_ ?_ ?_ ?_ ?_);(intro g;rfl);(intro g;rfl);rfl;rfl;(simp[Value.cells,Value.oneCell']);intro W6 g6 hE6 hB6 hg6;simp[Value.cells] at hB6;(try replace hE:=hE.trans hE6);(try replace hb3_1:=hE6.c hb3_1);have hb6_0:=hB6.cell 0;have hb6_1:=hB6.cell 1;simp at hb6_0 hb6_1;clear hE6)|((with_reducible refine aF (d:=some 2) ?_);intro W2 g2 hE2 hB2 hg2;simp[Act.eval,Act.put,Value.cells] at hB2;(try replace hE:=hE.trans hE2);(try replace hs1:=hs1.ext hE2);have hb2_3:=hB2.cell 3;simp at hb2_3;clear hE2)|((with_reducible refine aF (d:=some 3) ?_);intro W3 g3 hE3 hB3 hg3;simp[Act.eval,Act.put,Value.cells] at hB3;(try replace hE:=hE.trans hE3);(try replace hs1:=hs1.ext hE3);(try replace hb2_3:=hE3.c hb2_3);have hb3_0:=hB3.cell 0;have hb3_1:=hB3.cell 1;simp at hb3_0 hb3_1;clear hE3))
  go_quiet (fail)
  go_wp2
  go_ret2
  exact dQ.of Hf.out (hE.drewN _)
 ·go_enter Tryz.func65,Tryz.ntmps65
  go_wp2_with (first|(((with_reducible refine aC (d:=some 13) (hl:=eA hs1) ?_ ?_);rfl))|((with_reducible refine aO (e:=87) (u:=6) (v:=.agg #[.int .i64 s.a,.int .i64 s.b,.int .i64 s.metres,.int .i64 s.lo,.int .i64 s.hi,.bool s.both,.slice As s.shows.length cs]) sY ?_ ?_ ?_ ?_ ?_ ?_);(intro g;rfl);(intro g;rfl);rfl;rfl;(simp[Value.cells,Value.oneCell']);intro W6 g6 hE6 hB6 hg6;simp[Value.cells] at hB6;(try replace hE:=hE.trans hE6);(try replace hb3_1:=hE6.c hb3_1);have hb6_0:=hB6.cell 0;have hb6_1:=hB6.cell 1;simp at hb6_0 hb6_1;clear hE6)|((with_reducible refine aF (d:=some 2) ?_);intro W2 g2 hE2 hB2 hg2;simp[Act.eval,Act.put,Value.cells] at hB2;(try replace hE:=hE.trans hE2);(try replace hs1:=hs1.ext hE2);have hb2_3:=hB2.cell 3;simp at hb2_3;clear hE2)|((with_reducible refine aF (d:=some 3) ?_);intro W3 g3 hE3 hB3 hg3;simp[Act.eval,Act.put,Value.cells] at hB3;(try replace hE:=hE.trans hE3);(try replace hs1:=hs1.ext hE3);(try replace hb2_3:=hE3.c hb2_3);have hb3_0:=hB3.cell 0;have hb3_1:=hB3.cell 1;simp at hb3_0 hb3_1;clear hE3))
  go_quiet (fail)
  go_wp2
  go_ret2
  exact dQ.of Ht.out (hE.drewN _)
end Go.St
end
