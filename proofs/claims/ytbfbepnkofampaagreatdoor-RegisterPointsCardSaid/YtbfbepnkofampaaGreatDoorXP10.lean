import Derived.Test.YtbfbepnkofampaaGreatDoorXP09
set_option maxRecDepth 100000
set_option synthInstance.maxSize 2000
set_option synthInstance.maxHeartbeats 400000
set_option maxHeartbeats 8000000
set_option linter.all false
section
namespace Go.Bp
open Go.RowKit
section
variable{P:Program}{ops:Array Oper}{Q:Exit→Act→World→Prop}{S:World→Prop}{a:Act}{w:World}{rest:List Oper}{o:Oper}
theorem rR(hw:Region.wanted o (yielded ops a.tmps)=true)
 (h:∀K:Act→World→Prop,(∀a w,wpList P ops Q rest a w→K a w)→o.wp P a w K Q):wpList P ops Q (o::rest) a w:=
 wpList_step fun K hK=>by rw[if_pos hw];exact h K hK
theorem Md(hw:Region.wanted o (yielded ops a.tmps)=false)(k:wpList P ops Q rest (a.put o.dst undef) w):wpList P ops Q (o::rest) a w:=
 wpList_step fun K hK=>by rw[if_neg (by simp[hw])];exact hK _ _ k
theorem Lz{i:Nat}{r:OTree}{v:Value}(ho:ops[i]? =some o)(hw:Region.wanted o (yielded ops a.tmps)=true)(hy:∀w,S w→(execOp a.eval o).run P w=.ok (.value v) w)(hS:S w)
 (k:wpTree P ops Q S r (a.put o.dst v) w):wpTree P ops Q S (.take i r) a w:=
 ⟨o,v,ho,.inl ⟨hw,hy⟩,hS,k⟩
theorem Pk{i:Nat}{r:OTree}(ho:ops[i]? =some o)(hw:Region.wanted o (yielded ops a.tmps)=false)(hS:S w)
 (k:wpTree P ops Q S r (a.put o.dst undef) w):wpTree P ops Q S (.take i r) a w:=
 ⟨o,undef,ho,.inr ⟨hw,rfl⟩,hS,k⟩
end
section
variable{P:Program}{ops:Array Oper}{Q:Exit→Act→World→Prop}{S:World→Prop}{a:Act}{w:World}{rest l:List Oper}{r:OTree}
theorem tw{i:Nat}{o:Oper}{v:Value}(hy:∀w,S w→(execOp a.eval o).run P w=.ok (.value v) w)(hS:S w)(k:wpTree P ops Q S r (a.put o.dst v) w)(ho:ops[i]? =some o:=by simp only[gS];rfl)(hw:Region.wanted o (yielded ops a.tmps)=true:=by rfl):wpTree P ops Q S (.take i r) a w:=Lz ho hw hy hS k
theorem ts{i:Nat}{o:Oper}(hS:S w)(k:wpTree P ops Q S r (a.put o.dst undef) w)(ho:ops[i]? =some o:=by simp only[gS];rfl)(hw:Region.wanted o (yielded ops a.tmps)=false:=by rfl):wpTree P ops Q S (.take i r) a w:=Pk ho hw hS k
end
end Go.Bp
end
section
namespace Go.Walk
open Go Go.Bp Go.RowKit
class ArrT (P:Program) (t:TypeId) (n:outParam Nat):Prop where h:(∃k e,P.underlying t=some (.array k e))∧(P.info? t).map TypeInfo.size=some n
section
variable{P:Program}{W:World}{t e:TypeId}{p:Addr}{s l:List Value}{g i n:Nat}
theorem Qg(hs:(∃k e,P.underlying t=some (.array k e))∧(P.info? t).map TypeInfo.size=some n)(hc:Cells W p s)(hl:s.length=n):(loadVar t p).run P W=.ok (.agg s.toArray) W:=by
 obtain⟨⟨k,e,h1⟩,h2⟩:=hs
 cases hi:P.info? t with
 |none=>rw[hi] at h2;cases h2
 |some i=>
  rw[hi] at h2;have hz:i.size=s.length:=by rw[hl];simpa using h2
  have h:=run_loadCells_list (P:=P) W p s hc;unfold loadVar isAgg;simp[Sem.run_bind,run_underlying h1,sizeOf,typeInfo,hi,hz,h]
instance(priority:=900)LoadC.arr[x:ArrT P t n][y:BlkC W g e l][z:SubC l i n s]:LoadC P W t ⟨g,i,none⟩ (.agg s.toArray):=⟨by
 refine Qg x.h (fun j u hu=> ?_) z.h.2
 have e:(⟨g,i,none⟩:Addr).add j=⟨g,i+j,none⟩:=by unfold Addr.add;split<;>simp_all
 rw[e,y.h.cell];have:j<s.length:=(List.getElem?_eq_some_iff.1 hu).1;rw[←z.h.1,List.getElem?_take_of_lt (by have:=z.h.2;omega),List.getElem?_drop] at hu
 simpa using hu⟩
class IxC (P:Program) (t:TypeId) (cs:Array Value) (k:Nat) (v:outParam Value):Prop where
 h:∃n e dsc,P.underlying t=some (.array n e)∧P.underlying e=some dsc∧scal dsc=true∧(P.info? e).map TypeInfo.size=some 1∧k<n∧cs[k]? =some v
section
variable{P:Program}{W:World}{t:TypeId}{cs:Array Value}{k:Nat}{v:Value}{A:Act}{d:Option Tmp}{ty:TypeId}{pos:String}{after:Array Edge}{x y:Operand}{ops:Array Oper}{Q:Exit→Act→World→Prop}{rest:List Oper}
theorem iS{gd:Option (Tmp×Bool)}[c:IxC P t cs k v](hx:A.eval x=.agg cs:=by with_unfolding_all rfl)(hy:A.eval y=.int .i64 (k:Int):=by with_unfolding_all rfl):(execOp A.eval (⟨d,.index t x y,ty,pos,after,gd⟩:Oper)).run P W=.ok (.value v) W:=by
 obtain⟨n,e,dsc,h1,h2,h3,h4,h5,h6⟩:=c.h
 cases hi:P.info? e with
 |none=>rw[hi] at h4;cases h4
 |some i=>
  rw[hi] at h4;have hz:i.size=1:=by simpa using h4
  have h5':(k:Int)<(n:Int):=by omega
  cases dsc<;>first|(exfalso;simp[scal] at h3;done)|simp[execOp,Instr.index,asIntOf,hx,hy,run_underlying h1,run_underlying h2,sizeOf,typeInfo,hi,hz,part,isAgg,h6,h5,h5',Result.andThen]
theorem cM[c:IxC P t cs k v](kk:wpList P ops Q rest (A.put d v) W)(hx:A.eval x=.agg cs:=by with_unfolding_all rfl)(hy:A.eval y=.int .i64 (k:Int):=by with_unfolding_all rfl):wpList P ops Q (⟨d,.index t x y,ty,pos,after,none⟩::rest) A W:=Co rfl (iS hx hy) kk
end
theorem fO{ops:Array Oper}{Q:Exit→Act→World→Prop}{A:Act}{rest:List Oper}{d:Option Tmp}{ty:TypeId}{pos:String}{after:Array Edge}{o:Op}{gd:Tmp×Bool}(k:wpList P ops Q rest (A.put d undef) W)(hw:Region.wanted (⟨d,o,ty,pos,after,some gd⟩:Oper) (yielded ops A.tmps)=false:=by with_unfolding_all rfl):wpList P ops Q (⟨d,o,ty,pos,after,some gd⟩::rest) A W:=by
 unfold wpList;rw[if_neg (by rw[hw];simp)]
 exact k
theorem gF{P:Program}{fn:Func}{R:Ending→World→Prop}{x:Tmp}{t:TypeId}{a:Act}{w:World}{p:Addr}{v:Value}(h:fn.results=#[.cell x t])(hd:a.defers=[])
 (hx:a.tmps.getD x undef=.pointer (some p))[hl:LoadC P w t p v](hR:R (.returned v) w):bodyPost P fn R .ret a w:=Pr h hd hx hl.h hR
theorem bM{P:Program}{fn:Func}{R:Ending→World→Prop}{x u:Tmp}{t:TypeId}{a:Act}{w:World}{p:Addr}{v:Value}(h:fn.results=#[.cell x t,.tmp u])(hd:a.defers=[])
 (hx:a.tmps.getD x undef=.pointer (some p))[hl:LoadC P w t p v](hR:R (.returned (.tuple #[v,a.tmps.getD u undef])) w):bodyPost P fn R .ret a w:=Pq h hd hx hl.h hR
end
end Go.Walk
namespace Go.Rg
open Go Go.Bp Go.RowKit Go.Walk Go.Proofs
instance:ArrT Tryz.prog 187 12:=⟨⟨_,_,Tryz.underlying187⟩,by kernel_rfl⟩
instance:ZeroT Tryz.prog 187 [.int .i64 0,.int .i64 0,.int .i64 0,.int .i64 0,.int .i64 0,.int .i64 0,.int .i64 0,.int .i64 0,.int .i64 0,.int .i64 0,.int .i64 0,.int .i64 0]:=⟨.agg #[.int .i64 0,.int .i64 0,.int .i64 0,.int .i64 0,.int .i64 0,.int .i64 0,.int .i64 0,.int .i64 0,.int .i64 0,.int .i64 0,.int .i64 0,.int .i64 0],96,by kernel_rfl,by simp[Value.cells],by decide⟩
class Fact' (p:Prop):Prop where h:p
def lensA(y:Int):Array Value:=(encL (lens (leap y))).toArray
theorem wX(y:Int)(hy:0≤y∧y≤100000)(w:World):Calls Tryz.prog 101 #[.int .i64 y] w (fun e W'=>e=.returned (.agg (lensA y))∧StepC w W'):=by
 obtain⟨L,hL⟩:∃L,lensA y=L:=⟨_,rfl⟩;rw[hL];obtain⟨b4,e4⟩:∃b,(y%4==0)=b:=⟨_,rfl⟩;obtain⟨b1,e1⟩:∃b,(y%100 !=0)=b:=⟨_,rfl⟩;obtain⟨b0,e0⟩:∃b,(y%400==0)=b:=⟨_,rfl⟩;have hl:leap y=(b4&&(b1||b0)):=by
  unfold leap;rw[←e4,←e1,←e0,Int.tmod_eq_emod_of_nonneg hy.1,Int.tmod_eq_emod_of_nonneg hy.1,Int.tmod_eq_emod_of_nonneg hy.1];congr 1
  congr 1
  simp[bne];by_cases h:y%100=0<;>simp[h]
 have HL:=Lib.hid (show(encL (lens (b4&&(b1||b0)))).toArray=L by rw[←hL];unfold lensA;rw[hl])
 clear hl hL
 cases b4
 case' true=>
  cases b1
  case' false=>cases b0
 all_goals
  go_enter Tryz.func101,Tryz.ntmps101
  go_wp2_with (first|(with_reducible refine aA ?_)|(with_reducible refine aG ?_;intro V g _ _ _)|(with_reducible refine aI ?_;intro V _ _)|(with_reducible refine aR ?_;intro V g _ _ _))
  refine gF rfl rfl (by with_unfolding_all rfl) ⟨by rw[←HL.out];first|done,⟨ExtC.h⟩⟩
instance{W:World}{y:Int}[h:Fact' (0≤y∧y≤100000)]:FunC Tryz.prog 101 #[.int .i64 y] W (fun e W'=>e=.returned (.agg (lensA y))∧StepC W W'):=⟨wX y h.h W⟩
theorem Do(y:Int)(hy:0≤y∧y≤100000)(w:World)(h2:2000≤y):Calls Tryz.prog 164 #[.int .i64 y] w (RI w (yearDays (y-2000))):=by
 obtain⟨n,hn⟩:∃n:Int,y-2000=n:=⟨_,rfl⟩;rw[hn];have h0:0≤n∧n≤98000:=by omega
 have z0:IntKind.i64.wrap (y-2000)=n:=by rw[hn];exact IntWalk.i64_in _ (by omega)
 unfold yearDays;by_cases hz:n=0
 ·rw[if_pos hz];have q0:(n==0)=true:=by simpa using hz
  clear hz hn;go_enter Tryz.func164,Tryz.ntmps164
  go_wp2
  all_goals(try(go_ret;refine⟨?_,⟨ExtC.h⟩⟩;first|rfl))
 ·rw[if_neg hz,Int.tdiv_eq_ediv_of_nonneg (by omega),Int.tdiv_eq_ediv_of_nonneg (by omega)]
  have q0:(n==0)=false:=by simpa using hz
  have h1:1≤n:=by omega
  clear hz hn;go_enter Tryz.func164,Tryz.ntmps164
  go_wp2
  all_goals(try(go_ret;refine⟨?_,⟨ExtC.h⟩⟩;first|rfl))
instance{W:World}{y:Int}[h:Fact' (0≤y∧y≤100000)][h2:Fact' (2000≤y)]:FunC Tryz.prog 164 #[.int .i64 y] W (RI W (yearDays (y-2000))):=⟨Do y h.h W h2.h⟩
theorem nK{y m:Int}(h:1≤m∧m≤12):(lensA y)[(m-1).toNat]? =some (.int .i64 (monthLen (leap y) m))∧(lensA y).size=12:=by
 obtain⟨k,hk,rfl⟩:∃k:Nat,k<12∧m=(k:Int)+1:=⟨(m-1).toNat,by omega,by omega⟩
 unfold lensA monthLen;rw[show((k:Int)+1-1).toNat=k by omega]
 cases leap y<;>(have:k=0∨k=1∨k=2∨k=3∨k=4∨k=5∨k=6∨k=7∨k=8∨k=9∨k=10∨k=11:=by omega)<;>rcases this with rfl|rfl|rfl|rfl|rfl|rfl|rfl|rfl|rfl|rfl|rfl|rfl<;>exact⟨rfl,rfl⟩
theorem Ou(y m d p r:Int)(hy:0≤y∧y≤100000)(hd: -100000≤d∧d≤100000)(h:dayOf y m d=(p,r))(w:World):Calls Tryz.prog 142 #[.agg #[.int .i64 y,.int .i64 m,.int .i64 d]] w (RII w p r):=by
 have i1:Fact' (0≤y∧y≤100000):=⟨hy⟩;unfold dayOf at h;by_cases hm:inB m 1 12=false
 ·rw[if_pos (.inl hm)] at h;injection h with h1 h2
  subst h1 h2;have e1:outB 1 12 [m]=true:=by rw[bL,hm];rfl
  clear hm;go_enter Tryz.func142,Tryz.ntmps142
  go_wp2_with (first|(with_reducible refine aH ?_;intro V g _ _ _))
  refine aP ((.take 0 (.take 1 (.one 2 (.one 3 (.take 4 (.take 5 (.take 6 (.take 8 (.take 9 (.take 10 (.take 12 (.take 13 (.two 7 (.take 11 (.one 14 (.one 15 (.take 16 .nil)))) 14 (.one 7 (.take 11 (.one 15 (.take 16 .nil)))))))))))))))))) (fun hHd=> ?_) (hQ:=by intro _ _ _ _ _ h;exact h)
  repeat' first|((with_reducible refine aX ?_);(first|(refine tk (v:= ?_) ?_ hHd ?_;rotate_left;(·(intro W' h;have:=StepC.mk h;first|with_reducible exact aJ)))|(refine tk (v:= ?_) ?_ hHd ?_;rotate_left;(·(intro wq hSw;go_simp;(try with_reducible rfl))))|(refine ts hHd ?_));(try simp only[pS]))|((with_reducible refine bC ?_);refine aQ (by simp only[gS];rfl) ?_)|((with_reducible refine gK ?_);refine dV (by simp only[gS];rfl) (by simp only[gS];rfl) ?_ ?_)|(with_reducible refine fO ?_)|(with_reducible refine aD ?_;intro V g _ _ _)|((with_reducible refine aN ?_);first|(rintro _ V ⟨rfl,(_:StepC _ _)⟩;refine⟨_,rfl,?_⟩))|((with_reducible refine bD ?_);clear hHd;refine aM ExtC.h (fun hHd=> ?_);(try simp only[pS]))|(with_reducible refine aF ?_)
  all_goals
   go_wp2
   go_ret2
   exact⟨rfl,⟨ExtC.h⟩⟩
 have m1:=inB_t.1 (by simpa using hm:inB m 1 12=true)
 have e1:outB 1 12 [m]=false:=by rw[bL];simpa using hm
 obtain⟨hA,hs⟩:=nK (y:=y) m1;obtain⟨k,hk⟩:∃k:Nat,m-1=(k:Int):=⟨(m-1).toNat,by omega⟩
 rw[hk,show((k:Nat):Int).toNat=k from rfl] at hA
 have z1:IntKind.i64.wrap (m-1)=(k:Int):=by rw[hk];exact IntWalk.i64_in _ (by omega)
 obtain⟨L,hL⟩:∃L,monthLen (leap y) m=L:=⟨_,rfl⟩;rw[hL] at hA h;have hk12:k<12:=by omega
 have ix:IxC Tryz.prog 187 (lensA y) k (.int .i64 L):=⟨12,3,_,Tryz.underlying187,Tryz.underlying3,rfl,by kernel_rfl,hk12,hA⟩
 by_cases h2:inB d 1 L=false
 ·rw[if_pos (.inr h2)] at h;injection h with h3 h4
  subst h3 h4;have e2:outB 1 L [d]=true:=by rw[bL,h2];rfl
  clear hm hk hL h2;go_enter Tryz.func142,Tryz.ntmps142
  go_wp2_with (first|(with_reducible refine aH ?_;intro V g _ _ _))
  refine aP ((.take 0 (.take 1 (.one 2 (.one 3 (.take 4 (.take 5 (.take 6 (.take 8 (.take 9 (.take 10 (.take 12 (.take 13 (.two 7 (.take 11 (.one 14 (.one 15 (.take 16 .nil)))) 14 (.one 7 (.take 11 (.one 15 (.take 16 .nil)))))))))))))))))) (fun hHd=> ?_) (hQ:=by intro _ _ _ _ _ h;exact h)
  repeat' first|((with_reducible refine aX ?_);(first|(refine tk (v:= ?_) ?_ hHd ?_;rotate_left;(·(intro W' h;have:=StepC.mk h;first|with_reducible exact aJ)))|(refine tk (v:= ?_) ?_ hHd ?_;rotate_left;(·(intro wq hSw;go_simp;(try with_reducible rfl))))|(refine tw (v:= ?_) ?_ hHd ?_;rotate_left;(·(intro W' h;have:=StepC.mk h;first|with_reducible exact aJ|with_reducible exact iS)))|(refine tw (v:= ?_) ?_ hHd ?_;rotate_left;(·(intro wq hSw;go_simp;(try with_reducible rfl)))));(try simp only[pS]))|((with_reducible refine bC ?_);refine aQ (by simp only[gS];rfl) ?_)|((with_reducible refine gK ?_);refine dV (by simp only[gS];rfl) (by simp only[gS];rfl) ?_ ?_)|(with_reducible refine aD ?_;intro V g _ _ _)|(with_reducible refine bH ?_)|((first|with_reducible refine aN ?_|with_reducible refine cG ?_);first|(rintro _ V ⟨rfl,(_:StepC _ _)⟩;refine⟨_,rfl,?_⟩))|((with_reducible refine bD ?_);clear hHd;refine aM ExtC.h (fun hHd=> ?_);(try simp only[pS]))|(with_reducible refine aF ?_)
  all_goals
   go_wp2
   go_ret2
   exact⟨rfl,⟨ExtC.h⟩⟩
 have e2:outB 1 L [d]=false:=by rw[bL];simpa using h2
 rw[if_neg (fun hh=>hh.elim (fun h=>hm h) (fun h=>h2 h))] at h
 by_cases h5:inB y 2000 2200=false
 ·rw[if_pos h5] at h;injection h with h3 h4
  subst h3 h4;have e3:outB 2000 2200 [y]=true:=by rw[bL,h5];rfl
  clear hm hk hL h2 h5;go_enter Tryz.func142,Tryz.ntmps142
  go_wp2_with (first|(with_reducible refine aH ?_;intro V g _ _ _))
  refine aP ((.take 0 (.take 1 (.one 2 (.one 3 (.take 4 (.take 5 (.take 6 (.take 8 (.take 9 (.take 10 (.take 12 (.take 13 (.two 7 (.take 11 (.one 14 (.one 15 (.take 16 .nil)))) 14 (.one 7 (.take 11 (.one 15 (.take 16 .nil)))))))))))))))))) (fun hHd=> ?_) (hQ:=by intro _ _ _ _ _ h;exact h)
  repeat' first|((with_reducible refine aX ?_);(first|(refine tk (v:= ?_) ?_ hHd ?_;rotate_left;(·(intro W' h;have:=StepC.mk h;first|with_reducible exact aJ)))|(refine tk (v:= ?_) ?_ hHd ?_;rotate_left;(·(intro wq hSw;go_simp;(try with_reducible rfl))))|(refine tw (v:= ?_) ?_ hHd ?_;rotate_left;(·(intro W' h;have:=StepC.mk h;first|with_reducible exact aJ|with_reducible exact iS)))|(refine tw (v:= ?_) ?_ hHd ?_;rotate_left;(·(intro wq hSw;go_simp;(try with_reducible rfl)))));(try simp only[pS]))|((with_reducible refine bC ?_);refine aQ (by simp only[gS];rfl) ?_)|((with_reducible refine gK ?_);refine dV (by simp only[gS];rfl) (by simp only[gS];rfl) ?_ ?_)|(with_reducible refine aD ?_;intro V g _ _ _)|(with_reducible refine bH ?_)|((first|with_reducible refine aN ?_|with_reducible refine cG ?_);first|(rintro _ V ⟨rfl,(_:StepC _ _)⟩;refine⟨_,rfl,?_⟩))|((with_reducible refine bD ?_);clear hHd;refine aM ExtC.h (fun hHd=> ?_);(try simp only[pS]))|(with_reducible refine aF ?_)
  all_goals
   go_wp2_with (first|(with_reducible refine aA ?_)|(with_reducible refine aB ?_;first|rintro _ V ⟨rfl,(_:StepC _ _)⟩)|(with_reducible refine aD ?_;intro V g _ _ _))
   go_ret2
   exact⟨rfl,⟨ExtC.h⟩⟩
 rw[if_neg h5] at h;have e3:outB 2000 2200 [y]=false:=by rw[bL];simpa using h5
 have y1:=inB_t.1 (by simpa using h5:inB y 2000 2200=true)
 have i2:Fact' (2000≤y):=⟨y1.1⟩;obtain⟨Y,hY⟩:∃Y,yearDays (y-2000)=Y:=⟨_,rfl⟩;have hYb:0≤Y∧Y≤80000:=by
  rw[←hY];unfold yearDays;split
  ·omega
  ·rw[Int.tdiv_eq_ediv_of_nonneg (by omega),Int.tdiv_eq_ediv_of_nonneg (by omega)];omega
 rw[hY] at h;have z2:IntKind.i64.wrap (Y+d)=Y+d:=IntWalk.i64_in _ (by omega)
 have z3:IntKind.i64.wrap (Y+d-1)=Y+d-1:=IntWalk.i64_in _ (by omega)
 have hbf:∀j:Nat,j≤12→0≤before (leap y) ((j:Int)+1)∧before (leap y) ((j:Int)+1)≤366:=by
  intro j hj;have:j=0∨j=1∨j=2∨j=3∨j=4∨j=5∨j=6∨j=7∨j=8∨j=9∨j=10∨j=11∨j=12:=by omega
  cases leap y<;>rcases this with rfl|rfl|rfl|rfl|rfl|rfl|rfl|rfl|rfl|rfl|rfl|rfl|rfl<;>decide
 have Hbf:=Lib.hid hbf;have Hs:=Lib.hid (show∀i:Nat,i<12→before (leap y) ((i:Int)+1+1)=before (leap y) ((i:Int)+1)+monthLen (leap y) ((i:Int)+1) from fun i hi=>(bW (leap y) (m:=(i:Int)+1) (inB_t.2 (by omega))).1)
 have Hm:=Lib.hid (show before (leap y) m=before (leap y) ((k:Int)+1) by congr 1;omega)
 have Hk:=Lib.hid (show m=(k:Int)+1 by omega)
 have Hget:=Lib.hid (show∀i:Nat,i<12→IxC Tryz.prog 187 (lensA y) i (.int .i64 (monthLen (leap y) ((i:Int)+1))) from fun i hi=>⟨12,3,_,Tryz.underlying187,Tryz.underlying3,rfl,by kernel_rfl,hi,by
  have:=(nK (y:=y) (m:=(i:Int)+1) (by omega)).1
  rwa [show((i:Int)+1-1).toNat=i by omega] at this⟩)
 have Hlen:=Lib.hid (show∀i:Nat,i<12→0≤monthLen (leap y) ((i:Int)+1)∧monthLen (leap y) ((i:Int)+1)≤31 from fun i hi=>by have:=(bW (leap y) (m:=(i:Int)+1) (inB_t.2 (by omega))).2;omega)
 have H:=Lib.hid h;have Hy:=Lib.hid hY;clear hm hL h2 h5 hbf h hk;go_enter Tryz.func142,Tryz.ntmps142
 go_wp2_with (first|(with_reducible refine aH ?_;intro V g _ _ _))
 refine aP ((.take 0 (.take 1 (.one 2 (.one 3 (.take 4 (.take 5 (.take 6 (.take 8 (.take 9 (.take 10 (.take 12 (.take 13 (.two 7 (.take 11 (.one 14 (.one 15 (.take 16 .nil)))) 14 (.one 7 (.take 11 (.one 15 (.take 16 .nil)))))))))))))))))) (fun hHd=> ?_) (hQ:=by intro _ _ _ _ _ h;exact h)
 repeat' first|((with_reducible refine aX ?_);(first|(refine tk (v:= ?_) ?_ hHd ?_;rotate_left;(·(intro W' h;have:=StepC.mk h;first|with_reducible exact aJ)))|(refine tk (v:= ?_) ?_ hHd ?_;rotate_left;(·(intro wq hSw;go_simp;(try with_reducible rfl))))|(refine tw (v:= ?_) ?_ hHd ?_;rotate_left;(·(intro W' h;have:=StepC.mk h;first|with_reducible exact aJ|with_reducible exact iS)))|(refine tw (v:= ?_) ?_ hHd ?_;rotate_left;(·(intro wq hSw;go_simp;(try with_reducible rfl)))));(try simp only[pS]))|((with_reducible refine bC ?_);refine aQ (by simp only[gS];rfl) ?_)|((with_reducible refine gK ?_);refine dV (by simp only[gS];rfl) (by simp only[gS];rfl) ?_ ?_)|(with_reducible refine aD ?_;intro V g _ _ _)|(with_reducible refine bH ?_)|((first|with_reducible refine aN ?_|with_reducible refine cG ?_);first|(rintro _ V ⟨rfl,(_:StepC _ _)⟩;refine⟨_,rfl,?_⟩))|((with_reducible refine bD ?_);clear hHd;refine aM ExtC.h (fun hHd=> ?_);(try simp only[pS]))|(with_reducible refine aF ?_)
 all_goals
  go_wp2_with (first|(with_reducible refine aA ?_)|(with_reducible refine aB ?_;first|rintro _ V ⟨rfl,(_:StepC _ _)⟩)|(with_reducible refine aD ?_;intro V g _ _ _))
  refine aP ((.take 0 (.take 1 (.take 3 (.take 4 (.one 2 (.take 5 (.take 6 (.take 7 .nil))))))))) (fun hHd=> ?_) (hQ:=by intro _ _ _ _ _ h;exact h)
  repeat' first|((with_reducible refine aX ?_);(first|(refine tk (v:= ?_) ?_ hHd ?_;rotate_left;(·(intro W' h;have:=StepC.mk h;first|with_reducible exact aJ)))|(refine tk (v:= ?_) ?_ hHd ?_;rotate_left;(·(intro wq hSw;go_simp;(try with_reducible rfl)))));(try simp only[pS]))|((with_reducible refine bC ?_);refine aQ (by simp only[gS];rfl) ?_)|((with_reducible refine aN ?_);first|(rintro _ V ⟨rfl,(_:StepC _ _)⟩;refine⟨_,rfl,?_⟩))|((with_reducible refine bD ?_);clear hHd;refine aM ExtC.h (fun hHd=> ?_);(try simp only[pS]))|(with_reducible refine aF ?_)
  all_goals
   go_wp2_with (first|(with_reducible refine aA ?_)|(with_reducible refine aB ?_;first|rintro _ V ⟨rfl,(_:StepC _ _)⟩))
   go_loopw [4,38] (fun dv iv wr=>StepC V wr∧∃i:Nat,i≤12∧iv=.int .i64 i∧dv=.int .i64 (Y+d-1+before (leap y) (((min i k:Nat):Int)+1))) (fun _ iv _=>12-(intOf iv).toNat)
   case atStart=>exact⟨⟨ExtC.h⟩,0,by omega,rfl,by rw[Nat.zero_min,show((0:Nat):Int)+1=1 from rfl,mT,Int.add_zero]⟩
   case round=>
    obtain⟨_,i,hi,rfl,rfl⟩:=hrel;obtain⟨B,hB⟩:∃B,before (leap y) (((min i k:Nat):Int)+1)=B:=⟨_,rfl⟩;have hBb:=Hbf.out (min i k) (by omega)
    rw[hB] at hBb⊢;have HB:=Lib.hid hB;clear hB;by_cases hlt:i<12
    ·have q0:(i:Int)<12:=by omega
     have ixi:=Hget.out i hlt;have hml:=Hlen.out i hlt;obtain⟨N,hN⟩:∃N,monthLen (leap y) ((i:Int)+1)=N:=⟨_,rfl⟩;rw[hN] at ixi hml;have HN:=Lib.hid hN;clear hN;have hmk:=Hk.out;by_cases hik:i<k
     ·have q1:(i:Int)+1<m:=by omega
      have q2:IntKind.i64.wrap (Y+d-1+B+N)=Y+d-1+B+N:=IntWalk.i64_in _ (by omega)
      have HR:=Lib.hid (show Y+d-1+B+N=Y+d-1+before (leap y) (((min (i+1) k:Nat):Int)+1) by
       have:=Hs.out i hlt;rw[show min (i+1) k=i+1 by omega,show((i+1:Nat):Int)+1=(i:Int)+1+1 by omega,this,HN.out]
       have:=HB.out;rw[show min i k=i by omega] at this
       omega)
      clear hmk;go_wp2_with (first|(with_reducible refine aA ?_)|(with_reducible refine cM ?_))
      go_roundw
      case rel=>exact⟨⟨ExtC.h⟩,i+1,by omega,by go_num,by rw[←HR.out]⟩
      case measure=>simp[intOf];omega
     ·have q1:¬(i:Int)+1<m:=by omega
      have HR:=Lib.hid (show Y+d-1+B=Y+d-1+before (leap y) (((min (i+1) k:Nat):Int)+1) by
       have:=HB.out;rw[show min i k=k by omega] at this
       rw[show min (i+1) k=k by omega]
       omega)
      clear hmk;go_wp2_with (first|(with_reducible refine aA ?_)|(with_reducible refine cM ?_))
      go_roundw
      case rel=>exact⟨⟨ExtC.h⟩,i+1,by omega,by go_num,by rw[←HR.out]⟩
      case measure=>simp[intOf];omega
    ·obtain rfl:i=12:=by omega
     have q0:¬(12:Int)<12:=by omega
     have hE:Y+d-1+before (leap y) m=Y+d-1+B:=by rw[Hm.out,←HB.out,show min 12 k=k by omega]
     have h:=H.out;rw[hE] at h;by_cases h6:40000<Y+d-1+B
     ·rw[if_pos h6] at h;injection h with h3 h4
      subst h3 h4;clear hE;go_wp2
      go_ret2
      exact⟨rfl,⟨ExtC.h⟩⟩
     ·rw[if_neg h6] at h;injection h with h3 h4
      subst h3 h4;clear hE;go_wp2
      go_ret2
      exact⟨rfl,⟨ExtC.h⟩⟩
class DayE (y m d:Int) (p r:outParam Int):Prop where h:(0≤y∧y≤100000)∧(-100000≤d∧d≤100000)∧dayOf y m d=(p,r)
instance{W:World}{y m d p r:Int}[h:DayE y m d p r]:FunC Tryz.prog 142 #[.agg #[.int .i64 y,.int .i64 m,.int .i64 d]] W (RII W p r):=⟨Ou y m d p r h.h.1 h.h.2.1 h.h.2.2 W⟩
end Go.Rg
end
section
namespace Go.Rg
open Go Go.Bp Go.RowKit Go.Walk Go.Proofs
theorem Pz(g:Nat)(k:Int)(w:World):Calls Tryz.prog 69 #[.pointer (some ⟨g,0,none⟩),.int .i64 k] w (fun e W'=>∃g1 g2,e=.returned (.func (.func 128) #[] #[.pointer (some ⟨g1,0,none⟩),.pointer (some ⟨g2,0,none⟩)])∧BlkC W' g1 115 [.pointer (some ⟨g,0,none⟩)]∧BlkC W' g2 3 [.int .i64 k]∧AtC w g1∧AtC w g2∧StepC w W'):=by
 go_enter Tryz.func69,Tryz.ntmps69
 go_wp2_with (first|(with_reducible refine aH (d:=some 2) ?_;intro V1 g1 hE1 hB1 hA1)|(with_reducible refine aH (d:=some 3) ?_;intro V2 g2 hE2 hB2 hA2))
 go_ret
 exact⟨_,_,rfl,inferInstance,inferInstance,⟨Nat.le_trans (ExtC.h:Ext w _).size hA1.h⟩,⟨Nat.le_trans (ExtC.h:Ext w _).size hA2.h⟩,⟨ExtC.h⟩⟩
theorem Bv(A:Option Addr)(n c:Nat)(w:World):Calls Tryz.prog 254 #[.slice A n c] w (fun e W'=>∃g1,e=.returned (.func (.func 280) #[] #[.pointer (some ⟨g1,0,none⟩)])∧BlkC W' g1 48 [.slice A n c]∧StepC w W'):=by
 go_enter Tryz.func254,Tryz.ntmps254
 go_wp2_with (first|(with_reducible refine aH ?_;intro V g _ _ _))
 go_ret
 exact⟨_,rfl,inferInstance,⟨ExtC.h⟩⟩
end Go.Rg
end
section
namespace Go.Rg
open Go Go.Bp Go.RowKit Go.Walk Go.Proofs
class SzC (s:ByteArray):Prop where h:s.size≤maxLen
instance{W:World}{s:ByteArray}[p:SzC s]:FunC Tryz.prog 103 #[.string s] W (RB W (isName s)):=⟨(Gn s W p.h).mono fun e W' ⟨h,hE⟩=>⟨h,⟨hE⟩⟩⟩
instance{W:World}{s:ByteArray}[p:SzC s]:FunC Tryz.prog 111 #[.string s] W (RB W (isName s)):=⟨(tG s W p.h).mono fun e W' ⟨h,hE⟩=>⟨h,⟨hE▸Ext.refl _⟩⟩⟩
theorem Oo(v:Value)(l:List ByteArray)(s:ByteArray)(w:World)(h:ListV w v l):
 Calls Tryz.prog 89 #[v,.string s] w (RI w (idxP (fun x=>decide (s=x)) l)):=by
 obtain⟨A,c,rfl,h2⟩:=h.form;unfold maxLen at h2;go_enter Tryz.func89,Tryz.ntmps89
 go_wp2
 go_loop [8] (fun i=>∃k:Nat,k≤l.length∧i=.int .i64 k∧∀x∈l.take k,decide (s=x)=false) (fun i=>l.length-(intOf i).toNat)
 case atStart=>exact⟨0,by omega,rfl,by simp⟩
 case round=>
  obtain⟨k,hk,rfl,hn⟩:=hrel;have Hn:=Lib.hid hn;clear hn;by_cases hlt:k<l.length
  ·obtain⟨ad,rfl,hc⟩:=h.elem hlt;obtain⟨b,hb⟩:∃b,decide (s=l[k])=b:=⟨_,rfl⟩;have Hb:=Lib.hid hb;obtain⟨x,hx⟩:∃x,l[k]=x:=⟨_,rfl⟩;rw[hx] at hc hb;have Hx:=Lib.hid hx;clear hx;have i8:CellsB w (ad.add k) [.string x]:=⟨by simpa [Enc.size,Enc.enc] using hc⟩
   have hbe:(s.toList==x.toList)=b:=by rw[←hb];rw[tE]
   clear hb hc
   cases b
   ·go_wp2_with (with_reducible refine aA ?_)
    go_round
    case rel=>exact⟨k+1,by omega,by go_num,bV hlt Hn.out Hb.out⟩
    case measure=>simp[intOf];omega
   ·go_wp2_with (with_reducible refine aA ?_)
    go_ret
    exact⟨eP (fZ hlt Hb.out Hn.out).symm,⟨Ext.refl _⟩⟩
  ·go_wp2
   go_ret
   obtain rfl:k=l.length:=by omega
   have:=Hn.out;rw[List.take_length] at this;exact⟨eP (dQ this).symm,⟨Ext.refl _⟩⟩
instance{W:World}{v:Value}{l:List ByteArray}{s:ByteArray}[h:ListC ByteArray W v l]:FunC Tryz.prog 89 #[v,.string s] W (RI W (idxP (fun x=>decide (s=x)) l)):=⟨Oo _ _ _ _ h.h⟩
theorem Cc(v:Value)(l:List ByteArray)(s:ByteArray)(w:World)(h:ListV w v l):Calls Tryz.prog 227 #[v,.string s] w (RB w (l.any fun x=>decide (s=x))):=by
 have i1:=ListB.mk h;have Hg:=Lib.hid (fY (fun x=>decide (s=x)) l)
 go_enter Tryz.func227,Tryz.ntmps227
 go_wp2_with (first|(with_reducible refine aB ?_;first|rintro _ V ⟨rfl,(_:StepC _ _)⟩))
 go_ret
 exact⟨fT Hg.out,⟨ExtC.h⟩⟩
instance{W:World}{v:Value}{l:List ByteArray}{s:ByteArray}[h:ListC ByteArray W v l]:FunC Tryz.prog 227 #[v,.string s] W (RB W (l.any fun x=>decide (s=x))):=⟨Cc _ _ _ _ h.h⟩
theorem Oq(v:Value)(l:List Int)(s:Int)(w:World)(h:ListV w v l):
 Calls Tryz.prog 277 #[v,.int .i64 s] w (RI w (idxP (fun x=>decide (s=x)) l)):=by
 obtain⟨A,c,rfl,h2⟩:=h.form;unfold maxLen at h2;go_enter Tryz.func277,Tryz.ntmps277
 go_wp2
 go_loop [8] (fun i=>∃k:Nat,k≤l.length∧i=.int .i64 k∧∀x∈l.take k,decide (s=x)=false) (fun i=>l.length-(intOf i).toNat)
 case atStart=>exact⟨0,by omega,rfl,by simp⟩
 case round=>
  obtain⟨k,hk,rfl,hn⟩:=hrel;have Hn:=Lib.hid hn;clear hn;by_cases hlt:k<l.length
  ·obtain⟨ad,rfl,hc⟩:=h.elem hlt;obtain⟨b,hb⟩:∃b,decide (s=l[k])=b:=⟨_,rfl⟩;have Hb:=Lib.hid hb;obtain⟨x,hx⟩:∃x,l[k]=x:=⟨_,rfl⟩;rw[hx] at hc hb;have Hx:=Lib.hid hx;clear hx;have i8:CellsB w (ad.add k) [.int .i64 x]:=⟨by simpa [Enc.size,Enc.enc] using hc⟩
   have hbe:(s==x)=b:=by rw[←hb];rfl
   clear hb hc
   cases b
   ·go_wp2_with (with_reducible refine aA ?_)
    go_round
    case rel=>exact⟨k+1,by omega,by go_num,bV hlt Hn.out Hb.out⟩
    case measure=>simp[intOf];omega
   ·go_wp2_with (with_reducible refine aA ?_)
    go_ret
    exact⟨eP (fZ hlt Hb.out Hn.out).symm,⟨Ext.refl _⟩⟩
  ·go_wp2
   go_ret
   obtain rfl:k=l.length:=by omega
   have:=Hn.out;rw[List.take_length] at this;exact⟨eP (dQ this).symm,⟨Ext.refl _⟩⟩
instance{W:World}{v:Value}{l:List Int}{s:Int}[h:ListC Int W v l]:FunC Tryz.prog 277 #[v,.int .i64 s] W (RI W (idxP (fun x=>decide (s=x)) l)):=⟨Oq _ _ _ _ h.h⟩
theorem Cd(v:Value)(l:List Int)(s:Int)(w:World)(h:ListV w v l):Calls Tryz.prog 243 #[v,.int .i64 s] w (RB w (l.any fun x=>decide (s=x))):=by
 have i1:=ListB.mk h;have Hg:=Lib.hid (fY (fun x=>decide (s=x)) l)
 go_enter Tryz.func243,Tryz.ntmps243
 go_wp2_with (first|(with_reducible refine aB ?_;first|rintro _ V ⟨rfl,(_:StepC _ _)⟩))
 go_ret
 exact⟨fT Hg.out,⟨ExtC.h⟩⟩
instance{W:World}{v:Value}{l:List Int}{s:Int}[h:ListC Int W v l]:FunC Tryz.prog 243 #[v,.int .i64 s] W (RB W (l.any fun x=>decide (s=x))):=⟨Cd _ _ _ _ h.h⟩
end Go.Rg
end
section
namespace Go.Rg
open Go.Bp
namespace Sys
variable{s:Sys}
structure Post(s:Sys)(b b':List Bool)(cs:List Int):Prop where
 len:b'.length=b.length
 mono:∀j:Nat,b.getD j false=true→b'.getD j false=true
 all:∀c∈cs,b'.getD c.toNat false=true
 new:∀j:Nat,b'.getD j false=true→b.getD j false=true∨((∃c∈cs,s.Reach c j)∧∀y∈(s.at_ j).incl,b'.getD y.toNat false=true)
theorem Post.nil(b:List Bool):Post s b b []:=⟨rfl,fun _ h=>h,by simp,fun _ h=>.inl h⟩
theorem Post.marked{b:List Bool}{c:Int}(h:b.getD c.toNat false=true):Post s b b [c]:=⟨rfl,fun _ h=>h,by simpa using h,fun _ h=>.inl h⟩
theorem Post.seq{b b1 b2:List Bool}{cs:List Int}{c:Int}(h:Post s b b1 cs)(k:Post s b1 b2 [c]):Post s b b2 (cs++ [c]):=by
 refine⟨k.len.trans h.len,fun j hj=>k.mono j (h.mono j hj),fun x hx=> ?_,fun j hj=> ?_⟩
 ·rcases List.mem_append.1 hx with hx|hx
  ·exact k.mono _ (h.all x hx)
  ·exact k.all x hx
 ·rcases k.new j hj with h1|⟨⟨x,hx,hr⟩,h2⟩
  ·rcases h.new j h1 with h1|⟨⟨x,hx,hr⟩,h2⟩
   ·exact .inl h1
   ·exact .inr ⟨⟨x,List.mem_append_left _ hx,hr⟩,fun y hy=>k.mono _ (h2 y hy)⟩
  ·exact .inr ⟨⟨x,List.mem_append_right _ hx,hr⟩,h2⟩
theorem Post.enter{b b':List Bool}{c:Int}(h0:0≤c)(hc:c.toNat<b.length)(h:Post s (b.set c.toNat true) b' (s.at_ c).incl):Post s b b' [c]:=by
 have hset:∀j,(b.set c.toNat true).getD j false=true↔(c.toNat=j∧c.toNat<b.length)∨b.getD j false=true:=fun j=>qS
 refine⟨by rw[h.len,List.length_set],fun j hj=>h.mono j ((hset j).2 (.inr hj)),fun x hx=> ?_,fun j hj=> ?_⟩
 ·rw[List.mem_singleton] at hx;subst hx;exact h.mono _ ((hset _).2 (.inl ⟨rfl,hc⟩))
 ·rcases h.new j hj with h1|⟨⟨x,hx,hr⟩,h2⟩
  ·rcases(hset j).1 h1 with ⟨rfl,_⟩|h1
   ·rw[show((c.toNat:Nat):Int)=c by omega]
    exact .inr ⟨⟨c,by simp,.refl c⟩,h.all⟩
   ·exact .inl h1
  ·exact .inr ⟨⟨c,by simp,hr.head hx⟩,h2⟩
theorem Post.top{b':List Bool}{c:Int}(hi:s.InclOk)(hc:0≤c∧c<s.classes.length)(h:Post s (List.replicate s.classes.length false) b' [c]):b'=s.coverL c:=by
 have hl:=h.len;rw[List.length_replicate] at hl;have hf:∀j:Nat,¬((List.replicate s.classes.length false).getD j false=true):=fun j=>by
  simp[List.getD,List.getElem?_replicate];split<;>simp
 have hn:∀j:Nat,b'.getD j false=true→s.Reach c j∧∀y∈(s.at_ j).incl,b'.getD y.toNat false=true:=fun j hj=>by
  rcases h.new j hj with h1|⟨⟨x,hx,hr⟩,h2⟩
  ·exact absurd h1 (hf j)
  ·rw[List.mem_singleton] at hx;subst hx;exact⟨hr,h2⟩
 have key:∀j:Nat,j<s.classes.length→(b'.getD j false=true↔(s.coverL c).getD j false=true):=fun j hj=>by
  have e:(s.coverL c).getD j false=s.covers c j:=by unfold covers;simp
  rw[e,Bf hi hc ⟨by omega,by omega⟩]
  constructor
  ·exact fun h=>(hn j h).1
  ·intro hr;have:b'.getD ((j:Nat):Int).toNat false=true∧(0:Int)≤j:=by
    refine hr.closed (P:=fun x=>b'.getD x.toNat false=true∧0≤x) ⟨h.all c (by simp),hc.1⟩ fun x y hx hy=>⟨?_,(hi x y hy).1⟩
    have:=(hn x.toNat hx.1).2;rw[show((x.toNat:Nat):Int)=x by omega] at this
    exact this y hy
   simpa using this.1
 apply List.ext_getElem (by rw[hl,coverL_len])
 intro j h1 h2;have:=key j (by omega)
 simp only[List.getD,List.getElem?_eq_getElem h1,List.getElem?_eq_getElem h2,Option.getD_some] at this;rw[Bool.eq_iff_iff];exact this
def left(b:List Bool):Nat:=b.countP (fun x=> !x)
theorem left_le:∀{b b':List Bool},b'.length=b.length→(∀j:Nat,b.getD j false=true→b'.getD j false=true)→left b'≤left b
 | [],[],_,_=>Nat.le_refl _
 |x::b,y::b',hl,h=>by
  have ih:=left_le (b:=b) (b':=b') (by simpa using hl) fun j hj=>by simpa using h (j+1) (by simpa using hj)
  have h0:=h 0;simp only[List.getD_cons_zero] at h0;unfold left at ih⊢;rw[List.countP_cons,List.countP_cons]
  cases x<;>cases y<;>simp_all<;>omega
theorem left_set:∀{b:List Bool}{i:Nat},i<b.length→b.getD i false=false→left (b.set i true)<left b
 | [],i,h,_=>by simp at h
 |x::b,0,_,h=>by
  simp only[List.getD_cons_zero] at h;subst h;unfold left;simp
 |x::b,i+1,h,h2=>by
  have ih:=left_set (b:=b) (i:=i) (by simpa using h) (by simpa using h2)
  unfold left at ih⊢;rw[List.set_cons_succ,List.countP_cons,List.countP_cons];omega
end Sys
end Go.Rg
end
