import Derived.OrdersIn
import Derived.RangeFuncNested
import Derived.Test.YtbfbepnkofampaaGreatDoorXP11
set_option maxRecDepth 100000
set_option synthInstance.maxSize 2000
set_option synthInstance.maxHeartbeats 400000
set_option maxHeartbeats 8000000
set_option linter.all false
section
namespace Go.Walk
open Go Go.Bp Go.RowKit
class CellB (w:outParam World) (p:Addr) (v:outParam Value):Prop where h:w.cell? p=some v
instance(priority:=700){P:Program}{w W:World}{t:TypeId}{p:Addr}{v:Value}[x:ScalT P t][y:CellB w p v][q:ExtC w W]:LoadC P W t p v:=⟨jB x.h (q.h.cell_some y.h)⟩
theorem nF{P:Program}{fn:Func}{R:Ending→World→Prop}{x u1 u2 u3:Tmp}{t:TypeId}{a:Act}{w:World}{p:Addr}{v:Value}(h:fn.results=#[.cell x t,.tmp u1,.tmp u2,.tmp u3])(hd:a.defers=[])
 (hx:a.tmps.getD x undef=.pointer (some p))[hl:LoadC P w t p v](hR:R (.returned (.tuple #[v,a.tmps.getD u1 undef,a.tmps.getD u2 undef,a.tmps.getD u3 undef])) w):bodyPost P fn R .ret a w:=
 have hx':a.tmps[x]?.getD undef=.pointer (some p):=by simpa [Array.getD_eq_getD_getElem?] using hx
 bodyPost_ret (v:=.tuple #[v,a.tmps.getD u1 undef,a.tmps.getD u2 undef,a.tmps.getD u3 undef]) (by simp[results,h,hx',asAddr,hl.h,Result.andThen]) hd hR
end Go.Walk
namespace Go.Rg
open Go Go.Bp Go.RowKit Go.Walk Go.Proofs
structure CovV(W:World)(v:Value)(n:Nat)(L:List (List Bool)):Prop where
 h:∃gs:List Nat,gs.length=L.length∧Sl W 1 v L.length (gs.map fun g=>.slice (some ⟨g,0,none⟩) n n)∧∀k(h:k<gs.length),Blk W gs[k] 4 (encL (L.getD k [])).toArray∧(L.getD k []).length=n
theorem CovV.ext{a b:World}{v:Value}{n:Nat}{L:List (List Bool)}(h:CovV a v n L)(e:Ext a b):CovV b v n L:=by
 obtain⟨gs,h1,h2,h3⟩:=h.h;exact⟨gs,h1,h2.ext e,fun k hk=>⟨(h3 k hk).1.ext e,(h3 k hk).2⟩⟩
theorem CovO.v{B W:World}{v:Value}{n:Nat}{L:List (List Bool)}(h:CovO B W v n L):CovV W v n L:=by
 obtain⟨gs,h1,h2,h3⟩:=h.h;exact⟨gs,h1,Sl.of_own h2,h3⟩
theorem CovV.at_{W:World}{v:Value}{n:Nat}{L:List (List Bool)}(h:CovV W v n L){i j:Nat}(hi:i<L.length)(hj:j<n):∃A c ad g,v=.slice A L.length c∧A=some ad∧W.cell? (ad.add i)=some (.slice (some ⟨g,0,none⟩) n n)∧W.cell? ⟨g,j,none⟩=some (.bool ((L.getD i []).getD j false)):=by
 obtain⟨gs,h1,⟨A,c,rfl,k1,k2,k3,k4⟩,h3⟩:=h.h;obtain⟨ad,rfl,hc⟩:=k4 (by omega)
 refine⟨_,c,ad,gs[i]'(by omega),rfl,rfl,hc i _ (by simp[h1,hi]),iH (h3 i (by omega)).1 (by rw[(h3 i (by omega)).2];exact hj)⟩
structure SysP(W:World)(g:Nat)(s:Sys):Prop where
 h:∃A n k A' m k' cv,Blk W g 177 #[.slice A n k,.slice A' m k',cv]∧n=s.classes.length∧m=s.codes.length∧ClsV W (.slice A n k) s.classes∧ListV W (.slice A' m k') s.codes∧CovV W cv n ((List.range n).map fun i:Nat=>s.coverL i)
 ok:s.Ok
 wf:Wf s
theorem kT{s:Sys}{n i j:Nat}(hn:n=s.classes.length)(hi:i<n):((((List.range n).map fun i:Nat=>s.coverL i).getD i []).getD j false)=s.covers i j:=by
 unfold Sys.covers;simp[List.getD,hi]
theorem enters_open1:∀(args:Array Value)(W:World),(callFunc 170 args).run Tryz.prog W=.ok (.enter 170 args) W:=enters_of Tryz.func170 (by kernel_rfl) rfl
theorem Et(s:Sys)(g1 g2 gs n i:Nat)(v1 v2 cv:Value)(x:Nat)(w:World)(hn:n=s.classes.length)(hx:x<n)(hi:i<n)[h1:BlkC w g1 172 [.pointer (some ⟨gs,0,none⟩)]][h2:BlkC w g2 3 [.int .i64 i]][h3:BlkC w gs 177 [v1,v2,cv]](hC:CovV w cv n ((List.range n).map fun i:Nat=>s.coverL i)):
 Calls Tryz.prog 170 #[.int .i64 x,.pointer (some ⟨g1,0,none⟩),.pointer (some ⟨g2,0,none⟩)] w (RB w (s.covers x i)):=by
 obtain⟨A,c,ad,g,rfl,rfl,c1,c2⟩:=hC.at_ (i:=x) (j:=i) (by simpa using hx) hi
 rw[kT hn hx] at c2;have i4:=CellB.mk c1;have i5:=CellB.mk c2;have hl:((List.range n).map fun i:Nat=>s.coverL i).length=n:=by simp
 rw[hl] at h3;clear hn hl c1 c2;go_enter Tryz.func170,Tryz.ntmps170
 go_wp2
 all_goals(try(go_ret;refine⟨?_,⟨ExtC.h⟩⟩;first|rfl|(simp only[*];rfl)|(simp only[Bool.not_eq_true] at *;simp only[*];rfl)))
 refine aP ((.take 0 (.take 1 (.take 2 (.take 3 (.take 4 (.take 5 (.take 6 (.take 7 (.take 8 (.take 9 (.take 10 .nil)))))))))))) (fun hHd=> ?_) (hQ:=by intro _ _ _ _ _ h;exact h)
 repeat' first|((with_reducible refine aX ?_);(first|(refine tk (v:= ?_) ?_ hHd ?_;rotate_left;(·(intro W' h;have:=StepC.mk h;first|with_reducible exact aJ)))|(refine tk (v:= ?_) ?_ hHd ?_;rotate_left;(·(intro wq hSw;go_simp;(try with_reducible rfl)))));(try simp only[pS]))|(with_reducible refine aF ?_)
 go_wp2
 all_goals(try(go_ret;refine⟨?_,⟨ExtC.h⟩⟩;first|rfl))
structure ClsM(W:World)(v:Value)(n:Nat)(m:List ClsA)(s:Sys):Prop where
 map:m.map (·.c)=s.classes
 list:ListV W v m
 incl:∀x∈m,ListV W (.slice x.a x.c.incl.length x.k) x.c.incl
 n:n=s.classes.length∧n≤1000
 wf:Wf s
theorem ClsM.ext{a b:World}{v:Value}{n:Nat}{m:List ClsA}{s:Sys}(h:ClsM a v n m s)(e:Ext a b):ClsM b v n m s:=⟨h.map,h.list.ext e,fun x hx=>(h.incl x hx).ext e,h.n,h.wf⟩
class ClsMB (w:outParam World) (v:Value) (n:outParam Nat) (m:outParam (List ClsA)) (s:outParam Sys):Prop where h:ClsM w v n m s
class ClsMC (W:World) (v:Value) (n:outParam Nat) (m:outParam (List ClsA)) (s:outParam Sys):Prop where h:ClsM W v n m s
instance{a W:World}{v:Value}{n:Nat}{m:List ClsA}{s:Sys}[p:ClsMB a v n m s][q:ExtC a W]:ClsMC W v n m s:=⟨p.h.ext q.h⟩
class CodB (w:outParam World) (v:Value) (s:outParam Sys):Prop where h:ListV w v s.codes∧Wf s
class CodC (W:World) (v:Value) (s:outParam Sys):Prop where h:ListV W v s.codes∧Wf s
instance{a W:World}{v:Value}{s:Sys}[p:CodB a v s][q:ExtC a W]:CodC W v s:=⟨p.h.1.ext q.h,p.h.2⟩
theorem enters_class:∀(args:Array Value)(W:World),(callFunc 166 args).run Tryz.prog W=.ok (.enter 166 args) W:=enters_of Tryz.func166 (by kernel_rfl) rfl
theorem enters_code:∀(args:Array Value)(W:World),(callFunc 168 args).run Tryz.prog W=.ok (.enter 168 args) W:=enters_of Tryz.func168 (by kernel_rfl) rfl
instance{W:World}{gs n c q:Nat}{A:Option Addr}{v2 v3:Value}{m:List ClsA}{s:Sys}[hB:BlkC W gs 177 [.slice A n c,v2,v3]][hC:ClsMC W (.slice A n c) q m s]:ChkC ClsA W (.func (.func 166) #[.pointer (some ⟨gs,0,none⟩)] #[]) m (fun i x=>s.clsErr i x.c):=
 ⟨_,_,#[],rfl,enters_class,fun k hk W' hE=>by
  have h:=hC.h.ext hE;have hn:n=s.classes.length:=by have:=h.list.caps;rw[this.1,←h.map,List.length_map]
  have i1:BlkC W' gs 177 [.slice A n c,v2,v3]:=⟨hB.h.ext hE⟩;have hm:m.length=n:=by rw[hn,←h.map,List.length_map]
  exact(Fw gs k A n c v2 v3 s m[k] W' ⟨m,h.map,h.list,h.incl⟩ hn (by have:=h.n;omega) (by omega) (h.incl _ (List.getElem_mem hk)) (h.wf.cls _ (by rw[←h.map];exact List.mem_map_of_mem (List.getElem_mem hk)))).mono fun e W2 ⟨h,hE⟩=>⟨h,hE.h⟩⟩
instance{W:World}{gs n c:Nat}{A:Option Addr}{v1 v3:Value}{s:Sys}[hB:BlkC W gs 177 [v1,.slice A n c,v3]][hC:CodC W (.slice A n c) s]:ChkC ByteArray W (.func (.func 168) #[.pointer (some ⟨gs,0,none⟩)] #[]) s.codes (fun i _=>nameErr s.codes i):=
 ⟨_,_,#[],rfl,enters_code,fun k hk W' hE=>by
  have h:=hC.h.1.ext hE;have i1:BlkC W' gs 177 [v1,.slice A n c,v3]:=⟨hB.h.ext hE⟩;have hn:=h.caps;have e:s.codes.getD k ByteArray.empty=s.codes[k]:=by simp[List.getD,hk]
  have:=Kv gs k A n c v1 v3 s W' h (by omega) (by rw[e];exact hC.h.2.code _ (List.getElem_mem hk))
  rw[e] at this;exact this.mono fun e W2 ⟨h,hE⟩=>⟨h,hE.h⟩⟩
theorem Ba{m:List ClsA}{s:Sys}(h:m.map (·.c)=s.classes):firstE m (fun i x=>s.clsErr i x.c)=firstE s.classes s.clsErr:=by
 unfold firstE;rw[←h,List.zipIdx_map,List.find?_map]
 cases hf:List.find? (fun p=>decide (s.clsErr p.2 p.1.c≠0)) m.zipIdx with
 |none=>
  have:List.find? ((fun p:Cls×Nat=>decide (s.clsErr p.2 p.1≠0))∘Prod.map (fun x:ClsA=>x.c) id) m.zipIdx=none:=hf
  rw[this];rfl
 |some p=>
  have:List.find? ((fun p:Cls×Nat=>decide (s.clsErr p.2 p.1≠0))∘Prod.map (fun x:ClsA=>x.c) id) m.zipIdx=some p:=hf
  rw[this];rfl
theorem sX{s:Sys}(h:(firstE s.classes s.clsErr).2=0):s.InclOk:=by
 intro x y hy;have hz:=dH h;by_cases hx:x.toNat<s.classes.length
 ·have e:s.at_ x=s.classes[x.toNat]:=by unfold Sys.at_;simp[List.getD,hx]
  rw[e] at hy;have:=inB_t.1 ((Sys.clsErr_0 (hz _ hx)).2.2.1 y hy);omega
 ·have e:s.at_ x=⟨ByteArray.empty,[],0,0,0⟩:=by unfold Sys.at_;simp[List.getD,List.getElem?_eq_none (show s.classes.length≤x.toNat by omega)]
  rw[e] at hy;simp at hy
def ROpen(W:World)(s:Sys)(e:Ending)(W':World):Prop:=
 Ext W W'∧((s.check.2.2≠0∧e=.returned (.tuple #[.pointer none,.int .i64 s.check.1,.int .i64 s.check.2.1,.int .i64 s.check.2.2]))∨(s.check=(0,0,0)∧∃g,e=.returned (.tuple #[.pointer (some ⟨g,0,none⟩),.int .i64 0,.int .i64 0,.int .i64 0])∧SysP W' g s))
theorem ROpen.err{W W':World}{s:Sys}{p a r:Int}{e:Ending}(h:s.check=(p,a,r))(hr:r≠0)(hE:Ext W W')(he:e=.returned (.tuple #[.pointer none,.int .i64 p,.int .i64 a,.int .i64 r])):ROpen W s e W':=⟨hE,.inl ⟨by rw[h];exact hr,by rw[h];exact he⟩⟩
class CovB (w:outParam World) (v:Value) (n:outParam Nat) (s:outParam Sys):Prop where h:CovV w v n ((List.range n).map fun i:Nat=>s.coverL i)∧n=s.classes.length
class CovC (W:World) (v:Value) (n:outParam Nat) (s:outParam Sys):Prop where h:CovV W v n ((List.range n).map fun i:Nat=>s.coverL i)∧n=s.classes.length
instance{a W:World}{v:Value}{n:Nat}{s:Sys}[p:CovB a v n s][q:ExtC a W]:CovC W v n s:=⟨p.h.1.ext q.h,p.h.2⟩
class InL (l:List Int) (n i:Nat):Prop where h:i<n∧∀x∈l,0≤x∧x<n
instance{W:World}{g1 g2 gs n i:Nat}{v1 v2 cv:Value}{s:Sys}{l:List Int}[h1:BlkC W g1 172 [.pointer (some ⟨gs,0,none⟩)]][h2:BlkC W g2 3 [.int .i64 i]][h3:BlkC W gs 177 [v1,v2,cv]][h4:CovC W cv n s][h5:InL l n i]:
 PredC Int W (.func (.func 170) #[] #[.pointer (some ⟨g1,0,none⟩),.pointer (some ⟨g2,0,none⟩)]) l (fun k=>s.covers k i):=
 ⟨_,_,rfl,enters_open1,fun x hx W' hE=>by
  have hr:=h5.h.2 x hx;obtain⟨y,rfl⟩:∃y:Nat,x=(y:Int):=⟨x.toNat,by omega⟩
  have i1:BlkC W' g1 172 [.pointer (some ⟨gs,0,none⟩)]:=⟨h1.h.ext hE⟩;have i2:BlkC W' g2 3 [.int .i64 i]:=⟨h2.h.ext hE⟩;have i3:BlkC W' gs 177 [v1,v2,cv]:=⟨h3.h.ext hE⟩;exact(Et s g1 g2 gs n i v1 v2 cv y W' h4.h.2 (by omega) h5.h.1 (h4.h.1.ext hE)).mono fun e W2 ⟨h,hE⟩=>⟨h,hE.h⟩⟩
theorem Cy{s:Sys}{n i:Nat}(hn:n=s.classes.length)(hi:i<n)(h:((s.at_ i).incl.any fun k=>s.covers k i)=true)(hb:∀j<i,((s.at_ (j:Nat)).incl.any fun k=>s.covers k j)=false):s.loopAt=some i:=by
 unfold Sys.loopAt;rw[←hn];exact Bb (i:=i) hi h hb
theorem sT{s:Sys}{n:Nat}(hn:n=s.classes.length)(hb:∀j<n,((s.at_ (j:Nat)).incl.any fun k=>s.covers k j)=false):s.loopAt=none:=by
 unfold Sys.loopAt;rw[←hn];exact Go.Bp.find_none (fun j hj=>by simpa using hb j hj)
theorem check_1{s:Sys}(h:inB s.classes.length 1 12=false∨8<s.codes.length):s.check=(1,0,3):=by unfold Sys.check;rw[if_pos h]
theorem uO{s:Sys}{a r:Int}(h:¬(inB s.classes.length 1 12=false∨8<s.codes.length))(h2:firstE s.classes s.clsErr=(a,r))(hr:r≠0):s.check=(2,a,r):=by unfold Sys.check;rw[if_neg h,h2,if_pos hr]
theorem uN{s:Sys}{a a2 r:Int}(h:¬(inB s.classes.length 1 12=false∨8<s.codes.length))(h2:firstE s.classes s.clsErr=(a2,0))(h3:(firstE s.codes fun i _=>nameErr s.codes i)=(a,r))(hr:r≠0):s.check=(3,a,r):=by
 unfold Sys.check;rw[if_neg h,h2,if_neg (by simp),h3,if_pos hr]
theorem check_4{s:Sys}{a a2:Int}(h:¬(inB s.classes.length 1 12=false∨8<s.codes.length))(h2:firstE s.classes s.clsErr=(a2,0))(h3:(firstE s.codes fun i _=>nameErr s.codes i)=(a,0)):s.check=match s.loopAt with
 |some i=>(4,(i:Int),9)
 |none=>(0,0,0):=by
 unfold Sys.check;rw[if_neg h,h2,if_neg (by simp),h3,if_neg (by simp)]
 cases s.loopAt<;>rfl
theorem wQ(s:Sys)(sv:Value)(w:World)(h:SysV w sv s):Calls Tryz.prog 102 #[sv] w (ROpen w s):=by
 obtain⟨A,n,k,A',k',rfl,hn,hC,hL⟩:=h.h;have hwf:=h.wf;obtain⟨m,hm1,hm2,hm3⟩:=hC.h;obtain⟨q,hq⟩:∃q,s.codes.length=q:=⟨_,rfl⟩;rw[hq] at hL h⊢;obtain⟨-,c1,c2⟩:=hm2.caps;have hml:m.length=n:=by rw[hn,←hm1,List.length_map]
 obtain⟨-,c3,c4⟩:=hL.caps;have Hn:=Lib.hid hn;have Hq:=Lib.hid hq;have Hm:=Lib.hid hml;by_cases h1:inB n 1 12=false
 ·have hck:=check_1 (s:=s) (.inl (by rw[←hn];exact h1))
  have e1:outB 1 12 [(n:Int)]=true:=by rw[bL,h1];rfl
  have z3:(3:Int)≠0:=by decide
  clear hn hq hml;go_enter Tryz.func102,Tryz.ntmps102
  go_wp2_with (first|(with_reducible refine aH (d:=some 1) ?_;intro V1 gc _ _ _)|(with_reducible refine aR (d:=some 2) ?_;intro V2 g2 _ _ hA2)|(with_reducible refine aH (d:=some 10) ?_;intro V gs _ _ hAs)|(first|go_skip|(with_reducible refine aA ?_)|(with_reducible refine aB ?_;first|rintro _ V ⟨rfl,(_:StepC _ _)⟩)|(with_reducible refine aI ?_;intro V _ _)|(with_reducible refine aD ?_;intro V g _ _ _)))
  (try simp only[Exit.inBlock,Exit.then])
  refine nF rfl rfl (by with_unfolding_all rfl) (ROpen.err hck (by assumption) ExtC.h ?_)
  rfl
 by_cases h8:8<q
 ·have hck:=check_1 (s:=s) (.inr (by rw[hq];exact h8))
  have e1:outB 1 12 [(n:Int)]=false:=by rw[bL];simpa using h1
  have z8:(8:Int)<(q:Int):=by omega
  have z3:(3:Int)≠0:=by decide
  clear hn hq hml;go_enter Tryz.func102,Tryz.ntmps102
  go_wp2_with (first|(with_reducible refine aH (d:=some 1) ?_;intro V1 gc _ _ _)|(with_reducible refine aR (d:=some 2) ?_;intro V2 g2 _ _ hA2)|(with_reducible refine aH (d:=some 10) ?_;intro V gs _ _ hAs)|(first|(with_reducible refine aA ?_)|(with_reducible refine bA ?_)|(with_reducible refine aB ?_;first|rintro _ V ⟨rfl,(_:StepC _ _)⟩)|(with_reducible refine aI ?_;intro V _ _)|(with_reducible refine aD ?_;intro V g _ _ _)))
  (try simp only[Exit.inBlock,Exit.then])
  refine nF rfl rfl (by with_unfolding_all rfl) (ROpen.err hck (by assumption) ExtC.h ?_)
  rfl
 have hno:¬(inB s.classes.length 1 12=false∨8<s.codes.length):=by rw[←hn,hq];exact fun h=>h.elim h1 h8
 have e1:outB 1 12 [(n:Int)]=false:=by rw[bL];simpa using h1
 have hn12:1≤n∧n≤12:=by have:=inB_t.1 (by simpa using h1:inB n 1 12=true);omega
 have z8:¬(8:Int)<(q:Int):=by omega
 have i1:ClsMB w (.slice A n k) n m s:=⟨hm1,hm2,hm3,⟨hn,by omega⟩,hwf⟩
 have i2:CodB w (.slice A' q k') s:=⟨hL,hwf⟩;have i3:=ListB.mk hm2;have i4:ListB ByteArray w (.slice A' q k') s.codes:=⟨hL⟩;obtain⟨⟨a1,r1⟩,hr1⟩:∃x,firstE s.classes s.clsErr=x:=⟨_,rfl⟩;have hr1':=(Ba hm1).trans hr1;by_cases hz1:r1=0
 rotate_left
 ·have hck:=uO hno hr1 hz1;have q1:(r1 !=0)=true:=by simpa using hz1
  clear hn hq hml;go_enter Tryz.func102,Tryz.ntmps102
  go_wp2_with (first|(with_reducible refine aH (d:=some 1) ?_;intro V1 gc _ _ _)|(with_reducible refine aR (d:=some 2) ?_;intro V2 g2 _ _ hA2)|(with_reducible refine aH (d:=some 10) ?_;intro V gs _ _ hAs)|(first|(with_reducible refine aA ?_)|(with_reducible refine bA ?_)|(with_reducible refine aB ?_;first|rintro _ V ⟨rfl,(_:StepC _ _)⟩)|(with_reducible refine aI ?_;intro V _ _)|(with_reducible refine aD ?_;intro V g _ _ _)))
  refine aP ((.take 0 (.take 1 (.take 2 (.take 3 (.take 4 (.take 5 (.take 6 (.one 7 (.take 8 (.take 9 (.take 10 (.take 11 (.take 12 .nil)))))))))))))) (fun hHd=> ?_) (hQ:=by intro _ _ _ _ _ h;exact h)
  repeat' first|((with_reducible refine aX ?_);(first|(refine tk (v:= ?_) ?_ hHd ?_;rotate_left;(·(intro W' h;have:=StepC.mk h;first|with_reducible exact aJ)))|(refine tk (v:= ?_) ?_ hHd ?_;rotate_left;(·(intro wq hSw;go_simp;(try with_reducible rfl)))));(try simp only[pS]))|((with_reducible refine bC ?_);refine aQ (by simp only[gS];rfl) ?_)|((with_reducible refine aN ?_);first|(rintro _ V ⟨rfl,(_:StepC _ _)⟩;refine⟨_,rfl,?_⟩))|((with_reducible refine bD ?_);clear hHd;refine aM ExtC.h (fun hHd=> ?_);(try simp only[pS]))|(with_reducible refine aF ?_)
  go_wp2_with (first|(with_reducible refine aI ?_;intro V _ _))
  (try simp only[Exit.inBlock,Exit.then])
  refine nF rfl rfl (by with_unfolding_all rfl) (ROpen.err hck (by assumption) ExtC.h ?_)
  rfl
 subst hz1;obtain⟨⟨a2,r2⟩,hr2⟩:∃x,(firstE s.codes fun i _=>nameErr s.codes i)=x:=⟨_,rfl⟩
 by_cases hz2:r2=0
 rotate_left
 ·have hck:=uN hno hr1 hr2 hz2;have q1:(r2 !=0)=true:=by simpa using hz2
  clear hn hq hml;go_enter Tryz.func102,Tryz.ntmps102
  go_wp2_with (first|(with_reducible refine aH (d:=some 1) ?_;intro V1 gc _ _ _)|(with_reducible refine aR (d:=some 2) ?_;intro V2 g2 _ _ hA2)|(with_reducible refine aH (d:=some 10) ?_;intro V gs _ _ hAs)|(first|(with_reducible refine aA ?_)|(with_reducible refine bA ?_)|(with_reducible refine aB ?_;first|rintro _ V ⟨rfl,(_:StepC _ _)⟩)|(with_reducible refine aI ?_;intro V _ _)|(with_reducible refine aD ?_;intro V g _ _ _)))
  refine aP ((.take 0 (.take 1 (.take 2 (.take 3 (.take 4 (.take 5 (.take 6 (.one 7 (.take 8 (.take 9 (.take 10 (.take 11 (.take 12 .nil)))))))))))))) (fun hHd=> ?_) (hQ:=by intro _ _ _ _ _ h;exact h)
  repeat' first|((with_reducible refine aX ?_);(first|(refine tk (v:= ?_) ?_ hHd ?_;rotate_left;(·(intro W' h;have:=StepC.mk h;first|with_reducible exact aJ)))|(refine tk (v:= ?_) ?_ hHd ?_;rotate_left;(·(intro wq hSw;go_simp;(try with_reducible rfl)))));(try simp only[pS]))|((with_reducible refine bC ?_);refine aQ (by simp only[gS];rfl) ?_)|((with_reducible refine aN ?_);first|(rintro _ V ⟨rfl,(_:StepC _ _)⟩;refine⟨_,rfl,?_⟩))|((with_reducible refine bD ?_);clear hHd;refine aM ExtC.h (fun hHd=> ?_);(try simp only[pS]))|(with_reducible refine aF ?_)
  go_wp2
  refine aP ((.take 0 (.take 1 (.take 2 (.take 3 (.take 4 (.take 5 (.take 6 (.one 7 (.take 8 (.take 9 (.take 10 (.take 11 (.take 12 .nil)))))))))))))) (fun hHd=> ?_) (hQ:=by intro _ _ _ _ _ h;exact h)
  repeat' first|((with_reducible refine aX ?_);(first|(refine tk (v:= ?_) ?_ hHd ?_;rotate_left;(·(intro W' h;have:=StepC.mk h;first|with_reducible exact aJ)))|(refine tk (v:= ?_) ?_ hHd ?_;rotate_left;(·(intro wq hSw;go_simp;(try with_reducible rfl)))));(try simp only[pS]))|((with_reducible refine bC ?_);refine aQ (by simp only[gS];rfl) ?_)|((with_reducible refine aN ?_);first|(rintro _ V ⟨rfl,(_:StepC _ _)⟩;refine⟨_,rfl,?_⟩))|((with_reducible refine bD ?_);clear hHd;refine aM ExtC.h (fun hHd=> ?_);(try simp only[pS]))|(with_reducible refine aF ?_)
  go_wp2_with (first|(with_reducible refine aI ?_;intro V _ _))
  (try simp only[Exit.inBlock,Exit.then])
  refine nF rfl rfl (by with_unfolding_all rfl) (ROpen.err hck (by assumption) ExtC.h ?_)
  rfl
 subst hz2;have hio:s.InclOk:=sX (by rw[hr1])
 have Hck:=Lib.hid (check_4 hno hr1 hr2);clear hn hq hml;go_enter Tryz.func102,Tryz.ntmps102
 go_wp2_with (first|(with_reducible refine aH (d:=some 1) ?_;intro V1 gc _ _ _)|(with_reducible refine aR (d:=some 2) ?_;intro V2 g2 _ _ hA2)|(with_reducible refine aH (d:=some 10) ?_;intro V gs _ _ hAs)|(first|(with_reducible refine aA ?_)|(with_reducible refine bA ?_)|(with_reducible refine aB ?_;first|rintro _ V ⟨rfl,(_:StepC _ _)⟩)|(with_reducible refine aI ?_;intro V _ _)|(with_reducible refine aD ?_;intro V g _ _ _)))
 refine aP ((.take 0 (.take 1 (.take 2 (.take 3 (.take 4 (.take 5 (.take 6 (.one 7 (.take 8 (.take 9 (.take 10 (.take 11 (.take 12 .nil)))))))))))))) (fun hHd=> ?_) (hQ:=by intro _ _ _ _ _ h;exact h)
 repeat' first|((with_reducible refine aX ?_);(first|(refine tk (v:= ?_) ?_ hHd ?_;rotate_left;(·(intro W' h;have:=StepC.mk h;first|with_reducible exact aJ)))|(refine tk (v:= ?_) ?_ hHd ?_;rotate_left;(·(intro wq hSw;go_simp;(try with_reducible rfl)))));(try simp only[pS]))|((with_reducible refine bC ?_);refine aQ (by simp only[gS];rfl) ?_)|((with_reducible refine aN ?_);first|(rintro _ V ⟨rfl,(_:StepC _ _)⟩;refine⟨_,rfl,?_⟩))|((with_reducible refine bD ?_);clear hHd;refine aM ExtC.h (fun hHd=> ?_);(try simp only[pS]))|(with_reducible refine aF ?_)
 go_wp2
 refine aP ((.take 0 (.take 1 (.take 2 (.take 3 (.take 4 (.take 5 (.take 6 (.one 7 (.take 8 (.take 9 (.take 10 (.take 11 (.take 12 .nil)))))))))))))) (fun hHd=> ?_) (hQ:=by intro _ _ _ _ _ h;exact h)
 repeat' first|((with_reducible refine aX ?_);(first|(refine tk (v:= ?_) ?_ hHd ?_;rotate_left;(·(intro W' h;have:=StepC.mk h;first|with_reducible exact aJ)))|(refine tk (v:= ?_) ?_ hHd ?_;rotate_left;(·(intro wq hSw;go_simp;(try with_reducible rfl)))));(try simp only[pS]))|((with_reducible refine bC ?_);refine aQ (by simp only[gS];rfl) ?_)|((with_reducible refine aN ?_);first|(rintro _ V ⟨rfl,(_:StepC _ _)⟩;refine⟨_,rfl,?_⟩))|((with_reducible refine bD ?_);clear hHd;refine aM ExtC.h (fun hHd=> ?_);(try simp only[pS]))|(with_reducible refine aF ?_)
 have hE12:Ext V1 V2:=ExtC.h;have i9:AtC V1 gs:=⟨Nat.le_trans hE12.size hAs.h⟩;have hCV:ClsV V1 (.slice A n k) s.classes:=hC.ext ExtC.h;go_wp2_with (first|(with_reducible refine aA ?_))
 refine(Jt s hio V1 V gs n k A (.slice A' q k') ExtC.h i9.h hCV Hn.out hn12.2 (inferInstance:BlkC V gs 177 [.slice A n k,.slice A' q k',.slice none 0 0]).h).mono ?_;rintro _ W9 ⟨rfl,hEl,hKt,cv,hBl,hcv⟩;have iE:StepC V1 W9:=⟨hEl⟩;have i11:BlkC W9 g2 172 [.pointer (some ⟨gs,0,none⟩)]:=⟨hKt _ _ _ (by decide) (by decide) (inferInstance:BlkC V g2 172 [.pointer (some ⟨gs,0,none⟩)]).h⟩
 have i10:BlkC W9 gs 177 [.slice A n k,.slice A' q k',cv]:=⟨hBl⟩;have i12:CovB W9 cv n s:=⟨hcv.v,Hn.out⟩;go_wp2_with (first|(with_reducible refine aA ?_))
 go_loopw [66] (fun iv wr=>StepC W9 wr∧∃i:Nat,i≤n∧iv=.int .i64 i∧∀j<i,((s.at_ (j:Nat)).incl.any fun k=>s.covers k j)=false) (fun iv _=>n-(intOf iv).toNat)
 case atStart=>exact⟨⟨ExtC.h⟩,0,by omega,rfl,fun j hj=>by omega⟩
 case round=>
  obtain⟨_,i,hi,rfl,hb⟩:=hrel;have Hb:=Lib.hid hb;clear hb;by_cases hlt:i<n
  ·obtain⟨x,hx⟩:∃x,m[i]'(by have:=Hm.out;omega)=x:=⟨_,rfl⟩
   have hxm:x∈m:=by rw[←hx];exact List.getElem_mem _
   have hI:=hm3 x hxm;obtain⟨ad,rfl,hcx⟩:=hm2.elem (i:=i) (by have:=Hm.out;omega)
   rw[hx] at hcx;have hat:(s.at_ i).incl=x.c.incl:=by
    rw[Sys.at_eq (by rw[←Hn.out];exact hlt:i<s.classes.length)]
    have:s.classes[i]'(by rw[←Hn.out];exact hlt)=x.c:=by rw[←hx];simp[←hm1]
    rw[this]
   have Hat:=Lib.hid hat;have i13:InL x.c.incl n i:=⟨hlt,fun y hy=>by rw[←hat] at hy;have:=hio _ y hy;have:=Hn.out;omega⟩
   obtain⟨⟨nm,ic,ne,ag,te⟩,xa,xk⟩:=x;simp only at hI hcx i13 Hat;have i14:CellsB w (ad.add (i*5)) [.string nm,.slice xa ic.length xk,.int .i64 ne,.int .i64 ag,.int .i64 te]:=⟨hcx⟩;have i15:=ListB.mk hI;obtain⟨b,hb⟩:∃b,(ic.any fun k=>s.covers k i)=b:=⟨_,rfl⟩
   have Hbb:=Lib.hid hb;clear hat hx hcx hxm
   cases b with
   |true=>
    go_wp2_with (first|(with_reducible refine aR (d:=some 6) ?_;intro V g6 _ _ _)|(first|(with_reducible refine aA ?_)|(with_reducible refine aB ?_;first|rintro _ V ⟨rfl,(_:StepC _ _)⟩)|(with_reducible refine aI ?_;intro V _ _)|(with_reducible refine aR ?_;intro V g _ _ _)))
    have ne:NeC g6 g2:=⟨dU (inferInstance:BlkC V g6 3 [.int .i64 i]).h (inferInstance:BlkC V g2 172 [.pointer (some ⟨gs,0,none⟩)]).h (by decide)⟩
    have i16:AtC V1 g2:=hA2;refine dA ((.take 0 (.one 1 (.take 2 (.take 3 (.take 4 .nil)))))) (fun w'=>Ext V1 w'∧Blk w' g6 3 #[.int .i64 i]) ?_ (fun hHd=> ?_) (hQ:=by intro _ _ _ _ _ h;exact h)
    ·exact⟨ExtC.h,(inferInstance:BlkC _ g6 3 [.int .i64 i]).h⟩
    repeat' first|((with_reducible refine aX ?_);(first|(refine tk (v:= ?_) ?_ hHd ?_;rotate_left;(·(intro W' h;obtain⟨h,ha⟩:=h;have:=StepC.mk h;have i6:BlkC W' g6 3 [.int .i64 i]:=⟨ha⟩;first|with_reducible exact aJ)))|(refine tk (v:= ?_) ?_ hHd ?_;rotate_left;(·(intro wq hSw;go_simp;(try with_reducible rfl)))));(try simp only[pS]))|((with_reducible refine bC ?_);refine aQ (by simp only[gS];rfl) ?_)|(with_reducible refine aI ?_;intro Vs hS hSB)|((with_reducible refine bD ?_);clear hHd;refine aM ⟨ExtC.h,(inferInstance:BlkC _ g6 3 [.int .i64 i]).h⟩ (fun hHd=> ?_);(try simp only[pS]))|(with_reducible refine aF ?_)
    go_wp2
    have hck:s.check=(4,(i:Int),9):=by rw[Hck.out,Cy Hn.out hlt (by rw[Hat.out];exact Hbb.out) Hb.out]
    have z9:(9:Int)≠0:=by decide
    (try simp only[Exit.inBlock,Exit.then])
    refine nF rfl rfl (by with_unfolding_all rfl) (ROpen.err hck (by assumption) ExtC.h ?_)
    rfl
   |false=>
    go_wp2_with (first|(with_reducible refine aA ?_)|(with_reducible refine aB ?_;first|rintro _ V ⟨rfl,(_:StepC _ _)⟩)|(with_reducible refine aI ?_;intro V _ _)|(with_reducible refine aR ?_;intro V g _ _ _))
    go_roundw
    case rel=>exact⟨⟨ExtC.h⟩,i+1,by omega,by go_num,fun j hj=>by
     by_cases e:j=i
     ·subst e;rw[Hat.out];exact Hbb.out
     ·exact Hb.out j (by omega)⟩
    case measure=>simp[intOf];omega
  ·obtain rfl:i=n:=by omega
   have hcv1:CovO V1 wr cv i _:=hcv.ext ExtC.h;have hb2:=(inferInstance:BlkC wr g2 172 [.pointer (some ⟨gs,0,none⟩)]).h;go_wp2_with (first|(with_reducible refine aA ?_)|(with_reducible refine aI ?_;intro V hS _))
   have hcv2:=hcv1.store hb2 (by decide) (by decide) hS.h
   have hck:s.check=(0,0,0):=by rw[Hck.out,sT Hn.out Hb.out]
   have hok:s.Ok:=Sys.ok_of (by rw[hck])
   (try simp only[Exit.inBlock,Exit.then])
   refine nF rfl rfl (by with_unfolding_all rfl) ⟨ExtC.h,.inr ⟨hck,gs,rfl,⟨_,_,_,_,_,_,_,(inferInstance:BlkC V gs 177 [.slice A i k,.slice A' q k',cv]).h,Hn.out,Hq.out.symm,hC.ext ExtC.h,hL.ext ExtC.h,hcv2.v⟩,hok,hwf⟩⟩
end Go.Rg
end
section
namespace Go.Bp
open Go.RowKit
theorem grown_of_ext{A B:World}(h:Ext A B):A.grownBy B none:=⟨h.os,h.tape,h.output,h.size,fun k hk _=>h.block k hk⟩
section
variable{P:Program}{ops:Array Oper}{Q:Exit→Act→World→Prop}{n:Nat}
theorem mE{o:Oper}{a:Act}{w:World}{l:Nat}{next next':Act→World→Prop}(hd:∀c,o.op≠ .defer c)(hn:∀a w,next a w→next' a w)(h:o.wp P a w next Q):o.wpIn (Fence.wide.inRound l) n P a w next' Q:=by
 refine⟨fun _ _=>trivial,?_⟩
 have e:o.semAt (Fence.wide.inRound l).round a.eval=execOp a.eval o:=Oper.semAt_eq _ _ _ hd;rw[e];unfold Oper.wp at h
 cases hr:(execOp a.eval o).run P w with
 |ok x w'=>
  rw[hr] at h
  cases x with
  |value v=>exact hn _ _ h
  |skip=>exact hn _ _ h
  |defer d=>exact hn _ _ h
  |enter f args=>
   refine⟨fun h=>by simp[Fence.wide,Fence.inRound] at h,?_⟩
   refine CallsIn.inRound l (callsIn_wide.2 (Calls.mono h fun e w'' he=> ?_))
   cases e with
   |returned v=>exact hn _ _ he
   |panicked c=>exact he
   |outgrown=>exact he
  |row r args=>
   refine⟨fun h=>by simp[Fence.wide,Fence.inRound] at h,fun c cs _=> ?_⟩
   obtain⟨v,w2,h1,h2⟩:=h c cs;exact⟨v,w2,hn _ _ h1,stepsIn_wide.2 h2⟩
  |_=>exact h.elim
 |halt x w'=>
  rw[hr] at h
  cases x with
  |panic v=>exact h
  |_=>exact h.elim
end
end Go.Bp
end
section
namespace Go.Bp
open Go.RowKit
variable{P:Program}{fn:Func}{R:Ending→World→Prop}
theorem dC{f:FuncId}{c:Go.Code}{args:Array Value}{w:World}(hf:P.funcs[f]? =some fn)(hb:fn.body=some c)
 (h:c.wp P (bodyPostM Fence.wide 0 P fn R) {tmps:=args++Array.replicate (fn.ntmps-args.size) undef,defers:=[]} w):Calls P f args w R:=
 callsIn_wide.1 (callsIn_of_wp_marks (n:=0) hf hb trivial (wpIn_wide.2 h) rfl)
theorem lH{e:Exit}{a:Act}{w:World}(h:bodyPost P fn R e a w):bodyPostM Fence.wide 0 P fn R e a w:=by
 cases e with
 |normal=>obtain⟨hd,v,hr,hR⟩:=h;show LeavesInM Fence.wide 0 P fn a.tmps R a.defers .returning w;rw[hd];exact⟨v,hr,hR⟩
 |ret=>obtain⟨hd,v,hr,hR⟩:=h;show LeavesInM Fence.wide 0 P fn a.tmps R a.defers .returning w;rw[hd];exact⟨v,hr,hR⟩
 |panic ch=>obtain⟨hd,hR⟩:=h;show LeavesInM Fence.wide 0 P fn a.tmps R a.defers (.panicking ch) w;rw[hd];exact hR
 |outgrown=>exact h
 |exit id=>exact h.elim
 |goto l=>exact h.elim
theorem iW{a:Act}{w:World}{D:Nat}(hd:a.defers=[{target:=.collected D,args:=#[]}])(hK:w.heap[D]? =some (.deferred (some [])))
 (h:bodyPost P fn R .ret {a with defers:=[]} (w.putObj D (.deferred none))):bodyPostM Fence.wide 0 P fn R .ret a w:=by
 obtain⟨_,v,hr,hR⟩:=h;show LeavesInM Fence.wide 0 P fn a.tmps R a.defers .returning w
 rw[hd];exact⟨by simp,.inl ⟨D,_,rfl,run_takeDeferred hK,v,hr,hR⟩⟩
def roundAct(ps:Array Tmp)(vs:Array Value)(a:Act):Act:={tmps:=(ps.zip vs).foldl (fun t(p,v)=>t.setIfInBounds p v) a.tmps,defers:=[]}
end Go.Bp
end
section
namespace Go.Bp
open Go.RowKit
section
variable{P:Program}{md:Region.Mode}{ops:Array Oper}{Q:Exit→Act→World→Prop}{n:Nat}
def noDefer(ops:Array Oper):Bool:=ops.all fun o=>match o.op with| .defer _=>false|_=>true
theorem zX(h:noDefer ops=true){i:Nat}{o:Oper}(ho:ops[i]? =some o):∀c,o.op≠ .defer c:=by
 intro c e;unfold noDefer at h;rw[Array.all_eq_true] at h;obtain⟨hi,rfl⟩:=Array.getElem?_eq_some_iff.1 ho;have:=h i hi;rw[e] at this;cases this
theorem tL{i l:Nat}{K K':Act→World→Prop}{a:Act}{w:World}(hd:noDefer ops=true)(hQ:¬LetsOut Q)(hK:∀a w,K a w→K' a w)(h:wpOp P ops Q i K a w):wpOpIn (Fence.wide.inRound l) n P ops Q i K' a w:=by
 unfold wpOpIn;unfold wpOp at h
 cases ho:ops[i]? with
 |none=>rw[ho] at h;exact hK _ _ h
 |some o=>
  rw[ho] at h;simp only at h⊢;split at h
  ·rename_i hw;rw[if_pos hw];rcases h with h|⟨_,h2⟩
   ·exact mE (zX hd ho) hK h
   ·exact absurd h2 hQ
  ·rename_i hw;rw[if_neg hw];exact⟨fun _ _=>trivial,hK _ _ h⟩
theorem jP{l:Nat}(hd:noDefer ops=true)(hQ:¬LetsOut Q):∀(fuel:Nat)(listed:Array Bool)(a:Act)(w:World),wpAny P md ops Q fuel listed a w→wpAnyIn (Fence.wide.inRound l) n P md ops Q fuel listed a w
 |0,_,_,_,h=>h
 |fuel+1,listed,a,w,h=>by
  refine⟨h.1,fun i hi=> ?_⟩
  exact tL hd hQ (fun a' w' h'=>jP hd hQ fuel _ a' w' h') (h.2 i hi)
theorem gZ{id l:Nat}{a:Act}{w:World}(t:OTree)(S:World→Prop)(hm:P.follows .mixedOrders=true)(hd:noDefer ops=true)(hL:¬LetsOut Q)
 (hs:Region.noSelect ops=true)(hf:Nat.ble t.depth ops.size=true)(hok:okTree .any ops t (Array.replicate ops.size false)=true)
 (hQ:∀c(a:Act)(d:Tmp)(v:Value)(w:World),Q (.panic c) (a.put (some d) v) w→Q (.panic c) a w)
 (hS:S w.drew)(h:S w.drew→wpTree P ops Q S t a w.drew):(Code.region id ops true).wpIn (Fence.wide.inRound l) n P Q a w:=
 wpIn_region_any hm (jP hd hL _ _ _ _ (wpAny_of_held _ _ _ _ (dE hs hQ t _ _ _ _ (Nat.le_of_ble_eq_true hf) hok (h hS))))
theorem jY{l:Nat}(hQ:¬LetsOut Q):∀(r:List Oper)(a:Act)(w:World),(∀o∈r,∀c,o.op≠ .defer c)→wpList P ops Q r a w→wpListIn (Fence.wide.inRound l) n P ops Q r a w
 | [],_,_,_,h=>h
 |o::r,a,w,hd,h=>by
  have ih:=fun a w h=>jY (l:=l) hQ r a w (fun o ho=>hd o (by simp[ho])) h
  unfold wpListIn;unfold wpList at h;split at h
  ·rename_i hw;rw[if_pos hw];rcases h with h|⟨_,h2⟩
   ·exact mE (hd o (by simp)) (fun a w h=>ih a w h) h
   ·exact absurd h2 hQ
  ·rename_i hw;rw[if_neg hw];first|exact⟨fun _ _=>trivial,ih _ _ h⟩
end
end Go.Bp
end
