import Derived.Shelf.Slices.In.SortNone
import Derived.Shelf.Slices.SearchI
import Derived.Shelf.Small.Wraps
import Derived.Shelf.Sort.Plain
import Derived.Shelf.Strconv.AtoiAll
import Derived.Shelf.Strconv.Itoa3
import Derived.Shelf.Strings.BuilderK
import Derived.Shelf.Strings.Explode
import Derived.Shelf.Strings.OnBuilder
import Derived.Shelf.Strings.Repeat
import Derived.Shelf.Strings.Shaped
import Derived.Shelf.Strings.SplitShaped
import Derived.Shelf.Unicode.DecodeAny
import Derived.Shelf.Utf8.RuneCount
import Derived.Test.YtbfbepnkofampaaGreatDoorXPX06
set_option maxRecDepth 100000
set_option synthInstance.maxSize 2000
set_option synthInstance.maxHeartbeats 400000
set_option maxHeartbeats 8000000
set_option linter.all false
section
namespace Go.Rg
open Go Go.Bp Go.RowKit Go.Walk Go.Proofs
def pI(l:List (Nat×Nat)):List (Int×Int):=l.map fun q=>((q.1:Int),(q.2:Int))
theorem Jd(l:List (Nat×Nat)):(pI l).length=l.length:=by unfold pI;rw[List.length_map]
instance tyYq1:TyNe 62 124:=⟨by decide⟩
instance tyYq2:TyNe 115 124:=⟨by decide⟩
instance tyYq3:TyNe 121 124:=⟨by decide⟩
instance tyYq4:TyNe 3 124:=⟨by decide⟩
instance tyYq5:TyNe 80 124:=⟨by decide⟩
theorem wJ{r:Rules}{born:Int}{z:Event}(hz:r.eventErr born z=0)(hk:z.kind=0):0≤z.minute∧z.minute≤1439:=by
 obtain⟨hd,hs⟩:=bI hz;rcases hs with ⟨y,m',e,_,h1,h2⟩|⟨t',e,_⟩|⟨t',e,h⟩|⟨t',e,_⟩|⟨t',e,_⟩
 ·rw[e];exact⟨h1,h2⟩
 ·rw[e] at hk;simp at hk
 ·rw[e] at hk;simp at hk
 ·rw[e] at hk;simp at hk
 ·rw[e] at hk;simp at hk
theorem lC(r:Rules)(p:Person)(v pv:Value)(l:List (Nat×Nat))(n:Int)(w:World)(h:RulesV w v r)(hp:PersonV w pv p)(hs:r.impostorsAns p=(l,n)):Calls Tryz.prog 35 #[v,pv] w (RLI w (pI l) n):=by
 obtain⟨A1,n1,c1,A2,n2,c2,A3,n3,c3,rfl⟩:=h.form;obtain⟨A,c,rfl,hl⟩:=hp.h;have i1:=RulesB.mk h;have i2:=PersonB.mk hp;unfold Rules.impostorsAns at hs;by_cases hz:r.personErr p=0
 ·rw[if_neg (by simp[hz])] at hs
  have i3:PersOk r p:=⟨hz⟩;injection hs with m1 m2
  subst m1 m2;obtain⟨hck,hbo,hn,hev⟩:=Rules.person_ok hz;have hev2:∀x∈(sortE p.events),r.eventErr p.born x=0:=fun x hx=>hev x ((cZ _ _).1 hx)
  have hln:(sortE p.events).length≤30:=Nat.le_trans (Rules.sortE_len _) hn;have hol:=oV 0 (sortE p.events);have Hev:=Lib.hid hev2;have Hall:=Lib.hid (wK (sortE p.events));clear hz hev hev2 hck hbo;refine dC Tryz.func35 rfl ?_;simp only[Tryz.ntmps35,List.size_toArray,List.length_cons,List.length_nil,Nat.reduceAdd,Nat.reduceSub,Array.replicate_succ,Array.replicate_zero,List.push_toArray,List.append_toArray,List.nil_append,List.cons_append];go_wp2_with (first|(with_reducible refine aH (d:=some 2) ?_;intro V3 g2 hE2 hB2 hA2)|(with_reducible refine aH (d:=some 3) ?_;intro V4 g3 hE3 hB3 hA3)|(with_reducible refine aR (d:=some 4) ?_;intro V6 g4 hE4 hB4 hA4)|(with_reducible refine aG (uu:=6) ?_;intro V8 g6 hE6 hB6 hA6)|(with_reducible refine aB ?_;rintro _ Vo ⟨gf,gt,Ae,ce,Ac,cc,Ap,cp,Ag,cg,tkn,rfl,(_:BlkC _ _ _ _),(_:RowC _ _ _ _ _ _ _),(_:RowC _ _ _ _ _ _ _),(_:RowC _ _ _ _ _ _ _),(_:RowC _ _ _ _ _ _ _),(_:MapC _ _ _ _),hTk,hagf,hagt,(_:StepC _ _)⟩)|(with_reducible refine aB ?_;rintro _ V2 ⟨q1,q2,rfl,hq1,hq2,hqa1,hqa2,hE2⟩)|(first|(with_reducible refine aA ?_)))
  have hX0:Ext w V2:=ExtC.h;clear hTk;refine eE (xs:=ofL 0 (sortE p.events)) rfl enters_of1 (lI q1 q2 gf 0 Ae ce (sortE p.events)) (fun _=>rfl) (fun A B h=>KeepsFrom.ofExt h) ?hSt (fun k W=>Ext w W∧BlkC W g6 115 [.pointer (some ⟨gf,0,none⟩)]∧BlkC W gf 121 [.slice A1 n1 c1,.slice A2 n2 c2,.slice A3 n3 c3,.int .i64 r.limit,.int .i64 r.fall,.int .i64 r.ban,.int .i64 p.born,.slice Ae (sortE p.events).length ce,.slice Ac (courts (sortE p.events)).length cc,.slice Ap (r.offs (sortE p.events)).bans.length cp,.map (some gt),.slice Ag (r.grants p.born (sortE p.events)).length cg]∧RowC W (.slice Ae (sortE p.events).length ce) V6 80 9 (sortE p.events).length (encL (sortE p.events))∧∃Ao co,BlkC W g4 62 [.slice Ao (pI (pairsTo (sortE p.events) k)).length co]∧RowC W (.slice Ao (pI (pairsTo (sortE p.events) k)).length co) w 124 2 (pI (pairsTo (sortE p.events) k)).length (encL (pI (pairsTo (sortE p.events) k)))) (fun _ _ _=>False) ?hI ?hIr ?hIx ?hIxr ?h0 ?hs0 ?hround ?hdone ?hstop
  case hSt=>exact cL fun k X Y hc h=>h.ctl hc
  case hI=>
   refine cL fun k X Y hc h=> ?_
   obtain⟨h1,h2,h3,h4,Ao,co,h5,h6⟩:=h;have j1:StepC w X:=⟨h1⟩;exact⟨ExtC.h,inferInstance,inferInstance,inferInstance,Ao,co,inferInstance,inferInstance⟩
  case hIr=>
   intro k X Y h hXY;obtain⟨h1,h2,h3,h4,Ao,co,h5,h6⟩:=h;have j1:StepC X Y:=⟨hXY⟩;exact⟨h1.trans hXY,inferInstance,inferInstance,inferInstance,Ao,co,inferInstance,inferInstance⟩
  case hIx=>exact fun _ _ _ _ _ h=>h.elim
  case hIxr=>exact fun _ _ _ _ h=>h.elim
  case h0=>exact⟨ExtC.h,inferInstance,inferInstance,inferInstance,none,0,inferInstance,RowC.nil⟩
  case hs0=>exact⟨hq1.h,hq2.h,fcell7,(inferInstance:RowC V2 (.slice Ae (sortE p.events).length ce) _ 80 9 _ _).list rfl rfl rfl⟩
  case hround=>
   intro lp k hk W hlp hI hS;obtain⟨h1,h2,h3,h4,Ao,co,h5,h6⟩:=hI;have j1:StepC w W:=⟨h1⟩;have jp:BlkC W q1 115 [.pointer (some ⟨gf,0,none⟩)]:=⟨hS.p⟩;have jk:BlkC W q2 3 [.int .i64 0]:=⟨hS.k⟩;have hps:=mA (sortE p.events) hk;have hpl:=jV (sortE p.events) k;obtain⟨pp,hpp⟩:∃x,pairsTo (sortE p.events) k=x:=⟨_,rfl⟩;rw[hpp] at hps hpl h5 h6;have hpl2:pp.length≤900:=Nat.le_trans hpl (Nat.le_trans (Nat.mul_le_mul (show k≤30 by omega) (show(ofL 0 (sortE p.events)).length≤30 by omega)) (by decide))
   obtain⟨⟨i,x⟩,hx⟩:∃x,(ofL 0 (sortE p.events))[k]=x:=⟨_,rfl⟩;rw[hx] at hps;have hmx:x∈(sortE p.events)∧x.kind=0:=by
    have hm:(ofL 0 (sortE p.events))[k].2∈(ofL 0 (sortE p.events)).map Prod.snd:=List.mem_map.2 ⟨_,List.getElem_mem hk,rfl⟩;rw[dK,hx] at hm;have h2:=List.mem_filter.1 hm;exact⟨h2.1,of_decide_eq_true h2.2⟩
   have Hps:=Lib.hid hps;have Hmx:=Lib.hid hmx;rw[hx];obtain⟨xk,xd,⟨xc,xo⟩,xt,xq,xp,xu,xm⟩:=x;show Code.wpIn _ _ _ _ _ (roundAct #[22,23] #[_,_] _) _
   rw[rAct2];simp only[Enc.val,List.setIfInBounds_toArray,List.set_cons_zero,List.set_cons_succ];clear hx hps hmx hpp hpl hS h1;refine wpIn_seq ?_;refine aK (by rintro⟨_,_,h⟩;exact h) (by kernel_rfl) ?_
   go_wp2_with (first|(with_reducible refine aG (uu:=7) ?_;intro V10 g7 hE7 hB7 hA7))
   refine aK (by rintro⟨_,_,h⟩;exact h) (by kernel_rfl) ?_
   go_wp2_with (first|(with_reducible refine aG (uu:=8) ?_;intro V11 g8 hE8 hB8 hA8))
   refine⟨ExtC.h,fun V12 hc12=> ?_⟩
   intro lr hlr;refine wpIn_block ?_;refine wpIn_seq ?_;refine aK (by rintro⟨_,_,h⟩;exact h) (by kernel_rfl) ?_
   go_wp2_with (first|(with_reducible refine aB ?_;rintro _ V13 ⟨q3,q4,rfl,hq3,hq4,hqa3,hqa4,hE13⟩)|(first|(with_reducible refine aA ?_)))
   (try refine wpIn_block ?_)
   have hlr2:V13.heap[lp]? =some (.loop lr):=hE13.h.heap_some hlr;have hE12:Ext w V12:=ExtC.h;refine nV (xs:=ofL 0 (sortE p.events)) hlr2 rfl enters_of1 (lI q3 q4 gf 0 Ae ce (sortE p.events)) (fun _=>rfl) (fun A B h=>KeepsFrom.ofExt h) ?iSt (fun j W=>Ext w W∧BlkC W g6 115 [.pointer (some ⟨gf,0,none⟩)]∧BlkC W gf 121 [.slice A1 n1 c1,.slice A2 n2 c2,.slice A3 n3 c3,.int .i64 r.limit,.int .i64 r.fall,.int .i64 r.ban,.int .i64 p.born,.slice Ae (sortE p.events).length ce,.slice Ac (courts (sortE p.events)).length cc,.slice Ap (r.offs (sortE p.events)).bans.length cp,.map (some gt),.slice Ag (r.grants p.born (sortE p.events)).length cg]∧RowC W (.slice Ae (sortE p.events).length ce) V6 80 9 (sortE p.events).length (encL (sortE p.events))∧BlkC W g7 3 [.int .i64 i]∧BlkC W g8 80 [.int .i64 xk,.int .i64 xd,.int .i64 xc,.int .i64 xo,.int .i64 xt,.int .i64 xq,.int .i64 xp,.int .i64 xu,.int .i64 xm]∧BlkC W q1 115 [.pointer (some ⟨gf,0,none⟩)]∧BlkC W q2 3 [.int .i64 0]∧KeepsFrom V2.heap.size V12 W∧∃Ao co,BlkC W g4 62 [.slice Ao (pI (pp++pairsIn (sortE p.events) (i,⟨xk,xd,⟨xc,xo⟩,xt,xq,xp,xu,xm⟩) j)).length co]∧RowC W (.slice Ao (pI (pp++pairsIn (sortE p.events) (i,⟨xk,xd,⟨xc,xo⟩,xt,xq,xp,xu,xm⟩) j)).length co) w 124 2 (pI (pp++pairsIn (sortE p.events) (i,⟨xk,xd,⟨xc,xo⟩,xt,xq,xp,xu,xm⟩) j)).length (encL (pI (pp++pairsIn (sortE p.events) (i,⟨xk,xd,⟨xc,xo⟩,xt,xq,xp,xu,xm⟩) j)))) (fun _ _ _=>False) ?iI ?iIr ?iIx ?iIxr ?i0 ?is0 ?iround ?idone ?istop
   case iSt=>exact cL fun k X Y hc h=>h.ctl hc
   case iI=>
    refine cL fun k X Y hc h=> ?_
    obtain⟨h1,h2,h3,h4,h5,h6,h7,h8,h9,Ao,co,h10,h11⟩:=h;have j1:StepC w X:=⟨h1⟩;exact⟨ExtC.h,inferInstance,inferInstance,inferInstance,inferInstance,inferInstance,inferInstance,inferInstance,nQ hc h9 hE13.h.size,Ao,co,inferInstance,inferInstance⟩
   case iIr=>
    intro k X Y h hXY;obtain⟨h1,h2,h3,h4,h5,h6,h7,h8,h9,Ao,co,h10,h11⟩:=h;have j1:StepC X Y:=⟨hXY⟩;exact⟨h1.trans hXY,inferInstance,inferInstance,inferInstance,inferInstance,inferInstance,inferInstance,inferInstance,h9.trans (KeepsFrom.ofExt hXY),Ao,co,inferInstance,inferInstance⟩
   case iIx=>exact fun _ _ _ _ _ h=>h.elim
   case iIxr=>exact fun _ _ _ _ h=>h.elim
   case i0=>exact⟨ExtC.h,inferInstance,inferInstance,inferInstance,inferInstance,inferInstance,inferInstance,inferInstance,KfC.h,Ao,co,by rw[mB,List.append_nil];infer_instance,by rw[mB,List.append_nil];infer_instance⟩
   case is0=>exact⟨hq3.h,hq4.h,fcell7,(inferInstance:RowC V13 (.slice Ae (sortE p.events).length ce) _ 80 9 _ _).list rfl rfl rfl⟩
   case iround=>
    intro lq j hj W2 hlq hI hS;obtain⟨h1,h2,h3,h4,h5,h6,h7,h8,h9,Ao2,co2,h10,h11⟩:=hI;have j1:StepC w W2:=⟨h1⟩;have j9:KfC V2.heap.size V12 W2:=⟨h9⟩;have jp3:BlkC W2 q3 115 [.pointer (some ⟨gf,0,none⟩)]:=⟨hS.p⟩;have jk4:BlkC W2 q4 3 [.int .i64 0]:=⟨hS.k⟩;have hsu:=tY (sortE p.events) (i,⟨xk,xd,⟨xc,xo⟩,xt,xq,xp,xu,xm⟩) hj;have hpl:=oE (sortE p.events) (i,⟨xk,xd,⟨xc,xo⟩,xt,xq,xp,xu,xm⟩) j;obtain⟨pj,hpj⟩:∃x,pairsIn (sortE p.events) (i,⟨xk,xd,⟨xc,xo⟩,xt,xq,xp,xu,xm⟩) j=x:=⟨_,rfl⟩;rw[hpj] at hsu hpl h10 h11;obtain⟨⟨i2,y⟩,hx2⟩:∃x,(ofL 0 (sortE p.events))[j]=x:=⟨_,rfl⟩;rw[hx2] at hsu;have hmy:y∈(sortE p.events)∧y.kind=0:=by
     have hm:(ofL 0 (sortE p.events))[j].2∈(ofL 0 (sortE p.events)).map Prod.snd:=List.mem_map.2 ⟨_,List.getElem_mem hj,rfl⟩;rw[dK,hx2] at hm;have h2:=List.mem_filter.1 hm;exact⟨h2.1,of_decide_eq_true h2.2⟩
    have hxm:=wJ (Hev.out _ Hmx.out.1) Hmx.out.2;have hym:=wJ (Hev.out _ hmy.1) hmy.2;rw[hx2];obtain⟨yk,yd,⟨yc,yo⟩,yt,yq,yp,yu,ym⟩:=y;simp only at hxm hym;obtain⟨b1,hb1⟩:∃b,decide (i<i2)=b:=⟨_,rfl⟩;obtain⟨b2,hb2⟩:∃b,decide (xd=yd)=b:=⟨_,rfl⟩;obtain⟨b3,hb3⟩:∃b,inB (xm-ym) (-59) 59=b:=⟨_,rfl⟩;have hpq:pairQ (i,⟨xk,xd,⟨xc,xo⟩,xt,xq,xp,xu,xm⟩) (i2,⟨yk,yd,⟨yc,yo⟩,yt,yq,yp,yu,ym⟩)=(b1&&(b2&&b3)):=by unfold pairQ;simp only;rw[hb1,hb2,hb3]
    rw[hpq] at hsu;have hb2':(xd==yd)=b2:=hb2;have hb3':outB (-59) 59 [xm-ym]= !b3:=by rw[bL,hb3]
    have w0:IntKind.i64.wrap (xm-ym)=xm-ym:=IntWalk.i64_in _ (by omega)
    have hl1:(pI (pp++pj)).length≤1000:=by rw[Jd,List.length_append];omega
    show Code.wpIn _ _ _ _ _ (roundAct #[26,27] #[_,_] _) _
    rw[rAct2];simp only[Enc.val,List.setIfInBounds_toArray,List.set_cons_zero,List.set_cons_succ];have Hsu:=Lib.hid hsu;clear hx2 hmy hpq hb2 hb3 hsu hpj hS h1 hxm hym;refine wpIn_seq ?_;refine aK (by rintro⟨_,_,h⟩;exact h) (by kernel_rfl) ?_
    go_wp2
    refine aK (by rintro⟨_,_,h⟩;exact h) (by kernel_rfl) ?_
    go_wp2_with (first|(with_reducible refine aG (uu:=10) ?_;intro V15 g10 hE10 hB10 hA10))
    refine⟨ExtC.h,fun V16 hc16=> ?_⟩
    intros
    refine wpIn_block ?_;refine wpIn_seq ?_
    cases b1
    ·skip
     refine aK (by rintro⟨_,_,h⟩;exact h) (by kernel_rfl) ?_
     go_wp2_with (first|(first|go_skip|(with_reducible refine aA ?_)))
     (try gi_wp2)
     (try simp only[Exit.inBlock])
     refine⟨KfC.h,⟨ExtC.h,inferInstance,inferInstance,inferInstance,inferInstance,inferInstance,inferInstance,inferInstance,KfC.h,Ao2,co2,?_,?_⟩,⟨(inferInstance:BlkC _ q3 115 _).h,(inferInstance:BlkC _ q4 3 _).h,fcell7,(inferInstance:RowC _ (.slice Ae (sortE p.events).length ce) V6 80 9 _ _).list rfl rfl rfl⟩⟩
     ·have e:=Hsu.out;simp only[Bool.false_and,Bool.true_and,Bool.and_false,Bool.false_eq_true,if_false,List.append_nil] at e;rw[e];infer_instance
     ·have e:=Hsu.out;simp only[Bool.false_and,Bool.true_and,Bool.and_false,Bool.false_eq_true,if_false,List.append_nil] at e;rw[e];infer_instance
    ·cases b2
     ·skip
      refine aK (by rintro⟨_,_,h⟩;exact h) (by kernel_rfl) ?_
      go_wp2_with (first|(first|go_skip|(with_reducible refine aA ?_)|(with_reducible refine bA ?_)))
      (try gi_wp2)
      (try simp only[Exit.inBlock])
      refine⟨KfC.h,⟨ExtC.h,inferInstance,inferInstance,inferInstance,inferInstance,inferInstance,inferInstance,inferInstance,KfC.h,Ao2,co2,?_,?_⟩,⟨(inferInstance:BlkC _ q3 115 _).h,(inferInstance:BlkC _ q4 3 _).h,fcell7,(inferInstance:RowC _ (.slice Ae (sortE p.events).length ce) V6 80 9 _ _).list rfl rfl rfl⟩⟩
      ·have e:=Hsu.out;simp only[Bool.false_and,Bool.true_and,Bool.and_false,Bool.false_eq_true,if_false,List.append_nil] at e;rw[e];infer_instance
      ·have e:=Hsu.out;simp only[Bool.false_and,Bool.true_and,Bool.and_false,Bool.false_eq_true,if_false,List.append_nil] at e;rw[e];infer_instance
     ·cases b3
      ·skip
       refine aK (by rintro⟨_,_,h⟩;exact h) (by kernel_rfl) ?_
       go_wp2_with (first|(first|(with_reducible refine aA ?_)|(with_reducible refine bA ?_)|(with_reducible refine bH ?_)|(with_reducible refine aB ?_;first|rintro _ V ⟨rfl,(_:StepC _ _)⟩)|(with_reducible refine aD ?_;intro V g _ _ _)))
       (try gi_wp2)
       (try simp only[Exit.inBlock])
       refine⟨KfC.h,⟨ExtC.h,inferInstance,inferInstance,inferInstance,inferInstance,inferInstance,inferInstance,inferInstance,KfC.h,Ao2,co2,?_,?_⟩,⟨(inferInstance:BlkC _ q3 115 _).h,(inferInstance:BlkC _ q4 3 _).h,fcell7,(inferInstance:RowC _ (.slice Ae (sortE p.events).length ce) V6 80 9 _ _).list rfl rfl rfl⟩⟩
       ·have e:=Hsu.out;simp only[Bool.false_and,Bool.true_and,Bool.and_false,Bool.false_eq_true,if_false,List.append_nil] at e;rw[e];infer_instance
       ·have e:=Hsu.out;simp only[Bool.false_and,Bool.true_and,Bool.and_false,Bool.false_eq_true,if_false,List.append_nil] at e;rw[e];infer_instance
      ·skip
       refine aK (by rintro⟨_,_,h⟩;exact h) (by kernel_rfl) ?_
       go_wp2_with (first|(first|(with_reducible refine aA ?_)|(with_reducible refine bA ?_)|(with_reducible refine bH ?_)|(with_reducible refine aB ?_;first|rintro _ V ⟨rfl,(_:StepC _ _)⟩)|(with_reducible refine aD ?_;intro V g _ _ _)))
       refine wpIn_cond_true (by rfl) ?_
       refine aK (by rintro⟨_,_,h⟩;exact h) (by kernel_rfl) ?_
       go_wp2_with (first|(with_reducible refine aI ?_;intro Vs hS hSB)|(first|(with_reducible refine aA ?_)|(with_reducible refine aD ?_;intro V g _ _ _)|(with_reducible refine bR ?_;intro _ _ V hR _)))
       (try simp only[Exit.inBlock])
       have hsn:pI (pp++pairsIn (sortE p.events) (i,⟨xk,xd,⟨xc,xo⟩,xt,xq,xp,xu,xm⟩) (j+1))=pI (pp++pj)++ [((i:Int),(i2:Int))]:=by rw[Hsu.out];simp[pI]
       have key:∃A8 c8,BlkC Vs g4 62 [.slice A8 (pI (pp++pairsIn (sortE p.events) (i,⟨xk,xd,⟨xc,xo⟩,xt,xq,xp,xu,xm⟩) (j+1))).length c8]∧RowC Vs (.slice A8 (pI (pp++pairsIn (sortE p.events) (i,⟨xk,xd,⟨xc,xo⟩,xt,xq,xp,xu,xm⟩) (j+1))).length c8) w 124 2 (pI (pp++pairsIn (sortE p.events) (i,⟨xk,xd,⟨xc,xo⟩,xt,xq,xp,xu,xm⟩) (j+1))).length (encL (pI (pp++pairsIn (sortE p.events) (i,⟨xk,xd,⟨xc,xo⟩,xt,xq,xp,xu,xm⟩) (j+1)))):=by
        rw[hsn,Walk.encL_snoc,List.length_append];exact⟨_,_,hSB,inferInstance⟩
       obtain⟨A8,c8,hb9,h8⟩:=key;refine⟨KfC.h,⟨ExtC.h,inferInstance,inferInstance,inferInstance,inferInstance,inferInstance,inferInstance,inferInstance,KfC.h,A8,c8,hb9,h8⟩,⟨(inferInstance:BlkC _ q3 115 _).h,(inferInstance:BlkC _ q4 3 _).h,fcell7,(inferInstance:RowC _ (.slice Ae (sortE p.events).length ce) V6 80 9 _ _).list rfl rfl rfl⟩⟩
   case idone=>
    intro W2 hI;obtain⟨h1,h2,h3,h4,h5,h6,h7,h8,h9,Ao2,co2,h10,h11⟩:=hI;rw[←Hps.out] at h10 h11;exact⟨h9,⟨h1,h2,h3,h4,Ao2,co2,h10,h11⟩,⟨h7.h,h8.h,fcell7,h4.list rfl rfl rfl⟩⟩
   case istop=>exact fun _ _ _ _ h=>h.elim
  case hdone=>
   intro D W hD hI hkD;obtain⟨h1,h2,h3,h4,Ao,co,h5,h6⟩:=hI;have j1:StepC w W:=⟨h1⟩;have jD:MarkC W D:=⟨hkD⟩;rw[Hall.out] at h5 h6;clear h1 hkD;go_wp2_with (first|(with_reducible refine aI ?_;intro Vs hS hSB)|(first|(with_reducible refine aA ?_)))
   have jE:MarkC Vs D:=inferInstance;have j9:CtlC Vs (Vs.putObj D (.deferred none)) w:=gI jE.h (Nat.le_trans hX0.size hD);refine iW rfl jE.h ?_;exact bM rfl rfl (by with_unfolding_all rfl) ⟨Ao,co,rfl,⟨(inferInstance:RowC _ (.slice Ao (pI (Rules.pairsL (sortE p.events))).length co) w 124 2 _ _).list rfl rfl rfl⟩,⟨ExtC.h⟩⟩
  case hstop=>exact fun _ _ _ _ _ _ h=>h.elim
 ·rw[if_pos hz] at hs;injection hs with m1 m2
  subst m1 m2;have i3:PersBad r p _:=⟨rfl,hz⟩;have q:(r.personErr p !=0)=true:=by simpa using hz
  obtain⟨er,her⟩:∃e,r.personErr p=e:=⟨_,rfl⟩;rw[her] at i3 q⊢;clear hz her;refine dC Tryz.func35 rfl ?_;simp only[Tryz.ntmps35,List.size_toArray,List.length_cons,List.length_nil,Nat.reduceAdd,Nat.reduceSub,Array.replicate_succ,Array.replicate_zero,List.push_toArray,List.append_toArray,List.nil_append,List.cons_append];go_wp2_with (first|(with_reducible refine aH (d:=some 2) ?_;intro V3 g2 hE2 hB2 hA2)|(with_reducible refine aH (d:=some 3) ?_;intro V4 g3 hE3 hB3 hA3)|(with_reducible refine aR (d:=some 4) ?_;intro V6 g4 hE4 hB4 hA4)|(with_reducible refine aG (uu:=6) ?_;intro V8 g6 hE6 hB6 hA6)|(with_reducible refine aI ?_;intro Vs hS hSB)|(first|(with_reducible refine aA ?_)|(with_reducible refine aB ?_;first|rintro _ V ⟨rfl,(_:StepC _ _)⟩)))
  exact lH (bM rfl rfl (by with_unfolding_all rfl) ⟨none,0,rfl,⟨ListV.nil⟩,⟨ExtC.h⟩⟩)
end Go.Rg
end
section
namespace Go.Proofs
open Go.Shelf
def Tryz.lays169_ren:Go.Shelf.Ren:=⟨fun|169=>137|n=>n,fun|70=>212|9=>9|0=>0|72=>214|37=>78|127=>269|3=>3|5=>5|n=>n,fun|n=>n⟩
theorem Tryz.lays169:Go.Proofs.Lays.n169 Tryz.prog Tryz.lays169_ren:={
 mixed:=by kernel_rfl
 f169:=Tryz.func137.trans (congrArg some (by kernel_rfl))
 t0:=Tryz.underlying0
 a0:=Tryz.isAgg0
 z0:=Tryz.sizeOf0
 v0:=Tryz.zeroValue0
 t3:=Tryz.underlying3
 a3:=Tryz.isAgg3
 z3:=Tryz.sizeOf3
 v3:=Tryz.zeroValue3
 t9:=Tryz.underlying9
 a9:=Tryz.isAgg9
 z9:=Tryz.sizeOf9
 v9:=Tryz.zeroValue9
 t37:=Tryz.underlying78
 a37:=Tryz.isAgg78
 z37:=Tryz.sizeOf78
 v37:=Tryz.zeroValue78
 t70:=Tryz.underlying212
 a70:=Tryz.isAgg212
 z70:=Tryz.sizeOf212
 v70:=Tryz.zeroValue212
 t72:=Tryz.underlying214
 a72:=Tryz.isAgg214
 z72:=Tryz.sizeOf214
 v72:=Tryz.zeroValue214
 t127:=Tryz.underlying269
 a127:=Tryz.isAgg269
 z127:=Tryz.sizeOf269
 v127:=Tryz.zeroValue269}
theorem Tryz.Builder_Extra_169:Builder.Extra Tryz.prog Tryz.lays169_ren:={
 sizeBuilder:=by kernel_rfl
 liesBuilder:=by kernel_rfl
 t5:=Tryz.underlying5
 a5:=Tryz.isAgg5
 z5:=Tryz.sizeOf5
 v5:=Tryz.zeroValue5
 infoByte:=by kernel_rfl
 cellsByte:=by kernel_rfl
 sizeByte:=by kernel_rfl
 neB5:=by decide}
open Go.RowKit in
theorem Tryz.Builder_String_any(B b:Nat)(l:List UInt8)(w:World)(h:Lib.IsBuilder 214 5 B b (Lib.byteCells l) w)(hBw:B≤w.heap.size):
 Calls Tryz.prog 137 #[.pointer (some ⟨b,0,none⟩)] w fun e w'=>e=.returned (.string ⟨l.toArray⟩)∧Below B w w':=Any.Builder_String_any Tryz.lays169 Tryz.Builder_Extra_169 B b l w h hBw
def Tryz.lays156_ren:Go.Shelf.Ren:=⟨fun|156=>205|165=>260|166=>134|169=>137|240=>201|241=>286|276=>257|277=>320|n=>n,fun|31=>23|9=>9|3=>3|4=>4|0=>0|20=>20|72=>214|76=>217|70=>212|37=>78|75=>216|127=>269|164=>310|5=>5|80=>150|n=>n,fun|n=>n⟩
theorem Tryz.lays156:Go.Proofs.Lays.n156 Tryz.prog Tryz.lays156_ren:={
 mixed:=by kernel_rfl
 f156:=Tryz.func205.trans (congrArg some (by kernel_rfl))
 f165:=Tryz.func260.trans (congrArg some (by kernel_rfl))
 f166:=Tryz.func134.trans (congrArg some (by kernel_rfl))
 f169:=Tryz.func137.trans (congrArg some (by kernel_rfl))
 f240:=Tryz.func201.trans (congrArg some (by kernel_rfl))
 f241:=Tryz.func286.trans (congrArg some (by kernel_rfl))
 f276:=Tryz.func257.trans (congrArg some (by kernel_rfl))
 f277:=Tryz.func320.trans (congrArg some (by kernel_rfl))
 t0:=Tryz.underlying0
 a0:=Tryz.isAgg0
 z0:=Tryz.sizeOf0
 v0:=Tryz.zeroValue0
 t3:=Tryz.underlying3
 a3:=Tryz.isAgg3
 z3:=Tryz.sizeOf3
 v3:=Tryz.zeroValue3
 t4:=Tryz.underlying4
 a4:=Tryz.isAgg4
 z4:=Tryz.sizeOf4
 v4:=Tryz.zeroValue4
 t9:=Tryz.underlying9
 a9:=Tryz.isAgg9
 z9:=Tryz.sizeOf9
 v9:=Tryz.zeroValue9
 t20:=Tryz.underlying20
 a20:=Tryz.isAgg20
 z20:=Tryz.sizeOf20
 v20:=Tryz.zeroValue20
 t31:=Tryz.underlying23
 a31:=Tryz.isAgg23
 z31:=Tryz.sizeOf23
 v31:=Tryz.zeroValue23
 t37:=Tryz.underlying78
 a37:=Tryz.isAgg78
 z37:=Tryz.sizeOf78
 v37:=Tryz.zeroValue78
 t70:=Tryz.underlying212
 a70:=Tryz.isAgg212
 z70:=Tryz.sizeOf212
 v70:=Tryz.zeroValue212
 t72:=Tryz.underlying214
 a72:=Tryz.isAgg214
 z72:=Tryz.sizeOf214
 v72:=Tryz.zeroValue214
 t75:=Tryz.underlying216
 a75:=Tryz.isAgg216
 z75:=Tryz.sizeOf216
 v75:=Tryz.zeroValue216
 t76:=Tryz.underlying217
 a76:=Tryz.isAgg217
 z76:=Tryz.sizeOf217
 v76:=Tryz.zeroValue217
 t127:=Tryz.underlying269
 a127:=Tryz.isAgg269
 z127:=Tryz.sizeOf269
 v127:=Tryz.zeroValue269
 t164:=Tryz.underlying310
 a164:=Tryz.isAgg310
 z164:=Tryz.sizeOf310
 v164:=Tryz.zeroValue310}
theorem Tryz.Builder_Extra_156:Builder.Extra Tryz.prog Tryz.lays156_ren:={
 sizeBuilder:=by kernel_rfl
 liesBuilder:=by kernel_rfl
 t5:=Tryz.underlying5
 a5:=Tryz.isAgg5
 z5:=Tryz.sizeOf5
 v5:=Tryz.zeroValue5
 infoByte:=by kernel_rfl
 cellsByte:=by kernel_rfl
 sizeByte:=by kernel_rfl
 neB5:=by decide}
open Go.RowKit in
theorem Tryz.strings_Join_none(a:Option Addr)(c:Nat)(sep:ByteArray)(w:World):
 Calls Tryz.prog 205 #[.slice a 0 c,.string sep] w fun e w'=>e=.returned (.string ⟨#[]⟩)∧w'=w:=Any.strings_Join_none Tryz.lays156 Tryz.Builder_Extra_156 a c sep w
open Go.RowKit in
theorem Tryz.strings_Join(bk o c:Nat)(xs:List ByteArray)(sep:ByteArray)(w:World)(hcells:∀(j:Nat)x,xs[j]? =some x→w.cell? ⟨bk,o+j,none⟩=some (.string x))(hbk:bk<w.heap.size)(hN:xs.length≤140737488355328)(hcap:xs.length≤c)(hlen:(Lib.join (xs.map (·.data.toList)) sep.data.toList).length≤140737488355328):
 Calls Tryz.prog 205 #[.slice (some ⟨bk,o,none⟩) xs.length c,.string sep] w fun e w'=>e=.returned (.string ⟨(Lib.join (xs.map (·.data.toList)) sep.data.toList).toArray⟩)∧Below w.heap.size w w':=Any.strings_Join Tryz.lays156 Tryz.Builder_Extra_156 bk o c xs sep w hcells hbk hN hcap hlen
def Tryz.lays103_ren:Go.Shelf.Ren:=⟨fun|103=>84|210=>141|206=>210|n=>n,fun|9=>9|4=>4|24=>154|3=>3|n=>n,fun|n=>n⟩
theorem Tryz.lays103:Go.Proofs.Lays.n103 Tryz.prog Tryz.lays103_ren:={
 mixed:=by kernel_rfl
 f103:=Tryz.func84.trans (congrArg some (by kernel_rfl))
 f206:=Tryz.func210.trans (congrArg some (by kernel_rfl))
 f210:=Tryz.func141.trans (congrArg some (by kernel_rfl))
 t3:=Tryz.underlying3
 a3:=Tryz.isAgg3
 z3:=Tryz.sizeOf3
 v3:=Tryz.zeroValue3
 t4:=Tryz.underlying4
 a4:=Tryz.isAgg4
 z4:=Tryz.sizeOf4
 v4:=Tryz.zeroValue4
 t9:=Tryz.underlying9
 a9:=Tryz.isAgg9
 z9:=Tryz.sizeOf9
 v9:=Tryz.zeroValue9
 t24:=Tryz.underlying154
 a24:=Tryz.isAgg154
 z24:=Tryz.sizeOf154
 v24:=Tryz.zeroValue154}
open Go.RowKit in
theorem Tryz.strings_CutPrefix(s p:ByteArray)(w:World):
 Calls Tryz.prog 84 #[.string s,.string p] w fun e w'=>e=.returned (.tuple #[.string ⟨(Lib.trimPrefix s.data.toList p.data.toList).toArray⟩,.bool (Lib.hasPrefix s.data.toList p.data.toList)])∧w'=w:=Any.strings_CutPrefix Tryz.lays103 s p w
def Tryz.laysM171_ren:Go.Shelf.Ren:=⟨fun|171=>204|243=>259|246=>285|283=>316|284=>317|285=>318|286=>319|129=>193|317=>330|318=>331|319=>332|320=>333|337=>338|338=>339|n=>n,fun|3=>3|9=>9|2=>2|4=>4|171=>354|0=>0|53=>257|37=>78|5=>5|173=>356|212=>374|51=>255|20=>20|213=>375|46=>207|232=>382|233=>383|n=>n,fun|17=>5|18=>6|19=>7|n=>n⟩
theorem Tryz.laysM171:Go.Proofs.LaysM.n171 Tryz.prog Tryz.laysM171_ren:={
 mixed:=by kernel_rfl
 f129:=Tryz.func193.trans (congrArg some (by kernel_rfl))
 f171:=Tryz.func204.trans (congrArg some (by kernel_rfl))
 f243:=Tryz.func259.trans (congrArg some (by kernel_rfl))
 f246:=Tryz.func285.trans (congrArg some (by kernel_rfl))
 f283:=Tryz.func316.trans (congrArg some (by kernel_rfl))
 f284:=Tryz.func317.trans (congrArg some (by kernel_rfl))
 f285:=Tryz.func318.trans (congrArg some (by kernel_rfl))
 f286:=Tryz.func319.trans (congrArg some (by kernel_rfl))
 f317:=Tryz.func330.trans (congrArg some (by kernel_rfl))
 f318:=Tryz.func331.trans (congrArg some (by kernel_rfl))
 f319:=Tryz.func332.trans (congrArg some (by kernel_rfl))
 f320:=Tryz.func333.trans (congrArg some (by kernel_rfl))
 f337:=Tryz.func338.trans (congrArg some (by kernel_rfl))
 f338:=Tryz.func339.trans (congrArg some (by kernel_rfl))
 t0:=Tryz.underlying0
 a0:=Tryz.isAgg0
 z0:=Tryz.sizeOf0
 v0:=Tryz.zeroValue0
 t2:=Tryz.underlying2
 a2:=Tryz.isAgg2
 z2:=Tryz.sizeOf2
 v2:=Tryz.zeroValue2
 t3:=Tryz.underlying3
 a3:=Tryz.isAgg3
 z3:=Tryz.sizeOf3
 v3:=Tryz.zeroValue3
 t4:=Tryz.underlying4
 a4:=Tryz.isAgg4
 z4:=Tryz.sizeOf4
 v4:=Tryz.zeroValue4
 t5:=Tryz.underlying5
 a5:=Tryz.isAgg5
 z5:=Tryz.sizeOf5
 v5:=Tryz.zeroValue5
 t9:=Tryz.underlying9
 a9:=Tryz.isAgg9
 z9:=Tryz.sizeOf9
 v9:=Tryz.zeroValue9
 t20:=Tryz.underlying20
 a20:=Tryz.isAgg20
 z20:=Tryz.sizeOf20
 v20:=Tryz.zeroValue20
 t37:=Tryz.underlying78
 a37:=Tryz.isAgg78
 z37:=Tryz.sizeOf78
 v37:=Tryz.zeroValue78
 t46:=Tryz.underlying207
 a46:=Tryz.isAgg207
 z46:=Tryz.sizeOf207
 v46:=Tryz.zeroValue207
 t51:=Tryz.underlying255
 a51:=Tryz.isAgg255
 z51:=Tryz.sizeOf255
 v51:=Tryz.zeroValue255
 t53:=Tryz.underlying257
 a53:=Tryz.isAgg257
 z53:=Tryz.sizeOf257
 v53:=Tryz.zeroValue257
 t171:=Tryz.underlying354
 a171:=Tryz.isAgg354
 z171:=Tryz.sizeOf354
 v171:=Tryz.zeroValue354
 t173:=Tryz.underlying356
 a173:=Tryz.isAgg356
 z173:=Tryz.sizeOf356
 v173:=Tryz.zeroValue356
 t212:=Tryz.underlying374
 a212:=Tryz.isAgg374
 z212:=Tryz.sizeOf374
 v212:=Tryz.zeroValue374
 t213:=Tryz.underlying375
 a213:=Tryz.isAgg375
 z213:=Tryz.sizeOf375
 t232:=Tryz.underlying382
 a232:=Tryz.isAgg382
 z232:=Tryz.sizeOf382
 v232:=Tryz.zeroValue382
 t233:=Tryz.underlying383
 a233:=Tryz.isAgg383
 z233:=Tryz.sizeOf383
 v233:=Tryz.zeroValue383
 g17:=by kernel_rfl
 g18:=by kernel_rfl
 g19:=by kernel_rfl
 i0:=by kernel_rfl
 i2:=by kernel_rfl
 i3:=by kernel_rfl
 i4:=by kernel_rfl
 i5:=by kernel_rfl
 i9:=by kernel_rfl
 i20:=by kernel_rfl
 i37:=by kernel_rfl
 i46:=by kernel_rfl
 i51:=by kernel_rfl
 i53:=by kernel_rfl
 i171:=by kernel_rfl
 i173:=by kernel_rfl
 i212:=by kernel_rfl
 i232:=by kernel_rfl
 i233:=by kernel_rfl
 m17:=by kernel_rfl
 m18:=by kernel_rfl
 m19:=by kernel_rfl}
open Go.RowKit Go.Sort Go.Lib in
theorem Tryz.strconv_Itoa(n:Int)(h0: -9223372036854775808≤n)(h1:n≤9223372036854775807)(w:World)(htab:Lib.TabIs Tryz.prog w "internal/strconv.uint64pow10" .u64 Lib.pow10Tab):
 Calls Tryz.prog 204 #[.int .i64 n] w fun e w'=>e=.returned (.string ⟨(Lib.itoa n).toArray⟩)∧∃k os,w'=grow (w.drewN k) os:=Any.strconv_Itoa Tryz.laysM171 n h0 h1 w htab
open Go.RowKit in
open Go.RowKit in
open Go.RowKit in
def Tryz.lays145_ren:Go.Shelf.Ren:=⟨fun|145=>83|220=>140|219=>209|217=>261|225=>262|224=>263|267=>264|266=>287|314=>288|n=>n,fun|9=>9|4=>4|59=>152|3=>3|5=>5|46=>207|146=>332|51=>255|n=>n,fun|1=>0|n=>n⟩
theorem Tryz.lays145:Go.Proofs.Lays.n145 Tryz.prog Tryz.lays145_ren:={
 mixed:=by kernel_rfl
 f145:=Tryz.func83.trans (congrArg some (by kernel_rfl))
 f217:=Tryz.func261.trans (congrArg some (by kernel_rfl))
 f219:=Tryz.func209.trans (congrArg some (by kernel_rfl))
 f220:=Tryz.func140.trans (congrArg some (by kernel_rfl))
 f224:=Tryz.func263.trans (congrArg some (by kernel_rfl))
 f225:=Tryz.func262.trans (congrArg some (by kernel_rfl))
 f266:=Tryz.func287.trans (congrArg some (by kernel_rfl))
 f267:=Tryz.func264.trans (congrArg some (by kernel_rfl))
 f314:=Tryz.func288.trans (congrArg some (by kernel_rfl))
 t3:=Tryz.underlying3
 a3:=Tryz.isAgg3
 z3:=Tryz.sizeOf3
 v3:=Tryz.zeroValue3
 t4:=Tryz.underlying4
 a4:=Tryz.isAgg4
 z4:=Tryz.sizeOf4
 v4:=Tryz.zeroValue4
 t5:=Tryz.underlying5
 a5:=Tryz.isAgg5
 z5:=Tryz.sizeOf5
 v5:=Tryz.zeroValue5
 t9:=Tryz.underlying9
 a9:=Tryz.isAgg9
 z9:=Tryz.sizeOf9
 v9:=Tryz.zeroValue9
 t46:=Tryz.underlying207
 a46:=Tryz.isAgg207
 z46:=Tryz.sizeOf207
 v46:=Tryz.zeroValue207
 t51:=Tryz.underlying255
 a51:=Tryz.isAgg255
 z51:=Tryz.sizeOf255
 v51:=Tryz.zeroValue255
 t59:=Tryz.underlying152
 a59:=Tryz.isAgg152
 z59:=Tryz.sizeOf152
 v59:=Tryz.zeroValue152
 t146:=Tryz.underlying332
 a146:=Tryz.isAgg332
 z146:=Tryz.sizeOf332
 v146:=Tryz.zeroValue332
 g1:=by kernel_rfl}
open Go.RowKit Go.Lib in
theorem Tryz.strings_Cut(s sep:ByteArray)(m:Int)(w:World)(hs:s.size<4294967281)(hm:w.cell? ⟨0,0,none⟩=some (.int .i64 m)):
 Calls Tryz.prog 83 #[.string s,.string sep] w fun e w'=>e=.returned (.tuple #[.string ⟨(Lib.cut s.data.toList sep.data.toList).1.toArray⟩,.string ⟨(Lib.cut s.data.toList sep.data.toList).2.1.toArray⟩,.bool (Lib.cut s.data.toList sep.data.toList).2.2])∧∃n,w'=w.drewN n:=Any.strings_Cut Tryz.lays145 s sep m w hs hm
open Go.RowKit Go.Lib in
def Tryz.lays105_ren:Go.Shelf.Ren:=⟨fun|105=>258|212=>282|99=>283|165=>260|166=>134|170=>284|169=>137|263=>314|264=>315|206=>210|240=>201|241=>286|276=>257|277=>320|n=>n,fun|9=>9|3=>3|4=>4|20=>20|0=>0|46=>207|109=>329|5=>5|72=>214|76=>217|51=>255|146=>332|53=>257|148=>352|70=>212|37=>78|75=>216|127=>269|164=>310|80=>150|n=>n,fun|n=>n⟩
theorem Tryz.lays105:Go.Proofs.Lays.n105 Tryz.prog Tryz.lays105_ren:={
 mixed:=by kernel_rfl
 f99:=Tryz.func283.trans (congrArg some (by kernel_rfl))
 f105:=Tryz.func258.trans (congrArg some (by kernel_rfl))
 f165:=Tryz.func260.trans (congrArg some (by kernel_rfl))
 f166:=Tryz.func134.trans (congrArg some (by kernel_rfl))
 f169:=Tryz.func137.trans (congrArg some (by kernel_rfl))
 f170:=Tryz.func284.trans (congrArg some (by kernel_rfl))
 f206:=Tryz.func210.trans (congrArg some (by kernel_rfl))
 f212:=Tryz.func282.trans (congrArg some (by kernel_rfl))
 f240:=Tryz.func201.trans (congrArg some (by kernel_rfl))
 f241:=Tryz.func286.trans (congrArg some (by kernel_rfl))
 f263:=Tryz.func314.trans (congrArg some (by kernel_rfl))
 f264:=Tryz.func315.trans (congrArg some (by kernel_rfl))
 f276:=Tryz.func257.trans (congrArg some (by kernel_rfl))
 f277:=Tryz.func320.trans (congrArg some (by kernel_rfl))
 t0:=Tryz.underlying0
 a0:=Tryz.isAgg0
 z0:=Tryz.sizeOf0
 v0:=Tryz.zeroValue0
 t3:=Tryz.underlying3
 a3:=Tryz.isAgg3
 z3:=Tryz.sizeOf3
 v3:=Tryz.zeroValue3
 t4:=Tryz.underlying4
 a4:=Tryz.isAgg4
 z4:=Tryz.sizeOf4
 v4:=Tryz.zeroValue4
 t5:=Tryz.underlying5
 a5:=Tryz.isAgg5
 z5:=Tryz.sizeOf5
 v5:=Tryz.zeroValue5
 t9:=Tryz.underlying9
 a9:=Tryz.isAgg9
 z9:=Tryz.sizeOf9
 v9:=Tryz.zeroValue9
 t20:=Tryz.underlying20
 a20:=Tryz.isAgg20
 z20:=Tryz.sizeOf20
 v20:=Tryz.zeroValue20
 t37:=Tryz.underlying78
 a37:=Tryz.isAgg78
 z37:=Tryz.sizeOf78
 v37:=Tryz.zeroValue78
 t46:=Tryz.underlying207
 a46:=Tryz.isAgg207
 z46:=Tryz.sizeOf207
 v46:=Tryz.zeroValue207
 t51:=Tryz.underlying255
 a51:=Tryz.isAgg255
 z51:=Tryz.sizeOf255
 v51:=Tryz.zeroValue255
 t53:=Tryz.underlying257
 a53:=Tryz.isAgg257
 z53:=Tryz.sizeOf257
 v53:=Tryz.zeroValue257
 t70:=Tryz.underlying212
 a70:=Tryz.isAgg212
 z70:=Tryz.sizeOf212
 v70:=Tryz.zeroValue212
 t72:=Tryz.underlying214
 a72:=Tryz.isAgg214
 z72:=Tryz.sizeOf214
 v72:=Tryz.zeroValue214
 t75:=Tryz.underlying216
 a75:=Tryz.isAgg216
 z75:=Tryz.sizeOf216
 v75:=Tryz.zeroValue216
 t76:=Tryz.underlying217
 a76:=Tryz.isAgg217
 z76:=Tryz.sizeOf217
 v76:=Tryz.zeroValue217
 t109:=Tryz.underlying329
 a109:=Tryz.isAgg329
 z109:=Tryz.sizeOf329
 v109:=Tryz.zeroValue329
 t127:=Tryz.underlying269
 a127:=Tryz.isAgg269
 z127:=Tryz.sizeOf269
 v127:=Tryz.zeroValue269
 t146:=Tryz.underlying332
 a146:=Tryz.isAgg332
 z146:=Tryz.sizeOf332
 v146:=Tryz.zeroValue332
 t148:=Tryz.underlying352
 a148:=Tryz.isAgg352
 z148:=Tryz.sizeOf352
 v148:=Tryz.zeroValue352
 t164:=Tryz.underlying310
 a164:=Tryz.isAgg310
 z164:=Tryz.sizeOf310
 v164:=Tryz.zeroValue310}
theorem Tryz.Builder_Extra_105:Builder.Extra Tryz.prog Tryz.lays105_ren:={
 sizeBuilder:=by kernel_rfl
 liesBuilder:=by kernel_rfl
 t5:=Tryz.underlying5
 a5:=Tryz.isAgg5
 z5:=Tryz.sizeOf5
 v5:=Tryz.zeroValue5
 infoByte:=by kernel_rfl
 cellsByte:=by kernel_rfl
 sizeByte:=by kernel_rfl
 neB5:=by decide}
open Go.RowKit Go.Lib in
theorem Tryz.strings_Repeat(s:ByteArray)(c:Nat)(w:World)(hc:c≤9223372036854775807)(hlen:s.size*c≤140737488355328):
 Calls Tryz.prog 258 #[.string s,.int .i64 c] w fun e w'=>e=.returned (.string ⟨(Lib.repeatL s.data.toList c).toArray⟩)∧Below w.heap.size w w':=Any.strings_Repeat Tryz.lays105 Tryz.Builder_Extra_105 s c w hc hlen
end Go.Proofs
end
