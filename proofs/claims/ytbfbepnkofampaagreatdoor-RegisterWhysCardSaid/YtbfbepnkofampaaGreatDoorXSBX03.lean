import Derived.Test.YtbfbepnkofampaaGreatDoorXPX12
import Derived.Test.YtbfbepnkofampaaGreatDoorXPX18
import Derived.Test.YtbfbepnkofampaaGreatDoorXSB01
set_option maxRecDepth 100000
set_option synthInstance.maxSize 2000
set_option synthInstance.maxHeartbeats 400000
set_option maxHeartbeats 8000000
set_option linter.all false
section
namespace Go.Rg
open Go Go.Bp Go.RowKit Go.Walk Go.Proofs Go.ChangeShapes Go.WideShapes Go.ChangeAt
section
variable{H:Type}{enc:TypeId×Value→H}{w:World}{b0:Nat}
theorem cells57:Tryz.prog.cellsOf 57=3:=by kernel_rfl
theorem Lc{n:Nat}{cs:List Value}{x:DataW H×List MemPlace}(h:Tr enc w n 57 cs x):∃d:Drive,cs=Enc.enc d:=by
 obtain⟨xs,m,_,_,hl,hx,hE⟩:=DataW.trod_struct Tryz.underlying57 h;rw[cells57] at hl;have hx3:xs.length=3:=hx;have e0:DataW.trod enc Tryz.prog w 0 (fun _=>true) true m 3 ((cs.drop 0).take (Tryz.prog.cellsOf 3))=xs[0]? :=hE 0 _ rfl;rw[cells3,List.getElem?_eq_getElem (by omega)] at e0
 have e1:DataW.trod enc Tryz.prog w 0 (fun _=>true) true m 3 ((cs.drop 1).take (Tryz.prog.cellsOf 3))=xs[1]? :=hE 1 _ rfl;rw[cells3,List.getElem?_eq_getElem (by omega)] at e1
 have e2:DataW.trod enc Tryz.prog w 0 (fun _=>true) true m 3 ((cs.drop 2).take (Tryz.prog.cellsOf 3))=xs[2]? :=hE 2 _ rfl;rw[cells3,List.getElem?_eq_getElem (by omega)] at e2
 obtain⟨a,h0⟩:=cY e0;obtain⟨b,h1⟩:=cY e1;obtain⟨c,h2⟩:=cY e2;refine⟨⟨a,b,c⟩,?_⟩;have e:=chop 0 1 1 h0 rfl;rw[chop 1 1 2 h1 rfl,chop 2 1 3 h2 rfl,eN hl] at e;simpa [Enc.enc] using e
theorem Bo{v:Value}{d:DataW H}{p:List MemPlace}(hv:Value.okWide Tryz.prog w .any b0 53 v)(h:DataW.Trod enc Tryz.prog w 0 (fun _=>true) true 53 v d p):∃l:List Drive,ListV w v l:=by
 obtain⟨a,l,c,rfl⟩:=okWide_slice Tryz.underlying53 hv;obtain⟨fuel,h⟩:=h;obtain⟨A,c',xs,h1,h2,_⟩:=gD (α:=Drive) (fun _=>True) Tryz.underlying53 cells57 (fun n c1 y hy=>by obtain⟨k,hk⟩:=Lc hy;exact⟨k,hk,trivial⟩) h
 simp[Value.cells] at h1;obtain⟨rfl,rfl,rfl⟩:=h1;exact⟨xs,h2⟩
end
end Go.Rg
end
section
namespace Go.Rg
open Go Go.Bp Go.RowKit Go.Walk Go.Proofs
theorem Pw(l m:List (Nat×Nat)):pI (l++m)=pI l++pI m:=by unfold pI;rw[List.map_append]
class ImpE (r:Rules) (p:Person) (l:outParam (List (Nat×Nat))) (n:outParam Int):Prop where h:r.impostorsAns p=(l,n)
instance qRYq24{W:World}{v pv:Value}{r:Rules}{p:Person}{l:List (Nat×Nat)}{n:Int}[h:RulesC W v r][hp:PersonC W pv p][q:ImpE r p l n]:FunC Tryz.prog 35 #[v,pv] W (RLI W (pI l) n):=⟨lC r p v pv l n W h.h hp.h q.h⟩
end Go.Rg
end
section
namespace Go.Proofs.YtbfbepnkofampaaGreatDoor
open Go Go.Bp Go.Rg Go.Walk Go.RowKit Go.Proofs Go.ChangeShapes Go.WideShapes Go.ChangeAt
theorem ip5:(Rows.registerWhysRow.inPlace==Tryz.pinned.checked.prog.inPlace 5)=true:=by kernel_rfl
theorem uf5:(Rows.registerWhysRow.unfollowed==Tryz.pinned.checked.prog.unfollowed 5)=true:=by kernel_rfl
theorem rc5:(Rows.registerWhysRow.recurses==Tryz.pinned.checked.prog.recurses 5)=true:=by kernel_rfl
theorem nm5:(Rows.registerWhysRow.named==Tryz.pinned.checked.prog.varsNamed 5)=true:=by kernel_rfl
theorem wf5:Rows.registerWhysRow.wfByText (OpenSpec.ofChange Rows.registerWhysSpec)=true:=by kernel_rfl
theorem gs5:false=Rows.registerWhysRow.goesBy Tryz.pinned.checked.prog:=by kernel_rfl
theorem fm5:Tryz.prog.funcNamed Rows.registerWhysRow.func=some 5:=by kernel_rfl
theorem closed5:joinedFacts Tryz.pinned.checked.prog 5 Tryz.f5 Rows.registerWhysSpec Rows.registerWhysRow=true:=by
 unfold joinedFacts;rw[ip5,uf5,rc5,nm5,loP,mrP,meP,shP,show(Rows.registerWhysRow.lifted==Tryz.pinned.checked.prog.liftsFinal)=true from liP,show(Tryz.pinned.checked.prog.make==some Rows.registerWhysRow.make)=true from mkP]
 kernel_rfl
end Go.Proofs.YtbfbepnkofampaaGreatDoor
end
section
namespace Go.Rg
open Go Go.Bp Go.RowKit Go.Walk Go.Proofs
class RImpE (r:Rules) (p:Person) (l:outParam (List (Nat×Nat))) (n:outParam Int):Prop where h:r.impostorsAns p=(l,n)
theorem Ly(x y:Event)(a b:Int)(ha:x.minute-y.minute=a)(hb:y.minute-x.minute=b):Rules.twoPass x y=((((x.kind==0)&&(y.kind==0))&&(x.day==y.day))&&decide (max a b<60)):=by
 unfold Rules.twoPass;rw[ha,hb];have e:decide (max a b<60)=(decide (a<60)&&decide (b<60)):=by
  rw[Bool.eq_iff_iff];simp only[decide_eq_true_eq,Bool.and_eq_true];omega
 rw[e,←Bool.and_assoc];rfl
theorem Mj(l:List (Nat×Nat))(a b:Nat):pI (l++ [(a,b)])=pI l++ [((a:Int),(b:Int))]:=by rw[Pw];rfl
theorem pY(r:Rules)(p:Person)(v pv:Value)(l:List (Nat×Nat))(n:Int)(w:World)(h:RulesV w v r)(hp:PersonV w pv p)(hs:r.impostorsAns p=(l,n)):Calls Tryz.prog 36 #[v,pv] w (RLI w (pI l) n):=by
 have i1:=RulesB.mk h;have i2:=PersonB.mk hp;obtain⟨A1,n1,c1,A2,c2,A3,c3,rfl,hn1,-⟩:=h.h;subst hn1;obtain⟨A,c,rfl,hl⟩:=hp.h;have i3:=ListB.mk hl;unfold Rules.impostorsAns at hs;by_cases hz:r.personErr p=0
 ·rw[if_neg (by simp[hz])] at hs
  injection hs with m1 m2
  subst m2;have i4:=RPerE.mk hz;have hlen:p.events.length≤30:=kM hz;have i5:LenC2 p.events:=⟨by omega⟩
  obtain⟨-,-,-,hev⟩:=Rules.person_ok hz;have Hmi:=Lib.hid (show∀x∈sortE p.events,0≤x.minute∧x.minute≤1439 from fun x hx=>zY (hev x ((cZ _ _).1 hx)))
  have hsl:=sortE_len p.events;have HM:=Lib.hid m1;clear hz hev m1;go_enter Tryz.func36,Tryz.ntmps36
  go_wp2_with (first|(with_reducible refine aB ?_;rintro _ Vs ⟨As,cs,rfl,(_:RowC _ _ _ 80 _ _ _),(_:StepC _ _)⟩)|(first|(with_reducible refine aA ?_)|(with_reducible refine aB ?_;first|rintro _ V ⟨rfl,(_:StepC _ _)⟩)|(with_reducible refine aH ?_;intro V g _ _ _)))
  have hls:ListV Vs (.slice As (sortE p.events).length cs) (sortE p.events):=(inferInstance:RowC Vs (.slice As (sortE p.events).length cs) _ 80 9 _ _).list rfl rfl rfl;obtain⟨s,hse⟩:∃s,sortE p.events=s:=⟨_,rfl⟩;rw[hse] at hls Hmi HM hsl;simp only[hse];have hsc:=hls.caps.2;have k0:=ListB.mk hls;have hs30:s.length≤30:=by omega
  clear hse;go_loopw [9,8] (fun av ov wr=>StepC Vs wr∧∃(a:Nat)(o:List (Nat×Nat))(A4:Option Addr)(c4:Nat),a≤s.length∧av=.int .i64 a∧o=pairR s a∧ov=.slice A4 (pI o).length c4∧RowC wr (.slice A4 (pI o).length c4) Vs 124 2 (pI o).length (encL (pI o))) (fun av _ _=>s.length-(RowKit.intOf av).toNat)
  case atStart=>exact⟨⟨Ext.refl _⟩,0,[],none,0,by omega,rfl,rfl,rfl,RowC.nil⟩
  case round=>
   obtain⟨_,a,o,A4,c4,ha,rfl,ho,rfl,hR⟩:=hrel;by_cases la:a<s.length
   ·obtain⟨ad,rfl,hax⟩:=hls.elem la;have hma:=Hmi.out _ (List.getElem_mem la);obtain⟨⟨xk,xd,⟨xc,xo⟩,xt,xq,xp,xu,xm⟩,hx⟩:∃x,s[a]=x:=⟨_,rfl⟩;have hxa:evAt s a=⟨xk,xd,⟨xc,xo⟩,xt,xq,xp,xu,xm⟩:=by rw[←hx];unfold evAt;simp[List.getD,la]
    rw[hx] at hax hma;simp only at hma;have k1:CellsB Vs (ad.add (a*9)) [.int .i64 xk,.int .i64 xd,.int .i64 xc,.int .i64 xo,.int .i64 xt,.int .i64 xq,.int .i64 xp,.int .i64 xu,.int .i64 xm]:=⟨hax⟩;have za:IntKind.i64.wrap ((a:Int)+1)=((a+1:Nat):Int):=by rw[IntWalk.i64_in _ (by omega)];push_cast;rfl
    have hol:o.length≤900:=by
     have h1:=sN s a;rw[←ho] at h1;exact Nat.le_trans h1 (Nat.le_trans (Nat.mul_le_mul ha (Nat.le_refl _)) (Nat.le_trans (Nat.mul_le_mul hs30 hs30) (by decide)))
    have Ho:=Lib.hid ho;have Hxa:=Lib.hid hxa;clear hax hx ho hxa;go_wp2
    go_loopw [10,8] (fun bv ov wr=>StepC Vs wr∧∃(b:Nat)(o2:List (Nat×Nat))(A5:Option Addr)(c5:Nat),a<b∧b≤s.length∧bv=.int .i64 b∧o2=o++rowP s a b∧ov=.slice A5 (pI o2).length c5∧RowC wr (.slice A5 (pI o2).length c5) Vs 124 2 (pI o2).length (encL (pI o2))) (fun bv _ _=>s.length-(RowKit.intOf bv).toNat)
    case atStart=>exact⟨⟨ExtC.h⟩,a+1,o,A4,c4,by omega,by omega,by first|rfl,by rw[zC];simp,rfl,inferInstance⟩
    case round=>
     obtain⟨_,b,o2,A5,c5,hab,hb,rfl,ho2,rfl,hR2⟩:=hrel;by_cases lb:b<s.length
     ·obtain⟨_,e1,hbx⟩:=hls.elem lb
      cases e1
      have hmb:=Hmi.out _ (List.getElem_mem lb);obtain⟨⟨yk,yd,⟨yc,yo⟩,yt,yq,yp,yu,ym⟩,hy⟩:∃x,s[b]=x:=⟨_,rfl⟩;have hyb:evAt s b=⟨yk,yd,⟨yc,yo⟩,yt,yq,yp,yu,ym⟩:=by rw[←hy];unfold evAt;simp[List.getD,lb]
      rw[hy] at hbx hmb;simp only at hmb;have k2:CellsB Vs (ad.add (b*9)) [.int .i64 yk,.int .i64 yd,.int .i64 yc,.int .i64 yo,.int .i64 yt,.int .i64 yq,.int .i64 yp,.int .i64 yu,.int .i64 ym]:=⟨hbx⟩;have hsu:=Ed s hab Hxa.out hyb;rw[Ly _ _ (xm-ym) (ym-xm) rfl rfl] at hsu;simp only at hsu;obtain⟨cn,hcn⟩:∃c,((((xk==0)&&(yk==0))&&(xd==yd))&&decide (max (xm-ym) (ym-xm)<60))=c:=⟨_,rfl⟩;rw[hcn] at hsu;have z1:IntKind.i64.wrap (xm-ym)=xm-ym:=IntWalk.i64_in _ (by omega)
      have z2:IntKind.i64.wrap (ym-xm)=ym-xm:=IntWalk.i64_in _ (by omega)
      have zb:IntKind.i64.wrap ((b:Int)+1)=(b:Int)+1:=IntWalk.i64_in _ (by omega)
      have hol2:(pI o2).length≤1000:=by
       have:=vV s a b;rw[Jd,ho2,List.length_append];omega
      have Hcn:=Lib.hid hcn;have Hsu:=Lib.hid hsu;have Ho2:=Lib.hid ho2;clear hbx hy hyb hsu hcn ho2;go_wp2
      refine aP ((.take 0 (.take 1 (.take 2 (.take 3 (.take 4 (.take 5 (.take 6 (.take 7 (.take 8 (.take 9 (.take 10 (.take 11 (.take 12 (.take 13 (.take 14 (.take 15 (.take 16 (.take 17 (.take 18 (.take 19 (.take 20 (.take 21 (.take 22 (.take 23 .nil))))))))))))))))))))))))) (fun hHd=> ?_) (hQ:=by intro _ _ _ _ _ h;exact h)
      repeat' first|((first|with_reducible refine bY ?_|with_reducible refine kW ?_|(with_reducible refine cJ (v:= ?_) ?_ ?_;rotate_left;(·(intro W' h;have:=StepC.mk h;infer_instance)))|(with_reducible refine bX (v:= ?_) ?_ ?_;rotate_left;(·(intro W' h;have:=StepC.mk h;first|(simp only[execOp,eS];go_simp;(try with_reducible rfl))))));(try dsimp only[sS0,sS1]))|(with_reducible refine eT hHd ?_)|(with_reducible refine aF ?_)
      go_wp2
      refine aP ((.take 0 (.take 1 (.take 2 (.take 3 (.take 4 (.take 5 (.take 6 (.take 7 (.take 8 (.take 9 (.take 10 (.take 11 (.take 12 (.take 13 (.take 14 (.take 15 (.take 16 (.take 17 (.take 18 (.take 19 (.take 20 (.take 21 (.take 22 (.take 23 (.take 24 (.take 25 (.take 26 (.take 27 (.take 28 (.take 29 (.take 30 .nil)))))))))))))))))))))))))))))))) (fun hHd=> ?_) (hQ:=by intro _ _ _ _ _ h;exact h)
      repeat' first|((first|with_reducible refine bY ?_|with_reducible refine iV ?_|with_reducible refine gB ?_|(with_reducible refine cJ (v:= ?_) ?_ ?_;rotate_left;(·(intro W' h;have:=StepC.mk h;infer_instance)))|(with_reducible refine jJ (v:= ?_) ?_ ?_;rotate_left;(·(intro hq W' h;have:=StepC.mk h;infer_instance)))|(with_reducible refine bX (v:= ?_) ?_ ?_;rotate_left;(·(intro W' h;have:=StepC.mk h;first|(simp only[execOp,eS];go_simp;(try with_reducible rfl)))))|(with_reducible refine eI (v:= ?_) ?_ ?_;rotate_left;(·(intro hq W' h;have:=StepC.mk h;simp only[execOp,eS,hq,mbT];(try(simp only[Bool.and_eq_true,Bool.not_eq_true'] at hq;simp only[hq,mbT,Bool.not_false]));go_simp;(try with_reducible rfl)))));(try dsimp only[sS0,sS1]))|(first|(with_reducible refine dI ?_))|(with_reducible refine eT hHd ?_)|(with_reducible refine aF ?_)
      have e1:=Hcn.out;(try simp only[e1])
      clear e1
      cases cn
      ·have Hn:=Lib.hid (show o++rowP s a (b+1)=o2 by rw[Hsu.out,Ho2.out];rfl)
       go_wp2
       go_roundw
       case rel=>exact⟨⟨ExtC.h⟩,b+1,o2,A5,c5,by omega,lb,by push_cast;rfl,Hn.out.symm,rfl,inferInstance⟩
       case measure=>simp[RowKit.intOf];omega
      ·have Hn:=Lib.hid (show o++rowP s a (b+1)=o2++ [(a,b)] by rw[Hsu.out,Ho2.out,if_pos rfl,List.append_assoc])
       go_wp2_with (first|(with_reducible refine bR ?_;intro A9 c9 Va hR9 hG9)|(first|(with_reducible refine aD ?_;intro V g _ _ _)))
       go_roundw
       case rel=>
        obtain⟨A8,c8,e8,h8⟩:=cV (Mj o2 a b) hR9;exact⟨⟨ExtC.h⟩,b+1,_,A8,c8,by omega,lb,by push_cast;rfl,Hn.out.symm,e8,h8⟩
       case measure=>simp[RowKit.intOf];omega
     ·obtain rfl:b=s.length:=by omega
      have Hn:=Lib.hid (show pairR s (a+1)=o2 by rw[qF,ho2,Ho.out])
      clear ho2;go_wp2
      exact⟨⟨⟨ExtC.h⟩,a+1,o2,A5,c5,la,by push_cast;rfl,Hn.out.symm,rfl,inferInstance⟩,by simp[RowKit.intOf];omega⟩
   ·obtain rfl:a=s.length:=by omega
    rw[Eq,HM.out] at ho;subst ho;go_wp2
    go_ret2
    exact⟨A4,c4,rfl,⟨(inferInstance:RowC _ (.slice A4 (pI o).length c4) Vs 124 2 _ _).list rfl rfl rfl⟩,⟨ExtC.h⟩⟩
 ·rw[if_pos hz] at hs;injection hs with m1 m2
  subst m1 m2;obtain⟨er,her⟩:∃e,r.personErr p=e:=⟨_,rfl⟩;have i4:=RPerE.mk her;rw[her] at hz⊢;have q:(er !=0)=true:=by simpa using hz
  clear hz her;go_enter Tryz.func36,Tryz.ntmps36
  go_wp2_with (first|(with_reducible refine aA ?_)|(with_reducible refine aB ?_;first|rintro _ V ⟨rfl,(_:StepC _ _)⟩)|(with_reducible refine aH ?_;intro V g _ _ _))
  go_ret2
  exact⟨none,0,rfl,⟨ListV.nil⟩,⟨ExtC.h⟩⟩
instance qRSt17{W:World}{v pv:Value}{r:Rules}{p:Person}{l:List (Nat×Nat)}{n:Int}[h:RulesC W v r][hp:PersonC W pv p][q:RImpE r p l n]:FunC Tryz.prog 36 #[v,pv] W (RLI W (pI l) n):=⟨pY r p v pv l n W h.h hp.h q.h⟩
end Go.Rg
end
