import Derived.Test.YtbfbepnkofampaaGreatDoorXPX08
set_option maxRecDepth 100000
set_option synthInstance.maxSize 2000
set_option synthInstance.maxHeartbeats 400000
set_option maxHeartbeats 8000000
set_option linter.all false
section
namespace Go.Rg
open Go Go.Bp Go.RowKit Go.Walk Go.Proofs
instance words3{W:World}{g:Nat}{a b c:ByteArray}[h:BlkC W g 9 [.string a,.string b,.string c]]:ListC ByteArray W (.slice (some ⟨g,0,none⟩) 3 3) [a,b,c]:=⟨ListV.blk h.h rfl rfl (by decide)⟩
instance words4{W:World}{g:Nat}{a b c d:ByteArray}[h:BlkC W g 9 [.string a,.string b,.string c,.string d]]:ListC ByteArray W (.slice (some ⟨g,0,none⟩) 4 4) [a,b,c,d]:=⟨ListV.blk h.h rfl rfl (by decide)⟩
theorem kD(ws:List (List UInt8))(h:(Rules.joinW ws).length≤1000000)(hn:ws.length≤10):JoinE (ws.map S) (S (Rules.joinW ws)):=by
 have e:(ws.map S).map (·.data.toList)=ws:=by
  rw[List.map_map];conv=>rhs;rw[←List.map_id ws]
  apply List.map_congr_left;intro x _;simp[nS]
 exact⟨by rw[e,List.length_map];omega,by rw[e]⟩
class LineE (r:Rules) (x:Event) (t:outParam ByteArray):Prop where h:r.check.2.2=0∧(∃born,r.eventErr born x=0)∧S (r.lineL x)=t
theorem uD(r:Rules)(gf:Nat)(vC vD vT:Value)(vl vf vb born b0 dy po:Int)(ve vc vp vt vg:Value)(w:World)(hB:BlkC w gf 121 [vC,vD,vT,.int .i64 vl,.int .i64 vf,.int .i64 vb,.int .i64 born,ve,vc,vp,vt,vg])[hv:EnvC w](hd:0≤dy∧dy≤40000)(hp:1≤po∧po≤20):
 Calls Tryz.prog 136 #[.pointer (some ⟨gf,0,none⟩),.agg #[.int .i64 3,.int .i64 dy,.int .i64 0,.int .i64 0,.int .i64 0,.int .i64 0,.int .i64 po,.int .i64 0,.int .i64 0]] w (RTx w (S (r.lineL ⟨3,dy,⟨0,0⟩,0,0,po,0,0⟩))):=by
 have i0:=EnvB.mk hv.h;have i1:DatedE dy (S (datedL dy)):=⟨hd,rfl⟩;have i2:ItoaE po (S (digits po.toNat)):=⟨by omega,rfl⟩
 have hl:=dT hd.1 hd.2;have hl2:(digits po.toNat).length≤20:=by
  obtain⟨n,rfl⟩:∃n:Nat,po=(n:Int):=⟨po.toNat,by omega⟩
  have:n≤20:=by omega
  revert this;generalize n=m;intro h
  have:∀m<21,(digits m).length≤20:=by decide
  exact this m (by omega)
 have i3:JoinE [⟨#[111,102,102,101,110,99,101]⟩,S (datedL dy),S (digits po.toNat)] (S (Rules.joinW [offenceW,datedL dy,digits po.toNat])):=kD [offenceW,datedL dy,digits po.toNat] (by simp only[Rules.joinW,offenceW,List.length_append,List.length_cons,List.length_nil];omega) (by simp)
 have i4:CatC (S (Rules.joinW [offenceW,datedL dy,digits po.toNat])) ⟨#[10]⟩ (S (Rules.joinW [offenceW,datedL dy,digits po.toNat]++ [10])):=gY _ _ rfl rfl (by simp only[Rules.joinW,offenceW,List.length_append,List.length_cons,List.length_nil];omega)
 have hr:r.lineL ⟨3,dy,⟨0,0⟩,0,0,po,0,0⟩=Rules.joinW [offenceW,datedL dy,digits po.toNat]++ [10]:=rfl;rw[hr];clear hr;obtain⟨J,hJ⟩:∃J,S (Rules.joinW [offenceW,datedL dy,digits po.toNat]++ [10])=J:=⟨_,rfl⟩;obtain⟨K,hK⟩:∃J,S (Rules.joinW [offenceW,datedL dy,digits po.toNat])=J:=⟨_,rfl⟩;obtain⟨D,hD⟩:∃J,S (datedL dy)=J:=⟨_,rfl⟩;obtain⟨N,hN⟩:∃J,S (digits po.toNat)=J:=⟨_,rfl⟩;rw[hJ] at i4⊢;rw[hK] at i3 i4;rw[hD] at i1 i3;rw[hN] at i2 i3;clear hJ hK hD hN hl hl2 hd hp;go_enter Tryz.func136,Tryz.ntmps136
 go_wp2_with (first|(with_reducible refine aA ?_)|(with_reducible refine aH ?_;intro V g _ _ _))
 refine aP ((.take 0 (.take 1 (.take 3 (.take 4 (.one 2 (.one 5 (.one 6 (.take 7 .nil))))))))) (fun hHd=> ?_) (hQ:=by intro _ _ _ _ _ h;exact h)
 repeat' first|((with_reducible refine aX ?_);(first|(refine tk (v:= ?_) ?_ hHd ?_;rotate_left;(·(intro W' h;have:=StepC.mk h;first|with_reducible exact aJ)))|(refine tk (v:= ?_) ?_ hHd ?_;rotate_left;(·(intro wq hSw;go_simp;(try with_reducible rfl)))));(try simp only[pS]))|((with_reducible refine bC ?_);refine aQ (by simp only[gS];rfl) ?_)|(with_reducible refine aD ?_;intro V g _ _ _)|((with_reducible refine aN ?_);first|(rintro _ V ⟨rfl,(_:StepC _ _)⟩;refine⟨_,rfl,?_⟩))|((with_reducible refine bD ?_);clear hHd;refine aM ExtC.h (fun hHd=> ?_);(try simp only[pS]))|(with_reducible refine aF ?_)
 all_goals
  go_wp2_with (first|(with_reducible refine oP (by with_unfolding_all rfl) (by with_unfolding_all rfl) (by infer_instance) ?_)|(first|(with_reducible refine aB ?_;first|rintro _ V ⟨rfl,(_:StepC _ _)⟩)))
  go_ret
  exact⟨rfl,⟨ExtC.h⟩⟩
theorem Jw(r:Rules)(gf:Nat)(vC vD vT:Value)(vl vf vb born dy un:Int)(ve vc vp vt vg:Value)(w:World)(hB:BlkC w gf 121 [vC,vD,vT,.int .i64 vl,.int .i64 vf,.int .i64 vb,.int .i64 born,ve,vc,vp,vt,vg])[hv:EnvC w](hd:0≤dy∧dy≤40000)(hp:dy≤un∧un≤40000):
 Calls Tryz.prog 136 #[.pointer (some ⟨gf,0,none⟩),.agg #[.int .i64 4,.int .i64 dy,.int .i64 0,.int .i64 0,.int .i64 0,.int .i64 0,.int .i64 0,.int .i64 un,.int .i64 0]] w (RTx w (S (r.lineL ⟨4,dy,⟨0,0⟩,0,0,0,un,0⟩))):=by
 have i0:=EnvB.mk hv.h;have i1:DatedE dy (S (datedL dy)):=⟨hd,rfl⟩;have i2:DatedE un (S (datedL un)):=⟨by omega,rfl⟩
 have hl:=dT hd.1 hd.2;have hl2:=dT (day:=un) (by omega) (by omega)
 have i3:JoinE [⟨#[98,97,110]⟩,S (datedL dy),S (datedL un)] (S (Rules.joinW [banW,datedL dy,datedL un])):=kD [banW,datedL dy,datedL un] (by simp only[Rules.joinW,banW,List.length_append,List.length_cons,List.length_nil];omega) (by simp)
 have i4:CatC (S (Rules.joinW [banW,datedL dy,datedL un])) ⟨#[10]⟩ (S (Rules.joinW [banW,datedL dy,datedL un]++ [10])):=gY _ _ rfl rfl (by simp only[Rules.joinW,banW,List.length_append,List.length_cons,List.length_nil];omega)
 have hr:r.lineL ⟨4,dy,⟨0,0⟩,0,0,0,un,0⟩=Rules.joinW [banW,datedL dy,datedL un]++ [10]:=rfl;rw[hr];clear hr;obtain⟨J,hJ⟩:∃J,S (Rules.joinW [banW,datedL dy,datedL un]++ [10])=J:=⟨_,rfl⟩;obtain⟨K,hK⟩:∃J,S (Rules.joinW [banW,datedL dy,datedL un])=J:=⟨_,rfl⟩;rw[hJ] at i4⊢;rw[hK] at i3 i4;clear hJ hK;obtain⟨D,hD⟩:∃J,S (datedL dy)=J:=⟨_,rfl⟩;obtain⟨N,hN⟩:∃J,S (datedL un)=J:=⟨_,rfl⟩;rw[hD] at i1 i3;rw[hN] at i2 i3;clear hD hN hl hl2 hd hp;go_enter Tryz.func136,Tryz.ntmps136
 go_wp2_with (first|(with_reducible refine aA ?_)|(with_reducible refine aH ?_;intro V g _ _ _))
 refine aP ((.take 0 (.take 1 (.take 3 (.take 4 (.one 2 (.one 5 (.one 6 (.take 7 .nil))))))))) (fun hHd=> ?_) (hQ:=by intro _ _ _ _ _ h;exact h)
 repeat' first|((with_reducible refine aX ?_);(first|(refine tk (v:= ?_) ?_ hHd ?_;rotate_left;(·(intro W' h;have:=StepC.mk h;first|with_reducible exact aJ)))|(refine tk (v:= ?_) ?_ hHd ?_;rotate_left;(·(intro wq hSw;go_simp;(try with_reducible rfl)))));(try simp only[pS]))|((with_reducible refine bC ?_);refine aQ (by simp only[gS];rfl) ?_)|(with_reducible refine aD ?_;intro V g _ _ _)|((with_reducible refine aN ?_);first|(rintro _ V ⟨rfl,(_:StepC _ _)⟩;refine⟨_,rfl,?_⟩))|((with_reducible refine bD ?_);clear hHd;refine aM ExtC.h (fun hHd=> ?_);(try simp only[pS]))|(with_reducible refine aF ?_)
 all_goals
  go_wp2_with (first|(with_reducible refine oP (by with_unfolding_all rfl) (by with_unfolding_all rfl) (by infer_instance) ?_)|(first|(with_reducible refine aB ?_;first|rintro _ V ⟨rfl,(_:StepC _ _)⟩)))
  go_ret
  exact⟨rfl,⟨ExtC.h⟩⟩
theorem Ey{s:Sys}{k:Nat}(hk:k<s.classes.length):s.classes[k].name=S (s.nameL (k:Int)):=by unfold Sys.nameL;rw[Sys.at_eq hk,uR]
theorem Aj(r:Rules)(gf:Nat)(vC vD vT:Value)(vl vf vb born dy:Int)(k:Nat)(ve vc vp vt vg:Value)(w:World)(hB:BlkC w gf 121 [vC,vD,vT,.int .i64 vl,.int .i64 vf,.int .i64 vb,.int .i64 born,ve,vc,vp,vt,vg])[hv:EnvC w](hR:RulesV w (.agg #[vC,vD,vT,.int .i64 vl,.int .i64 vf,.int .i64 vb]) r)(ho:r.Ok)(hd:0≤dy∧dy≤40000)(hp:k<r.sys.classes.length):
 Calls Tryz.prog 136 #[.pointer (some ⟨gf,0,none⟩),.agg #[.int .i64 2,.int .i64 dy,.int .i64 0,.int .i64 0,.int .i64 0,.int .i64 k,.int .i64 0,.int .i64 0,.int .i64 0]] w (RTx w (S (r.lineL ⟨2,dy,⟨0,0⟩,0,k,0,0,0⟩))):=by
 have i0:=EnvB.mk hv.h;obtain⟨A1,n1,c1,A2,n2,c2,A3,n3,c3,he⟩:=hR.form;injection he with he
 have he:=congrArg Array.toList he;simp at he;obtain⟨rfl,rfl,rfl,-⟩:=he;obtain⟨A,_,kk,A',k',e,hn,hcl,hcd⟩:=hR.sys.h;injection e with e
 have e:=congrArg Array.toList e;simp at e;obtain⟨⟨rfl,rfl,rfl⟩,-⟩:=e;obtain⟨ad,ca,cq,rfl,hb0,hb1,hb2,hcc⟩:=xS hcl hp;rw[Ey hp] at hcc;have hlk:=eK (ho.sys.name (i:=(k:Int)) (by omega))
 have hl2:(r.sys.nameL (k:Int)).length≤16:=hlk;obtain⟨N,hN⟩:∃N,r.sys.nameL (k:Int)=N:=⟨_,rfl⟩;have hr:r.lineL ⟨2,dy,⟨0,0⟩,0,k,0,0,0⟩=Rules.joinW [renewW,datedL dy,N]++ [10]:=by rw[←hN];rfl
 rw[hr];rw[hN] at hl2 hcc;have j1:CellsB w (ad.add (k*5)) [.string (S N),.slice ca r.sys.classes[k].incl.length cq,.int .i64 r.sys.classes[k].needs,.int .i64 r.sys.classes[k].age,.int .i64 r.sys.classes[k].term]:=⟨hcc⟩;have i1:DatedE dy (S (datedL dy)):=⟨hd,rfl⟩;have hl:=dT hd.1 hd.2;have i3:JoinE [⟨#[114,101,110,101,119]⟩,S (datedL dy),S N] (S (Rules.joinW [renewW,datedL dy,N])):=kD [renewW,datedL dy,N] (by simp only[Rules.joinW,renewW,List.length_append,List.length_cons,List.length_nil];omega) (by simp)
 have i4:CatC (S (Rules.joinW [renewW,datedL dy,N])) ⟨#[10]⟩ (S (Rules.joinW [renewW,datedL dy,N]++ [10])):=gY _ _ rfl rfl (by simp only[Rules.joinW,renewW,List.length_append,List.length_cons,List.length_nil];omega)
 obtain⟨D,hD⟩:∃J,S (datedL dy)=J:=⟨_,rfl⟩;rw[hD] at i1 i3;have lk:k<n1:=by omega
 clear hD hN hl hl2 hd hlk hcl hcd hR ho hr hcc;go_enter Tryz.func136,Tryz.ntmps136
 go_wp2_with (first|(with_reducible refine aA ?_)|(with_reducible refine aH ?_;intro V g _ _ _))
 refine aP ((.take 0 (.take 1 (.take 3 (.take 4 (.take 5 (.take 6 (.take 7 (.take 8 (.take 9 (.take 10 (.take 11 (.take 12 (.take 13 (.take 14 (.one 2 (.one 15 (.take 16 .nil)))))))))))))))))) (fun hHd=> ?_) (hQ:=by intro _ _ _ _ _ h;exact h)
 repeat' first|((with_reducible refine aX ?_);(first|(refine tk (v:= ?_) ?_ hHd ?_;rotate_left;(·(intro W' h;have:=StepC.mk h;first|with_reducible exact aJ)))|(refine tk (v:= ?_) ?_ hHd ?_;rotate_left;(·(intro wq hSw;go_simp;(try with_reducible rfl)))));(try simp only[pS]))|((with_reducible refine bC ?_);refine aQ (by simp only[gS];rfl) ?_)|(with_reducible refine aD ?_;intro V g _ _ _)|((with_reducible refine aN ?_);first|(rintro _ V ⟨rfl,(_:StepC _ _)⟩;refine⟨_,rfl,?_⟩))|((with_reducible refine bD ?_);clear hHd;refine aM ExtC.h (fun hHd=> ?_);(try simp only[pS]))|(with_reducible refine aF ?_)
 all_goals
  go_wp2_with (first|(with_reducible refine oP (by with_unfolding_all rfl) (by with_unfolding_all rfl) (by infer_instance) ?_)|(first|(with_reducible refine aB ?_;first|rintro _ V ⟨rfl,(_:StepC _ _)⟩)))
  go_ret
  exact⟨rfl,⟨ExtC.h⟩⟩
theorem rV(r:Rules)(gf:Nat)(vC vD vT:Value)(vl vf vb born dy:Int)(k:Nat)(ve vc vp vt vg:Value)(w:World)(hB:BlkC w gf 121 [vC,vD,vT,.int .i64 vl,.int .i64 vf,.int .i64 vb,.int .i64 born,ve,vc,vp,vt,vg])[hv:EnvC w](hR:RulesV w (.agg #[vC,vD,vT,.int .i64 vl,.int .i64 vf,.int .i64 vb]) r)(ho:r.Ok)(hd:0≤dy∧dy≤40000)(hp:k<r.treaties.length):
 Calls Tryz.prog 136 #[.pointer (some ⟨gf,0,none⟩),.agg #[.int .i64 1,.int .i64 dy,.int .i64 0,.int .i64 0,.int .i64 k,.int .i64 0,.int .i64 0,.int .i64 0,.int .i64 0]] w (RTx w (S (r.lineL ⟨1,dy,⟨0,0⟩,k,0,0,0,0⟩))):=by
 have i0:=EnvB.mk hv.h;obtain⟨ad,n,rfl,hn,hn2,hC⟩:=pQ hR hp;have hlk:=eK (Rules.treatyErr_0 (ho.treaty k hp)).1;have hnm:r.treatyL (k:Int)=r.treaties[k].name.data.toList:=by unfold Rules.treatyL;simp[List.getD,hp]
 rw[←hnm] at hlk;have hsn:r.treaties[k].name=S (r.treatyL (k:Int)):=by rw[hnm,uR]
 obtain⟨N,hN⟩:∃N,r.treatyL (k:Int)=N:=⟨_,rfl⟩;have hr:r.lineL ⟨1,dy,⟨0,0⟩,k,0,0,0,0⟩=Rules.joinW [exchangeW,datedL dy,N]++ [10]:=by rw[←hN];rfl
 rw[hr];rw[hN] at hlk hsn;obtain⟨⟨nm,⟨yc,yo⟩,lo,hi⟩,htx⟩:∃x,r.treaties[k]=x:=⟨_,rfl⟩;rw[htx] at hC hsn;simp only at hsn;subst hsn;obtain⟨tl,htl⟩:∃n,r.treaties.length=n:=⟨_,rfl⟩;simp only[htl] at hB hn hp;have j1:CellsB w (ad.add (k*5)) [.string (S N),.int .i64 yc,.int .i64 yo,.int .i64 lo,.int .i64 hi]:=⟨hC⟩;have i1:DatedE dy (S (datedL dy)):=⟨hd,rfl⟩;have hl:=dT hd.1 hd.2;have i3:JoinE [⟨#[101,120,99,104,97,110,103,101]⟩,S (datedL dy),S N] (S (Rules.joinW [exchangeW,datedL dy,N])):=kD [exchangeW,datedL dy,N] (by simp only[Rules.joinW,exchangeW,List.length_append,List.length_cons,List.length_nil];omega) (by simp)
 have i4:CatC (S (Rules.joinW [exchangeW,datedL dy,N])) ⟨#[10]⟩ (S (Rules.joinW [exchangeW,datedL dy,N]++ [10])):=gY _ _ rfl rfl (by simp only[Rules.joinW,exchangeW,List.length_append,List.length_cons,List.length_nil];omega)
 obtain⟨D,hD⟩:∃J,S (datedL dy)=J:=⟨_,rfl⟩;rw[hD] at i1 i3;clear hD hN hl hd hlk hR ho hr hC htl htx hnm;go_enter Tryz.func136,Tryz.ntmps136
 go_wp2_with (first|(with_reducible refine aA ?_)|(with_reducible refine aH ?_;intro V g _ _ _))
 refine aP ((.take 0 (.take 1 (.take 3 (.take 4 (.take 5 (.take 6 (.take 7 (.take 8 (.take 9 (.take 10 (.take 11 (.take 12 (.take 13 (.one 2 (.one 14 (.take 15 .nil))))))))))))))))) (fun hHd=> ?_) (hQ:=by intro _ _ _ _ _ h;exact h)
 repeat' first|((with_reducible refine aX ?_);(first|(refine tk (v:= ?_) ?_ hHd ?_;rotate_left;(·(intro W' h;have:=StepC.mk h;first|with_reducible exact aJ)))|(refine tk (v:= ?_) ?_ hHd ?_;rotate_left;(·(intro wq hSw;go_simp;(try with_reducible rfl)))));(try simp only[pS]))|((with_reducible refine bC ?_);refine aQ (by simp only[gS];rfl) ?_)|(with_reducible refine aD ?_;intro V g _ _ _)|((with_reducible refine aN ?_);first|(rintro _ V ⟨rfl,(_:StepC _ _)⟩;refine⟨_,rfl,?_⟩))|((with_reducible refine bD ?_);clear hHd;refine aM ExtC.h (fun hHd=> ?_);(try simp only[pS]))|(with_reducible refine aF ?_)
 all_goals
  go_wp2_with (first|(with_reducible refine oP (by with_unfolding_all rfl) (by with_unfolding_all rfl) (by infer_instance) ?_)|(first|(with_reducible refine aB ?_;first|rintro _ V ⟨rfl,(_:StepC _ _)⟩)))
  go_ret
  exact⟨rfl,⟨ExtC.h⟩⟩
theorem Fd(r:Rules)(gf:Nat)(vC vD vT:Value)(vl vf vb born dy yc yo mi:Int)(ve vc vp vt vg:Value)(w:World)(hB:BlkC w gf 121 [vC,vD,vT,.int .i64 vl,.int .i64 vf,.int .i64 vb,.int .i64 born,ve,vc,vp,vt,vg])[hv:EnvC w](hR:RulesV w (.agg #[vC,vD,vT,.int .i64 vl,.int .i64 vf,.int .i64 vb]) r)(hc:r.check.2.2=0)(hd:0≤dy∧dy≤40000)(hy:r.sys.rightErr ⟨yc,yo⟩=0)(hm:0≤mi∧mi≤1439):
 Calls Tryz.prog 136 #[.pointer (some ⟨gf,0,none⟩),.agg #[.int .i64 0,.int .i64 dy,.int .i64 yc,.int .i64 yo,.int .i64 0,.int .i64 0,.int .i64 0,.int .i64 0,.int .i64 mi]] w (RTx w (S (r.lineL ⟨0,dy,⟨yc,yo⟩,0,0,0,0,mi⟩))):=by
 have i0:=EnvB.mk hv.h;have ho:=Rules.ok_of hc;obtain⟨A1,n1,c1,A2,n2,c2,A3,n3,c3,he⟩:=hR.form;injection he with he
 have he:=congrArg Array.toList he;simp at he;obtain⟨rfl,rfl,rfl,rfl,rfl,rfl⟩:=he;have hk:=(fH hc).h;have hs:r.sys.rightsL [⟨yc,yo⟩]=r.sys.wordL ⟨yc,yo⟩:=by simp[Sys.rightsL]
 have hl2:=sE ho.sys hy;have i5:=SysB.mk hR.sys;have iw:WriteE r.sys ⟨yc,yo⟩ (S (r.sys.wordL ⟨yc,yo⟩)):=⟨hk,hy,rfl⟩;obtain⟨N,hN⟩:∃N,r.sys.wordL ⟨yc,yo⟩=N:=⟨_,rfl⟩;rw[hN] at hs hl2 iw;have p1:PadE (mi/60) 2 (S (pad (mi/60).toNat 2)):=⟨(mi/60).toNat,2,by omega,rfl,by omega,by omega,by have:=(pad2 (n:=(mi/60).toNat) (by omega)).2.2.2.2;omega,rfl⟩
 have p2:PadE (mi%60) 2 (S (pad (mi%60).toNat 2)):=⟨(mi%60).toNat,2,by omega,rfl,by omega,by omega,by have:=(pad2 (n:=(mi%60).toNat) (by omega)).2.2.2.2;omega,rfl⟩
 have l1:=(pad2 (n:=(mi/60).toNat) (by omega)).2.2.2.2
 have l2:=(pad2 (n:=(mi%60).toNat) (by omega)).2.2.2.2
 have w1:Int.tdiv mi 60=mi/60:=Int.tdiv_eq_ediv_of_nonneg hm.1;have w2:Int.tmod mi 60=mi%60:=Int.tmod_eq_emod_of_nonneg hm.1;have w3:IntKind.i64.wrap (Int.tdiv mi 60)=mi/60:=by rw[w1];exact IntWalk.i64_in _ (by omega)
 have w4:Int.tmod mi 60=mi%60:=w2;have hr:r.lineL ⟨0,dy,⟨yc,yo⟩,0,0,0,0,mi⟩=Rules.joinW [passW,datedL dy,pad (mi/60).toNat 2++58::pad (mi%60).toNat 2,N]++ [10]:=by rw[←hs];rfl
 rw[hr];obtain⟨Hh,hHh⟩:∃x,pad (mi/60).toNat 2=x:=⟨_,rfl⟩;obtain⟨Mm,hMm⟩:∃x,pad (mi%60).toNat 2=x:=⟨_,rfl⟩;obtain⟨mh,hmh⟩:∃x,mi/60=x:=⟨_,rfl⟩;obtain⟨mm,hmm⟩:∃x,mi%60=x:=⟨_,rfl⟩;rw[hHh] at p1 l1⊢;rw[hMm] at p2 l2⊢;rw[hmh] at p1 w3;rw[hmm] at p2 w4;have i1:DatedE dy (S (datedL dy)):=⟨hd,rfl⟩;have hl:=dT hd.1 hd.2;have c1:CatC (S Hh) ⟨#[58]⟩ (S (Hh++ [58])):=gY _ _ rfl rfl (by simp;omega)
 have c2:CatC (S (Hh++ [58])) (S Mm) (S (Hh++58::Mm)):=⟨by rw[rN];simp,by rw[fR,fR];simp;omega⟩
 have i3:JoinE [⟨#[112,97,115,115]⟩,S (datedL dy),S (Hh++58::Mm),S N] (S (Rules.joinW [passW,datedL dy,Hh++58::Mm,N])):=kD [passW,datedL dy,Hh++58::Mm,N] (by simp only[Rules.joinW,passW,List.length_append,List.length_cons,List.length_nil];omega) (by simp)
 have i4:CatC (S (Rules.joinW [passW,datedL dy,Hh++58::Mm,N])) ⟨#[10]⟩ (S (Rules.joinW [passW,datedL dy,Hh++58::Mm,N]++ [10])):=gY _ _ rfl rfl (by simp only[Rules.joinW,passW,List.length_append,List.length_cons,List.length_nil];omega)
 obtain⟨D,hD⟩:∃J,S (datedL dy)=J:=⟨_,rfl⟩;rw[hD] at i1 i3;clear hD hN hl hl2 hd hR hr ho hk hs hy hm w1 w2 hHh hMm hmh hmm l1 l2 hc;go_enter Tryz.func136,Tryz.ntmps136
 go_wp2_with (first|(with_reducible refine aA ?_)|(with_reducible refine aH ?_;intro V g _ _ _))
 refine aP ((.take 0 (.take 1 (.take 2 (.take 3 (.take 4 (.take 5 (.take 6 (.take 7 (.one 8 (.one 9 (.take 10 (.take 11 (.take 12 (.take 13 (.take 14 .nil)))))))))))))))) (fun hHd=> ?_) (hQ:=by intro _ _ _ _ _ h;exact h)
 repeat' first|((with_reducible refine aX ?_);(first|(refine tk (v:= ?_) ?_ hHd ?_;rotate_left;(·(intro W' h;have:=StepC.mk h;first|with_reducible exact aJ)))|(refine tk (v:= ?_) ?_ hHd ?_;rotate_left;(·(intro wq hSw;go_simp;(try with_reducible rfl)))));(try simp only[pS]))|((with_reducible refine bC ?_);refine aQ (by simp only[gS];rfl) ?_)|(with_reducible refine aD ?_;intro V g _ _ _)|((with_reducible refine aN ?_);first|(rintro _ V ⟨rfl,(_:StepC _ _)⟩;refine⟨_,rfl,?_⟩))|((with_reducible refine bD ?_);clear hHd;refine aM ExtC.h (fun hHd=> ?_);(try simp only[pS]))|(with_reducible refine aF ?_)
 all_goals
  go_wp2
  refine aP ((.take 0 (.take 1 (.take 3 (.take 4 (.take 5 (.take 8 (.take 9 (.take 10 (.take 13 (.one 2 (.one 6 (.take 7 (.one 11 (.take 12 (.one 14 (.take 15 .nil))))))))))))))))) (fun hHd=> ?_) (hQ:=by intro _ _ _ _ _ h;exact h)
  repeat' first|((with_reducible refine aX ?_);(first|(refine tk (v:= ?_) ?_ hHd ?_;rotate_left;(·(intro W' h;have:=StepC.mk h;first|with_reducible exact aJ|with_reducible exact Il (by with_unfolding_all rfl) (by with_unfolding_all rfl) (by infer_instance) (by rfl))))|(refine tk (v:= ?_) ?_ hHd ?_;rotate_left;(·(intro wq hSw;go_simp;(try with_reducible rfl)))));(try simp only[pS]))|((with_reducible refine bC ?_);refine aQ (by simp only[gS];rfl) ?_)|(with_reducible refine aD ?_;intro V g _ _ _)|((with_reducible refine aN ?_);first|(rintro _ V ⟨rfl,(_:StepC _ _)⟩;refine⟨_,rfl,?_⟩))|((with_reducible refine bD ?_);clear hHd;refine aM ExtC.h (fun hHd=> ?_);(try simp only[pS]))|(with_reducible refine aF ?_)
  all_goals
   go_wp2_with (first|(with_reducible refine oP (by with_unfolding_all rfl) (by with_unfolding_all rfl) (by infer_instance) ?_)|(first|(with_reducible refine aB ?_;first|rintro _ V ⟨rfl,(_:StepC _ _)⟩)))
   go_ret
   exact⟨rfl,⟨ExtC.h⟩⟩
instance(priority:=600){W:World}{gf:Nat}{vC vD vT ve vc vp vt vg:Value}{vl vf vb born kd dy c o t cl po un mi:Int}{r:Rules}{s:ByteArray}[h:BlkC W gf 121 [vC,vD,vT,.int .i64 vl,.int .i64 vf,.int .i64 vb,.int .i64 born,ve,vc,vp,vt,vg]][hv:EnvC W][hR:RulesC W (.agg #[vC,vD,vT,.int .i64 vl,.int .i64 vf,.int .i64 vb]) r][q:LineE r ⟨kd,dy,⟨c,o⟩,t,cl,po,un,mi⟩ s]:
 FunC Tryz.prog 136 #[.pointer (some ⟨gf,0,none⟩),.agg #[.int .i64 kd,.int .i64 dy,.int .i64 c,.int .i64 o,.int .i64 t,.int .i64 cl,.int .i64 po,.int .i64 un,.int .i64 mi]] W (RTx W s):=⟨by
 obtain⟨hc,⟨b0,hx⟩,rfl⟩:=q.h;have ho:=Rules.ok_of hc;obtain⟨hd,hs⟩:=bI hx;rcases hs with ⟨y,m,e,hy,m0,m1⟩|⟨i,e,i1,i2⟩|⟨i,e,i1,i2⟩|⟨n,e,n1,n2⟩|⟨u,e,u1,u2⟩
 ·cases e
  exact Fd r gf vC vD vT vl vf vb born dy c o mi ve vc vp vt vg W h hR.h hc ⟨hd.1,hd.2.1⟩ hy ⟨m0,m1⟩
 ·cases e
  obtain⟨k,rfl⟩:∃k:Nat,t=(k:Int):=⟨t.toNat,by omega⟩
  exact rV r gf vC vD vT vl vf vb born dy k ve vc vp vt vg W h hR.h ho ⟨hd.1,hd.2.1⟩ (by omega)
 ·cases e
  obtain⟨k,rfl⟩:∃k:Nat,cl=(k:Int):=⟨cl.toNat,by omega⟩
  exact Aj r gf vC vD vT vl vf vb born dy k ve vc vp vt vg W h hR.h ho ⟨hd.1,hd.2.1⟩ (by omega)
 ·cases e
  exact uD r gf vC vD vT vl vf vb born 0 dy po ve vc vp vt vg W h ⟨hd.1,hd.2.1⟩ ⟨n1,n2⟩
 ·cases e
  exact Jw r gf vC vD vT vl vf vb born dy un ve vc vp vt vg W h ⟨hd.1,hd.2.1⟩ ⟨u1,u2⟩⟩
end Go.Rg
end
section
namespace Go.Rg
open Go Go.Bp Go.RowKit Go.Walk Go.Proofs
theorem Mb{P:Program}{t n:Nat}(h:(P.info? t).map TypeInfo.size=some n):∃i,P.info? t=some i∧i.size=n:=by
 cases hi:P.info? t with
 |none=>rw[hi] at h;cases h
 |some i=>rw[hi] at h;exact⟨i,rfl,by simpa using h⟩
theorem ti5:(Tryz.prog.info? 5).map (fun i=>(i.zero,i.size,i.bytes))=some (some (.int .u8 0),1,1):=by kernel_rfl
theorem sizeBd:(Tryz.prog.info? 214).map TypeInfo.size=some 2:=by kernel_rfl
theorem liesBd:liesAt Tryz.prog Tryz.prog.depth 214 (2/Tryz.prog.cellsOf 214) 0 214 1=true:=by kernel_rfl
structure KeptB(b:Nat)(w w':World):Prop where
 size:w.heap.size≤w'.heap.size
 block:∀(k:Nat)(o:Obj),w.heap[k]? =some o→k≠b→(∀cs fr,o≠ .cells cs 5 fr)→w'.heap[k]? =some o
theorem KeptB.trans{b:Nat}{x y z:World}(h:KeptB b x y)(k:KeptB b y z):KeptB b x z:=⟨Nat.le_trans h.size k.size,fun i o ho hi hc=>k.block i o (h.block i o ho hi hc) hi hc⟩
theorem KeptB.ofExt{x y:World}(b:Nat)(h:Ext x y):KeptB b x y:=⟨h.size,fun i o ho _ _=>h.heap_some ho⟩
theorem KeptB.set(b i:Nat)(w:World)(v:Value):KeptB b w (w.setCell ⟨b,i,none⟩ v):=⟨by simp[World.setCell],fun k o ho hk _=>(Below.heap_setCell w ⟨b,i,none⟩ v k (fun e=>hk (by rw[e]))).trans ho⟩
theorem Ep(B b:Nat)(bs:List Value)(w:World)(h:Lib.IsBuilder 214 5 B b bs w):
 Calls Tryz.prog 201 #[.pointer (some ⟨b,0,none⟩)] w fun e w'=>e=.returned (.tuple #[])∧Lib.BuilderAt 214 5 B b (.pointer (some ⟨b,0,none⟩)) bs w'∧Below B w w'∧KeptB b w w':=by
 obtain⟨j,hj,hjs⟩:=Mb sizeBd;rcases h with h|h
 ·have h0:=h.cell0;have hsh:=h.shape;have hfz:=h.frozen0;go_enter Tryz.func201,Tryz.ntmps201
  go_wp2
  rw[Lib.run_to_unsafe w ⟨b,0,none⟩ Tryz.underlying212 Tryz.underlying310 hj (by rw[hjs];decide) hsh (Nat.zero_lt_succ 1)]
  simp only[Result.andThen];rw[Oper.upon_value];go_wp2
  rw[run_callFunc_extern Tryz.func257 (by kernel_rfl) (by kernel_rfl) (by kernel_rfl) (e:=Extern.AbiNoEscape.same) (by kernel_rfl),Lib.run_noEscape]
  simp only[Result.andThen];rw[Oper.upon_value];go_wp2
  rw[Lib.run_from_unsafe w ⟨b,0,none⟩ Tryz.underlying310 Tryz.underlying212 hj hsh liesBd];simp only[Result.andThen];rw[Oper.upon_value];go_wp2
  go_end0
  exact⟨rfl,h.used _,(Below.refl B w).setCell (p:=⟨b,0,none⟩) h.1 _,KeptB.set b 0 w _⟩
 ·have h0:=h.cell0;go_enter Tryz.func201,Tryz.ntmps201
  go_wp2
  rw[Lib.run_neq_ptr_same w _ Tryz.underlying212 hj];go_wp2
  go_end0
  exact⟨rfl,h,Below.refl B _,KeptB.ofExt b (Ext.refl _)⟩
theorem info5i:∃i,Tryz.prog.info? 5=some i∧i.zero=some (.int .u8 0)∧i.size=1∧i.bytes=1:=info_parts ti5
theorem zN(B b:Nat)(bs:List Value)(s:ByteArray)(w:World)(h:Lib.IsBuilder 214 5 B b bs w)(hlen:bs.length+s.size≤1000000)(hBw:B≤w.heap.size):
 Calls Tryz.prog 134 #[.pointer (some ⟨b,0,none⟩),.string s] w fun e w'=>e=.returned (.tuple #[.int .i64 s.size,.nilIface])∧Lib.IsBuilder 214 5 B b (bs++Lib.strCells s) w'∧Below B w w'∧KeptB b w w':=by
 obtain⟨i0,hi,hz0,hz1,hz2⟩:=info5i;go_enter Tryz.func134,Tryz.ntmps134
 go_wp2_with (go_at_call 201;refine(Ep B b bs _ h).mono ?_)
 rintro e w1 ⟨rfl,h1,hb1,hk1⟩;obtain⟨hB,v,hbk,hown,hne⟩:=h1;have hB1:Blk w1 b 214 #[.pointer (some ⟨b,0,none⟩),v]:=hbk;have c0:=hB1.cell 0;have c1:=hB1.cell 1;simp at c0 c1;have hsz:=hb1.size;have hlt:=hB1.lt;go_wp2_with (at_builtin;refine Lib.wpList_append_own_string _ rfl _ _ 78 9 rfl B 5 i0 Tryz.underlying78 Tryz.underlying9 hi hz0 hz1 hz2 _ _ _ rfl hown s rfl ?c3 ?c4 ?c5 ?_)
 case c3=>unfold maxLen;omega
 case c4=>omega
 case c5=>omega
 intro v' w2 hown' hgrow _;have hb2:Blk w2 b 214 #[.pointer (some ⟨b,0,none⟩),v]:=hB1.grown hgrow (fun e=>hne e.symm)
 have d0:=hb2.cell 0;have d1:=hb2.cell 1;simp at d0 d1;have f1:w2.frozen? ⟨b,1,none⟩=false:=hb2.frozen 1;obtain⟨ao,n',cap,rfl⟩:∃ao n' cap,v'=.slice ao n' cap:=by
  rcases hown'.2 with ⟨hv,_⟩|⟨g,cap,cur,hv,_⟩<;>exact⟨_,_,_,hv⟩
 go_wp2
 go_ret2
 refine⟨rfl,.inr ?_,?_,?_⟩
 ·exact Lib.BuilderAt.put (T:=214) (e:=5) hB hb2 (bs':=bs++Lib.strCells s) (by simpa [Lib.strCells_length] using hown') (by decide)
 ·exact(hb1.grown hgrow (by omega) (fun k hk=>(hown.lt k hk).1)).setCell (p:=⟨b,1,none⟩) hB _
 ·refine(hk1.trans ⟨hgrow.size,fun k o ho hk hc=>(hgrow.block k (Array.getElem?_eq_some_iff.1 ho).1 (fun e=> ?_)).trans ho⟩).trans (KeptB.set b 1 _ _)
  rcases hown.2 with ⟨hv,_⟩|⟨g,cap,cur,hv,_,hg,_⟩
  ·rw[hv] at e;cases e
  ·rw[hv] at e;have:k=g:=by simpa [Value.ownBlock] using e
   subst this;rw[ho] at hg;injection hg with hg
   exact hc _ _ hg
theorem Mz{T e:TypeId}{B b:Nat}{bs:List Value}{w w':World}(h:Lib.IsBuilder T e B b bs w)(k:Ext w w'):Lib.IsBuilder T e B b bs w':=by
 rcases h with ⟨h1,v,h2,h3,h4⟩|⟨h1,v,h2,h3,h4⟩
 ·exact .inl ⟨h1,v,k.heap_some h2,mC h3 k,h4⟩
 ·exact .inr ⟨h1,v,k.heap_some h2,mC h3 k,h4⟩
theorem Fg{w:World}{B b:Nat}(h:Blk w b 214 #[.pointer none,.slice none 0 0])(hB:B≤b):Lib.IsBuilder 214 5 B b [] w:=
 .inl ⟨hB,.slice none 0 0,h,World.ownsRow_nil w B 5 1,by simp[Value.ownBlock]⟩
class BldC (W:World) (g:Nat) (w0:outParam World) (s:outParam (List UInt8)):Prop where h:Lib.IsBuilder 214 5 w0.heap.size g (Lib.byteCells s) W
instance(priority:=900)BldC.step{a b w0:World}{g:Nat}{s:List UInt8}[i:StepC a b][x:BldC a g w0 s]:BldC b g w0 s:=⟨Mz x.h i.h⟩
theorem Nv{w W:World}{g:Nat}(h:BlkC W g 214 [.pointer none,.slice none 0 0])(h2:AtC w g):BldC W g w []:=⟨Fg h.h h2.h⟩
class BldE (s:List UInt8) (t:ByteArray):Prop where h:s.length+t.size≤1000000
instance{W w0:World}{g:Nat}{s:List UInt8}{t:ByteArray}[h:BldC W g w0 s][x:ExtC w0 W][q:BldE s t]:FunC Tryz.prog 134 #[.pointer (some ⟨g,0,none⟩),.string t] W (fun e W'=>e=.returned (.tuple #[.int .i64 t.size,.nilIface])∧StepC w0 W'∧BldC W' g w0 (s++t.data.toList)):=⟨by
 refine(zN w0.heap.size g (Lib.byteCells s) t W h.h (by have:=q.h;simpa [Lib.byteCells] using this) x.h.size).mono ?_
 rintro e W' ⟨rfl,h1,h2,h3⟩;refine⟨rfl,⟨Below.trans x.h h2⟩,⟨?_⟩⟩;have e1:Lib.byteCells s++Lib.strCells t=Lib.byteCells (s++t.data.toList):=by rw[Lib.strCells_eq];simp[Lib.byteCells]
 rw[←e1];exact h1⟩
instance{W w0:World}{g:Nat}{s:List UInt8}[h:BldC W g w0 s][x:ExtC w0 W]:FunC Tryz.prog 137 #[.pointer (some ⟨g,0,none⟩)] W (fun e W'=>e=.returned (.string (S s))∧StepC w0 W'):=⟨by
 refine(Tryz.Builder_String_any w0.heap.size g s W h.h x.h.size).mono ?_;rintro e W' ⟨rfl,h2⟩;exact⟨rfl,⟨Below.trans x.h h2⟩⟩⟩
class TextE (r:Rules) (born:Int) (l:List Event) (t:outParam ByteArray):Prop where h:(r.check.2.2=0∧(0≤born∧born≤40000)∧l.length≤30∧∀x∈l,r.eventErr born x=0)∧S (r.textL born l)=t
theorem Gz(r:Rules)(gf:Nat)(vC vD vT:Value)(vl vf vb born:Int)(vc vp vt vg:Value)(A:Option Addr)(c:Nat)(l:List Event)(w:World)(hB:BlkC w gf 121 [vC,vD,vT,.int .i64 vl,.int .i64 vf,.int .i64 vb,.int .i64 born,.slice A l.length c,vc,vp,vt,vg])(hv:EnvC w)(hR:RulesV w (.agg #[vC,vD,vT,.int .i64 vl,.int .i64 vf,.int .i64 vb]) r)(hL:ListV w (.slice A l.length c) l)(hc:r.check.2.2=0)(hb:0≤born∧born≤40000)(hn:l.length≤30)(he:∀x∈l,r.eventErr born x=0):
 Calls Tryz.prog 80 #[.pointer (some ⟨gf,0,none⟩)] w (RTx w (S (r.textL born l))):=by
 have i0:=EnvB.mk hv.h;have i1:=RulesB.mk hR;have ho:=Rules.ok_of hc;have i2:DatedE born (S (datedL born)):=⟨hb,rfl⟩;have hld:=dT hb.1 hb.2;have hll:∀x∈l,(r.lineL x).length≤190:=fun x hx=>Rules.line_len ho (he x hx)
 have hlk:∀k,k≤l.length→((l.take k).flatMap r.lineL).length≤190*k:=fun k hk=>by
  have key:∀m:List Event,(∀x∈m,x∈l)→(m.flatMap r.lineL).length≤190*m.length:=by
   intro m;induction m with
   |nil=>intro _;simp
   |cons x m ih=>
    intro hm;have h1:=hll x (hm x (by simp))
    have h2:=ih fun y hy=>hm y (by simp[hy])
    rw[List.flatMap_cons,List.length_append,List.length_cons];omega
  have:=key (l.take k) (fun x hx=>List.mem_of_mem_take hx)
  rw[List.length_take] at this;have e:min k l.length=k:=by omega
  rw[e] at this;exact this
 have hte:r.textL born l=(bornW++32::(datedL born++ [10]))++l.flatMap r.lineL:=by unfold Rules.textL;simp
 rw[hte];obtain⟨D,hD⟩:∃D,datedL born=D:=⟨_,rfl⟩;rw[hD] at i2 hld⊢;have c1:CatC ⟨#[98,111,114,110,32]⟩ (S D) (S (bornW++32::D)):=⟨by rw[show(⟨#[98,111,114,110,32]⟩:ByteArray)=S (bornW++ [32]) from rfl,rN];simp,by rw[fR];show 5+_≤_;omega⟩
 have c2:CatC (S (bornW++32::D)) ⟨#[10]⟩ (S (bornW++32::(D++ [10]))):=⟨by rw[show(⟨#[10]⟩:ByteArray)=S [10] from rfl,rN];simp,by rw[fR];simp[bornW];show _+1≤_;omega⟩
 obtain⟨H,hH⟩:∃H,bornW++32::(D++ [10])=H:=⟨_,rfl⟩;have hhl:H.length≤30:=by rw[←hH];simp[bornW];omega
 rw[hH] at c2⊢;have b1:BldE [] (S H):=⟨by rw[fR];simp;omega⟩
 have He:=Lib.hid he;have Hlk:=Lib.hid hlk;have Hll:=Lib.hid hll;have hcap:=hL.caps;clear hR hv hD hH hld hb hte he hlk hll ho;go_enter Tryz.func80,Tryz.ntmps80
 go_wp2_with (first|(with_reducible refine aR ?_;intro Vn gb hEn hBn hAn;(have iB0:=Nv hBn hAn))|(with_reducible refine aB ?_;rintro _ Vb ⟨rfl,(_:StepC _ _),(hBb:BldC _ _ _ _)⟩)|(with_reducible refine oP (by with_unfolding_all rfl) (by with_unfolding_all rfl) (by infer_instance) ?_)|(first|(with_reducible refine aA ?_)|(with_reducible refine aB ?_;first|rintro _ V ⟨rfl,(_:StepC _ _)⟩)))
 rw[List.nil_append,nS] at hBb;go_loopw [19] (fun iv wr=>StepC w wr∧∃k:Nat,k≤l.length∧iv=.int .i64 k∧BldC wr gb w (H++(l.take k).flatMap r.lineL)) (fun iv _=>l.length-(RowKit.intOf iv).toNat)
 case atStart=>exact⟨inferInstance,0,by omega,rfl,by simpa using hBb⟩
 case round=>
  obtain⟨_,k,hk,rfl,hBl⟩:=hrel;by_cases lk:k<l.length
  ·obtain⟨ad,rfl,hcc⟩:=hL.elem lk;have hev:=He.out _ (List.getElem_mem lk);have hsu:(l.take (k+1)).flatMap r.lineL=(l.take k).flatMap r.lineL++r.lineL l[k]:=by rw[List.take_add_one,List.flatMap_append];simp[lk]
   have hl1:=Hlk.out k hk;have hl2:=Hll.out _ (List.getElem_mem lk);obtain⟨⟨kd,dy,⟨xc,xo⟩,ti,cl,po,un,mi⟩,hx⟩:∃x,l[k]=x:=⟨_,rfl⟩;rw[hx] at hcc hev hsu hl2;have j1:CellsB w (ad.add (k*9)) [.int .i64 kd,.int .i64 dy,.int .i64 xc,.int .i64 xo,.int .i64 ti,.int .i64 cl,.int .i64 po,.int .i64 un,.int .i64 mi]:=⟨hcc⟩;obtain⟨N,hN⟩:∃N,r.lineL ⟨kd,dy,⟨xc,xo⟩,ti,cl,po,un,mi⟩=N:=⟨_,rfl⟩;rw[hN] at hsu hl2;have j2:LineE r ⟨kd,dy,⟨xc,xo⟩,ti,cl,po,un,mi⟩ (S N):=⟨hc,⟨born,hev⟩,by rw[hN]⟩
   obtain⟨T,hT⟩:∃T,(l.take k).flatMap r.lineL=T:=⟨_,rfl⟩;rw[hT] at hl1 hsu hBl;have j3:BldE (H++T) (S N):=⟨by rw[fR,List.length_append];omega⟩
   have Hsu:=Lib.hid hsu;clear hcc hev hsu hx hN hT;go_wp2_with (first|(with_reducible refine aG (uu:=5) ?_;intro V5 g5 hE5 hB5 hA5)|(with_reducible refine aB ?_;rintro _ Vb ⟨rfl,(_:StepC _ _),(hBb:BldC _ _ _ _)⟩)|(first|(with_reducible refine aA ?_)|(with_reducible refine aB ?_;first|rintro _ V ⟨rfl,(_:StepC _ _)⟩)))
   rw[nS] at hBb;exact⟨⟨inferInstance,k+1,lk,by push_cast;rfl,by rw[Hsu.out,←List.append_assoc];exact hBb⟩,by simp[RowKit.intOf];omega⟩
  ·obtain rfl:k=l.length:=by omega
   rw[List.take_length] at hBl;go_wp2_with (first|(with_reducible refine aB ?_;first|rintro _ V ⟨rfl,(_:StepC _ _)⟩))
   go_ret
   exact⟨rfl,⟨ExtC.h⟩⟩
instance(priority:=600){W:World}{gf n c:Nat}{vC vD vT vc vp vt vg:Value}{A:Option Addr}{vl vf vb born:Int}{r:Rules}{l:List Event}{t:ByteArray}[h:BlkC W gf 121 [vC,vD,vT,.int .i64 vl,.int .i64 vf,.int .i64 vb,.int .i64 born,.slice A n c,vc,vp,vt,vg]][hv:EnvC W][hR:RulesC W (.agg #[vC,vD,vT,.int .i64 vl,.int .i64 vf,.int .i64 vb]) r][hL:ListC Event W (.slice A n c) l][q:TextE r born l t]:
 FunC Tryz.prog 80 #[.pointer (some ⟨gf,0,none⟩)] W (RTx W t):=⟨by
 obtain⟨⟨hc,hb,hn,he⟩,rfl⟩:=q.h;obtain rfl:=hL.h.caps.1;exact Gz r gf vC vD vT vl vf vb born vc vp vt vg A c l W h hv hR.h hL.h hc hb hn he⟩
class WriteRE (r:Rules) (p:Person) (t:outParam (List UInt8)) (n:outParam Int):Prop where h:r.writeAns p=(t,n)
theorem Gi(r:Rules)(p:Person)(v pv:Value)(t:List UInt8)(n:Int)(w:World)(h:RulesV w v r)(hp:PersonV w pv p)(hv:EnvC w)(hs:r.writeAns p=(t,n)):Calls Tryz.prog 38 #[v,pv] w (RTxI w (S t) n):=by
 obtain⟨A1,n1,c1,A2,n2,c2,A3,n3,c3,rfl⟩:=h.form;obtain⟨A,c,rfl,hl⟩:=hp.h;have i1:=RulesB.mk h;have i2:=PersonB.mk hp;have i0:=EnvB.mk hv.h;clear hv;unfold Rules.writeAns at hs;by_cases hz:r.personErr p=0
 ·rw[if_neg (by simp[hz])] at hs
  injection hs with m1 m2
  subst m1 m2;have i3:PersOk r p:=⟨hz⟩;obtain⟨hck,hbo,hn,hev⟩:=Rules.person_ok hz;have i4:TextE r p.born (sortE p.events) (S (r.textL p.born (sortE p.events))):=⟨⟨hck,hbo,by have:=Rules.sortE_len p.events;omega,fun x hx=>hev x ((cZ _ _).1 hx)⟩,rfl⟩
  clear hz hev hck hn hbo;go_enter Tryz.func38,Tryz.ntmps38
  go_wp2_with (first|(with_reducible refine aB ?_;rintro _ Vo ⟨gf,gt,Ae,ce,Ac,cc,Ap,cp,Ag,cg,tkn,rfl,(_:BlkC _ _ _ _),(_:RowC _ _ _ _ _ _ _),(_:RowC _ _ _ _ _ _ _),(_:RowC _ _ _ _ _ _ _),(_:RowC _ _ _ _ _ _ _),(_:MapC _ _ _ _),hTk,hagf,hagt,(_:StepC _ _)⟩)|(first|(with_reducible refine aA ?_)|(with_reducible refine aB ?_;first|rintro _ V ⟨rfl,(_:StepC _ _)⟩)|(with_reducible refine aH ?_;intro V g _ _ _)))
  go_ret2
  exact⟨rfl,⟨ExtC.h⟩⟩
 ·rw[if_pos hz] at hs;injection hs with m1 m2
  subst m1 m2;have i3:PersBad r p _:=⟨rfl,hz⟩;have q:(r.personErr p !=0)=true:=by simpa using hz
  obtain⟨er,her⟩:∃e,r.personErr p=e:=⟨_,rfl⟩;rw[her] at i3 q⊢;clear hz her;go_enter Tryz.func38,Tryz.ntmps38
  go_wp2_with (first|(first|(with_reducible refine aA ?_)|(with_reducible refine aB ?_;first|rintro _ V ⟨rfl,(_:StepC _ _)⟩)|(with_reducible refine aH ?_;intro V g _ _ _)))
  go_ret2
  exact⟨rfl,⟨ExtC.h⟩⟩
instance{W:World}{v pv:Value}{r:Rules}{p:Person}{t:List UInt8}{n:Int}[h:RulesC W v r][hp:PersonC W pv p][hv:EnvC W][q:WriteRE r p t n]:FunC Tryz.prog 38 #[v,pv] W (RTxI W (S t) n):=⟨Gi r p v pv t n W h.h hp.h hv q.h⟩
end Go.Rg
end
