/- Chapter 11: contracts of functions of the program and of the reference, and plain laws (out of RYj RYk). No condition of its own. -/
import Derived.Test.YtbfbepnkofampaaGreatDoorYPX03
set_option maxRecDepth 100000
set_option linter.all false
section
namespace Go.Rg
open Go Go.Bp Go.RowKit Go.Walk Go.Proofs
set_option synthInstance.maxSize 2000
set_option synthInstance.maxHeartbeats 400000
set_option maxHeartbeats 4000000
instance tyYj1:TyNe 239 80:=⟨by decide⟩
instance tyYj2:TyNe 32 80:=⟨by decide⟩
instance tyYj3:TyNe 32 95:=⟨by decide⟩
instance tyYj4:TyNe 32 137:=⟨by decide⟩
abbrev FOpen(W:World)(vC vD vT:Value)(r:Rules)(born:Int)(l:List Event)(e:Ending)(W':World):Prop:=
 ∃gf gt Ae ce Ac cc Ap cp Ag cg tkn,e=.returned (.tuple #[.pointer (some ⟨gf,0,none⟩),.int .i64 0])∧
  BlkC W' gf 121 [vC,vD,vT,.int .i64 r.limit,.int .i64 r.fall,.int .i64 r.ban,.int .i64 born,.slice Ae l.length ce,.slice Ac (courts l).length cc,.slice Ap (r.offs l).bans.length cp,.map (some gt),.slice Ag (r.grants born l).length cg]∧
  RowC W' (.slice Ae l.length ce) W 80 9 l.length (encL l)∧RowC W' (.slice Ac (courts l).length cc) W 95 2 (courts l).length (encL (courts l))∧RowC W' (.slice Ap (r.offs l).bans.length cp) W 95 2 (r.offs l).bans.length (encL (r.offs l).bans)∧
  RowC W' (.slice Ag (r.grants born l).length cg) W 137 5 (r.grants born l).length (encL (r.grants born l))∧MapC Int W' gt tkn∧(∀d,getL tkn d=whenIn (r.offs l).taken d)∧AtC W gf∧AtC W gt∧StepC W W'
theorem off_pts{r:Rules}{born:Int}{x:Event}(h:r.eventErr born x=0):0≤x.points∧x.points≤20:=by
 obtain⟨_,hs⟩:=event_shape h;rcases hs with ⟨y,m',e,_⟩|⟨t',e,_⟩|⟨t',e,_⟩|⟨t',e,h⟩|⟨t',e,_⟩<;>rw[e]<;>simp<;>omega
theorem rules_nums{W:World}{vC vD vT:Value}{vl vf vb:Int}{r:Rules}(h:RulesV W (.agg #[vC,vD,vT,.int .i64 vl,.int .i64 vf,.int .i64 vb]) r):vl=r.limit∧vf=r.fall∧vb=r.ban:=by
 obtain⟨A1,n1,c1,A2,c2,A3,c3,e,hh⟩:=h.h;injection e with e
 have e:=congrArg Array.toList e;simp at e;exact e.2.2.2
set_option maxHeartbeats 8000000 in
theorem open_chk(r:Rules)(vC vD vT:Value)(vl vf vb born e:Int)(A:Option Addr)(l:List Event)(c:Nat)(w:World)(h:RulesV w (.agg #[vC,vD,vT,.int .i64 vl,.int .i64 vf,.int .i64 vb]) r)(hl:ListV w (.slice A l.length c) l)(he:e≠0)
 (hx:r.check=(0,0,0)∧outB 0 40000 [born]=false∧l.length≤30∧(firstE l fun _ x=>r.eventErr born x).2=e):
 Calls Tryz.prog 61 #[.agg #[vC,vD,vT,.int .i64 vl,.int .i64 vf,.int .i64 vb],.agg #[.int .i64 born,.slice A l.length c]] w (RNil w e):=by
 obtain⟨rfl,rfl,rfl⟩:=rules_nums h;have i1:=RulesB.mk h;have i2:=ListB.mk hl;have hcap:=hl.caps;obtain⟨hc,q1,hn,hfe⟩:=hx;have i3:=RChkE.mk hc;have i4:SysOk r.sys:=sysOk_of (by rw[hc])
 have i5:LenC l:=⟨by omega⟩
 have q3:decide ((l.length:Int)≤30)=true:=by simp;omega
 obtain⟨⟨fa,fe⟩,hf⟩:∃x,(firstE l fun _ x=>r.eventErr born x)=x:=⟨_,rfl⟩
 rw[hf] at hfe;simp only at hfe;subst hfe;have q2:(fe==0)=false:=by simpa using he
 clear hc he;go_enter_defers Tryz.func61,Tryz.ntmps61
 go_wp2_with (first|(with_reducible refine box_c (d:=some 2) ?_;intro V2 g2 hE2 hB2 hA2)|(with_reducible refine box_c (d:=some 3) ?_;intro V3 g3 hE3 hB3 hA3)|(with_reducible refine alloc_c (d:=some 4) ?_;intro V4 g4 hE4 hB4 hA4)|(with_reducible refine alloc_c (d:=some 5) ?_;intro V5 g5 hE5 hB5 hA5)|(with_reducible refine store_c ?_;intro Vs hS hSB)|(first|(with_reducible refine load_c ?_)|(with_reducible refine call_c ?_;first|rintro _ V ⟨rfl,(_:StepC _ _)⟩)|(with_reducible refine bslice_c ?_;intro V g _ _ _)))
 obtain⟨V0,hV0⟩:∃X,X=V:=⟨_,rfl⟩;subst hV0;have nm4:BlkC V0 g4 115 [.pointer none]:=inferInstance;have nm2:BlkC V0 g2 28 [vC,vD,vT,.int .i64 r.limit,.int .i64 r.fall,.int .i64 r.ban]:=inferInstance;have nm3:BlkC V0 g3 31 [.int .i64 born,.slice A l.length c]:=inferInstance;refine wp_cutG [28,29,30,31,32,33,34,35,36,37] (fun x W'=>∃gf gt A2 c2 V2,x 37=.pointer (some ⟨gf,0,none⟩)∧BlkC W' g4 115 [.pointer (some ⟨gf,0,none⟩)]∧BlkC W' gf 121 [vC,vD,vT,.int .i64 r.limit,.int .i64 r.fall,.int .i64 r.ban,.int .i64 born,.slice A2 l.length c2,.slice none 0 0,.slice none 0 0,.map (some gt),.slice none 0 0]∧MapC Int W' gt []∧RowC W' (.slice A2 l.length c2) V0 80 9 l.length (encL l)∧AtC V0 gf∧AtC V0 gt∧StepC V0 V2∧StoreC V2 W' g4) ?h6 ?k6
 case h6=>
  refine wp_rt ((.take 0 (.take 1 (.take 2 (.take 3 (.take 4 (.take 5 (.two 6 (.one 7 (.take 8 (.one 9 (.one 10 .nil)))) 7 (.one 6 (.take 8 (.one 9 (.one 10 .nil)))))))))))) (fun w'=>Ext w w'∧Blk w' g2 28 #[vC,vD,vT,.int .i64 r.limit,.int .i64 r.fall,.int .i64 r.ban]∧Blk w' g3 31 #[.int .i64 born,.slice A l.length c]) ?_ (fun hHd=> ?_) (hQ:=by intro _ _ _ _ _ h;exact absurd h.1 (fun e=>by cases e))
  ·exact⟨ExtC.h,(inferInstance:BlkC _ g2 28 _).h,(inferInstance:BlkC _ g3 31 _).h⟩
  repeat' first|((with_reducible refine t_tk ?_);(first|(refine tk (v:= ?_) ?_ hHd ?_;rotate_left;(·(intro W' h;obtain⟨h,ha,hb⟩:=h;have:=StepC.mk h;have i6:BlkC W' g2 28 [vC,vD,vT,.int .i64 r.limit,.int .i64 r.fall,.int .i64 r.ban]:=⟨ha⟩;have i7:BlkC W' g3 31 [.int .i64 born,.slice A l.length c]:=⟨hb⟩;first|with_reducible exact run_lc)))|(refine tk (v:= ?_) ?_ hHd ?_;rotate_left;(·(intro wq hSw;go_simp;(try with_reducible rfl)))));(try simp only[pS]))|((with_reducible refine t_on ?_);refine t_one (by simp only[gS];rfl) ?_)|((with_reducible refine t_tw ?_);refine t_two (by simp only[gS];rfl) (by simp only[gS];rfl) ?_ ?_)|(with_reducible refine makeMap_c Int ?_;intro Vm gm hEm hMm hAm)|(with_reducible refine store_c ?_;intro Vs hS hSB)|(with_reducible refine box_c ?_;intro Vb gb hEb hBb hAb)|((with_reducible refine callop_c ?_);first|(rintro _ Vc ⟨Ac,kc,rfl,(hRc:RowC _ _ _ _ _ _ _),(_:StepC _ _)⟩;refine⟨_,rfl,?_⟩))|((with_reducible refine q_nl ?_);clear hHd;refine t_next ⟨ExtC.h,(inferInstance:BlkC _ g2 28 _).h,(inferInstance:BlkC _ g3 31 _).h⟩ (fun hHd=> ?_);(try simp only[pS]))|(with_reducible refine t_done ?_)
  all_goals
   have e0:Ext V0 Vb:=ExtC.h;refine⟨rfl,cut_ex ?_ ⟨gb,gm,Ac,kc,Vb,rfl,inferInstance,inferInstance,inferInstance,(RowC.base (inferInstance:RowC Vs (.slice Ac l.length kc) _ 80 9 l.length (encL l)) (ExtC.h:Ext V0 _).size),⟨Nat.le_trans (ExtC.h:Ext V0 _).size hAb.h⟩,⟨Nat.le_trans (ExtC.h:Ext V0 _).size hAm.h⟩,⟨e0⟩,inferInstance⟩⟩;simp only[Act.sets,Act.put,List.foldl_cons,List.foldl_nil,List.setIfInBounds_toArray,List.set_cons_zero,List.set_cons_succ,Act.get];rfl
 rintro x6 W6 ⟨gf,gt,A2,c2,V6,hx6,(_:BlkC _ _ _ _),(_:BlkC _ _ _ _),(_:MapC _ _ _ _),(_:RowC _ _ _ _ _ _ _),haf,hat,(_:StepC _ _),(_:StoreC _ _ _)⟩;simp only[Act.sets,Act.put,List.foldl_cons,List.foldl_nil,List.setIfInBounds_toArray,List.set_cons_zero,List.set_cons_succ,hx6];clear hx6;go_wp2_with (first|(with_reducible refine store_c ?_;intro Vs hS hSB)|(first|(with_reducible refine load_c ?_)|(with_reducible refine call_c ?_;first|rintro _ V ⟨rfl,(_:StepC _ _)⟩))|(go_at_call 85;with_reducible refine(must_f _ _).mono ?_;rintro _ Vm ⟨rfl,rfl⟩))
 show bodyPostD _ _ _ (.panic (errForm fe)) _ _
 exact open_fail (g4:=g4) (g5:=g5) rfl rfl rfl (by infer_instance) (by infer_instance) ExtC.h (AtC.up hA4) (AtC.up hA5)
set_option maxHeartbeats 8000000 in
theorem open_ok(r:Rules)(vC vD vT:Value)(vl vf vb born:Int)(A:Option Addr)(l:List Event)(c:Nat)(w:World)(h:RulesV w (.agg #[vC,vD,vT,.int .i64 vl,.int .i64 vf,.int .i64 vb]) r)(hl:ListV w (.slice A l.length c) l)(hp:r.personErr ⟨born,l⟩=0):
 Calls Tryz.prog 61 #[.agg #[vC,vD,vT,.int .i64 vl,.int .i64 vf,.int .i64 vb],.agg #[.int .i64 born,.slice A l.length c]] w (FOpen w vC vD vT r born (sortE l)):=by
 obtain⟨rfl,rfl,rfl⟩:=rules_nums h;have i1:=RulesB.mk h;have i2:=ListB.mk hl;have hcap:=hl.caps;obtain⟨hc,hb,hn,hev⟩:=Rules.person_ok hp;simp only at hb hn hev;have i3:=RChkE.mk (rcheck_zero hc);have i4:SysOk r.sys:=sysOk_of hc;have i5:LenC l:=⟨by omega⟩
 have q3:decide ((l.length:Int)≤30)=true:=by simp;omega
 have q1:outB 0 40000 [born]=false:=by rw[outB_1,inB_t.2 hb];rfl
 have hfe:(firstE l fun _ x=>r.eventErr born x)=(0,0):=firstE_none fun i hi=>hev _ (List.getElem_mem hi)
 have hfr:=(Rules.ok_of hc);have Hck:=Lib.hid hc;have Hev:=Lib.hid hev;have Hfr:=Lib.hid hfr;clear hc hev hfr hp;go_enter_defers Tryz.func61,Tryz.ntmps61
 go_wp2_with (first|(with_reducible refine box_c (d:=some 2) ?_;intro V2 g2 hE2 hB2 hA2)|(with_reducible refine box_c (d:=some 3) ?_;intro V3 g3 hE3 hB3 hA3)|(with_reducible refine alloc_c (d:=some 4) ?_;intro V4 g4 hE4 hB4 hA4)|(with_reducible refine alloc_c (d:=some 5) ?_;intro V5 g5 hE5 hB5 hA5)|(with_reducible refine store_c ?_;intro Vs hS hSB)|(first|(with_reducible refine load_c ?_)|(with_reducible refine call_c ?_;first|rintro _ V ⟨rfl,(_:StepC _ _)⟩)|(with_reducible refine bslice_c ?_;intro V g _ _ _)))
 obtain⟨V0,hV0⟩:∃X,X=V:=⟨_,rfl⟩;subst hV0;have nm4:BlkC V0 g4 115 [.pointer none]:=inferInstance;have nm2:BlkC V0 g2 28 [vC,vD,vT,.int .i64 r.limit,.int .i64 r.fall,.int .i64 r.ban]:=inferInstance;have nm3:BlkC V0 g3 31 [.int .i64 born,.slice A l.length c]:=inferInstance;refine wp_cutG [28,29,30,31,32,33,34,35,36,37] (fun x W'=>∃gf gt A2 c2 V2,x 37=.pointer (some ⟨gf,0,none⟩)∧BlkC W' g4 115 [.pointer (some ⟨gf,0,none⟩)]∧BlkC W' gf 121 [vC,vD,vT,.int .i64 r.limit,.int .i64 r.fall,.int .i64 r.ban,.int .i64 born,.slice A2 l.length c2,.slice none 0 0,.slice none 0 0,.map (some gt),.slice none 0 0]∧MapC Int W' gt []∧RowC W' (.slice A2 l.length c2) V0 80 9 l.length (encL l)∧AtC V0 gf∧AtC V0 gt∧StepC V0 V2∧StoreC V2 W' g4) ?h6 ?k6
 case h6=>
  refine wp_rt ((.take 0 (.take 1 (.take 2 (.take 3 (.take 4 (.take 5 (.two 6 (.one 7 (.take 8 (.one 9 (.one 10 .nil)))) 7 (.one 6 (.take 8 (.one 9 (.one 10 .nil)))))))))))) (fun w'=>Ext w w'∧Blk w' g2 28 #[vC,vD,vT,.int .i64 r.limit,.int .i64 r.fall,.int .i64 r.ban]∧Blk w' g3 31 #[.int .i64 born,.slice A l.length c]) ?_ (fun hHd=> ?_) (hQ:=by intro _ _ _ _ _ h;exact absurd h.1 (fun e=>by cases e))
  ·exact⟨ExtC.h,(inferInstance:BlkC _ g2 28 _).h,(inferInstance:BlkC _ g3 31 _).h⟩
  repeat' first|((with_reducible refine t_tk ?_);(first|(refine tk (v:= ?_) ?_ hHd ?_;rotate_left;(·(intro W' h;obtain⟨h,ha,hb⟩:=h;have:=StepC.mk h;have i6:BlkC W' g2 28 [vC,vD,vT,.int .i64 r.limit,.int .i64 r.fall,.int .i64 r.ban]:=⟨ha⟩;have i7:BlkC W' g3 31 [.int .i64 born,.slice A l.length c]:=⟨hb⟩;first|with_reducible exact run_lc)))|(refine tk (v:= ?_) ?_ hHd ?_;rotate_left;(·(intro wq hSw;go_simp;(try with_reducible rfl)))));(try simp only[pS]))|((with_reducible refine t_on ?_);refine t_one (by simp only[gS];rfl) ?_)|((with_reducible refine t_tw ?_);refine t_two (by simp only[gS];rfl) (by simp only[gS];rfl) ?_ ?_)|(with_reducible refine makeMap_c Int ?_;intro Vm gm hEm hMm hAm)|(with_reducible refine store_c ?_;intro Vs hS hSB)|(with_reducible refine box_c ?_;intro Vb gb hEb hBb hAb)|((with_reducible refine callop_c ?_);first|(rintro _ Vc ⟨Ac,kc,rfl,(hRc:RowC _ _ _ _ _ _ _),(_:StepC _ _)⟩;refine⟨_,rfl,?_⟩))|((with_reducible refine q_nl ?_);clear hHd;refine t_next ⟨ExtC.h,(inferInstance:BlkC _ g2 28 _).h,(inferInstance:BlkC _ g3 31 _).h⟩ (fun hHd=> ?_);(try simp only[pS]))|(with_reducible refine t_done ?_)
  all_goals
   have e0:Ext V0 Vb:=ExtC.h;refine⟨rfl,cut_ex ?_ ⟨gb,gm,Ac,kc,Vb,rfl,inferInstance,inferInstance,inferInstance,(RowC.base (inferInstance:RowC Vs (.slice Ac l.length kc) _ 80 9 l.length (encL l)) (ExtC.h:Ext V0 _).size),⟨Nat.le_trans (ExtC.h:Ext V0 _).size hAb.h⟩,⟨Nat.le_trans (ExtC.h:Ext V0 _).size hAm.h⟩,⟨e0⟩,inferInstance⟩⟩;simp only[Act.sets,Act.put,List.foldl_cons,List.foldl_nil,List.setIfInBounds_toArray,List.set_cons_zero,List.set_cons_succ,Act.get];rfl
 rintro x6 W6 ⟨gf,gt,A2,c2,V6,hx6,(_:BlkC _ _ _ _),(_:BlkC _ _ _ _),(_:MapC _ _ _ _),(_:RowC _ _ _ _ _ _ _),haf,hat,(_:StepC _ _),(_:StoreC _ _ _)⟩;simp only[Act.sets,Act.put,List.foldl_cons,List.foldl_nil,List.setIfInBounds_toArray,List.set_cons_zero,List.set_cons_succ,hx6];clear hx6;go_wp2_with (first|(with_reducible refine store_c ?_;intro Vs hS hSB)|(first|(with_reducible refine load_c ?_)|(with_reducible refine call_c ?_;first|rintro _ V ⟨rfl,(_:StepC _ _)⟩)))
 have j1:LtC l.length:=⟨by omega⟩
 refine wp_only ?_;refine wp_rt ((.take 0 (.take 1 (.take 2 (.take 3 (.one 4 (.one 5 .nil))))))) (fun w'=>Ext w w'∧Blk w' g4 115 #[.pointer (some ⟨gf,0,none⟩)]∧Blk w' gf 121 #[vC,vD,vT,.int .i64 r.limit,.int .i64 r.fall,.int .i64 r.ban,.int .i64 born,.slice A2 l.length c2,.slice none 0 0,.slice none 0 0,.map (some gt),.slice none 0 0]) ?_ (fun hHd=> ?_) (hQ:=by intro _ _ _ _ _ h;exact absurd h.1 (fun e=>by cases e))
 ·exact⟨ExtC.h,(inferInstance:BlkC _ g4 115 _).h,(inferInstance:BlkC _ gf 121 _).h⟩
 repeat' first|((with_reducible refine t_tk ?_);(first|(refine tk (v:= ?_) ?_ hHd ?_;rotate_left;(·(intro W' h;obtain⟨h,ha,hb⟩:=h;have:=StepC.mk h;have i6:BlkC W' g4 115 [.pointer (some ⟨gf,0,none⟩)]:=⟨ha⟩;have i7:BlkC W' gf 121 [vC,vD,vT,.int .i64 r.limit,.int .i64 r.fall,.int .i64 r.ban,.int .i64 born,.slice A2 l.length c2,.slice none 0 0,.slice none 0 0,.map (some gt),.slice none 0 0]:=⟨hb⟩;first|with_reducible exact run_lc)))|(refine tk (v:= ?_) ?_ hHd ?_;rotate_left;(·(intro wq hSw;go_simp;(try with_reducible rfl)))));(try simp only[pS]))|((with_reducible refine t_on ?_);refine t_one (by simp only[gS];rfl) ?_)|((with_reducible refine callop_c ?_);first|(rintro _ V ⟨gq,rfl,_,(_:StepC _ _)⟩;refine⟨_,rfl,?_⟩)|(rintro _ Vc ⟨lc,rfl,hlc,(hRc:RowC _ _ _ _ _ _ _),(hGc:GrowC _ _ _ _)⟩;refine⟨_,rfl,?_⟩))|((with_reducible refine q_nl ?_);clear hHd;refine t_next ⟨ExtC.h,(inferInstance:BlkC _ g4 115 _).h,(inferInstance:BlkC _ gf 121 _).h⟩ (fun hHd=> ?_);(try simp only[pS]))|(with_reducible refine t_done ?_)
 refine⟨rfl,?_⟩;have hll:l.length=lc.length:=hlc.1.length_eq.symm;have jN:LenN lc l.length:=⟨hll,by omega⟩
 have hdd:dd lc=sortE l:=dd_sortE hlc.1 hlc.2;obtain⟨L,hL⟩:∃L,dd lc=L:=⟨_,rfl⟩;have Hll:=Lib.hid hll;have HL:=Lib.hid hL;clear hll;go_wp2
 refine wp_only ?_;refine wp_rt ((.take 0 (.take 1 (.take 2 (.take 3 (.one 4 (.one 5 (.take 6 (.take 7 (.one 8 .nil)))))))))) (fun w'=>Ext w w'∧Blk w' g4 115 #[.pointer (some ⟨gf,0,none⟩)]) ?_ (fun hHd=> ?_) (hQ:=by intro _ _ _ _ _ h;exact absurd h.1 (fun e=>by cases e))
 ·exact⟨ExtC.h,(inferInstance:BlkC _ g4 115 _).h⟩
 repeat' first|((with_reducible refine t_tk ?_);(first|(refine tk (v:= ?_) ?_ hHd ?_;rotate_left;(·(intro W' h;obtain⟨h,ha⟩:=h;have:=StepC.mk h;have i6:BlkC W' g4 115 [.pointer (some ⟨gf,0,none⟩)]:=⟨ha⟩;first|with_reducible exact run_lc)))|(refine tk (v:= ?_) ?_ hHd ?_;rotate_left;(·(intro wq hSw;go_simp;(try with_reducible rfl)))));(try simp only[pS]))|((with_reducible refine t_on ?_);refine t_one (by simp only[gS];rfl) ?_)|(with_reducible refine load_c ?_)|(with_reducible refine store_c ?_;intro Vs hS hSB)|((with_reducible refine callop_c ?_);first|(rintro _ Vc ⟨Ac,kc,rfl,(hRc:RowC _ _ _ _ _ _ _),(hGc:GrowC _ _ _ _)⟩;refine⟨_,rfl,?_⟩))|((with_reducible refine q_nl ?_);clear hHd;refine t_next ⟨ExtC.h,(inferInstance:BlkC _ g4 115 _).h⟩ (fun hHd=> ?_);(try simp only[pS]))|(with_reducible refine t_done ?_)
 refine⟨rfl,?_⟩;rw[hdd] at hL;subst hL;have hR10:RowC Vs (.slice Ac (dd lc).length kc) V0 80 9 (dd lc).length (encL (dd lc)):=inferInstance;have hX10:Ext w Vs:=ExtC.h;have hE0:Ext w V0:=ExtC.h;have hs0:V0.heap.size≤Vs.heap.size:=by
  have h1:=haf.h;have h2:=(inferInstance:BlkC Vs gf 121 _).h.lt;omega
 have hM10:MapC Int Vs gt []:=inferInstance;have hB10:=hSB;have h410:BlkC Vs g4 115 [.pointer (some ⟨gf,0,none⟩)]:=inferInstance;have h510:BlkC Vs g5 32 [.int .i64 0]:=inferInstance;have h4lt:g4<V0.heap.size:=nm4.h.lt;have h5lt:g5<V0.heap.size:=(inferInstance:BlkC V0 g5 32 [.int .i64 0]).h.lt;rw[hdd] at hR10 hB10⊢;obtain⟨T,hT1,hT2,hT3,hT4⟩:=trunc Vs V0.heap.size hs0;have hgf:T.heap.size≤gf:=by rw[hT1];exact haf.h
 have hgt:T.heap.size≤gt:=by rw[hT1];exact hat.h
 have hwT:Ext w T:=hT3 w hX10 hE0.size;have t4:=hT4 g4 115 _ h410 h4lt;have t5:=hT4 g5 32 _ h510 h5lt;have hRT:=hR10.base (v0:=T) (by rw[hT1];exact Nat.le_refl _)
 have hev:=Hev.out;have hev2:∀x∈sortE l,r.eventErr born x=0:=fun x hx=>hev x ((sortE_mem _ _).1 hx)
 have hln:(sortE l).length≤30:=Nat.le_trans (Rules.sortE_len l) hn;have hdy:∀x∈sortE l,0≤x.day∧x.day≤40000:=fun x hx=>⟨(event_shape (hev2 x hx)).1.1,(event_shape (hev2 x hx)).1.2.1⟩
 have hpt:∀x∈sortE l,0≤x.points∧x.points≤20:=fun x hx=>off_pts (hev2 x hx)
 have hof:=fun(W:World)(hW:Ext T W)(a:BlkC W gf 121 [vC,vD,vT,.int .i64 r.limit,.int .i64 r.fall,.int .i64 r.ban,.int .i64 born,.slice Ac (sortE l).length kc,.slice none 0 0,.slice none 0 0,.map (some gt),.slice none 0 0])(b:MapC Int W gt [])(c:RowC W (.slice Ac (sortE l).length kc) T 80 9 (sortE l).length (encL (sortE l)))=>offences_any r (sortE l) T W gf gt vC vD vT born Ac kc hW hgf hgt hln hdy hpt Hfr.out.fall Hfr.out.ban
 have iRT:RulesB T (.agg #[vC,vD,vT,.int .i64 r.limit,.int .i64 r.fall,.int .i64 r.ban]) r:=⟨h.ext hwT⟩;have hgr:=fun(W:World)(hW:Ext T W)(Ad:Option Addr)(kd:Nat)(Ap:Option Addr)(kp:Nat)(tkn:List (Int×Int))(a:BlkC W gf 121 [vC,vD,vT,.int .i64 r.limit,.int .i64 r.fall,.int .i64 r.ban,.int .i64 born,.slice Ac (sortE l).length kc,.slice Ad (courts (sortE l)).length kd,.slice Ap (r.offs (sortE l)).bans.length kp,.map (some gt),.slice none 0 0])(b:MapC Int W gt tkn)(c:RowC W (.slice Ac (sortE l).length kc) T 80 9 (sortE l).length (encL (sortE l)))
  (d:RowC W (.slice Ad (courts (sortE l)).length kd) T 95 2 (courts (sortE l)).length (encL (courts (sortE l))))(e:RowC W (.slice Ap (r.offs (sortE l)).bans.length kp) T 95 2 (r.offs (sortE l)).bans.length (encL (r.offs (sortE l)).bans))=>grant_any gf gt vC vD vT r born (sortE l) T W Ac kc Ad kd Ap kp tkn hW hgf hgt hln Hck.out hev2 hb
 have Hof:=Lib.hid hof;have Hgr:=Lib.hid hgr;obtain⟨W10,hW10⟩:∃X,X=Vs:=⟨_,rfl⟩;subst hW10;clear hof hgr hpt hdy hev2 hev hdd HL hM10 hR10;go_wp2_with (first|(refine Calls.mono (Hof.out _ hT2 hB10 inferInstance hRT) ?_;rintro _ W11 ⟨rfl,hE11,hRE,Ad,kd,Ap,kp,tkn,hB11,hRC,hRP,hM11,hT11⟩;have s11:StepC T W11:=⟨hE11⟩)|(refine Calls.mono (Hgr.out _ hE11 Ad kd Ap kp tkn hB11 hM11 hRE hRC hRP) ?_;rintro _ W12 ⟨rfl,hE12,hRE2,hRC2,hRP2,hM12,Ag,kg,hB12,hRG⟩;have s12:StepC T W12:=⟨hE12⟩)|(with_reducible refine store_c ?_;intro Vt hS hSB2)|(first|(with_reducible refine load_c ?_)))
 have hs:w.heap.size≤T.heap.size:=hwT.size;have sx:StepC w T:=⟨hwT⟩;have k1:RowC W12 (.slice Ac (sortE l).length kc) w 80 9 (sortE l).length (encL (sortE l)):=hRE2.base hs;have k2:RowC W12 (.slice Ad (courts (sortE l)).length kd) w 95 2 (courts (sortE l)).length (encL (courts (sortE l))):=hRC2.base hs;have k3:RowC W12 (.slice Ap (r.offs (sortE l)).bans.length kp) w 95 2 (r.offs (sortE l)).bans.length (encL (r.offs (sortE l)).bans):=hRP2.base hs;have k4:RowC W12 (.slice Ag (r.grants born (sortE l)).length kg) w 137 5 (r.grants born (sortE l)).length (encL (r.grants born (sortE l))):=hRG.base hs;have a4:AtC w g4:=AtC.up hA4;have a5:AtC w g5:=AtC.up hA5;clear hRE2 hRC2 hRP2 hRG;refine open_done (g4:=g4) (g5:=g5) (u:=.pointer (some ⟨gf,0,none⟩)) (e:=0) rfl rfl rfl ?_ ?_ ⟨gf,gt,Ac,kc,Ad,kd,Ap,kp,Ag,kg,tkn,rfl,inferInstance,inferInstance,inferInstance,inferInstance,inferInstance,inferInstance,hT11,AtC.up haf,AtC.up hat,⟨ExtC.h⟩⟩
 ·infer_instance
 ·infer_instance
end Go.Rg
end
section
namespace Go.Rg
open Go Go.Bp Go.RowKit Go.Walk Go.Proofs
set_option synthInstance.maxSize 2000
set_option synthInstance.maxHeartbeats 400000
set_option maxHeartbeats 4000000
theorem RulesV.form{W:World}{v:Value}{r:Rules}(h:RulesV W v r):∃A n c A' n' c' A2 n2 c2,v=.agg #[.slice A n c,.slice A' n' c',.slice A2 n2 c2,.int .i64 r.limit,.int .i64 r.fall,.int .i64 r.ban]:=by
 obtain⟨A,n,c,A',c',A2,c2,rfl,_⟩:=h.h;exact⟨A,n,c,A',_,c',A2,_,c2,rfl⟩
instance(priority:=600){W:World}{vC vD vT ve:Value}{vl vf vb born:Int}{r:Rules}{p:Person}[h:RulesC W (.agg #[vC,vD,vT,.int .i64 vl,.int .i64 vf,.int .i64 vb]) r][hp:PersonC W (.agg #[.int .i64 born,ve]) p][q:PersOk r p]:
 FunC Tryz.prog 61 #[.agg #[vC,vD,vT,.int .i64 vl,.int .i64 vf,.int .i64 vb],.agg #[.int .i64 born,ve]] W (FOpen W vC vD vT r p.born (sortE p.events)):=⟨by
 obtain⟨A,c,e,hl⟩:=hp.h.h;injection e with e
 have e:=congrArg Array.toList e;simp at e;obtain⟨rfl,rfl⟩:=e;exact open_ok r vC vD vT vl vf vb p.born A p.events c W h.h hl q.h⟩
instance(priority:=500){W:World}{vC vD vT ve:Value}{vl vf vb born e:Int}{r:Rules}{p:Person}[h:RulesC W (.agg #[vC,vD,vT,.int .i64 vl,.int .i64 vf,.int .i64 vb]) r][hp:PersonC W (.agg #[.int .i64 born,ve]) p][q:PersBad r p e]:
 FunC Tryz.prog 61 #[.agg #[vC,vD,vT,.int .i64 vl,.int .i64 vf,.int .i64 vb],.agg #[.int .i64 born,ve]] W (RNil W e):=⟨by
 obtain⟨A,c,e',hl⟩:=hp.h.h;injection e' with e'
 have e':=congrArg Array.toList e';simp at e';obtain⟨rfl,rfl⟩:=e';exact open_bad r vC vD vT vl vf vb p.born e A p.events c W h.h hl q.h.1 q.h.2 (open_chk r vC vD vT vl vf vb p.born e A p.events c W h.h hl q.h.2)⟩
abbrev RPers(W:World)(b:Int)(l:List Event)(n:Int)(e:Ending)(W':World):Prop:=∃A c,e=.returned (.tuple #[.agg #[.int .i64 b,.slice A l.length c],.int .i64 n])∧ListB Event W' (.slice A l.length c) l∧StepC W W'
theorem Sorted_any(r:Rules)(p:Person)(v pv:Value)(b:Int)(l:List Event)(n:Int)(w:World)(h:RulesV w v r)(hp:PersonV w pv p)(hs:r.sortedAns p=(b,l,n)):Calls Tryz.prog 18 #[v,pv] w (RPers w b l n):=by
 obtain⟨A1,n1,c1,A2,n2,c2,A3,n3,c3,rfl⟩:=h.form;obtain⟨A,c,rfl,hl⟩:=hp.h;have i1:=RulesB.mk h;have i2:=PersonB.mk hp;unfold Rules.sortedAns at hs;by_cases hz:r.personErr p=0
 ·rw[if_neg (by simp[hz])] at hs
  injection hs with m1 m2
  injection m2 with m2 m3
  subst m1 m2 m3;have i3:PersOk r p:=⟨hz⟩;clear hz;go_enter Tryz.func18,Tryz.ntmps18
  go_wp2_with (first|(with_reducible refine call_c ?_;rintro _ Vo ⟨gf,gt,Ae,ce,Ac,cc,Ap,cp,Ag,cg,tkn,rfl,(_:BlkC _ _ _ _),(_:RowC _ _ _ _ _ _ _),(_:RowC _ _ _ _ _ _ _),(_:RowC _ _ _ _ _ _ _),(_:RowC _ _ _ _ _ _ _),(_:MapC _ _ _ _),hTk,hagf,hagt,(_:StepC _ _)⟩)|(first|(with_reducible refine load_c ?_)|(with_reducible refine box_c ?_;intro V g _ _ _)|(with_reducible refine alloc_c ?_;intro V g _ _ _)))
  refine wp_rt ((.take 0 (.take 1 (.take 2 (.take 3 (.take 4 (.take 5 (.take 6 (.take 7 (.take 8 (.one 9 (.take 10 .nil)))))))))))) (fun w'=>Ext w w'∧Blk w' gf 121 #[.slice A1 n1 c1,.slice A2 n2 c2,.slice A3 n3 c3,.int .i64 r.limit,.int .i64 r.fall,.int .i64 r.ban,.int .i64 p.born,.slice Ae (sortE p.events).length ce,.slice Ac (courts (sortE p.events)).length cc,.slice Ap (r.offs (sortE p.events)).bans.length cp,.map (some gt),.slice Ag (r.grants p.born (sortE p.events)).length cg]) ?_ (fun hHd=> ?_) (hQ:=by intro _ _ _ _ _ h;exact h)
  ·exact⟨ExtC.h,(inferInstance:BlkC _ gf 121 _).h⟩
  repeat' first|((with_reducible refine t_tk ?_);(first|(refine tk (v:= ?_) ?_ hHd ?_;rotate_left;(·(intro W' h;obtain⟨h,ha⟩:=h;have:=StepC.mk h;have i6:BlkC W' gf 121 [.slice A1 n1 c1,.slice A2 n2 c2,.slice A3 n3 c3,.int .i64 r.limit,.int .i64 r.fall,.int .i64 r.ban,.int .i64 p.born,.slice Ae (sortE p.events).length ce,.slice Ac (courts (sortE p.events)).length cc,.slice Ap (r.offs (sortE p.events)).bans.length cp,.map (some gt),.slice Ag (r.grants p.born (sortE p.events)).length cg]:=⟨ha⟩;first|with_reducible exact run_lc)))|(refine tk (v:= ?_) ?_ hHd ?_;rotate_left;(·(intro wq hSw;go_simp;(try with_reducible rfl)))));(try simp only[pS]))|((with_reducible refine t_on ?_);refine t_one (by simp only[gS];rfl) ?_)|(with_reducible refine store_c ?_;intro Vs hS hSB)|((with_reducible refine q_nl ?_);clear hHd;refine t_next ⟨ExtC.h,(inferInstance:BlkC _ gf 121 _).h⟩ (fun hHd=> ?_);(try simp only[pS]))|(with_reducible refine t_done ?_)
  all_goals
   go_wp2
   exact ret_cell2 rfl rfl (by with_unfolding_all rfl) ⟨Ae,ce,rfl,⟨(inferInstance:RowC _ (.slice Ae (sortE p.events).length ce) _ 80 9 _ _).list rfl rfl rfl⟩,⟨ExtC.h⟩⟩
 ·rw[if_pos hz] at hs;injection hs with m1 m2
  injection m2 with m2 m3
  subst m1 m2 m3;have i3:PersBad r p _:=⟨rfl,hz⟩;have q:(r.personErr p !=0)=true:=by simpa using hz
  obtain⟨er,her⟩:∃e,r.personErr p=e:=⟨_,rfl⟩;rw[her] at i3 q⊢;clear hz her;go_enter Tryz.func18,Tryz.ntmps18
  go_wp2_with (first|(with_reducible refine load_c ?_)|(with_reducible refine call_c ?_;first|rintro _ V ⟨rfl,(_:StepC _ _)⟩)|(with_reducible refine store_c ?_;intro V _ _)|(with_reducible refine box_c ?_;intro V g _ _ _)|(with_reducible refine alloc_c ?_;intro V g _ _ _))
  exact ret_cell2 rfl rfl (by with_unfolding_all rfl) ⟨none,0,rfl,⟨ListV.nil⟩,⟨ExtC.h⟩⟩
end Go.Rg
end
