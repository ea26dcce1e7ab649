/- The tied card of RegisterOrder is proved: for every input the law returns true, and each argument reads afterwards as it read before; condition: the listed package variables start as the text lays them (the card ties them). -/
import Derived.Test.YtbfbepnkofampaaGreatDoorYWFX03
import Derived.Test.YtbfbepnkofampaaGreatDoorYWFX04
import Derived.Test.YtbfbepnkofampaaGreatDoorYWFX05
import Derived.Test.YtbfbepnkofampaaGreatDoorYWFX06
import Derived.Test.YtbfbepnkofampaaGreatDoorYWFX07
set_option maxRecDepth 100000
set_option linter.all false
section
namespace Go.Rg
open Go Go.Bp Go.RowKit Go.Walk Go.Proofs
set_option synthInstance.maxSize 4000
set_option synthInstance.maxHeartbeats 400000
set_option maxHeartbeats 4000000
set_option maxHeartbeats 16000000 in
theorem LOrder(r:Rules)(p:Person)(v pv:Value)(dd dc df:Int)(A9':Option Addr)(ct:Nat)(us:List U8)(xk xd xc xo xt xq xp xu xm:Int)(w:World)(h:RulesV w v r)(hp:PersonV w pv p)(hf:FewE p)(hv:EnvC w)(hus:ListV w (.slice A9' us.length ct) us)(hub:∀u∈us,0≤u.v∧u.v≤255):
 Calls Tryz.prog 8 #[v,pv,.agg #[.int .i64 dd,.int .i64 dc,.int .i64 df,.slice A9' us.length ct,.int .i64 xk,.int .i64 xd,.int .i64 xc,.int .i64 xo,.int .i64 xt,.int .i64 xq,.int .i64 xp,.int .i64 xu,.int .i64 xm]] w (RB w true):=by
 obtain⟨A1,n1,c1,A2,n2,c2,A3,n3,c3,rfl⟩:=h.form;obtain⟨A,c,rfl,hl⟩:=hp.h;have i1:=RulesB.mk h;have i2:=PersonB.mk hp;have i4:=ListB.mk hl;have i7:=ListB.mk hus;have i0:=EnvB.mk hv.h;have hcu:=hus.caps.2;obtain⟨b1,h1⟩:∃b,(decide (r.personErr p=0)&&decide (r.driveErr p ⟨dd,dc,df⟩=0))=b:=⟨_,rfl⟩;have j1:=ValE.mk h1
 cases b1
 case false=>
  obtain⟨⟨m,e⟩,he⟩:∃x,r.whyAns p ⟨dd,dc,df⟩=x:=⟨_,rfl⟩;have j2:=WhyAE.mk he;have q1:(e !=0)=true:=by
   unfold Rules.whyAns at he;by_cases z1:r.personErr p=0
   ·rw[if_neg (by simpa using z1)] at he
    by_cases z2:r.driveErr p ⟨dd,dc,df⟩=0
    ·simp[z1,z2] at h1
    ·rw[if_pos z2] at he;injection he with _ e2
     rw[←e2];simpa using z2
   ·rw[if_pos z1] at he;injection he with _ e2
    rw[←e2];simpa using z1
  clear h1 he;go_enter Tryz.func8,Tryz.ntmps8
  go_wp2_with (first|((first|with_reducible refine call_c ?_);rintro _ V ⟨rfl,(_:StepC _ _)⟩;(try simp only[eq_self,decide_true]))|(first|(with_reducible refine load_c ?_)|(with_reducible refine box_c ?_;intro V g _ _ _)))
  all_goals
   go_ret
   exact⟨rfl,⟨ExtC.h⟩⟩
 simp only[Bool.and_eq_true,decide_eq_true_eq] at h1;obtain⟨hz,hdr⟩:=h1;have hn30:=(Rules.person_ok hz).2.2.1;obtain⟨k1,m1⟩:=whole_of hz hdr;exact(OrderPack r p dd dc df A9' ct us xk xd xc xo xt xq xp xu xm w A1 n1 c1 A2 n2 c2 A3 n3 c3 A c k1 h hp hl hf hv hus hub j1 hz hdr m1).2.2.2.2.2 (Lib.hid (OrderR1 r p dd dc df A9' ct us xk xd xc xo xt xq xp xu xm w A1 n1 c1 A2 n2 c2 A3 n3 c3 A c k1 h hp hl hf hv hus hub j1 hz hdr m1)) (Lib.hid (OrderR2 r p dd dc df A9' ct us xk xd xc xo xt xq xp xu xm w A1 n1 c1 A2 n2 c2 A3 n3 c3 A c k1 h hp hl hf hv hus hub j1 hz hdr m1)) (Lib.hid (OrderR3 r p dd dc df A9' ct us xk xd xc xo xt xq xp xu xm w A1 n1 c1 A2 n2 c2 A3 n3 c3 A c k1 h hp hl hf hv hus hub j1 hz hdr m1)) (Lib.hid (OrderR4 r p dd dc df A9' ct us xk xd xc xo xt xq xp xu xm w A1 n1 c1 A2 n2 c2 A3 n3 c3 A c k1 h hp hl hf hv hus hub j1 hz hdr m1)) (Lib.hid (OrderR5 r p dd dc df A9' ct us xk xd xc xo xt xq xp xu xm w A1 n1 c1 A2 n2 c2 A3 n3 c3 A c k1 h hp hl hf hv hus hub j1 hz hdr m1))
end Go.Rg
end
section
namespace Go.Proofs.YtbfbepnkofampaaGreatDoor
open Go Go.Bp Go.Rg Go.Walk Go.RowKit Go.Proofs Go.ChangeShapes Go.WideShapes Go.ChangeAt
theorem lifted8(os:Os)(started:os.Started)(H:Type)(enc:TypeId×Value→H):
 ReturnsInHanded {} Tryz.checked os 8 .any (fun w args=>(Go.Proofs.YtbfbepnkofampaaGreatDoor.Rows.registerOrderSpec.pre enc Tryz.prog Tryz.f8 [] false w args∧laidMetH Tryz.prog listed w)∧sizedMet enc Tryz.prog Tryz.f8 (OpenSpec.ofChange Go.Proofs.YtbfbepnkofampaaGreatDoor.Rows.registerOrderSpec) false w args)
  (Go.Proofs.YtbfbepnkofampaaGreatDoor.Rows.registerOrderSpec.post enc Tryz.prog Tryz.f8 false true false false):=by
 refine handed_shaped (C:=Tryz.checked) (X:=fun w _=>laidMetH Tryz.prog listed w) (fun _ _ _ hh h=>h.of_heap hh) own_knob started (by kernel_rfl) Tryz.func8
  (ChangeSpec.witness_shaped (enc:=enc) (C:=Tryz.checked) (os:=os) (X:=fun w _=>laidMetH Tryz.prog listed w) false (World.laidAll Tryz.prog os listed) #[.agg #[.slice none 0 0,.slice none 0 0,.slice none 0 0,.int .i64 0,.int .i64 0,.int .i64 0],.agg #[.int .i64 0,.slice none 0 0],.agg #[.int .i64 0,.int .i64 0,.int .i64 0,.slice none 0 0,.int .i64 0,.int .i64 0,.int .i64 0,.int .i64 0,.int .i64 0,.int .i64 0,.int .i64 0,.int .i64 0,.int .i64 0]] 8 (World.laidAll_os _ _ _)
   (World.shaped_of_ZipB (by kernel_rfl) (by kernel_rfl)) (by kernel_rfl) (by kernel_rfl) (by kernel_rfl) (by rw[MakeChecks.laidMetH_plain _ _ _ (by kernel_rfl)];exact laidMet_laidAll _ (by kernel_rfl) (by kernel_rfl))) ?_
 intro W base args ds gs before hval0 hW hL hSh hZ;have hval:∀(j:Nat)t v,Tryz.f8.params[j]? =some t→args[j]? =some v→Value.okWide Tryz.prog W .any base t v:=hval0;have hW':=hW;obtain⟨p,q,hA0,hV,rfl,_,_⟩:=hW;have hA:DataW.TrodAll enc Tryz.prog W 0 (fun _=>true) true Tryz.f8.params.toList args.toList ds p:=hA0
 rw[Tryz.params8] at hA hval;obtain⟨v0,v1,v2,d0,d1,d2,p0,p1,p2,rfl,rfl,rfl,h0,h1,h2⟩:=trodAll_three hA;obtain⟨rfl,rfl⟩:=trodVars_none hV;have k0:=h0;have k1:=h1;have k2:=h2;obtain⟨x0,hx0⟩:=arg_rules (hval 0 28 v0 rfl rfl) h0;obtain⟨x1,hx1⟩:=arg_person (hval 1 31 v1 rfl rfl) h1;obtain⟨dd,dc,df,A2,c2,us,xk,xd,xc,xo,xt,xq,xp,xu,xm,rfl,hu2,hb2⟩:=arg_told (hval 2 82 v2 rfl rfl) h2;have lt0:∀x∈p0,x.block<W.heap.size:=fun x hx=>hW'.lt x (by simp[hx])
 have lt1:∀x∈p1,x.block<W.heap.size:=fun x hx=>hW'.lt x (by simp[hx])
 have lt2:∀x∈p2,x.block<W.heap.size:=fun x hx=>hW'.lt x (by simp[hx])
 refine(LOrder x0 x1 _ _ dd dc df A2 c2 us xk xd xc xo xt xq xp xu xm W hx0 hx1 ⟨room_of Tryz.params8 hZ hx1⟩ ⟨env_of hL hSh⟩ hu2 hb2).mono fun e W' ⟨he,⟨hb⟩⟩=> ?_
 subst he;exact⟨_,rfl,_,_,_,[],_,[],hW',trodAll_mk1 (shut_bool Tryz.underlying4 _),trodAll_mk3 (Below.trod laid_out (by kernel_rfl) (of_decide_eq_true (by kernel_rfl)) k0 hb lt0) (Below.trod laid_out (by kernel_rfl) (of_decide_eq_true (by kernel_rfl)) k1 hb lt1) (Below.trod laid_out (by kernel_rfl) (of_decide_eq_true (by kernel_rfl)) k2 hb lt2),rfl,hb.frame _,fun h=>by cases h⟩
theorem holds8:Go.Proofs.YtbfbepnkofampaaGreatDoor.Rows.RegisterOrderSaid:=
 OpenClaim.holds_of_wide 8 Tryz.f8 rfl rfl rfl rfl rfl rfl rfl ⟨rfl,rfl,rfl,rfl,rfl⟩ rfl rfl rfl rfl rfl (by kernel_rfl) Tryz.func8 closed8
  (of_decide_eq_true (by kernel_rfl)) (by unfold Func.isWrapper;first|(rw[if_pos (by decide +kernel)];kernel_rfl)|(rw[if_neg (by decide +kernel)];exact⟨rfl,rfl⟩))
  (fun os started H enc _=>lifted8 os started H enc)
theorem registerOrder_holds:Go.Proofs.YtbfbepnkofampaaGreatDoor.Rows.RegisterOrderCardSaid:=
 Claim7.holds_tied_plain_at .later [] [.data,.data,.data,.data,.sentinel,.sentinel,.pinned] true (true,"4970e1223911c70aa7bcdc0bdc6bbce8f6a3c11b3c24a4250f4776a5114b5b9d") true
  holds8 (fun _ h=>by cases h) wf8 (fun _ h=>by cases h) Go.Proofs.YtbfbepnkofampaaGreatDoor.registerOrder_row_tie rfl ⟨rfl,rfl⟩ mainP rfl
  (fun f fn hf hfn=>by
   obtain rfl:f=8:=Option.some.inj (fm8.symm.trans hf) |>.symm
   obtain rfl:fn=Tryz.f8:=(Option.some.inj (Tryz.func8.symm.trans hfn)).symm;exact⟨looksP,fun j t ht=>by
    rw[Tryz.params8] at ht;have hm:t∈([28,31,82]:List TypeId):=by simpa using Array.mem_of_getElem? ht
    have hall:(([28,31,82]:List TypeId).all fun u=> !Tryz.prog.wantsStandIn u)=true:=by kernel_rfl
    exact(show Tryz.prog.wantsStandIn t=false by simpa using List.all_eq_true.1 hall t hm)⟩)
  gs8
#print axioms registerOrder_holds
end Go.Proofs.YtbfbepnkofampaaGreatDoor
end
