/- The tied card of RegisterPoints is proved: for every input the law returns true, and each argument reads afterwards as it read before; condition: the listed package variables start as the text lays them (the card ties them). -/
import Derived.Test.YtbfbepnkofampaaGreatDoorXSAX01
set_option maxRecDepth 100000
set_option linter.all false
section
namespace Go.Proofs.YtbfbepnkofampaaGreatDoor
open Go Go.Bp Go.Rg Go.Walk Go.RowKit Go.Proofs Go.ChangeShapes Go.WideShapes Go.ChangeAt
theorem lifted4(os:Os)(started:os.Started)(H:Type)(enc:TypeId×Value→H):
 ReturnsInHanded {} Tryz.checked os 4 .any (fun w args=>(Go.Proofs.YtbfbepnkofampaaGreatDoor.Rows.registerPointsSpec.pre enc Tryz.prog Tryz.f4 [] false w args∧laidMetH Tryz.prog listed w)∧sizedMet enc Tryz.prog Tryz.f4 (OpenSpec.ofChange Go.Proofs.YtbfbepnkofampaaGreatDoor.Rows.registerPointsSpec) false w args)
  (Go.Proofs.YtbfbepnkofampaaGreatDoor.Rows.registerPointsSpec.post enc Tryz.prog Tryz.f4 false true false false):=by
 refine kZ (C:=Tryz.checked) (X:=fun w _=>laidMetH Tryz.prog listed w) (fun _ _ _ hh h=>h.of_heap hh) own_knob started (by kernel_rfl) Tryz.func4
  (ChangeSpec.witness_shaped (enc:=enc) (C:=Tryz.checked) (os:=os) (X:=fun w _=>laidMetH Tryz.prog listed w) false (World.laidAll Tryz.prog os listed) #[.agg #[.slice none 0 0,.slice none 0 0,.slice none 0 0,.int .i64 0,.int .i64 0,.int .i64 0],.agg #[.int .i64 0,.slice none 0 0],.int .i64 0] 8 (World.laidAll_os _ _ _)
   (World.shaped_of_ZipB (by kernel_rfl) (by kernel_rfl)) (by kernel_rfl) (by kernel_rfl) (by kernel_rfl) (by rw[MakeChecks.laidMetH_plain _ _ _ (by kernel_rfl)];exact laidMet_laidAll _ (by kernel_rfl) (by kernel_rfl))) ?_
 intro W base args ds gs before hval0 hW hL hSh hZ;have hval:∀(j:Nat)t v,Tryz.f4.params[j]? =some t→args[j]? =some v→Value.okWide Tryz.prog W .any base t v:=hval0;have hW':=hW;obtain⟨p,q,hA0,hV,rfl,_,_⟩:=hW;have hA:DataW.TrodAll enc Tryz.prog W 0 (fun _=>true) true Tryz.f4.params.toList args.toList ds p:=hA0
 rw[Tryz.params4] at hA hval;obtain⟨v0,v1,v2,d0,d1,d2,p0,p1,p2,rfl,rfl,rfl,h0,h1,h2⟩:=trodAll_three hA;obtain⟨rfl,rfl⟩:=trodVars_none hV;have k0:=h0;have k1:=h1;have k2:=h2;obtain⟨x0,hx0⟩:=tF (hval 0 28 v0 rfl rfl) h0;obtain⟨x1,hx1⟩:=rJ (hval 1 31 v1 rfl rfl) h1;obtain⟨n2,rfl,rfl,rfl,hw2⟩:=open_int Tryz.underlying3 (hval 2 3 v2 rfl rfl) h2;have lt0:∀x∈p0,x.block<W.heap.size:=fun x hx=>hW'.lt x (by simp[hx])
 have lt1:∀x∈p1,x.block<W.heap.size:=fun x hx=>hW'.lt x (by simp[hx])
 refine(LPoints x0 x1 _ _ n2 W hx0 hx1 ⟨Ki hL hSh⟩).mono fun e W' ⟨he,⟨hb⟩⟩=> ?_
 subst he;exact⟨_,rfl,_,_,_,[],_,[],hW',trodAll_mk1 (shut_bool Tryz.underlying4 _),trodAll_mk3 (Below.trod laid_out (by kernel_rfl) (of_decide_eq_true (by kernel_rfl)) k0 hb lt0) (Below.trod laid_out (by kernel_rfl) (of_decide_eq_true (by kernel_rfl)) k1 hb lt1) (shut_int Tryz.underlying3 hw2),rfl,hb.frame _,fun h=>by cases h⟩
theorem holds4:Go.Proofs.YtbfbepnkofampaaGreatDoor.Rows.RegisterPointsSaid:=
 OpenClaim.holds_of_wide 4 Tryz.f4 rfl rfl rfl rfl rfl rfl rfl ⟨rfl,rfl,rfl,rfl,rfl⟩ rfl rfl rfl rfl rfl (by kernel_rfl) Tryz.func4 closed4
  (of_decide_eq_true (by kernel_rfl)) (by unfold Func.isWrapper;first|(rw[if_pos (by decide +kernel)];kernel_rfl)|(rw[if_neg (by decide +kernel)];exact⟨rfl,rfl⟩))
  (fun os started H enc _=>lifted4 os started H enc)
theorem registerPoints_holds:Go.Proofs.YtbfbepnkofampaaGreatDoor.Rows.RegisterPointsCardSaid:=
 Claim7.holds_tied_plain_at .later [] [.data,.data,.data,.data,.sentinel,.sentinel,.pinned] true (true,"4970e1223911c70aa7bcdc0bdc6bbce8f6a3c11b3c24a4250f4776a5114b5b9d") true
  holds4 (fun _ h=>by cases h) wf4 (fun _ h=>by cases h) Go.Proofs.YtbfbepnkofampaaGreatDoor.registerPoints_row_tie rfl ⟨rfl,rfl⟩ mainP rfl
  (fun f fn hf hfn=>by
   obtain rfl:f=4:=Option.some.inj (fm4.symm.trans hf) |>.symm
   obtain rfl:fn=Tryz.f4:=(Option.some.inj (Tryz.func4.symm.trans hfn)).symm;exact⟨looksP,fun j t ht=>by
    rw[Tryz.params4] at ht;have hm:t∈([28,31,3]:List TypeId):=by simpa using Array.mem_of_getElem? ht
    have hall:(([28,31,3]:List TypeId).all fun u=> !Tryz.prog.wantsStandIn u)=true:=by kernel_rfl
    exact(show Tryz.prog.wantsStandIn t=false by simpa using List.all_eq_true.1 hall t hm)⟩)
  gs4
#print axioms registerPoints_holds
end Go.Proofs.YtbfbepnkofampaaGreatDoor
end
