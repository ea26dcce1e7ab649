/- The tied card of RegisterLater is proved: for every input the law returns true, and each argument reads afterwards as it read before; condition: the listed package variables start as the text lays them (the card ties them). -/
import Derived.Test.YtbfbepnkofampaaGreatDoorWB01
import Derived.Test.YtbfbepnkofampaaGreatDoorWBCDX01
import Derived.Test.YtbfbepnkofampaaGreatDoorWBCX01
set_option maxRecDepth 100000
set_option linter.all false
section
namespace Go.Proofs.YtbfbepnkofampaaGreatDoor
open Go Go.Bp Go.Rg Go.Walk Go.RowKit Go.Proofs Go.ChangeShapes Go.WideShapes Go.ChangeAt
theorem ip10 : (Rows.registerLaterRow.inPlace == Tryz.pinned.checked.prog.inPlace 10) = true := by kernel_rfl
theorem uf10 : (Rows.registerLaterRow.unfollowed == Tryz.pinned.checked.prog.unfollowed 10) = true := by kernel_rfl
theorem rc10 : (Rows.registerLaterRow.recurses == Tryz.pinned.checked.prog.recurses 10) = true := by kernel_rfl
theorem nm10 : (Rows.registerLaterRow.named == Tryz.pinned.checked.prog.varsNamed 10) = true := by kernel_rfl
theorem wf10 : Rows.registerLaterRow.wfByText (OpenSpec.ofChange Rows.registerLaterSpec) = true := by kernel_rfl
theorem gs10 : false = Rows.registerLaterRow.goesBy Tryz.pinned.checked.prog := by kernel_rfl
theorem fm10 : Tryz.prog.funcNamed Rows.registerLaterRow.func = some 10 := by kernel_rfl
theorem closed10 : joinedFacts Tryz.pinned.checked.prog 10 Tryz.f10 Rows.registerLaterSpec Rows.registerLaterRow = true := by
  unfold joinedFacts
  rw [ip10, uf10, rc10, nm10, loP, mrP, meP, shP, show (Rows.registerLaterRow.lifted == Tryz.pinned.checked.prog.liftsFinal) = true from liP, show (Tryz.pinned.checked.prog.make == some Rows.registerLaterRow.make) = true from mkP]
  kernel_rfl
end Go.Proofs.YtbfbepnkofampaaGreatDoor
end
section
namespace Go.Rg
open Go Go.Bp Go.RowKit Go.Walk Go.Proofs
set_option synthInstance.maxSize 2000
set_option synthInstance.maxHeartbeats 400000
set_option maxHeartbeats 4000000
set_option maxHeartbeats 8000000 in
theorem LLater (r : Rules) (p : Person) (v pv vt : Value) (dd dc df xk xd xc xo xt xq xp xu xm : Int) (w : World) (h : RulesV w v r) (hp : PersonV w pv p) (hf : FewE p) (hv : EnvC w) (hvt : vt.cells = #[vt]) :
  Calls Tryz.prog 10 #[v, pv, .agg #[.int .i64 dd, .int .i64 dc, .int .i64 df, vt, .int .i64 xk, .int .i64 xd, .int .i64 xc, .int .i64 xo, .int .i64 xt, .int .i64 xq, .int .i64 xp, .int .i64 xu, .int .i64 xm]] w (RB w true) := by
 obtain ⟨A1, n1, c1, A2, n2, c2, A3, n3, c3, rfl⟩ := h.form
 obtain ⟨A, c, rfl, hl⟩ := hp.h
 have i1 := RulesB.mk h
 have i2 := PersonB.mk hp
 have i0 := EnvB.mk hv.h
 obtain ⟨q, hq⟩ : ∃ q : Person, q = ⟨p.born, p.events ++ [⟨xk, xd, ⟨xc, xo⟩, xt, xq, xp, xu, xm⟩]⟩ := ⟨_, rfl⟩
 have i3 := WithE.mk hq
 obtain ⟨b1, h1⟩ : ∃ b, (decide (r.personErr p = 0) && decide (r.driveErr p ⟨dd, dc, df⟩ = 0)) = b := ⟨_, rfl⟩
 have j1 := ValE.mk h1
 clear hl
 cases b1
 case false =>
  clear h1 hq
  go_enter Tryz.func10, Tryz.ntmps10
  go_wp2_with (first | (with_reducible refine call_c ?_; rintro _ Vw ⟨A9, k9, B9, rfl, (_ : RowC _ _ _ 80 _ _ _), (_ : StepC _ _)⟩) | ((first | with_reducible refine call_c ?_); rintro _ V ⟨rfl, (_ : StepC _ _)⟩; (try simp only [eq_self, decide_true])) | (with_reducible refine newvar_c (uu := 7) ?_; intro V7 g7 hE7 hB7 hA7) | (first | go_skip | (with_reducible refine load_c ?_) | (with_reducible refine box_c ?_; intro V g _ _ _)))
  all_goals
   go_ret
   exact ⟨rfl, ⟨ExtC.h⟩⟩
 obtain ⟨b2, h2⟩ : ∃ b, (decide (r.personErr q = 0) && decide (r.driveErr q ⟨dd, dc, df⟩ = 0)) = b := ⟨_, rfl⟩
 have j2 := ValE.mk h2
 cases b2
 case false =>
  clear h1 h2 hq
  go_enter Tryz.func10, Tryz.ntmps10
  go_wp2_with (first | (with_reducible refine call_c ?_; rintro _ Vw ⟨A9, k9, B9, rfl, (_ : RowC _ _ _ 80 _ _ _), (_ : StepC _ _)⟩) | ((first | with_reducible refine call_c ?_); rintro _ V ⟨rfl, (_ : StepC _ _)⟩; (try simp only [eq_self, decide_true])) | (with_reducible refine newvar_c (uu := 7) ?_; intro V7 g7 hE7 hB7 hA7) | (first | go_skip | (with_reducible refine load_c ?_) | (with_reducible refine load_g ?_) | (with_reducible refine box_c ?_; intro V g _ _ _)))
  all_goals
   go_ret
   exact ⟨rfl, ⟨ExtC.h⟩⟩
 obtain ⟨b3, h3⟩ : ∃ b, decide (xd ≤ dd) = b := ⟨_, rfl⟩
 cases b3
 case true =>
  clear h1 h2 hq
  go_enter Tryz.func10, Tryz.ntmps10
  go_wp2_with (first | (with_reducible refine call_c ?_; rintro _ Vw ⟨A9, k9, B9, rfl, (_ : RowC _ _ _ 80 _ _ _), (_ : StepC _ _)⟩) | ((first | with_reducible refine call_c ?_); rintro _ V ⟨rfl, (_ : StepC _ _)⟩; (try simp only [eq_self, decide_true])) | (with_reducible refine newvar_c (uu := 7) ?_; intro V7 g7 hE7 hB7 hA7) | (first | (with_reducible refine load_c ?_) | (with_reducible refine load_g ?_) | (with_reducible refine box_c ?_; intro V g _ _ _)))
  all_goals
   go_ret
   exact ⟨rfl, ⟨ExtC.h⟩⟩
 simp only [Bool.and_eq_true, decide_eq_true_eq] at h1 h2
 have hL := Rules.later_law (z := ⟨xk, xd, ⟨xc, xo⟩, xt, xq, xp, xu, xm⟩) h1.1 (hq ▸ h2.1) h1.2 (by have := of_decide_eq_false h3; simp only; omega)
 rw [← hq] at hL
 obtain ⟨k1, m1⟩ := whole_of h1.1 h1.2
 obtain ⟨k2, m2⟩ := whole_of h2.1 h2.2
 have e1 : k2.pts = k1.pts := by
  have := m2.h.2.1; rw [hL.1, m1.h.2.1] at this; injection this with this; exact this.symm
 have e2 : k2.held = k1.held := by
  have := m2.h.2.2.1; rw [hL.2.1, m1.h.2.2.1] at this; injection this with this; exact this.symm
 have e3 : k2.why = k1.why := by
  have := m2.h.2.2.2.1; rw [hL.2.2, m1.h.2.2.2.1] at this; injection this with this; exact this.symm
 obtain ⟨bl, ⟨p1, p2, p3⟩, hh, m, t⟩ := k1
 obtain ⟨bl', ps', hh', m', t'⟩ := k2
 simp only at e1 e2 e3
 subst e1 e2 e3
 have hE := fun W => eql45 W p1 p2 p3 p1 p2 p3
 simp only [and_self, decide_true] at hE
 clear h1 h2 hq hL
 go_enter Tryz.func10, Tryz.ntmps10
 go_wp2_with (first | (with_reducible refine call_c ?_; rintro _ Vw ⟨A9, k9, B9, rfl, (_ : RowC _ _ _ 80 _ _ _), (_ : StepC _ _)⟩) | (with_reducible refine call_c ?_; rintro _ Vk ⟨Ab, cb, Bb, fb, rfl, (_ : ListB Span _ _ _), (_ : ListB Right _ _ _), (_ : StepC _ _)⟩) | ((first | with_reducible refine call_c ?_); rintro _ V ⟨rfl, (_ : StepC _ _)⟩; (try simp only [eq_self, decide_true])) | (with_reducible refine newvar_c (uu := 7) ?_; intro V7 g7 hE7 hB7 hA7) | (with_reducible refine newvar_c (uu := 8) ?_; intro V8 g8 hE8 hB8 hA8) | (with_reducible refine newvar_c (uu := 10) ?_; intro V10 g10 hE10 hB10 hA10) | (first | (with_reducible refine load_c ?_) | (with_reducible refine load_g ?_) | (with_reducible refine box_c ?_; intro V g _ _ _)))
 all_goals
  go_ret
  exact ⟨rfl, ⟨ExtC.h⟩⟩
end Go.Rg
end
section
namespace Go.Proofs.YtbfbepnkofampaaGreatDoor
open Go Go.Bp Go.Rg Go.Walk Go.RowKit Go.Proofs Go.ChangeShapes Go.WideShapes Go.ChangeAt
theorem lifted10 (os : Os) (started : os.Started) (H : Type) (enc : TypeId × Value → H) :
    ReturnsInHanded {} Tryz.checked os 10 .any (fun w args => (Go.Proofs.YtbfbepnkofampaaGreatDoor.Rows.registerLaterSpec.pre enc Tryz.prog Tryz.f10 [] false w args ∧ laidMetH Tryz.prog listed w) ∧ sizedMet enc Tryz.prog Tryz.f10 (OpenSpec.ofChange Go.Proofs.YtbfbepnkofampaaGreatDoor.Rows.registerLaterSpec) false w args)
      (Go.Proofs.YtbfbepnkofampaaGreatDoor.Rows.registerLaterSpec.post enc Tryz.prog Tryz.f10 false true false false) := by
  refine handed_shaped (C := Tryz.checked) (X := fun w _ => laidMetH Tryz.prog listed w) (fun _ _ _ hh h => h.of_heap hh) own_knob started (by kernel_rfl) Tryz.func10
    (ChangeSpec.witness_shaped (enc := enc) (C := Tryz.checked) (os := os) (X := fun w _ => laidMetH Tryz.prog listed w) false (World.laidAll Tryz.prog os listed) #[.agg #[.slice none 0 0, .slice none 0 0, .slice none 0 0, .int .i64 0, .int .i64 0, .int .i64 0], .agg #[.int .i64 0, .slice none 0 0], .agg #[.int .i64 0, .int .i64 0, .int .i64 0, .slice none 0 0, .int .i64 0, .int .i64 0, .int .i64 0, .int .i64 0, .int .i64 0, .int .i64 0, .int .i64 0, .int .i64 0, .int .i64 0]] 8 (World.laidAll_os _ _ _)
      (World.shaped_of_ZipB (by kernel_rfl) (by kernel_rfl)) (by kernel_rfl) (by kernel_rfl) (by kernel_rfl) (by rw [MakeChecks.laidMetH_plain _ _ _ (by kernel_rfl)]; exact laidMet_laidAll _ (by kernel_rfl) (by kernel_rfl))) ?_
  intro W base args ds gs before hval0 hW hL hSh hZ
  have hval : ∀ (j : Nat) t v, Tryz.f10.params[j]? = some t → args[j]? = some v → Value.okWide Tryz.prog W .any base t v := hval0
  have hW' := hW
  obtain ⟨p, q, hA0, hV, rfl, _, _⟩ := hW
  have hA : DataW.TrodAll enc Tryz.prog W 0 (fun _ => true) true Tryz.f10.params.toList args.toList ds p := hA0
  rw [Tryz.params10] at hA hval
  obtain ⟨v0, v1, v2, d0, d1, d2, p0, p1, p2, rfl, rfl, rfl, h0, h1, h2⟩ := trodAll_three hA
  obtain ⟨rfl, rfl⟩ := trodVars_none hV
  have k0 := h0
  have k1 := h1
  have k2 := h2
  obtain ⟨x0, hx0⟩ := arg_rules (hval 0 28 v0 rfl rfl) h0
  obtain ⟨x1, hx1⟩ := arg_person (hval 1 31 v1 rfl rfl) h1
  obtain ⟨dd, dc, df, A2, c2, us, xk, xd, xc, xo, xt, xq, xp, xu, xm, rfl, hu2, hb2⟩ := arg_told (hval 2 82 v2 rfl rfl) h2
  have lt0 : ∀ x ∈ p0, x.block < W.heap.size := fun x hx => hW'.lt x (by simp [hx])
  have lt1 : ∀ x ∈ p1, x.block < W.heap.size := fun x hx => hW'.lt x (by simp [hx])
  have lt2 : ∀ x ∈ p2, x.block < W.heap.size := fun x hx => hW'.lt x (by simp [hx])
  refine (LLater x0 x1 _ _ _ dd dc df xk xd xc xo xt xq xp xu xm W hx0 hx1 ⟨room_of Tryz.params10 hZ hx1⟩ ⟨env_of hL hSh⟩ rfl).mono fun e W' ⟨he, ⟨hb⟩⟩ => ?_
  subst he
  exact ⟨_, rfl, _, _, _, [], _, [], hW', trodAll_mk1 (shut_bool Tryz.underlying4 _), trodAll_mk3 (Below.trod laid_out (by kernel_rfl) (of_decide_eq_true (by kernel_rfl)) k0 hb lt0) (Below.trod laid_out (by kernel_rfl) (of_decide_eq_true (by kernel_rfl)) k1 hb lt1) (Below.trod laid_out (by kernel_rfl) (of_decide_eq_true (by kernel_rfl)) k2 hb lt2), rfl, hb.frame _, fun h => by cases h⟩
theorem holds10 : Go.Proofs.YtbfbepnkofampaaGreatDoor.Rows.RegisterLaterSaid :=
  OpenClaim.holds_of_wide 10 Tryz.f10 rfl rfl rfl rfl rfl rfl rfl ⟨rfl, rfl, rfl, rfl, rfl⟩ rfl rfl rfl rfl rfl (by kernel_rfl) Tryz.func10 closed10
    (of_decide_eq_true (by kernel_rfl)) (by unfold Func.isWrapper; first | (rw [if_pos (by decide +kernel)]; kernel_rfl) | (rw [if_neg (by decide +kernel)]; exact ⟨rfl, rfl⟩))
    (fun os started H enc _ => lifted10 os started H enc)
theorem registerLater_holds : Go.Proofs.YtbfbepnkofampaaGreatDoor.Rows.RegisterLaterCardSaid :=
  Claim7.holds_tied_plain_at .later [] [.data, .data, .data, .data, .sentinel, .sentinel, .pinned] true (true, "4970e1223911c70aa7bcdc0bdc6bbce8f6a3c11b3c24a4250f4776a5114b5b9d") true
    holds10 (fun _ h => by cases h) wf10 (fun _ h => by cases h) Go.Proofs.YtbfbepnkofampaaGreatDoor.registerLater_row_tie rfl ⟨rfl, rfl⟩ mainP rfl
    (fun f fn hf hfn => by
      obtain rfl : f = 10 := Option.some.inj (fm10.symm.trans hf) |>.symm
      obtain rfl : fn = Tryz.f10 := (Option.some.inj (Tryz.func10.symm.trans hfn)).symm
      exact ⟨looksP, fun j t ht => by
        rw [Tryz.params10] at ht
        have hm : t ∈ ([28, 31, 82] : List TypeId) := by simpa using Array.mem_of_getElem? ht
        have hall : (([28, 31, 82] : List TypeId).all fun u => !Tryz.prog.wantsStandIn u) = true := by kernel_rfl
        exact (show Tryz.prog.wantsStandIn t = false by simpa using List.all_eq_true.1 hall t hm)⟩)
    gs10
#print axioms registerLater_holds
end Go.Proofs.YtbfbepnkofampaaGreatDoor
end
