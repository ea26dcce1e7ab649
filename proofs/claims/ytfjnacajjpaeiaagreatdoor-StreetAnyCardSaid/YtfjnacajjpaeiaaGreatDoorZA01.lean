/- The tied card of StreetAny is proved: for every input the law returns true, and each argument reads afterwards as it read before; condition: the listed package variables start as the text lays them (the card ties them). -/
import Derived.Test.YtfjnacajjpaeiaaGreatDoorQL01
set_option maxRecDepth 100000
set_option linter.all false
section
namespace Go.Proofs.YtfjnacajjpaeiaaGreatDoor
open Go Go.Bp Go.St Go.RowKit Go.Proofs Go.ChangeShapes Go.WideShapes Go.ChangeAt
theorem Yx (os : Os) (started : os.Started) (H : Type) (enc : TypeId × Value → H) :
    ReturnsInHanded {} Tryz.checked os 11 .any (fun w args => (Go.Proofs.YtfjnacajjpaeiaaGreatDoor.Rows.streetAnySpec.pre enc Tryz.prog Tryz.f11 [] false w args ∧ laidMetH Tryz.prog cX w) ∧ sizedMet enc Tryz.prog Tryz.f11 (OpenSpec.ofChange Go.Proofs.YtfjnacajjpaeiaaGreatDoor.Rows.streetAnySpec) false w args)
      (Go.Proofs.YtfjnacajjpaeiaaGreatDoor.Rows.streetAnySpec.post enc Tryz.prog Tryz.f11 false true false false) := by
  refine eO (C := Tryz.checked) (X := fun w _ => laidMetH Tryz.prog cX w) (fun _ _ _ hh h => h.of_heap hh) jT started (by kernel_rfl) Tryz.func11
    (ChangeSpec.witness_shaped (enc := enc) (C := Tryz.checked) (os := os) (X := fun w _ => laidMetH Tryz.prog cX w) false (World.laidAll Tryz.prog os cX) #[.agg #[.slice none 0 0, .slice none 0 0, .slice none 0 0, .slice none 0 0], .agg #[.int .i64 0, .int .i64 0, .int .i64 0, .int .i64 0, .slice none 0 0], .agg #[.slice none 0 0, .slice none 0 0, .slice none 0 0, .slice none 0 0]] 8 (World.laidAll_os _ _ _)
      (World.shaped_of_ZipB (by kernel_rfl) (by kernel_rfl)) (by kernel_rfl) (by kernel_rfl) (by kernel_rfl) (by rw [MakeChecks.laidMetH_plain _ _ _ (by kernel_rfl)]; exact laidMet_laidAll _ (by kernel_rfl) (by kernel_rfl))) ?_
  intro W base args ds gs before hval0 hW hL hSh
  have hval : ∀ (j : Nat) t v, Tryz.f11.params[j]? = some t → args[j]? = some v → Value.okWide Tryz.prog W .any base t v := hval0
  have hW' := hW
  obtain ⟨p, q, hA0, hV, rfl, _, _⟩ := hW
  have hA : DataW.TrodAll enc Tryz.prog W 0 (fun _ => true) true Tryz.f11.params.toList args.toList ds p := hA0
  rw [Tryz.params11] at hA hval
  obtain ⟨v0, v1, v2, d0, d1, d2, p0, p1, p2, rfl, rfl, rfl, h0, h1, h2⟩ := trodAll_three hA
  obtain ⟨rfl, rfl⟩ := trodVars_none hV
  have k0 := h0
  have k1 := h1
  have k2 := h2
  obtain ⟨c0, hc0⟩ := lQ (hval 0 25 v0 rfl rfl) h0
  obtain ⟨x1, hx1⟩ := vD (hval 1 43 v1 rfl rfl) h1
  obtain ⟨x2, P2, S2, B2, hx2⟩ := Yp (hval 2 76 v2 rfl rfl) h2
  have lt0 : ∀ x ∈ p0, x.block < W.heap.size := fun x hx => hW'.lt x (by simp [hx])
  have lt1 : ∀ x ∈ p1, x.block < W.heap.size := fun x hx => hW'.lt x (by simp [hx])
  have lt2 : ∀ x ∈ p2, x.block < W.heap.size := fun x hx => hW'.lt x (by simp [hx])
  refine (Go.Walk.LAny _ _ _ c0 x1 x2 P2 S2 B2 W hc0 hx1 hx2 (pN hL hSh)).mono fun e W' ⟨he, hb⟩ => ?_
  subst he
  exact ⟨_, rfl, _, _, _, [], _, [], hW', trodAll_mk1 (shut_bool Tryz.underlying4 _), trodAll_mk3 (Below.trod eX (by kernel_rfl) (of_decide_eq_true (by kernel_rfl)) k0 hb lt0) (Below.trod eX (by kernel_rfl) (of_decide_eq_true (by kernel_rfl)) k1 hb lt1) (Below.trod eX (by kernel_rfl) (of_decide_eq_true (by kernel_rfl)) k2 hb lt2), rfl, hb.frame _, fun h => by cases h⟩
theorem Zb : Go.Proofs.YtfjnacajjpaeiaaGreatDoor.Rows.StreetAnySaid :=
  OpenClaim.holds_of_wide 11 Tryz.f11 rfl rfl rfl rfl rfl rfl rfl ⟨rfl, rfl, rfl, rfl, rfl⟩ rfl rfl rfl rfl rfl (by kernel_rfl) Tryz.func11 Yz
    (of_decide_eq_true (by kernel_rfl)) (by unfold Func.isWrapper; first | (rw [if_pos (by decide +kernel)]; kernel_rfl) | (rw [if_neg (by decide +kernel)]; exact ⟨rfl, rfl⟩))
    (fun os started H enc _ => Yx os started H enc)
theorem streetAny_holds : Go.Proofs.YtfjnacajjpaeiaaGreatDoor.Rows.StreetAnyCardSaid :=
  Claim7.holds_tied_plain_at .later [] [.data, .data, .data, .sentinel, .sentinel] true (true, "c6fe4a85326f942e8101f742b0b573d6665962fd56b6b9b42fe04e12167b0dc5") true
    Zb (fun _ h => by cases h) (by kernel_rfl) (fun _ h => by cases h) Go.Proofs.YtfjnacajjpaeiaaGreatDoor.streetAny_row_tie rfl ⟨rfl, rfl⟩ (by kernel_rfl) rfl
    (fun f fn hf hfn => by
      obtain rfl : f = 11 := Option.some.inj ((show Tryz.prog.funcNamed Go.Proofs.YtfjnacajjpaeiaaGreatDoor.Rows.streetAnyRow.func = some 11 by kernel_rfl).symm.trans hf) |>.symm
      obtain rfl : fn = Tryz.f11 := (Option.some.inj (Tryz.func11.symm.trans hfn)).symm
      exact ⟨by kernel_rfl, fun j t ht => by
        rw [Tryz.params11] at ht
        have hm : t ∈ ([25, 43, 76] : List TypeId) := by simpa using Array.mem_of_getElem? ht
        have hall : (([25, 43, 76] : List TypeId).all fun u => !Tryz.prog.wantsStandIn u) = true := by kernel_rfl
        exact (show Tryz.prog.wantsStandIn t = false by simpa using List.all_eq_true.1 hall t hm)⟩)
    (by kernel_rfl)
#print axioms streetAny_holds
end Go.Proofs.YtfjnacajjpaeiaaGreatDoor
end
