/- The tied card of SheetMilder is proved: for every input the law returns true, and each argument reads afterwards as it read before; condition: the listed package variables start as the text lays them (the card ties them). -/
import Derived.Test.YthomnkgiaapljaaGreatDoorD10
import Derived.Test.YthomnkgiaapljaaGreatDoorYLI
import Derived.Test.YthomnkgiaapljaaGreatDoorD11
set_option maxRecDepth 100000
namespace Go.Proofs.YthomnkgiaapljaaGreatDoor
open Go Go.Bp Go.RowKit Go.Proofs Go.ChangeShapes Go.WideShapes Go.ChangeAt
theorem lifted14 (os : Os) (started : os.Started) (H : Type) (enc : TypeId × Value → H) :
    ReturnsInHanded {} Tryz.checked os 14 .any (fun w args => (Go.Proofs.YthomnkgiaapljaaGreatDoor.Rows.sheetMilderSpec.pre enc Tryz.prog Tryz.f14 [] false w args ∧ laidMetH Tryz.prog listed w) ∧ sizedMet enc Tryz.prog Tryz.f14 (OpenSpec.ofChange Go.Proofs.YthomnkgiaapljaaGreatDoor.Rows.sheetMilderSpec) false w args)
      (Go.Proofs.YthomnkgiaapljaaGreatDoor.Rows.sheetMilderSpec.post enc Tryz.prog Tryz.f14 false true false false) := by
  refine handed_shaped (C := Tryz.checked) (X := fun w _ => laidMetH Tryz.prog listed w) (fun _ _ _ hh h => h.of_heap hh) own_knob started (by kernel_rfl) Tryz.func14
    (ChangeSpec.witness_shaped (enc := enc) (C := Tryz.checked) (os := os) (X := fun w _ => laidMetH Tryz.prog listed w) false (World.laidAll Tryz.prog os listed) #[.agg #[.slice none 0 0, .slice none 0 0, .int .i64 0], .agg #[.int .u8 0, .slice none 0 0, .int .u16 0], .agg #[.int .u8 0, .int .u8 0, .int .u8 0]] 8 (World.laidAll_os _ _ _)
      (World.shaped_of_ZipB (by kernel_rfl) (by kernel_rfl)) (by kernel_rfl) (by kernel_rfl) (by kernel_rfl) (by rw [MakeChecks.laidMetH_plain _ _ _ (by kernel_rfl)]; exact laidMet_laidAll _ (by kernel_rfl) (by kernel_rfl))) ?_
  intro W base args ds gs before hval0 hW hL hSh
  have hval : ∀ (j : Nat) t v, Tryz.f14.params[j]? = some t → args[j]? = some v → Value.okWide Tryz.prog W .any base t v := hval0
  have hW' := hW
  obtain ⟨p, q, hA0, hV, rfl, _, _⟩ := hW
  have hA : DataW.TrodAll enc Tryz.prog W 0 (fun _ => true) true Tryz.f14.params.toList args.toList ds p := hA0
  rw [Tryz.params14] at hA hval
  obtain ⟨v0, v1, v2, d0, d1, d2, p0, p1, p2, rfl, rfl, rfl, h0, h1, h2⟩ := trodAll_three hA
  obtain ⟨rfl, rfl⟩ := trodVars_none hV
  have k0 := h0
  have k1 := h1
  have k2 := h2
  obtain ⟨c, hc⟩ := arg_code (hval 0 25 v0 rfl rfl) h0
  obtain ⟨x1, hx1⟩ := arg_driven (hval 1 61 v1 rfl rfl) h1
  obtain ⟨m2, n2, o2, rfl, hm2, hn2, ho2⟩ := arg_u8x3 (hval 2 72 v2 rfl rfl) h2
  have lt0 : ∀ x ∈ p0, x.block < W.heap.size := fun x hx => hW'.lt x (by simp [hx])
  have lt1 : ∀ x ∈ p1, x.block < W.heap.size := fun x hx => hW'.lt x (by simp [hx])
  have lt2 : ∀ x ∈ p2, x.block < W.heap.size := fun x hx => hW'.lt x (by simp [hx])
  refine (LMilder _ _ c x1 m2 n2 o2 W hc hx1 hm2 hn2 ho2 (env_of hL hSh)).mono fun e W' ⟨he, hb⟩ => ?_
  subst he
  exact ⟨_, rfl, _, _, _, [], _, [], hW', trodAll_mk1 (shut_bool Tryz.underlying4 _), trodAll_mk3 (Below.trod laid_out (by kernel_rfl) (of_decide_eq_true (by kernel_rfl)) k0 hb lt0) (Below.trod laid_out (by kernel_rfl) (of_decide_eq_true (by kernel_rfl)) k1 hb lt1) (Below.trod laid_out (by kernel_rfl) (of_decide_eq_true (by kernel_rfl)) k2 hb lt2), rfl, hb.frame _, fun h => by cases h⟩
theorem holds14 : Go.Proofs.YthomnkgiaapljaaGreatDoor.Rows.SheetMilderSaid :=
  OpenClaim.holds_of_wide 14 Tryz.f14 rfl rfl rfl rfl rfl rfl rfl ⟨rfl, rfl, rfl, rfl, rfl⟩ rfl rfl rfl rfl rfl (by kernel_rfl) Tryz.func14 (by kernel_rfl)
    (of_decide_eq_true (by kernel_rfl)) (by unfold Func.isWrapper; first | (rw [if_pos (by decide +kernel)]; kernel_rfl) | (rw [if_neg (by decide +kernel)]; exact ⟨rfl, rfl⟩))
    (fun os started H enc _ => lifted14 os started H enc)
theorem sheetMilder_holds : Go.Proofs.YthomnkgiaapljaaGreatDoor.Rows.SheetMilderCardSaid :=
  Claim7.holds_tied_plain_at .later [] [.data, .data, .data, .data, .sentinel, .sentinel, .pinned] true (true, "53abc036d31670c5e7a7457506c1cf9df512a0501642088e71039f408cc4c1a9") true
    holds14 (fun _ h => by cases h) (by kernel_rfl) (fun _ h => by cases h) Go.Proofs.YthomnkgiaapljaaGreatDoor.sheetMilder_row_tie rfl ⟨rfl, rfl⟩ (by kernel_rfl) rfl
    (fun f fn hf hfn => by
      obtain rfl : f = 14 := Option.some.inj ((show Tryz.prog.funcNamed Go.Proofs.YthomnkgiaapljaaGreatDoor.Rows.sheetMilderRow.func = some 14 by kernel_rfl).symm.trans hf) |>.symm
      obtain rfl : fn = Tryz.f14 := (Option.some.inj (Tryz.func14.symm.trans hfn)).symm
      exact ⟨by kernel_rfl, fun j t ht => by
        rw [Tryz.params14] at ht
        have hm : t ∈ ([25, 61, 72] : List TypeId) := by simpa using Array.mem_of_getElem? ht
        have hall : (([25, 61, 72] : List TypeId).all fun u => !Tryz.prog.wantsStandIn u) = true := by kernel_rfl
        exact (show Tryz.prog.wantsStandIn t = false by simpa using List.all_eq_true.1 hall t hm)⟩)
    (by kernel_rfl)
#print axioms sheetMilder_holds
end Go.Proofs.YthomnkgiaapljaaGreatDoor
