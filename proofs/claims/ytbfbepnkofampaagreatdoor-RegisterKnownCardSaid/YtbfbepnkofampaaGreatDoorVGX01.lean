/- The tied card of RegisterKnown is proved: for every input the law returns true, and each argument reads afterwards as it read before; condition: the listed package variables start as the text lays them (the card ties them). -/
import Derived.Test.YtbfbepnkofampaaGreatDoorPX10
import Derived.Test.YtbfbepnkofampaaGreatDoorVG01
set_option maxRecDepth 100000
set_option linter.all false
section
namespace Go.Proofs.YtbfbepnkofampaaGreatDoor
open Go Go.Bp Go.Rg Go.Walk Go.RowKit Go.Proofs Go.ChangeShapes Go.WideShapes Go.ChangeAt
theorem ip7 : (Rows.registerKnownRow.inPlace == Tryz.pinned.checked.prog.inPlace 7) = true := by kernel_rfl
theorem uf7 : (Rows.registerKnownRow.unfollowed == Tryz.pinned.checked.prog.unfollowed 7) = true := by kernel_rfl
theorem rc7 : (Rows.registerKnownRow.recurses == Tryz.pinned.checked.prog.recurses 7) = true := by kernel_rfl
theorem nm7 : (Rows.registerKnownRow.named == Tryz.pinned.checked.prog.varsNamed 7) = true := by kernel_rfl
theorem wf7 : Rows.registerKnownRow.wfByText (OpenSpec.ofChange Rows.registerKnownSpec) = true := by kernel_rfl
theorem gs7 : false = Rows.registerKnownRow.goesBy Tryz.pinned.checked.prog := by kernel_rfl
theorem fm7 : Tryz.prog.funcNamed Rows.registerKnownRow.func = some 7 := by kernel_rfl
theorem closed7 : joinedFacts Tryz.pinned.checked.prog 7 Tryz.f7 Rows.registerKnownSpec Rows.registerKnownRow = true := by
  unfold joinedFacts
  rw [ip7, uf7, rc7, nm7, loP, mrP, meP, shP, show (Rows.registerKnownRow.lifted == Tryz.pinned.checked.prog.liftsFinal) = true from liP, show (Tryz.pinned.checked.prog.make == some Rows.registerKnownRow.make) = true from mkP]
  kernel_rfl
end Go.Proofs.YtbfbepnkofampaaGreatDoor
end
section
namespace Go.Rg
open Go Go.Bp Go.RowKit Go.Walk Go.Proofs
set_option synthInstance.maxSize 2000
set_option synthInstance.maxHeartbeats 400000
set_option maxHeartbeats 4000000
theorem kn_a : lawR.pointsAns lawP 7499 = (⟨5, 0, 0⟩, 0) := by decide +kernel
theorem kn_b : lawR.pointsAns lawP 9000 = (⟨0, 0, 9⟩, 0) := by decide +kernel
theorem kn_0 : lawR.heldAns lawP 6550 = ([⟨0, 0⟩], 0) := by decide +kernel
theorem kn_1 : lawR.heldAns lawP 7000 = ([⟨1, 0⟩], 0) := by decide +kernel
theorem kn_2 : lawR.heldAns lawP 7510 = ([], 0) := by decide +kernel
theorem kn_3 : lawR.heldAns lawP 8500 = ([⟨1, 0⟩], 0) := by decide +kernel
instance kna : PointsE lawR lawP 7499 ⟨5, 0, 0⟩ 0 := ⟨kn_a⟩
instance knb : PointsE lawR lawP 9000 ⟨0, 0, 9⟩ 0 := ⟨kn_b⟩
instance kn0 : HeldE lawR lawP 6550 [⟨0, 0⟩] 0 := ⟨kn_0⟩
theorem blk_at {W : World} {g : Nat} {t : TypeId} {cs : Array Value} (h : Blk W g t cs) (i : Nat) (v : Value) (hv : cs[i]? = some v) : W.cell? ⟨g, i, none⟩ = some v := by rw [h.cell]; exact hv
theorem kn_w : lawR.whyAns lawP ⟨7000, 1, 0⟩ = (0, 0) := by decide +kernel
instance knw : WhyAE lawR lawP ⟨7000, 1, 0⟩ 0 0 := ⟨kn_w⟩
set_option maxHeartbeats 8000000 in
theorem LKnown (w : World) [hv : EnvC w] : Calls Tryz.prog 7 #[] w (RB w true) := by
 have i0 := EnvB.mk hv.h
 go_enter Tryz.func7, Tryz.ntmps7
 go_wp2_with (first | (with_reducible refine newvar_c (uu := 1) ?_; intro V1 g1 hE1 hB1 hA1) | (with_reducible refine newvar_c (uu := 3) ?_; intro V3 g3 hE3 hB3 hA3) | (with_reducible refine call_c ?_; rintro _ Vr ⟨vr, rfl, (_ : RulesB _ _ _), (_ : StepC _ _)⟩) | (with_reducible refine call_c ?_; rintro _ Vp ⟨gp, rfl, (_ : BlkC _ _ _ _), (_ : StepC _ _), (hAp : AtC _ _)⟩) | ((first | with_reducible refine call_c ?_); rintro _ V ⟨rfl, (_ : StepC _ _)⟩) | (first | (with_reducible refine bslice_c ?_; intro V g _ _ _)))
 rename_i Wa ga _ _ _ Wb gb _ _ _ Wc gc _ _ _ Wd gd _ _ _ _ _ _ _ _
 have hW := (inferInstance : BlkC V gd 48 [.slice (some ⟨ga, 0, none⟩) 1 1, .slice (some ⟨gb, 0, none⟩) 1 1, .slice none 0 0, .slice (some ⟨gc, 0, none⟩) 1 1]).h
 have hD := (inferInstance : BlkC V g 3 [.int .i64 6550, .int .i64 7000, .int .i64 7510, .int .i64 8500]).h
 have hA : ListB Right V (.slice (some ⟨ga, 0, none⟩) 1 1) [⟨0, 0⟩] := ⟨ListV.blk (l := ([⟨0, 0⟩] : List Right)) (n := 1) (inferInstance : BlkC V ga 74 [.int .i64 0, .int .i64 0]).h rfl rfl (by decide)⟩
 have hB : ListB Right V (.slice (some ⟨gb, 0, none⟩) 1 1) [⟨1, 0⟩] := ⟨ListV.blk (l := ([⟨1, 0⟩] : List Right)) (n := 1) (inferInstance : BlkC V gb 74 [.int .i64 1, .int .i64 0]).h rfl rfl (by decide)⟩
 have hC : ListB Right V (.slice (some ⟨gc, 0, none⟩) 1 1) [⟨1, 0⟩] := ⟨ListV.blk (l := ([⟨1, 0⟩] : List Right)) (n := 1) (inferInstance : BlkC V gc 74 [.int .i64 1, .int .i64 0]).h rfl rfl (by decide)⟩
 have hN : ListB Right V (.slice none 0 0) [] := ⟨ListV.nil⟩
 have HK : ∀ k : Nat, k < 4 → ∃ (dk : Int) (lk : List Right) (Ak : Option Addr) (nk : Nat), CellB V ⟨g, k, none⟩ (.int .i64 dk) ∧ CellB V ⟨gd, k, none⟩ (.slice Ak nk nk) ∧ HeldE lawR lawP dk lk 0 ∧ ListB Right V (.slice Ak nk nk) lk := by
  intro k hk
  match k, hk with
  | 0, _ => exact ⟨6550, [⟨0, 0⟩], _, 1, ⟨blk_at hD 0 _ rfl⟩, ⟨blk_at hW 0 _ rfl⟩, kn0, hA⟩
  | 1, _ => exact ⟨7000, [⟨1, 0⟩], _, 1, ⟨blk_at hD 1 _ rfl⟩, ⟨blk_at hW 1 _ rfl⟩, ⟨kn_1⟩, hB⟩
  | 2, _ => exact ⟨7510, [], _, 0, ⟨blk_at hD 2 _ rfl⟩, ⟨blk_at hW 2 _ rfl⟩, ⟨kn_2⟩, hN⟩
  | 3, _ => exact ⟨8500, [⟨1, 0⟩], _, 1, ⟨blk_at hD 3 _ rfl⟩, ⟨blk_at hW 3 _ rfl⟩, ⟨kn_3⟩, hC⟩
 clear hW hD hA hB hC hN
 go_loopw [7] (fun iv wr => StepC V wr ∧ ∃ k : Nat, k ≤ 4 ∧ iv = .int .i64 k) (fun iv _ => 4 - (RowKit.intOf iv).toNat)
 case atStart => exact ⟨⟨ExtC.h⟩, 0, by omega, rfl⟩
 case round =>
  obtain ⟨_, k, hk, rfl⟩ := hrel
  by_cases lk : k < 4
  ·obtain ⟨dk, lks, Ak, nk, i6, i7, i8, i9⟩ := HK k lk
   clear HK
   obtain ⟨hc, hChid⟩ : ∃ f : Nat → Array Oper → Bool → Go.Code, f = Go.Code.region := ⟨_, rfl⟩
   rw [show Go.Code.region 9 = hc 9 by rw [hChid]]
   have HCh := Lib.hid hChid
   clear hChid
   have zk : IntKind.i64.wrap ((k : Int) + 1) = (k : Int) + 1 := IntWalk.i64_in _ (by omega)
   go_wp2
   refine wp_rt ((.take 2 (.take 3 (.take 4 (.take 5 (.one 0 (.one 1 (.one 6 (.take 7 (.take 8 (.take 9 (.take 10 (.take 11 .nil))))))))))))) (fun w' => Ext V w') ?_ (fun hHeld => ?_) (hQ := by intro _ _ _ _ _ h; exact h)
   ·exact ExtC.h
   repeat' first | ((first | with_reducible refine r_mv ?_ | with_reducible refine r_as ?_ | (with_reducible refine r_ld (v := ?_) ?_ ?_; rotate_left; (· (intro W' h; have := StepC.mk h; infer_instance))) | (with_reducible refine r_un (v := ?_) ?_ ?_; rotate_left; (· (intro W' h; have := StepC.mk h; first | (simp only [execOp, eS]; go_simp; (try with_reducible rfl)))))); (try dsimp only [sS0, sS1])) | (with_reducible refine t_rd hHeld ?_) | ((with_reducible refine t_on ?_); refine t_one (by simp only [gS]; rfl) ?_) | ((first | with_reducible refine callop_c ?_); first | (rintro _ Vr ⟨vr, rfl, (_ : RulesB _ _ _), (_ : StepC _ _)⟩; refine ⟨_, rfl, ?_⟩) | (rintro _ Vp ⟨gp, rfl, (_ : BlkC _ _ _ _), (_ : StepC _ _), (hAp : AtC _ _)⟩; refine ⟨_, rfl, ?_⟩) | (rintro _ Vh ⟨Ah, ch, rfl, (_ : ListB _ _ _ _), (_ : StepC _ _)⟩; refine ⟨_, rfl, ?_⟩)) | ((with_reducible refine q_nl ?_); clear hHeld; refine t_next ExtC.h (fun hHeld => ?_); (try simp only [pS])) | (with_reducible refine t_done ?_)
   all_goals
    go_wp2
    have hChid := HCh.out
    clear HCh
    subst hChid
    refine wp_region_lit ?_
    repeat' first | ((first | with_reducible refine callop_g ?_); first | (rintro _ V ⟨rfl, (_ : StepC _ _)⟩; refine ⟨_, rfl, ?_⟩); (try simp only [pS])) | ((first | with_reducible refine g_ye ?_ | with_reducible refine r_mv ?_ | (with_reducible refine r_ld (v := ?_) ?_ ?_; rotate_left; (· (intro W' h; cases h; infer_instance))) | (with_reducible refine r_un (v := ?_) ?_ ?_; rotate_left; (· (intro W' h; cases h; first | (simp only [execOp, eS]; go_simp; (try with_reducible rfl)))))); (try dsimp only [sS0, sS1])) | (first | (with_reducible refine r_g2 ?_; (try simp only [Bool.not_true, Bool.not_false]))) | (with_reducible refine l_done ?_) | ((fail_if_success (with_reducible refine l_fn ?_)); (with_reducible refine l_rd ?_))
    go_wp2
    go_roundw
    case rel => exact ⟨⟨ExtC.h⟩, k + 1, lk, by push_cast; rfl⟩
    case measure => simp [RowKit.intOf]; omega
  ·obtain rfl : k = 4 := by omega
   clear HK
   go_wp2_with (first | (with_reducible refine call_c ?_; rintro _ Vr ⟨vr, rfl, (_ : RulesB _ _ _), (_ : StepC _ _)⟩) | (with_reducible refine call_c ?_; rintro _ Vp ⟨gp, rfl, (_ : BlkC _ _ _ _), (_ : StepC _ _), (hAp : AtC _ _)⟩) | (with_reducible refine call_c ?_; rintro _ Vd ⟨gd, rfl, (_ : BlkC _ _ _ _), (_ : StepC _ _)⟩) | ((first | with_reducible refine call_c ?_); rintro _ V ⟨rfl, (_ : StepC _ _)⟩) | (first | (with_reducible refine load_c ?_) | (with_reducible refine load_g ?_)))
   go_ret
   exact ⟨rfl, ⟨ExtC.h⟩⟩
end Go.Rg
end
section
namespace Go.Proofs.YtbfbepnkofampaaGreatDoor
open Go Go.Bp Go.Rg Go.Walk Go.RowKit Go.Proofs Go.ChangeShapes Go.WideShapes Go.ChangeAt
theorem lifted7 (os : Os) (started : os.Started) (H : Type) (enc : TypeId × Value → H) :
    ReturnsInHanded {} Tryz.checked os 7 .any (fun w args => (Go.Proofs.YtbfbepnkofampaaGreatDoor.Rows.registerKnownSpec.pre enc Tryz.prog Tryz.f7 [] false w args ∧ laidMetH Tryz.prog listed w) ∧ sizedMet enc Tryz.prog Tryz.f7 (OpenSpec.ofChange Go.Proofs.YtbfbepnkofampaaGreatDoor.Rows.registerKnownSpec) false w args)
      (Go.Proofs.YtbfbepnkofampaaGreatDoor.Rows.registerKnownSpec.post enc Tryz.prog Tryz.f7 false true false false) := by
  refine handed_shaped (C := Tryz.checked) (X := fun w _ => laidMetH Tryz.prog listed w) (fun _ _ _ hh h => h.of_heap hh) own_knob started (by kernel_rfl) Tryz.func7
    (ChangeSpec.witness_shaped (enc := enc) (C := Tryz.checked) (os := os) (X := fun w _ => laidMetH Tryz.prog listed w) false (World.laidAll Tryz.prog os listed) #[] 8 (World.laidAll_os _ _ _)
      (World.shaped_of_ZipB (by kernel_rfl) (by kernel_rfl)) (by kernel_rfl) (by kernel_rfl) (by kernel_rfl) (by rw [MakeChecks.laidMetH_plain _ _ _ (by kernel_rfl)]; exact laidMet_laidAll _ (by kernel_rfl) (by kernel_rfl))) ?_
  intro W base args ds gs before hval0 hW hL hSh hZ
  have hval : ∀ (j : Nat) t v, Tryz.f7.params[j]? = some t → args[j]? = some v → Value.okWide Tryz.prog W .any base t v := hval0
  have hW' := hW
  obtain ⟨p, q, hA0, hV, rfl, _, _⟩ := hW
  have hA : DataW.TrodAll enc Tryz.prog W 0 (fun _ => true) true Tryz.f7.params.toList args.toList ds p := hA0
  rw [Tryz.params7] at hA hval
  obtain ⟨rfl, rfl, rfl⟩ := trodAll_none hA
  obtain ⟨rfl, rfl⟩ := trodVars_none hV
  refine (@LKnown W ⟨env_of hL hSh⟩).mono fun e W' ⟨he, ⟨hb⟩⟩ => ?_
  subst he
  exact ⟨_, rfl, _, _, _, [], _, [], hW', trodAll_mk1 (shut_bool Tryz.underlying4 _), trodAll_mk0, rfl, hb.frame _, fun h => by cases h⟩
theorem holds7 : Go.Proofs.YtbfbepnkofampaaGreatDoor.Rows.RegisterKnownSaid :=
  OpenClaim.holds_of_wide 7 Tryz.f7 rfl rfl rfl rfl rfl rfl rfl ⟨rfl, rfl, rfl, rfl, rfl⟩ rfl rfl rfl rfl rfl (by kernel_rfl) Tryz.func7 closed7
    (of_decide_eq_true (by kernel_rfl)) (by unfold Func.isWrapper; first | (rw [if_pos (by decide +kernel)]; kernel_rfl) | (rw [if_neg (by decide +kernel)]; exact ⟨rfl, rfl⟩))
    (fun os started H enc _ => lifted7 os started H enc)
theorem registerKnown_holds : Go.Proofs.YtbfbepnkofampaaGreatDoor.Rows.RegisterKnownCardSaid :=
  Claim7.holds_tied_plain_at .later [] [.data, .data, .data, .data, .sentinel, .sentinel, .pinned] true (true, "4970e1223911c70aa7bcdc0bdc6bbce8f6a3c11b3c24a4250f4776a5114b5b9d") true
    holds7 (fun _ h => by cases h) wf7 (fun _ h => by cases h) Go.Proofs.YtbfbepnkofampaaGreatDoor.registerKnown_row_tie rfl ⟨rfl, rfl⟩ mainP rfl
    (fun f fn hf hfn => by
      obtain rfl : f = 7 := Option.some.inj (fm7.symm.trans hf) |>.symm
      obtain rfl : fn = Tryz.f7 := (Option.some.inj (Tryz.func7.symm.trans hfn)).symm
      exact ⟨looksP, fun j t ht => by
        rw [Tryz.params7] at ht
        have hm : t ∈ ([] : List TypeId) := by simpa using Array.mem_of_getElem? ht
        have hall : (([] : List TypeId).all fun u => !Tryz.prog.wantsStandIn u) = true := by kernel_rfl
        exact (show Tryz.prog.wantsStandIn t = false by simpa using List.all_eq_true.1 hall t hm)⟩)
    gs7
#print axioms registerKnown_holds
end Go.Proofs.YtbfbepnkofampaaGreatDoor
end
