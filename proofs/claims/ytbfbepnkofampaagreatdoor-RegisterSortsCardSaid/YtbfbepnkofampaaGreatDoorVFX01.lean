/- The tied card of RegisterSorts is proved: for every input the law returns true, and each argument reads afterwards as it read before; condition: the listed package variables start as the text lays them (the card ties them). -/
import Derived.Test.YtbfbepnkofampaaGreatDoorPX10
import Derived.Test.YtbfbepnkofampaaGreatDoorVF01
set_option maxRecDepth 100000
set_option linter.all false
section
namespace Go.Rg
open Go Go.Bp Go.RowKit Go.Walk Go.Proofs
set_option synthInstance.maxSize 2000
set_option synthInstance.maxHeartbeats 400000
set_option maxHeartbeats 4000000
class SortedE (r : Rules) (p : Person) (b : outParam Int) (l : outParam (List Event)) (n : outParam Int) : Prop where h : r.sortedAns p = (b, l, n)
end Go.Rg
end
section
namespace Go.Rg
open Go Go.Bp Go.RowKit Go.Walk Go.Proofs
set_option synthInstance.maxSize 2000
set_option synthInstance.maxHeartbeats 400000
set_option maxHeartbeats 4000000
instance qRZc13 {W : World} {v pv : Value} {r : Rules} {p : Person} {b : Int} {l : List Event} {n : Int} [h : RulesC W v r] [hp : PersonC W pv p] [q : SortedE r p b l n] : FunC Tryz.prog 18 #[v, pv] W (RPers W b l n) := ⟨Sorted_any r p v pv b l n W h.h hp.h q.h⟩
end Go.Rg
end
section
namespace Go.Proofs.YtbfbepnkofampaaGreatDoor
open Go Go.Bp Go.Rg Go.Walk Go.RowKit Go.Proofs Go.ChangeShapes Go.WideShapes Go.ChangeAt
theorem ip3 : (Rows.registerSortsRow.inPlace == Tryz.pinned.checked.prog.inPlace 3) = true := by kernel_rfl
theorem uf3 : (Rows.registerSortsRow.unfollowed == Tryz.pinned.checked.prog.unfollowed 3) = true := by kernel_rfl
theorem rc3 : (Rows.registerSortsRow.recurses == Tryz.pinned.checked.prog.recurses 3) = true := by kernel_rfl
theorem wf3 : Rows.registerSortsRow.wfByText (OpenSpec.ofChange Rows.registerSortsSpec) = true := by kernel_rfl
theorem gs3 : false = Rows.registerSortsRow.goesBy Tryz.pinned.checked.prog := by kernel_rfl
theorem fm3 : Tryz.prog.funcNamed Rows.registerSortsRow.func = some 3 := by kernel_rfl
theorem closed3 : joinedFacts Tryz.pinned.checked.prog 3 Tryz.f3 Rows.registerSortsSpec Rows.registerSortsRow = true := by
  unfold joinedFacts
  rw [ip3, uf3, rc3, nm3, loP, mrP, meP, shP, show (Rows.registerSortsRow.lifted == Tryz.pinned.checked.prog.liftsFinal) = true from liP, show (Tryz.pinned.checked.prog.make == some Rows.registerSortsRow.make) = true from mkP]
  kernel_rfl
end Go.Proofs.YtbfbepnkofampaaGreatDoor
end
section
namespace Go.Rg
open Go Go.Bp Go.RowKit Go.Walk Go.Proofs
set_option synthInstance.maxSize 2000
set_option synthInstance.maxHeartbeats 400000
set_option maxHeartbeats 4000000
instance perLst {W : World} {A : Option Addr} {c : Nat} {b : Int} {l : List Event} [h : ListC Event W (.slice A l.length c) l] : PersonC W (.agg #[.int .i64 b, .slice A l.length c]) ⟨b, l⟩ := ⟨⟨A, c, rfl, h.h⟩⟩
set_option maxHeartbeats 8000000 in
theorem LSorts (r : Rules) (p : Person) (v pv : Value) (w : World) (h : RulesV w v r) (hp : PersonV w pv p) (hv : EnvC w) :
  Calls Tryz.prog 3 #[v, pv] w (RB w true) := by
 have i1 := RulesB.mk h
 have i2 := PersonB.mk hp
 have i0 := EnvB.mk hv.h
 obtain ⟨A1, n1, c1, A2, c2, A3, c3, rfl, hn, -⟩ := h.h
 subst hn
 obtain ⟨A, c, rfl, hl⟩ := hp.h
 obtain ⟨⟨ka, kb, ke⟩, hk⟩ : ∃ x, r.check = x := ⟨_, rfl⟩
 obtain ⟨⟨b, l, n⟩, hs⟩ : ∃ x, r.sortedAns p = x := ⟨_, rfl⟩
 have j1 := RChkE.mk hk
 have j2 := RfChkE.mk hk
 have j3 := SortedE.mk hs
 have j4 := RSrtE.mk hs
 clear hk hs hl
 go_enter Tryz.func3, Tryz.ntmps3
 go_wp2_with (first | (with_reducible refine newvar_c (uu := 11) ?_; intro V11 g11 hE11 hB11 hA11) | (with_reducible refine newvar_c (uu := 12) ?_; intro V12 g12 hE12 hB12 hA12) | (with_reducible refine call_c ?_; rintro _ Vp ⟨Ap, cp, rfl, (_ : ListB Event _ _ _), (_ : StepC _ _)⟩) | ((first | with_reducible refine call_c ?_); rintro _ V ⟨rfl, (_ : StepC _ _)⟩; (try simp only [eq_self, decide_true])) | (first | (with_reducible refine load_c ?_) | (with_reducible refine box_c ?_; intro V g _ _ _)))
 all_goals
  go_ret
  exact ⟨rfl, ⟨ExtC.h⟩⟩
end Go.Rg
end
section
namespace Go.Proofs.YtbfbepnkofampaaGreatDoor
open Go Go.Bp Go.Rg Go.Walk Go.RowKit Go.Proofs Go.ChangeShapes Go.WideShapes Go.ChangeAt
theorem lifted3 (os : Os) (started : os.Started) (H : Type) (enc : TypeId × Value → H) :
    ReturnsInHanded {} Tryz.checked os 3 .any (fun w args => (Go.Proofs.YtbfbepnkofampaaGreatDoor.Rows.registerSortsSpec.pre enc Tryz.prog Tryz.f3 [] false w args ∧ laidMetH Tryz.prog listed w) ∧ sizedMet enc Tryz.prog Tryz.f3 (OpenSpec.ofChange Go.Proofs.YtbfbepnkofampaaGreatDoor.Rows.registerSortsSpec) false w args)
      (Go.Proofs.YtbfbepnkofampaaGreatDoor.Rows.registerSortsSpec.post enc Tryz.prog Tryz.f3 false true false false) := by
  refine handed_shaped (C := Tryz.checked) (X := fun w _ => laidMetH Tryz.prog listed w) (fun _ _ _ hh h => h.of_heap hh) own_knob started (by kernel_rfl) Tryz.func3
    (ChangeSpec.witness_shaped (enc := enc) (C := Tryz.checked) (os := os) (X := fun w _ => laidMetH Tryz.prog listed w) false (World.laidAll Tryz.prog os listed) #[.agg #[.slice none 0 0, .slice none 0 0, .slice none 0 0, .int .i64 0, .int .i64 0, .int .i64 0], .agg #[.int .i64 0, .slice none 0 0]] 8 (World.laidAll_os _ _ _)
      (World.shaped_of_ZipB (by kernel_rfl) (by kernel_rfl)) (by kernel_rfl) (by kernel_rfl) (by kernel_rfl) (by rw [MakeChecks.laidMetH_plain _ _ _ (by kernel_rfl)]; exact laidMet_laidAll _ (by kernel_rfl) (by kernel_rfl))) ?_
  intro W base args ds gs before hval0 hW hL hSh hZ
  have hval : ∀ (j : Nat) t v, Tryz.f3.params[j]? = some t → args[j]? = some v → Value.okWide Tryz.prog W .any base t v := hval0
  have hW' := hW
  obtain ⟨p, q, hA0, hV, rfl, _, _⟩ := hW
  have hA : DataW.TrodAll enc Tryz.prog W 0 (fun _ => true) true Tryz.f3.params.toList args.toList ds p := hA0
  rw [Tryz.params3] at hA hval
  obtain ⟨v0, v1, d0, d1, p0, p1, rfl, rfl, rfl, h0, h1⟩ := trodAll_two hA
  obtain ⟨rfl, rfl⟩ := trodVars_none hV
  have k0 := h0
  have k1 := h1
  obtain ⟨x0, hx0⟩ := arg_rules (hval 0 28 v0 rfl rfl) h0
  obtain ⟨x1, hx1⟩ := arg_person (hval 1 31 v1 rfl rfl) h1
  have lt0 : ∀ x ∈ p0, x.block < W.heap.size := fun x hx => hW'.lt x (by simp [hx])
  have lt1 : ∀ x ∈ p1, x.block < W.heap.size := fun x hx => hW'.lt x (by simp [hx])
  refine (LSorts x0 x1 _ _ W hx0 hx1 ⟨env_of hL hSh⟩).mono fun e W' ⟨he, ⟨hb⟩⟩ => ?_
  subst he
  exact ⟨_, rfl, _, _, _, [], _, [], hW', trodAll_mk1 (shut_bool Tryz.underlying4 _), trodAll_mk2 (Below.trod laid_out (by kernel_rfl) (of_decide_eq_true (by kernel_rfl)) k0 hb lt0) (Below.trod laid_out (by kernel_rfl) (of_decide_eq_true (by kernel_rfl)) k1 hb lt1), rfl, hb.frame _, fun h => by cases h⟩
theorem holds3 : Go.Proofs.YtbfbepnkofampaaGreatDoor.Rows.RegisterSortsSaid :=
  OpenClaim.holds_of_wide 3 Tryz.f3 rfl rfl rfl rfl rfl rfl rfl ⟨rfl, rfl, rfl, rfl, rfl⟩ rfl rfl rfl rfl rfl (by kernel_rfl) Tryz.func3 closed3
    (of_decide_eq_true (by kernel_rfl)) (by unfold Func.isWrapper; first | (rw [if_pos (by decide +kernel)]; kernel_rfl) | (rw [if_neg (by decide +kernel)]; exact ⟨rfl, rfl⟩))
    (fun os started H enc _ => lifted3 os started H enc)
theorem registerSorts_holds : Go.Proofs.YtbfbepnkofampaaGreatDoor.Rows.RegisterSortsCardSaid :=
  Claim7.holds_tied_plain_at .later [] [.data, .data, .data, .data, .sentinel, .sentinel, .pinned] true (true, "4970e1223911c70aa7bcdc0bdc6bbce8f6a3c11b3c24a4250f4776a5114b5b9d") true
    holds3 (fun _ h => by cases h) wf3 (fun _ h => by cases h) Go.Proofs.YtbfbepnkofampaaGreatDoor.registerSorts_row_tie rfl ⟨rfl, rfl⟩ mainP rfl
    (fun f fn hf hfn => by
      obtain rfl : f = 3 := Option.some.inj (fm3.symm.trans hf) |>.symm
      obtain rfl : fn = Tryz.f3 := (Option.some.inj (Tryz.func3.symm.trans hfn)).symm
      exact ⟨looksP, fun j t ht => by
        rw [Tryz.params3] at ht
        have hm : t ∈ ([28, 31] : List TypeId) := by simpa using Array.mem_of_getElem? ht
        have hall : (([28, 31] : List TypeId).all fun u => !Tryz.prog.wantsStandIn u) = true := by kernel_rfl
        exact (show Tryz.prog.wantsStandIn t = false by simpa using List.all_eq_true.1 hall t hm)⟩)
    gs3
#print axioms registerSorts_holds
end Go.Proofs.YtbfbepnkofampaaGreatDoor
end
