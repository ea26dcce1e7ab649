/- The tied card of RegisterExchanged is proved: for every input the law returns true, and each argument reads afterwards as it read before; condition: the listed package variables start as the text lays them (the card ties them). -/
import Derived.Test.YtbfbepnkofampaaGreatDoorQBCDEX01
import Derived.Test.YtbfbepnkofampaaGreatDoorQBCDX01
import Derived.Test.YtbfbepnkofampaaGreatDoorQD01
set_option maxRecDepth 100000
set_option linter.all false
section
namespace Go.Proofs.YtbfbepnkofampaaGreatDoor
open Go Go.Bp Go.Rg Go.Walk Go.RowKit Go.Proofs Go.ChangeShapes Go.WideShapes Go.ChangeAt
theorem ip12 : (Rows.registerExchangedRow.inPlace == Tryz.pinned.checked.prog.inPlace 12) = true := by kernel_rfl
theorem uf12 : (Rows.registerExchangedRow.unfollowed == Tryz.pinned.checked.prog.unfollowed 12) = true := by kernel_rfl
theorem rc12 : (Rows.registerExchangedRow.recurses == Tryz.pinned.checked.prog.recurses 12) = true := by kernel_rfl
theorem nm12 : (Rows.registerExchangedRow.named == Tryz.pinned.checked.prog.varsNamed 12) = true := by kernel_rfl
theorem wf12 : Rows.registerExchangedRow.wfByText (OpenSpec.ofChange Rows.registerExchangedSpec) = true := by kernel_rfl
theorem gs12 : false = Rows.registerExchangedRow.goesBy Tryz.pinned.checked.prog := by kernel_rfl
theorem fm12 : Tryz.prog.funcNamed Rows.registerExchangedRow.func = some 12 := by kernel_rfl
theorem closed12 : joinedFacts Tryz.pinned.checked.prog 12 Tryz.f12 Rows.registerExchangedSpec Rows.registerExchangedRow = true := by
  unfold joinedFacts
  rw [ip12, uf12, rc12, nm12, loP, mrP, meP, shP, show (Rows.registerExchangedRow.lifted == Tryz.pinned.checked.prog.liftsFinal) = true from liP, show (Tryz.pinned.checked.prog.make == some Rows.registerExchangedRow.make) = true from mkP]
  kernel_rfl
end Go.Proofs.YtbfbepnkofampaaGreatDoor
end
section
namespace Go.Rg
open Go Go.Bp Go.RowKit Go.Walk Go.Proofs
set_option synthInstance.maxSize 2000
set_option synthInstance.maxHeartbeats 400000
set_option maxHeartbeats 4000000
/-- What of a treaty is looked at. -/
theorem exch_ready {r : Rules} {p q : Person} {d i : Nat} {xd : Int} {dd : Int} (hi : i < r.treaties.length) (hq : q = ⟨p.born, p.events ++ [⟨1, xd, ⟨0, 0⟩, i, 0, 0, 0, 0⟩]⟩) (h2 : r.personErr q = 0) (hd : 0 ≤ dd ∧ dd ≤ 40000) (hb : p.born ≤ dd) (h1 : r.personErr p = 0) {lo hh : Int} (hl : r.treaties[i].days = ⟨lo, hh⟩) {z : Right} (hz : r.treaties[i].right = z)
  (q2 : Person) (hq2 : q2 = if lo ≤ xd ∧ xd ≤ hh then ⟨p.born, p.events ++ [⟨0, xd, z, 0, 0, 0, 0, 0⟩]⟩ else p) : r.heldAns q dd = r.heldAns q2 dd := by
 have hT : r.treaties.getD (i : Int).toNat ⟨ByteArray.empty, ⟨0, 0⟩, ⟨0, 0⟩⟩ = r.treaties[i] := by simp [List.getD, hi]
 have ev : r.eventErr p.born ⟨1, xd, ⟨0, 0⟩, i, 0, 0, 0, 0⟩ = 0 := by
  have := (Rules.person_ok h2).2.2.2 ⟨1, xd, ⟨0, 0⟩, i, 0, 0, 0, 0⟩ (by rw [hq]; simp)
  rw [hq] at this; exact this
 have hn := (Rules.person_ok h2).2.2.1
 have hp2 : r.personErr q2 = 0 := by
  rw [hq2]
  split
  ·obtain ⟨a1, a2, a3, a4⟩ := Rules.person_ok h1
   refine Rules.person_of a1 a2 (by rw [hq] at hn; simpa using hn) fun x hx => ?_
   rcases List.mem_append.1 hx with hx | hx
   ·exact a4 x hx
   ·rw [List.mem_singleton] at hx
    subst hx
    have hz2 := (Rules.ok_of a1).treaty i hi
    obtain ⟨⟨e1, e2, e3⟩, _⟩ := event_shape ev
    simp only at e1 e2 e3
    have hre : r.sys.rightErr z = 0 := by rw [← hz]; exact (Rules.treatyErr_0 hz2).2.2.1
    unfold Rules.eventErr
    rw [if_neg (by simp [inB]), if_neg (by simp [inB]; omega), if_neg (by simp only; omega)]
    simp [Rules.had, Rules.bare, hre, inB]
  ·exact h1
 subst hq
 refine Rules.exchanged_law rfl h2 q2 hp2 (by rw [hq2]; split <;> rfl) ?_ hd hb
 unfold Rules.daysOf
 simp only [hT, hl]
 rw [hq2]
 by_cases hc : lo ≤ xd ∧ xd ≤ hh
 ·rw [if_pos hc, if_pos (by simp [inB, hc])]
  exact ⟨_, rfl, rfl, rfl, by unfold Rules.rightOf; rw [if_pos rfl]; simp only [hT]; exact hz.symm⟩
 ·rw [if_neg hc, if_neg (by simp only [inB, Bool.and_eq_true, decide_eq_true_eq]; exact hc)]
set_option maxHeartbeats 8000000 in
theorem LExchanged (r : Rules) (p : Person) (v pv vt : Value) (dd dc df xk xd xc xo xt xq xp xu xm : Int) (w : World) (h : RulesV w v r) (hp : PersonV w pv p) (hf : FewE p) (hv : EnvC w) (hvt : vt.cells = #[vt]) :
  Calls Tryz.prog 12 #[v, pv, .agg #[.int .i64 dd, .int .i64 dc, .int .i64 df, vt, .int .i64 xk, .int .i64 xd, .int .i64 xc, .int .i64 xo, .int .i64 xt, .int .i64 xq, .int .i64 xp, .int .i64 xu, .int .i64 xm]] w (RB w true) := by
 obtain ⟨A1, n1, c1, A2, c2, A3, c3, rfl, hn, _, _, h5⟩ := h.h
 subst hn
 obtain ⟨A, c, rfl, hl⟩ := hp.h
 have i1 := RulesB.mk h
 have i2 := PersonB.mk hp
 have i0 := EnvB.mk hv.h
 obtain ⟨q, hq⟩ : ∃ q : Person, q = ⟨p.born, p.events ++ [⟨1, xd, ⟨0, 0⟩, xt, 0, 0, 0, 0⟩]⟩ := ⟨_, rfl⟩
 have i3 := WithE.mk hq
 obtain ⟨b1, h1⟩ : ∃ b, (decide (r.personErr p = 0) && decide (r.driveErr p ⟨dd, dc, df⟩ = 0)) = b := ⟨_, rfl⟩
 have j1 := ValE.mk h1
 clear hl
 cases b1
 case false =>
  clear h1 hq h5
  go_enter Tryz.func12, Tryz.ntmps12
  go_wp2_with (first | (with_reducible refine call_c ?_; rintro _ Vw ⟨A9, k9, B9, rfl, (_ : RowC _ _ _ 80 _ _ _), (_ : StepC _ _)⟩) | ((first | with_reducible refine call_c ?_); rintro _ V ⟨rfl, (_ : StepC _ _)⟩; (try simp only [eq_self, decide_true])) | (with_reducible refine newvar_c (uu := 7) ?_; intro V7 g7 hE7 hB7 hA7) | (with_reducible refine newvar_c (uu := 8) ?_; intro V8 g8 hE8 hB8 hA8) | (first | go_skip | (with_reducible refine load_c ?_) | (with_reducible refine box_c ?_; intro V g _ _ _)))
  all_goals
   go_ret
   exact ⟨rfl, ⟨ExtC.h⟩⟩
 obtain ⟨b2, h2⟩ : ∃ b, (decide (r.personErr q = 0) && decide (r.driveErr q ⟨dd, dc, df⟩ = 0)) = b := ⟨_, rfl⟩
 have j2 := ValE.mk h2
 cases b2
 case false =>
  clear h1 h2 hq h5
  go_enter Tryz.func12, Tryz.ntmps12
  go_wp2_with (first | (with_reducible refine call_c ?_; rintro _ Vw ⟨A9, k9, B9, rfl, (_ : RowC _ _ _ 80 _ _ _), (_ : StepC _ _)⟩) | ((first | with_reducible refine call_c ?_); rintro _ V ⟨rfl, (_ : StepC _ _)⟩; (try simp only [eq_self, decide_true])) | (with_reducible refine newvar_c (uu := 7) ?_; intro V7 g7 hE7 hB7 hA7) | (with_reducible refine newvar_c (uu := 8) ?_; intro V8 g8 hE8 hB8 hA8) | (first | (with_reducible refine load_c ?_) | (with_reducible refine load_g ?_) | (with_reducible refine box_c ?_; intro V g _ _ _)))
  all_goals
   go_ret
   exact ⟨rfl, ⟨ExtC.h⟩⟩
 simp only [Bool.and_eq_true, decide_eq_true_eq] at h1 h2
 obtain ⟨d1, d2, d3, d4⟩ := Rules.drive_ok h1.2
 have hxt : 0 ≤ xt ∧ xt < r.treaties.length := by
  have ev := (Rules.person_ok h2.1).2.2.2 ⟨1, xd, ⟨0, 0⟩, xt, 0, 0, 0, 0⟩ (by rw [hq]; simp)
  obtain ⟨_, hs⟩ := event_shape ev
  rcases hs with ⟨y, m', e, _⟩ | ⟨t', e, e2⟩ | ⟨t', e, _⟩ | ⟨t', e, h⟩ | ⟨t', e, _⟩
  ·injection e with e; cases e
  ·injection e with e e3 e4 e5; subst e5; exact e2
  ·injection e with e; cases e
  ·injection e with e; cases e
  ·injection e with e; cases e
 obtain ⟨i, rfl⟩ : ∃ i : Nat, xt = (i : Int) := ⟨xt.toNat, by omega⟩
 have hi : i < r.treaties.length := by omega
 obtain ⟨ad, rfl, ha⟩ := h5.elem hi
 have i4 := ListB.mk h5
 obtain ⟨⟨nm, ⟨rc, ro⟩, lo, hh⟩, hx⟩ : ∃ x, r.treaties[i] = x := ⟨_, rfl⟩
 rw [hx] at ha
 have i5 : CellsB w (ad.add (i * 5)) [.string nm, .int .i64 rc, .int .i64 ro, .int .i64 lo, .int .i64 hh] := ⟨ha⟩
 obtain ⟨q2, hq2⟩ : ∃ q2 : Person, q2 = if lo ≤ xd ∧ xd ≤ hh then ⟨p.born, p.events ++ [⟨0, xd, ⟨rc, ro⟩, 0, 0, 0, 0, 0⟩]⟩ else p := ⟨_, rfl⟩
 have hL := exch_ready (d := 0) hi hq h2.1 d1 d2 h1.1 (by rw [hx]) (by rw [hx]) q2 hq2
 have hA : ∃ l, r.heldAns q dd = (l, 0) := by
  rw [Rules.heldAns_of h2.1 d1 (by rw [hq]; exact d2)]
  split
  ·exact ⟨_, rfl⟩
  ·exact ⟨_, rfl⟩
 obtain ⟨l, hA⟩ := hA
 rw [hA] at hL
 have j3 := HeldE.mk hA
 obtain ⟨e1, z1⟩ : ∃ b, decide (lo ≤ xd) = b := ⟨_, rfl⟩
 obtain ⟨e2, z2⟩ : ∃ b, decide (xd ≤ hh) = b := ⟨_, rfl⟩
 cases e1
 ·rw [if_neg (by have := of_decide_eq_false z1; omega)] at hq2
  subst hq2
  have j4 := HeldE.mk hL.symm
  clear h1 h2 hq hx hL hA ha h5 hxt
  go_enter Tryz.func12, Tryz.ntmps12
  go_wp2_with (first | (with_reducible refine call_c ?_; rintro _ Vw ⟨A9, k9, B9, rfl, (_ : RowC _ _ _ 80 _ _ _), (_ : StepC _ _)⟩) | ((first | with_reducible refine call_c ?_); rintro _ V ⟨rfl, (_ : StepC _ _)⟩; (try simp only [eq_self, decide_true])) | (with_reducible refine newvar_c (uu := 7) ?_; intro V7 g7 hE7 hB7 hA7) | (with_reducible refine newvar_c (uu := 8) ?_; intro V8 g8 hE8 hB8 hA8) | (with_reducible refine newvar_c (uu := 11) ?_; intro V11 g11 hE11 hB11 hA11) | (with_reducible refine newvar_c (uu := 12) ?_; intro V12 g12 hE12 hB12 hA12) | (first | go_skip | (with_reducible refine load_c ?_) | (with_reducible refine load_g ?_) | (with_reducible refine call_c ?_; first | rintro _ V ⟨_, _, _, rfl, (_ : RowC _ _ _ _ _ _ _), (_ : StepC _ _)⟩) | (with_reducible refine box_c ?_; intro V g _ _ _)))
  all_goals
   go_ret
   exact ⟨rfl, ⟨ExtC.h⟩⟩
 ·cases e2
  ·rw [if_neg (by have := of_decide_eq_false z2; omega)] at hq2
   subst hq2
   have j4 := HeldE.mk hL.symm
   clear h1 h2 hq hx hL hA ha h5 hxt
   go_enter Tryz.func12, Tryz.ntmps12
   go_wp2_with (first | (with_reducible refine call_c ?_; rintro _ Vw ⟨A9, k9, B9, rfl, (_ : RowC _ _ _ 80 _ _ _), (_ : StepC _ _)⟩) | ((first | with_reducible refine call_c ?_); rintro _ V ⟨rfl, (_ : StepC _ _)⟩; (try simp only [eq_self, decide_true])) | (with_reducible refine newvar_c (uu := 7) ?_; intro V7 g7 hE7 hB7 hA7) | (with_reducible refine newvar_c (uu := 8) ?_; intro V8 g8 hE8 hB8 hA8) | (with_reducible refine newvar_c (uu := 11) ?_; intro V11 g11 hE11 hB11 hA11) | (with_reducible refine newvar_c (uu := 12) ?_; intro V12 g12 hE12 hB12 hA12) | (first | (with_reducible refine load_c ?_) | (with_reducible refine load_g ?_) | (with_reducible refine call_c ?_; first | rintro _ V ⟨_, _, _, rfl, (_ : RowC _ _ _ _ _ _ _), (_ : StepC _ _)⟩) | (with_reducible refine box_c ?_; intro V g _ _ _)))
   all_goals
    go_ret
    exact ⟨rfl, ⟨ExtC.h⟩⟩
  ·rw [if_pos ⟨of_decide_eq_true z1, of_decide_eq_true z2⟩] at hq2
   have j4 := HeldE.mk hL.symm
   have j5 := WithE.mk hq2
   clear h1 h2 hq hx hL hA ha h5 hxt hq2
   go_enter Tryz.func12, Tryz.ntmps12
   go_wp2_with (first | (with_reducible refine call_c ?_; rintro _ Vw ⟨A9, k9, B9, rfl, (_ : RowC _ _ _ 80 _ _ _), (_ : StepC _ _)⟩) | ((first | with_reducible refine call_c ?_); rintro _ V ⟨rfl, (_ : StepC _ _)⟩; (try simp only [eq_self, decide_true])) | (with_reducible refine newvar_c (uu := 7) ?_; intro V7 g7 hE7 hB7 hA7) | (with_reducible refine newvar_c (uu := 8) ?_; intro V8 g8 hE8 hB8 hA8) | (with_reducible refine newvar_c (uu := 11) ?_; intro V11 g11 hE11 hB11 hA11) | (with_reducible refine newvar_c (uu := 12) ?_; intro V12 g12 hE12 hB12 hA12) | (first | (with_reducible refine load_c ?_) | (with_reducible refine load_g ?_) | (with_reducible refine call_c ?_; first | rintro _ V ⟨_, _, _, rfl, (_ : RowC _ _ _ _ _ _ _), (_ : StepC _ _)⟩) | (with_reducible refine store_c ?_; intro V _ _) | (with_reducible refine box_c ?_; intro V g _ _ _)))
   all_goals
    go_ret
    exact ⟨rfl, ⟨ExtC.h⟩⟩
end Go.Rg
end
section
namespace Go.Proofs.YtbfbepnkofampaaGreatDoor
open Go Go.Bp Go.Rg Go.Walk Go.RowKit Go.Proofs Go.ChangeShapes Go.WideShapes Go.ChangeAt
theorem lifted12 (os : Os) (started : os.Started) (H : Type) (enc : TypeId × Value → H) :
    ReturnsInHanded {} Tryz.checked os 12 .any (fun w args => (Go.Proofs.YtbfbepnkofampaaGreatDoor.Rows.registerExchangedSpec.pre enc Tryz.prog Tryz.f12 [] false w args ∧ laidMetH Tryz.prog listed w) ∧ sizedMet enc Tryz.prog Tryz.f12 (OpenSpec.ofChange Go.Proofs.YtbfbepnkofampaaGreatDoor.Rows.registerExchangedSpec) false w args)
      (Go.Proofs.YtbfbepnkofampaaGreatDoor.Rows.registerExchangedSpec.post enc Tryz.prog Tryz.f12 false true false false) := by
  refine handed_shaped (C := Tryz.checked) (X := fun w _ => laidMetH Tryz.prog listed w) (fun _ _ _ hh h => h.of_heap hh) own_knob started (by kernel_rfl) Tryz.func12
    (ChangeSpec.witness_shaped (enc := enc) (C := Tryz.checked) (os := os) (X := fun w _ => laidMetH Tryz.prog listed w) false (World.laidAll Tryz.prog os listed) #[.agg #[.slice none 0 0, .slice none 0 0, .slice none 0 0, .int .i64 0, .int .i64 0, .int .i64 0], .agg #[.int .i64 0, .slice none 0 0], .agg #[.int .i64 0, .int .i64 0, .int .i64 0, .slice none 0 0, .int .i64 0, .int .i64 0, .int .i64 0, .int .i64 0, .int .i64 0, .int .i64 0, .int .i64 0, .int .i64 0, .int .i64 0]] 8 (World.laidAll_os _ _ _)
      (World.shaped_of_ZipB (by kernel_rfl) (by kernel_rfl)) (by kernel_rfl) (by kernel_rfl) (by kernel_rfl) (by rw [MakeChecks.laidMetH_plain _ _ _ (by kernel_rfl)]; exact laidMet_laidAll _ (by kernel_rfl) (by kernel_rfl))) ?_
  intro W base args ds gs before hval0 hW hL hSh hZ
  have hval : ∀ (j : Nat) t v, Tryz.f12.params[j]? = some t → args[j]? = some v → Value.okWide Tryz.prog W .any base t v := hval0
  have hW' := hW
  obtain ⟨p, q, hA0, hV, rfl, _, _⟩ := hW
  have hA : DataW.TrodAll enc Tryz.prog W 0 (fun _ => true) true Tryz.f12.params.toList args.toList ds p := hA0
  rw [Tryz.params12] at hA hval
  obtain ⟨v0, v1, v2, d0, d1, d2, p0, p1, p2, rfl, rfl, rfl, h0, h1, h2⟩ := trodAll_three hA
  obtain ⟨rfl, rfl⟩ := trodVars_none hV
  have k0 := h0
  have k1 := h1
  have k2 := h2
  obtain ⟨x0, hx0⟩ := arg_rules (hval 0 28 v0 rfl rfl) h0
  obtain ⟨x1, hx1⟩ := arg_person (hval 1 31 v1 rfl rfl) h1
  obtain ⟨dd, dc, df, A2, c2, us, xk, xd, xc, xo, xt, xq, xp, xu, xm, rfl, hu2, hb2⟩ := arg_told (hval 2 82 v2 rfl rfl) h2
  have lt0 : ∀ x ∈ p0, x.block < W.heap.size := fun x hx => hW'.lt x (by simp [hx])
  have lt1 : ∀ x ∈ p1, x.block < W.heap.size := fun x hx => hW'.lt x (by simp [hx])
  have lt2 : ∀ x ∈ p2, x.block < W.heap.size := fun x hx => hW'.lt x (by simp [hx])
  refine (LExchanged x0 x1 _ _ _ dd dc df xk xd xc xo xt xq xp xu xm W hx0 hx1 ⟨room_of Tryz.params12 hZ hx1⟩ ⟨env_of hL hSh⟩ rfl).mono fun e W' ⟨he, ⟨hb⟩⟩ => ?_
  subst he
  exact ⟨_, rfl, _, _, _, [], _, [], hW', trodAll_mk1 (shut_bool Tryz.underlying4 _), trodAll_mk3 (Below.trod laid_out (by kernel_rfl) (of_decide_eq_true (by kernel_rfl)) k0 hb lt0) (Below.trod laid_out (by kernel_rfl) (of_decide_eq_true (by kernel_rfl)) k1 hb lt1) (Below.trod laid_out (by kernel_rfl) (of_decide_eq_true (by kernel_rfl)) k2 hb lt2), rfl, hb.frame _, fun h => by cases h⟩
theorem holds12 : Go.Proofs.YtbfbepnkofampaaGreatDoor.Rows.RegisterExchangedSaid :=
  OpenClaim.holds_of_wide 12 Tryz.f12 rfl rfl rfl rfl rfl rfl rfl ⟨rfl, rfl, rfl, rfl, rfl⟩ rfl rfl rfl rfl rfl (by kernel_rfl) Tryz.func12 closed12
    (of_decide_eq_true (by kernel_rfl)) (by unfold Func.isWrapper; first | (rw [if_pos (by decide +kernel)]; kernel_rfl) | (rw [if_neg (by decide +kernel)]; exact ⟨rfl, rfl⟩))
    (fun os started H enc _ => lifted12 os started H enc)
theorem registerExchanged_holds : Go.Proofs.YtbfbepnkofampaaGreatDoor.Rows.RegisterExchangedCardSaid :=
  Claim7.holds_tied_plain_at .later [] [.data, .data, .data, .data, .sentinel, .sentinel, .pinned] true (true, "4970e1223911c70aa7bcdc0bdc6bbce8f6a3c11b3c24a4250f4776a5114b5b9d") true
    holds12 (fun _ h => by cases h) wf12 (fun _ h => by cases h) Go.Proofs.YtbfbepnkofampaaGreatDoor.registerExchanged_row_tie rfl ⟨rfl, rfl⟩ mainP rfl
    (fun f fn hf hfn => by
      obtain rfl : f = 12 := Option.some.inj (fm12.symm.trans hf) |>.symm
      obtain rfl : fn = Tryz.f12 := (Option.some.inj (Tryz.func12.symm.trans hfn)).symm
      exact ⟨looksP, fun j t ht => by
        rw [Tryz.params12] at ht
        have hm : t ∈ ([28, 31, 82] : List TypeId) := by simpa using Array.mem_of_getElem? ht
        have hall : (([28, 31, 82] : List TypeId).all fun u => !Tryz.prog.wantsStandIn u) = true := by kernel_rfl
        exact (show Tryz.prog.wantsStandIn t = false by simpa using List.all_eq_true.1 hall t hm)⟩)
    gs12
#print axioms registerExchanged_holds
end Go.Proofs.YtbfbepnkofampaaGreatDoor
end
