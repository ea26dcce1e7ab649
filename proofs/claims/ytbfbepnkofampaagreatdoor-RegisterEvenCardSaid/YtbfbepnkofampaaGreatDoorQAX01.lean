/- The tied card of RegisterEven is proved: for every input the law returns true, and each argument reads afterwards as it read before; condition: the listed package variables start as the text lays them (the card ties them). -/
import Derived.Test.YtbfbepnkofampaaGreatDoorPX10
import Derived.Test.YtbfbepnkofampaaGreatDoorQA01
import Derived.Test.YtbfbepnkofampaaGreatDoorQAEX01
set_option maxRecDepth 100000
set_option linter.all false
section
namespace Go.Proofs.YtbfbepnkofampaaGreatDoor
open Go Go.Bp Go.Rg Go.Walk Go.RowKit Go.Proofs Go.ChangeShapes Go.WideShapes Go.ChangeAt
theorem ip13 : (Rows.registerEvenRow.inPlace == Tryz.pinned.checked.prog.inPlace 13) = true := by kernel_rfl
theorem uf13 : (Rows.registerEvenRow.unfollowed == Tryz.pinned.checked.prog.unfollowed 13) = true := by kernel_rfl
theorem rc13 : (Rows.registerEvenRow.recurses == Tryz.pinned.checked.prog.recurses 13) = true := by kernel_rfl
theorem nm13 : (Rows.registerEvenRow.named == Tryz.pinned.checked.prog.varsNamed 13) = true := by kernel_rfl
theorem wf13 : Rows.registerEvenRow.wfByText (OpenSpec.ofChange Rows.registerEvenSpec) = true := by kernel_rfl
theorem gs13 : false = Rows.registerEvenRow.goesBy Tryz.pinned.checked.prog := by kernel_rfl
theorem fm13 : Tryz.prog.funcNamed Rows.registerEvenRow.func = some 13 := by kernel_rfl
theorem closed13 : joinedFacts Tryz.pinned.checked.prog 13 Tryz.f13 Rows.registerEvenSpec Rows.registerEvenRow = true := by
  unfold joinedFacts
  rw [ip13, uf13, rc13, nm13, loP, mrP, meP, shP, show (Rows.registerEvenRow.lifted == Tryz.pinned.checked.prog.liftsFinal) = true from liP, show (Tryz.pinned.checked.prog.make == some Rows.registerEvenRow.make) = true from mkP]
  kernel_rfl
end Go.Proofs.YtbfbepnkofampaaGreatDoor
end
section
namespace Go.Rg
open Go Go.Bp Go.RowKit Go.Walk Go.Proofs
set_option synthInstance.maxSize 2000
set_option synthInstance.maxHeartbeats 400000
set_option maxHeartbeats 4000000
theorem even_bd {l : List Event} (h : ∀ x ∈ l, 0 ≤ x.points ∧ x.points ≤ 20) (day : Int) : ∀ k, k ≤ l.length → 0 ≤ evenTo l day k ∧ evenTo l day k ≤ 20 * k
 | 0, _ => by simp [evenTo]
 | k + 1, hk => by
  have ih := even_bd h day k (by omega)
  unfold evenTo
  split
  ·have := h (evAt l k) (ev_mem (by omega)); push_cast; omega
  ·push_cast; omega
theorem even_succ {l : List Event} {day : Int} {k : Nat} (hk : k < l.length) : evenTo l day (k + 1) = evenTo l day k + if isOff l[k] = true ∧ l[k].day ≤ day ∧ l[k] ∉ l.take k then l[k].points else 0 := by
 have : evAt l k = l[k] := by unfold evAt; simp [List.getD, hk]
 rw [← this]; rfl
theorem mem_take {l : List Event} {x : Event} {k : Nat} (hk : k < l.length) : decide (x ∈ l.take (k + 1)) = (decide (x ∈ l.take k) || decide (l[k] = x)) := by
 rw [List.take_succ_eq_append_getElem hk, Bool.eq_iff_iff]
 simp only [List.mem_append, List.mem_singleton, Bool.or_eq_true, decide_eq_true_eq]
 exact or_congr_right eq_comm
set_option maxHeartbeats 8000000 in
theorem LEven (r : Rules) (p : Person) (v pv : Value) (d : Int) (w : World) (h : RulesV w v r) (hp : PersonV w pv p) (hv : EnvC w) (hd : 0 ≤ d ∧ d ≤ 65535) :
  Calls Tryz.prog 13 #[v, pv, .int .u16 d] w (RB w true) := by
 obtain ⟨A1, n1, c1, A2, c2, A3, c3, rfl, hn, -⟩ := h.h
 subst hn
 obtain ⟨A, c, rfl, hl⟩ := hp.h
 have i1 := RulesB.mk h
 have i2 := PersonB.mk hp
 have i4 := ListB.mk hl
 have i0 := EnvB.mk hv.h
 have zd : IntKind.i64.wrap d = d := IntWalk.i64_in _ (by omega)
 obtain ⟨⟨⟨pc, pf, pt⟩, n⟩, hs⟩ : ∃ x, r.pointsAns p d = x := ⟨_, rfl⟩
 have j1 := PointsE.mk hs
 have hcase : (n ≠ 0 ∧ pc = 0 ∧ pf = 0 ∧ pt = 0) ∨ (n = 0 ∧ r.personErr p = 0 ∧ 0 ≤ d ∧ d ≤ 40000) := by
  unfold Rules.pointsAns at hs
  by_cases z1 : r.personErr p = 0
  ·rw [if_neg (by simpa using z1)] at hs
   by_cases z2 : inB d 0 40000 = false
   ·rw [if_pos z2] at hs
    injection hs with e1 e2
    injection e1 with e3 e4 e5
    exact .inl ⟨by omega, e3.symm, e4.symm, e5.symm⟩
   ·rw [if_neg z2] at hs
    injection hs with e1 e2
    exact .inr ⟨e2.symm, z1, inB_t.1 (by simpa using z2)⟩
  ·rw [if_pos z1] at hs
   injection hs with e1 e2
   injection e1 with e3 e4 e5
   exact .inl ⟨by rw [← e2]; exact z1, e3.symm, e4.symm, e5.symm⟩
 rcases hcase with ⟨z, rfl, rfl, rfl⟩ | ⟨rfl, hz, hd1⟩
 ·have q1 : (n != 0) = true := by simpa using z
  have hE := fun W => eql45 W 0 0 0 0 0 0
  simp only [and_self, decide_true] at hE
  clear hs z
  go_enter Tryz.func13, Tryz.ntmps13
  go_wp2_with (first | ((first | with_reducible refine call_c ?_); rintro _ V ⟨rfl, (_ : StepC _ _)⟩; (try simp only [eq_self, decide_true])) | (with_reducible refine newvar_c (uu := 7) ?_; intro V7 g7 hE7 hB7 hA7) | (first | go_skip | (with_reducible refine load_c ?_) | (with_reducible refine load_g ?_) | (with_reducible refine box_c ?_; intro V g _ _ _)))
  all_goals
   go_ret
   exact ⟨rfl, ⟨ExtC.h⟩⟩
 ·obtain ⟨s, hs2, a1, a2, a3, a4, a5⟩ := Rules.even_law hz hd1
  rw [hs] at hs2
  injection hs2 with e1
  subst e1
  simp only at a1 a2 a3 a4 a5
  have j2 : RPerE r p 0 := ⟨hz⟩
  obtain ⟨_, _, hn30, hev⟩ := Rules.person_ok hz
  have hpt : ∀ x ∈ p.events, 0 ≤ x.points ∧ x.points ≤ 20 := fun x hx => by
   obtain ⟨_, hs⟩ := event_shape (hev x hx)
   rcases hs with ⟨y, m', e, _⟩ | ⟨t', e, _⟩ | ⟨t', e, _⟩ | ⟨t', e, h⟩ | ⟨t', e, _⟩ <;> rw [e] <;> simp <;> omega
  have Hbd := Lib.hid (even_bd hpt d)
  have Hpt := Lib.hid hpt
  have hle := Hbd.out p.events.length (Nat.le_refl _)
  rw [a4] at hle
  have H4 := Lib.hid a4
  have g1 : pc ≥ 0 := a1
  have g2 : pf ≥ 0 := a2
  have g3 : pt ≥ 0 := a3
  have y1 : IntKind.i64.wrap (pc + pf) = pc + pf := IntWalk.i64_in _ (by omega)
  have y2 : IntKind.i64.wrap (pc + pf + pt) = pc + pf + pt := IntWalk.i64_in _ (by omega)
  clear hs hz hev hpt hle a4
  go_enter Tryz.func13, Tryz.ntmps13
  go_wp2_with (first | ((first | with_reducible refine call_c ?_); rintro _ V ⟨rfl, (_ : StepC _ _)⟩; (try simp only [eq_self, decide_true])) | (with_reducible refine newvar_c (uu := 7) ?_; intro V7 g7 hE7 hB7 hA7) | (first | (with_reducible refine load_c ?_) | (with_reducible refine load_g ?_) | (with_reducible refine box_c ?_; intro V g _ _ _)))
  go_loopw [9, 10] (fun sv iv wr => StepC V wr ∧ ∃ k : Nat, k ≤ p.events.length ∧ sv = .int .i64 (evenTo p.events d k) ∧ iv = .int .i64 k) (fun _ iv _ => p.events.length - (RowKit.intOf iv).toNat)
  case atStart => exact ⟨⟨ExtC.h⟩, 0, by omega, rfl, rfl⟩
  case round =>
   obtain ⟨_, k, hk, rfl, rfl⟩ := hrel
   by_cases lk : k < p.events.length
   ·obtain ⟨ad, rfl, ha⟩ := hl.elem lk
    have hsu := even_succ (day := d) lk
    have hb1 := Hbd.out k hk
    have hp1 := Hpt.out _ (List.getElem_mem lk)
    obtain ⟨S, hS⟩ : ∃ S, evenTo p.events d k = S := ⟨_, rfl⟩
    rw [hS] at hsu hb1 ⊢
    obtain ⟨⟨xk, xd, ⟨xc, xo⟩, xt, xq, xp, xu, xm⟩, hx⟩ : ∃ x, p.events[k] = x := ⟨_, rfl⟩
    rw [hx] at ha hsu hp1
    simp only at hp1
    have i5 : CellsB w (ad.add (k * 9)) [.int .i64 xk, .int .i64 xd, .int .i64 xc, .int .i64 xo, .int .i64 xt, .int .i64 xq, .int .i64 xp, .int .i64 xu, .int .i64 xm] := ⟨ha⟩
    have zk : IntKind.i64.wrap ((k : Int) + 1) = (k : Int) + 1 := IntWalk.i64_in _ (by omega)
    have zs : IntKind.i64.wrap (S + xp) = S + xp := IntWalk.i64_in _ (by omega)
    have Hsu := Lib.hid hsu
    clear hsu hS hx ha
    go_wp2_with (first | (with_reducible refine load_c ?_))
    go_loopw [11, 12] (fun tv jv wr2 => StepC wr wr2 ∧ ∃ j : Nat, j ≤ k ∧ tv = .bool (decide ((⟨xk, xd, ⟨xc, xo⟩, xt, xq, xp, xu, xm⟩ : Event) ∈ p.events.take j)) ∧ jv = .int .i64 j) (fun _ jv _ => k - (RowKit.intOf jv).toNat)
    case atStart => exact ⟨⟨ExtC.h⟩, 0, by omega, by simp, rfl⟩
    case round =>
     obtain ⟨_, j, hj, rfl, rfl⟩ := hrel
     by_cases lj : j < k
     ·have lj2 : j < p.events.length := by omega
      have hmt := mem_take (x := (⟨xk, xd, ⟨xc, xo⟩, xt, xq, xp, xu, xm⟩ : Event)) lj2
      obtain ⟨_, e1, hb⟩ := hl.elem lj2
      injection e1 with e1
      subst e1
      obtain ⟨t0, ht0⟩ : ∃ t0, decide ((⟨xk, xd, ⟨xc, xo⟩, xt, xq, xp, xu, xm⟩ : Event) ∈ p.events.take j) = t0 := ⟨_, rfl⟩
      rw [ht0] at hmt ⊢
      obtain ⟨⟨yk, yd, ⟨yc, yo⟩, yt, yq, yp, yu, ym⟩, hy⟩ : ∃ x, p.events[j] = x := ⟨_, rfl⟩
      rw [hy] at hb hmt
      have hE := fun W => eql80 W yk yd yc yo yt yq yp yu ym xk xd xc xo xt xq xp xu xm
      obtain ⟨b, hbb⟩ : ∃ b, decide ((⟨yk, yd, ⟨yc, yo⟩, yt, yq, yp, yu, ym⟩ : Event) = ⟨xk, xd, ⟨xc, xo⟩, xt, xq, xp, xu, xm⟩) = b := ⟨_, rfl⟩
      simp only [hbb] at hE
      rw [hbb] at hmt
      have i6 : CellsB w (ad.add (j * 9)) [.int .i64 yk, .int .i64 yd, .int .i64 yc, .int .i64 yo, .int .i64 yt, .int .i64 yq, .int .i64 yp, .int .i64 yu, .int .i64 ym] := ⟨hb⟩
      have zj : IntKind.i64.wrap ((j : Int) + 1) = (j : Int) + 1 := IntWalk.i64_in _ (by omega)
      have Hmt := Lib.hid hmt
      clear hmt ht0 hy hbb hb
      cases t0
      ·go_wp2
       refine wp_rd ((.take 0 (.take 1 (.take 2 (.take 3 (.take 4 (.take 5 (.take 6 (.take 7 (.take 8 (.take 9 (.take 10 (.take 11 (.take 12 (.take 13 (.take 14 .nil)))))))))))))))) (fun hHeld => ?_) (hQ := by intro _ _ _ _ _ h; exact h)
       repeat' first | ((with_reducible refine t_tk ?_); (first | (refine tk (v := ?_) ?_ hHeld ?_; rotate_left; (· (intro wq hSw; go_simp; (try with_reducible rfl)))) | (refine tw (v := ?_) ?_ hHeld ?_; rotate_left; (· (intro W' h; have := StepC.mk h; first | with_reducible exact run_lc))) | (refine tw (v := ?_) ?_ hHeld ?_; rotate_left; (· (intro wq hSw; go_simp; (try with_reducible rfl))))); (try simp only [pS])) | (with_reducible refine t_done ?_)
       all_goals
        go_wp2
        exact ⟨⟨⟨ExtC.h⟩, j + 1, by omega, by rw [Hmt.out]; simp, by push_cast; rfl⟩, by simp [RowKit.intOf]; omega⟩
      ·go_wp2
       refine wp_rd ((.take 0 (.take 1 (.take 2 (.take 3 (.take 4 (.take 5 (.take 6 (.take 7 (.take 8 (.take 9 (.take 10 (.take 11 (.take 12 (.take 13 (.take 14 .nil)))))))))))))))) (fun hHeld => ?_) (hQ := by intro _ _ _ _ _ h; exact h)
       repeat' first | ((with_reducible refine t_tk ?_); (first | (refine tk (v := ?_) ?_ hHeld ?_; rotate_left; (· (intro wq hSw; go_simp; (try with_reducible rfl)))) | (refine ts hHeld ?_)); (try simp only [pS])) | (with_reducible refine t_done ?_)
       all_goals
        go_wp2
        exact ⟨⟨⟨ExtC.h⟩, j + 1, by omega, by rw [Hmt.out]; simp, by push_cast; rfl⟩, by simp [RowKit.intOf]; omega⟩
     ·obtain rfl : j = k := by omega
      obtain ⟨t0, ht0⟩ : ∃ t0, decide ((⟨xk, xd, ⟨xc, xo⟩, xt, xq, xp, xu, xm⟩ : Event) ∈ p.events.take j) = t0 := ⟨_, rfl⟩
      obtain ⟨b1, hb1⟩ : ∃ b, (xk == 3) = b := ⟨_, rfl⟩
      obtain ⟨b2, hb2⟩ : ∃ b, decide (xd ≤ d) = b := ⟨_, rfl⟩
      rw [ht0]
      have Hn := Lib.hid (show evenTo p.events d (j + 1) = S + if (b1 && b2 && !t0) = true then xp else 0 by
       rw [Hsu.out]
       have e : (isOff (⟨xk, xd, ⟨xc, xo⟩, xt, xq, xp, xu, xm⟩ : Event) = true ∧ xd ≤ d ∧ (⟨xk, xd, ⟨xc, xo⟩, xt, xq, xp, xu, xm⟩ : Event) ∉ p.events.take j) ↔ (b1 && b2 && !t0) = true := by
        rw [← hb1, ← hb2, ← ht0]; simp [isOff, and_assoc]
       simp only [e])
      clear ht0 Hsu
      cases b1
      ·go_wp2_with (first | (with_reducible refine load_c ?_))
       exact ⟨⟨⟨ExtC.h⟩, j + 1, lk, by rw [Hn.out]; simp, by push_cast; rfl⟩, by simp [RowKit.intOf]; omega⟩
      ·cases b2
       ·go_wp2_with (first | (with_reducible refine load_c ?_) | (with_reducible refine load_g ?_))
        exact ⟨⟨⟨ExtC.h⟩, j + 1, lk, by rw [Hn.out]; simp, by push_cast; rfl⟩, by simp [RowKit.intOf]; omega⟩
       ·cases t0
        ·go_wp2_with (first | (with_reducible refine load_c ?_) | (with_reducible refine load_g ?_))
         exact ⟨⟨⟨ExtC.h⟩, j + 1, lk, by rw [Hn.out]; simp, by push_cast; rfl⟩, by simp [RowKit.intOf]; omega⟩
        ·go_wp2_with (first | (with_reducible refine load_c ?_) | (with_reducible refine load_g ?_))
         exact ⟨⟨⟨ExtC.h⟩, j + 1, lk, by rw [Hn.out]; simp, by push_cast; rfl⟩, by simp [RowKit.intOf]; omega⟩
   ·obtain rfl : k = p.events.length := by omega
    rw [H4.out]
    go_wp2_with (first | ((first | with_reducible refine call_c ?_); rintro _ V ⟨rfl, (_ : StepC _ _)⟩; (try simp only [eq_self, decide_true])) | (first | (with_reducible refine load_c ?_) | (with_reducible refine load_g ?_)))
    all_goals
     go_ret
     exact ⟨rfl, ⟨ExtC.h⟩⟩
end Go.Rg
end
section
namespace Go.Proofs.YtbfbepnkofampaaGreatDoor
open Go Go.Bp Go.Rg Go.Walk Go.RowKit Go.Proofs Go.ChangeShapes Go.WideShapes Go.ChangeAt
theorem lifted13 (os : Os) (started : os.Started) (H : Type) (enc : TypeId × Value → H) :
    ReturnsInHanded {} Tryz.checked os 13 .any (fun w args => (Go.Proofs.YtbfbepnkofampaaGreatDoor.Rows.registerEvenSpec.pre enc Tryz.prog Tryz.f13 [] false w args ∧ laidMetH Tryz.prog listed w) ∧ sizedMet enc Tryz.prog Tryz.f13 (OpenSpec.ofChange Go.Proofs.YtbfbepnkofampaaGreatDoor.Rows.registerEvenSpec) false w args)
      (Go.Proofs.YtbfbepnkofampaaGreatDoor.Rows.registerEvenSpec.post enc Tryz.prog Tryz.f13 false true false false) := by
  refine handed_shaped (C := Tryz.checked) (X := fun w _ => laidMetH Tryz.prog listed w) (fun _ _ _ hh h => h.of_heap hh) own_knob started (by kernel_rfl) Tryz.func13
    (ChangeSpec.witness_shaped (enc := enc) (C := Tryz.checked) (os := os) (X := fun w _ => laidMetH Tryz.prog listed w) false (World.laidAll Tryz.prog os listed) #[.agg #[.slice none 0 0, .slice none 0 0, .slice none 0 0, .int .i64 0, .int .i64 0, .int .i64 0], .agg #[.int .i64 0, .slice none 0 0], .int .u16 0] 8 (World.laidAll_os _ _ _)
      (World.shaped_of_ZipB (by kernel_rfl) (by kernel_rfl)) (by kernel_rfl) (by kernel_rfl) (by kernel_rfl) (by rw [MakeChecks.laidMetH_plain _ _ _ (by kernel_rfl)]; exact laidMet_laidAll _ (by kernel_rfl) (by kernel_rfl))) ?_
  intro W base args ds gs before hval0 hW hL hSh hZ
  have hval : ∀ (j : Nat) t v, Tryz.f13.params[j]? = some t → args[j]? = some v → Value.okWide Tryz.prog W .any base t v := hval0
  have hW' := hW
  obtain ⟨p, q, hA0, hV, rfl, _, _⟩ := hW
  have hA : DataW.TrodAll enc Tryz.prog W 0 (fun _ => true) true Tryz.f13.params.toList args.toList ds p := hA0
  rw [Tryz.params13] at hA hval
  obtain ⟨v0, v1, v2, d0, d1, d2, p0, p1, p2, rfl, rfl, rfl, h0, h1, h2⟩ := trodAll_three hA
  obtain ⟨rfl, rfl⟩ := trodVars_none hV
  have k0 := h0
  have k1 := h1
  have k2 := h2
  obtain ⟨x0, hx0⟩ := arg_rules (hval 0 28 v0 rfl rfl) h0
  obtain ⟨x1, hx1⟩ := arg_person (hval 1 31 v1 rfl rfl) h1
  obtain ⟨n2, rfl, rfl, rfl, hw2⟩ := open_int Tryz.underlying102 (hval 2 102 v2 rfl rfl) h2; have hn2 := wf_u16 hw2
  have lt0 : ∀ x ∈ p0, x.block < W.heap.size := fun x hx => hW'.lt x (by simp [hx])
  have lt1 : ∀ x ∈ p1, x.block < W.heap.size := fun x hx => hW'.lt x (by simp [hx])
  refine (LEven x0 x1 _ _ n2 W hx0 hx1 ⟨env_of hL hSh⟩ hn2).mono fun e W' ⟨he, ⟨hb⟩⟩ => ?_
  subst he
  exact ⟨_, rfl, _, _, _, [], _, [], hW', trodAll_mk1 (shut_bool Tryz.underlying4 _), trodAll_mk3 (Below.trod laid_out (by kernel_rfl) (of_decide_eq_true (by kernel_rfl)) k0 hb lt0) (Below.trod laid_out (by kernel_rfl) (of_decide_eq_true (by kernel_rfl)) k1 hb lt1) (shut_int Tryz.underlying102 hw2), rfl, hb.frame _, fun h => by cases h⟩
theorem holds13 : Go.Proofs.YtbfbepnkofampaaGreatDoor.Rows.RegisterEvenSaid :=
  OpenClaim.holds_of_wide 13 Tryz.f13 rfl rfl rfl rfl rfl rfl rfl ⟨rfl, rfl, rfl, rfl, rfl⟩ rfl rfl rfl rfl rfl (by kernel_rfl) Tryz.func13 closed13
    (of_decide_eq_true (by kernel_rfl)) (by unfold Func.isWrapper; first | (rw [if_pos (by decide +kernel)]; kernel_rfl) | (rw [if_neg (by decide +kernel)]; exact ⟨rfl, rfl⟩))
    (fun os started H enc _ => lifted13 os started H enc)
theorem registerEven_holds : Go.Proofs.YtbfbepnkofampaaGreatDoor.Rows.RegisterEvenCardSaid :=
  Claim7.holds_tied_plain_at .later [] [.data, .data, .data, .data, .sentinel, .sentinel, .pinned] true (true, "4970e1223911c70aa7bcdc0bdc6bbce8f6a3c11b3c24a4250f4776a5114b5b9d") true
    holds13 (fun _ h => by cases h) wf13 (fun _ h => by cases h) Go.Proofs.YtbfbepnkofampaaGreatDoor.registerEven_row_tie rfl ⟨rfl, rfl⟩ mainP rfl
    (fun f fn hf hfn => by
      obtain rfl : f = 13 := Option.some.inj (fm13.symm.trans hf) |>.symm
      obtain rfl : fn = Tryz.f13 := (Option.some.inj (Tryz.func13.symm.trans hfn)).symm
      exact ⟨looksP, fun j t ht => by
        rw [Tryz.params13] at ht
        have hm : t ∈ ([28, 31, 102] : List TypeId) := by simpa using Array.mem_of_getElem? ht
        have hall : (([28, 31, 102] : List TypeId).all fun u => !Tryz.prog.wantsStandIn u) = true := by kernel_rfl
        exact (show Tryz.prog.wantsStandIn t = false by simpa using List.all_eq_true.1 hall t hm)⟩)
    gs13
#print axioms registerEven_holds
end Go.Proofs.YtbfbepnkofampaaGreatDoor
end
