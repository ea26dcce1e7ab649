/- The tied card of RegisterMore is proved: for every input the law returns true, and each argument reads afterwards as it read before; condition: the listed package variables start as the text lays them (the card ties them). -/
import Derived.Test.YtbfbepnkofampaaGreatDoorWBCDX01
import Derived.Test.YtbfbepnkofampaaGreatDoorWBCX01
import Derived.Test.YtbfbepnkofampaaGreatDoorWC01
set_option maxRecDepth 100000
set_option linter.all false
section
namespace Go.Proofs.YtbfbepnkofampaaGreatDoor
open Go Go.Bp Go.Rg Go.Walk Go.RowKit Go.Proofs Go.ChangeShapes Go.WideShapes Go.ChangeAt
theorem ip11 : (Rows.registerMoreRow.inPlace == Tryz.pinned.checked.prog.inPlace 11) = true := by kernel_rfl
theorem uf11 : (Rows.registerMoreRow.unfollowed == Tryz.pinned.checked.prog.unfollowed 11) = true := by kernel_rfl
theorem rc11 : (Rows.registerMoreRow.recurses == Tryz.pinned.checked.prog.recurses 11) = true := by kernel_rfl
theorem nm11 : (Rows.registerMoreRow.named == Tryz.pinned.checked.prog.varsNamed 11) = true := by kernel_rfl
theorem wf11 : Rows.registerMoreRow.wfByText (OpenSpec.ofChange Rows.registerMoreSpec) = true := by kernel_rfl
theorem gs11 : false = Rows.registerMoreRow.goesBy Tryz.pinned.checked.prog := by kernel_rfl
theorem fm11 : Tryz.prog.funcNamed Rows.registerMoreRow.func = some 11 := by kernel_rfl
theorem closed11 : joinedFacts Tryz.pinned.checked.prog 11 Tryz.f11 Rows.registerMoreSpec Rows.registerMoreRow = true := by
  unfold joinedFacts
  rw [ip11, uf11, rc11, nm11, loP, mrP, meP, shP, show (Rows.registerMoreRow.lifted == Tryz.pinned.checked.prog.liftsFinal) = true from liP, show (Tryz.pinned.checked.prog.make == some Rows.registerMoreRow.make) = true from mkP]
  kernel_rfl
end Go.Proofs.YtbfbepnkofampaaGreatDoor
end
section
namespace Go.Rg
open Go Go.Bp Go.RowKit Go.Walk Go.Proofs
set_option synthInstance.maxSize 2000
set_option synthInstance.maxHeartbeats 400000
set_option maxHeartbeats 4000000
/-- What a further grant, or ban, does to what is held. -/
theorem more_ready {r : Rules} {p q : Person} {x : Event} {d : Drive} (hq : q = ⟨p.born, p.events ++ [x]⟩) (h1 : r.personErr p = 0) (h2 : r.personErr q = 0) (d1 : r.driveErr p d = 0) (d2 : r.driveErr q d = 0) (n3 : x.kind ≠ 3) (n2 : x.kind ≠ 2) {k1 k2 : Whole} (m1 : WholeE r p d k1) (m2 : WholeE r q d k2) :
  (x.kind = 4 → (k2.why = 0 → k1.why = 0) ∧ ∀ c f : Int, 0 ≤ c ∧ c < r.sys.classes.length → r.sys.allow k2.held c f = true → r.sys.allow k1.held c f = true) ∧
  (x.kind ≠ 4 → (k1.why = 0 → k2.why = 0) ∧ ∀ c f : Int, 0 ≤ c ∧ c < r.sys.classes.length → r.sys.allow k1.held c f = true → r.sys.allow k2.held c f = true) ∧
  (∀ y ∈ k1.held, r.sys.rightErr y = 0) ∧ ∀ y ∈ k2.held, r.sys.rightErr y = 0 := by
 have hx : r.eventErr p.born x = 0 := by
  have := (Rules.person_ok h2).2.2.2 x (by rw [hq]; simp)
  rw [hq] at this; exact this
 have hk : (x.kind = 0 ∨ x.kind = 1) ∨ x.kind = 4 := by
  obtain ⟨_, hs⟩ := event_shape hx
  rcases hs with ⟨y, m', e, _⟩ | ⟨t', e, _⟩ | ⟨t', e, _⟩ | ⟨t', e, h⟩ | ⟨t', e, _⟩ <;> rw [e] at n2 n3 ⊢ <;> simp at n2 n3 ⊢
 rcases hk with hk | hk
 ·obtain ⟨a1, a2, a3⟩ := Rules.more_grant (r := r) (p := p) hk
  have a1' : ∀ d, r.bannedBy (sortE p.events) d = 0 → r.bannedBy (sortE q.events) d = 0 := by rw [hq]; exact a1
  obtain ⟨a, b, n, m, b1, b2, b3, b4, b5, b6, b7, b8, _⟩ := Rules.more_law h1 h2 (by rw [hq]) a1' (by rw [hq]; exact a2) (by rw [hq]; exact a3) d1
  have e1 := m1.h.2.2.1; have e2 := m2.h.2.2.1; have e3 := m1.h.2.2.2.1; have e4 := m2.h.2.2.2.1
  rw [b1] at e1; rw [b2] at e2; rw [b3] at e3; rw [b4] at e4
  injection e1 with e1; injection e2 with e2; injection e3 with e3; injection e4 with e4
  subst e1 e2 e3 e4
  exact ⟨fun h => by omega, fun _ => ⟨b5, b6⟩, b7, b8⟩
 ·obtain ⟨a1, a2, a3⟩ := Rules.more_ban (r := r) (p := p) hk
  have a1' : ∀ d, r.bannedBy (sortE q.events) d = 0 → r.bannedBy (sortE p.events) d = 0 := by rw [hq]; exact a1
  obtain ⟨a, b, n, m, b1, b2, b3, b4, b5, b6, b7, b8, _⟩ := Rules.more_law h2 h1 (by rw [hq]) a1' (by rw [hq]; exact a2) (by rw [hq]; exact a3) d2
  have e1 := m2.h.2.2.1; have e2 := m1.h.2.2.1; have e3 := m2.h.2.2.2.1; have e4 := m1.h.2.2.2.1
  rw [b1] at e1; rw [b2] at e2; rw [b3] at e3; rw [b4] at e4
  injection e1 with e1; injection e2 with e2; injection e3 with e3; injection e4 with e4
  subst e1 e2 e3 e4
  exact ⟨fun _ => ⟨b5, b6⟩, fun h => by omega, b8, b7⟩
set_option maxHeartbeats 16000000 in
theorem LMore (r : Rules) (p : Person) (v pv vt : Value) (dd dc df xk xd xc xo xt xq xp xu xm : Int) (w : World) (h : RulesV w v r) (hp : PersonV w pv p) (hf : FewE p) (hv : EnvC w) (hvt : vt.cells = #[vt]) :
  Calls Tryz.prog 11 #[v, pv, .agg #[.int .i64 dd, .int .i64 dc, .int .i64 df, vt, .int .i64 xk, .int .i64 xd, .int .i64 xc, .int .i64 xo, .int .i64 xt, .int .i64 xq, .int .i64 xp, .int .i64 xu, .int .i64 xm]] w (RB w true) := by
 obtain ⟨A1, n1, c1, A2, c2, A3, c3, rfl, hn, -⟩ := h.h
 subst hn
 obtain ⟨A, c, rfl, hl⟩ := hp.h
 have i1 := RulesB.mk h
 have i9 := SysB.mk h.sys
 have i2 := PersonB.mk hp
 have i0 := EnvB.mk hv.h
 obtain ⟨q, hq⟩ : ∃ q : Person, q = ⟨p.born, p.events ++ [⟨xk, xd, ⟨xc, xo⟩, xt, xq, xp, xu, xm⟩]⟩ := ⟨_, rfl⟩
 have i3 := WithE.mk hq
 obtain ⟨b1, h1⟩ : ∃ b, (decide (r.personErr p = 0) && decide (r.driveErr p ⟨dd, dc, df⟩ = 0)) = b := ⟨_, rfl⟩
 have j1 := ValE.mk h1
 clear hl
 cases b1
 case false =>
  clear h1 hq
  go_enter Tryz.func11, Tryz.ntmps11
  go_wp2_with (first | (with_reducible refine call_c ?_; rintro _ Vw ⟨A9, k9, B9, rfl, (_ : RowC _ _ _ 80 _ _ _), (_ : StepC _ _)⟩) | ((first | with_reducible refine call_c ?_); rintro _ V ⟨rfl, (_ : StepC _ _)⟩; (try simp only [eq_self, decide_true])) | (with_reducible refine newvar_c (uu := 7) ?_; intro V7 g7 hE7 hB7 hA7) | (first | go_skip | (with_reducible refine load_c ?_) | (with_reducible refine box_c ?_; intro V g _ _ _)))
  all_goals
   go_ret
   exact ⟨rfl, ⟨ExtC.h⟩⟩
 obtain ⟨b2, h2⟩ : ∃ b, (decide (r.personErr q = 0) && decide (r.driveErr q ⟨dd, dc, df⟩ = 0)) = b := ⟨_, rfl⟩
 have j2 := ValE.mk h2
 cases b2
 case false =>
  clear h1 h2 hq
  go_enter Tryz.func11, Tryz.ntmps11
  go_wp2_with (first | (with_reducible refine call_c ?_; rintro _ Vw ⟨A9, k9, B9, rfl, (_ : RowC _ _ _ 80 _ _ _), (_ : StepC _ _)⟩) | ((first | with_reducible refine call_c ?_); rintro _ V ⟨rfl, (_ : StepC _ _)⟩; (try simp only [eq_self, decide_true])) | (with_reducible refine newvar_c (uu := 7) ?_; intro V7 g7 hE7 hB7 hA7) | (first | go_skip | (with_reducible refine load_c ?_) | (with_reducible refine load_g ?_) | (with_reducible refine box_c ?_; intro V g _ _ _)))
  all_goals
   go_ret
   exact ⟨rfl, ⟨ExtC.h⟩⟩
 by_cases n3 : xk = 3
 ·subst n3
  clear h1 h2 hq
  go_enter Tryz.func11, Tryz.ntmps11
  go_wp2_with (first | (with_reducible refine call_c ?_; rintro _ Vw ⟨A9, k9, B9, rfl, (_ : RowC _ _ _ 80 _ _ _), (_ : StepC _ _)⟩) | ((first | with_reducible refine call_c ?_); rintro _ V ⟨rfl, (_ : StepC _ _)⟩; (try simp only [eq_self, decide_true])) | (with_reducible refine newvar_c (uu := 7) ?_; intro V7 g7 hE7 hB7 hA7) | (first | go_skip | (with_reducible refine load_c ?_) | (with_reducible refine load_g ?_) | (with_reducible refine box_c ?_; intro V g _ _ _)))
  all_goals
   go_ret
   exact ⟨rfl, ⟨ExtC.h⟩⟩
 have q3 : (xk == 3) = false := by simpa using n3
 by_cases n2 : xk = 2
 ·subst n2
  clear h1 h2 hq
  go_enter Tryz.func11, Tryz.ntmps11
  go_wp2_with (first | (with_reducible refine call_c ?_; rintro _ Vw ⟨A9, k9, B9, rfl, (_ : RowC _ _ _ 80 _ _ _), (_ : StepC _ _)⟩) | ((first | with_reducible refine call_c ?_); rintro _ V ⟨rfl, (_ : StepC _ _)⟩; (try simp only [eq_self, decide_true])) | (with_reducible refine newvar_c (uu := 7) ?_; intro V7 g7 hE7 hB7 hA7) | (first | (with_reducible refine load_c ?_) | (with_reducible refine load_g ?_) | (with_reducible refine box_c ?_; intro V g _ _ _)))
  all_goals
   go_ret
   exact ⟨rfl, ⟨ExtC.h⟩⟩
 have q2 : (xk == 2) = false := by simpa using n2
 simp only [Bool.and_eq_true, decide_eq_true_eq] at h1 h2
 obtain ⟨k1, m1⟩ := whole_of h1.1 h1.2
 obtain ⟨k2, m2⟩ := whole_of h2.1 h2.2
 obtain ⟨r4, r0, rr1, rr2⟩ := more_ready (x := ⟨xk, xd, ⟨xc, xo⟩, xt, xq, xp, xu, xm⟩) hq h1.1 h2.1 h1.2 h2.2 n3 n2 m1 m2
 have hok := (Rules.ok_of (Rules.person_ok h1.1).1).sys
 have hn12 : r.sys.classes.length ≤ 12 := hok.n.2
 have hk8 : r.sys.codes.length ≤ 8 := hok.c
 have Hio := Lib.hid hok.incl
 obtain ⟨M, hM⟩ : ∃ M : Int, 2 ^ r.sys.codes.length = M := ⟨_, rfl⟩
 have i5 : PowE r.sys.codes.length M := ⟨hk8, hM⟩
 have hpb := pow_bd hk8
 rw [hM] at hpb
 obtain ⟨bl, ⟨p1, p2, p3⟩, hh, m, t⟩ := k1
 obtain ⟨bl', ⟨p1', p2', p3'⟩, hh', m', t'⟩ := k2
 simp only at r4 r0 rr1 rr2
 by_cases n4 : xk = 4
 ·subst n4
  have r4 := r4 rfl
  have HG := Lib.hid (show ∀ (k j : Nat), (k : Int) < r.sys.classes.length → r.sys.allow hh' k j = true → r.sys.allow hh k j = true from fun k j hk h => r4.2 k j ⟨by omega, hk⟩ h)
  have HS1 := Lib.hid rr2
  have HS2 := Lib.hid rr1
  by_cases z : m = 0
  ·subst z
   clear h1 h2 hq hok hM r4 r0 rr1 rr2 n3 n2
   go_enter Tryz.func11, Tryz.ntmps11
   go_wp2_with (first | (with_reducible refine call_c ?_; rintro _ Vw ⟨A9, k9, B9, rfl, (_ : RowC _ _ _ 80 _ _ _), (_ : StepC _ _)⟩) | (with_reducible refine call_c ?_; rintro _ Vk ⟨Ab, cb, Bb, fb, rfl, (_ : ListB Span _ _ _), (_ : ListB Right _ _ _), (_ : StepC _ _)⟩) | ((first | with_reducible refine call_c ?_); rintro _ V ⟨rfl, (_ : StepC _ _)⟩; (try simp only [eq_self, decide_true])) | (with_reducible refine newvar_c (uu := 7) ?_; intro V7 g7 hE7 hB7 hA7) | (with_reducible refine newvar_c (uu := 8) ?_; intro V8 g8 hE8 hB8 hA8) | (with_reducible refine newvar_c (uu := 10) ?_; intro V10 g10 hE10 hB10 hA10) | (first | (with_reducible refine load_c ?_) | (with_reducible refine load_g ?_) | (with_reducible refine box_c ?_; intro V g _ _ _)))
   refine wp_rd ((.take 0 (.take 1 (.take 2 (.take 3 (.take 4 (.take 5 .nil))))))) (fun hHeld => ?_) (hQ := by intro _ _ _ _ _ h; exact h)
   repeat' first | ((with_reducible refine t_tk ?_); (first | (refine tk (v := ?_) ?_ hHeld ?_; rotate_left; (· (intro W' h; have := StepC.mk h; first | with_reducible exact run_lc))) | (refine tk (v := ?_) ?_ hHeld ?_; rotate_left; (· (intro wq hSw; go_simp; (try with_reducible rfl))))); (try simp only [pS])) | (with_reducible refine t_done ?_)
   go_wp2_with (first | go_skip | (with_reducible refine load_c ?_))
   go_loopw [14] (fun cv wr => StepC V10 wr ∧ ∃ k : Nat, k ≤ r.sys.classes.length ∧ cv = .int .i64 k) (fun cv _ => r.sys.classes.length - (RowKit.intOf cv).toNat)
   case atStart => exact ⟨⟨ExtC.h⟩, 0, by omega, rfl⟩
   case round =>
    obtain ⟨_, k, hk, rfl⟩ := hrel
    by_cases lk : k < r.sys.classes.length
    ·have zk : IntKind.i64.wrap ((k : Int) + 1) = (k : Int) + 1 := IntWalk.i64_in _ (by omega)
     go_wp2_with (first | (with_reducible refine load_c ?_))
     go_loopw [15] (fun fv wr2 => StepC wr wr2 ∧ ∃ j : Nat, (j : Int) ≤ M ∧ fv = .int .i64 j) (fun fv _ => M.toNat - (RowKit.intOf fv).toNat)
     case atStart => exact ⟨⟨ExtC.h⟩, 0, by omega, rfl⟩
     case round =>
      obtain ⟨_, j, hj, rfl⟩ := hrel
      by_cases lj : (j : Int) < M
      ·obtain ⟨r1, h1⟩ : ∃ x, r.sys.allow hh' k j = x := ⟨_, rfl⟩
       obtain ⟨r2, h2⟩ : ∃ x, r.sys.allow hh k j = x := ⟨_, rfl⟩
       have a1 : AllE r.sys hh' k j r1 := ⟨⟨⟨k, rfl, lk⟩, hn12, hk8, Hio.out, HS1.out, by omega, by omega⟩, h1⟩
       have a2 : AllE r.sys hh k j r2 := ⟨⟨⟨k, rfl, lk⟩, hn12, hk8, Hio.out, HS2.out, by omega, by omega⟩, h2⟩
       have hg := HG.out k j (by omega)
       rw [h1, h2] at hg
       have zj : IntKind.i64.wrap ((j : Int) + 1) = (j : Int) + 1 := IntWalk.i64_in _ (by omega)
       clear h1 h2
       cases r1
       ·clear hg
        go_wp2_with (first | (with_reducible refine load_c ?_) | (with_reducible refine call_c ?_; first | rintro _ V ⟨rfl, (_ : StepC _ _)⟩))
        go_roundw
        case rel => exact ⟨⟨ExtC.h⟩, j + 1, by omega, by push_cast; rfl⟩
        case measure => simp [RowKit.intOf]; omega
       ·obtain rfl := hg rfl
        go_wp2_with (first | (with_reducible refine load_c ?_) | (with_reducible refine load_g ?_) | (with_reducible refine call_c ?_; first | rintro _ V ⟨rfl, (_ : StepC _ _)⟩))
        go_roundw
        case rel => exact ⟨⟨ExtC.h⟩, j + 1, by omega, by push_cast; rfl⟩
        case measure => simp [RowKit.intOf]; omega
      ·obtain rfl : (j : Int) = M := by omega
       go_wp2_with (first | (with_reducible refine load_c ?_) | (with_reducible refine call_c ?_; first | rintro _ V ⟨rfl, (_ : StepC _ _)⟩))
       exact ⟨⟨⟨ExtC.h⟩, k + 1, lk, by push_cast; rfl⟩, by simp [RowKit.intOf]; omega⟩
    ·obtain rfl : k = r.sys.classes.length := by omega
     go_wp2_with (first | (with_reducible refine load_c ?_) | (with_reducible refine call_c ?_; first | rintro _ V ⟨rfl, (_ : StepC _ _)⟩))
     go_ret
     exact ⟨rfl, ⟨ExtC.h⟩⟩
  ·have z' : m' ≠ 0 := fun h => z (r4.1 h)
   have q5 : (m != 0) = true := by simpa using z
   have q6 : (m' == 0) = false := by simpa using z'
   clear h1 h2 hq hok hM r4 r0 rr1 rr2 n3 n2 z z'
   go_enter Tryz.func11, Tryz.ntmps11
   go_wp2_with (first | (with_reducible refine call_c ?_; rintro _ Vw ⟨A9, k9, B9, rfl, (_ : RowC _ _ _ 80 _ _ _), (_ : StepC _ _)⟩) | (with_reducible refine call_c ?_; rintro _ Vk ⟨Ab, cb, Bb, fb, rfl, (_ : ListB Span _ _ _), (_ : ListB Right _ _ _), (_ : StepC _ _)⟩) | ((first | with_reducible refine call_c ?_); rintro _ V ⟨rfl, (_ : StepC _ _)⟩; (try simp only [eq_self, decide_true])) | (with_reducible refine newvar_c (uu := 7) ?_; intro V7 g7 hE7 hB7 hA7) | (with_reducible refine newvar_c (uu := 8) ?_; intro V8 g8 hE8 hB8 hA8) | (with_reducible refine newvar_c (uu := 10) ?_; intro V10 g10 hE10 hB10 hA10) | (first | (with_reducible refine load_c ?_) | (with_reducible refine load_g ?_) | (with_reducible refine box_c ?_; intro V g _ _ _)))
   refine wp_rd ((.take 0 (.take 1 (.take 2 (.take 3 (.take 4 (.take 5 .nil))))))) (fun hHeld => ?_) (hQ := by intro _ _ _ _ _ h; exact h)
   repeat' first | ((with_reducible refine t_tk ?_); (first | (refine tk (v := ?_) ?_ hHeld ?_; rotate_left; (· (intro W' h; have := StepC.mk h; first | with_reducible exact run_lc))) | (refine tk (v := ?_) ?_ hHeld ?_; rotate_left; (· (intro wq hSw; go_simp; (try with_reducible rfl))))); (try simp only [pS])) | (with_reducible refine t_done ?_)
   go_wp2_with (first | (with_reducible refine load_c ?_) | (with_reducible refine load_g ?_))
   go_loopw [14] (fun cv wr => StepC V10 wr ∧ ∃ k : Nat, k ≤ r.sys.classes.length ∧ cv = .int .i64 k) (fun cv _ => r.sys.classes.length - (RowKit.intOf cv).toNat)
   case atStart => exact ⟨⟨ExtC.h⟩, 0, by omega, rfl⟩
   case round =>
    obtain ⟨_, k, hk, rfl⟩ := hrel
    by_cases lk : k < r.sys.classes.length
    ·have zk : IntKind.i64.wrap ((k : Int) + 1) = (k : Int) + 1 := IntWalk.i64_in _ (by omega)
     go_wp2_with (first | (with_reducible refine load_c ?_))
     go_loopw [15] (fun fv wr2 => StepC wr wr2 ∧ ∃ j : Nat, (j : Int) ≤ M ∧ fv = .int .i64 j) (fun fv _ => M.toNat - (RowKit.intOf fv).toNat)
     case atStart => exact ⟨⟨ExtC.h⟩, 0, by omega, rfl⟩
     case round =>
      obtain ⟨_, j, hj, rfl⟩ := hrel
      by_cases lj : (j : Int) < M
      ·obtain ⟨r1, h1⟩ : ∃ x, r.sys.allow hh' k j = x := ⟨_, rfl⟩
       obtain ⟨r2, h2⟩ : ∃ x, r.sys.allow hh k j = x := ⟨_, rfl⟩
       have a1 : AllE r.sys hh' k j r1 := ⟨⟨⟨k, rfl, lk⟩, hn12, hk8, Hio.out, HS1.out, by omega, by omega⟩, h1⟩
       have a2 : AllE r.sys hh k j r2 := ⟨⟨⟨k, rfl, lk⟩, hn12, hk8, Hio.out, HS2.out, by omega, by omega⟩, h2⟩
       have hg := HG.out k j (by omega)
       rw [h1, h2] at hg
       have zj : IntKind.i64.wrap ((j : Int) + 1) = (j : Int) + 1 := IntWalk.i64_in _ (by omega)
       clear h1 h2
       cases r1
       ·clear hg
        go_wp2_with (first | (with_reducible refine load_c ?_) | (with_reducible refine call_c ?_; first | rintro _ V ⟨rfl, (_ : StepC _ _)⟩))
        go_roundw
        case rel => exact ⟨⟨ExtC.h⟩, j + 1, by omega, by push_cast; rfl⟩
        case measure => simp [RowKit.intOf]; omega
       ·obtain rfl := hg rfl
        go_wp2_with (first | (with_reducible refine load_c ?_) | (with_reducible refine load_g ?_) | (with_reducible refine call_c ?_; first | rintro _ V ⟨rfl, (_ : StepC _ _)⟩))
        go_roundw
        case rel => exact ⟨⟨ExtC.h⟩, j + 1, by omega, by push_cast; rfl⟩
        case measure => simp [RowKit.intOf]; omega
      ·obtain rfl : (j : Int) = M := by omega
       go_wp2_with (first | (with_reducible refine load_c ?_) | (with_reducible refine call_c ?_; first | rintro _ V ⟨rfl, (_ : StepC _ _)⟩))
       exact ⟨⟨⟨ExtC.h⟩, k + 1, lk, by push_cast; rfl⟩, by simp [RowKit.intOf]; omega⟩
    ·obtain rfl : k = r.sys.classes.length := by omega
     go_wp2_with (first | (with_reducible refine load_c ?_) | (with_reducible refine call_c ?_; first | rintro _ V ⟨rfl, (_ : StepC _ _)⟩))
     go_ret
     exact ⟨rfl, ⟨ExtC.h⟩⟩
 ·have q4 : (xk == 4) = false := by simpa using n4
  have r0 := r0 n4
  have HG := Lib.hid (show ∀ (k j : Nat), (k : Int) < r.sys.classes.length → r.sys.allow hh k j = true → r.sys.allow hh' k j = true from fun k j hk h => r0.2 k j ⟨by omega, hk⟩ h)
  have HS1 := Lib.hid rr1
  have HS2 := Lib.hid rr2
  by_cases z : m = 0
  ·subst z
   obtain rfl : m' = 0 := r0.1 rfl
   clear h1 h2 hq hok hM r4 r0 rr1 rr2 n3 n2 n4
   go_enter Tryz.func11, Tryz.ntmps11
   go_wp2_with (first | (with_reducible refine call_c ?_; rintro _ Vw ⟨A9, k9, B9, rfl, (_ : RowC _ _ _ 80 _ _ _), (_ : StepC _ _)⟩) | (with_reducible refine call_c ?_; rintro _ Vk ⟨Ab, cb, Bb, fb, rfl, (_ : ListB Span _ _ _), (_ : ListB Right _ _ _), (_ : StepC _ _)⟩) | ((first | with_reducible refine call_c ?_); rintro _ V ⟨rfl, (_ : StepC _ _)⟩; (try simp only [eq_self, decide_true])) | (with_reducible refine newvar_c (uu := 7) ?_; intro V7 g7 hE7 hB7 hA7) | (with_reducible refine newvar_c (uu := 8) ?_; intro V8 g8 hE8 hB8 hA8) | (with_reducible refine newvar_c (uu := 10) ?_; intro V10 g10 hE10 hB10 hA10) | (first | (with_reducible refine load_c ?_) | (with_reducible refine load_g ?_) | (with_reducible refine box_c ?_; intro V g _ _ _)))
   refine wp_rd ((.take 0 (.take 1 (.take 2 (.take 3 (.take 4 (.take 5 .nil))))))) (fun hHeld => ?_) (hQ := by intro _ _ _ _ _ h; exact h)
   repeat' first | ((with_reducible refine t_tk ?_); (first | (refine tk (v := ?_) ?_ hHeld ?_; rotate_left; (· (intro W' h; have := StepC.mk h; first | with_reducible exact run_lc))) | (refine tk (v := ?_) ?_ hHeld ?_; rotate_left; (· (intro wq hSw; go_simp; (try with_reducible rfl))))); (try simp only [pS])) | (with_reducible refine t_done ?_)
   go_wp2_with (first | (with_reducible refine load_c ?_) | (with_reducible refine load_g ?_))
   go_loopw [14] (fun cv wr => StepC V10 wr ∧ ∃ k : Nat, k ≤ r.sys.classes.length ∧ cv = .int .i64 k) (fun cv _ => r.sys.classes.length - (RowKit.intOf cv).toNat)
   case atStart => exact ⟨⟨ExtC.h⟩, 0, by omega, rfl⟩
   case round =>
    obtain ⟨_, k, hk, rfl⟩ := hrel
    by_cases lk : k < r.sys.classes.length
    ·have zk : IntKind.i64.wrap ((k : Int) + 1) = (k : Int) + 1 := IntWalk.i64_in _ (by omega)
     go_wp2_with (first | (with_reducible refine load_c ?_))
     go_loopw [15] (fun fv wr2 => StepC wr wr2 ∧ ∃ j : Nat, (j : Int) ≤ M ∧ fv = .int .i64 j) (fun fv _ => M.toNat - (RowKit.intOf fv).toNat)
     case atStart => exact ⟨⟨ExtC.h⟩, 0, by omega, rfl⟩
     case round =>
      obtain ⟨_, j, hj, rfl⟩ := hrel
      by_cases lj : (j : Int) < M
      ·obtain ⟨r1, h1⟩ : ∃ x, r.sys.allow hh k j = x := ⟨_, rfl⟩
       obtain ⟨r2, h2⟩ : ∃ x, r.sys.allow hh' k j = x := ⟨_, rfl⟩
       have a1 : AllE r.sys hh k j r1 := ⟨⟨⟨k, rfl, lk⟩, hn12, hk8, Hio.out, HS1.out, by omega, by omega⟩, h1⟩
       have a2 : AllE r.sys hh' k j r2 := ⟨⟨⟨k, rfl, lk⟩, hn12, hk8, Hio.out, HS2.out, by omega, by omega⟩, h2⟩
       have hg := HG.out k j (by omega)
       rw [h1, h2] at hg
       have zj : IntKind.i64.wrap ((j : Int) + 1) = (j : Int) + 1 := IntWalk.i64_in _ (by omega)
       clear h1 h2
       cases r1
       ·clear hg
        go_wp2_with (first | (with_reducible refine load_c ?_) | (with_reducible refine call_c ?_; first | rintro _ V ⟨rfl, (_ : StepC _ _)⟩))
        go_roundw
        case rel => exact ⟨⟨ExtC.h⟩, j + 1, by omega, by push_cast; rfl⟩
        case measure => simp [RowKit.intOf]; omega
       ·obtain rfl := hg rfl
        go_wp2_with (first | (with_reducible refine load_c ?_) | (with_reducible refine load_g ?_) | (with_reducible refine call_c ?_; first | rintro _ V ⟨rfl, (_ : StepC _ _)⟩))
        go_roundw
        case rel => exact ⟨⟨ExtC.h⟩, j + 1, by omega, by push_cast; rfl⟩
        case measure => simp [RowKit.intOf]; omega
      ·obtain rfl : (j : Int) = M := by omega
       go_wp2_with (first | (with_reducible refine load_c ?_) | (with_reducible refine call_c ?_; first | rintro _ V ⟨rfl, (_ : StepC _ _)⟩))
       exact ⟨⟨⟨ExtC.h⟩, k + 1, lk, by push_cast; rfl⟩, by simp [RowKit.intOf]; omega⟩
    ·obtain rfl : k = r.sys.classes.length := by omega
     go_wp2_with (first | (with_reducible refine load_c ?_) | (with_reducible refine call_c ?_; first | rintro _ V ⟨rfl, (_ : StepC _ _)⟩))
     go_ret
     exact ⟨rfl, ⟨ExtC.h⟩⟩
  ·have q5 : (m == 0) = false := by simpa using z
   clear h1 h2 hq hok hM r4 r0 rr1 rr2 n3 n2 z n4
   go_enter Tryz.func11, Tryz.ntmps11
   go_wp2_with (first | (with_reducible refine call_c ?_; rintro _ Vw ⟨A9, k9, B9, rfl, (_ : RowC _ _ _ 80 _ _ _), (_ : StepC _ _)⟩) | (with_reducible refine call_c ?_; rintro _ Vk ⟨Ab, cb, Bb, fb, rfl, (_ : ListB Span _ _ _), (_ : ListB Right _ _ _), (_ : StepC _ _)⟩) | ((first | with_reducible refine call_c ?_); rintro _ V ⟨rfl, (_ : StepC _ _)⟩; (try simp only [eq_self, decide_true])) | (with_reducible refine newvar_c (uu := 7) ?_; intro V7 g7 hE7 hB7 hA7) | (with_reducible refine newvar_c (uu := 8) ?_; intro V8 g8 hE8 hB8 hA8) | (with_reducible refine newvar_c (uu := 10) ?_; intro V10 g10 hE10 hB10 hA10) | (first | (with_reducible refine load_c ?_) | (with_reducible refine load_g ?_) | (with_reducible refine box_c ?_; intro V g _ _ _)))
   refine wp_rd ((.take 0 (.take 1 (.take 2 (.take 3 (.take 4 (.take 5 .nil))))))) (fun hHeld => ?_) (hQ := by intro _ _ _ _ _ h; exact h)
   repeat' first | ((with_reducible refine t_tk ?_); (first | (refine tk (v := ?_) ?_ hHeld ?_; rotate_left; (· (intro W' h; have := StepC.mk h; first | with_reducible exact run_lc))) | (refine tk (v := ?_) ?_ hHeld ?_; rotate_left; (· (intro wq hSw; go_simp; (try with_reducible rfl))))); (try simp only [pS])) | (with_reducible refine t_done ?_)
   go_wp2_with (first | go_skip | (with_reducible refine load_c ?_))
   go_loopw [14] (fun cv wr => StepC V10 wr ∧ ∃ k : Nat, k ≤ r.sys.classes.length ∧ cv = .int .i64 k) (fun cv _ => r.sys.classes.length - (RowKit.intOf cv).toNat)
   case atStart => exact ⟨⟨ExtC.h⟩, 0, by omega, rfl⟩
   case round =>
    obtain ⟨_, k, hk, rfl⟩ := hrel
    by_cases lk : k < r.sys.classes.length
    ·have zk : IntKind.i64.wrap ((k : Int) + 1) = (k : Int) + 1 := IntWalk.i64_in _ (by omega)
     go_wp2_with (first | (with_reducible refine load_c ?_))
     go_loopw [15] (fun fv wr2 => StepC wr wr2 ∧ ∃ j : Nat, (j : Int) ≤ M ∧ fv = .int .i64 j) (fun fv _ => M.toNat - (RowKit.intOf fv).toNat)
     case atStart => exact ⟨⟨ExtC.h⟩, 0, by omega, rfl⟩
     case round =>
      obtain ⟨_, j, hj, rfl⟩ := hrel
      by_cases lj : (j : Int) < M
      ·obtain ⟨r1, h1⟩ : ∃ x, r.sys.allow hh k j = x := ⟨_, rfl⟩
       obtain ⟨r2, h2⟩ : ∃ x, r.sys.allow hh' k j = x := ⟨_, rfl⟩
       have a1 : AllE r.sys hh k j r1 := ⟨⟨⟨k, rfl, lk⟩, hn12, hk8, Hio.out, HS1.out, by omega, by omega⟩, h1⟩
       have a2 : AllE r.sys hh' k j r2 := ⟨⟨⟨k, rfl, lk⟩, hn12, hk8, Hio.out, HS2.out, by omega, by omega⟩, h2⟩
       have hg := HG.out k j (by omega)
       rw [h1, h2] at hg
       have zj : IntKind.i64.wrap ((j : Int) + 1) = (j : Int) + 1 := IntWalk.i64_in _ (by omega)
       clear h1 h2
       cases r1
       ·clear hg
        go_wp2_with (first | (with_reducible refine load_c ?_) | (with_reducible refine call_c ?_; first | rintro _ V ⟨rfl, (_ : StepC _ _)⟩))
        go_roundw
        case rel => exact ⟨⟨ExtC.h⟩, j + 1, by omega, by push_cast; rfl⟩
        case measure => simp [RowKit.intOf]; omega
       ·obtain rfl := hg rfl
        go_wp2_with (first | (with_reducible refine load_c ?_) | (with_reducible refine load_g ?_) | (with_reducible refine call_c ?_; first | rintro _ V ⟨rfl, (_ : StepC _ _)⟩))
        go_roundw
        case rel => exact ⟨⟨ExtC.h⟩, j + 1, by omega, by push_cast; rfl⟩
        case measure => simp [RowKit.intOf]; omega
      ·obtain rfl : (j : Int) = M := by omega
       go_wp2_with (first | (with_reducible refine load_c ?_) | (with_reducible refine call_c ?_; first | rintro _ V ⟨rfl, (_ : StepC _ _)⟩))
       exact ⟨⟨⟨ExtC.h⟩, k + 1, lk, by push_cast; rfl⟩, by simp [RowKit.intOf]; omega⟩
    ·obtain rfl : k = r.sys.classes.length := by omega
     go_wp2_with (first | (with_reducible refine load_c ?_) | (with_reducible refine call_c ?_; first | rintro _ V ⟨rfl, (_ : StepC _ _)⟩))
     go_ret
     exact ⟨rfl, ⟨ExtC.h⟩⟩
end Go.Rg
end
section
namespace Go.Proofs.YtbfbepnkofampaaGreatDoor
open Go Go.Bp Go.Rg Go.Walk Go.RowKit Go.Proofs Go.ChangeShapes Go.WideShapes Go.ChangeAt
theorem lifted11 (os : Os) (started : os.Started) (H : Type) (enc : TypeId × Value → H) :
    ReturnsInHanded {} Tryz.checked os 11 .any (fun w args => (Go.Proofs.YtbfbepnkofampaaGreatDoor.Rows.registerMoreSpec.pre enc Tryz.prog Tryz.f11 [] false w args ∧ laidMetH Tryz.prog listed w) ∧ sizedMet enc Tryz.prog Tryz.f11 (OpenSpec.ofChange Go.Proofs.YtbfbepnkofampaaGreatDoor.Rows.registerMoreSpec) false w args)
      (Go.Proofs.YtbfbepnkofampaaGreatDoor.Rows.registerMoreSpec.post enc Tryz.prog Tryz.f11 false true false false) := by
  refine handed_shaped (C := Tryz.checked) (X := fun w _ => laidMetH Tryz.prog listed w) (fun _ _ _ hh h => h.of_heap hh) own_knob started (by kernel_rfl) Tryz.func11
    (ChangeSpec.witness_shaped (enc := enc) (C := Tryz.checked) (os := os) (X := fun w _ => laidMetH Tryz.prog listed w) false (World.laidAll Tryz.prog os listed) #[.agg #[.slice none 0 0, .slice none 0 0, .slice none 0 0, .int .i64 0, .int .i64 0, .int .i64 0], .agg #[.int .i64 0, .slice none 0 0], .agg #[.int .i64 0, .int .i64 0, .int .i64 0, .slice none 0 0, .int .i64 0, .int .i64 0, .int .i64 0, .int .i64 0, .int .i64 0, .int .i64 0, .int .i64 0, .int .i64 0, .int .i64 0]] 8 (World.laidAll_os _ _ _)
      (World.shaped_of_ZipB (by kernel_rfl) (by kernel_rfl)) (by kernel_rfl) (by kernel_rfl) (by kernel_rfl) (by rw [MakeChecks.laidMetH_plain _ _ _ (by kernel_rfl)]; exact laidMet_laidAll _ (by kernel_rfl) (by kernel_rfl))) ?_
  intro W base args ds gs before hval0 hW hL hSh hZ
  have hval : ∀ (j : Nat) t v, Tryz.f11.params[j]? = some t → args[j]? = some v → Value.okWide Tryz.prog W .any base t v := hval0
  have hW' := hW
  obtain ⟨p, q, hA0, hV, rfl, _, _⟩ := hW
  have hA : DataW.TrodAll enc Tryz.prog W 0 (fun _ => true) true Tryz.f11.params.toList args.toList ds p := hA0
  rw [Tryz.params11] at hA hval
  obtain ⟨v0, v1, v2, d0, d1, d2, p0, p1, p2, rfl, rfl, rfl, h0, h1, h2⟩ := trodAll_three hA
  obtain ⟨rfl, rfl⟩ := trodVars_none hV
  have k0 := h0
  have k1 := h1
  have k2 := h2
  obtain ⟨x0, hx0⟩ := arg_rules (hval 0 28 v0 rfl rfl) h0
  obtain ⟨x1, hx1⟩ := arg_person (hval 1 31 v1 rfl rfl) h1
  obtain ⟨dd, dc, df, A2, c2, us, xk, xd, xc, xo, xt, xq, xp, xu, xm, rfl, hu2, hb2⟩ := arg_told (hval 2 82 v2 rfl rfl) h2
  have lt0 : ∀ x ∈ p0, x.block < W.heap.size := fun x hx => hW'.lt x (by simp [hx])
  have lt1 : ∀ x ∈ p1, x.block < W.heap.size := fun x hx => hW'.lt x (by simp [hx])
  have lt2 : ∀ x ∈ p2, x.block < W.heap.size := fun x hx => hW'.lt x (by simp [hx])
  refine (LMore x0 x1 _ _ _ dd dc df xk xd xc xo xt xq xp xu xm W hx0 hx1 ⟨room_of Tryz.params11 hZ hx1⟩ ⟨env_of hL hSh⟩ rfl).mono fun e W' ⟨he, ⟨hb⟩⟩ => ?_
  subst he
  exact ⟨_, rfl, _, _, _, [], _, [], hW', trodAll_mk1 (shut_bool Tryz.underlying4 _), trodAll_mk3 (Below.trod laid_out (by kernel_rfl) (of_decide_eq_true (by kernel_rfl)) k0 hb lt0) (Below.trod laid_out (by kernel_rfl) (of_decide_eq_true (by kernel_rfl)) k1 hb lt1) (Below.trod laid_out (by kernel_rfl) (of_decide_eq_true (by kernel_rfl)) k2 hb lt2), rfl, hb.frame _, fun h => by cases h⟩
theorem holds11 : Go.Proofs.YtbfbepnkofampaaGreatDoor.Rows.RegisterMoreSaid :=
  OpenClaim.holds_of_wide 11 Tryz.f11 rfl rfl rfl rfl rfl rfl rfl ⟨rfl, rfl, rfl, rfl, rfl⟩ rfl rfl rfl rfl rfl (by kernel_rfl) Tryz.func11 closed11
    (of_decide_eq_true (by kernel_rfl)) (by unfold Func.isWrapper; first | (rw [if_pos (by decide +kernel)]; kernel_rfl) | (rw [if_neg (by decide +kernel)]; exact ⟨rfl, rfl⟩))
    (fun os started H enc _ => lifted11 os started H enc)
theorem registerMore_holds : Go.Proofs.YtbfbepnkofampaaGreatDoor.Rows.RegisterMoreCardSaid :=
  Claim7.holds_tied_plain_at .later [] [.data, .data, .data, .data, .sentinel, .sentinel, .pinned] true (true, "4970e1223911c70aa7bcdc0bdc6bbce8f6a3c11b3c24a4250f4776a5114b5b9d") true
    holds11 (fun _ h => by cases h) wf11 (fun _ h => by cases h) Go.Proofs.YtbfbepnkofampaaGreatDoor.registerMore_row_tie rfl ⟨rfl, rfl⟩ mainP rfl
    (fun f fn hf hfn => by
      obtain rfl : f = 11 := Option.some.inj (fm11.symm.trans hf) |>.symm
      obtain rfl : fn = Tryz.f11 := (Option.some.inj (Tryz.func11.symm.trans hfn)).symm
      exact ⟨looksP, fun j t ht => by
        rw [Tryz.params11] at ht
        have hm : t ∈ ([28, 31, 82] : List TypeId) := by simpa using Array.mem_of_getElem? ht
        have hall : (([28, 31, 82] : List TypeId).all fun u => !Tryz.prog.wantsStandIn u) = true := by kernel_rfl
        exact (show Tryz.prog.wantsStandIn t = false by simpa using List.all_eq_true.1 hall t hm)⟩)
    gs11
#print axioms registerMore_holds
end Go.Proofs.YtbfbepnkofampaaGreatDoor
end
