/- The tied card of RegisterGrants is proved: for every input the law returns true, and each argument reads afterwards as it read before; condition: the listed package variables start as the text lays them (the card ties them). -/
import Derived.Test.YtbfbepnkofampaaGreatDoorQAEX01
import Derived.Test.YtbfbepnkofampaaGreatDoorQBCDE01
import Derived.Test.YtbfbepnkofampaaGreatDoorQBCDEX01
import Derived.Test.YtbfbepnkofampaaGreatDoorQE01
set_option maxRecDepth 100000
set_option linter.all false
section
namespace Go.Proofs.YtbfbepnkofampaaGreatDoor
open Go Go.Bp Go.Rg Go.Walk Go.RowKit Go.Proofs Go.ChangeShapes Go.WideShapes Go.ChangeAt
theorem ip14 : (Rows.registerGrantsRow.inPlace == Tryz.pinned.checked.prog.inPlace 14) = true := by kernel_rfl
theorem uf14 : (Rows.registerGrantsRow.unfollowed == Tryz.pinned.checked.prog.unfollowed 14) = true := by kernel_rfl
theorem rc14 : (Rows.registerGrantsRow.recurses == Tryz.pinned.checked.prog.recurses 14) = true := by kernel_rfl
theorem nm14 : (Rows.registerGrantsRow.named == Tryz.pinned.checked.prog.varsNamed 14) = true := by kernel_rfl
theorem wf14 : Rows.registerGrantsRow.wfByText (OpenSpec.ofChange Rows.registerGrantsSpec) = true := by kernel_rfl
theorem gs14 : false = Rows.registerGrantsRow.goesBy Tryz.pinned.checked.prog := by kernel_rfl
theorem fm14 : Tryz.prog.funcNamed Rows.registerGrantsRow.func = some 14 := by kernel_rfl
theorem closed14 : joinedFacts Tryz.pinned.checked.prog 14 Tryz.f14 Rows.registerGrantsSpec Rows.registerGrantsRow = true := by
  unfold joinedFacts
  rw [ip14, uf14, rc14, nm14, loP, mrP, meP, shP, show (Rows.registerGrantsRow.lifted == Tryz.pinned.checked.prog.liftsFinal) = true from liP, show (Tryz.pinned.checked.prog.make == some Rows.registerGrantsRow.make) = true from mkP]
  kernel_rfl
end Go.Proofs.YtbfbepnkofampaaGreatDoor
end
section
namespace Go.Rg
open Go Go.Bp Go.RowKit Go.Walk Go.Proofs
set_option synthInstance.maxSize 2000
set_option synthInstance.maxHeartbeats 400000
set_option maxHeartbeats 4000000
theorem eql74 (W : World) (a b a' b' : Int) : (binOp .eql 74 (.agg #[.int .i64 a, .int .i64 b]) (.agg #[.int .i64 a', .int .i64 b'])).run Tryz.prog W = .ok (.bool (decide (a = a' ∧ b = b'))) W := by
 rw [run_eql_struct, show (10000 : Nat) = 9998 + 2 from rfl, eq_pairI pairRight W 9998 a b a' b']; rfl
theorem cells_at {W : World} {p : Addr} {v : Value} {l : List Value} (h : Cells W p (v :: l)) : Cells W ⟨p.block, p.off + 1, none⟩ l := by
 intro j u hu
 have := h (j + 1) u (by simpa using hu)
 have e : p.add (j + 1) = (⟨p.block, p.off + 1, none⟩ : Addr).add j := by
  unfold Addr.add
  split <;> split <;> simp_all <;> omega
 rwa [e] at this
/-- Some grant among the first k events, up to a day, has a right. -/
def grTo (r : Rules) (l : List Event) (d : Int) (y : Right) (k : Nat) : Bool := (l.take k).any fun x => (decide (x.kind = 0) || decide (x.kind = 1)) && decide (x.day ≤ d) && decide (r.rightOf x = y)
theorem gr_succ {r : Rules} {l : List Event} {d : Int} {y : Right} {k : Nat} (hk : k < l.length) : grTo r l d y (k + 1) = (grTo r l d y k || ((decide (l[k].kind = 0) || decide (l[k].kind = 1)) && decide (l[k].day ≤ d) && decide (r.rightOf l[k] = y))) := by
 unfold grTo
 rw [List.take_succ_eq_append_getElem hk, List.any_append]
 simp
/-- What is held on a day. -/
theorem grants_ready {r : Rules} {p : Person} {d : Int} {l : List Right} (hz : r.personErr p = 0) (hd : 0 ≤ d ∧ d ≤ 40000) (hb : p.born ≤ d) (hl : r.heldAns p d = (l, 0)) :
  ∃ a, ageAns p.born d = (a, 0) ∧ l.length ≤ 30 ∧ ∀ y ∈ l, grTo r p.events d y p.events.length = true ∧ 0 ≤ y.cls ∧ y.cls < r.sys.classes.length ∧ (r.sys.at_ y.cls).age ≤ a := by
 obtain ⟨h1, h2, h3, h4⟩ := Rules.person_ok hz
 obtain ⟨a, e, _⟩ := age_parts h2.1 hb hd.2
 refine ⟨a, e, ?_⟩
 rw [Rules.heldAns_of hz hd hb] at hl
 split at hl
 ·injection hl with hl
  subst hl
  exact ⟨by simp, by simp⟩
 ·injection hl with hl
  subst hl
  obtain ⟨k1, k2⟩ := Rules.held_ok hz d
  refine ⟨Nat.le_trans (Sys.least_len k1) k2, fun y hy => ?_⟩
  obtain ⟨⟨x, hx, hk, hxd, hxr, hxa⟩, hc⟩ := Rules.held_grant hy
  refine ⟨?_, hc.1, hc.2, ?_⟩
  ·unfold grTo
   rw [List.take_length]
   refine List.any_eq_true.2 ⟨x, hx, ?_⟩
   rcases hk with hk | hk <;> simp [hk, hxd, hxr]
  ·have ev := h4 x hx
   obtain ⟨⟨b1, b2, b3⟩, _⟩ := event_shape ev
   have := age_mono h2.1 b3 hxd hd.2
   rw [e] at this
   simp only at this
   omega
set_option maxHeartbeats 8000000 in
theorem LGrants (r : Rules) (p : Person) (v pv : Value) (d : Int) (w : World) (h : RulesV w v r) (hp : PersonV w pv p) (hv : EnvC w) (hd : 0 ≤ d ∧ d ≤ 65535) :
  Calls Tryz.prog 14 #[v, pv, .int .u16 d] w (RB w true) := by
 obtain ⟨A1, n1, c1, A2, c2, A3, c3, rfl, hn, hcv, _, htv⟩ := h.h
 subst hn
 obtain ⟨A, c, rfl, hl⟩ := hp.h
 have i1 := RulesB.mk h
 have i2 := PersonB.mk hp
 have i4 := ListB.mk hl
 have i0 := EnvB.mk hv.h
 have zd : IntKind.i64.wrap d = d := IntWalk.i64_in _ (by omega)
 obtain ⟨⟨L, n⟩, hs⟩ : ∃ x, r.heldAns p d = x := ⟨_, rfl⟩
 have j1 := HeldE.mk hs
 have hcase : (n ≠ 0 ∧ L = []) ∨ (n = 0 ∧ r.personErr p = 0 ∧ (0 ≤ d ∧ d ≤ 40000) ∧ p.born ≤ d) := by
  unfold Rules.heldAns at hs
  by_cases z1 : r.personErr p = 0
  ·rw [if_neg (by simpa using z1)] at hs
   by_cases z2 : inB d 0 40000 = false
   ·rw [if_pos z2] at hs
    injection hs with e1 e2
    exact .inl ⟨by omega, e1.symm⟩
   ·rw [if_neg z2] at hs
    by_cases z3 : d < p.born
    ·rw [if_pos z3] at hs
     injection hs with e1 e2
     exact .inl ⟨by omega, e1.symm⟩
    ·rw [if_neg z3] at hs
     refine .inr ⟨?_, z1, inB_t.1 (by simpa using z2), by omega⟩
     split at hs
     ·injection hs with e1 e2; exact e2.symm
     ·injection hs with e1 e2; exact e2.symm
  ·rw [if_pos z1] at hs
   injection hs with e1 e2
   exact .inl ⟨by rw [← e2]; exact z1, e1.symm⟩
 rcases hcase with ⟨z, rfl⟩ | ⟨rfl, hz, hd1, hbd⟩
 ·have q1 : (n != 0) = true := by simpa using z
  clear hs z hcv htv
  go_enter Tryz.func14, Tryz.ntmps14
  go_wp2_with (first | ((first | with_reducible refine call_c ?_); rintro _ V ⟨rfl, (_ : StepC _ _)⟩; (try simp only [eq_self, decide_true])) | (first | go_skip | (with_reducible refine load_c ?_) | (with_reducible refine call_c ?_; first | rintro _ V ⟨_, _, _, rfl, (_ : RowC _ _ _ _ _ _ _), (_ : StepC _ _)⟩) | (with_reducible refine box_c ?_; intro V g _ _ _)))
  all_goals
   go_ret
   exact ⟨rfl, ⟨ExtC.h⟩⟩
 ·obtain ⟨a, ha, hL30, hLy⟩ := grants_ready hz hd1 hbd hs
  have j3 := AgeE.mk ha
  have j2 : RPerE r p 0 := ⟨hz⟩
  obtain ⟨h1, _, hn30, hev⟩ := Rules.person_ok hz
  have hok := Rules.ok_of h1
  have Hev := Lib.hid hev
  have HLy := Lib.hid hLy
  clear hs hz ha hev hLy
  go_enter Tryz.func14, Tryz.ntmps14
  go_wp2_with (first | (with_reducible refine call_c ?_; rintro _ Vh ⟨Ah, ch, Bh, rfl, hRh, (_ : StepC _ _)⟩) | ((first | with_reducible refine call_c ?_); rintro _ V ⟨rfl, (_ : StepC _ _)⟩; (try simp only [eq_self, decide_true])) | (first | (with_reducible refine load_c ?_) | (with_reducible refine load_g ?_) | (with_reducible refine box_c ?_; intro V g _ _ _)))
  have jL := ListB.mk (hRh.list (l := L) rfl rfl rfl)
  have hLc := jL.h.caps
  go_loopw [10] (fun iv wr => Ext w wr ∧ Ext V wr ∧ ∃ k : Nat, k ≤ L.length ∧ iv = .int .i64 k) (fun iv _ => L.length - (RowKit.intOf iv).toNat)
  case atStart => exact ⟨ExtC.h, ExtC.h, 0, by omega, rfl⟩
  case round =>
   obtain ⟨_, hEV, i, hi, rfl⟩ := hrel
   have e0 : StepC V wr := ⟨hEV⟩
   by_cases li : i < L.length
   ·obtain ⟨al, rfl, hal⟩ := jL.h.elem li
    have hy := HLy.out _ (List.getElem_mem li)
    obtain ⟨⟨yc, yo⟩, hyx⟩ : ∃ x, L[i] = x := ⟨_, rfl⟩
    rw [hyx] at hal hy
    obtain ⟨hy1, hy2, hy3, hy4⟩ := hy
    simp only at hy2 hy3 hy4
    have i5 : CellsB Vh (al.add (i * 2)) [.int .i64 yc, .int .i64 yo] := ⟨hal⟩
    have zi : IntKind.i64.wrap ((i : Int) + 1) = (i : Int) + 1 := IntWalk.i64_in _ (by omega)
    have Hy1 := Lib.hid hy1
    clear hy1 hal hyx
    go_wp2
    go_loopw [11, 12] (fun tv jv wr2 => StepC wr wr2 ∧ ∃ k : Nat, k ≤ p.events.length ∧ tv = .bool (grTo r p.events d ⟨yc, yo⟩ k) ∧ jv = .int .i64 k) (fun _ jv _ => p.events.length - (RowKit.intOf jv).toNat)
    case atStart => exact ⟨⟨ExtC.h⟩, 0, by omega, rfl, rfl⟩
    case round =>
     obtain ⟨_, k, hk, rfl, rfl⟩ := hrel
     by_cases lk : k < p.events.length
     ·obtain ⟨ae, rfl, hae⟩ := hl.elem lk
      have hgs := gr_succ (r := r) (d := d) (y := ⟨yc, yo⟩) lk
      have hevk := Hev.out _ (List.getElem_mem lk)
      obtain ⟨g0, hg0⟩ : ∃ x, grTo r p.events d ⟨yc, yo⟩ k = x := ⟨_, rfl⟩
      rw [hg0] at hgs ⊢
      obtain ⟨⟨xk, xd, ⟨xc, xo⟩, xt, xq, xp, xu, xm⟩, hx⟩ : ∃ x, p.events[k] = x := ⟨_, rfl⟩
      rw [hx] at hae hgs hevk
      simp only at hgs
      have i6 : CellsB w (ae.add (k * 9)) [.int .i64 xk, .int .i64 xd, .int .i64 xc, .int .i64 xo, .int .i64 xt, .int .i64 xq, .int .i64 xp, .int .i64 xu, .int .i64 xm] := ⟨hae⟩
      have zk : IntKind.i64.wrap ((k : Int) + 1) = (k : Int) + 1 := IntWalk.i64_in _ (by omega)
      obtain ⟨b3, hb3⟩ : ∃ b, decide (xd ≤ d) = b := ⟨_, rfl⟩
      rw [hb3] at hgs
      by_cases k1 : xk = 1
      ·subst k1
       have hxt : 0 ≤ xt ∧ xt < r.treaties.length := by
        obtain ⟨_, hs⟩ := event_shape hevk
        rcases hs with ⟨y, m', e, _⟩ | ⟨t', e, e2⟩ | ⟨t', e, _⟩ | ⟨t', e, h⟩ | ⟨t', e, _⟩
        ·injection e with e; cases e
        ·injection e with e e3 e4 e5; subst e5; exact e2
        ·injection e with e; cases e
        ·injection e with e; cases e
        ·injection e with e; cases e
       obtain ⟨ti, rfl⟩ : ∃ n : Nat, xt = (n : Int) := ⟨xt.toNat, by omega⟩
       have hti : ti < r.treaties.length := by omega
       obtain ⟨at_, rfl, hat⟩ := htv.elem hti
       have hro : r.rightOf ⟨1, xd, ⟨xc, xo⟩, ti, xq, xp, xu, xm⟩ = r.treaties[ti].right := by
        unfold Rules.rightOf; rw [if_pos rfl]; simp [List.getD, hti]
       obtain ⟨⟨nm, ⟨rc, ro⟩, lo, hh⟩, htx⟩ : ∃ x, r.treaties[ti] = x := ⟨_, rfl⟩
       rw [htx] at hat hro
       rw [hro] at hgs
       have i7 : CellsB w (at_.add (ti * 5)) [.string nm, .int .i64 rc, .int .i64 ro, .int .i64 lo, .int .i64 hh] := ⟨hat⟩
       have i71 : CellsB w ⟨(at_.add (ti * 5)).block, (at_.add (ti * 5)).off + 1, none⟩ [.int .i64 rc, .int .i64 ro, .int .i64 lo, .int .i64 hh] := ⟨cells_at hat⟩
       have i8 := ListB.mk htv
       have hE := fun W => eql74 W rc ro yc yo
       obtain ⟨b4, hb4⟩ : ∃ b, decide (rc = yc ∧ ro = yo) = b := ⟨_, rfl⟩
       simp only [hb4] at hE
       have hgs2 : grTo r p.events d ⟨yc, yo⟩ (k + 1) = (g0 || (b3 && b4)) := by
        rw [hgs, ← hb4]
        congr 1
        simp
       have Hgs := Lib.hid hgs2
       clear hgs hgs2 hg0 hx hae hevk hb4 hat htx hro hxt
       cases g0
       ·cases b3
        ·go_wp2_with (first | (with_reducible refine newvar_c (uu := 13) ?_; intro V13 g13 hE13 hB13 hA13) | (with_reducible refine newvar_c (uu := 14) ?_; intro V14 g14 hE14 hB14 hA14) | (with_reducible refine store_c ?_; intro Vst hSt _) | (first | (with_reducible refine load_c ?_)))
         refine wp_rd ((.take 0 (.take 1 (.take 2 (.take 3 (.take 4 (.take 5 (.take 6 (.take 7 (.take 8 (.take 9 (.take 10 (.take 11 (.take 12 (.take 13 (.take 14 (.take 15 (.take 16 (.take 17 (.take 18 (.take 19 (.take 20 (.take 21 (.take 22 (.take 23 (.take 24 (.take 25 (.take 26 .nil)))))))))))))))))))))))))))) (fun hHeld => ?_) (hQ := by intro _ _ _ _ _ h; exact h)
         repeat' first | ((with_reducible refine t_tk ?_); (first | (refine tk (v := ?_) ?_ hHeld ?_; rotate_left; (· (intro wq hSw; go_simp; (try with_reducible rfl)))) | (refine tw (v := ?_) ?_ hHeld ?_; rotate_left; (· (intro W' h; have := StepC.mk h; first | with_reducible exact run_lc))) | (refine tw (v := ?_) ?_ hHeld ?_; rotate_left; (· (intro wq hSw; go_simp; (try with_reducible rfl)))) | (refine ts hHeld ?_)); (try simp only [pS])) | (with_reducible refine t_done ?_)
         all_goals
          go_wp2
          exact ⟨⟨⟨ExtC.h⟩, k + 1, by omega, by rw [Hgs.out]; simp, by push_cast; rfl⟩, by simp [RowKit.intOf]; omega⟩
        ·go_wp2_with (first | (with_reducible refine newvar_c (uu := 13) ?_; intro V13 g13 hE13 hB13 hA13) | (with_reducible refine newvar_c (uu := 14) ?_; intro V14 g14 hE14 hB14 hA14) | (with_reducible refine store_c ?_; intro Vst hSt _) | (first | (with_reducible refine load_c ?_)))
         refine wp_rd ((.take 0 (.take 1 (.take 2 (.take 3 (.take 4 (.take 5 (.take 6 (.take 7 (.take 8 (.take 9 (.take 10 (.take 11 (.take 12 (.take 13 (.take 14 (.take 15 (.take 16 (.take 17 (.take 18 (.take 19 (.take 20 (.take 21 (.take 22 (.take 23 (.take 24 (.take 25 (.take 26 .nil)))))))))))))))))))))))))))) (fun hHeld => ?_) (hQ := by intro _ _ _ _ _ h; exact h)
         repeat' first | ((with_reducible refine t_tk ?_); (first | (refine tk (v := ?_) ?_ hHeld ?_; rotate_left; (· (intro wq hSw; go_simp; (try with_reducible rfl)))) | (refine tw (v := ?_) ?_ hHeld ?_; rotate_left; (· (intro W' h; have := StepC.mk h; first | with_reducible exact run_lc))) | (refine tw (v := ?_) ?_ hHeld ?_; rotate_left; (· (intro wq hSw; go_simp; (try with_reducible rfl))))); (try simp only [pS])) | (with_reducible refine t_done ?_)
         all_goals
          go_wp2
          exact ⟨⟨⟨ExtC.h⟩, k + 1, by omega, by rw [Hgs.out]; simp, by push_cast; rfl⟩, by simp [RowKit.intOf]; omega⟩
       ·go_wp2_with (first | (with_reducible refine newvar_c (uu := 13) ?_; intro V13 g13 hE13 hB13 hA13) | (with_reducible refine newvar_c (uu := 14) ?_; intro V14 g14 hE14 hB14 hA14) | (with_reducible refine store_c ?_; intro Vst hSt _) | (first | (with_reducible refine load_c ?_)))
        refine wp_rd ((.take 0 (.take 1 (.take 2 (.take 3 (.take 4 (.take 5 (.take 6 (.take 7 (.take 8 (.take 9 (.take 10 (.take 11 (.take 12 (.take 13 (.take 14 (.take 15 (.take 16 (.take 17 (.take 18 (.take 19 (.take 20 (.take 21 (.take 22 (.take 23 (.take 24 (.take 25 (.take 26 .nil)))))))))))))))))))))))))))) (fun hHeld => ?_) (hQ := by intro _ _ _ _ _ h; exact h)
        repeat' first | ((with_reducible refine t_tk ?_); (first | (refine tk (v := ?_) ?_ hHeld ?_; rotate_left; (· (intro wq hSw; go_simp; (try with_reducible rfl)))) | (refine ts hHeld ?_)); (try simp only [pS])) | (with_reducible refine t_done ?_)
        all_goals
         go_wp2
         exact ⟨⟨⟨ExtC.h⟩, k + 1, by omega, by rw [Hgs.out]; simp, by push_cast; rfl⟩, by simp [RowKit.intOf]; omega⟩
      ·have q1 : (xk == 1) = false := by simpa using k1
       have hro : r.rightOf ⟨xk, xd, ⟨xc, xo⟩, xt, xq, xp, xu, xm⟩ = ⟨xc, xo⟩ := by
        unfold Rules.rightOf; rw [if_neg k1]
       rw [hro] at hgs
       have hE := fun W => eql74 W xc xo yc yo
       obtain ⟨b4, hb4⟩ : ∃ b, decide (xc = yc ∧ xo = yo) = b := ⟨_, rfl⟩
       simp only [hb4] at hE
       obtain ⟨b5, hb5⟩ : ∃ b, (xk == 0) = b := ⟨_, rfl⟩
       have hgs2 : grTo r p.events d ⟨yc, yo⟩ (k + 1) = (g0 || (b5 && b3 && b4)) := by
        have e9 : decide ((⟨xc, xo⟩ : Right) = ⟨yc, yo⟩) = decide (xc = yc ∧ xo = yo) := decide_eq_decide.2 (by rw [Right.mk.injEq])
        have e8 : (decide (xk = 0) || decide (xk = 1)) = (xk == 0) := by rw [decide_eq_false k1, Bool.or_false]; rfl
        rw [hgs, ← hb4, ← hb5, e8, e9]
       have Hgs := Lib.hid hgs2
       clear hgs hgs2 hg0 hx hae hevk hb4 hro
       cases g0
       ·cases b5
        ·go_wp2_with (first | (with_reducible refine newvar_c (uu := 13) ?_; intro V13 g13 hE13 hB13 hA13) | (with_reducible refine newvar_c (uu := 14) ?_; intro V14 g14 hE14 hB14 hA14) | (first | (with_reducible refine load_c ?_)))
         refine wp_rd ((.take 0 (.take 1 (.take 2 (.take 3 (.take 4 (.take 5 (.take 6 (.take 7 (.take 8 (.take 9 (.take 10 (.take 11 (.take 12 (.take 13 (.take 14 (.take 15 (.take 16 (.take 17 (.take 18 (.take 19 (.take 20 (.take 21 (.take 22 (.take 23 (.take 24 (.take 25 (.take 26 .nil)))))))))))))))))))))))))))) (fun hHeld => ?_) (hQ := by intro _ _ _ _ _ h; exact h)
         repeat' first | ((with_reducible refine t_tk ?_); (first | (refine tk (v := ?_) ?_ hHeld ?_; rotate_left; (· (intro wq hSw; go_simp; (try with_reducible rfl)))) | (refine tw (v := ?_) ?_ hHeld ?_; rotate_left; (· (intro W' h; have := StepC.mk h; first | with_reducible exact run_lc))) | (refine tw (v := ?_) ?_ hHeld ?_; rotate_left; (· (intro wq hSw; go_simp; (try with_reducible rfl)))) | (refine ts hHeld ?_)); (try simp only [pS])) | (with_reducible refine t_done ?_)
         all_goals
          go_wp2
          exact ⟨⟨⟨ExtC.h⟩, k + 1, by omega, by rw [Hgs.out]; simp, by push_cast; rfl⟩, by simp [RowKit.intOf]; omega⟩
        ·cases b3
         ·go_wp2_with (first | (with_reducible refine newvar_c (uu := 13) ?_; intro V13 g13 hE13 hB13 hA13) | (with_reducible refine newvar_c (uu := 14) ?_; intro V14 g14 hE14 hB14 hA14) | (first | (with_reducible refine load_c ?_)))
          refine wp_rd ((.take 0 (.take 1 (.take 2 (.take 3 (.take 4 (.take 5 (.take 6 (.take 7 (.take 8 (.take 9 (.take 10 (.take 11 (.take 12 (.take 13 (.take 14 (.take 15 (.take 16 (.take 17 (.take 18 (.take 19 (.take 20 (.take 21 (.take 22 (.take 23 (.take 24 (.take 25 (.take 26 .nil)))))))))))))))))))))))))))) (fun hHeld => ?_) (hQ := by intro _ _ _ _ _ h; exact h)
          repeat' first | ((with_reducible refine t_tk ?_); (first | (refine tk (v := ?_) ?_ hHeld ?_; rotate_left; (· (intro wq hSw; go_simp; (try with_reducible rfl)))) | (refine tw (v := ?_) ?_ hHeld ?_; rotate_left; (· (intro W' h; have := StepC.mk h; first | with_reducible exact run_lc))) | (refine tw (v := ?_) ?_ hHeld ?_; rotate_left; (· (intro wq hSw; go_simp; (try with_reducible rfl)))) | (refine ts hHeld ?_)); (try simp only [pS])) | (with_reducible refine t_done ?_)
          all_goals
           go_wp2
           exact ⟨⟨⟨ExtC.h⟩, k + 1, by omega, by rw [Hgs.out]; simp, by push_cast; rfl⟩, by simp [RowKit.intOf]; omega⟩
         ·go_wp2_with (first | (with_reducible refine newvar_c (uu := 13) ?_; intro V13 g13 hE13 hB13 hA13) | (with_reducible refine newvar_c (uu := 14) ?_; intro V14 g14 hE14 hB14 hA14) | (first | (with_reducible refine load_c ?_)))
          refine wp_rd ((.take 0 (.take 1 (.take 2 (.take 3 (.take 4 (.take 5 (.take 6 (.take 7 (.take 8 (.take 9 (.take 10 (.take 11 (.take 12 (.take 13 (.take 14 (.take 15 (.take 16 (.take 17 (.take 18 (.take 19 (.take 20 (.take 21 (.take 22 (.take 23 (.take 24 (.take 25 (.take 26 .nil)))))))))))))))))))))))))))) (fun hHeld => ?_) (hQ := by intro _ _ _ _ _ h; exact h)
          repeat' first | ((with_reducible refine t_tk ?_); (first | (refine tk (v := ?_) ?_ hHeld ?_; rotate_left; (· (intro wq hSw; go_simp; (try with_reducible rfl)))) | (refine tw (v := ?_) ?_ hHeld ?_; rotate_left; (· (intro W' h; have := StepC.mk h; first | with_reducible exact run_lc))) | (refine tw (v := ?_) ?_ hHeld ?_; rotate_left; (· (intro wq hSw; go_simp; (try with_reducible rfl)))) | (refine ts hHeld ?_)); (try simp only [pS])) | (with_reducible refine t_done ?_)
          all_goals
           go_wp2
           exact ⟨⟨⟨ExtC.h⟩, k + 1, by omega, by rw [Hgs.out]; simp, by push_cast; rfl⟩, by simp [RowKit.intOf]; omega⟩
       ·go_wp2_with (first | (with_reducible refine newvar_c (uu := 13) ?_; intro V13 g13 hE13 hB13 hA13) | (with_reducible refine newvar_c (uu := 14) ?_; intro V14 g14 hE14 hB14 hA14) | (first | (with_reducible refine load_c ?_)))
        refine wp_rd ((.take 0 (.take 1 (.take 2 (.take 3 (.take 4 (.take 5 (.take 6 (.take 7 (.take 8 (.take 9 (.take 10 (.take 11 (.take 12 (.take 13 (.take 14 (.take 15 (.take 16 (.take 17 (.take 18 (.take 19 (.take 20 (.take 21 (.take 22 (.take 23 (.take 24 (.take 25 (.take 26 .nil)))))))))))))))))))))))))))) (fun hHeld => ?_) (hQ := by intro _ _ _ _ _ h; exact h)
        repeat' first | ((with_reducible refine t_tk ?_); (first | (refine tk (v := ?_) ?_ hHeld ?_; rotate_left; (· (intro wq hSw; go_simp; (try with_reducible rfl)))) | (refine ts hHeld ?_)); (try simp only [pS])) | (with_reducible refine t_done ?_)
        all_goals
         go_wp2
         exact ⟨⟨⟨ExtC.h⟩, k + 1, by omega, by rw [Hgs.out]; simp, by push_cast; rfl⟩, by simp [RowKit.intOf]; omega⟩
     ·obtain rfl : k = p.events.length := by omega
      rw [Hy1.out]
      obtain ⟨ci, rfl⟩ : ∃ n : Nat, yc = (n : Int) := ⟨yc.toNat, by omega⟩
      have hci : ci < r.sys.classes.length := by omega
      rw [Sys.at_eq hci] at hy4
      obtain ⟨m, hm1, hm2, _⟩ := hcv.h
      have hml : m.length = r.sys.classes.length := by rw [← hm1]; simp
      obtain ⟨ac, eac, hac⟩ := hm2.elem (i := ci) (by omega)
      subst eac
      have hmc : m[ci].c = r.sys.classes[ci] := by
       have := List.getElem_map (fun x : ClsA => x.c) (l := m) (i := ci) (h := by simp; omega)
       rw [← this]; congr 1
      obtain ⟨ca, hca⟩ : ∃ x, m[ci]'(by omega) = x := ⟨_, rfl⟩
      rw [hca] at hac hmc
      rw [← hmc] at hy4
      obtain ⟨⟨cn, cl, cd, cg, ct⟩, cA, cK⟩ := ca
      simp only at hy4
      have i7 : CellsB w (ac.add (ci * 5)) [.string cn, .slice cA cl.length cK, .int .i64 cd, .int .i64 cg, .int .i64 ct] := ⟨hac⟩
      have q2 : decide ((ci : Int) < 0) = false := by simp
      have q3 : decide ((ci : Int) ≥ r.sys.classes.length) = false := by simp; omega
      have q31 : decide (r.sys.classes.length ≤ ci) = false := by simp; omega
      have q32 : ¬ (r.sys.classes.length ≤ ci) := by omega
      have q33 : ¬ ((ci : Int) ≥ r.sys.classes.length) := by omega
      have q4 : decide (a < cg) = false := by simp; omega
      clear hac hca hmc hm1 hm2 hy4
      go_wp2_with (first | (with_reducible refine load_c ?_))
      refine wp_rd ((.take 0 (.take 1 (.take 2 (.take 3 (.take 4 (.take 5 (.take 6 (.take 7 (.take 8 (.take 9 (.take 10 (.take 11 (.take 12 (.take 13 (.take 14 (.take 15 (.take 16 (.take 17 (.take 18 (.take 19 (.take 20 (.take 21 (.take 22 (.take 23 (.take 24 (.take 25 (.take 26 (.take 27 (.take 28 (.take 29 (.take 30 (.take 31 (.take 32 (.take 33 (.take 34 (.take 35 (.take 36 .nil)))))))))))))))))))))))))))))))))))))) (fun hHeld => ?_) (hQ := by intro _ _ _ _ _ h; exact h)
      repeat' first | ((with_reducible refine t_tk ?_); (first | (refine tk (v := ?_) ?_ hHeld ?_; rotate_left; (· (intro wq hSw; go_simp; (try with_reducible rfl)))) | (refine tw (v := ?_) ?_ hHeld ?_; rotate_left; (· (intro W' h; have := StepC.mk h; first | with_reducible exact run_lc))) | (refine tw (v := ?_) ?_ hHeld ?_; rotate_left; (· (intro wq hSw; go_simp; (try with_reducible rfl))))); (try simp only [pS])) | (with_reducible refine t_done ?_)
      all_goals
       go_wp2
       exact ⟨⟨ExtC.h, ExtC.h, i + 1, by omega, by push_cast; rfl⟩, by simp [RowKit.intOf]; omega⟩
   ·obtain rfl : i = L.length := by omega
    go_wp2_with (first | ((first | with_reducible refine call_c ?_); rintro _ V ⟨rfl, (_ : StepC _ _)⟩; (try simp only [eq_self, decide_true])))
    all_goals
     go_ret
     exact ⟨rfl, ⟨ExtC.h⟩⟩
end Go.Rg
end
section
namespace Go.Proofs.YtbfbepnkofampaaGreatDoor
open Go Go.Bp Go.Rg Go.Walk Go.RowKit Go.Proofs Go.ChangeShapes Go.WideShapes Go.ChangeAt
theorem lifted14 (os : Os) (started : os.Started) (H : Type) (enc : TypeId × Value → H) :
    ReturnsInHanded {} Tryz.checked os 14 .any (fun w args => (Go.Proofs.YtbfbepnkofampaaGreatDoor.Rows.registerGrantsSpec.pre enc Tryz.prog Tryz.f14 [] false w args ∧ laidMetH Tryz.prog listed w) ∧ sizedMet enc Tryz.prog Tryz.f14 (OpenSpec.ofChange Go.Proofs.YtbfbepnkofampaaGreatDoor.Rows.registerGrantsSpec) false w args)
      (Go.Proofs.YtbfbepnkofampaaGreatDoor.Rows.registerGrantsSpec.post enc Tryz.prog Tryz.f14 false true false false) := by
  refine handed_shaped (C := Tryz.checked) (X := fun w _ => laidMetH Tryz.prog listed w) (fun _ _ _ hh h => h.of_heap hh) own_knob started (by kernel_rfl) Tryz.func14
    (ChangeSpec.witness_shaped (enc := enc) (C := Tryz.checked) (os := os) (X := fun w _ => laidMetH Tryz.prog listed w) false (World.laidAll Tryz.prog os listed) #[.agg #[.slice none 0 0, .slice none 0 0, .slice none 0 0, .int .i64 0, .int .i64 0, .int .i64 0], .agg #[.int .i64 0, .slice none 0 0], .int .u16 0] 8 (World.laidAll_os _ _ _)
      (World.shaped_of_ZipB (by kernel_rfl) (by kernel_rfl)) (by kernel_rfl) (by kernel_rfl) (by kernel_rfl) (by rw [MakeChecks.laidMetH_plain _ _ _ (by kernel_rfl)]; exact laidMet_laidAll _ (by kernel_rfl) (by kernel_rfl))) ?_
  intro W base args ds gs before hval0 hW hL hSh hZ
  have hval : ∀ (j : Nat) t v, Tryz.f14.params[j]? = some t → args[j]? = some v → Value.okWide Tryz.prog W .any base t v := hval0
  have hW' := hW
  obtain ⟨p, q, hA0, hV, rfl, _, _⟩ := hW
  have hA : DataW.TrodAll enc Tryz.prog W 0 (fun _ => true) true Tryz.f14.params.toList args.toList ds p := hA0
  rw [Tryz.params14] at hA hval
  obtain ⟨v0, v1, v2, d0, d1, d2, p0, p1, p2, rfl, rfl, rfl, h0, h1, h2⟩ := trodAll_three hA
  obtain ⟨rfl, rfl⟩ := trodVars_none hV
  have k0 := h0
  have k1 := h1
  have k2 := h2
  obtain ⟨x0, hx0⟩ := arg_rules (hval 0 28 v0 rfl rfl) h0
  obtain ⟨x1, hx1⟩ := arg_person (hval 1 31 v1 rfl rfl) h1
  obtain ⟨n2, rfl, rfl, rfl, hw2⟩ := open_int Tryz.underlying102 (hval 2 102 v2 rfl rfl) h2; have hn2 := wf_u16 hw2
  have lt0 : ∀ x ∈ p0, x.block < W.heap.size := fun x hx => hW'.lt x (by simp [hx])
  have lt1 : ∀ x ∈ p1, x.block < W.heap.size := fun x hx => hW'.lt x (by simp [hx])
  refine (LGrants x0 x1 _ _ n2 W hx0 hx1 ⟨env_of hL hSh⟩ hn2).mono fun e W' ⟨he, ⟨hb⟩⟩ => ?_
  subst he
  exact ⟨_, rfl, _, _, _, [], _, [], hW', trodAll_mk1 (shut_bool Tryz.underlying4 _), trodAll_mk3 (Below.trod laid_out (by kernel_rfl) (of_decide_eq_true (by kernel_rfl)) k0 hb lt0) (Below.trod laid_out (by kernel_rfl) (of_decide_eq_true (by kernel_rfl)) k1 hb lt1) (shut_int Tryz.underlying102 hw2), rfl, hb.frame _, fun h => by cases h⟩
theorem holds14 : Go.Proofs.YtbfbepnkofampaaGreatDoor.Rows.RegisterGrantsSaid :=
  OpenClaim.holds_of_wide 14 Tryz.f14 rfl rfl rfl rfl rfl rfl rfl ⟨rfl, rfl, rfl, rfl, rfl⟩ rfl rfl rfl rfl rfl (by kernel_rfl) Tryz.func14 closed14
    (of_decide_eq_true (by kernel_rfl)) (by unfold Func.isWrapper; first | (rw [if_pos (by decide +kernel)]; kernel_rfl) | (rw [if_neg (by decide +kernel)]; exact ⟨rfl, rfl⟩))
    (fun os started H enc _ => lifted14 os started H enc)
theorem registerGrants_holds : Go.Proofs.YtbfbepnkofampaaGreatDoor.Rows.RegisterGrantsCardSaid :=
  Claim7.holds_tied_plain_at .later [] [.data, .data, .data, .data, .sentinel, .sentinel, .pinned] true (true, "4970e1223911c70aa7bcdc0bdc6bbce8f6a3c11b3c24a4250f4776a5114b5b9d") true
    holds14 (fun _ h => by cases h) wf14 (fun _ h => by cases h) Go.Proofs.YtbfbepnkofampaaGreatDoor.registerGrants_row_tie rfl ⟨rfl, rfl⟩ mainP rfl
    (fun f fn hf hfn => by
      obtain rfl : f = 14 := Option.some.inj (fm14.symm.trans hf) |>.symm
      obtain rfl : fn = Tryz.f14 := (Option.some.inj (Tryz.func14.symm.trans hfn)).symm
      exact ⟨looksP, fun j t ht => by
        rw [Tryz.params14] at ht
        have hm : t ∈ ([28, 31, 102] : List TypeId) := by simpa using Array.mem_of_getElem? ht
        have hall : (([28, 31, 102] : List TypeId).all fun u => !Tryz.prog.wantsStandIn u) = true := by kernel_rfl
        exact (show Tryz.prog.wantsStandIn t = false by simpa using List.all_eq_true.1 hall t hm)⟩)
    gs14
#print axioms registerGrants_holds
end Go.Proofs.YtbfbepnkofampaaGreatDoor
end
