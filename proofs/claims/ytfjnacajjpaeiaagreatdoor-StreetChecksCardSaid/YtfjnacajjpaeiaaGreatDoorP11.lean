/- Chapter 03: contracts of functions of the program and of the reference, and plain laws (out of SQ5). No condition of its own. -/
import Derived.BigQuiet
import Derived.Deep.AppendLies
import Derived.Deep.Draws
import Derived.Deep.LoopGhost
import Derived.Deep.QuietTactic
import Derived.Deep.RegionHeld3
import Derived.Laws.RangeAny
import Derived.Laws.StructEq
import Derived.Lib.AtoiAll
import Derived.Lib.Hide
import Derived.Lib.ItoaMem
import Derived.Lib.SliceRun
import Derived.Lib.Split
import Derived.Maps.AppendAt
import Derived.OrdersHeld
import Derived.Shelf.Abstract
import Derived.Test.YtfjnacajjpaeiaaGreatDoorProg
import Derived.WalkKit
import Derived.WalkLawsBesides
import Derived.WalkSpells
import Derived.Test.YtfjnacajjpaeiaaGreatDoorP01
import Derived.Test.YtfjnacajjpaeiaaGreatDoorP02
import Derived.Test.YtfjnacajjpaeiaaGreatDoorP03
import Derived.Test.YtfjnacajjpaeiaaGreatDoorP04
import Derived.Test.YtfjnacajjpaeiaaGreatDoorP05
import Derived.Test.YtfjnacajjpaeiaaGreatDoorP09
import Derived.Test.YtfjnacajjpaeiaaGreatDoorP10
set_option maxRecDepth 100000
set_option linter.unusedSimpArgs false
set_option linter.unusedVariables false
section
namespace Go.St
open Go Go.Bp Go.RowKit Go.Proofs
set_option maxHeartbeats 16000000 in
theorem part_any (W0 : World) (p : Value) (g o cap : Nat) (xs0 : List (Int × Int)) (hcmp : CmpQ W0 g p) (a b pv : Nat) (w : World) (hS : Sw W0 113 g o cap xs0 w) (hl : xs0.length ≤ 1000000) (hb : b ≤ xs0.length) (hp1 : a ≤ pv) (hp2 : pv < b) :
  Calls Tryz.prog 145 #[.slice (some ⟨g, o, none⟩) xs0.length cap, .int .i64 a, .int .i64 b, .int .i64 pv, .func (.func 97) #[p] #[]] w (fun e w' => Sw W0 113 g o cap xs0 w' ∧ ∃ (d : Nat) (c : Bool), e = .returned (.tuple #[.int .i64 d, .bool c]) ∧ a ≤ d ∧ d < b) := by
 obtain ⟨wr, hwr⟩ : ∃ W, W = w := ⟨_, rfl⟩
 have hSr := hS
 rw [← hwr] at hSr
 have q1 : a < xs0.length := by omega
 have q2 : pv < xs0.length := by omega
 have z1 : (a : Int) < (xs0.length : Int) := by omega
 have z2 : (pv : Int) < (xs0.length : Int) := by omega
 obtain ⟨hg, cur, xs, hR, hp⟩ := hSr
 have hlen := hp.length_eq
 have hix : a < xs.length := by omega
 have hjx : pv < xs.length := by omega
 have hi2 := hR.at_ hix
 have hj2 := hR.at_ hjx
 obtain ⟨x, hx⟩ : ∃ x, xs[a] = x := ⟨_, rfl⟩
 obtain ⟨y, hy⟩ : ∃ y, xs[pv] = y := ⟨_, rfl⟩
 rw [hx] at hi2; rw [hy] at hj2
 have f1 := hR.lt2 hix; have f2 := hR.lt2 hjx
 have hB := hR.blk
 have Hput : Hid (∀ W1 W2, Blk W1 g 113 (putAt cur (o + (a) * 2) [.int .i64 y.1, .int .i64 y.2]) → wr.grownBy W1 (some g) → Blk W2 g 113 (putAt (putAt cur (o + (a) * 2) [.int .i64 y.1, .int .i64 y.2]) (o + (pv) * 2) [.int .i64 x.1, .int .i64 x.2]) → W1.grownBy W2 (some g) → Sw W0 113 g o cap xs0 W2) := Lib.hid (by intro W1 W2 h1 h2 h3 h4; subst hx hy; exact Sw.put2 hg hR hp hix hjx h1 h2 h3 h4)
 have hmA : True := trivial
 rw [← hwr]
 clear hwr hS
 go_enter Tryz.func145, Tryz.ntmps145
 go_wp2
 apply wp_cut0 (R := fun w' => Sw W0 113 g o cap xs0 w')
 case h =>
  have hBd := hB.d; have hi2d := hi2.d; have hj2d := hj2.d
  refine wp_rt (.take 0 (.take 1 (.take 2 (.take 3 (.take 4 (.take 5 (.take 6 (.take 8 (.take 9 (.take 10 (.two 7 (.one 11 (.take 12 (.one 13 (.take 14 (.one 15 .nil))))) 11 (.one 7 (.take 12 (.one 13 (.take 14 (.one 15 .nil)))))))))))))))) (fun w' => True) ?_ (fun hHeld => ?_)
  ·exact True.intro
  repeat' first | ((with_reducible refine t_tk ?_); (refine tk (v := ?_) ?_ hHeld ?_; rotate_left; (· (intro wq hSw; (try dsimp only at hSw); go_simp; (try with_reducible rfl))); (try simp only [pS]))) | ((with_reducible refine t_on ?_); refine t_one (by simp only [gS]; rfl) ?_) | ((with_reducible refine t_tw ?_); refine t_two (by simp only [gS]; rfl) (by simp only [gS]; rfl) ?_ ?_) | ((with_reducible refine q_gd (d := some 21) ?_); (((with_reducible refine q_load (d := some 21) (hl := ld_stand hj2d) ?_ ?_); rfl))) | ((with_reducible refine q_gd (d := some 25) ?_); (((with_reducible refine q_load (d := some 25) (hl := ld_stand hi2d) ?_ ?_); rfl))) | ((with_reducible refine q_gd (d := none) ?_); ((first | ((with_reducible refine q_store (t := 113) (e := 113) (g := g) (off := o + pv * 2) (n := 2) (v := .agg #[.int .i64 x.1, .int .i64 x.2]) ?_ ?_ hB1 sizeStand ?_ ?_ ?_ ?_); rfl; rfl; rfl; (rw [size_putAt (by exact f1)]; exact f2); (simp [Value.cells, Value.oneCell']); intro W2 hB2 hg2) | ((with_reducible refine q_store (t := 113) (e := 113) (g := g) (off := o + a * 2) (n := 2) (v := .agg #[.int .i64 y.1, .int .i64 y.2]) ?_ ?_ hBd sizeStand ?_ ?_ ?_ ?_); rfl; rfl; rfl; exact f1; (simp [Value.cells, Value.oneCell']); intro W1 hB1 hg1; replace hg1 := grown_undrew hg1)))) | ((with_reducible refine q_nl ?_); clear hHeld; refine t_next ?_ (fun hHeld => ?_); (· exact True.intro); (try simp only [pS])) | (with_reducible refine t_done ?_)
  all_goals exact ⟨rfl, rfl, Hput.out _ _ hB1 hg1 hB2 hg2⟩
 case k =>
  intro Wp hSr
  obtain ⟨i0, hi0⟩ : ∃ i : Nat, i = a + 1 := ⟨_, rfl⟩
  obtain ⟨j0, hj0⟩ : ∃ i : Nat, i = b - 1 := ⟨_, rfl⟩
  have wi0 : IntKind.i64.wrap ((a : Int) + 1) = (i0 : Int) := by rw [wrapI (by omega) (by omega)]; omega
  have wj0 : IntKind.i64.wrap ((b : Int) - 1) = (j0 : Int) := by rw [wrapI (by omega) (by omega)]; omega
  have hf0 : a + 1 ≤ i0 ∧ i0 ≤ b ∧ a ≤ j0 ∧ j0 + 1 ≤ b ∧ i0 ≤ j0 + 2 := by omega
  clear hi0 hj0
  go_wp2
  clear Hput hi2 hj2 hB hR hg hx hy hp f1 f2 z2 q2 wi0 wj0
  go_loopw [12] (fun vi wr => Sw W0 113 g o cap xs0 wr ∧ ∃ i : Nat, vi = .int .i64 i ∧ i0 ≤ i ∧ (i0 ≤ j0 + 1 → i ≤ j0 + 1)) (fun vi _ => j0 + 2 - (intOf vi).toNat)
  case atStart => exact ⟨hSr, i0, by first | rfl | go_num, by omega, by omega⟩
  case round =>
   obtain ⟨hSr, i, rfl, ha1, ha4⟩ := hrel
   by_cases hle : i ≤ j0
   ·have hzz : (i : Int) ≤ (j0 : Int) := by omega
    have q3 : i < xs0.length := by omega
    have z3 : (i : Int) < (xs0.length : Int) := by omega
    have Hi := Lib.hid (⟨hf0, ha1, ha4, hle⟩ : (_ ∧ _ ∧ _ ∧ _ ∧ _) ∧ _ ∧ _ ∧ _)
    clear hf0 ha1 ha4 hle
    obtain ⟨hg, cur, xs, hR, hp⟩ := hSr
    have hlen := hp.length_eq
    have hix : i < xs.length := by omega
    have hjx : a < xs.length := by omega
    have hi2 := hR.at_ hix
    have hj2 := hR.at_ hjx
    obtain ⟨x, hx⟩ : ∃ x, xs[i] = x := ⟨_, rfl⟩
    obtain ⟨y, hy⟩ : ∃ y, xs[a] = y := ⟨_, rfl⟩
    rw [hx] at hi2; rw [hy] at hj2
    have f1 := hR.lt2 hix; have f2 := hR.lt2 hjx
    have hB := hR.blk
    have Hput : Hid (∀ W1 W2, Blk W1 g 113 (putAt cur (o + (i) * 2) [.int .i64 y.1, .int .i64 y.2]) → wr.grownBy W1 (some g) → Blk W2 g 113 (putAt (putAt cur (o + (i) * 2) [.int .i64 y.1, .int .i64 y.2]) (o + (a) * 2) [.int .i64 x.1, .int .i64 x.2]) → W1.grownBy W2 (some g) → Sw W0 113 g o cap xs0 W2) := Lib.hid (by intro W1 W2 h1 h2 h3 h4; subst hx hy; exact Sw.put2 hg hR hp hix hjx h1 h2 h3 h4)
    have hmA : True := trivial
    go_wp2
    have hX := Ext.todrew (Ext.refl wr)
    refine wp_rt (.take 0 (.take 1 (.take 2 (.take 3 (.take 4 (.take 5 (.take 6 (.take 7 (.take 8 (.take 9 (.take 10 (.take 11 (.take 12 (.one 13 (.take 14 (.take 15 .nil)))))))))))))))) (fun w' => Ext wr w') ?_ (fun hHeld => ?_)
    ·assumption
    repeat' first | ((with_reducible refine t_tk ?_); first | ((with_reducible refine t_tk (i := 2) ?_); refine tk (v := .bool true) ?_ hHeld ?_; (· (intro wq hSw; go_simp; first | done | omega | (simp; omega))); (try simp only [pS])) | ((with_reducible refine t_tk (i := 8) ?_); refine tw (v := .agg #[.int .i64 x.1, .int .i64 x.2]) ?_ hHeld ?_; (· exact run_ld (by rfl) (fun W h => ld_stand (hi2.ext h))); (try simp only [pS])) | ((with_reducible refine t_tk (i := 12) ?_); refine tw (v := .agg #[.int .i64 y.1, .int .i64 y.2]) ?_ hHeld ?_; (· exact run_ld (by rfl) (fun W h => ld_stand (hj2.ext h))); (try simp only [pS])) | (refine tk (v := ?_) ?_ hHeld ?_; rotate_left; (· (intro wq hSw; (try dsimp only at hSw); go_simp; (try with_reducible rfl))); (try simp only [pS])) | (refine tw (v := ?_) ?_ hHeld ?_; rotate_left; (· (intro wq hSw; (try dsimp only at hSw); go_simp; (try with_reducible rfl))); (try simp only [pS]))) | ((with_reducible refine t_on ?_); refine t_one (by simp only [gS]; rfl) ?_) | ((with_reducible refine q_gd (d := some 45) ?_); ((refine q_callG (by rfl) (hcmp _ (grown_then hg hX) x y) (by go_simp) ?_; rintro e Wc ⟨⟨r, rfl⟩, hEc⟩; refine ⟨_, rfl, ?_⟩; have hXc := hX.trans hEc; obtain ⟨bb, hbb⟩ : ∃ b, decide (r < 0) = b := ⟨_, rfl⟩))) | ((with_reducible refine q_nl ?_); clear hHeld; refine t_next ?_ (fun hHeld => ?_); (· assumption); (try simp only [pS])) | (with_reducible refine t_done ?_)
    have hSr := Sw.ext (⟨hg, cur, xs, hR, hp⟩ : Sw W0 113 g o cap xs0 wr) hXc
    clear hX hXc hi2 hj2 hB hR Hput hg hx hy hp f1 f2 hmA
    generalize Wc = wr at hSr ⊢
    cases bb
    ·obtain ⟨hf0, ha1, ha4, hle⟩ := Hi.out
     clear Hi
     go_wp2
     go_loopw [13] (fun vj wr => Sw W0 113 g o cap xs0 wr ∧ ∃ j : Nat, vj = .int .i64 j ∧ a ≤ j ∧ j ≤ j0 ∧ (i ≤ j0 + 1 → i ≤ j + 1)) (fun vj _ => (intOf vj).toNat)
     case atStart => exact ⟨hSr, j0, by first | rfl | go_num, by omega, by omega, by omega⟩
     case round =>
      obtain ⟨hSr, j, rfl, b1, b2, b3⟩ := hrel
      by_cases hle2 : i ≤ j
      ·have hz2 : (i : Int) ≤ (j : Int) := by omega
       have q4 : j < xs0.length := by omega
       have z4 : (j : Int) < (xs0.length : Int) := by omega
       have j1 : 1 ≤ j := by omega
       have HI := Lib.hid (⟨hf0, ha1, b1, b2, b3, hle2⟩ : (_ ∧ _ ∧ _ ∧ _ ∧ _) ∧ _ ∧ _ ∧ _ ∧ _ ∧ _)
       clear hf0 ha1 ha4 b1 b2 b3 hle2 hzz
       obtain ⟨hg, cur, xs, hR, hp⟩ := hSr
       have hlen := hp.length_eq
       have hix : j < xs.length := by omega
       have hjx : a < xs.length := by omega
       have hi2 := hR.at_ hix
       have hj2 := hR.at_ hjx
       obtain ⟨x, hx⟩ : ∃ x, xs[j] = x := ⟨_, rfl⟩
       obtain ⟨y, hy⟩ : ∃ y, xs[a] = y := ⟨_, rfl⟩
       rw [hx] at hi2; rw [hy] at hj2
       have f1 := hR.lt2 hix; have f2 := hR.lt2 hjx
       have hB := hR.blk
       have Hput : Hid (∀ W1 W2, Blk W1 g 113 (putAt cur (o + (j) * 2) [.int .i64 y.1, .int .i64 y.2]) → wr.grownBy W1 (some g) → Blk W2 g 113 (putAt (putAt cur (o + (j) * 2) [.int .i64 y.1, .int .i64 y.2]) (o + (a) * 2) [.int .i64 x.1, .int .i64 x.2]) → W1.grownBy W2 (some g) → Sw W0 113 g o cap xs0 W2) := Lib.hid (by intro W1 W2 h1 h2 h3 h4; subst hx hy; exact Sw.put2 hg hR hp hix hjx h1 h2 h3 h4)
       have hmA : True := trivial
       go_wp2
       have hX := Ext.todrew (Ext.refl wr)
       refine wp_rt (.take 0 (.take 1 (.take 2 (.take 3 (.take 4 (.take 5 (.take 6 (.take 7 (.take 8 (.take 9 (.take 10 (.take 11 (.take 12 (.one 13 (.take 14 (.take 15 (.take 16 .nil))))))))))))))))) (fun w' => Ext wr w') ?_ (fun hHeld => ?_)
       ·assumption
       repeat' first | ((with_reducible refine t_tk ?_); first | ((with_reducible refine t_tk (i := 2) ?_); refine tk (v := .bool true) ?_ hHeld ?_; (· (intro wq hSw; go_simp; first | done | omega | (simp; omega))); (try simp only [pS])) | ((with_reducible refine t_tk (i := 8) ?_); refine tw (v := .agg #[.int .i64 x.1, .int .i64 x.2]) ?_ hHeld ?_; (· exact run_ld (by rfl) (fun W h => ld_stand (hi2.ext h))); (try simp only [pS])) | ((with_reducible refine t_tk (i := 12) ?_); refine tw (v := .agg #[.int .i64 y.1, .int .i64 y.2]) ?_ hHeld ?_; (· exact run_ld (by rfl) (fun W h => ld_stand (hj2.ext h))); (try simp only [pS])) | (refine tk (v := ?_) ?_ hHeld ?_; rotate_left; (· (intro wq hSw; (try dsimp only at hSw); go_simp; (try with_reducible rfl))); (try simp only [pS])) | (refine tw (v := ?_) ?_ hHeld ?_; rotate_left; (· (intro wq hSw; (try dsimp only at hSw); go_simp; (try with_reducible rfl))); (try simp only [pS]))) | ((with_reducible refine t_on ?_); refine t_one (by simp only [gS]; rfl) ?_) | ((with_reducible refine q_gd (d := some 63) ?_); ((refine q_callG (by rfl) (hcmp _ (grown_then hg hX) x y) (by go_simp) ?_; rintro e Wc ⟨⟨r, rfl⟩, hEc⟩; refine ⟨_, rfl, ?_⟩; have hXc := hX.trans hEc; obtain ⟨bb, hbb⟩ : ∃ b, decide (r < 0) = b := ⟨_, rfl⟩))) | ((with_reducible refine q_nl ?_); clear hHeld; refine t_next ?_ (fun hHeld => ?_); (· assumption); (try simp only [pS])) | (with_reducible refine t_done ?_)
       have hSr := Sw.ext (⟨hg, cur, xs, hR, hp⟩ : Sw W0 113 g o cap xs0 wr) hXc
       clear hX hXc hi2 hj2 hB hR Hput hg hx hy hp f1 f2 hmA
       generalize Wc = wr at hSr ⊢
       cases bb
       rotate_left
       ·clear hbb
        have hgt : ¬ ((j : Int) < (i : Int)) := by omega
        go_wp2
        obtain ⟨⟨e1, e2, e3, e4, e5⟩, e6, b1, b2, b3, hle2⟩ := HI.out
        clear HI
        have q3 : i < xs0.length := by omega
        have z3 : (i : Int) < (xs0.length : Int) := by omega
        obtain ⟨hg, cur, xs, hR, hp⟩ := hSr
        have hlen := hp.length_eq
        have hix : i < xs.length := by omega
        have hjx : j < xs.length := by omega
        have hi2 := hR.at_ hix
        have hj2 := hR.at_ hjx
        obtain ⟨x, hx⟩ : ∃ x, xs[i] = x := ⟨_, rfl⟩
        obtain ⟨y, hy⟩ : ∃ y, xs[j] = y := ⟨_, rfl⟩
        rw [hx] at hi2; rw [hy] at hj2
        have f1 := hR.lt2 hix; have f2 := hR.lt2 hjx
        have hB := hR.blk
        have Hput : Hid (∀ W1 W2, Blk W1 g 113 (putAt cur (o + (i) * 2) [.int .i64 y.1, .int .i64 y.2]) → wr.grownBy W1 (some g) → Blk W2 g 113 (putAt (putAt cur (o + (i) * 2) [.int .i64 y.1, .int .i64 y.2]) (o + (j) * 2) [.int .i64 x.1, .int .i64 x.2]) → W1.grownBy W2 (some g) → Sw W0 113 g o cap xs0 W2) := Lib.hid (by intro W1 W2 h1 h2 h3 h4; subst hx hy; exact Sw.put2 hg hR hp hix hjx h1 h2 h3 h4)
        have hmA : True := trivial
        apply wp_cut0 (R := fun w' => Sw W0 113 g o cap xs0 w')
        case h =>
         have hBd := hB.d; have hi2d := hi2.d; have hj2d := hj2.d
         refine wp_rt (.take 0 (.take 1 (.take 2 (.take 3 (.take 4 (.take 5 (.take 6 (.take 8 (.take 9 (.take 10 (.two 7 (.one 11 (.take 12 (.one 13 (.take 14 (.one 15 .nil))))) 11 (.one 7 (.take 12 (.one 13 (.take 14 (.one 15 .nil)))))))))))))))) (fun w' => True) ?_ (fun hHeld => ?_)
         ·exact True.intro
         repeat' first | ((with_reducible refine t_tk ?_); (refine tk (v := ?_) ?_ hHeld ?_; rotate_left; (· (intro wq hSw; (try dsimp only at hSw); go_simp; (try with_reducible rfl))); (try simp only [pS]))) | ((with_reducible refine t_on ?_); refine t_one (by simp only [gS]; rfl) ?_) | ((with_reducible refine t_tw ?_); refine t_two (by simp only [gS]; rfl) (by simp only [gS]; rfl) ?_ ?_) | ((with_reducible refine q_gd (d := some 94) ?_); (((with_reducible refine q_load (d := some 94) (hl := ld_stand hj2d) ?_ ?_); rfl))) | ((with_reducible refine q_gd (d := some 98) ?_); (((with_reducible refine q_load (d := some 98) (hl := ld_stand hi2d) ?_ ?_); rfl))) | ((with_reducible refine q_gd (d := none) ?_); ((first | ((with_reducible refine q_store (t := 113) (e := 113) (g := g) (off := o + j * 2) (n := 2) (v := .agg #[.int .i64 x.1, .int .i64 x.2]) ?_ ?_ hB1 sizeStand ?_ ?_ ?_ ?_); rfl; rfl; rfl; (rw [size_putAt (by exact f1)]; exact f2); (simp [Value.cells, Value.oneCell']); intro W2 hB2 hg2) | ((with_reducible refine q_store (t := 113) (e := 113) (g := g) (off := o + i * 2) (n := 2) (v := .agg #[.int .i64 y.1, .int .i64 y.2]) ?_ ?_ hBd sizeStand ?_ ?_ ?_ ?_); rfl; rfl; rfl; exact f1; (simp [Value.cells, Value.oneCell']); intro W1 hB1 hg1; replace hg1 := grown_undrew hg1)))) | ((with_reducible refine q_nl ?_); clear hHeld; refine t_next ?_ (fun hHeld => ?_); (· exact True.intro); (try simp only [pS])) | (with_reducible refine t_done ?_)
         all_goals exact ⟨rfl, rfl, Hput.out _ _ hB1 hg1 hB2 hg2⟩
        case k =>
         intro Wq hSw
         go_wp2
         clear Hput hi2 hj2 hB hR hg hx hy hp f1 f2
         go_loopw [12, 13] (fun vi vj wr => Sw W0 113 g o cap xs0 wr ∧ ∃ i j : Nat, vi = .int .i64 i ∧ vj = .int .i64 j ∧ a + 1 ≤ i ∧ i ≤ b ∧ a ≤ j ∧ j + 1 ≤ b ∧ i ≤ j + 2) (fun vi vj _ => (intOf vj + 2 - intOf vi).toNat)
         case atStart => exact ⟨hSw, i + 1, j - 1, by go_num, by go_num, by omega, by omega, by omega, by omega, by omega⟩
         case round =>
          clear hSr hSw q3 q4 z3 z4 hgt hz2 j1 e1 e2 e3 e4 e5 e6 b1 b2 b3 hle2
          obtain ⟨hSr, i0, j0, rfl, rfl, hf0⟩ := hrel
          go_wp2
          go_loopw [12] (fun vi wr => Sw W0 113 g o cap xs0 wr ∧ ∃ i : Nat, vi = .int .i64 i ∧ i0 ≤ i ∧ (i0 ≤ j0 + 1 → i ≤ j0 + 1)) (fun vi _ => j0 + 2 - (intOf vi).toNat)
          case atStart => exact ⟨hSr, i0, by first | rfl | go_num, by omega, by omega⟩
          case round =>
           obtain ⟨hSr, i, rfl, ha1, ha4⟩ := hrel
           by_cases hle : i ≤ j0
           ·have hzz : (i : Int) ≤ (j0 : Int) := by omega
            have q3 : i < xs0.length := by omega
            have z3 : (i : Int) < (xs0.length : Int) := by omega
            have Hi := Lib.hid (⟨hf0, ha1, ha4, hle⟩ : (_ ∧ _ ∧ _ ∧ _ ∧ _) ∧ _ ∧ _ ∧ _)
            clear hf0 ha1 ha4 hle
            obtain ⟨hg, cur, xs, hR, hp⟩ := hSr
            have hlen := hp.length_eq
            have hix : i < xs.length := by omega
            have hjx : a < xs.length := by omega
            have hi2 := hR.at_ hix
            have hj2 := hR.at_ hjx
            obtain ⟨x, hx⟩ : ∃ x, xs[i] = x := ⟨_, rfl⟩
            obtain ⟨y, hy⟩ : ∃ y, xs[a] = y := ⟨_, rfl⟩
            rw [hx] at hi2; rw [hy] at hj2
            have f1 := hR.lt2 hix; have f2 := hR.lt2 hjx
            have hB := hR.blk
            have Hput : Hid (∀ W1 W2, Blk W1 g 113 (putAt cur (o + (i) * 2) [.int .i64 y.1, .int .i64 y.2]) → wr.grownBy W1 (some g) → Blk W2 g 113 (putAt (putAt cur (o + (i) * 2) [.int .i64 y.1, .int .i64 y.2]) (o + (a) * 2) [.int .i64 x.1, .int .i64 x.2]) → W1.grownBy W2 (some g) → Sw W0 113 g o cap xs0 W2) := Lib.hid (by intro W1 W2 h1 h2 h3 h4; subst hx hy; exact Sw.put2 hg hR hp hix hjx h1 h2 h3 h4)
            have hmA : True := trivial
            go_wp2
            have hX := Ext.todrew (Ext.refl wr)
            refine wp_rt (.take 0 (.take 1 (.take 2 (.take 3 (.take 4 (.take 5 (.take 6 (.take 7 (.take 8 (.take 9 (.take 10 (.take 11 (.take 12 (.one 13 (.take 14 (.take 15 .nil)))))))))))))))) (fun w' => Ext wr w') ?_ (fun hHeld => ?_)
            ·assumption
            repeat' first | ((with_reducible refine t_tk ?_); first | ((with_reducible refine t_tk (i := 2) ?_); refine tk (v := .bool true) ?_ hHeld ?_; (· (intro wq hSw; go_simp; first | done | omega | (simp; omega))); (try simp only [pS])) | ((with_reducible refine t_tk (i := 8) ?_); refine tw (v := .agg #[.int .i64 x.1, .int .i64 x.2]) ?_ hHeld ?_; (· exact run_ld (by rfl) (fun W h => ld_stand (hi2.ext h))); (try simp only [pS])) | ((with_reducible refine t_tk (i := 12) ?_); refine tw (v := .agg #[.int .i64 y.1, .int .i64 y.2]) ?_ hHeld ?_; (· exact run_ld (by rfl) (fun W h => ld_stand (hj2.ext h))); (try simp only [pS])) | (refine tk (v := ?_) ?_ hHeld ?_; rotate_left; (· (intro wq hSw; (try dsimp only at hSw); go_simp; (try with_reducible rfl))); (try simp only [pS])) | (refine tw (v := ?_) ?_ hHeld ?_; rotate_left; (· (intro wq hSw; (try dsimp only at hSw); go_simp; (try with_reducible rfl))); (try simp only [pS]))) | ((with_reducible refine t_on ?_); refine t_one (by simp only [gS]; rfl) ?_) | ((with_reducible refine q_gd (d := some 118) ?_); ((refine q_callG (by rfl) (hcmp _ (grown_then hg hX) x y) (by go_simp) ?_; rintro e Wc ⟨⟨r, rfl⟩, hEc⟩; refine ⟨_, rfl, ?_⟩; have hXc := hX.trans hEc; obtain ⟨bb, hbb⟩ : ∃ b, decide (r < 0) = b := ⟨_, rfl⟩))) | ((with_reducible refine q_nl ?_); clear hHeld; refine t_next ?_ (fun hHeld => ?_); (· assumption); (try simp only [pS])) | (with_reducible refine t_done ?_)
            have hSr := Sw.ext (⟨hg, cur, xs, hR, hp⟩ : Sw W0 113 g o cap xs0 wr) hXc
            clear hX hXc hi2 hj2 hB hR Hput hg hx hy hp f1 f2 hmA
            generalize Wc = wr at hSr ⊢
            cases bb
            ·obtain ⟨hf0, ha1, ha4, hle⟩ := Hi.out
             clear Hi
             go_wp2
             go_loopw [13] (fun vj wr => Sw W0 113 g o cap xs0 wr ∧ ∃ j : Nat, vj = .int .i64 j ∧ a ≤ j ∧ j ≤ j0 ∧ (i ≤ j0 + 1 → i ≤ j + 1)) (fun vj _ => (intOf vj).toNat)
             case atStart => exact ⟨hSr, j0, by first | rfl | go_num, by omega, by omega, by omega⟩
             case round =>
              obtain ⟨hSr, j, rfl, b1, b2, b3⟩ := hrel
              by_cases hle2 : i ≤ j
              ·have hz2 : (i : Int) ≤ (j : Int) := by omega
               have q4 : j < xs0.length := by omega
               have z4 : (j : Int) < (xs0.length : Int) := by omega
               have j1 : 1 ≤ j := by omega
               have HI := Lib.hid (⟨hf0, ha1, b1, b2, b3, hle2⟩ : (_ ∧ _ ∧ _ ∧ _ ∧ _) ∧ _ ∧ _ ∧ _ ∧ _ ∧ _)
               clear hf0 ha1 ha4 b1 b2 b3 hle2 hzz
               obtain ⟨hg, cur, xs, hR, hp⟩ := hSr
               have hlen := hp.length_eq
               have hix : j < xs.length := by omega
               have hjx : a < xs.length := by omega
               have hi2 := hR.at_ hix
               have hj2 := hR.at_ hjx
               obtain ⟨x, hx⟩ : ∃ x, xs[j] = x := ⟨_, rfl⟩
               obtain ⟨y, hy⟩ : ∃ y, xs[a] = y := ⟨_, rfl⟩
               rw [hx] at hi2; rw [hy] at hj2
               have f1 := hR.lt2 hix; have f2 := hR.lt2 hjx
               have hB := hR.blk
               have Hput : Hid (∀ W1 W2, Blk W1 g 113 (putAt cur (o + (j) * 2) [.int .i64 y.1, .int .i64 y.2]) → wr.grownBy W1 (some g) → Blk W2 g 113 (putAt (putAt cur (o + (j) * 2) [.int .i64 y.1, .int .i64 y.2]) (o + (a) * 2) [.int .i64 x.1, .int .i64 x.2]) → W1.grownBy W2 (some g) → Sw W0 113 g o cap xs0 W2) := Lib.hid (by intro W1 W2 h1 h2 h3 h4; subst hx hy; exact Sw.put2 hg hR hp hix hjx h1 h2 h3 h4)
               have hmA : True := trivial
               go_wp2
               have hX := Ext.todrew (Ext.refl wr)
               refine wp_rt (.take 0 (.take 1 (.take 2 (.take 3 (.take 4 (.take 5 (.take 6 (.take 7 (.take 8 (.take 9 (.take 10 (.take 11 (.take 12 (.one 13 (.take 14 (.take 15 (.take 16 .nil))))))))))))))))) (fun w' => Ext wr w') ?_ (fun hHeld => ?_)
               ·assumption
               repeat' first | ((with_reducible refine t_tk ?_); first | ((with_reducible refine t_tk (i := 2) ?_); refine tk (v := .bool true) ?_ hHeld ?_; (· (intro wq hSw; go_simp; first | done | omega | (simp; omega))); (try simp only [pS])) | ((with_reducible refine t_tk (i := 8) ?_); refine tw (v := .agg #[.int .i64 x.1, .int .i64 x.2]) ?_ hHeld ?_; (· exact run_ld (by rfl) (fun W h => ld_stand (hi2.ext h))); (try simp only [pS])) | ((with_reducible refine t_tk (i := 12) ?_); refine tw (v := .agg #[.int .i64 y.1, .int .i64 y.2]) ?_ hHeld ?_; (· exact run_ld (by rfl) (fun W h => ld_stand (hj2.ext h))); (try simp only [pS])) | (refine tk (v := ?_) ?_ hHeld ?_; rotate_left; (· (intro wq hSw; (try dsimp only at hSw); go_simp; (try with_reducible rfl))); (try simp only [pS])) | (refine tw (v := ?_) ?_ hHeld ?_; rotate_left; (· (intro wq hSw; (try dsimp only at hSw); go_simp; (try with_reducible rfl))); (try simp only [pS]))) | ((with_reducible refine t_on ?_); refine t_one (by simp only [gS]; rfl) ?_) | ((with_reducible refine q_gd (d := some 136) ?_); ((refine q_callG (by rfl) (hcmp _ (grown_then hg hX) x y) (by go_simp) ?_; rintro e Wc ⟨⟨r, rfl⟩, hEc⟩; refine ⟨_, rfl, ?_⟩; have hXc := hX.trans hEc; obtain ⟨bb, hbb⟩ : ∃ b, decide (r < 0) = b := ⟨_, rfl⟩))) | ((with_reducible refine q_nl ?_); clear hHeld; refine t_next ?_ (fun hHeld => ?_); (· assumption); (try simp only [pS])) | (with_reducible refine t_done ?_)
               have hSr := Sw.ext (⟨hg, cur, xs, hR, hp⟩ : Sw W0 113 g o cap xs0 wr) hXc
               clear hX hXc hi2 hj2 hB hR Hput hg hx hy hp f1 f2 hmA
               generalize Wc = wr at hSr ⊢
               cases bb
               rotate_left
               ·clear hbb
                have hgt : ¬ ((j : Int) < (i : Int)) := by omega
                go_wp2
                obtain ⟨⟨e1, e2, e3, e4, e5⟩, e6, b1, b2, b3, hle2⟩ := HI.out
                clear HI
                have q3 : i < xs0.length := by omega
                have z3 : (i : Int) < (xs0.length : Int) := by omega
                obtain ⟨hg, cur, xs, hR, hp⟩ := hSr
                have hlen := hp.length_eq
                have hix : i < xs.length := by omega
                have hjx : j < xs.length := by omega
                have hi2 := hR.at_ hix
                have hj2 := hR.at_ hjx
                obtain ⟨x, hx⟩ : ∃ x, xs[i] = x := ⟨_, rfl⟩
                obtain ⟨y, hy⟩ : ∃ y, xs[j] = y := ⟨_, rfl⟩
                rw [hx] at hi2; rw [hy] at hj2
                have f1 := hR.lt2 hix; have f2 := hR.lt2 hjx
                have hB := hR.blk
                have Hput : Hid (∀ W1 W2, Blk W1 g 113 (putAt cur (o + (i) * 2) [.int .i64 y.1, .int .i64 y.2]) → wr.grownBy W1 (some g) → Blk W2 g 113 (putAt (putAt cur (o + (i) * 2) [.int .i64 y.1, .int .i64 y.2]) (o + (j) * 2) [.int .i64 x.1, .int .i64 x.2]) → W1.grownBy W2 (some g) → Sw W0 113 g o cap xs0 W2) := Lib.hid (by intro W1 W2 h1 h2 h3 h4; subst hx hy; exact Sw.put2 hg hR hp hix hjx h1 h2 h3 h4)
                have hmA : True := trivial
                have hBd := hB.d; have hi2d := hi2.d; have hj2d := hj2.d
                refine wp_rt (.take 0 (.take 1 (.take 2 (.take 3 (.take 4 (.take 5 (.take 6 (.take 8 (.take 9 (.take 10 (.two 7 (.one 11 (.take 12 (.one 13 (.take 14 (.one 15 .nil))))) 11 (.one 7 (.take 12 (.one 13 (.take 14 (.one 15 .nil)))))))))))))))) (fun w' => True) ?_ (fun hHeld => ?_)
                ·exact True.intro
                repeat' first | ((with_reducible refine t_tk ?_); (refine tk (v := ?_) ?_ hHeld ?_; rotate_left; (· (intro wq hSw; (try dsimp only at hSw); go_simp; (try with_reducible rfl))); (try simp only [pS]))) | ((with_reducible refine t_on ?_); refine t_one (by simp only [gS]; rfl) ?_) | ((with_reducible refine t_tw ?_); refine t_two (by simp only [gS]; rfl) (by simp only [gS]; rfl) ?_ ?_) | ((with_reducible refine q_gd (d := some 152) ?_); (((with_reducible refine q_load (d := some 152) (hl := ld_stand hj2d) ?_ ?_); rfl))) | ((with_reducible refine q_gd (d := some 156) ?_); (((with_reducible refine q_load (d := some 156) (hl := ld_stand hi2d) ?_ ?_); rfl))) | ((with_reducible refine q_gd (d := none) ?_); ((first | ((with_reducible refine q_store (t := 113) (e := 113) (g := g) (off := o + j * 2) (n := 2) (v := .agg #[.int .i64 x.1, .int .i64 x.2]) ?_ ?_ hB1 sizeStand ?_ ?_ ?_ ?_); rfl; rfl; rfl; (rw [size_putAt (by exact f1)]; exact f2); (simp [Value.cells, Value.oneCell']); intro W2 hB2 hg2) | ((with_reducible refine q_store (t := 113) (e := 113) (g := g) (off := o + i * 2) (n := 2) (v := .agg #[.int .i64 y.1, .int .i64 y.2]) ?_ ?_ hBd sizeStand ?_ ?_ ?_ ?_); rfl; rfl; rfl; exact f1; (simp [Value.cells, Value.oneCell']); intro W1 hB1 hg1; replace hg1 := grown_undrew hg1)))) | ((with_reducible refine q_nl ?_); clear hHeld; refine t_next ?_ (fun hHeld => ?_); (· exact True.intro); (try simp only [pS])) | (with_reducible refine t_done ?_)
                all_goals
                 have hSw := Hput.out _ _ hB1 hg1 hB2 hg2
                 clear hB1 hB2 hg1 hg2 Hput hi2 hj2 hB hR hg hx hy hp f1 f2 hBd hi2d hj2d
                 go_wp2
                 go_roundw
                 case rel => exact ⟨hSw, i + 1, j - 1, by go_num, by go_num, by omega, by omega, by omega, by omega, by omega⟩
                 case measure => simp [intOf]; omega
               ·go_wp2
                go_roundw
                case rel => obtain ⟨⟨e1, e2, e3, e4, e5⟩, e6, b1, b2, b3, e10⟩ := HI.out; exact ⟨hSr, j - 1, by go_num, by omega, by omega, by omega⟩
                case measure => simp [intOf]; omega
              ·have hz2 : ¬ ((i : Int) ≤ (j : Int)) := by omega
               have hgt : (j : Int) < (i : Int) := by omega
               have q4 : j < xs0.length := by omega
               have z4 : (j : Int) < (xs0.length : Int) := by omega
               go_wp2
               have hX := Ext.todrew (Ext.refl wr)
               refine wp_rt (.take 0 (.take 1 (.take 2 (.take 3 (.take 4 (.take 5 (.take 6 (.take 7 (.take 8 (.take 9 (.take 10 (.take 11 (.take 12 (.one 13 (.take 14 (.take 15 (.take 16 .nil))))))))))))))))) (fun w' => Ext wr w') ?_ (fun hHeld => ?_)
               ·assumption
               repeat' first | ((with_reducible refine t_tk ?_); first | ((with_reducible refine t_tk (i := 2) ?_); refine tk (v := .bool false) ?_ hHeld ?_; (· (intro wq hSw; go_simp; first | done | omega | (simp; omega))); (try simp only [pS])) | (refine tk (v := ?_) ?_ hHeld ?_; rotate_left; (· (intro wq hSw; (try dsimp only at hSw); go_simp; (try with_reducible rfl))); (try simp only [pS])) | (refine ts hHeld ?_; (try simp only [pS]))) | ((with_reducible refine t_on ?_); refine t_one (by simp only [gS]; rfl) ?_) | ((with_reducible refine q_gd (d := some 136) ?_); refine q_skipG (by rfl) ?_) | ((with_reducible refine q_nl ?_); clear hHeld; refine t_next ?_ (fun hHeld => ?_); (· assumption); (try simp only [pS])) | (with_reducible refine t_done ?_)
               have hSr := Sw.ext hSr hX
               clear hX
               generalize wr.drew = wr at hSr ⊢
               go_wp2
               have HJ := Lib.hid (⟨b1, b2, hf0⟩ : _ ∧ _ ∧ _ ∧ _ ∧ _ ∧ _ ∧ _)
               obtain ⟨hg, cur, xs, hR, hp⟩ := hSr
               have hlen := hp.length_eq
               have hix : j < xs.length := by omega
               have hjx : a < xs.length := by omega
               have hi2 := hR.at_ hix
               have hj2 := hR.at_ hjx
               obtain ⟨x, hx⟩ : ∃ x, xs[j] = x := ⟨_, rfl⟩
               obtain ⟨y, hy⟩ : ∃ y, xs[a] = y := ⟨_, rfl⟩
               rw [hx] at hi2; rw [hy] at hj2
               have f1 := hR.lt2 hix; have f2 := hR.lt2 hjx
               have hB := hR.blk
               have Hput : Hid (∀ W1 W2, Blk W1 g 113 (putAt cur (o + (j) * 2) [.int .i64 y.1, .int .i64 y.2]) → wr.grownBy W1 (some g) → Blk W2 g 113 (putAt (putAt cur (o + (j) * 2) [.int .i64 y.1, .int .i64 y.2]) (o + (a) * 2) [.int .i64 x.1, .int .i64 x.2]) → W1.grownBy W2 (some g) → Sw W0 113 g o cap xs0 W2) := Lib.hid (by intro W1 W2 h1 h2 h3 h4; subst hx hy; exact Sw.put2 hg hR hp hix hjx h1 h2 h3 h4)
               have hmA : True := trivial
               have hBd := hB.d; have hi2d := hi2.d; have hj2d := hj2.d
               refine wp_rt (.take 0 (.take 1 (.take 2 (.take 3 (.take 4 (.take 5 (.take 6 (.take 8 (.take 9 (.take 10 (.two 7 (.one 11 (.take 12 (.one 13 (.take 14 (.one 15 .nil))))) 11 (.one 7 (.take 12 (.one 13 (.take 14 (.one 15 .nil)))))))))))))))) (fun w' => True) ?_ (fun hHeld => ?_)
               ·exact True.intro
               repeat' first | ((with_reducible refine t_tk ?_); (refine tk (v := ?_) ?_ hHeld ?_; rotate_left; (· (intro wq hSw; (try dsimp only at hSw); go_simp; (try with_reducible rfl))); (try simp only [pS]))) | ((with_reducible refine t_on ?_); refine t_one (by simp only [gS]; rfl) ?_) | ((with_reducible refine t_tw ?_); refine t_two (by simp only [gS]; rfl) (by simp only [gS]; rfl) ?_ ?_) | ((with_reducible refine q_gd (d := some 170) ?_); (((with_reducible refine q_load (d := some 170) (hl := ld_stand hj2d) ?_ ?_); rfl))) | ((with_reducible refine q_gd (d := some 174) ?_); (((with_reducible refine q_load (d := some 174) (hl := ld_stand hi2d) ?_ ?_); rfl))) | ((with_reducible refine q_gd (d := none) ?_); ((first | ((with_reducible refine q_store (t := 113) (e := 113) (g := g) (off := o + a * 2) (n := 2) (v := .agg #[.int .i64 x.1, .int .i64 x.2]) ?_ ?_ hB1 sizeStand ?_ ?_ ?_ ?_); rfl; rfl; rfl; (rw [size_putAt (by exact f1)]; exact f2); (simp [Value.cells, Value.oneCell']); intro W2 hB2 hg2) | ((with_reducible refine q_store (t := 113) (e := 113) (g := g) (off := o + j * 2) (n := 2) (v := .agg #[.int .i64 y.1, .int .i64 y.2]) ?_ ?_ hBd sizeStand ?_ ?_ ?_ ?_); rfl; rfl; rfl; exact f1; (simp [Value.cells, Value.oneCell']); intro W1 hB1 hg1; replace hg1 := grown_undrew hg1)))) | ((with_reducible refine q_nl ?_); clear hHeld; refine t_next ?_ (fun hHeld => ?_); (· exact True.intro); (try simp only [pS])) | (with_reducible refine t_done ?_)
               all_goals
                have hSw := Hput.out _ _ hB1 hg1 hB2 hg2
                clear hB1 hB2 hg1 hg2 Hput
                go_wp2
                go_ret2
                exact ⟨hSw, j, _, rfl, by omega, by omega⟩
            ·go_wp2
             go_roundw
             case rel => obtain ⟨⟨e1, e2, e3, e4, e5⟩, e6, e7, e8⟩ := Hi.out; exact ⟨hSr, i + 1, by go_num, by omega, by omega⟩
             case measure => obtain ⟨⟨e1, e2, e3, e4, e5⟩, e6, e7, e8⟩ := Hi.out; simp [intOf]; omega
           ·have hzz : ¬ ((i : Int) ≤ (j0 : Int)) := by omega
            go_wp2
            have hX := Ext.todrew (Ext.refl wr)
            refine wp_rt (.take 0 (.take 1 (.take 2 (.take 3 (.take 4 (.take 5 (.take 6 (.take 7 (.take 8 (.take 9 (.take 10 (.take 11 (.take 12 (.one 13 (.take 14 (.take 15 .nil)))))))))))))))) (fun w' => Ext wr w') ?_ (fun hHeld => ?_)
            ·assumption
            repeat' first | ((with_reducible refine t_tk ?_); first | ((with_reducible refine t_tk (i := 2) ?_); refine tk (v := .bool false) ?_ hHeld ?_; (· (intro wq hSw; go_simp; first | done | omega | (simp; omega))); (try simp only [pS])) | (refine tk (v := ?_) ?_ hHeld ?_; rotate_left; (· (intro wq hSw; (try dsimp only at hSw); go_simp; (try with_reducible rfl))); (try simp only [pS])) | (refine ts hHeld ?_; (try simp only [pS]))) | ((with_reducible refine t_on ?_); refine t_one (by simp only [gS]; rfl) ?_) | ((with_reducible refine q_gd (d := some 118) ?_); refine q_skipG (by rfl) ?_) | ((with_reducible refine q_nl ?_); clear hHeld; refine t_next ?_ (fun hHeld => ?_); (· assumption); (try simp only [pS])) | (with_reducible refine t_done ?_)
            have hSr := Sw.ext hSr hX
            clear hX
            go_wp2
            go_loopw [13] (fun vj wr => Sw W0 113 g o cap xs0 wr ∧ ∃ j : Nat, vj = .int .i64 j ∧ a ≤ j ∧ j ≤ j0 ∧ (i ≤ j0 + 1 → i ≤ j + 1)) (fun vj _ => (intOf vj).toNat)
            case atStart => exact ⟨hSr, j0, by first | rfl | go_num, by omega, by omega, by omega⟩
            case round =>
             obtain ⟨hSr, j, rfl, b1, b2, b3⟩ := hrel
             by_cases hle2 : i ≤ j
             ·have hz2 : (i : Int) ≤ (j : Int) := by omega
              have q4 : j < xs0.length := by omega
              have z4 : (j : Int) < (xs0.length : Int) := by omega
              have j1 : 1 ≤ j := by omega
              have HI := Lib.hid (⟨hf0, ha1, b1, b2, b3, hle2⟩ : (_ ∧ _ ∧ _ ∧ _ ∧ _) ∧ _ ∧ _ ∧ _ ∧ _ ∧ _)
              clear hf0 ha1 ha4 b1 b2 b3 hle2 hzz
              obtain ⟨hg, cur, xs, hR, hp⟩ := hSr
              have hlen := hp.length_eq
              have hix : j < xs.length := by omega
              have hjx : a < xs.length := by omega
              have hi2 := hR.at_ hix
              have hj2 := hR.at_ hjx
              obtain ⟨x, hx⟩ : ∃ x, xs[j] = x := ⟨_, rfl⟩
              obtain ⟨y, hy⟩ : ∃ y, xs[a] = y := ⟨_, rfl⟩
              rw [hx] at hi2; rw [hy] at hj2
              have f1 := hR.lt2 hix; have f2 := hR.lt2 hjx
              have hB := hR.blk
              have Hput : Hid (∀ W1 W2, Blk W1 g 113 (putAt cur (o + (j) * 2) [.int .i64 y.1, .int .i64 y.2]) → wr.grownBy W1 (some g) → Blk W2 g 113 (putAt (putAt cur (o + (j) * 2) [.int .i64 y.1, .int .i64 y.2]) (o + (a) * 2) [.int .i64 x.1, .int .i64 x.2]) → W1.grownBy W2 (some g) → Sw W0 113 g o cap xs0 W2) := Lib.hid (by intro W1 W2 h1 h2 h3 h4; subst hx hy; exact Sw.put2 hg hR hp hix hjx h1 h2 h3 h4)
              have hmA : True := trivial
              go_wp2
              have hX := Ext.todrew (Ext.refl wr)
              refine wp_rt (.take 0 (.take 1 (.take 2 (.take 3 (.take 4 (.take 5 (.take 6 (.take 7 (.take 8 (.take 9 (.take 10 (.take 11 (.take 12 (.one 13 (.take 14 (.take 15 (.take 16 .nil))))))))))))))))) (fun w' => Ext wr w') ?_ (fun hHeld => ?_)
              ·assumption
              repeat' first | ((with_reducible refine t_tk ?_); first | ((with_reducible refine t_tk (i := 2) ?_); refine tk (v := .bool true) ?_ hHeld ?_; (· (intro wq hSw; go_simp; first | done | omega | (simp; omega))); (try simp only [pS])) | ((with_reducible refine t_tk (i := 8) ?_); refine tw (v := .agg #[.int .i64 x.1, .int .i64 x.2]) ?_ hHeld ?_; (· exact run_ld (by rfl) (fun W h => ld_stand (hi2.ext h))); (try simp only [pS])) | ((with_reducible refine t_tk (i := 12) ?_); refine tw (v := .agg #[.int .i64 y.1, .int .i64 y.2]) ?_ hHeld ?_; (· exact run_ld (by rfl) (fun W h => ld_stand (hj2.ext h))); (try simp only [pS])) | (refine tk (v := ?_) ?_ hHeld ?_; rotate_left; (· (intro wq hSw; (try dsimp only at hSw); go_simp; (try with_reducible rfl))); (try simp only [pS])) | (refine tw (v := ?_) ?_ hHeld ?_; rotate_left; (· (intro wq hSw; (try dsimp only at hSw); go_simp; (try with_reducible rfl))); (try simp only [pS]))) | ((with_reducible refine t_on ?_); refine t_one (by simp only [gS]; rfl) ?_) | ((with_reducible refine q_gd (d := some 136) ?_); ((refine q_callG (by rfl) (hcmp _ (grown_then hg hX) x y) (by go_simp) ?_; rintro e Wc ⟨⟨r, rfl⟩, hEc⟩; refine ⟨_, rfl, ?_⟩; have hXc := hX.trans hEc; obtain ⟨bb, hbb⟩ : ∃ b, decide (r < 0) = b := ⟨_, rfl⟩))) | ((with_reducible refine q_nl ?_); clear hHeld; refine t_next ?_ (fun hHeld => ?_); (· assumption); (try simp only [pS])) | (with_reducible refine t_done ?_)
              have hSr := Sw.ext (⟨hg, cur, xs, hR, hp⟩ : Sw W0 113 g o cap xs0 wr) hXc
              clear hX hXc hi2 hj2 hB hR Hput hg hx hy hp f1 f2 hmA
              generalize Wc = wr at hSr ⊢
              cases bb
              rotate_left
              ·clear hbb
               have hgt : ¬ ((j : Int) < (i : Int)) := by omega
               go_wp2
               obtain ⟨⟨e1, e2, e3, e4, e5⟩, e6, b1, b2, b3, hle2⟩ := HI.out
               clear HI
               have q3 : i < xs0.length := by omega
               have z3 : (i : Int) < (xs0.length : Int) := by omega
               obtain ⟨hg, cur, xs, hR, hp⟩ := hSr
               have hlen := hp.length_eq
               have hix : i < xs.length := by omega
               have hjx : j < xs.length := by omega
               have hi2 := hR.at_ hix
               have hj2 := hR.at_ hjx
               obtain ⟨x, hx⟩ : ∃ x, xs[i] = x := ⟨_, rfl⟩
               obtain ⟨y, hy⟩ : ∃ y, xs[j] = y := ⟨_, rfl⟩
               rw [hx] at hi2; rw [hy] at hj2
               have f1 := hR.lt2 hix; have f2 := hR.lt2 hjx
               have hB := hR.blk
               have Hput : Hid (∀ W1 W2, Blk W1 g 113 (putAt cur (o + (i) * 2) [.int .i64 y.1, .int .i64 y.2]) → wr.grownBy W1 (some g) → Blk W2 g 113 (putAt (putAt cur (o + (i) * 2) [.int .i64 y.1, .int .i64 y.2]) (o + (j) * 2) [.int .i64 x.1, .int .i64 x.2]) → W1.grownBy W2 (some g) → Sw W0 113 g o cap xs0 W2) := Lib.hid (by intro W1 W2 h1 h2 h3 h4; subst hx hy; exact Sw.put2 hg hR hp hix hjx h1 h2 h3 h4)
               have hmA : True := trivial
               have hBd := hB.d; have hi2d := hi2.d; have hj2d := hj2.d
               refine wp_rt (.take 0 (.take 1 (.take 2 (.take 3 (.take 4 (.take 5 (.take 6 (.take 8 (.take 9 (.take 10 (.two 7 (.one 11 (.take 12 (.one 13 (.take 14 (.one 15 .nil))))) 11 (.one 7 (.take 12 (.one 13 (.take 14 (.one 15 .nil)))))))))))))))) (fun w' => True) ?_ (fun hHeld => ?_)
               ·exact True.intro
               repeat' first | ((with_reducible refine t_tk ?_); (refine tk (v := ?_) ?_ hHeld ?_; rotate_left; (· (intro wq hSw; (try dsimp only at hSw); go_simp; (try with_reducible rfl))); (try simp only [pS]))) | ((with_reducible refine t_on ?_); refine t_one (by simp only [gS]; rfl) ?_) | ((with_reducible refine t_tw ?_); refine t_two (by simp only [gS]; rfl) (by simp only [gS]; rfl) ?_ ?_) | ((with_reducible refine q_gd (d := some 152) ?_); (((with_reducible refine q_load (d := some 152) (hl := ld_stand hj2d) ?_ ?_); rfl))) | ((with_reducible refine q_gd (d := some 156) ?_); (((with_reducible refine q_load (d := some 156) (hl := ld_stand hi2d) ?_ ?_); rfl))) | ((with_reducible refine q_gd (d := none) ?_); ((first | ((with_reducible refine q_store (t := 113) (e := 113) (g := g) (off := o + j * 2) (n := 2) (v := .agg #[.int .i64 x.1, .int .i64 x.2]) ?_ ?_ hB1 sizeStand ?_ ?_ ?_ ?_); rfl; rfl; rfl; (rw [size_putAt (by exact f1)]; exact f2); (simp [Value.cells, Value.oneCell']); intro W2 hB2 hg2) | ((with_reducible refine q_store (t := 113) (e := 113) (g := g) (off := o + i * 2) (n := 2) (v := .agg #[.int .i64 y.1, .int .i64 y.2]) ?_ ?_ hBd sizeStand ?_ ?_ ?_ ?_); rfl; rfl; rfl; exact f1; (simp [Value.cells, Value.oneCell']); intro W1 hB1 hg1; replace hg1 := grown_undrew hg1)))) | ((with_reducible refine q_nl ?_); clear hHeld; refine t_next ?_ (fun hHeld => ?_); (· exact True.intro); (try simp only [pS])) | (with_reducible refine t_done ?_)
               all_goals
                have hSw := Hput.out _ _ hB1 hg1 hB2 hg2
                clear hB1 hB2 hg1 hg2 Hput hi2 hj2 hB hR hg hx hy hp f1 f2 hBd hi2d hj2d
                go_wp2
                go_roundw
                case rel => exact ⟨hSw, i + 1, j - 1, by go_num, by go_num, by omega, by omega, by omega, by omega, by omega⟩
                case measure => simp [intOf]; omega
              ·go_wp2
               go_roundw
               case rel => obtain ⟨⟨e1, e2, e3, e4, e5⟩, e6, b1, b2, b3, e10⟩ := HI.out; exact ⟨hSr, j - 1, by go_num, by omega, by omega, by omega⟩
               case measure => simp [intOf]; omega
             ·have hz2 : ¬ ((i : Int) ≤ (j : Int)) := by omega
              have hgt : (j : Int) < (i : Int) := by omega
              have q4 : j < xs0.length := by omega
              have z4 : (j : Int) < (xs0.length : Int) := by omega
              go_wp2
              have hX := Ext.todrew (Ext.refl wr)
              refine wp_rt (.take 0 (.take 1 (.take 2 (.take 3 (.take 4 (.take 5 (.take 6 (.take 7 (.take 8 (.take 9 (.take 10 (.take 11 (.take 12 (.one 13 (.take 14 (.take 15 (.take 16 .nil))))))))))))))))) (fun w' => Ext wr w') ?_ (fun hHeld => ?_)
              ·assumption
              repeat' first | ((with_reducible refine t_tk ?_); first | ((with_reducible refine t_tk (i := 2) ?_); refine tk (v := .bool false) ?_ hHeld ?_; (· (intro wq hSw; go_simp; first | done | omega | (simp; omega))); (try simp only [pS])) | (refine tk (v := ?_) ?_ hHeld ?_; rotate_left; (· (intro wq hSw; (try dsimp only at hSw); go_simp; (try with_reducible rfl))); (try simp only [pS])) | (refine ts hHeld ?_; (try simp only [pS]))) | ((with_reducible refine t_on ?_); refine t_one (by simp only [gS]; rfl) ?_) | ((with_reducible refine q_gd (d := some 136) ?_); refine q_skipG (by rfl) ?_) | ((with_reducible refine q_nl ?_); clear hHeld; refine t_next ?_ (fun hHeld => ?_); (· assumption); (try simp only [pS])) | (with_reducible refine t_done ?_)
              have hSr := Sw.ext hSr hX
              clear hX
              generalize wr.drew = wr at hSr ⊢
              go_wp2
              have HJ := Lib.hid (⟨b1, b2, hf0⟩ : _ ∧ _ ∧ _ ∧ _ ∧ _ ∧ _ ∧ _)
              obtain ⟨hg, cur, xs, hR, hp⟩ := hSr
              have hlen := hp.length_eq
              have hix : j < xs.length := by omega
              have hjx : a < xs.length := by omega
              have hi2 := hR.at_ hix
              have hj2 := hR.at_ hjx
              obtain ⟨x, hx⟩ : ∃ x, xs[j] = x := ⟨_, rfl⟩
              obtain ⟨y, hy⟩ : ∃ y, xs[a] = y := ⟨_, rfl⟩
              rw [hx] at hi2; rw [hy] at hj2
              have f1 := hR.lt2 hix; have f2 := hR.lt2 hjx
              have hB := hR.blk
              have Hput : Hid (∀ W1 W2, Blk W1 g 113 (putAt cur (o + (j) * 2) [.int .i64 y.1, .int .i64 y.2]) → wr.grownBy W1 (some g) → Blk W2 g 113 (putAt (putAt cur (o + (j) * 2) [.int .i64 y.1, .int .i64 y.2]) (o + (a) * 2) [.int .i64 x.1, .int .i64 x.2]) → W1.grownBy W2 (some g) → Sw W0 113 g o cap xs0 W2) := Lib.hid (by intro W1 W2 h1 h2 h3 h4; subst hx hy; exact Sw.put2 hg hR hp hix hjx h1 h2 h3 h4)
              have hmA : True := trivial
              have hBd := hB.d; have hi2d := hi2.d; have hj2d := hj2.d
              refine wp_rt (.take 0 (.take 1 (.take 2 (.take 3 (.take 4 (.take 5 (.take 6 (.take 8 (.take 9 (.take 10 (.two 7 (.one 11 (.take 12 (.one 13 (.take 14 (.one 15 .nil))))) 11 (.one 7 (.take 12 (.one 13 (.take 14 (.one 15 .nil)))))))))))))))) (fun w' => True) ?_ (fun hHeld => ?_)
              ·exact True.intro
              repeat' first | ((with_reducible refine t_tk ?_); (refine tk (v := ?_) ?_ hHeld ?_; rotate_left; (· (intro wq hSw; (try dsimp only at hSw); go_simp; (try with_reducible rfl))); (try simp only [pS]))) | ((with_reducible refine t_on ?_); refine t_one (by simp only [gS]; rfl) ?_) | ((with_reducible refine t_tw ?_); refine t_two (by simp only [gS]; rfl) (by simp only [gS]; rfl) ?_ ?_) | ((with_reducible refine q_gd (d := some 170) ?_); (((with_reducible refine q_load (d := some 170) (hl := ld_stand hj2d) ?_ ?_); rfl))) | ((with_reducible refine q_gd (d := some 174) ?_); (((with_reducible refine q_load (d := some 174) (hl := ld_stand hi2d) ?_ ?_); rfl))) | ((with_reducible refine q_gd (d := none) ?_); ((first | ((with_reducible refine q_store (t := 113) (e := 113) (g := g) (off := o + a * 2) (n := 2) (v := .agg #[.int .i64 x.1, .int .i64 x.2]) ?_ ?_ hB1 sizeStand ?_ ?_ ?_ ?_); rfl; rfl; rfl; (rw [size_putAt (by exact f1)]; exact f2); (simp [Value.cells, Value.oneCell']); intro W2 hB2 hg2) | ((with_reducible refine q_store (t := 113) (e := 113) (g := g) (off := o + j * 2) (n := 2) (v := .agg #[.int .i64 y.1, .int .i64 y.2]) ?_ ?_ hBd sizeStand ?_ ?_ ?_ ?_); rfl; rfl; rfl; exact f1; (simp [Value.cells, Value.oneCell']); intro W1 hB1 hg1; replace hg1 := grown_undrew hg1)))) | ((with_reducible refine q_nl ?_); clear hHeld; refine t_next ?_ (fun hHeld => ?_); (· exact True.intro); (try simp only [pS])) | (with_reducible refine t_done ?_)
              all_goals
               have hSw := Hput.out _ _ hB1 hg1 hB2 hg2
               clear hB1 hB2 hg1 hg2 Hput
               go_wp2
               go_ret2
               exact ⟨hSw, j, _, rfl, by omega, by omega⟩
       ·go_wp2
        go_roundw
        case rel => obtain ⟨⟨e1, e2, e3, e4, e5⟩, e6, b1, b2, b3, e10⟩ := HI.out; exact ⟨hSr, j - 1, by go_num, by omega, by omega, by omega⟩
        case measure => simp [intOf]; omega
      ·have hz2 : ¬ ((i : Int) ≤ (j : Int)) := by omega
       have hgt : (j : Int) < (i : Int) := by omega
       have q4 : j < xs0.length := by omega
       have z4 : (j : Int) < (xs0.length : Int) := by omega
       go_wp2
       have hX := Ext.todrew (Ext.refl wr)
       refine wp_rt (.take 0 (.take 1 (.take 2 (.take 3 (.take 4 (.take 5 (.take 6 (.take 7 (.take 8 (.take 9 (.take 10 (.take 11 (.take 12 (.one 13 (.take 14 (.take 15 (.take 16 .nil))))))))))))))))) (fun w' => Ext wr w') ?_ (fun hHeld => ?_)
       ·assumption
       repeat' first | ((with_reducible refine t_tk ?_); first | ((with_reducible refine t_tk (i := 2) ?_); refine tk (v := .bool false) ?_ hHeld ?_; (· (intro wq hSw; go_simp; first | done | omega | (simp; omega))); (try simp only [pS])) | (refine tk (v := ?_) ?_ hHeld ?_; rotate_left; (· (intro wq hSw; (try dsimp only at hSw); go_simp; (try with_reducible rfl))); (try simp only [pS])) | (refine ts hHeld ?_; (try simp only [pS]))) | ((with_reducible refine t_on ?_); refine t_one (by simp only [gS]; rfl) ?_) | ((with_reducible refine q_gd (d := some 63) ?_); refine q_skipG (by rfl) ?_) | ((with_reducible refine q_nl ?_); clear hHeld; refine t_next ?_ (fun hHeld => ?_); (· assumption); (try simp only [pS])) | (with_reducible refine t_done ?_)
       have hSr := Sw.ext hSr hX
       clear hX
       generalize wr.drew = wr at hSr ⊢
       go_wp2
       have HJ := Lib.hid (⟨b1, b2, hf0⟩ : _ ∧ _ ∧ _ ∧ _ ∧ _ ∧ _ ∧ _)
       obtain ⟨hg, cur, xs, hR, hp⟩ := hSr
       have hlen := hp.length_eq
       have hix : j < xs.length := by omega
       have hjx : a < xs.length := by omega
       have hi2 := hR.at_ hix
       have hj2 := hR.at_ hjx
       obtain ⟨x, hx⟩ : ∃ x, xs[j] = x := ⟨_, rfl⟩
       obtain ⟨y, hy⟩ : ∃ y, xs[a] = y := ⟨_, rfl⟩
       rw [hx] at hi2; rw [hy] at hj2
       have f1 := hR.lt2 hix; have f2 := hR.lt2 hjx
       have hB := hR.blk
       have Hput : Hid (∀ W1 W2, Blk W1 g 113 (putAt cur (o + (j) * 2) [.int .i64 y.1, .int .i64 y.2]) → wr.grownBy W1 (some g) → Blk W2 g 113 (putAt (putAt cur (o + (j) * 2) [.int .i64 y.1, .int .i64 y.2]) (o + (a) * 2) [.int .i64 x.1, .int .i64 x.2]) → W1.grownBy W2 (some g) → Sw W0 113 g o cap xs0 W2) := Lib.hid (by intro W1 W2 h1 h2 h3 h4; subst hx hy; exact Sw.put2 hg hR hp hix hjx h1 h2 h3 h4)
       have hmA : True := trivial
       have hBd := hB.d; have hi2d := hi2.d; have hj2d := hj2.d
       refine wp_rt (.take 0 (.take 1 (.take 2 (.take 3 (.take 4 (.take 5 (.take 6 (.take 8 (.take 9 (.take 10 (.two 7 (.one 11 (.take 12 (.one 13 (.take 14 (.one 15 .nil))))) 11 (.one 7 (.take 12 (.one 13 (.take 14 (.one 15 .nil)))))))))))))))) (fun w' => True) ?_ (fun hHeld => ?_)
       ·exact True.intro
       repeat' first | ((with_reducible refine t_tk ?_); (refine tk (v := ?_) ?_ hHeld ?_; rotate_left; (· (intro wq hSw; (try dsimp only at hSw); go_simp; (try with_reducible rfl))); (try simp only [pS]))) | ((with_reducible refine t_on ?_); refine t_one (by simp only [gS]; rfl) ?_) | ((with_reducible refine t_tw ?_); refine t_two (by simp only [gS]; rfl) (by simp only [gS]; rfl) ?_ ?_) | ((with_reducible refine q_gd (d := some 79) ?_); (((with_reducible refine q_load (d := some 79) (hl := ld_stand hj2d) ?_ ?_); rfl))) | ((with_reducible refine q_gd (d := some 83) ?_); (((with_reducible refine q_load (d := some 83) (hl := ld_stand hi2d) ?_ ?_); rfl))) | ((with_reducible refine q_gd (d := none) ?_); ((first | ((with_reducible refine q_store (t := 113) (e := 113) (g := g) (off := o + a * 2) (n := 2) (v := .agg #[.int .i64 x.1, .int .i64 x.2]) ?_ ?_ hB1 sizeStand ?_ ?_ ?_ ?_); rfl; rfl; rfl; (rw [size_putAt (by exact f1)]; exact f2); (simp [Value.cells, Value.oneCell']); intro W2 hB2 hg2) | ((with_reducible refine q_store (t := 113) (e := 113) (g := g) (off := o + j * 2) (n := 2) (v := .agg #[.int .i64 y.1, .int .i64 y.2]) ?_ ?_ hBd sizeStand ?_ ?_ ?_ ?_); rfl; rfl; rfl; exact f1; (simp [Value.cells, Value.oneCell']); intro W1 hB1 hg1; replace hg1 := grown_undrew hg1)))) | ((with_reducible refine q_nl ?_); clear hHeld; refine t_next ?_ (fun hHeld => ?_); (· exact True.intro); (try simp only [pS])) | (with_reducible refine t_done ?_)
       all_goals
        have hSw := Hput.out _ _ hB1 hg1 hB2 hg2
        clear hB1 hB2 hg1 hg2 Hput
        go_wp2
        go_ret2
        exact ⟨hSw, j, _, rfl, by omega, by omega⟩
    ·go_wp2
     go_roundw
     case rel => obtain ⟨⟨e1, e2, e3, e4, e5⟩, e6, e7, e8⟩ := Hi.out; exact ⟨hSr, i + 1, by go_num, by omega, by omega⟩
     case measure => obtain ⟨⟨e1, e2, e3, e4, e5⟩, e6, e7, e8⟩ := Hi.out; simp [intOf]; omega
   ·have hzz : ¬ ((i : Int) ≤ (j0 : Int)) := by omega
    go_wp2
    have hX := Ext.todrew (Ext.refl wr)
    refine wp_rt (.take 0 (.take 1 (.take 2 (.take 3 (.take 4 (.take 5 (.take 6 (.take 7 (.take 8 (.take 9 (.take 10 (.take 11 (.take 12 (.one 13 (.take 14 (.take 15 .nil)))))))))))))))) (fun w' => Ext wr w') ?_ (fun hHeld => ?_)
    ·assumption
    repeat' first | ((with_reducible refine t_tk ?_); first | ((with_reducible refine t_tk (i := 2) ?_); refine tk (v := .bool false) ?_ hHeld ?_; (· (intro wq hSw; go_simp; first | done | omega | (simp; omega))); (try simp only [pS])) | (refine tk (v := ?_) ?_ hHeld ?_; rotate_left; (· (intro wq hSw; (try dsimp only at hSw); go_simp; (try with_reducible rfl))); (try simp only [pS])) | (refine ts hHeld ?_; (try simp only [pS]))) | ((with_reducible refine t_on ?_); refine t_one (by simp only [gS]; rfl) ?_) | ((with_reducible refine q_gd (d := some 45) ?_); refine q_skipG (by rfl) ?_) | ((with_reducible refine q_nl ?_); clear hHeld; refine t_next ?_ (fun hHeld => ?_); (· assumption); (try simp only [pS])) | (with_reducible refine t_done ?_)
    have hSr := Sw.ext hSr hX
    clear hX
    go_wp2
    go_loopw [13] (fun vj wr => Sw W0 113 g o cap xs0 wr ∧ ∃ j : Nat, vj = .int .i64 j ∧ a ≤ j ∧ j ≤ j0 ∧ (i ≤ j0 + 1 → i ≤ j + 1)) (fun vj _ => (intOf vj).toNat)
    case atStart => exact ⟨hSr, j0, by first | rfl | go_num, by omega, by omega, by omega⟩
    case round =>
     obtain ⟨hSr, j, rfl, b1, b2, b3⟩ := hrel
     by_cases hle2 : i ≤ j
     ·have hz2 : (i : Int) ≤ (j : Int) := by omega
      have q4 : j < xs0.length := by omega
      have z4 : (j : Int) < (xs0.length : Int) := by omega
      have j1 : 1 ≤ j := by omega
      have HI := Lib.hid (⟨hf0, ha1, b1, b2, b3, hle2⟩ : (_ ∧ _ ∧ _ ∧ _ ∧ _) ∧ _ ∧ _ ∧ _ ∧ _ ∧ _)
      clear hf0 ha1 ha4 b1 b2 b3 hle2 hzz
      obtain ⟨hg, cur, xs, hR, hp⟩ := hSr
      have hlen := hp.length_eq
      have hix : j < xs.length := by omega
      have hjx : a < xs.length := by omega
      have hi2 := hR.at_ hix
      have hj2 := hR.at_ hjx
      obtain ⟨x, hx⟩ : ∃ x, xs[j] = x := ⟨_, rfl⟩
      obtain ⟨y, hy⟩ : ∃ y, xs[a] = y := ⟨_, rfl⟩
      rw [hx] at hi2; rw [hy] at hj2
      have f1 := hR.lt2 hix; have f2 := hR.lt2 hjx
      have hB := hR.blk
      have Hput : Hid (∀ W1 W2, Blk W1 g 113 (putAt cur (o + (j) * 2) [.int .i64 y.1, .int .i64 y.2]) → wr.grownBy W1 (some g) → Blk W2 g 113 (putAt (putAt cur (o + (j) * 2) [.int .i64 y.1, .int .i64 y.2]) (o + (a) * 2) [.int .i64 x.1, .int .i64 x.2]) → W1.grownBy W2 (some g) → Sw W0 113 g o cap xs0 W2) := Lib.hid (by intro W1 W2 h1 h2 h3 h4; subst hx hy; exact Sw.put2 hg hR hp hix hjx h1 h2 h3 h4)
      have hmA : True := trivial
      go_wp2
      have hX := Ext.todrew (Ext.refl wr)
      refine wp_rt (.take 0 (.take 1 (.take 2 (.take 3 (.take 4 (.take 5 (.take 6 (.take 7 (.take 8 (.take 9 (.take 10 (.take 11 (.take 12 (.one 13 (.take 14 (.take 15 (.take 16 .nil))))))))))))))))) (fun w' => Ext wr w') ?_ (fun hHeld => ?_)
      ·assumption
      repeat' first | ((with_reducible refine t_tk ?_); first | ((with_reducible refine t_tk (i := 2) ?_); refine tk (v := .bool true) ?_ hHeld ?_; (· (intro wq hSw; go_simp; first | done | omega | (simp; omega))); (try simp only [pS])) | ((with_reducible refine t_tk (i := 8) ?_); refine tw (v := .agg #[.int .i64 x.1, .int .i64 x.2]) ?_ hHeld ?_; (· exact run_ld (by rfl) (fun W h => ld_stand (hi2.ext h))); (try simp only [pS])) | ((with_reducible refine t_tk (i := 12) ?_); refine tw (v := .agg #[.int .i64 y.1, .int .i64 y.2]) ?_ hHeld ?_; (· exact run_ld (by rfl) (fun W h => ld_stand (hj2.ext h))); (try simp only [pS])) | (refine tk (v := ?_) ?_ hHeld ?_; rotate_left; (· (intro wq hSw; (try dsimp only at hSw); go_simp; (try with_reducible rfl))); (try simp only [pS])) | (refine tw (v := ?_) ?_ hHeld ?_; rotate_left; (· (intro wq hSw; (try dsimp only at hSw); go_simp; (try with_reducible rfl))); (try simp only [pS]))) | ((with_reducible refine t_on ?_); refine t_one (by simp only [gS]; rfl) ?_) | ((with_reducible refine q_gd (d := some 63) ?_); ((refine q_callG (by rfl) (hcmp _ (grown_then hg hX) x y) (by go_simp) ?_; rintro e Wc ⟨⟨r, rfl⟩, hEc⟩; refine ⟨_, rfl, ?_⟩; have hXc := hX.trans hEc; obtain ⟨bb, hbb⟩ : ∃ b, decide (r < 0) = b := ⟨_, rfl⟩))) | ((with_reducible refine q_nl ?_); clear hHeld; refine t_next ?_ (fun hHeld => ?_); (· assumption); (try simp only [pS])) | (with_reducible refine t_done ?_)
      have hSr := Sw.ext (⟨hg, cur, xs, hR, hp⟩ : Sw W0 113 g o cap xs0 wr) hXc
      clear hX hXc hi2 hj2 hB hR Hput hg hx hy hp f1 f2 hmA
      generalize Wc = wr at hSr ⊢
      cases bb
      rotate_left
      ·clear hbb
       have hgt : ¬ ((j : Int) < (i : Int)) := by omega
       go_wp2
       obtain ⟨⟨e1, e2, e3, e4, e5⟩, e6, b1, b2, b3, hle2⟩ := HI.out
       clear HI
       have q3 : i < xs0.length := by omega
       have z3 : (i : Int) < (xs0.length : Int) := by omega
       obtain ⟨hg, cur, xs, hR, hp⟩ := hSr
       have hlen := hp.length_eq
       have hix : i < xs.length := by omega
       have hjx : j < xs.length := by omega
       have hi2 := hR.at_ hix
       have hj2 := hR.at_ hjx
       obtain ⟨x, hx⟩ : ∃ x, xs[i] = x := ⟨_, rfl⟩
       obtain ⟨y, hy⟩ : ∃ y, xs[j] = y := ⟨_, rfl⟩
       rw [hx] at hi2; rw [hy] at hj2
       have f1 := hR.lt2 hix; have f2 := hR.lt2 hjx
       have hB := hR.blk
       have Hput : Hid (∀ W1 W2, Blk W1 g 113 (putAt cur (o + (i) * 2) [.int .i64 y.1, .int .i64 y.2]) → wr.grownBy W1 (some g) → Blk W2 g 113 (putAt (putAt cur (o + (i) * 2) [.int .i64 y.1, .int .i64 y.2]) (o + (j) * 2) [.int .i64 x.1, .int .i64 x.2]) → W1.grownBy W2 (some g) → Sw W0 113 g o cap xs0 W2) := Lib.hid (by intro W1 W2 h1 h2 h3 h4; subst hx hy; exact Sw.put2 hg hR hp hix hjx h1 h2 h3 h4)
       have hmA : True := trivial
       apply wp_cut0 (R := fun w' => Sw W0 113 g o cap xs0 w')
       case h =>
        have hBd := hB.d; have hi2d := hi2.d; have hj2d := hj2.d
        refine wp_rt (.take 0 (.take 1 (.take 2 (.take 3 (.take 4 (.take 5 (.take 6 (.take 8 (.take 9 (.take 10 (.two 7 (.one 11 (.take 12 (.one 13 (.take 14 (.one 15 .nil))))) 11 (.one 7 (.take 12 (.one 13 (.take 14 (.one 15 .nil)))))))))))))))) (fun w' => True) ?_ (fun hHeld => ?_)
        ·exact True.intro
        repeat' first | ((with_reducible refine t_tk ?_); (refine tk (v := ?_) ?_ hHeld ?_; rotate_left; (· (intro wq hSw; (try dsimp only at hSw); go_simp; (try with_reducible rfl))); (try simp only [pS]))) | ((with_reducible refine t_on ?_); refine t_one (by simp only [gS]; rfl) ?_) | ((with_reducible refine t_tw ?_); refine t_two (by simp only [gS]; rfl) (by simp only [gS]; rfl) ?_ ?_) | ((with_reducible refine q_gd (d := some 94) ?_); (((with_reducible refine q_load (d := some 94) (hl := ld_stand hj2d) ?_ ?_); rfl))) | ((with_reducible refine q_gd (d := some 98) ?_); (((with_reducible refine q_load (d := some 98) (hl := ld_stand hi2d) ?_ ?_); rfl))) | ((with_reducible refine q_gd (d := none) ?_); ((first | ((with_reducible refine q_store (t := 113) (e := 113) (g := g) (off := o + j * 2) (n := 2) (v := .agg #[.int .i64 x.1, .int .i64 x.2]) ?_ ?_ hB1 sizeStand ?_ ?_ ?_ ?_); rfl; rfl; rfl; (rw [size_putAt (by exact f1)]; exact f2); (simp [Value.cells, Value.oneCell']); intro W2 hB2 hg2) | ((with_reducible refine q_store (t := 113) (e := 113) (g := g) (off := o + i * 2) (n := 2) (v := .agg #[.int .i64 y.1, .int .i64 y.2]) ?_ ?_ hBd sizeStand ?_ ?_ ?_ ?_); rfl; rfl; rfl; exact f1; (simp [Value.cells, Value.oneCell']); intro W1 hB1 hg1; replace hg1 := grown_undrew hg1)))) | ((with_reducible refine q_nl ?_); clear hHeld; refine t_next ?_ (fun hHeld => ?_); (· exact True.intro); (try simp only [pS])) | (with_reducible refine t_done ?_)
        all_goals exact ⟨rfl, rfl, Hput.out _ _ hB1 hg1 hB2 hg2⟩
       case k =>
        intro Wq hSw
        go_wp2
        clear Hput hi2 hj2 hB hR hg hx hy hp f1 f2
        go_loopw [12, 13] (fun vi vj wr => Sw W0 113 g o cap xs0 wr ∧ ∃ i j : Nat, vi = .int .i64 i ∧ vj = .int .i64 j ∧ a + 1 ≤ i ∧ i ≤ b ∧ a ≤ j ∧ j + 1 ≤ b ∧ i ≤ j + 2) (fun vi vj _ => (intOf vj + 2 - intOf vi).toNat)
        case atStart => exact ⟨hSw, i + 1, j - 1, by go_num, by go_num, by omega, by omega, by omega, by omega, by omega⟩
        case round =>
         clear hSr hSw q3 q4 z3 z4 hgt hz2 j1 e1 e2 e3 e4 e5 e6 b1 b2 b3 hle2
         obtain ⟨hSr, i0, j0, rfl, rfl, hf0⟩ := hrel
         go_wp2
         go_loopw [12] (fun vi wr => Sw W0 113 g o cap xs0 wr ∧ ∃ i : Nat, vi = .int .i64 i ∧ i0 ≤ i ∧ (i0 ≤ j0 + 1 → i ≤ j0 + 1)) (fun vi _ => j0 + 2 - (intOf vi).toNat)
         case atStart => exact ⟨hSr, i0, by first | rfl | go_num, by omega, by omega⟩
         case round =>
          obtain ⟨hSr, i, rfl, ha1, ha4⟩ := hrel
          by_cases hle : i ≤ j0
          ·have hzz : (i : Int) ≤ (j0 : Int) := by omega
           have q3 : i < xs0.length := by omega
           have z3 : (i : Int) < (xs0.length : Int) := by omega
           have Hi := Lib.hid (⟨hf0, ha1, ha4, hle⟩ : (_ ∧ _ ∧ _ ∧ _ ∧ _) ∧ _ ∧ _ ∧ _)
           clear hf0 ha1 ha4 hle
           obtain ⟨hg, cur, xs, hR, hp⟩ := hSr
           have hlen := hp.length_eq
           have hix : i < xs.length := by omega
           have hjx : a < xs.length := by omega
           have hi2 := hR.at_ hix
           have hj2 := hR.at_ hjx
           obtain ⟨x, hx⟩ : ∃ x, xs[i] = x := ⟨_, rfl⟩
           obtain ⟨y, hy⟩ : ∃ y, xs[a] = y := ⟨_, rfl⟩
           rw [hx] at hi2; rw [hy] at hj2
           have f1 := hR.lt2 hix; have f2 := hR.lt2 hjx
           have hB := hR.blk
           have Hput : Hid (∀ W1 W2, Blk W1 g 113 (putAt cur (o + (i) * 2) [.int .i64 y.1, .int .i64 y.2]) → wr.grownBy W1 (some g) → Blk W2 g 113 (putAt (putAt cur (o + (i) * 2) [.int .i64 y.1, .int .i64 y.2]) (o + (a) * 2) [.int .i64 x.1, .int .i64 x.2]) → W1.grownBy W2 (some g) → Sw W0 113 g o cap xs0 W2) := Lib.hid (by intro W1 W2 h1 h2 h3 h4; subst hx hy; exact Sw.put2 hg hR hp hix hjx h1 h2 h3 h4)
           have hmA : True := trivial
           go_wp2
           have hX := Ext.todrew (Ext.refl wr)
           refine wp_rt (.take 0 (.take 1 (.take 2 (.take 3 (.take 4 (.take 5 (.take 6 (.take 7 (.take 8 (.take 9 (.take 10 (.take 11 (.take 12 (.one 13 (.take 14 (.take 15 .nil)))))))))))))))) (fun w' => Ext wr w') ?_ (fun hHeld => ?_)
           ·assumption
           repeat' first | ((with_reducible refine t_tk ?_); first | ((with_reducible refine t_tk (i := 2) ?_); refine tk (v := .bool true) ?_ hHeld ?_; (· (intro wq hSw; go_simp; first | done | omega | (simp; omega))); (try simp only [pS])) | ((with_reducible refine t_tk (i := 8) ?_); refine tw (v := .agg #[.int .i64 x.1, .int .i64 x.2]) ?_ hHeld ?_; (· exact run_ld (by rfl) (fun W h => ld_stand (hi2.ext h))); (try simp only [pS])) | ((with_reducible refine t_tk (i := 12) ?_); refine tw (v := .agg #[.int .i64 y.1, .int .i64 y.2]) ?_ hHeld ?_; (· exact run_ld (by rfl) (fun W h => ld_stand (hj2.ext h))); (try simp only [pS])) | (refine tk (v := ?_) ?_ hHeld ?_; rotate_left; (· (intro wq hSw; (try dsimp only at hSw); go_simp; (try with_reducible rfl))); (try simp only [pS])) | (refine tw (v := ?_) ?_ hHeld ?_; rotate_left; (· (intro wq hSw; (try dsimp only at hSw); go_simp; (try with_reducible rfl))); (try simp only [pS]))) | ((with_reducible refine t_on ?_); refine t_one (by simp only [gS]; rfl) ?_) | ((with_reducible refine q_gd (d := some 118) ?_); ((refine q_callG (by rfl) (hcmp _ (grown_then hg hX) x y) (by go_simp) ?_; rintro e Wc ⟨⟨r, rfl⟩, hEc⟩; refine ⟨_, rfl, ?_⟩; have hXc := hX.trans hEc; obtain ⟨bb, hbb⟩ : ∃ b, decide (r < 0) = b := ⟨_, rfl⟩))) | ((with_reducible refine q_nl ?_); clear hHeld; refine t_next ?_ (fun hHeld => ?_); (· assumption); (try simp only [pS])) | (with_reducible refine t_done ?_)
           have hSr := Sw.ext (⟨hg, cur, xs, hR, hp⟩ : Sw W0 113 g o cap xs0 wr) hXc
           clear hX hXc hi2 hj2 hB hR Hput hg hx hy hp f1 f2 hmA
           generalize Wc = wr at hSr ⊢
           cases bb
           ·obtain ⟨hf0, ha1, ha4, hle⟩ := Hi.out
            clear Hi
            go_wp2
            go_loopw [13] (fun vj wr => Sw W0 113 g o cap xs0 wr ∧ ∃ j : Nat, vj = .int .i64 j ∧ a ≤ j ∧ j ≤ j0 ∧ (i ≤ j0 + 1 → i ≤ j + 1)) (fun vj _ => (intOf vj).toNat)
            case atStart => exact ⟨hSr, j0, by first | rfl | go_num, by omega, by omega, by omega⟩
            case round =>
             obtain ⟨hSr, j, rfl, b1, b2, b3⟩ := hrel
             by_cases hle2 : i ≤ j
             ·have hz2 : (i : Int) ≤ (j : Int) := by omega
              have q4 : j < xs0.length := by omega
              have z4 : (j : Int) < (xs0.length : Int) := by omega
              have j1 : 1 ≤ j := by omega
              have HI := Lib.hid (⟨hf0, ha1, b1, b2, b3, hle2⟩ : (_ ∧ _ ∧ _ ∧ _ ∧ _) ∧ _ ∧ _ ∧ _ ∧ _ ∧ _)
              clear hf0 ha1 ha4 b1 b2 b3 hle2 hzz
              obtain ⟨hg, cur, xs, hR, hp⟩ := hSr
              have hlen := hp.length_eq
              have hix : j < xs.length := by omega
              have hjx : a < xs.length := by omega
              have hi2 := hR.at_ hix
              have hj2 := hR.at_ hjx
              obtain ⟨x, hx⟩ : ∃ x, xs[j] = x := ⟨_, rfl⟩
              obtain ⟨y, hy⟩ : ∃ y, xs[a] = y := ⟨_, rfl⟩
              rw [hx] at hi2; rw [hy] at hj2
              have f1 := hR.lt2 hix; have f2 := hR.lt2 hjx
              have hB := hR.blk
              have Hput : Hid (∀ W1 W2, Blk W1 g 113 (putAt cur (o + (j) * 2) [.int .i64 y.1, .int .i64 y.2]) → wr.grownBy W1 (some g) → Blk W2 g 113 (putAt (putAt cur (o + (j) * 2) [.int .i64 y.1, .int .i64 y.2]) (o + (a) * 2) [.int .i64 x.1, .int .i64 x.2]) → W1.grownBy W2 (some g) → Sw W0 113 g o cap xs0 W2) := Lib.hid (by intro W1 W2 h1 h2 h3 h4; subst hx hy; exact Sw.put2 hg hR hp hix hjx h1 h2 h3 h4)
              have hmA : True := trivial
              go_wp2
              have hX := Ext.todrew (Ext.refl wr)
              refine wp_rt (.take 0 (.take 1 (.take 2 (.take 3 (.take 4 (.take 5 (.take 6 (.take 7 (.take 8 (.take 9 (.take 10 (.take 11 (.take 12 (.one 13 (.take 14 (.take 15 (.take 16 .nil))))))))))))))))) (fun w' => Ext wr w') ?_ (fun hHeld => ?_)
              ·assumption
              repeat' first | ((with_reducible refine t_tk ?_); first | ((with_reducible refine t_tk (i := 2) ?_); refine tk (v := .bool true) ?_ hHeld ?_; (· (intro wq hSw; go_simp; first | done | omega | (simp; omega))); (try simp only [pS])) | ((with_reducible refine t_tk (i := 8) ?_); refine tw (v := .agg #[.int .i64 x.1, .int .i64 x.2]) ?_ hHeld ?_; (· exact run_ld (by rfl) (fun W h => ld_stand (hi2.ext h))); (try simp only [pS])) | ((with_reducible refine t_tk (i := 12) ?_); refine tw (v := .agg #[.int .i64 y.1, .int .i64 y.2]) ?_ hHeld ?_; (· exact run_ld (by rfl) (fun W h => ld_stand (hj2.ext h))); (try simp only [pS])) | (refine tk (v := ?_) ?_ hHeld ?_; rotate_left; (· (intro wq hSw; (try dsimp only at hSw); go_simp; (try with_reducible rfl))); (try simp only [pS])) | (refine tw (v := ?_) ?_ hHeld ?_; rotate_left; (· (intro wq hSw; (try dsimp only at hSw); go_simp; (try with_reducible rfl))); (try simp only [pS]))) | ((with_reducible refine t_on ?_); refine t_one (by simp only [gS]; rfl) ?_) | ((with_reducible refine q_gd (d := some 136) ?_); ((refine q_callG (by rfl) (hcmp _ (grown_then hg hX) x y) (by go_simp) ?_; rintro e Wc ⟨⟨r, rfl⟩, hEc⟩; refine ⟨_, rfl, ?_⟩; have hXc := hX.trans hEc; obtain ⟨bb, hbb⟩ : ∃ b, decide (r < 0) = b := ⟨_, rfl⟩))) | ((with_reducible refine q_nl ?_); clear hHeld; refine t_next ?_ (fun hHeld => ?_); (· assumption); (try simp only [pS])) | (with_reducible refine t_done ?_)
              have hSr := Sw.ext (⟨hg, cur, xs, hR, hp⟩ : Sw W0 113 g o cap xs0 wr) hXc
              clear hX hXc hi2 hj2 hB hR Hput hg hx hy hp f1 f2 hmA
              generalize Wc = wr at hSr ⊢
              cases bb
              rotate_left
              ·clear hbb
               have hgt : ¬ ((j : Int) < (i : Int)) := by omega
               go_wp2
               obtain ⟨⟨e1, e2, e3, e4, e5⟩, e6, b1, b2, b3, hle2⟩ := HI.out
               clear HI
               have q3 : i < xs0.length := by omega
               have z3 : (i : Int) < (xs0.length : Int) := by omega
               obtain ⟨hg, cur, xs, hR, hp⟩ := hSr
               have hlen := hp.length_eq
               have hix : i < xs.length := by omega
               have hjx : j < xs.length := by omega
               have hi2 := hR.at_ hix
               have hj2 := hR.at_ hjx
               obtain ⟨x, hx⟩ : ∃ x, xs[i] = x := ⟨_, rfl⟩
               obtain ⟨y, hy⟩ : ∃ y, xs[j] = y := ⟨_, rfl⟩
               rw [hx] at hi2; rw [hy] at hj2
               have f1 := hR.lt2 hix; have f2 := hR.lt2 hjx
               have hB := hR.blk
               have Hput : Hid (∀ W1 W2, Blk W1 g 113 (putAt cur (o + (i) * 2) [.int .i64 y.1, .int .i64 y.2]) → wr.grownBy W1 (some g) → Blk W2 g 113 (putAt (putAt cur (o + (i) * 2) [.int .i64 y.1, .int .i64 y.2]) (o + (j) * 2) [.int .i64 x.1, .int .i64 x.2]) → W1.grownBy W2 (some g) → Sw W0 113 g o cap xs0 W2) := Lib.hid (by intro W1 W2 h1 h2 h3 h4; subst hx hy; exact Sw.put2 hg hR hp hix hjx h1 h2 h3 h4)
               have hmA : True := trivial
               have hBd := hB.d; have hi2d := hi2.d; have hj2d := hj2.d
               refine wp_rt (.take 0 (.take 1 (.take 2 (.take 3 (.take 4 (.take 5 (.take 6 (.take 8 (.take 9 (.take 10 (.two 7 (.one 11 (.take 12 (.one 13 (.take 14 (.one 15 .nil))))) 11 (.one 7 (.take 12 (.one 13 (.take 14 (.one 15 .nil)))))))))))))))) (fun w' => True) ?_ (fun hHeld => ?_)
               ·exact True.intro
               repeat' first | ((with_reducible refine t_tk ?_); (refine tk (v := ?_) ?_ hHeld ?_; rotate_left; (· (intro wq hSw; (try dsimp only at hSw); go_simp; (try with_reducible rfl))); (try simp only [pS]))) | ((with_reducible refine t_on ?_); refine t_one (by simp only [gS]; rfl) ?_) | ((with_reducible refine t_tw ?_); refine t_two (by simp only [gS]; rfl) (by simp only [gS]; rfl) ?_ ?_) | ((with_reducible refine q_gd (d := some 152) ?_); (((with_reducible refine q_load (d := some 152) (hl := ld_stand hj2d) ?_ ?_); rfl))) | ((with_reducible refine q_gd (d := some 156) ?_); (((with_reducible refine q_load (d := some 156) (hl := ld_stand hi2d) ?_ ?_); rfl))) | ((with_reducible refine q_gd (d := none) ?_); ((first | ((with_reducible refine q_store (t := 113) (e := 113) (g := g) (off := o + j * 2) (n := 2) (v := .agg #[.int .i64 x.1, .int .i64 x.2]) ?_ ?_ hB1 sizeStand ?_ ?_ ?_ ?_); rfl; rfl; rfl; (rw [size_putAt (by exact f1)]; exact f2); (simp [Value.cells, Value.oneCell']); intro W2 hB2 hg2) | ((with_reducible refine q_store (t := 113) (e := 113) (g := g) (off := o + i * 2) (n := 2) (v := .agg #[.int .i64 y.1, .int .i64 y.2]) ?_ ?_ hBd sizeStand ?_ ?_ ?_ ?_); rfl; rfl; rfl; exact f1; (simp [Value.cells, Value.oneCell']); intro W1 hB1 hg1; replace hg1 := grown_undrew hg1)))) | ((with_reducible refine q_nl ?_); clear hHeld; refine t_next ?_ (fun hHeld => ?_); (· exact True.intro); (try simp only [pS])) | (with_reducible refine t_done ?_)
               all_goals
                have hSw := Hput.out _ _ hB1 hg1 hB2 hg2
                clear hB1 hB2 hg1 hg2 Hput hi2 hj2 hB hR hg hx hy hp f1 f2 hBd hi2d hj2d
                go_wp2
                go_roundw
                case rel => exact ⟨hSw, i + 1, j - 1, by go_num, by go_num, by omega, by omega, by omega, by omega, by omega⟩
                case measure => simp [intOf]; omega
              ·go_wp2
               go_roundw
               case rel => obtain ⟨⟨e1, e2, e3, e4, e5⟩, e6, b1, b2, b3, e10⟩ := HI.out; exact ⟨hSr, j - 1, by go_num, by omega, by omega, by omega⟩
               case measure => simp [intOf]; omega
             ·have hz2 : ¬ ((i : Int) ≤ (j : Int)) := by omega
              have hgt : (j : Int) < (i : Int) := by omega
              have q4 : j < xs0.length := by omega
              have z4 : (j : Int) < (xs0.length : Int) := by omega
              go_wp2
              have hX := Ext.todrew (Ext.refl wr)
              refine wp_rt (.take 0 (.take 1 (.take 2 (.take 3 (.take 4 (.take 5 (.take 6 (.take 7 (.take 8 (.take 9 (.take 10 (.take 11 (.take 12 (.one 13 (.take 14 (.take 15 (.take 16 .nil))))))))))))))))) (fun w' => Ext wr w') ?_ (fun hHeld => ?_)
              ·assumption
              repeat' first | ((with_reducible refine t_tk ?_); first | ((with_reducible refine t_tk (i := 2) ?_); refine tk (v := .bool false) ?_ hHeld ?_; (· (intro wq hSw; go_simp; first | done | omega | (simp; omega))); (try simp only [pS])) | (refine tk (v := ?_) ?_ hHeld ?_; rotate_left; (· (intro wq hSw; (try dsimp only at hSw); go_simp; (try with_reducible rfl))); (try simp only [pS])) | (refine ts hHeld ?_; (try simp only [pS]))) | ((with_reducible refine t_on ?_); refine t_one (by simp only [gS]; rfl) ?_) | ((with_reducible refine q_gd (d := some 136) ?_); refine q_skipG (by rfl) ?_) | ((with_reducible refine q_nl ?_); clear hHeld; refine t_next ?_ (fun hHeld => ?_); (· assumption); (try simp only [pS])) | (with_reducible refine t_done ?_)
              have hSr := Sw.ext hSr hX
              clear hX
              generalize wr.drew = wr at hSr ⊢
              go_wp2
              have HJ := Lib.hid (⟨b1, b2, hf0⟩ : _ ∧ _ ∧ _ ∧ _ ∧ _ ∧ _ ∧ _)
              obtain ⟨hg, cur, xs, hR, hp⟩ := hSr
              have hlen := hp.length_eq
              have hix : j < xs.length := by omega
              have hjx : a < xs.length := by omega
              have hi2 := hR.at_ hix
              have hj2 := hR.at_ hjx
              obtain ⟨x, hx⟩ : ∃ x, xs[j] = x := ⟨_, rfl⟩
              obtain ⟨y, hy⟩ : ∃ y, xs[a] = y := ⟨_, rfl⟩
              rw [hx] at hi2; rw [hy] at hj2
              have f1 := hR.lt2 hix; have f2 := hR.lt2 hjx
              have hB := hR.blk
              have Hput : Hid (∀ W1 W2, Blk W1 g 113 (putAt cur (o + (j) * 2) [.int .i64 y.1, .int .i64 y.2]) → wr.grownBy W1 (some g) → Blk W2 g 113 (putAt (putAt cur (o + (j) * 2) [.int .i64 y.1, .int .i64 y.2]) (o + (a) * 2) [.int .i64 x.1, .int .i64 x.2]) → W1.grownBy W2 (some g) → Sw W0 113 g o cap xs0 W2) := Lib.hid (by intro W1 W2 h1 h2 h3 h4; subst hx hy; exact Sw.put2 hg hR hp hix hjx h1 h2 h3 h4)
              have hmA : True := trivial
              have hBd := hB.d; have hi2d := hi2.d; have hj2d := hj2.d
              refine wp_rt (.take 0 (.take 1 (.take 2 (.take 3 (.take 4 (.take 5 (.take 6 (.take 8 (.take 9 (.take 10 (.two 7 (.one 11 (.take 12 (.one 13 (.take 14 (.one 15 .nil))))) 11 (.one 7 (.take 12 (.one 13 (.take 14 (.one 15 .nil)))))))))))))))) (fun w' => True) ?_ (fun hHeld => ?_)
              ·exact True.intro
              repeat' first | ((with_reducible refine t_tk ?_); (refine tk (v := ?_) ?_ hHeld ?_; rotate_left; (· (intro wq hSw; (try dsimp only at hSw); go_simp; (try with_reducible rfl))); (try simp only [pS]))) | ((with_reducible refine t_on ?_); refine t_one (by simp only [gS]; rfl) ?_) | ((with_reducible refine t_tw ?_); refine t_two (by simp only [gS]; rfl) (by simp only [gS]; rfl) ?_ ?_) | ((with_reducible refine q_gd (d := some 170) ?_); (((with_reducible refine q_load (d := some 170) (hl := ld_stand hj2d) ?_ ?_); rfl))) | ((with_reducible refine q_gd (d := some 174) ?_); (((with_reducible refine q_load (d := some 174) (hl := ld_stand hi2d) ?_ ?_); rfl))) | ((with_reducible refine q_gd (d := none) ?_); ((first | ((with_reducible refine q_store (t := 113) (e := 113) (g := g) (off := o + a * 2) (n := 2) (v := .agg #[.int .i64 x.1, .int .i64 x.2]) ?_ ?_ hB1 sizeStand ?_ ?_ ?_ ?_); rfl; rfl; rfl; (rw [size_putAt (by exact f1)]; exact f2); (simp [Value.cells, Value.oneCell']); intro W2 hB2 hg2) | ((with_reducible refine q_store (t := 113) (e := 113) (g := g) (off := o + j * 2) (n := 2) (v := .agg #[.int .i64 y.1, .int .i64 y.2]) ?_ ?_ hBd sizeStand ?_ ?_ ?_ ?_); rfl; rfl; rfl; exact f1; (simp [Value.cells, Value.oneCell']); intro W1 hB1 hg1; replace hg1 := grown_undrew hg1)))) | ((with_reducible refine q_nl ?_); clear hHeld; refine t_next ?_ (fun hHeld => ?_); (· exact True.intro); (try simp only [pS])) | (with_reducible refine t_done ?_)
              all_goals
               have hSw := Hput.out _ _ hB1 hg1 hB2 hg2
               clear hB1 hB2 hg1 hg2 Hput
               go_wp2
               go_ret2
               exact ⟨hSw, j, _, rfl, by omega, by omega⟩
           ·go_wp2
            go_roundw
            case rel => obtain ⟨⟨e1, e2, e3, e4, e5⟩, e6, e7, e8⟩ := Hi.out; exact ⟨hSr, i + 1, by go_num, by omega, by omega⟩
            case measure => obtain ⟨⟨e1, e2, e3, e4, e5⟩, e6, e7, e8⟩ := Hi.out; simp [intOf]; omega
          ·have hzz : ¬ ((i : Int) ≤ (j0 : Int)) := by omega
           go_wp2
           have hX := Ext.todrew (Ext.refl wr)
           refine wp_rt (.take 0 (.take 1 (.take 2 (.take 3 (.take 4 (.take 5 (.take 6 (.take 7 (.take 8 (.take 9 (.take 10 (.take 11 (.take 12 (.one 13 (.take 14 (.take 15 .nil)))))))))))))))) (fun w' => Ext wr w') ?_ (fun hHeld => ?_)
           ·assumption
           repeat' first | ((with_reducible refine t_tk ?_); first | ((with_reducible refine t_tk (i := 2) ?_); refine tk (v := .bool false) ?_ hHeld ?_; (· (intro wq hSw; go_simp; first | done | omega | (simp; omega))); (try simp only [pS])) | (refine tk (v := ?_) ?_ hHeld ?_; rotate_left; (· (intro wq hSw; (try dsimp only at hSw); go_simp; (try with_reducible rfl))); (try simp only [pS])) | (refine ts hHeld ?_; (try simp only [pS]))) | ((with_reducible refine t_on ?_); refine t_one (by simp only [gS]; rfl) ?_) | ((with_reducible refine q_gd (d := some 118) ?_); refine q_skipG (by rfl) ?_) | ((with_reducible refine q_nl ?_); clear hHeld; refine t_next ?_ (fun hHeld => ?_); (· assumption); (try simp only [pS])) | (with_reducible refine t_done ?_)
           have hSr := Sw.ext hSr hX
           clear hX
           go_wp2
           go_loopw [13] (fun vj wr => Sw W0 113 g o cap xs0 wr ∧ ∃ j : Nat, vj = .int .i64 j ∧ a ≤ j ∧ j ≤ j0 ∧ (i ≤ j0 + 1 → i ≤ j + 1)) (fun vj _ => (intOf vj).toNat)
           case atStart => exact ⟨hSr, j0, by first | rfl | go_num, by omega, by omega, by omega⟩
           case round =>
            obtain ⟨hSr, j, rfl, b1, b2, b3⟩ := hrel
            by_cases hle2 : i ≤ j
            ·have hz2 : (i : Int) ≤ (j : Int) := by omega
             have q4 : j < xs0.length := by omega
             have z4 : (j : Int) < (xs0.length : Int) := by omega
             have j1 : 1 ≤ j := by omega
             have HI := Lib.hid (⟨hf0, ha1, b1, b2, b3, hle2⟩ : (_ ∧ _ ∧ _ ∧ _ ∧ _) ∧ _ ∧ _ ∧ _ ∧ _ ∧ _)
             clear hf0 ha1 ha4 b1 b2 b3 hle2 hzz
             obtain ⟨hg, cur, xs, hR, hp⟩ := hSr
             have hlen := hp.length_eq
             have hix : j < xs.length := by omega
             have hjx : a < xs.length := by omega
             have hi2 := hR.at_ hix
             have hj2 := hR.at_ hjx
             obtain ⟨x, hx⟩ : ∃ x, xs[j] = x := ⟨_, rfl⟩
             obtain ⟨y, hy⟩ : ∃ y, xs[a] = y := ⟨_, rfl⟩
             rw [hx] at hi2; rw [hy] at hj2
             have f1 := hR.lt2 hix; have f2 := hR.lt2 hjx
             have hB := hR.blk
             have Hput : Hid (∀ W1 W2, Blk W1 g 113 (putAt cur (o + (j) * 2) [.int .i64 y.1, .int .i64 y.2]) → wr.grownBy W1 (some g) → Blk W2 g 113 (putAt (putAt cur (o + (j) * 2) [.int .i64 y.1, .int .i64 y.2]) (o + (a) * 2) [.int .i64 x.1, .int .i64 x.2]) → W1.grownBy W2 (some g) → Sw W0 113 g o cap xs0 W2) := Lib.hid (by intro W1 W2 h1 h2 h3 h4; subst hx hy; exact Sw.put2 hg hR hp hix hjx h1 h2 h3 h4)
             have hmA : True := trivial
             go_wp2
             have hX := Ext.todrew (Ext.refl wr)
             refine wp_rt (.take 0 (.take 1 (.take 2 (.take 3 (.take 4 (.take 5 (.take 6 (.take 7 (.take 8 (.take 9 (.take 10 (.take 11 (.take 12 (.one 13 (.take 14 (.take 15 (.take 16 .nil))))))))))))))))) (fun w' => Ext wr w') ?_ (fun hHeld => ?_)
             ·assumption
             repeat' first | ((with_reducible refine t_tk ?_); first | ((with_reducible refine t_tk (i := 2) ?_); refine tk (v := .bool true) ?_ hHeld ?_; (· (intro wq hSw; go_simp; first | done | omega | (simp; omega))); (try simp only [pS])) | ((with_reducible refine t_tk (i := 8) ?_); refine tw (v := .agg #[.int .i64 x.1, .int .i64 x.2]) ?_ hHeld ?_; (· exact run_ld (by rfl) (fun W h => ld_stand (hi2.ext h))); (try simp only [pS])) | ((with_reducible refine t_tk (i := 12) ?_); refine tw (v := .agg #[.int .i64 y.1, .int .i64 y.2]) ?_ hHeld ?_; (· exact run_ld (by rfl) (fun W h => ld_stand (hj2.ext h))); (try simp only [pS])) | (refine tk (v := ?_) ?_ hHeld ?_; rotate_left; (· (intro wq hSw; (try dsimp only at hSw); go_simp; (try with_reducible rfl))); (try simp only [pS])) | (refine tw (v := ?_) ?_ hHeld ?_; rotate_left; (· (intro wq hSw; (try dsimp only at hSw); go_simp; (try with_reducible rfl))); (try simp only [pS]))) | ((with_reducible refine t_on ?_); refine t_one (by simp only [gS]; rfl) ?_) | ((with_reducible refine q_gd (d := some 136) ?_); ((refine q_callG (by rfl) (hcmp _ (grown_then hg hX) x y) (by go_simp) ?_; rintro e Wc ⟨⟨r, rfl⟩, hEc⟩; refine ⟨_, rfl, ?_⟩; have hXc := hX.trans hEc; obtain ⟨bb, hbb⟩ : ∃ b, decide (r < 0) = b := ⟨_, rfl⟩))) | ((with_reducible refine q_nl ?_); clear hHeld; refine t_next ?_ (fun hHeld => ?_); (· assumption); (try simp only [pS])) | (with_reducible refine t_done ?_)
             have hSr := Sw.ext (⟨hg, cur, xs, hR, hp⟩ : Sw W0 113 g o cap xs0 wr) hXc
             clear hX hXc hi2 hj2 hB hR Hput hg hx hy hp f1 f2 hmA
             generalize Wc = wr at hSr ⊢
             cases bb
             rotate_left
             ·clear hbb
              have hgt : ¬ ((j : Int) < (i : Int)) := by omega
              go_wp2
              obtain ⟨⟨e1, e2, e3, e4, e5⟩, e6, b1, b2, b3, hle2⟩ := HI.out
              clear HI
              have q3 : i < xs0.length := by omega
              have z3 : (i : Int) < (xs0.length : Int) := by omega
              obtain ⟨hg, cur, xs, hR, hp⟩ := hSr
              have hlen := hp.length_eq
              have hix : i < xs.length := by omega
              have hjx : j < xs.length := by omega
              have hi2 := hR.at_ hix
              have hj2 := hR.at_ hjx
              obtain ⟨x, hx⟩ : ∃ x, xs[i] = x := ⟨_, rfl⟩
              obtain ⟨y, hy⟩ : ∃ y, xs[j] = y := ⟨_, rfl⟩
              rw [hx] at hi2; rw [hy] at hj2
              have f1 := hR.lt2 hix; have f2 := hR.lt2 hjx
              have hB := hR.blk
              have Hput : Hid (∀ W1 W2, Blk W1 g 113 (putAt cur (o + (i) * 2) [.int .i64 y.1, .int .i64 y.2]) → wr.grownBy W1 (some g) → Blk W2 g 113 (putAt (putAt cur (o + (i) * 2) [.int .i64 y.1, .int .i64 y.2]) (o + (j) * 2) [.int .i64 x.1, .int .i64 x.2]) → W1.grownBy W2 (some g) → Sw W0 113 g o cap xs0 W2) := Lib.hid (by intro W1 W2 h1 h2 h3 h4; subst hx hy; exact Sw.put2 hg hR hp hix hjx h1 h2 h3 h4)
              have hmA : True := trivial
              have hBd := hB.d; have hi2d := hi2.d; have hj2d := hj2.d
              refine wp_rt (.take 0 (.take 1 (.take 2 (.take 3 (.take 4 (.take 5 (.take 6 (.take 8 (.take 9 (.take 10 (.two 7 (.one 11 (.take 12 (.one 13 (.take 14 (.one 15 .nil))))) 11 (.one 7 (.take 12 (.one 13 (.take 14 (.one 15 .nil)))))))))))))))) (fun w' => True) ?_ (fun hHeld => ?_)
              ·exact True.intro
              repeat' first | ((with_reducible refine t_tk ?_); (refine tk (v := ?_) ?_ hHeld ?_; rotate_left; (· (intro wq hSw; (try dsimp only at hSw); go_simp; (try with_reducible rfl))); (try simp only [pS]))) | ((with_reducible refine t_on ?_); refine t_one (by simp only [gS]; rfl) ?_) | ((with_reducible refine t_tw ?_); refine t_two (by simp only [gS]; rfl) (by simp only [gS]; rfl) ?_ ?_) | ((with_reducible refine q_gd (d := some 152) ?_); (((with_reducible refine q_load (d := some 152) (hl := ld_stand hj2d) ?_ ?_); rfl))) | ((with_reducible refine q_gd (d := some 156) ?_); (((with_reducible refine q_load (d := some 156) (hl := ld_stand hi2d) ?_ ?_); rfl))) | ((with_reducible refine q_gd (d := none) ?_); ((first | ((with_reducible refine q_store (t := 113) (e := 113) (g := g) (off := o + j * 2) (n := 2) (v := .agg #[.int .i64 x.1, .int .i64 x.2]) ?_ ?_ hB1 sizeStand ?_ ?_ ?_ ?_); rfl; rfl; rfl; (rw [size_putAt (by exact f1)]; exact f2); (simp [Value.cells, Value.oneCell']); intro W2 hB2 hg2) | ((with_reducible refine q_store (t := 113) (e := 113) (g := g) (off := o + i * 2) (n := 2) (v := .agg #[.int .i64 y.1, .int .i64 y.2]) ?_ ?_ hBd sizeStand ?_ ?_ ?_ ?_); rfl; rfl; rfl; exact f1; (simp [Value.cells, Value.oneCell']); intro W1 hB1 hg1; replace hg1 := grown_undrew hg1)))) | ((with_reducible refine q_nl ?_); clear hHeld; refine t_next ?_ (fun hHeld => ?_); (· exact True.intro); (try simp only [pS])) | (with_reducible refine t_done ?_)
              all_goals
               have hSw := Hput.out _ _ hB1 hg1 hB2 hg2
               clear hB1 hB2 hg1 hg2 Hput hi2 hj2 hB hR hg hx hy hp f1 f2 hBd hi2d hj2d
               go_wp2
               go_roundw
               case rel => exact ⟨hSw, i + 1, j - 1, by go_num, by go_num, by omega, by omega, by omega, by omega, by omega⟩
               case measure => simp [intOf]; omega
             ·go_wp2
              go_roundw
              case rel => obtain ⟨⟨e1, e2, e3, e4, e5⟩, e6, b1, b2, b3, e10⟩ := HI.out; exact ⟨hSr, j - 1, by go_num, by omega, by omega, by omega⟩
              case measure => simp [intOf]; omega
            ·have hz2 : ¬ ((i : Int) ≤ (j : Int)) := by omega
             have hgt : (j : Int) < (i : Int) := by omega
             have q4 : j < xs0.length := by omega
             have z4 : (j : Int) < (xs0.length : Int) := by omega
             go_wp2
             have hX := Ext.todrew (Ext.refl wr)
             refine wp_rt (.take 0 (.take 1 (.take 2 (.take 3 (.take 4 (.take 5 (.take 6 (.take 7 (.take 8 (.take 9 (.take 10 (.take 11 (.take 12 (.one 13 (.take 14 (.take 15 (.take 16 .nil))))))))))))))))) (fun w' => Ext wr w') ?_ (fun hHeld => ?_)
             ·assumption
             repeat' first | ((with_reducible refine t_tk ?_); first | ((with_reducible refine t_tk (i := 2) ?_); refine tk (v := .bool false) ?_ hHeld ?_; (· (intro wq hSw; go_simp; first | done | omega | (simp; omega))); (try simp only [pS])) | (refine tk (v := ?_) ?_ hHeld ?_; rotate_left; (· (intro wq hSw; (try dsimp only at hSw); go_simp; (try with_reducible rfl))); (try simp only [pS])) | (refine ts hHeld ?_; (try simp only [pS]))) | ((with_reducible refine t_on ?_); refine t_one (by simp only [gS]; rfl) ?_) | ((with_reducible refine q_gd (d := some 136) ?_); refine q_skipG (by rfl) ?_) | ((with_reducible refine q_nl ?_); clear hHeld; refine t_next ?_ (fun hHeld => ?_); (· assumption); (try simp only [pS])) | (with_reducible refine t_done ?_)
             have hSr := Sw.ext hSr hX
             clear hX
             generalize wr.drew = wr at hSr ⊢
             go_wp2
             have HJ := Lib.hid (⟨b1, b2, hf0⟩ : _ ∧ _ ∧ _ ∧ _ ∧ _ ∧ _ ∧ _)
             obtain ⟨hg, cur, xs, hR, hp⟩ := hSr
             have hlen := hp.length_eq
             have hix : j < xs.length := by omega
             have hjx : a < xs.length := by omega
             have hi2 := hR.at_ hix
             have hj2 := hR.at_ hjx
             obtain ⟨x, hx⟩ : ∃ x, xs[j] = x := ⟨_, rfl⟩
             obtain ⟨y, hy⟩ : ∃ y, xs[a] = y := ⟨_, rfl⟩
             rw [hx] at hi2; rw [hy] at hj2
             have f1 := hR.lt2 hix; have f2 := hR.lt2 hjx
             have hB := hR.blk
             have Hput : Hid (∀ W1 W2, Blk W1 g 113 (putAt cur (o + (j) * 2) [.int .i64 y.1, .int .i64 y.2]) → wr.grownBy W1 (some g) → Blk W2 g 113 (putAt (putAt cur (o + (j) * 2) [.int .i64 y.1, .int .i64 y.2]) (o + (a) * 2) [.int .i64 x.1, .int .i64 x.2]) → W1.grownBy W2 (some g) → Sw W0 113 g o cap xs0 W2) := Lib.hid (by intro W1 W2 h1 h2 h3 h4; subst hx hy; exact Sw.put2 hg hR hp hix hjx h1 h2 h3 h4)
             have hmA : True := trivial
             have hBd := hB.d; have hi2d := hi2.d; have hj2d := hj2.d
             refine wp_rt (.take 0 (.take 1 (.take 2 (.take 3 (.take 4 (.take 5 (.take 6 (.take 8 (.take 9 (.take 10 (.two 7 (.one 11 (.take 12 (.one 13 (.take 14 (.one 15 .nil))))) 11 (.one 7 (.take 12 (.one 13 (.take 14 (.one 15 .nil)))))))))))))))) (fun w' => True) ?_ (fun hHeld => ?_)
             ·exact True.intro
             repeat' first | ((with_reducible refine t_tk ?_); (refine tk (v := ?_) ?_ hHeld ?_; rotate_left; (· (intro wq hSw; (try dsimp only at hSw); go_simp; (try with_reducible rfl))); (try simp only [pS]))) | ((with_reducible refine t_on ?_); refine t_one (by simp only [gS]; rfl) ?_) | ((with_reducible refine t_tw ?_); refine t_two (by simp only [gS]; rfl) (by simp only [gS]; rfl) ?_ ?_) | ((with_reducible refine q_gd (d := some 170) ?_); (((with_reducible refine q_load (d := some 170) (hl := ld_stand hj2d) ?_ ?_); rfl))) | ((with_reducible refine q_gd (d := some 174) ?_); (((with_reducible refine q_load (d := some 174) (hl := ld_stand hi2d) ?_ ?_); rfl))) | ((with_reducible refine q_gd (d := none) ?_); ((first | ((with_reducible refine q_store (t := 113) (e := 113) (g := g) (off := o + a * 2) (n := 2) (v := .agg #[.int .i64 x.1, .int .i64 x.2]) ?_ ?_ hB1 sizeStand ?_ ?_ ?_ ?_); rfl; rfl; rfl; (rw [size_putAt (by exact f1)]; exact f2); (simp [Value.cells, Value.oneCell']); intro W2 hB2 hg2) | ((with_reducible refine q_store (t := 113) (e := 113) (g := g) (off := o + j * 2) (n := 2) (v := .agg #[.int .i64 y.1, .int .i64 y.2]) ?_ ?_ hBd sizeStand ?_ ?_ ?_ ?_); rfl; rfl; rfl; exact f1; (simp [Value.cells, Value.oneCell']); intro W1 hB1 hg1; replace hg1 := grown_undrew hg1)))) | ((with_reducible refine q_nl ?_); clear hHeld; refine t_next ?_ (fun hHeld => ?_); (· exact True.intro); (try simp only [pS])) | (with_reducible refine t_done ?_)
             all_goals
              have hSw := Hput.out _ _ hB1 hg1 hB2 hg2
              clear hB1 hB2 hg1 hg2 Hput
              go_wp2
              go_ret2
              exact ⟨hSw, j, _, rfl, by omega, by omega⟩
      ·go_wp2
       go_roundw
       case rel => obtain ⟨⟨e1, e2, e3, e4, e5⟩, e6, b1, b2, b3, e10⟩ := HI.out; exact ⟨hSr, j - 1, by go_num, by omega, by omega, by omega⟩
       case measure => simp [intOf]; omega
     ·have hz2 : ¬ ((i : Int) ≤ (j : Int)) := by omega
      have hgt : (j : Int) < (i : Int) := by omega
      have q4 : j < xs0.length := by omega
      have z4 : (j : Int) < (xs0.length : Int) := by omega
      go_wp2
      have hX := Ext.todrew (Ext.refl wr)
      refine wp_rt (.take 0 (.take 1 (.take 2 (.take 3 (.take 4 (.take 5 (.take 6 (.take 7 (.take 8 (.take 9 (.take 10 (.take 11 (.take 12 (.one 13 (.take 14 (.take 15 (.take 16 .nil))))))))))))))))) (fun w' => Ext wr w') ?_ (fun hHeld => ?_)
      ·assumption
      repeat' first | ((with_reducible refine t_tk ?_); first | ((with_reducible refine t_tk (i := 2) ?_); refine tk (v := .bool false) ?_ hHeld ?_; (· (intro wq hSw; go_simp; first | done | omega | (simp; omega))); (try simp only [pS])) | (refine tk (v := ?_) ?_ hHeld ?_; rotate_left; (· (intro wq hSw; (try dsimp only at hSw); go_simp; (try with_reducible rfl))); (try simp only [pS])) | (refine ts hHeld ?_; (try simp only [pS]))) | ((with_reducible refine t_on ?_); refine t_one (by simp only [gS]; rfl) ?_) | ((with_reducible refine q_gd (d := some 63) ?_); refine q_skipG (by rfl) ?_) | ((with_reducible refine q_nl ?_); clear hHeld; refine t_next ?_ (fun hHeld => ?_); (· assumption); (try simp only [pS])) | (with_reducible refine t_done ?_)
      have hSr := Sw.ext hSr hX
      clear hX
      generalize wr.drew = wr at hSr ⊢
      go_wp2
      have HJ := Lib.hid (⟨b1, b2, hf0⟩ : _ ∧ _ ∧ _ ∧ _ ∧ _ ∧ _ ∧ _)
      obtain ⟨hg, cur, xs, hR, hp⟩ := hSr
      have hlen := hp.length_eq
      have hix : j < xs.length := by omega
      have hjx : a < xs.length := by omega
      have hi2 := hR.at_ hix
      have hj2 := hR.at_ hjx
      obtain ⟨x, hx⟩ : ∃ x, xs[j] = x := ⟨_, rfl⟩
      obtain ⟨y, hy⟩ : ∃ y, xs[a] = y := ⟨_, rfl⟩
      rw [hx] at hi2; rw [hy] at hj2
      have f1 := hR.lt2 hix; have f2 := hR.lt2 hjx
      have hB := hR.blk
      have Hput : Hid (∀ W1 W2, Blk W1 g 113 (putAt cur (o + (j) * 2) [.int .i64 y.1, .int .i64 y.2]) → wr.grownBy W1 (some g) → Blk W2 g 113 (putAt (putAt cur (o + (j) * 2) [.int .i64 y.1, .int .i64 y.2]) (o + (a) * 2) [.int .i64 x.1, .int .i64 x.2]) → W1.grownBy W2 (some g) → Sw W0 113 g o cap xs0 W2) := Lib.hid (by intro W1 W2 h1 h2 h3 h4; subst hx hy; exact Sw.put2 hg hR hp hix hjx h1 h2 h3 h4)
      have hmA : True := trivial
      have hBd := hB.d; have hi2d := hi2.d; have hj2d := hj2.d
      refine wp_rt (.take 0 (.take 1 (.take 2 (.take 3 (.take 4 (.take 5 (.take 6 (.take 8 (.take 9 (.take 10 (.two 7 (.one 11 (.take 12 (.one 13 (.take 14 (.one 15 .nil))))) 11 (.one 7 (.take 12 (.one 13 (.take 14 (.one 15 .nil)))))))))))))))) (fun w' => True) ?_ (fun hHeld => ?_)
      ·exact True.intro
      repeat' first | ((with_reducible refine t_tk ?_); (refine tk (v := ?_) ?_ hHeld ?_; rotate_left; (· (intro wq hSw; (try dsimp only at hSw); go_simp; (try with_reducible rfl))); (try simp only [pS]))) | ((with_reducible refine t_on ?_); refine t_one (by simp only [gS]; rfl) ?_) | ((with_reducible refine t_tw ?_); refine t_two (by simp only [gS]; rfl) (by simp only [gS]; rfl) ?_ ?_) | ((with_reducible refine q_gd (d := some 79) ?_); (((with_reducible refine q_load (d := some 79) (hl := ld_stand hj2d) ?_ ?_); rfl))) | ((with_reducible refine q_gd (d := some 83) ?_); (((with_reducible refine q_load (d := some 83) (hl := ld_stand hi2d) ?_ ?_); rfl))) | ((with_reducible refine q_gd (d := none) ?_); ((first | ((with_reducible refine q_store (t := 113) (e := 113) (g := g) (off := o + a * 2) (n := 2) (v := .agg #[.int .i64 x.1, .int .i64 x.2]) ?_ ?_ hB1 sizeStand ?_ ?_ ?_ ?_); rfl; rfl; rfl; (rw [size_putAt (by exact f1)]; exact f2); (simp [Value.cells, Value.oneCell']); intro W2 hB2 hg2) | ((with_reducible refine q_store (t := 113) (e := 113) (g := g) (off := o + j * 2) (n := 2) (v := .agg #[.int .i64 y.1, .int .i64 y.2]) ?_ ?_ hBd sizeStand ?_ ?_ ?_ ?_); rfl; rfl; rfl; exact f1; (simp [Value.cells, Value.oneCell']); intro W1 hB1 hg1; replace hg1 := grown_undrew hg1)))) | ((with_reducible refine q_nl ?_); clear hHeld; refine t_next ?_ (fun hHeld => ?_); (· exact True.intro); (try simp only [pS])) | (with_reducible refine t_done ?_)
      all_goals
       have hSw := Hput.out _ _ hB1 hg1 hB2 hg2
       clear hB1 hB2 hg1 hg2 Hput
       go_wp2
       go_ret2
       exact ⟨hSw, j, _, rfl, by omega, by omega⟩
end Go.St
end
