/- Chapter 03: contracts of functions of the program and of the reference, and plain laws (out of SQ6 SQ7). No condition of its own. -/
import Derived.BigQuiet
import Derived.Deep.AppendLies
import Derived.Deep.Draws
import Derived.Deep.LoopGhost
import Derived.Deep.QuietTactic
import Derived.Deep.RegionHeld3
import Derived.Laws.RangeAny
import Derived.Laws.StructEq
import Derived.Lib.AtoiAll
import Derived.Lib.Hide
import Derived.Lib.ItoaMem
import Derived.Lib.SliceRun
import Derived.Lib.Split
import Derived.Lib.Tables
import Derived.Maps.AppendAt
import Derived.OrdersHeld
import Derived.Shelf.Abstract
import Derived.Test.YtfjnacajjpaeiaaGreatDoorProg
import Derived.WalkKit
import Derived.WalkLawsBesides
import Derived.WalkSpells
import Derived.Test.YtfjnacajjpaeiaaGreatDoorP01
import Derived.Test.YtfjnacajjpaeiaaGreatDoorP02
import Derived.Test.YtfjnacajjpaeiaaGreatDoorP03
import Derived.Test.YtfjnacajjpaeiaaGreatDoorP04
import Derived.Test.YtfjnacajjpaeiaaGreatDoorP05
import Derived.Test.YtfjnacajjpaeiaaGreatDoorP07
import Derived.Test.YtfjnacajjpaeiaaGreatDoorP09
import Derived.Test.YtfjnacajjpaeiaaGreatDoorP10
set_option maxRecDepth 100000
set_option linter.unusedSimpArgs false
set_option linter.unusedVariables false
section
namespace Go.St
open Go Go.Bp Go.RowKit Go.Proofs
set_option maxHeartbeats 16000000 in
theorem partial_any (W0 : World) (p : Value) (g o cap : Nat) (xs0 : List (Int × Int)) (hcmp : CmpQ W0 g p) (a b : Nat) (w : World) (hS : Sw W0 113 g o cap xs0 w) (hl : xs0.length ≤ 1000000) (hb : b ≤ xs0.length) (hab : a < b) :
  Calls Tryz.prog 143 #[.slice (some ⟨g, o, none⟩) xs0.length cap, .int .i64 a, .int .i64 b, .func (.func 97) #[p] #[]] w (fun e w' => Sw W0 113 g o cap xs0 w' ∧ ∃ c : Bool, e = .returned (.bool c)) := by
 go_enter Tryz.func143, Tryz.ntmps143
 go_wp2
 go_loopw [10, 9, 11, 12] (fun vk vi _ _ wr => Sw W0 113 g o cap xs0 wr ∧ ∃ k i : Nat, vk = .int .i64 k ∧ vi = .int .i64 i ∧ k ≤ 5 ∧ a + 1 ≤ i ∧ i ≤ b) (fun vk _ _ _ _ => 5 - (intOf vk).toNat)
 case atStart => exact ⟨hS, 0, a + 1, rfl, by go_num, by omega, by omega, by omega⟩
 case round =>
  obtain ⟨hSr, k, i0, rfl, rfl, hk, hi1, hi2⟩ := hrel
  clear hS
  by_cases hk5 : k < 5
  ·go_wp2
   go_loopw [9] (fun vi wr => Sw W0 113 g o cap xs0 wr ∧ ∃ i : Nat, vi = .int .i64 i ∧ a + 1 ≤ i ∧ i ≤ b) (fun vi _ => b - (intOf vi).toNat)
   case atStart => exact ⟨hSr, i0, rfl, by omega, by omega⟩
   case round =>
    clear hSr hi1 hi2
    obtain ⟨hSr, i, rfl, c1, c2⟩ := hrel
    obtain ⟨im, rfl⟩ : ∃ m, i = m + 1 := ⟨i - 1, by omega⟩
    have wi : IntKind.i64.wrap (im : Int) = im := wrapI (by omega) (by omega)
    have z0 : (0 : Int) ≤ (im : Int) + 1 := by omega
    by_cases hib : im + 1 < b
    ·have hzz : (im : Int) + 1 < (b : Int) := by omega
     have z1 : (im : Int) + 1 < (xs0.length : Int) := by omega
     have z2 : (im : Int) < (xs0.length : Int) := by omega
     have Hi := Lib.hid (⟨c1, c2, hib⟩ : _ ∧ _ ∧ _)
     obtain ⟨hg, cur, xs, hR, hp⟩ := hSr
     have hlen := hp.length_eq
     have hix : im + 1 < xs.length := by omega
     have hjx : im < xs.length := by omega
     have hi2 := hR.at_ hix
     have hj2 := hR.at_ hjx
     obtain ⟨x, hx⟩ : ∃ x, xs[im + 1] = x := ⟨_, rfl⟩
     obtain ⟨y, hy⟩ : ∃ y, xs[im] = y := ⟨_, rfl⟩
     rw [hx] at hi2; rw [hy] at hj2
     have f1 := hR.lt2 hix; have f2 := hR.lt2 hjx
     have hB := hR.blk
     have Hput : Hid (∀ W1 W2, Blk W1 g 113 (putAt cur (o + (im + 1) * 2) [.int .i64 y.1, .int .i64 y.2]) → wr.grownBy W1 (some g) → Blk W2 g 113 (putAt (putAt cur (o + (im + 1) * 2) [.int .i64 y.1, .int .i64 y.2]) (o + (im) * 2) [.int .i64 x.1, .int .i64 x.2]) → W1.grownBy W2 (some g) → Sw W0 113 g o cap xs0 W2) := Lib.hid (by intro W1 W2 h1 h2 h3 h4; subst hx hy; exact Sw.put2 hg hR hp hix hjx h1 h2 h3 h4)
     have hmA : True := trivial
     clear c1 c2 hib
     go_wp2
     have hX := Ext.todrew (Ext.refl wr)
     refine wp_rt (.take 0 (.take 1 (.take 2 (.take 3 (.take 4 (.take 5 (.take 6 (.take 7 (.take 8 (.take 9 (.take 10 (.take 11 (.take 12 (.take 13 (.one 14 (.take 15 (.take 16 (.take 17 .nil)))))))))))))))))) (fun w' => Ext wr w') ?_ (fun hHeld => ?_)
     ·assumption
     repeat' first | ((with_reducible refine t_tk ?_); first | ((with_reducible refine t_tk (i := 2) ?_); refine tk (v := .bool true) ?_ hHeld ?_; (· (intro wq hSw; go_simp; first | done | omega | (simp; omega))); (try simp only [pS])) | ((with_reducible refine t_tk (i := 8) ?_); refine tw (v := .agg #[.int .i64 x.1, .int .i64 x.2]) ?_ hHeld ?_; (· exact run_ld (by rfl) (fun W h => ld_stand (hi2.ext h))); (try simp only [pS])) | ((with_reducible refine t_tk (i := 13) ?_); refine tw (v := .agg #[.int .i64 y.1, .int .i64 y.2]) ?_ hHeld ?_; (· exact run_ld (by rfl) (fun W h => ld_stand (hj2.ext h))); (try simp only [pS])) | (refine tk (v := ?_) ?_ hHeld ?_; rotate_left; (· (intro wq hSw; (try dsimp only at hSw); go_simp; (try with_reducible rfl))); (try simp only [pS])) | (refine tw (v := ?_) ?_ hHeld ?_; rotate_left; (· (intro wq hSw; (try dsimp only at hSw); go_simp; (try with_reducible rfl))); (try simp only [pS]))) | ((with_reducible refine t_on ?_); refine t_one (by simp only [gS]; rfl) ?_) | ((with_reducible refine q_gd (d := some 33) ?_); ((refine q_callG (by rfl) (hcmp _ (grown_then hg hX) x y) (by go_simp) ?_; rintro e Wc ⟨⟨r, rfl⟩, hEc⟩; refine ⟨_, rfl, ?_⟩; have hXc := hX.trans hEc; obtain ⟨bb, hbb⟩ : ∃ b, decide (r < 0) = b := ⟨_, rfl⟩))) | ((with_reducible refine q_nl ?_); clear hHeld; refine t_next ?_ (fun hHeld => ?_); (· assumption); (try simp only [pS])) | (with_reducible refine t_done ?_)
     have hSr := Sw.ext (⟨hg, cur, xs, hR, hp⟩ : Sw W0 113 g o cap xs0 wr) hXc
     clear hX hXc hi2 hj2 hB hR Hput hg hx hy hp f1 f2 hmA
     generalize Wc = wr at hSr ⊢
     cases bb
     ·go_wp2
      go_roundw
      case rel => obtain ⟨c1, c2, hib⟩ := Hi.out; exact ⟨hSr, im + 2, by go_num, by omega, by omega⟩
      case measure => obtain ⟨c1, c2, hib⟩ := Hi.out; simp [intOf]; omega
     ·have hne : ((im : Int) + 1 == (b : Int)) = false := by simp; omega
      have w50 : IntKind.i64.wrap ((b : Int) - (a : Int)) = (b : Int) - (a : Int) := wrapI (by omega) (by omega)
      by_cases h50 : (b : Int) - (a : Int) < 50
      ·go_wp2
       go_ret
       exact ⟨hSr, _, rfl⟩
      ·go_wp2
       obtain ⟨hg, cur, xs, hR, hp⟩ := hSr
       have hlen := hp.length_eq
       have hix : im + 1 < xs.length := by omega
       have hjx : im < xs.length := by omega
       have hi2 := hR.at_ hix
       have hj2 := hR.at_ hjx
       obtain ⟨x, hx⟩ : ∃ x, xs[im + 1] = x := ⟨_, rfl⟩
       obtain ⟨y, hy⟩ : ∃ y, xs[im] = y := ⟨_, rfl⟩
       rw [hx] at hi2; rw [hy] at hj2
       have f1 := hR.lt2 hix; have f2 := hR.lt2 hjx
       have hB := hR.blk
       have Hput : Hid (∀ W1 W2, Blk W1 g 113 (putAt cur (o + (im + 1) * 2) [.int .i64 y.1, .int .i64 y.2]) → wr.grownBy W1 (some g) → Blk W2 g 113 (putAt (putAt cur (o + (im + 1) * 2) [.int .i64 y.1, .int .i64 y.2]) (o + (im) * 2) [.int .i64 x.1, .int .i64 x.2]) → W1.grownBy W2 (some g) → Sw W0 113 g o cap xs0 W2) := Lib.hid (by intro W1 W2 h1 h2 h3 h4; subst hx hy; exact Sw.put2 hg hR hp hix hjx h1 h2 h3 h4)
       have hmA : True := trivial
       apply wp_cut0 (R := fun w' => Sw W0 113 g o cap xs0 w')
       case h =>
        have hBd := hB.d; have hi2d := hi2.d; have hj2d := hj2.d
        refine wp_rt (.take 0 (.take 1 (.take 2 (.take 3 (.take 4 (.take 5 (.take 6 (.take 7 (.take 8 (.take 10 (.take 11 (.take 12 (.two 9 (.one 13 (.take 14 (.one 15 (.take 16 (.one 17 .nil))))) 13 (.one 9 (.take 14 (.one 15 (.take 16 (.one 17 .nil)))))))))))))))))) (fun w' => True) ?_ (fun hHeld => ?_)
        ·exact True.intro
        repeat' first | ((with_reducible refine t_tk ?_); (refine tk (v := ?_) ?_ hHeld ?_; rotate_left; (· (intro wq hSw; (try dsimp only at hSw); go_simp; (try with_reducible rfl))); (try simp only [pS]))) | ((with_reducible refine t_on ?_); refine t_one (by simp only [gS]; rfl) ?_) | ((with_reducible refine t_tw ?_); refine t_two (by simp only [gS]; rfl) (by simp only [gS]; rfl) ?_ ?_) | ((with_reducible refine q_gd (d := some 55) ?_); (((with_reducible refine q_load (d := some 55) (hl := ld_stand hj2d) ?_ ?_); rfl))) | ((with_reducible refine q_gd (d := some 59) ?_); (((with_reducible refine q_load (d := some 59) (hl := ld_stand hi2d) ?_ ?_); rfl))) | ((with_reducible refine q_gd (d := none) ?_); ((first | ((with_reducible refine q_store (t := 113) (e := 113) (g := g) (off := o + im * 2) (n := 2) (v := .agg #[.int .i64 x.1, .int .i64 x.2]) ?_ ?_ hB1 sizeStand ?_ ?_ ?_ ?_); rfl; rfl; rfl; (rw [size_putAt (by exact f1)]; exact f2); (simp [Value.cells, Value.oneCell']); intro W2 hB2 hg2) | ((with_reducible refine q_store (t := 113) (e := 113) (g := g) (off := o + (im + 1) * 2) (n := 2) (v := .agg #[.int .i64 y.1, .int .i64 y.2]) ?_ ?_ hBd sizeStand ?_ ?_ ?_ ?_); rfl; rfl; rfl; exact f1; (simp [Value.cells, Value.oneCell']); intro W1 hB1 hg1; replace hg1 := grown_undrew hg1)))) | ((with_reducible refine q_nl ?_); clear hHeld; refine t_next ?_ (fun hHeld => ?_); (· exact True.intro); (try simp only [pS])) | (with_reducible refine t_done ?_)
        all_goals exact ⟨rfl, rfl, Hput.out _ _ hB1 hg1 hB2 hg2⟩
       case k =>
        intro Wq hSr
        obtain ⟨c1, c2, hib⟩ := Hi.out
        clear Hput hi2 hj2 hB hR hg hx hy hp f1 f2
        obtain ⟨i, hi⟩ : ∃ i : Nat, i = im + 1 := ⟨_, rfl⟩
        rw [show (im : Int) + 1 = (i : Int) by omega]
        have hib2 : i < b := by omega
        have hai : a + 1 ≤ i := by omega
        clear hi Hi c1 c2 hib hne z0 z1 z2 hzz wi
        have v1 : IntKind.i64.wrap ((b : Int) - (i : Int)) = (b : Int) - (i : Int) := wrapI (by omega) (by omega)
        by_cases hbi : i + 2 ≤ b
        ·have v2 : (2 : Int) ≤ (b : Int) - (i : Int) := by omega
         by_cases hia : a + 2 ≤ i
         ·have y1 : IntKind.i64.wrap ((i : Int) - (a : Int)) = (i : Int) - (a : Int) := wrapI (by omega) (by omega)
          have y2 : (2 : Int) ≤ (i : Int) - (a : Int) := by omega
          go_wp2
          go_loopw [11] (fun vj wr => Sw W0 113 g o cap xs0 wr ∧ ∃ j : Nat, vj = .int .i64 j ∧ j + 1 ≤ i) (fun vj _ => (intOf vj).toNat)
          case atStart => exact ⟨hSr, i - 1, by go_num, by omega⟩
          case round =>
           clear hSr
           obtain ⟨hSr, j, rfl, d1⟩ := hrel
           clear y1 y2
           by_cases hj1 : 1 ≤ j
           ·obtain ⟨jm, rfl⟩ : ∃ m, j = m + 1 := ⟨j - 1, by omega⟩
            have z3 : (jm : Int) + 1 < (xs0.length : Int) := by omega
            have z4 : (jm : Int) < (xs0.length : Int) := by omega
            have z5 : (0 : Int) ≤ (jm : Int) + 1 := by omega
            have wj : IntKind.i64.wrap (jm : Int) = jm := wrapI (by omega) (by omega)
            obtain ⟨hg, cur, xs, hR, hp⟩ := hSr
            have hlen := hp.length_eq
            have hix : jm + 1 < xs.length := by omega
            have hjx : jm < xs.length := by omega
            have hi2 := hR.at_ hix
            have hj2 := hR.at_ hjx
            obtain ⟨x, hx⟩ : ∃ x, xs[jm + 1] = x := ⟨_, rfl⟩
            obtain ⟨y, hy⟩ : ∃ y, xs[jm] = y := ⟨_, rfl⟩
            rw [hx] at hi2; rw [hy] at hj2
            have f1 := hR.lt2 hix; have f2 := hR.lt2 hjx
            have hB := hR.blk
            have Hput : Hid (∀ W1 W2, Blk W1 g 113 (putAt cur (o + (jm + 1) * 2) [.int .i64 y.1, .int .i64 y.2]) → wr.grownBy W1 (some g) → Blk W2 g 113 (putAt (putAt cur (o + (jm + 1) * 2) [.int .i64 y.1, .int .i64 y.2]) (o + (jm) * 2) [.int .i64 x.1, .int .i64 x.2]) → W1.grownBy W2 (some g) → Sw W0 113 g o cap xs0 W2) := Lib.hid (by intro W1 W2 h1 h2 h3 h4; subst hx hy; exact Sw.put2 hg hR hp hix hjx h1 h2 h3 h4)
            have hmA : True := trivial
            go_wp2
            have hX := Ext.todrew (Ext.refl wr)
            refine wp_rt (.take 0 (.take 1 (.take 2 (.take 3 (.take 4 (.take 5 (.take 6 (.take 7 (.take 8 (.take 9 (.one 10 (.take 11 (.take 12 .nil))))))))))))) (fun w' => Ext wr w') ?_ (fun hHeld => ?_)
            ·assumption
            repeat' first | ((with_reducible refine t_tk ?_); first | ((with_reducible refine t_tk (i := 4) ?_); refine tk (v := .agg #[.int .i64 x.1, .int .i64 x.2]) ?_ hHeld ?_; (· exact run_ld (by rfl) (fun W h => ld_stand (hi2.ext h))); (try simp only [pS])) | ((with_reducible refine t_tk (i := 9) ?_); refine tk (v := .agg #[.int .i64 y.1, .int .i64 y.2]) ?_ hHeld ?_; (· exact run_ld (by rfl) (fun W h => ld_stand (hj2.ext h))); (try simp only [pS])) | (refine tk (v := ?_) ?_ hHeld ?_; rotate_left; (· (intro wq hSw; (try dsimp only at hSw); go_simp; (try with_reducible rfl))); (try simp only [pS]))) | ((with_reducible refine t_on ?_); refine t_one (by simp only [gS]; rfl) ?_) | ((with_reducible refine q_gd (d := some 82) ?_); ((refine q_call (by rfl) (hcmp _ (grown_then hg hX) x y) (by go_simp) ?_; rintro e Wc ⟨⟨r, rfl⟩, hEc⟩; refine ⟨_, rfl, ?_⟩; have hXc := hX.trans hEc; obtain ⟨bb, hbb⟩ : ∃ b, decide (r < 0) = b := ⟨_, rfl⟩))) | ((with_reducible refine q_nl ?_); clear hHeld; refine t_next ?_ (fun hHeld => ?_); (· assumption); (try simp only [pS])) | (with_reducible refine t_done ?_)
            have hSr := Sw.ext (⟨hg, cur, xs, hR, hp⟩ : Sw W0 113 g o cap xs0 wr) hXc
            clear hX hXc hi2 hj2 hB hR Hput hg hx hy hp f1 f2 hmA
            generalize Wc = wr at hSr ⊢
            cases bb
            ·go_wp2
             go_loopw [12] (fun vj wr => Sw W0 113 g o cap xs0 wr ∧ ∃ j : Nat, vj = .int .i64 j ∧ i + 1 ≤ j ∧ j ≤ b) (fun vj _ => b - (intOf vj).toNat)
             case atStart => exact ⟨hSr, i + 1, by go_num, by omega, by omega⟩
             case round =>
              clear hSr
              obtain ⟨hSr, j, rfl, d1, d2⟩ := hrel
              by_cases hjb : j < b
              ·obtain ⟨jm, rfl⟩ : ∃ m, j = m + 1 := ⟨j - 1, by omega⟩
               have z3 : (jm : Int) + 1 < (xs0.length : Int) := by omega
               have z4 : (jm : Int) < (xs0.length : Int) := by omega
               have z5 : (0 : Int) ≤ (jm : Int) + 1 := by omega
               have z6 : (jm : Int) + 1 < (b : Int) := by omega
               have wj : IntKind.i64.wrap (jm : Int) = jm := wrapI (by omega) (by omega)
               have HJ := Lib.hid (⟨d1, d2, hjb⟩ : _ ∧ _ ∧ _)
               obtain ⟨hg, cur, xs, hR, hp⟩ := hSr
               have hlen := hp.length_eq
               have hix : jm + 1 < xs.length := by omega
               have hjx : jm < xs.length := by omega
               have hi2 := hR.at_ hix
               have hj2 := hR.at_ hjx
               obtain ⟨x, hx⟩ : ∃ x, xs[jm + 1] = x := ⟨_, rfl⟩
               obtain ⟨y, hy⟩ : ∃ y, xs[jm] = y := ⟨_, rfl⟩
               rw [hx] at hi2; rw [hy] at hj2
               have f1 := hR.lt2 hix; have f2 := hR.lt2 hjx
               have hB := hR.blk
               have Hput : Hid (∀ W1 W2, Blk W1 g 113 (putAt cur (o + (jm + 1) * 2) [.int .i64 y.1, .int .i64 y.2]) → wr.grownBy W1 (some g) → Blk W2 g 113 (putAt (putAt cur (o + (jm + 1) * 2) [.int .i64 y.1, .int .i64 y.2]) (o + (jm) * 2) [.int .i64 x.1, .int .i64 x.2]) → W1.grownBy W2 (some g) → Sw W0 113 g o cap xs0 W2) := Lib.hid (by intro W1 W2 h1 h2 h3 h4; subst hx hy; exact Sw.put2 hg hR hp hix hjx h1 h2 h3 h4)
               have hmA : True := trivial
               clear d1 d2 hjb
               go_wp2
               have hX := Ext.todrew (Ext.refl wr)
               refine wp_rt (.take 0 (.take 1 (.take 2 (.take 3 (.take 4 (.take 5 (.take 6 (.take 7 (.take 8 (.take 9 (.one 10 (.take 11 (.take 12 .nil))))))))))))) (fun w' => Ext wr w') ?_ (fun hHeld => ?_)
               ·assumption
               repeat' first | ((with_reducible refine t_tk ?_); first | ((with_reducible refine t_tk (i := 4) ?_); refine tk (v := .agg #[.int .i64 x.1, .int .i64 x.2]) ?_ hHeld ?_; (· exact run_ld (by rfl) (fun W h => ld_stand (hi2.ext h))); (try simp only [pS])) | ((with_reducible refine t_tk (i := 9) ?_); refine tk (v := .agg #[.int .i64 y.1, .int .i64 y.2]) ?_ hHeld ?_; (· exact run_ld (by rfl) (fun W h => ld_stand (hj2.ext h))); (try simp only [pS])) | (refine tk (v := ?_) ?_ hHeld ?_; rotate_left; (· (intro wq hSw; (try dsimp only at hSw); go_simp; (try with_reducible rfl))); (try simp only [pS]))) | ((with_reducible refine t_on ?_); refine t_one (by simp only [gS]; rfl) ?_) | ((with_reducible refine q_gd (d := some 122) ?_); ((refine q_call (by rfl) (hcmp _ (grown_then hg hX) x y) (by go_simp) ?_; rintro e Wc ⟨⟨r, rfl⟩, hEc⟩; refine ⟨_, rfl, ?_⟩; have hXc := hX.trans hEc; obtain ⟨bb, hbb⟩ : ∃ b, decide (r < 0) = b := ⟨_, rfl⟩))) | ((with_reducible refine q_nl ?_); clear hHeld; refine t_next ?_ (fun hHeld => ?_); (· assumption); (try simp only [pS])) | (with_reducible refine t_done ?_)
               have hSr := Sw.ext (⟨hg, cur, xs, hR, hp⟩ : Sw W0 113 g o cap xs0 wr) hXc
               clear hX hXc hi2 hj2 hB hR Hput hg hx hy hp f1 f2 hmA
               generalize Wc = wr at hSr ⊢
               cases bb
               ·go_wp2
                go_roundw
                case rel => exact ⟨hSr, k + 1, i, by go_num, by first | rfl | go_num, by omega, by omega, by omega⟩
                case measure => simp [intOf]; omega
               ·go_wp2
                obtain ⟨hg, cur, xs, hR, hp⟩ := hSr
                have hlen := hp.length_eq
                have hix : jm + 1 < xs.length := by omega
                have hjx : jm < xs.length := by omega
                have hi2 := hR.at_ hix
                have hj2 := hR.at_ hjx
                obtain ⟨x, hx⟩ : ∃ x, xs[jm + 1] = x := ⟨_, rfl⟩
                obtain ⟨y, hy⟩ : ∃ y, xs[jm] = y := ⟨_, rfl⟩
                rw [hx] at hi2; rw [hy] at hj2
                have f1 := hR.lt2 hix; have f2 := hR.lt2 hjx
                have hB := hR.blk
                have Hput : Hid (∀ W1 W2, Blk W1 g 113 (putAt cur (o + (jm + 1) * 2) [.int .i64 y.1, .int .i64 y.2]) → wr.grownBy W1 (some g) → Blk W2 g 113 (putAt (putAt cur (o + (jm + 1) * 2) [.int .i64 y.1, .int .i64 y.2]) (o + (jm) * 2) [.int .i64 x.1, .int .i64 x.2]) → W1.grownBy W2 (some g) → Sw W0 113 g o cap xs0 W2) := Lib.hid (by intro W1 W2 h1 h2 h3 h4; subst hx hy; exact Sw.put2 hg hR hp hix hjx h1 h2 h3 h4)
                have hmA : True := trivial
                have hBd := hB.d; have hi2d := hi2.d; have hj2d := hj2.d
                refine wp_rt (.take 0 (.take 1 (.take 2 (.take 3 (.take 4 (.take 5 (.take 6 (.take 7 (.take 8 (.take 10 (.take 11 (.take 12 (.two 9 (.one 13 (.take 14 (.one 15 (.take 16 (.one 17 .nil))))) 13 (.one 9 (.take 14 (.one 15 (.take 16 (.one 17 .nil)))))))))))))))))) (fun w' => True) ?_ (fun hHeld => ?_)
                ·exact True.intro
                repeat' first | ((with_reducible refine t_tk ?_); (refine tk (v := ?_) ?_ hHeld ?_; rotate_left; (· (intro wq hSw; (try dsimp only at hSw); go_simp; (try with_reducible rfl))); (try simp only [pS]))) | ((with_reducible refine t_on ?_); refine t_one (by simp only [gS]; rfl) ?_) | ((with_reducible refine t_tw ?_); refine t_two (by simp only [gS]; rfl) (by simp only [gS]; rfl) ?_ ?_) | ((with_reducible refine q_gd (d := some 134) ?_); (((with_reducible refine q_load (d := some 134) (hl := ld_stand hj2d) ?_ ?_); rfl))) | ((with_reducible refine q_gd (d := some 138) ?_); (((with_reducible refine q_load (d := some 138) (hl := ld_stand hi2d) ?_ ?_); rfl))) | ((with_reducible refine q_gd (d := none) ?_); ((first | ((with_reducible refine q_store (t := 113) (e := 113) (g := g) (off := o + jm * 2) (n := 2) (v := .agg #[.int .i64 x.1, .int .i64 x.2]) ?_ ?_ hB1 sizeStand ?_ ?_ ?_ ?_); rfl; rfl; rfl; (rw [size_putAt (by exact f1)]; exact f2); (simp [Value.cells, Value.oneCell']); intro W2 hB2 hg2) | ((with_reducible refine q_store (t := 113) (e := 113) (g := g) (off := o + (jm + 1) * 2) (n := 2) (v := .agg #[.int .i64 y.1, .int .i64 y.2]) ?_ ?_ hBd sizeStand ?_ ?_ ?_ ?_); rfl; rfl; rfl; exact f1; (simp [Value.cells, Value.oneCell']); intro W1 hB1 hg1; replace hg1 := grown_undrew hg1)))) | ((with_reducible refine q_nl ?_); clear hHeld; refine t_next ?_ (fun hHeld => ?_); (· exact True.intro); (try simp only [pS])) | (with_reducible refine t_done ?_)
                all_goals
                 have hSw := Hput.out _ _ hB1 hg1 hB2 hg2
                 clear hB1 hB2 hg1 hg2 Hput hi2 hj2 hB hR hg hx hy hp f1 f2 hBd hi2d hj2d
                 go_wp2
                 go_roundw
                 case rel => obtain ⟨d1, d2, hjb⟩ := HJ.out; exact ⟨hSw, jm + 2, by go_num, by omega, by omega⟩
                 case measure => obtain ⟨d1, d2, hjb⟩ := HJ.out; simp [intOf]; omega
              ·go_wp2
               go_roundw
               case rel => exact ⟨hSr, k + 1, i, by go_num, by first | rfl | go_num, by omega, by omega, by omega⟩
               case measure => simp [intOf]; omega
            ·go_wp2
             obtain ⟨hg, cur, xs, hR, hp⟩ := hSr
             have hlen := hp.length_eq
             have hix : jm + 1 < xs.length := by omega
             have hjx : jm < xs.length := by omega
             have hi2 := hR.at_ hix
             have hj2 := hR.at_ hjx
             obtain ⟨x, hx⟩ : ∃ x, xs[jm + 1] = x := ⟨_, rfl⟩
             obtain ⟨y, hy⟩ : ∃ y, xs[jm] = y := ⟨_, rfl⟩
             rw [hx] at hi2; rw [hy] at hj2
             have f1 := hR.lt2 hix; have f2 := hR.lt2 hjx
             have hB := hR.blk
             have Hput : Hid (∀ W1 W2, Blk W1 g 113 (putAt cur (o + (jm + 1) * 2) [.int .i64 y.1, .int .i64 y.2]) → wr.grownBy W1 (some g) → Blk W2 g 113 (putAt (putAt cur (o + (jm + 1) * 2) [.int .i64 y.1, .int .i64 y.2]) (o + (jm) * 2) [.int .i64 x.1, .int .i64 x.2]) → W1.grownBy W2 (some g) → Sw W0 113 g o cap xs0 W2) := Lib.hid (by intro W1 W2 h1 h2 h3 h4; subst hx hy; exact Sw.put2 hg hR hp hix hjx h1 h2 h3 h4)
             have hmA : True := trivial
             have hBd := hB.d; have hi2d := hi2.d; have hj2d := hj2.d
             refine wp_rt (.take 0 (.take 1 (.take 2 (.take 3 (.take 4 (.take 5 (.take 6 (.take 7 (.take 8 (.take 10 (.take 11 (.take 12 (.two 9 (.one 13 (.take 14 (.one 15 (.take 16 (.one 17 .nil))))) 13 (.one 9 (.take 14 (.one 15 (.take 16 (.one 17 .nil)))))))))))))))))) (fun w' => True) ?_ (fun hHeld => ?_)
             ·exact True.intro
             repeat' first | ((with_reducible refine t_tk ?_); (refine tk (v := ?_) ?_ hHeld ?_; rotate_left; (· (intro wq hSw; (try dsimp only at hSw); go_simp; (try with_reducible rfl))); (try simp only [pS]))) | ((with_reducible refine t_on ?_); refine t_one (by simp only [gS]; rfl) ?_) | ((with_reducible refine t_tw ?_); refine t_two (by simp only [gS]; rfl) (by simp only [gS]; rfl) ?_ ?_) | ((with_reducible refine q_gd (d := some 94) ?_); (((with_reducible refine q_load (d := some 94) (hl := ld_stand hj2d) ?_ ?_); rfl))) | ((with_reducible refine q_gd (d := some 98) ?_); (((with_reducible refine q_load (d := some 98) (hl := ld_stand hi2d) ?_ ?_); rfl))) | ((with_reducible refine q_gd (d := none) ?_); ((first | ((with_reducible refine q_store (t := 113) (e := 113) (g := g) (off := o + jm * 2) (n := 2) (v := .agg #[.int .i64 x.1, .int .i64 x.2]) ?_ ?_ hB1 sizeStand ?_ ?_ ?_ ?_); rfl; rfl; rfl; (rw [size_putAt (by exact f1)]; exact f2); (simp [Value.cells, Value.oneCell']); intro W2 hB2 hg2) | ((with_reducible refine q_store (t := 113) (e := 113) (g := g) (off := o + (jm + 1) * 2) (n := 2) (v := .agg #[.int .i64 y.1, .int .i64 y.2]) ?_ ?_ hBd sizeStand ?_ ?_ ?_ ?_); rfl; rfl; rfl; exact f1; (simp [Value.cells, Value.oneCell']); intro W1 hB1 hg1; replace hg1 := grown_undrew hg1)))) | ((with_reducible refine q_nl ?_); clear hHeld; refine t_next ?_ (fun hHeld => ?_); (· exact True.intro); (try simp only [pS])) | (with_reducible refine t_done ?_)
             all_goals
              have hSw := Hput.out _ _ hB1 hg1 hB2 hg2
              clear hB1 hB2 hg1 hg2 Hput hi2 hj2 hB hR hg hx hy hp f1 f2 hBd hi2d hj2d
              go_wp2
              go_roundw
              case rel => exact ⟨hSw, jm, by go_num, by omega⟩
              case measure => simp [intOf]
           ·go_wp2
            go_loopw [12] (fun vj wr => Sw W0 113 g o cap xs0 wr ∧ ∃ j : Nat, vj = .int .i64 j ∧ i + 1 ≤ j ∧ j ≤ b) (fun vj _ => b - (intOf vj).toNat)
            case atStart => exact ⟨hSr, i + 1, by go_num, by omega, by omega⟩
            case round =>
             clear hSr
             obtain ⟨hSr, j, rfl, d1, d2⟩ := hrel
             by_cases hjb : j < b
             ·obtain ⟨jm, rfl⟩ : ∃ m, j = m + 1 := ⟨j - 1, by omega⟩
              have z3 : (jm : Int) + 1 < (xs0.length : Int) := by omega
              have z4 : (jm : Int) < (xs0.length : Int) := by omega
              have z5 : (0 : Int) ≤ (jm : Int) + 1 := by omega
              have z6 : (jm : Int) + 1 < (b : Int) := by omega
              have wj : IntKind.i64.wrap (jm : Int) = jm := wrapI (by omega) (by omega)
              have HJ := Lib.hid (⟨d1, d2, hjb⟩ : _ ∧ _ ∧ _)
              obtain ⟨hg, cur, xs, hR, hp⟩ := hSr
              have hlen := hp.length_eq
              have hix : jm + 1 < xs.length := by omega
              have hjx : jm < xs.length := by omega
              have hi2 := hR.at_ hix
              have hj2 := hR.at_ hjx
              obtain ⟨x, hx⟩ : ∃ x, xs[jm + 1] = x := ⟨_, rfl⟩
              obtain ⟨y, hy⟩ : ∃ y, xs[jm] = y := ⟨_, rfl⟩
              rw [hx] at hi2; rw [hy] at hj2
              have f1 := hR.lt2 hix; have f2 := hR.lt2 hjx
              have hB := hR.blk
              have Hput : Hid (∀ W1 W2, Blk W1 g 113 (putAt cur (o + (jm + 1) * 2) [.int .i64 y.1, .int .i64 y.2]) → wr.grownBy W1 (some g) → Blk W2 g 113 (putAt (putAt cur (o + (jm + 1) * 2) [.int .i64 y.1, .int .i64 y.2]) (o + (jm) * 2) [.int .i64 x.1, .int .i64 x.2]) → W1.grownBy W2 (some g) → Sw W0 113 g o cap xs0 W2) := Lib.hid (by intro W1 W2 h1 h2 h3 h4; subst hx hy; exact Sw.put2 hg hR hp hix hjx h1 h2 h3 h4)
              have hmA : True := trivial
              clear d1 d2 hjb
              go_wp2
              have hX := Ext.todrew (Ext.refl wr)
              refine wp_rt (.take 0 (.take 1 (.take 2 (.take 3 (.take 4 (.take 5 (.take 6 (.take 7 (.take 8 (.take 9 (.one 10 (.take 11 (.take 12 .nil))))))))))))) (fun w' => Ext wr w') ?_ (fun hHeld => ?_)
              ·assumption
              repeat' first | ((with_reducible refine t_tk ?_); first | ((with_reducible refine t_tk (i := 4) ?_); refine tk (v := .agg #[.int .i64 x.1, .int .i64 x.2]) ?_ hHeld ?_; (· exact run_ld (by rfl) (fun W h => ld_stand (hi2.ext h))); (try simp only [pS])) | ((with_reducible refine t_tk (i := 9) ?_); refine tk (v := .agg #[.int .i64 y.1, .int .i64 y.2]) ?_ hHeld ?_; (· exact run_ld (by rfl) (fun W h => ld_stand (hj2.ext h))); (try simp only [pS])) | (refine tk (v := ?_) ?_ hHeld ?_; rotate_left; (· (intro wq hSw; (try dsimp only at hSw); go_simp; (try with_reducible rfl))); (try simp only [pS]))) | ((with_reducible refine t_on ?_); refine t_one (by simp only [gS]; rfl) ?_) | ((with_reducible refine q_gd (d := some 122) ?_); ((refine q_call (by rfl) (hcmp _ (grown_then hg hX) x y) (by go_simp) ?_; rintro e Wc ⟨⟨r, rfl⟩, hEc⟩; refine ⟨_, rfl, ?_⟩; have hXc := hX.trans hEc; obtain ⟨bb, hbb⟩ : ∃ b, decide (r < 0) = b := ⟨_, rfl⟩))) | ((with_reducible refine q_nl ?_); clear hHeld; refine t_next ?_ (fun hHeld => ?_); (· assumption); (try simp only [pS])) | (with_reducible refine t_done ?_)
              have hSr := Sw.ext (⟨hg, cur, xs, hR, hp⟩ : Sw W0 113 g o cap xs0 wr) hXc
              clear hX hXc hi2 hj2 hB hR Hput hg hx hy hp f1 f2 hmA
              generalize Wc = wr at hSr ⊢
              cases bb
              ·go_wp2
               go_roundw
               case rel => exact ⟨hSr, k + 1, i, by go_num, by first | rfl | go_num, by omega, by omega, by omega⟩
               case measure => simp [intOf]; omega
              ·go_wp2
               obtain ⟨hg, cur, xs, hR, hp⟩ := hSr
               have hlen := hp.length_eq
               have hix : jm + 1 < xs.length := by omega
               have hjx : jm < xs.length := by omega
               have hi2 := hR.at_ hix
               have hj2 := hR.at_ hjx
               obtain ⟨x, hx⟩ : ∃ x, xs[jm + 1] = x := ⟨_, rfl⟩
               obtain ⟨y, hy⟩ : ∃ y, xs[jm] = y := ⟨_, rfl⟩
               rw [hx] at hi2; rw [hy] at hj2
               have f1 := hR.lt2 hix; have f2 := hR.lt2 hjx
               have hB := hR.blk
               have Hput : Hid (∀ W1 W2, Blk W1 g 113 (putAt cur (o + (jm + 1) * 2) [.int .i64 y.1, .int .i64 y.2]) → wr.grownBy W1 (some g) → Blk W2 g 113 (putAt (putAt cur (o + (jm + 1) * 2) [.int .i64 y.1, .int .i64 y.2]) (o + (jm) * 2) [.int .i64 x.1, .int .i64 x.2]) → W1.grownBy W2 (some g) → Sw W0 113 g o cap xs0 W2) := Lib.hid (by intro W1 W2 h1 h2 h3 h4; subst hx hy; exact Sw.put2 hg hR hp hix hjx h1 h2 h3 h4)
               have hmA : True := trivial
               have hBd := hB.d; have hi2d := hi2.d; have hj2d := hj2.d
               refine wp_rt (.take 0 (.take 1 (.take 2 (.take 3 (.take 4 (.take 5 (.take 6 (.take 7 (.take 8 (.take 10 (.take 11 (.take 12 (.two 9 (.one 13 (.take 14 (.one 15 (.take 16 (.one 17 .nil))))) 13 (.one 9 (.take 14 (.one 15 (.take 16 (.one 17 .nil)))))))))))))))))) (fun w' => True) ?_ (fun hHeld => ?_)
               ·exact True.intro
               repeat' first | ((with_reducible refine t_tk ?_); (refine tk (v := ?_) ?_ hHeld ?_; rotate_left; (· (intro wq hSw; (try dsimp only at hSw); go_simp; (try with_reducible rfl))); (try simp only [pS]))) | ((with_reducible refine t_on ?_); refine t_one (by simp only [gS]; rfl) ?_) | ((with_reducible refine t_tw ?_); refine t_two (by simp only [gS]; rfl) (by simp only [gS]; rfl) ?_ ?_) | ((with_reducible refine q_gd (d := some 134) ?_); (((with_reducible refine q_load (d := some 134) (hl := ld_stand hj2d) ?_ ?_); rfl))) | ((with_reducible refine q_gd (d := some 138) ?_); (((with_reducible refine q_load (d := some 138) (hl := ld_stand hi2d) ?_ ?_); rfl))) | ((with_reducible refine q_gd (d := none) ?_); ((first | ((with_reducible refine q_store (t := 113) (e := 113) (g := g) (off := o + jm * 2) (n := 2) (v := .agg #[.int .i64 x.1, .int .i64 x.2]) ?_ ?_ hB1 sizeStand ?_ ?_ ?_ ?_); rfl; rfl; rfl; (rw [size_putAt (by exact f1)]; exact f2); (simp [Value.cells, Value.oneCell']); intro W2 hB2 hg2) | ((with_reducible refine q_store (t := 113) (e := 113) (g := g) (off := o + (jm + 1) * 2) (n := 2) (v := .agg #[.int .i64 y.1, .int .i64 y.2]) ?_ ?_ hBd sizeStand ?_ ?_ ?_ ?_); rfl; rfl; rfl; exact f1; (simp [Value.cells, Value.oneCell']); intro W1 hB1 hg1; replace hg1 := grown_undrew hg1)))) | ((with_reducible refine q_nl ?_); clear hHeld; refine t_next ?_ (fun hHeld => ?_); (· exact True.intro); (try simp only [pS])) | (with_reducible refine t_done ?_)
               all_goals
                have hSw := Hput.out _ _ hB1 hg1 hB2 hg2
                clear hB1 hB2 hg1 hg2 Hput hi2 hj2 hB hR hg hx hy hp f1 f2 hBd hi2d hj2d
                go_wp2
                go_roundw
                case rel => obtain ⟨d1, d2, hjb⟩ := HJ.out; exact ⟨hSw, jm + 2, by go_num, by omega, by omega⟩
                case measure => obtain ⟨d1, d2, hjb⟩ := HJ.out; simp [intOf]; omega
             ·go_wp2
              go_roundw
              case rel => exact ⟨hSr, k + 1, i, by go_num, by first | rfl | go_num, by omega, by omega, by omega⟩
              case measure => simp [intOf]; omega
         ·have y1 : IntKind.i64.wrap ((i : Int) - (a : Int)) = (i : Int) - (a : Int) := wrapI (by omega) (by omega)
          have y2 : ¬ ((2 : Int) ≤ (i : Int) - (a : Int)) := by omega
          go_wp2
          clear y1 y2
          go_loopw [12] (fun vj wr => Sw W0 113 g o cap xs0 wr ∧ ∃ j : Nat, vj = .int .i64 j ∧ i + 1 ≤ j ∧ j ≤ b) (fun vj _ => b - (intOf vj).toNat)
          case atStart => exact ⟨hSr, i + 1, by go_num, by omega, by omega⟩
          case round =>
           clear hSr
           obtain ⟨hSr, j, rfl, d1, d2⟩ := hrel
           by_cases hjb : j < b
           ·obtain ⟨jm, rfl⟩ : ∃ m, j = m + 1 := ⟨j - 1, by omega⟩
            have z3 : (jm : Int) + 1 < (xs0.length : Int) := by omega
            have z4 : (jm : Int) < (xs0.length : Int) := by omega
            have z5 : (0 : Int) ≤ (jm : Int) + 1 := by omega
            have z6 : (jm : Int) + 1 < (b : Int) := by omega
            have wj : IntKind.i64.wrap (jm : Int) = jm := wrapI (by omega) (by omega)
            have HJ := Lib.hid (⟨d1, d2, hjb⟩ : _ ∧ _ ∧ _)
            obtain ⟨hg, cur, xs, hR, hp⟩ := hSr
            have hlen := hp.length_eq
            have hix : jm + 1 < xs.length := by omega
            have hjx : jm < xs.length := by omega
            have hi2 := hR.at_ hix
            have hj2 := hR.at_ hjx
            obtain ⟨x, hx⟩ : ∃ x, xs[jm + 1] = x := ⟨_, rfl⟩
            obtain ⟨y, hy⟩ : ∃ y, xs[jm] = y := ⟨_, rfl⟩
            rw [hx] at hi2; rw [hy] at hj2
            have f1 := hR.lt2 hix; have f2 := hR.lt2 hjx
            have hB := hR.blk
            have Hput : Hid (∀ W1 W2, Blk W1 g 113 (putAt cur (o + (jm + 1) * 2) [.int .i64 y.1, .int .i64 y.2]) → wr.grownBy W1 (some g) → Blk W2 g 113 (putAt (putAt cur (o + (jm + 1) * 2) [.int .i64 y.1, .int .i64 y.2]) (o + (jm) * 2) [.int .i64 x.1, .int .i64 x.2]) → W1.grownBy W2 (some g) → Sw W0 113 g o cap xs0 W2) := Lib.hid (by intro W1 W2 h1 h2 h3 h4; subst hx hy; exact Sw.put2 hg hR hp hix hjx h1 h2 h3 h4)
            have hmA : True := trivial
            clear d1 d2 hjb
            go_wp2
            have hX := Ext.todrew (Ext.refl wr)
            refine wp_rt (.take 0 (.take 1 (.take 2 (.take 3 (.take 4 (.take 5 (.take 6 (.take 7 (.take 8 (.take 9 (.one 10 (.take 11 (.take 12 .nil))))))))))))) (fun w' => Ext wr w') ?_ (fun hHeld => ?_)
            ·assumption
            repeat' first | ((with_reducible refine t_tk ?_); first | ((with_reducible refine t_tk (i := 4) ?_); refine tk (v := .agg #[.int .i64 x.1, .int .i64 x.2]) ?_ hHeld ?_; (· exact run_ld (by rfl) (fun W h => ld_stand (hi2.ext h))); (try simp only [pS])) | ((with_reducible refine t_tk (i := 9) ?_); refine tk (v := .agg #[.int .i64 y.1, .int .i64 y.2]) ?_ hHeld ?_; (· exact run_ld (by rfl) (fun W h => ld_stand (hj2.ext h))); (try simp only [pS])) | (refine tk (v := ?_) ?_ hHeld ?_; rotate_left; (· (intro wq hSw; (try dsimp only at hSw); go_simp; (try with_reducible rfl))); (try simp only [pS]))) | ((with_reducible refine t_on ?_); refine t_one (by simp only [gS]; rfl) ?_) | ((with_reducible refine q_gd (d := some 122) ?_); ((refine q_call (by rfl) (hcmp _ (grown_then hg hX) x y) (by go_simp) ?_; rintro e Wc ⟨⟨r, rfl⟩, hEc⟩; refine ⟨_, rfl, ?_⟩; have hXc := hX.trans hEc; obtain ⟨bb, hbb⟩ : ∃ b, decide (r < 0) = b := ⟨_, rfl⟩))) | ((with_reducible refine q_nl ?_); clear hHeld; refine t_next ?_ (fun hHeld => ?_); (· assumption); (try simp only [pS])) | (with_reducible refine t_done ?_)
            have hSr := Sw.ext (⟨hg, cur, xs, hR, hp⟩ : Sw W0 113 g o cap xs0 wr) hXc
            clear hX hXc hi2 hj2 hB hR Hput hg hx hy hp f1 f2 hmA
            generalize Wc = wr at hSr ⊢
            cases bb
            ·go_wp2
             go_roundw
             case rel => exact ⟨hSr, k + 1, i, by go_num, by first | rfl | go_num, by omega, by omega, by omega⟩
             case measure => simp [intOf]; omega
            ·go_wp2
             obtain ⟨hg, cur, xs, hR, hp⟩ := hSr
             have hlen := hp.length_eq
             have hix : jm + 1 < xs.length := by omega
             have hjx : jm < xs.length := by omega
             have hi2 := hR.at_ hix
             have hj2 := hR.at_ hjx
             obtain ⟨x, hx⟩ : ∃ x, xs[jm + 1] = x := ⟨_, rfl⟩
             obtain ⟨y, hy⟩ : ∃ y, xs[jm] = y := ⟨_, rfl⟩
             rw [hx] at hi2; rw [hy] at hj2
             have f1 := hR.lt2 hix; have f2 := hR.lt2 hjx
             have hB := hR.blk
             have Hput : Hid (∀ W1 W2, Blk W1 g 113 (putAt cur (o + (jm + 1) * 2) [.int .i64 y.1, .int .i64 y.2]) → wr.grownBy W1 (some g) → Blk W2 g 113 (putAt (putAt cur (o + (jm + 1) * 2) [.int .i64 y.1, .int .i64 y.2]) (o + (jm) * 2) [.int .i64 x.1, .int .i64 x.2]) → W1.grownBy W2 (some g) → Sw W0 113 g o cap xs0 W2) := Lib.hid (by intro W1 W2 h1 h2 h3 h4; subst hx hy; exact Sw.put2 hg hR hp hix hjx h1 h2 h3 h4)
             have hmA : True := trivial
             have hBd := hB.d; have hi2d := hi2.d; have hj2d := hj2.d
             refine wp_rt (.take 0 (.take 1 (.take 2 (.take 3 (.take 4 (.take 5 (.take 6 (.take 7 (.take 8 (.take 10 (.take 11 (.take 12 (.two 9 (.one 13 (.take 14 (.one 15 (.take 16 (.one 17 .nil))))) 13 (.one 9 (.take 14 (.one 15 (.take 16 (.one 17 .nil)))))))))))))))))) (fun w' => True) ?_ (fun hHeld => ?_)
             ·exact True.intro
             repeat' first | ((with_reducible refine t_tk ?_); (refine tk (v := ?_) ?_ hHeld ?_; rotate_left; (· (intro wq hSw; (try dsimp only at hSw); go_simp; (try with_reducible rfl))); (try simp only [pS]))) | ((with_reducible refine t_on ?_); refine t_one (by simp only [gS]; rfl) ?_) | ((with_reducible refine t_tw ?_); refine t_two (by simp only [gS]; rfl) (by simp only [gS]; rfl) ?_ ?_) | ((with_reducible refine q_gd (d := some 134) ?_); (((with_reducible refine q_load (d := some 134) (hl := ld_stand hj2d) ?_ ?_); rfl))) | ((with_reducible refine q_gd (d := some 138) ?_); (((with_reducible refine q_load (d := some 138) (hl := ld_stand hi2d) ?_ ?_); rfl))) | ((with_reducible refine q_gd (d := none) ?_); ((first | ((with_reducible refine q_store (t := 113) (e := 113) (g := g) (off := o + jm * 2) (n := 2) (v := .agg #[.int .i64 x.1, .int .i64 x.2]) ?_ ?_ hB1 sizeStand ?_ ?_ ?_ ?_); rfl; rfl; rfl; (rw [size_putAt (by exact f1)]; exact f2); (simp [Value.cells, Value.oneCell']); intro W2 hB2 hg2) | ((with_reducible refine q_store (t := 113) (e := 113) (g := g) (off := o + (jm + 1) * 2) (n := 2) (v := .agg #[.int .i64 y.1, .int .i64 y.2]) ?_ ?_ hBd sizeStand ?_ ?_ ?_ ?_); rfl; rfl; rfl; exact f1; (simp [Value.cells, Value.oneCell']); intro W1 hB1 hg1; replace hg1 := grown_undrew hg1)))) | ((with_reducible refine q_nl ?_); clear hHeld; refine t_next ?_ (fun hHeld => ?_); (· exact True.intro); (try simp only [pS])) | (with_reducible refine t_done ?_)
             all_goals
              have hSw := Hput.out _ _ hB1 hg1 hB2 hg2
              clear hB1 hB2 hg1 hg2 Hput hi2 hj2 hB hR hg hx hy hp f1 f2 hBd hi2d hj2d
              go_wp2
              go_roundw
              case rel => obtain ⟨d1, d2, hjb⟩ := HJ.out; exact ⟨hSw, jm + 2, by go_num, by omega, by omega⟩
              case measure => obtain ⟨d1, d2, hjb⟩ := HJ.out; simp [intOf]; omega
           ·go_wp2
            go_roundw
            case rel => exact ⟨hSr, k + 1, i, by go_num, by first | rfl | go_num, by omega, by omega, by omega⟩
            case measure => simp [intOf]; omega
        ·have v2 : ¬ ((2 : Int) ≤ (b : Int) - (i : Int)) := by omega
         by_cases hia : a + 2 ≤ i
         ·have y1 : IntKind.i64.wrap ((i : Int) - (a : Int)) = (i : Int) - (a : Int) := wrapI (by omega) (by omega)
          have y2 : (2 : Int) ≤ (i : Int) - (a : Int) := by omega
          go_wp2
          go_loopw [11] (fun vj wr => Sw W0 113 g o cap xs0 wr ∧ ∃ j : Nat, vj = .int .i64 j ∧ j + 1 ≤ i) (fun vj _ => (intOf vj).toNat)
          case atStart => exact ⟨hSr, i - 1, by go_num, by omega⟩
          case round =>
           clear hSr
           obtain ⟨hSr, j, rfl, d1⟩ := hrel
           clear y1 y2
           by_cases hj1 : 1 ≤ j
           ·obtain ⟨jm, rfl⟩ : ∃ m, j = m + 1 := ⟨j - 1, by omega⟩
            have z3 : (jm : Int) + 1 < (xs0.length : Int) := by omega
            have z4 : (jm : Int) < (xs0.length : Int) := by omega
            have z5 : (0 : Int) ≤ (jm : Int) + 1 := by omega
            have wj : IntKind.i64.wrap (jm : Int) = jm := wrapI (by omega) (by omega)
            obtain ⟨hg, cur, xs, hR, hp⟩ := hSr
            have hlen := hp.length_eq
            have hix : jm + 1 < xs.length := by omega
            have hjx : jm < xs.length := by omega
            have hi2 := hR.at_ hix
            have hj2 := hR.at_ hjx
            obtain ⟨x, hx⟩ : ∃ x, xs[jm + 1] = x := ⟨_, rfl⟩
            obtain ⟨y, hy⟩ : ∃ y, xs[jm] = y := ⟨_, rfl⟩
            rw [hx] at hi2; rw [hy] at hj2
            have f1 := hR.lt2 hix; have f2 := hR.lt2 hjx
            have hB := hR.blk
            have Hput : Hid (∀ W1 W2, Blk W1 g 113 (putAt cur (o + (jm + 1) * 2) [.int .i64 y.1, .int .i64 y.2]) → wr.grownBy W1 (some g) → Blk W2 g 113 (putAt (putAt cur (o + (jm + 1) * 2) [.int .i64 y.1, .int .i64 y.2]) (o + (jm) * 2) [.int .i64 x.1, .int .i64 x.2]) → W1.grownBy W2 (some g) → Sw W0 113 g o cap xs0 W2) := Lib.hid (by intro W1 W2 h1 h2 h3 h4; subst hx hy; exact Sw.put2 hg hR hp hix hjx h1 h2 h3 h4)
            have hmA : True := trivial
            go_wp2
            have hX := Ext.todrew (Ext.refl wr)
            refine wp_rt (.take 0 (.take 1 (.take 2 (.take 3 (.take 4 (.take 5 (.take 6 (.take 7 (.take 8 (.take 9 (.one 10 (.take 11 (.take 12 .nil))))))))))))) (fun w' => Ext wr w') ?_ (fun hHeld => ?_)
            ·assumption
            repeat' first | ((with_reducible refine t_tk ?_); first | ((with_reducible refine t_tk (i := 4) ?_); refine tk (v := .agg #[.int .i64 x.1, .int .i64 x.2]) ?_ hHeld ?_; (· exact run_ld (by rfl) (fun W h => ld_stand (hi2.ext h))); (try simp only [pS])) | ((with_reducible refine t_tk (i := 9) ?_); refine tk (v := .agg #[.int .i64 y.1, .int .i64 y.2]) ?_ hHeld ?_; (· exact run_ld (by rfl) (fun W h => ld_stand (hj2.ext h))); (try simp only [pS])) | (refine tk (v := ?_) ?_ hHeld ?_; rotate_left; (· (intro wq hSw; (try dsimp only at hSw); go_simp; (try with_reducible rfl))); (try simp only [pS]))) | ((with_reducible refine t_on ?_); refine t_one (by simp only [gS]; rfl) ?_) | ((with_reducible refine q_gd (d := some 82) ?_); ((refine q_call (by rfl) (hcmp _ (grown_then hg hX) x y) (by go_simp) ?_; rintro e Wc ⟨⟨r, rfl⟩, hEc⟩; refine ⟨_, rfl, ?_⟩; have hXc := hX.trans hEc; obtain ⟨bb, hbb⟩ : ∃ b, decide (r < 0) = b := ⟨_, rfl⟩))) | ((with_reducible refine q_nl ?_); clear hHeld; refine t_next ?_ (fun hHeld => ?_); (· assumption); (try simp only [pS])) | (with_reducible refine t_done ?_)
            have hSr := Sw.ext (⟨hg, cur, xs, hR, hp⟩ : Sw W0 113 g o cap xs0 wr) hXc
            clear hX hXc hi2 hj2 hB hR Hput hg hx hy hp f1 f2 hmA
            generalize Wc = wr at hSr ⊢
            cases bb
            ·go_wp2
             go_roundw
             case rel => exact ⟨hSr, k + 1, i, by go_num, by first | rfl | go_num, by omega, by omega, by omega⟩
             case measure => simp [intOf]; omega
            ·go_wp2
             obtain ⟨hg, cur, xs, hR, hp⟩ := hSr
             have hlen := hp.length_eq
             have hix : jm + 1 < xs.length := by omega
             have hjx : jm < xs.length := by omega
             have hi2 := hR.at_ hix
             have hj2 := hR.at_ hjx
             obtain ⟨x, hx⟩ : ∃ x, xs[jm + 1] = x := ⟨_, rfl⟩
             obtain ⟨y, hy⟩ : ∃ y, xs[jm] = y := ⟨_, rfl⟩
             rw [hx] at hi2; rw [hy] at hj2
             have f1 := hR.lt2 hix; have f2 := hR.lt2 hjx
             have hB := hR.blk
             have Hput : Hid (∀ W1 W2, Blk W1 g 113 (putAt cur (o + (jm + 1) * 2) [.int .i64 y.1, .int .i64 y.2]) → wr.grownBy W1 (some g) → Blk W2 g 113 (putAt (putAt cur (o + (jm + 1) * 2) [.int .i64 y.1, .int .i64 y.2]) (o + (jm) * 2) [.int .i64 x.1, .int .i64 x.2]) → W1.grownBy W2 (some g) → Sw W0 113 g o cap xs0 W2) := Lib.hid (by intro W1 W2 h1 h2 h3 h4; subst hx hy; exact Sw.put2 hg hR hp hix hjx h1 h2 h3 h4)
             have hmA : True := trivial
             have hBd := hB.d; have hi2d := hi2.d; have hj2d := hj2.d
             refine wp_rt (.take 0 (.take 1 (.take 2 (.take 3 (.take 4 (.take 5 (.take 6 (.take 7 (.take 8 (.take 10 (.take 11 (.take 12 (.two 9 (.one 13 (.take 14 (.one 15 (.take 16 (.one 17 .nil))))) 13 (.one 9 (.take 14 (.one 15 (.take 16 (.one 17 .nil)))))))))))))))))) (fun w' => True) ?_ (fun hHeld => ?_)
             ·exact True.intro
             repeat' first | ((with_reducible refine t_tk ?_); (refine tk (v := ?_) ?_ hHeld ?_; rotate_left; (· (intro wq hSw; (try dsimp only at hSw); go_simp; (try with_reducible rfl))); (try simp only [pS]))) | ((with_reducible refine t_on ?_); refine t_one (by simp only [gS]; rfl) ?_) | ((with_reducible refine t_tw ?_); refine t_two (by simp only [gS]; rfl) (by simp only [gS]; rfl) ?_ ?_) | ((with_reducible refine q_gd (d := some 94) ?_); (((with_reducible refine q_load (d := some 94) (hl := ld_stand hj2d) ?_ ?_); rfl))) | ((with_reducible refine q_gd (d := some 98) ?_); (((with_reducible refine q_load (d := some 98) (hl := ld_stand hi2d) ?_ ?_); rfl))) | ((with_reducible refine q_gd (d := none) ?_); ((first | ((with_reducible refine q_store (t := 113) (e := 113) (g := g) (off := o + jm * 2) (n := 2) (v := .agg #[.int .i64 x.1, .int .i64 x.2]) ?_ ?_ hB1 sizeStand ?_ ?_ ?_ ?_); rfl; rfl; rfl; (rw [size_putAt (by exact f1)]; exact f2); (simp [Value.cells, Value.oneCell']); intro W2 hB2 hg2) | ((with_reducible refine q_store (t := 113) (e := 113) (g := g) (off := o + (jm + 1) * 2) (n := 2) (v := .agg #[.int .i64 y.1, .int .i64 y.2]) ?_ ?_ hBd sizeStand ?_ ?_ ?_ ?_); rfl; rfl; rfl; exact f1; (simp [Value.cells, Value.oneCell']); intro W1 hB1 hg1; replace hg1 := grown_undrew hg1)))) | ((with_reducible refine q_nl ?_); clear hHeld; refine t_next ?_ (fun hHeld => ?_); (· exact True.intro); (try simp only [pS])) | (with_reducible refine t_done ?_)
             all_goals
              have hSw := Hput.out _ _ hB1 hg1 hB2 hg2
              clear hB1 hB2 hg1 hg2 Hput hi2 hj2 hB hR hg hx hy hp f1 f2 hBd hi2d hj2d
              go_wp2
              go_roundw
              case rel => exact ⟨hSw, jm, by go_num, by omega⟩
              case measure => simp [intOf]
           ·go_wp2
            go_roundw
            case rel => exact ⟨hSr, k + 1, i, by go_num, by first | rfl | go_num, by omega, by omega, by omega⟩
            case measure => simp [intOf]; omega
         ·have y1 : IntKind.i64.wrap ((i : Int) - (a : Int)) = (i : Int) - (a : Int) := wrapI (by omega) (by omega)
          have y2 : ¬ ((2 : Int) ≤ (i : Int) - (a : Int)) := by omega
          go_wp2
          clear y1 y2
          go_roundw
          case rel => exact ⟨hSr, k + 1, i, by go_num, by first | rfl | go_num, by omega, by omega, by omega⟩
          case measure => simp [intOf]; omega
    ·have heq : ((im : Int) + 1 == (b : Int)) = true := by simp; omega
     have hzz : ¬ ((im : Int) + 1 < (b : Int)) := by omega
     go_wp2
     have hX := Ext.todrew (Ext.refl wr)
     refine wp_rt (.take 0 (.take 1 (.take 2 (.take 3 (.take 4 (.take 5 (.take 6 (.take 7 (.take 8 (.take 9 (.take 10 (.take 11 (.take 12 (.take 13 (.one 14 (.take 15 (.take 16 (.take 17 .nil)))))))))))))))))) (fun w' => Ext wr w') ?_ (fun hHeld => ?_)
     ·assumption
     repeat' first | ((with_reducible refine t_tk ?_); first | ((with_reducible refine t_tk (i := 2) ?_); refine tk (v := .bool false) ?_ hHeld ?_; (· (intro wq hSw; go_simp; first | done | omega | (simp; omega))); (try simp only [pS])) | (refine tk (v := ?_) ?_ hHeld ?_; rotate_left; (· (intro wq hSw; (try dsimp only at hSw); go_simp; (try with_reducible rfl))); (try simp only [pS])) | (refine ts hHeld ?_; (try simp only [pS]))) | ((with_reducible refine t_on ?_); refine t_one (by simp only [gS]; rfl) ?_) | ((with_reducible refine q_gd (d := some 33) ?_); refine q_skipG (by rfl) ?_) | ((with_reducible refine q_nl ?_); clear hHeld; refine t_next ?_ (fun hHeld => ?_); (· assumption); (try simp only [pS])) | (with_reducible refine t_done ?_)
     have hSr := Sw.ext hSr hX
     go_wp2
     go_ret
     exact ⟨hSr, _, rfl⟩
  ·go_wp2
   go_ret
   exact ⟨hSr, _, rfl⟩
end Go.St
end
section
namespace Go.St
open Go Go.Bp Go.RowKit Go.Proofs
def lenOf (y : Nat) : Nat := if y = 0 then 0 else Nat.log2 y + 1
theorem lenOf_bd {y : Nat} (h : 0 < y) : 2 ^ lenOf y ≤ 2 * y ∧ y < 2 ^ lenOf y := by
 unfold lenOf
 rw [if_neg (by omega)]
 have h1 := Nat.log2_self_le (n := y) (by omega)
 have h2 := Nat.lt_log2_self (n := y)
 rw [Nat.pow_succ]
 rw [Nat.pow_succ] at h2
 omega
theorem lenOf_le {y n : Nat} (h : y < 2 ^ n) : lenOf y ≤ n := by
 unfold lenOf
 split
 ·omega
 ·rename_i h0
  have := (Nat.log2_lt h0).2 h
  omega
def okLen8 : Bool := (List.range 256).all fun y => Lib.len8 (y : Int) == ((lenOf y : Nat) : Int)
theorem ok_len8 : okLen8 = true := by decide +kernel
theorem len8_eq {y : Nat} (h : y < 256) : Lib.len8 (y : Int) = ((lenOf y : Nat) : Int) := by
 have h1 := ok_len8
 unfold okLen8 at h1
 rw [List.all_eq_true] at h1
 have := h1 y (by simp; exact h)
 simpa using this
theorem log2_shift {x : Nat} (h : 256 ≤ x) : Nat.log2 (x / 256) = Nat.log2 x - 8 := by
 have h2 : 8 ≤ Nat.log2 x := by
  rw [Nat.le_log2 (by omega)]; exact h
 have h1 : x / 256 ≠ 0 := by
  have := Nat.div_pos h (by decide)
  omega
 have a1 := Nat.log2_self_le (n := x) (by omega)
 have a2 := Nat.lt_log2_self (n := x)
 obtain ⟨L, hL⟩ : ∃ L, Nat.log2 x = L + 8 := ⟨Nat.log2 x - 8, by omega⟩
 rw [hL] at a1 a2 ⊢
 rw [Nat.log2_eq_iff h1]
 rw [Nat.pow_add] at a1
 rw [show L + 8 + 1 = (L + 1) + 8 by omega, Nat.pow_add] at a2
 rw [Nat.add_sub_cancel]
 omega
theorem lenOf_shift {x : Nat} (h : 256 ≤ x) : lenOf x = lenOf (x / 256) + 8 := by
 unfold lenOf
 have h1 : x / 256 ≠ 0 := by
  have := Nat.div_pos h (by decide)
  omega
 have h2 : 8 ≤ Nat.log2 x := by
  rw [Nat.le_log2 (by omega)]; exact h
 rw [if_neg (by omega), if_neg h1, log2_shift h]
 omega
set_option maxRecDepth 1000000 in
set_option maxHeartbeats 2000000 in
theorem len64_any (x : Nat) (w : World) (h0 : 0 < x) (hx : x < 65536) : Calls Tryz.prog 147 #[.int .u64 x] w (RetI w (lenOf x)) := by
 have hE := Ext.refl w
 have c1 : ¬ ((4294967296 : Int) ≤ (x : Int)) := by omega
 have c2 : ¬ ((65536 : Int) ≤ (x : Int)) := by omega
 by_cases h256 : x < 256
 ·have c3 : ¬ ((256 : Int) ≤ (x : Int)) := by omega
  have hL := len8_eq h256
  have hb := lenOf_le (y := x) (n := 8) (by omega)
  have wl : IntKind.i64.wrap (((lenOf x : Nat) : Int)) = ((lenOf x : Nat) : Int) := wrapI (by omega) (by omega)
  have wu : IntKind.u8.wrap (x : Int) = (x : Int) := by simp [IntKind.wrap, IntKind.bits, IntKind.signed]; omega
  have l1 : (x : Int) ≤ 255 := by omega
  go_enter Tryz.func147, Tryz.ntmps147
  go_wp2
  go_ret
  refine RetI.of ?_ hE
  rfl
 ·have c3 : (256 : Int) ≤ (x : Int) := by omega
  obtain ⟨y, hy⟩ : ∃ y : Nat, y = x / 256 := ⟨_, rfl⟩
  have hy1 : (x : Int) / 256 = (y : Int) := by omega
  have hyl : y < 256 := by omega
  have Hr := Lib.hid (show lenOf x = lenOf y + 8 by rw [hy]; exact lenOf_shift (by omega))
  have hL := len8_eq hyl
  have hb := lenOf_le (y := y) (n := 8) (by omega)
  have wl : IntKind.i64.wrap (((lenOf y : Nat) : Int)) = ((lenOf y : Nat) : Int) := wrapI (by omega) (by omega)
  have wu : IntKind.u8.wrap (y : Int) = (y : Int) := by simp [IntKind.wrap, IntKind.bits, IntKind.signed]; omega
  have l1 : (y : Int) ≤ 255 := by omega
  clear hy
  go_enter Tryz.func147, Tryz.ntmps147
  go_wp2
  go_ret
  refine RetI.of ?_ hE
  rw [Hr.out]
  first | rfl | (simp; omega)
theorem len_any (x : Nat) (w : World) (h0 : 0 < x) (hx : x < 65536) : Calls Tryz.prog 119 #[.int .u64 x] w (RetI w (lenOf x)) := by
 have hE := Ext.refl w
 go_enter Tryz.func119, Tryz.ntmps119
 go_wp2_with (first | (go_at_call 147; ((with_reducible refine (len64_any _ _ h0 hx).mono ?_); rintro e Wc1 ⟨rfl, hEc1⟩; (try replace hE := hE.trans hEc1))))
 go_ret
 exact RetI.of rfl hE
theorem nextPow_any (x : Nat) (w : World) (h0 : 0 < x) (hx : x < 65536) : Calls Tryz.prog 159 #[.int .i64 x] w (fun e w' => e = .returned (.int .u64 ((2 ^ lenOf x : Nat) : Int)) ∧ Ext w w') := by
 have hE := Ext.refl w
 have wx : IntKind.u64.wrap (x : Int) = (x : Int) := by simp [IntKind.wrap, IntKind.bits, IntKind.signed]; omega
 have hb := lenOf_le (y := x) (n := 16) (by omega)
 go_enter Tryz.func159, Tryz.ntmps159
 go_wp2_with (first | (go_at_call 119; ((with_reducible refine (len_any _ _ h0 hx).mono ?_); rintro e Wc1 ⟨rfl, hEc1⟩; (try replace hE := hE.trans hEc1))))
 go_ret
 have hp : 2 ^ lenOf x ≤ 65536 := Nat.pow_le_pow_right (n := 2) (by decide) hb
 have e : IntKind.u64.wrap ((2 : Int) ^ lenOf x) = ((2 ^ lenOf x : Nat) : Int) := by
  rw [show (2 : Int) ^ lenOf x = ((2 ^ lenOf x : Nat) : Int) by push_cast; rfl]
  generalize 2 ^ lenOf x = n at hp
  simp [IntKind.wrap, IntKind.bits, IntKind.signed]; omega
 exact ⟨by rw [← e]; rfl, hE⟩
end Go.St
end
