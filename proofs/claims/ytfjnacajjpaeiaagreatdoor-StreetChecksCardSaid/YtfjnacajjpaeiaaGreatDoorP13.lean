/- Chapter 03: contracts of functions of the program and of the reference, and plain laws (out of SQ8 SQ9 SQ10 MapM MapN MapK SJ2). No condition of its own. -/
import Derived.BigQuiet
import Derived.Deep.AppendLies
import Derived.Deep.Draws
import Derived.Deep.LoopGhost
import Derived.Deep.QuietTactic
import Derived.Deep.RegionHeld3
import Derived.Laws.RangeAny
import Derived.Laws.StructEq
import Derived.Lib.AtoiAll
import Derived.Lib.Hide
import Derived.Lib.ItoaMem
import Derived.Lib.SliceRun
import Derived.Lib.Split
import Derived.Lib.Tables
import Derived.MapKept
import Derived.Maps.AppendAt
import Derived.OrdersHeld
import Derived.OrdersIn
import Derived.RangeFuncLeaves
import Derived.RangeFuncNested
import Derived.Shelf.Abstract
import Derived.TacticsIn
import Derived.Test.YtfjnacajjpaeiaaGreatDoorProg
import Derived.WalkKit
import Derived.WalkLawsBesides
import Derived.WalkSpells
import Derived.Test.YtfjnacajjpaeiaaGreatDoorP01
import Derived.Test.YtfjnacajjpaeiaaGreatDoorP02
import Derived.Test.YtfjnacajjpaeiaaGreatDoorP03
import Derived.Test.YtfjnacajjpaeiaaGreatDoorP04
import Derived.Test.YtfjnacajjpaeiaaGreatDoorP05
import Derived.Test.YtfjnacajjpaeiaaGreatDoorP06
import Derived.Test.YtfjnacajjpaeiaaGreatDoorP07
import Derived.Test.YtfjnacajjpaeiaaGreatDoorP08
import Derived.Test.YtfjnacajjpaeiaaGreatDoorP09
import Derived.Test.YtfjnacajjpaeiaaGreatDoorP10
import Derived.Test.YtfjnacajjpaeiaaGreatDoorP11
import Derived.Test.YtfjnacajjpaeiaaGreatDoorP12
set_option maxRecDepth 100000
set_option linter.all false
section
namespace Go.St
open Go Go.Bp Go.RowKit Go.Proofs
theorem sizeXor : (Tryz.prog.info? 223).map TypeInfo.size = some 1 := by kernel_rfl
theorem ti223 : (Tryz.prog.info? 223).map (fun i => (i.zero, i.size, i.bytes)) = some (some (.int .u64 0), 1, 8) := by kernel_rfl
set_option maxHeartbeats 2000000 in
theorem xorNext_any (gr : Nat) (v : Int) (w : World) (hB : Blk w gr 223 #[.int .u64 v]) : Calls Tryz.prog 160 #[.pointer (some ⟨gr, 0, none⟩)] w (fun e w' => ∃ v', e = .returned (.int .u64 v') ∧ Blk w' gr 223 #[.int .u64 v'] ∧ w.grownBy w' (some gr)) := by
 have hG := grown_refl w (some gr)
 go_enter Tryz.func160, Tryz.ntmps160
 go_wp2
 apply wp_cut0 (R := fun w' => ∃ v1, Blk w' gr 223 #[.int .u64 v1] ∧ w.grownBy w' (some gr))
 case h =>
  have hBd := hB.d
  have c0 := hBd.cell 0
  simp at c0
  refine wp_rt (.take 0 (.take 1 (.take 3 (.take 4 (.two 2 (.one 5 (.take 6 (.take 7 (.take 8 (.one 9 .nil))))) 5 (.take 6 (.one 2 (.take 7 (.take 8 (.one 9 .nil)))))))))) (fun w' => True) ?_ (fun hHeld => ?_)
  ·exact True.intro
  repeat' first | ((with_reducible refine t_tk ?_); (refine tk (v := ?_) ?_ hHeld ?_; rotate_left; (· (intro wq hSw; (try dsimp only at hSw); go_simp; (try with_reducible rfl))); (try simp only [pS]))) | ((with_reducible refine t_on ?_); refine t_one (by simp only [gS]; rfl) ?_) | ((with_reducible refine t_tw ?_); refine t_two (by simp only [gS]; rfl) (by simp only [gS]; rfl) ?_ ?_) | ((with_reducible refine q_gd (d := some 5) ?_); (((with_reducible refine q_load (d := some 5) (p := ⟨gr, 0, none⟩) (v := .int .u64 v) ?_ ?_ ?_); rfl; exact load_one Tryz.underlying223 rfl c0))) | ((with_reducible refine q_gd (d := some 8) ?_); (((with_reducible refine q_load (d := some 8) (p := ⟨gr, 0, none⟩) (v := .int .u64 v) ?_ ?_ ?_); rfl; exact load_one Tryz.underlying223 rfl c0))) | ((with_reducible refine q_gd (d := none) ?_); (((with_reducible refine q_store1 (t := 223) (e := 223) (g := gr) (off := 0) (v := .int .u64 (bits .xor .u64 v (IntKind.u64.wrap (v * 8192)))) ?_ ?_ hBd sizeXor ?_ ?_ ?_ ?_); rfl; rfl; rfl; simp; rfl; intro Ws hBs hgrs; simp at hBs; replace hgrs := grown_trans hG (grown_undrew hgrs)))) | ((with_reducible refine q_nl ?_); clear hHeld; refine t_next ?_ (fun hHeld => ?_); (· exact True.intro); (try simp only [pS])) | (with_reducible refine t_done ?_)
  all_goals exact ⟨rfl, rfl, _, hBs, hgrs⟩
 rintro Wk ⟨v1, hB1, hG1⟩
 have c1 := hB1.cell 0
 simp at c1
 go_wp2
 clear hB hG
 have hB := hB1
 have hG := hG1
 clear hB1 hG1
 generalize v1 = v at hB c1 ⊢
 apply wp_cut0 (R := fun w' => ∃ v1, Blk w' gr 223 #[.int .u64 v1] ∧ w.grownBy w' (some gr))
 case h =>
  have hBd := hB.d
  have c0 := hBd.cell 0
  simp at c0
  refine wp_rt (.take 0 (.take 1 (.take 3 (.take 4 (.two 2 (.one 5 (.take 6 (.take 7 (.take 8 (.one 9 .nil))))) 5 (.take 6 (.one 2 (.take 7 (.take 8 (.one 9 .nil)))))))))) (fun w' => True) ?_ (fun hHeld => ?_)
  ·exact True.intro
  repeat' first | ((with_reducible refine t_tk ?_); (refine tk (v := ?_) ?_ hHeld ?_; rotate_left; (· (intro wq hSw; (try dsimp only at hSw); go_simp; (try with_reducible rfl))); (try simp only [pS]))) | ((with_reducible refine t_on ?_); refine t_one (by simp only [gS]; rfl) ?_) | ((with_reducible refine t_tw ?_); refine t_two (by simp only [gS]; rfl) (by simp only [gS]; rfl) ?_ ?_) | ((with_reducible refine q_gd (d := some 14) ?_); (((with_reducible refine q_load (d := some 14) (p := ⟨gr, 0, none⟩) (v := .int .u64 v) ?_ ?_ ?_); rfl; exact load_one Tryz.underlying223 rfl c0))) | ((with_reducible refine q_gd (d := some 17) ?_); (((with_reducible refine q_load (d := some 17) (p := ⟨gr, 0, none⟩) (v := .int .u64 v) ?_ ?_ ?_); rfl; exact load_one Tryz.underlying223 rfl c0))) | ((with_reducible refine q_gd (d := none) ?_); (((with_reducible refine q_store1 (t := 223) (e := 223) (g := gr) (off := 0) (v := .int .u64 (bits .xor .u64 v (v / 128))) ?_ ?_ hBd sizeXor ?_ ?_ ?_ ?_); rfl; rfl; rfl; simp; rfl; intro Ws hBs hgrs; simp at hBs; replace hgrs := grown_trans hG (grown_undrew hgrs)))) | ((with_reducible refine q_nl ?_); clear hHeld; refine t_next ?_ (fun hHeld => ?_); (· exact True.intro); (try simp only [pS])) | (with_reducible refine t_done ?_)
  all_goals exact ⟨rfl, rfl, _, hBs, hgrs⟩
 rintro Wk ⟨v1, hB1, hG1⟩
 have c1 := hB1.cell 0
 simp at c1
 go_wp2
 clear hB hG
 have hB := hB1
 have hG := hG1
 clear hB1 hG1
 generalize v1 = v at hB c1 ⊢
 apply wp_cut0 (R := fun w' => ∃ v1, Blk w' gr 223 #[.int .u64 v1] ∧ w.grownBy w' (some gr))
 case h =>
  have hBd := hB.d
  have c0 := hBd.cell 0
  simp at c0
  refine wp_rt (.take 0 (.take 1 (.take 3 (.take 4 (.two 2 (.one 5 (.take 6 (.take 7 (.take 8 (.one 9 .nil))))) 5 (.take 6 (.one 2 (.take 7 (.take 8 (.one 9 .nil)))))))))) (fun w' => True) ?_ (fun hHeld => ?_)
  ·exact True.intro
  repeat' first | ((with_reducible refine t_tk ?_); (refine tk (v := ?_) ?_ hHeld ?_; rotate_left; (· (intro wq hSw; (try dsimp only at hSw); go_simp; (try with_reducible rfl))); (try simp only [pS]))) | ((with_reducible refine t_on ?_); refine t_one (by simp only [gS]; rfl) ?_) | ((with_reducible refine t_tw ?_); refine t_two (by simp only [gS]; rfl) (by simp only [gS]; rfl) ?_ ?_) | ((with_reducible refine q_gd (d := some 23) ?_); (((with_reducible refine q_load (d := some 23) (p := ⟨gr, 0, none⟩) (v := .int .u64 v) ?_ ?_ ?_); rfl; exact load_one Tryz.underlying223 rfl c0))) | ((with_reducible refine q_gd (d := some 26) ?_); (((with_reducible refine q_load (d := some 26) (p := ⟨gr, 0, none⟩) (v := .int .u64 v) ?_ ?_ ?_); rfl; exact load_one Tryz.underlying223 rfl c0))) | ((with_reducible refine q_gd (d := none) ?_); (((with_reducible refine q_store1 (t := 223) (e := 223) (g := gr) (off := 0) (v := .int .u64 (bits .xor .u64 v (IntKind.u64.wrap (v * 131072)))) ?_ ?_ hBd sizeXor ?_ ?_ ?_ ?_); rfl; rfl; rfl; simp; rfl; intro Ws hBs hgrs; simp at hBs; replace hgrs := grown_trans hG (grown_undrew hgrs)))) | ((with_reducible refine q_nl ?_); clear hHeld; refine t_next ?_ (fun hHeld => ?_); (· exact True.intro); (try simp only [pS])) | (with_reducible refine t_done ?_)
  all_goals exact ⟨rfl, rfl, _, hBs, hgrs⟩
 rintro Wk ⟨v1, hB1, hG1⟩
 have c1 := hB1.cell 0
 simp at c1
 go_wp2
 clear hB hG
 have hB := hB1
 have hG := hG1
 clear hB1 hG1
 generalize v1 = v at hB c1 ⊢
 go_ret
 exact ⟨_, rfl, hB, hG⟩
theorem and_bd (v : Int) (M : Nat) (h1 : 1 ≤ M) (h2 : M ≤ 1000000) : ∃ o : Nat, bits .and .u64 v ((M : Int) - 1) = (o : Int) ∧ o < M := by
 obtain ⟨m, rfl⟩ : ∃ m, M = m + 1 := ⟨M - 1, by omega⟩
 refine ⟨(BitVec.ofInt 64 v &&& BitVec.ofInt 64 (m : Int)).toNat, ?_, ?_⟩
 ·rw [show ((m + 1 : Nat) : Int) - 1 = (m : Int) by omega]
  show IntKind.u64.wrap ((BitVec.ofInt 64 v &&& BitVec.ofInt 64 (m : Int)).toNat : Int) = ((BitVec.ofInt 64 v &&& BitVec.ofInt 64 (m : Int)).toNat : Int)
  have h := (BitVec.ofInt 64 v &&& BitVec.ofInt 64 (m : Int)).isLt
  generalize (BitVec.ofInt 64 v &&& BitVec.ofInt 64 (m : Int)).toNat = n at h
  show IntKind.u64.wrap (n : Int) = (n : Int)
  have h6 : n < 18446744073709551616 := h
  clear h
  simp [IntKind.wrap, IntKind.bits, IntKind.signed]; omega
 ·have h3 : (BitVec.ofInt 64 v &&& BitVec.ofInt 64 (m : Int)).toNat ≤ (BitVec.ofInt 64 (m : Int)).toNat := by
   rw [BitVec.toNat_and]; exact Nat.and_le_right
  have h4 : (BitVec.ofInt 64 (m : Int)).toNat = m := by
   rw [BitVec.toNat_ofInt]; omega
  omega
theorem nextPowM (x : Nat) (w : World) (h0 : 0 < x) (hx : x < 65536) : Calls Tryz.prog 159 #[.int .i64 x] w (fun e w' => (∃ M : Nat, e = .returned (.int .u64 (M : Int)) ∧ 1 ≤ M ∧ M ≤ 2 * x) ∧ Ext w w') := by
 refine (nextPow_any x w h0 hx).mono ?_
 rintro e W ⟨rfl, hE⟩
 refine ⟨⟨_, rfl, Nat.one_le_two_pow, ?_⟩, hE⟩
 exact (lenOf_bd h0).1
set_option maxHeartbeats 4000000 in
theorem break_any (W0 : World) (fv : Value) (g o cap : Nat) (xs0 : List (Int × Int)) (a b : Nat) (w : World) (hS : Sw W0 113 g o cap xs0 w) (hl : xs0.length ≤ 60000) (hb : b ≤ xs0.length) (hab : a + 12 < b) :
  Calls Tryz.prog 140 #[.slice (some ⟨g, o, none⟩) xs0.length cap, .int .i64 a, .int .i64 b, fv] w (fun e w' => (∃ v, e = .returned v) ∧ Sw W0 113 g o cap xs0 w') := by
 obtain ⟨l, hL⟩ : ∃ l : Nat, l = b - a := ⟨_, rfl⟩
 obtain ⟨q, hq⟩ : ∃ q : Nat, q = l / 4 := ⟨_, rfl⟩
 obtain ⟨q2, hq2⟩ : ∃ q : Nat, q = l / 4 * 2 := ⟨_, rfl⟩
 obtain ⟨s, hs⟩ : ∃ s : Nat, s = a + q2 := ⟨_, rfl⟩
 obtain ⟨i0, hi0⟩ : ∃ s : Nat, s = a + q2 - 1 := ⟨_, rfl⟩
 obtain ⟨e1, he1⟩ : ∃ s : Nat, s = a + q2 + 1 := ⟨_, rfl⟩
 have wl : IntKind.i64.wrap ((b : Int) - (a : Int)) = (l : Int) := by rw [wrapI (by omega) (by omega)]; omega
 have wq : ((l : Int)).tdiv 4 = (q : Int) := by rw [Int.tdiv_eq_ediv_of_nonneg (by omega)]; omega
 have wqq : IntKind.i64.wrap (q : Int) = (q : Int) := wrapI (by omega) (by omega)
 have wq2 : IntKind.i64.wrap ((q : Int) * 2) = (q2 : Int) := by rw [wrapI (by omega) (by omega)]; omega
 have ws : IntKind.i64.wrap ((a : Int) + (q2 : Int)) = (s : Int) := by rw [wrapI (by omega) (by omega)]; omega
 have wi0 : IntKind.i64.wrap ((s : Int) - 1) = (i0 : Int) := by rw [wrapI (by omega) (by omega)]; omega
 have we1 : IntKind.i64.wrap ((s : Int) + 1) = (e1 : Int) := by rw [wrapI (by omega) (by omega)]; omega
 have wu : IntKind.u64.wrap (l : Int) = (l : Int) := by simp [IntKind.wrap, IntKind.bits, IntKind.signed]; omega
 have l8 : (8 : Int) ≤ (l : Int) := by omega
 have hl0 : 0 < l := by omega
 have hl6 : l < 65536 := by omega
 have HF := Lib.hid (show i0 + 2 = e1 ∧ e1 < xs0.length ∧ a + l = b by omega)
 clear hL hq hq2 hs hi0 he1 hab
 go_enter Tryz.func140, Tryz.ntmps140
 go_wp2_with (first | ((with_reducible refine q_newvar (e := 223) (u := 9) (v := .int .u64 l) ti223 ?_ ?_ ?_ ?_ ?_ ?_); (intro g; rfl); (intro g; rfl); rfl; rfl; (simp [Value.cells, Value.oneCell']); intro W9 g9 hE9 hB9 hg9; simp [Value.cells] at hB9; have hS9 := Sw.ext hS hE9; have hg90 := Nat.le_trans hS.1.size hg9) | (go_at_call 159; refine (nextPowM l _ hl0 hl6).mono ?_; rintro e Wn ⟨⟨M, rfl, hM1, hM2⟩, hEn⟩; replace hS9 := hS9.ext hEn; replace hB9 := hB9.ext hEn))
 have wm : IntKind.u64.wrap ((M : Int) - 1) = (M : Int) - 1 := by simp [IntKind.wrap, IntKind.bits, IntKind.signed]; omega
 go_loopw [11, 12] (fun vi _ wr => Sw W0 113 g o cap xs0 wr ∧ ∃ v, Blk wr g9 223 #[.int .u64 v] ∧ ∃ i : Nat, vi = .int .i64 i ∧ i0 ≤ i ∧ i ≤ i0 + 3) (fun vi _ _ => i0 + 4 - (intOf vi).toNat)
 case atStart => exact ⟨hS9, _, hB9, i0, rfl, by omega, by omega⟩
 case round =>
  obtain ⟨hSr, v, hBr, i, rfl, hi1, hi2⟩ := hrel
  clear hS hS9 hB9
  by_cases hle : i ≤ e1
  ·have hzz : (i : Int) ≤ (e1 : Int) := by omega
   have Hi := Lib.hid (show i0 ≤ i ∧ i ≤ i0 + 2 ∧ i < xs0.length ∧ a + l = b by have := HF.out; omega)
   clear hi1 hi2 hle
   go_wp2_with (first | (go_at_call 160; refine (xorNext_any g9 v _ hBr).mono ?_; rintro e Wx ⟨v', rfl, hB9, hG⟩; replace hSr := hSr.own hG hg90 (hSr.ne hBr (by decide)); obtain ⟨oo, ho1, ho2⟩ := and_bd v' M (by omega) (by omega); have wo : IntKind.i64.wrap (oo : Int) = (oo : Int) := wrapI (by omega) (by omega); clear hBr hG))
   ·have hlo : l ≤ oo := by omega
    obtain ⟨x2, hx2⟩ : ∃ x : Nat, x = oo - l := ⟨_, rfl⟩
    have wx2 : (oo : Int) - (l : Int) = (x2 : Int) := by omega
    have h1l : x2 < l := by omega
    rw [wx2]
    clear hlo hx2 wx2 ho1
    obtain ⟨ij, hij⟩ : ∃ i : Nat, i = a + x2 := ⟨_, rfl⟩
    have hHi := Hi.out
    have wij : IntKind.i64.wrap ((a : Int) + (x2 : Int)) = (ij : Int) := by rw [wrapI (by omega) (by omega)]; omega
    have q1 : i < xs0.length := by have := Hi.out; omega
    have q2 : ij < xs0.length := by have := Hi.out; omega
    have z1 : (i : Int) < (xs0.length : Int) := by omega
    have z2 : (ij : Int) < (xs0.length : Int) := by omega
    clear hHi h1l
    have hne := hSr.ne hB9 (by decide)
    generalize Wx = wr at hSr hB9 ⊢
    obtain ⟨hg, cur, xs, hR, hp⟩ := hSr
    have hlen := hp.length_eq
    have hix : i < xs.length := by omega
    have hjx : ij < xs.length := by omega
    have hi2 := hR.at_ hix
    have hj2 := hR.at_ hjx
    obtain ⟨x, hx⟩ : ∃ x, xs[i] = x := ⟨_, rfl⟩
    obtain ⟨y, hy⟩ : ∃ y, xs[ij] = y := ⟨_, rfl⟩
    rw [hx] at hi2; rw [hy] at hj2
    have f1 := hR.lt2 hix; have f2 := hR.lt2 hjx
    have hB := hR.blk
    have Hput : Hid (∀ W1 W2, Blk W1 g 113 (putAt cur (o + (i) * 2) [.int .i64 y.1, .int .i64 y.2]) → wr.grownBy W1 (some g) → Blk W2 g 113 (putAt (putAt cur (o + (i) * 2) [.int .i64 y.1, .int .i64 y.2]) (o + (ij) * 2) [.int .i64 x.1, .int .i64 x.2]) → W1.grownBy W2 (some g) → Sw W0 113 g o cap xs0 W2) := Lib.hid (by intro W1 W2 h1 h2 h3 h4; subst hx hy; exact Sw.put2 hg hR hp hix hjx h1 h2 h3 h4)
    have hmA : True := trivial
    clear hij
    have hBd := hB.d; have hi2d := hi2.d; have hj2d := hj2.d
    refine wp_rt (.take 0 (.take 1 (.take 2 (.take 3 (.take 4 (.take 5 (.take 6 (.take 7 (.take 8 (.take 9 (.take 10 (.take 12 (.take 13 (.take 14 (.two 11 (.one 15 (.take 16 (.one 17 (.take 18 (.one 19 .nil))))) 15 (.one 11 (.take 16 (.one 17 (.take 18 (.one 19 .nil)))))))))))))))))))) (fun w' => True) ?_ (fun hHeld => ?_)
    ·exact True.intro
    repeat' first | ((with_reducible refine t_tk ?_); (refine tk (v := ?_) ?_ hHeld ?_; rotate_left; (· (intro wq hSw; (try dsimp only at hSw); go_simp; (try with_reducible rfl))); (try simp only [pS]))) | ((with_reducible refine t_on ?_); refine t_one (by simp only [gS]; rfl) ?_) | ((with_reducible refine t_tw ?_); refine t_two (by simp only [gS]; rfl) (by simp only [gS]; rfl) ?_ ?_) | ((with_reducible refine q_gd (d := some 60) ?_); (((with_reducible refine q_load (d := some 60) (hl := ld_stand hj2d) ?_ ?_); rfl))) | ((with_reducible refine q_gd (d := some 64) ?_); (((with_reducible refine q_load (d := some 64) (hl := ld_stand hi2d) ?_ ?_); rfl))) | ((with_reducible refine q_gd (d := none) ?_); ((first | ((with_reducible refine q_store (t := 113) (e := 113) (g := g) (off := o + ij * 2) (n := 2) (v := .agg #[.int .i64 x.1, .int .i64 x.2]) ?_ ?_ hB1 sizeStand ?_ ?_ ?_ ?_); rfl; rfl; rfl; (rw [size_putAt (by exact f1)]; exact f2); (simp [Value.cells, Value.oneCell']); intro W2 hB2 hg2) | ((with_reducible refine q_store (t := 113) (e := 113) (g := g) (off := o + i * 2) (n := 2) (v := .agg #[.int .i64 y.1, .int .i64 y.2]) ?_ ?_ hBd sizeStand ?_ ?_ ?_ ?_); rfl; rfl; rfl; exact f1; (simp [Value.cells, Value.oneCell']); intro W1 hB1 hg1; replace hg1 := grown_undrew hg1)))) | ((with_reducible refine q_nl ?_); clear hHeld; refine t_next ?_ (fun hHeld => ?_); (· exact True.intro); (try simp only [pS])) | (with_reducible refine t_done ?_)
    all_goals
     have hSw := Hput.out _ _ hB1 hg1 hB2 hg2
     have hBw := (hB9.grown hg1 (fun e => hne (Option.some.inj e).symm)).grown hg2 (fun e => hne (Option.some.inj e).symm)
     clear hB1 hB2 hg1 hg2 Hput
     go_wp2
     go_roundw
     case rel => exact ⟨hSw, _, hBw, i + 1, by go_num, by have := Hi.out; omega, by have := Hi.out; omega⟩
     case measure => have := Hi.out; simp [intOf]; omega
   ·have h1l : oo < l := by omega
    clear ho1
    obtain ⟨ij, hij⟩ : ∃ i : Nat, i = a + oo := ⟨_, rfl⟩
    have hHi := Hi.out
    have wij : IntKind.i64.wrap ((a : Int) + (oo : Int)) = (ij : Int) := by rw [wrapI (by omega) (by omega)]; omega
    have q1 : i < xs0.length := by have := Hi.out; omega
    have q2 : ij < xs0.length := by have := Hi.out; omega
    have z1 : (i : Int) < (xs0.length : Int) := by omega
    have z2 : (ij : Int) < (xs0.length : Int) := by omega
    clear hHi h1l
    have hne := hSr.ne hB9 (by decide)
    generalize Wx = wr at hSr hB9 ⊢
    obtain ⟨hg, cur, xs, hR, hp⟩ := hSr
    have hlen := hp.length_eq
    have hix : i < xs.length := by omega
    have hjx : ij < xs.length := by omega
    have hi2 := hR.at_ hix
    have hj2 := hR.at_ hjx
    obtain ⟨x, hx⟩ : ∃ x, xs[i] = x := ⟨_, rfl⟩
    obtain ⟨y, hy⟩ : ∃ y, xs[ij] = y := ⟨_, rfl⟩
    rw [hx] at hi2; rw [hy] at hj2
    have f1 := hR.lt2 hix; have f2 := hR.lt2 hjx
    have hB := hR.blk
    have Hput : Hid (∀ W1 W2, Blk W1 g 113 (putAt cur (o + (i) * 2) [.int .i64 y.1, .int .i64 y.2]) → wr.grownBy W1 (some g) → Blk W2 g 113 (putAt (putAt cur (o + (i) * 2) [.int .i64 y.1, .int .i64 y.2]) (o + (ij) * 2) [.int .i64 x.1, .int .i64 x.2]) → W1.grownBy W2 (some g) → Sw W0 113 g o cap xs0 W2) := Lib.hid (by intro W1 W2 h1 h2 h3 h4; subst hx hy; exact Sw.put2 hg hR hp hix hjx h1 h2 h3 h4)
    have hmA : True := trivial
    clear hij
    have hBd := hB.d; have hi2d := hi2.d; have hj2d := hj2.d
    refine wp_rt (.take 0 (.take 1 (.take 2 (.take 3 (.take 4 (.take 5 (.take 6 (.take 7 (.take 8 (.take 9 (.take 10 (.take 12 (.take 13 (.take 14 (.two 11 (.one 15 (.take 16 (.one 17 (.take 18 (.one 19 .nil))))) 15 (.one 11 (.take 16 (.one 17 (.take 18 (.one 19 .nil)))))))))))))))))))) (fun w' => True) ?_ (fun hHeld => ?_)
    ·exact True.intro
    repeat' first | ((with_reducible refine t_tk ?_); (refine tk (v := ?_) ?_ hHeld ?_; rotate_left; (· (intro wq hSw; (try dsimp only at hSw); go_simp; (try with_reducible rfl))); (try simp only [pS]))) | ((with_reducible refine t_on ?_); refine t_one (by simp only [gS]; rfl) ?_) | ((with_reducible refine t_tw ?_); refine t_two (by simp only [gS]; rfl) (by simp only [gS]; rfl) ?_ ?_) | ((with_reducible refine q_gd (d := some 60) ?_); (((with_reducible refine q_load (d := some 60) (hl := ld_stand hj2d) ?_ ?_); rfl))) | ((with_reducible refine q_gd (d := some 64) ?_); (((with_reducible refine q_load (d := some 64) (hl := ld_stand hi2d) ?_ ?_); rfl))) | ((with_reducible refine q_gd (d := none) ?_); ((first | ((with_reducible refine q_store (t := 113) (e := 113) (g := g) (off := o + ij * 2) (n := 2) (v := .agg #[.int .i64 x.1, .int .i64 x.2]) ?_ ?_ hB1 sizeStand ?_ ?_ ?_ ?_); rfl; rfl; rfl; (rw [size_putAt (by exact f1)]; exact f2); (simp [Value.cells, Value.oneCell']); intro W2 hB2 hg2) | ((with_reducible refine q_store (t := 113) (e := 113) (g := g) (off := o + i * 2) (n := 2) (v := .agg #[.int .i64 y.1, .int .i64 y.2]) ?_ ?_ hBd sizeStand ?_ ?_ ?_ ?_); rfl; rfl; rfl; exact f1; (simp [Value.cells, Value.oneCell']); intro W1 hB1 hg1; replace hg1 := grown_undrew hg1)))) | ((with_reducible refine q_nl ?_); clear hHeld; refine t_next ?_ (fun hHeld => ?_); (· exact True.intro); (try simp only [pS])) | (with_reducible refine t_done ?_)
    all_goals
     have hSw := Hput.out _ _ hB1 hg1 hB2 hg2
     have hBw := (hB9.grown hg1 (fun e => hne (Option.some.inj e).symm)).grown hg2 (fun e => hne (Option.some.inj e).symm)
     clear hB1 hB2 hg1 hg2 Hput
     go_wp2
     go_roundw
     case rel => exact ⟨hSw, _, hBw, i + 1, by go_num, by have := Hi.out; omega, by have := Hi.out; omega⟩
     case measure => have := Hi.out; simp [intOf]; omega
  ·have hzz : ¬ ((i : Int) ≤ (e1 : Int)) := by omega
   go_wp2
   go_end0
   exact ⟨⟨_, rfl⟩, hSr⟩
end Go.St
end
section
namespace Go.St
open Go Go.Bp Go.RowKit Go.Proofs
set_option maxRecDepth 1000000 in
set_option maxHeartbeats 8000000 in
theorem pdq_any (W0 : World) (p : Value) (g o cap : Nat) (xs0 : List (Int × Int)) (hcmp : CmpQ W0 g p) (hl : xs0.length ≤ 60000) (n : Nat) : ∀ (a b lim : Nat) (w : World), Sw W0 113 g o cap xs0 w → b ≤ xs0.length → a ≤ b → b < a + n → lim ≤ 1000 →
  Calls Tryz.prog 118 #[.slice (some ⟨g, o, none⟩) xs0.length cap, .int .i64 a, .int .i64 b, .int .i64 lim, .func (.func 97) #[p] #[]] w (fun e w' => (∃ v, e = .returned v) ∧ Sw W0 113 g o cap xs0 w') := by
 induction n with
 | zero => intro a b lim w _ _ h1 h2; omega
 | succ n ih =>
 intro a0 b0 lim0 w hS hb0 hab0 hn hlim
 have hl' : xs0.length ≤ 1000000 := by omega
 go_enter Tryz.func118, Tryz.ntmps118
 go_wp2
 go_loopw [1, 2, 3, 10, 11] (fun va vb vl v10 v11 wr => Sw W0 113 g o cap xs0 wr ∧ ∃ (a b l : Nat) (c10 c11 : Bool), va = .int .i64 a ∧ vb = .int .i64 b ∧ vl = .int .i64 l ∧ v10 = .bool c10 ∧ v11 = .bool c11 ∧ l ≤ 1000 ∧ a0 ≤ a ∧ a ≤ b ∧ b ≤ b0) (fun va vb _ _ _ _ => (intOf vb).toNat - (intOf va).toNat)
 case atStart => exact ⟨hS, a0, b0, lim0, true, true, rfl, rfl, rfl, rfl, rfl, hlim, by omega, by omega, by omega⟩
 case round =>
  obtain ⟨hSr, a, b, lim, c10, c11, rfl, rfl, rfl, rfl, rfl, hlm, ha, hab, hb⟩ := hrel
  clear hS
  obtain ⟨len, hlen⟩ : ∃ l : Nat, l = b - a := ⟨_, rfl⟩
  have wl : IntKind.i64.wrap ((b : Int) - (a : Int)) = (len : Int) := by rw [wrapI (by omega) (by omega)]; omega
  have hbl : b ≤ xs0.length := by omega
  have Hlen := Lib.hid hlen
  have hab12 : ¬ len ≤ 12 → a + 12 < b := by omega
  clear hlen
  by_cases h12 : len ≤ 12
  ·clear hab12
   have l12 : (len : Int) ≤ 12 := by omega
   go_wp2_with (go_at_call 138; refine (insert_any W0 p g o cap xs0 hcmp a b _ hSr hl' hbl hab).mono ?_; rintro e Wn ⟨⟨v, rfl⟩, hSn⟩)
   refine bodyPost_ret (results_none rfl _ _ _) (by rfl) ?_
   exact ⟨⟨_, rfl⟩, hSn⟩
  ·have l12 : ¬ ((len : Int) ≤ 12) := by omega
   replace hab12 := hab12 h12
   by_cases h0 : lim = 0
   ·subst h0
    go_wp2_with (go_at_call 139; refine (heap_any W0 p g o cap xs0 hcmp a b _ hSr hl' hbl hab).mono ?_; rintro e Wn ⟨⟨v, rfl⟩, hSn⟩)
    refine bodyPost_ret (results_none rfl _ _ _) (by rfl) ?_
    exact ⟨⟨_, rfl⟩, hSn⟩
   ·have l0 : ¬ ((lim : Int) = 0) := by omega
    have Hn := Lib.hid (⟨hn, ha, hab, hb, Hlen.out⟩ : _ ∧ _ ∧ _ ∧ _ ∧ _)
    clear hn ha hab hb Hlen h12
    obtain ⟨d10, rfl⟩ : ∃ d, c10 = !d := ⟨!c10, by simp⟩
    obtain ⟨h39, h39e⟩ : ∃ f : Operand → Go.Code → Go.Code → Go.Code, f = Go.Code.cond := ⟨_, rfl⟩
    rw [show Go.Code.cond (Operand.tmp 39) = h39 (Operand.tmp 39) by rw [h39e]]
    replace h39e := Lib.hid h39e
    obtain ⟨h56, h56e⟩ : ∃ f : Operand → Go.Code → Go.Code → Go.Code, f = Go.Code.cond := ⟨_, rfl⟩
    rw [show Go.Code.cond (Operand.tmp 56) = h56 (Operand.tmp 56) by rw [h56e]]
    replace h56e := Lib.hid h56e
    obtain ⟨h75, h75e⟩ : ∃ f : Operand → Go.Code → Go.Code → Go.Code, f = Go.Code.cond := ⟨_, rfl⟩
    rw [show Go.Code.cond (Operand.tmp 75) = h75 (Operand.tmp 75) by rw [h75e]]
    replace h75e := Lib.hid h75e
    obtain ⟨h97, h97e⟩ : ∃ f : Operand → Go.Code → Go.Code → Go.Code, f = Go.Code.cond := ⟨_, rfl⟩
    rw [show Go.Code.cond (Operand.tmp 97) = h97 (Operand.tmp 97) by rw [h97e]]
    replace h97e := Lib.hid h97e
    obtain ⟨r15, r15e⟩ : ∃ f : Nat → Array Oper → Bool → Go.Code, f = Go.Code.region := ⟨_, rfl⟩
    rw [show Go.Code.region 15 = r15 15 by rw [r15e]]
    replace r15e := Lib.hid r15e
    obtain ⟨r17, r17e⟩ : ∃ f : Nat → Array Oper → Bool → Go.Code, f = Go.Code.region := ⟨_, rfl⟩
    rw [show Go.Code.region 17 = r17 17 by rw [r17e]]
    replace r17e := Lib.hid r17e
    go_wp2
    apply wp_cutF [40, 41, 42, 43, 44, 45, 46, 3] (fun x wr => Sw W0 113 g o cap xs0 wr ∧ ∃ l : Nat, x 3 = .int .i64 l ∧ l ≤ 1000)
    case h =>
     have e39 := h39e.out
     subst e39
     have wlm : IntKind.i64.wrap ((lim : Int) - 1) = ((lim - 1 : Nat) : Int) := by rw [wrapI (by omega) (by omega)]; omega
     cases d10
     ·go_wp2
      refine cut_ex ?_ ?_
      ·simp only [Act.sets, Act.put, List.foldl_cons, List.foldl_nil, List.setIfInBounds_toArray, List.set_cons_zero, List.set_cons_succ, Act.get]
       rfl
      exact ⟨_, rfl, by omega⟩
     ·go_wp2_with (go_at_call 140; refine (break_any W0 _ g o cap xs0 a b _ hSr hl hbl hab12).mono ?_; rintro e Wn ⟨⟨v, rfl⟩, hSn⟩)
      refine cut_ex ?_ ?_
      ·simp only [Act.sets, Act.put, List.foldl_cons, List.foldl_nil, List.setIfInBounds_toArray, List.set_cons_zero, List.set_cons_succ, Act.get]
       rfl
      exact ⟨_, rfl, by omega⟩
    case k =>
     rintro x Wk ⟨hSk, lim', hx3, hlim'⟩
     simp only [Act.sets, Act.put, List.foldl_cons, List.foldl_nil, List.setIfInBounds_toArray, List.set_cons_zero, List.set_cons_succ, hx3]
     go_wp2_with (go_at_call 141; refine (choose_any W0 p g o cap xs0 hcmp a b _ hSk hl' hbl hab12).mono ?_; rintro e Wc ⟨hSc, d, h, rfl, hd1, hd2⟩)
     apply wp_cutF [57, 58, 59, 60, 61, 62, 63, 64, 65, 66, 67, 13, 14] (fun x wr => Sw W0 113 g o cap xs0 wr ∧ ∃ (d : Nat) (h : Int), x 13 = .int .i64 d ∧ x 14 = .int .i64 h ∧ a ≤ d ∧ d < b)
     case h =>
      have e56 := h56e.out
      subst e56
      obtain ⟨bm, hbm⟩ : ∃ m : Nat, m = b - 1 := ⟨_, rfl⟩
      obtain ⟨da, hda⟩ : ∃ m : Nat, m = d - a := ⟨_, rfl⟩
      obtain ⟨pd, hpd⟩ : ∃ m : Nat, m = b - 1 - (d - a) := ⟨_, rfl⟩
      have wbm : IntKind.i64.wrap ((b : Int) - 1) = (bm : Int) := by rw [wrapI (by omega) (by omega)]; omega
      have wda : IntKind.i64.wrap ((d : Int) - (a : Int)) = (da : Int) := by rw [wrapI (by omega) (by omega)]; omega
      have wpd : IntKind.i64.wrap ((bm : Int) - (da : Int)) = (pd : Int) := by rw [wrapI (by omega) (by omega)]; omega
      have hpd1 : a ≤ pd := by omega
      have hpd2 : pd < b := by omega
      clear hbm hda hpd
      by_cases h2 : h = 2
      ·subst h2
       go_wp2_with (go_at_call 142; refine (reverse_any W0 _ g o cap xs0 a b _ hSc hl' hbl (by omega)).mono ?_; rintro e Wn ⟨⟨v, rfl⟩, hSn⟩)
       refine cut_ex ?_ ?_
       ·simp only [Act.sets, Act.put, List.foldl_cons, List.foldl_nil, List.setIfInBounds_toArray, List.set_cons_zero, List.set_cons_succ, Act.get]
        rfl
       exact ⟨pd, rfl, ⟨_, rfl⟩, hpd1, hpd2⟩
      ·go_wp2
       refine cut_ex ?_ ?_
       ·simp only [Act.sets, Act.put, List.foldl_cons, List.foldl_nil, List.setIfInBounds_toArray, List.set_cons_zero, List.set_cons_succ, Act.get]
        rfl
       exact ⟨d, rfl, ⟨_, rfl⟩, hd1, hd2⟩
     case k =>
      rintro y Wy ⟨hSy, d', h', hy13, hy14, hd1', hd2'⟩
      simp only [Act.sets, Act.put, List.foldl_cons, List.foldl_nil, List.setIfInBounds_toArray, List.set_cons_zero, List.set_cons_succ, hy13, hy14]
      clear hd1 hd2
      go_wp2
      apply wp_cutF [68, 69, 70, 71, 72, 73, 74, 75] (fun x wr => Sw W0 113 g o cap xs0 wr ∧ ∃ c, x 75 = .bool c)
      case h =>
       have e15 := r15e.out
       subst e15
       cases d10 <;> cases c11 <;> by_cases h1 : h' = 1
       all_goals
        go_wp2
        refine cut_ex ?_ ?_
        ·simp only [Act.sets, Act.put, List.foldl_cons, List.foldl_nil, List.setIfInBounds_toArray, List.set_cons_zero, List.set_cons_succ, Act.get]
         rfl
        first | exact Or.inl rfl | exact Or.inr rfl | exact ⟨_, rfl⟩ | (simp [Act.get, h1])
      case k =>
       rintro z Wz ⟨hSz, c75, hz75⟩
       simp only [Act.sets, Act.put, List.foldl_cons, List.foldl_nil, List.setIfInBounds_toArray, List.set_cons_zero, List.set_cons_succ, hz75]
       go_wp2
       apply wp_cutF [76, 77, 78, 79, 80] (fun x wr => Sw W0 113 g o cap xs0 wr)
       case h =>
        have e75 := h75e.out
        subst e75
        cases c75
        ·go_wp2
         refine cut_ex0 ?_
         simp only [Act.sets, Act.put, List.foldl_cons, List.foldl_nil, List.setIfInBounds_toArray, List.set_cons_zero, List.set_cons_succ, Act.get]
         rfl
        ·go_wp2_with (go_at_call 143; refine (partial_any W0 p g o cap xs0 hcmp a b _ hSz hl' hbl (by omega)).mono ?_; rintro e Wn ⟨hSn, cn, rfl⟩)
         ·refine ⟨fun e => (by cases e), fun _ => ?_⟩
          exact ⟨rfl, _, results_none rfl _ _ _, ⟨_, rfl⟩, hSn⟩
         ·
          refine cut_ex0 ?_
          simp only [Act.sets, Act.put, List.foldl_cons, List.foldl_nil, List.setIfInBounds_toArray, List.set_cons_zero, List.set_cons_succ, Act.get]
          rfl
       case k =>
        rintro y2 wr hS2
        simp only [Act.sets, List.foldl_cons, List.foldl_nil, List.setIfInBounds_toArray, List.set_cons_zero, List.set_cons_succ]
        go_wp2
        apply wp_cutG [81, 82, 83, 84, 85, 86, 87, 88, 89, 90, 91, 92, 93, 94, 95, 96, 97] (fun x wr => Sw W0 113 g o cap xs0 wr ∧ ∃ c, x 97 = .bool c)
        case h =>
         have e17 := r17e.out
         subst e17
         clear hSr hSk hSc hSy hSz
         have hSr := hS2
         clear hS2
         by_cases ha0 : 0 < a
         ·obtain ⟨am, rfl⟩ : ∃ m, a = m + 1 := ⟨a - 1, by omega⟩
          have z3 : (am : Int) + 1 < (xs0.length : Int) := by omega
          have z4 : (am : Int) < (xs0.length : Int) := by omega
          have z6 : (d' : Int) < (xs0.length : Int) := by omega
          have q3 : am < xs0.length := by omega
          have q4 : d' < xs0.length := by omega
          have wj : IntKind.i64.wrap (am : Int) = am := wrapI (by omega) (by omega)
          obtain ⟨hg, cur, xs, hR, hp⟩ := hSr
          have hlen := hp.length_eq
          have hix : am < xs.length := by omega
          have hjx : d' < xs.length := by omega
          have hi2 := hR.at_ hix
          have hj2 := hR.at_ hjx
          obtain ⟨x, hx⟩ : ∃ x, xs[am] = x := ⟨_, rfl⟩
          obtain ⟨y, hy⟩ : ∃ y, xs[d'] = y := ⟨_, rfl⟩
          rw [hx] at hi2; rw [hy] at hj2
          have f1 := hR.lt2 hix; have f2 := hR.lt2 hjx
          have hB := hR.blk
          have Hput : Hid (∀ W1 W2, Blk W1 g 113 (putAt cur (o + (am) * 2) [.int .i64 y.1, .int .i64 y.2]) → wr.grownBy W1 (some g) → Blk W2 g 113 (putAt (putAt cur (o + (am) * 2) [.int .i64 y.1, .int .i64 y.2]) (o + (d') * 2) [.int .i64 x.1, .int .i64 x.2]) → W1.grownBy W2 (some g) → Sw W0 113 g o cap xs0 W2) := Lib.hid (by intro W1 W2 h1 h2 h3 h4; subst hx hy; exact Sw.put2 hg hR hp hix hjx h1 h2 h3 h4)
          have hmA : True := trivial
          have hX := Ext.todrew (Ext.refl wr)
          refine wp_rt (.take 0 (.take 1 (.take 2 (.take 3 (.take 4 (.take 5 (.take 6 (.take 7 (.take 8 (.take 9 (.take 10 (.take 11 (.take 12 (.one 13 (.take 14 (.take 15 (.take 16 .nil))))))))))))))))) (fun w' => Ext wr w') ?_ (fun hHeld => ?_)
          ·assumption
          repeat' first | ((with_reducible refine t_tk ?_); first | ((with_reducible refine t_tk (i := 1) ?_); refine tk (v := .bool true) ?_ hHeld ?_; (· (intro wq hSw; go_simp; first | done | omega | (simp; omega))); (try simp only [pS])) | ((with_reducible refine t_tk (i := 8) ?_); refine tw (v := .agg #[.int .i64 x.1, .int .i64 x.2]) ?_ hHeld ?_; (· exact run_ld (by rfl) (fun W h => ld_stand (hi2.ext h))); (try simp only [pS])) | ((with_reducible refine t_tk (i := 12) ?_); refine tw (v := .agg #[.int .i64 y.1, .int .i64 y.2]) ?_ hHeld ?_; (· exact run_ld (by rfl) (fun W h => ld_stand (hj2.ext h))); (try simp only [pS])) | (refine tk (v := ?_) ?_ hHeld ?_; rotate_left; (· (intro wq hSw; (try dsimp only at hSw); go_simp; (try with_reducible rfl))); (try simp only [pS])) | (refine tw (v := ?_) ?_ hHeld ?_; rotate_left; (· (intro wq hSw; (try dsimp only at hSw); go_simp; (try with_reducible rfl))); (try simp only [pS]))) | ((with_reducible refine t_on ?_); refine t_one (by simp only [gS]; rfl) ?_) | ((with_reducible refine q_gd (d := some 94) ?_); ((refine q_callG (by rfl) (hcmp _ (grown_then hg hX) x y) (by go_simp) ?_; rintro e Wc ⟨⟨r, rfl⟩, hEc⟩; refine ⟨_, rfl, ?_⟩; have hXc := hX.trans hEc; obtain ⟨bb, hbb⟩ : ∃ b, decide (r < 0) = b := ⟨_, rfl⟩))) | ((with_reducible refine q_nl ?_); clear hHeld; refine t_next ?_ (fun hHeld => ?_); (· assumption); (try simp only [pS])) | (with_reducible refine t_done ?_)
          all_goals
           have hSr := Sw.ext (⟨hg, cur, xs, hR, hp⟩ : Sw W0 113 g o cap xs0 wr) hXc
           clear hX hXc hi2 hj2 hB hR Hput hg hx hy hp f1 f2 hmA
           generalize Wc = wr at hSr ⊢
           refine ⟨rfl, ?_⟩
           refine cut_ex ?_ ?_
           ·simp only [Act.sets, Act.put, List.foldl_cons, List.foldl_nil, List.setIfInBounds_toArray, List.set_cons_zero, List.set_cons_succ, Act.get]
            rfl
           exact ⟨hSr, _, rfl⟩
         ·have ha0' : a = 0 := by omega
          subst ha0'
          have hX := Ext.todrew (Ext.refl wr)
          refine wp_rt (.take 0 (.take 1 (.take 2 (.take 3 (.take 4 (.take 5 (.take 6 (.take 7 (.take 8 (.take 9 (.take 10 (.take 11 (.take 12 (.one 13 (.take 14 (.take 15 (.take 16 .nil))))))))))))))))) (fun w' => Ext wr w') ?_ (fun hHeld => ?_)
          ·assumption
          repeat' first | ((with_reducible refine t_tk ?_); first | ((with_reducible refine t_tk (i := 1) ?_); refine tk (v := .bool false) ?_ hHeld ?_; (· (intro wq hSw; go_simp; first | done | omega | (simp; omega))); (try simp only [pS])) | (refine tk (v := ?_) ?_ hHeld ?_; rotate_left; (· (intro wq hSw; (try dsimp only at hSw); go_simp; (try with_reducible rfl))); (try simp only [pS])) | (refine ts hHeld ?_; (try simp only [pS]))) | ((with_reducible refine t_on ?_); refine t_one (by simp only [gS]; rfl) ?_) | ((with_reducible refine q_gd (d := some 94) ?_); refine q_skipG (by rfl) ?_) | ((with_reducible refine q_nl ?_); clear hHeld; refine t_next ?_ (fun hHeld => ?_); (· assumption); (try simp only [pS])) | (with_reducible refine t_done ?_)
          have hSr := Sw.ext hSr hX
          refine ⟨rfl, ?_⟩
          refine cut_ex ?_ ?_
          ·simp only [Act.sets, Act.put, List.foldl_cons, List.foldl_nil, List.setIfInBounds_toArray, List.set_cons_zero, List.set_cons_succ, Act.get]
           rfl
          exact ⟨hSr, _, rfl⟩
        case k =>
         rintro y3 W3 ⟨hS3, c97, hy97⟩
         simp only [Act.sets, Act.put, List.foldl_cons, List.foldl_nil, List.setIfInBounds_toArray, List.set_cons_zero, List.set_cons_succ, hy97]
         clear hSr hSk hSc hSy hSz hS2
         go_wp2
         have e97 := h97e.out
         subst e97
         cases c97
         rotate_left
         ·go_wp2_with (go_at_call 144; refine (partEq_any W0 p g o cap xs0 hcmp a b d' _ hS3 hl' hbl hd1' hd2').mono ?_; rintro e Wn ⟨hSn, dd, rfl, hdd1, hdd2⟩)
          go_roundw
          case rel => obtain ⟨e1, e2, e3, e4, e5⟩ := Hn.out; exact ⟨hSn, dd, b, lim', _, _, rfl, rfl, rfl, rfl, rfl, hlim', by omega, by omega, by omega⟩
          case measure => simp [intOf]; omega
         ·obtain ⟨q, hq⟩ : ∃ q : Nat, q = len / 8 := ⟨_, rfl⟩
          have wq : ((len : Int)).tdiv 8 = (q : Int) := by rw [Int.tdiv_eq_ediv_of_nonneg (by omega)]; omega
          have hlen2 : len ≤ 60000 := by obtain ⟨e1, e2, e3, e4, e5⟩ := Hn.out; omega
          have wqq : IntKind.i64.wrap (q : Int) = (q : Int) := wrapI (by omega) (by omega)
          clear hq
          go_wp2_with (first | (go_at_call 145; (refine (part_any W0 p g o cap xs0 hcmp a b d' _ hS3 hl' hbl hd1' hd2').mono ?_; rintro e Wn ⟨hSn, m, cm, rfl, hm1, hm2⟩; obtain ⟨ll, hll⟩ : ∃ x : Nat, x = m - a := ⟨_, rfl⟩; obtain ⟨rl, hrl⟩ : ∃ x : Nat, x = b - m := ⟨_, rfl⟩; obtain ⟨m1, hm1'⟩ : ∃ x : Nat, x = m + 1 := ⟨_, rfl⟩; have wll : IntKind.i64.wrap ((m : Int) - (a : Int)) = (ll : Int) := (by rw [wrapI (by omega) (by omega)]; omega); have wrl : IntKind.i64.wrap ((b : Int) - (m : Int)) = (rl : Int) := (by rw [wrapI (by omega) (by omega)]; omega); have wm1 : IntKind.i64.wrap ((m : Int) + 1) = (m1 : Int) := (by rw [wrapI (by omega) (by omega)]; omega); have Hm1 := Lib.hid hm1'; clear hll hrl hm1')) | (go_at_call 118; with_reducible refine (ih a m lim' _ hSn (by omega) (by omega) (by obtain ⟨e1, e2, e3, e4, e5⟩ := Hn.out; omega) hlim').mono ?_; rintro e Wo ⟨⟨v, rfl⟩, hSo⟩) | (go_at_call 118; with_reducible refine (ih m1 b lim' _ hSn (by omega) (by have := Hm1.out; omega) (by have := Hm1.out; obtain ⟨e1, e2, e3, e4, e5⟩ := Hn.out; omega) hlim').mono ?_; rintro e Wo ⟨⟨v, rfl⟩, hSo⟩))
          ·have f1 := Hm1.out
           obtain ⟨e1, e2, e3, e4, e5⟩ := Hn.out
           exact ⟨⟨hSo, m1, b, lim', _, _, rfl, rfl, rfl, rfl, rfl, hlim', by omega, by omega, by omega⟩, by simp [intOf]; omega⟩
          ·have f1 := Hm1.out
           obtain ⟨e1, e2, e3, e4, e5⟩ := Hn.out
           exact ⟨⟨hSo, a, m, lim', _, _, rfl, rfl, rfl, rfl, rfl, hlim', by omega, by omega, by omega⟩, by simp [intOf]; omega⟩
end Go.St
end
section
namespace Go.St
open Go Go.Bp Go.RowKit Go.Proofs
theorem sort_any (p : Value) (g o cap : Nat) (cur : Array Value) (xs : List (Int × Int)) (w : World) (hR : Row w 113 g o cap cur xs) (hcmp : CmpQ w g p) (h0 : 0 < xs.length) (hl : xs.length ≤ 60000) :
  Calls Tryz.prog 96 #[.slice (some ⟨g, o, none⟩) xs.length cap, .func (.func 97) #[p] #[]] w (fun e w' => (∃ v, e = .returned v) ∧ Sw w 113 g o cap xs w') := by
 have hS : Sw w 113 g o cap xs w := ⟨grown_refl w _, cur, xs, hR, List.Perm.refl _⟩
 have wu : IntKind.u64.wrap (xs.length : Int) = (xs.length : Int) := by simp [IntKind.wrap, IntKind.bits, IntKind.signed]; omega
 have hb := lenOf_le (y := xs.length) (n := 16) (by omega)
 go_enter Tryz.func96, Tryz.ntmps96
 go_wp2_with (first | (go_at_call 119; (refine (len_any xs.length _ h0 (by omega)).mono ?_; rintro e W1 ⟨rfl, hE1⟩; have hS1 := hS.ext hE1)) | (go_at_call 118; (refine (pdq_any w p g o cap xs hcmp hl (xs.length + 1) 0 xs.length _ _ hS1 (by omega) (by omega) (by omega) (by omega)).mono ?_; rintro e W2 ⟨⟨v, rfl⟩, hS2⟩)))
 go_end0
 exact ⟨⟨_, rfl⟩, hS2⟩
end Go.St
end
section
namespace Go.Bp
open Go.RowKit
structure KeyKind (κ : Type) [DecidableEq κ] (kd : TypeDesc) (kv : κ → Value) : Prop where
  same : ∀ a b, Instr.sameNow kd (kv a) (kv b) = some (decide (a = b))
  check : ∀ (P : Program) (w : World) (t : TypeId) (n : Nat) (b : Bool) (a : κ), P.underlying t = some kd → (Instr.checkKey b (n + 1) t (kv a)).run P w = .ok () w
  bits : ∀ a, Instr.sameBits 10000 (kv a) (kv a) = true
section
variable {κ : Type} [DecidableEq κ] {kd : TypeDesc} {kv : κ → Value}
structure Ents (kv : κ → Value) (es : List MapEntry) (clock : Nat) (m : κ → Option Value) : Prop where
  keys : ∀ e ∈ es, ∃ a, e.key = kv a
  born : ∀ e ∈ es, e.born < clock
  rises : es.Pairwise fun x y => x.born < y.born
  look : ∀ a, m a = none ∧ (∀ e ∈ es, e.key ≠ kv a) ∨ ∃ i, ∃ h : i < es.length, es[i].key = kv a ∧ m a = some es[i].val ∧ ∀ j (hj : j < i), es[j].key ≠ kv a
theorem KeyKind.inj (K : KeyKind κ kd kv) {a b : κ} (h : kv a = kv b) : a = b := by
  have h1 := K.same a b
  have h2 := K.same a a
  rw [← h, h2] at h1
  simpa using h1
def MapM (kv : κ → Value) (w : World) (g : Nat) (m : κ → Option Value) : Prop := ∃ es clock, w.heap[g]? = some (.map es clock) ∧ Ents kv es.toList clock m
end
section
variable {κ : Type} {kv : κ → Value}
theorem MapM.ext {w w' : World} {g : Nat} {m : κ → Option Value} (h : MapM kv w g m) (e : Ext w w') : MapM kv w' g m := by
  obtain ⟨es, c, h1, h2⟩ := h; exact ⟨es, c, e.heap_some h1, h2⟩
theorem MapM.lt {w : World} {g : Nat} {m : κ → Option Value} (h : MapM kv w g m) : g < w.heap.size := by
  obtain ⟨es, c, h1, _⟩ := h; exact (Array.getElem?_eq_some_iff.1 h1).1
theorem MapM.grown {w w' : World} {g : Nat} {m : κ → Option Value} {row : Option Nat} (h : MapM kv w g m) (hg : w.grownBy w' row) (hne : some g ≠ row) : MapM kv w' g m := by
  have hlt := h.lt
  obtain ⟨es, c, h1, h2⟩ := h; exact ⟨es, c, (hg.block g hlt hne).trans h1, h2⟩
theorem MapM.notblk {w : World} {g b : Nat} {m : κ → Option Value} {t : TypeId} {cs : Array Value} (h : MapM kv w g m) (hb : Blk w b t cs) : g ≠ b := by
  rintro rfl
  obtain ⟨es, c, h1, _⟩ := h
  unfold Blk at hb
  rw [hb] at h1; cases h1
theorem MapM.made (w : World) : MapM kv (w.alloc (.map #[] 0)) w.heap.size (fun _ => none) :=
  ⟨#[], 0, heap_alloc_new w _, ⟨by simp, by simp, by simp, fun a => .inl ⟨rfl, by simp⟩⟩⟩
end
section
variable {κ : Type} [DecidableEq κ] {kd : TypeDesc} {kv : κ → Value}
variable {P : Program} {w : World} {t k e : TypeId} {g : Nat} {m : κ → Option Value}
def upd (m : κ → Option Value) (a : κ) (v : Value) : κ → Option Value := fun b => if b = a then some v else m b
end
end Go.Bp
end
section
namespace Go.Bp
open Go.RowKit
section
variable {κ : Type} [DecidableEq κ] {kd : TypeDesc} {kv : κ → Value}
variable {P : Program} {w : World} {t k e : TypeId} {g : Nat} {m : κ → Option Value}
theorem Ents.push (K : KeyKind κ kd kv) {es : Array MapEntry} {c : Nat} (hE : Ents kv es.toList c m) {a : κ} (hn : m a = none) (v : Value) : Ents kv (es.push { key := kv a, val := v, born := c }).toList (c + 1) (upd m a v) := by
  have hno : ∀ e ∈ es.toList, e.key ≠ kv a := by
    rcases hE.look a with ⟨_, h3⟩ | ⟨i, hi, _, h3, _⟩
    · exact h3
    · rw [hn] at h3; cases h3
  have hl : (es.push { key := kv a, val := v, born := c }).toList = es.toList ++ [{ key := kv a, val := v, born := c }] := by simp
  rw [hl]
  refine ⟨fun e he => ?_, fun e he => ?_, ?_, fun b => ?_⟩
  · rcases List.mem_append.1 he with he | he
    · exact hE.keys e he
    · simp at he; exact ⟨a, by rw [he]⟩
  · rcases List.mem_append.1 he with he | he
    · have := hE.born e he; omega
    · simp at he; rw [he]; simp
  · rw [List.pairwise_append]
    refine ⟨hE.rises, by simp, fun x hx y hy => ?_⟩
    simp at hy; rw [hy]; exact hE.born x hx
  · by_cases hb : b = a
    · subst hb
      right
      refine ⟨es.toList.length, by simp, by simp, by simp [upd], fun j hj => ?_⟩
      rw [List.getElem_append_left (by simpa using hj)]
      exact hno _ (List.getElem_mem _)
    · rcases hE.look b with ⟨h2, h3⟩ | ⟨i, hi, h2, h3, h4⟩
      · left
        refine ⟨by simp [upd, hb, h2], fun e he => ?_⟩
        rcases List.mem_append.1 he with he | he
        · exact h3 e he
        · simp at he; rw [he]; exact fun h => hb (K.inj h).symm
      · right
        refine ⟨i, by rw [List.length_append]; omega, by rw [List.getElem_append_left hi]; exact h2, by rw [List.getElem_append_left hi]; simp [upd, hb, h3], fun j hj => ?_⟩
        rw [List.getElem_append_left (by omega)]; exact h4 j hj
theorem Ents.set (K : KeyKind κ kd kv) {es : Array MapEntry} {c : Nat} (hE : Ents kv es.toList c m) {a : κ} {i : Nat} (hi : i < es.toList.length) (hk : es.toList[i].key = kv a) (hn : ∀ j (hj : j < i), es.toList[j].key ≠ kv a) (v : Value) :
    Ents kv (es.modify i fun e => { e with key := kv a, val := v }).toList c (upd m a v) := by
  have hlen : (es.modify i fun e => { e with key := kv a, val := v }).toList.length = es.toList.length := by simp
  have hl : ∀ j (hj : j < es.toList.length), (es.modify i fun e => { e with key := kv a, val := v }).toList[j]'(by simpa using hj) = if i = j then { es.toList[j] with key := kv a, val := v } else es.toList[j] := by
    intro j hj
    rw [Array.getElem_toList, Array.getElem_modify]
    split <;> simp [Array.getElem_toList]
  have hkey : ∀ j (hj : j < es.toList.length), ((es.modify i fun e => { e with key := kv a, val := v }).toList[j]'(by rw [hlen]; exact hj)).key = es.toList[j].key := by
    intro j hj; rw [hl j hj]; split
    · rename_i e1; subst e1; exact hk.symm
    · rfl
  have hborn : ∀ j (hj : j < es.toList.length), ((es.modify i fun e => { e with key := kv a, val := v }).toList[j]'(by rw [hlen]; exact hj)).born = es.toList[j].born := by
    intro j hj; rw [hl j hj]; split <;> rfl
  refine ⟨fun e he => ?_, fun e he => ?_, ?_, fun b => ?_⟩
  · obtain ⟨j, hj, rfl⟩ := List.mem_iff_getElem.1 he
    rw [hlen] at hj
    obtain ⟨x, hx⟩ := hE.keys _ (List.getElem_mem hj)
    exact ⟨x, by rw [hkey j hj]; exact hx⟩
  · obtain ⟨j, hj, rfl⟩ := List.mem_iff_getElem.1 he
    rw [hlen] at hj
    rw [hborn j hj]; exact hE.born _ (List.getElem_mem hj)
  · rw [List.pairwise_iff_getElem]
    intro p q hp hq hpq
    rw [hlen] at hp hq
    rw [hborn p hp, hborn q hq]
    exact List.pairwise_iff_getElem.1 hE.rises p q hp hq hpq
  · by_cases e1 : b = a
    · subst e1
      right
      refine ⟨i, by rw [hlen]; exact hi, by rw [hkey i hi]; exact hk, by rw [hl i hi]; simp [upd], fun j hj => ?_⟩
      rw [hkey j (by omega)]; exact hn j hj
    · rcases hE.look b with ⟨h2, h3⟩ | ⟨q, hq, h2, h3, h4⟩
      · left
        refine ⟨by simp [upd, e1, h2], fun e he => ?_⟩
        obtain ⟨j, hj, rfl⟩ := List.mem_iff_getElem.1 he
        rw [hlen] at hj
        rw [hkey j hj]; exact h3 _ (List.getElem_mem hj)
      · right
        have hqi : i ≠ q := by
          rintro rfl
          exact e1 (K.inj (h2.symm.trans hk))
        refine ⟨q, by rw [hlen]; exact hq, by rw [hkey q hq]; exact h2, by rw [hl q hq, if_neg hqi]; simp [upd, e1, h3], fun j hj => ?_⟩
        rw [hkey j (by omega)]; exact h4 j hj
end
end Go.Bp
end
section
namespace Go.Bp
open Go.RowKit Go.Proofs
structure KeyFind (κ : Type) (P : Program) (kt : TypeId) (kv : κ → Value) : Prop where
 no : ∀ (w : World) (a : κ) (es : List MapEntry), (∀ e ∈ es, ∃ b, e.key = kv b) → (∀ e ∈ es, e.key ≠ kv a) → (Instr.findKey kt (kv a) es).run P w = .ok none w
 yes : ∀ (w : World) (a : κ) (es : List MapEntry) (j : Nat) (h : j < es.length), (∀ e ∈ es, ∃ b, e.key = kv b) → es[j].key = kv a → (∀ q (hq : q < j), es[q].key ≠ kv a) → (Instr.findKey kt (kv a) es).run P w = .ok (some (j, es[j].val)) w
 check : ∀ (w : World) (b : Bool) (a : κ), (Instr.checkKey b 10000 kt (kv a)).run P w = .ok () w
 bits : ∀ a, Instr.sameBits 10000 (kv a) (kv a) = true
 inj : ∀ {a b}, kv a = kv b → a = b
section
variable {κ : Type} [DecidableEq κ] {kv : κ → Value}
variable {P : Program} {w : World} {t kt e : TypeId} {g : Nat} {m : κ → Option Value}
theorem kf_look (K : KeyFind κ P kt kv) (ht : P.underlying t = some (.map kt e)) (h : MapM kv w g m) (a : κ) {z : Value} (hz : (zeroValue e).run P w = .ok z w) :
  (Instr.lookup t (.map (some g)) (kv a) true).run P w = .ok (.tuple #[(m a).getD z, .bool (m a).isSome]) w := by
 obtain ⟨es, c, h1, hE⟩ := h
 have hck := K.check w es.isEmpty a
 unfold Instr.lookup
 simp only [Sem.run_bind, run_underlying ht, Result.andThen_ok, MapKept.run_getObj_map h1, Sem.run_pure, hck]
 rcases hE.look a with ⟨h2, h3⟩ | ⟨i, hi, h2, h3, h4⟩
 ·rw [K.no w a es.toList hE.keys h3, h2]
  simp [hz]
 ·rw [K.yes w a es.toList i hi hE.keys h2 h4, h3]
  simp
theorem kf_look1 (K : KeyFind κ P kt kv) (ht : P.underlying t = some (.map kt e)) (h : MapM kv w g m) (a : κ) {z : Value} (hz : (zeroValue e).run P w = .ok z w) :
  (Instr.lookup t (.map (some g)) (kv a) false).run P w = .ok ((m a).getD z) w := by
 obtain ⟨es, c, h1, hE⟩ := h
 have hck := K.check w es.isEmpty a
 unfold Instr.lookup
 simp only [Sem.run_bind, run_underlying ht, Result.andThen_ok, MapKept.run_getObj_map h1, Sem.run_pure, hck]
 rcases hE.look a with ⟨h2, h3⟩ | ⟨i, hi, h2, h3, h4⟩
 ·rw [K.no w a es.toList hE.keys h3, h2]
  simp [hz]
 ·rw [K.yes w a es.toList i hi hE.keys h2 h4, h3]
  simp
theorem Ents.pushI (inj : ∀ {a b}, kv a = kv b → a = b) {es : Array MapEntry} {c : Nat} (hE : Ents kv es.toList c m) {a : κ} (hn : m a = none) (v : Value) : Ents kv (es.push { key := kv a, val := v, born := c }).toList (c + 1) (upd m a v) := by
 have hno : ∀ e ∈ es.toList, e.key ≠ kv a := by
  rcases hE.look a with ⟨_, h3⟩ | ⟨i, hi, _, h3, _⟩
  ·exact h3
  ·rw [hn] at h3; cases h3
 have hl : (es.push { key := kv a, val := v, born := c }).toList = es.toList ++ [{ key := kv a, val := v, born := c }] := by simp
 rw [hl]
 refine ⟨fun e he => ?_, fun e he => ?_, ?_, fun b => ?_⟩
 ·rcases List.mem_append.1 he with he | he
  ·exact hE.keys e he
  ·simp at he; exact ⟨a, by rw [he]⟩
 ·rcases List.mem_append.1 he with he | he
  ·have := hE.born e he; omega
  ·simp at he; rw [he]; simp
 ·rw [List.pairwise_append]
  refine ⟨hE.rises, by simp, fun x hx y hy => ?_⟩
  simp at hy; rw [hy]; exact hE.born x hx
 ·by_cases hb : b = a
  ·subst hb
   right
   refine ⟨es.toList.length, by simp, by simp, by simp [upd], fun j hj => ?_⟩
   rw [List.getElem_append_left (by simpa using hj)]
   exact hno _ (List.getElem_mem _)
  ·rcases hE.look b with ⟨h2, h3⟩ | ⟨i, hi, h2, h3, h4⟩
   ·left
    refine ⟨by simp [upd, hb, h2], fun e he => ?_⟩
    rcases List.mem_append.1 he with he | he
    ·exact h3 e he
    ·simp at he; rw [he]; exact fun h => hb (inj h).symm
   ·right
    refine ⟨i, by rw [List.length_append]; omega, by rw [List.getElem_append_left hi]; exact h2, by rw [List.getElem_append_left hi]; simp [upd, hb, h3], fun j hj => ?_⟩
    rw [List.getElem_append_left (by omega)]; exact h4 j hj
theorem Ents.setI (inj : ∀ {a b}, kv a = kv b → a = b) {es : Array MapEntry} {c : Nat} (hE : Ents kv es.toList c m) {a : κ} {i : Nat} (hi : i < es.toList.length) (hk : es.toList[i].key = kv a) (hn : ∀ j (hj : j < i), es.toList[j].key ≠ kv a) (v : Value) :
  Ents kv (es.modify i fun e => { e with key := kv a, val := v }).toList c (upd m a v) := by
 have hlen : (es.modify i fun e => { e with key := kv a, val := v }).toList.length = es.toList.length := by simp
 have hl : ∀ j (hj : j < es.toList.length), (es.modify i fun e => { e with key := kv a, val := v }).toList[j]'(by simpa using hj) = if i = j then { es.toList[j] with key := kv a, val := v } else es.toList[j] := by
  intro j hj
  rw [Array.getElem_toList, Array.getElem_modify]
  split <;> simp [Array.getElem_toList]
 have hkey : ∀ j (hj : j < es.toList.length), ((es.modify i fun e => { e with key := kv a, val := v }).toList[j]'(by rw [hlen]; exact hj)).key = es.toList[j].key := by
  intro j hj; rw [hl j hj]; split
  ·rename_i e1; subst e1; exact hk.symm
  ·rfl
 have hborn : ∀ j (hj : j < es.toList.length), ((es.modify i fun e => { e with key := kv a, val := v }).toList[j]'(by rw [hlen]; exact hj)).born = es.toList[j].born := by
  intro j hj; rw [hl j hj]; split <;> rfl
 refine ⟨fun e he => ?_, fun e he => ?_, ?_, fun b => ?_⟩
 ·obtain ⟨j, hj, rfl⟩ := List.mem_iff_getElem.1 he
  rw [hlen] at hj
  obtain ⟨x, hx⟩ := hE.keys _ (List.getElem_mem hj)
  exact ⟨x, by rw [hkey j hj]; exact hx⟩
 ·obtain ⟨j, hj, rfl⟩ := List.mem_iff_getElem.1 he
  rw [hlen] at hj
  rw [hborn j hj]; exact hE.born _ (List.getElem_mem hj)
 ·rw [List.pairwise_iff_getElem]
  intro p q hp hq hpq
  rw [hlen] at hp hq
  rw [hborn p hp, hborn q hq]
  exact List.pairwise_iff_getElem.1 hE.rises p q hp hq hpq
 ·by_cases e1 : b = a
  ·subst e1
   right
   refine ⟨i, by rw [hlen]; exact hi, by rw [hkey i hi]; exact hk, by rw [hl i hi]; simp [upd], fun j hj => ?_⟩
   rw [hkey j (by omega)]; exact hn j hj
  ·rcases hE.look b with ⟨h2, h3⟩ | ⟨q, hq, h2, h3, h4⟩
   ·left
    refine ⟨by simp [upd, e1, h2], fun e he => ?_⟩
    obtain ⟨j, hj, rfl⟩ := List.mem_iff_getElem.1 he
    rw [hlen] at hj
    rw [hkey j hj]; exact h3 _ (List.getElem_mem hj)
   ·right
    have hqi : i ≠ q := by
     rintro rfl
     exact e1 (inj (h2.symm.trans hk))
    refine ⟨q, by rw [hlen]; exact hq, by rw [hkey q hq]; exact h2, by rw [hl q hq, if_neg hqi]; simp [upd, e1, h3], fun j hj => ?_⟩
    rw [hkey j (by omega)]; exact h4 j hj
theorem kf_update (K : KeyFind κ P kt kv) (ht : P.underlying t = some (.map kt e)) (h : MapM kv w g m) (a : κ) (v : Value) :
  ∃ W, (Instr.mapUpdate t (.map (some g)) (kv a) v).run P w = .ok () W ∧ MapM kv W g (upd m a v) ∧ w.grownBy W (some g) := by
 obtain ⟨es, c, h1, hE⟩ := h
 have hlt := (Array.getElem?_eq_some_iff.1 h1).1
 have hck := K.check w false a
 cases hn : m a with
 | none =>
  have hno : ∀ e ∈ es.toList, e.key ≠ kv a := by
   rcases hE.look a with ⟨_, h3⟩ | ⟨i, hi, _, h3, _⟩
   ·exact h3
   ·rw [hn] at h3; cases h3
  refine ⟨w.putObj g (.map (es.push { key := kv a, val := v, born := c }) (c + 1)), ?_, ⟨_, _, World.putObj_heap_same hlt, hE.pushI K.inj hn v⟩, grownBy_putObj' w g _⟩
  unfold Instr.mapUpdate
  simp only [Sem.run_bind, run_underlying ht, Result.andThen_ok, MapKept.run_getObj_map h1, hck]
  rw [K.no w a es.toList hE.keys hno]
  simp [MapKept.run_setObj_map _ h1, World.putObj]
 | some u =>
  rcases hE.look a with ⟨h2, _⟩ | ⟨i, hi, h2, h3, h4⟩
  ·rw [hn] at h2; cases h2
  have hi' : i < es.size := by simpa using hi
  have hkk : es[i].key = kv a := by simpa using h2
  refine ⟨w.putObj g (.map (es.modify i fun e => { e with key := kv a, val := v }) c), ?_, ⟨_, _, World.putObj_heap_same hlt, hE.setI K.inj hi h2 h4 v⟩, grownBy_putObj' w g _⟩
  unfold Instr.mapUpdate
  simp only [Sem.run_bind, run_underlying ht, Result.andThen_ok, MapKept.run_getObj_map h1, hck]
  rw [K.yes w a es.toList i hi hE.keys h2 h4]
  have hes : es[i]? = some es[i] := Array.getElem?_eq_getElem hi'
  simp only [Sem.run_pure, Result.andThen_ok, hes, Option.map_some, Option.getD_some, hkk, Instr.keyThatStays, K.bits, if_true, Sem.run_bind, MapKept.run_setObj_map _ h1]
  simp [World.putObj]
end
def kvI (a : Int × Int) : Value := .agg #[.int .i64 a.1, .int .i64 a.2]
theorem kvI_inj {a b : Int × Int} (h : kvI a = kvI b) : a = b := by
 obtain ⟨a1, a2⟩ := a; obtain ⟨b1, b2⟩ := b
 simp only [kvI, Value.agg.injEq] at h
 have h2 := congrArg Array.toList h
 simp at h2
 simp [h2.1, h2.2]
theorem findAsk_no {t t0 t1 : TypeId} (h : Pair2 t (.int .i64) t0 t1) (w : World) (a : Int × Int) : ∀ (es : List MapEntry) (i : Nat), (∀ e ∈ es, ∃ b, e.key = kvI b) → (∀ e ∈ es, e.key ≠ kvI a) → (Instr.findAsking t (kvI a) es i).run Tryz.prog w = .ok none w
 | [], _, _, _ => by simp [Instr.findAsking]
 | e :: es, i, hk, hn => by
  obtain ⟨b, hb⟩ := hk e (by simp)
  have hne : ¬ (a.1 = b.1 ∧ a.2 = b.2) := fun k => hn e (by simp) (by rw [hb, show a = b from Prod.ext k.1 k.2])
  have he : (Op.equal t (kvI a) e.key).run Tryz.prog w = .ok false w := by
   rw [hb]
   have := eq_pairI h w 9998 a.1 a.2 b.1 b.2
   rw [show (9998 + 2 : Nat) = Op.maxDepth from rfl] at this
   simpa [Op.equal, kvI, hne] using this
  unfold Instr.findAsking
  simp only [Sem.run_bind, he, Result.andThen_ok, Bool.false_eq_true, if_false]
  exact findAsk_no h w a es (i + 1) (fun e he => hk e (by simp [he])) (fun e he => hn e (by simp [he]))
theorem findAsk_yes {t t0 t1 : TypeId} (h : Pair2 t (.int .i64) t0 t1) (w : World) (a : Int × Int) : ∀ (es : List MapEntry) (i j : Nat) (hj : j < es.length), (∀ e ∈ es, ∃ b, e.key = kvI b) → es[j].key = kvI a → (∀ q (hq : q < j), es[q].key ≠ kvI a) → (Instr.findAsking t (kvI a) es i).run Tryz.prog w = .ok (some (i + j, es[j].val)) w
 | [], _, _, hj, _, _, _ => by simp at hj
 | e :: es, i, 0, hj, hk, he, _ => by
  simp only [List.getElem_cons_zero] at he
  have he' : (Op.equal t (kvI a) e.key).run Tryz.prog w = .ok true w := by
   rw [he]
   have := eq_pairI h w 9998 a.1 a.2 a.1 a.2
   rw [show (9998 + 2 : Nat) = Op.maxDepth from rfl] at this
   simpa [Op.equal, kvI] using this
  unfold Instr.findAsking
  simp [Sem.run_bind, he']
 | e :: es, i, j + 1, hj, hk, he, hn => by
  obtain ⟨b, hb⟩ := hk e (by simp)
  have hne : ¬ (a.1 = b.1 ∧ a.2 = b.2) := fun k => hn 0 (by omega) (by simp [hb, show a = b from Prod.ext k.1 k.2])
  have he' : (Op.equal t (kvI a) e.key).run Tryz.prog w = .ok false w := by
   rw [hb]
   have := eq_pairI h w 9998 a.1 a.2 b.1 b.2
   rw [show (9998 + 2 : Nat) = Op.maxDepth from rfl] at this
   simpa [Op.equal, kvI, hne] using this
  unfold Instr.findAsking
  simp only [Sem.run_bind, he', Result.andThen_ok, Bool.false_eq_true, if_false]
  have := findAsk_yes h w a es (i + 1) j (by simpa using hj) (fun e he => hk e (by simp [he])) (by simpa using he) (fun q hq => by have := hn (q + 1) (by omega); simpa using this)
  rw [this]
  simp [Nat.add_assoc, Nat.add_comm 1 j]
theorem findKey_ask {t t0 t1 : TypeId} (h : Pair2 t (.int .i64) t0 t1) (w : World) (a : Int × Int) (es : List MapEntry) : (Instr.findKey t (kvI a) es).run Tryz.prog w = (Instr.findAsking t (kvI a) es 0).run Tryz.prog w := by
 unfold Instr.findKey
 simp only [Sem.run_bind, run_underlying h.und, Result.andThen_ok]
 cases es with
 | nil => simp [Instr.findNow, Instr.findAsking]
 | cons e es => simp [Instr.findNow, Instr.sameNow]
theorem check_pair {t t0 t1 : TypeId} (h : Pair2 t (.int .i64) t0 t1) (w : World) (b : Bool) (a : Int × Int) (n : Nat) : (Instr.checkKey b (n + 2) t (kvI a)).run Tryz.prog w = .ok () w := by
 obtain ⟨n0, n1, hf, m0, m1⟩ := h.fld
 have hu := h.und
 unfold kvI
 rw [show n + 2 = (n + 1) + 1 from rfl, Instr.checkKey]
 simp only [Sem.run_bind, run_underlying hu, Result.andThen_ok]
 generalize Tryz.prog.fieldsOf t = fs at hf ⊢
 obtain ⟨l⟩ := fs
 simp only at hf
 have hl2 : l.length = 2 := by have := congrArg List.length hf; simpa using this
 obtain ⟨f0, f1, rfl⟩ : ∃ f0 f1, l = [f0, f1] := by
  rcases l with _ | ⟨f0, _ | ⟨f1, _ | ⟨f2, l⟩⟩⟩ <;> simp at hl2
  exact ⟨f0, f1, rfl⟩
 simp only [List.map_cons, List.map_nil, List.cons.injEq, Prod.mk.injEq, and_true] at hf
 obtain ⟨⟨n0', t0', o0⟩, ⟨n1', t1', o1⟩⟩ := hf
 simp [n0', n1', m0, m1, t0', t1', o0, o1, part, isAgg, run_underlying h.u0, run_underlying h.u1, Instr.checkKey, Sem.run_bind]
theorem pairKeys {t t0 t1 : TypeId} (h : Pair2 t (.int .i64) t0 t1) : KeyFind (Int × Int) Tryz.prog t kvI where
 no w a es hk hn := by rw [findKey_ask h]; exact findAsk_no h w a es 0 hk hn
 yes w a es j hj hk he hn := by rw [findKey_ask h, findAsk_yes h w a es 0 j hj hk he hn, Nat.zero_add]
 check w b a := check_pair h w b a 9998
 bits a := by simp [Instr.sameBits, kvI]
 inj := kvI_inj
end Go.Bp
end
section
namespace Go.St
open Go Go.Bp Go.RowKit Go.Proofs
theorem ld_standB {w : World} {g : Nat} {a b : Value} (h : Blk w g 113 #[a, b]) : (loadVar 113 ⟨g, 0, none⟩).run Tryz.prog w = .ok (.agg #[a, b]) w := ld_blk Tryz.underlying113 sizeStand h rfl
theorem ld_costB {w : World} {g : Nat} {a b : Value} (h : Blk w g 115 #[a, b]) : (loadVar 115 ⟨g, 0, none⟩).run Tryz.prog w = .ok (.agg #[a, b]) w := ld_blk Tryz.underlying115 sizeCost h rfl
theorem zero_cost (w : World) : (zeroValue 115).run Tryz.prog w = .ok (.agg #[.int .i64 0, .int .i64 0]) w := by
 obtain ⟨i, hi0, hz, hs, hb⟩ := info_parts ti115
 simp [zeroValue, typeInfo, hi0, hz]
def costM (T : Tab) : Int × Int → Option Value := fun x => (T x.1 x.2).map kvI
def costOf (T : Tab) (x : Int × Int) : Int × Int := (T x.1 x.2).getD (0, 0)
theorem costM_val (T : Tab) (x : Int × Int) : (costM T x).getD (.agg #[.int .i64 0, .int .i64 0]) = .agg #[.int .i64 (costOf T x).1, .int .i64 (costOf T x).2] := by
 unfold costM costOf
 cases T x.1 x.2 <;> rfl
theorem costM_some (T : Tab) (x : Int × Int) : (costM T x).isSome = (T x.1 x.2).isSome := by unfold costM; cases T x.1 x.2 <;> rfl
theorem costM_put (T : Tab) (p s : Int) (c : Int × Int) : upd (costM T) (p, s) (kvI c) = costM (put T p s c) := by
 funext x
 unfold upd costM put
 by_cases h : x = (p, s)
 ·subst h; simp
 ·have : ¬ (x.1 = p ∧ x.2 = s) := fun e => h (Prod.ext e.1 e.2)
  rw [if_neg h, if_neg this]
theorem run_look1S {S : World → Prop} {s : Act} {gd : Option (Tmp × Bool)} {d : Option Tmp} {ty : TypeId} {pos : String} {after : Array Edge} {x y : Operand} {gm : Nat} {T : Tab} {p : Int × Int}
  (hM : ∀ W, S W → MapM kvI W gm (costM T)) (hx : s.eval x = .map (some gm)) (hy : s.eval y = .agg #[.int .i64 p.1, .int .i64 p.2]) :
  ∀ W, S W → (execOp s.eval (⟨d, .lookup 118 x y false, ty, pos, after, gd⟩ : Oper)).run Tryz.prog W = .ok (.value (.agg #[.int .i64 (costOf T p).1, .int .i64 (costOf T p).2])) W := by
 intro W h
 have := kf_look1 (pairKeys pairStand) Tryz.underlying118 (hM W h) p (zero_cost W)
 rw [costM_val] at this
 simp [execOp, hx, hy]
 rw [show (Value.agg #[Value.int .i64 p.1, Value.int .i64 p.2]) = kvI p from rfl, this]
 rfl
theorem run_look2S {S : World → Prop} {s : Act} {gd : Option (Tmp × Bool)} {d : Option Tmp} {ty : TypeId} {pos : String} {after : Array Edge} {x y : Operand} {gm : Nat} {T : Tab} {p : Int × Int}
  (hM : ∀ W, S W → MapM kvI W gm (costM T)) (hx : s.eval x = .map (some gm)) (hy : s.eval y = .agg #[.int .i64 p.1, .int .i64 p.2]) :
  ∀ W, S W → (execOp s.eval (⟨d, .lookup 118 x y true, ty, pos, after, gd⟩ : Oper)).run Tryz.prog W = .ok (.value (.tuple #[.agg #[.int .i64 (costOf T p).1, .int .i64 (costOf T p).2], .bool (T p.1 p.2).isSome])) W := by
 intro W h
 have := kf_look (pairKeys pairStand) Tryz.underlying118 (hM W h) p (zero_cost W)
 rw [costM_val, costM_some] at this
 simp [execOp, hx, hy]
 rw [show (Value.agg #[Value.int .i64 p.1, Value.int .i64 p.2]) = kvI p from rfl, this]
 rfl
set_option maxHeartbeats 2000000 in
theorem pcompare_any (gj gm : Nat) (T : Tab) (x y : Int × Int) (w : World) (j10 : w.cell? ⟨gj, 10, none⟩ = some (.map (some gm))) (hM : MapM kvI w gm (costM T)) :
  Calls Tryz.prog 97 #[.pointer (some ⟨gj, 0, none⟩), .agg #[.int .i64 x.1, .int .i64 x.2], .agg #[.int .i64 y.1, .int .i64 y.2]] w (fun e w' => (∃ r, e = .returned (.int .i64 r)) ∧ Ext w w') := by
 have hE := Ext.refl w
 have j10w := j10; have hMw := hM
 go_enter Tryz.func97, Tryz.ntmps97
 go_wp2_with (first | ((with_reducible refine q_box (d := some 4) ?_); intro W4 g4 hE4 hB4 hg4; simp [Act.eval, Act.put, Value.cells] at hB4; (try replace hE := hE.trans hE4); (try replace hM := hM.ext hE4); (try replace j10 := Ext.cell_some hE4 j10); clear hE4) | ((with_reducible refine q_box (d := some 5) ?_); intro W5 g5 hE5 hB5 hg5; simp [Act.eval, Act.put, Value.cells] at hB5; (try replace hE := hE.trans hE5); (try replace hM := hM.ext hE5); (try replace hB4 := hB4.ext hE5); (try replace j10 := Ext.cell_some hE5 j10); clear hE5))
 obtain ⟨Wb, hWb⟩ : ∃ W, W5 = W := ⟨_, rfl⟩
 have hX := Ext.todrew (Ext.refl W5)
 obtain ⟨c1, hc1⟩ : ∃ c, costOf T x = c := ⟨_, rfl⟩
 obtain ⟨c2, hc2⟩ : ∃ c, costOf T y = c := ⟨_, rfl⟩
 refine wp_rt (.take 0 (.take 1 (.take 2 (.take 3 (.take 4 (.take 5 (.take 6 (.take 7 (.take 8 (.take 9 (.take 10 (.take 11 (.two 12 (.one 13 (.one 14 (.one 15 .nil))) 13 (.one 12 (.one 14 (.one 15 .nil)))))))))))))))) (fun w' => Ext W5 w') ?_ (fun hHeld => ?_)
 ·assumption
 repeat' first | ((with_reducible refine t_tk ?_); first | ((with_reducible refine t_tk (i := 3) ?_); refine tk (v := .map (some gm)) ?_ hHeld ?_; (· exact run_ld (by rfl) (fun W h => load_one Tryz.underlying118 rfl (Ext.cell_some h j10))); (try simp only [pS])) | ((with_reducible refine t_tk (i := 4) ?_); refine tk (v := .agg #[.int .i64 x.1, .int .i64 x.2]) ?_ hHeld ?_; (· exact run_ld (by rfl) (fun W h => ld_standB (hB4.ext h))); (try simp only [pS])) | ((with_reducible refine t_tk (i := 5) ?_); refine tk (v := .agg #[.int .i64 c1.1, .int .i64 c1.2]) ?_ hHeld ?_; (· exact (by rw [← hc1]; exact run_look1S (fun W h => hM.ext h) (by rfl) (by rfl))); (try simp only [pS])) | ((with_reducible refine t_tk (i := 9) ?_); refine tk (v := .map (some gm)) ?_ hHeld ?_; (· exact run_ld (by rfl) (fun W h => load_one Tryz.underlying118 rfl (Ext.cell_some h j10))); (try simp only [pS])) | ((with_reducible refine t_tk (i := 10) ?_); refine tk (v := .agg #[.int .i64 y.1, .int .i64 y.2]) ?_ hHeld ?_; (· exact run_ld (by rfl) (fun W h => ld_standB (hB5.ext h))); (try simp only [pS])) | ((with_reducible refine t_tk (i := 11) ?_); refine tk (v := .agg #[.int .i64 c2.1, .int .i64 c2.2]) ?_ hHeld ?_; (· exact (by rw [← hc2]; exact run_look1S (fun W h => hM.ext h) (by rfl) (by rfl))); (try simp only [pS])) | (refine tk (v := ?_) ?_ hHeld ?_; rotate_left; (· (intro wq hSw; (try dsimp only at hSw); go_simp; (try with_reducible rfl))); (try simp only [pS]))) | ((with_reducible refine t_on ?_); refine t_one (by simp only [gS]; rfl) ?_) | ((with_reducible refine t_tw ?_); refine t_two (by simp only [gS]; rfl) (by simp only [gS]; rfl) ?_ ?_) | ((with_reducible refine q_gd (d := some 7) ?_); (((with_reducible refine q_alloc (d := some 7) ti115 ?_); intro W7 g7 hE7 hB7 hg7; simp [Value.cells] at hB7; (try have hn87 := hB8.lt); have hl7 := Nat.le_trans hX.size hg7; replace hX := hX.trans hE7; (try replace hB8 := hB8.ext hE7); (try have hn78 : g7 ≠ g8 := by omega)))) | ((with_reducible refine q_gd (d := some 8) ?_); (((with_reducible refine q_alloc (d := some 8) ti115 ?_); intro W8 g8 hE8 hB8 hg8; simp [Value.cells] at hB8; (try have hn87 := hB7.lt); have hl8 := Nat.le_trans hX.size hg8; replace hX := hX.trans hE8; (try replace hB7 := hB7.ext hE8); (try have hn78 : g7 ≠ g8 := by omega)))) | ((with_reducible refine q_gd (d := none) ?_); ((first | ((with_reducible refine q_store (t := 115) (e := 115) (g := g7) (off := 0) (n := 2) (v := .agg #[.int .i64 c1.1, .int .i64 c1.2]) ?_ ?_ hB7 sizeCost ?_ ?_ ?_ ?_); rfl; rfl; rfl; (simp [Value.cells]); (simp [Value.cells, Value.oneCell']); intro Ws hBs hgrs; simp [putAt, Value.cells] at hBs; replace hX := below_grown2 hX hgrs hl7; replace hB8 := hB8.grown hgrs (fun e => hn78 (Option.some.inj e).symm)) | ((with_reducible refine q_store (t := 115) (e := 115) (g := g8) (off := 0) (n := 2) (v := .agg #[.int .i64 c2.1, .int .i64 c2.2]) ?_ ?_ hB8 sizeCost ?_ ?_ ?_ ?_); rfl; rfl; rfl; (simp [Value.cells]); (simp [Value.cells, Value.oneCell']); intro Wt hBt hgrt; simp [putAt, Value.cells] at hBt; replace hX := below_grown2 hX hgrt hl8; replace hBs := hBs.grown hgrt (fun e => hn78 (Option.some.inj e)))))) | ((with_reducible refine q_nl ?_); clear hHeld; refine t_next ?_ (fun hHeld => ?_); (· assumption); (try simp only [pS])) | (with_reducible refine t_done ?_)
 all_goals
  have s0 := hBs.cell 0; have s1 := hBs.cell 1; have s2 := hBt.cell 0; have s3 := hBt.cell 1
  simp at s0 s1 s2 s3
  have hXw := Ext.trans hE hX
  clear hBs hBt hX hgrs hgrt hB4 hB5 hM j10 hMw j10w hc1 hc2 hE
  go_wp2
  have hY := Ext.todrew (Ext.refl Wt)
  refine wp_rt (.take 0 (.take 1 (.take 2 (.take 3 (.take 5 (.take 6 (.take 7 (.take 8 (.one 4 (.one 9 (.one 10 (.one 11 (.take 12 .nil))))))))))))) (fun w' => Ext Wt w') ?_ (fun hHeld => ?_)
  ·assumption
  repeat' first | ((with_reducible refine t_tk ?_); first | ((with_reducible refine t_tk (i := 1) ?_); refine tk (v := .int .i64 c1.1) ?_ hHeld ?_; (· exact run_ld (by rfl) (fun W h => load_one Tryz.underlying3 rfl (Ext.cell_some h s0))); (try simp only [pS])) | ((with_reducible refine t_tk (i := 3) ?_); refine tk (v := .int .i64 c2.1) ?_ hHeld ?_; (· exact run_ld (by rfl) (fun W h => load_one Tryz.underlying3 rfl (Ext.cell_some h s2))); (try simp only [pS])) | ((with_reducible refine t_tk (i := 6) ?_); refine tk (v := .int .i64 c1.2) ?_ hHeld ?_; (· exact run_ld (by rfl) (fun W h => load_one Tryz.underlying3 rfl (Ext.cell_some h s1))); (try simp only [pS])) | ((with_reducible refine t_tk (i := 8) ?_); refine tk (v := .int .i64 c2.2) ?_ hHeld ?_; (· exact run_ld (by rfl) (fun W h => load_one Tryz.underlying3 rfl (Ext.cell_some h s3))); (try simp only [pS])) | (refine tk (v := ?_) ?_ hHeld ?_; rotate_left; (· (intro wq hSw; (try dsimp only at hSw); go_simp; (try with_reducible rfl))); (try simp only [pS]))) | ((with_reducible refine t_on ?_); refine t_one (by simp only [gS]; rfl) ?_) | ((with_reducible refine q_gd (d := some 25) ?_); ((refine q_call (by rfl) (cmpCompare_any c1.1 c2.1 _) (by go_simp) ?_; rintro e W25 ⟨rfl, hE25⟩; refine ⟨_, rfl, ?_⟩; replace hY := hY.trans hE25))) | ((with_reducible refine q_gd (d := some 30) ?_); ((refine q_call (by rfl) (cmpCompare_any c1.2 c2.2 _) (by go_simp) ?_; rintro e W30 ⟨rfl, hE30⟩; refine ⟨_, rfl, ?_⟩; replace hY := hY.trans hE30))) | ((with_reducible refine q_gd (d := some 31) ?_); (((with_reducible refine q_bl2 (d := some 31) (n0 := cmpI c1.1 c2.1) (n1 := cmpI c1.2 c2.2) ?_ ?_ ?_); rfl; rfl; intro W31 g31 hE31 hB31 hg31; replace hY := hY.trans hE31; have hI31 := ints_blk2 hB31))) | ((with_reducible refine q_gd (d := some 32) ?_); ((refine q_call (by rfl) (cmpOr_any _ _ _ hI31) (by go_simp) ?_; rintro e W32 ⟨rfl, hE32⟩; refine ⟨_, rfl, ?_⟩; replace hY := hY.trans hE32))) | ((with_reducible refine q_nl ?_); clear hHeld; refine t_next ?_ (fun hHeld => ?_); (· assumption); (try simp only [pS])) | (with_reducible refine t_done ?_)
  go_wp2
  go_ret
  exact ⟨⟨_, rfl⟩, Ext.trans hXw hY⟩
end Go.St
end
