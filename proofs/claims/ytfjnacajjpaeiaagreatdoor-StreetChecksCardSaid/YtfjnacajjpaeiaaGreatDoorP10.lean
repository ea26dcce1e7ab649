/- Chapter 03: contracts of functions of the program and of the reference, and plain laws (out of SQ3 SQ4). No condition of its own. -/
import Derived.BigQuiet
import Derived.Deep.AppendLies
import Derived.Deep.Draws
import Derived.Deep.LoopGhost
import Derived.Deep.QuietTactic
import Derived.Deep.RegionHeld3
import Derived.Laws.RangeAny
import Derived.Laws.StructEq
import Derived.Lib.AtoiAll
import Derived.Lib.Hide
import Derived.Lib.ItoaMem
import Derived.Lib.SliceRun
import Derived.Lib.Split
import Derived.Maps.AppendAt
import Derived.OrdersHeld
import Derived.Shelf.Abstract
import Derived.Test.YtfjnacajjpaeiaaGreatDoorProg
import Derived.WalkKit
import Derived.WalkLawsBesides
import Derived.WalkSpells
import Derived.Test.YtfjnacajjpaeiaaGreatDoorP01
import Derived.Test.YtfjnacajjpaeiaaGreatDoorP02
import Derived.Test.YtfjnacajjpaeiaaGreatDoorP03
import Derived.Test.YtfjnacajjpaeiaaGreatDoorP04
import Derived.Test.YtfjnacajjpaeiaaGreatDoorP05
import Derived.Test.YtfjnacajjpaeiaaGreatDoorP07
import Derived.Test.YtfjnacajjpaeiaaGreatDoorP09
set_option maxRecDepth 100000
set_option linter.unusedSimpArgs false
set_option linter.unusedVariables false
section
namespace Go.St
open Go Go.Bp Go.RowKit Go.Proofs
theorem ti3 : (Tryz.prog.info? 3).map (fun i => (i.zero, i.size, i.bytes)) = some (some (.int .i64 0), 1, 8) := by kernel_rfl
theorem _root_.Go.Bp.Sw.own {W0 W W' : World} {e : TypeId} {g o cap gs : Nat} {xs0 : List (Int × Int)} (h : Sw W0 e g o cap xs0 W) (hg : W.grownBy W' (some gs)) (h0 : W0.heap.size ≤ gs) (hne : g ≠ gs) : Sw W0 e g o cap xs0 W' := by
 obtain ⟨h1, cur, xs, hR, hp⟩ := h
 refine ⟨⟨hg.os.trans h1.os, hg.tape.trans h1.tape, hg.output.trans h1.output, Nat.le_trans h1.size hg.size, fun i hi hn => (hg.block i (Nat.lt_of_lt_of_le hi h1.size) (fun e => by injection e; omega)).trans (h1.block i hi hn)⟩, cur, xs, ⟨hR.blk.grown hg (fun e => hne (Option.some.inj e)), hR.fit, hR.len, hR.read⟩, hp⟩
theorem _root_.Go.Bp.Sw.ne {W0 W : World} {g o cap gs : Nat} {xs0 : List (Int × Int)} {t : TypeId} {cs : Array Value} (h : Sw W0 113 g o cap xs0 W) (hb : Blk W gs t cs) (ht : t ≠ 113) : g ≠ gs := by
 obtain ⟨h1, cur, xs, hR, hp⟩ := h
 exact blk_ne hR.blk hb (fun e => ht e.symm)
set_option maxHeartbeats 2000000 in
theorem order2_any (W0 : World) (p : Value) (g o cap : Nat) (xs0 : List (Int × Int)) (hcmp : CmpQ W0 g p) (lo hi a b gs : Nat) (n : Int) (w : World) (hS : Sw W0 113 g o cap xs0 w) (hl : xs0.length ≤ 1000000) (hhi : hi ≤ xs0.length) (ha : lo ≤ a ∧ a < hi) (hb : lo ≤ b ∧ b < hi) (hgs : W0.heap.size ≤ gs) (hBs : Blk w gs 3 #[.int .i64 n]) (hn : 0 ≤ n ∧ n ≤ 1000) :
  Calls Tryz.prog 171 #[.slice (some ⟨g, o, none⟩) xs0.length cap, .int .i64 a, .int .i64 b, .pointer (some ⟨gs, 0, none⟩), .func (.func 97) #[p] #[]] w
   (fun e w' => Sw W0 113 g o cap xs0 w' ∧ ∃ (n' : Int) (c d : Nat), e = .returned (.tuple #[.int .i64 c, .int .i64 d]) ∧ Blk w' gs 3 #[.int .i64 n'] ∧ 0 ≤ n' ∧ n' ≤ n + 1 ∧ (lo ≤ c ∧ c < hi) ∧ lo ≤ d ∧ d < hi) := by
 obtain ⟨wr, hwr⟩ : ∃ W, W = w := ⟨_, rfl⟩
 have hSr := hS
 rw [← hwr] at hSr
 have q1 : b < xs0.length := by omega
 have q2 : a < xs0.length := by omega
 have z1 : (a : Int) < (xs0.length : Int) := by omega
 have z2 : (b : Int) < (xs0.length : Int) := by omega
 obtain ⟨hg, cur, xs, hR, hp⟩ := hSr
 have hlen := hp.length_eq
 have hix : b < xs.length := by omega
 have hjx : a < xs.length := by omega
 have hi2 := hR.at_ hix
 have hj2 := hR.at_ hjx
 obtain ⟨x, hx⟩ : ∃ x, xs[b] = x := ⟨_, rfl⟩
 obtain ⟨y, hy⟩ : ∃ y, xs[a] = y := ⟨_, rfl⟩
 rw [hx] at hi2; rw [hy] at hj2
 have f1 := hR.lt2 hix; have f2 := hR.lt2 hjx
 have hB := hR.blk
 have Hput : Hid (∀ W1 W2, Blk W1 g 113 (putAt cur (o + (b) * 2) [.int .i64 y.1, .int .i64 y.2]) → wr.grownBy W1 (some g) → Blk W2 g 113 (putAt (putAt cur (o + (b) * 2) [.int .i64 y.1, .int .i64 y.2]) (o + (a) * 2) [.int .i64 x.1, .int .i64 x.2]) → W1.grownBy W2 (some g) → Sw W0 113 g o cap xs0 W2) := Lib.hid (by intro W1 W2 h1 h2 h3 h4; subst hx hy; exact Sw.put2 hg hR hp hix hjx h1 h2 h3 h4)
 have hmA : True := trivial
 rw [← hwr] at hBs hS ⊢
 have wn : IntKind.i64.wrap (n + 1) = n + 1 := wrapI (by omega) (by omega)
 clear hwr
 go_enter Tryz.func171, Tryz.ntmps171
 go_wp2
 have hX := Ext.todrew (Ext.refl wr)
 refine wp_rt (.take 0 (.take 1 (.take 2 (.take 3 (.take 4 (.take 5 (.take 6 (.take 7 (.take 8 (.one 9 (.take 10 .nil))))))))))) (fun w' => Ext wr w') ?_ (fun hHeld => ?_)
 ·assumption
 repeat' first | ((with_reducible refine t_tk ?_); first | ((with_reducible refine t_tk (i := 4) ?_); refine tk (v := .agg #[.int .i64 x.1, .int .i64 x.2]) ?_ hHeld ?_; (· exact run_ld (by rfl) (fun W h => ld_stand (hi2.ext h))); (try simp only [pS])) | ((with_reducible refine t_tk (i := 8) ?_); refine tk (v := .agg #[.int .i64 y.1, .int .i64 y.2]) ?_ hHeld ?_; (· exact run_ld (by rfl) (fun W h => ld_stand (hj2.ext h))); (try simp only [pS])) | (refine tk (v := ?_) ?_ hHeld ?_; rotate_left; (· (intro wq hSw; (try dsimp only at hSw); go_simp; (try with_reducible rfl))); (try simp only [pS]))) | ((with_reducible refine t_on ?_); refine t_one (by simp only [gS]; rfl) ?_) | ((with_reducible refine q_gd (d := some 21) ?_); ((refine q_call (by rfl) (hcmp _ (grown_then hg hX) x y) (by go_simp) ?_; rintro e Wc ⟨⟨r, rfl⟩, hEc⟩; refine ⟨_, rfl, ?_⟩; have hXc := hX.trans hEc; obtain ⟨bb, hbb⟩ : ∃ b, decide (r < 0) = b := ⟨_, rfl⟩))) | ((with_reducible refine q_nl ?_); clear hHeld; refine t_next ?_ (fun hHeld => ?_); (· assumption); (try simp only [pS])) | (with_reducible refine t_done ?_)
 have hSc := Sw.ext hS hXc
 have hBc := hBs.ext hXc
 have hne := hSc.ne hBc (by decide)
 have cs := hBc.cell 0
 simp at cs
 clear hX hXc hi2 hj2 hB hR Hput hg hx hy hp hS
 cases bb
 ·go_wp2
  go_ret2
  exact ⟨hSc, n, a, b, rfl, hBc, by omega, by omega, ha, hb⟩
 ·go_wp2_with (first | ((with_reducible refine q_store1 (t := 3) (e := 3) (g := gs) (off := 0) (v := .int .i64 (n + 1)) ?_ ?_ hBc sizeI ?_ ?_ ?_ ?_); rfl; rfl; rfl; simp; rfl; intro Ws hBt hgrs; simp at hBt; replace hSc := hSc.own hgrs hgs hne))
  go_ret2
  exact ⟨hSc, n + 1, b, a, rfl, hBt, by omega, by omega, hb, ha⟩
set_option maxHeartbeats 2000000 in
theorem median_any (W0 : World) (p : Value) (g o cap : Nat) (xs0 : List (Int × Int)) (hcmp : CmpQ W0 g p) (lo hi a b c gs : Nat) (n : Int) (w : World) (hS : Sw W0 113 g o cap xs0 w) (hl : xs0.length ≤ 1000000) (hhi : hi ≤ xs0.length) (ha : lo ≤ a ∧ a < hi) (hb : lo ≤ b ∧ b < hi) (hc : lo ≤ c ∧ c < hi) (hgs : W0.heap.size ≤ gs) (hBs : Blk w gs 3 #[.int .i64 n]) (hn : 0 ≤ n ∧ n ≤ 900) :
  Calls Tryz.prog 162 #[.slice (some ⟨g, o, none⟩) xs0.length cap, .int .i64 a, .int .i64 b, .int .i64 c, .pointer (some ⟨gs, 0, none⟩), .func (.func 97) #[p] #[]] w
   (fun e w' => Sw W0 113 g o cap xs0 w' ∧ ∃ (n' : Int) (d : Nat), e = .returned (.int .i64 d) ∧ Blk w' gs 3 #[.int .i64 n'] ∧ 0 ≤ n' ∧ n' ≤ n + 3 ∧ lo ≤ d ∧ d < hi) := by
 have hm0 : True := trivial
 have hm1 : True := trivial
 go_enter Tryz.func162, Tryz.ntmps162
 go_wp2_with (first | (clear hm0; go_at_call 171; refine (order2_any W0 p g o cap xs0 hcmp lo hi a b gs n _ hS hl hhi ha hb hgs hBs (by omega)).mono ?_; rintro e W1 ⟨hS1, n1, c1, d1, rfl, hB1, m1, k1, hc1, hd1⟩; clear hS hBs ha hb) | (clear hm1; go_at_call 171; refine (order2_any W0 p g o cap xs0 hcmp lo hi d1 c gs n1 _ hS1 hl hhi hd1 hc hgs hB1 (by omega)).mono ?_; rintro e W2 ⟨hS2, n2, c2, d2, rfl, hB2, m2, k2, hc2, hd2⟩; clear hS1 hB1 hd1 hc) | (go_at_call 171; refine (order2_any W0 p g o cap xs0 hcmp lo hi c1 c2 gs n2 _ hS2 hl hhi hc1 hc2 hgs hB2 (by omega)).mono ?_; rintro e W3 ⟨hS3, n3, c3, d3, rfl, hB3, m3, k3, hc3, hd3⟩; clear hS2 hB2))
 go_ret
 exact ⟨hS3, n3, d3, rfl, hB3, m3, by omega, hd3⟩
set_option maxHeartbeats 2000000 in
theorem medAdj_any (W0 : World) (p : Value) (g o cap : Nat) (xs0 : List (Int × Int)) (hcmp : CmpQ W0 g p) (lo hi a gs : Nat) (n : Int) (w : World) (hS : Sw W0 113 g o cap xs0 w) (hl : xs0.length ≤ 1000000) (hhi : hi ≤ xs0.length) (ha : lo + 1 ≤ a ∧ a + 1 < hi) (hgs : W0.heap.size ≤ gs) (hBs : Blk w gs 3 #[.int .i64 n]) (hn : 0 ≤ n ∧ n ≤ 900) :
  Calls Tryz.prog 161 #[.slice (some ⟨g, o, none⟩) xs0.length cap, .int .i64 a, .pointer (some ⟨gs, 0, none⟩), .func (.func 97) #[p] #[]] w
   (fun e w' => Sw W0 113 g o cap xs0 w' ∧ ∃ (n' : Int) (d : Nat), e = .returned (.int .i64 d) ∧ Blk w' gs 3 #[.int .i64 n'] ∧ 0 ≤ n' ∧ n' ≤ n + 3 ∧ lo ≤ d ∧ d < hi) := by
 obtain ⟨am, ham⟩ : ∃ m : Nat, m = a - 1 := ⟨_, rfl⟩
 obtain ⟨ap, hap⟩ : ∃ m : Nat, m = a + 1 := ⟨_, rfl⟩
 have w1 : IntKind.i64.wrap ((a : Int) - 1) = (am : Int) := by rw [wrapI (by omega) (by omega)]; omega
 have w2 : IntKind.i64.wrap ((a : Int) + 1) = (ap : Int) := by rw [wrapI (by omega) (by omega)]; omega
 have b1 : lo ≤ am ∧ am < hi := by omega
 have b2 : lo ≤ a ∧ a < hi := by omega
 have b3 : lo ≤ ap ∧ ap < hi := by omega
 clear ham hap ha
 go_enter Tryz.func161, Tryz.ntmps161
 go_wp2_with (first | (go_at_call 162; refine (median_any W0 p g o cap xs0 hcmp lo hi am a ap gs n _ hS hl hhi b1 b2 b3 hgs hBs hn).mono ?_; rintro e W1 ⟨hS1, n1, d1, rfl, hB1, m1, k1, hd1⟩))
 go_ret
 exact ⟨hS1, n1, d1, rfl, hB1, m1, k1, hd1⟩
def PivR (W0 : World) (g o cap : Nat) (xs0 : List (Int × Int)) (a b : Nat) (e : Ending) (w' : World) : Prop :=
 Sw W0 113 g o cap xs0 w' ∧ ∃ (d : Nat) (h : Int), e = .returned (.tuple #[.int .i64 d, .int .i64 h]) ∧ a ≤ d ∧ d < b
set_option maxHeartbeats 4000000 in
theorem choose_any (W0 : World) (p : Value) (g o cap : Nat) (xs0 : List (Int × Int)) (hcmp : CmpQ W0 g p) (a b : Nat) (w : World) (hS : Sw W0 113 g o cap xs0 w) (hl : xs0.length ≤ 1000000) (hb : b ≤ xs0.length) (hab : a + 12 < b) :
  Calls Tryz.prog 141 #[.slice (some ⟨g, o, none⟩) xs0.length cap, .int .i64 a, .int .i64 b, .func (.func 97) #[p] #[]] w (PivR W0 g o cap xs0 a b) := by
 obtain ⟨l, hL⟩ : ∃ l : Nat, l = b - a := ⟨_, rfl⟩
 obtain ⟨q, hq⟩ : ∃ q : Nat, q = l / 4 := ⟨_, rfl⟩
 obtain ⟨q2, hq2⟩ : ∃ q : Nat, q = l / 4 * 2 := ⟨_, rfl⟩
 obtain ⟨q3, hq3⟩ : ∃ q : Nat, q = l / 4 * 3 := ⟨_, rfl⟩
 obtain ⟨i, hi⟩ : ∃ i : Nat, i = a + q := ⟨_, rfl⟩
 obtain ⟨j, hj⟩ : ∃ i : Nat, i = a + q2 := ⟨_, rfl⟩
 obtain ⟨k, hk⟩ : ∃ i : Nat, i = a + q3 := ⟨_, rfl⟩
 have wl : IntKind.i64.wrap ((b : Int) - (a : Int)) = (l : Int) := by rw [wrapI (by omega) (by omega)]; omega
 have wq : ((l : Int)).tdiv 4 = (q : Int) := by rw [Int.tdiv_eq_ediv_of_nonneg (by omega)]; omega
 have wqq : IntKind.i64.wrap (q : Int) = (q : Int) := wrapI (by omega) (by omega)
 have wq2 : IntKind.i64.wrap ((q : Int) * 2) = (q2 : Int) := by rw [wrapI (by omega) (by omega)]; omega
 have wq3 : IntKind.i64.wrap ((q : Int) * 3) = (q3 : Int) := by rw [wrapI (by omega) (by omega)]; omega
 have wi : IntKind.i64.wrap ((a : Int) + (q : Int)) = (i : Int) := by rw [wrapI (by omega) (by omega)]; omega
 have wj : IntKind.i64.wrap ((a : Int) + (q2 : Int)) = (j : Int) := by rw [wrapI (by omega) (by omega)]; omega
 have wk : IntKind.i64.wrap ((a : Int) + (q3 : Int)) = (k : Int) := by rw [wrapI (by omega) (by omega)]; omega
 have ri : a ≤ i ∧ i < b := by omega
 have rj : a ≤ j ∧ j < b := by omega
 have rk : a ≤ k ∧ k < b := by omega
 have l8 : (8 : Int) ≤ (l : Int) := by omega
 have hE := Ext.refl w
 by_cases h50 : 50 ≤ l
 ·have l50 : (50 : Int) ≤ (l : Int) := by omega
  have si : a + 1 ≤ i ∧ i + 1 < b := by omega
  have sj : a + 1 ≤ j ∧ j + 1 < b := by omega
  have sk : a + 1 ≤ k ∧ k + 1 < b := by omega
  clear hL hq hq2 hq3 hi hj hk h50 ri rj rk
  have hm0 : True := trivial
  have hm1 : True := trivial
  go_enter Tryz.func141, Tryz.ntmps141
  go_wp2_with (first | ((with_reducible refine q_alloc (d := some 11) ti3 ?_); intro W11 gs hE11 hB11 hg11; simp [Value.cells] at hB11; have hS0 := Sw.ext hS hE11; have hgs := Nat.le_trans hS.1.size hg11; clear hS) | (clear hm0; go_at_call 161; refine (medAdj_any W0 p g o cap xs0 hcmp a b i gs 0 _ hS0 hl hb si hgs hB11 (by omega)).mono ?_; rintro e W1 ⟨hS1, n1, d1, rfl, hB1, m1, k1, hd1⟩; clear hS0 hB11) | (clear hm1; go_at_call 161; refine (medAdj_any W0 p g o cap xs0 hcmp a b j gs n1 _ hS1 hl hb sj hgs hB1 (by omega)).mono ?_; rintro e W2 ⟨hS2, n2, d2, rfl, hB2, m2, k2, hd2⟩; clear hS1 hB1) | (go_at_call 161; refine (medAdj_any W0 p g o cap xs0 hcmp a b k gs n2 _ hS2 hl hb sk hgs hB2 (by omega)).mono ?_; rintro e W3 ⟨hS3, n3, d3, rfl, hB3, m3, k3, hd3⟩; clear hS2 hB2) | (go_at_call 162; refine (median_any W0 p g o cap xs0 hcmp a b d1 d2 d3 gs n3 _ hS3 hl hb hd1 hd2 hd3 hgs hB3 (by omega)).mono ?_; rintro e Wn ⟨hSn, n, jj, rfl, hBn, mn, kn, hj⟩; clear hS3 hB3; have cs := hBn.cell 0; simp at cs))
  all_goals
   go_ret2
   exact ⟨hSn, jj, _, rfl, hj.1, hj.2⟩
 ·have l50 : ¬ ((50 : Int) ≤ (l : Int)) := by omega
  clear hL hq hq2 hq3 hi hj hk h50
  go_enter Tryz.func141, Tryz.ntmps141
  go_wp2_with (first | ((with_reducible refine q_alloc (d := some 11) ti3 ?_); intro W11 gs hE11 hB11 hg11; simp [Value.cells] at hB11; have hS0 := Sw.ext hS hE11; have hgs := Nat.le_trans hS.1.size hg11; clear hS) | (go_at_call 162; refine (median_any W0 p g o cap xs0 hcmp a b i j k gs 0 _ hS0 hl hb ri rj rk hgs hB11 (by omega)).mono ?_; rintro e Wn ⟨hSn, n, jj, rfl, hBn, mn, kn, hj⟩; clear hS0 hB11; have cs := hBn.cell 0; simp at cs))
  all_goals
   go_ret2
   exact ⟨hSn, jj, _, rfl, hj.1, hj.2⟩
end Go.St
end
section
namespace Go.St
open Go Go.Bp Go.RowKit Go.Proofs
theorem wp_cut0 {P : Program} {c : Go.Code} {Q : Exit → Act → World → Prop} {a : Act} {w : World} {F : Act} {R : World → Prop} (h : c.wp P (fun e a' w' => e = .normal ∧ a' = F ∧ R w') a w) (k : ∀ w', R w' → Q .normal F w') : c.wp P Q a w :=
 Code.wp_mono (fun e a' w' ⟨he, ha, hR⟩ => by subst he; subst ha; exact k w' hR) h
set_option maxHeartbeats 8000000 in
theorem partEq_any (W0 : World) (p : Value) (g o cap : Nat) (xs0 : List (Int × Int)) (hcmp : CmpQ W0 g p) (a b pv : Nat) (w : World) (hS : Sw W0 113 g o cap xs0 w) (hl : xs0.length ≤ 1000000) (hb : b ≤ xs0.length) (hp1 : a ≤ pv) (hp2 : pv < b) :
  Calls Tryz.prog 144 #[.slice (some ⟨g, o, none⟩) xs0.length cap, .int .i64 a, .int .i64 b, .int .i64 pv, .func (.func 97) #[p] #[]] w (fun e w' => Sw W0 113 g o cap xs0 w' ∧ ∃ d : Nat, e = .returned (.int .i64 d) ∧ a + 1 ≤ d ∧ d ≤ b) := by
 obtain ⟨wr, hwr⟩ : ∃ W, W = w := ⟨_, rfl⟩
 have hSr := hS
 rw [← hwr] at hSr
 have q1 : a < xs0.length := by omega
 have q2 : pv < xs0.length := by omega
 have z1 : (a : Int) < (xs0.length : Int) := by omega
 have z2 : (pv : Int) < (xs0.length : Int) := by omega
 obtain ⟨hg, cur, xs, hR, hp⟩ := hSr
 have hlen := hp.length_eq
 have hix : a < xs.length := by omega
 have hjx : pv < xs.length := by omega
 have hi2 := hR.at_ hix
 have hj2 := hR.at_ hjx
 obtain ⟨x, hx⟩ : ∃ x, xs[a] = x := ⟨_, rfl⟩
 obtain ⟨y, hy⟩ : ∃ y, xs[pv] = y := ⟨_, rfl⟩
 rw [hx] at hi2; rw [hy] at hj2
 have f1 := hR.lt2 hix; have f2 := hR.lt2 hjx
 have hB := hR.blk
 have Hput : Hid (∀ W1 W2, Blk W1 g 113 (putAt cur (o + (a) * 2) [.int .i64 y.1, .int .i64 y.2]) → wr.grownBy W1 (some g) → Blk W2 g 113 (putAt (putAt cur (o + (a) * 2) [.int .i64 y.1, .int .i64 y.2]) (o + (pv) * 2) [.int .i64 x.1, .int .i64 x.2]) → W1.grownBy W2 (some g) → Sw W0 113 g o cap xs0 W2) := Lib.hid (by intro W1 W2 h1 h2 h3 h4; subst hx hy; exact Sw.put2 hg hR hp hix hjx h1 h2 h3 h4)
 have hmA : True := trivial
 rw [← hwr]
 clear hwr hS
 go_enter Tryz.func144, Tryz.ntmps144
 go_wp2
 apply wp_cut0 (R := fun w' => Sw W0 113 g o cap xs0 w')
 case h =>
  have hBd := hB.d; have hi2d := hi2.d; have hj2d := hj2.d
  refine wp_rt (.take 0 (.take 1 (.take 2 (.take 3 (.take 4 (.take 5 (.take 6 (.take 8 (.take 9 (.take 10 (.two 7 (.one 11 (.take 12 (.one 13 (.take 14 (.one 15 .nil))))) 11 (.one 7 (.take 12 (.one 13 (.take 14 (.one 15 .nil)))))))))))))))) (fun w' => True) ?_ (fun hHeld => ?_)
  ·exact True.intro
  repeat' first | ((with_reducible refine t_tk ?_); (refine tk (v := ?_) ?_ hHeld ?_; rotate_left; (· (intro wq hSw; (try dsimp only at hSw); go_simp; (try with_reducible rfl))); (try simp only [pS]))) | ((with_reducible refine t_on ?_); refine t_one (by simp only [gS]; rfl) ?_) | ((with_reducible refine t_tw ?_); refine t_two (by simp only [gS]; rfl) (by simp only [gS]; rfl) ?_ ?_) | ((with_reducible refine q_gd (d := some 20) ?_); (((with_reducible refine q_load (d := some 20) (hl := ld_stand hj2d) ?_ ?_); rfl))) | ((with_reducible refine q_gd (d := some 24) ?_); (((with_reducible refine q_load (d := some 24) (hl := ld_stand hi2d) ?_ ?_); rfl))) | ((with_reducible refine q_gd (d := none) ?_); ((first | ((with_reducible refine q_store (t := 113) (e := 113) (g := g) (off := o + pv * 2) (n := 2) (v := .agg #[.int .i64 x.1, .int .i64 x.2]) ?_ ?_ hB1 sizeStand ?_ ?_ ?_ ?_); rfl; rfl; rfl; (rw [size_putAt (by exact f1)]; exact f2); (simp [Value.cells, Value.oneCell']); intro W2 hB2 hg2) | ((with_reducible refine q_store (t := 113) (e := 113) (g := g) (off := o + a * 2) (n := 2) (v := .agg #[.int .i64 y.1, .int .i64 y.2]) ?_ ?_ hBd sizeStand ?_ ?_ ?_ ?_); rfl; rfl; rfl; exact f1; (simp [Value.cells, Value.oneCell']); intro W1 hB1 hg1; replace hg1 := grown_undrew hg1)))) | ((with_reducible refine q_nl ?_); clear hHeld; refine t_next ?_ (fun hHeld => ?_); (· exact True.intro); (try simp only [pS])) | (with_reducible refine t_done ?_)
  all_goals exact ⟨rfl, rfl, Hput.out _ _ hB1 hg1 hB2 hg2⟩
 case k =>
  intro Wp hSw
  go_wp2
  clear Hput hi2 hj2 hB hR hg hx hy hp f1 f2 z2 q2
  go_loopw [11, 12] (fun vi vj wr => Sw W0 113 g o cap xs0 wr ∧ ∃ i j : Nat, vi = .int .i64 i ∧ vj = .int .i64 j ∧ a + 1 ≤ i ∧ i ≤ b ∧ a ≤ j ∧ j + 1 ≤ b ∧ i ≤ j + 2) (fun vi vj _ => (intOf vj + 2 - intOf vi).toNat)
  case atStart => exact ⟨hSw, a + 1, b - 1, by go_num, by go_num, by omega, by omega, by omega, by omega, by omega⟩
  case round =>
   obtain ⟨hSr, i0, j0, rfl, rfl, hi1, hi2, hj1, hj2, hij⟩ := hrel
   clear hSw
   go_wp2
   go_loopw [11] (fun vi wr => Sw W0 113 g o cap xs0 wr ∧ ∃ i : Nat, vi = .int .i64 i ∧ i0 ≤ i ∧ i ≤ b ∧ i ≤ j0 + 2 ∧ (i0 ≤ j0 + 1 → i ≤ j0 + 1)) (fun vi _ => j0 + 2 - (intOf vi).toNat)
   case atStart => exact ⟨hSr, i0, rfl, by omega, by omega, by omega, by omega⟩
   case round =>
    obtain ⟨hSr, i, rfl, ha1, ha2, ha3, ha4⟩ := hrel
    by_cases hle : i ≤ j0
    ·have hzz : (i : Int) ≤ (j0 : Int) := by omega
     have q3 : i < xs0.length := by omega
     have z3 : (i : Int) < (xs0.length : Int) := by omega
     have Hi := Lib.hid (⟨⟨hi1, hi2, hj1, hj2, hij⟩, ha1, ha2, ha3, ha4, hle⟩ : (_ ∧ _ ∧ _ ∧ _ ∧ _) ∧ _ ∧ _ ∧ _ ∧ _ ∧ _)
     clear hi1 hi2 hj1 hj2 hij ha1 ha2 ha3 ha4 hle
     obtain ⟨hg, cur, xs, hR, hp⟩ := hSr
     have hlen := hp.length_eq
     have hix : a < xs.length := by omega
     have hjx : i < xs.length := by omega
     have hi2 := hR.at_ hix
     have hj2 := hR.at_ hjx
     obtain ⟨x, hx⟩ : ∃ x, xs[a] = x := ⟨_, rfl⟩
     obtain ⟨y, hy⟩ : ∃ y, xs[i] = y := ⟨_, rfl⟩
     rw [hx] at hi2; rw [hy] at hj2
     have f1 := hR.lt2 hix; have f2 := hR.lt2 hjx
     have hB := hR.blk
     have Hput : Hid (∀ W1 W2, Blk W1 g 113 (putAt cur (o + (a) * 2) [.int .i64 y.1, .int .i64 y.2]) → wr.grownBy W1 (some g) → Blk W2 g 113 (putAt (putAt cur (o + (a) * 2) [.int .i64 y.1, .int .i64 y.2]) (o + (i) * 2) [.int .i64 x.1, .int .i64 x.2]) → W1.grownBy W2 (some g) → Sw W0 113 g o cap xs0 W2) := Lib.hid (by intro W1 W2 h1 h2 h3 h4; subst hx hy; exact Sw.put2 hg hR hp hix hjx h1 h2 h3 h4)
     have hmA : True := trivial
     go_wp2
     have hX := Ext.todrew (Ext.refl wr)
     refine wp_rt (.take 0 (.take 1 (.take 2 (.take 3 (.take 4 (.take 5 (.take 6 (.take 7 (.take 8 (.take 9 (.take 10 (.take 11 (.take 12 (.one 13 (.take 14 (.take 15 (.take 16 .nil))))))))))))))))) (fun w' => Ext wr w') ?_ (fun hHeld => ?_)
     ·assumption
     repeat' first | ((with_reducible refine t_tk ?_); first | ((with_reducible refine t_tk (i := 2) ?_); refine tk (v := .bool true) ?_ hHeld ?_; (· (intro wq hSw; go_simp; first | done | omega | (simp; omega))); (try simp only [pS])) | ((with_reducible refine t_tk (i := 8) ?_); refine tw (v := .agg #[.int .i64 x.1, .int .i64 x.2]) ?_ hHeld ?_; (· exact run_ld (by rfl) (fun W h => ld_stand (hi2.ext h))); (try simp only [pS])) | ((with_reducible refine t_tk (i := 12) ?_); refine tw (v := .agg #[.int .i64 y.1, .int .i64 y.2]) ?_ hHeld ?_; (· exact run_ld (by rfl) (fun W h => ld_stand (hj2.ext h))); (try simp only [pS])) | (refine tk (v := ?_) ?_ hHeld ?_; rotate_left; (· (intro wq hSw; (try dsimp only at hSw); go_simp; (try with_reducible rfl))); (try simp only [pS])) | (refine tw (v := ?_) ?_ hHeld ?_; rotate_left; (· (intro wq hSw; (try dsimp only at hSw); go_simp; (try with_reducible rfl))); (try simp only [pS]))) | ((with_reducible refine t_on ?_); refine t_one (by simp only [gS]; rfl) ?_) | ((with_reducible refine q_gd (d := some 44) ?_); ((refine q_callG (by rfl) (hcmp _ (grown_then hg hX) x y) (by go_simp) ?_; rintro e Wc ⟨⟨r, rfl⟩, hEc⟩; refine ⟨_, rfl, ?_⟩; have hXc := hX.trans hEc; obtain ⟨bb, hbb⟩ : ∃ b, decide (r < 0) = b := ⟨_, rfl⟩))) | ((with_reducible refine q_nl ?_); clear hHeld; refine t_next ?_ (fun hHeld => ?_); (· assumption); (try simp only [pS])) | (with_reducible refine t_done ?_)
     have hSr := Sw.ext (⟨hg, cur, xs, hR, hp⟩ : Sw W0 113 g o cap xs0 wr) hXc
     clear hX hXc hi2 hj2 hB hR Hput hg hx hy hp f1 f2 hmA
     generalize Wc = wr at hSr ⊢
     cases bb
     ·go_wp2
      go_roundw
      case rel => obtain ⟨⟨e1, e2, e3, e4, e5⟩, e6, e7, e8, e9, e10⟩ := Hi.out; exact ⟨hSr, i + 1, by go_num, by omega, by omega, by omega, by omega⟩
      case measure => obtain ⟨⟨e1, e2, e3, e4, e5⟩, e6, e7, e8, e9, e10⟩ := Hi.out; simp [intOf]; omega
     ·obtain ⟨⟨e1, e2, e3, e4, e5⟩, e6, e7, e8, e9, e10⟩ := Hi.out
      clear Hi
      go_wp2
      go_loopw [12] (fun vj wr => Sw W0 113 g o cap xs0 wr ∧ ∃ j : Nat, vj = .int .i64 j ∧ a ≤ j ∧ j ≤ j0 ∧ (i ≤ j0 + 1 → i ≤ j + 1)) (fun vj _ => (intOf vj).toNat)
      case atStart => exact ⟨hSr, j0, rfl, by omega, by omega, by omega⟩
      case round =>
       obtain ⟨hSr, j, rfl, b1, b2, b3⟩ := hrel
       by_cases hle2 : i ≤ j
       ·have hz2 : (i : Int) ≤ (j : Int) := by omega
        have q3 : i < xs0.length := by omega
        have q4 : j < xs0.length := by omega
        have z3 : (i : Int) < (xs0.length : Int) := by omega
        have z4 : (j : Int) < (xs0.length : Int) := by omega
        have j1 : 1 ≤ j := by omega
        have HI := Lib.hid (⟨⟨e1, e2, e3, e4, e5⟩, e6, b1, b2, b3, hle2⟩ : (_ ∧ _ ∧ _ ∧ _ ∧ _) ∧ _ ∧ _ ∧ _ ∧ _ ∧ _)
        clear e1 e2 e3 e4 e5 e6 e7 e8 b1 b2 b3 hle2 hzz
        obtain ⟨hg, cur, xs, hR, hp⟩ := hSr
        have hlen := hp.length_eq
        have hix : a < xs.length := by omega
        have hjx : j < xs.length := by omega
        have hi2 := hR.at_ hix
        have hj2 := hR.at_ hjx
        obtain ⟨x, hx⟩ : ∃ x, xs[a] = x := ⟨_, rfl⟩
        obtain ⟨y, hy⟩ : ∃ y, xs[j] = y := ⟨_, rfl⟩
        rw [hx] at hi2; rw [hy] at hj2
        have f1 := hR.lt2 hix; have f2 := hR.lt2 hjx
        have hB := hR.blk
        have Hput : Hid (∀ W1 W2, Blk W1 g 113 (putAt cur (o + (a) * 2) [.int .i64 y.1, .int .i64 y.2]) → wr.grownBy W1 (some g) → Blk W2 g 113 (putAt (putAt cur (o + (a) * 2) [.int .i64 y.1, .int .i64 y.2]) (o + (j) * 2) [.int .i64 x.1, .int .i64 x.2]) → W1.grownBy W2 (some g) → Sw W0 113 g o cap xs0 W2) := Lib.hid (by intro W1 W2 h1 h2 h3 h4; subst hx hy; exact Sw.put2 hg hR hp hix hjx h1 h2 h3 h4)
        have hmA : True := trivial
        go_wp2
        have hX := Ext.todrew (Ext.refl wr)
        refine wp_rt (.take 0 (.take 1 (.take 2 (.take 3 (.take 4 (.take 5 (.take 6 (.take 7 (.take 8 (.take 9 (.take 10 (.take 11 (.take 12 (.one 13 (.take 14 (.take 15 .nil)))))))))))))))) (fun w' => Ext wr w') ?_ (fun hHeld => ?_)
        ·assumption
        repeat' first | ((with_reducible refine t_tk ?_); first | ((with_reducible refine t_tk (i := 2) ?_); refine tk (v := .bool true) ?_ hHeld ?_; (· (intro wq hSw; go_simp; first | done | omega | (simp; omega))); (try simp only [pS])) | ((with_reducible refine t_tk (i := 8) ?_); refine tw (v := .agg #[.int .i64 x.1, .int .i64 x.2]) ?_ hHeld ?_; (· exact run_ld (by rfl) (fun W h => ld_stand (hi2.ext h))); (try simp only [pS])) | ((with_reducible refine t_tk (i := 12) ?_); refine tw (v := .agg #[.int .i64 y.1, .int .i64 y.2]) ?_ hHeld ?_; (· exact run_ld (by rfl) (fun W h => ld_stand (hj2.ext h))); (try simp only [pS])) | (refine tk (v := ?_) ?_ hHeld ?_; rotate_left; (· (intro wq hSw; (try dsimp only at hSw); go_simp; (try with_reducible rfl))); (try simp only [pS])) | (refine tw (v := ?_) ?_ hHeld ?_; rotate_left; (· (intro wq hSw; (try dsimp only at hSw); go_simp; (try with_reducible rfl))); (try simp only [pS]))) | ((with_reducible refine t_on ?_); refine t_one (by simp only [gS]; rfl) ?_) | ((with_reducible refine q_gd (d := some 63) ?_); ((refine q_callG (by rfl) (hcmp _ (grown_then hg hX) x y) (by go_simp) ?_; rintro e Wc ⟨⟨r, rfl⟩, hEc⟩; refine ⟨_, rfl, ?_⟩; have hXc := hX.trans hEc; obtain ⟨bb, hbb⟩ : ∃ b, decide (r < 0) = b := ⟨_, rfl⟩))) | ((with_reducible refine q_nl ?_); clear hHeld; refine t_next ?_ (fun hHeld => ?_); (· assumption); (try simp only [pS])) | (with_reducible refine t_done ?_)
        have hSr := Sw.ext (⟨hg, cur, xs, hR, hp⟩ : Sw W0 113 g o cap xs0 wr) hXc
        clear hX hXc hi2 hj2 hB hR Hput hg hx hy hp f1 f2 hmA
        generalize Wc = wr at hSr ⊢
        cases bb
        ·clear hbb
         have hgt : ¬ ((j : Int) < (i : Int)) := by omega
         go_wp2
         obtain ⟨hg, cur, xs, hR, hp⟩ := hSr
         have hlen := hp.length_eq
         have hix : i < xs.length := by omega
         have hjx : j < xs.length := by omega
         have hi2 := hR.at_ hix
         have hj2 := hR.at_ hjx
         obtain ⟨x, hx⟩ : ∃ x, xs[i] = x := ⟨_, rfl⟩
         obtain ⟨y, hy⟩ : ∃ y, xs[j] = y := ⟨_, rfl⟩
         rw [hx] at hi2; rw [hy] at hj2
         have f1 := hR.lt2 hix; have f2 := hR.lt2 hjx
         have hB := hR.blk
         have Hput : Hid (∀ W1 W2, Blk W1 g 113 (putAt cur (o + (i) * 2) [.int .i64 y.1, .int .i64 y.2]) → wr.grownBy W1 (some g) → Blk W2 g 113 (putAt (putAt cur (o + (i) * 2) [.int .i64 y.1, .int .i64 y.2]) (o + (j) * 2) [.int .i64 x.1, .int .i64 x.2]) → W1.grownBy W2 (some g) → Sw W0 113 g o cap xs0 W2) := Lib.hid (by intro W1 W2 h1 h2 h3 h4; subst hx hy; exact Sw.put2 hg hR hp hix hjx h1 h2 h3 h4)
         have hmA : True := trivial
         have hBd := hB.d; have hi2d := hi2.d; have hj2d := hj2.d
         refine wp_rt (.take 0 (.take 1 (.take 2 (.take 3 (.take 4 (.take 5 (.take 6 (.take 8 (.take 9 (.take 10 (.two 7 (.one 11 (.take 12 (.one 13 (.take 14 (.one 15 .nil))))) 11 (.one 7 (.take 12 (.one 13 (.take 14 (.one 15 .nil)))))))))))))))) (fun w' => True) ?_ (fun hHeld => ?_)
         ·exact True.intro
         repeat' first | ((with_reducible refine t_tk ?_); (refine tk (v := ?_) ?_ hHeld ?_; rotate_left; (· (intro wq hSw; (try dsimp only at hSw); go_simp; (try with_reducible rfl))); (try simp only [pS]))) | ((with_reducible refine t_on ?_); refine t_one (by simp only [gS]; rfl) ?_) | ((with_reducible refine t_tw ?_); refine t_two (by simp only [gS]; rfl) (by simp only [gS]; rfl) ?_ ?_) | ((with_reducible refine q_gd (d := some 78) ?_); (((with_reducible refine q_load (d := some 78) (hl := ld_stand hj2d) ?_ ?_); rfl))) | ((with_reducible refine q_gd (d := some 82) ?_); (((with_reducible refine q_load (d := some 82) (hl := ld_stand hi2d) ?_ ?_); rfl))) | ((with_reducible refine q_gd (d := none) ?_); ((first | ((with_reducible refine q_store (t := 113) (e := 113) (g := g) (off := o + j * 2) (n := 2) (v := .agg #[.int .i64 x.1, .int .i64 x.2]) ?_ ?_ hB1 sizeStand ?_ ?_ ?_ ?_); rfl; rfl; rfl; (rw [size_putAt (by exact f1)]; exact f2); (simp [Value.cells, Value.oneCell']); intro W2 hB2 hg2) | ((with_reducible refine q_store (t := 113) (e := 113) (g := g) (off := o + i * 2) (n := 2) (v := .agg #[.int .i64 y.1, .int .i64 y.2]) ?_ ?_ hBd sizeStand ?_ ?_ ?_ ?_); rfl; rfl; rfl; exact f1; (simp [Value.cells, Value.oneCell']); intro W1 hB1 hg1; replace hg1 := grown_undrew hg1)))) | ((with_reducible refine q_nl ?_); clear hHeld; refine t_next ?_ (fun hHeld => ?_); (· exact True.intro); (try simp only [pS])) | (with_reducible refine t_done ?_)
         all_goals
          have hSw := Hput.out _ _ hB1 hg1 hB2 hg2
          clear hB1 hB2 hg1 hg2 Hput hi2 hj2 hB hR hg hx hy hp f1 f2 hBd hi2d hj2d
          go_wp2
          go_roundw
          case rel => obtain ⟨⟨e1, e2, e3, e4, e5⟩, e6, b1, b2, b3, e10⟩ := HI.out; exact ⟨hSw, i + 1, j - 1, by go_num, by go_num, by omega, by omega, by omega, by omega, by omega⟩
          case measure => obtain ⟨⟨e1, e2, e3, e4, e5⟩, e6, b1, b2, b3, e10⟩ := HI.out; simp [intOf]; omega
        ·go_wp2
         go_roundw
         case rel => obtain ⟨⟨e1, e2, e3, e4, e5⟩, e6, b1, b2, b3, e10⟩ := HI.out; exact ⟨hSr, j - 1, by go_num, by omega, by omega, by omega⟩
         case measure => simp [intOf]; omega
       ·have hz2 : ¬ ((i : Int) ≤ (j : Int)) := by omega
        have hgt : (j : Int) < (i : Int) := by omega
        go_wp2
        have hX := Ext.todrew (Ext.refl wr)
        refine wp_rt (.take 0 (.take 1 (.take 2 (.take 3 (.take 4 (.take 5 (.take 6 (.take 7 (.take 8 (.take 9 (.take 10 (.take 11 (.take 12 (.one 13 (.take 14 (.take 15 .nil)))))))))))))))) (fun w' => Ext wr w') ?_ (fun hHeld => ?_)
        ·assumption
        repeat' first | ((with_reducible refine t_tk ?_); first | ((with_reducible refine t_tk (i := 2) ?_); refine tk (v := .bool false) ?_ hHeld ?_; (· (intro wq hSw; go_simp; first | done | omega | (simp; omega))); (try simp only [pS])) | (refine tk (v := ?_) ?_ hHeld ?_; rotate_left; (· (intro wq hSw; (try dsimp only at hSw); go_simp; (try with_reducible rfl))); (try simp only [pS])) | (refine ts hHeld ?_; (try simp only [pS]))) | ((with_reducible refine t_on ?_); refine t_one (by simp only [gS]; rfl) ?_) | ((with_reducible refine q_gd (d := some 63) ?_); refine q_skipG (by rfl) ?_) | ((with_reducible refine q_nl ?_); clear hHeld; refine t_next ?_ (fun hHeld => ?_); (· assumption); (try simp only [pS])) | (with_reducible refine t_done ?_)
        have hSr := Sw.ext hSr hX
        clear hX
        go_wp2
        go_ret
        exact ⟨hSr, i, rfl, by omega, by omega⟩
    ·have hzz : ¬ ((i : Int) ≤ (j0 : Int)) := by omega
     have e1 := hi1; have e2 := hi2; have e3 := hj1; have e4 := hj2; have e5 := hij; have e6 := ha1; have e7 := ha2; have e8 := ha3
     clear hi1 hi2 hj1 hj2 hij ha1 ha2 ha3 ha4
     go_wp2
     have hX := Ext.todrew (Ext.refl wr)
     refine wp_rt (.take 0 (.take 1 (.take 2 (.take 3 (.take 4 (.take 5 (.take 6 (.take 7 (.take 8 (.take 9 (.take 10 (.take 11 (.take 12 (.one 13 (.take 14 (.take 15 (.take 16 .nil))))))))))))))))) (fun w' => Ext wr w') ?_ (fun hHeld => ?_)
     ·assumption
     repeat' first | ((with_reducible refine t_tk ?_); first | ((with_reducible refine t_tk (i := 2) ?_); refine tk (v := .bool false) ?_ hHeld ?_; (· (intro wq hSw; go_simp; first | done | omega | (simp; omega))); (try simp only [pS])) | (refine tk (v := ?_) ?_ hHeld ?_; rotate_left; (· (intro wq hSw; (try dsimp only at hSw); go_simp; (try with_reducible rfl))); (try simp only [pS])) | (refine ts hHeld ?_; (try simp only [pS]))) | ((with_reducible refine t_on ?_); refine t_one (by simp only [gS]; rfl) ?_) | ((with_reducible refine q_gd (d := some 44) ?_); refine q_skipG (by rfl) ?_) | ((with_reducible refine q_nl ?_); clear hHeld; refine t_next ?_ (fun hHeld => ?_); (· assumption); (try simp only [pS])) | (with_reducible refine t_done ?_)
     have hSr := Sw.ext hSr hX
     clear hX
     go_wp2
     go_loopw [12] (fun vj wr => Sw W0 113 g o cap xs0 wr ∧ ∃ j : Nat, vj = .int .i64 j ∧ a ≤ j ∧ j ≤ j0 ∧ (i ≤ j0 + 1 → i ≤ j + 1)) (fun vj _ => (intOf vj).toNat)
     case atStart => exact ⟨hSr, j0, rfl, by omega, by omega, by omega⟩
     case round =>
      obtain ⟨hSr, j, rfl, b1, b2, b3⟩ := hrel
      by_cases hle2 : i ≤ j
      ·have hz2 : (i : Int) ≤ (j : Int) := by omega
       have q3 : i < xs0.length := by omega
       have q4 : j < xs0.length := by omega
       have z3 : (i : Int) < (xs0.length : Int) := by omega
       have z4 : (j : Int) < (xs0.length : Int) := by omega
       have j1 : 1 ≤ j := by omega
       have HI := Lib.hid (⟨⟨e1, e2, e3, e4, e5⟩, e6, b1, b2, b3, hle2⟩ : (_ ∧ _ ∧ _ ∧ _ ∧ _) ∧ _ ∧ _ ∧ _ ∧ _ ∧ _)
       clear e1 e2 e3 e4 e5 e6 e7 e8 b1 b2 b3 hle2 hzz
       obtain ⟨hg, cur, xs, hR, hp⟩ := hSr
       have hlen := hp.length_eq
       have hix : a < xs.length := by omega
       have hjx : j < xs.length := by omega
       have hi2 := hR.at_ hix
       have hj2 := hR.at_ hjx
       obtain ⟨x, hx⟩ : ∃ x, xs[a] = x := ⟨_, rfl⟩
       obtain ⟨y, hy⟩ : ∃ y, xs[j] = y := ⟨_, rfl⟩
       rw [hx] at hi2; rw [hy] at hj2
       have f1 := hR.lt2 hix; have f2 := hR.lt2 hjx
       have hB := hR.blk
       have Hput : Hid (∀ W1 W2, Blk W1 g 113 (putAt cur (o + (a) * 2) [.int .i64 y.1, .int .i64 y.2]) → wr.grownBy W1 (some g) → Blk W2 g 113 (putAt (putAt cur (o + (a) * 2) [.int .i64 y.1, .int .i64 y.2]) (o + (j) * 2) [.int .i64 x.1, .int .i64 x.2]) → W1.grownBy W2 (some g) → Sw W0 113 g o cap xs0 W2) := Lib.hid (by intro W1 W2 h1 h2 h3 h4; subst hx hy; exact Sw.put2 hg hR hp hix hjx h1 h2 h3 h4)
       have hmA : True := trivial
       go_wp2
       have hX := Ext.todrew (Ext.refl wr)
       refine wp_rt (.take 0 (.take 1 (.take 2 (.take 3 (.take 4 (.take 5 (.take 6 (.take 7 (.take 8 (.take 9 (.take 10 (.take 11 (.take 12 (.one 13 (.take 14 (.take 15 .nil)))))))))))))))) (fun w' => Ext wr w') ?_ (fun hHeld => ?_)
       ·assumption
       repeat' first | ((with_reducible refine t_tk ?_); first | ((with_reducible refine t_tk (i := 2) ?_); refine tk (v := .bool true) ?_ hHeld ?_; (· (intro wq hSw; go_simp; first | done | omega | (simp; omega))); (try simp only [pS])) | ((with_reducible refine t_tk (i := 8) ?_); refine tw (v := .agg #[.int .i64 x.1, .int .i64 x.2]) ?_ hHeld ?_; (· exact run_ld (by rfl) (fun W h => ld_stand (hi2.ext h))); (try simp only [pS])) | ((with_reducible refine t_tk (i := 12) ?_); refine tw (v := .agg #[.int .i64 y.1, .int .i64 y.2]) ?_ hHeld ?_; (· exact run_ld (by rfl) (fun W h => ld_stand (hj2.ext h))); (try simp only [pS])) | (refine tk (v := ?_) ?_ hHeld ?_; rotate_left; (· (intro wq hSw; (try dsimp only at hSw); go_simp; (try with_reducible rfl))); (try simp only [pS])) | (refine tw (v := ?_) ?_ hHeld ?_; rotate_left; (· (intro wq hSw; (try dsimp only at hSw); go_simp; (try with_reducible rfl))); (try simp only [pS]))) | ((with_reducible refine t_on ?_); refine t_one (by simp only [gS]; rfl) ?_) | ((with_reducible refine q_gd (d := some 63) ?_); ((refine q_callG (by rfl) (hcmp _ (grown_then hg hX) x y) (by go_simp) ?_; rintro e Wc ⟨⟨r, rfl⟩, hEc⟩; refine ⟨_, rfl, ?_⟩; have hXc := hX.trans hEc; obtain ⟨bb, hbb⟩ : ∃ b, decide (r < 0) = b := ⟨_, rfl⟩))) | ((with_reducible refine q_nl ?_); clear hHeld; refine t_next ?_ (fun hHeld => ?_); (· assumption); (try simp only [pS])) | (with_reducible refine t_done ?_)
       have hSr := Sw.ext (⟨hg, cur, xs, hR, hp⟩ : Sw W0 113 g o cap xs0 wr) hXc
       clear hX hXc hi2 hj2 hB hR Hput hg hx hy hp f1 f2 hmA
       generalize Wc = wr at hSr ⊢
       cases bb
       ·clear hbb
        have hgt : ¬ ((j : Int) < (i : Int)) := by omega
        go_wp2
        obtain ⟨hg, cur, xs, hR, hp⟩ := hSr
        have hlen := hp.length_eq
        have hix : i < xs.length := by omega
        have hjx : j < xs.length := by omega
        have hi2 := hR.at_ hix
        have hj2 := hR.at_ hjx
        obtain ⟨x, hx⟩ : ∃ x, xs[i] = x := ⟨_, rfl⟩
        obtain ⟨y, hy⟩ : ∃ y, xs[j] = y := ⟨_, rfl⟩
        rw [hx] at hi2; rw [hy] at hj2
        have f1 := hR.lt2 hix; have f2 := hR.lt2 hjx
        have hB := hR.blk
        have Hput : Hid (∀ W1 W2, Blk W1 g 113 (putAt cur (o + (i) * 2) [.int .i64 y.1, .int .i64 y.2]) → wr.grownBy W1 (some g) → Blk W2 g 113 (putAt (putAt cur (o + (i) * 2) [.int .i64 y.1, .int .i64 y.2]) (o + (j) * 2) [.int .i64 x.1, .int .i64 x.2]) → W1.grownBy W2 (some g) → Sw W0 113 g o cap xs0 W2) := Lib.hid (by intro W1 W2 h1 h2 h3 h4; subst hx hy; exact Sw.put2 hg hR hp hix hjx h1 h2 h3 h4)
        have hmA : True := trivial
        have hBd := hB.d; have hi2d := hi2.d; have hj2d := hj2.d
        refine wp_rt (.take 0 (.take 1 (.take 2 (.take 3 (.take 4 (.take 5 (.take 6 (.take 8 (.take 9 (.take 10 (.two 7 (.one 11 (.take 12 (.one 13 (.take 14 (.one 15 .nil))))) 11 (.one 7 (.take 12 (.one 13 (.take 14 (.one 15 .nil)))))))))))))))) (fun w' => True) ?_ (fun hHeld => ?_)
        ·exact True.intro
        repeat' first | ((with_reducible refine t_tk ?_); (refine tk (v := ?_) ?_ hHeld ?_; rotate_left; (· (intro wq hSw; (try dsimp only at hSw); go_simp; (try with_reducible rfl))); (try simp only [pS]))) | ((with_reducible refine t_on ?_); refine t_one (by simp only [gS]; rfl) ?_) | ((with_reducible refine t_tw ?_); refine t_two (by simp only [gS]; rfl) (by simp only [gS]; rfl) ?_ ?_) | ((with_reducible refine q_gd (d := some 78) ?_); (((with_reducible refine q_load (d := some 78) (hl := ld_stand hj2d) ?_ ?_); rfl))) | ((with_reducible refine q_gd (d := some 82) ?_); (((with_reducible refine q_load (d := some 82) (hl := ld_stand hi2d) ?_ ?_); rfl))) | ((with_reducible refine q_gd (d := none) ?_); ((first | ((with_reducible refine q_store (t := 113) (e := 113) (g := g) (off := o + j * 2) (n := 2) (v := .agg #[.int .i64 x.1, .int .i64 x.2]) ?_ ?_ hB1 sizeStand ?_ ?_ ?_ ?_); rfl; rfl; rfl; (rw [size_putAt (by exact f1)]; exact f2); (simp [Value.cells, Value.oneCell']); intro W2 hB2 hg2) | ((with_reducible refine q_store (t := 113) (e := 113) (g := g) (off := o + i * 2) (n := 2) (v := .agg #[.int .i64 y.1, .int .i64 y.2]) ?_ ?_ hBd sizeStand ?_ ?_ ?_ ?_); rfl; rfl; rfl; exact f1; (simp [Value.cells, Value.oneCell']); intro W1 hB1 hg1; replace hg1 := grown_undrew hg1)))) | ((with_reducible refine q_nl ?_); clear hHeld; refine t_next ?_ (fun hHeld => ?_); (· exact True.intro); (try simp only [pS])) | (with_reducible refine t_done ?_)
        all_goals
         have hSw := Hput.out _ _ hB1 hg1 hB2 hg2
         clear hB1 hB2 hg1 hg2 Hput hi2 hj2 hB hR hg hx hy hp f1 f2 hBd hi2d hj2d
         go_wp2
         go_roundw
         case rel => obtain ⟨⟨e1, e2, e3, e4, e5⟩, e6, b1, b2, b3, e10⟩ := HI.out; exact ⟨hSw, i + 1, j - 1, by go_num, by go_num, by omega, by omega, by omega, by omega, by omega⟩
         case measure => obtain ⟨⟨e1, e2, e3, e4, e5⟩, e6, b1, b2, b3, e10⟩ := HI.out; simp [intOf]; omega
       ·go_wp2
        go_roundw
        case rel => obtain ⟨⟨e1, e2, e3, e4, e5⟩, e6, b1, b2, b3, e10⟩ := HI.out; exact ⟨hSr, j - 1, by go_num, by omega, by omega, by omega⟩
        case measure => simp [intOf]; omega
      ·have hz2 : ¬ ((i : Int) ≤ (j : Int)) := by omega
       have hgt : (j : Int) < (i : Int) := by omega
       go_wp2
       have hX := Ext.todrew (Ext.refl wr)
       refine wp_rt (.take 0 (.take 1 (.take 2 (.take 3 (.take 4 (.take 5 (.take 6 (.take 7 (.take 8 (.take 9 (.take 10 (.take 11 (.take 12 (.one 13 (.take 14 (.take 15 .nil)))))))))))))))) (fun w' => Ext wr w') ?_ (fun hHeld => ?_)
       ·assumption
       repeat' first | ((with_reducible refine t_tk ?_); first | ((with_reducible refine t_tk (i := 2) ?_); refine tk (v := .bool false) ?_ hHeld ?_; (· (intro wq hSw; go_simp; first | done | omega | (simp; omega))); (try simp only [pS])) | (refine tk (v := ?_) ?_ hHeld ?_; rotate_left; (· (intro wq hSw; (try dsimp only at hSw); go_simp; (try with_reducible rfl))); (try simp only [pS])) | (refine ts hHeld ?_; (try simp only [pS]))) | ((with_reducible refine t_on ?_); refine t_one (by simp only [gS]; rfl) ?_) | ((with_reducible refine q_gd (d := some 63) ?_); refine q_skipG (by rfl) ?_) | ((with_reducible refine q_nl ?_); clear hHeld; refine t_next ?_ (fun hHeld => ?_); (· assumption); (try simp only [pS])) | (with_reducible refine t_done ?_)
       have hSr := Sw.ext hSr hX
       clear hX
       go_wp2
       go_ret
       exact ⟨hSr, i, rfl, by omega, by omega⟩
end Go.St
end
