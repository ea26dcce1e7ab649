/- Chapter 03: contracts of functions of the program and of the reference, and plain laws (out of SP3 SP4). No condition of its own. -/
import Derived.BigQuiet
import Derived.Deep.AppendLies
import Derived.Deep.Draws
import Derived.Deep.LoopGhost
import Derived.Deep.QuietTactic
import Derived.Deep.RegionHeld3
import Derived.Laws.RangeAny
import Derived.Laws.StructEq
import Derived.Lib.AtoiAll
import Derived.Lib.Hide
import Derived.Lib.ItoaMem
import Derived.Lib.Split
import Derived.Maps.AppendAt
import Derived.OrdersHeld
import Derived.Shelf.Abstract
import Derived.Test.YtfjnacajjpaeiaaGreatDoorProg
import Derived.WalkKit
import Derived.WalkLawsBesides
import Derived.WalkSpells
import Derived.Test.YtfjnacajjpaeiaaGreatDoorP01
import Derived.Test.YtfjnacajjpaeiaaGreatDoorP02
import Derived.Test.YtfjnacajjpaeiaaGreatDoorP03
import Derived.Test.YtfjnacajjpaeiaaGreatDoorP04
import Derived.Test.YtfjnacajjpaeiaaGreatDoorP05
set_option maxRecDepth 100000
set_option linter.unusedSimpArgs false
set_option linter.unusedVariables false
section
namespace Go.St
open Go Go.Bp Go.RowKit Go.Proofs
theorem psets_any (tv : Value) (t : Town) (w : World) (h : TownV w tv t) (hsm : t.shows.length ≤ 6) : Calls Tryz.prog 72 #[tv] w (RetI w t.sets) := by
 obtain ⟨pv, shv, tmv, xv, rfl, hT⟩ := h
 obtain ⟨A1, cp1, rfl, _, _, _, _⟩ := hT.places
 obtain ⟨A2, cp2, rfl, _, _, _, _⟩ := hT.shows
 obtain ⟨A3, cp3, rfl, _, _, _, _⟩ := hT.times
 obtain ⟨A4, cp4, rfl, _, _, _⟩ := hT.streets
 have Hs := Lib.hid (show t.sets = 2 ^ t.shows.length from rfl)
 obtain ⟨n, hn⟩ : ∃ n, t.shows.length = n := ⟨_, rfl⟩
 clear hT
 rw [hn] at Hs hsm ⊢
 clear hn
 have hE := Ext.refl w
 have hn : n = 0 ∨ n = 1 ∨ n = 2 ∨ n = 3 ∨ n = 4 ∨ n = 5 ∨ n = 6 := by omega
 rcases hn with rfl | rfl | rfl | rfl | rfl | rfl | rfl
 all_goals
  go_enter Tryz.func72, Tryz.ntmps72
  go_wp2_with (first | ((with_reducible refine q_box (d := some 1) ?_); intro W1 g1 hE1 hB1 hg1; simp [Act.eval, Act.put, Value.cells] at hB1; (try replace hE := hE.trans hE1); have hb1_1 := hB1.cell 1; simp at hb1_1; clear hE1))
  go_ret
  exact RetI.of Hs.out hE
theorem ints_blk {w : World} {g : Nat} {xs : List Int} (h : Blk w g 3 (encI xs).toArray) (hn : xs.length ≤ 1000) : Ints w (.slice (some ⟨g, 0, none⟩) xs.length xs.length) xs :=
 ⟨_, _, rfl, Nat.le_refl _, by unfold maxLen; omega, by simp [encI], fun _ => ⟨_, rfl, h.cells⟩⟩
theorem ints_blk1 {w : World} {g : Nat} {a : Int} (h : Blk w g 3 #[.int .i64 a]) : Ints w (.slice (some ⟨g, 0, none⟩) 1 1) [a] := ints_blk (xs := [a]) h (by simp)
theorem ints_blk2 {w : World} {g : Nat} {a b : Int} (h : Blk w g 3 #[.int .i64 a, .int .i64 b]) : Ints w (.slice (some ⟨g, 0, none⟩) 2 2) [a, b] := ints_blk (xs := [a, b]) h (by simp)
section
variable {w : World}
theorem bsI1 (a : Int) : (Instr.buildSlice 41 1 #[(0, .int .i64 a)]).run Tryz.prog w = .ok (.slice (some ⟨w.heap.size, 0, none⟩) 1 1) (w.alloc (.cells #[.int .i64 a] 3)) := by kernel_rfl
theorem bsI2 (a b : Int) : (Instr.buildSlice 41 2 #[(0, .int .i64 a), (1, .int .i64 b)]).run Tryz.prog w = .ok (.slice (some ⟨w.heap.size, 0, none⟩) 2 2) (w.alloc (.cells #[.int .i64 a, .int .i64 b] 3)) := by kernel_rfl
end
section
variable {P : Program} {ops : Array Oper} {Q : Exit → Act → World → Prop} {a : Act} {w : World} {rest : List Oper}
theorem q_bsliceG {d : Option Tmp} {ty : TypeId} {pos : String} {after : Array Edge} {gd : Option (Nat × Bool)} {t e : TypeId} {n : Nat} {parts : Array (Nat × Operand)} {cs : Array Value} (hw : Region.wanted (⟨d, .buildSlice t n parts, ty, pos, after, gd⟩ : Oper) (yielded ops a.tmps) = true)
  (h : (Instr.buildSlice t n (parts.map fun (i, x) => (i, a.eval x))).run P w = .ok (.slice (some ⟨w.heap.size, 0, none⟩) n n) (w.alloc (.cells cs e)))
  (k : ∀ W g, Ext w W → Blk W g e cs → w.heap.size ≤ g → wpList P ops Q rest (a.put d (.slice (some ⟨g, 0, none⟩) n n)) W) :
  wpList P ops Q (⟨d, .buildSlice t n parts, ty, pos, after, gd⟩ :: rest) a w :=
 wpList_wanted hw fun K hK => by
  have h' : (execOp a.eval (⟨d, .buildSlice t n parts, ty, pos, after, gd⟩ : Oper)).run P w = .ok (.value (.slice (some ⟨w.heap.size, 0, none⟩) n n)) (w.alloc (.cells cs e)) := by
   simp [execOp, h]
  unfold Oper.wp; rw [h']
  exact hK _ _ (k _ _ (Ext.ofAlloc _ _) (Blk.new _ _ _) (Nat.le_refl _))
end
section
variable {ops : Array Oper} {Q : Exit → Act → World → Prop} {a : Act} {w : World} {rest : List Oper} {d : Option Tmp} {ty : TypeId} {pos : String} {after : Array Edge}
theorem q_bl1 {x : Operand} {n0 : Int} (hx : a.eval x = .int .i64 n0)
  (k : ∀ W g, Ext w W → Blk W g 3 #[.int .i64 n0] → w.heap.size ≤ g → wpList Tryz.prog ops Q rest (a.put d (.slice (some ⟨g, 0, none⟩) 1 1)) W) :
  wpList Tryz.prog ops Q (⟨d, .buildSlice 41 1 #[(0, x)], ty, pos, after, none⟩ :: rest) a w := q_bslice (by have := bsI1 (w := w) n0; simpa [hx] using this) k
theorem q_bl2 {x y : Operand} {n0 n1 : Int} (hx : a.eval x = .int .i64 n0) (hy : a.eval y = .int .i64 n1)
  (k : ∀ W g, Ext w W → Blk W g 3 #[.int .i64 n0, .int .i64 n1] → w.heap.size ≤ g → wpList Tryz.prog ops Q rest (a.put d (.slice (some ⟨g, 0, none⟩) 2 2)) W) :
  wpList Tryz.prog ops Q (⟨d, .buildSlice 41 2 #[(0, x), (1, y)], ty, pos, after, none⟩ :: rest) a w := q_bslice (by have := bsI2 (w := w) n0 n1; simpa [hx, hy] using this) k
end
theorem pout_v {b : Bool} {lo hi : Int} {v : Value} {xs : List Int} {w : World} (h : Ints w v xs) (hb : outB lo hi xs = b) : Calls Tryz.prog 46 #[.int .i64 lo, .int .i64 hi, v] w (RetB w b) := hb ▸ pout_any lo hi v xs w h
theorem outB_1 (lo hi a : Int) : outB lo hi [a] = !inB a lo hi := by simp [outB]
theorem outB_2 (lo hi a b : Int) : outB lo hi [a, b] = (!inB a lo hi || !inB b lo hi) := by simp [outB]
theorem outB_all (lo hi : Int) (l : List Int) : outB lo hi l = !(l.all fun n => inB n lo hi) := by
 induction l with
 | nil => rfl
 | cons x l ih => unfold outB at ih ⊢; simp only [List.any_cons, List.all_cons, ih]; cases inB x lo hi <;> simp
theorem Town.streetErr_out (t : Town) (s : Street) : t.streetErr s =
  if outB 0 (t.places.length - 1) [s.a, s.b] = true then 4 else if s.a = s.b then 2 else if s.shows.length ≠ t.times.length then 3
  else if (outB 1 10000 [s.metres] || outB 0 60 [s.lo, s.hi] || outB 0 (t.sets - 1) s.shows) = true then 7
  else if s.lo > s.hi then 2 else 0 := by
 unfold Town.streetErr
 rw [outB_2, outB_1, outB_2, outB_all]
 cases inB s.a 0 (t.places.length - 1) <;> cases inB s.b 0 (t.places.length - 1) <;> cases inB s.metres 1 10000 <;> cases inB s.lo 0 60 <;> cases inB s.hi 0 60 <;> cases (s.shows.all fun n => inB n 0 (t.sets - 1)) <;> simp
theorem sizePtown : (Tryz.prog.info? 90).map TypeInfo.size = some 4 := by kernel_rfl
theorem ld_ptownB {w : World} {g : Nat} {a b c d : Value} (h : Blk w g 90 #[a, b, c, d]) : (loadVar 90 ⟨g, 0, none⟩).run Tryz.prog w = .ok (.agg #[a, b, c, d]) w := ld_blk Tryz.underlying90 sizePtown h rfl
set_option maxHeartbeats 4000000 in
theorem pstreet_any (tv sv : Value) (i : Int) (t : Town) (s : Street) (w : World) (h : TownV w tv t) (hsm : t.Small) (hs : StreetV w sv s) :
  Calls Tryz.prog 52 #[tv, .int .i64 i, sv] w (RetI w (t.streetErr s)) := by
 have hT0 := h
 obtain ⟨pv, shv, tmv, xv, rfl, hT⟩ := h
 obtain ⟨A1, cp1, rfl, _, _, _, _⟩ := hT.places
 obtain ⟨A2, cp2, rfl, _, _, _, _⟩ := hT.shows
 obtain ⟨A3, cp3, rfl, _, _, _, _⟩ := hT.times
 obtain ⟨A4, cp4, rfl, _, _, _⟩ := hT.streets
 obtain ⟨ssv, rfl, hs2⟩ := hs
 have hS2 := hs2
 obtain ⟨A, c, rfl, h1, h2, h3, h4⟩ := hs2
 unfold maxLen at h2
 have hp1 := hsm.p1; have hp2 := hsm.p2; have hsh := hsm.sh; have ht2 := hsm.t2
 clear h3 h4 hT hsm
 have hE := Ext.refl w
 have hwset : IntKind.i64.wrap (t.sets - 1) = t.sets - 1 := by
  have h0 := two_pow_bd (show t.shows.length ≤ 6 by omega) (by omega)
  have h1 := pow_small (show t.shows.length ≤ 6 by omega)
  unfold Town.sets
  exact IntWalk.i64_in _ (by omega)
 have Hs := Lib.hid (Town.streetErr_out t s)
 cases q1 : outB 0 (t.places.length - 1) [s.a, s.b] with
 | true =>
  go_enter Tryz.func52, Tryz.ntmps52
  go_wp2_with (first | ((with_reducible refine q_bl2 (d := some 17) (n0 := s.a) (n1 := s.b) ?_ ?_ ?_); rfl; rfl; intro W17 g17 hE17 hB17 hg17; (try replace hE := hE.trans hE17); (try replace hS2 := hS2.ext hE17); (try replace hT0 := hT0.ext hE17); (try replace hB3 := hB3.ext hE17); (try replace hb3_2 := Ext.cell_some hE17 hb3_2); (try replace hb5_0 := Ext.cell_some hE17 hb5_0); (try replace hb5_1 := Ext.cell_some hE17 hb5_1); (try replace hb5_2 := Ext.cell_some hE17 hb5_2); (try replace hb5_3 := Ext.cell_some hE17 hb5_3); (try replace hb5_4 := Ext.cell_some hE17 hb5_4); (try replace hb5_6 := Ext.cell_some hE17 hb5_6); have hI17 : Ints W17 (.slice (some ⟨g17, 0, none⟩) 2 2) [s.a, s.b] := ints_blk2 hB17; clear hB17 hg17 hE17) | (go_at_call 46; ((with_reducible refine ((pout_v (by exact hI17) q1)).mono ?_); rintro e WcO ⟨rfl, hEcO⟩; (try replace hE := hE.trans hEcO); (try replace hS2 := hS2.ext hEcO); (try replace hT0 := hT0.ext hEcO); (try replace hB3 := hB3.ext hEcO); (try replace hb3_2 := Ext.cell_some hEcO hb3_2); (try replace hb5_0 := Ext.cell_some hEcO hb5_0); (try replace hb5_1 := Ext.cell_some hEcO hb5_1); (try replace hb5_2 := Ext.cell_some hEcO hb5_2); (try replace hb5_3 := Ext.cell_some hEcO hb5_3); (try replace hb5_4 := Ext.cell_some hEcO hb5_4); (try replace hb5_6 := Ext.cell_some hEcO hb5_6))) | ((with_reducible refine q_box (d := some 3) ?_); intro W3 g3 hE3 hB3 hg3; simp [Act.eval, Act.put, Value.cells] at hB3; (try replace hE := hE.trans hE3); (try replace hS2 := hS2.ext hE3); (try replace hT0 := hT0.ext hE3); have hb3_0 := hB3.cell 0; have hb3_2 := hB3.cell 2; simp at hb3_0 hb3_2; clear hE3) | ((with_reducible refine q_box (d := some 5) ?_); intro W5 g5 hE5 hB5 hg5; simp [Act.eval, Act.put, Value.cells] at hB5; (try replace hE := hE.trans hE5); (try replace hS2 := hS2.ext hE5); (try replace hT0 := hT0.ext hE5); (try replace hB3 := hB3.ext hE5); (try replace hb3_0 := Ext.cell_some hE5 hb3_0); (try replace hb3_2 := Ext.cell_some hE5 hb3_2); have hb5_0 := hB5.cell 0; have hb5_1 := hB5.cell 1; have hb5_2 := hB5.cell 2; have hb5_3 := hB5.cell 3; have hb5_4 := hB5.cell 4; have hb5_6 := hB5.cell 6; simp at hb5_0 hb5_1 hb5_2 hb5_3 hb5_4 hb5_6; clear hE5))
  go_ret
  exact RetI.of (by rw [Hs.out, if_pos q1]) hE
 | false =>
  by_cases c3 : s.a = s.b
  ·have q3 : (s.a == s.b) = true := by simp [c3]
   have Hr := Lib.hid (show t.streetErr s = 2 by rw [Hs.out, if_neg (by rw [q1]; simp), if_pos c3])
   clear c3
   go_enter Tryz.func52, Tryz.ntmps52
   go_wp2_with (first | ((with_reducible refine q_bl2 (d := some 17) (n0 := s.a) (n1 := s.b) ?_ ?_ ?_); rfl; rfl; intro W17 g17 hE17 hB17 hg17; (try replace hE := hE.trans hE17); (try replace hS2 := hS2.ext hE17); (try replace hT0 := hT0.ext hE17); (try replace hB3 := hB3.ext hE17); (try replace hb3_2 := Ext.cell_some hE17 hb3_2); (try replace hb5_0 := Ext.cell_some hE17 hb5_0); (try replace hb5_1 := Ext.cell_some hE17 hb5_1); (try replace hb5_2 := Ext.cell_some hE17 hb5_2); (try replace hb5_3 := Ext.cell_some hE17 hb5_3); (try replace hb5_4 := Ext.cell_some hE17 hb5_4); (try replace hb5_6 := Ext.cell_some hE17 hb5_6); have hI17 : Ints W17 (.slice (some ⟨g17, 0, none⟩) 2 2) [s.a, s.b] := ints_blk2 hB17; clear hB17 hg17 hE17) | (go_at_call 46; ((with_reducible refine ((pout_v (by exact hI17) q1)).mono ?_); rintro e WcO ⟨rfl, hEcO⟩; (try replace hE := hE.trans hEcO); (try replace hS2 := hS2.ext hEcO); (try replace hT0 := hT0.ext hEcO); (try replace hB3 := hB3.ext hEcO); (try replace hb3_2 := Ext.cell_some hEcO hb3_2); (try replace hb5_0 := Ext.cell_some hEcO hb5_0); (try replace hb5_1 := Ext.cell_some hEcO hb5_1); (try replace hb5_2 := Ext.cell_some hEcO hb5_2); (try replace hb5_3 := Ext.cell_some hEcO hb5_3); (try replace hb5_4 := Ext.cell_some hEcO hb5_4); (try replace hb5_6 := Ext.cell_some hEcO hb5_6))) | ((with_reducible refine q_box (d := some 3) ?_); intro W3 g3 hE3 hB3 hg3; simp [Act.eval, Act.put, Value.cells] at hB3; (try replace hE := hE.trans hE3); (try replace hS2 := hS2.ext hE3); (try replace hT0 := hT0.ext hE3); have hb3_0 := hB3.cell 0; have hb3_2 := hB3.cell 2; simp at hb3_0 hb3_2; clear hE3) | ((with_reducible refine q_box (d := some 5) ?_); intro W5 g5 hE5 hB5 hg5; simp [Act.eval, Act.put, Value.cells] at hB5; (try replace hE := hE.trans hE5); (try replace hS2 := hS2.ext hE5); (try replace hT0 := hT0.ext hE5); (try replace hB3 := hB3.ext hE5); (try replace hb3_0 := Ext.cell_some hE5 hb3_0); (try replace hb3_2 := Ext.cell_some hE5 hb3_2); have hb5_0 := hB5.cell 0; have hb5_1 := hB5.cell 1; have hb5_2 := hB5.cell 2; have hb5_3 := hB5.cell 3; have hb5_4 := hB5.cell 4; have hb5_6 := hB5.cell 6; simp at hb5_0 hb5_1 hb5_2 hb5_3 hb5_4 hb5_6; clear hE5))
   go_ret
   exact RetI.of Hr.out hE
  ·have q3 : (s.a == s.b) = false := by simp [c3]
   have C3 := Lib.hid c3
   clear c3
   by_cases c4 : s.shows.length = t.times.length
   ·have q4 : ((s.shows.length : Int) != (t.times.length : Int)) = false := by simp [c4]
    have Hr := Lib.hid (show t.streetErr s = if (outB 1 10000 [s.metres] || outB 0 60 [s.lo, s.hi] || outB 0 (t.sets - 1) s.shows) = true then 7 else if s.lo > s.hi then 2 else 0 by rw [Hs.out, if_neg (by rw [q1]; simp), if_neg C3.out, if_neg (by omega)])
    clear c4
    cases m1 : outB 1 10000 [s.metres] with
    | true =>
     go_enter Tryz.func52, Tryz.ntmps52
     go_wp2_with (first | ((with_reducible refine q_bl2 (d := some 17) (n0 := s.a) (n1 := s.b) ?_ ?_ ?_); rfl; rfl; intro W17 g17 hE17 hB17 hg17; (try replace hE := hE.trans hE17); (try replace hS2 := hS2.ext hE17); (try replace hT0 := hT0.ext hE17); (try replace hB3 := hB3.ext hE17); (try replace hb3_2 := Ext.cell_some hE17 hb3_2); (try replace hb5_0 := Ext.cell_some hE17 hb5_0); (try replace hb5_1 := Ext.cell_some hE17 hb5_1); (try replace hb5_2 := Ext.cell_some hE17 hb5_2); (try replace hb5_3 := Ext.cell_some hE17 hb5_3); (try replace hb5_4 := Ext.cell_some hE17 hb5_4); (try replace hb5_6 := Ext.cell_some hE17 hb5_6); have hI17 : Ints W17 (.slice (some ⟨g17, 0, none⟩) 2 2) [s.a, s.b] := ints_blk2 hB17; clear hB17 hg17 hE17) | (go_at_call 46; ((with_reducible refine ((pout_v (by exact hI17) q1)).mono ?_); rintro e WcO ⟨rfl, hEcO⟩; (try replace hE := hE.trans hEcO); (try replace hS2 := hS2.ext hEcO); (try replace hT0 := hT0.ext hEcO); (try replace hB3 := hB3.ext hEcO); (try replace hb3_2 := Ext.cell_some hEcO hb3_2); (try replace hb5_0 := Ext.cell_some hEcO hb5_0); (try replace hb5_1 := Ext.cell_some hEcO hb5_1); (try replace hb5_2 := Ext.cell_some hEcO hb5_2); (try replace hb5_3 := Ext.cell_some hEcO hb5_3); (try replace hb5_4 := Ext.cell_some hEcO hb5_4); (try replace hb5_6 := Ext.cell_some hEcO hb5_6))) | ((with_reducible refine q_box (d := some 3) ?_); intro W3 g3 hE3 hB3 hg3; simp [Act.eval, Act.put, Value.cells] at hB3; (try replace hE := hE.trans hE3); (try replace hS2 := hS2.ext hE3); (try replace hT0 := hT0.ext hE3); have hb3_0 := hB3.cell 0; have hb3_2 := hB3.cell 2; simp at hb3_0 hb3_2; clear hE3) | ((with_reducible refine q_box (d := some 5) ?_); intro W5 g5 hE5 hB5 hg5; simp [Act.eval, Act.put, Value.cells] at hB5; (try replace hE := hE.trans hE5); (try replace hS2 := hS2.ext hE5); (try replace hT0 := hT0.ext hE5); (try replace hB3 := hB3.ext hE5); (try replace hb3_0 := Ext.cell_some hE5 hb3_0); (try replace hb3_2 := Ext.cell_some hE5 hb3_2); have hb5_0 := hB5.cell 0; have hb5_1 := hB5.cell 1; have hb5_2 := hB5.cell 2; have hb5_3 := hB5.cell 3; have hb5_4 := hB5.cell 4; have hb5_6 := hB5.cell 6; simp at hb5_0 hb5_1 hb5_2 hb5_3 hb5_4 hb5_6; clear hE5))
     have hX1 := Ext.todrew (Ext.refl WcO)
     refine wp_rt (.take 0 (.take 1 (.one 2 (.one 3 (.take 4 (.take 5 (.take 6 (.take 7 (.take 8 (.take 9 (.take 10 (.one 11 (.one 12 (.take 13 (.take 14 (.take 15 (.take 18 (.take 19 (.one 16 (.take 17 (.one 20 (.take 21 (.take 22 .nil))))))))))))))))))))))) (fun w' => Ext WcO w') ?_ (fun hHeld => ?_)
     ·assumption
     repeat' first | ((with_reducible refine t_tk ?_); first | ((with_reducible refine t_tk (i := 1) ?_); refine tk (v := .int .i64 s.metres) ?_ hHeld ?_; (· exact run_ld (by rfl) (fun W h => load_one Tryz.underlying3 rfl (Ext.cell_some h hb5_2))); (try simp only [pS])) | (refine tk (v := ?_) ?_ hHeld ?_; rotate_left; (· (intro wq hSw; (try dsimp only at hSw); go_simp; (try with_reducible rfl))); (try simp only [pS])) | (refine ts hHeld ?_; (try simp only [pS]))) | ((with_reducible refine t_on ?_); refine t_one (by simp only [gS]; rfl) ?_) | ((with_reducible refine q_gd (d := some 37) ?_); ((refine q_bsliceG (by rfl) (e := 3) (cs := #[.int .i64 s.metres]) ?_ ?_; (simp [Act.eval]; exact bsI1 _); intro W37 g37 hE37 hB37 hg37; have hX2 := hX1.trans hE37; have hI37 := ints_blk1 hB37))) | ((with_reducible refine q_gd (d := some 38) ?_); ((refine q_call (by rfl) (pout_v hI37 m1) (by go_simp) ?_; rintro e W38 ⟨rfl, hE38⟩; refine ⟨_, rfl, ?_⟩; have hX3 := hX2.trans hE38))) | ((with_reducible refine q_gd (d := some 46) ?_); refine q_skipG (by rfl) ?_) | ((with_reducible refine q_gd (d := some 47) ?_); refine q_skipG (by rfl) ?_) | ((with_reducible refine q_gd (d := some 51) ?_); refine q_skipG (by rfl) ?_) | ((with_reducible refine q_gd (d := some 55) ?_); refine q_skipG (by rfl) ?_) | ((with_reducible refine q_nl ?_); clear hHeld; refine t_next ?_ (fun hHeld => ?_); (· assumption); (try simp only [pS])) | (with_reducible refine t_done ?_)
     go_wp2
     go_ret
     exact RetI.of (by rw [Hr.out, m1]; rfl) (hE.trans hX3)
    | false =>
     cases m2 : outB 0 60 [s.lo, s.hi] with
     | true =>
      go_enter Tryz.func52, Tryz.ntmps52
      go_wp2_with (first | ((with_reducible refine q_bl2 (d := some 17) (n0 := s.a) (n1 := s.b) ?_ ?_ ?_); rfl; rfl; intro W17 g17 hE17 hB17 hg17; (try replace hE := hE.trans hE17); (try replace hS2 := hS2.ext hE17); (try replace hT0 := hT0.ext hE17); (try replace hB3 := hB3.ext hE17); (try replace hb3_2 := Ext.cell_some hE17 hb3_2); (try replace hb5_0 := Ext.cell_some hE17 hb5_0); (try replace hb5_1 := Ext.cell_some hE17 hb5_1); (try replace hb5_2 := Ext.cell_some hE17 hb5_2); (try replace hb5_3 := Ext.cell_some hE17 hb5_3); (try replace hb5_4 := Ext.cell_some hE17 hb5_4); (try replace hb5_6 := Ext.cell_some hE17 hb5_6); have hI17 : Ints W17 (.slice (some ⟨g17, 0, none⟩) 2 2) [s.a, s.b] := ints_blk2 hB17; clear hB17 hg17 hE17) | (go_at_call 46; ((with_reducible refine ((pout_v (by exact hI17) q1)).mono ?_); rintro e WcO ⟨rfl, hEcO⟩; (try replace hE := hE.trans hEcO); (try replace hS2 := hS2.ext hEcO); (try replace hT0 := hT0.ext hEcO); (try replace hB3 := hB3.ext hEcO); (try replace hb3_2 := Ext.cell_some hEcO hb3_2); (try replace hb5_0 := Ext.cell_some hEcO hb5_0); (try replace hb5_1 := Ext.cell_some hEcO hb5_1); (try replace hb5_2 := Ext.cell_some hEcO hb5_2); (try replace hb5_3 := Ext.cell_some hEcO hb5_3); (try replace hb5_4 := Ext.cell_some hEcO hb5_4); (try replace hb5_6 := Ext.cell_some hEcO hb5_6))) | ((with_reducible refine q_box (d := some 3) ?_); intro W3 g3 hE3 hB3 hg3; simp [Act.eval, Act.put, Value.cells] at hB3; (try replace hE := hE.trans hE3); (try replace hS2 := hS2.ext hE3); (try replace hT0 := hT0.ext hE3); have hb3_0 := hB3.cell 0; have hb3_2 := hB3.cell 2; simp at hb3_0 hb3_2; clear hE3) | ((with_reducible refine q_box (d := some 5) ?_); intro W5 g5 hE5 hB5 hg5; simp [Act.eval, Act.put, Value.cells] at hB5; (try replace hE := hE.trans hE5); (try replace hS2 := hS2.ext hE5); (try replace hT0 := hT0.ext hE5); (try replace hB3 := hB3.ext hE5); (try replace hb3_0 := Ext.cell_some hE5 hb3_0); (try replace hb3_2 := Ext.cell_some hE5 hb3_2); have hb5_0 := hB5.cell 0; have hb5_1 := hB5.cell 1; have hb5_2 := hB5.cell 2; have hb5_3 := hB5.cell 3; have hb5_4 := hB5.cell 4; have hb5_6 := hB5.cell 6; simp at hb5_0 hb5_1 hb5_2 hb5_3 hb5_4 hb5_6; clear hE5))
      have hX1 := Ext.todrew (Ext.refl WcO)
      refine wp_rt (.take 0 (.take 1 (.one 2 (.one 3 (.take 4 (.take 5 (.take 6 (.take 7 (.take 8 (.take 9 (.take 10 (.one 11 (.one 12 (.take 13 (.take 14 (.take 15 (.take 18 (.take 19 (.one 16 (.take 17 (.one 20 (.take 21 (.take 22 .nil))))))))))))))))))))))) (fun w' => Ext WcO w') ?_ (fun hHeld => ?_)
      ·assumption
      repeat' first | ((with_reducible refine t_tk ?_); first | ((with_reducible refine t_tk (i := 1) ?_); refine tk (v := .int .i64 s.metres) ?_ hHeld ?_; (· exact run_ld (by rfl) (fun W h => load_one Tryz.underlying3 rfl (Ext.cell_some h hb5_2))); (try simp only [pS])) | ((with_reducible refine t_tk (i := 7) ?_); refine tw (v := .int .i64 s.lo) ?_ hHeld ?_; (· exact run_ld (by rfl) (fun W h => load_one Tryz.underlying3 rfl (Ext.cell_some h hb5_3))); (try simp only [pS])) | ((with_reducible refine t_tk (i := 10) ?_); refine tw (v := .int .i64 s.hi) ?_ hHeld ?_; (· exact run_ld (by rfl) (fun W h => load_one Tryz.underlying3 rfl (Ext.cell_some h hb5_4))); (try simp only [pS])) | ((first | with_reducible refine t_tk (i := 15) ?_ | with_reducible refine t_tk (i := 17) ?_ | with_reducible refine t_tk (i := 18) ?_ | with_reducible refine t_tk (i := 19) ?_); (refine ts hHeld ?_; (try simp only [pS]))) | (refine tk (v := ?_) ?_ hHeld ?_; rotate_left; (· (intro wq hSw; (try dsimp only at hSw); go_simp; (try with_reducible rfl))); (try simp only [pS])) | (refine tw (v := ?_) ?_ hHeld ?_; rotate_left; (· (intro wq hSw; (try dsimp only at hSw); go_simp; (try with_reducible rfl))); (try simp only [pS]))) | ((with_reducible refine t_on ?_); refine t_one (by simp only [gS]; rfl) ?_) | ((with_reducible refine q_gd (d := some 37) ?_); ((refine q_bsliceG (by rfl) (e := 3) (cs := #[.int .i64 s.metres]) ?_ ?_; (simp [Act.eval]; exact bsI1 _); intro W37 g37 hE37 hB37 hg37; have hX2 := hX1.trans hE37; have hI37 := ints_blk1 hB37))) | ((with_reducible refine q_gd (d := some 38) ?_); ((refine q_call (by rfl) (pout_v hI37 m1) (by go_simp) ?_; rintro e W38 ⟨rfl, hE38⟩; refine ⟨_, rfl, ?_⟩; have hX3 := hX2.trans hE38))) | ((with_reducible refine q_gd (d := some 46) ?_); ((refine q_bsliceG (by rfl) (e := 3) (cs := #[.int .i64 s.lo, .int .i64 s.hi]) ?_ ?_; (simp [Act.eval]; exact bsI2 _ _); intro W46 g46 hE46 hB46 hg46; have hX4 := hX3.trans hE46; have hI46 := ints_blk2 hB46))) | ((with_reducible refine q_gd (d := some 47) ?_); ((refine q_callG (by rfl) (pout_v hI46 m2) (by go_simp) ?_; rintro e W47 ⟨rfl, hE47⟩; refine ⟨_, rfl, ?_⟩; have hX5 := hX4.trans hE47))) | ((with_reducible refine q_gd (d := some 51) ?_); refine q_skipG (by rfl) ?_) | ((with_reducible refine q_gd (d := some 55) ?_); refine q_skipG (by rfl) ?_) | ((with_reducible refine q_nl ?_); clear hHeld; refine t_next ?_ (fun hHeld => ?_); (· assumption); (try simp only [pS])) | (with_reducible refine t_done ?_)
      go_wp2
      go_ret
      exact RetI.of (by rw [Hr.out, m1, m2]; rfl) (hE.trans hX5)
     | false =>
      cases m3 : outB 0 (t.sets - 1) s.shows with
      | true =>
       go_enter Tryz.func52, Tryz.ntmps52
       go_wp2_with (first | ((with_reducible refine q_bl2 (d := some 17) (n0 := s.a) (n1 := s.b) ?_ ?_ ?_); rfl; rfl; intro W17 g17 hE17 hB17 hg17; (try replace hE := hE.trans hE17); (try replace hS2 := hS2.ext hE17); (try replace hT0 := hT0.ext hE17); (try replace hB3 := hB3.ext hE17); (try replace hb3_2 := Ext.cell_some hE17 hb3_2); (try replace hb5_0 := Ext.cell_some hE17 hb5_0); (try replace hb5_1 := Ext.cell_some hE17 hb5_1); (try replace hb5_2 := Ext.cell_some hE17 hb5_2); (try replace hb5_3 := Ext.cell_some hE17 hb5_3); (try replace hb5_4 := Ext.cell_some hE17 hb5_4); (try replace hb5_6 := Ext.cell_some hE17 hb5_6); have hI17 : Ints W17 (.slice (some ⟨g17, 0, none⟩) 2 2) [s.a, s.b] := ints_blk2 hB17; clear hB17 hg17 hE17) | (go_at_call 46; ((with_reducible refine ((pout_v (by exact hI17) q1)).mono ?_); rintro e WcO ⟨rfl, hEcO⟩; (try replace hE := hE.trans hEcO); (try replace hS2 := hS2.ext hEcO); (try replace hT0 := hT0.ext hEcO); (try replace hB3 := hB3.ext hEcO); (try replace hb3_2 := Ext.cell_some hEcO hb3_2); (try replace hb5_0 := Ext.cell_some hEcO hb5_0); (try replace hb5_1 := Ext.cell_some hEcO hb5_1); (try replace hb5_2 := Ext.cell_some hEcO hb5_2); (try replace hb5_3 := Ext.cell_some hEcO hb5_3); (try replace hb5_4 := Ext.cell_some hEcO hb5_4); (try replace hb5_6 := Ext.cell_some hEcO hb5_6))) | ((with_reducible refine q_box (d := some 3) ?_); intro W3 g3 hE3 hB3 hg3; simp [Act.eval, Act.put, Value.cells] at hB3; (try replace hE := hE.trans hE3); (try replace hS2 := hS2.ext hE3); (try replace hT0 := hT0.ext hE3); have hb3_0 := hB3.cell 0; have hb3_2 := hB3.cell 2; simp at hb3_0 hb3_2; clear hE3) | ((with_reducible refine q_box (d := some 5) ?_); intro W5 g5 hE5 hB5 hg5; simp [Act.eval, Act.put, Value.cells] at hB5; (try replace hE := hE.trans hE5); (try replace hS2 := hS2.ext hE5); (try replace hT0 := hT0.ext hE5); (try replace hB3 := hB3.ext hE5); (try replace hb3_0 := Ext.cell_some hE5 hb3_0); (try replace hb3_2 := Ext.cell_some hE5 hb3_2); have hb5_0 := hB5.cell 0; have hb5_1 := hB5.cell 1; have hb5_2 := hB5.cell 2; have hb5_3 := hB5.cell 3; have hb5_4 := hB5.cell 4; have hb5_6 := hB5.cell 6; simp at hb5_0 hb5_1 hb5_2 hb5_3 hb5_4 hb5_6; clear hE5))
       have hX1 := Ext.todrew (Ext.refl WcO)
       refine wp_rt (.take 0 (.take 1 (.one 2 (.one 3 (.take 4 (.take 5 (.take 6 (.take 7 (.take 8 (.take 9 (.take 10 (.one 11 (.one 12 (.take 13 (.take 14 (.take 15 (.take 18 (.take 19 (.one 16 (.take 17 (.one 20 (.take 21 (.take 22 .nil))))))))))))))))))))))) (fun w' => Ext WcO w') ?_ (fun hHeld => ?_)
       ·assumption
       repeat' first | ((with_reducible refine t_tk ?_); first | ((with_reducible refine t_tk (i := 1) ?_); refine tk (v := .int .i64 s.metres) ?_ hHeld ?_; (· exact run_ld (by rfl) (fun W h => load_one Tryz.underlying3 rfl (Ext.cell_some h hb5_2))); (try simp only [pS])) | ((with_reducible refine t_tk (i := 7) ?_); refine tw (v := .int .i64 s.lo) ?_ hHeld ?_; (· exact run_ld (by rfl) (fun W h => load_one Tryz.underlying3 rfl (Ext.cell_some h hb5_3))); (try simp only [pS])) | ((with_reducible refine t_tk (i := 10) ?_); refine tw (v := .int .i64 s.hi) ?_ hHeld ?_; (· exact run_ld (by rfl) (fun W h => load_one Tryz.underlying3 rfl (Ext.cell_some h hb5_4))); (try simp only [pS])) | ((with_reducible refine t_tk (i := 15) ?_); refine tw (v := .agg #[.slice A1 t.places.length cp1, .slice A2 t.shows.length cp2, .slice A3 t.times.length cp3, .slice A4 t.streets.length cp4]) ?_ hHeld ?_; (· exact run_ld (by rfl) (fun W h => ld_ptownB (hB3.ext h))); (try simp only [pS])) | ((with_reducible refine t_tk (i := 19) ?_); refine tw (v := .slice A s.shows.length c) ?_ hHeld ?_; (· exact run_ld (by rfl) (fun W h => load_one Tryz.underlying41 rfl (Ext.cell_some h hb5_6))); (try simp only [pS])) | (refine tk (v := ?_) ?_ hHeld ?_; rotate_left; (· (intro wq hSw; (try dsimp only at hSw); go_simp; (try with_reducible rfl))); (try simp only [pS])) | (refine tw (v := ?_) ?_ hHeld ?_; rotate_left; (· (intro wq hSw; (try dsimp only at hSw); go_simp; (try with_reducible rfl))); (try simp only [pS]))) | ((with_reducible refine t_on ?_); refine t_one (by simp only [gS]; rfl) ?_) | ((with_reducible refine q_gd (d := some 37) ?_); ((refine q_bsliceG (by rfl) (e := 3) (cs := #[.int .i64 s.metres]) ?_ ?_; (simp [Act.eval]; exact bsI1 _); intro W37 g37 hE37 hB37 hg37; have hX2 := hX1.trans hE37; have hI37 := ints_blk1 hB37))) | ((with_reducible refine q_gd (d := some 38) ?_); ((refine q_call (by rfl) (pout_v hI37 m1) (by go_simp) ?_; rintro e W38 ⟨rfl, hE38⟩; refine ⟨_, rfl, ?_⟩; have hX3 := hX2.trans hE38))) | ((with_reducible refine q_gd (d := some 46) ?_); ((refine q_bsliceG (by rfl) (e := 3) (cs := #[.int .i64 s.lo, .int .i64 s.hi]) ?_ ?_; (simp [Act.eval]; exact bsI2 _ _); intro W46 g46 hE46 hB46 hg46; have hX4 := hX3.trans hE46; have hI46 := ints_blk2 hB46))) | ((with_reducible refine q_gd (d := some 47) ?_); ((refine q_callG (by rfl) (pout_v hI46 m2) (by go_simp) ?_; rintro e W47 ⟨rfl, hE47⟩; refine ⟨_, rfl, ?_⟩; have hX5 := hX4.trans hE47))) | ((with_reducible refine q_gd (d := some 51) ?_); ((refine q_callG (by rfl) (psets_any _ t _ (hT0.ext hX5) hsh) (by go_simp) ?_; rintro e W51 ⟨rfl, hE51⟩; refine ⟨_, rfl, ?_⟩; have hX6 := hX5.trans hE51))) | ((with_reducible refine q_gd (d := some 55) ?_); ((refine q_callG (by rfl) (pout_v (hS2.ext hX6) m3) (by go_simp) ?_; rintro e W55 ⟨rfl, hE55⟩; refine ⟨_, rfl, ?_⟩; have hX7 := hX6.trans hE55))) | ((with_reducible refine q_nl ?_); clear hHeld; refine t_next ?_ (fun hHeld => ?_); (· assumption); (try simp only [pS])) | (with_reducible refine t_done ?_)
       go_wp2
       go_ret
       exact RetI.of (by rw [Hr.out, m1, m2, m3]; rfl) (hE.trans hX7)
      | false =>
       by_cases c9 : s.hi < s.lo
       ·go_enter Tryz.func52, Tryz.ntmps52
        go_wp2_with (first | ((with_reducible refine q_bl2 (d := some 17) (n0 := s.a) (n1 := s.b) ?_ ?_ ?_); rfl; rfl; intro W17 g17 hE17 hB17 hg17; (try replace hE := hE.trans hE17); (try replace hS2 := hS2.ext hE17); (try replace hT0 := hT0.ext hE17); (try replace hB3 := hB3.ext hE17); (try replace hb3_2 := Ext.cell_some hE17 hb3_2); (try replace hb5_0 := Ext.cell_some hE17 hb5_0); (try replace hb5_1 := Ext.cell_some hE17 hb5_1); (try replace hb5_2 := Ext.cell_some hE17 hb5_2); (try replace hb5_3 := Ext.cell_some hE17 hb5_3); (try replace hb5_4 := Ext.cell_some hE17 hb5_4); (try replace hb5_6 := Ext.cell_some hE17 hb5_6); have hI17 : Ints W17 (.slice (some ⟨g17, 0, none⟩) 2 2) [s.a, s.b] := ints_blk2 hB17; clear hB17 hg17 hE17) | (go_at_call 46; ((with_reducible refine ((pout_v (by exact hI17) q1)).mono ?_); rintro e WcO ⟨rfl, hEcO⟩; (try replace hE := hE.trans hEcO); (try replace hS2 := hS2.ext hEcO); (try replace hT0 := hT0.ext hEcO); (try replace hB3 := hB3.ext hEcO); (try replace hb3_2 := Ext.cell_some hEcO hb3_2); (try replace hb5_0 := Ext.cell_some hEcO hb5_0); (try replace hb5_1 := Ext.cell_some hEcO hb5_1); (try replace hb5_2 := Ext.cell_some hEcO hb5_2); (try replace hb5_3 := Ext.cell_some hEcO hb5_3); (try replace hb5_4 := Ext.cell_some hEcO hb5_4); (try replace hb5_6 := Ext.cell_some hEcO hb5_6))) | ((with_reducible refine q_box (d := some 3) ?_); intro W3 g3 hE3 hB3 hg3; simp [Act.eval, Act.put, Value.cells] at hB3; (try replace hE := hE.trans hE3); (try replace hS2 := hS2.ext hE3); (try replace hT0 := hT0.ext hE3); have hb3_0 := hB3.cell 0; have hb3_2 := hB3.cell 2; simp at hb3_0 hb3_2; clear hE3) | ((with_reducible refine q_box (d := some 5) ?_); intro W5 g5 hE5 hB5 hg5; simp [Act.eval, Act.put, Value.cells] at hB5; (try replace hE := hE.trans hE5); (try replace hS2 := hS2.ext hE5); (try replace hT0 := hT0.ext hE5); (try replace hB3 := hB3.ext hE5); (try replace hb3_0 := Ext.cell_some hE5 hb3_0); (try replace hb3_2 := Ext.cell_some hE5 hb3_2); have hb5_0 := hB5.cell 0; have hb5_1 := hB5.cell 1; have hb5_2 := hB5.cell 2; have hb5_3 := hB5.cell 3; have hb5_4 := hB5.cell 4; have hb5_6 := hB5.cell 6; simp at hb5_0 hb5_1 hb5_2 hb5_3 hb5_4 hb5_6; clear hE5))
        have hX1 := Ext.todrew (Ext.refl WcO)
        refine wp_rt (.take 0 (.take 1 (.one 2 (.one 3 (.take 4 (.take 5 (.take 6 (.take 7 (.take 8 (.take 9 (.take 10 (.one 11 (.one 12 (.take 13 (.take 14 (.take 15 (.take 18 (.take 19 (.one 16 (.take 17 (.one 20 (.take 21 (.take 22 .nil))))))))))))))))))))))) (fun w' => Ext WcO w') ?_ (fun hHeld => ?_)
        ·assumption
        repeat' first | ((with_reducible refine t_tk ?_); first | ((with_reducible refine t_tk (i := 1) ?_); refine tk (v := .int .i64 s.metres) ?_ hHeld ?_; (· exact run_ld (by rfl) (fun W h => load_one Tryz.underlying3 rfl (Ext.cell_some h hb5_2))); (try simp only [pS])) | ((with_reducible refine t_tk (i := 7) ?_); refine tw (v := .int .i64 s.lo) ?_ hHeld ?_; (· exact run_ld (by rfl) (fun W h => load_one Tryz.underlying3 rfl (Ext.cell_some h hb5_3))); (try simp only [pS])) | ((with_reducible refine t_tk (i := 10) ?_); refine tw (v := .int .i64 s.hi) ?_ hHeld ?_; (· exact run_ld (by rfl) (fun W h => load_one Tryz.underlying3 rfl (Ext.cell_some h hb5_4))); (try simp only [pS])) | ((with_reducible refine t_tk (i := 15) ?_); refine tw (v := .agg #[.slice A1 t.places.length cp1, .slice A2 t.shows.length cp2, .slice A3 t.times.length cp3, .slice A4 t.streets.length cp4]) ?_ hHeld ?_; (· exact run_ld (by rfl) (fun W h => ld_ptownB (hB3.ext h))); (try simp only [pS])) | ((with_reducible refine t_tk (i := 19) ?_); refine tw (v := .slice A s.shows.length c) ?_ hHeld ?_; (· exact run_ld (by rfl) (fun W h => load_one Tryz.underlying41 rfl (Ext.cell_some h hb5_6))); (try simp only [pS])) | (refine tk (v := ?_) ?_ hHeld ?_; rotate_left; (· (intro wq hSw; (try dsimp only at hSw); go_simp; (try with_reducible rfl))); (try simp only [pS])) | (refine tw (v := ?_) ?_ hHeld ?_; rotate_left; (· (intro wq hSw; (try dsimp only at hSw); go_simp; (try with_reducible rfl))); (try simp only [pS]))) | ((with_reducible refine t_on ?_); refine t_one (by simp only [gS]; rfl) ?_) | ((with_reducible refine q_gd (d := some 37) ?_); ((refine q_bsliceG (by rfl) (e := 3) (cs := #[.int .i64 s.metres]) ?_ ?_; (simp [Act.eval]; exact bsI1 _); intro W37 g37 hE37 hB37 hg37; have hX2 := hX1.trans hE37; have hI37 := ints_blk1 hB37))) | ((with_reducible refine q_gd (d := some 38) ?_); ((refine q_call (by rfl) (pout_v hI37 m1) (by go_simp) ?_; rintro e W38 ⟨rfl, hE38⟩; refine ⟨_, rfl, ?_⟩; have hX3 := hX2.trans hE38))) | ((with_reducible refine q_gd (d := some 46) ?_); ((refine q_bsliceG (by rfl) (e := 3) (cs := #[.int .i64 s.lo, .int .i64 s.hi]) ?_ ?_; (simp [Act.eval]; exact bsI2 _ _); intro W46 g46 hE46 hB46 hg46; have hX4 := hX3.trans hE46; have hI46 := ints_blk2 hB46))) | ((with_reducible refine q_gd (d := some 47) ?_); ((refine q_callG (by rfl) (pout_v hI46 m2) (by go_simp) ?_; rintro e W47 ⟨rfl, hE47⟩; refine ⟨_, rfl, ?_⟩; have hX5 := hX4.trans hE47))) | ((with_reducible refine q_gd (d := some 51) ?_); ((refine q_callG (by rfl) (psets_any _ t _ (hT0.ext hX5) hsh) (by go_simp) ?_; rintro e W51 ⟨rfl, hE51⟩; refine ⟨_, rfl, ?_⟩; have hX6 := hX5.trans hE51))) | ((with_reducible refine q_gd (d := some 55) ?_); ((refine q_callG (by rfl) (pout_v (hS2.ext hX6) m3) (by go_simp) ?_; rintro e W55 ⟨rfl, hE55⟩; refine ⟨_, rfl, ?_⟩; have hX7 := hX6.trans hE55))) | ((with_reducible refine q_nl ?_); clear hHeld; refine t_next ?_ (fun hHeld => ?_); (· assumption); (try simp only [pS])) | (with_reducible refine t_done ?_)
        have k3 := Ext.cell_some hX7 hb5_3
        have k4 := Ext.cell_some hX7 hb5_4
        go_wp2
        go_ret
        exact RetI.of (by rw [Hr.out, m1, m2, m3]; simp; omega) (hE.trans hX7)
       ·go_enter Tryz.func52, Tryz.ntmps52
        go_wp2_with (first | ((with_reducible refine q_bl2 (d := some 17) (n0 := s.a) (n1 := s.b) ?_ ?_ ?_); rfl; rfl; intro W17 g17 hE17 hB17 hg17; (try replace hE := hE.trans hE17); (try replace hS2 := hS2.ext hE17); (try replace hT0 := hT0.ext hE17); (try replace hB3 := hB3.ext hE17); (try replace hb3_2 := Ext.cell_some hE17 hb3_2); (try replace hb5_0 := Ext.cell_some hE17 hb5_0); (try replace hb5_1 := Ext.cell_some hE17 hb5_1); (try replace hb5_2 := Ext.cell_some hE17 hb5_2); (try replace hb5_3 := Ext.cell_some hE17 hb5_3); (try replace hb5_4 := Ext.cell_some hE17 hb5_4); (try replace hb5_6 := Ext.cell_some hE17 hb5_6); have hI17 : Ints W17 (.slice (some ⟨g17, 0, none⟩) 2 2) [s.a, s.b] := ints_blk2 hB17; clear hB17 hg17 hE17) | (go_at_call 46; ((with_reducible refine ((pout_v (by exact hI17) q1)).mono ?_); rintro e WcO ⟨rfl, hEcO⟩; (try replace hE := hE.trans hEcO); (try replace hS2 := hS2.ext hEcO); (try replace hT0 := hT0.ext hEcO); (try replace hB3 := hB3.ext hEcO); (try replace hb3_2 := Ext.cell_some hEcO hb3_2); (try replace hb5_0 := Ext.cell_some hEcO hb5_0); (try replace hb5_1 := Ext.cell_some hEcO hb5_1); (try replace hb5_2 := Ext.cell_some hEcO hb5_2); (try replace hb5_3 := Ext.cell_some hEcO hb5_3); (try replace hb5_4 := Ext.cell_some hEcO hb5_4); (try replace hb5_6 := Ext.cell_some hEcO hb5_6))) | ((with_reducible refine q_box (d := some 3) ?_); intro W3 g3 hE3 hB3 hg3; simp [Act.eval, Act.put, Value.cells] at hB3; (try replace hE := hE.trans hE3); (try replace hS2 := hS2.ext hE3); (try replace hT0 := hT0.ext hE3); have hb3_0 := hB3.cell 0; have hb3_2 := hB3.cell 2; simp at hb3_0 hb3_2; clear hE3) | ((with_reducible refine q_box (d := some 5) ?_); intro W5 g5 hE5 hB5 hg5; simp [Act.eval, Act.put, Value.cells] at hB5; (try replace hE := hE.trans hE5); (try replace hS2 := hS2.ext hE5); (try replace hT0 := hT0.ext hE5); (try replace hB3 := hB3.ext hE5); (try replace hb3_0 := Ext.cell_some hE5 hb3_0); (try replace hb3_2 := Ext.cell_some hE5 hb3_2); have hb5_0 := hB5.cell 0; have hb5_1 := hB5.cell 1; have hb5_2 := hB5.cell 2; have hb5_3 := hB5.cell 3; have hb5_4 := hB5.cell 4; have hb5_6 := hB5.cell 6; simp at hb5_0 hb5_1 hb5_2 hb5_3 hb5_4 hb5_6; clear hE5))
        have hX1 := Ext.todrew (Ext.refl WcO)
        refine wp_rt (.take 0 (.take 1 (.one 2 (.one 3 (.take 4 (.take 5 (.take 6 (.take 7 (.take 8 (.take 9 (.take 10 (.one 11 (.one 12 (.take 13 (.take 14 (.take 15 (.take 18 (.take 19 (.one 16 (.take 17 (.one 20 (.take 21 (.take 22 .nil))))))))))))))))))))))) (fun w' => Ext WcO w') ?_ (fun hHeld => ?_)
        ·assumption
        repeat' first | ((with_reducible refine t_tk ?_); first | ((with_reducible refine t_tk (i := 1) ?_); refine tk (v := .int .i64 s.metres) ?_ hHeld ?_; (· exact run_ld (by rfl) (fun W h => load_one Tryz.underlying3 rfl (Ext.cell_some h hb5_2))); (try simp only [pS])) | ((with_reducible refine t_tk (i := 7) ?_); refine tw (v := .int .i64 s.lo) ?_ hHeld ?_; (· exact run_ld (by rfl) (fun W h => load_one Tryz.underlying3 rfl (Ext.cell_some h hb5_3))); (try simp only [pS])) | ((with_reducible refine t_tk (i := 10) ?_); refine tw (v := .int .i64 s.hi) ?_ hHeld ?_; (· exact run_ld (by rfl) (fun W h => load_one Tryz.underlying3 rfl (Ext.cell_some h hb5_4))); (try simp only [pS])) | ((with_reducible refine t_tk (i := 15) ?_); refine tw (v := .agg #[.slice A1 t.places.length cp1, .slice A2 t.shows.length cp2, .slice A3 t.times.length cp3, .slice A4 t.streets.length cp4]) ?_ hHeld ?_; (· exact run_ld (by rfl) (fun W h => ld_ptownB (hB3.ext h))); (try simp only [pS])) | ((with_reducible refine t_tk (i := 19) ?_); refine tw (v := .slice A s.shows.length c) ?_ hHeld ?_; (· exact run_ld (by rfl) (fun W h => load_one Tryz.underlying41 rfl (Ext.cell_some h hb5_6))); (try simp only [pS])) | (refine tk (v := ?_) ?_ hHeld ?_; rotate_left; (· (intro wq hSw; (try dsimp only at hSw); go_simp; (try with_reducible rfl))); (try simp only [pS])) | (refine tw (v := ?_) ?_ hHeld ?_; rotate_left; (· (intro wq hSw; (try dsimp only at hSw); go_simp; (try with_reducible rfl))); (try simp only [pS]))) | ((with_reducible refine t_on ?_); refine t_one (by simp only [gS]; rfl) ?_) | ((with_reducible refine q_gd (d := some 37) ?_); ((refine q_bsliceG (by rfl) (e := 3) (cs := #[.int .i64 s.metres]) ?_ ?_; (simp [Act.eval]; exact bsI1 _); intro W37 g37 hE37 hB37 hg37; have hX2 := hX1.trans hE37; have hI37 := ints_blk1 hB37))) | ((with_reducible refine q_gd (d := some 38) ?_); ((refine q_call (by rfl) (pout_v hI37 m1) (by go_simp) ?_; rintro e W38 ⟨rfl, hE38⟩; refine ⟨_, rfl, ?_⟩; have hX3 := hX2.trans hE38))) | ((with_reducible refine q_gd (d := some 46) ?_); ((refine q_bsliceG (by rfl) (e := 3) (cs := #[.int .i64 s.lo, .int .i64 s.hi]) ?_ ?_; (simp [Act.eval]; exact bsI2 _ _); intro W46 g46 hE46 hB46 hg46; have hX4 := hX3.trans hE46; have hI46 := ints_blk2 hB46))) | ((with_reducible refine q_gd (d := some 47) ?_); ((refine q_callG (by rfl) (pout_v hI46 m2) (by go_simp) ?_; rintro e W47 ⟨rfl, hE47⟩; refine ⟨_, rfl, ?_⟩; have hX5 := hX4.trans hE47))) | ((with_reducible refine q_gd (d := some 51) ?_); ((refine q_callG (by rfl) (psets_any _ t _ (hT0.ext hX5) hsh) (by go_simp) ?_; rintro e W51 ⟨rfl, hE51⟩; refine ⟨_, rfl, ?_⟩; have hX6 := hX5.trans hE51))) | ((with_reducible refine q_gd (d := some 55) ?_); ((refine q_callG (by rfl) (pout_v (hS2.ext hX6) m3) (by go_simp) ?_; rintro e W55 ⟨rfl, hE55⟩; refine ⟨_, rfl, ?_⟩; have hX7 := hX6.trans hE55))) | ((with_reducible refine q_nl ?_); clear hHeld; refine t_next ?_ (fun hHeld => ?_); (· assumption); (try simp only [pS])) | (with_reducible refine t_done ?_)
        have k3 := Ext.cell_some hX7 hb5_3
        have k4 := Ext.cell_some hX7 hb5_4
        go_wp2
        go_ret
        exact RetI.of (by rw [Hr.out, m1, m2, m3]; simp; omega) (hE.trans hX7)
   ·have q4 : ((s.shows.length : Int) != (t.times.length : Int)) = true := by rw [bne_iff_ne]; omega
    have Hr := Lib.hid (show t.streetErr s = 3 by rw [Hs.out, if_neg (by rw [q1]; simp), if_neg C3.out, if_pos c4])
    clear c4
    go_enter Tryz.func52, Tryz.ntmps52
    go_wp2_with (first | ((with_reducible refine q_bl2 (d := some 17) (n0 := s.a) (n1 := s.b) ?_ ?_ ?_); rfl; rfl; intro W17 g17 hE17 hB17 hg17; (try replace hE := hE.trans hE17); (try replace hS2 := hS2.ext hE17); (try replace hT0 := hT0.ext hE17); (try replace hB3 := hB3.ext hE17); (try replace hb3_2 := Ext.cell_some hE17 hb3_2); (try replace hb5_0 := Ext.cell_some hE17 hb5_0); (try replace hb5_1 := Ext.cell_some hE17 hb5_1); (try replace hb5_2 := Ext.cell_some hE17 hb5_2); (try replace hb5_3 := Ext.cell_some hE17 hb5_3); (try replace hb5_4 := Ext.cell_some hE17 hb5_4); (try replace hb5_6 := Ext.cell_some hE17 hb5_6); have hI17 : Ints W17 (.slice (some ⟨g17, 0, none⟩) 2 2) [s.a, s.b] := ints_blk2 hB17; clear hB17 hg17 hE17) | (go_at_call 46; ((with_reducible refine ((pout_v (by exact hI17) q1)).mono ?_); rintro e WcO ⟨rfl, hEcO⟩; (try replace hE := hE.trans hEcO); (try replace hS2 := hS2.ext hEcO); (try replace hT0 := hT0.ext hEcO); (try replace hB3 := hB3.ext hEcO); (try replace hb3_2 := Ext.cell_some hEcO hb3_2); (try replace hb5_0 := Ext.cell_some hEcO hb5_0); (try replace hb5_1 := Ext.cell_some hEcO hb5_1); (try replace hb5_2 := Ext.cell_some hEcO hb5_2); (try replace hb5_3 := Ext.cell_some hEcO hb5_3); (try replace hb5_4 := Ext.cell_some hEcO hb5_4); (try replace hb5_6 := Ext.cell_some hEcO hb5_6))) | ((with_reducible refine q_box (d := some 3) ?_); intro W3 g3 hE3 hB3 hg3; simp [Act.eval, Act.put, Value.cells] at hB3; (try replace hE := hE.trans hE3); (try replace hS2 := hS2.ext hE3); (try replace hT0 := hT0.ext hE3); have hb3_0 := hB3.cell 0; have hb3_2 := hB3.cell 2; simp at hb3_0 hb3_2; clear hE3) | ((with_reducible refine q_box (d := some 5) ?_); intro W5 g5 hE5 hB5 hg5; simp [Act.eval, Act.put, Value.cells] at hB5; (try replace hE := hE.trans hE5); (try replace hS2 := hS2.ext hE5); (try replace hT0 := hT0.ext hE5); (try replace hB3 := hB3.ext hE5); (try replace hb3_0 := Ext.cell_some hE5 hb3_0); (try replace hb3_2 := Ext.cell_some hE5 hb3_2); have hb5_0 := hB5.cell 0; have hb5_1 := hB5.cell 1; have hb5_2 := hB5.cell 2; have hb5_3 := hB5.cell 3; have hb5_4 := hB5.cell 4; have hb5_6 := hB5.cell 6; simp at hb5_0 hb5_1 hb5_2 hb5_3 hb5_4 hb5_6; clear hE5))
    go_ret
    exact RetI.of Hr.out hE
end Go.St
end
section
namespace Go.St
open Go Go.Bp Go.RowKit Go.Proofs
theorem chk_names {w : World} {l : List ByteArray} {g : Nat} {v : Value} (h1 : w.cell? ⟨g, 0, none⟩ = some v) (h : Strs w v l) (hs : ∀ s ∈ l, s.size ≤ maxLen) :
  ChkS w 48 #[.pointer (some ⟨g, 0, none⟩)] (nameErr l) l := by
 intro k hk W hW
 have := check1_any l k g hk v W (Ext.cell_some hW h1) (h.ext hW) (hs _ (List.getElem_mem hk))
 simpa using this
theorem pnames_any (v : Value) (l : List ByteArray) (g : Nat) (w : World) (h1 : w.cell? ⟨g, 0, none⟩ = some v) (h : Strs w v l) (hs : ∀ s ∈ l, s.size ≤ maxLen) :
  Calls Tryz.prog 47 #[v, .func (.func 48) #[] #[.pointer (some ⟨g, 0, none⟩)]] w (RetII w (namesErr l).1 (namesErr l).2) :=
 pfindS_any 48 _ (nameErr l) v l w h enters_check1 (chk_names h1 h hs)
theorem enters_pstreet : ∀ (args : Array Value) (W : World), (callFunc 52 args).run Tryz.prog W = .ok (.enter 52 args) W := enters_of Tryz.func52 (by kernel_rfl) rfl
theorem pstreets_any (v tv : Value) (t : Town) (w : World) (h : Streets w v t.streets) (ht : TownV w tv t) (hsm : t.Small) :
  Calls Tryz.prog 51 #[v, .func (.func 52) #[tv] #[]] w (RetII w t.streetsErr.1 t.streetsErr.2) := by
 refine pfindT_any 52 _ (fun i => t.streetErr (t.streets.getD i ⟨0, 0, 0, 0, 0, false, []⟩)) v t.streets w h enters_pstreet ?_
 intro k hk sv W hW hS
 dsimp only
 have := pstreet_any tv sv k t t.streets[k] W (ht.ext hW) hsm hS
 rw [show t.streets.getD k ⟨0, 0, 0, 0, 0, false, []⟩ = t.streets[k] by simp [List.getD, hk]]
 simpa using this
theorem ti90 : (Tryz.prog.info? 90).map (fun i => (i.zero, i.size, i.bytes)) = some (some (.agg #[.slice none 0 0, .slice none 0 0, .slice none 0 0, .slice none 0 0]), 4, 96) := by kernel_rfl
theorem sizeStrs : (Tryz.prog.info? 22).map TypeInfo.size = some 1 := by kernel_rfl
set_option maxHeartbeats 4000000 in
theorem PCheck_any (tv : Value) (t : Town) (w : World) (h : TownV w tv t) :
  Calls Tryz.prog 17 #[tv] w (RetIII w t.check.1 t.check.2.1 t.check.2.2) := by
 have hT0 := h
 obtain ⟨pv, shv, tmv, xv, rfl, hT⟩ := h
 have hTP := hT.places; have hTS := hT.shows; have hTT := hT.times; have hTX := hT.streets; have hwf := hT.wf
 obtain ⟨A1, cp1, rfl, _, hc1, _, _⟩ := hT.places
 obtain ⟨A2, cp2, rfl, _, hc2, _, _⟩ := hT.shows
 obtain ⟨A3, cp3, rfl, _, hc3, _, _⟩ := hT.times
 obtain ⟨A4, cp4, rfl, _, h2, _⟩ := hT.streets
 unfold maxLen at h2 hc1 hc2 hc3
 have hE := Ext.refl w
 by_cases hsm : t.Small
 ·have hp2 := hsm.p2; have hsh := hsm.sh; have ht2 := hsm.t2; have hst := hsm.st
  have m1 : outB 1 16 [(t.places.length : Int)] = false := by rw [outB_1, inB_t.2 (by have := hsm.p1; omega)]; rfl
  have c2 : ¬ (6 < (t.shows.length : Int)) := by omega
  have m3 : outB 1 4 [(t.times.length : Int)] = false := by rw [outB_1, inB_t.2 (by have := hsm.t1; omega)]; rfl
  have c4 : ¬ (40 < (t.streets.length : Int)) := by omega
  have w0 : ∀ s ∈ t.places, s.size ≤ maxLen := fun s hs => hwf s (by simp [hs])
  have w1 : ∀ s ∈ t.shows, s.size ≤ maxLen := fun s hs => hwf s (by simp [hs])
  have w2 : ∀ s ∈ t.times, s.size ≤ maxLen := fun s hs => hwf s (by simp [hs])
  clear hwf hT
  go_enter Tryz.func17, Tryz.ntmps17
  go_wp2_with (first | (((with_reducible refine q_load (d := some 8) (hl := ld_townB hB1) ?_ ?_); rfl)) | ((with_reducible refine q_newvar (e := 90) (u := 5) (v := .agg #[.slice A1 t.places.length cp1, .slice A2 t.shows.length cp2, .slice A3 t.times.length cp3, .slice A4 t.streets.length cp4]) ti90 ?_ ?_ ?_ ?_ ?_ ?_); (intro g; rfl); (intro g; rfl); rfl; rfl; (simp [Value.cells, Value.oneCell']); intro W5 g5 hE5 hB5 hg5; simp [Value.cells] at hB5; (try replace hE := hE.trans hE5); (try replace hT0 := hT0.ext hE5); (try replace hTP := hTP.ext hE5); (try replace hTS := hTS.ext hE5); (try replace hTT := hTT.ext hE5); (try replace hTX := hTX.ext hE5); have hb5_0 := hB5.cell 0; have hb5_1 := hB5.cell 1; have hb5_2 := hB5.cell 2; have hb5_3 := hB5.cell 3; simp at hb5_0 hb5_1 hb5_2 hb5_3; clear hE5) | ((with_reducible refine q_bl1 (d := some 14) (n0 := (t.places.length : Int)) ?_ ?_); rfl; intro W14 g14 hE14 hB14 hg14; (try replace hE := hE.trans hE14); (try replace hT0 := hT0.ext hE14); (try replace hTP := hTP.ext hE14); (try replace hTS := hTS.ext hE14); (try replace hTT := hTT.ext hE14); (try replace hTX := hTX.ext hE14); (try replace hB5 := hB5.ext hE14); (try replace hb5_0 := Ext.cell_some hE14 hb5_0); (try replace hb5_1 := Ext.cell_some hE14 hb5_1); (try replace hb5_2 := Ext.cell_some hE14 hb5_2); (try replace hb5_3 := Ext.cell_some hE14 hb5_3); have hI14 : Ints W14 (.slice (some ⟨g14, 0, none⟩) 1 1) [(t.places.length : Int)] := ints_blk1 hB14; clear hB14 hg14 hE14) | (go_at_call 46; ((with_reducible refine ((pout_v (by exact hI14) m1)).mono ?_); rintro e WcO ⟨rfl, hEcO⟩; (try replace hE := hE.trans hEcO); (try replace hT0 := hT0.ext hEcO); (try replace hTP := hTP.ext hEcO); (try replace hTS := hTS.ext hEcO); (try replace hTT := hTT.ext hEcO); (try replace hTX := hTX.ext hEcO); (try replace hB5 := hB5.ext hEcO); (try replace hb5_0 := Ext.cell_some hEcO hb5_0); (try replace hb5_1 := Ext.cell_some hEcO hb5_1); (try replace hb5_2 := Ext.cell_some hEcO hb5_2); (try replace hb5_3 := Ext.cell_some hEcO hb5_3))) | ((with_reducible refine q_bsliceG (d := some 28) (t := 41) (n := 1) (gd := some (13, false)) (e := 3) (cs := #[.int .i64 ((t.times.length : Int))]) ?_ ?_ ?_); (first | rfl | (simp [Region.wanted, yielded]; done) | (simp [Region.wanted, yielded]; omega) | trace_state); (simp [Act.eval]; exact bsI1 ((t.times.length : Int))); intro W28 g28 hE28 hB28 hg28; (try replace hE := hE.trans hE28); (try replace hT0 := hT0.ext hE28); (try replace hTP := hTP.ext hE28); (try replace hTS := hTS.ext hE28); (try replace hTT := hTT.ext hE28); (try replace hTX := hTX.ext hE28); (try replace hB5 := hB5.ext hE28); (try replace hb5_0 := Ext.cell_some hE28 hb5_0); (try replace hb5_1 := Ext.cell_some hE28 hb5_1); (try replace hb5_2 := Ext.cell_some hE28 hb5_2); (try replace hb5_3 := Ext.cell_some hE28 hb5_3); have hI28 : Ints W28 (.slice (some ⟨g28, 0, none⟩) 1 1) [(t.times.length : Int)] := ints_blk1 hB28; clear hB28 hg28 hE28) | (go_at_call 46; ((with_reducible refine ((pout_v (by exact hI28) m3)).mono ?_); rintro e WcR ⟨rfl, hEcR⟩; (try replace hE := hE.trans hEcR); (try replace hT0 := hT0.ext hEcR); (try replace hTP := hTP.ext hEcR); (try replace hTS := hTS.ext hEcR); (try replace hTT := hTT.ext hEcR); (try replace hTX := hTX.ext hEcR); (try replace hB5 := hB5.ext hEcR); (try replace hb5_0 := Ext.cell_some hEcR hb5_0); (try replace hb5_1 := Ext.cell_some hEcR hb5_1); (try replace hb5_2 := Ext.cell_some hEcR hb5_2); (try replace hb5_3 := Ext.cell_some hEcR hb5_3))) | (((with_reducible refine q_bsSs (d := some 47) (p := .slice A1 t.places.length cp1) (q := .slice A2 t.shows.length cp2) (r := .slice A3 t.times.length cp3) ?_ ?_ ?_ ?_ ?_ ?_ ?_); rfl; rfl; rfl; rfl; rfl; rfl; intro W47 g47 hE47 hB47 hg47; replace hE := hE.trans hE47; replace hB5 := hB5.ext hE47; replace hT0 := hT0.ext hE47; replace hTP := hTP.ext hE47; replace hTS := hTS.ext hE47; replace hTT := hTT.ext hE47; replace hTX := hTX.ext hE47)) | ((with_reducible refine q_box (d := some 1) ?_); intro W1 g1 hE1 hB1 hg1; simp [Act.eval, Act.put, Value.cells] at hB1; (try replace hE := hE.trans hE1); (try replace hT0 := hT0.ext hE1); (try replace hTP := hTP.ext hE1); (try replace hTS := hTS.ext hE1); (try replace hTT := hTT.ext hE1); (try replace hTX := hTX.ext hE1); clear hE1))
  have hEb := hE
  clear hE
  go_loopw [49] (fun n wr => Ext W47 wr ∧ ∃ k : Nat, k ≤ 3 ∧ n = .int .i64 k ∧ ∀ j, j < k → (namesErr (t.lists j)).2 = 0) (fun n _ => 3 - (intOf n).toNat)
  case atStart => exact ⟨Ext.refl _, 0, by omega, rfl, by omega⟩
  case round =>
   obtain ⟨hEr, k, hk, rfl, hn⟩ := hrel
   have Hn := Lib.hid hn
   have hBr := hB47.ext hEr
   have hB5r := hB5.ext hEr
   have b53 := hB5r.cell 3
   simp at b53
   clear hn
   by_cases hk3 : k = 3
   ·subst hk3
    have Hc := Lib.hid (Town.check_s hsm Hn.out)
    have hE := hEb.trans hEr
    have hTXr := hTX.ext hEr
    have hT0r := hT0.ext hEr
    cases hq : decide (t.streetsErr.2 = 0) with
    | true =>
     have hq0 : t.streetsErr.2 = 0 := of_decide_eq_true hq
     have Hr := Lib.hid (show t.check = (0, 0, 0) by rw [Hc.out, if_neg (by simp [hq0])])
     clear hq
     go_wp2_with (first | (((with_reducible refine q_load (d := some 71) (hl := ld_ptownB hB5r) ?_ ?_); rfl)) | (go_at_call 51; ((with_reducible refine (pstreets_any _ _ t _ hTXr hT0r hsm).mono ?_); rintro e WcT ⟨rfl, hEcT⟩; (try replace hE := hE.trans hEcT); rw [hq0])))
     go_ret3
     exact RetIII.of Hr.out hE
    | false =>
     have hq0 : ¬ t.streetsErr.2 = 0 := of_decide_eq_false hq
     have Hr := Lib.hid (show t.check = (5, t.streetsErr.1, t.streetsErr.2) by rw [Hc.out, if_pos hq0])
     have q0 : (t.streetsErr.2 != 0) = true := by simp [hq0]
     clear hq hq0
     go_wp2_with (first | (((with_reducible refine q_load (d := some 71) (hl := ld_ptownB hB5r) ?_ ?_); rfl)) | (go_at_call 51; ((with_reducible refine (pstreets_any _ _ t _ hTXr hT0r hsm).mono ?_); rintro e WcT ⟨rfl, hEcT⟩; (try replace hE := hE.trans hEcT))))
     go_ret3
     exact RetIII.of Hr.out hE
   ·have b0 := hBr.cell 0; have b1 := hBr.cell 1; have b2 := hBr.cell 2
    simp at b0 b1 b2
    obtain rfl | rfl | rfl : k = 0 ∨ k = 1 ∨ k = 2 := by omega
    ·
     have hT1 := hTP.ext hEr
     have hE := Ext.refl wr
     cases hq : decide ((namesErr t.places).2 = 0) with
     | true =>
      have hq0 : (namesErr t.places).2 = 0 := of_decide_eq_true hq
      clear hq
      go_wp2_with (first | ((with_reducible refine q_alloc (d := some 7) ti22 ?_); intro W7 g7 hE7 hB7 hg7; have hg70 := Nat.le_trans hE.size hg7; simp [Value.cells] at hB7; (try replace hE := hE.trans hE7)) | (((with_reducible refine q_store (t := 22) (e := 22) (g := g7) (off := 0) (n := 1) (v := .slice A1 t.places.length cp1) ?_ ?_ hB7 sizeStrs ?_ ?_ ?_ ?_); rfl; rfl; rfl; (simp [Value.cells]); (simp [Value.cells, Value.oneCell']); intro Ws hBs hgrs; simp [putAt, Value.cells] at hBs; replace hE := below_grown2 hE hgrs hg70; have c7 := hBs.cell 0; simp at c7)) | (go_at_call 47; ((with_reducible refine (pnames_any _ t.places g7 _ c7 (by exact hT1.ext hE) w0).mono ?_); rintro e WcF ⟨rfl, hEcF⟩; (try replace hE := hE.trans hEcF); rw [hq0])))
      go_roundw
      case rel => exact ⟨hEr.trans hE, 0 + 1, by omega, by go_num, all_lt_succ (p := fun j => (namesErr (t.lists j)).2 = 0) Hn.out hq0⟩
      case measure => simp [intOf]
     | false =>
      have hq0 : ¬ (namesErr t.places).2 = 0 := of_decide_eq_false hq
      have Hr := Lib.hid (Town.check_n hsm (k := 0) (by omega) (i := (namesErr t.places).1) (e := (namesErr t.places).2) rfl hq0 Hn.out)
      have q0 : ((namesErr t.places).2 != 0) = true := by simp [hq0]
      clear hq hq0
      go_wp2_with (first | ((with_reducible refine q_alloc (d := some 7) ti22 ?_); intro W7 g7 hE7 hB7 hg7; have hg70 := Nat.le_trans hE.size hg7; simp [Value.cells] at hB7; (try replace hE := hE.trans hE7)) | (((with_reducible refine q_store (t := 22) (e := 22) (g := g7) (off := 0) (n := 1) (v := .slice A1 t.places.length cp1) ?_ ?_ hB7 sizeStrs ?_ ?_ ?_ ?_); rfl; rfl; rfl; (simp [Value.cells]); (simp [Value.cells, Value.oneCell']); intro Ws hBs hgrs; simp [putAt, Value.cells] at hBs; replace hE := below_grown2 hE hgrs hg70; have c7 := hBs.cell 0; simp at c7)) | (go_at_call 47; ((with_reducible refine (pnames_any _ t.places g7 _ c7 (by exact hT1.ext hE) w0).mono ?_); rintro e WcF ⟨rfl, hEcF⟩; (try replace hE := hE.trans hEcF))))
      go_ret3
      exact RetIII.of Hr.out ((hEb.trans hEr).trans hE)
    ·
     have hT1 := hTS.ext hEr
     have hE := Ext.refl wr
     cases hq : decide ((namesErr t.shows).2 = 0) with
     | true =>
      have hq0 : (namesErr t.shows).2 = 0 := of_decide_eq_true hq
      clear hq
      go_wp2_with (first | ((with_reducible refine q_alloc (d := some 7) ti22 ?_); intro W7 g7 hE7 hB7 hg7; have hg70 := Nat.le_trans hE.size hg7; simp [Value.cells] at hB7; (try replace hE := hE.trans hE7)) | (((with_reducible refine q_store (t := 22) (e := 22) (g := g7) (off := 0) (n := 1) (v := .slice A2 t.shows.length cp2) ?_ ?_ hB7 sizeStrs ?_ ?_ ?_ ?_); rfl; rfl; rfl; (simp [Value.cells]); (simp [Value.cells, Value.oneCell']); intro Ws hBs hgrs; simp [putAt, Value.cells] at hBs; replace hE := below_grown2 hE hgrs hg70; have c7 := hBs.cell 0; simp at c7)) | (go_at_call 47; ((with_reducible refine (pnames_any _ t.shows g7 _ c7 (by exact hT1.ext hE) w1).mono ?_); rintro e WcF ⟨rfl, hEcF⟩; (try replace hE := hE.trans hEcF); rw [hq0])))
      go_roundw
      case rel => exact ⟨hEr.trans hE, 1 + 1, by omega, by go_num, all_lt_succ (p := fun j => (namesErr (t.lists j)).2 = 0) Hn.out hq0⟩
      case measure => simp [intOf]
     | false =>
      have hq0 : ¬ (namesErr t.shows).2 = 0 := of_decide_eq_false hq
      have Hr := Lib.hid (Town.check_n hsm (k := 1) (by omega) (i := (namesErr t.shows).1) (e := (namesErr t.shows).2) rfl hq0 Hn.out)
      have q0 : ((namesErr t.shows).2 != 0) = true := by simp [hq0]
      clear hq hq0
      go_wp2_with (first | ((with_reducible refine q_alloc (d := some 7) ti22 ?_); intro W7 g7 hE7 hB7 hg7; have hg70 := Nat.le_trans hE.size hg7; simp [Value.cells] at hB7; (try replace hE := hE.trans hE7)) | (((with_reducible refine q_store (t := 22) (e := 22) (g := g7) (off := 0) (n := 1) (v := .slice A2 t.shows.length cp2) ?_ ?_ hB7 sizeStrs ?_ ?_ ?_ ?_); rfl; rfl; rfl; (simp [Value.cells]); (simp [Value.cells, Value.oneCell']); intro Ws hBs hgrs; simp [putAt, Value.cells] at hBs; replace hE := below_grown2 hE hgrs hg70; have c7 := hBs.cell 0; simp at c7)) | (go_at_call 47; ((with_reducible refine (pnames_any _ t.shows g7 _ c7 (by exact hT1.ext hE) w1).mono ?_); rintro e WcF ⟨rfl, hEcF⟩; (try replace hE := hE.trans hEcF))))
      go_ret3
      exact RetIII.of Hr.out ((hEb.trans hEr).trans hE)
    ·
     have hT1 := hTT.ext hEr
     have hE := Ext.refl wr
     cases hq : decide ((namesErr t.times).2 = 0) with
     | true =>
      have hq0 : (namesErr t.times).2 = 0 := of_decide_eq_true hq
      clear hq
      go_wp2_with (first | ((with_reducible refine q_alloc (d := some 7) ti22 ?_); intro W7 g7 hE7 hB7 hg7; have hg70 := Nat.le_trans hE.size hg7; simp [Value.cells] at hB7; (try replace hE := hE.trans hE7)) | (((with_reducible refine q_store (t := 22) (e := 22) (g := g7) (off := 0) (n := 1) (v := .slice A3 t.times.length cp3) ?_ ?_ hB7 sizeStrs ?_ ?_ ?_ ?_); rfl; rfl; rfl; (simp [Value.cells]); (simp [Value.cells, Value.oneCell']); intro Ws hBs hgrs; simp [putAt, Value.cells] at hBs; replace hE := below_grown2 hE hgrs hg70; have c7 := hBs.cell 0; simp at c7)) | (go_at_call 47; ((with_reducible refine (pnames_any _ t.times g7 _ c7 (by exact hT1.ext hE) w2).mono ?_); rintro e WcF ⟨rfl, hEcF⟩; (try replace hE := hE.trans hEcF); rw [hq0])))
      go_roundw
      case rel => exact ⟨hEr.trans hE, 2 + 1, by omega, by go_num, all_lt_succ (p := fun j => (namesErr (t.lists j)).2 = 0) Hn.out hq0⟩
      case measure => simp [intOf]
     | false =>
      have hq0 : ¬ (namesErr t.times).2 = 0 := of_decide_eq_false hq
      have Hr := Lib.hid (Town.check_n hsm (k := 2) (by omega) (i := (namesErr t.times).1) (e := (namesErr t.times).2) rfl hq0 Hn.out)
      have q0 : ((namesErr t.times).2 != 0) = true := by simp [hq0]
      clear hq hq0
      go_wp2_with (first | ((with_reducible refine q_alloc (d := some 7) ti22 ?_); intro W7 g7 hE7 hB7 hg7; have hg70 := Nat.le_trans hE.size hg7; simp [Value.cells] at hB7; (try replace hE := hE.trans hE7)) | (((with_reducible refine q_store (t := 22) (e := 22) (g := g7) (off := 0) (n := 1) (v := .slice A3 t.times.length cp3) ?_ ?_ hB7 sizeStrs ?_ ?_ ?_ ?_); rfl; rfl; rfl; (simp [Value.cells]); (simp [Value.cells, Value.oneCell']); intro Ws hBs hgrs; simp [putAt, Value.cells] at hBs; replace hE := below_grown2 hE hgrs hg70; have c7 := hBs.cell 0; simp at c7)) | (go_at_call 47; ((with_reducible refine (pnames_any _ t.times g7 _ c7 (by exact hT1.ext hE) w2).mono ?_); rintro e WcF ⟨rfl, hEcF⟩; (try replace hE := hE.trans hEcF))))
      go_ret3
      exact RetIII.of Hr.out ((hEb.trans hEr).trans hE)
 ·have hbad : inB t.places.length 1 16 = false ∨ 6 < t.shows.length ∨ inB t.times.length 1 4 = false ∨ 40 < t.streets.length := Classical.byContradiction fun h => hsm (Town.small_of h)
  have Hr := Lib.hid (Town.check_1 hbad)
  clear hsm hwf hT
  cases c1 : inB (t.places.length : Int) 1 16 with
  | false =>
   have m1 : outB 1 16 [(t.places.length : Int)] = true := by rw [outB_1, c1]; rfl
   go_enter Tryz.func17, Tryz.ntmps17
   go_wp2_with (first | (((with_reducible refine q_load (d := some 8) (hl := ld_townB hB1) ?_ ?_); rfl)) | ((with_reducible refine q_newvar (e := 90) (u := 5) (v := .agg #[.slice A1 t.places.length cp1, .slice A2 t.shows.length cp2, .slice A3 t.times.length cp3, .slice A4 t.streets.length cp4]) ti90 ?_ ?_ ?_ ?_ ?_ ?_); (intro g; rfl); (intro g; rfl); rfl; rfl; (simp [Value.cells, Value.oneCell']); intro W5 g5 hE5 hB5 hg5; simp [Value.cells] at hB5; (try replace hE := hE.trans hE5); have hb5_0 := hB5.cell 0; have hb5_1 := hB5.cell 1; have hb5_2 := hB5.cell 2; have hb5_3 := hB5.cell 3; simp at hb5_0 hb5_1 hb5_2 hb5_3; clear hE5) | ((with_reducible refine q_bl1 (d := some 14) (n0 := (t.places.length : Int)) ?_ ?_); rfl; intro W14 g14 hE14 hB14 hg14; (try replace hE := hE.trans hE14); (try replace hB5 := hB5.ext hE14); (try replace hb5_0 := Ext.cell_some hE14 hb5_0); (try replace hb5_1 := Ext.cell_some hE14 hb5_1); (try replace hb5_2 := Ext.cell_some hE14 hb5_2); (try replace hb5_3 := Ext.cell_some hE14 hb5_3); have hI14 : Ints W14 (.slice (some ⟨g14, 0, none⟩) 1 1) [(t.places.length : Int)] := ints_blk1 hB14; clear hB14 hg14 hE14) | (go_at_call 46; ((with_reducible refine ((pout_v (by exact hI14) m1)).mono ?_); rintro e WcO ⟨rfl, hEcO⟩; (try replace hE := hE.trans hEcO); (try replace hB5 := hB5.ext hEcO); (try replace hb5_0 := Ext.cell_some hEcO hb5_0); (try replace hb5_1 := Ext.cell_some hEcO hb5_1); (try replace hb5_2 := Ext.cell_some hEcO hb5_2); (try replace hb5_3 := Ext.cell_some hEcO hb5_3))) | ((with_reducible refine q_box (d := some 1) ?_); intro W1 g1 hE1 hB1 hg1; simp [Act.eval, Act.put, Value.cells] at hB1; (try replace hE := hE.trans hE1); clear hE1))
   go_ret3
   exact RetIII.of Hr.out hE
  | true =>
   have m1 : outB 1 16 [(t.places.length : Int)] = false := by rw [outB_1, c1]; rfl
   by_cases c2 : 6 < (t.shows.length : Int)
   ·go_enter Tryz.func17, Tryz.ntmps17
    go_wp2_with (first | (((with_reducible refine q_load (d := some 8) (hl := ld_townB hB1) ?_ ?_); rfl)) | ((with_reducible refine q_newvar (e := 90) (u := 5) (v := .agg #[.slice A1 t.places.length cp1, .slice A2 t.shows.length cp2, .slice A3 t.times.length cp3, .slice A4 t.streets.length cp4]) ti90 ?_ ?_ ?_ ?_ ?_ ?_); (intro g; rfl); (intro g; rfl); rfl; rfl; (simp [Value.cells, Value.oneCell']); intro W5 g5 hE5 hB5 hg5; simp [Value.cells] at hB5; (try replace hE := hE.trans hE5); have hb5_0 := hB5.cell 0; have hb5_1 := hB5.cell 1; have hb5_2 := hB5.cell 2; have hb5_3 := hB5.cell 3; simp at hb5_0 hb5_1 hb5_2 hb5_3; clear hE5) | ((with_reducible refine q_bl1 (d := some 14) (n0 := (t.places.length : Int)) ?_ ?_); rfl; intro W14 g14 hE14 hB14 hg14; (try replace hE := hE.trans hE14); (try replace hB5 := hB5.ext hE14); (try replace hb5_0 := Ext.cell_some hE14 hb5_0); (try replace hb5_1 := Ext.cell_some hE14 hb5_1); (try replace hb5_2 := Ext.cell_some hE14 hb5_2); (try replace hb5_3 := Ext.cell_some hE14 hb5_3); have hI14 : Ints W14 (.slice (some ⟨g14, 0, none⟩) 1 1) [(t.places.length : Int)] := ints_blk1 hB14; clear hB14 hg14 hE14) | (go_at_call 46; ((with_reducible refine ((pout_v (by exact hI14) m1)).mono ?_); rintro e WcO ⟨rfl, hEcO⟩; (try replace hE := hE.trans hEcO); (try replace hB5 := hB5.ext hEcO); (try replace hb5_0 := Ext.cell_some hEcO hb5_0); (try replace hb5_1 := Ext.cell_some hEcO hb5_1); (try replace hb5_2 := Ext.cell_some hEcO hb5_2); (try replace hb5_3 := Ext.cell_some hEcO hb5_3))) | ((with_reducible refine q_box (d := some 1) ?_); intro W1 g1 hE1 hB1 hg1; simp [Act.eval, Act.put, Value.cells] at hB1; (try replace hE := hE.trans hE1); clear hE1))
    go_ret3
    exact RetIII.of Hr.out hE
   ·cases c3 : inB (t.times.length : Int) 1 4 with
    | false =>
     have m3 : outB 1 4 [(t.times.length : Int)] = true := by rw [outB_1, c3]; rfl
     go_enter Tryz.func17, Tryz.ntmps17
     go_wp2_with (first | (((with_reducible refine q_load (d := some 8) (hl := ld_townB hB1) ?_ ?_); rfl)) | ((with_reducible refine q_newvar (e := 90) (u := 5) (v := .agg #[.slice A1 t.places.length cp1, .slice A2 t.shows.length cp2, .slice A3 t.times.length cp3, .slice A4 t.streets.length cp4]) ti90 ?_ ?_ ?_ ?_ ?_ ?_); (intro g; rfl); (intro g; rfl); rfl; rfl; (simp [Value.cells, Value.oneCell']); intro W5 g5 hE5 hB5 hg5; simp [Value.cells] at hB5; (try replace hE := hE.trans hE5); have hb5_0 := hB5.cell 0; have hb5_1 := hB5.cell 1; have hb5_2 := hB5.cell 2; have hb5_3 := hB5.cell 3; simp at hb5_0 hb5_1 hb5_2 hb5_3; clear hE5) | ((with_reducible refine q_bl1 (d := some 14) (n0 := (t.places.length : Int)) ?_ ?_); rfl; intro W14 g14 hE14 hB14 hg14; (try replace hE := hE.trans hE14); (try replace hB5 := hB5.ext hE14); (try replace hb5_0 := Ext.cell_some hE14 hb5_0); (try replace hb5_1 := Ext.cell_some hE14 hb5_1); (try replace hb5_2 := Ext.cell_some hE14 hb5_2); (try replace hb5_3 := Ext.cell_some hE14 hb5_3); have hI14 : Ints W14 (.slice (some ⟨g14, 0, none⟩) 1 1) [(t.places.length : Int)] := ints_blk1 hB14; clear hB14 hg14 hE14) | (go_at_call 46; ((with_reducible refine ((pout_v (by exact hI14) m1)).mono ?_); rintro e WcO ⟨rfl, hEcO⟩; (try replace hE := hE.trans hEcO); (try replace hB5 := hB5.ext hEcO); (try replace hb5_0 := Ext.cell_some hEcO hb5_0); (try replace hb5_1 := Ext.cell_some hEcO hb5_1); (try replace hb5_2 := Ext.cell_some hEcO hb5_2); (try replace hb5_3 := Ext.cell_some hEcO hb5_3))) | ((with_reducible refine q_bsliceG (d := some 28) (t := 41) (n := 1) (gd := some (13, false)) (e := 3) (cs := #[.int .i64 ((t.times.length : Int))]) ?_ ?_ ?_); (first | rfl | (simp [Region.wanted, yielded]; done) | (simp [Region.wanted, yielded]; omega) | trace_state); (simp [Act.eval]; exact bsI1 ((t.times.length : Int))); intro W28 g28 hE28 hB28 hg28; (try replace hE := hE.trans hE28); (try replace hB5 := hB5.ext hE28); (try replace hb5_0 := Ext.cell_some hE28 hb5_0); (try replace hb5_1 := Ext.cell_some hE28 hb5_1); (try replace hb5_2 := Ext.cell_some hE28 hb5_2); (try replace hb5_3 := Ext.cell_some hE28 hb5_3); have hI28 : Ints W28 (.slice (some ⟨g28, 0, none⟩) 1 1) [(t.times.length : Int)] := ints_blk1 hB28; clear hB28 hg28 hE28) | (go_at_call 46; ((with_reducible refine ((pout_v (by exact hI28) m3)).mono ?_); rintro e WcR ⟨rfl, hEcR⟩; (try replace hE := hE.trans hEcR); (try replace hB5 := hB5.ext hEcR); (try replace hb5_0 := Ext.cell_some hEcR hb5_0); (try replace hb5_1 := Ext.cell_some hEcR hb5_1); (try replace hb5_2 := Ext.cell_some hEcR hb5_2); (try replace hb5_3 := Ext.cell_some hEcR hb5_3))) | ((with_reducible refine q_box (d := some 1) ?_); intro W1 g1 hE1 hB1 hg1; simp [Act.eval, Act.put, Value.cells] at hB1; (try replace hE := hE.trans hE1); clear hE1))
     go_ret3
     exact RetIII.of Hr.out hE
    | true =>
     have m3 : outB 1 4 [(t.times.length : Int)] = false := by rw [outB_1, c3]; rfl
     have c4 : 40 < (t.streets.length : Int) := by simp [c1, c3] at hbad; omega
     clear hbad
     go_enter Tryz.func17, Tryz.ntmps17
     go_wp2_with (first | (((with_reducible refine q_load (d := some 8) (hl := ld_townB hB1) ?_ ?_); rfl)) | ((with_reducible refine q_newvar (e := 90) (u := 5) (v := .agg #[.slice A1 t.places.length cp1, .slice A2 t.shows.length cp2, .slice A3 t.times.length cp3, .slice A4 t.streets.length cp4]) ti90 ?_ ?_ ?_ ?_ ?_ ?_); (intro g; rfl); (intro g; rfl); rfl; rfl; (simp [Value.cells, Value.oneCell']); intro W5 g5 hE5 hB5 hg5; simp [Value.cells] at hB5; (try replace hE := hE.trans hE5); have hb5_0 := hB5.cell 0; have hb5_1 := hB5.cell 1; have hb5_2 := hB5.cell 2; have hb5_3 := hB5.cell 3; simp at hb5_0 hb5_1 hb5_2 hb5_3; clear hE5) | ((with_reducible refine q_bl1 (d := some 14) (n0 := (t.places.length : Int)) ?_ ?_); rfl; intro W14 g14 hE14 hB14 hg14; (try replace hE := hE.trans hE14); (try replace hB5 := hB5.ext hE14); (try replace hb5_0 := Ext.cell_some hE14 hb5_0); (try replace hb5_1 := Ext.cell_some hE14 hb5_1); (try replace hb5_2 := Ext.cell_some hE14 hb5_2); (try replace hb5_3 := Ext.cell_some hE14 hb5_3); have hI14 : Ints W14 (.slice (some ⟨g14, 0, none⟩) 1 1) [(t.places.length : Int)] := ints_blk1 hB14; clear hB14 hg14 hE14) | (go_at_call 46; ((with_reducible refine ((pout_v (by exact hI14) m1)).mono ?_); rintro e WcO ⟨rfl, hEcO⟩; (try replace hE := hE.trans hEcO); (try replace hB5 := hB5.ext hEcO); (try replace hb5_0 := Ext.cell_some hEcO hb5_0); (try replace hb5_1 := Ext.cell_some hEcO hb5_1); (try replace hb5_2 := Ext.cell_some hEcO hb5_2); (try replace hb5_3 := Ext.cell_some hEcO hb5_3))) | ((with_reducible refine q_bsliceG (d := some 28) (t := 41) (n := 1) (gd := some (13, false)) (e := 3) (cs := #[.int .i64 ((t.times.length : Int))]) ?_ ?_ ?_); (first | rfl | (simp [Region.wanted, yielded]; done) | (simp [Region.wanted, yielded]; omega) | trace_state); (simp [Act.eval]; exact bsI1 ((t.times.length : Int))); intro W28 g28 hE28 hB28 hg28; (try replace hE := hE.trans hE28); (try replace hB5 := hB5.ext hE28); (try replace hb5_0 := Ext.cell_some hE28 hb5_0); (try replace hb5_1 := Ext.cell_some hE28 hb5_1); (try replace hb5_2 := Ext.cell_some hE28 hb5_2); (try replace hb5_3 := Ext.cell_some hE28 hb5_3); have hI28 : Ints W28 (.slice (some ⟨g28, 0, none⟩) 1 1) [(t.times.length : Int)] := ints_blk1 hB28; clear hB28 hg28 hE28) | (go_at_call 46; ((with_reducible refine ((pout_v (by exact hI28) m3)).mono ?_); rintro e WcR ⟨rfl, hEcR⟩; (try replace hE := hE.trans hEcR); (try replace hB5 := hB5.ext hEcR); (try replace hb5_0 := Ext.cell_some hEcR hb5_0); (try replace hb5_1 := Ext.cell_some hEcR hb5_1); (try replace hb5_2 := Ext.cell_some hEcR hb5_2); (try replace hb5_3 := Ext.cell_some hEcR hb5_3))) | ((with_reducible refine q_box (d := some 1) ?_); intro W1 g1 hE1 hB1 hg1; simp [Act.eval, Act.put, Value.cells] at hB1; (try replace hE := hE.trans hE1); clear hE1))
     go_ret3
     exact RetIII.of Hr.out hE
end Go.St
end
