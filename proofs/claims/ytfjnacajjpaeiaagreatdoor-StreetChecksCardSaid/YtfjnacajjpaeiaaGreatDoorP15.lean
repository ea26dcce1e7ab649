/- Chapter 03: contracts of functions of the program and of the reference, and plain laws (out of SJ6 SV1). No condition of its own. -/
import Derived.BigQuiet
import Derived.Deep.AppendLies
import Derived.Deep.Draws
import Derived.Deep.LoopGhost
import Derived.Deep.QuietTactic
import Derived.Deep.RegionHeld3
import Derived.Laws.RangeAny
import Derived.Laws.StructEq
import Derived.Lib.AtoiAll
import Derived.Lib.Hide
import Derived.Lib.ItoaMem
import Derived.Lib.SliceRun
import Derived.Lib.Split
import Derived.Lib.Tables
import Derived.MapKept
import Derived.Maps.AppendAt
import Derived.OrdersHeld
import Derived.OrdersIn
import Derived.RangeFuncBound
import Derived.RangeFuncLeaves
import Derived.RangeFuncNested
import Derived.Shelf.Abstract
import Derived.TacticsIn
import Derived.Test.YtfjnacajjpaeiaaGreatDoorProg
import Derived.WalkKit
import Derived.WalkLawsBesides
import Derived.WalkSpells
import Derived.Test.YtfjnacajjpaeiaaGreatDoorP01
import Derived.Test.YtfjnacajjpaeiaaGreatDoorP02
import Derived.Test.YtfjnacajjpaeiaaGreatDoorP03
import Derived.Test.YtfjnacajjpaeiaaGreatDoorP04
import Derived.Test.YtfjnacajjpaeiaaGreatDoorP05
import Derived.Test.YtfjnacajjpaeiaaGreatDoorP06
import Derived.Test.YtfjnacajjpaeiaaGreatDoorP07
import Derived.Test.YtfjnacajjpaeiaaGreatDoorP09
import Derived.Test.YtfjnacajjpaeiaaGreatDoorP10
import Derived.Test.YtfjnacajjpaeiaaGreatDoorP13
import Derived.Test.YtfjnacajjpaeiaaGreatDoorP14
set_option maxRecDepth 100000
set_option linter.all false
section
namespace Go.St
open Go Go.Bp Go.RowKit Go.Proofs
theorem ti32 : (Tryz.prog.info? 32).map (fun i => (i.zero, i.size, i.bytes)) = some (some (.slice none 0 0), 1, 24) := by kernel_rfl
theorem sizeSteps : (Tryz.prog.info? 32).map TypeInfo.size = some 1 := by kernel_rfl
theorem Town.taskErr_outs {t : Town} {k : Task} (hc : t.check.2.2 = 0) : t.taskErr k = if outB 0 (t.places.length - 1) [k.a, k.b] = true ∨ outB 0 (t.times.length - 1) [k.time] = true then 4 else if outB 0 (t.sets - 1) [k.show_] = true then 7 else if 40 < k.closed.length then 3 else if outB 0 (t.streets.length - 1) k.closed = true then 4 else 0 := by
 unfold Town.taskErr
 rw [if_neg (by simp [hc]), outB_2, outB_1, outB_1, outB_all]
 cases inB k.a 0 (t.places.length - 1) <;> cases inB k.b 0 (t.places.length - 1) <;> cases inB k.time 0 (t.times.length - 1) <;> cases inB k.show_ 0 (t.sets - 1) <;> cases (k.closed.all fun n => inB n 0 (t.streets.length - 1)) <;> simp
structure JobQ (W : World) (B gj gi gm : Nat) (n : Nat) (pv sv tv xv cv : Value) (vs : List Value) (T : Tab) (t : Town) (k : Task) : Prop where
 job : JobAt W gj pv sv tv xv cv (.slice (some ⟨gi, 0, none⟩) n n) (.map (some gm)) t k
 into : IntoI B (fun q => t.into k q) gi vs W
 len : vs.length = n
 map : MapM kvI W gm (costM T)
def PBegin (w : World) (t : Town) (k : Task) (e : Ending) (w' : World) : Prop :=
 Ext w w' ∧ ((t.taskErr k ≠ 0 ∧ e = .returned (.tuple #[.pointer none, .int .i64 (t.taskErr k)])) ∨
  (t.taskErr k = 0 ∧ ∃ gj gi gm pv sv tv xv cv vs, e = .returned (.tuple #[.pointer (some ⟨gj, 0, none⟩), .int .i64 0]) ∧ TownP w pv sv tv xv t ∧ Ints w cv k.closed ∧ w.heap.size ≤ gj ∧ w.heap.size ≤ gi ∧ w.heap.size ≤ gm ∧ JobQ w' w.heap.size gj gi gm t.places.length pv sv tv xv cv vs (fun _ _ => none) t k))
set_option maxHeartbeats 8000000 in
theorem pbegin_any (cv kv : Value) (t : Town) (k : Task) (w : World) (h : TownV w cv t) (hk : TaskV w kv k) : Calls Tryz.prog 62 #[cv, kv] w (PBegin w t k) := by
 have hT0 := h
 obtain ⟨pv, shv, tmv, xv, rfl, hT⟩ := h
 obtain ⟨A1, cp1, rfl, _, hc1, _, _⟩ := hT.places
 obtain ⟨A2, cp2, rfl, _, hc2, _, _⟩ := hT.shows
 obtain ⟨A3, cp3, rfl, _, hc3, _, _⟩ := hT.times
 obtain ⟨A4, cp4, rfl, _, h42, _⟩ := hT.streets
 have hTp := hT
 clear hT
 obtain ⟨clv, rfl, hC0⟩ := hk
 have hC1 := hC0
 obtain ⟨Ac, cc, rfl, _, hcc, _, _⟩ := hC1
 have hCw := hC0
 unfold maxLen at h42 hc1 hc2 hc3 hcc
 have hE := Ext.refl w
 by_cases hce : t.check.2.2 = 0
 ·have Hce := Lib.hid hce
  have hok := Town.ok_of hce
  have hp2 := hok.p2; have hsh := hok.sh; have ht2 := hok.t2; have hst := hok.st
  have Hte := Town.taskErr_outs (k := k) hce
  cases c1 : outB 0 (t.places.length - 1) [k.a, k.b] with
  | true =>
   have Hoe := Lib.hid (show t.openErr [k.a, k.b] = 4 by unfold Town.openErr; rw [if_neg (by simp [hce]), c1]; rfl)
   rw [if_pos (.inl c1)] at Hte
   have HTe := Lib.hid Hte
   clear hce Hte
   go_enter Tryz.func62, Tryz.ntmps62
   go_wp2_with (first | (((with_reducible refine q_load (d := some 13) (hl := ld_townB hB2) ?_ ?_); rfl)) | ((with_reducible refine q_bl2 (d := some 18) (n0 := k.a) (n1 := k.b) ?_ ?_ ?_); rfl; rfl; intro W18 g18 hE18 hB18 hg18; (try replace hE := hE.trans hE18); (try replace hT0 := hT0.ext hE18); (try replace hC0 := hC0.ext hE18); (try replace hB3 := hB3.ext hE18); (try replace hb3_2 := Ext.cell_some hE18 hb3_2); (try replace hb3_3 := Ext.cell_some hE18 hb3_3); (try replace hb3_4 := Ext.cell_some hE18 hb3_4); have hI18 : Ints W18 (.slice (some ⟨g18, 0, none⟩) 2 2) [k.a, k.b] := ints_blk2 hB18; clear hB18 hg18 hE18) | (go_at_call 57; ((with_reducible refine (popen_any _ _ t [k.a, k.b] _ (by exact hT0) (by exact hI18)).mono ?_); rintro e WcP ⟨rfl, hEcP⟩; (try replace hE := hE.trans hEcP); (try replace hT0 := hT0.ext hEcP); (try replace hC0 := hC0.ext hEcP); (try replace hB3 := hB3.ext hEcP); (try replace hb3_2 := Ext.cell_some hEcP hb3_2); (try replace hb3_3 := Ext.cell_some hEcP hb3_3); (try replace hb3_4 := Ext.cell_some hEcP hb3_4); rw [Hoe.out])) | ((with_reducible refine q_newvar (e := 90) (u := 6) (v := .agg #[.slice A1 t.places.length cp1, .slice A2 t.shows.length cp2, .slice A3 t.times.length cp3, .slice A4 t.streets.length cp4]) ti90 ?_ ?_ ?_ ?_ ?_ ?_); (intro g; rfl); (intro g; rfl); rfl; rfl; (simp [Value.cells, Value.oneCell']); intro W6 g6 hE6 hB6 hg6; simp [Value.cells] at hB6; (try replace hE := hE.trans hE6); (try replace hT0 := hT0.ext hE6); (try replace hC0 := hC0.ext hE6); (try replace hB3 := hB3.ext hE6); (try replace hb3_2 := Ext.cell_some hE6 hb3_2); (try replace hb3_3 := Ext.cell_some hE6 hb3_3); (try replace hb3_4 := Ext.cell_some hE6 hb3_4); have hb6_0 := hB6.cell 0; have hb6_1 := hB6.cell 1; have hb6_2 := hB6.cell 2; have hb6_3 := hB6.cell 3; simp at hb6_0 hb6_1 hb6_2 hb6_3; clear hE6) | ((with_reducible refine q_box (d := some 2) ?_); intro W2 g2 hE2 hB2 hg2; simp [Act.eval, Act.put, Value.cells] at hB2; (try replace hE := hE.trans hE2); (try replace hT0 := hT0.ext hE2); (try replace hC0 := hC0.ext hE2); have hb2_0 := hB2.cell 0; have hb2_1 := hB2.cell 1; have hb2_2 := hB2.cell 2; have hb2_3 := hB2.cell 3; simp at hb2_0 hb2_1 hb2_2 hb2_3; clear hE2) | ((with_reducible refine q_box (d := some 3) ?_); intro W3 g3 hE3 hB3 hg3; simp [Act.eval, Act.put, Value.cells] at hB3; (try replace hE := hE.trans hE3); (try replace hT0 := hT0.ext hE3); (try replace hC0 := hC0.ext hE3); (try replace hB2 := hB2.ext hE3); have hb3_0 := hB3.cell 0; have hb3_1 := hB3.cell 1; have hb3_2 := hB3.cell 2; have hb3_3 := hB3.cell 3; have hb3_4 := hB3.cell 4; simp at hb3_0 hb3_1 hb3_2 hb3_3 hb3_4; clear hE3))
   go_ret2
   exact ⟨hE, .inl ⟨by rw [HTe.out]; decide, by first | (rw [HTe.out]; done) | (rw [HTe.out]; rfl)⟩⟩
  | false =>
   have Hoe := Lib.hid (show t.openErr [k.a, k.b] = 0 by unfold Town.openErr; rw [if_neg (by simp [hce]), c1]; rfl)
   clear hce
   cases m2 : outB 0 ((t.times.length : Int) - 1) [k.time] with
   | true =>
    rw [if_pos (.inr m2)] at Hte
    have HTe := Lib.hid Hte
    clear Hte
    go_enter Tryz.func62, Tryz.ntmps62
    go_wp2_with (first | (((with_reducible refine q_load (d := some 13) (hl := ld_townB hB2) ?_ ?_); rfl)) | ((with_reducible refine q_bl2 (d := some 18) (n0 := k.a) (n1 := k.b) ?_ ?_ ?_); rfl; rfl; intro W18 g18 hE18 hB18 hg18; (try replace hE := hE.trans hE18); (try replace hT0 := hT0.ext hE18); (try replace hC0 := hC0.ext hE18); (try replace hB3 := hB3.ext hE18); (try replace hb3_2 := Ext.cell_some hE18 hb3_2); (try replace hb3_3 := Ext.cell_some hE18 hb3_3); (try replace hb3_4 := Ext.cell_some hE18 hb3_4); have hI18 : Ints W18 (.slice (some ⟨g18, 0, none⟩) 2 2) [k.a, k.b] := ints_blk2 hB18; clear hB18 hg18 hE18) | (go_at_call 57; ((with_reducible refine (popen_any _ _ t [k.a, k.b] _ (by exact hT0) (by exact hI18)).mono ?_); rintro e WcP ⟨rfl, hEcP⟩; (try replace hE := hE.trans hEcP); (try replace hT0 := hT0.ext hEcP); (try replace hC0 := hC0.ext hEcP); (try replace hB3 := hB3.ext hEcP); (try replace hb3_2 := Ext.cell_some hEcP hb3_2); (try replace hb3_3 := Ext.cell_some hEcP hb3_3); (try replace hb3_4 := Ext.cell_some hEcP hb3_4); rw [Hoe.out])) | ((with_reducible refine q_newvar (e := 90) (u := 6) (v := .agg #[.slice A1 t.places.length cp1, .slice A2 t.shows.length cp2, .slice A3 t.times.length cp3, .slice A4 t.streets.length cp4]) ti90 ?_ ?_ ?_ ?_ ?_ ?_); (intro g; rfl); (intro g; rfl); rfl; rfl; (simp [Value.cells, Value.oneCell']); intro W6 g6 hE6 hB6 hg6; simp [Value.cells] at hB6; (try replace hE := hE.trans hE6); (try replace hT0 := hT0.ext hE6); (try replace hC0 := hC0.ext hE6); (try replace hB3 := hB3.ext hE6); (try replace hb3_2 := Ext.cell_some hE6 hb3_2); (try replace hb3_3 := Ext.cell_some hE6 hb3_3); (try replace hb3_4 := Ext.cell_some hE6 hb3_4); have hb6_0 := hB6.cell 0; have hb6_1 := hB6.cell 1; have hb6_2 := hB6.cell 2; have hb6_3 := hB6.cell 3; simp at hb6_0 hb6_1 hb6_2 hb6_3; clear hE6) | ((with_reducible refine q_bl1 (d := some 34) (n0 := k.time) ?_ ?_); rfl; intro W34 g34 hE34 hB34 hg34; (try replace hE := hE.trans hE34); (try replace hT0 := hT0.ext hE34); (try replace hC0 := hC0.ext hE34); (try replace hB3 := hB3.ext hE34); (try replace hB6 := hB6.ext hE34); (try replace hb3_2 := Ext.cell_some hE34 hb3_2); (try replace hb3_4 := Ext.cell_some hE34 hb3_4); (try replace hb6_0 := Ext.cell_some hE34 hb6_0); (try replace hb6_3 := Ext.cell_some hE34 hb6_3); have hI34 : Ints W34 (.slice (some ⟨g34, 0, none⟩) 1 1) [k.time] := ints_blk1 hB34; clear hB34 hg34 hE34) | (go_at_call 46; ((with_reducible refine ((pout_v (by exact hI34) m2)).mono ?_); rintro e WcO ⟨rfl, hEcO⟩; (try replace hE := hE.trans hEcO); (try replace hT0 := hT0.ext hEcO); (try replace hC0 := hC0.ext hEcO); (try replace hB3 := hB3.ext hEcO); (try replace hB6 := hB6.ext hEcO); (try replace hb3_2 := Ext.cell_some hEcO hb3_2); (try replace hb3_4 := Ext.cell_some hEcO hb3_4); (try replace hb6_0 := Ext.cell_some hEcO hb6_0); (try replace hb6_3 := Ext.cell_some hEcO hb6_3))) | ((with_reducible refine q_box (d := some 2) ?_); intro W2 g2 hE2 hB2 hg2; simp [Act.eval, Act.put, Value.cells] at hB2; (try replace hE := hE.trans hE2); (try replace hT0 := hT0.ext hE2); (try replace hC0 := hC0.ext hE2); have hb2_0 := hB2.cell 0; have hb2_1 := hB2.cell 1; have hb2_2 := hB2.cell 2; have hb2_3 := hB2.cell 3; simp at hb2_0 hb2_1 hb2_2 hb2_3; clear hE2) | ((with_reducible refine q_box (d := some 3) ?_); intro W3 g3 hE3 hB3 hg3; simp [Act.eval, Act.put, Value.cells] at hB3; (try replace hE := hE.trans hE3); (try replace hT0 := hT0.ext hE3); (try replace hC0 := hC0.ext hE3); (try replace hB2 := hB2.ext hE3); have hb3_0 := hB3.cell 0; have hb3_1 := hB3.cell 1; have hb3_2 := hB3.cell 2; have hb3_3 := hB3.cell 3; have hb3_4 := hB3.cell 4; simp at hb3_0 hb3_1 hb3_2 hb3_3 hb3_4; clear hE3))
    go_ret2
    exact ⟨hE, .inl ⟨by rw [HTe.out]; decide, by first | (rw [HTe.out]; done) | (rw [HTe.out]; rfl)⟩⟩
   | false =>
    rw [if_neg (by rw [c1, m2]; simp)] at Hte
    have hset := Town.sets_bd hsh
    have hwr : IntKind.i64.wrap (t.sets - 1) = t.sets - 1 := by simp [IntKind.wrap, IntKind.bits, IntKind.signed]; omega
    cases m3 : outB 0 (t.sets - 1) [k.show_] with
    | true =>
     rw [if_pos m3] at Hte
     have HTe := Lib.hid Hte
     clear Hte
     go_enter Tryz.func62, Tryz.ntmps62
     go_wp2_with (first | (((with_reducible refine q_load (d := some 13) (hl := ld_townB hB2) ?_ ?_); rfl)) | ((with_reducible refine q_bl2 (d := some 18) (n0 := k.a) (n1 := k.b) ?_ ?_ ?_); rfl; rfl; intro W18 g18 hE18 hB18 hg18; (try replace hE := hE.trans hE18); (try replace hT0 := hT0.ext hE18); (try replace hC0 := hC0.ext hE18); (try replace hB3 := hB3.ext hE18); (try replace hb3_2 := Ext.cell_some hE18 hb3_2); (try replace hb3_3 := Ext.cell_some hE18 hb3_3); (try replace hb3_4 := Ext.cell_some hE18 hb3_4); have hI18 : Ints W18 (.slice (some ⟨g18, 0, none⟩) 2 2) [k.a, k.b] := ints_blk2 hB18; clear hB18 hg18 hE18) | (go_at_call 57; ((with_reducible refine (popen_any _ _ t [k.a, k.b] _ (by exact hT0) (by exact hI18)).mono ?_); rintro e WcP ⟨rfl, hEcP⟩; (try replace hE := hE.trans hEcP); (try replace hT0 := hT0.ext hEcP); (try replace hC0 := hC0.ext hEcP); (try replace hB3 := hB3.ext hEcP); (try replace hb3_2 := Ext.cell_some hEcP hb3_2); (try replace hb3_3 := Ext.cell_some hEcP hb3_3); (try replace hb3_4 := Ext.cell_some hEcP hb3_4); rw [Hoe.out])) | ((with_reducible refine q_newvar (e := 90) (u := 6) (v := .agg #[.slice A1 t.places.length cp1, .slice A2 t.shows.length cp2, .slice A3 t.times.length cp3, .slice A4 t.streets.length cp4]) ti90 ?_ ?_ ?_ ?_ ?_ ?_); (intro g; rfl); (intro g; rfl); rfl; rfl; (simp [Value.cells, Value.oneCell']); intro W6 g6 hE6 hB6 hg6; simp [Value.cells] at hB6; (try replace hE := hE.trans hE6); (try replace hT0 := hT0.ext hE6); (try replace hC0 := hC0.ext hE6); (try replace hB3 := hB3.ext hE6); (try replace hb3_2 := Ext.cell_some hE6 hb3_2); (try replace hb3_3 := Ext.cell_some hE6 hb3_3); (try replace hb3_4 := Ext.cell_some hE6 hb3_4); have hb6_0 := hB6.cell 0; have hb6_1 := hB6.cell 1; have hb6_2 := hB6.cell 2; have hb6_3 := hB6.cell 3; simp at hb6_0 hb6_1 hb6_2 hb6_3; clear hE6) | ((with_reducible refine q_bl1 (d := some 34) (n0 := k.time) ?_ ?_); rfl; intro W34 g34 hE34 hB34 hg34; (try replace hE := hE.trans hE34); (try replace hT0 := hT0.ext hE34); (try replace hC0 := hC0.ext hE34); (try replace hB3 := hB3.ext hE34); (try replace hB6 := hB6.ext hE34); (try replace hb3_2 := Ext.cell_some hE34 hb3_2); (try replace hb3_4 := Ext.cell_some hE34 hb3_4); (try replace hb6_0 := Ext.cell_some hE34 hb6_0); (try replace hb6_3 := Ext.cell_some hE34 hb6_3); have hI34 : Ints W34 (.slice (some ⟨g34, 0, none⟩) 1 1) [k.time] := ints_blk1 hB34; clear hB34 hg34 hE34) | (go_at_call 46; ((with_reducible refine ((pout_v (by exact hI34) m2)).mono ?_); rintro e WcO ⟨rfl, hEcO⟩; (try replace hE := hE.trans hEcO); (try replace hT0 := hT0.ext hEcO); (try replace hC0 := hC0.ext hEcO); (try replace hB3 := hB3.ext hEcO); (try replace hB6 := hB6.ext hEcO); (try replace hb3_2 := Ext.cell_some hEcO hb3_2); (try replace hb3_4 := Ext.cell_some hEcO hb3_4); (try replace hb6_0 := Ext.cell_some hEcO hb6_0); (try replace hb6_3 := Ext.cell_some hEcO hb6_3))) | ((with_reducible refine q_box (d := some 2) ?_); intro W2 g2 hE2 hB2 hg2; simp [Act.eval, Act.put, Value.cells] at hB2; (try replace hE := hE.trans hE2); (try replace hT0 := hT0.ext hE2); (try replace hC0 := hC0.ext hE2); have hb2_0 := hB2.cell 0; have hb2_1 := hB2.cell 1; have hb2_2 := hB2.cell 2; have hb2_3 := hB2.cell 3; simp at hb2_0 hb2_1 hb2_2 hb2_3; clear hE2) | ((with_reducible refine q_box (d := some 3) ?_); intro W3 g3 hE3 hB3 hg3; simp [Act.eval, Act.put, Value.cells] at hB3; (try replace hE := hE.trans hE3); (try replace hT0 := hT0.ext hE3); (try replace hC0 := hC0.ext hE3); (try replace hB2 := hB2.ext hE3); have hb3_0 := hB3.cell 0; have hb3_1 := hB3.cell 1; have hb3_2 := hB3.cell 2; have hb3_3 := hB3.cell 3; have hb3_4 := hB3.cell 4; simp at hb3_0 hb3_1 hb3_2 hb3_3 hb3_4; clear hE3))
     have hX1 := Ext.todrew (Ext.refl WcO)
     refine wp_rt (.take 0 (.take 3 (.take 4 (.two 1 (.take 2 (.one 5 (.one 6 (.take 7 .nil)))) 5 (.one 1 (.take 2 (.one 6 (.take 7 .nil)))))))) (fun w' => Ext WcO w') ?_ (fun hHeld => ?_)
     ·assumption
     repeat' first | ((with_reducible refine t_tk ?_); first | ((with_reducible refine t_tk (i := 0) ?_); refine tk (v := .agg #[.slice A1 t.places.length cp1, .slice A2 t.shows.length cp2, .slice A3 t.times.length cp3, .slice A4 t.streets.length cp4]) ?_ hHeld ?_; (· exact run_ld (by rfl) (fun W h => ld_ptownB (hB6.ext h))); (try simp only [pS])) | ((with_reducible refine t_tk (i := 4) ?_); refine tk (v := .int .i64 k.show_) ?_ hHeld ?_; (· exact run_ld (by rfl) (fun W h => load_one Tryz.underlying3 rfl (Ext.cell_some h hb3_2))); (try simp only [pS])) | (refine tk (v := ?_) ?_ hHeld ?_; rotate_left; (· (intro wq hSw; (try dsimp only at hSw); go_simp; (try with_reducible rfl))); (try simp only [pS]))) | ((with_reducible refine t_on ?_); refine t_one (by simp only [gS]; rfl) ?_) | ((with_reducible refine t_tw ?_); refine t_two (by simp only [gS]; rfl) (by simp only [gS]; rfl) ?_ ?_) | ((with_reducible refine q_gd (d := some 38) ?_); ((refine q_call (by rfl) (psets_any _ t _ (hT0.ext hX1) hsh) (by go_simp) ?_; rintro e W38 ⟨rfl, hE38⟩; refine ⟨_, rfl, ?_⟩; replace hX1 := hX1.trans hE38; (try replace hI42 := hI42.ext hE38)))) | ((with_reducible refine q_gd (d := some 42) ?_); (((with_reducible refine q_bl1 (d := some 42) (n0 := k.show_) ?_ ?_); rfl; intro W42 g42 hE42 hB42 hg42; replace hX1 := hX1.trans hE42; have hI42 := ints_blk1 hB42))) | ((with_reducible refine q_gd (d := some 43) ?_); ((refine q_call (by rfl) (pout_v hI42 m3) (by go_simp) ?_; rintro e W43 ⟨rfl, hE43⟩; refine ⟨_, rfl, ?_⟩; replace hX1 := hX1.trans hE43))) | ((with_reducible refine q_nl ?_); clear hHeld; refine t_next ?_ (fun hHeld => ?_); (· assumption); (try simp only [pS])) | (with_reducible refine t_done ?_)
     all_goals
      go_wp2
      go_ret2
      exact ⟨hE.trans hX1, .inl ⟨by rw [HTe.out]; decide, by first | (rw [HTe.out]; done) | (rw [HTe.out]; rfl)⟩⟩
    | false =>
     rw [if_neg (by rw [m3]; simp)] at Hte
     by_cases h40 : 40 < k.closed.length
     ·have q4 : (40 : Int) < (k.closed.length : Int) := by omega
      rw [if_pos h40] at Hte
      have HTe := Lib.hid Hte
      clear Hte h40
      go_enter Tryz.func62, Tryz.ntmps62
      go_wp2_with (first | (((with_reducible refine q_load (d := some 13) (hl := ld_townB hB2) ?_ ?_); rfl)) | ((with_reducible refine q_bl2 (d := some 18) (n0 := k.a) (n1 := k.b) ?_ ?_ ?_); rfl; rfl; intro W18 g18 hE18 hB18 hg18; (try replace hE := hE.trans hE18); (try replace hT0 := hT0.ext hE18); (try replace hC0 := hC0.ext hE18); (try replace hB3 := hB3.ext hE18); (try replace hb3_2 := Ext.cell_some hE18 hb3_2); (try replace hb3_3 := Ext.cell_some hE18 hb3_3); (try replace hb3_4 := Ext.cell_some hE18 hb3_4); have hI18 : Ints W18 (.slice (some ⟨g18, 0, none⟩) 2 2) [k.a, k.b] := ints_blk2 hB18; clear hB18 hg18 hE18) | (go_at_call 57; ((with_reducible refine (popen_any _ _ t [k.a, k.b] _ (by exact hT0) (by exact hI18)).mono ?_); rintro e WcP ⟨rfl, hEcP⟩; (try replace hE := hE.trans hEcP); (try replace hT0 := hT0.ext hEcP); (try replace hC0 := hC0.ext hEcP); (try replace hB3 := hB3.ext hEcP); (try replace hb3_2 := Ext.cell_some hEcP hb3_2); (try replace hb3_3 := Ext.cell_some hEcP hb3_3); (try replace hb3_4 := Ext.cell_some hEcP hb3_4); rw [Hoe.out])) | ((with_reducible refine q_newvar (e := 90) (u := 6) (v := .agg #[.slice A1 t.places.length cp1, .slice A2 t.shows.length cp2, .slice A3 t.times.length cp3, .slice A4 t.streets.length cp4]) ti90 ?_ ?_ ?_ ?_ ?_ ?_); (intro g; rfl); (intro g; rfl); rfl; rfl; (simp [Value.cells, Value.oneCell']); intro W6 g6 hE6 hB6 hg6; simp [Value.cells] at hB6; (try replace hE := hE.trans hE6); (try replace hT0 := hT0.ext hE6); (try replace hC0 := hC0.ext hE6); (try replace hB3 := hB3.ext hE6); (try replace hb3_2 := Ext.cell_some hE6 hb3_2); (try replace hb3_3 := Ext.cell_some hE6 hb3_3); (try replace hb3_4 := Ext.cell_some hE6 hb3_4); have hb6_0 := hB6.cell 0; have hb6_1 := hB6.cell 1; have hb6_2 := hB6.cell 2; have hb6_3 := hB6.cell 3; simp at hb6_0 hb6_1 hb6_2 hb6_3; clear hE6) | ((with_reducible refine q_bl1 (d := some 34) (n0 := k.time) ?_ ?_); rfl; intro W34 g34 hE34 hB34 hg34; (try replace hE := hE.trans hE34); (try replace hT0 := hT0.ext hE34); (try replace hC0 := hC0.ext hE34); (try replace hB3 := hB3.ext hE34); (try replace hB6 := hB6.ext hE34); (try replace hb3_2 := Ext.cell_some hE34 hb3_2); (try replace hb3_4 := Ext.cell_some hE34 hb3_4); (try replace hb6_0 := Ext.cell_some hE34 hb6_0); (try replace hb6_3 := Ext.cell_some hE34 hb6_3); have hI34 : Ints W34 (.slice (some ⟨g34, 0, none⟩) 1 1) [k.time] := ints_blk1 hB34; clear hB34 hg34 hE34) | (go_at_call 46; ((with_reducible refine ((pout_v (by exact hI34) m2)).mono ?_); rintro e WcO ⟨rfl, hEcO⟩; (try replace hE := hE.trans hEcO); (try replace hT0 := hT0.ext hEcO); (try replace hC0 := hC0.ext hEcO); (try replace hB3 := hB3.ext hEcO); (try replace hB6 := hB6.ext hEcO); (try replace hb3_2 := Ext.cell_some hEcO hb3_2); (try replace hb3_4 := Ext.cell_some hEcO hb3_4); (try replace hb6_0 := Ext.cell_some hEcO hb6_0); (try replace hb6_3 := Ext.cell_some hEcO hb6_3))) | ((with_reducible refine q_box (d := some 2) ?_); intro W2 g2 hE2 hB2 hg2; simp [Act.eval, Act.put, Value.cells] at hB2; (try replace hE := hE.trans hE2); (try replace hT0 := hT0.ext hE2); (try replace hC0 := hC0.ext hE2); have hb2_0 := hB2.cell 0; have hb2_1 := hB2.cell 1; have hb2_2 := hB2.cell 2; have hb2_3 := hB2.cell 3; simp at hb2_0 hb2_1 hb2_2 hb2_3; clear hE2) | ((with_reducible refine q_box (d := some 3) ?_); intro W3 g3 hE3 hB3 hg3; simp [Act.eval, Act.put, Value.cells] at hB3; (try replace hE := hE.trans hE3); (try replace hT0 := hT0.ext hE3); (try replace hC0 := hC0.ext hE3); (try replace hB2 := hB2.ext hE3); have hb3_0 := hB3.cell 0; have hb3_1 := hB3.cell 1; have hb3_2 := hB3.cell 2; have hb3_3 := hB3.cell 3; have hb3_4 := hB3.cell 4; simp at hb3_0 hb3_1 hb3_2 hb3_3 hb3_4; clear hE3))
      have hX1 := Ext.todrew (Ext.refl WcO)
      refine wp_rt (.take 0 (.take 3 (.take 4 (.two 1 (.take 2 (.one 5 (.one 6 (.take 7 .nil)))) 5 (.one 1 (.take 2 (.one 6 (.take 7 .nil)))))))) (fun w' => Ext WcO w') ?_ (fun hHeld => ?_)
      ·assumption
      repeat' first | ((with_reducible refine t_tk ?_); first | ((with_reducible refine t_tk (i := 0) ?_); refine tk (v := .agg #[.slice A1 t.places.length cp1, .slice A2 t.shows.length cp2, .slice A3 t.times.length cp3, .slice A4 t.streets.length cp4]) ?_ hHeld ?_; (· exact run_ld (by rfl) (fun W h => ld_ptownB (hB6.ext h))); (try simp only [pS])) | ((with_reducible refine t_tk (i := 4) ?_); refine tk (v := .int .i64 k.show_) ?_ hHeld ?_; (· exact run_ld (by rfl) (fun W h => load_one Tryz.underlying3 rfl (Ext.cell_some h hb3_2))); (try simp only [pS])) | (refine tk (v := ?_) ?_ hHeld ?_; rotate_left; (· (intro wq hSw; (try dsimp only at hSw); go_simp; (try with_reducible rfl))); (try simp only [pS]))) | ((with_reducible refine t_on ?_); refine t_one (by simp only [gS]; rfl) ?_) | ((with_reducible refine t_tw ?_); refine t_two (by simp only [gS]; rfl) (by simp only [gS]; rfl) ?_ ?_) | ((with_reducible refine q_gd (d := some 38) ?_); ((refine q_call (by rfl) (psets_any _ t _ (hT0.ext hX1) hsh) (by go_simp) ?_; rintro e W38 ⟨rfl, hE38⟩; refine ⟨_, rfl, ?_⟩; replace hX1 := hX1.trans hE38; (try replace hI42 := hI42.ext hE38)))) | ((with_reducible refine q_gd (d := some 42) ?_); (((with_reducible refine q_bl1 (d := some 42) (n0 := k.show_) ?_ ?_); rfl; intro W42 g42 hE42 hB42 hg42; replace hX1 := hX1.trans hE42; have hI42 := ints_blk1 hB42))) | ((with_reducible refine q_gd (d := some 43) ?_); ((refine q_call (by rfl) (pout_v hI42 m3) (by go_simp) ?_; rintro e W43 ⟨rfl, hE43⟩; refine ⟨_, rfl, ?_⟩; replace hX1 := hX1.trans hE43))) | ((with_reducible refine q_nl ?_); clear hHeld; refine t_next ?_ (fun hHeld => ?_); (· assumption); (try simp only [pS])) | (with_reducible refine t_done ?_)
      all_goals
       have c34 := Ext.cell_some hX1 hb3_4
       go_wp2
       go_ret2
       exact ⟨hE.trans hX1, .inl ⟨by rw [HTe.out]; decide, by first | (rw [HTe.out]; done) | (rw [HTe.out]; rfl)⟩⟩
     ·have q4 : ¬ ((40 : Int) < (k.closed.length : Int)) := by omega
      rw [if_neg h40] at Hte
      clear h40
      cases m5 : outB 0 ((t.streets.length : Int) - 1) k.closed with
      | true =>
       rw [if_pos m5] at Hte
       have HTe := Lib.hid Hte
       clear Hte
       go_enter Tryz.func62, Tryz.ntmps62
       go_wp2_with (first | (((with_reducible refine q_load (d := some 13) (hl := ld_townB hB2) ?_ ?_); rfl)) | ((with_reducible refine q_bl2 (d := some 18) (n0 := k.a) (n1 := k.b) ?_ ?_ ?_); rfl; rfl; intro W18 g18 hE18 hB18 hg18; (try replace hE := hE.trans hE18); (try replace hT0 := hT0.ext hE18); (try replace hC0 := hC0.ext hE18); (try replace hB3 := hB3.ext hE18); (try replace hb3_2 := Ext.cell_some hE18 hb3_2); (try replace hb3_3 := Ext.cell_some hE18 hb3_3); (try replace hb3_4 := Ext.cell_some hE18 hb3_4); have hI18 : Ints W18 (.slice (some ⟨g18, 0, none⟩) 2 2) [k.a, k.b] := ints_blk2 hB18; clear hB18 hg18 hE18) | (go_at_call 57; ((with_reducible refine (popen_any _ _ t [k.a, k.b] _ (by exact hT0) (by exact hI18)).mono ?_); rintro e WcP ⟨rfl, hEcP⟩; (try replace hE := hE.trans hEcP); (try replace hT0 := hT0.ext hEcP); (try replace hC0 := hC0.ext hEcP); (try replace hB3 := hB3.ext hEcP); (try replace hb3_2 := Ext.cell_some hEcP hb3_2); (try replace hb3_3 := Ext.cell_some hEcP hb3_3); (try replace hb3_4 := Ext.cell_some hEcP hb3_4); rw [Hoe.out])) | ((with_reducible refine q_newvar (e := 90) (u := 6) (v := .agg #[.slice A1 t.places.length cp1, .slice A2 t.shows.length cp2, .slice A3 t.times.length cp3, .slice A4 t.streets.length cp4]) ti90 ?_ ?_ ?_ ?_ ?_ ?_); (intro g; rfl); (intro g; rfl); rfl; rfl; (simp [Value.cells, Value.oneCell']); intro W6 g6 hE6 hB6 hg6; simp [Value.cells] at hB6; (try replace hE := hE.trans hE6); (try replace hT0 := hT0.ext hE6); (try replace hC0 := hC0.ext hE6); (try replace hB3 := hB3.ext hE6); (try replace hb3_2 := Ext.cell_some hE6 hb3_2); (try replace hb3_3 := Ext.cell_some hE6 hb3_3); (try replace hb3_4 := Ext.cell_some hE6 hb3_4); have hb6_0 := hB6.cell 0; have hb6_1 := hB6.cell 1; have hb6_2 := hB6.cell 2; have hb6_3 := hB6.cell 3; simp at hb6_0 hb6_1 hb6_2 hb6_3; clear hE6) | ((with_reducible refine q_bl1 (d := some 34) (n0 := k.time) ?_ ?_); rfl; intro W34 g34 hE34 hB34 hg34; (try replace hE := hE.trans hE34); (try replace hT0 := hT0.ext hE34); (try replace hC0 := hC0.ext hE34); (try replace hB3 := hB3.ext hE34); (try replace hB6 := hB6.ext hE34); (try replace hb3_2 := Ext.cell_some hE34 hb3_2); (try replace hb3_4 := Ext.cell_some hE34 hb3_4); (try replace hb6_0 := Ext.cell_some hE34 hb6_0); (try replace hb6_3 := Ext.cell_some hE34 hb6_3); have hI34 : Ints W34 (.slice (some ⟨g34, 0, none⟩) 1 1) [k.time] := ints_blk1 hB34; clear hB34 hg34 hE34) | (go_at_call 46; ((with_reducible refine ((pout_v (by exact hI34) m2)).mono ?_); rintro e WcO ⟨rfl, hEcO⟩; (try replace hE := hE.trans hEcO); (try replace hT0 := hT0.ext hEcO); (try replace hC0 := hC0.ext hEcO); (try replace hB3 := hB3.ext hEcO); (try replace hB6 := hB6.ext hEcO); (try replace hb3_2 := Ext.cell_some hEcO hb3_2); (try replace hb3_4 := Ext.cell_some hEcO hb3_4); (try replace hb6_0 := Ext.cell_some hEcO hb6_0); (try replace hb6_3 := Ext.cell_some hEcO hb6_3))) | ((with_reducible refine q_box (d := some 2) ?_); intro W2 g2 hE2 hB2 hg2; simp [Act.eval, Act.put, Value.cells] at hB2; (try replace hE := hE.trans hE2); (try replace hT0 := hT0.ext hE2); (try replace hC0 := hC0.ext hE2); have hb2_0 := hB2.cell 0; have hb2_1 := hB2.cell 1; have hb2_2 := hB2.cell 2; have hb2_3 := hB2.cell 3; simp at hb2_0 hb2_1 hb2_2 hb2_3; clear hE2) | ((with_reducible refine q_box (d := some 3) ?_); intro W3 g3 hE3 hB3 hg3; simp [Act.eval, Act.put, Value.cells] at hB3; (try replace hE := hE.trans hE3); (try replace hT0 := hT0.ext hE3); (try replace hC0 := hC0.ext hE3); (try replace hB2 := hB2.ext hE3); have hb3_0 := hB3.cell 0; have hb3_1 := hB3.cell 1; have hb3_2 := hB3.cell 2; have hb3_3 := hB3.cell 3; have hb3_4 := hB3.cell 4; simp at hb3_0 hb3_1 hb3_2 hb3_3 hb3_4; clear hE3))
       have hX1 := Ext.todrew (Ext.refl WcO)
       refine wp_rt (.take 0 (.take 3 (.take 4 (.two 1 (.take 2 (.one 5 (.one 6 (.take 7 .nil)))) 5 (.one 1 (.take 2 (.one 6 (.take 7 .nil)))))))) (fun w' => Ext WcO w') ?_ (fun hHeld => ?_)
       ·assumption
       repeat' first | ((with_reducible refine t_tk ?_); first | ((with_reducible refine t_tk (i := 0) ?_); refine tk (v := .agg #[.slice A1 t.places.length cp1, .slice A2 t.shows.length cp2, .slice A3 t.times.length cp3, .slice A4 t.streets.length cp4]) ?_ hHeld ?_; (· exact run_ld (by rfl) (fun W h => ld_ptownB (hB6.ext h))); (try simp only [pS])) | ((with_reducible refine t_tk (i := 4) ?_); refine tk (v := .int .i64 k.show_) ?_ hHeld ?_; (· exact run_ld (by rfl) (fun W h => load_one Tryz.underlying3 rfl (Ext.cell_some h hb3_2))); (try simp only [pS])) | (refine tk (v := ?_) ?_ hHeld ?_; rotate_left; (· (intro wq hSw; (try dsimp only at hSw); go_simp; (try with_reducible rfl))); (try simp only [pS]))) | ((with_reducible refine t_on ?_); refine t_one (by simp only [gS]; rfl) ?_) | ((with_reducible refine t_tw ?_); refine t_two (by simp only [gS]; rfl) (by simp only [gS]; rfl) ?_ ?_) | ((with_reducible refine q_gd (d := some 38) ?_); ((refine q_call (by rfl) (psets_any _ t _ (hT0.ext hX1) hsh) (by go_simp) ?_; rintro e W38 ⟨rfl, hE38⟩; refine ⟨_, rfl, ?_⟩; replace hX1 := hX1.trans hE38; (try replace hI42 := hI42.ext hE38)))) | ((with_reducible refine q_gd (d := some 42) ?_); (((with_reducible refine q_bl1 (d := some 42) (n0 := k.show_) ?_ ?_); rfl; intro W42 g42 hE42 hB42 hg42; replace hX1 := hX1.trans hE42; have hI42 := ints_blk1 hB42))) | ((with_reducible refine q_gd (d := some 43) ?_); ((refine q_call (by rfl) (pout_v hI42 m3) (by go_simp) ?_; rintro e W43 ⟨rfl, hE43⟩; refine ⟨_, rfl, ?_⟩; replace hX1 := hX1.trans hE43))) | ((with_reducible refine q_nl ?_); clear hHeld; refine t_next ?_ (fun hHeld => ?_); (· assumption); (try simp only [pS])) | (with_reducible refine t_done ?_)
       all_goals
        have c34 := Ext.cell_some hX1 hb3_4
        have c63 := Ext.cell_some hX1 hb6_3
        replace hC0 := hC0.ext hX1
        replace hE := hE.trans hX1
        clear hX1 hB6 hB2 hB3 hT0 hb3_0 hb3_1 hb3_2 hb3_3 hb3_4 hb6_0 hb6_1 hb6_2 hb6_3 hb2_0 hb2_1 hb2_2 hb2_3 hI18 hI34 hI42
        go_wp2_with (first | (go_at_call 46; refine (pout_v hC0 m5).mono ?_; rintro e W57 ⟨rfl, hE57⟩; replace hE := hE.trans hE57))
        go_ret2
        exact ⟨hE, .inl ⟨by rw [HTe.out]; decide, by first | (rw [HTe.out]; done) | (rw [HTe.out]; rfl)⟩⟩
      | false =>
       rw [if_neg (by rw [m5]; simp)] at Hte
       have HTe := Lib.hid Hte
       have HK := Lib.hid (Town.taskOk_of Hte)
       clear Hte
       refine calls_marks Tryz.func62 rfl ?_
       simp only [Tryz.ntmps62, List.size_toArray, List.length_cons, List.length_nil, Nat.reduceAdd, Nat.reduceSub, Array.replicate_succ, Array.replicate_zero, List.push_toArray, List.append_toArray, List.nil_append, List.cons_append]
       go_wp2_with (first | (((with_reducible refine q_load (d := some 13) (hl := ld_townB hB2) ?_ ?_); rfl)) | ((with_reducible refine q_bl2 (d := some 18) (n0 := k.a) (n1 := k.b) ?_ ?_ ?_); rfl; rfl; intro W18 g18 hE18 hB18 hg18; (try replace hE := hE.trans hE18); (try replace hT0 := hT0.ext hE18); (try replace hC0 := hC0.ext hE18); (try replace hB3 := hB3.ext hE18); (try replace hb3_2 := Ext.cell_some hE18 hb3_2); (try replace hb3_3 := Ext.cell_some hE18 hb3_3); (try replace hb3_4 := Ext.cell_some hE18 hb3_4); have hI18 : Ints W18 (.slice (some ⟨g18, 0, none⟩) 2 2) [k.a, k.b] := ints_blk2 hB18; clear hB18 hg18 hE18) | (go_at_call 57; ((with_reducible refine (popen_any _ _ t [k.a, k.b] _ (by exact hT0) (by exact hI18)).mono ?_); rintro e WcP ⟨rfl, hEcP⟩; (try replace hE := hE.trans hEcP); (try replace hT0 := hT0.ext hEcP); (try replace hC0 := hC0.ext hEcP); (try replace hB3 := hB3.ext hEcP); (try replace hb3_2 := Ext.cell_some hEcP hb3_2); (try replace hb3_3 := Ext.cell_some hEcP hb3_3); (try replace hb3_4 := Ext.cell_some hEcP hb3_4); rw [Hoe.out])) | ((with_reducible refine q_newvar (e := 90) (u := 6) (v := .agg #[.slice A1 t.places.length cp1, .slice A2 t.shows.length cp2, .slice A3 t.times.length cp3, .slice A4 t.streets.length cp4]) ti90 ?_ ?_ ?_ ?_ ?_ ?_); (intro g; rfl); (intro g; rfl); rfl; rfl; (simp [Value.cells, Value.oneCell']); intro W6 g6 hE6 hB6 hg6; simp [Value.cells] at hB6; (try replace hE := hE.trans hE6); (try replace hT0 := hT0.ext hE6); (try replace hC0 := hC0.ext hE6); (try replace hB3 := hB3.ext hE6); (try replace hb3_2 := Ext.cell_some hE6 hb3_2); (try replace hb3_3 := Ext.cell_some hE6 hb3_3); (try replace hb3_4 := Ext.cell_some hE6 hb3_4); have hb6_0 := hB6.cell 0; have hb6_1 := hB6.cell 1; have hb6_2 := hB6.cell 2; have hb6_3 := hB6.cell 3; simp at hb6_0 hb6_1 hb6_2 hb6_3; clear hE6) | ((with_reducible refine q_bl1 (d := some 34) (n0 := k.time) ?_ ?_); rfl; intro W34 g34 hE34 hB34 hg34; (try replace hE := hE.trans hE34); (try replace hT0 := hT0.ext hE34); (try replace hC0 := hC0.ext hE34); (try replace hB3 := hB3.ext hE34); (try replace hB6 := hB6.ext hE34); (try replace hb3_2 := Ext.cell_some hE34 hb3_2); (try replace hb3_4 := Ext.cell_some hE34 hb3_4); (try replace hb6_0 := Ext.cell_some hE34 hb6_0); (try replace hb6_3 := Ext.cell_some hE34 hb6_3); have hI34 : Ints W34 (.slice (some ⟨g34, 0, none⟩) 1 1) [k.time] := ints_blk1 hB34; clear hB34 hg34 hE34) | (go_at_call 46; ((with_reducible refine ((pout_v (by exact hI34) m2)).mono ?_); rintro e WcO ⟨rfl, hEcO⟩; (try replace hE := hE.trans hEcO); (try replace hT0 := hT0.ext hEcO); (try replace hC0 := hC0.ext hEcO); (try replace hB3 := hB3.ext hEcO); (try replace hB6 := hB6.ext hEcO); (try replace hb3_2 := Ext.cell_some hEcO hb3_2); (try replace hb3_4 := Ext.cell_some hEcO hb3_4); (try replace hb6_0 := Ext.cell_some hEcO hb6_0); (try replace hb6_3 := Ext.cell_some hEcO hb6_3))) | ((with_reducible refine q_box (d := some 2) ?_); intro W2 g2 hE2 hB2 hg2; simp [Act.eval, Act.put, Value.cells] at hB2; (try replace hE := hE.trans hE2); (try replace hT0 := hT0.ext hE2); (try replace hC0 := hC0.ext hE2); have hb2_0 := hB2.cell 0; have hb2_1 := hB2.cell 1; have hb2_2 := hB2.cell 2; have hb2_3 := hB2.cell 3; simp at hb2_0 hb2_1 hb2_2 hb2_3; clear hE2) | ((with_reducible refine q_box (d := some 3) ?_); intro W3 g3 hE3 hB3 hg3; simp [Act.eval, Act.put, Value.cells] at hB3; (try replace hE := hE.trans hE3); (try replace hT0 := hT0.ext hE3); (try replace hC0 := hC0.ext hE3); (try replace hB2 := hB2.ext hE3); have hb3_0 := hB3.cell 0; have hb3_1 := hB3.cell 1; have hb3_2 := hB3.cell 2; have hb3_3 := hB3.cell 3; have hb3_4 := hB3.cell 4; simp at hb3_0 hb3_1 hb3_2 hb3_3 hb3_4; clear hE3))
       apply wp_cut1 (R := fun _ w' => Ext WcO w')
       case h =>
        have hX1 := Ext.todrew (Ext.refl WcO)
        refine wp_rt (.take 0 (.take 3 (.take 4 (.two 1 (.take 2 (.one 5 (.one 6 (.take 7 .nil)))) 5 (.one 1 (.take 2 (.one 6 (.take 7 .nil)))))))) (fun w' => Ext WcO w') ?_ (fun hHeld => ?_)
        ·assumption
        repeat' first | ((with_reducible refine t_tk ?_); first | ((with_reducible refine t_tk (i := 0) ?_); refine tk (v := .agg #[.slice A1 t.places.length cp1, .slice A2 t.shows.length cp2, .slice A3 t.times.length cp3, .slice A4 t.streets.length cp4]) ?_ hHeld ?_; (· exact run_ld (by rfl) (fun W h => ld_ptownB (hB6.ext h))); (try simp only [pS])) | ((with_reducible refine t_tk (i := 4) ?_); refine tk (v := .int .i64 k.show_) ?_ hHeld ?_; (· exact run_ld (by rfl) (fun W h => load_one Tryz.underlying3 rfl (Ext.cell_some h hb3_2))); (try simp only [pS])) | (refine tk (v := ?_) ?_ hHeld ?_; rotate_left; (· (intro wq hSw; (try dsimp only at hSw); go_simp; (try with_reducible rfl))); (try simp only [pS]))) | ((with_reducible refine t_on ?_); refine t_one (by simp only [gS]; rfl) ?_) | ((with_reducible refine t_tw ?_); refine t_two (by simp only [gS]; rfl) (by simp only [gS]; rfl) ?_ ?_) | ((with_reducible refine q_gd (d := some 38) ?_); ((refine q_call (by rfl) (psets_any _ t _ (hT0.ext hX1) hsh) (by go_simp) ?_; rintro e W38 ⟨rfl, hE38⟩; refine ⟨_, rfl, ?_⟩; replace hX1 := hX1.trans hE38; (try replace hI42 := hI42.ext hE38)))) | ((with_reducible refine q_gd (d := some 42) ?_); (((with_reducible refine q_bl1 (d := some 42) (n0 := k.show_) ?_ ?_); rfl; intro W42 g42 hE42 hB42 hg42; replace hX1 := hX1.trans hE42; have hI42 := ints_blk1 hB42))) | ((with_reducible refine q_gd (d := some 43) ?_); ((refine q_call (by rfl) (pout_v hI42 m3) (by go_simp) ?_; rintro e W43 ⟨rfl, hE43⟩; refine ⟨_, rfl, ?_⟩; replace hX1 := hX1.trans hE43))) | ((with_reducible refine q_nl ?_); clear hHeld; refine t_next ?_ (fun hHeld => ?_); (· assumption); (try simp only [pS])) | (with_reducible refine t_done ?_)
        all_goals exact ⟨rfl, g42, rfl, hX1⟩
       case k =>
        intro g42 Wp hX1
        have c34 := Ext.cell_some hX1 hb3_4
        have c63 := Ext.cell_some hX1 hb6_3
        have c60 := Ext.cell_some hX1 hb6_0
        replace hC0 := hC0.ext hX1
        replace hE := hE.trans hX1
        replace hB6 := hB6.ext hX1
        replace hB3 := hB3.ext hX1
        clear hX1 hB2 hT0 hb3_0 hb3_1 hb3_2 hb3_3 hb3_4 hb6_0 hb6_1 hb6_2 hb6_3 hb2_0 hb2_1 hb2_2 hb2_3 hI18 hI34
        go_wp2_with (first | (go_at_call 46; refine (pout_v hC0 m5).mono ?_; rintro e Wq ⟨rfl, hEq⟩; replace hE := hE.trans hEq; replace hB6 := hB6.ext hEq; replace hB3 := hB3.ext hEq; replace c60 := Ext.cell_some hEq c60; clear hEq c34 c63))
        apply wp_cut4 (R := fun gj gi gm g8 w' => Ext Wq w' ∧ Blk w' gj 120 #[.slice A1 t.places.length cp1, .slice A2 t.shows.length cp2, .slice A3 t.times.length cp3, .slice A4 t.streets.length cp4, .int .i64 k.a, .int .i64 k.b, .int .i64 k.show_, .int .i64 k.time, .slice Ac k.closed.length cc, .slice (some ⟨gi, 0, none⟩) t.places.length t.places.length, .map (some gm)] ∧ Blk w' gi 32 (Array.replicate t.places.length (.slice none 0 0)) ∧ MapM kvI w' gm (fun _ => none) ∧ Blk w' g8 109 #[.pointer (some ⟨gj, 0, none⟩)] ∧ Wq.heap.size ≤ gj ∧ Wq.heap.size ≤ gi ∧ Wq.heap.size ≤ gm ∧ Wq.heap.size ≤ g8)
        case h =>
         have hX := Ext.todrew (Ext.refl Wq)
         refine wp_rt3 (.take 0 (.take 1 (.take 2 (.take 3 (.take 4 (.take 5 (.three 6 (.two 7 (.take 8 (.two 9 (.one 10 (.one 11 .nil)) 10 (.one 9 (.one 11 .nil)))) 10 (.one 7 (.take 8 (.one 9 (.one 11 .nil))))) 7 (.two 6 (.take 8 (.two 9 (.one 10 (.one 11 .nil)) 10 (.one 9 (.one 11 .nil)))) 10 (.one 6 (.take 8 (.one 9 (.one 11 .nil))))) 10 (.two 6 (.one 7 (.take 8 (.one 9 (.one 11 .nil)))) 7 (.one 6 (.take 8 (.one 9 (.one 11 .nil)))))))))))) (fun w' => Ext Wq w') ?_ (fun hHeld => ?_)
         ·assumption
         repeat' first | ((with_reducible refine t3_tk ?_); first | ((with_reducible refine t3_tk (i := 0) ?_); refine t3k (v := .agg #[.slice A1 t.places.length cp1, .slice A2 t.shows.length cp2, .slice A3 t.times.length cp3, .slice A4 t.streets.length cp4]) ?_ hHeld ?_; (· exact run_ld (by rfl) (fun W h => ld_ptownB (hB6.ext h))); (try simp only [pS])) | ((with_reducible refine t3_tk (i := 1) ?_); refine t3k (v := .agg #[.int .i64 k.a, .int .i64 k.b, .int .i64 k.show_, .int .i64 k.time, .slice Ac k.closed.length cc]) ?_ hHeld ?_; (· exact run_ld (by rfl) (fun W h => ld_taskB (hB3.ext h))); (try simp only [pS])) | ((with_reducible refine t3_tk (i := 4) ?_); refine t3k (v := .slice A1 t.places.length cp1) ?_ hHeld ?_; (· exact run_ld (by rfl) (fun W h => load_one Tryz.underlying22 rfl (Ext.cell_some h c60))); (try simp only [pS])) | (refine t3k (v := ?_) ?_ hHeld ?_; rotate_left; (· (intro wq hSw; (try dsimp only at hSw); go_simp; (try with_reducible rfl))); (try simp only [pS]))) | ((with_reducible refine t3_on ?_); refine t3_one (by simp only [gS]; rfl) ?_) | ((with_reducible refine t3_tw ?_); refine t3_two (by simp only [gS]; rfl) (by simp only [gS]; rfl) ?_ ?_) | ((with_reducible refine t3_th ?_); refine t3_three (by simp only [gS]; rfl) (by simp only [gS]; rfl) (by simp only [gS]; rfl) ?_ ?_ ?_) | ((with_reducible refine q_gd (d := some 64) ?_); (((with_reducible refine q_make (d := some 64) (z := .slice none 0 0) (n := t.places.length) (b := 24) Tryz.underlying117 ti32 ?_ ?_ ?_ ?_ ?_ ?_); rfl; omega; omega; rfl; rfl; intro W64 gi hE64 hBi hgi; have hgi := Nat.le_trans hX.size hgi; replace hX := hX.trans hE64; (try replace hM := MapM.ext hM hE64); (try replace hB8 := hB8.ext hE64)))) | ((with_reducible refine q_gd (d := some 65) ?_); (((with_reducible refine q_makeMapI (d := some 65) ?_); intro W65 gm hE65 hM hgm; have hgm := Nat.le_trans hX.size hgm; replace hX := hX.trans hE65; (try replace hBi := hBi.ext hE65); (try replace hB8 := hB8.ext hE65)))) | ((with_reducible refine q_gd (d := some 67) ?_); (((with_reducible refine q_box (d := some 67) ?_); intro W67 gj hE67 hBj hgj; simp [Act.eval, Act.put, Value.cells] at hBj; have hgj := Nat.le_trans hX.size hgj; replace hX := hX.trans hE67; (try replace hM := MapM.ext hM hE67); (try replace hBi := hBi.ext hE67); (try replace hB8 := hB8.ext hE67)))) | ((with_reducible refine q_gd (d := some 8) ?_); (((with_reducible refine q_alloc (d := some 8) ti109 ?_); intro W8 g8 hE8 hB8 hg8; simp [Value.cells] at hB8; have hg8 := Nat.le_trans hX.size hg8; replace hX := hX.trans hE8; (try replace hM := MapM.ext hM hE8); (try replace hBi := hBi.ext hE8); (try replace hBj := hBj.ext hE8)))) | ((with_reducible refine q_gd (d := none) ?_); (((with_reducible refine q_store1 (t := 109) (e := 109) (g := g8) (off := 0) (v := .pointer (some ⟨gj, 0, none⟩)) ?_ ?_ hB8 sizePjob ?_ ?_ ?_ ?_); rfl; rfl; rfl; simp; rfl; intro Ws hBs hgrs; simp at hBs; replace hX := below_grown2 hX hgrs hg8; replace hM := MapM.grown hM hgrs (fun e => MapM.notblk hM hB8 (Option.some.inj e)); replace hBi := hBi.grown hgrs (fun e => blk_ne hBi hB8 (by decide) (Option.some.inj e)); replace hBj := hBj.grown hgrs (fun e => blk_ne hBj hB8 (by decide) (Option.some.inj e))))) | ((with_reducible refine q_nl ?_); clear hHeld; refine t3_next ?_ (fun hHeld => ?_); (· assumption); (try simp only [pS])) | (with_reducible refine t3_done ?_)
         all_goals exact ⟨rfl, gj, gi, gm, g8, rfl, hX, hBj, hBi, hM, hBs, hgj, hgi, hgm, hg8⟩
        case k =>
         rintro gj gi gm g8 Wz ⟨hZ, hBj, hBi, hM, hB8, hgj, hgi, hgm, hg8⟩
         have hEz := hE.trans hZ
         replace hB6 := hB6.ext hZ
         have c8 := hB8.cell 0
         simp at c8
         have hBi0 : Blk Wz gi 32 (List.replicate t.places.length (.slice none 0 0)).toArray := by simpa using hBi
         have hgj0 := Nat.le_trans hE.size hgj; have hgi0 := Nat.le_trans hE.size hgi; have hgm0 := Nat.le_trans hE.size hgm; have hg80 := Nat.le_trans hE.size hg8
         clear hB3 hC0 hZ hBi hgj hgi hgm hg8 hE
         go_wp2_with (first | (go_at_call 64; refine (psteps_any gj _).mono ?_; rintro e Wr ⟨gb, rfl, hEr, hgb, hBb⟩; replace hEz := hEz.trans hEr; replace hBj := hBj.ext hEr; replace hBi0 := hBi0.ext hEr; replace hM := MapM.ext hM hEr; replace hB8 := hB8.ext hEr; replace hB6 := hB6.ext hEr))
         have hMlt := hM.lt
         have hBilt := hBi0.lt
         clear c8 hgb hEr
         refine wp_rangeFuncTB (gf := 99) (lb := #[.pointer (some ⟨gb, 0, none⟩)]) (z := .agg #[.int .i64 0, .bool false]) (val := fun x : Step => .agg #[.int .i64 x.st, .bool x.bk]) rfl enters99 (psteps_seq gb gj (.slice A1 t.places.length cp1) (.slice A2 t.shows.length cp2) (.slice A3 t.times.length cp3) (.slice A4 t.streets.length cp4) (.slice Ac k.closed.length cc) (.slice (some ⟨gi, 0, none⟩) t.places.length t.places.length) (.map (some gm)) t k HK.out) (fun _ => rfl) tiStep (fun _ => rfl) rfl (fun x c hc => by simp [Value.cells] at hc; rcases hc with rfl | rfl <;> rfl) (fun x j => by simp [roundAct, encStep, Act.put, Act.eval]) (fun x j => by simp [roundAct, encStep, Act.put, Act.eval])
          (fun pre W => Ext w W ∧ Blk W gj 120 #[.slice A1 t.places.length cp1, .slice A2 t.shows.length cp2, .slice A3 t.times.length cp3, .slice A4 t.streets.length cp4, .int .i64 k.a, .int .i64 k.b, .int .i64 k.show_, .int .i64 k.time, .slice Ac k.closed.length cc, .slice (some ⟨gi, 0, none⟩) t.places.length t.places.length, .map (some gm)] ∧ Blk W g8 109 #[.pointer (some ⟨gj, 0, none⟩)] ∧ Blk W gb 109 #[.pointer (some ⟨gj, 0, none⟩)] ∧ Blk W g6 90 #[.slice A1 t.places.length cp1, .slice A2 t.shows.length cp2, .slice A3 t.times.length cp3, .slice A4 t.streets.length cp4] ∧ MapM kvI W gm (fun _ => none) ∧ ∃ vs, vs.length = t.places.length ∧ IntoI w.heap.size (fun q => t.intoOf pre q) gi vs W)
          (fun _ _ _ => False) ?hI ?hIx ?hDt ?h0 ?body ?done ?stop
         case hI =>
          rintro pre A B row ⟨i1, i2, i3, i4, i5, i6, vs, i7, i8⟩ hg hr
          exact ⟨i1.grown hg i1.size (fun r e => Nat.le_trans hEz.size (hr r e).1), Blk.abide i2 hg hr, Blk.abide i3 hg hr, Blk.abide i4 hg hr, Blk.abide i5 hg hr, MapM.grown i6 hg (fun e => by have := (hr gm e.symm).1; omega), vs, i7, i8.abide hg hr⟩
         case hIx => exact fun _ _ _ _ _ h => h.elim
         case hDt =>
          rintro pre A ⟨i1, i2, i3, i4, i5, i6, vs, i7, i8⟩
          exact ⟨i4, ⟨i2, hTp.ext i1, hCw.ext i1⟩⟩
         case h0 =>
          refine ⟨hEz, hBj, hB8, hBb, hB6, hM, _, by simp, ⟨hBi0, fun q hq => ?_, fun q q' hq hq' _ => .inl (by simp [Value.ownBlock])⟩⟩
          rw [List.getElem_replicate]
          exact OwnAt.nil _ _ _ _
         case body =>
          rintro l pre ⟨st, bk⟩ kx W ⟨i1, hBj, hB8, hBb, hB6, hM, vs, hvl, hInto⟩ ⟨m, hm⟩ hkx hBx hlen hsz
          have hx : (⟨st, bk⟩ : Step) ∈ t.stepsAll k := List.mem_of_mem_take (i := m) (by rw [← hm]; simp)
          have hst' := (Town.mem_stepsAll.1 hx).1
          obtain ⟨n, rfl, hn⟩ := nat_in hst'
          obtain ⟨qn, hqn, hqlt⟩ := nat_in (HK.out.ok.ends hst').2
          have hn' : n < t.streets.length := by omega
          have hql : qn < vs.length := by omega
          have hTw := TownV.of (hTp.ext i1)
          have Hr := Lib.hid (fun q : Nat => Town.intoOf_snoc t pre ⟨(n : Int), bk⟩ q)
          have Hqn := Lib.hid hqn
          simp only [encStep, roundAct1, Act.put, List.setIfInBounds_toArray, List.set_cons_zero, List.set_cons_succ]
          refine wpIn_block ?_
          refine wpIn_seq ?_
          refine regionIn_lit (by rintro ⟨_, _, h⟩; exact h) (by kernel_rfl) ?_
          have hX := Ext.refl W
          go_wp2_with (first | ((with_reducible refine q_load (d := some 72) (hl := ld_ptownB hB6) ?_ ?_); rfl) | ((with_reducible refine q_load (d := some 73) (hl := ld_stepB hBx) ?_ ?_); rfl) | (go_at_call 65; refine (pends_any _ t n bk _ hTw hn').mono ?_; rintro e We ⟨rfl, hEe⟩; rw [Hqn.out]; replace hX := hX.trans hEe; replace hBj := hBj.ext hEe; replace hB8 := hB8.ext hEe; replace hBx := hBx.ext hEe; replace hInto := hInto.ext hEe))
          clear hTw hm hx hst'
          have hO := hInto.own qn hql
          have hlenr : (t.intoOf pre (qn : Int)).length ≤ 1000000000 := Nat.le_trans (t.intoOf_len pre qn) (by omega)
          have hcq := hInto.at_ hql
          obtain ⟨v, hv⟩ : ∃ v, vs[qn] = v := ⟨_, rfl⟩
          rw [hv] at hO hcq
          have z1 : (qn : Int) < (t.places.length : Int) := by omega
          have hbase := Nat.le_trans i1.size hX.size
          have k8 := hB8.d; have kj := hBj.d; have kx' := hBx.d; have ki := hInto.blk.d
          have kO := hO.ext (Ext.todrew (Ext.refl We))
          have kcq := Ext.cell_some (Ext.todrew (Ext.refl We)) hcq
          have hXd := Ext.todrew (Ext.refl We)
          refine wpIn_region_tree (.take 0 (.take 1 (.take 2 (.take 3 (.take 4 (.take 5 (.take 6 (.take 7 (.take 8 (.take 9 (.take 10 (.two 11 (.one 12 (.one 13 (.one 14 (.take 15 (.one 16 .nil))))) 12 (.two 11 (.one 13 (.one 14 (.take 15 (.one 16 .nil)))) 13 (.one 11 (.one 14 (.take 15 (.one 16 .nil))))))))))))))))) (fun w' => Blk w' g8 109 #[.pointer (some ⟨gj, 0, none⟩)] ∧ Blk w' gj 120 #[.slice A1 t.places.length cp1, .slice A2 t.shows.length cp2, .slice A3 t.times.length cp3, .slice A4 t.streets.length cp4, .int .i64 k.a, .int .i64 k.b, .int .i64 k.show_, .int .i64 k.time, .slice Ac k.closed.length cc, .slice (some ⟨gi, 0, none⟩) t.places.length t.places.length, .map (some gm)]) (by kernel_rfl) (by kernel_rfl) (by rintro ⟨_, _, h⟩; exact h) (by kernel_rfl) (by kernel_rfl) (by kernel_rfl) (fun _ _ _ _ _ h => h) ?_ (fun hHeld => ?_)
          ·(first | exact True.intro | ((try dsimp only); (repeat' apply And.intro) <;> first | assumption | (refine Ext.cell_some (Ext.todrew (Ext.refl _)) ?_; assumption)))
          repeat' first | ((with_reducible refine t_tk ?_); first | ((with_reducible refine t_tk (i := 0) ?_); refine tk (v := .pointer (some ⟨gj, 0, none⟩)) ?_ hHeld ?_; (· exact run_ld (by rfl) (fun W h => load_one Tryz.underlying109 rfl (by simpa using h.1.cell 0))); (try simp only [pS])) | ((with_reducible refine t_tk (i := 3) ?_); refine tk (v := .slice (some ⟨gi, 0, none⟩) t.places.length t.places.length) ?_ hHeld ?_; (· exact run_ld (by rfl) (fun W h => load_one Tryz.underlying117 rfl (by simpa using h.2.cell 9))); (try simp only [pS])) | ((with_reducible refine t_tk (i := 5) ?_); refine tk (v := .pointer (some ⟨gj, 0, none⟩)) ?_ hHeld ?_; (· exact run_ld (by rfl) (fun W h => load_one Tryz.underlying109 rfl (by simpa using h.1.cell 0))); (try simp only [pS])) | ((with_reducible refine t_tk (i := 8) ?_); refine tk (v := .slice (some ⟨gi, 0, none⟩) t.places.length t.places.length) ?_ hHeld ?_; (· exact run_ld (by rfl) (fun W h => load_one Tryz.underlying117 rfl (by simpa using h.2.cell 9))); (try simp only [pS])) | (refine tk (v := ?_) ?_ hHeld ?_; rotate_left; (· (intro wq hSw; (try dsimp only at hSw); go_simp; (try with_reducible rfl))); (try simp only [pS]))) | ((with_reducible refine t_on ?_); refine t_one (by simp only [gS]; rfl) ?_) | ((with_reducible refine t_tw ?_); refine t_two (by simp only [gS]; rfl) (by simp only [gS]; rfl) ?_ ?_) | ((with_reducible refine q_gd (d := some 88) ?_); (((with_reducible refine q_load (d := some 88) (p := ⟨gi, qn, none⟩) (v := v) ?_ ?_ ?_); rfl; exact load_one Tryz.underlying32 rfl kcq))) | ((with_reducible refine q_gd (d := some 89) ?_); (((with_reducible refine q_load (d := some 89) (hl := ld_stepB kx') ?_ ?_); rfl))) | ((with_reducible refine q_gd (d := some 90) ?_); (((with_reducible refine q_bsSt (d := some 90) (p := n) (q := bk) ?_ ?_); rfl; intro W90 g90 hE90 hB90 hg90; replace hXd := hXd.trans hE90; replace k8 := k8.ext hE90; replace kj := kj.ext hE90; replace ki := ki.ext hE90; replace kO := kO.ext hE90; replace kcq := Ext.cell_some hE90 kcq))) | ((with_reducible refine q_gd (d := some 91) ?_); (((with_reducible refine q_appAt (d := some 91) (y := ⟨(n : Int), bk⟩) ?_ kO ?_ hB90 hlenr ?_ ?_); rfl; rfl; exact Nat.le_trans hbase hXd.size; intro v' W91 hO91 hg91 hn91; replace k8 := k8.grown hg91 (kO.blk_ne k8 (by decide)); replace kj := kj.grown hg91 (kO.blk_ne kj (by decide)); replace ki := ki.grown hg91 (kO.blk_ne ki (by decide))))) | ((with_reducible refine q_gd (d := none) ?_); (((with_reducible refine q_store1 (t := 32) (e := 32) (g := gi) (off := qn) (v := v') ?_ ?_ ki sizeSteps ?_ ?_ ?_ ?_); rfl; rfl; exact sl_cells hO91.sl; (simp; omega); exact one_sl hO91.sl; intro Ws hBs hgrs; simp at hBs; replace k8 := k8.grown hgrs (fun e => blk_ne k8 ki (by decide) (Option.some.inj e)); replace kj := kj.grown hgrs (fun e => blk_ne kj ki (by decide) (Option.some.inj e))))) | ((with_reducible refine q_nl ?_); clear hHeld; refine t_next ?_ (fun hHeld => ?_); (· (first | exact True.intro | ((try dsimp only); (repeat' apply And.intro) <;> first | assumption | (refine Ext.cell_some (Ext.todrew (Ext.refl _)) ?_; assumption)))); (try simp only [pS])) | (with_reducible refine t_done ?_)
          all_goals (have hXw := hX.trans hXd; have b1 := hBb.ext hXw; have b2 := b1.grown hg91 (kO.blk_ne b1 (by decide)); have b3 := b2.grown hgrs (fun e => blk_ne b2 ki (by decide) (Option.some.inj e)); have d1 := hB6.ext hXw; have d2 := d1.grown hg91 (kO.blk_ne d1 (by decide)); have d3 := d2.grown hgrs (fun e => blk_ne d2 ki (by decide) (Option.some.inj e)); have m1 := MapM.ext hM hXw; have m2 := MapM.grown m1 hg91 (kO.map_ne m1); have m3 := MapM.grown m2 hgrs (fun e => MapM.notblk m2 ki (Option.some.inj e));                        have hIs := IntoI.step (W := We) hInto hql hXd (by rw [hv]; exact hg91) hO91 (by rw [hv]; exact hn91) hgrs (by simpa using hBs) ki;  exact ⟨((UpT.ofExt hXw).trans (UpT.grown hg91 (fun g e => .inr (kO.row g e).2))).trans (UpT.grown hgrs (fun g e => by cases e; exact .inl hBilt)), ((i1.trans hXw).grown hg91 (i1.trans hXw).size (fun g e => (kO.row g e).1)).grown hgrs (Nat.le_trans (i1.trans hXw).size hg91.size) (fun g e => by cases e; exact hgi0), kj, k8, b3, d3, m3, vs.set qn v', by simpa using hvl, hIs.congr (fun q _ => by rw [Hr.out q, Hqn.out]; by_cases e : q = qn; (subst e; simp); (rw [if_neg e, if_neg (by omega)]))⟩)
         case done =>
          rintro D xs W hD rfl ⟨i1, hBj, hB8, hBb, hB6, hM, vs, hvl, hInto⟩ hK
          have c8 := hB8.cell 0
          simp at c8
          have Hend := Lib.hid (⟨below_put i1 (Nat.le_trans hEz.size hD) (.deferred none), hTp.ext i1⟩ : _ ∧ _)
          have HK2 := Lib.hid hK
          have gjD : gj ≠ D := by
           rintro rfl
           unfold Blk at hBj; rw [hBj] at hK; cases hK
          have gmD : gm ≠ D := by
           rintro rfl
           obtain ⟨es, c, h1, _⟩ := hM
           rw [h1] at hK; cases hK
          clear hK
          go_wp2
          refine postM_mark rfl HK2.out ?_
          go_ret2
          obtain ⟨hEnd, hTown⟩ := Hend.out
          refine ⟨hEnd, .inr ⟨HTe.out, gj, gi, gm, _, _, _, _, _, vs, rfl, hTp, hCw, hgj0, hgi0, hgm0, ⟨⟨(World.putObj_heap_other gjD).trans hBj, hTp.ext hEnd, hCw.ext hEnd⟩, ?_, hvl, ?_⟩⟩⟩
          ·exact hInto.abide (C := 0) (grownBy_putObj' W D (.deferred none)) (fun r e => by cases e; exact ⟨Nat.zero_le _, _, HK2.out, rfl⟩)
          ·have := MapM.grown hM (grownBy_putObj' W D (.deferred none)) (fun e => gmD (Option.some.inj e))
           rwa [show costM (fun _ _ => none) = (fun _ => none) by funext x; rfl]
         case stop => exact fun _ _ _ _ _ _ h _ => h.elim
 ·have Hoe := Lib.hid (show t.openErr [k.a, k.b] = t.check.2.2 by unfold Town.openErr; rw [if_pos hce])
  have HTe := Lib.hid (show t.taskErr k = t.check.2.2 by unfold Town.taskErr; rw [if_pos hce])
  have q1 : (t.check.2.2 != 0) = true := by simp [hce]
  have Hce := Lib.hid hce
  clear hce
  go_enter Tryz.func62, Tryz.ntmps62
  go_wp2_with (first | (((with_reducible refine q_load (d := some 13) (hl := ld_townB hB2) ?_ ?_); rfl)) | ((with_reducible refine q_bl2 (d := some 18) (n0 := k.a) (n1 := k.b) ?_ ?_ ?_); rfl; rfl; intro W18 g18 hE18 hB18 hg18; (try replace hE := hE.trans hE18); (try replace hT0 := hT0.ext hE18); (try replace hC0 := hC0.ext hE18); (try replace hB3 := hB3.ext hE18); (try replace hb3_2 := Ext.cell_some hE18 hb3_2); (try replace hb3_3 := Ext.cell_some hE18 hb3_3); (try replace hb3_4 := Ext.cell_some hE18 hb3_4); have hI18 : Ints W18 (.slice (some ⟨g18, 0, none⟩) 2 2) [k.a, k.b] := ints_blk2 hB18; clear hB18 hg18 hE18) | (go_at_call 57; ((with_reducible refine (popen_any _ _ t [k.a, k.b] _ (by exact hT0) (by exact hI18)).mono ?_); rintro e WcP ⟨rfl, hEcP⟩; (try replace hE := hE.trans hEcP); (try replace hT0 := hT0.ext hEcP); (try replace hC0 := hC0.ext hEcP); (try replace hB3 := hB3.ext hEcP); (try replace hb3_2 := Ext.cell_some hEcP hb3_2); (try replace hb3_3 := Ext.cell_some hEcP hb3_3); (try replace hb3_4 := Ext.cell_some hEcP hb3_4); rw [Hoe.out])) | ((with_reducible refine q_newvar (e := 90) (u := 6) (v := .agg #[.slice A1 t.places.length cp1, .slice A2 t.shows.length cp2, .slice A3 t.times.length cp3, .slice A4 t.streets.length cp4]) ti90 ?_ ?_ ?_ ?_ ?_ ?_); (intro g; rfl); (intro g; rfl); rfl; rfl; (simp [Value.cells, Value.oneCell']); intro W6 g6 hE6 hB6 hg6; simp [Value.cells] at hB6; (try replace hE := hE.trans hE6); (try replace hT0 := hT0.ext hE6); (try replace hC0 := hC0.ext hE6); (try replace hB3 := hB3.ext hE6); (try replace hb3_2 := Ext.cell_some hE6 hb3_2); (try replace hb3_3 := Ext.cell_some hE6 hb3_3); (try replace hb3_4 := Ext.cell_some hE6 hb3_4); have hb6_0 := hB6.cell 0; have hb6_1 := hB6.cell 1; have hb6_2 := hB6.cell 2; have hb6_3 := hB6.cell 3; simp at hb6_0 hb6_1 hb6_2 hb6_3; clear hE6) | ((with_reducible refine q_box (d := some 2) ?_); intro W2 g2 hE2 hB2 hg2; simp [Act.eval, Act.put, Value.cells] at hB2; (try replace hE := hE.trans hE2); (try replace hT0 := hT0.ext hE2); (try replace hC0 := hC0.ext hE2); have hb2_0 := hB2.cell 0; have hb2_1 := hB2.cell 1; have hb2_2 := hB2.cell 2; have hb2_3 := hB2.cell 3; simp at hb2_0 hb2_1 hb2_2 hb2_3; clear hE2) | ((with_reducible refine q_box (d := some 3) ?_); intro W3 g3 hE3 hB3 hg3; simp [Act.eval, Act.put, Value.cells] at hB3; (try replace hE := hE.trans hE3); (try replace hT0 := hT0.ext hE3); (try replace hC0 := hC0.ext hE3); (try replace hB2 := hB2.ext hE3); have hb3_0 := hB3.cell 0; have hb3_1 := hB3.cell 1; have hb3_2 := hB3.cell 2; have hb3_3 := hB3.cell 3; have hb3_4 := hB3.cell 4; simp at hb3_0 hb3_1 hb3_2 hb3_3 hb3_4; clear hE3))
  go_ret2
  exact ⟨hE, .inl ⟨by rw [HTe.out]; exact Hce.out, by first | (rw [HTe.out]; done) | (rw [HTe.out]; rfl)⟩⟩
end Go.St
end
section
namespace Go.St
open Go Go.Bp Go.RowKit Go.Proofs
theorem bits_and_ok : ((List.range 64).all fun a => (List.range 64).all fun b => decide (bits .and .i64 (a : Int) (b : Int) = ((a &&& b : Nat) : Int)) && decide (bits .andNot .i64 (a : Int) (b : Int) = lessI (a : Int) (b : Int))) = true := by decide +kernel
theorem bits_and {a b : Nat} (h : a < 64) (h2 : b < 64) : bits .and .i64 (a : Int) (b : Int) = ((a &&& b : Nat) : Int) := by
 have := List.all_eq_true.1 (List.all_eq_true.1 bits_and_ok a (List.mem_range.2 (by omega))) b (List.mem_range.2 (by omega))
 rw [Bool.and_eq_true] at this
 exact of_decide_eq_true this.1
theorem bits_less {a b : Nat} (h : a < 64) (h2 : b < 64) : bits .andNot .i64 (a : Int) (b : Int) = lessI (a : Int) (b : Int) := by
 have := List.all_eq_true.1 (List.all_eq_true.1 bits_and_ok a (List.mem_range.2 (by omega))) b (List.mem_range.2 (by omega))
 rw [Bool.and_eq_true] at this
 exact of_decide_eq_true this.2
theorem grown_over {A B C : World} {r : Option Nat} {g : Nat} (h : A.grownBy B r) (k : B.grownBy C (some g)) (hg : A.heap.size ≤ g) : A.grownBy C r :=
 ⟨k.os.trans h.os, k.tape.trans h.tape, k.output.trans h.output, Nat.le_trans h.size k.size, fun i hi hn => (k.block i (Nat.lt_of_lt_of_le hi h.size) (fun e => by have := Option.some.inj e; omega)).trans (h.block i hi hn)⟩
structure Job0 (Wb w : World) (gj gi gm : Nat) (pv sv tv xv cv : Value) (vs : List Value) (t : Town) (k : Task) : Prop where
 base : Ext Wb w
 town : TownP Wb pv sv tv xv t
 closed : Ints Wb cv k.closed
 bm : Wb.heap.size ≤ gm
 job : Blk w gj 120 #[pv, sv, tv, xv, .int .i64 k.a, .int .i64 k.b, .int .i64 k.show_, .int .i64 k.time, cv, .slice (some ⟨gi, 0, none⟩) t.places.length t.places.length, .map (some gm)]
 into : IntoI Wb.heap.size (fun q => t.into k q) gi vs w
 len : vs.length = t.places.length
 map : ∃ m, MapM kvI w gm m
section
variable {Wb w W : World} {gj gi gm : Nat} {pv sv tv xv cv : Value} {vs : List Value} {t : Town} {k : Task}
theorem Job0.gm_lt (h : Job0 Wb w gj gi gm pv sv tv xv cv vs t k) : gm < w.heap.size := by
 obtain ⟨m, hm⟩ := h.map; exact hm.lt
theorem Job0.gmap (h : Job0 Wb w gj gi gm pv sv tv xv cv vs t k) : ∃ o : Obj, w.heap[gm]? = some o ∧ o.isCells = false := by
 obtain ⟨m, es, c, h1, _⟩ := h.map; exact ⟨_, h1, rfl⟩
theorem Job0.at_ (h : Job0 Wb w gj gi gm pv sv tv xv cv vs t k) (hG : w.grownBy W (some gm)) : JobAt W gj pv sv tv xv cv (.slice (some ⟨gi, 0, none⟩) t.places.length t.places.length) (.map (some gm)) t k := by
 obtain ⟨o, h1, h2⟩ := h.gmap
 have hE : Ext Wb W := h.base.grown hG h.base.size (fun r e => by cases e; exact h.bm)
 exact ⟨Blk.abide (B := 0) h.job hG (fun r e => by cases e; exact ⟨Nat.zero_le _, o, h1, h2⟩), h.town.ext hE, h.closed.ext hE⟩
theorem Job0.rows (h : Job0 Wb w gj gi gm pv sv tv xv cv vs t k) (hG : w.grownBy W (some gm)) : IntoI Wb.heap.size (fun q => t.into k q) gi vs W := by
 obtain ⟨o, h1, h2⟩ := h.gmap
 exact h.into.abide (C := 0) hG (fun r e => by cases e; exact ⟨Nat.zero_le _, o, h1, h2⟩)
theorem todo_sort {g o cap n : Nat} {cur : Array Value} {T : Tab} {todo : List (Int × Int)} (hJ : Blk W gj 120 #[pv, sv, tv, xv, .int .i64 k.a, .int .i64 k.b, .int .i64 k.show_, .int .i64 k.time, cv, .slice (some ⟨gi, 0, none⟩) t.places.length t.places.length, .map (some gm)])
  (hM : MapM kvI W gm (costM T)) (hR : Row W 113 g o cap cur todo) (hn : todo.length = n) (h0 : 0 < n) (hl : n ≤ 60000) :
  Calls Tryz.prog 96 #[.slice (some ⟨g, o, none⟩) n cap, .func (.func 97) #[.pointer (some ⟨gj, 0, none⟩)] #[]] W (fun e W' => (∃ u, e = .returned u) ∧ W.grownBy W' (some g) ∧ MapM kvI W' gm (costM T) ∧ ∃ todo' cur, todo'.Perm todo ∧ Row W' 113 g o cap cur todo') := by
 subst hn
 have hne : g ≠ gm := fun e => MapM.notblk hM hR.blk e.symm
 refine (sort_any (.pointer (some ⟨gj, 0, none⟩)) g o cap cur todo W hR ?_ h0 hl).mono ?_
 ·intro W' hg x y
  have hj := hJ.grown hg (fun e => blk_ne hJ hR.blk (by decide) (Option.some.inj e))
  have c10 := hj.cell 10
  simp at c10
  exact pcompare_any gj gm T x y W' c10 (MapM.grown hM hg (fun e => hne (Option.some.inj e).symm))
 ·rintro e W' ⟨hv, hg, cur', todo', hR', hp⟩
  exact ⟨hv, hg, MapM.grown hM hg (fun e => hne (Option.some.inj e).symm), todo', cur', hp, hR'⟩
theorem todo_tail {B g o cap : Nat} {cur : Array Value} {x : Int × Int} {rst : List (Int × Int)} (hR : Row W 113 g o cap cur (x :: rst)) (hb : B ≤ g) (hc : cap ≤ maxLen) : OwnAt W B 113 2 (.slice (some ⟨g, o + 2, none⟩) rst.length (cap - 1)) rst.length (encSd rst) := by
 have h := own_row hR hb hc
 rw [List.length_cons] at h
 exact OwnAt.tail (ys := encP x) h rfl
theorem todo_tail1 {B g o : Nat} {cur : Array Value} {x : Int × Int} {rst : List (Int × Int)} (hR : Row W 113 g o 1 cur (x :: rst)) (hb : B ≤ g) : OwnAt W B 113 2 (.slice (some ⟨g, o, none⟩) rst.length 0) rst.length (encSd rst) := by
 have h := hR.len
 have h2 := hR.fit
 rw [List.length_cons] at h
 have h0 : rst = [] := List.eq_nil_of_length_eq_zero (by omega)
 subst h0
 exact ⟨rfl, .inr ⟨g, o, 0, cur, rfl, hb, hR.blk, Nat.le_refl _, by decide, by omega, by simp [encSd]⟩⟩
structure SNow (w wr : World) (gm g4 g5 : Nat) (q z : Int) (c : Int × Int) (T : Tab) (todo : List (Int × Int)) (v : Value) : Prop where
 G : w.grownBy wr (some gm)
 M : MapM kvI wr gm (costM T)
 O : OwnAt wr w.heap.size 113 2 v todo.length (encSd todo)
 B4 : Blk wr g4 113 #[.int .i64 q, .int .i64 z]
 B5 : Blk wr g5 115 #[.int .i64 c.1, .int .i64 c.2]
 ne : some g4 ≠ v.ownBlock
theorem SNow.ext {wr wr' : World} {g4 g5 : Nat} {q z : Int} {c : Int × Int} {T : Tab} {todo : List (Int × Int)} {v : Value} (h : SNow w wr gm g4 g5 q z c T todo v) (e : Ext wr wr') : SNow w wr' gm g4 g5 q z c T todo v :=
 ⟨grown_then h.G e, MapM.ext h.M e, h.O.ext e, h.B4.ext e, h.B5.ext e, h.ne⟩
theorem grown_own {A B C : World} {r : Option Nat} {e : TypeId} {size n : Nat} {v : Value} {xs : List Value} (h : A.grownBy B r) (hO : OwnAt B A.heap.size e size v n xs) (k : B.grownBy C v.ownBlock) : A.grownBy C r :=
 ⟨k.os.trans h.os, k.tape.trans h.tape, k.output.trans h.output, Nat.le_trans h.size k.size, fun i hi hn => (k.block i (Nat.lt_of_lt_of_le hi h.size) (fun e => by have := (hO.lt i e.symm).1; omega)).trans (h.block i hi hn)⟩
theorem SNow.upd {wr W : World} {g4 g5 : Nat} {q z : Int} {c : Int × Int} {T T' : Tab} {todo : List (Int × Int)} {v : Value} (h : SNow w wr gm g4 g5 q z c T todo v) (hM : MapM kvI W gm (costM T')) (hg : wr.grownBy W (some gm)) : SNow w W gm g4 g5 q z c T' todo v :=
 ⟨grown_trans h.G hg, hM, h.O.kept hg (.inr (fun e => h.O.map_ne h.M e.symm)), h.B4.grown hg (fun e => MapM.notblk h.M h.B4 (Option.some.inj e).symm), h.B5.grown hg (fun e => MapM.notblk h.M h.B5 (Option.some.inj e).symm), h.ne⟩
theorem SNow.app {wr W : World} {g4 g5 : Nat} {q z : Int} {c x : Int × Int} {T : Tab} {todo : List (Int × Int)} {v v' : Value} (h : SNow w wr gm g4 g5 q z c T todo v) (hg : wr.grownBy W v.ownBlock) (hO : OwnAt W w.heap.size 113 2 v' (todo ++ [x]).length (encSd (todo ++ [x])))
  (hn : ∃ g, v'.ownBlock = some g ∧ (v.ownBlock = some g ∨ wr.heap.size ≤ g)) : SNow w W gm g4 g5 q z c T (todo ++ [x]) v' := by
 refine ⟨grown_own h.G h.O hg, MapM.grown h.M hg (h.O.map_ne h.M), hO, h.B4.grown hg h.ne, h.B5.grown hg (h.O.blk_ne h.B5 (by decide)), ?_⟩
 obtain ⟨g, h1, h2⟩ := hn
 rw [h1]
 intro e
 cases e
 rcases h2 with h2 | h2
 ·exact h.ne h2.symm
 ·have := h.B4.lt; omega
theorem into_step (hk : Town.TaskOk t k) {q : Int} {i : Nat} (hi : i < (t.into k q).length) : ∃ (n pn u : Nat) (b : Bool), (t.into k q)[i] = ⟨(n : Int), b⟩ ∧ n < t.streets.length ∧ (t.ends ⟨(n : Int), b⟩).1 = (pn : Int) ∧ pn < t.places.length ∧ (t.ends ⟨(n : Int), b⟩).2 = q ∧ t.shownAt k.time ⟨(n : Int), b⟩ = (u : Int) ∧ u < 64 ∧ 1 ≤ (t.at_ (n : Int)).metres ∧ (t.at_ (n : Int)).metres ≤ 10000 := by
 obtain ⟨x, hx⟩ : ∃ x, (t.into k q)[i] = x := ⟨_, rfl⟩
 have hm : x ∈ t.into k q := by rw [← hx]; exact List.getElem_mem hi
 obtain ⟨h1, h2⟩ := (Town.mem_into t k).1 hm
 have h3 := (Town.mem_stepsAll.1 h1).1
 obtain ⟨st, bk⟩ := x
 obtain ⟨n, rfl, hn⟩ := nat_in h3
 obtain ⟨pn, h4, h5⟩ := nat_in (hk.ok.ends h3).1
 have h6 := hk.ok.atI h3
 obtain ⟨_, h7, h8⟩ := hk.ok.shown h6 hk.time
 have h9 := (Town.sets_bd hk.ok.sh).2
 have h10 := inB_t.1 h6.m
 refine ⟨n, pn, (t.shownAt k.time ⟨(n : Int), bk⟩).toNat, bk, hx, by omega, h4, by omega, h2, ?_, ?_, h10.1, h10.2⟩
 ·unfold Town.shownAt; omega
 ·unfold Town.shownAt; omega
theorem Job0.step {qn i cr : Nat} {ad : Addr} (h : Job0 Wb w gj gi gm pv sv tv xv cv vs t k) (hG : w.grownBy W (some gm)) (hq : qn < vs.length) (hv : vs[qn] = .slice (some ad) (t.into k (qn : Int)).length cr) (hi : i < (t.into k (qn : Int)).length) :
  Cells W ad (encSt (t.into k (qn : Int))) := by
 have h1 := (h.rows hG).own qn hq
 rw [hv] at h1
 obtain ⟨A, c, e, _, _, _, h4⟩ := h1.sl
 obtain ⟨ad', e2, h5⟩ := h4 (by omega)
 cases e
 cases e2
 exact h5
end
section
variable {ops : Array Oper} {Q : Exit → Act → World → Prop} {a : Act} {w : World} {d : Option Tmp} {ty : TypeId} {pos : String} {after : Array Edge} {rest : List Oper}
theorem q_updC {x y z : Operand} {gm : Nat} {T : Tab} {p s : Int} {c : Int × Int} (hM : MapM kvI w gm (costM T)) (hx : a.eval x = .map (some gm)) (hy : a.eval y = .agg #[.int .i64 p, .int .i64 s]) (hz : a.eval z = .agg #[.int .i64 c.1, .int .i64 c.2])
  (k : ∀ W, MapM kvI W gm (costM (put T p s c)) → w.grownBy W (some gm) → wpList Tryz.prog ops Q rest (a.put d undef) W) :
  wpList Tryz.prog ops Q (⟨d, .mapUpdate 118 x y z, ty, pos, after, none⟩ :: rest) a w := by
 obtain ⟨W, h1, h2, h3⟩ := kf_update (pairKeys pairStand) Tryz.underlying118 hM (p, s) (kvI c)
 rw [costM_put] at h2
 refine q_skip rfl (W := W) ?_ (k W h2 h3)
 simp only [execOp, hx, hy, hz]
 rw [show (Value.agg #[Value.int .i64 p, Value.int .i64 s]) = kvI (p, s) from rfl, show (Value.agg #[Value.int .i64 c.1, Value.int .i64 c.2]) = kvI c from rfl]
 simp [h1]
theorem q_bsSd {x : Operand} {p q : Int} (hx : a.eval x = .agg #[.int .i64 p, .int .i64 q])
  (k : ∀ W g, Ext w W → Blk W g 113 #[.int .i64 p, .int .i64 q] → w.heap.size ≤ g → wpList Tryz.prog ops Q rest (a.put d (.slice (some ⟨g, 0, none⟩) 1 1)) W) :
  wpList Tryz.prog ops Q (⟨d, .buildSlice 160 1 #[(0, x)], ty, pos, after, none⟩ :: rest) a w :=
 q_bslice (by have := run_bslice2 Tryz.prog w (v := a.eval x) (a := .int .i64 p) (b := .int .i64 q) Tryz.underlying160 (ti2 ti113) rfl (by rw [hx]; rfl); simpa using this) k
theorem q_appSd {s x : Operand} {B g : Nat} {v : Value} {xs : List (Int × Int)} {y : Int × Int} (hs : a.eval s = v) (hO : OwnAt w B 113 2 v xs.length (encSd xs)) (hx : a.eval x = .slice (some ⟨g, 0, none⟩) 1 1) (hb : Blk w g 113 #[.int .i64 y.1, .int .i64 y.2]) (hlen : xs.length ≤ 1000000000) (hB : B ≤ w.heap.size)
  (k : ∀ v' W, OwnAt W B 113 2 v' (xs ++ [y]).length (encSd (xs ++ [y])) → w.grownBy W v.ownBlock → (∃ g, v'.ownBlock = some g ∧ (v.ownBlock = some g ∨ w.heap.size ≤ g)) → wpList Tryz.prog ops Q rest (a.put d v') W) :
  wpList Tryz.prog ops Q (⟨d, .call { callee := .builtin .append, args := #[s, x], argTypes := #[160, 160] }, ty, pos, after, none⟩ :: rest) a w := by
 obtain ⟨i, hi, hz, hs1, hb1⟩ := info_parts ti113
 refine wpList_append_at w rfl s x 160 rfl B 113 i _ 2 16 Tryz.underlying160 hi hz hs1 hb1 rfl (by decide) v xs.length (encSd xs) hs hO ⟨g, 0, none⟩ 1 1 [.int .i64 y.1, .int .i64 y.2] hx rfl (fun j u hu => hb.cells j u hu) (by simp [Value.oneCell']) (by decide) (by unfold maxLen; omega) (by omega) hB ?_
 intro v' W h1 h2 h3
 refine k v' W ?_ h2 h3
 have e : encSd (xs ++ [y]) = encSd xs ++ [.int .i64 y.1, .int .i64 y.2] := by rw [encSd_app]; rfl
 rw [e, List.length_append]
 exact h1
end
end Go.St
end
