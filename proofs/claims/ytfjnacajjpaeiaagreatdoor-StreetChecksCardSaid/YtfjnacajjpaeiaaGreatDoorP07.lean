/- Chapter 03: contracts of functions of the program and of the reference, and plain laws (out of SP5 SP6 SW4 StQ). No condition of its own. -/
import Derived.BigQuiet
import Derived.Deep.AppendLies
import Derived.Deep.Draws
import Derived.Deep.LoopGhost
import Derived.Deep.QuietTactic
import Derived.Deep.RegionHeld3
import Derived.Laws.CopyOwn
import Derived.Laws.RangeAny
import Derived.Laws.StructEq
import Derived.Lib.AtoiAll
import Derived.Lib.Hide
import Derived.Lib.IndexAny
import Derived.Lib.IndexLaws
import Derived.Lib.ItoaMem
import Derived.Lib.Split
import Derived.Maps.AppendAt
import Derived.OrdersHeld
import Derived.OrdersIn
import Derived.RangeFuncLeaves
import Derived.RangeFuncNested
import Derived.Shelf.Abstract
import Derived.Shelf.LaysC
import Derived.Shelf.LaysM
import Derived.Shelf.Small.Strs
import Derived.Shelf.Small.Utf8
import Derived.Shelf.Small.Wraps
import Derived.Shelf.Strconv.Atoi
import Derived.Shelf.Strconv.AtoiAll
import Derived.Shelf.Strconv.AtoiErrFast
import Derived.Shelf.Strconv.AtoiFail
import Derived.Shelf.Strconv.AtoiInnerAll
import Derived.Shelf.Strconv.AtoiLong
import Derived.Shelf.Strconv.Clone
import Derived.Shelf.Strconv.Itoa0
import Derived.Shelf.Strconv.Itoa1
import Derived.Shelf.Strconv.Itoa2
import Derived.Shelf.Strconv.Itoa3
import Derived.Shelf.Strconv.Lower
import Derived.Shelf.Strconv.ParseInt10
import Derived.Shelf.Strconv.ParseIntEmpty
import Derived.Shelf.Strconv.ParseUint10
import Derived.Shelf.Strconv.ParseUint10Any
import Derived.Shelf.Strconv.ParseUint10Empty
import Derived.Shelf.Strconv.RangeError
import Derived.Shelf.Strconv.SyntaxError
import Derived.Shelf.Strconv.ToError
import Derived.Shelf.Strconv.ToErrorRange
import Derived.Shelf.Strings.AsciiSet
import Derived.Shelf.Strings.Builder1
import Derived.Shelf.Strings.BuilderF
import Derived.Shelf.Strings.BuilderK
import Derived.Shelf.Strings.Cut
import Derived.Shelf.Strings.IndexAny
import Derived.Shelf.Strings.IndexAnyAll
import Derived.Shelf.Strings.Runes
import Derived.Shelf.Strings.Search1
import Derived.Shelf.Strings.Search2
import Derived.Shelf.Strings.Shaped
import Derived.TacticsIn
import Derived.Test.YtfjnacajjpaeiaaGreatDoorProg
import Derived.WalkKit
import Derived.WalkLawsBesides
import Derived.WalkSpells
import Derived.Test.YtfjnacajjpaeiaaGreatDoorP01
import Derived.Test.YtfjnacajjpaeiaaGreatDoorP02
import Derived.Test.YtfjnacajjpaeiaaGreatDoorP03
import Derived.Test.YtfjnacajjpaeiaaGreatDoorP04
import Derived.Test.YtfjnacajjpaeiaaGreatDoorP05
import Derived.Test.YtfjnacajjpaeiaaGreatDoorP06
set_option maxRecDepth 100000
set_option linter.unusedSimpArgs false
set_option linter.unusedVariables false
section
namespace Go.St
open Go Go.Bp Go.RowKit Go.Proofs
def Town.openErr (t : Town) (ps : List Int) : Int := if t.check.2.2 ≠ 0 then t.check.2.2 else if outB 0 (t.places.length - 1) ps = true then 4 else 0
def RetVI (w : World) (v : Value) (b : Int) (e : Ending) (w' : World) : Prop := e = .returned (.tuple #[v, .int .i64 b]) ∧ Ext w w'
theorem RetVI.of {w w' : World} {v : Value} {a b : Int} (h : b = a) (e : Ext w w') : RetVI w v b (.returned (.tuple #[v, .int .i64 a])) w' := ⟨by rw [h], e⟩
set_option maxHeartbeats 4000000 in
theorem popen_any (tv pv : Value) (t : Town) (ps : List Int) (w : World) (h : TownV w tv t) (hp : Ints w pv ps) :
  Calls Tryz.prog 57 #[tv, pv] w (RetVI w tv (t.openErr ps)) := by
 have hT0 := h
 obtain ⟨plv, shv, tmv, xv, rfl, hT⟩ := h
 obtain ⟨A1, cp1, rfl, _, hc1, _, _⟩ := hT.places
 obtain ⟨A2, cp2, rfl, _, hc2, _, _⟩ := hT.shows
 obtain ⟨A3, cp3, rfl, _, hc3, _, _⟩ := hT.times
 obtain ⟨A4, cp4, rfl, _, h2, _⟩ := hT.streets
 clear hT
 unfold maxLen at hc1 hc2 hc3 h2
 have hE := Ext.refl w
 by_cases hce : t.check.2.2 = 0
 ·have Hc := Lib.hid (Town.check_zero hce)
  cases q1 : outB 0 (t.places.length - 1) ps with
  | true =>
   have Hr := Lib.hid (show t.openErr ps = 4 by unfold Town.openErr; rw [if_neg (by simp [hce]), if_pos q1])
   clear hce
   go_enter Tryz.func57, Tryz.ntmps57
   go_wp2_with (first | ((with_reducible refine q_alloc (d := some 4) ti90 ?_); intro W4 g4 hE4 hB4 hg4; have hg40 := Nat.le_trans hE.size hg4; simp [Value.cells] at hB4; (try replace hE := hE.trans hE4); (try replace hT0 := hT0.ext hE4); (try replace hp := hp.ext hE4); (try replace hB2 := hB2.ext hE4)) | (((with_reducible refine q_load (d := some 10) (hl := ld_townB hB2) ?_ ?_); rfl)) | (((with_reducible refine q_load (d := some 13) (hl := ld_townB hB2) ?_ ?_); rfl)) | ((with_reducible refine q_newvar (e := 90) (u := 6) (v := .agg #[.slice A1 t.places.length cp1, .slice A2 t.shows.length cp2, .slice A3 t.times.length cp3, .slice A4 t.streets.length cp4]) ti90 ?_ ?_ ?_ ?_ ?_ ?_); (intro g; rfl); (intro g; rfl); rfl; rfl; (simp [Value.cells, Value.oneCell']); intro W6 g6 hE6 hB6 hg6; simp [Value.cells] at hB6; (try replace hE := hE.trans hE6); (try replace hT0 := hT0.ext hE6); (try replace hp := hp.ext hE6); (try replace hB2 := hB2.ext hE6); (try replace hB4 := hB4.ext hE6); have hb6_0 := hB6.cell 0; simp at hb6_0; clear hE6) | (go_at_call 17; ((with_reducible refine (PCheck_any _ t _ (by exact hT0)).mono ?_); rintro e WcC ⟨rfl, hEcC⟩; (try replace hE := hE.trans hEcC); (try replace hp := hp.ext hEcC); (try replace hB4 := hB4.ext hEcC); (try replace hB6 := hB6.ext hEcC); (try replace hb6_0 := Ext.cell_some hEcC hb6_0); rw [Hc.out])) | (go_at_call 46; ((with_reducible refine ((pout_v (by exact hp) q1)).mono ?_); rintro e WcO ⟨rfl, hEcO⟩; (try replace hE := hE.trans hEcO); (try replace hB4 := hB4.ext hEcO); (try replace hB6 := hB6.ext hEcO))) | (((with_reducible refine q_load (d := some 29) (hl := ld_ptownB hB6) ?_ ?_); rfl)) | (((with_reducible refine q_store (t := 90) (e := 90) (g := g4) (off := 0) (n := 4) (v := .agg #[.slice A1 t.places.length cp1, .slice A2 t.shows.length cp2, .slice A3 t.times.length cp3, .slice A4 t.streets.length cp4]) ?_ ?_ hB4 sizePtown ?_ ?_ ?_ ?_); rfl; rfl; rfl; (simp [Value.cells]); (simp [Value.cells, Value.oneCell']); intro Ws hBs hgrs; simp [putAt, Value.cells] at hBs; replace hE := below_grown2 hE hgrs hg40)) | ((with_reducible refine q_box (d := some 2) ?_); intro W2 g2 hE2 hB2 hg2; simp [Act.eval, Act.put, Value.cells] at hB2; (try replace hE := hE.trans hE2); (try replace hT0 := hT0.ext hE2); (try replace hp := hp.ext hE2); clear hE2))
   refine ret_c2 rfl rfl rfl (ld_ptownB hBs) ?_
   exact RetVI.of Hr.out hE
  | false =>
   have Hr := Lib.hid (show t.openErr ps = 0 by unfold Town.openErr; rw [if_neg (by simp [hce]), if_neg (by simp [q1])])
   clear hce
   go_enter Tryz.func57, Tryz.ntmps57
   go_wp2_with (first | ((with_reducible refine q_alloc (d := some 4) ti90 ?_); intro W4 g4 hE4 hB4 hg4; have hg40 := Nat.le_trans hE.size hg4; simp [Value.cells] at hB4; (try replace hE := hE.trans hE4); (try replace hT0 := hT0.ext hE4); (try replace hp := hp.ext hE4); (try replace hB2 := hB2.ext hE4)) | (((with_reducible refine q_load (d := some 10) (hl := ld_townB hB2) ?_ ?_); rfl)) | (((with_reducible refine q_load (d := some 13) (hl := ld_townB hB2) ?_ ?_); rfl)) | ((with_reducible refine q_newvar (e := 90) (u := 6) (v := .agg #[.slice A1 t.places.length cp1, .slice A2 t.shows.length cp2, .slice A3 t.times.length cp3, .slice A4 t.streets.length cp4]) ti90 ?_ ?_ ?_ ?_ ?_ ?_); (intro g; rfl); (intro g; rfl); rfl; rfl; (simp [Value.cells, Value.oneCell']); intro W6 g6 hE6 hB6 hg6; simp [Value.cells] at hB6; (try replace hE := hE.trans hE6); (try replace hT0 := hT0.ext hE6); (try replace hp := hp.ext hE6); (try replace hB2 := hB2.ext hE6); (try replace hB4 := hB4.ext hE6); have hb6_0 := hB6.cell 0; simp at hb6_0; clear hE6) | (go_at_call 17; ((with_reducible refine (PCheck_any _ t _ (by exact hT0)).mono ?_); rintro e WcC ⟨rfl, hEcC⟩; (try replace hE := hE.trans hEcC); (try replace hp := hp.ext hEcC); (try replace hB4 := hB4.ext hEcC); (try replace hB6 := hB6.ext hEcC); (try replace hb6_0 := Ext.cell_some hEcC hb6_0); rw [Hc.out])) | (go_at_call 46; ((with_reducible refine ((pout_v (by exact hp) q1)).mono ?_); rintro e WcO ⟨rfl, hEcO⟩; (try replace hE := hE.trans hEcO); (try replace hB4 := hB4.ext hEcO); (try replace hB6 := hB6.ext hEcO))) | (((with_reducible refine q_load (d := some 30) (hl := ld_ptownB hB6) ?_ ?_); rfl)) | (((with_reducible refine q_store (t := 90) (e := 90) (g := g4) (off := 0) (n := 4) (v := .agg #[.slice A1 t.places.length cp1, .slice A2 t.shows.length cp2, .slice A3 t.times.length cp3, .slice A4 t.streets.length cp4]) ?_ ?_ hB4 sizePtown ?_ ?_ ?_ ?_); rfl; rfl; rfl; (simp [Value.cells]); (simp [Value.cells, Value.oneCell']); intro Ws hBs hgrs; simp [putAt, Value.cells] at hBs; replace hE := below_grown2 hE hgrs hg40)) | ((with_reducible refine q_box (d := some 2) ?_); intro W2 g2 hE2 hB2 hg2; simp [Act.eval, Act.put, Value.cells] at hB2; (try replace hE := hE.trans hE2); (try replace hT0 := hT0.ext hE2); (try replace hp := hp.ext hE2); clear hE2))
   refine ret_c2 rfl rfl rfl (ld_ptownB hBs) ?_
   exact RetVI.of Hr.out hE
 ·have Hr := Lib.hid (show t.openErr ps = t.check.2.2 by unfold Town.openErr; rw [if_pos hce])
  have q0 : (t.check.2.2 != 0) = true := by simp [hce]
  clear hce
  go_enter Tryz.func57, Tryz.ntmps57
  go_wp2_with (first | ((with_reducible refine q_alloc (d := some 4) ti90 ?_); intro W4 g4 hE4 hB4 hg4; have hg40 := Nat.le_trans hE.size hg4; simp [Value.cells] at hB4; (try replace hE := hE.trans hE4); (try replace hT0 := hT0.ext hE4); (try replace hp := hp.ext hE4); (try replace hB2 := hB2.ext hE4)) | (((with_reducible refine q_load (d := some 10) (hl := ld_townB hB2) ?_ ?_); rfl)) | (((with_reducible refine q_load (d := some 13) (hl := ld_townB hB2) ?_ ?_); rfl)) | ((with_reducible refine q_newvar (e := 90) (u := 6) (v := .agg #[.slice A1 t.places.length cp1, .slice A2 t.shows.length cp2, .slice A3 t.times.length cp3, .slice A4 t.streets.length cp4]) ti90 ?_ ?_ ?_ ?_ ?_ ?_); (intro g; rfl); (intro g; rfl); rfl; rfl; (simp [Value.cells, Value.oneCell']); intro W6 g6 hE6 hB6 hg6; simp [Value.cells] at hB6; (try replace hE := hE.trans hE6); (try replace hT0 := hT0.ext hE6); (try replace hp := hp.ext hE6); (try replace hB2 := hB2.ext hE6); (try replace hB4 := hB4.ext hE6); have hb6_0 := hB6.cell 0; simp at hb6_0; clear hE6) | (go_at_call 17; ((with_reducible refine (PCheck_any _ t _ (by exact hT0)).mono ?_); rintro e WcC ⟨rfl, hEcC⟩; (try replace hE := hE.trans hEcC); (try replace hp := hp.ext hEcC); (try replace hB4 := hB4.ext hEcC); (try replace hB6 := hB6.ext hEcC); (try replace hb6_0 := Ext.cell_some hEcC hb6_0))) | (((with_reducible refine q_load (d := some 20) (hl := ld_ptownB hB6) ?_ ?_); rfl)) | (((with_reducible refine q_store (t := 90) (e := 90) (g := g4) (off := 0) (n := 4) (v := .agg #[.slice A1 t.places.length cp1, .slice A2 t.shows.length cp2, .slice A3 t.times.length cp3, .slice A4 t.streets.length cp4]) ?_ ?_ hB4 sizePtown ?_ ?_ ?_ ?_); rfl; rfl; rfl; (simp [Value.cells]); (simp [Value.cells, Value.oneCell']); intro Ws hBs hgrs; simp [putAt, Value.cells] at hBs; replace hE := below_grown2 hE hgrs hg40)) | ((with_reducible refine q_box (d := some 2) ?_); intro W2 g2 hE2 hB2 hg2; simp [Act.eval, Act.put, Value.cells] at hB2; (try replace hE := hE.trans hE2); (try replace hT0 := hT0.ext hE2); (try replace hp := hp.ext hE2); clear hE2))
  refine ret_c2 rfl rfl rfl (ld_ptownB hBs) ?_
  exact RetVI.of Hr.out hE
set_option maxHeartbeats 1000000 in
theorem pends_any (tv : Value) (t : Town) (k : Nat) (b : Bool) (w : World) (h : TownV w tv t) (hk : k < t.streets.length) :
  Calls Tryz.prog 65 #[tv, .agg #[.int .i64 k, .bool b]] w (RetII w (t.ends ⟨k, b⟩).1 (t.ends ⟨k, b⟩).2) := by
 obtain ⟨pv, sv, tmv, xv, rfl, hT⟩ := h
 obtain ⟨A, cp, rfl, h1, h2, h4⟩ := hT.streets
 unfold maxLen at h2
 have hE := Ext.refl w
 obtain ⟨ad, rfl, hc⟩ := h4 (by omega)
 obtain ⟨ssv, hs⟩ := hc k hk
 clear hc h4 hT
 have Hf := Lib.hid (Town.ends_f (t := t) hk); have Ht := Lib.hid (Town.ends_t (t := t) hk)
 obtain ⟨s, hst⟩ : ∃ s, t.streets[k] = s := ⟨_, rfl⟩
 rw [hst] at hs Hf Ht
 clear hst
 obtain ⟨hs1, As, cs, rfl, hs2⟩ := hs
 replace hs1 : StreetAt w _ s _ := ⟨hs1, As, cs, rfl, hs2⟩
 cases b
 ·go_enter Tryz.func65, Tryz.ntmps65
  go_wp2_with (first | (((with_reducible refine q_load (d := some 13) (hl := ld_street hs1) ?_ ?_); rfl)) | ((with_reducible refine q_newvar (e := 87) (u := 6) (v := .agg #[.int .i64 s.a, .int .i64 s.b, .int .i64 s.metres, .int .i64 s.lo, .int .i64 s.hi, .bool s.both, .slice As s.shows.length cs]) ti87 ?_ ?_ ?_ ?_ ?_ ?_); (intro g; rfl); (intro g; rfl); rfl; rfl; (simp [Value.cells, Value.oneCell']); intro W6 g6 hE6 hB6 hg6; simp [Value.cells] at hB6; (try replace hE := hE.trans hE6); (try replace hb3_1 := Ext.cell_some hE6 hb3_1); have hb6_0 := hB6.cell 0; have hb6_1 := hB6.cell 1; simp at hb6_0 hb6_1; clear hE6) | ((with_reducible refine q_box (d := some 2) ?_); intro W2 g2 hE2 hB2 hg2; simp [Act.eval, Act.put, Value.cells] at hB2; (try replace hE := hE.trans hE2); (try replace hs1 := hs1.ext hE2); have hb2_3 := hB2.cell 3; simp at hb2_3; clear hE2) | ((with_reducible refine q_box (d := some 3) ?_); intro W3 g3 hE3 hB3 hg3; simp [Act.eval, Act.put, Value.cells] at hB3; (try replace hE := hE.trans hE3); (try replace hs1 := hs1.ext hE3); (try replace hb2_3 := Ext.cell_some hE3 hb2_3); have hb3_0 := hB3.cell 0; have hb3_1 := hB3.cell 1; simp at hb3_0 hb3_1; clear hE3))
  go_quiet (fail)
  go_wp2
  go_ret2
  exact RetII.of Hf.out (hE.drewN _)
 ·go_enter Tryz.func65, Tryz.ntmps65
  go_wp2_with (first | (((with_reducible refine q_load (d := some 13) (hl := ld_street hs1) ?_ ?_); rfl)) | ((with_reducible refine q_newvar (e := 87) (u := 6) (v := .agg #[.int .i64 s.a, .int .i64 s.b, .int .i64 s.metres, .int .i64 s.lo, .int .i64 s.hi, .bool s.both, .slice As s.shows.length cs]) ti87 ?_ ?_ ?_ ?_ ?_ ?_); (intro g; rfl); (intro g; rfl); rfl; rfl; (simp [Value.cells, Value.oneCell']); intro W6 g6 hE6 hB6 hg6; simp [Value.cells] at hB6; (try replace hE := hE.trans hE6); (try replace hb3_1 := Ext.cell_some hE6 hb3_1); have hb6_0 := hB6.cell 0; have hb6_1 := hB6.cell 1; simp at hb6_0 hb6_1; clear hE6) | ((with_reducible refine q_box (d := some 2) ?_); intro W2 g2 hE2 hB2 hg2; simp [Act.eval, Act.put, Value.cells] at hB2; (try replace hE := hE.trans hE2); (try replace hs1 := hs1.ext hE2); have hb2_3 := hB2.cell 3; simp at hb2_3; clear hE2) | ((with_reducible refine q_box (d := some 3) ?_); intro W3 g3 hE3 hB3 hg3; simp [Act.eval, Act.put, Value.cells] at hB3; (try replace hE := hE.trans hE3); (try replace hs1 := hs1.ext hE3); (try replace hb2_3 := Ext.cell_some hE3 hb2_3); have hb3_0 := hB3.cell 0; have hb3_1 := hB3.cell 1; simp at hb3_0 hb3_1; clear hE3))
  go_quiet (fail)
  go_wp2
  go_ret2
  exact RetII.of Ht.out (hE.drewN _)
end Go.St
end
section
namespace Go.St
open Go Go.Bp Go.RowKit Go.Proofs
set_option maxHeartbeats 4000000 in
theorem pfollow_any (tv lv : Value) (t : Town) (a : Int) (l : List Step) (w : World) (h : TownV w tv t) (hok : t.Ok) (hl : Steps w lv l) :
  Calls Tryz.prog 58 #[tv, .int .i64 a, lv] w (RetII w (t.stepsErr a l).1 (t.stepsErr a l).2) := by
 obtain ⟨pv, shv, tmv, xv, rfl, hT⟩ := h
 obtain ⟨A1, cp1, rfl, _, hc1, _, _⟩ := hT.places
 obtain ⟨A2, cp2, rfl, _, hc2, _, _⟩ := hT.shows
 obtain ⟨A3, cp3, rfl, _, hc3, _, _⟩ := hT.times
 obtain ⟨A4, cp4, rfl, _, h42, h44⟩ := hT.streets
 obtain ⟨A, c, rfl, h1, h2, h3, h4⟩ := hl
 unfold maxLen at h2 h42
 have hst := hok.st
 clear h3
 have hE := Ext.refl w
 by_cases hle : l.length ≤ 1100
 ·have q1 : ¬ (1100 < (l.length : Int)) := by omega
  have Hs := Lib.hid (show t.stepsErr a l = t.follow a l by unfold Town.stepsErr; rw [if_neg (by omega)])
  go_enter Tryz.func58, Tryz.ntmps58
  go_wp2_with (first | ((with_reducible refine q_box (d := some 3) ?_); intro W3 g3 hE3 hB3 hg3; simp [Act.eval, Act.put, Value.cells] at hB3; (try replace hE := hE.trans hE3); have hb3_0 := hB3.cell 0; have hb3_1 := hB3.cell 1; have hb3_2 := hB3.cell 2; have hb3_3 := hB3.cell 3; simp at hb3_0 hb3_1 hb3_2 hb3_3; clear hE3))
  have hE0 := hE
  clear hE
  go_loopw [1, 17] (fun at0 i wr => Ext W3 wr ∧ ∃ (k : Nat) (av : Int), k ≤ l.length ∧ i = .int .i64 k ∧ at0 = .int .i64 av ∧ t.follow a l = t.follow av (l.drop k)) (fun _ i _ => l.length - (intOf i).toNat)
  case atStart => exact ⟨Ext.refl _, 0, a, by omega, rfl, rfl, rfl⟩
  case round =>
   obtain ⟨hEr, k, av, hk, rfl, rfl, hf⟩ := hrel
   have Hf := Lib.hid (show t.stepsErr a l = t.follow av (l.drop k) by rw [Hs.out, hf])
   have hEq := hE0.trans hEr
   have hB3r := hB3.ext hEr
   have b3 := hB3r.cell 3
   simp at b3
   clear hf hb3_0 hb3_1 hb3_2 hb3_3 hB3
   by_cases hlt : k < l.length
   ·obtain ⟨ad, rfl, hc⟩ := h4 (by omega)
    have hcq := hc.ext hEq
    have hTv := TownV.of (hT.ext hEq)
    have hE := Ext.refl wr
    obtain ⟨⟨st, bk⟩, hx⟩ : ∃ x, l[k] = x := ⟨_, rfl⟩
    have Hx := Lib.hid hx
    have hStep := ld_step hcq hlt
    rw [hx] at hStep
    clear h4 hc hcq hx
    have z1 : (k : Int) < (l.length : Int) := by omega
    cases hin : inB st 0 ((t.streets.length : Int) - 1) with
    | false =>
     have Hr := Lib.hid (Town.follow_bad hlt (a := av) (e := 4) (by rw [Hx.out]; exact Town.stepErr_4 hin) (by decide))
     have m1 : outB 0 ((t.streets.length : Int) - 1) [st] = true := by rw [outB_1, hin]; rfl
     clear h44
     go_wp2_with (first | (((with_reducible refine q_load (d := some 20) (hl := hStep) ?_ ?_); rfl)) | ((with_reducible refine q_newvar (e := 82) (u := 9) (v := .agg #[.int .i64 (st), .bool (bk)]) ti82 ?_ ?_ ?_ ?_ ?_ ?_); (intro g; rfl); (intro g; rfl); rfl; rfl; (simp [Value.cells, Value.oneCell']); intro W9 g9 hE9 hB9 hg9; simp [Value.cells] at hB9; (try replace hE := hE.trans hE9); (try replace hB3r := hB3r.ext hE9); (try replace hTv := hTv.ext hE9); (try replace b3 := Ext.cell_some hE9 b3); have hb9_0 := hB9.cell 0; have hb9_1 := hB9.cell 1; simp at hb9_0 hb9_1; clear hE9) | ((with_reducible refine q_bl1 (d := some 28) (n0 := st) ?_ ?_); rfl; intro W28 g28 hE28 hB28 hg28; (try replace hE := hE.trans hE28); (try replace hB3r := hB3r.ext hE28); (try replace hTv := hTv.ext hE28); (try replace hB9 := hB9.ext hE28); (try replace b3 := Ext.cell_some hE28 b3); (try replace hb9_0 := Ext.cell_some hE28 hb9_0); (try replace hb9_1 := Ext.cell_some hE28 hb9_1); have hI28 : Ints W28 (.slice (some ⟨g28, 0, none⟩) 1 1) [st] := ints_blk1 hB28; clear hB28 hg28 hE28) | (go_at_call 46; ((with_reducible refine ((pout_v (by exact hI28) m1)).mono ?_); rintro e WcO ⟨rfl, hEcO⟩; (try replace hE := hE.trans hEcO); (try replace hB3r := hB3r.ext hEcO); (try replace hTv := hTv.ext hEcO); (try replace hB9 := hB9.ext hEcO); (try replace b3 := Ext.cell_some hEcO b3); (try replace hb9_0 := Ext.cell_some hEcO hb9_0); (try replace hb9_1 := Ext.cell_some hEcO hb9_1))))
     go_ret2
     exact RetII.of (by rw [Hf.out, Hr.out]) (hEq.trans hE)
    | true =>
     obtain ⟨n, rfl, hn⟩ := nat_in hin
     have m1 : outB 0 ((t.streets.length : Int) - 1) [(n : Int)] = false := by rw [outB_1, hin]; rfl
     have hnlt : n < t.streets.length := by omega
     obtain ⟨ad4, rfl, hc4⟩ := h44 (by omega)
     obtain ⟨sv, hs⟩ := hc4 n hnlt
     have hsq := (hs.ext hEq).1
     have Hat := Lib.hid (Town.at_eq hnlt)
     have e5 := fld hsq (i := 5) (by decide) rfl
     obtain ⟨bo, hbo⟩ : ∃ b, t.streets[n].both = b := ⟨_, rfl⟩
     rw [hbo] at e5
     have Hbo := Lib.hid hbo
     clear h44 hc4 hs hsq hbo
     cases bk with
     | false =>
      have Hnb := Lib.hid (show ¬ ((false : Bool) = true ∧ (t.at_ (n : Int)).both = false) by rw [Hat.out]; simp [Hbo.out])
      by_cases c9 : (t.ends ⟨(n : Int), false⟩).1 = av
      ·have q9 : ((t.ends ⟨(n : Int), false⟩).1 != av) = false := by simp [c9]
       have Hg := Lib.hid (Town.follow_good hlt (a := av) (by rw [Hx.out]; exact Town.stepErr_0 hin Hnb.out c9))
       clear c9
       go_wp2_with (first | (((with_reducible refine q_load (d := some 20) (hl := hStep) ?_ ?_); rfl)) | ((with_reducible refine q_newvar (e := 82) (u := 9) (v := .agg #[.int .i64 ((n : Int)), .bool (false)]) ti82 ?_ ?_ ?_ ?_ ?_ ?_); (intro g; rfl); (intro g; rfl); rfl; rfl; (simp [Value.cells, Value.oneCell']); intro W9 g9 hE9 hB9 hg9; simp [Value.cells] at hB9; (try replace hE := hE.trans hE9); (try replace hB3r := hB3r.ext hE9); (try replace hTv := hTv.ext hE9); (try replace b3 := Ext.cell_some hE9 b3); (try replace e5 := Ext.cell_some hE9 e5); have hb9_0 := hB9.cell 0; have hb9_1 := hB9.cell 1; simp at hb9_0 hb9_1; clear hE9) | ((with_reducible refine q_bl1 (d := some 28) (n0 := (n : Int)) ?_ ?_); rfl; intro W28 g28 hE28 hB28 hg28; (try replace hE := hE.trans hE28); (try replace hB3r := hB3r.ext hE28); (try replace hTv := hTv.ext hE28); (try replace hB9 := hB9.ext hE28); (try replace b3 := Ext.cell_some hE28 b3); (try replace hb9_0 := Ext.cell_some hE28 hb9_0); (try replace hb9_1 := Ext.cell_some hE28 hb9_1); (try replace e5 := Ext.cell_some hE28 e5); have hI28 : Ints W28 (.slice (some ⟨g28, 0, none⟩) 1 1) [(n : Int)] := ints_blk1 hB28; clear hB28 hg28 hE28) | (go_at_call 46; ((with_reducible refine ((pout_v (by exact hI28) m1)).mono ?_); rintro e WcO ⟨rfl, hEcO⟩; (try replace hE := hE.trans hEcO); (try replace hB3r := hB3r.ext hEcO); (try replace hTv := hTv.ext hEcO); (try replace hB9 := hB9.ext hEcO); (try replace b3 := Ext.cell_some hEcO b3); (try replace hb9_0 := Ext.cell_some hEcO hb9_0); (try replace hb9_1 := Ext.cell_some hEcO hb9_1); (try replace e5 := Ext.cell_some hEcO e5))) | (((with_reducible refine q_load (d := some 44) (hl := ld_ptownB hB3r) ?_ ?_); rfl)) | (((with_reducible refine q_load (d := some 45) (hl := ld_stepB hB9) ?_ ?_); rfl)) | (go_at_call 65; ((with_reducible refine ((pends_any _ t n false _ hTv hnlt)).mono ?_); rintro e WcE ⟨rfl, hEcE⟩; (try replace hE := hE.trans hEcE))))
       go_roundw
       case rel => exact ⟨hEr.trans hE, k + 1, _, by omega, by go_num, rfl, by rw [← Hs.out, Hf.out, Hg.out, Hx.out]⟩
       case measure => simp [intOf]; omega
      ·have q9 : ((t.ends ⟨(n : Int), false⟩).1 != av) = true := by simp [c9]
       have Hg := Lib.hid (Town.follow_bad hlt (a := av) (e := 9) (by rw [Hx.out]; exact Town.stepErr_9 hin Hnb.out c9) (by decide))
       clear c9
       go_wp2_with (first | (((with_reducible refine q_load (d := some 20) (hl := hStep) ?_ ?_); rfl)) | ((with_reducible refine q_newvar (e := 82) (u := 9) (v := .agg #[.int .i64 ((n : Int)), .bool (false)]) ti82 ?_ ?_ ?_ ?_ ?_ ?_); (intro g; rfl); (intro g; rfl); rfl; rfl; (simp [Value.cells, Value.oneCell']); intro W9 g9 hE9 hB9 hg9; simp [Value.cells] at hB9; (try replace hE := hE.trans hE9); (try replace hB3r := hB3r.ext hE9); (try replace hTv := hTv.ext hE9); (try replace b3 := Ext.cell_some hE9 b3); (try replace e5 := Ext.cell_some hE9 e5); have hb9_0 := hB9.cell 0; have hb9_1 := hB9.cell 1; simp at hb9_0 hb9_1; clear hE9) | ((with_reducible refine q_bl1 (d := some 28) (n0 := (n : Int)) ?_ ?_); rfl; intro W28 g28 hE28 hB28 hg28; (try replace hE := hE.trans hE28); (try replace hB3r := hB3r.ext hE28); (try replace hTv := hTv.ext hE28); (try replace hB9 := hB9.ext hE28); (try replace b3 := Ext.cell_some hE28 b3); (try replace hb9_0 := Ext.cell_some hE28 hb9_0); (try replace hb9_1 := Ext.cell_some hE28 hb9_1); (try replace e5 := Ext.cell_some hE28 e5); have hI28 : Ints W28 (.slice (some ⟨g28, 0, none⟩) 1 1) [(n : Int)] := ints_blk1 hB28; clear hB28 hg28 hE28) | (go_at_call 46; ((with_reducible refine ((pout_v (by exact hI28) m1)).mono ?_); rintro e WcO ⟨rfl, hEcO⟩; (try replace hE := hE.trans hEcO); (try replace hB3r := hB3r.ext hEcO); (try replace hTv := hTv.ext hEcO); (try replace hB9 := hB9.ext hEcO); (try replace b3 := Ext.cell_some hEcO b3); (try replace hb9_0 := Ext.cell_some hEcO hb9_0); (try replace hb9_1 := Ext.cell_some hEcO hb9_1); (try replace e5 := Ext.cell_some hEcO e5))) | (((with_reducible refine q_load (d := some 44) (hl := ld_ptownB hB3r) ?_ ?_); rfl)) | (((with_reducible refine q_load (d := some 45) (hl := ld_stepB hB9) ?_ ?_); rfl)) | (go_at_call 65; ((with_reducible refine ((pends_any _ t n false _ hTv hnlt)).mono ?_); rintro e WcE ⟨rfl, hEcE⟩; (try replace hE := hE.trans hEcE))))
       go_ret2
       exact RetII.of (by rw [Hf.out, Hg.out]) (hEq.trans hE)
     | true =>
      cases bo with
      | false =>
       have Hr := Lib.hid (Town.follow_bad hlt (a := av) (e := 2) (by rw [Hx.out]; exact Town.stepErr_2 hin rfl (by rw [Hat.out]; exact Hbo.out)) (by decide))
       go_wp2_with (first | (((with_reducible refine q_load (d := some 20) (hl := hStep) ?_ ?_); rfl)) | ((with_reducible refine q_newvar (e := 82) (u := 9) (v := .agg #[.int .i64 ((n : Int)), .bool (true)]) ti82 ?_ ?_ ?_ ?_ ?_ ?_); (intro g; rfl); (intro g; rfl); rfl; rfl; (simp [Value.cells, Value.oneCell']); intro W9 g9 hE9 hB9 hg9; simp [Value.cells] at hB9; (try replace hE := hE.trans hE9); (try replace hB3r := hB3r.ext hE9); (try replace hTv := hTv.ext hE9); (try replace b3 := Ext.cell_some hE9 b3); (try replace e5 := Ext.cell_some hE9 e5); have hb9_0 := hB9.cell 0; have hb9_1 := hB9.cell 1; simp at hb9_0 hb9_1; clear hE9) | ((with_reducible refine q_bl1 (d := some 28) (n0 := (n : Int)) ?_ ?_); rfl; intro W28 g28 hE28 hB28 hg28; (try replace hE := hE.trans hE28); (try replace hB3r := hB3r.ext hE28); (try replace hTv := hTv.ext hE28); (try replace hB9 := hB9.ext hE28); (try replace b3 := Ext.cell_some hE28 b3); (try replace hb9_0 := Ext.cell_some hE28 hb9_0); (try replace hb9_1 := Ext.cell_some hE28 hb9_1); (try replace e5 := Ext.cell_some hE28 e5); have hI28 : Ints W28 (.slice (some ⟨g28, 0, none⟩) 1 1) [(n : Int)] := ints_blk1 hB28; clear hB28 hg28 hE28) | (go_at_call 46; ((with_reducible refine ((pout_v (by exact hI28) m1)).mono ?_); rintro e WcO ⟨rfl, hEcO⟩; (try replace hE := hE.trans hEcO); (try replace hB3r := hB3r.ext hEcO); (try replace hTv := hTv.ext hEcO); (try replace hB9 := hB9.ext hEcO); (try replace b3 := Ext.cell_some hEcO b3); (try replace hb9_0 := Ext.cell_some hEcO hb9_0); (try replace hb9_1 := Ext.cell_some hEcO hb9_1); (try replace e5 := Ext.cell_some hEcO e5))))
       go_ret2
       exact RetII.of (by rw [Hf.out, Hr.out]) (hEq.trans hE)
      | true =>
       have Hnb := Lib.hid (show ¬ ((true : Bool) = true ∧ (t.at_ (n : Int)).both = false) by rw [Hat.out]; simp [Hbo.out])
       by_cases c9 : (t.ends ⟨(n : Int), true⟩).1 = av
       ·have q9 : ((t.ends ⟨(n : Int), true⟩).1 != av) = false := by simp [c9]
        have Hg := Lib.hid (Town.follow_good hlt (a := av) (by rw [Hx.out]; exact Town.stepErr_0 hin Hnb.out c9))
        clear c9
        go_wp2_with (first | (((with_reducible refine q_load (d := some 20) (hl := hStep) ?_ ?_); rfl)) | ((with_reducible refine q_newvar (e := 82) (u := 9) (v := .agg #[.int .i64 ((n : Int)), .bool (true)]) ti82 ?_ ?_ ?_ ?_ ?_ ?_); (intro g; rfl); (intro g; rfl); rfl; rfl; (simp [Value.cells, Value.oneCell']); intro W9 g9 hE9 hB9 hg9; simp [Value.cells] at hB9; (try replace hE := hE.trans hE9); (try replace hB3r := hB3r.ext hE9); (try replace hTv := hTv.ext hE9); (try replace b3 := Ext.cell_some hE9 b3); (try replace e5 := Ext.cell_some hE9 e5); have hb9_0 := hB9.cell 0; have hb9_1 := hB9.cell 1; simp at hb9_0 hb9_1; clear hE9) | ((with_reducible refine q_bl1 (d := some 28) (n0 := (n : Int)) ?_ ?_); rfl; intro W28 g28 hE28 hB28 hg28; (try replace hE := hE.trans hE28); (try replace hB3r := hB3r.ext hE28); (try replace hTv := hTv.ext hE28); (try replace hB9 := hB9.ext hE28); (try replace b3 := Ext.cell_some hE28 b3); (try replace hb9_0 := Ext.cell_some hE28 hb9_0); (try replace hb9_1 := Ext.cell_some hE28 hb9_1); (try replace e5 := Ext.cell_some hE28 e5); have hI28 : Ints W28 (.slice (some ⟨g28, 0, none⟩) 1 1) [(n : Int)] := ints_blk1 hB28; clear hB28 hg28 hE28) | (go_at_call 46; ((with_reducible refine ((pout_v (by exact hI28) m1)).mono ?_); rintro e WcO ⟨rfl, hEcO⟩; (try replace hE := hE.trans hEcO); (try replace hB3r := hB3r.ext hEcO); (try replace hTv := hTv.ext hEcO); (try replace hB9 := hB9.ext hEcO); (try replace b3 := Ext.cell_some hEcO b3); (try replace hb9_0 := Ext.cell_some hEcO hb9_0); (try replace hb9_1 := Ext.cell_some hEcO hb9_1); (try replace e5 := Ext.cell_some hEcO e5))) | (((with_reducible refine q_load (d := some 44) (hl := ld_ptownB hB3r) ?_ ?_); rfl)) | (((with_reducible refine q_load (d := some 45) (hl := ld_stepB hB9) ?_ ?_); rfl)) | (go_at_call 65; ((with_reducible refine ((pends_any _ t n true _ hTv hnlt)).mono ?_); rintro e WcE ⟨rfl, hEcE⟩; (try replace hE := hE.trans hEcE))))
        go_roundw
        case rel => exact ⟨hEr.trans hE, k + 1, _, by omega, by go_num, rfl, by rw [← Hs.out, Hf.out, Hg.out, Hx.out]⟩
        case measure => simp [intOf]; omega
       ·have q9 : ((t.ends ⟨(n : Int), true⟩).1 != av) = true := by simp [c9]
        have Hg := Lib.hid (Town.follow_bad hlt (a := av) (e := 9) (by rw [Hx.out]; exact Town.stepErr_9 hin Hnb.out c9) (by decide))
        clear c9
        go_wp2_with (first | (((with_reducible refine q_load (d := some 20) (hl := hStep) ?_ ?_); rfl)) | ((with_reducible refine q_newvar (e := 82) (u := 9) (v := .agg #[.int .i64 ((n : Int)), .bool (true)]) ti82 ?_ ?_ ?_ ?_ ?_ ?_); (intro g; rfl); (intro g; rfl); rfl; rfl; (simp [Value.cells, Value.oneCell']); intro W9 g9 hE9 hB9 hg9; simp [Value.cells] at hB9; (try replace hE := hE.trans hE9); (try replace hB3r := hB3r.ext hE9); (try replace hTv := hTv.ext hE9); (try replace b3 := Ext.cell_some hE9 b3); (try replace e5 := Ext.cell_some hE9 e5); have hb9_0 := hB9.cell 0; have hb9_1 := hB9.cell 1; simp at hb9_0 hb9_1; clear hE9) | ((with_reducible refine q_bl1 (d := some 28) (n0 := (n : Int)) ?_ ?_); rfl; intro W28 g28 hE28 hB28 hg28; (try replace hE := hE.trans hE28); (try replace hB3r := hB3r.ext hE28); (try replace hTv := hTv.ext hE28); (try replace hB9 := hB9.ext hE28); (try replace b3 := Ext.cell_some hE28 b3); (try replace hb9_0 := Ext.cell_some hE28 hb9_0); (try replace hb9_1 := Ext.cell_some hE28 hb9_1); (try replace e5 := Ext.cell_some hE28 e5); have hI28 : Ints W28 (.slice (some ⟨g28, 0, none⟩) 1 1) [(n : Int)] := ints_blk1 hB28; clear hB28 hg28 hE28) | (go_at_call 46; ((with_reducible refine ((pout_v (by exact hI28) m1)).mono ?_); rintro e WcO ⟨rfl, hEcO⟩; (try replace hE := hE.trans hEcO); (try replace hB3r := hB3r.ext hEcO); (try replace hTv := hTv.ext hEcO); (try replace hB9 := hB9.ext hEcO); (try replace b3 := Ext.cell_some hEcO b3); (try replace hb9_0 := Ext.cell_some hEcO hb9_0); (try replace hb9_1 := Ext.cell_some hEcO hb9_1); (try replace e5 := Ext.cell_some hEcO e5))) | (((with_reducible refine q_load (d := some 44) (hl := ld_ptownB hB3r) ?_ ?_); rfl)) | (((with_reducible refine q_load (d := some 45) (hl := ld_stepB hB9) ?_ ?_); rfl)) | (go_at_call 65; ((with_reducible refine ((pends_any _ t n true _ hTv hnlt)).mono ?_); rintro e WcE ⟨rfl, hEcE⟩; (try replace hE := hE.trans hEcE))))
        go_ret2
        exact RetII.of (by rw [Hf.out, Hg.out]) (hEq.trans hE)
   ·obtain rfl : k = l.length := by omega
    have Hr := Lib.hid (show t.follow av (l.drop l.length) = (av, 0) by rw [List.drop_length]; rfl)
    clear h4
    go_wp2
    go_ret2
    exact RetII.of (by rw [Hf.out, Hr.out]) hEq
 ·have q1 : 1100 < (l.length : Int) := by omega
  have Hs := Lib.hid (show t.stepsErr a l = (0, 3) by unfold Town.stepsErr; rw [if_pos (by omega)])
  clear h4
  go_enter Tryz.func58, Tryz.ntmps58
  go_wp2_with (first | ((with_reducible refine q_box (d := some 3) ?_); intro W3 g3 hE3 hB3 hg3; simp [Act.eval, Act.put, Value.cells] at hB3; (try replace hE := hE.trans hE3); have hb3_0 := hB3.cell 0; have hb3_1 := hB3.cell 1; have hb3_2 := hB3.cell 2; have hb3_3 := hB3.cell 3; simp at hb3_0 hb3_1 hb3_2 hb3_3; clear hE3))
  go_ret2
  exact RetII.of Hs.out hE
end Go.St
end
section
namespace Go.St
open Go Go.Bp Go.RowKit Go.Proofs
theorem isB_ext {T e : TypeId} {B b : Nat} {bs : List Value} {w w' : World} (h : Lib.IsBuilder T e B b bs w) (k : Ext w w') : Lib.IsBuilder T e B b bs w' := by
 rcases h with ⟨h1, v, h2, h3, h4⟩ | ⟨h1, v, h2, h3, h4⟩
 ·exact .inl ⟨h1, v, k.heap_some h2, own_ext h3 k, h4⟩
 ·exact .inr ⟨h1, v, k.heap_some h2, own_ext h3 k, h4⟩
theorem ti141 : (Tryz.prog.info? 141).map (fun i => (i.zero, i.size, i.bytes)) = some (some (.agg #[.pointer none, .slice none 0 0]), 2, 32) := by kernel_rfl
theorem isB_fresh {w : World} {B b : Nat} (h : Blk w b 141 #[.pointer none, .slice none 0 0]) (hB : B ≤ b) : Lib.IsBuilder 141 5 B b [] w :=
 .inl ⟨hB, .slice none 0 0, h, World.ownsRow_nil w B 5 1, by simp [Value.ownBlock]⟩
theorem isB_blk {B b : Nat} {bs : List Value} {w : World} (h : Lib.IsBuilder 141 5 B b bs w) : ∃ pv, Blk w b 141 pv := by
 rcases h with ⟨_, v, h2, _⟩ | ⟨_, v, h2, _⟩ <;> exact ⟨_, h2⟩
set_option maxHeartbeats 4000000 in
theorem PWrite_any (tv lv : Value) (t : Town) (a : Int) (l : List Step) (w : World) (h : TownV w tv t) (hl : Steps w lv l) (hv : Env w) :
  Calls Tryz.prog 30 #[tv, .int .i64 a, lv] w (RetTx w (t.writeAns a l).1 (t.writeAns a l).2) := by
 have hT0 := h
 obtain ⟨pv, shv, tmv, xv, rfl, hT⟩ := h
 obtain ⟨A1, cp1, rfl, hp1, hc1, _, hp4⟩ := hT.places
 obtain ⟨A2, cp2, rfl, _, hc2, _, _⟩ := hT.shows
 obtain ⟨A3, cp3, rfl, _, hc3, _, _⟩ := hT.times
 obtain ⟨A4, cp4, rfl, _, h42, _⟩ := hT.streets
 have hTw := hT
 have hL := hl
 obtain ⟨A, c, rfl, h1, h2, _, h4⟩ := hl
 have HL4 := Lib.hid h4
 clear hT h4
 unfold maxLen at h2 h42 hc1 hc2 hc3
 have hE := Ext.refl w
 by_cases hce : t.check.2.2 = 0
 ·have hok := Town.ok_of hce
  have hp2 := hok.p2; have hsh := hok.sh; have ht2 := hok.t2; have hst := hok.st
  cases c1 : inB a 0 (t.places.length - 1) with
  | false =>
   have Hoe := Lib.hid (show t.openErr [a] = 4 by unfold Town.openErr; rw [if_neg (by simp [hce]), outB_1, c1]; rfl)
   have hans := Lib.hid (Town.writeAns_4 (l := l) hce c1)
   clear hce
   go_enter Tryz.func30, Tryz.ntmps30
   go_wp2_with (first | (((with_reducible refine q_load (d := some 17) (hl := ld_townB hB3) ?_ ?_); rfl)) | ((with_reducible refine q_bl1 (d := some 19) (n0 := a) ?_ ?_); rfl; intro W19 g19 hE19 hB19 hg19; (try replace hE := hE.trans hE19); (try replace hT0 := hT0.ext hE19); (try replace hL := hL.ext hE19); have hI19 : Ints W19 (.slice (some ⟨g19, 0, none⟩) 1 1) [a] := ints_blk1 hB19; clear hB19 hg19 hE19) | (go_at_call 57; ((with_reducible refine (popen_any _ _ t [a] _ (by exact hT0) (by exact hI19)).mono ?_); rintro e WcP ⟨rfl, hEcP⟩; (try replace hE := hE.trans hEcP); (try replace hT0 := hT0.ext hEcP); (try replace hL := hL.ext hEcP); rw [Hoe.out])) | ((with_reducible refine q_newvar (e := 90) (u := 8) (v := .agg #[.slice A1 t.places.length cp1, .slice A2 t.shows.length cp2, .slice A3 t.times.length cp3, .slice A4 t.streets.length cp4]) ti90 ?_ ?_ ?_ ?_ ?_ ?_); (intro g; rfl); (intro g; rfl); rfl; rfl; (simp [Value.cells, Value.oneCell']); intro W8 g8 hE8 hB8 hg8; simp [Value.cells] at hB8; (try replace hE := hE.trans hE8); (try replace hT0 := hT0.ext hE8); (try replace hL := hL.ext hE8); have hb8_0 := hB8.cell 0; have hb8_1 := hB8.cell 1; have hb8_2 := hB8.cell 2; have hb8_3 := hB8.cell 3; simp at hb8_0 hb8_1 hb8_2 hb8_3; clear hE8) | ((with_reducible refine q_box (d := some 3) ?_); intro W3 g3 hE3 hB3 hg3; simp [Act.eval, Act.put, Value.cells] at hB3; (try replace hE := hE.trans hE3); (try replace hT0 := hT0.ext hE3); (try replace hL := hL.ext hE3); have hb3_1 := hB3.cell 1; have hb3_2 := hB3.cell 2; have hb3_3 := hB3.cell 3; simp at hb3_1 hb3_2 hb3_3; clear hE3))
   go_ret2
   rw [hans.out]
   exact ⟨rfl, hE⟩
  | true =>
   have Hoe := Lib.hid (show t.openErr [a] = 0 by unfold Town.openErr; rw [if_neg (by simp [hce]), outB_1, c1]; rfl)
   by_cases hse : (t.stepsErr a l).2 = 0
   ·have hans := Lib.hid (Town.writeAns_0 hce c1 hse)
    obtain ⟨hl11, hfo⟩ := Town.stepsErr_follow hse
    have Hv := Lib.hid (Town.follow_st l a hfo)
    have htm := inB_t.1 c1
    obtain ⟨an, rfl⟩ : ∃ n : Nat, a = n := ⟨a.toNat, by omega⟩
    have ha : an < t.places.length := by omega
    have q1 : ((t.stepsErr an l).2 != 0) = false := by simp [hse]
    obtain ⟨adp, rfl, hcp⟩ := hp4 (by omega)
    have HcP := Lib.hid hcp
    have z0 : (an : Int) < (t.places.length : Int) := by omega
    have Hok := Lib.hid hok
    clear hce hse hfo hcp
    go_enter Tryz.func30, Tryz.ntmps30
    go_wp2_with (first | (((with_reducible refine q_load (d := some 17) (hl := ld_townB hB3) ?_ ?_); rfl)) | ((with_reducible refine q_bl1 (d := some 19) (n0 := (an : Int)) ?_ ?_); rfl; intro W19 g19 hE19 hB19 hg19; (try replace hE := hE.trans hE19); (try replace hT0 := hT0.ext hE19); (try replace hL := hL.ext hE19); have hI19 : Ints W19 (.slice (some ⟨g19, 0, none⟩) 1 1) [(an : Int)] := ints_blk1 hB19; clear hB19 hg19 hE19) | (go_at_call 57; ((with_reducible refine (popen_any _ _ t [(an : Int)] _ (by exact hT0) (by exact hI19)).mono ?_); rintro e WcP ⟨rfl, hEcP⟩; (try replace hE := hE.trans hEcP); (try replace hT0 := hT0.ext hEcP); (try replace hL := hL.ext hEcP); rw [Hoe.out])) | ((with_reducible refine q_newvar (e := 90) (u := 8) (v := .agg #[.slice (some adp) t.places.length cp1, .slice A2 t.shows.length cp2, .slice A3 t.times.length cp3, .slice A4 t.streets.length cp4]) ti90 ?_ ?_ ?_ ?_ ?_ ?_); (intro g; rfl); (intro g; rfl); rfl; rfl; (simp [Value.cells, Value.oneCell']); intro W8 g8 hE8 hB8 hg8; simp [Value.cells] at hB8; (try replace hE := hE.trans hE8); (try replace hT0 := hT0.ext hE8); (try replace hL := hL.ext hE8); have hb8_0 := hB8.cell 0; have hb8_1 := hB8.cell 1; have hb8_2 := hB8.cell 2; have hb8_3 := hB8.cell 3; simp at hb8_0 hb8_1 hb8_2 hb8_3; clear hE8) | (((with_reducible refine q_load (d := some 27) (hl := ld_ptownB hB8) ?_ ?_); rfl)) | (go_at_call 58; ((with_reducible refine (pfollow_any _ _ t (an : Int) l _ (by exact hT0) hok (by exact hL)).mono ?_); rintro e WcF ⟨rfl, hEcF⟩; (try replace hE := hE.trans hEcF); (try replace hB8 := hB8.ext hEcF); (try replace hb8_0 := Ext.cell_some hEcF hb8_0))) | (((with_reducible refine q_alloc (d := some 10) ti141 ?_); intro W10 b hE10 hB10 hb10; have hb0 := Nat.le_trans hE.size hb10; simp [Value.cells] at hB10; replace hE := hE.trans hE10; replace hB8 := hB8.ext hE10; replace hb8_0 := Ext.cell_some hE10 hb8_0; have ep := Ext.cell_some hE (Cells.sg HcP.out ha))) | ((with_reducible refine q_box (d := some 3) ?_); intro W3 g3 hE3 hB3 hg3; simp [Act.eval, Act.put, Value.cells] at hB3; (try replace hE := hE.trans hE3); (try replace hT0 := hT0.ext hE3); (try replace hL := hL.ext hE3); have hb3_1 := hB3.cell 1; have hb3_2 := hB3.cell 2; have hb3_3 := hB3.cell 3; simp at hb3_1 hb3_2 hb3_3; clear hE3))
    refine (pwrite_any w.heap.size b [] t.places[an] W10 (isB_fresh hB10 hb0) (by have := Town.place_len Hok.out an; rw [← Town.place_S ha, S_size]; simp; omega) hE.size).mono ?_
    rintro e Wl ⟨rfl, hB42, hbel, hkept⟩
    have n8b := blk_ne hB8 hB10 (by decide)
    have hBl : Lib.IsBuilder 141 5 w.heap.size b (Lib.byteCells (t.textTo an l 0)) Wl := by
     have e1 : [] ++ Lib.strCells t.places[an] = Lib.byteCells (t.textTo an l 0) := by
      rw [Lib.strCells_eq, Town.textTo_0, ← Town.place_S ha, S_list]; rfl
     rw [e1] at hB42; exact hB42
    have hEl : Ext w Wl := Below.trans hE hbel
    have hB8l := hkept.blk hB8 n8b (by decide)
    clear hB42 hbel hkept hB10 hB8 hE hb8_0 hb8_1 hb8_2 hb8_3 hb3_1 hb3_2 hb3_3 ep hb10 hE10 hL hT0
    go_wp2
    go_loopw [45] (fun i wr => ∃ j : Nat, j ≤ l.length ∧ i = .int .i64 j ∧ Lib.IsBuilder 141 5 w.heap.size b (Lib.byteCells (t.textTo an l j)) wr ∧ Ext w wr ∧ Blk wr g8 90 #[.slice (some adp) t.places.length cp1, .slice A2 t.shows.length cp2, .slice A3 t.times.length cp3, .slice A4 t.streets.length cp4]) (fun i _ => l.length - (intOf i).toNat)
    case atStart => exact ⟨0, by omega, rfl, hBl, hEl, hB8l⟩
    case round =>
     clear hBl hEl hB8l
     obtain ⟨j, hj, rfl, hB, hE, hB8⟩ := hrel
     by_cases hlt : j < l.length
     ·obtain ⟨ad, rfl, hc⟩ := HL4.out (by omega)
      have hcw := hc.ext hE
      have hz : (j : Int) < (l.length : Int) := by omega
      obtain ⟨x, hx⟩ : ∃ x, l[j] = x := ⟨_, rfl⟩
      have hvx := Hv.out _ (List.getElem_mem hlt)
      have hts := Town.textTo_succ (t := t) an l hlt
      have htl := Town.textTo_len Hok.out an Hv.out j hj
      have hls := ld_step hcw hlt
      rw [hx] at hvx hts hls
      obtain ⟨st, bk⟩ := x
      obtain ⟨n, rfl, hn⟩ := nat_in hvx
      have hn' : n < t.streets.length := by omega
      obtain ⟨qn, hqn, hqlt⟩ := nat_in (Hok.out.ends hvx).2
      have hql : qn < t.places.length := by omega
      have cend := fun w h => pends_any (.agg #[.slice (some adp) t.places.length cp1, .slice A2 t.shows.length cp2, .slice A3 t.times.length cp3, .slice A4 t.streets.length cp4]) t n bk w h hn'
      rw [hqn] at cend
      have epw := Cells.sg HcP.out hql
      obtain ⟨q, hq⟩ : ∃ s, t.places[qn] = s := ⟨_, rfl⟩
      rw [hq] at epw
      have hqs : q = S (t.placeAt qn) := by rw [← hq, Town.place_S hql]
      have hqlen := Town.place_len Hok.out qn
      obtain ⟨T, hT⟩ : ∃ T, t.textTo an l j = T := ⟨_, rfl⟩
      rw [hT] at hts htl hB
      obtain ⟨D, hD⟩ : ∃ D, digits n = D := ⟨_, rfl⟩
      have hdl := digits_len n
      rw [hD] at hdl
      have HD : Hid (∀ W, Env W → Calls Tryz.prog 77 #[.int .i64 n] W fun e w' => e = .returned (.string (S D)) ∧ Ext W w') := Lib.hid (fun W hW => by
       have := PItoa_any n (by omega) (by omega) W hW
       rw [itoa_digits (by omega), show ((n : Int)).toNat = n by omega, hD] at this; exact this)
      obtain ⟨sg, hsg⟩ : ∃ c : List UInt8, c = (if bk = true then [61] else [45]) := ⟨_, rfl⟩
      have hsl : sg.length = 1 := by rw [hsg]; cases bk <;> rfl
      obtain ⟨L1, hL1⟩ : ∃ L, sg ++ D = L := ⟨_, rfl⟩
      obtain ⟨L2, hL2⟩ : ∃ L, L1 ++ [46] = L := ⟨_, rfl⟩
      obtain ⟨L3, hL3⟩ : ∃ L, L2 ++ t.placeAt qn = L := ⟨_, rfl⟩
      have HL := Lib.hid (⟨by rw [S_app, hL1], by rw [S_app, hL2], by rw [hqs, S_app, hL3]⟩ : S sg ++ S D = S L1 ∧ S L1 ++ S [46] = S L2 ∧ S L2 ++ q = S L3)
      have Hts2 : Hid (t.textTo an l (j + 1) = T ++ L3) := Lib.hid (by
       rw [hts, ← hL3, ← hL2, ← hL1, hsg]
       unfold Town.stepText Town.sign
       rw [hqn, ← hD]
       cases bk <;> simp)
      have hsz : (S sg).size + (S D).size ≤ 1000000000 ∧ (S L1).size + (S [46]).size ≤ 1000000000 ∧ (S L2).size + q.size ≤ 1000000000 := by
       rw [hqs]
       simp only [S_size, ← hL2, ← hL1, List.length_append, List.length_singleton]
       omega
      have hl3 : L3.length ≤ 100 := by rw [← hL3, ← hL2, ← hL1]; simp only [List.length_append, List.length_singleton]; omega
      have Hsg := Lib.hid hsg
      have z1 : (qn : Int) < (t.places.length : Int) := by omega
      clear hsg hL1 hL2 hL3 hD hts hqs hT hq hqn hx hc hcw hvx
      cases bk
      ·obtain rfl : sg = [45] := Hsg.out
       go_wp2_with (first | ((with_reducible refine q_load (d := some 48) (hl := hls) ?_ ?_); rfl) | ((with_reducible refine q_newvar (e := 82) (u := 12) (v := .agg #[.int .i64 n, .bool false]) tiStep ?_ ?_ ?_ ?_ ?_ ?_); (intro g; rfl); (intro g; rfl); rfl; rfl; (simp [Value.cells, Value.oneCell']); intro W12 g12 hE12 hB12 hg12; simp [Value.cells] at hB12; replace hE := hE.trans hE12; replace hB := isB_ext hB hE12; replace hB8 := hB8.ext hE12; have c121 := hB12.cell 1; simp at c121) | ((with_reducible refine q_load (d := some 52) (hl := ld_ptownB hB8) ?_ ?_); rfl) | ((with_reducible refine q_load (d := some 53) (hl := ld_stepB hB12) ?_ ?_); rfl) | (go_at_call 65; refine (cend _ (TownV.of (hTw.ext hE))).mono ?_; rintro e W54 ⟨rfl, hE54⟩; replace hE := hE.trans hE54; replace hB := isB_ext hB hE54; replace hB8 := hB8.ext hE54; replace hB12 := hB12.ext hE54))
       have c120 := hB12.cell 0; have c80 := hB8.cell 0
       simp at c120 c80
       have ep := Ext.cell_some hE epw
       obtain ⟨pvb, hbb⟩ := isB_blk hB
       have n8b := blk_ne hB8 hbb (by decide)
       have n12b := blk_ne hB12 hbb (by decide)
       apply wp_cutG [57, 58, 59, 60, 61, 62, 63, 64, 65, 66, 67, 68, 69, 70] (fun _ w' => Lib.IsBuilder 141 5 w.heap.size b (Lib.byteCells T ++ Lib.strCells (S L3)) w' ∧ Ext w w' ∧ Blk w' g8 90 #[.slice (some adp) t.places.length cp1, .slice A2 t.shows.length cp2, .slice A3 t.times.length cp3, .slice A4 t.streets.length cp4])
       case h =>
        have hXd := Ext.todrew (Ext.refl W54)
        have kB := isB_ext hB hXd
        have kE : Ext w W54.drew := hE.trans hXd
        have k8 := hB8.d
        have k12 := hB12.d
        have s0 := Ext.cell_some hXd c120; have s8 := Ext.cell_some hXd c80; have sq := Ext.cell_some hXd ep
        refine wp_rt (.take 0 (.take 1 (.take 2 (.take 6 (.take 7 (.take 8 (.take 9 (.take 10 (.take 11 (.one 3 (.take 4 (.take 5 (.take 12 (.one 13 .nil)))))))))))))) (fun w' => w'.cell? ⟨g12, 0, none⟩ = some (.int .i64 n) ∧ w'.cell? ⟨g8, 0, none⟩ = some (.slice (some adp) t.places.length cp1) ∧ w'.cell? (adp.add qn) = some (.string q)) ?_ (fun hHeld => ?_)
        ·(first | exact True.intro | ((try dsimp only); (repeat' apply And.intro) <;> first | assumption | (refine Ext.cell_some (Ext.todrew (Ext.refl _)) ?_; assumption)))
        repeat' first | ((with_reducible refine t_tk ?_); first | ((with_reducible refine t_tk (i := 2) ?_); refine tk (v := .int .i64 n) ?_ hHeld ?_; (· exact run_ld (by rfl) (fun W h => load_one Tryz.underlying3 rfl h.1)); (try simp only [pS])) | ((with_reducible refine t_tk (i := 4) ?_); refine tk (v := .string (S L1)) ?_ hHeld ?_; (· exact run_cat (p := S [45]) (by rfl) (by rfl) HL.out.1 hsz.1); (try simp only [pS])) | ((with_reducible refine t_tk (i := 5) ?_); refine tk (v := .string (S L2)) ?_ hHeld ?_; (· exact run_cat (q := S [46]) (by rfl) (by rfl) HL.out.2.1 hsz.2.1); (try simp only [pS])) | ((with_reducible refine t_tk (i := 8) ?_); refine tk (v := .slice (some adp) t.places.length cp1) ?_ hHeld ?_; (· exact run_ld (by rfl) (fun W h => load_one Tryz.underlying22 rfl h.2.1)); (try simp only [pS])) | ((with_reducible refine t_tk (i := 11) ?_); refine tk (v := .string q) ?_ hHeld ?_; (· exact run_ld (by rfl) (fun W h => load_one Tryz.underlying9 rfl h.2.2)); (try simp only [pS])) | ((with_reducible refine t_tk (i := 12) ?_); refine tk (v := .string (S L3)) ?_ hHeld ?_; (· exact run_cat (by rfl) (by rfl) HL.out.2.2 hsz.2.2); (try simp only [pS])) | (refine tk (v := ?_) ?_ hHeld ?_; rotate_left; (· (intro wq hSw; (try dsimp only at hSw); go_simp; (try with_reducible rfl))); (try simp only [pS]))) | ((with_reducible refine t_on ?_); refine t_one (by simp only [gS]; rfl) ?_) | ((with_reducible refine q_gd (d := some 60) ?_); ((refine q_call (by rfl) (HD.out _ (hv.ext kE)) (by go_simp) ?_; rintro e W60 ⟨rfl, hE60⟩; refine ⟨_, rfl, ?_⟩; replace kB := isB_ext kB hE60; replace kE := kE.trans hE60; replace k8 := k8.ext hE60; replace k12 := k12.ext hE60; replace s0 := Ext.cell_some hE60 s0; replace s8 := Ext.cell_some hE60 s8; replace sq := Ext.cell_some hE60 sq))) | ((with_reducible refine q_gd (d := some 70) ?_); ((refine q_call (by rfl) (pwrite_any w.heap.size b (Lib.byteCells T) (S L3) _ kB (by simp only [S_size, Lib.byteCells_length]; omega) kE.size) (by go_simp) ?_; rintro e W70 ⟨rfl, hB70, hbel70, hkept70⟩; refine ⟨_, rfl, ?_⟩; have hE70 : Ext w W70 := Below.trans kE hbel70; replace k8 := hkept70.blk k8 n8b (by decide); replace k12 := hkept70.blk k12 n12b (by decide); replace s0 := k12.cell 0; replace s8 := k8.cell 0; simp at s0 s8; replace sq := Ext.cell_some hE70 epw))) | ((with_reducible refine q_nl ?_); clear hHeld; refine t_next ?_ (fun hHeld => ?_); (· (first | exact True.intro | ((try dsimp only); (repeat' apply And.intro) <;> first | assumption | (refine Ext.cell_some (Ext.todrew (Ext.refl _)) ?_; assumption)))); (try simp only [pS])) | (with_reducible refine t_done ?_)
        all_goals
         refine ⟨rfl, ?_⟩
         refine cut_ex ?_ ?_
         ·simp only [Act.sets, Act.put, List.foldl_cons, List.foldl_nil, List.setIfInBounds_toArray, List.set_cons_zero, List.set_cons_succ, Act.get]
          rfl
         exact ⟨hB70, hE70, k8⟩
       rintro x16 W16 ⟨hB16, hE16, hB816⟩
       simp only [Act.sets, Act.put, List.foldl_cons, List.foldl_nil, List.setIfInBounds_toArray, List.set_cons_zero, List.set_cons_succ, Act.get]
       have hB17 : Lib.IsBuilder 141 5 w.heap.size b (Lib.byteCells (t.textTo an l (j + 1))) W16 := by
        have e1 : Lib.byteCells T ++ Lib.strCells (S L3) = Lib.byteCells (t.textTo an l (j + 1)) := by
         rw [Hts2.out, Lib.strCells_eq, S_list]; simp [Lib.byteCells]
        rw [e1] at hB16; exact hB16
       clear hB16
       go_wp2
       go_roundw
       case rel => exact ⟨j + 1, by omega, by go_num, hB17, hE16, hB816⟩
       case measure => simp [intOf]; omega
      ·obtain rfl : sg = [61] := Hsg.out
       go_wp2_with (first | ((with_reducible refine q_load (d := some 48) (hl := hls) ?_ ?_); rfl) | ((with_reducible refine q_newvar (e := 82) (u := 12) (v := .agg #[.int .i64 n, .bool true]) tiStep ?_ ?_ ?_ ?_ ?_ ?_); (intro g; rfl); (intro g; rfl); rfl; rfl; (simp [Value.cells, Value.oneCell']); intro W12 g12 hE12 hB12 hg12; simp [Value.cells] at hB12; replace hE := hE.trans hE12; replace hB := isB_ext hB hE12; replace hB8 := hB8.ext hE12; have c121 := hB12.cell 1; simp at c121) | ((with_reducible refine q_load (d := some 52) (hl := ld_ptownB hB8) ?_ ?_); rfl) | ((with_reducible refine q_load (d := some 53) (hl := ld_stepB hB12) ?_ ?_); rfl) | (go_at_call 65; refine (cend _ (TownV.of (hTw.ext hE))).mono ?_; rintro e W54 ⟨rfl, hE54⟩; replace hE := hE.trans hE54; replace hB := isB_ext hB hE54; replace hB8 := hB8.ext hE54; replace hB12 := hB12.ext hE54))
       have c120 := hB12.cell 0; have c80 := hB8.cell 0
       simp at c120 c80
       have ep := Ext.cell_some hE epw
       obtain ⟨pvb, hbb⟩ := isB_blk hB
       have n8b := blk_ne hB8 hbb (by decide)
       have n12b := blk_ne hB12 hbb (by decide)
       apply wp_cutG [57, 58, 59, 60, 61, 62, 63, 64, 65, 66, 67, 68, 69, 70] (fun _ w' => Lib.IsBuilder 141 5 w.heap.size b (Lib.byteCells T ++ Lib.strCells (S L3)) w' ∧ Ext w w' ∧ Blk w' g8 90 #[.slice (some adp) t.places.length cp1, .slice A2 t.shows.length cp2, .slice A3 t.times.length cp3, .slice A4 t.streets.length cp4])
       case h =>
        have hXd := Ext.todrew (Ext.refl W54)
        have kB := isB_ext hB hXd
        have kE : Ext w W54.drew := hE.trans hXd
        have k8 := hB8.d
        have k12 := hB12.d
        have s0 := Ext.cell_some hXd c120; have s8 := Ext.cell_some hXd c80; have sq := Ext.cell_some hXd ep
        refine wp_rt (.take 0 (.take 1 (.take 2 (.take 6 (.take 7 (.take 8 (.take 9 (.take 10 (.take 11 (.one 3 (.take 4 (.take 5 (.take 12 (.one 13 .nil)))))))))))))) (fun w' => w'.cell? ⟨g12, 0, none⟩ = some (.int .i64 n) ∧ w'.cell? ⟨g8, 0, none⟩ = some (.slice (some adp) t.places.length cp1) ∧ w'.cell? (adp.add qn) = some (.string q)) ?_ (fun hHeld => ?_)
        ·(first | exact True.intro | ((try dsimp only); (repeat' apply And.intro) <;> first | assumption | (refine Ext.cell_some (Ext.todrew (Ext.refl _)) ?_; assumption)))
        repeat' first | ((with_reducible refine t_tk ?_); first | ((with_reducible refine t_tk (i := 2) ?_); refine tk (v := .int .i64 n) ?_ hHeld ?_; (· exact run_ld (by rfl) (fun W h => load_one Tryz.underlying3 rfl h.1)); (try simp only [pS])) | ((with_reducible refine t_tk (i := 4) ?_); refine tk (v := .string (S L1)) ?_ hHeld ?_; (· exact run_cat (p := S [61]) (by rfl) (by rfl) HL.out.1 hsz.1); (try simp only [pS])) | ((with_reducible refine t_tk (i := 5) ?_); refine tk (v := .string (S L2)) ?_ hHeld ?_; (· exact run_cat (q := S [46]) (by rfl) (by rfl) HL.out.2.1 hsz.2.1); (try simp only [pS])) | ((with_reducible refine t_tk (i := 8) ?_); refine tk (v := .slice (some adp) t.places.length cp1) ?_ hHeld ?_; (· exact run_ld (by rfl) (fun W h => load_one Tryz.underlying22 rfl h.2.1)); (try simp only [pS])) | ((with_reducible refine t_tk (i := 11) ?_); refine tk (v := .string q) ?_ hHeld ?_; (· exact run_ld (by rfl) (fun W h => load_one Tryz.underlying9 rfl h.2.2)); (try simp only [pS])) | ((with_reducible refine t_tk (i := 12) ?_); refine tk (v := .string (S L3)) ?_ hHeld ?_; (· exact run_cat (by rfl) (by rfl) HL.out.2.2 hsz.2.2); (try simp only [pS])) | (refine tk (v := ?_) ?_ hHeld ?_; rotate_left; (· (intro wq hSw; (try dsimp only at hSw); go_simp; (try with_reducible rfl))); (try simp only [pS]))) | ((with_reducible refine t_on ?_); refine t_one (by simp only [gS]; rfl) ?_) | ((with_reducible refine q_gd (d := some 60) ?_); ((refine q_call (by rfl) (HD.out _ (hv.ext kE)) (by go_simp) ?_; rintro e W60 ⟨rfl, hE60⟩; refine ⟨_, rfl, ?_⟩; replace kB := isB_ext kB hE60; replace kE := kE.trans hE60; replace k8 := k8.ext hE60; replace k12 := k12.ext hE60; replace s0 := Ext.cell_some hE60 s0; replace s8 := Ext.cell_some hE60 s8; replace sq := Ext.cell_some hE60 sq))) | ((with_reducible refine q_gd (d := some 70) ?_); ((refine q_call (by rfl) (pwrite_any w.heap.size b (Lib.byteCells T) (S L3) _ kB (by simp only [S_size, Lib.byteCells_length]; omega) kE.size) (by go_simp) ?_; rintro e W70 ⟨rfl, hB70, hbel70, hkept70⟩; refine ⟨_, rfl, ?_⟩; have hE70 : Ext w W70 := Below.trans kE hbel70; replace k8 := hkept70.blk k8 n8b (by decide); replace k12 := hkept70.blk k12 n12b (by decide); replace s0 := k12.cell 0; replace s8 := k8.cell 0; simp at s0 s8; replace sq := Ext.cell_some hE70 epw))) | ((with_reducible refine q_nl ?_); clear hHeld; refine t_next ?_ (fun hHeld => ?_); (· (first | exact True.intro | ((try dsimp only); (repeat' apply And.intro) <;> first | assumption | (refine Ext.cell_some (Ext.todrew (Ext.refl _)) ?_; assumption)))); (try simp only [pS])) | (with_reducible refine t_done ?_)
        all_goals
         refine ⟨rfl, ?_⟩
         refine cut_ex ?_ ?_
         ·simp only [Act.sets, Act.put, List.foldl_cons, List.foldl_nil, List.setIfInBounds_toArray, List.set_cons_zero, List.set_cons_succ, Act.get]
          rfl
         exact ⟨hB70, hE70, k8⟩
       rintro x16 W16 ⟨hB16, hE16, hB816⟩
       simp only [Act.sets, Act.put, List.foldl_cons, List.foldl_nil, List.setIfInBounds_toArray, List.set_cons_zero, List.set_cons_succ, Act.get]
       have hB17 : Lib.IsBuilder 141 5 w.heap.size b (Lib.byteCells (t.textTo an l (j + 1))) W16 := by
        have e1 : Lib.byteCells T ++ Lib.strCells (S L3) = Lib.byteCells (t.textTo an l (j + 1)) := by
         rw [Hts2.out, Lib.strCells_eq, S_list]; simp [Lib.byteCells]
        rw [e1] at hB16; exact hB16
       clear hB16
       go_wp2
       go_roundw
       case rel => exact ⟨j + 1, by omega, by go_num, hB17, hE16, hB816⟩
       case measure => simp [intOf]; omega
     ·obtain rfl : j = l.length := by omega
      have Hr := Lib.hid (Town.textTo_all (t := t) an l)
      have hz : ¬ ((l.length : Int) < (l.length : Int)) := by omega
      rw [Hr.out] at hB
      go_wp2_with (first | (go_at_call 78; refine (Tryz.Builder_String_any w.heap.size b (t.textOf an l) _ hB hE.size).mono ?_; rintro e W72 ⟨rfl, hbel72⟩))
      go_ret2
      rw [hans.out]
      exact ⟨rfl, Below.trans hE hbel72⟩
   ·have hans := Lib.hid (Town.writeAns_s hce c1 hse)
    have q1 : ((t.stepsErr a l).2 != 0) = true := by simp [hse]
    clear hce hse
    go_enter Tryz.func30, Tryz.ntmps30
    go_wp2_with (first | (((with_reducible refine q_load (d := some 17) (hl := ld_townB hB3) ?_ ?_); rfl)) | ((with_reducible refine q_bl1 (d := some 19) (n0 := a) ?_ ?_); rfl; intro W19 g19 hE19 hB19 hg19; (try replace hE := hE.trans hE19); (try replace hT0 := hT0.ext hE19); (try replace hL := hL.ext hE19); have hI19 : Ints W19 (.slice (some ⟨g19, 0, none⟩) 1 1) [a] := ints_blk1 hB19; clear hB19 hg19 hE19) | (go_at_call 57; ((with_reducible refine (popen_any _ _ t [a] _ (by exact hT0) (by exact hI19)).mono ?_); rintro e WcP ⟨rfl, hEcP⟩; (try replace hE := hE.trans hEcP); (try replace hT0 := hT0.ext hEcP); (try replace hL := hL.ext hEcP); rw [Hoe.out])) | ((with_reducible refine q_newvar (e := 90) (u := 8) (v := .agg #[.slice A1 t.places.length cp1, .slice A2 t.shows.length cp2, .slice A3 t.times.length cp3, .slice A4 t.streets.length cp4]) ti90 ?_ ?_ ?_ ?_ ?_ ?_); (intro g; rfl); (intro g; rfl); rfl; rfl; (simp [Value.cells, Value.oneCell']); intro W8 g8 hE8 hB8 hg8; simp [Value.cells] at hB8; (try replace hE := hE.trans hE8); (try replace hT0 := hT0.ext hE8); (try replace hL := hL.ext hE8); have hb8_0 := hB8.cell 0; have hb8_1 := hB8.cell 1; have hb8_2 := hB8.cell 2; have hb8_3 := hB8.cell 3; simp at hb8_0 hb8_1 hb8_2 hb8_3; clear hE8) | (((with_reducible refine q_load (d := some 27) (hl := ld_ptownB hB8) ?_ ?_); rfl)) | (go_at_call 58; ((with_reducible refine (pfollow_any _ _ t a l _ (by exact hT0) hok (by exact hL)).mono ?_); rintro e WcF ⟨rfl, hEcF⟩; (try replace hE := hE.trans hEcF); (try replace hB8 := hB8.ext hEcF); (try replace hb8_0 := Ext.cell_some hEcF hb8_0))) | ((with_reducible refine q_box (d := some 3) ?_); intro W3 g3 hE3 hB3 hg3; simp [Act.eval, Act.put, Value.cells] at hB3; (try replace hE := hE.trans hE3); (try replace hT0 := hT0.ext hE3); (try replace hL := hL.ext hE3); have hb3_1 := hB3.cell 1; have hb3_2 := hB3.cell 2; have hb3_3 := hB3.cell 3; simp at hb3_1 hb3_2 hb3_3; clear hE3))
    go_ret2
    rw [hans.out]
    exact ⟨rfl, hE⟩
 ·have Hoe := Lib.hid (show t.openErr [a] = t.check.2.2 by unfold Town.openErr; rw [if_pos hce])
  have hans := Lib.hid (Town.writeAns_c (a := a) (l := l) hce)
  have q1 : (t.check.2.2 != 0) = true := by simp [hce]
  clear hce
  go_enter Tryz.func30, Tryz.ntmps30
  go_wp2_with (first | (((with_reducible refine q_load (d := some 17) (hl := ld_townB hB3) ?_ ?_); rfl)) | ((with_reducible refine q_bl1 (d := some 19) (n0 := a) ?_ ?_); rfl; intro W19 g19 hE19 hB19 hg19; (try replace hE := hE.trans hE19); (try replace hT0 := hT0.ext hE19); (try replace hL := hL.ext hE19); have hI19 : Ints W19 (.slice (some ⟨g19, 0, none⟩) 1 1) [a] := ints_blk1 hB19; clear hB19 hg19 hE19) | (go_at_call 57; ((with_reducible refine (popen_any _ _ t [a] _ (by exact hT0) (by exact hI19)).mono ?_); rintro e WcP ⟨rfl, hEcP⟩; (try replace hE := hE.trans hEcP); (try replace hT0 := hT0.ext hEcP); (try replace hL := hL.ext hEcP); rw [Hoe.out])) | ((with_reducible refine q_newvar (e := 90) (u := 8) (v := .agg #[.slice A1 t.places.length cp1, .slice A2 t.shows.length cp2, .slice A3 t.times.length cp3, .slice A4 t.streets.length cp4]) ti90 ?_ ?_ ?_ ?_ ?_ ?_); (intro g; rfl); (intro g; rfl); rfl; rfl; (simp [Value.cells, Value.oneCell']); intro W8 g8 hE8 hB8 hg8; simp [Value.cells] at hB8; (try replace hE := hE.trans hE8); (try replace hT0 := hT0.ext hE8); (try replace hL := hL.ext hE8); have hb8_0 := hB8.cell 0; have hb8_1 := hB8.cell 1; have hb8_2 := hB8.cell 2; have hb8_3 := hB8.cell 3; simp at hb8_0 hb8_1 hb8_2 hb8_3; clear hE8) | ((with_reducible refine q_box (d := some 3) ?_); intro W3 g3 hE3 hB3 hg3; simp [Act.eval, Act.put, Value.cells] at hB3; (try replace hE := hE.trans hE3); (try replace hT0 := hT0.ext hE3); (try replace hL := hL.ext hE3); have hb3_1 := hB3.cell 1; have hb3_2 := hB3.cell 2; have hb3_3 := hB3.cell 3; simp at hb3_1 hb3_2 hb3_3; clear hE3))
  go_ret2
  rw [hans.out]
  exact ⟨rfl, hE⟩
end Go.St
end
section
namespace Go.St
open Go.Bp
theorem get_get! (s : ByteArray) (j : Nat) (h : j < s.size) : s[j] = s.get! j := by
  have := get_at s j h; rw [← this]; rfl
theorem decode_span (s : ByteArray) (k : Nat) (h : k < s.size) :
    1 ≤ (Utf8.decode s k).2 ∧ k + (Utf8.decode s k).2 ≤ s.size ∧ ∀ j (hj : j < s.size), k < j → j < k + (Utf8.decode s k).2 → 128 ≤ s[j].toNat := by
  have key : ∀ j (hj : j < s.size), (s.get! j).toNat / 64 = 2 → 128 ≤ s[j].toNat := fun j hj e => by rw [get_get! s j hj]; omega
  have one : ∀ j (hj : j < s.size), k < j → j < k + 1 → 128 ≤ s[j].toNat := fun j hj h1 h2 => by omega
  unfold Utf8.decode
  simp only [Bool.and_eq_true, decide_eq_true_eq, beq_iff_eq]
  split
  · exact ⟨Nat.le_refl _, h, one⟩
  · split
    · rename_i hc
      split
      · refine ⟨by simp, by have := hc.2.1; omega, fun j hj h1 h2 => ?_⟩
        obtain rfl : j = k + 1 := by omega
        exact key _ hj hc.2.2
      · exact ⟨Nat.le_refl _, h, one⟩
    · split
      · rename_i hc
        split
        · refine ⟨by simp, by have := hc.2.1; omega, fun j hj h1 h2 => ?_⟩
          have e : j = k + 1 ∨ j = k + 2 := by simp only at h2; omega
          rcases e with rfl | rfl
          · exact key _ hj hc.1.2.2
          · exact key _ hj hc.2.2
        · exact ⟨Nat.le_refl _, h, one⟩
      · split
        · rename_i hc
          split
          · refine ⟨by simp, by have := hc.2.1; omega, fun j hj h1 h2 => ?_⟩
            have e : j = k + 1 ∨ j = k + 2 ∨ j = k + 3 := by simp only at h2; omega
            rcases e with rfl | rfl | rfl
            · exact key _ hj hc.1.1.2.2
            · exact key _ hj hc.1.2.2
            · exact key _ hj hc.2.2
          · exact ⟨Nat.le_refl _, h, one⟩
        · exact ⟨Nat.le_refl _, h, one⟩
theorem cut_contains (b : UInt8) : [45, 61].contains b = isCut b := by
  unfold isCut
  simp
theorem cut_high {b : UInt8} (h : 128 ≤ b.toNat) : isCut b = false := by
  unfold isCut
  have h1 : b ≠ 45 := by rintro rfl; revert h; decide
  have h2 : b ≠ 61 := by rintro rfl; revert h; decide
  simp [h1, h2]
theorem indexAny_cut : ∀ l : List UInt8, Lib.indexAny l [45, 61] = if (headL l).length < l.length then ((headL l).length : Int) else -1
  | [] => by simp [Lib.indexAny]
  | b :: l => by
    rw [Lib.indexAny, indexAny_cut l, cut_contains]
    unfold headL
    rw [List.takeWhile_cons]
    cases hb : isCut b with
    | true => simp
    | false =>
      simp only [Bool.not_false, if_true, List.length_cons, Bool.false_eq_true, if_false]
      by_cases h : (l.takeWhile fun b => !isCut b).length < l.length
      · have h2 : (l.takeWhile fun b => !isCut b).length + 1 < l.length + 1 := by omega
        have h3 : ¬ (((l.takeWhile fun b => !isCut b).length : Int) == -1) = true := by simp
        simp only [h, h2, h3, if_true]; simp
      · have h2 : ¬ (l.takeWhile fun b => !isCut b).length + 1 < l.length + 1 := by omega
        simp only [h, h2, if_false]; rfl
theorem head_le (l : List UInt8) : (headL l).length ≤ l.length := by
  have := congrArg List.length (takeWhile_app (fun b => !isCut b) l)
  rw [List.length_append] at this
  unfold headL; omega
theorem head_take (l : List UInt8) : l.take (headL l).length = headL l ∧ l.drop (headL l).length = restL l := by
  have h := takeWhile_app (fun b => !isCut b) l
  constructor
  · conv => lhs; arg 2; rw [← h]
    unfold headL; rw [List.take_left]
  · conv => lhs; arg 2; rw [← h]
    unfold headL restL; rw [List.drop_left]
theorem indexByte_46 : ∀ l : List UInt8, Lib.indexByte l 46 = if (46 : UInt8) ∈ l then ((head46 l).length : Int) else -1
  | [] => by simp [Lib.indexByte]
  | b :: l => by
    rw [Lib.indexByte, indexByte_46 l]
    unfold head46
    rw [List.takeWhile_cons]
    by_cases hb : b = 46
    · subst hb; simp
    · have e1 : (b == 46) = false := by simp [hb]
      have e2 : ((46 : UInt8) ∈ b :: l) ↔ (46 : UInt8) ∈ l := by simp; intro h; exact absurd h.symm hb
      simp only [e1, Bool.false_eq_true, if_false, ne_eq, hb, not_false_eq_true, decide_true, if_true, List.length_cons]
      by_cases h : (46 : UInt8) ∈ l
      · have h2 := e2.2 h
        have h3 : ¬ (((l.takeWhile fun b => decide (b ≠ 46)).length : Int) == -1) = true := by simp
        simp only [ne_eq] at h3
        simp only [h, h2, h3, if_true]; simp
      · have h2 : ¬ (46 : UInt8) ∈ b :: l := fun e => h (e2.1 e)
        simp only [h, h2, if_false]; rfl
theorem head46_take {l : List UInt8} (h : (46 : UInt8) ∈ l) : l.take (head46 l).length = head46 l ∧ l.drop ((head46 l).length + 1) = rest46 l := by
  have e := head46_app h
  constructor
  · conv => lhs; arg 2; rw [e]
    rw [List.take_left]
  · conv => lhs; arg 2; rw [e]
    rw [← List.drop_drop, List.drop_left, List.drop_one, List.tail_cons]
theorem head46_lt {l : List UInt8} (h : (46 : UInt8) ∈ l) : (head46 l).length + 1 + (rest46 l).length = l.length := by
  have e := congrArg List.length (head46_app h)
  simp at e; omega
theorem ba_extract (s : ByteArray) (a b : Nat) : (s.extract a b).data.toList = (s.data.toList.drop a).take (b - a) := by
  simp [List.drop_take]
/-! ### the rune's form -/
theorem encode_high {r : Int} (h : 128 ≤ r) : ∃ l b, Utf8.encode r = S (l ++ [b]) ∧ 128 ≤ b.toNat ∧ 1 ≤ l.length ∧ l.length ≤ 3 := by
  have hb : ∀ n : Nat, n < 64 → 128 ≤ (UInt8.ofNat (128 + n)).toNat := fun n hn => by
    rw [UInt8.toNat_ofNat']; omega
  unfold Utf8.encode
  simp only
  generalize hc : (if Utf8.valid r = true then r.toNat else Utf8.runeError) = c
  have hc2 : ¬ c < 128 := by
    rw [← hc]; split
    · omega
    · decide
  rw [if_neg hc2]
  split
  · exact ⟨[_], _, rfl, hb (c % 64) (Nat.mod_lt _ (by decide)), by simp, by simp⟩
  · split
    · exact ⟨[_, _], _, rfl, hb (c % 64) (Nat.mod_lt _ (by decide)), by simp, by simp⟩
    · exact ⟨[_, _, _], _, rfl, hb (c % 64) (Nat.mod_lt _ (by decide)), by simp, by simp⟩
end Go.St
end
