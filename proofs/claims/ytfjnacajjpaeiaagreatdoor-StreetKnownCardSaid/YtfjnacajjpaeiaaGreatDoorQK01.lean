/- Chapter 03: contracts of functions of the program and of the reference, and plain laws (out of KKnown StT LS2). No condition of its own. -/
import Derived.BigQuiet
import Derived.Carry
import Derived.Deep.AppendLies
import Derived.Deep.Draws
import Derived.Deep.LoopGhost
import Derived.Deep.QuietTactic
import Derived.Deep.RegionHeld3
import Derived.Defers
import Derived.Handed
import Derived.LaidMore
import Derived.Laws.CopyOwn
import Derived.Laws.RangeAny
import Derived.Laws.StructEq
import Derived.Lay
import Derived.Lib.AtoiAll
import Derived.Lib.Hide
import Derived.Lib.IndexAny
import Derived.Lib.IndexLaws
import Derived.Lib.ItoaMem
import Derived.Lib.LaidTab
import Derived.Lib.OthersKept
import Derived.Lib.SliceRun
import Derived.Lib.Split
import Derived.Lib.Tables
import Derived.LoopIn
import Derived.MapKept
import Derived.Maps.AppendAt
import Derived.OpenShut
import Derived.OrdersHeld
import Derived.OrdersIn
import Derived.ProofKit
import Derived.RangeFuncBound
import Derived.RangeFuncLeaves
import Derived.RangeFuncNested
import Derived.Recover
import Derived.SevenTiedAt
import Derived.Shelf.Abstract
import Derived.Shelf.LaysC
import Derived.Shelf.LaysM
import Derived.Shelf.Small.Strs
import Derived.Shelf.Small.Utf8
import Derived.Shelf.Small.Wraps
import Derived.Shelf.Strconv.Atoi
import Derived.Shelf.Strconv.AtoiAll
import Derived.Shelf.Strconv.AtoiErrFast
import Derived.Shelf.Strconv.AtoiFail
import Derived.Shelf.Strconv.AtoiInnerAll
import Derived.Shelf.Strconv.AtoiLong
import Derived.Shelf.Strconv.Clone
import Derived.Shelf.Strconv.Itoa0
import Derived.Shelf.Strconv.Itoa1
import Derived.Shelf.Strconv.Itoa2
import Derived.Shelf.Strconv.Itoa3
import Derived.Shelf.Strconv.Lower
import Derived.Shelf.Strconv.ParseInt10
import Derived.Shelf.Strconv.ParseIntEmpty
import Derived.Shelf.Strconv.ParseUint10
import Derived.Shelf.Strconv.ParseUint10Any
import Derived.Shelf.Strconv.ParseUint10Empty
import Derived.Shelf.Strconv.RangeError
import Derived.Shelf.Strconv.SyntaxError
import Derived.Shelf.Strconv.ToError
import Derived.Shelf.Strconv.ToErrorRange
import Derived.Shelf.Strings.AsciiSet
import Derived.Shelf.Strings.Builder1
import Derived.Shelf.Strings.BuilderF
import Derived.Shelf.Strings.BuilderK
import Derived.Shelf.Strings.Cut
import Derived.Shelf.Strings.IndexAny
import Derived.Shelf.Strings.IndexAnyAll
import Derived.Shelf.Strings.Runes
import Derived.Shelf.Strings.Search1
import Derived.Shelf.Strings.Search2
import Derived.Shelf.Strings.Shaped
import Derived.Shelf.Vars
import Derived.SliceStrings
import Derived.Stop.LaidErr
import Derived.TacticsIn
import Derived.Test.YtfjnacajjpaeiaaGreatDoorCards
import Derived.Test.YtfjnacajjpaeiaaGreatDoorProg
import Derived.Test.YtfjnacajjpaeiaaGreatDoorTie
import Derived.WalkKit
import Derived.WalkLawsBesides
import Derived.WalkMore
import Derived.WalkSpells
import Derived.Test.YtfjnacajjpaeiaaGreatDoorP01
import Derived.Test.YtfjnacajjpaeiaaGreatDoorP02
import Derived.Test.YtfjnacajjpaeiaaGreatDoorP03
import Derived.Test.YtfjnacajjpaeiaaGreatDoorP04
import Derived.Test.YtfjnacajjpaeiaaGreatDoorP05
import Derived.Test.YtfjnacajjpaeiaaGreatDoorP06
import Derived.Test.YtfjnacajjpaeiaaGreatDoorP07
import Derived.Test.YtfjnacajjpaeiaaGreatDoorP08
import Derived.Test.YtfjnacajjpaeiaaGreatDoorP09
import Derived.Test.YtfjnacajjpaeiaaGreatDoorP13
import Derived.Test.YtfjnacajjpaeiaaGreatDoorP14
import Derived.Test.YtfjnacajjpaeiaaGreatDoorP15
import Derived.Test.YtfjnacajjpaeiaaGreatDoorP16
import Derived.Test.YtfjnacajjpaeiaaGreatDoorP17
import Derived.Test.YtfjnacajjpaeiaaGreatDoorP19
import Derived.Test.YtfjnacajjpaeiaaGreatDoorP21
import Derived.Test.YtfjnacajjpaeiaaGreatDoorP22
set_option maxRecDepth 100000
set_option linter.all false
section
namespace Go.Proofs.YtfjnacajjpaeiaaGreatDoor
open Go Go.Bp Go.St Go.RowKit Go.Proofs Go.ChangeShapes Go.WideShapes Go.ChangeAt
theorem ip8 : (Rows.streetKnownRow.inPlace == Tryz.pinned.checked.prog.inPlace 8) = true := by kernel_rfl
theorem uf8 : (Rows.streetKnownRow.unfollowed == Tryz.pinned.checked.prog.unfollowed 8) = true := by kernel_rfl
theorem rc8 : (Rows.streetKnownRow.recurses == Tryz.pinned.checked.prog.recurses 8) = true := by kernel_rfl
theorem nm8 : (Rows.streetKnownRow.named == Tryz.pinned.checked.prog.varsNamed 8) = true := by kernel_rfl
theorem closed8 : joinedFacts Tryz.pinned.checked.prog 8 Tryz.f8 Rows.streetKnownSpec Rows.streetKnownRow = true := by
  unfold joinedFacts
  rw [ip8, uf8, rc8, nm8]
  kernel_rfl
end Go.Proofs.YtfjnacajjpaeiaaGreatDoor
end
section
namespace Go.St
open Go.Bp
/-! ### the examples of StreetKnown -/
def exK4 : Task := ⟨0, 0, 0, 0, []⟩
def exK5 : Task := ⟨0, 0, 3, 0, []⟩
def exK6 : Task := ⟨0, 3, 0, 0, []⟩
def exL4 : List Ent := [⟨0, 0, 0, 0⟩, ⟨1, 0, 300, 1⟩, ⟨2, 0, 600, 1⟩]
def exL5 : List Ent := [⟨0, 0, 0, 0⟩, ⟨1, 0, 300, 1⟩, ⟨2, 0, 600, 1⟩, ⟨0, 1, 1000, 2⟩, ⟨1, 1, 1100, 2⟩, ⟨2, 1, 600, 1⟩, ⟨0, 2, 600, 2⟩, ⟨1, 2, 300, 1⟩, ⟨2, 2, 800, 2⟩, ⟨0, 3, 1400, 3⟩, ⟨1, 3, 1300, 3⟩, ⟨2, 3, 1200, 3⟩]
def exL6 : List Ent := [⟨3, 0, 0, 0⟩]
theorem exErr4 : exTown.taskErr exK4 = 0 := by kernel_rfl
theorem exErr5 : exTown.taskErr exK5 = 0 := by kernel_rfl
theorem exErr6 : exTown.taskErr exK6 = 0 := by kernel_rfl
theorem exCost4 : exTown.cost exK4 = tabOf exL4 := Town.cost_tab (Town.taskOk_of exErr4) (by kernel_rfl) (by kernel_rfl) (by kernel_rfl)
theorem exCost5 : exTown.cost exK5 = tabOf exL5 := Town.cost_tab (Town.taskOk_of exErr5) (by kernel_rfl) (by kernel_rfl) (by kernel_rfl)
theorem exCost6 : exTown.cost exK6 = tabOf exL6 := Town.cost_tab (Town.taskOk_of exErr6) (by kernel_rfl) (by kernel_rfl) (by kernel_rfl)
theorem exFind4 : exTown.findAns exK4 = (⟨[], 0, 0, 0, 0⟩, 0) := by
  rw [Town.find_tab (Town.taskOk_of exErr4) exErr4 exCost4 (c := (0, 0)) (by kernel_rfl)]; kernel_rfl
theorem exFind5 : exTown.findAns exK5 = (⟨[⟨0, false⟩, ⟨1, false⟩, ⟨3, false⟩], 1400, 5, 7, 3⟩, 0) := by
  rw [Town.find_tab (Town.taskOk_of exErr5) exErr5 exCost5 (c := (1400, 3)) (by kernel_rfl)]; kernel_rfl
theorem exFind6 : exTown.findAns exK6 = (⟨[], 0, 0, 0, 0⟩, 9) := Town.find_tab9 exErr6 exCost6 (by kernel_rfl)
end Go.St
end
section
namespace Go.St
open Go Go.Bp Go.RowKit Go.Proofs
set_option maxHeartbeats 8000000 in
theorem LKnown (w : World) (hv : Env w) : Calls Tryz.prog 8 #[] w (RetB w true) := by
 have hE := Ext.refl w
 have H1 := Lib.hid (fun (tv kv : Value) (W : World) (h : TownV W tv exTown) (hk : TaskV W kv exK4) => by have := PFind_any tv kv exTown exK4 W h hk; rw [exFind4] at this; exact this)
 have H2 := Lib.hid (fun (tv kv : Value) (W : World) (h : TownV W tv exTown) (hk : TaskV W kv exK5) => by have := PFind_any tv kv exTown exK5 W h hk; rw [exFind5] at this; exact this)
 have H3 := Lib.hid (fun (tv kv : Value) (W : World) (h : TownV W tv exTown) (hk : TaskV W kv exK6) => by have := PFind_any tv kv exTown exK6 W h hk; rw [exFind6] at this; exact this)
 have hk1 : ∀ W, TaskV W (.agg #[.int .i64 0, .int .i64 0, .int .i64 0, .int .i64 0, .slice none 0 0]) exK4 := fun W => TaskV.of (k := exK4) (Sl.none_ _ _)
 have hk2 : ∀ W, TaskV W (.agg #[.int .i64 0, .int .i64 0, .int .i64 3, .int .i64 0, .slice none 0 0]) exK5 := fun W => TaskV.of (k := exK5) (Sl.none_ _ _)
 have hk3 : ∀ W, TaskV W (.agg #[.int .i64 0, .int .i64 3, .int .i64 0, .int .i64 0, .slice none 0 0]) exK6 := fun W => TaskV.of (k := exK6) (Sl.none_ _ _)
 go_enter Tryz.func8, Tryz.ntmps8
 go_wp2_with (first | (go_at_call 35; ((with_reducible refine (Town_any _).mono ?_); rintro e WcT ⟨tv, rfl, hT, hEcT⟩; (try replace hE := hE.trans hEcT); (try replace hS3 := hS3.ext hEcT); (try replace hb1_0 := Ext.cell_some hEcT hb1_0); (try replace hb1_1 := Ext.cell_some hEcT hb1_1); (try replace hb3_0 := Ext.cell_some hEcT hb3_0); (try replace hb3_1 := Ext.cell_some hEcT hb3_1); (try replace hb3_4 := Ext.cell_some hEcT hb3_4))) | (go_at_call 23; ((with_reducible refine (H1.out _ _ _ (by exact hT) (hk1 _)).mono ?_); rintro e Wc1 ⟨v1, rfl, ⟨s1, rfl, hO1⟩, hEc1⟩; (try replace hE := hE.trans hEc1); obtain ⟨A1, c1, e1, _⟩ := hO1.steps ; replace e1 : s1 = .slice A1 0 c1 := e1 ; subst e1)) | ((with_reducible refine q_newvar (e := 36) (u := 1) (v := .agg #[.slice A1 0 c1, .int .i64 0, .int .i64 0, .int .i64 0, .int .i64 0]) ti36 ?_ ?_ ?_ ?_ ?_ ?_); (intro g; rfl); (intro g; rfl); rfl; rfl; (simp [Value.cells, Value.oneCell']); intro W1 g1 hE1 hB1 hg1; simp [Value.cells] at hB1; (try replace hE := hE.trans hE1); have hb1_0 := hB1.cell 0; have hb1_1 := hB1.cell 1; simp at hb1_0 hb1_1; clear hE1) | (go_at_call 23; ((with_reducible refine (H2.out _ _ _ (by exact hT) (hk2 _)).mono ?_); rintro e Wc2 ⟨v3, rfl, ⟨s3, rfl, hO3⟩, hEc2⟩; (try replace hE := hE.trans hEc2); (try replace hb1_0 := Ext.cell_some hEc2 hb1_0); (try replace hb1_1 := Ext.cell_some hEc2 hb1_1); have hS3 := hO3.steps ; obtain ⟨A3, c3, e3, _⟩ := hO3.steps ; replace e3 : s3 = .slice A3 3 c3 := e3 ; subst e3)) | ((with_reducible refine q_newvar (e := 36) (u := 3) (v := .agg #[.slice A3 3 c3, .int .i64 1400, .int .i64 5, .int .i64 7, .int .i64 3]) ti36 ?_ ?_ ?_ ?_ ?_ ?_); (intro g; rfl); (intro g; rfl); rfl; rfl; (simp [Value.cells, Value.oneCell']); intro W3 g3 hE3 hB3 hg3; simp [Value.cells] at hB3; (try replace hE := hE.trans hE3); (try replace hS3 := hS3.ext hE3); (try replace hb1_0 := Ext.cell_some hE3 hb1_0); (try replace hb1_1 := Ext.cell_some hE3 hb1_1); have hb3_0 := hB3.cell 0; have hb3_1 := hB3.cell 1; have hb3_4 := hB3.cell 4; simp at hb3_0 hb3_1 hb3_4; clear hE3) | (go_at_call 23; ((with_reducible refine (H3.out _ _ _ (by exact hT) (hk3 _)).mono ?_); rintro e Wc3 ⟨v5, rfl, ⟨s5, rfl, hO5⟩, hEc3⟩; (try replace hE := hE.trans hEc3); (try replace hS3 := hS3.ext hEc3); (try replace hb1_0 := Ext.cell_some hEc3 hb1_0); (try replace hb1_1 := Ext.cell_some hEc3 hb1_1); (try replace hb3_0 := Ext.cell_some hEc3 hb3_0); (try replace hb3_1 := Ext.cell_some hEc3 hb3_1); (try replace hb3_4 := Ext.cell_some hEc3 hb3_4); obtain ⟨A5, c5, e5, _⟩ := hO5.steps ; replace e5 : s5 = .slice A5 0 c5 := e5 ; subst e5)) | ((with_reducible refine q_newvar (e := 36) (u := 5) (v := .agg #[.slice A5 0 c5, .int .i64 0, .int .i64 0, .int .i64 0, .int .i64 0]) ti36 ?_ ?_ ?_ ?_ ?_ ?_); (intro g; rfl); (intro g; rfl); rfl; rfl; (simp [Value.cells, Value.oneCell']); intro W5 g5 hE5 hB5 hg5; simp [Value.cells] at hB5; (try replace hE := hE.trans hE5); (try replace hS3 := hS3.ext hE5); (try replace hb1_0 := Ext.cell_some hE5 hb1_0); (try replace hb1_1 := Ext.cell_some hE5 hb1_1); (try replace hb3_0 := Ext.cell_some hE5 hb3_0); (try replace hb3_1 := Ext.cell_some hE5 hb3_1); (try replace hb3_4 := Ext.cell_some hE5 hb3_4); clear hE5))
 have HL := Lib.hid (show ∀ v u W, Steps W v [⟨0, false⟩, ⟨1, false⟩, ⟨3, false⟩] → Steps W u (stepsBy [0, 1, 3]) → Calls Tryz.prog 34 #[v, u] W (RetB W true) from fun v u W h h' => by have := RLists_any v u _ _ W h h'; rwa [show decide ([⟨0, false⟩, ⟨1, false⟩, ⟨3, false⟩] = stepsBy [0, 1, 3]) = true by decide] at this)
 have HI := Lib.hid (show ∀ v u W, Ints W v [3] → Ints W u [3] → Calls Tryz.prog 37 #[v, u] W (RetB W true) from fun v u W h h' => by have := Ints_any v u _ _ W h h'; rwa [show decide (([3] : List Int) = [3]) = true by decide] at this)
 have hX := Ext.todrew (Ext.refl W5)
 clear hT H1 H2 H3 hk1 hk2 hk3
 refine wp_rt (.take 0 (.take 1 (.take 2 (.take 3 (.take 4 (.take 5 (.take 6 (.take 7 (.take 8 (.take 9 (.take 10 (.take 11 (.take 12 (.take 13 (.take 14 (.take 15 (.take 16 (.take 17 (.take 18 (.take 19 (.take 20 (.take 21 (.take 22 (.take 23 (.one 24 (.one 25 (.one 26 (.take 27 (.take 28 (.take 29 (.take 30 (.take 31 (.take 32 (.take 33 (.take 34 (.take 35 (.two 36 (.one 37 (.one 38 (.take 39 (.take 40 (.one 41 (.take 42 (.take 43 .nil))))))) 37 (.one 36 (.one 38 (.take 39 (.take 40 (.one 41 (.take 42 (.take 43 .nil)))))))))))))))))))))))))))))))))))))))))))) (fun w' => Ext W5 w') ?_ (fun hHeld => ?_)
 ·assumption
 repeat' first | ((with_reducible refine t_tk ?_); first | ((with_reducible refine t_tk (i := 12) ?_); refine tw (v := .slice A1 0 c1) ?_ hHeld ?_; (· exact run_ld (by rfl) (fun W h => load_one Tryz.underlying32 rfl (Ext.cell_some h hb1_0))); (try simp only [pS])) | ((with_reducible refine t_tk (i := 18) ?_); refine tw (v := .int .i64 0) ?_ hHeld ?_; (· exact run_ld (by rfl) (fun W h => load_one Tryz.underlying3 rfl (Ext.cell_some h hb1_1))); (try simp only [pS])) | ((with_reducible refine t_tk (i := 23) ?_); refine tw (v := .slice A3 3 c3) ?_ hHeld ?_; (· exact run_ld (by rfl) (fun W h => load_one Tryz.underlying32 rfl (Ext.cell_some h hb3_0))); (try simp only [pS])) | ((with_reducible refine t_tk (i := 30) ?_); refine tw (v := .int .i64 1400) ?_ hHeld ?_; (· exact run_ld (by rfl) (fun W h => load_one Tryz.underlying3 rfl (Ext.cell_some h hb3_1))); (try simp only [pS])) | ((with_reducible refine t_tk (i := 35) ?_); refine tw (v := .int .i64 3) ?_ hHeld ?_; (· exact run_ld (by rfl) (fun W h => load_one Tryz.underlying3 rfl (Ext.cell_some h hb3_4))); (try simp only [pS])) | (refine tk (v := ?_) ?_ hHeld ?_; rotate_left; (· (intro wq hSw; (try dsimp only at hSw); go_simp; (try with_reducible rfl))); (try simp only [pS])) | (refine tw (v := ?_) ?_ hHeld ?_; rotate_left; (· (intro wq hSw; (try dsimp only at hSw); go_simp; (try with_reducible rfl))); (try simp only [pS]))) | ((with_reducible refine t_on ?_); refine t_one (by simp only [gS]; rfl) ?_) | ((with_reducible refine t_tw ?_); refine t_two (by simp only [gS]; rfl) (by simp only [gS]; rfl) ?_ ?_) | ((with_reducible refine q_gd (d := some 49) ?_); ((refine q_bsliceG (by rfl) (e := 3) (cs := #[.int .i64 0, .int .i64 1, .int .i64 3]) ?_ ?_; (simp [Act.eval]; exact bsI3 _ _ _); intro W49 g49 hE49 hB49 hg49; have hI49 := ints_blk3 hB49; replace hX := hX.trans hE49))) | ((with_reducible refine q_gd (d := some 50) ?_); ((refine q_callG (by rfl) (lby_any _ [0, 1, 3] _ hI49 (by decide)) (by go_simp) ?_; rintro e W50 ⟨lv2, rfl, hO50, hE50⟩; refine ⟨_, rfl, ?_⟩; replace hX := hX.trans hE50))) | ((with_reducible refine q_gd (d := some 51) ?_); ((refine q_callG (by rfl) (HL.out _ _ _ (hS3.ext hX) hO50.steps) (by go_simp) ?_; rintro e W51 ⟨rfl, hE51⟩; refine ⟨_, rfl, ?_⟩; replace hX := hX.trans hE51))) | ((with_reducible refine q_gd (d := some 61) ?_); ((refine q_bsliceG (by rfl) (e := 3) (cs := #[.int .i64 3]) ?_ ?_; (simp [Act.eval]; exact bsI1 _); intro W61 g61 hE61 hB61 hg61; have hI61 := ints_blk1 hB61; (try replace hI62 := hI62.ext hE61); replace hX := hX.trans hE61))) | ((with_reducible refine q_gd (d := some 62) ?_); ((refine q_bsliceG (by rfl) (e := 3) (cs := #[.int .i64 3]) ?_ ?_; (simp [Act.eval]; exact bsI1 _); intro W62 g62 hE62 hB62 hg62; have hI62 := ints_blk1 hB62; (try replace hI61 := hI61.ext hE62); replace hX := hX.trans hE62))) | ((with_reducible refine q_gd (d := some 63) ?_); ((refine q_callG (by rfl) (HI.out _ _ _ hI61 hI62) (by go_simp) ?_; rintro e W63 ⟨rfl, hE63⟩; refine ⟨_, rfl, ?_⟩; replace hX := hX.trans hE63))) | ((with_reducible refine q_gd (d := some 66) ?_); ((refine q_callG (by rfl) (Awake3_any _ (hv.ext (hE.trans hX))) (by go_simp) ?_; rintro e W66 ⟨rfl, hE66⟩; refine ⟨_, rfl, ?_⟩; replace hX := hX.trans hE66))) | ((with_reducible refine q_nl ?_); clear hHeld; refine t_next ?_ (fun hHeld => ?_); (· assumption); (try simp only [pS])) | (with_reducible refine t_done ?_)
 all_goals ((go_wp2; go_ret; exact ⟨rfl, hE.trans hX⟩))
end Go.St
end
