/- Chapter 03: contracts of functions of the program and of the reference, and plain laws (out of SJ3 SJ5). No condition of its own. -/
import Derived.BigQuiet
import Derived.Deep.AppendLies
import Derived.Deep.Draws
import Derived.Deep.LoopGhost
import Derived.Deep.QuietTactic
import Derived.Deep.RegionHeld3
import Derived.Laws.RangeAny
import Derived.Laws.StructEq
import Derived.Lib.AtoiAll
import Derived.Lib.Hide
import Derived.Lib.ItoaMem
import Derived.Lib.SliceRun
import Derived.Lib.Split
import Derived.MapKept
import Derived.Maps.AppendAt
import Derived.OrdersHeld
import Derived.OrdersIn
import Derived.RangeFuncBound
import Derived.RangeFuncLeaves
import Derived.RangeFuncNested
import Derived.Shelf.Abstract
import Derived.TacticsIn
import Derived.Test.YtfjnacajjpaeiaaGreatDoorProg
import Derived.WalkKit
import Derived.WalkLawsBesides
import Derived.WalkSpells
import Derived.Test.YtfjnacajjpaeiaaGreatDoorP01
import Derived.Test.YtfjnacajjpaeiaaGreatDoorP02
import Derived.Test.YtfjnacajjpaeiaaGreatDoorP03
import Derived.Test.YtfjnacajjpaeiaaGreatDoorP04
import Derived.Test.YtfjnacajjpaeiaaGreatDoorP05
import Derived.Test.YtfjnacajjpaeiaaGreatDoorP07
import Derived.Test.YtfjnacajjpaeiaaGreatDoorP09
import Derived.Test.YtfjnacajjpaeiaaGreatDoorP10
import Derived.Test.YtfjnacajjpaeiaaGreatDoorP13
set_option maxRecDepth 100000
set_option linter.all false
section
namespace Go.St
open Go Go.Bp Go.RowKit Go.Proofs
theorem contI_any (v : Value) (xs : List Int) (s : Int) (w : World) (h : Ints w v xs) : Calls Tryz.prog 100 #[v, .int .i64 s] w (RetB w (decide (s ∈ xs))) := by
 refine (ContainsI_any v xs s w h).mono ?_
 rintro e w' ⟨rfl, rfl⟩
 refine RetB.of ?_ (Ext.refl _)
 rw [Bool.eq_iff_iff]
 simp
theorem psteps_any (gj : Nat) (w : World) : Calls Tryz.prog 64 #[.pointer (some ⟨gj, 0, none⟩)] w (fun e w' => ∃ gb, e = .returned (.func (.func 99) #[] #[.pointer (some ⟨gb, 0, none⟩)]) ∧ Ext w w' ∧ w.heap.size ≤ gb ∧ Blk w' gb 109 #[.pointer (some ⟨gj, 0, none⟩)]) := by
 go_enter Tryz.func64, Tryz.ntmps64
 go_wp2_with (first | ((with_reducible refine q_box (d := some 1) ?_); intro W1 g1 hE1 hB1 hg1; simp [Act.eval, Act.put, Value.cells] at hB1))
 go_ret
 exact ⟨g1, rfl, hE1, hg1, hB1⟩
theorem enters99 : ∀ (args : Array Value) (W : World), (callFunc 99 args).run Tryz.prog W = .ok (.enter 99 args) W := enters_of Tryz.func99 (by kernel_rfl) rfl
def encStep (x : Step) : Array Value := #[.agg #[.int .i64 x.st, .bool x.bk]]
theorem stepsTo_succ (t : Town) (k : Task) (n : Nat) : t.stepsTo k (n + 1) = t.stepsTo k n ++ if (n : Int) ∈ k.closed then [] else ⟨(n : Int), false⟩ :: if (t.at_ n).both = true then [⟨(n : Int), true⟩] else [] := rfl
theorem stepsTo_pre (t : Town) (k : Task) : ∀ (n d : Nat), ∃ l, t.stepsTo k (n + d) = t.stepsTo k n ++ l
 | n, 0 => ⟨[], by simp⟩
 | n, d + 1 => by
  obtain ⟨l, hl⟩ := stepsTo_pre t k n d
  exact ⟨l ++ _, by rw [show n + (d + 1) = (n + d) + 1 by omega, stepsTo_succ, hl, List.append_assoc]⟩
theorem stepsTo_part (t : Town) (k : Task) {n : Nat} (hn : n + 1 ≤ t.streets.length) {pre l : List Step} (h : t.stepsTo k (n + 1) = pre ++ l) : ∃ m, pre = (t.stepsAll k).take m := by
 obtain ⟨r, hr⟩ := stepsTo_pre t k (n + 1) (t.streets.length - (n + 1))
 refine ⟨pre.length, ?_⟩
 unfold Town.stepsAll
 rw [show t.streets.length = n + 1 + (t.streets.length - (n + 1)) by omega, hr, h, List.append_assoc, List.take_left]
theorem stepsTo_len (t : Town) (k : Task) : ∀ n, (t.stepsTo k n).length ≤ 2 * n
 | 0 => by simp [Town.stepsTo]
 | n + 1 => by
  have := stepsTo_len t k n
  rw [stepsTo_succ, List.length_append]
  by_cases h1 : (n : Int) ∈ k.closed
  ·rw [if_pos h1]; simp; omega
  ·rw [if_neg h1]
   by_cases h2 : (t.at_ n).both = true
   ·rw [if_pos h2]; simp; omega
   ·rw [if_neg h2]; simp; omega
def JobDt (gb gj : Nat) (pv sv tv xv cv iv mv : Value) (t : Town) (k : Task) (W : World) : Prop := Blk W gb 109 #[.pointer (some ⟨gj, 0, none⟩)] ∧ JobAt W gj pv sv tv xv cv iv mv t k
set_option maxHeartbeats 4000000 in
theorem psteps_seq (gb gj : Nat) (pv sv tv xv cv iv mv : Value) (t : Town) (k : Task) (hk : Town.TaskOk t k) :
  SeqT 82 Tryz.prog 99 #[.pointer (some ⟨gb, 0, none⟩)] encStep (fun pre x => ∃ m, pre ++ [x] = (t.stepsAll k).take m) (JobDt gb gj pv sv tv xv cv iv mv t k) (fun xs => xs = t.stepsAll k) (fun pre => ∃ m, pre = (t.stepsAll k).take m) 100 := by
 intro l J Jx W hJs hJxs hD hY hJ
 show Calls Tryz.prog 99 #[.func (.yield l) #[] #[], .pointer (some ⟨gb, 0, none⟩)] W _
 obtain ⟨db, dj⟩ := hD _ _ hJ
 obtain ⟨A, cp, rfl, h1, h2, h4⟩ := dj.town.streets
 unfold maxLen at h2
 have hst := hk.ok.st
 have cb := db.cell 0
 have j3 := dj.blk.cell 3
 simp at cb j3
 have HY := Lib.hid hY; have HD := Lib.hid hD; have HJs := Lib.hid hJs; have HK := Lib.hid hk
 clear db dj hD hY hk
 go_enter Tryz.func99, Tryz.ntmps99
 obtain ⟨hc, hChid⟩ : ∃ f : Nat → Array Oper → Bool → Go.Code, f = Go.Code.region := ⟨_, rfl⟩
 rw [show Go.Code.region 4 = hc 4 by rw [hChid]]
 have HCh := Lib.hid hChid
 clear hChid
 go_wp2
 go_loopw [12] (fun i wr => W.heap.size ≤ wr.heap.size ∧ ∃ n : Nat, n ≤ t.streets.length ∧ i = .int .i64 n ∧ J (t.stepsTo k n) wr) (fun i _ => t.streets.length - (intOf i).toNat)
 case atStart => exact ⟨Nat.le_refl _, 0, by omega, rfl, hJ⟩
 case round =>
  obtain ⟨hsz, n, hn, rfl, hJr⟩ := hrel
  clear hJ cb j3
  by_cases hlt : n < t.streets.length
  ·obtain ⟨ad, rfl, _⟩ := h4 (by omega)
   clear h4
   obtain ⟨db, dj⟩ := HD.out _ _ hJr
   obtain ⟨A5, cp5, e5, _, _, h45⟩ := dj.town.streets
   simp only [Value.slice.injEq] at e5
   obtain ⟨rfl, -, rfl⟩ := e5
   obtain ⟨ad5, e5, hc5⟩ := h45 (by omega)
   injection e5 with e5; subst e5
   obtain ⟨ssv, hs⟩ := hc5 n hlt
   have hC := dj.closed
   have cb0 := db.cell 0
   have j80 := dj.blk.cell 8
   simp at cb0 j80
   have Hlen := Lib.hid (stepsTo_len t k n)
   have Hsucc := stepsTo_succ t k n
   rw [Town.at_eq hlt] at Hsucc
   have Hpart := Lib.hid (fun pre l => stepsTo_part t k (n := n) (pre := pre) (l := l) (by omega))
   obtain ⟨s, hst'⟩ : ∃ s, t.streets[n] = s := ⟨_, rfl⟩
   rw [hst'] at hs Hsucc
   have hE := Ext.refl wr
   have hls := ld_street hs
   obtain ⟨_, As, cs, rfl, _⟩ := hs
   have z1 : (n : Int) < (t.streets.length : Int) := by omega
   clear h45 hc5 hst' db dj
   by_cases hcl : (n : Int) ∈ k.closed
   ·rw [if_pos hcl, List.append_nil] at Hsucc
    have qd : decide ((n : Int) ∈ k.closed) = true := by simp [hcl]
    have Hs := Lib.hid Hsucc
    clear Hsucc hcl
    go_wp2_with (first | (((with_reducible refine q_load (d := some 16) (hl := hls) ?_ ?_); rfl)) | ((with_reducible refine q_alloc (d := some 4) ti87 ?_); intro W4 g4 hE4 hB4 hg4; have hg40 := Nat.le_trans hE.size hg4; simp [Value.cells] at hB4; (try replace hE := hE.trans hE4)) | (((with_reducible refine q_store (t := 87) (e := 87) (g := g4) (off := 0) (n := 7) (v := .agg #[.int .i64 s.a, .int .i64 s.b, .int .i64 s.metres, .int .i64 s.lo, .int .i64 s.hi, .bool s.both, .slice As s.shows.length cs]) ?_ ?_ hB4 sizeStreet ?_ ?_ ?_ ?_); rfl; rfl; rfl; (simp [Value.cells]); (simp [Value.cells, Value.oneCell']); intro Ws hBs hgrs; simp [putAt, Value.cells] at hBs; replace hE := below_grown2 hE hgrs hg40; have cb := Ext.cell_some hE cb0; have j8 := Ext.cell_some hE j80)) | (go_at_call 100; ((with_reducible refine (contI_any _ _ _ _ (by exact hC.ext hE)).mono ?_); rintro e WcC ⟨rfl, hEcC⟩; (try replace hE := hE.trans hEcC); (try replace hBs := hBs.ext hEcC); rw [qd])))
    go_roundw
    case rel => exact ⟨Nat.le_trans hsz hE.size, n + 1, by omega, by go_num, by rw [Hs.out]; exact HJs.out _ _ _ hJr hE⟩
    case measure => simp [intOf]; omega
   ·rw [if_neg hcl] at Hsucc
    have qd : decide ((n : Int) ∈ k.closed) = false := by simp [hcl]
    have Hs := Lib.hid Hsucc
    clear Hsucc hcl
    go_wp2_with (first | (((with_reducible refine q_load (d := some 16) (hl := hls) ?_ ?_); rfl)) | ((with_reducible refine q_alloc (d := some 4) ti87 ?_); intro W4 g4 hE4 hB4 hg4; have hg40 := Nat.le_trans hE.size hg4; simp [Value.cells] at hB4; (try replace hE := hE.trans hE4)) | (((with_reducible refine q_store (t := 87) (e := 87) (g := g4) (off := 0) (n := 7) (v := .agg #[.int .i64 s.a, .int .i64 s.b, .int .i64 s.metres, .int .i64 s.lo, .int .i64 s.hi, .bool s.both, .slice As s.shows.length cs]) ?_ ?_ hB4 sizeStreet ?_ ?_ ?_ ?_); rfl; rfl; rfl; (simp [Value.cells]); (simp [Value.cells, Value.oneCell']); intro Ws hBs hgrs; simp [putAt, Value.cells] at hBs; replace hE := below_grown2 hE hgrs hg40; have cb := Ext.cell_some hE cb0; have j8 := Ext.cell_some hE j80)) | (go_at_call 100; ((with_reducible refine (contI_any _ _ _ _ (by exact hC.ext hE)).mono ?_); rintro e WcC ⟨rfl, hEcC⟩; (try replace hE := hE.trans hEcC); (try replace hBs := hBs.ext hEcC); rw [qd])))
    have hJ4 := HJs.out _ _ _ hJr hE
    have hsz4 := Nat.le_trans hsz hE.size
    have hg4W : W.heap.size ≤ g4 := Nat.le_trans hsz hg4
    have hp1 : (t.stepsTo k n).length < 100 := by have := Hlen.out; omega
    have hp2 : (t.stepsTo k n ++ ([⟨(n : Int), false⟩] : List Step)).length < 100 := by have := Hlen.out; simp; omega
    have hG1 : ∃ m, t.stepsTo k n ++ [⟨(n : Int), false⟩] = (t.stepsAll k).take m := Hpart.out _ _ (by rw [Hs.out, ← List.singleton_append, List.append_assoc])
    have hG2 : s.both = true → ∃ m, t.stepsTo k n ++ [⟨(n : Int), false⟩] ++ [⟨(n : Int), true⟩] = (t.stepsAll k).take m := fun hb => Hpart.out _ [] (by rw [Hs.out, hb]; simp)
    have hY1 : YieldAt Fence.wide 0 Tryz.prog l #[.agg #[.int .i64 (n : Int), .bool false]] WcC fun e W' =>
      (e = .returned (.bool true) ∧ J (t.stepsTo k n ++ [⟨(n : Int), false⟩]) W' ∧ W.heap.size ≤ W'.heap.size ∧ W'.cell? ⟨g4, 5, none⟩ = some (.bool s.both) ∧
       (s.both = true → YieldAt Fence.wide 0 Tryz.prog l #[.agg #[.int .i64 (n : Int), .bool true]] W' fun e W'' =>
        (e = .returned (.bool true) ∧ J (t.stepsTo k n ++ [⟨(n : Int), false⟩] ++ [⟨(n : Int), true⟩]) W'' ∧ W.heap.size ≤ W''.heap.size) ∨ (e = .returned (.bool false) ∧ Jx (t.stepsTo k n ++ [⟨(n : Int), false⟩] ++ [⟨(n : Int), true⟩]) W''))) ∨
      (e = .returned (.bool false) ∧ Jx (t.stepsTo k n ++ [⟨(n : Int), false⟩]) W') := by
     refine YieldAt.mono (HY.out _ ⟨(n : Int), false⟩ _ hJ4 hG1 hp1 hsz4) fun e W' h => ?_
     rcases h with ⟨h1, h2, h3⟩ | h
     ·have hs5 := Nat.le_trans hsz4 h3.size
      have c5 := (h3.blk hg4W hBs (by decide)).cell 5
      simp at c5
      refine .inl ⟨h1, h2, hs5, c5, fun hbb => YieldAt.mono (HY.out _ ⟨(n : Int), true⟩ _ h2 (hG2 hbb) hp2 hs5) fun e W'' h => ?_⟩
      rcases h with ⟨h1, h2, h3⟩ | h
      ·exact .inl ⟨h1, h2, Nat.le_trans hs5 h3.size⟩
      ·exact .inr h
     ·exact .inr h
    clear hBs cb j8 cb0 j80 hC hJr hJ4 hsz hsz4 hE hls qd hp1 hp2 hG1 hG2
    obtain ⟨b, hb⟩ : ∃ b, s.both = b := ⟨_, rfl⟩
    rw [hb] at hY1 Hs
    clear hb
    have hChid := HCh.out
    clear HCh
    subst hChid
    obtain ⟨fn1, tm1, as1, bd1, hy1, hR1⟩ := hY1
    refine (wpIn_wide (n := 1)).1 ?_
    have hm1 : True := trivial
    cases b
    ·gi_wp2_with (first | (clear hm1; refine hR1.mono ?_; clear hR1; rintro e W5 (⟨rfl, hJ5, hs5, c5, -⟩ | ⟨rfl, hJx5⟩)))
     all_goals (try (refine ⟨fun _ h => (by cases h), ?_⟩; gi_wp2))
     all_goals (try go_wp2)
     all_goals
      first
      | (go_roundw; (case rel => exact ⟨hs5, n + 1, by omega, by go_num, by rw [Hs.out]; simpa using hJ5⟩); (case measure => simp [intOf]; omega))
      | exact ⟨⟨hs5, n + 1, by omega, by go_num, by rw [Hs.out]; simpa using hJ5⟩, by simp [intOf]; omega⟩
      | (refine bodyPost_ret (results_none rfl _ _ _) ?_ ?_; rfl; exact ⟨⟨_, rfl⟩, .inr ⟨_, Hpart.out _ [] (by rw [Hs.out]; simp), hJx5⟩⟩)
      | exact absurd ‹some undef = some (Value.bool _)› (by simp [undef])
    ·gi_wp2_with (first | (clear hm1; refine hR1.mono ?_; clear hR1; rintro e W5 (⟨rfl, hJ5, hs5, c5, hY2⟩ | ⟨rfl, hJx5⟩); (try obtain ⟨fn2, tm2, as2, bd2, hy2, hR2⟩ := hY2 rfl)) | (refine hR2.mono ?_; clear hR2; rintro e W6 (⟨rfl, hJ6, hs6⟩ | ⟨rfl, hJx6⟩)))
     all_goals (try (refine ⟨fun _ h => (by cases h), ?_⟩; gi_wp2))
     all_goals (try go_wp2)
     all_goals
      first
      | (go_roundw; (case rel => exact ⟨hs6, n + 1, by omega, by go_num, by rw [Hs.out]; simpa using hJ6⟩); (case measure => simp [intOf]; omega))
      | exact ⟨⟨hs6, n + 1, by omega, by go_num, by rw [Hs.out]; simpa using hJ6⟩, by simp [intOf]; omega⟩
      | (refine bodyPost_ret (results_none rfl _ _ _) ?_ ?_; rfl; exact ⟨⟨_, rfl⟩, .inr ⟨_, Hpart.out _ [] (by rw [Hs.out]; simp), hJx6⟩⟩)
      | (refine bodyPost_ret (results_none rfl _ _ _) ?_ ?_; rfl; exact ⟨⟨_, rfl⟩, .inr ⟨_, Hpart.out _ [⟨(n : Int), true⟩] (by rw [Hs.out]; simp), hJx5⟩⟩)
      | exact absurd ‹some undef = some (Value.bool _)› (by simp [undef])
  ·obtain rfl : n = t.streets.length := by omega
   clear h4
   go_wp2
   go_end0
   exact ⟨⟨_, rfl⟩, .inl ⟨_, rfl, hJr⟩⟩
end Go.St
end
section
namespace Go.St
open Go Go.Bp Go.RowKit Go.Proofs
section
variable {P : Program} {ops : Array Oper} {Q : Exit → Act → World → Prop} {a : Act} {w : World} {rest : List Oper}
variable {d : Option Tmp} {ty : TypeId} {pos : String} {after : Array Edge}
theorem q_run {o : Oper} (hg : o.guard = none) {v : Value} {W : World} (h : (execOp a.eval o).run P w = .ok (.value v) W) (k : wpList P ops Q rest (a.put o.dst v) W) : wpList P ops Q (o :: rest) a w :=
 wpList_plain hg fun K hK => by unfold Oper.wp; rw [h]; exact hK _ _ k
theorem q_skip {o : Oper} (hg : o.guard = none) {W : World} (h : (execOp a.eval o).run P w = .ok .skip W) (k : wpList P ops Q rest (a.put o.dst undef) W) : wpList P ops Q (o :: rest) a w :=
 wpList_plain hg fun K hK => by unfold Oper.wp; rw [h]; exact hK _ _ k
theorem q_makeMapI {t : TypeId} (k : ∀ W g, Ext w W → MapM kvI W g (fun _ => none) → w.heap.size ≤ g → wpList P ops Q rest (a.put d (.map (some g))) W) :
  wpList P ops Q (⟨d, .makeMap t none, ty, pos, after, none⟩ :: rest) a w := by
 refine q_run rfl (v := .map (some w.heap.size)) (W := w.alloc (.map #[] 0)) ?_ (k _ _ (Ext.ofAlloc _ _) (MapM.made w) (Nat.le_refl _))
 simp [execOp, Instr.makeMap, newObj, Sem.run, Result.andThen]
theorem q_appAt {s x : Operand} {B g : Nat} {v : Value} {xs : List Step} {y : Step} (hs : a.eval s = v) (hO : OwnAt w B 82 2 v xs.length (encSt xs)) (hx : a.eval x = .slice (some ⟨g, 0, none⟩) 1 1) (hb : Blk w g 82 #[.int .i64 y.st, .bool y.bk]) (hlen : xs.length ≤ 1000000000) (hB : B ≤ w.heap.size)
  (k : ∀ v' W, OwnAt W B 82 2 v' (xs ++ [y]).length (encSt (xs ++ [y])) → w.grownBy W v.ownBlock → (∃ g, v'.ownBlock = some g ∧ (v.ownBlock = some g ∨ w.heap.size ≤ g)) → wpList Tryz.prog ops Q rest (a.put d v') W) :
  wpList Tryz.prog ops Q (⟨d, .call { callee := .builtin .append, args := #[s, x], argTypes := #[32, 32] }, ty, pos, after, none⟩ :: rest) a w := by
 obtain ⟨i, hi, hz, hs1, hb1⟩ := info_parts tiStep
 refine wpList_append_at w rfl s x 32 rfl B 82 i _ 2 16 Tryz.underlying32 hi hz hs1 hb1 rfl (by decide) v xs.length (encSt xs) hs hO ⟨g, 0, none⟩ 1 1 [.int .i64 y.st, .bool y.bk] hx rfl (fun j u hu => hb.cells j u hu) (by simp [Value.oneCell']) (by decide) (by unfold maxLen; omega) (by omega) hB ?_
 intro v' W h1 h2 h3
 refine k v' W ?_ h2 h3
 have e : encSt (xs ++ [y]) = encSt xs ++ [.int .i64 y.st, .bool y.bk] := by rw [encSt_app]; rfl
 rw [e, List.length_append]
 exact h1
end
structure IntoI (B : Nat) (rows : Nat → List Step) (gi : Nat) (vs : List Value) (W : World) : Prop where
 blk : Blk W gi 32 vs.toArray
 own : ∀ q (h : q < vs.length), OwnAt W B 82 2 vs[q] (rows q).length (encSt (rows q))
 sep : ∀ q q' (h : q < vs.length) (h' : q' < vs.length), q ≠ q' → vs[q].ownBlock = none ∨ vs[q].ownBlock ≠ vs[q'].ownBlock
section
variable {B gi : Nat} {rows : Nat → List Step} {vs : List Value} {W W' : World}
theorem IntoI.ext (h : IntoI B rows gi vs W) (e : Ext W W') : IntoI B rows gi vs W' := ⟨h.blk.ext e, fun q hq => (h.own q hq).ext e, h.sep⟩
theorem IntoI.step {q : Nat} {x : Step} {v' : Value} {W1 W2 W3 : World} (h : IntoI B rows gi vs W) (hq : q < vs.length) (hE : Ext W W1) (hg1 : W1.grownBy W2 vs[q].ownBlock) (hO : OwnAt W2 B 82 2 v' (rows q ++ [x]).length (encSt (rows q ++ [x])))
  (hn : ∃ g, v'.ownBlock = some g ∧ (vs[q].ownBlock = some g ∨ W1.heap.size ≤ g)) (hg2 : W2.grownBy W3 (some gi)) (hB : Blk W3 gi 32 (vs.set q v').toArray) (hBi : Blk W2 gi 32 vs.toArray) : IntoI B (fun p => if p = q then rows q ++ [x] else rows p) gi (vs.set q v') W3 := by
 have hlt : ∀ p (hp : p < vs.length) g, vs[p].ownBlock = some g → g < W1.heap.size := fun p hp g e => Nat.lt_of_lt_of_le ((h.own p hp).lt g e).2 hE.size
 refine ⟨hB, fun p hp => ?_, fun p p' hp hp' hne => ?_⟩
 ·have hp1 : p < vs.length := by simpa using hp
  by_cases e : p = q
  ·subst e
   simp only [List.getElem_set_self, if_true]
   exact hO.kept hg2 (hO.ne hBi (by decide))
  ·rw [List.getElem_set_ne (Ne.symm e)]
   simp only [e, if_false]
   have h1 := (h.own p hp1).ext hE
   have h2 := h1.kept hg1 (h.sep p q hp1 hq e)
   exact h2.kept hg2 (h2.ne hBi (by decide))
 ·have hp1 : p < vs.length := by simpa using hp
  have hp1' : p' < vs.length := by simpa using hp'
  obtain ⟨g, hg, hor⟩ := hn
  by_cases e : p = q
  ·subst e
   rw [List.getElem_set_self, List.getElem_set_ne hne, hg]
   right
   intro e2
   rcases hor with h1 | h1
   ·rcases h.sep p p' hp1 hp1' hne with h2 | h2
    ·rw [h2] at h1; cases h1
    ·exact h2 (h1.trans e2)
   ·have := hlt p' hp1' g e2.symm; omega
  ·rw [List.getElem_set_ne (Ne.symm e)]
   by_cases e' : p' = q
   ·subst e'
    rw [List.getElem_set_self, hg]
    cases hv : vs[p].ownBlock with
    | none => exact .inl rfl
    | some k =>
     right
     intro e2
     injection e2 with e2
     subst e2
     rcases hor with h1 | h1
     ·rcases h.sep p p' hp1 hp1' hne with h2 | h2
      ·rw [hv] at h2; cases h2
      ·exact h2 (hv.trans h1.symm)
     ·have := hlt p hp1 k hv; omega
   ·rw [List.getElem_set_ne (Ne.symm e')]
    exact h.sep p p' hp1 hp1' hne
theorem IntoI.congr {rows' : Nat → List Step} (h : IntoI B rows gi vs W) (hr : ∀ q, q < vs.length → rows' q = rows q) : IntoI B rows' gi vs W := ⟨h.blk, fun q hq => by rw [hr q hq]; exact h.own q hq, h.sep⟩
theorem Blk.abide {g : Nat} {t : TypeId} {cs : Array Value} {row : Option Nat} {B : Nat} (h : Blk W g t cs) (hg : W.grownBy W' row) (hr : ∀ r, row = some r → B ≤ r ∧ ∃ o : Obj, W.heap[r]? = some o ∧ o.isCells = false) : Blk W' g t cs := by
 refine h.grown hg (fun e => ?_)
 obtain ⟨_, o, ho, hc⟩ := hr g e.symm
 unfold Blk at h
 rw [h] at ho
 injection ho with ho; subst ho; cases hc
theorem IntoI.abide {row : Option Nat} {C : Nat} (h : IntoI B rows gi vs W) (hg : W.grownBy W' row) (hr : ∀ r, row = some r → C ≤ r ∧ ∃ o : Obj, W.heap[r]? = some o ∧ o.isCells = false) : IntoI B rows gi vs W' := by
 refine ⟨Blk.abide h.blk hg hr, fun q hq => (h.own q hq).kept hg ?_, h.sep⟩
 rcases (h.own q hq).2 with ⟨e, _⟩ | ⟨g, o, cap, cur, e, _, hgg, _⟩
 ·rw [e]; exact .inl rfl
 ·right
  rw [e]
  intro e2
  obtain ⟨_, o', ho, hc⟩ := hr g e2.symm
  rw [hgg] at ho
  injection ho with ho; subst ho; cases hc
end
theorem _root_.Go.Bp.OwnAt.blk_ne {w : World} {B : Nat} {e t : TypeId} {size n g : Nat} {v : Value} {xs : List Value} {cs : Array Value} (h : OwnAt w B e size v n xs) (hb : Blk w g t cs) (ht : t ≠ e) : some g ≠ v.ownBlock := by
 intro he
 rcases h.ne hb ht with h1 | h1
 ·rw [h1] at he; cases he
 ·exact h1 he.symm
theorem _root_.Go.Bp.OwnAt.row {w : World} {B : Nat} {e : TypeId} {size n : Nat} {v : Value} {xs : List Value} (h : OwnAt w B e size v n xs) : ∀ g, v.ownBlock = some g → B ≤ g ∧ ∃ cs fz, w.heap[g]? = some (.cells cs e fz) := by
 intro g hg
 rcases h.2 with ⟨rfl, _⟩ | ⟨g', o, cap, cur, rfl, hb, hgg, _⟩
 ·simp [Value.ownBlock] at hg
 ·simp [Value.ownBlock] at hg
  subst hg
  exact ⟨hb, _, _, hgg⟩
theorem _root_.Go.Bp.OwnAt.map_ne {w : World} {B : Nat} {e : TypeId} {size n g : Nat} {v : Value} {xs : List Value} {m : Int × Int → Option Value} (h : OwnAt w B e size v n xs) (hb : MapM kvI w g m) : some g ≠ v.ownBlock := by
 intro he
 obtain ⟨_, cs, fz, h1⟩ := h.row g he.symm
 obtain ⟨es, c, h2, _⟩ := hb
 rw [h1] at h2; cases h2
theorem sl_cells {w : World} {size n : Nat} {v : Value} {xs : List Value} (h : Sl w size v n xs) : v.cells = #[v] := by
 obtain ⟨A, c, rfl, _⟩ := h; rfl
theorem IntoI.at_ {B gi : Nat} {rows : Nat → List Step} {vs : List Value} {W : World} (h : IntoI B rows gi vs W) {q : Nat} (hq : q < vs.length) : W.cell? ⟨gi, q, none⟩ = some vs[q] := by
 rw [h.blk.cell]
 simp [hq]
end Go.St
end
