/- Chapter 03: contracts of functions of the program and of the reference, and plain laws (out of StM SJ1 SQ1 SQ2). No condition of its own. -/
import Derived.BigQuiet
import Derived.Deep.AppendLies
import Derived.Deep.Draws
import Derived.Deep.LoopGhost
import Derived.Deep.QuietTactic
import Derived.Deep.RegionHeld3
import Derived.Laws.RangeAny
import Derived.Laws.StructEq
import Derived.Lib.AtoiAll
import Derived.Lib.Hide
import Derived.Lib.ItoaMem
import Derived.Lib.SliceRun
import Derived.Lib.Split
import Derived.Maps.AppendAt
import Derived.OrdersHeld
import Derived.Shelf.Abstract
import Derived.Test.YtfjnacajjpaeiaaGreatDoorProg
import Derived.WalkKit
import Derived.WalkLawsBesides
import Derived.WalkSpells
import Derived.Test.YtfjnacajjpaeiaaGreatDoorP01
import Derived.Test.YtfjnacajjpaeiaaGreatDoorP02
import Derived.Test.YtfjnacajjpaeiaaGreatDoorP03
import Derived.Test.YtfjnacajjpaeiaaGreatDoorP04
import Derived.Test.YtfjnacajjpaeiaaGreatDoorP05
import Derived.Test.YtfjnacajjpaeiaaGreatDoorP06
import Derived.Test.YtfjnacajjpaeiaaGreatDoorP07
set_option maxRecDepth 100000
set_option linter.unusedSimpArgs false
set_option linter.unusedVariables false
section
namespace Go.St
open Go.Bp
namespace Town
section
variable (t : Town) (k : Task)
def intoOf (xs : List Step) (q : Int) : List Step := xs.filter fun x => decide ((t.ends x).2 = q)
theorem intoOf_snoc (xs : List Step) (x : Step) (q : Int) : t.intoOf (xs ++ [x]) q = if (t.ends x).2 = q then t.intoOf xs q ++ [x] else t.intoOf xs q := by
  unfold intoOf
  rw [List.filter_append]
  by_cases h : (t.ends x).2 = q
  · rw [if_pos h]; simp [h]
  · rw [if_neg h]; simp [h]
theorem intoOf_len (xs : List Step) (q : Int) : (t.intoOf xs q).length ≤ xs.length := List.length_filter_le _ _
def into (q : Int) : List Step := t.intoOf (t.stepsAll k) q
theorem mem_into {q : Int} {x : Step} : x ∈ t.into k q ↔ x ∈ t.stepsAll k ∧ (t.ends x).2 = q := by unfold into intoOf; simp [List.mem_filter]
def meas (T : Tab) (todo : List (Int × Int)) : Nat := 2 * pot (10000 * t.stands.length) t.stands T + todo.length
structure Srch (T : Tab) (todo : List (Int × Int)) : Prop where
  ref : RefT t k T
  near : Near lessI (t.arcs k) k.b (PartOf t k) T todo
  nod : todo.Nodup
def RDone (q : Int) (i : Nat) (set : Int) : Arc → Int → Prop := fun a s => ∃ (j : Nat) (hj : j < (t.into k q).length), a = t.arcOf k (t.into k q)[j] ∧ (j < i ∨ (j = i ∧ s < set))
structure Rnd (q z : Int) (c : Int × Int) (i : Nat) (set : Int) (m : Nat) (T : Tab) (todo : List (Int × Int)) : Prop where
  ref : RefT t k T
  rnd : Round lessI (t.arcs k) k.b (PartOf t k) q z c (RDone t k q i set) T todo
  nod : todo.Nodup
  fell : t.meas T todo + 1 ≤ m
end
variable {t : Town} {k : Task} {T : Tab} {todo : List (Int × Int)}
theorem srch_start (h : TaskOk t k) : Srch t k (tab0 k) [(k.b, 0)] := by
  have hr := tab0_ref h
  refine ⟨hr, ⟨hr.sound, hr.base, ?_, ?_⟩, by simp⟩
  · intro x hx
    simp at hx; subst hx
    rw [hr.base]; rfl
  · intro a ha s hs c hc hn
    exfalso
    apply hn
    unfold tab0 put at hc
    split at hc
    · rename_i e; rw [e.1, e.2]; simp
    · cases hc
theorem Srch.stand (h : Srch t k T todo) {x : Int × Int} (hx : x ∈ todo) : ∃ c, T x.1 x.2 = some c ∧ x ∈ t.stands ∧ PartOf t k x.2 := by
  obtain ⟨c, hc⟩ := Option.isSome_iff_exists.1 (h.near.2.2.1 x hx)
  exact ⟨c, hc, (h.ref.bound _ _ _ hc).1, h.ref.inD _ _ _ hc⟩
theorem Srch.len (h : Srch t k T todo) : todo.length ≤ t.stands.length := nodup_sub_len h.nod (fun x hx => let ⟨_, _, h2, _⟩ := h.stand hx; h2)
theorem Srch.perm (h : Srch t k T todo) {todo' : List (Int × Int)} (hp : todo'.Perm todo) : Srch t k T todo' ∧ t.meas T todo' = t.meas T todo := by
  refine ⟨⟨h.ref, ⟨h.near.1, h.near.2.1, fun x hx => h.near.2.2.1 x (hp.mem_iff.1 hx), fun a ha s hs c hc hn => h.near.2.2.2 a ha s hs c hc (fun hm => hn (hp.mem_iff.2 hm))⟩, hp.nodup_iff.2 h.nod⟩, ?_⟩
  unfold meas; rw [hp.length_eq]
theorem Srch.open_ {q z : Int} {c : Int × Int} {rest : List (Int × Int)} (h : Srch t k T ((q, z) :: rest)) (hc : T q z = some c) : Rnd t k q z c 0 0 (t.meas T ((q, z) :: rest)) T rest := by
  refine ⟨h.ref, (Near.start h.near hc (fun x => by simp)).mono (fun a ha hq s hs ht hQ => ?_), (List.nodup_cons.1 h.nod).2, by unfold meas; simp; omega⟩
  obtain ⟨j, hj, _, h1 | ⟨_, h1⟩⟩ := hQ
  · omega
  · have := hs.1; omega
theorem Srch.done (h : TaskOk t k) (hs : Srch t k T []) (p s : Int) : T p s = t.cost k p s := hs.ref.eq h hs.near.closed p s
section
variable {q z : Int} {c : Int × Int} {i : Nat} {set : Int} {m : Nat}
theorem Rnd.cc (h : Rnd t k q z c i set m T todo) : T q z = some c := h.rnd.2.2.1
theorem Rnd.len (h : Rnd t k q z c i set m T todo) : todo.length ≤ t.stands.length := by
  refine nodup_sub_len h.nod (fun x hx => ?_)
  obtain ⟨c, hc⟩ := Option.isSome_iff_exists.1 (h.rnd.2.2.2.1 x hx)
  exact (h.ref.bound _ _ _ hc).1
theorem rdone_next {a : Arc} {s : Int} (hi : i < (t.into k q).length) (hq : RDone t k q i (set + 1) a s) : RDone t k q i set a s ∨ (a = t.arcOf k (t.into k q)[i] ∧ s = set) := by
  obtain ⟨j, hj, e, h1 | ⟨h1, h2⟩⟩ := hq
  · exact .inl ⟨j, hj, e, .inl h1⟩
  · subst h1
    by_cases hs : s = set
    · exact .inr ⟨e, hs⟩
    · exact .inl ⟨j, hj, e, .inr ⟨rfl, by omega⟩⟩
theorem Rnd.row (ht : TaskOk t k) (h : Rnd t k q z c i (k.show_ + 1) m T todo) : Rnd t k q z c (i + 1) 0 m T todo := by
  refine ⟨h.ref, h.rnd.mono (fun a ha hq s hs hz hQ => ?_), h.nod, h.fell⟩
  obtain ⟨j, hj, e, h1 | ⟨_, h1⟩⟩ := hQ
  · by_cases hji : j = i
    · exact ⟨j, hj, e, .inr ⟨hji, by have := part_le ht hs; omega⟩⟩
    · exact ⟨j, hj, e, .inl (by omega)⟩
  · have := hs.1; omega
theorem Rnd.cont (hi : i < (t.into k q).length) (hn : z.toNat &&& (t.shownAt k.time (t.into k q)[i]).toNat ≠ 0) (h : Rnd t k q z c i set m T todo) : Rnd t k q z c (i + 1) 0 m T todo := by
  refine ⟨h.ref, h.rnd.mono (fun a ha hq s hs hz hQ => ?_), h.nod, h.fell⟩
  obtain ⟨j, hj, e, h1 | ⟨_, h1⟩⟩ := hQ
  · by_cases hji : j = i
    · subst hji
      exfalso
      apply hn
      rw [← hz, e]
      show (lessI s (t.shownAt k.time (t.into k q)[j])).toNat &&& _ = 0
      unfold lessI
      rw [Int.toNat_natCast]
      exact lessN_and _ _
    · exact ⟨j, hj, e, .inl (by omega)⟩
  · have := hs.1; omega
theorem Rnd.noPart (hi : i < (t.into k q).length) (hn : ¬ PartOf t k set) (h : Rnd t k q z c i set m T todo) : Rnd t k q z c i (set + 1) m T todo := by
  refine ⟨h.ref, h.rnd.mono (fun a ha hq s hs hz hQ => ?_), h.nod, h.fell⟩
  rcases rdone_next hi hQ with h1 | ⟨_, h1⟩
  · exact h1
  · exact absurd (h1 ▸ hs) hn
theorem Rnd.noLess (hi : i < (t.into k q).length) (hn : lessI set (t.shownAt k.time (t.into k q)[i]) ≠ z) (h : Rnd t k q z c i set m T todo) : Rnd t k q z c i (set + 1) m T todo := by
  refine ⟨h.ref, h.rnd.mono (fun a ha hq s hs hz hQ => ?_), h.nod, h.fell⟩
  rcases rdone_next hi hQ with h1 | ⟨h0, h1⟩
  · exact h1
  · rw [h0, h1] at hz; exact absurd hz hn
theorem Rnd.known (hi : i < (t.into k q).length) {d : Int × Int} (hd : T (t.ends (t.into k q)[i]).1 set = some d) (hle : le2 d (c.1 + (t.at_ (t.into k q)[i].st).metres, c.2 + 1)) (h : Rnd t k q z c i set m T todo) : Rnd t k q z c i (set + 1) m T todo :=
  ⟨h.ref, (h.rnd.skip (b := t.arcOf k (t.into k q)[i]) (u := set) hd hle).mono (fun a ha hq s hs hz hQ => rdone_next hi hQ), h.nod, h.fell⟩
theorem into_arc (hi : i < (t.into k q).length) : t.arcOf k (t.into k q)[i] ∈ t.arcs k ∧ (t.ends (t.into k q)[i]).2 = q := by
  obtain ⟨h1, h2⟩ := (mem_into t k).1 (List.getElem_mem hi)
  exact ⟨by rw [arcs_map]; exact List.mem_map_of_mem h1, h2⟩
theorem Rnd.better (ht : TaskOk t k) (hi : i < (t.into k q).length) (hs : PartOf t k set) (hz : lessI set (t.shownAt k.time (t.into k q)[i]) = z) {todo' : List (Int × Int)}
    (hn : ∀ d, T (t.ends (t.into k q)[i]).1 set = some d → ¬ le2 d (c.1 + (t.at_ (t.into k q)[i].st).metres, c.2 + 1))
    (hm : todo' = if ((t.ends (t.into k q)[i]).1, set) ∈ todo then todo else todo ++ [((t.ends (t.into k q)[i]).1, set)]) (h : Rnd t k q z c i set m T todo) :
    Rnd t k q z c i (set + 1) m (put T (t.ends (t.into k q)[i]).1 set (c.1 + (t.at_ (t.into k q)[i].st).metres, c.2 + 1)) todo' := by
  obtain ⟨hb, hbq⟩ := into_arc hi
  have hbo := arc_ok ht _ hb
  have hmm : ∀ a ∈ t.arcs k, 1 ≤ a.m := arc_m ht
  have hr := Round.better h.rnd hmm (fun a ha => (arc_ok ht a ha).pq) hb hbq (u := set) hz hn (todo' := todo') (fun x => by
    rw [hm]
    split
    · rename_i hin
      constructor
      · exact fun hx => .inr hx
      · rintro (rfl | hx)
        · exact hin
        · exact hx
    · simp only [List.mem_append, List.mem_singleton]
      exact ⟨fun hx => hx.elim .inr .inl, fun hx => hx.elim .inr .inl⟩)
  have hst : ((t.ends (t.into k q)[i]).1, set) ∈ t.stands := mem_stands.2 ⟨hbo.p, hs.1, hs.2.1⟩
  have hf := pot_falls stands_nodup h.ref.bound h.cc hbo.m1 hbo.m2 hst hn
  have hbd := Bounded.put h.ref.bound h.cc hbo.m1 hbo.m2 hst hn
  refine ⟨⟨hr.1, hr.2.1, hbd, fun p s c' hc' => ?_⟩, hr.mono (fun a ha hq s hs hz hQ => rdone_next hi hQ), ?_, ?_⟩
  · by_cases e : p = (t.ends (t.into k q)[i]).1 ∧ s = set
    · rw [e.2]; exact hs
    · rw [put_other T _ e] at hc'; exact h.ref.inD _ _ _ hc'
  · rw [hm]
    split
    · exact h.nod
    · rename_i hin
      rw [List.nodup_append]
      refine ⟨h.nod, by simp, fun a ha b hb e => ?_⟩
      simp at hb; subst hb; subst e; exact hin ha
  · have hl : todo'.length ≤ todo.length + 1 := by rw [hm]; split <;> simp
    have hfl := h.fell
    unfold meas at hfl ⊢
    change pot _ _ (put T _ _ (c.1 + (t.at_ (t.into k q)[i].st).metres, c.2 + 1)) + 1 ≤ _ at hf
    omega
theorem Rnd.close (h : Rnd t k q z c (t.into k q).length 0 m T todo) : Srch t k T todo ∧ t.meas T todo + 1 ≤ m := by
  refine ⟨⟨h.ref, h.rnd.stop (fun a ha hq s hs hz => ?_), h.nod⟩, h.fell⟩
  rw [arcs_map] at ha
  obtain ⟨x, hx, rfl⟩ := List.mem_map.1 ha
  have hin : x ∈ t.into k q := (mem_into t k).2 ⟨hx, hq⟩
  obtain ⟨j, hj, rfl⟩ := List.getElem_of_mem hin
  exact ⟨j, hj, rfl, .inl hj⟩
end
end Town
end Go.St
end
section
namespace Go.St
open Go Go.Bp Go.RowKit Go.Proofs
theorem ti113 : (Tryz.prog.info? 113).map (fun i => (i.zero, i.size, i.bytes)) = some (some (.agg #[.int .i64 0, .int .i64 0]), 2, 16) := by kernel_rfl
theorem ti115 : (Tryz.prog.info? 115).map (fun i => (i.zero, i.size, i.bytes)) = some (some (.agg #[.int .i64 0, .int .i64 0]), 2, 16) := by kernel_rfl
theorem ti109 : (Tryz.prog.info? 109).map (fun i => (i.zero, i.size, i.bytes)) = some (some (.pointer none), 1, 8) := by kernel_rfl
theorem sizeStand : (Tryz.prog.info? 113).map TypeInfo.size = some 2 := by kernel_rfl
theorem sizeCost : (Tryz.prog.info? 115).map TypeInfo.size = some 2 := by kernel_rfl
theorem sizePjob : (Tryz.prog.info? 109).map TypeInfo.size = some 1 := by kernel_rfl
theorem pairStand : Pair2 113 (.int .i64) 3 3 where
 und := by kernel_rfl
 eqg := by kernel_rfl
 sto := by kernel_rfl
 fld := ⟨"place", "set", by kernel_rfl, by decide, by decide⟩
 u0 := Tryz.underlying3
 u1 := Tryz.underlying3
theorem pairCost : Pair2 115 (.int .i64) 3 3 where
 und := by kernel_rfl
 eqg := by kernel_rfl
 sto := by kernel_rfl
 fld := ⟨"metres", "steps", by kernel_rfl, by decide, by decide⟩
 u0 := Tryz.underlying3
 u1 := Tryz.underlying3
structure JobAt (W : World) (gj : Nat) (pv sv tv xv cv iv mv : Value) (t : Town) (k : Task) : Prop where
 blk : Blk W gj 120 #[pv, sv, tv, xv, .int .i64 k.a, .int .i64 k.b, .int .i64 k.show_, .int .i64 k.time, cv, iv, mv]
 town : TownP W pv sv tv xv t
 closed : Ints W cv k.closed
theorem JobAt.ext {W W' : World} {gj : Nat} {pv sv tv xv cv iv mv : Value} {t : Town} {k : Task} (h : JobAt W gj pv sv tv xv cv iv mv t k) (e : Ext W W') : JobAt W' gj pv sv tv xv cv iv mv t k := ⟨h.blk.ext e, h.town.ext e, h.closed.ext e⟩
theorem JobAt.d {W : World} {gj : Nat} {pv sv tv xv cv iv mv : Value} {t : Town} {k : Task} (h : JobAt W gj pv sv tv xv cv iv mv t k) : JobAt W.drew gj pv sv tv xv cv iv mv t k := ⟨h.blk, h.town.d, h.closed.ext (Ext.todrew (Ext.refl _))⟩
theorem JobAt.cells {W : World} {gj : Nat} {pv sv tv xv cv iv mv : Value} {t : Town} {k : Task} (h : JobAt W gj pv sv tv xv cv iv mv t k) : Cells W ⟨gj, 0, none⟩ [pv, sv, tv, xv] := by
 intro j u hu
 refine h.blk.cells j u ?_
 rcases j with _ | _ | _ | _ | j <;> simp_all
theorem ld_jtown {W : World} {gj : Nat} {pv sv tv xv cv iv mv : Value} {t : Town} {k : Task} (h : JobAt W gj pv sv tv xv cv iv mv t k) : (loadVar 90 ⟨gj, 0, none⟩).run Tryz.prog W = .ok (.agg #[pv, sv, tv, xv]) W := by
 obtain ⟨i, hi, hs⟩ := size_of sizePtown
 exact load_struct Tryz.underlying90 hi hs h.cells
set_option maxHeartbeats 1000000 in
theorem pshows_any (gj n : Nat) (b : Bool) (pv sv tv xv cv iv mv : Value) (t : Town) (k : Task) (w : World) (h : JobAt w gj pv sv tv xv cv iv mv t k) (hk : Town.TaskOk t k) (hn : n < t.streets.length) :
  Calls Tryz.prog 66 #[.pointer (some ⟨gj, 0, none⟩), .agg #[.int .i64 n, .bool b]] w (RetI w (t.shownAt k.time ⟨n, b⟩)) := by
 obtain ⟨A, cp, rfl, h1, h2, h4⟩ := h.town.streets
 unfold maxLen at h2
 obtain ⟨ad, rfl, hc⟩ := h4 (by omega)
 obtain ⟨ssv, hs⟩ := hc n hn
 have hso := hk.ok.at_ hn
 have hsh := hso.sh
 have htm := inB_t.1 hk.time
 obtain ⟨tm, htm2⟩ : ∃ m : Nat, k.time = m := ⟨k.time.toNat, by omega⟩
 have Hr := Lib.hid (show t.shownAt k.time ⟨(n : Int), b⟩ = t.streets[n].shows.getD tm 0 by unfold Town.shownAt; rw [Town.at_eq hn, htm2]; simp)
 obtain ⟨s, hst⟩ : ∃ s, t.streets[n] = s := ⟨_, rfl⟩
 rw [hst] at hs Hr hsh
 have html : tm < s.shows.length := by omega
 obtain ⟨hs1, As, cs, rfl, i1, i2, i3, i4⟩ := hs
 obtain ⟨adI, rfl, hcI⟩ := i4 (by omega)
 have e7 := hcI.i html
 have e6 := fld hs1 (i := 6) (by decide) rfl
 have Hg := Lib.hid (show s.shows.getD tm 0 = s.shows[tm] by simp [List.getD, html])
 obtain ⟨x, hx⟩ : ∃ x, s.shows[tm] = x := ⟨_, rfl⟩
 rw [hx] at e7 Hg
 unfold maxLen at i2
 have j3 := h.blk.cell 3
 have j7 := h.blk.cell 7
 simp at j3 j7
 rw [htm2] at j7
 have z1 : (n : Int) < (t.streets.length : Int) := by omega
 have z2 : (tm : Int) < (s.shows.length : Int) := by omega
 have hE := Ext.refl w
 clear h hc h4 hst hso hs1 htm htm2 hx i4 hcI
 go_enter Tryz.func66, Tryz.ntmps66
 go_wp2_with (first | ((with_reducible refine q_box (d := some 3) ?_); intro W3 g3 hE3 hB3 hg3; simp [Act.eval, Act.put, Value.cells] at hB3; (try replace hE := hE.trans hE3); (try replace j3 := Ext.cell_some hE3 j3); (try replace j7 := Ext.cell_some hE3 j7); (try replace e6 := Ext.cell_some hE3 e6); (try replace e7 := Ext.cell_some hE3 e7); have hb3_0 := hB3.cell 0; simp at hb3_0; clear hE3))
 refine wp_region_quiet_lit (by kernel_rfl) (by kernel_rfl) ?_
 repeat (any_goals (first | go_big_quiet_step (fail) | quiet_step (fail)))
 refine wpQuiet_nil ?_
 intro _ hw'
 obtain ⟨nq, hw''⟩ := hw'
 subst hw''
 go_wp2
 go_ret
 refine RetI.of ?_ (hE.drewN _)
 rw [Hr.out, Hg.out]
end Go.St
end
section
namespace Go.St
open Go Go.Bp Go.RowKit Go.Proofs
def CmpQ (W0 : World) (gq : Nat) (p : Value) : Prop := ∀ W, W0.grownBy W (some gq) → ∀ x y : Int × Int, Calls Tryz.prog 97 #[p, .agg #[.int .i64 x.1, .int .i64 x.2], .agg #[.int .i64 y.1, .int .i64 y.2]] W (fun e W' => (∃ r, e = .returned (.int .i64 r)) ∧ Ext W W')
theorem ld_stand {w : World} {g off : Nat} {a b : Value} (h : Cells w ⟨g, off, none⟩ [a, b]) : (loadVar 113 ⟨g, off, none⟩).run Tryz.prog w = .ok (.agg #[a, b]) w := by
 obtain ⟨i, hi, hs⟩ := size_of sizeStand
 exact load_struct Tryz.underlying113 hi hs h
theorem Sw.put2 {W0 W W1 W2 : World} {g o cap : Nat} {xs0 xs : List (Int × Int)} {cur : Array Value} (hg : W0.grownBy W (some g)) (hR : Row W 113 g o cap cur xs) (hp : xs.Perm xs0) {i j : Nat} (hi : i < xs.length) (hj : j < xs.length)
  (hB1 : Blk W1 g 113 (putAt cur (o + i * 2) [.int .i64 xs[j].1, .int .i64 xs[j].2])) (hg1 : W.grownBy W1 (some g)) (hB2 : Blk W2 g 113 (putAt (putAt cur (o + i * 2) [.int .i64 xs[j].1, .int .i64 xs[j].2]) (o + j * 2) [.int .i64 xs[i].1, .int .i64 xs[i].2])) (hg2 : W1.grownBy W2 (some g)) :
  Sw W0 113 g o cap xs0 W2 := by
 have h1 := hR.put hi xs[j] hB1
 have h2 := h1.put (i := j) (by simpa using hj) xs[i] hB2
 exact ⟨grown_trans (grown_trans hg hg1) hg2, _, _, h2, (List.set_set_perm hi hj).trans hp⟩
theorem _root_.Go.Bp.Row.lt2 {W : World} {g o cap k : Nat} {cur : Array Value} {xs : List (Int × Int)} (hR : Row W 113 g o cap cur xs) (hk : k < xs.length) : o + k * 2 + 2 ≤ cur.size := by
 have h1 := hR.fit; have h2 := hR.len; have := Nat.mul_le_mul_right 2 h2; omega
theorem size_putAt {cs : Array Value} {o : Nat} {vs : List Value} (h : o + vs.length ≤ cs.size) : (putAt cs o vs).size = cs.size := by
 simp only [putAt, List.size_toArray, List.length_append, List.length_take, List.length_drop, Array.length_toList]; omega
theorem wrapI {n : Int} (h : -4000000000000000000 ≤ n) (h2 : n ≤ 4000000000000000000) : IntKind.i64.wrap n = n := by simp [IntKind.wrap, IntKind.bits, IntKind.signed]; omega
theorem grown_undrew {w W : World} {r : Option Nat} (h : w.drew.grownBy W r) : w.grownBy W r := ⟨h.os, h.tape, h.output, h.size, h.block⟩
set_option maxHeartbeats 1000000 in
theorem reverse_any (W0 : World) (fv : Value) (g o cap : Nat) (xs0 : List (Int × Int)) (a b : Nat) (w : World) (hS : Sw W0 113 g o cap xs0 w) (hl : xs0.length ≤ 1000000) (hb : b ≤ xs0.length) (ha : a ≤ b) :
  Calls Tryz.prog 142 #[.slice (some ⟨g, o, none⟩) xs0.length cap, .int .i64 a, .int .i64 b, fv] w (fun e w' => (∃ v, e = .returned v) ∧ Sw W0 113 g o cap xs0 w') := by
 go_enter Tryz.func142, Tryz.ntmps142
 go_wp2
 go_loopw [8, 9] (fun vi vj wr => Sw W0 113 g o cap xs0 wr ∧ ∃ (i : Nat) (j : Int), vi = .int .i64 i ∧ vj = .int .i64 j ∧ j < xs0.length ∧ (i : Int) ≤ xs0.length ∧ -1 ≤ j) (fun vi vj _ => (intOf vj + 1 - intOf vi).toNat)
 case atStart => exact ⟨hS, a, (b : Int) - 1, rfl, rfl, by omega, by omega, by omega⟩
 case round =>
  obtain ⟨hSr, i, j, rfl, rfl, hj, hi, hj0⟩ := hrel
  clear hS
  by_cases hlt : (i : Int) < j
  ·obtain ⟨jn, rfl⟩ : ∃ n : Nat, j = n := ⟨j.toNat, by omega⟩
   obtain ⟨hg, cur, xs, hR, hp⟩ := hSr
   have hlen := hp.length_eq
   have hix : i < xs.length := by omega
   have hjx : jn < xs.length := by omega
   have hi2 := hR.at_ hix
   have hj2 := hR.at_ hjx
   obtain ⟨x, hx⟩ : ∃ x, xs[i] = x := ⟨_, rfl⟩
   obtain ⟨y, hy⟩ : ∃ y, xs[jn] = y := ⟨_, rfl⟩
   rw [hx] at hi2; rw [hy] at hj2
   have f1 := hR.lt2 hix; have f2 := hR.lt2 hjx
   have hB := hR.blk
   have Hput : Hid (∀ W1 W2, Blk W1 g 113 (putAt cur (o + (i) * 2) [.int .i64 y.1, .int .i64 y.2]) → wr.grownBy W1 (some g) → Blk W2 g 113 (putAt (putAt cur (o + (i) * 2) [.int .i64 y.1, .int .i64 y.2]) (o + (jn) * 2) [.int .i64 x.1, .int .i64 x.2]) → W1.grownBy W2 (some g) → Sw W0 113 g o cap xs0 W2) := Lib.hid (by intro W1 W2 h1 h2 h3 h4; subst hx hy; exact Sw.put2 hg hR hp hix hjx h1 h2 h3 h4)
   have hmA : True := trivial
   have z1 : (i : Int) < (xs0.length : Int) := by omega
   go_wp2
   have hBd := hB.d; have hi2d := hi2.d; have hj2d := hj2.d
   refine wp_rt (.take 0 (.take 1 (.take 2 (.take 3 (.take 4 (.take 5 (.take 6 (.take 8 (.take 9 (.take 10 (.two 7 (.one 11 (.take 12 (.one 13 (.take 14 (.one 15 .nil))))) 11 (.one 7 (.take 12 (.one 13 (.take 14 (.one 15 .nil)))))))))))))))) (fun w' => True) ?_ (fun hHeld => ?_)
   ·exact True.intro
   repeat' first | ((with_reducible refine t_tk ?_); (refine tk (v := ?_) ?_ hHeld ?_; rotate_left; (· (intro wq hSw; (try dsimp only at hSw); go_simp; (try with_reducible rfl))); (try simp only [pS]))) | ((with_reducible refine t_on ?_); refine t_one (by simp only [gS]; rfl) ?_) | ((with_reducible refine t_tw ?_); refine t_two (by simp only [gS]; rfl) (by simp only [gS]; rfl) ?_ ?_) | ((with_reducible refine q_gd (d := some 23) ?_); (((with_reducible refine q_load (d := some 23) (hl := ld_stand hj2d) ?_ ?_); rfl))) | ((with_reducible refine q_gd (d := some 27) ?_); (((with_reducible refine q_load (d := some 27) (hl := ld_stand hi2d) ?_ ?_); rfl))) | ((with_reducible refine q_gd (d := none) ?_); ((first | ((with_reducible refine q_store (t := 113) (e := 113) (g := g) (off := o + jn * 2) (n := 2) (v := .agg #[.int .i64 x.1, .int .i64 x.2]) ?_ ?_ hB1 sizeStand ?_ ?_ ?_ ?_); rfl; rfl; rfl; (rw [size_putAt (by exact f1)]; exact f2); (simp [Value.cells, Value.oneCell']); intro W2 hB2 hg2) | ((with_reducible refine q_store (t := 113) (e := 113) (g := g) (off := o + i * 2) (n := 2) (v := .agg #[.int .i64 y.1, .int .i64 y.2]) ?_ ?_ hBd sizeStand ?_ ?_ ?_ ?_); rfl; rfl; rfl; exact f1; (simp [Value.cells, Value.oneCell']); intro W1 hB1 hg1; replace hg1 := grown_undrew hg1)))) | ((with_reducible refine q_nl ?_); clear hHeld; refine t_next ?_ (fun hHeld => ?_); (· exact True.intro); (try simp only [pS])) | (with_reducible refine t_done ?_)
   all_goals
    have hSw := Hput.out _ _ hB1 hg1 hB2 hg2
    go_wp2
    go_roundw
    case rel => exact ⟨hSw, i + 1, (jn : Int) - 1, by go_num, by go_num, by omega, by omega, by omega⟩
    case measure => simp [intOf]; omega
  ·go_wp2
   go_end0
   exact ⟨⟨_, rfl⟩, hSr⟩
set_option maxHeartbeats 2000000 in
theorem insert_any (W0 : World) (p : Value) (g o cap : Nat) (xs0 : List (Int × Int)) (hcmp : CmpQ W0 g p) (a b : Nat) (w : World) (hS : Sw W0 113 g o cap xs0 w) (hl : xs0.length ≤ 1000000) (hb : b ≤ xs0.length) (ha : a ≤ b) :
  Calls Tryz.prog 138 #[.slice (some ⟨g, o, none⟩) xs0.length cap, .int .i64 a, .int .i64 b, .func (.func 97) #[p] #[]] w (fun e w' => (∃ v, e = .returned v) ∧ Sw W0 113 g o cap xs0 w') := by
 go_enter Tryz.func138, Tryz.ntmps138
 go_wp2
 go_loopw [8, 9] (fun vi _ wr => Sw W0 113 g o cap xs0 wr ∧ ∃ i : Nat, vi = .int .i64 i ∧ a + 1 ≤ i ∧ i ≤ b + 1) (fun vi _ _ => b + 1 - (intOf vi).toNat)
 case atStart => exact ⟨hS, a + 1, by go_num, by omega, by omega⟩
 case round =>
  obtain ⟨hSr, i, rfl, hi1, hi2⟩ := hrel
  clear hS
  by_cases hlt : i < b
  ·go_wp2
   go_loopw [9] (fun vj wr => Sw W0 113 g o cap xs0 wr ∧ ∃ j : Nat, vj = .int .i64 j ∧ a ≤ j ∧ j ≤ i) (fun vj _ => (intOf vj).toNat)
   case atStart => exact ⟨hSr, i, rfl, by omega, by omega⟩
   case round =>
    obtain ⟨hSr, j, rfl, hj1, hj2⟩ := hrel
    by_cases hja : a < j
    ·obtain ⟨jm, rfl⟩ : ∃ m, j = m + 1 := ⟨j - 1, by omega⟩
     obtain ⟨hg, cur, xs, hR, hp⟩ := hSr
     have hlen := hp.length_eq
     have hix : jm + 1 < xs.length := by omega
     have hjx : jm < xs.length := by omega
     have hi2 := hR.at_ hix
     have hj2 := hR.at_ hjx
     obtain ⟨x, hx⟩ : ∃ x, xs[jm + 1] = x := ⟨_, rfl⟩
     obtain ⟨y, hy⟩ : ∃ y, xs[jm] = y := ⟨_, rfl⟩
     rw [hx] at hi2; rw [hy] at hj2
     have f1 := hR.lt2 hix; have f2 := hR.lt2 hjx
     have hB := hR.blk
     have Hput : Hid (∀ W1 W2, Blk W1 g 113 (putAt cur (o + (jm + 1) * 2) [.int .i64 y.1, .int .i64 y.2]) → wr.grownBy W1 (some g) → Blk W2 g 113 (putAt (putAt cur (o + (jm + 1) * 2) [.int .i64 y.1, .int .i64 y.2]) (o + (jm) * 2) [.int .i64 x.1, .int .i64 x.2]) → W1.grownBy W2 (some g) → Sw W0 113 g o cap xs0 W2) := Lib.hid (by intro W1 W2 h1 h2 h3 h4; subst hx hy; exact Sw.put2 hg hR hp hix hjx h1 h2 h3 h4)
     have hmA : True := trivial
     have z1 : (jm : Int) + 1 < (xs0.length : Int) := by omega
     have z2 : (jm : Int) < (xs0.length : Int) := by omega
     have z0 : (0 : Int) ≤ (jm : Int) + 1 := by omega
     have wj : IntKind.i64.wrap (jm : Int) = jm := wrapI (by omega) (by omega)
     go_wp2
     have hX := Ext.todrew (Ext.refl wr)
     refine wp_rt (.take 0 (.take 1 (.take 2 (.take 3 (.take 4 (.take 5 (.take 6 (.take 7 (.take 8 (.take 9 (.take 10 (.take 11 (.take 12 (.take 13 (.one 14 (.take 15 (.take 16 .nil))))))))))))))))) (fun w' => Ext wr w') ?_ (fun hHeld => ?_)
     ·assumption
     repeat' first | ((with_reducible refine t_tk ?_); first | ((with_reducible refine t_tk (i := 2) ?_); refine tk (v := .bool true) ?_ hHeld ?_; (· (intro wq hSw; go_simp; first | done | omega | (simp; omega))); (try simp only [pS])) | ((with_reducible refine t_tk (i := 8) ?_); refine tw (v := .agg #[.int .i64 x.1, .int .i64 x.2]) ?_ hHeld ?_; (· exact run_ld (by rfl) (fun W h => ld_stand (hi2.ext h))); (try simp only [pS])) | ((with_reducible refine t_tk (i := 13) ?_); refine tw (v := .agg #[.int .i64 y.1, .int .i64 y.2]) ?_ hHeld ?_; (· exact run_ld (by rfl) (fun W h => ld_stand (hj2.ext h))); (try simp only [pS])) | (refine tk (v := ?_) ?_ hHeld ?_; rotate_left; (· (intro wq hSw; (try dsimp only at hSw); go_simp; (try with_reducible rfl))); (try simp only [pS])) | (refine tw (v := ?_) ?_ hHeld ?_; rotate_left; (· (intro wq hSw; (try dsimp only at hSw); go_simp; (try with_reducible rfl))); (try simp only [pS]))) | ((with_reducible refine t_on ?_); refine t_one (by simp only [gS]; rfl) ?_) | ((with_reducible refine q_gd (d := some 32) ?_); ((refine q_callG (by rfl) (hcmp _ (grown_then hg hX) x y) (by go_simp) ?_; rintro e Wc ⟨⟨r, rfl⟩, hEc⟩; refine ⟨_, rfl, ?_⟩; have hXc := hX.trans hEc; obtain ⟨bb, hbb⟩ : ∃ b, decide (r < 0) = b := ⟨_, rfl⟩))) | ((with_reducible refine q_nl ?_); clear hHeld; refine t_next ?_ (fun hHeld => ?_); (· assumption); (try simp only [pS])) | (with_reducible refine t_done ?_)
     cases bb
     rotate_left
     ·go_wp2
      have hSc := Sw.ext (⟨hg, cur, xs, hR, hp⟩ : Sw W0 113 g o cap xs0 wr) hXc
      clear hX hXc hi2 hj2 hB hR Hput hg hx hy hp
      generalize Wc = wr at hSc
      have hSr := hSc
      clear hSc
      obtain ⟨hg, cur, xs, hR, hp⟩ := hSr
      have hlen := hp.length_eq
      have hix : jm + 1 < xs.length := by omega
      have hjx : jm < xs.length := by omega
      have hi2 := hR.at_ hix
      have hj2 := hR.at_ hjx
      obtain ⟨x, hx⟩ : ∃ x, xs[jm + 1] = x := ⟨_, rfl⟩
      obtain ⟨y, hy⟩ : ∃ y, xs[jm] = y := ⟨_, rfl⟩
      rw [hx] at hi2; rw [hy] at hj2
      have f1 := hR.lt2 hix; have f2 := hR.lt2 hjx
      have hB := hR.blk
      have Hput : Hid (∀ W1 W2, Blk W1 g 113 (putAt cur (o + (jm + 1) * 2) [.int .i64 y.1, .int .i64 y.2]) → wr.grownBy W1 (some g) → Blk W2 g 113 (putAt (putAt cur (o + (jm + 1) * 2) [.int .i64 y.1, .int .i64 y.2]) (o + (jm) * 2) [.int .i64 x.1, .int .i64 x.2]) → W1.grownBy W2 (some g) → Sw W0 113 g o cap xs0 W2) := Lib.hid (by intro W1 W2 h1 h2 h3 h4; subst hx hy; exact Sw.put2 hg hR hp hix hjx h1 h2 h3 h4)
      have hmA : True := trivial
      have hBd := hB.d; have hi2d := hi2.d; have hj2d := hj2.d
      refine wp_rt (.take 0 (.take 1 (.take 2 (.take 3 (.take 4 (.take 5 (.take 6 (.take 7 (.take 8 (.take 10 (.take 11 (.take 12 (.two 9 (.one 13 (.take 14 (.one 15 (.take 16 (.one 17 .nil))))) 13 (.one 9 (.take 14 (.one 15 (.take 16 (.one 17 .nil)))))))))))))))))) (fun w' => True) ?_ (fun hHeld => ?_)
      ·exact True.intro
      repeat' first | ((with_reducible refine t_tk ?_); (refine tk (v := ?_) ?_ hHeld ?_; rotate_left; (· (intro wq hSw; (try dsimp only at hSw); go_simp; (try with_reducible rfl))); (try simp only [pS]))) | ((with_reducible refine t_on ?_); refine t_one (by simp only [gS]; rfl) ?_) | ((with_reducible refine t_tw ?_); refine t_two (by simp only [gS]; rfl) (by simp only [gS]; rfl) ?_ ?_) | ((with_reducible refine q_gd (d := some 46) ?_); (((with_reducible refine q_load (d := some 46) (hl := ld_stand hj2d) ?_ ?_); rfl))) | ((with_reducible refine q_gd (d := some 50) ?_); (((with_reducible refine q_load (d := some 50) (hl := ld_stand hi2d) ?_ ?_); rfl))) | ((with_reducible refine q_gd (d := none) ?_); ((first | ((with_reducible refine q_store (t := 113) (e := 113) (g := g) (off := o + jm * 2) (n := 2) (v := .agg #[.int .i64 x.1, .int .i64 x.2]) ?_ ?_ hB1 sizeStand ?_ ?_ ?_ ?_); rfl; rfl; rfl; (rw [size_putAt (by exact f1)]; exact f2); (simp [Value.cells, Value.oneCell']); intro W2 hB2 hg2) | ((with_reducible refine q_store (t := 113) (e := 113) (g := g) (off := o + (jm + 1) * 2) (n := 2) (v := .agg #[.int .i64 y.1, .int .i64 y.2]) ?_ ?_ hBd sizeStand ?_ ?_ ?_ ?_); rfl; rfl; rfl; exact f1; (simp [Value.cells, Value.oneCell']); intro W1 hB1 hg1; replace hg1 := grown_undrew hg1)))) | ((with_reducible refine q_nl ?_); clear hHeld; refine t_next ?_ (fun hHeld => ?_); (· exact True.intro); (try simp only [pS])) | (with_reducible refine t_done ?_)
      all_goals
       have hSw := Hput.out _ _ hB1 hg1 hB2 hg2
       go_wp2
       go_roundw
       case rel => exact ⟨hSw, jm, by go_num, by omega, by omega⟩
       case measure => simp [intOf]
     ·have hSr := Sw.ext (⟨hg, cur, xs, hR, hp⟩ : Sw W0 113 g o cap xs0 wr) hXc
      clear hX hXc hi2 hj2 hB hR Hput hg hx hy hp
      go_wp2
      go_roundw
      case rel => exact ⟨hSr, i + 1, by go_num, by omega, by omega⟩
      case measure => simp [intOf]; omega
    ·obtain rfl : j = a := by omega
     go_wp2
     have hX := Ext.todrew (Ext.refl wr)
     refine wp_rt (.take 0 (.take 1 (.take 2 (.take 3 (.take 4 (.take 5 (.take 6 (.take 7 (.take 8 (.take 9 (.take 10 (.take 11 (.take 12 (.take 13 (.one 14 (.take 15 (.take 16 .nil))))))))))))))))) (fun w' => Ext wr w') ?_ (fun hHeld => ?_)
     ·assumption
     repeat' first | ((with_reducible refine t_tk ?_); first | ((with_reducible refine t_tk (i := 2) ?_); refine tk (v := .bool false) ?_ hHeld ?_; (· (intro wq hSw; go_simp; first | done | omega | (simp; omega))); (try simp only [pS])) | (refine tk (v := ?_) ?_ hHeld ?_; rotate_left; (· (intro wq hSw; (try dsimp only at hSw); go_simp; (try with_reducible rfl))); (try simp only [pS])) | (refine ts hHeld ?_; (try simp only [pS]))) | ((with_reducible refine t_on ?_); refine t_one (by simp only [gS]; rfl) ?_) | ((with_reducible refine q_gd (d := some 32) ?_); refine q_skipG (by rfl) ?_) | ((with_reducible refine q_nl ?_); clear hHeld; refine t_next ?_ (fun hHeld => ?_); (· assumption); (try simp only [pS])) | (with_reducible refine t_done ?_)
     have hSr := Sw.ext hSr hX
     go_wp2
     go_roundw
     case rel => exact ⟨hSr, i + 1, by go_num, by omega, by omega⟩
     case measure => simp [intOf]; omega
  ·go_wp2
   go_end0
   exact ⟨⟨_, rfl⟩, hSr⟩
end Go.St
end
section
namespace Go.St
open Go Go.Bp Go.RowKit Go.Proofs
set_option maxHeartbeats 4000000 in
theorem sift_any (W0 : World) (p : Value) (g o cap : Nat) (xs0 : List (Int × Int)) (hcmp : CmpQ W0 g p) (lo hi first : Nat) (w : World) (hS : Sw W0 113 g o cap xs0 w) (hl : xs0.length ≤ 1000000) (hf : first + hi ≤ xs0.length) (hlo : lo ≤ 1000000) :
  Calls Tryz.prog 158 #[.slice (some ⟨g, o, none⟩) xs0.length cap, .int .i64 lo, .int .i64 hi, .int .i64 first, .func (.func 97) #[p] #[]] w (fun e w' => (∃ v, e = .returned v) ∧ Sw W0 113 g o cap xs0 w') := by
 go_enter Tryz.func158, Tryz.ntmps158
 go_wp2
 go_loopw [10, 11] (fun vr _ wr => Sw W0 113 g o cap xs0 wr ∧ ∃ r : Nat, vr = .int .i64 r ∧ r ≤ 1000000) (fun vr _ _ => 1000001 - (intOf vr).toNat)
 case atStart => exact ⟨hS, lo, rfl, hlo⟩
 case round =>
  obtain ⟨hSr, rt, rfl, hr1⟩ := hrel
  clear hS
  by_cases hch : 2 * rt + 1 < hi
  ·have w1 : IntKind.i64.wrap (2 * (rt : Int) + 1) = 2 * (rt : Int) + 1 := wrapI (by omega) (by omega)
   have w2 : IntKind.i64.wrap (2 * (rt : Int)) = 2 * (rt : Int) := wrapI (by omega) (by omega)
   go_wp2
   obtain ⟨c, hc⟩ : ∃ c : Nat, 2 * (rt : Int) + 1 = (c : Int) := ⟨2 * rt + 1, by omega⟩
   rw [hc]
   have hc1 : c < hi := by omega
   have hrc1 : rt < c := by omega
   have Hc := Lib.hid (⟨hc1, hrc1⟩ : _ ∧ _)
   clear hc hch w1 w2
   by_cases hc2 : c + 1 < hi
   ·obtain ⟨ia, hia⟩ : ∃ i : Nat, i = first + c := ⟨_, rfl⟩
    obtain ⟨ib, hib⟩ : ∃ i : Nat, i = first + c + 1 := ⟨_, rfl⟩
    obtain ⟨c2, hcc⟩ : ∃ i : Nat, i = c + 1 := ⟨_, rfl⟩
    have wia : IntKind.i64.wrap ((first : Int) + (c : Int)) = (ia : Int) := by rw [wrapI (by omega) (by omega)]; omega
    have wib : IntKind.i64.wrap ((ia : Int) + 1) = (ib : Int) := by rw [wrapI (by omega) (by omega)]; omega
    have wcc : IntKind.i64.wrap ((c : Int) + 1) = (c2 : Int) := by rw [wrapI (by omega) (by omega)]; omega
    have q1 : ia < xs0.length := by omega
    have q2 : ib < xs0.length := by omega
    have z1 : (ia : Int) < (xs0.length : Int) := by omega
    have z2 : (ib : Int) < (xs0.length : Int) := by omega
    have z3 : (c2 : Int) < (hi : Int) := by omega
    have Hcc := Lib.hid hcc
    have Hf := Lib.hid hf
    clear hia hib hcc hf hc2 hc1 hrc1
    obtain ⟨hg, cur, xs, hR, hp⟩ := hSr
    have hlen := hp.length_eq
    have hix : ia < xs.length := by omega
    have hjx : ib < xs.length := by omega
    have hi2 := hR.at_ hix
    have hj2 := hR.at_ hjx
    obtain ⟨x, hx⟩ : ∃ x, xs[ia] = x := ⟨_, rfl⟩
    obtain ⟨y, hy⟩ : ∃ y, xs[ib] = y := ⟨_, rfl⟩
    rw [hx] at hi2; rw [hy] at hj2
    have f1 := hR.lt2 hix; have f2 := hR.lt2 hjx
    have hB := hR.blk
    have Hput : Hid (∀ W1 W2, Blk W1 g 113 (putAt cur (o + (ia) * 2) [.int .i64 y.1, .int .i64 y.2]) → wr.grownBy W1 (some g) → Blk W2 g 113 (putAt (putAt cur (o + (ia) * 2) [.int .i64 y.1, .int .i64 y.2]) (o + (ib) * 2) [.int .i64 x.1, .int .i64 x.2]) → W1.grownBy W2 (some g) → Sw W0 113 g o cap xs0 W2) := Lib.hid (by intro W1 W2 h1 h2 h3 h4; subst hx hy; exact Sw.put2 hg hR hp hix hjx h1 h2 h3 h4)
    have hmA : True := trivial
    have hX := Ext.todrew (Ext.refl wr)
    refine wp_rt (.take 0 (.take 1 (.take 2 (.take 3 (.take 4 (.take 5 (.take 6 (.take 7 (.take 8 (.take 9 (.take 10 (.take 11 (.take 12 (.take 13 (.take 14 (.take 15 (.take 16 (.take 17 (.take 18 (.one 19 (.take 20 (.take 21 .nil)))))))))))))))))))))) (fun w' => Ext wr w') ?_ (fun hHeld => ?_)
    ·assumption
    repeat' first | ((with_reducible refine t_tk ?_); first | ((with_reducible refine t_tk (i := 3) ?_); refine tk (v := .bool true) ?_ hHeld ?_; (· (intro wq hSw; go_simp; first | done | omega | (simp; omega))); (try simp only [pS])) | ((with_reducible refine t_tk (i := 11) ?_); refine tw (v := .agg #[.int .i64 x.1, .int .i64 x.2]) ?_ hHeld ?_; (· exact run_ld (by rfl) (fun W h => ld_stand (hi2.ext h))); (try simp only [pS])) | ((with_reducible refine t_tk (i := 18) ?_); refine tw (v := .agg #[.int .i64 y.1, .int .i64 y.2]) ?_ hHeld ?_; (· exact run_ld (by rfl) (fun W h => ld_stand (hj2.ext h))); (try simp only [pS])) | (refine tk (v := ?_) ?_ hHeld ?_; rotate_left; (· (intro wq hSw; (try dsimp only at hSw); go_simp; (try with_reducible rfl))); (try simp only [pS])) | (refine tw (v := ?_) ?_ hHeld ?_; rotate_left; (· (intro wq hSw; (try dsimp only at hSw); go_simp; (try with_reducible rfl))); (try simp only [pS]))) | ((with_reducible refine t_on ?_); refine t_one (by simp only [gS]; rfl) ?_) | ((with_reducible refine q_gd (d := some 38) ?_); ((refine q_callG (by rfl) (hcmp _ (grown_then hg hX) x y) (by go_simp) ?_; rintro e Wc ⟨⟨r, rfl⟩, hEc⟩; refine ⟨_, rfl, ?_⟩; have hXc := hX.trans hEc; obtain ⟨bb, hbb⟩ : ∃ b, decide (r < 0) = b := ⟨_, rfl⟩))) | ((with_reducible refine q_nl ?_); clear hHeld; refine t_next ?_ (fun hHeld => ?_); (· assumption); (try simp only [pS])) | (with_reducible refine t_done ?_)
    have hSc := Sw.ext (⟨hg, cur, xs, hR, hp⟩ : Sw W0 113 g o cap xs0 wr) hXc
    clear hX hXc hi2 hj2 hB hR Hput hg hx hy hp f1 f2 hmA wia wib z1 z2
    generalize Wc = wr at hSc ⊢
    have hSr := hSc
    clear hSc
    have hf := Hf.out
    cases bb
    rotate_left
    ·go_wp2
     have hc2 : c2 < hi := by omega
     have hrc : rt < c2 := by have := Hc.out; have := Hcc.out; omega
     clear wcc z3
     obtain ⟨ir, hir⟩ : ∃ i : Nat, i = first + rt := ⟨_, rfl⟩
     obtain ⟨ic, hic⟩ : ∃ i : Nat, i = first + c2 := ⟨_, rfl⟩
     have wir : IntKind.i64.wrap ((first : Int) + (rt : Int)) = (ir : Int) := by rw [wrapI (by omega) (by omega)]; omega
     have wic : IntKind.i64.wrap ((first : Int) + (c2 : Int)) = (ic : Int) := by rw [wrapI (by omega) (by omega)]; omega
     have q1 : ir < xs0.length := by omega
     have q2 : ic < xs0.length := by omega
     have z1 : (ir : Int) < (xs0.length : Int) := by omega
     have z2 : (ic : Int) < (xs0.length : Int) := by omega
     have hcm : c2 ≤ 1000000 := by omega
     have Hs := Lib.hid (⟨hcm, hrc, hr1⟩ : _ ∧ _ ∧ _)
     clear hir hic hc2 hrc hf hcm
     obtain ⟨hg, cur, xs, hR, hp⟩ := hSr
     have hlen := hp.length_eq
     have hix : ir < xs.length := by omega
     have hjx : ic < xs.length := by omega
     have hi2 := hR.at_ hix
     have hj2 := hR.at_ hjx
     obtain ⟨x, hx⟩ : ∃ x, xs[ir] = x := ⟨_, rfl⟩
     obtain ⟨y, hy⟩ : ∃ y, xs[ic] = y := ⟨_, rfl⟩
     rw [hx] at hi2; rw [hy] at hj2
     have f1 := hR.lt2 hix; have f2 := hR.lt2 hjx
     have hB := hR.blk
     have Hput : Hid (∀ W1 W2, Blk W1 g 113 (putAt cur (o + (ir) * 2) [.int .i64 y.1, .int .i64 y.2]) → wr.grownBy W1 (some g) → Blk W2 g 113 (putAt (putAt cur (o + (ir) * 2) [.int .i64 y.1, .int .i64 y.2]) (o + (ic) * 2) [.int .i64 x.1, .int .i64 x.2]) → W1.grownBy W2 (some g) → Sw W0 113 g o cap xs0 W2) := Lib.hid (by intro W1 W2 h1 h2 h3 h4; subst hx hy; exact Sw.put2 hg hR hp hix hjx h1 h2 h3 h4)
     have hmA : True := trivial
     go_wp2
     have hX := Ext.todrew (Ext.refl wr)
     refine wp_rt (.take 0 (.take 1 (.take 2 (.take 3 (.take 4 (.take 5 (.take 6 (.take 7 (.take 8 (.take 9 (.take 10 (.take 11 (.take 12 (.one 13 (.take 14 (.take 15 .nil)))))))))))))))) (fun w' => Ext wr w') ?_ (fun hHeld => ?_)
     ·assumption
     repeat' first | ((with_reducible refine t_tk ?_); first | ((with_reducible refine t_tk (i := 6) ?_); refine tk (v := .agg #[.int .i64 x.1, .int .i64 x.2]) ?_ hHeld ?_; (· exact run_ld (by rfl) (fun W h => ld_stand (hi2.ext h))); (try simp only [pS])) | ((with_reducible refine t_tk (i := 12) ?_); refine tk (v := .agg #[.int .i64 y.1, .int .i64 y.2]) ?_ hHeld ?_; (· exact run_ld (by rfl) (fun W h => ld_stand (hj2.ext h))); (try simp only [pS])) | (refine tk (v := ?_) ?_ hHeld ?_; rotate_left; (· (intro wq hSw; (try dsimp only at hSw); go_simp; (try with_reducible rfl))); (try simp only [pS]))) | ((with_reducible refine t_on ?_); refine t_one (by simp only [gS]; rfl) ?_) | ((with_reducible refine q_gd (d := some 56) ?_); ((refine q_call (by rfl) (hcmp _ (grown_then hg hX) x y) (by go_simp) ?_; rintro e Wc ⟨⟨r, rfl⟩, hEc⟩; refine ⟨_, rfl, ?_⟩; have hXc := hX.trans hEc; obtain ⟨bb, hbb⟩ : ∃ b, decide (r < 0) = b := ⟨_, rfl⟩))) | ((with_reducible refine q_nl ?_); clear hHeld; refine t_next ?_ (fun hHeld => ?_); (· assumption); (try simp only [pS])) | (with_reducible refine t_done ?_)
     cases bb
     rotate_left
     ·go_wp2
      have hSc := Sw.ext (⟨hg, cur, xs, hR, hp⟩ : Sw W0 113 g o cap xs0 wr) hXc
      clear hX hXc hi2 hj2 hB hR Hput hg hx hy hp
      generalize Wc = wr at hSc
      have hSr := hSc
      clear hSc
      obtain ⟨hg, cur, xs, hR, hp⟩ := hSr
      have hlen := hp.length_eq
      have hix : ir < xs.length := by omega
      have hjx : ic < xs.length := by omega
      have hi2 := hR.at_ hix
      have hj2 := hR.at_ hjx
      obtain ⟨x, hx⟩ : ∃ x, xs[ir] = x := ⟨_, rfl⟩
      obtain ⟨y, hy⟩ : ∃ y, xs[ic] = y := ⟨_, rfl⟩
      rw [hx] at hi2; rw [hy] at hj2
      have f1 := hR.lt2 hix; have f2 := hR.lt2 hjx
      have hB := hR.blk
      have Hput : Hid (∀ W1 W2, Blk W1 g 113 (putAt cur (o + (ir) * 2) [.int .i64 y.1, .int .i64 y.2]) → wr.grownBy W1 (some g) → Blk W2 g 113 (putAt (putAt cur (o + (ir) * 2) [.int .i64 y.1, .int .i64 y.2]) (o + (ic) * 2) [.int .i64 x.1, .int .i64 x.2]) → W1.grownBy W2 (some g) → Sw W0 113 g o cap xs0 W2) := Lib.hid (by intro W1 W2 h1 h2 h3 h4; subst hx hy; exact Sw.put2 hg hR hp hix hjx h1 h2 h3 h4)
      have hmA : True := trivial
      have hBd := hB.d; have hi2d := hi2.d; have hj2d := hj2.d
      refine wp_rt (.take 0 (.take 1 (.take 2 (.take 3 (.take 4 (.take 5 (.take 6 (.take 7 (.take 8 (.take 9 (.take 10 (.take 11 (.take 12 (.take 14 (.take 15 (.take 16 (.take 17 (.take 18 (.two 13 (.one 19 (.take 20 (.one 21 (.take 22 (.one 23 .nil))))) 19 (.one 13 (.take 20 (.one 21 (.take 22 (.one 23 .nil)))))))))))))))))))))))) (fun w' => True) ?_ (fun hHeld => ?_)
      ·exact True.intro
      repeat' first | ((with_reducible refine t_tk ?_); (refine tk (v := ?_) ?_ hHeld ?_; rotate_left; (· (intro wq hSw; (try dsimp only at hSw); go_simp; (try with_reducible rfl))); (try simp only [pS]))) | ((with_reducible refine t_on ?_); refine t_one (by simp only [gS]; rfl) ?_) | ((with_reducible refine t_tw ?_); refine t_two (by simp only [gS]; rfl) (by simp only [gS]; rfl) ?_ ?_) | ((with_reducible refine q_gd (d := some 72) ?_); (((with_reducible refine q_load (d := some 72) (hl := ld_stand hj2d) ?_ ?_); rfl))) | ((with_reducible refine q_gd (d := some 78) ?_); (((with_reducible refine q_load (d := some 78) (hl := ld_stand hi2d) ?_ ?_); rfl))) | ((with_reducible refine q_gd (d := none) ?_); ((first | ((with_reducible refine q_store (t := 113) (e := 113) (g := g) (off := o + ic * 2) (n := 2) (v := .agg #[.int .i64 x.1, .int .i64 x.2]) ?_ ?_ hB1 sizeStand ?_ ?_ ?_ ?_); rfl; rfl; rfl; (rw [size_putAt (by exact f1)]; exact f2); (simp [Value.cells, Value.oneCell']); intro W2 hB2 hg2) | ((with_reducible refine q_store (t := 113) (e := 113) (g := g) (off := o + ir * 2) (n := 2) (v := .agg #[.int .i64 y.1, .int .i64 y.2]) ?_ ?_ hBd sizeStand ?_ ?_ ?_ ?_); rfl; rfl; rfl; exact f1; (simp [Value.cells, Value.oneCell']); intro W1 hB1 hg1; replace hg1 := grown_undrew hg1)))) | ((with_reducible refine q_nl ?_); clear hHeld; refine t_next ?_ (fun hHeld => ?_); (· exact True.intro); (try simp only [pS])) | (with_reducible refine t_done ?_)
      all_goals
       have hSw := Hput.out _ _ hB1 hg1 hB2 hg2
       go_wp2
       go_roundw
       case rel => exact ⟨hSw, c2, by go_num, by have := Hs.out; omega⟩
       case measure => have := Hs.out; simp [intOf]; omega
     ·have hSr := Sw.ext (⟨hg, cur, xs, hR, hp⟩ : Sw W0 113 g o cap xs0 wr) hXc
      clear hX hXc hi2 hj2 hB hR Hput hg hx hy hp
      go_wp2
      refine bodyPost_ret (results_none rfl _ _ _) ?_ ?_
      ·rfl
      ·exact ⟨⟨_, rfl⟩, hSr⟩
    ·go_wp2
     clear wcc z3
     obtain ⟨hc2, hrc⟩ := Hc.out
     clear Hc Hcc Hf
     generalize c = c2 at hc2 hrc ⊢
     obtain ⟨ir, hir⟩ : ∃ i : Nat, i = first + rt := ⟨_, rfl⟩
     obtain ⟨ic, hic⟩ : ∃ i : Nat, i = first + c2 := ⟨_, rfl⟩
     have wir : IntKind.i64.wrap ((first : Int) + (rt : Int)) = (ir : Int) := by rw [wrapI (by omega) (by omega)]; omega
     have wic : IntKind.i64.wrap ((first : Int) + (c2 : Int)) = (ic : Int) := by rw [wrapI (by omega) (by omega)]; omega
     have q1 : ir < xs0.length := by omega
     have q2 : ic < xs0.length := by omega
     have z1 : (ir : Int) < (xs0.length : Int) := by omega
     have z2 : (ic : Int) < (xs0.length : Int) := by omega
     have hcm : c2 ≤ 1000000 := by omega
     have Hs := Lib.hid (⟨hcm, hrc, hr1⟩ : _ ∧ _ ∧ _)
     clear hir hic hc2 hrc hf hcm
     obtain ⟨hg, cur, xs, hR, hp⟩ := hSr
     have hlen := hp.length_eq
     have hix : ir < xs.length := by omega
     have hjx : ic < xs.length := by omega
     have hi2 := hR.at_ hix
     have hj2 := hR.at_ hjx
     obtain ⟨x, hx⟩ : ∃ x, xs[ir] = x := ⟨_, rfl⟩
     obtain ⟨y, hy⟩ : ∃ y, xs[ic] = y := ⟨_, rfl⟩
     rw [hx] at hi2; rw [hy] at hj2
     have f1 := hR.lt2 hix; have f2 := hR.lt2 hjx
     have hB := hR.blk
     have Hput : Hid (∀ W1 W2, Blk W1 g 113 (putAt cur (o + (ir) * 2) [.int .i64 y.1, .int .i64 y.2]) → wr.grownBy W1 (some g) → Blk W2 g 113 (putAt (putAt cur (o + (ir) * 2) [.int .i64 y.1, .int .i64 y.2]) (o + (ic) * 2) [.int .i64 x.1, .int .i64 x.2]) → W1.grownBy W2 (some g) → Sw W0 113 g o cap xs0 W2) := Lib.hid (by intro W1 W2 h1 h2 h3 h4; subst hx hy; exact Sw.put2 hg hR hp hix hjx h1 h2 h3 h4)
     have hmA : True := trivial
     go_wp2
     have hX := Ext.todrew (Ext.refl wr)
     refine wp_rt (.take 0 (.take 1 (.take 2 (.take 3 (.take 4 (.take 5 (.take 6 (.take 7 (.take 8 (.take 9 (.take 10 (.take 11 (.take 12 (.one 13 (.take 14 (.take 15 .nil)))))))))))))))) (fun w' => Ext wr w') ?_ (fun hHeld => ?_)
     ·assumption
     repeat' first | ((with_reducible refine t_tk ?_); first | ((with_reducible refine t_tk (i := 6) ?_); refine tk (v := .agg #[.int .i64 x.1, .int .i64 x.2]) ?_ hHeld ?_; (· exact run_ld (by rfl) (fun W h => ld_stand (hi2.ext h))); (try simp only [pS])) | ((with_reducible refine t_tk (i := 12) ?_); refine tk (v := .agg #[.int .i64 y.1, .int .i64 y.2]) ?_ hHeld ?_; (· exact run_ld (by rfl) (fun W h => ld_stand (hj2.ext h))); (try simp only [pS])) | (refine tk (v := ?_) ?_ hHeld ?_; rotate_left; (· (intro wq hSw; (try dsimp only at hSw); go_simp; (try with_reducible rfl))); (try simp only [pS]))) | ((with_reducible refine t_on ?_); refine t_one (by simp only [gS]; rfl) ?_) | ((with_reducible refine q_gd (d := some 56) ?_); ((refine q_call (by rfl) (hcmp _ (grown_then hg hX) x y) (by go_simp) ?_; rintro e Wc ⟨⟨r, rfl⟩, hEc⟩; refine ⟨_, rfl, ?_⟩; have hXc := hX.trans hEc; obtain ⟨bb, hbb⟩ : ∃ b, decide (r < 0) = b := ⟨_, rfl⟩))) | ((with_reducible refine q_nl ?_); clear hHeld; refine t_next ?_ (fun hHeld => ?_); (· assumption); (try simp only [pS])) | (with_reducible refine t_done ?_)
     cases bb
     rotate_left
     ·go_wp2
      have hSc := Sw.ext (⟨hg, cur, xs, hR, hp⟩ : Sw W0 113 g o cap xs0 wr) hXc
      clear hX hXc hi2 hj2 hB hR Hput hg hx hy hp
      generalize Wc = wr at hSc
      have hSr := hSc
      clear hSc
      obtain ⟨hg, cur, xs, hR, hp⟩ := hSr
      have hlen := hp.length_eq
      have hix : ir < xs.length := by omega
      have hjx : ic < xs.length := by omega
      have hi2 := hR.at_ hix
      have hj2 := hR.at_ hjx
      obtain ⟨x, hx⟩ : ∃ x, xs[ir] = x := ⟨_, rfl⟩
      obtain ⟨y, hy⟩ : ∃ y, xs[ic] = y := ⟨_, rfl⟩
      rw [hx] at hi2; rw [hy] at hj2
      have f1 := hR.lt2 hix; have f2 := hR.lt2 hjx
      have hB := hR.blk
      have Hput : Hid (∀ W1 W2, Blk W1 g 113 (putAt cur (o + (ir) * 2) [.int .i64 y.1, .int .i64 y.2]) → wr.grownBy W1 (some g) → Blk W2 g 113 (putAt (putAt cur (o + (ir) * 2) [.int .i64 y.1, .int .i64 y.2]) (o + (ic) * 2) [.int .i64 x.1, .int .i64 x.2]) → W1.grownBy W2 (some g) → Sw W0 113 g o cap xs0 W2) := Lib.hid (by intro W1 W2 h1 h2 h3 h4; subst hx hy; exact Sw.put2 hg hR hp hix hjx h1 h2 h3 h4)
      have hmA : True := trivial
      have hBd := hB.d; have hi2d := hi2.d; have hj2d := hj2.d
      refine wp_rt (.take 0 (.take 1 (.take 2 (.take 3 (.take 4 (.take 5 (.take 6 (.take 7 (.take 8 (.take 9 (.take 10 (.take 11 (.take 12 (.take 14 (.take 15 (.take 16 (.take 17 (.take 18 (.two 13 (.one 19 (.take 20 (.one 21 (.take 22 (.one 23 .nil))))) 19 (.one 13 (.take 20 (.one 21 (.take 22 (.one 23 .nil)))))))))))))))))))))))) (fun w' => True) ?_ (fun hHeld => ?_)
      ·exact True.intro
      repeat' first | ((with_reducible refine t_tk ?_); (refine tk (v := ?_) ?_ hHeld ?_; rotate_left; (· (intro wq hSw; (try dsimp only at hSw); go_simp; (try with_reducible rfl))); (try simp only [pS]))) | ((with_reducible refine t_on ?_); refine t_one (by simp only [gS]; rfl) ?_) | ((with_reducible refine t_tw ?_); refine t_two (by simp only [gS]; rfl) (by simp only [gS]; rfl) ?_ ?_) | ((with_reducible refine q_gd (d := some 72) ?_); (((with_reducible refine q_load (d := some 72) (hl := ld_stand hj2d) ?_ ?_); rfl))) | ((with_reducible refine q_gd (d := some 78) ?_); (((with_reducible refine q_load (d := some 78) (hl := ld_stand hi2d) ?_ ?_); rfl))) | ((with_reducible refine q_gd (d := none) ?_); ((first | ((with_reducible refine q_store (t := 113) (e := 113) (g := g) (off := o + ic * 2) (n := 2) (v := .agg #[.int .i64 x.1, .int .i64 x.2]) ?_ ?_ hB1 sizeStand ?_ ?_ ?_ ?_); rfl; rfl; rfl; (rw [size_putAt (by exact f1)]; exact f2); (simp [Value.cells, Value.oneCell']); intro W2 hB2 hg2) | ((with_reducible refine q_store (t := 113) (e := 113) (g := g) (off := o + ir * 2) (n := 2) (v := .agg #[.int .i64 y.1, .int .i64 y.2]) ?_ ?_ hBd sizeStand ?_ ?_ ?_ ?_); rfl; rfl; rfl; exact f1; (simp [Value.cells, Value.oneCell']); intro W1 hB1 hg1; replace hg1 := grown_undrew hg1)))) | ((with_reducible refine q_nl ?_); clear hHeld; refine t_next ?_ (fun hHeld => ?_); (· exact True.intro); (try simp only [pS])) | (with_reducible refine t_done ?_)
      all_goals
       have hSw := Hput.out _ _ hB1 hg1 hB2 hg2
       go_wp2
       go_roundw
       case rel => exact ⟨hSw, c2, by go_num, by have := Hs.out; omega⟩
       case measure => have := Hs.out; simp [intOf]; omega
     ·have hSr := Sw.ext (⟨hg, cur, xs, hR, hp⟩ : Sw W0 113 g o cap xs0 wr) hXc
      clear hX hXc hi2 hj2 hB hR Hput hg hx hy hp
      go_wp2
      refine bodyPost_ret (results_none rfl _ _ _) ?_ ?_
      ·rfl
      ·exact ⟨⟨_, rfl⟩, hSr⟩
   ·have hc3 : ¬ ((c : Int) + 1 < (hi : Int)) := by omega
    have wcc : IntKind.i64.wrap ((c : Int) + 1) = (c : Int) + 1 := wrapI (by omega) (by omega)
    have hX := Ext.todrew (Ext.refl wr)
    refine wp_rt (.take 0 (.take 1 (.take 2 (.take 3 (.take 4 (.take 5 (.take 6 (.take 7 (.take 8 (.take 9 (.take 10 (.take 11 (.take 12 (.take 13 (.take 14 (.take 15 (.take 16 (.take 17 (.take 18 (.one 19 (.take 20 (.take 21 .nil)))))))))))))))))))))) (fun w' => Ext wr w') ?_ (fun hHeld => ?_)
    ·assumption
    repeat' first | ((with_reducible refine t_tk ?_); first | ((with_reducible refine t_tk (i := 3) ?_); refine tk (v := .bool false) ?_ hHeld ?_; (· (intro wq hSw; go_simp; first | done | omega | (simp; omega))); (try simp only [pS])) | (refine tk (v := ?_) ?_ hHeld ?_; rotate_left; (· (intro wq hSw; (try dsimp only at hSw); go_simp; (try with_reducible rfl))); (try simp only [pS])) | (refine ts hHeld ?_; (try simp only [pS]))) | ((with_reducible refine t_on ?_); refine t_one (by simp only [gS]; rfl) ?_) | ((with_reducible refine q_gd (d := some 38) ?_); refine q_skipG (by rfl) ?_) | ((with_reducible refine q_nl ?_); clear hHeld; refine t_next ?_ (fun hHeld => ?_); (· assumption); (try simp only [pS])) | (with_reducible refine t_done ?_)
    have hSr := Sw.ext hSr hX
    clear hX hc2 hc3 wcc
    generalize wr.drew = wr at hSr ⊢
    go_wp2
    obtain ⟨hc2, hrc⟩ := Hc.out
    clear Hc hc1 hrc1
    generalize c = c2 at hc2 hrc ⊢
    obtain ⟨ir, hir⟩ : ∃ i : Nat, i = first + rt := ⟨_, rfl⟩
    obtain ⟨ic, hic⟩ : ∃ i : Nat, i = first + c2 := ⟨_, rfl⟩
    have wir : IntKind.i64.wrap ((first : Int) + (rt : Int)) = (ir : Int) := by rw [wrapI (by omega) (by omega)]; omega
    have wic : IntKind.i64.wrap ((first : Int) + (c2 : Int)) = (ic : Int) := by rw [wrapI (by omega) (by omega)]; omega
    have q1 : ir < xs0.length := by omega
    have q2 : ic < xs0.length := by omega
    have z1 : (ir : Int) < (xs0.length : Int) := by omega
    have z2 : (ic : Int) < (xs0.length : Int) := by omega
    have hcm : c2 ≤ 1000000 := by omega
    have Hs := Lib.hid (⟨hcm, hrc, hr1⟩ : _ ∧ _ ∧ _)
    clear hir hic hc2 hrc hf hcm
    obtain ⟨hg, cur, xs, hR, hp⟩ := hSr
    have hlen := hp.length_eq
    have hix : ir < xs.length := by omega
    have hjx : ic < xs.length := by omega
    have hi2 := hR.at_ hix
    have hj2 := hR.at_ hjx
    obtain ⟨x, hx⟩ : ∃ x, xs[ir] = x := ⟨_, rfl⟩
    obtain ⟨y, hy⟩ : ∃ y, xs[ic] = y := ⟨_, rfl⟩
    rw [hx] at hi2; rw [hy] at hj2
    have f1 := hR.lt2 hix; have f2 := hR.lt2 hjx
    have hB := hR.blk
    have Hput : Hid (∀ W1 W2, Blk W1 g 113 (putAt cur (o + (ir) * 2) [.int .i64 y.1, .int .i64 y.2]) → wr.grownBy W1 (some g) → Blk W2 g 113 (putAt (putAt cur (o + (ir) * 2) [.int .i64 y.1, .int .i64 y.2]) (o + (ic) * 2) [.int .i64 x.1, .int .i64 x.2]) → W1.grownBy W2 (some g) → Sw W0 113 g o cap xs0 W2) := Lib.hid (by intro W1 W2 h1 h2 h3 h4; subst hx hy; exact Sw.put2 hg hR hp hix hjx h1 h2 h3 h4)
    have hmA : True := trivial
    go_wp2
    have hX := Ext.todrew (Ext.refl wr)
    refine wp_rt (.take 0 (.take 1 (.take 2 (.take 3 (.take 4 (.take 5 (.take 6 (.take 7 (.take 8 (.take 9 (.take 10 (.take 11 (.take 12 (.one 13 (.take 14 (.take 15 .nil)))))))))))))))) (fun w' => Ext wr w') ?_ (fun hHeld => ?_)
    ·assumption
    repeat' first | ((with_reducible refine t_tk ?_); first | ((with_reducible refine t_tk (i := 6) ?_); refine tk (v := .agg #[.int .i64 x.1, .int .i64 x.2]) ?_ hHeld ?_; (· exact run_ld (by rfl) (fun W h => ld_stand (hi2.ext h))); (try simp only [pS])) | ((with_reducible refine t_tk (i := 12) ?_); refine tk (v := .agg #[.int .i64 y.1, .int .i64 y.2]) ?_ hHeld ?_; (· exact run_ld (by rfl) (fun W h => ld_stand (hj2.ext h))); (try simp only [pS])) | (refine tk (v := ?_) ?_ hHeld ?_; rotate_left; (· (intro wq hSw; (try dsimp only at hSw); go_simp; (try with_reducible rfl))); (try simp only [pS]))) | ((with_reducible refine t_on ?_); refine t_one (by simp only [gS]; rfl) ?_) | ((with_reducible refine q_gd (d := some 56) ?_); ((refine q_call (by rfl) (hcmp _ (grown_then hg hX) x y) (by go_simp) ?_; rintro e Wc ⟨⟨r, rfl⟩, hEc⟩; refine ⟨_, rfl, ?_⟩; have hXc := hX.trans hEc; obtain ⟨bb, hbb⟩ : ∃ b, decide (r < 0) = b := ⟨_, rfl⟩))) | ((with_reducible refine q_nl ?_); clear hHeld; refine t_next ?_ (fun hHeld => ?_); (· assumption); (try simp only [pS])) | (with_reducible refine t_done ?_)
    cases bb
    rotate_left
    ·go_wp2
     have hSc := Sw.ext (⟨hg, cur, xs, hR, hp⟩ : Sw W0 113 g o cap xs0 wr) hXc
     clear hX hXc hi2 hj2 hB hR Hput hg hx hy hp
     generalize Wc = wr at hSc
     have hSr := hSc
     clear hSc
     obtain ⟨hg, cur, xs, hR, hp⟩ := hSr
     have hlen := hp.length_eq
     have hix : ir < xs.length := by omega
     have hjx : ic < xs.length := by omega
     have hi2 := hR.at_ hix
     have hj2 := hR.at_ hjx
     obtain ⟨x, hx⟩ : ∃ x, xs[ir] = x := ⟨_, rfl⟩
     obtain ⟨y, hy⟩ : ∃ y, xs[ic] = y := ⟨_, rfl⟩
     rw [hx] at hi2; rw [hy] at hj2
     have f1 := hR.lt2 hix; have f2 := hR.lt2 hjx
     have hB := hR.blk
     have Hput : Hid (∀ W1 W2, Blk W1 g 113 (putAt cur (o + (ir) * 2) [.int .i64 y.1, .int .i64 y.2]) → wr.grownBy W1 (some g) → Blk W2 g 113 (putAt (putAt cur (o + (ir) * 2) [.int .i64 y.1, .int .i64 y.2]) (o + (ic) * 2) [.int .i64 x.1, .int .i64 x.2]) → W1.grownBy W2 (some g) → Sw W0 113 g o cap xs0 W2) := Lib.hid (by intro W1 W2 h1 h2 h3 h4; subst hx hy; exact Sw.put2 hg hR hp hix hjx h1 h2 h3 h4)
     have hmA : True := trivial
     have hBd := hB.d; have hi2d := hi2.d; have hj2d := hj2.d
     refine wp_rt (.take 0 (.take 1 (.take 2 (.take 3 (.take 4 (.take 5 (.take 6 (.take 7 (.take 8 (.take 9 (.take 10 (.take 11 (.take 12 (.take 14 (.take 15 (.take 16 (.take 17 (.take 18 (.two 13 (.one 19 (.take 20 (.one 21 (.take 22 (.one 23 .nil))))) 19 (.one 13 (.take 20 (.one 21 (.take 22 (.one 23 .nil)))))))))))))))))))))))) (fun w' => True) ?_ (fun hHeld => ?_)
     ·exact True.intro
     repeat' first | ((with_reducible refine t_tk ?_); (refine tk (v := ?_) ?_ hHeld ?_; rotate_left; (· (intro wq hSw; (try dsimp only at hSw); go_simp; (try with_reducible rfl))); (try simp only [pS]))) | ((with_reducible refine t_on ?_); refine t_one (by simp only [gS]; rfl) ?_) | ((with_reducible refine t_tw ?_); refine t_two (by simp only [gS]; rfl) (by simp only [gS]; rfl) ?_ ?_) | ((with_reducible refine q_gd (d := some 72) ?_); (((with_reducible refine q_load (d := some 72) (hl := ld_stand hj2d) ?_ ?_); rfl))) | ((with_reducible refine q_gd (d := some 78) ?_); (((with_reducible refine q_load (d := some 78) (hl := ld_stand hi2d) ?_ ?_); rfl))) | ((with_reducible refine q_gd (d := none) ?_); ((first | ((with_reducible refine q_store (t := 113) (e := 113) (g := g) (off := o + ic * 2) (n := 2) (v := .agg #[.int .i64 x.1, .int .i64 x.2]) ?_ ?_ hB1 sizeStand ?_ ?_ ?_ ?_); rfl; rfl; rfl; (rw [size_putAt (by exact f1)]; exact f2); (simp [Value.cells, Value.oneCell']); intro W2 hB2 hg2) | ((with_reducible refine q_store (t := 113) (e := 113) (g := g) (off := o + ir * 2) (n := 2) (v := .agg #[.int .i64 y.1, .int .i64 y.2]) ?_ ?_ hBd sizeStand ?_ ?_ ?_ ?_); rfl; rfl; rfl; exact f1; (simp [Value.cells, Value.oneCell']); intro W1 hB1 hg1; replace hg1 := grown_undrew hg1)))) | ((with_reducible refine q_nl ?_); clear hHeld; refine t_next ?_ (fun hHeld => ?_); (· exact True.intro); (try simp only [pS])) | (with_reducible refine t_done ?_)
     all_goals
      have hSw := Hput.out _ _ hB1 hg1 hB2 hg2
      go_wp2
      go_roundw
      case rel => exact ⟨hSw, c2, by go_num, by have := Hs.out; omega⟩
      case measure => have := Hs.out; simp [intOf]; omega
    ·have hSr := Sw.ext (⟨hg, cur, xs, hR, hp⟩ : Sw W0 113 g o cap xs0 wr) hXc
     clear hX hXc hi2 hj2 hB hR Hput hg hx hy hp
     go_wp2
     refine bodyPost_ret (results_none rfl _ _ _) ?_ ?_
     ·rfl
     ·exact ⟨⟨_, rfl⟩, hSr⟩
  ·go_wp2
   go_end0
   exact ⟨⟨_, rfl⟩, hSr⟩
set_option maxHeartbeats 4000000 in
theorem heap_any (W0 : World) (p : Value) (g o cap : Nat) (xs0 : List (Int × Int)) (hcmp : CmpQ W0 g p) (a b : Nat) (w : World) (hS : Sw W0 113 g o cap xs0 w) (hl : xs0.length ≤ 1000000) (hb : b ≤ xs0.length) (ha : a ≤ b) :
  Calls Tryz.prog 139 #[.slice (some ⟨g, o, none⟩) xs0.length cap, .int .i64 a, .int .i64 b, .func (.func 97) #[p] #[]] w (fun e w' => (∃ v, e = .returned v) ∧ Sw W0 113 g o cap xs0 w') := by
 obtain ⟨n, hn⟩ : ∃ n : Nat, n = b - a := ⟨_, rfl⟩
 have wn : IntKind.i64.wrap ((b : Int) - (a : Int)) = (n : Int) := by rw [wrapI (by omega) (by omega)]; omega
 obtain ⟨h0, hh0⟩ : ∃ h : Int, h = ((n : Int) - 1).tdiv 2 := ⟨_, rfl⟩
 have hh1 : -1 ≤ h0 ∧ h0 ≤ n := by
  subst hh0
  by_cases h : n = 0
  ·subst h; decide
  ·obtain ⟨m, rfl⟩ : ∃ m, n = m + 1 := ⟨n - 1, by omega⟩
   rw [show ((m + 1 : Nat) : Int) - 1 = (m : Int) by omega, Int.tdiv_eq_ediv_of_nonneg (by omega)]
   omega
 have wm : IntKind.i64.wrap ((n : Int) - 1) = (n : Int) - 1 := wrapI (by omega) (by omega)
 have wh : ((n : Int) - 1).tdiv 2 = h0 := hh0.symm
 have wh2 : IntKind.i64.wrap h0 = h0 := wrapI (by omega) (by omega)
 have Hn := Lib.hid hn
 have hfn : a + n ≤ xs0.length := by omega
 clear hn hh0
 have wh0 := hh1.1
 go_enter Tryz.func139, Tryz.ntmps139
 go_wp2
 go_loopw [11] (fun vi wr => Sw W0 113 g o cap xs0 wr ∧ ∃ i : Int, vi = .int .i64 i ∧ -1 ≤ i ∧ i ≤ n) (fun vi _ => (intOf vi + 1).toNat)
 case atStart => exact ⟨hS, h0, rfl, hh1.1, hh1.2⟩
 case round =>
  obtain ⟨hSr, i, rfl, hi1, hi2⟩ := hrel
  by_cases hi0 : 0 ≤ i
  ·obtain ⟨m, rfl⟩ := Int.eq_ofNat_of_zero_le hi0
   have hc := sift_any W0 p g o cap xs0 hcmp m n a wr hSr hl hfn (by omega)
   clear hSr hS
   go_wp2_with (first | (go_at_call 158; refine hc.mono ?_; rintro e Wc ⟨⟨v, rfl⟩, hSc⟩))
   go_roundw
   case rel => exact ⟨hSc, (m : Int) - 1, by go_num, by omega, by omega⟩
   case measure => simp [intOf]
  ·clear hS hi1 wh wh2
   go_wp2
   go_loopw [12] (fun vi wr => Sw W0 113 g o cap xs0 wr ∧ ∃ i : Int, vi = .int .i64 i ∧ -1 ≤ i ∧ i ≤ n - 1) (fun vi _ => (intOf vi + 1).toNat)
   case atStart => exact ⟨hSr, (n : Int) - 1, by go_num, by omega, by omega⟩
   case round =>
    obtain ⟨hSr, j, rfl, hj1, hj2⟩ := hrel
    by_cases hj0 : 0 ≤ j
    ·obtain ⟨m, rfl⟩ := Int.eq_ofNat_of_zero_le hj0
     obtain ⟨ij, hij⟩ : ∃ i : Nat, i = a + m := ⟨_, rfl⟩
     have wij : IntKind.i64.wrap ((a : Int) + (m : Int)) = (ij : Int) := by rw [wrapI (by omega) (by omega)]; omega
     have q1 : a < xs0.length := by omega
     have q2 : ij < xs0.length := by omega
     have z1 : (a : Int) < (xs0.length : Int) := by omega
     have z2 : (ij : Int) < (xs0.length : Int) := by omega
     have Hc := Lib.hid (fun (W : World) (h : Sw W0 113 g o cap xs0 W) => (sift_any W0 p g o cap xs0 hcmp 0 m a W h hl (by omega) (by omega) : Calls Tryz.prog 158 #[.slice (some ⟨g, o, none⟩) xs0.length cap, .int .i64 0, .int .i64 m, .int .i64 a, .func (.func 97) #[p] #[]] W _))
     have Hj := Lib.hid (⟨hj1, hj2⟩ : _ ∧ _)
     have hmb : m ≤ 1000000 := by omega
     clear hij hj1 hj2 hfn
     obtain ⟨hg, cur, xs, hR, hp⟩ := hSr
     have hlen := hp.length_eq
     have hix : a < xs.length := by omega
     have hjx : ij < xs.length := by omega
     have hi2 := hR.at_ hix
     have hj2 := hR.at_ hjx
     obtain ⟨x, hx⟩ : ∃ x, xs[a] = x := ⟨_, rfl⟩
     obtain ⟨y, hy⟩ : ∃ y, xs[ij] = y := ⟨_, rfl⟩
     rw [hx] at hi2; rw [hy] at hj2
     have f1 := hR.lt2 hix; have f2 := hR.lt2 hjx
     have hB := hR.blk
     have Hput : Hid (∀ W1 W2, Blk W1 g 113 (putAt cur (o + (a) * 2) [.int .i64 y.1, .int .i64 y.2]) → wr.grownBy W1 (some g) → Blk W2 g 113 (putAt (putAt cur (o + (a) * 2) [.int .i64 y.1, .int .i64 y.2]) (o + (ij) * 2) [.int .i64 x.1, .int .i64 x.2]) → W1.grownBy W2 (some g) → Sw W0 113 g o cap xs0 W2) := Lib.hid (by intro W1 W2 h1 h2 h3 h4; subst hx hy; exact Sw.put2 hg hR hp hix hjx h1 h2 h3 h4)
     have hmA : True := trivial
     go_wp2
     have hBd := hB.d; have hi2d := hi2.d; have hj2d := hj2.d
     refine wp_rt (.take 0 (.take 1 (.take 2 (.take 3 (.take 4 (.take 5 (.take 6 (.take 7 (.take 8 (.take 9 (.take 10 (.take 12 (.take 13 (.take 14 (.two 11 (.one 15 (.take 16 (.one 17 (.take 18 (.one 19 .nil))))) 15 (.one 11 (.take 16 (.one 17 (.take 18 (.one 19 .nil)))))))))))))))))))) (fun w' => True) ?_ (fun hHeld => ?_)
     ·exact True.intro
     repeat' first | ((with_reducible refine t_tk ?_); (refine tk (v := ?_) ?_ hHeld ?_; rotate_left; (· (intro wq hSw; (try dsimp only at hSw); go_simp; (try with_reducible rfl))); (try simp only [pS]))) | ((with_reducible refine t_on ?_); refine t_one (by simp only [gS]; rfl) ?_) | ((with_reducible refine t_tw ?_); refine t_two (by simp only [gS]; rfl) (by simp only [gS]; rfl) ?_ ?_) | ((with_reducible refine q_gd (d := some 47) ?_); (((with_reducible refine q_load (d := some 47) (hl := ld_stand hj2d) ?_ ?_); rfl))) | ((with_reducible refine q_gd (d := some 51) ?_); (((with_reducible refine q_load (d := some 51) (hl := ld_stand hi2d) ?_ ?_); rfl))) | ((with_reducible refine q_gd (d := none) ?_); ((first | ((with_reducible refine q_store (t := 113) (e := 113) (g := g) (off := o + ij * 2) (n := 2) (v := .agg #[.int .i64 x.1, .int .i64 x.2]) ?_ ?_ hB1 sizeStand ?_ ?_ ?_ ?_); rfl; rfl; rfl; (rw [size_putAt (by exact f1)]; exact f2); (simp [Value.cells, Value.oneCell']); intro W2 hB2 hg2) | ((with_reducible refine q_store (t := 113) (e := 113) (g := g) (off := o + a * 2) (n := 2) (v := .agg #[.int .i64 y.1, .int .i64 y.2]) ?_ ?_ hBd sizeStand ?_ ?_ ?_ ?_); rfl; rfl; rfl; exact f1; (simp [Value.cells, Value.oneCell']); intro W1 hB1 hg1; replace hg1 := grown_undrew hg1)))) | ((with_reducible refine q_nl ?_); clear hHeld; refine t_next ?_ (fun hHeld => ?_); (· exact True.intro); (try simp only [pS])) | (with_reducible refine t_done ?_)
     all_goals
      have hSw := Hput.out _ _ hB1 hg1 hB2 hg2
      have hc := Hc.out _ hSw
      clear hB1 hB2 hg1 hg2 Hput hSw
      go_wp2_with (first | (go_at_call 158; refine hc.mono ?_; rintro e Wc ⟨⟨v, rfl⟩, hSc⟩))
      go_roundw
      case rel => exact ⟨hSc, (m : Int) - 1, by go_num, by omega, by have := Hj.out; omega⟩
      case measure => simp [intOf]
    ·go_wp2
     go_end0
     exact ⟨⟨_, rfl⟩, hSr⟩
end Go.St
end
