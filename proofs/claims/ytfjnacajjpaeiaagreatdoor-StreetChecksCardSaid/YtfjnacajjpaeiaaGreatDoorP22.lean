/- Chapter 03: contracts of functions of the program and of the reference, and plain laws (out of Held5 Held6 Held7 SA6 SA5 SA4 SA3 SA2 SA1). No condition of its own. -/
import Derived.BigQuiet
import Derived.Deep.AppendLies
import Derived.Deep.Draws
import Derived.Deep.LoopGhost
import Derived.Deep.QuietTactic
import Derived.Deep.RegionHeld3
import Derived.Defers
import Derived.Laws.CopyOwn
import Derived.Laws.RangeAny
import Derived.Laws.StructEq
import Derived.Lib.AtoiAll
import Derived.Lib.Hide
import Derived.Lib.IndexAny
import Derived.Lib.IndexLaws
import Derived.Lib.ItoaMem
import Derived.Lib.OthersKept
import Derived.Lib.SliceRun
import Derived.Lib.Split
import Derived.Lib.Tables
import Derived.LoopIn
import Derived.MapKept
import Derived.Maps.AppendAt
import Derived.OrdersHeld
import Derived.OrdersIn
import Derived.RangeFuncBound
import Derived.RangeFuncLeaves
import Derived.RangeFuncNested
import Derived.Recover
import Derived.Shelf.Abstract
import Derived.Shelf.LaysC
import Derived.Shelf.LaysM
import Derived.Shelf.Small.Strs
import Derived.Shelf.Small.Utf8
import Derived.Shelf.Small.Wraps
import Derived.Shelf.Strconv.Atoi
import Derived.Shelf.Strconv.AtoiAll
import Derived.Shelf.Strconv.AtoiErrFast
import Derived.Shelf.Strconv.AtoiFail
import Derived.Shelf.Strconv.AtoiInnerAll
import Derived.Shelf.Strconv.AtoiLong
import Derived.Shelf.Strconv.Clone
import Derived.Shelf.Strconv.Itoa0
import Derived.Shelf.Strconv.Itoa1
import Derived.Shelf.Strconv.Itoa2
import Derived.Shelf.Strconv.Itoa3
import Derived.Shelf.Strconv.Lower
import Derived.Shelf.Strconv.ParseInt10
import Derived.Shelf.Strconv.ParseIntEmpty
import Derived.Shelf.Strconv.ParseUint10
import Derived.Shelf.Strconv.ParseUint10Any
import Derived.Shelf.Strconv.ParseUint10Empty
import Derived.Shelf.Strconv.RangeError
import Derived.Shelf.Strconv.SyntaxError
import Derived.Shelf.Strconv.ToError
import Derived.Shelf.Strconv.ToErrorRange
import Derived.Shelf.Strings.AsciiSet
import Derived.Shelf.Strings.Builder1
import Derived.Shelf.Strings.BuilderF
import Derived.Shelf.Strings.BuilderK
import Derived.Shelf.Strings.Cut
import Derived.Shelf.Strings.IndexAny
import Derived.Shelf.Strings.IndexAnyAll
import Derived.Shelf.Strings.Runes
import Derived.Shelf.Strings.Search1
import Derived.Shelf.Strings.Search2
import Derived.Shelf.Strings.Shaped
import Derived.TacticsIn
import Derived.Test.YtfjnacajjpaeiaaGreatDoorProg
import Derived.WalkKit
import Derived.WalkLawsBesides
import Derived.WalkMore
import Derived.WalkSpells
import Derived.Test.YtfjnacajjpaeiaaGreatDoorP01
import Derived.Test.YtfjnacajjpaeiaaGreatDoorP02
import Derived.Test.YtfjnacajjpaeiaaGreatDoorP03
import Derived.Test.YtfjnacajjpaeiaaGreatDoorP04
import Derived.Test.YtfjnacajjpaeiaaGreatDoorP05
import Derived.Test.YtfjnacajjpaeiaaGreatDoorP06
import Derived.Test.YtfjnacajjpaeiaaGreatDoorP07
import Derived.Test.YtfjnacajjpaeiaaGreatDoorP08
import Derived.Test.YtfjnacajjpaeiaaGreatDoorP09
import Derived.Test.YtfjnacajjpaeiaaGreatDoorP13
import Derived.Test.YtfjnacajjpaeiaaGreatDoorP14
import Derived.Test.YtfjnacajjpaeiaaGreatDoorP15
import Derived.Test.YtfjnacajjpaeiaaGreatDoorP16
import Derived.Test.YtfjnacajjpaeiaaGreatDoorP17
import Derived.Test.YtfjnacajjpaeiaaGreatDoorP18
import Derived.Test.YtfjnacajjpaeiaaGreatDoorP19
import Derived.Test.YtfjnacajjpaeiaaGreatDoorP20
import Derived.Test.YtfjnacajjpaeiaaGreatDoorP21
set_option maxRecDepth 100000
set_option linter.all false
section
namespace Go.Bp
open Go.RowKit Go.Proofs
inductive OTree4 where
  | nil
  | take (i : Nat) (r : OTree4)
  | one (i : Nat) (r : OTree4)
  | two (i : Nat) (r : OTree4) (j : Nat) (s : OTree4)
  | three (i : Nat) (r : OTree4) (j : Nat) (s : OTree4) (k : Nat) (u : OTree4)
  | four (i : Nat) (r : OTree4) (j : Nat) (s : OTree4) (k : Nat) (u : OTree4) (m : Nat) (v : OTree4)
def OTree4.depth : OTree4 → Nat
  | .nil => 0
  | .take _ r => r.depth + 1
  | .one _ r => r.depth + 1
  | .two _ r _ s => max r.depth s.depth + 1
  | .three _ r _ s _ u => max (max r.depth s.depth) u.depth + 1
  | .four _ r _ s _ u _ v => max (max (max r.depth s.depth) u.depth) v.depth + 1
section
variable {P : Program} {md : Region.Mode} {ops : Array Oper} {Q : Exit → Act → World → Prop} {S : World → Prop}
def okTree4 (md : Region.Mode) (ops : Array Oper) : OTree4 → Array Bool → Bool
  | .nil, l => (Region.ready md ops l).isEmpty
  | .take i r, l => Region.free md ops l i && (Region.ready md ops l).contains i && okTree4 md ops r (l.setIfInBounds i true)
  | .one i r, l => (Region.ready md ops l == [i]) && okTree4 md ops r (l.setIfInBounds i true)
  | .two i r j s, l => (Region.ready md ops l == [i, j]) && okTree4 md ops r (l.setIfInBounds i true) && okTree4 md ops s (l.setIfInBounds j true)
  | .three i r j s k u, l => (Region.ready md ops l == [i, j, k]) && okTree4 md ops r (l.setIfInBounds i true) && okTree4 md ops s (l.setIfInBounds j true) && okTree4 md ops u (l.setIfInBounds k true)
  | .four i r j s k u m v, l => (Region.ready md ops l == [i, j, k, m]) && okTree4 md ops r (l.setIfInBounds i true) && okTree4 md ops s (l.setIfInBounds j true) && okTree4 md ops u (l.setIfInBounds k true) && okTree4 md ops v (l.setIfInBounds m true)
def wpTree4 (P : Program) (ops : Array Oper) (Q : Exit → Act → World → Prop) (S : World → Prop) : OTree4 → Act → World → Prop
  | .nil, a, w => Q .normal a w
  | .take i r, a, w => ∃ oi v, ops[i]? = some oi ∧ YieldsIf P ops S oi v a ∧ S w ∧ wpTree4 P ops Q S r (a.put oi.dst v) w
  | .one i r, a, w => wpOp P ops Q i (fun a' w' => S w' ∧ wpTree4 P ops Q S r a' w') a w
  | .two i r j s, a, w => wpOp P ops Q i (fun a' w' => S w' ∧ wpTree4 P ops Q S r a' w') a w ∧ wpOp P ops Q j (fun a' w' => S w' ∧ wpTree4 P ops Q S s a' w') a w
  | .three i r j s k u, a, w => wpOp P ops Q i (fun a' w' => S w' ∧ wpTree4 P ops Q S r a' w') a w ∧ wpOp P ops Q j (fun a' w' => S w' ∧ wpTree4 P ops Q S s a' w') a w ∧ wpOp P ops Q k (fun a' w' => S w' ∧ wpTree4 P ops Q S u a' w') a w
  | .four i r j s k u m v, a, w => wpOp P ops Q i (fun a' w' => S w' ∧ wpTree4 P ops Q S r a' w') a w ∧ wpOp P ops Q j (fun a' w' => S w' ∧ wpTree4 P ops Q S s a' w') a w ∧ wpOp P ops Q k (fun a' w' => S w' ∧ wpTree4 P ops Q S u a' w') a w ∧ wpOp P ops Q m (fun a' w' => S w' ∧ wpTree4 P ops Q S v a' w') a w
theorem wpAnyH_of_tree4 (hs : Region.noSelect ops = true) (hQ : ∀ c (a : Act) (d : Tmp) (v : Value) (w : World), Q (.panic c) (a.put (some d) v) w → Q (.panic c) a w) :
    ∀ (t : OTree4) (l : Array Bool) (fuel : Nat) (a : Act) (w : World), t.depth ≤ fuel → okTree4 md ops t l = true → wpTree4 P ops Q S t a w → wpAnyH P md ops Q S fuel l a w
  | .nil, l, fuel, a, w, _, hok, h => wpAnyH_done (by simpa [okTree4] using hok) h fuel
  | .take i r, l, 0, a, w, hf, _, _ => by simp [OTree4.depth] at hf
  | .one i r, l, 0, a, w, hf, _, _ => by simp [OTree4.depth] at hf
  | .two i r j s, l, 0, a, w, hf, _, _ => by simp [OTree4.depth] at hf
  | .three i r j s k u, l, 0, a, w, hf, _, _ => by simp [OTree4.depth] at hf
  | .four i r j s k u m v, l, 0, a, w, hf, _, _ => by simp [OTree4.depth] at hf
  | .take i r, l, fuel + 1, a, w, hf, hok, h => by
    obtain ⟨oi, v, ho, hy, hS, h⟩ := h
    simp only [okTree4, Bool.and_eq_true] at hok
    exact wpAnyH_take ho hs hok.1.1 hok.1.2 (fun c a w h => put_any hQ c a oi.dst v w h) hy hS (wpAnyH_of_tree4 hs hQ r _ fuel _ _ (by simpa [OTree4.depth] using hf) hok.2 h)
  | .one i r, l, fuel + 1, a, w, hf, hok, h => by
    simp only [okTree4, Bool.and_eq_true, beq_iff_eq] at hok
    refine wpAnyH_all hok.1 (by simp) fun j hj => ?_
    obtain rfl : j = i := by simpa using hj
    exact wpOp_mono (fun a' w' h' => ⟨h'.1, wpAnyH_of_tree4 hs hQ r _ fuel _ _ (by simpa [OTree4.depth] using hf) hok.2 h'.2⟩) h
  | .two i r j s, l, fuel + 1, a, w, hf, hok, h => by
    simp only [okTree4, Bool.and_eq_true, beq_iff_eq] at hok
    obtain ⟨h1, h2⟩ := h
    have hd : r.depth ≤ fuel ∧ s.depth ≤ fuel := by simp only [OTree4.depth] at hf; omega
    refine wpAnyH_all hok.1.1 (by simp) fun k hk => ?_
    have hk : k = i ∨ k = j := by simpa using hk
    rcases hk with rfl | rfl
    · exact wpOp_mono (fun a' w' h' => ⟨h'.1, wpAnyH_of_tree4 hs hQ r _ fuel _ _ hd.1 hok.1.2 h'.2⟩) h1
    · exact wpOp_mono (fun a' w' h' => ⟨h'.1, wpAnyH_of_tree4 hs hQ s _ fuel _ _ hd.2 hok.2 h'.2⟩) h2
  | .three i r j s k u, l, fuel + 1, a, w, hf, hok, h => by
    simp only [okTree4, Bool.and_eq_true, beq_iff_eq] at hok
    obtain ⟨h1, h2, h3⟩ := h
    have hd : r.depth ≤ fuel ∧ s.depth ≤ fuel ∧ u.depth ≤ fuel := by simp only [OTree4.depth] at hf; omega
    refine wpAnyH_all hok.1.1.1 (by simp) fun z hz => ?_
    have hz : z = i ∨ z = j ∨ z = k := by simpa using hz
    rcases hz with rfl | rfl | rfl
    · exact wpOp_mono (fun a' w' h' => ⟨h'.1, wpAnyH_of_tree4 hs hQ r _ fuel _ _ hd.1 hok.1.1.2 h'.2⟩) h1
    · exact wpOp_mono (fun a' w' h' => ⟨h'.1, wpAnyH_of_tree4 hs hQ s _ fuel _ _ hd.2.1 hok.1.2 h'.2⟩) h2
    · exact wpOp_mono (fun a' w' h' => ⟨h'.1, wpAnyH_of_tree4 hs hQ u _ fuel _ _ hd.2.2 hok.2 h'.2⟩) h3
  | .four i r j s k u m v, l, fuel + 1, a, w, hf, hok, h => by
    simp only [okTree4, Bool.and_eq_true, beq_iff_eq] at hok
    obtain ⟨h1, h2, h3, h4⟩ := h
    have hd : r.depth ≤ fuel ∧ s.depth ≤ fuel ∧ u.depth ≤ fuel ∧ v.depth ≤ fuel := by simp only [OTree4.depth] at hf; omega
    refine wpAnyH_all hok.1.1.1.1 (by simp) fun z hz => ?_
    have hz : z = i ∨ z = j ∨ z = k ∨ z = m := by simpa using hz
    rcases hz with rfl | rfl | rfl | rfl
    · exact wpOp_mono (fun a' w' h' => ⟨h'.1, wpAnyH_of_tree4 hs hQ r _ fuel _ _ hd.1 hok.1.1.1.2 h'.2⟩) h1
    · exact wpOp_mono (fun a' w' h' => ⟨h'.1, wpAnyH_of_tree4 hs hQ s _ fuel _ _ hd.2.1 hok.1.1.2 h'.2⟩) h2
    · exact wpOp_mono (fun a' w' h' => ⟨h'.1, wpAnyH_of_tree4 hs hQ u _ fuel _ _ hd.2.2.1 hok.1.2 h'.2⟩) h3
    · exact wpOp_mono (fun a' w' h' => ⟨h'.1, wpAnyH_of_tree4 hs hQ v _ fuel _ _ hd.2.2.2 hok.2 h'.2⟩) h4
theorem wp_region_tree4 {id : Nat} {a : Act} {w : World} (t : OTree4) (S : World → Prop) (hm : P.follows .mixedOrders = true)
    (hs : Region.noSelect ops = true) (hf : Nat.ble t.depth ops.size = true) (hok : okTree4 .any ops t (Array.replicate ops.size false) = true)
    (hQ : ∀ c (a : Act) (d : Tmp) (v : Value) (w : World), Q (.panic c) (a.put (some d) v) w → Q (.panic c) a w)
    (hS : S w.drew) (h : S w.drew → wpTree4 P ops Q S t a w.drew) : (Code.region id ops true).wp P Q a w :=
  wp_region_held_drew (S := S) hm hS fun hS => wpAnyH_of_tree4 hs hQ t _ _ _ _ (Nat.le_of_ble_eq_true hf) hok (h hS)
variable {i j k m : Nat} {r s u v : OTree4} {o : Oper} {a : Act} {w : World}
theorem t4_done (h : Q .normal a w) : wpTree4 P ops Q S .nil a w := h
theorem t4_take {v : Value} (ho : ops[i]? = some o) (hg : o.guard = none) (hy : ∀ w, S w → (execOp a.eval o).run P w = .ok (.value v) w) (hS : S w)
    (k : wpTree4 P ops Q S r (a.put o.dst v) w) : wpTree4 P ops Q S (.take i r) a w :=
  ⟨o, v, ho, .inl ⟨by simp [Region.wanted, hg], hy⟩, hS, k⟩
theorem t4_takeW {v : Value} (ho : ops[i]? = some o) (hw : Region.wanted o (yielded ops a.tmps) = true) (hy : ∀ w, S w → (execOp a.eval o).run P w = .ok (.value v) w) (hS : S w)
    (k : wpTree4 P ops Q S r (a.put o.dst v) w) : wpTree4 P ops Q S (.take i r) a w :=
  ⟨o, v, ho, .inl ⟨hw, hy⟩, hS, k⟩
def thenTree4 (P : Program) (ops : Array Oper) (Q : Exit → Act → World → Prop) (S : World → Prop) (r : OTree4) : Exit → Act → World → Prop
  | .normal, a, w => S w ∧ wpTree4 P ops Q S r a w
  | e, a, w => Q e a w
theorem upon_thenT4 {next : Act → World → Prop} {x : Result Next} (h : o.upon P a next (thenTree4 P ops Q S r) x) : o.upon P a next Q x := by
  cases x with
  | ok n w' =>
    cases n with
    | enter f args => exact Calls.mono h fun e w'' he => by cases e <;> exact he
    | _ => exact h
  | halt x w' =>
    cases x <;> exact h
theorem wpOp_list4 (ho : ops[i]? = some o) (h : wpList P ops (thenTree4 P ops Q S r) [o] a w) : wpOp P ops Q i (fun a' w' => S w' ∧ wpTree4 P ops Q S r a' w') a w := by
  unfold wpOp
  simp only [ho]
  unfold wpList at h
  split
  · rename_i hw
    rw [if_pos hw] at h
    rcases h with h | ⟨h1, ⟨a2, w2, h2⟩⟩
    · exact .inl (upon_thenT4 h)
    · exact .inr ⟨h1, ⟨a2, w2, h2⟩⟩
  · rename_i hw
    rw [if_neg hw] at h
    exact h
theorem t4_one (ho : ops[i]? = some o) (h : wpList P ops (thenTree4 P ops Q S r) [o] a w) : wpTree4 P ops Q S (.one i r) a w := wpOp_list4 ho h
theorem t4_two {o' : Oper} (ho : ops[i]? = some o) (ho' : ops[j]? = some o') (h : wpList P ops (thenTree4 P ops Q S r) [o] a w) (h' : wpList P ops (thenTree4 P ops Q S s) [o'] a w) : wpTree4 P ops Q S (.two i r j s) a w :=
  ⟨wpOp_list4 ho h, wpOp_list4 ho' h'⟩
theorem t4_three {o' o'' : Oper} (ho : ops[i]? = some o) (ho' : ops[j]? = some o') (ho'' : ops[k]? = some o'') (h : wpList P ops (thenTree4 P ops Q S r) [o] a w) (h' : wpList P ops (thenTree4 P ops Q S s) [o'] a w) (h'' : wpList P ops (thenTree4 P ops Q S u) [o''] a w) : wpTree4 P ops Q S (.three i r j s k u) a w :=
  ⟨wpOp_list4 ho h, wpOp_list4 ho' h', wpOp_list4 ho'' h''⟩
theorem t4_four {o' o'' o3 : Oper} (ho : ops[i]? = some o) (ho' : ops[j]? = some o') (ho'' : ops[k]? = some o'') (ho3 : ops[m]? = some o3) (h : wpList P ops (thenTree4 P ops Q S r) [o] a w) (h' : wpList P ops (thenTree4 P ops Q S s) [o'] a w) (h'' : wpList P ops (thenTree4 P ops Q S u) [o''] a w) (h3 : wpList P ops (thenTree4 P ops Q S v) [o3] a w) : wpTree4 P ops Q S (.four i r j s k u m v) a w :=
  ⟨wpOp_list4 ho h, wpOp_list4 ho' h', wpOp_list4 ho'' h'', wpOp_list4 ho3 h3⟩
theorem t4_next (hS : S w) (k : S w → wpTree4 P ops Q S r a w) : wpList P ops (thenTree4 P ops Q S r) [] a w := ⟨hS, k hS⟩
end
section
variable {P : Program} {ops : Array Oper} {Q : Exit → Act → World → Prop} {S : World → Prop} {a : Act} {w : World} {rest l : List Oper} {r : OTree4}
theorem t4_tk {i : Nat} (h : wpTree4 P ops Q S (.take i r) a w) : wpTree4 P ops Q S (.take i r) a w := h
theorem t4_on {i : Nat} (h : wpTree4 P ops Q S (.one i r) a w) : wpTree4 P ops Q S (.one i r) a w := h
theorem t4_tw {i j : Nat} {s : OTree4} (h : wpTree4 P ops Q S (.two i r j s) a w) : wpTree4 P ops Q S (.two i r j s) a w := h
theorem t4_th {i j k : Nat} {s u : OTree4} (h : wpTree4 P ops Q S (.three i r j s k u) a w) : wpTree4 P ops Q S (.three i r j s k u) a w := h
theorem t4_fo {i j k m : Nat} {s u v : OTree4} (h : wpTree4 P ops Q S (.four i r j s k u m v) a w) : wpTree4 P ops Q S (.four i r j s k u m v) a w := h
end
section
variable {P : Program} {ops : Array Oper} {Q : Exit → Act → World → Prop} {S : World → Prop} {a : Act} {w : World} {rest l : List Oper} {r : OTree4}
theorem t4k {i : Nat} {o : Oper} {v : Value} (hy : ∀ w, S w → (execOp a.eval o).run P w = .ok (.value v) w) (hS : S w) (k : wpTree4 P ops Q S r (a.put o.dst v) w) (ho : ops[i]? = some o := by simp only [gS]; rfl) (hg : o.guard = none := by rfl) : wpTree4 P ops Q S (.take i r) a w := t4_take ho hg hy hS k
theorem t4w {i : Nat} {o : Oper} {v : Value} (hy : ∀ w, S w → (execOp a.eval o).run P w = .ok (.value v) w) (hS : S w) (k : wpTree4 P ops Q S r (a.put o.dst v) w) (ho : ops[i]? = some o := by simp only [gS]; rfl) (hw : Region.wanted o (yielded ops a.tmps) = true := by rfl) : wpTree4 P ops Q S (.take i r) a w := t4_takeW ho hw hy hS k
end
end Go.Bp
end
section
namespace Go.Bp
open Go.RowKit Go.Proofs
def OTree4.graft : OTree4 → OTree4 → OTree4
  | .nil, u => u
  | .take i r, u => .take i (r.graft u)
  | .one i r, u => .one i (r.graft u)
  | .two i r j s, u => .two i (r.graft u) j (s.graft u)
  | .three i r j s k v, u => .three i (r.graft u) j (s.graft u) k (v.graft u)
  | .four i r j s k v m z, u => .four i (r.graft u) j (s.graft u) k (v.graft u) m (z.graft u)
section
variable {P : Program} {ops : Array Oper} {Q Q' : Exit → Act → World → Prop} {S : World → Prop} {a : Act} {w : World}
theorem wpOp_thenQ {i : Nat} {K : Act → World → Prop} {u : OTree4} (h : wpOp P ops (thenTree4 P ops Q S u) i K a w) : wpOp P ops Q i K a w := by
  unfold wpOp at h ⊢
  cases ho : ops[i]? with
  | none => simp only [ho] at h ⊢; exact h
  | some o =>
    simp only [ho] at h ⊢
    split
    · rename_i hw
      rw [if_pos hw] at h
      rcases h with h | ⟨h1, ⟨a2, w2, h2⟩⟩
      · exact .inl (upon_thenT4 h)
      · exact .inr ⟨h1, ⟨a2, w2, h2⟩⟩
    · rename_i hw
      rw [if_neg hw] at h
      exact h
theorem graft_of {u : OTree4} : ∀ {t : OTree4} {a : Act} {w : World}, wpTree4 P ops (thenTree4 P ops Q S u) S t a w → wpTree4 P ops Q S (t.graft u) a w
  | .nil, a, w, h => h.2
  | .take i r, a, w, h => by
    obtain ⟨oi, v, h1, h2, h3, h4⟩ := h
    exact ⟨oi, v, h1, h2, h3, graft_of h4⟩
  | .one i r, a, w, h => wpOp_mono (fun a' w' h' => ⟨h'.1, graft_of h'.2⟩) (wpOp_thenQ h)
  | .two i r j s, a, w, h => ⟨wpOp_mono (fun a' w' h' => ⟨h'.1, graft_of h'.2⟩) (wpOp_thenQ h.1), wpOp_mono (fun a' w' h' => ⟨h'.1, graft_of h'.2⟩) (wpOp_thenQ h.2)⟩
  | .three i r j s k v, a, w, h => ⟨wpOp_mono (fun a' w' h' => ⟨h'.1, graft_of h'.2⟩) (wpOp_thenQ h.1), wpOp_mono (fun a' w' h' => ⟨h'.1, graft_of h'.2⟩) (wpOp_thenQ h.2.1), wpOp_mono (fun a' w' h' => ⟨h'.1, graft_of h'.2⟩) (wpOp_thenQ h.2.2)⟩
  | .four i r j s k v m z, a, w, h => ⟨wpOp_mono (fun a' w' h' => ⟨h'.1, graft_of h'.2⟩) (wpOp_thenQ h.1), wpOp_mono (fun a' w' h' => ⟨h'.1, graft_of h'.2⟩) (wpOp_thenQ h.2.1), wpOp_mono (fun a' w' h' => ⟨h'.1, graft_of h'.2⟩) (wpOp_thenQ h.2.2.1), wpOp_mono (fun a' w' h' => ⟨h'.1, graft_of h'.2⟩) (wpOp_thenQ h.2.2.2)⟩
end
end Go.Bp
end
section
namespace Go.Bp
open Go.RowKit Go.Proofs
def okPart4 (md : Region.Mode) (ops : Array Oper) (L : Array Bool) : OTree4 → Array Bool → Bool
  | .nil, l => l == L
  | .take i r, l => Region.free md ops l i && (Region.ready md ops l).contains i && okPart4 md ops L r (l.setIfInBounds i true)
  | .one i r, l => (Region.ready md ops l == [i]) && okPart4 md ops L r (l.setIfInBounds i true)
  | .two i r j s, l => (Region.ready md ops l == [i, j]) && okPart4 md ops L r (l.setIfInBounds i true) && okPart4 md ops L s (l.setIfInBounds j true)
  | .three i r j s k u, l => (Region.ready md ops l == [i, j, k]) && okPart4 md ops L r (l.setIfInBounds i true) && okPart4 md ops L s (l.setIfInBounds j true) && okPart4 md ops L u (l.setIfInBounds k true)
  | .four i r j s k u m v, l => (Region.ready md ops l == [i, j, k, m]) && okPart4 md ops L r (l.setIfInBounds i true) && okPart4 md ops L s (l.setIfInBounds j true) && okPart4 md ops L u (l.setIfInBounds k true) && okPart4 md ops L v (l.setIfInBounds m true)
theorem okTree4_graft {md : Region.Mode} {ops : Array Oper} {L : Array Bool} {z : OTree4} (hz : okTree4 md ops z L = true) : ∀ (t : OTree4) (l : Array Bool), okPart4 md ops L t l = true → okTree4 md ops (t.graft z) l = true
  | .nil, l, h => by
    have e : l = L := by simpa [okPart4] using h
    subst e; exact hz
  | .take i r, l, h => by
    simp only [okPart4, OTree4.graft, okTree4, Bool.and_eq_true] at h ⊢
    exact ⟨h.1, okTree4_graft hz r _ h.2⟩
  | .one i r, l, h => by
    simp only [okPart4, OTree4.graft, okTree4, Bool.and_eq_true] at h ⊢
    exact ⟨h.1, okTree4_graft hz r _ h.2⟩
  | .two i r j s, l, h => by
    simp only [okPart4, OTree4.graft, okTree4, Bool.and_eq_true] at h ⊢
    exact ⟨⟨h.1.1, okTree4_graft hz r _ h.1.2⟩, okTree4_graft hz s _ h.2⟩
  | .three i r j s k u, l, h => by
    simp only [okPart4, OTree4.graft, okTree4, Bool.and_eq_true] at h ⊢
    exact ⟨⟨⟨h.1.1.1, okTree4_graft hz r _ h.1.1.2⟩, okTree4_graft hz s _ h.1.2⟩, okTree4_graft hz u _ h.2⟩
  | .four i r j s k u m v, l, h => by
    simp only [okPart4, OTree4.graft, okTree4, Bool.and_eq_true] at h ⊢
    exact ⟨⟨⟨⟨h.1.1.1.1, okTree4_graft hz r _ h.1.1.1.2⟩, okTree4_graft hz s _ h.1.1.2⟩, okTree4_graft hz u _ h.1.2⟩, okTree4_graft hz v _ h.2⟩
theorem depth_graft (z : OTree4) : ∀ t : OTree4, (t.graft z).depth ≤ t.depth + z.depth
  | .nil => by simp [OTree4.graft, OTree4.depth]
  | .take i r => by have := depth_graft z r; simp only [OTree4.graft, OTree4.depth]; omega
  | .one i r => by have := depth_graft z r; simp only [OTree4.graft, OTree4.depth]; omega
  | .two i r j s => by have := depth_graft z r; have := depth_graft z s; simp only [OTree4.graft, OTree4.depth]; omega
  | .three i r j s k u => by have := depth_graft z r; have := depth_graft z s; have := depth_graft z u; simp only [OTree4.graft, OTree4.depth]; omega
  | .four i r j s k u m v => by have := depth_graft z r; have := depth_graft z s; have := depth_graft z u; have := depth_graft z v; simp only [OTree4.graft, OTree4.depth]; omega
def okTop (md : Region.Mode) (ops : Array Oper) : OTree4 → Array Bool → Bool
  | .take i r, l => Region.free md ops l i && (Region.ready md ops l).contains i && okTop md ops r (l.setIfInBounds i true)
  | .one i r, l => (Region.ready md ops l == [i]) && okTop md ops r (l.setIfInBounds i true)
  | .four i _ j _ k _ m _, l => Region.ready md ops l == [i, j, k, m]
  | _, _ => false
def okSub (md : Region.Mode) (ops : Array Oper) (L : Array Bool) (n : Nat) : OTree4 → Array Bool → Bool
  | .take i r, l => okSub md ops L n r (l.setIfInBounds i true)
  | .one i r, l => okSub md ops L n r (l.setIfInBounds i true)
  | .four i r j s k u m v, l => if n = 0 then okPart4 md ops L r (l.setIfInBounds i true) else if n = 1 then okPart4 md ops L s (l.setIfInBounds j true) else if n = 2 then okPart4 md ops L u (l.setIfInBounds k true) else okPart4 md ops L v (l.setIfInBounds m true)
  | _, _ => false
theorem okPart4_of {md : Region.Mode} {ops : Array Oper} {L : Array Bool} : ∀ (t : OTree4) (l : Array Bool), okTop md ops t l = true → okSub md ops L 0 t l = true → okSub md ops L 1 t l = true → okSub md ops L 2 t l = true → okSub md ops L 3 t l = true → okPart4 md ops L t l = true
  | .nil, l, h, _, _, _, _ => by simp [okTop] at h
  | .take i r, l, h, h0, h1, h2, h3 => by
    simp only [okTop, okPart4, Bool.and_eq_true] at h ⊢
    exact ⟨h.1, okPart4_of r _ h.2 h0 h1 h2 h3⟩
  | .one i r, l, h, h0, h1, h2, h3 => by
    simp only [okTop, okPart4, Bool.and_eq_true] at h ⊢
    exact ⟨h.1, okPart4_of r _ h.2 h0 h1 h2 h3⟩
  | .two i r j s, l, h, _, _, _, _ => by simp [okTop] at h
  | .three i r j s k u, l, h, _, _, _, _ => by simp [okTop] at h
  | .four i r j s k u m v, l, h, h0, h1, h2, h3 => by
    simp only [okPart4, Bool.and_eq_true]
    exact ⟨⟨⟨⟨h, h0⟩, h1⟩, h2⟩, h3⟩
end Go.Bp
end
section
def Go.Code.findR (n : Nat) : Go.Code → Option (Array Go.Oper)
 | .region id ops _ => if id = n then some ops else none
 | .seq a b => (a.findR n).orElse fun _ => b.findR n
 | .cond _ a b => (a.findR n).orElse fun _ => b.findR n
 | .block _ b => b.findR n
 | .loop b => b.findR n
 | .scope b => b.findR n
 | .rangeFunc _ _ a b => (a.findR n).orElse fun _ => b.findR n
 | _ => none
namespace Go.St
open Go Go.Bp Go.RowKit Go.Proofs
theorem ints_blk3 {w : World} {g : Nat} {a b c : Int} (h : Blk w g 3 #[.int .i64 a, .int .i64 b, .int .i64 c]) : Ints w (.slice (some ⟨g, 0, none⟩) 3 3) [a, b, c] := ints_blk (xs := [a, b, c]) h (by simp)
theorem ints_blk4 {w : World} {g : Nat} {a b c d : Int} (h : Blk w g 3 #[.int .i64 a, .int .i64 b, .int .i64 c, .int .i64 d]) : Ints w (.slice (some ⟨g, 0, none⟩) 4 4) [a, b, c, d] := ints_blk (xs := [a, b, c, d]) h (by simp)
section
variable {w : World}
theorem bsI3 (a b c : Int) : (Instr.buildSlice 41 3 #[(0, .int .i64 a), (1, .int .i64 b), (2, .int .i64 c)]).run Tryz.prog w = .ok (.slice (some ⟨w.heap.size, 0, none⟩) 3 3) (w.alloc (.cells #[.int .i64 a, .int .i64 b, .int .i64 c] 3)) := by kernel_rfl
theorem bsI4 (a b c d : Int) : (Instr.buildSlice 41 4 #[(0, .int .i64 a), (1, .int .i64 b), (2, .int .i64 c), (3, .int .i64 d)]).run Tryz.prog w = .ok (.slice (some ⟨w.heap.size, 0, none⟩) 4 4) (w.alloc (.cells #[.int .i64 a, .int .i64 b, .int .i64 c, .int .i64 d] 3)) := by kernel_rfl
theorem bsR4 (p q r s : Nat) : (Instr.buildSlice 47 4 #[(0, .slice (some ⟨p, 0, none⟩) 4 4), (1, .slice (some ⟨q, 0, none⟩) 4 4), (2, .slice (some ⟨r, 0, none⟩) 4 4), (3, .slice (some ⟨s, 0, none⟩) 4 4)]).run Tryz.prog w = .ok (.slice (some ⟨w.heap.size, 0, none⟩) 4 4) (w.alloc (.cells #[.slice (some ⟨p, 0, none⟩) 4 4, .slice (some ⟨q, 0, none⟩) 4 4, .slice (some ⟨r, 0, none⟩) 4 4, .slice (some ⟨s, 0, none⟩) 4 4] 41)) := by kernel_rfl
theorem bsS3 (a b c : Int) (x y z : Bool) : (Instr.buildSlice 32 3 #[(0, .agg #[.int .i64 a, .bool x]), (1, .agg #[.int .i64 b, .bool y]), (2, .agg #[.int .i64 c, .bool z])]).run Tryz.prog w = .ok (.slice (some ⟨w.heap.size, 0, none⟩) 3 3) (w.alloc (.cells #[.int .i64 a, .bool x, .int .i64 b, .bool y, .int .i64 c, .bool z] 82)) := by kernel_rfl
end
section
variable {ops : Array Oper} {Q : Exit → Act → World → Prop} {a : Act} {w : World} {rest : List Oper}
variable {d : Option Tmp} {ty : TypeId} {pos : String} {after : Array Edge}
theorem q_bl3 {x y z : Operand} {n0 n1 n2 : Int} (hx : a.eval x = .int .i64 n0) (hy : a.eval y = .int .i64 n1) (hz : a.eval z = .int .i64 n2)
  (k : ∀ W g, Ext w W → Blk W g 3 #[.int .i64 n0, .int .i64 n1, .int .i64 n2] → w.heap.size ≤ g → wpList Tryz.prog ops Q rest (a.put d (.slice (some ⟨g, 0, none⟩) 3 3)) W) :
  wpList Tryz.prog ops Q (⟨d, .buildSlice 41 3 #[(0, x), (1, y), (2, z)], ty, pos, after, none⟩ :: rest) a w := q_bslice (by have := bsI3 (w := w) n0 n1 n2; simpa [hx, hy, hz] using this) k
end
theorem rows_blk4 {w : World} {g : Nat} {a b c d : Value} {x y z u : List Int} (h : Blk w g 41 #[a, b, c, d]) (h1 : Ints w a x) (h2 : Ints w b y) (h3 : Ints w c z) (h4 : Ints w d u) : Rows w (.slice (some ⟨g, 0, none⟩) 4 4) [x, y, z, u] := by
 refine ⟨[a, b, c, d], rfl, ⟨_, _, rfl, Nat.le_refl _, by unfold maxLen; decide, rfl, fun _ => ⟨_, rfl, h.cells⟩⟩, fun i hi hi' => ?_⟩
 simp only [List.length_cons, List.length_nil] at hi
 match i, hi with
 | 0, _ => exact h1
 | 1, _ => exact h2
 | 2, _ => exact h3
 | 3, _ => exact h4
theorem ld_spanT {w : World} {g : Nat} {a b c d e : Value} (h : Blk w g 36 #[a, b, c, d, e]) : (loadVar 34 ⟨g, 2, none⟩).run Tryz.prog w = .ok (.agg #[c, d]) w := by
 obtain ⟨i, hi, hs⟩ := size_of sizeSpan2
 have h2 := h.cells.sub 2 (cs' := [c, d]) (by intro j u hu; rcases j with _ | _ | j <;> simp_all)
 refine load_struct Tryz.underlying34 hi hs (fun j u hu => h2 j u ?_)
 rcases j with _ | _ | j <;> simp_all
structure AwR (W : World) (g1 g4 g8 : Nat) (A1 A4 A8 : Option Addr) (c1 c4 c8 : Nat) (rv rl : Value) : Prop where
 B1 : Blk W g1 36 #[.slice A1 3 c1, .int .i64 1400, .int .i64 5, .int .i64 7, .int .i64 3]
 B4 : Blk W g4 36 #[.slice A4 2 c4, .int .i64 1000, .int .i64 3, .int .i64 6, .int .i64 1]
 B8 : Blk W g8 36 #[.slice A8 3 c8, .int .i64 1200, .int .i64 4, .int .i64 9, .int .i64 3]
 S4 : Steps W (.slice A4 2 c4) [⟨2, false⟩, ⟨3, false⟩]
 S8 : Steps W (.slice A8 3 c8) [⟨2, false⟩, ⟨1, true⟩, ⟨0, true⟩]
 R : Rows W rv exRows
 L : Steps W rl exTour
def AwT0 : OTree4 := (.take 0 (.take 1 (.take 2 (.take 3 (.take 4 (.take 5 (.take 6 (.take 7 (.take 8 (.take 9 (.take 10 (.take 11 (.take 12 (.take 13 (.take 14 (.take 15 (.take 16 (.take 17 (.take 18 (.take 19 (.take 20 (.take 21 (.take 22 (.take 23 (.take 24 (.take 25 (.take 26 (.take 27 (.take 28 (.take 29 (.take 30 (.take 31 (.take 32 (.take 33 (.take 34 (.take 35 (.take 36 (.take 37 (.one 38 (.take 39 (.take 40 (.take 41 (.take 42 (.take 43 (.take 44 (.take 45 (.take 46 (.take 47 (.take 48 (.take 49 (.take 50 (.take 51 (.take 52 (.one 53 (.one 54 (.one 55 .nil))))))))))))))))))))))))))))))))))))))))))))))))))))))))
def AwT1 : OTree4 := (.take 56 (.take 57 (.take 58 (.take 59 (.take 60 (.take 61 (.take 62 (.take 63 (.take 64 (.take 65 (.take 66 (.take 67 (.one 68 (.one 69 .nil))))))))))))))
def AwT2 : OTree4 := (.take 70 (.take 71 (.take 72 (.take 73 (.take 74 (.take 75 (.take 76 (.take 77 (.four 78 (.three 79 (.two 80 (.one 81 .nil) 81 (.one 80 .nil)) 80 (.two 79 (.one 81 .nil) 81 (.one 79 .nil)) 81 (.two 79 (.one 80 .nil) 80 (.one 79 .nil))) 79 (.three 78 (.two 80 (.one 81 .nil) 81 (.one 80 .nil)) 80 (.two 78 (.one 81 .nil) 81 (.one 78 .nil)) 81 (.two 78 (.one 80 .nil) 80 (.one 78 .nil))) 80 (.three 78 (.two 79 (.one 81 .nil) 81 (.one 79 .nil)) 79 (.two 78 (.one 81 .nil) 81 (.one 78 .nil)) 81 (.two 78 (.one 79 .nil) 79 (.one 78 .nil))) 81 (.three 78 (.two 79 (.one 80 .nil) 80 (.one 79 .nil)) 79 (.two 78 (.one 80 .nil) 80 (.one 78 .nil)) 80 (.two 78 (.one 79 .nil) 79 (.one 78 .nil))))))))))))
def AwT3 : OTree4 := (.one 82 (.one 83 (.take 84 (.take 85 (.take 86 (.take 87 (.take 88 (.take 89 (.take 90 (.take 91 (.take 92 (.take 93 (.one 94 (.one 95 (.take 96 (.take 97 .nil))))))))))))))))
def AwTL1 : Array Bool := #[true, true, true, true, true, true, true, true, true, true, true, true, true, true, true, true, true, true, true, true, true, true, true, true, true, true, true, true, true, true, true, true, true, true, true, true, true, true, true, true, true, true, true, true, true, true, true, true, true, true, true, true, true, true, true, true, false, false, false, false, false, false, false, false, false, false, false, false, false, false, false, false, false, false, false, false, false, false, false, false, false, false, false, false, false, false, false, false, false, false, false, false, false, false, false, false, false, false]
def AwTL2 : Array Bool := #[true, true, true, true, true, true, true, true, true, true, true, true, true, true, true, true, true, true, true, true, true, true, true, true, true, true, true, true, true, true, true, true, true, true, true, true, true, true, true, true, true, true, true, true, true, true, true, true, true, true, true, true, true, true, true, true, true, true, true, true, true, true, true, true, true, true, true, true, true, true, false, false, false, false, false, false, false, false, false, false, false, false, false, false, false, false, false, false, false, false, false, false, false, false, false, false, false, false]
def AwTL3 : Array Bool := #[true, true, true, true, true, true, true, true, true, true, true, true, true, true, true, true, true, true, true, true, true, true, true, true, true, true, true, true, true, true, true, true, true, true, true, true, true, true, true, true, true, true, true, true, true, true, true, true, true, true, true, true, true, true, true, true, true, true, true, true, true, true, true, true, true, true, true, true, true, true, true, true, true, true, true, true, true, true, true, true, true, true, false, false, false, false, false, false, false, false, false, false, false, false, false, false, false, false]
theorem awOk0 : ((Tryz.f19.body.bind (Code.findR 9)).all fun ops => okPart4 .any ops AwTL1 AwT0 (Array.replicate ops.size false)) = true := by kernel_rfl
theorem awOk1 : ((Tryz.f19.body.bind (Code.findR 9)).all fun ops => okPart4 .any ops AwTL2 AwT1 AwTL1) = true := by kernel_rfl
theorem awOk2 : ((Tryz.f19.body.bind (Code.findR 9)).all fun ops => okTop .any ops AwT2 AwTL2) = true := by kernel_rfl
theorem awOk2a : ((Tryz.f19.body.bind (Code.findR 9)).all fun ops => okSub .any ops AwTL3 0 AwT2 AwTL2) = true := by kernel_rfl
theorem awOk2b : ((Tryz.f19.body.bind (Code.findR 9)).all fun ops => okSub .any ops AwTL3 1 AwT2 AwTL2) = true := by kernel_rfl
theorem awOk2c : ((Tryz.f19.body.bind (Code.findR 9)).all fun ops => okSub .any ops AwTL3 2 AwT2 AwTL2) = true := by kernel_rfl
theorem awOk2d : ((Tryz.f19.body.bind (Code.findR 9)).all fun ops => okSub .any ops AwTL3 3 AwT2 AwTL2) = true := by kernel_rfl
theorem awOk3 : ((Tryz.f19.body.bind (Code.findR 9)).all fun ops => okTree4 .any ops AwT3 AwTL3) = true := by kernel_rfl
theorem awOk4 : ((Tryz.f19.body.bind (Code.findR 9)).all fun ops => Region.noSelect ops && Nat.ble (AwT0.depth + (AwT1.depth + (AwT2.depth + AwT3.depth))) ops.size) = true := by kernel_rfl
theorem aw_ok {ops : Array Oper} (h : Tryz.f19.body.bind (Code.findR 9) = some ops) : Region.noSelect ops = true ∧ Nat.ble (AwT0.graft (AwT1.graft (AwT2.graft AwT3))).depth ops.size = true ∧ okTree4 .any ops (AwT0.graft (AwT1.graft (AwT2.graft AwT3))) (Array.replicate ops.size false) = true := by
 have e0 := awOk0; have e1 := awOk1; have e2 := awOk2; have e3 := awOk3; have e4 := awOk4
 have ea := awOk2a; have eb := awOk2b; have ec := awOk2c; have ed := awOk2d
 rw [h, Option.all_some] at e0 e1 e2 e3 e4 ea eb ec ed
 rw [Bool.and_eq_true] at e4
 refine ⟨e4.1, ?_, okTree4_graft (okTree4_graft (okTree4_graft e3 _ _ (okPart4_of _ _ e2 ea eb ec ed)) _ _ e1) _ _ e0⟩
 have h1 := depth_graft AwT3 AwT2; have h2 := depth_graft (AwT2.graft AwT3) AwT1; have h3 := depth_graft (AwT1.graft (AwT2.graft AwT3)) AwT0
 have h4 := Nat.le_of_ble_eq_true e4.2
 exact Nat.ble_eq_true_of_le (by omega)
end Go.St
end
section
namespace Go.St
open Go Go.Bp Go.RowKit Go.Proofs
set_option maxHeartbeats 8000000 in
theorem awP3 {ops : Array Oper} {Q : Exit → Act → World → Prop} {Wz w : World} {g1 g4 g8 : Nat} {A1 A4 A8 : Option Addr} {c1 c4 c8 : Nat} {rv rl : Value} {g151 g152 g153 g154 : Nat} {x0 x1 x2 x3 x4 x5 x6 x7 x8 x9 x11 x13 x15 x16 x18 x19 x20 x21 x22 x23 x24 x25 x26 x27 x28 x29 x30 x31 x32 x33 x34 x35 x36 x37 x38 x39 x40 x41 x42 x43 x44 x45 x46 x47 x48 x49 x50 x51 x52 x53 x54 x55 x56 x57 x58 x59 x60 x61 x62 x63 x64 x65 x66 x67 x68 x69 x70 x71 x72 x73 x74 x75 x76 x77 x78 x79 x80 x81 x82 x83 x84 x85 x86 x87 x88 x89 x90 x91 x92 x93 x94 x95 x96 x97 x98 x99 x100 x101 x102 x103 x104 x105 x106 x107 x108 x109 x110 x111 x112 x113 x114 x115 x116 x117 x118 x119 x120 x121 x122 x123 x124 x125 x126 x127 x128 x129 x130 x131 x132 x133 x134 x135 x136 x137 x138 x139 x140 x141 x142 x143 x144 x145 x146 x147 x148 x155 x156 x157 x158 x159 x160 x161 x162 x163 x164 x165 x166 x167 x168 x169 : Value} (hops : Tryz.f19.body.bind (Code.findR 9) = some ops) (H : AwR Wz g1 g4 g8 A1 A4 A8 c1 c4 c8 rv rl) (hX : Ext Wz w) (hI151 : Ints w (.slice (some ⟨g151, 0, none⟩) 4 4) [0, 1000, -1, -1]) (hI152 : Ints w (.slice (some ⟨g152, 0, none⟩) 4 4) [300, 1100, -1, -1]) (hI153 : Ints w (.slice (some ⟨g153, 0, none⟩) 4 4) [600, 600, -1, -1]) (hI154 : Ints w (.slice (some ⟨g154, 0, none⟩) 4 4) [-1, -1, -1, -1]) (K : ∀ (l : List Value) w', Ext Wz w' → Q .normal ⟨(.bool true :: l).toArray, []⟩ w') : wpTree4 Tryz.prog ops Q (fun w' => Ext Wz w') (AwT3) ⟨#[x0, x1, x2, x3, x4, x5, x6, x7, x8, x9, rv, x11, .bool true, x13, .string (S exText), x15, x16, rl, x18, x19, x20, x21, x22, x23, x24, x25, x26, x27, x28, x29, x30, x31, x32, x33, x34, x35, x36, x37, x38, x39, x40, x41, x42, x43, x44, x45, x46, x47, x48, x49, x50, x51, x52, x53, x54, x55, x56, x57, x58, x59, x60, x61, x62, x63, x64, x65, x66, x67, x68, x69, x70, x71, x72, x73, x74, x75, x76, x77, x78, x79, x80, x81, x82, x83, x84, x85, x86, x87, x88, x89, x90, x91, x92, x93, x94, x95, x96, x97, x98, x99, x100, x101, x102, x103, x104, x105, x106, x107, x108, x109, x110, x111, x112, x113, x114, x115, x116, x117, x118, x119, x120, x121, x122, x123, x124, x125, x126, x127, x128, x129, x130, x131, x132, x133, x134, x135, x136, x137, x138, x139, x140, x141, x142, x143, x144, x145, x146, x147, x148, .bool true, rv, .slice (some ⟨g151, 0, none⟩) 4 4, .slice (some ⟨g152, 0, none⟩) 4 4, .slice (some ⟨g153, 0, none⟩) 4 4, .slice (some ⟨g154, 0, none⟩) 4 4, x155, x156, x157, x158, x159, x160, x161, x162, x163, x164, x165, x166, x167, x168, x169], []⟩ w := by
 conv at hops => lhs; whnf
 injection hops with hops
 subst hops
 have hst : (S exText).toList = [104, 111, 109, 101, 45, 48, 46, 104, 105, 108, 108, 61, 48, 46, 104, 111, 109, 101, 45, 50, 46, 114, 105, 110, 103] := by rw [ByteArray.toList_eq]; rfl
 have hRw := H.R
 have hRl := H.L
 have HLr := Lib.hid (show ∀ v u W, Steps W v exTour → Steps W u exTour → Calls Tryz.prog 34 #[v, u] W (RetB W true) from fun v u W h h' => by have := RLists_any v u _ _ W h h'; rwa [show decide (exTour = exTour) = true by simp] at this)
 have HTb := Lib.hid (show ∀ v u W, Rows W v exRows → Rows W u [[0, 1000, -1, -1], [300, 1100, -1, -1], [600, 600, -1, -1], [-1, -1, -1, -1]] → Calls Tryz.prog 27 #[v, u] W (RetB W true) from fun v u W h h' => by have := RTables_any v u _ _ W h h'; rwa [show decide (exRows = [[0, 1000, -1, -1], [300, 1100, -1, -1], [600, 600, -1, -1], [-1, -1, -1, -1]]) = true by decide] at this)
 have hHeld := hX
 delta AwT3
 repeat' first | ((with_reducible refine t4_tk ?_); first | ((with_reducible refine t4_tk (i := 90) ?_); refine t4w (v := .bool true) ?_ hHeld ?_; (· (intro wq hSw; go_simp; first | done | exact hst)); (try simp only [pS])) | (refine t4k (v := ?_) ?_ hHeld ?_; rotate_left; (· (intro wq hSw; (try dsimp only at hSw); go_simp; (try with_reducible rfl))); (try simp only [pS])) | (refine t4w (v := ?_) ?_ hHeld ?_; rotate_left; (· (intro wq hSw; (try dsimp only at hSw); go_simp; (try with_reducible rfl))); (try simp only [pS]))) | ((with_reducible refine t4_on ?_); refine t4_one (by simp only [gS]; rfl) ?_) | ((with_reducible refine q_gd (d := some 155) ?_); ((refine q_bsliceG (by rfl) (e := 41) (cs := #[.slice (some ⟨g151, 0, none⟩) 4 4, .slice (some ⟨g152, 0, none⟩) 4 4, .slice (some ⟨g153, 0, none⟩) 4 4, .slice (some ⟨g154, 0, none⟩) 4 4]) ?_ ?_; (simp [Act.eval]; exact bsR4 _ _ _ _); intro W155 g155 hE155 hB155 hg155; have hR155 := rows_blk4 hB155 (hI151.ext hE155) (hI152.ext hE155) (hI153.ext hE155) (hI154.ext hE155); replace hX := hX.trans hE155))) | ((with_reducible refine q_gd (d := some 156) ?_); ((refine q_callG (by rfl) (HTb.out _ _ _ (hRw.ext hX) hR155) (by go_simp) ?_; rintro e W156 ⟨rfl, hE156⟩; refine ⟨_, rfl, ?_⟩; replace hX := hX.trans hE156))) | ((with_reducible refine q_gd (d := some 167) ?_); ((refine q_callG (by rfl) (Tour_any _) (by go_simp) ?_; rintro e W167 ⟨tl2, rfl, hT2, hE167⟩; refine ⟨_, rfl, ?_⟩; replace hX := hX.trans hE167))) | ((with_reducible refine q_gd (d := some 168) ?_); ((refine q_callG (by rfl) (HLr.out _ _ _ (hRl.ext hX) hT2) (by go_simp) ?_; rintro e W168 ⟨rfl, hE168⟩; refine ⟨_, rfl, ?_⟩; replace hX := hX.trans hE168))) | ((with_reducible refine q_nl ?_); clear hHeld; refine t4_next ?_ (fun hHeld => ?_); (· assumption); (try simp only [pS])) | (with_reducible refine t4_done ?_)
 (exact K _ _ hX)
end Go.St
end
section
namespace Go.St
open Go Go.Bp Go.RowKit Go.Proofs
set_option maxHeartbeats 8000000 in
theorem awP2 {ops : Array Oper} {Q : Exit → Act → World → Prop} {Wz w : World} {g1 g4 g8 : Nat} {A1 A4 A8 : Option Addr} {c1 c4 c8 : Nat} {rv rl : Value}  {x0 x1 x2 x3 x4 x5 x6 x7 x9 x11 x13 x15 x16 x18 x19 x20 x21 x22 x23 x24 x25 x26 x27 x28 x29 x30 x31 x32 x33 x34 x35 x36 x37 x38 x39 x40 x41 x42 x43 x44 x45 x46 x47 x48 x49 x50 x51 x52 x53 x54 x55 x56 x57 x58 x59 x60 x61 x62 x63 x64 x65 x66 x67 x68 x69 x70 x71 x72 x73 x74 x75 x76 x77 x78 x79 x80 x81 x82 x83 x84 x85 x86 x87 x88 x89 x90 x91 x92 x93 x94 x95 x96 x97 x98 x99 x100 x101 x102 x103 x104 x105 x106 x107 x108 x109 x110 x111 x112 x113 x114 x115 x116 x117 x118 x119 x120 x121 x122 x123 x124 x125 x126 x127 x128 x129 x130 x131 x132 x133 x134 x136 x137 x138 x139 x140 x141 x143 x144 x145 x146 x147 x148 x149 x150 x151 x152 x153 x154 x155 x156 x157 x158 x159 x160 x161 x162 x163 x164 x165 x166 x167 x168 x169 : Value} (hops : Tryz.f19.body.bind (Code.findR 9) = some ops) (H : AwR Wz g1 g4 g8 A1 A4 A8 c1 c4 c8 rv rl) (hX : Ext Wz w)  (K : ∀ (l : List Value) w', Ext Wz w' → Q .normal ⟨(.bool true :: l).toArray, []⟩ w') : wpTree4 Tryz.prog ops Q (fun w' => Ext Wz w') (AwT2.graft AwT3) ⟨#[x0, x1, x2, x3, x4, x5, x6, x7, .pointer (some ⟨g8, 0, none⟩), x9, rv, x11, .bool true, x13, .string (S exText), x15, x16, rl, x18, x19, x20, x21, x22, x23, x24, x25, x26, x27, x28, x29, x30, x31, x32, x33, x34, x35, x36, x37, x38, x39, x40, x41, x42, x43, x44, x45, x46, x47, x48, x49, x50, x51, x52, x53, x54, x55, x56, x57, x58, x59, x60, x61, x62, x63, x64, x65, x66, x67, x68, x69, x70, x71, x72, x73, x74, x75, x76, x77, x78, x79, x80, x81, x82, x83, x84, x85, x86, x87, x88, x89, x90, x91, x92, x93, x94, x95, x96, x97, x98, x99, x100, x101, x102, x103, x104, x105, x106, x107, x108, x109, x110, x111, x112, x113, x114, x115, x116, x117, x118, x119, x120, x121, x122, x123, x124, x125, x126, x127, x128, x129, x130, x131, x132, x133, x134, .bool true, x136, x137, x138, x139, x140, x141, .bool true, x143, x144, x145, x146, x147, x148, x149, x150, x151, x152, x153, x154, x155, x156, x157, x158, x159, x160, x161, x162, x163, x164, x165, x166, x167, x168, x169], []⟩ w := by
 conv at hops => lhs; whnf
 injection hops with hops
 subst hops
 have hb8_1 := H.B8.cell 1
 simp at hb8_1
 refine graft_of ?_
 have hHeld := hX
 delta AwT2
 repeat' first | ((with_reducible refine t4_tk ?_); first | ((with_reducible refine t4_tk (i := 73) ?_); refine t4w (v := .int .i64 1200) ?_ hHeld ?_; (· exact run_ld (by rfl) (fun W h => load_one Tryz.underlying3 rfl (Ext.cell_some h hb8_1))); (try simp only [pS])) | (refine t4k (v := ?_) ?_ hHeld ?_; rotate_left; (· (intro wq hSw; (try dsimp only at hSw); go_simp; (try with_reducible rfl))); (try simp only [pS])) | (refine t4w (v := ?_) ?_ hHeld ?_; rotate_left; (· (intro wq hSw; (try dsimp only at hSw); go_simp; (try with_reducible rfl))); (try simp only [pS]))) | ((with_reducible refine t4_on ?_); refine t4_one (by simp only [gS]; rfl) ?_) | ((with_reducible refine t4_tw ?_); refine t4_two (by simp only [gS]; rfl) (by simp only [gS]; rfl) ?_ ?_) | ((with_reducible refine t4_th ?_); refine t4_three (by simp only [gS]; rfl) (by simp only [gS]; rfl) (by simp only [gS]; rfl) ?_ ?_ ?_) | ((with_reducible refine t4_fo ?_); refine t4_four (by simp only [gS]; rfl) (by simp only [gS]; rfl) (by simp only [gS]; rfl) (by simp only [gS]; rfl) ?_ ?_ ?_ ?_) | ((with_reducible refine q_gd (d := some 151) ?_); ((refine q_bsliceG (by rfl) (e := 3) (cs := #[.int .i64 0, .int .i64 1000, .int .i64 (-1), .int .i64 (-1)]) ?_ ?_; (simp [Act.eval]; exact bsI4 _ _ _ _); intro W151 g151 hE151 hB151 hg151; have hI151 := ints_blk4 hB151; (try replace hI152 := hI152.ext hE151); (try replace hI153 := hI153.ext hE151); (try replace hI154 := hI154.ext hE151); replace hX := hX.trans hE151))) | ((with_reducible refine q_gd (d := some 152) ?_); ((refine q_bsliceG (by rfl) (e := 3) (cs := #[.int .i64 300, .int .i64 1100, .int .i64 (-1), .int .i64 (-1)]) ?_ ?_; (simp [Act.eval]; exact bsI4 _ _ _ _); intro W152 g152 hE152 hB152 hg152; have hI152 := ints_blk4 hB152; (try replace hI151 := hI151.ext hE152); (try replace hI153 := hI153.ext hE152); (try replace hI154 := hI154.ext hE152); replace hX := hX.trans hE152))) | ((with_reducible refine q_gd (d := some 153) ?_); ((refine q_bsliceG (by rfl) (e := 3) (cs := #[.int .i64 600, .int .i64 600, .int .i64 (-1), .int .i64 (-1)]) ?_ ?_; (simp [Act.eval]; exact bsI4 _ _ _ _); intro W153 g153 hE153 hB153 hg153; have hI153 := ints_blk4 hB153; (try replace hI151 := hI151.ext hE153); (try replace hI152 := hI152.ext hE153); (try replace hI154 := hI154.ext hE153); replace hX := hX.trans hE153))) | ((with_reducible refine q_gd (d := some 154) ?_); ((refine q_bsliceG (by rfl) (e := 3) (cs := #[.int .i64 (-1), .int .i64 (-1), .int .i64 (-1), .int .i64 (-1)]) ?_ ?_; (simp [Act.eval]; exact bsI4 _ _ _ _); intro W154 g154 hE154 hB154 hg154; have hI154 := ints_blk4 hB154; (try replace hI151 := hI151.ext hE154); (try replace hI152 := hI152.ext hE154); (try replace hI153 := hI153.ext hE154); replace hX := hX.trans hE154))) | ((with_reducible refine q_nl ?_); clear hHeld; refine t4_next ?_ (fun hHeld => ?_); (· assumption); (try simp only [pS])) | (with_reducible refine t4_done ?_)
 all_goals (exact ⟨hHeld, awP3 rfl H hX hI151 hI152 hI153 hI154 K⟩)
end Go.St
end
section
namespace Go.St
open Go Go.Bp Go.RowKit Go.Proofs
set_option maxHeartbeats 8000000 in
theorem awP1 {ops : Array Oper} {Q : Exit → Act → World → Prop} {Wz w : World} {g1 g4 g8 : Nat} {A1 A4 A8 : Option Addr} {c1 c4 c8 : Nat} {rv rl : Value}  {x0 x1 x2 x3 x5 x6 x7 x9 x11 x13 x15 x16 x18 x19 x20 x21 x22 x23 x24 x25 x26 x27 x28 x29 x30 x31 x32 x33 x34 x35 x36 x37 x38 x39 x40 x41 x42 x43 x44 x45 x46 x47 x48 x49 x50 x51 x52 x53 x54 x55 x56 x57 x58 x59 x60 x61 x62 x63 x64 x65 x66 x67 x68 x69 x70 x71 x72 x73 x74 x75 x76 x77 x78 x79 x80 x81 x82 x83 x84 x85 x86 x87 x88 x89 x90 x91 x92 x93 x94 x95 x96 x97 x98 x99 x100 x101 x102 x103 x104 x105 x106 x107 x108 x109 x110 x111 x112 x113 x114 x115 x116 x117 x118 x119 x120 x121 x122 x124 x125 x126 x127 x129 x130 x131 x132 x133 x134 x135 x136 x137 x138 x139 x140 x141 x142 x143 x144 x145 x146 x147 x148 x149 x150 x151 x152 x153 x154 x155 x156 x157 x158 x159 x160 x161 x162 x163 x164 x165 x166 x167 x168 x169 : Value} (hops : Tryz.f19.body.bind (Code.findR 9) = some ops) (H : AwR Wz g1 g4 g8 A1 A4 A8 c1 c4 c8 rv rl) (hX : Ext Wz w)  (K : ∀ (l : List Value) w', Ext Wz w' → Q .normal ⟨(.bool true :: l).toArray, []⟩ w') : wpTree4 Tryz.prog ops Q (fun w' => Ext Wz w') (AwT1.graft (AwT2.graft AwT3)) ⟨#[x0, x1, x2, x3, .pointer (some ⟨g4, 0, none⟩), x5, x6, x7, .pointer (some ⟨g8, 0, none⟩), x9, rv, x11, .bool true, x13, .string (S exText), x15, x16, rl, x18, x19, x20, x21, x22, x23, x24, x25, x26, x27, x28, x29, x30, x31, x32, x33, x34, x35, x36, x37, x38, x39, x40, x41, x42, x43, x44, x45, x46, x47, x48, x49, x50, x51, x52, x53, x54, x55, x56, x57, x58, x59, x60, x61, x62, x63, x64, x65, x66, x67, x68, x69, x70, x71, x72, x73, x74, x75, x76, x77, x78, x79, x80, x81, x82, x83, x84, x85, x86, x87, x88, x89, x90, x91, x92, x93, x94, x95, x96, x97, x98, x99, x100, x101, x102, x103, x104, x105, x106, x107, x108, x109, x110, x111, x112, x113, x114, x115, x116, x117, x118, x119, x120, x121, x122, .bool true, x124, x125, x126, x127, .bool true, x129, x130, x131, x132, x133, x134, x135, x136, x137, x138, x139, x140, x141, x142, x143, x144, x145, x146, x147, x148, x149, x150, x151, x152, x153, x154, x155, x156, x157, x158, x159, x160, x161, x162, x163, x164, x165, x166, x167, x168, x169], []⟩ w := by
 conv at hops => lhs; whnf
 injection hops with hops
 subst hops
 have hb4_1 := H.B4.cell 1
 simp at hb4_1
 have hb8_0 := H.B8.cell 0
 simp at hb8_0
 have HL8 := Lib.hid (show ∀ v u W, Steps W v [⟨2, false⟩, ⟨1, true⟩, ⟨0, true⟩] → Steps W u [⟨2, false⟩, ⟨1, true⟩, ⟨0, true⟩] → Calls Tryz.prog 34 #[v, u] W (RetB W true) from fun v u W h h' => by have := RLists_any v u _ _ W h h'; rwa [show decide (([⟨2, false⟩, ⟨1, true⟩, ⟨0, true⟩] : List Step) = [⟨2, false⟩, ⟨1, true⟩, ⟨0, true⟩]) = true by decide] at this)
 have hS8 := H.S8
 refine graft_of ?_
 have hHeld := hX
 delta AwT1
 repeat' first | ((with_reducible refine t4_tk ?_); first | ((with_reducible refine t4_tk (i := 59) ?_); refine t4w (v := .int .i64 1000) ?_ hHeld ?_; (· exact run_ld (by rfl) (fun W h => load_one Tryz.underlying3 rfl (Ext.cell_some h hb4_1))); (try simp only [pS])) | ((with_reducible refine t4_tk (i := 64) ?_); refine t4w (v := .slice A8 3 c8) ?_ hHeld ?_; (· exact run_ld (by rfl) (fun W h => load_one Tryz.underlying32 rfl (Ext.cell_some h hb8_0))); (try simp only [pS])) | ((with_reducible refine t4_tk (i := 65) ?_); refine t4w (v := .agg #[.int .i64 2, .bool false]) ?_ hHeld ?_; (· (intro wq hSw; go_simp; try rfl)); (try simp only [pS])) | ((with_reducible refine t4_tk (i := 66) ?_); refine t4w (v := .agg #[.int .i64 1, .bool true]) ?_ hHeld ?_; (· (intro wq hSw; go_simp; try rfl)); (try simp only [pS])) | ((with_reducible refine t4_tk (i := 67) ?_); refine t4w (v := .agg #[.int .i64 0, .bool true]) ?_ hHeld ?_; (· (intro wq hSw; go_simp; try rfl)); (try simp only [pS])) | (refine t4k (v := ?_) ?_ hHeld ?_; rotate_left; (· (intro wq hSw; (try dsimp only at hSw); go_simp; (try with_reducible rfl))); (try simp only [pS])) | (refine t4w (v := ?_) ?_ hHeld ?_; rotate_left; (· (intro wq hSw; (try dsimp only at hSw); go_simp; (try with_reducible rfl))); (try simp only [pS]))) | ((with_reducible refine t4_on ?_); refine t4_one (by simp only [gS]; rfl) ?_) | ((with_reducible refine q_gd (d := some 141) ?_); ((refine q_bsliceG (by rfl) (e := 82) (cs := #[.int .i64 2, .bool false, .int .i64 1, .bool true, .int .i64 0, .bool true]) ?_ ?_; (simp [Act.eval]; exact bsS3 _ _ _ _ _ _); intro W141 g141 hE141 hB141 hg141; have hL141 := steps_blk (xs := [⟨2, false⟩, ⟨1, true⟩, ⟨0, true⟩]) hB141 (by decide); replace hX := hX.trans hE141))) | ((with_reducible refine q_gd (d := some 142) ?_); ((refine q_callG (by rfl) (HL8.out _ _ _ (hS8.ext hX) hL141) (by go_simp) ?_; rintro e W142 ⟨rfl, hE142⟩; refine ⟨_, rfl, ?_⟩; replace hX := hX.trans hE142))) | ((with_reducible refine q_nl ?_); clear hHeld; refine t4_next ?_ (fun hHeld => ?_); (· assumption); (try simp only [pS])) | (with_reducible refine t4_done ?_)
 exact ⟨hHeld, awP2 rfl H hX K⟩
end Go.St
end
section
namespace Go.St
open Go Go.Bp Go.RowKit Go.Proofs
set_option maxHeartbeats 8000000 in
theorem awP0 {ops : Array Oper} {Q : Exit → Act → World → Prop} {Wz w : World} {g1 g4 g8 : Nat} {A1 A4 A8 : Option Addr} {c1 c4 c8 : Nat} {rv rl : Value}  {x0 x6 x16 x19 x20 x21 x22 x23 x24 x25 x26 x27 x28 x29 x30 x31 x32 x33 x34 x35 x36 x37 x38 x39 x40 x41 x42 x43 x44 x45 x46 x47 x48 x49 x50 x51 x52 x53 x54 x55 x56 x57 x58 x59 x60 x61 x62 x63 x64 x65 x66 x67 x68 x69 x70 x71 x72 x73 x74 x75 x76 x77 x78 x79 x80 x81 x82 x83 x84 x85 x86 x87 x88 x89 x90 x91 x92 x93 x94 x95 x96 x97 x98 x99 x100 x101 x102 x103 x104 x105 x106 x107 x108 x109 x110 x111 x112 x113 x114 x115 x116 x117 x118 x119 x120 x121 x122 x123 x124 x125 x126 x127 x128 x129 x130 x131 x132 x133 x134 x135 x136 x137 x138 x139 x140 x141 x142 x143 x144 x145 x146 x147 x148 x149 x150 x151 x152 x153 x154 x155 x156 x157 x158 x159 x160 x161 x162 x163 x164 x165 x166 x167 x168 x169 : Value} (hops : Tryz.f19.body.bind (Code.findR 9) = some ops) (H : AwR Wz g1 g4 g8 A1 A4 A8 c1 c4 c8 rv rl) (hX : Ext Wz w)  (K : ∀ (l : List Value) w', Ext Wz w' → Q .normal ⟨(.bool true :: l).toArray, []⟩ w') : wpTree4 Tryz.prog ops Q (fun w' => Ext Wz w') (AwT0.graft (AwT1.graft (AwT2.graft AwT3))) ⟨#[x0, .pointer (some ⟨g1, 0, none⟩), .int .i64 0, .int .i64 0, .pointer (some ⟨g4, 0, none⟩), .int .i64 0, x6, .int .i64 9, .pointer (some ⟨g8, 0, none⟩), .int .i64 0, rv, .int .i64 0, .bool true, .int .i64 0, .string (S exText), .int .i64 0, x16, rl, .int .i64 0, x19, x20, x21, x22, x23, x24, x25, x26, x27, x28, x29, x30, x31, x32, x33, x34, x35, x36, x37, x38, x39, x40, x41, x42, x43, x44, x45, x46, x47, x48, x49, x50, x51, x52, x53, x54, x55, x56, x57, x58, x59, x60, x61, x62, x63, x64, x65, x66, x67, x68, x69, x70, x71, x72, x73, x74, x75, x76, x77, x78, x79, x80, x81, x82, x83, x84, x85, x86, x87, x88, x89, x90, x91, x92, x93, x94, x95, x96, x97, x98, x99, x100, x101, x102, x103, x104, x105, x106, x107, x108, x109, x110, x111, x112, x113, x114, x115, x116, x117, x118, x119, x120, x121, x122, x123, x124, x125, x126, x127, x128, x129, x130, x131, x132, x133, x134, x135, x136, x137, x138, x139, x140, x141, x142, x143, x144, x145, x146, x147, x148, x149, x150, x151, x152, x153, x154, x155, x156, x157, x158, x159, x160, x161, x162, x163, x164, x165, x166, x167, x168, x169], []⟩ w := by
 conv at hops => lhs; whnf
 injection hops with hops
 subst hops
 have hB1 := H.B1
 have hb1_1 := H.B1.cell 1
 simp at hb1_1
 have hb1_4 := H.B1.cell 4
 simp at hb1_4
 have hb4_0 := H.B4.cell 0
 simp at hb4_0
 have HL4 := Lib.hid (show ∀ v u W, Steps W v [⟨2, false⟩, ⟨3, false⟩] → Steps W u (stepsBy [2, 3]) → Calls Tryz.prog 34 #[v, u] W (RetB W true) from fun v u W h h' => by have := RLists_any v u _ _ W h h'; rwa [show decide ([⟨2, false⟩, ⟨3, false⟩] = stepsBy [2, 3]) = true by decide] at this)
 have hS4 := H.S4
 refine graft_of ?_
 have hHeld := hX
 delta AwT0
 repeat' first | ((with_reducible refine t4_tk ?_); first | ((with_reducible refine t4_tk (i := 32) ?_); refine t4w (v := .int .i64 1400) ?_ hHeld ?_; (· exact run_ld (by rfl) (fun W h => load_one Tryz.underlying3 rfl (Ext.cell_some h hb1_1))); (try simp only [pS])) | ((with_reducible refine t4_tk (i := 37) ?_); refine t4w (v := .agg #[.int .i64 5, .int .i64 7]) ?_ hHeld ?_; (· exact run_ld (by rfl) (fun W h => ld_spanT (hB1.ext h))); (try simp only [pS])) | ((with_reducible refine t4_tk (i := 39) ?_); refine t4w (v := .bool true) ?_ hHeld ?_; (· exact run_eqlR (a := 5) (b := 7) (a' := 5) (b' := 7) pairSpan (by decide) (by rfl) (by rfl)); (try simp only [pS])) | ((with_reducible refine t4_tk (i := 43) ?_); refine t4w (v := .int .i64 3) ?_ hHeld ?_; (· exact run_ld (by rfl) (fun W h => load_one Tryz.underlying3 rfl (Ext.cell_some h hb1_4))); (try simp only [pS])) | ((with_reducible refine t4_tk (i := 52) ?_); refine t4w (v := .slice A4 2 c4) ?_ hHeld ?_; (· exact run_ld (by rfl) (fun W h => load_one Tryz.underlying32 rfl (Ext.cell_some h hb4_0))); (try simp only [pS])) | (refine t4k (v := ?_) ?_ hHeld ?_; rotate_left; (· (intro wq hSw; (try dsimp only at hSw); go_simp; (try with_reducible rfl))); (try simp only [pS])) | (refine t4w (v := ?_) ?_ hHeld ?_; rotate_left; (· (intro wq hSw; (try dsimp only at hSw); go_simp; (try with_reducible rfl))); (try simp only [pS]))) | ((with_reducible refine t4_on ?_); refine t4_one (by simp only [gS]; rfl) ?_) | ((with_reducible refine q_gd (d := some 111) ?_); ((refine q_callG (by rfl) (span_any 5 7 _) (by go_simp) ?_; rintro e W111 ⟨rfl, hE111⟩; refine ⟨_, rfl, ?_⟩; replace hX := hX.trans hE111))) | ((with_reducible refine q_gd (d := some 126) ?_); ((refine q_bsliceG (by rfl) (e := 3) (cs := #[.int .i64 2, .int .i64 3]) ?_ ?_; (simp [Act.eval]; exact bsI2 _ _); intro W126 g126 hE126 hB126 hg126; have hI126 := ints_blk2 hB126; replace hX := hX.trans hE126))) | ((with_reducible refine q_gd (d := some 127) ?_); ((refine q_callG (by rfl) (lby_any _ [2, 3] _ hI126 (by decide)) (by go_simp) ?_; rintro e W127 ⟨lv2, rfl, hO127, hE127⟩; refine ⟨_, rfl, ?_⟩; replace hX := hX.trans hE127))) | ((with_reducible refine q_gd (d := some 128) ?_); ((refine q_callG (by rfl) (HL4.out _ _ _ (hS4.ext hX) hO127.steps) (by go_simp) ?_; rintro e W128 ⟨rfl, hE128⟩; refine ⟨_, rfl, ?_⟩; replace hX := hX.trans hE128))) | ((with_reducible refine q_nl ?_); clear hHeld; refine t4_next ?_ (fun hHeld => ?_); (· assumption); (try simp only [pS])) | (with_reducible refine t4_done ?_)
 exact ⟨hHeld, awP1 rfl H hX K⟩
theorem aw_last {ops : Array Oper} {Q : Exit → Act → World → Prop} {Wz : World} {g1 g4 g8 : Nat} {A1 A4 A8 : Option Addr} {c1 c4 c8 : Nat} {rv rl : Value} {x0 x6 x16 x19 x20 x21 x22 x23 x24 x25 x26 x27 x28 x29 x30 x31 x32 x33 x34 x35 x36 x37 x38 x39 x40 x41 x42 x43 x44 x45 x46 x47 x48 x49 x50 x51 x52 x53 x54 x55 x56 x57 x58 x59 x60 x61 x62 x63 x64 x65 x66 x67 x68 x69 x70 x71 x72 x73 x74 x75 x76 x77 x78 x79 x80 x81 x82 x83 x84 x85 x86 x87 x88 x89 x90 x91 x92 x93 x94 x95 x96 x97 x98 x99 x100 x101 x102 x103 x104 x105 x106 x107 x108 x109 x110 x111 x112 x113 x114 x115 x116 x117 x118 x119 x120 x121 x122 x123 x124 x125 x126 x127 x128 x129 x130 x131 x132 x133 x134 x135 x136 x137 x138 x139 x140 x141 x142 x143 x144 x145 x146 x147 x148 x149 x150 x151 x152 x153 x154 x155 x156 x157 x158 x159 x160 x161 x162 x163 x164 x165 x166 x167 x168 x169 : Value} (hops : Tryz.f19.body.bind (Code.findR 9) = some ops) (H : AwR Wz g1 g4 g8 A1 A4 A8 c1 c4 c8 rv rl)
  (hQ : ∀ c (a : Act) (d : Tmp) (v : Value) (w : World), Q (.panic c) (a.put (some d) v) w → Q (.panic c) a w) (K : ∀ (l : List Value) w', Ext Wz w' → Q .normal ⟨(.bool true :: l).toArray, []⟩ w') : (Code.region 9 ops true).wp Tryz.prog Q ⟨#[x0, .pointer (some ⟨g1, 0, none⟩), .int .i64 0, .int .i64 0, .pointer (some ⟨g4, 0, none⟩), .int .i64 0, x6, .int .i64 9, .pointer (some ⟨g8, 0, none⟩), .int .i64 0, rv, .int .i64 0, .bool true, .int .i64 0, .string (S exText), .int .i64 0, x16, rl, .int .i64 0, x19, x20, x21, x22, x23, x24, x25, x26, x27, x28, x29, x30, x31, x32, x33, x34, x35, x36, x37, x38, x39, x40, x41, x42, x43, x44, x45, x46, x47, x48, x49, x50, x51, x52, x53, x54, x55, x56, x57, x58, x59, x60, x61, x62, x63, x64, x65, x66, x67, x68, x69, x70, x71, x72, x73, x74, x75, x76, x77, x78, x79, x80, x81, x82, x83, x84, x85, x86, x87, x88, x89, x90, x91, x92, x93, x94, x95, x96, x97, x98, x99, x100, x101, x102, x103, x104, x105, x106, x107, x108, x109, x110, x111, x112, x113, x114, x115, x116, x117, x118, x119, x120, x121, x122, x123, x124, x125, x126, x127, x128, x129, x130, x131, x132, x133, x134, x135, x136, x137, x138, x139, x140, x141, x142, x143, x144, x145, x146, x147, x148, x149, x150, x151, x152, x153, x154, x155, x156, x157, x158, x159, x160, x161, x162, x163, x164, x165, x166, x167, x168, x169], []⟩ Wz :=
 wp_region_tree4 (AwT0.graft (AwT1.graft (AwT2.graft AwT3))) (fun w' => Ext Wz w') (by kernel_rfl) (aw_ok hops).1 (aw_ok hops).2.1 (aw_ok hops).2.2 hQ (Ext.todrew (Ext.refl Wz)) (fun hHeld => awP0 hops H hHeld K)
end Go.St
end
section
namespace Go.St
open Go Go.Bp Go.RowKit Go.Proofs
set_option maxHeartbeats 8000000 in
theorem Awake3_any (w : World) (hv : Env w) : Calls Tryz.prog 19 #[] w (RetB w true) := by
 have hE := Ext.refl w
 have HD := Lib.hid (fun (tv lv : Value) (W : World) (h : TownV W tv exTown) (hl : Steps W lv (stepsBy [0, 1, 3])) => by have := PDrive_any tv lv exTown 0 0 _ W h hl; rw [exDrive1] at this; exact this)
 have H1 := Lib.hid (fun (tv kv : Value) (W : World) (h : TownV W tv exTown) (hk : TaskV W kv exK1) => by have := PFind_any tv kv exTown exK1 W h hk; rw [exFind1] at this; exact this)
 have H2 := Lib.hid (fun (tv kv : Value) (W : World) (h : TownV W tv exTown) (hk : TaskV W kv exK2) => by have := PFind_any tv kv exTown exK2 W h hk; rw [exFind2] at this; exact this)
 have H3 := Lib.hid (fun (tv kv : Value) (W : World) (h : TownV W tv exTown) (hk : TaskV W kv exK3) => by have := PFind_any tv kv exTown exK3 W h hk; rw [exFind3] at this; exact this)
 have HT := Lib.hid (fun (tv kv : Value) (W : World) (h : TownV W tv exTown) (hk : TaskV W kv exK1) => by have := PTable_any tv kv exTown exK1 W h hk; rw [exTable1] at this; exact this)
 have HP := Lib.hid (fun (tv kv rv : Value) (W : World) (h : TownV W tv exTown) (hk : TaskV W kv exK1) (hr : Rows W rv exRows) => by have := PProves_any tv kv rv exTown exK1 exRows W h hk hr; rw [exProves1] at this; exact this)
 have HW := Lib.hid (fun (tv lv : Value) (W : World) (h : TownV W tv exTown) (hl : Steps W lv exTour) (hv : Env W) => by have := PWrite_any tv lv exTown 0 exTour W h hl hv; rw [exWrite1] at this; exact this)
 have HR := Lib.hid (fun (tv : Value) (W : World) (h : TownV W tv exTown) (hv : Env W) => by have := PRead_S tv exTown exText W h hv (by decide); rw [exRead1] at this; exact this)
 have hk1 : ∀ W, TaskV W (.agg #[.int .i64 0, .int .i64 0, .int .i64 1, .int .i64 0, .slice none 0 0]) exK1 := fun W => TaskV.of (k := exK1) (Sl.none_ _ _)
 have hk2 : ∀ W cv, Ints W cv [3] → TaskV W (.agg #[.int .i64 0, .int .i64 0, .int .i64 1, .int .i64 0, cv]) exK2 := fun W cv h => TaskV.of (k := exK2) h
 have hk3 : ∀ W cv, Ints W cv [3] → TaskV W (.agg #[.int .i64 0, .int .i64 0, .int .i64 1, .int .i64 1, cv]) exK3 := fun W cv h => TaskV.of (k := exK3) h
 go_enter Tryz.func19, Tryz.ntmps19
 go_wp2_with (first | (go_at_call 35; ((with_reducible refine (Town_any _).mono ?_); rintro e WcT ⟨tv, rfl, hT, hEcT⟩; (try replace hE := hE.trans hEcT); (try replace hS4 := hS4.ext hEcT); (try replace hS8 := hS8.ext hEcT); (try replace hRw := hRw.ext hEcT); (try replace hB1 := hB1.ext hEcT); (try replace hB4 := hB4.ext hEcT); (try replace hB8 := hB8.ext hEcT))) | ((with_reducible refine q_bl3 (d := some 21) (n0 := 0) (n1 := 1) (n2 := 3) ?_ ?_ ?_ ?_); rfl; rfl; rfl; intro W21 g21 hE21 hB21 hg21; (try replace hE := hE.trans hE21); (try replace hT := hT.ext hE21); have hI21 : Ints W21 (.slice (some ⟨g21, 0, none⟩) 3 3) [0, 1, 3] := ints_blk3 hB21; clear hB21 hg21 hE21) | ((with_reducible refine q_bl1 (d := some 35) (n0 := 3) ?_ ?_); rfl; intro W35 g35 hE35 hB35 hg35; (try replace hE := hE.trans hE35); (try replace hT := hT.ext hE35); (try replace hS4 := hS4.ext hE35); (try replace hB1 := hB1.ext hE35); (try replace hB4 := hB4.ext hE35); have hI35 : Ints W35 (.slice (some ⟨g35, 0, none⟩) 1 1) [3] := ints_blk1 hB35; clear hB35 hg35 hE35) | ((with_reducible refine q_bl1 (d := some 42) (n0 := 3) ?_ ?_); rfl; intro W42 g42 hE42 hB42 hg42; (try replace hE := hE.trans hE42); (try replace hT := hT.ext hE42); (try replace hS4 := hS4.ext hE42); (try replace hB1 := hB1.ext hE42); (try replace hB4 := hB4.ext hE42); have hI42 : Ints W42 (.slice (some ⟨g42, 0, none⟩) 1 1) [3] := ints_blk1 hB42; clear hB42 hg42 hE42) | (go_at_call 36; ((with_reducible refine (lby_any _ [0, 1, 3] _ (by exact hI21) (by decide)).mono ?_); rintro e WcY ⟨lv, rfl, hO, hEcY⟩; (try replace hE := hE.trans hEcY); (try replace hT := hT.ext hEcY); have hL := hO.steps)) | (go_at_call 20; ((with_reducible refine (HD.out _ _ _ (by exact hT) (by exact hL)).mono ?_); rintro e WcD ⟨v1, rfl, ⟨s1, rfl, hO1⟩, hEcD⟩; (try replace hE := hE.trans hEcD); obtain ⟨A1, c1, e1, _⟩ := hO1.steps ; replace e1 : s1 = .slice A1 3 c1 := e1 ; subst e1)) | ((with_reducible refine q_newvar (e := 36) (u := 1) (v := .agg #[.slice A1 3 c1, .int .i64 1400, .int .i64 5, .int .i64 7, .int .i64 3]) ti36 ?_ ?_ ?_ ?_ ?_ ?_); (intro g; rfl); (intro g; rfl); rfl; rfl; (simp [Value.cells, Value.oneCell']); intro W1 g1 hE1 hB1 hg1; simp [Value.cells] at hB1; (try replace hE := hE.trans hE1); clear hE1) | (go_at_call 23; ((with_reducible refine (H1.out _ _ _ (by exact hT) (hk1 _)).mono ?_); rintro e Wc1 ⟨v4, rfl, ⟨s4, rfl, hO4⟩, hEc1⟩; (try replace hE := hE.trans hEc1); (try replace hB1 := hB1.ext hEc1); have hS4 := hO4.steps ; obtain ⟨A4, c4, e4, _⟩ := hO4.steps ; replace e4 : s4 = .slice A4 2 c4 := e4 ; subst e4)) | ((with_reducible refine q_newvar (e := 36) (u := 4) (v := .agg #[.slice A4 2 c4, .int .i64 1000, .int .i64 3, .int .i64 6, .int .i64 1]) ti36 ?_ ?_ ?_ ?_ ?_ ?_); (intro g; rfl); (intro g; rfl); rfl; rfl; (simp [Value.cells, Value.oneCell']); intro W4 g4 hE4 hB4 hg4; simp [Value.cells] at hB4; (try replace hE := hE.trans hE4); (try replace hS4 := hS4.ext hE4); (try replace hB1 := hB1.ext hE4); clear hE4) | (go_at_call 23; ((with_reducible refine (H2.out _ _ _ (by exact hT) (hk2 _ _ (by exact hI35))).mono ?_); rintro e Wc2 ⟨v6, rfl, ⟨s6, rfl, hO6⟩, hEc2⟩; (try replace hE := hE.trans hEc2); (try replace hS4 := hS4.ext hEc2); (try replace hB1 := hB1.ext hEc2); (try replace hB4 := hB4.ext hEc2); obtain ⟨A6, c6, e6, _⟩ := hO6.steps ; replace e6 : s6 = .slice A6 0 c6 := e6 ; subst e6)) | ((with_reducible refine q_newvar (e := 36) (u := 6) (v := .agg #[.slice A6 0 c6, .int .i64 0, .int .i64 0, .int .i64 0, .int .i64 0]) ti36 ?_ ?_ ?_ ?_ ?_ ?_); (intro g; rfl); (intro g; rfl); rfl; rfl; (simp [Value.cells, Value.oneCell']); intro W6 g6 hE6 hB6 hg6; simp [Value.cells] at hB6; (try replace hE := hE.trans hE6); (try replace hS4 := hS4.ext hE6); (try replace hB1 := hB1.ext hE6); (try replace hB4 := hB4.ext hE6); clear hE6) | (go_at_call 23; ((with_reducible refine (H3.out _ _ _ (by exact hT) (hk3 _ _ (by exact hI42))).mono ?_); rintro e Wc3 ⟨v8, rfl, ⟨s8, rfl, hO8⟩, hEc3⟩; (try replace hE := hE.trans hEc3); (try replace hS4 := hS4.ext hEc3); (try replace hB1 := hB1.ext hEc3); (try replace hB4 := hB4.ext hEc3); have hS8 := hO8.steps ; obtain ⟨A8, c8, e8, _⟩ := hO8.steps ; replace e8 : s8 = .slice A8 3 c8 := e8 ; subst e8)) | ((with_reducible refine q_newvar (e := 36) (u := 8) (v := .agg #[.slice A8 3 c8, .int .i64 1200, .int .i64 4, .int .i64 9, .int .i64 3]) ti36 ?_ ?_ ?_ ?_ ?_ ?_); (intro g; rfl); (intro g; rfl); rfl; rfl; (simp [Value.cells, Value.oneCell']); intro W8 g8 hE8 hB8 hg8; simp [Value.cells] at hB8; (try replace hE := hE.trans hE8); (try replace hS4 := hS4.ext hE8); (try replace hS8 := hS8.ext hE8); (try replace hB1 := hB1.ext hE8); (try replace hB4 := hB4.ext hE8); clear hE8) | (go_at_call 25; ((with_reducible refine (HT.out _ _ _ (by exact hT) (hk1 _)).mono ?_); rintro e WcW ⟨rv, rfl, hRo, hEcW⟩; (try replace hE := hE.trans hEcW); (try replace hS4 := hS4.ext hEcW); (try replace hS8 := hS8.ext hEcW); (try replace hB1 := hB1.ext hEcW); (try replace hB4 := hB4.ext hEcW); (try replace hB8 := hB8.ext hEcW); have hRw := hRo.rows)) | (go_at_call 28; ((with_reducible refine (HP.out _ _ _ _ (by exact hT) (hk1 _) (by exact hRw)).mono ?_); rintro e WcV ⟨rfl, hEcV⟩; (try replace hE := hE.trans hEcV); (try replace hS4 := hS4.ext hEcV); (try replace hS8 := hS8.ext hEcV); (try replace hRw := hRw.ext hEcV); (try replace hB1 := hB1.ext hEcV); (try replace hB4 := hB4.ext hEcV); (try replace hB8 := hB8.ext hEcV))) | (go_at_call 56; ((with_reducible refine (Tour_any _).mono ?_); rintro e WcU ⟨tl, rfl, hTl, hEcU⟩; (try replace hE := hE.trans hEcU); (try replace hT := hT.ext hEcU); (try replace hS4 := hS4.ext hEcU); (try replace hS8 := hS8.ext hEcU); (try replace hRw := hRw.ext hEcU); (try replace hB1 := hB1.ext hEcU); (try replace hB4 := hB4.ext hEcU); (try replace hB8 := hB8.ext hEcU))) | (go_at_call 30; ((with_reducible refine (HW.out _ _ _ (by exact hT) (by exact hTl) (by exact hv.ext hE)).mono ?_); rintro e WcX ⟨rfl, hEcX⟩; (try replace hE := hE.trans hEcX); (try replace hS4 := hS4.ext hEcX); (try replace hS8 := hS8.ext hEcX); (try replace hRw := hRw.ext hEcX); (try replace hB1 := hB1.ext hEcX); (try replace hB4 := hB4.ext hEcX); (try replace hB8 := hB8.ext hEcX))) | (go_at_call 32; ((with_reducible refine (HR.out _ _ (by exact hT) (by exact hv.ext hE)).mono ?_); rintro e WcZ ⟨rl, rfl, hRl, hEcZ⟩; (try replace hE := hE.trans hEcZ); (try replace hS4 := hS4.ext hEcZ); (try replace hS8 := hS8.ext hEcZ); (try replace hRw := hRw.ext hEcZ); (try replace hB1 := hB1.ext hEcZ); (try replace hB4 := hB4.ext hEcZ); (try replace hB8 := hB8.ext hEcZ))))
 refine aw_last (by kernel_rfl) ⟨hB1, hB4, hB8, hS4, hS8, hRw, hRl⟩ (by intro _ _ _ _ _ h; first | exact h | exact absurd h.1 (fun e => by cases e)) ?_
 intro l w' hX
 go_wp2
 go_ret
 exact ⟨rfl, hE.trans hX⟩
end Go.St
end
