/- Chapter 03: contracts of functions of the program and of the reference, and plain laws (out of SOP SOE). No condition of its own. -/
import Derived.BigQuiet
import Derived.Carry
import Derived.Deep.AppendLies
import Derived.Deep.Draws
import Derived.Deep.LoopGhost
import Derived.Deep.QuietTactic
import Derived.Deep.RegionHeld3
import Derived.Defers
import Derived.Handed
import Derived.LaidMore
import Derived.Laws.CopyOwn
import Derived.Laws.RangeAny
import Derived.Laws.StructEq
import Derived.Lay
import Derived.Lib.AtoiAll
import Derived.Lib.Hide
import Derived.Lib.IndexAny
import Derived.Lib.IndexLaws
import Derived.Lib.ItoaMem
import Derived.Lib.LaidTab
import Derived.Lib.OthersKept
import Derived.Lib.SliceRun
import Derived.Lib.Split
import Derived.Lib.Tables
import Derived.LoopIn
import Derived.MapKept
import Derived.Maps.AppendAt
import Derived.OpenShut
import Derived.OrdersHeld
import Derived.OrdersIn
import Derived.ProofKit
import Derived.RangeFuncBound
import Derived.RangeFuncLeaves
import Derived.RangeFuncNested
import Derived.Recover
import Derived.SevenTiedAt
import Derived.Shelf.Abstract
import Derived.Shelf.LaysC
import Derived.Shelf.LaysM
import Derived.Shelf.Small.Strs
import Derived.Shelf.Small.Utf8
import Derived.Shelf.Small.Wraps
import Derived.Shelf.Strconv.Atoi
import Derived.Shelf.Strconv.AtoiAll
import Derived.Shelf.Strconv.AtoiErrFast
import Derived.Shelf.Strconv.AtoiFail
import Derived.Shelf.Strconv.AtoiInnerAll
import Derived.Shelf.Strconv.AtoiLong
import Derived.Shelf.Strconv.Clone
import Derived.Shelf.Strconv.Itoa0
import Derived.Shelf.Strconv.Itoa1
import Derived.Shelf.Strconv.Itoa2
import Derived.Shelf.Strconv.Itoa3
import Derived.Shelf.Strconv.Lower
import Derived.Shelf.Strconv.ParseInt10
import Derived.Shelf.Strconv.ParseIntEmpty
import Derived.Shelf.Strconv.ParseUint10
import Derived.Shelf.Strconv.ParseUint10Any
import Derived.Shelf.Strconv.ParseUint10Empty
import Derived.Shelf.Strconv.RangeError
import Derived.Shelf.Strconv.SyntaxError
import Derived.Shelf.Strconv.ToError
import Derived.Shelf.Strconv.ToErrorRange
import Derived.Shelf.Strings.AsciiSet
import Derived.Shelf.Strings.Builder1
import Derived.Shelf.Strings.BuilderF
import Derived.Shelf.Strings.BuilderK
import Derived.Shelf.Strings.Cut
import Derived.Shelf.Strings.IndexAny
import Derived.Shelf.Strings.IndexAnyAll
import Derived.Shelf.Strings.Runes
import Derived.Shelf.Strings.Search1
import Derived.Shelf.Strings.Search2
import Derived.Shelf.Strings.Shaped
import Derived.Shelf.Vars
import Derived.SliceStrings
import Derived.Stop.LaidErr
import Derived.TacticsIn
import Derived.Test.YtfjnacajjpaeiaaGreatDoorCards
import Derived.Test.YtfjnacajjpaeiaaGreatDoorProg
import Derived.Test.YtfjnacajjpaeiaaGreatDoorTie
import Derived.WalkKit
import Derived.WalkLawsBesides
import Derived.WalkMore
import Derived.WalkSpells
import Derived.Test.YtfjnacajjpaeiaaGreatDoorP01
import Derived.Test.YtfjnacajjpaeiaaGreatDoorP02
import Derived.Test.YtfjnacajjpaeiaaGreatDoorP03
import Derived.Test.YtfjnacajjpaeiaaGreatDoorP04
import Derived.Test.YtfjnacajjpaeiaaGreatDoorP05
import Derived.Test.YtfjnacajjpaeiaaGreatDoorP09
import Derived.Test.YtfjnacajjpaeiaaGreatDoorP10
import Derived.Test.YtfjnacajjpaeiaaGreatDoorP13
import Derived.Test.YtfjnacajjpaeiaaGreatDoorP16
import Derived.Test.YtfjnacajjpaeiaaGreatDoorP17
import Derived.Test.YtfjnacajjpaeiaaGreatDoorP19
set_option maxRecDepth 100000
set_option linter.all false
section
namespace Go.St
open Go Go.Bp Go.RowKit Go.Proofs Go.ChangeShapes Go.WideShapes Go.ChangeAt
section
variable {H : Type} {enc : TypeId × Value → H} {w : World} {b0 : Nat}
theorem cells_flat {α : Type} (f : α → List Value) (size : Nat) (hf : ∀ a, (f a).length = size) {a : Addr} : ∀ (xs : List α) (i0 : Nat),
    (∀ (i : Nat) (hi : i < xs.length), Cells w (a.add ((i0 + i) * size)) (f xs[i])) → Cells w (a.add (i0 * size)) (xs.flatMap f)
  | [], i0, _ => by simpa using Cells.nil w _
  | x :: xs, i0, h => by
    have h0 := h 0 (by simp)
    have ih := cells_flat f size hf (a := a) xs (i0 + 1) (fun i hi => by
      have := h (i + 1) (by simpa using hi)
      rw [show i0 + 1 + i = i0 + (i + 1) by omega]
      simpa using this)
    intro j u hu
    simp only [List.flatMap_cons] at hu
    by_cases hj : j < size
    · rw [List.getElem?_append_left (by rw [hf]; exact hj)] at hu
      have := h0 j u (by simpa using hu)
      simpa using this
    · rw [List.getElem?_append_right (by rw [hf]; omega), hf] at hu
      have := ih (j - size) u hu
      rw [add_of_add] at this ⊢
      rwa [show (i0 + 1) * size + (j - size) = i0 * size + j by rw [Nat.add_mul]; omega] at this
theorem open_flat {α : Type} {t e : TypeId} {size fuel : Nat} {cs : List Value} {x : DataW H × List MemPlace} (f : α → List Value) (good : α → Prop) (hf : ∀ a, (f a).length = size)
    (ht : Tryz.prog.underlying t = some (.slice e)) (hc : Tryz.prog.cellsOf e = size)
    (hel : ∀ (n : Nat) (c1 : List Value) (y : DataW H × List MemPlace), DataW.trod enc Tryz.prog w 0 (fun _ => true) true n e c1 = some y → ∃ a, c1 = f a ∧ good a)
    (h : DataW.trod enc Tryz.prog w 0 (fun _ => true) true fuel t cs = some x) : ∃ (v : Value) (xs : List α), cs = [v] ∧ Sl w size v xs.length (xs.flatMap f) ∧ ∀ a ∈ xs, good a := by
  rcases DataW.trod_slice ht h with ⟨rfl, _⟩ | ⟨ad, len, cap, elems, rest, n, _, rfl, _, _, hl, hm, hlen, hE, _, _⟩
  · exact ⟨_, [], rfl, Sl.none_ w size, by simp⟩
  have each : ∀ i : Fin len, ∃ a : α, Cells w (ad.add (i.1 * size)) (f a) ∧ good a := by
    rintro ⟨i, hi⟩
    have h1 := hE i hi
    rw [List.getElem?_eq_getElem (by omega), Option.bind_eq_some_iff, hc] at h1
    obtain ⟨c1, hc1, hy⟩ := h1
    obtain ⟨a, rfl, hg⟩ := hel _ _ _ hy
    obtain ⟨_, h3, h4⟩ := World.cells?_some hc1
    refine ⟨a, fun j u hu => ?_, hg⟩
    rw [h4 j (by have := (List.getElem?_eq_some_iff.1 hu).1; omega)]
    exact hu
  obtain ⟨g, hg⟩ := Classical.axiomOfChoice each
  refine ⟨_, List.ofFn g, rfl, ?_, ?_⟩
  · refine ⟨some ad, cap, by simp, by simpa using hl, hm, ?_, fun _ => ⟨ad, rfl, ?_⟩⟩
    · have : ∀ l : List α, (l.flatMap f).length = l.length * size := by
        intro l
        induction l with
        | nil => simp
        | cons y ys ih => simp [hf, ih, Nat.add_mul]; omega
      exact this _
    · have := cells_flat (w := w) f size hf (a := ad) (List.ofFn g) 0 (fun i hi => by
        have hi' : i < len := by simpa using hi
        have := (hg ⟨i, hi'⟩).1
        simpa using this)
      simpa [Addr.add] using this
  · intro a ha
    obtain ⟨i, rfl⟩ := List.mem_ofFn.1 ha
    exact (hg i).2
theorem open_each {α : Type} {t e : TypeId} {size fuel : Nat} {cs : List Value} {x : DataW H × List MemPlace} (R : Addr → α → Prop)
    (ht : Tryz.prog.underlying t = some (.slice e)) (hc : Tryz.prog.cellsOf e = size)
    (hel : ∀ (n : Nat) (c1 : List Value) (y : DataW H × List MemPlace) (ad : Addr), DataW.trod enc Tryz.prog w 0 (fun _ => true) true n e c1 = some y → Cells w ad c1 → ∃ a, R ad a)
    (h : DataW.trod enc Tryz.prog w 0 (fun _ => true) true fuel t cs = some x) : ∃ (xs : List α) (A : Option Addr) (c : Nat), cs = [.slice A xs.length c] ∧ xs.length ≤ c ∧ c ≤ maxLen ∧ (0 < xs.length → ∃ ad, A = some ad ∧ ∀ k (hk : k < xs.length), R (ad.add (k * size)) xs[k]) := by
  rcases DataW.trod_slice ht h with ⟨rfl, _⟩ | ⟨ad, len, cap, elems, rest, n, _, rfl, _, _, hl, hm, hlen, hE, _, _⟩
  · exact ⟨[], none, 0, rfl, Nat.le_refl _, Nat.zero_le _, by simp⟩
  have each : ∀ i : Fin len, ∃ a : α, R (ad.add (i.1 * size)) a := by
    rintro ⟨i, hi⟩
    have h1 := hE i hi
    rw [List.getElem?_eq_getElem (by omega), Option.bind_eq_some_iff, hc] at h1
    obtain ⟨c1, hc1, hy⟩ := h1
    obtain ⟨_, h3, h4⟩ := World.cells?_some hc1
    exact hel _ _ _ _ hy (fun j u hu => by rw [h4 j (by have := (List.getElem?_eq_some_iff.1 hu).1; omega)]; exact hu)
  obtain ⟨g, hg⟩ := Classical.axiomOfChoice each
  refine ⟨List.ofFn g, some ad, cap, by simp, by simpa using hl, hm, fun _ => ⟨ad, rfl, fun k hk => ?_⟩⟩
  have hk' : k < len := by simpa using hk
  have := hg ⟨k, hk'⟩
  simpa using this
theorem encI_flat (xs : List Int) : xs.flatMap (fun n => [Value.int .i64 n]) = encI xs := by induction xs <;> simp_all [encI]
theorem encS_flat (xs : List ByteArray) : xs.flatMap (fun n => [Value.string n]) = encS xs := by induction xs <;> simp_all [encS]
theorem encSt_flat (xs : List Step) : xs.flatMap (fun x => [Value.int .i64 x.st, .bool x.bk]) = encSt xs := by
  induction xs with
  | nil => rfl
  | cons x xs ih => rw [List.flatMap_cons, ih]; simp [encSt]
theorem map_flat1 {α : Type} (f : α → Value) (xs : List α) : xs.flatMap (fun p => [f p]) = xs.map f := by
  induction xs with
  | nil => rfl
  | cons x xs ih => rw [List.flatMap_cons, ih]; rfl
theorem cellsOf3 : Tryz.prog.cellsOf 3 = 1 := by kernel_rfl
theorem cellsOf4 : Tryz.prog.cellsOf 4 = 1 := by kernel_rfl
theorem cellsOf9 : Tryz.prog.cellsOf 9 = 1 := by kernel_rfl
theorem cellsOf22 : Tryz.prog.cellsOf 22 = 1 := by kernel_rfl
theorem cellsOf23 : Tryz.prog.cellsOf 23 = 1 := by kernel_rfl
theorem cellsOf25 : Tryz.prog.cellsOf 25 = 4 := by kernel_rfl
theorem cellsOf31 : Tryz.prog.cellsOf 31 = 2 := by kernel_rfl
theorem cellsOf34 : Tryz.prog.cellsOf 34 = 2 := by kernel_rfl
theorem cellsOf41 : Tryz.prog.cellsOf 41 = 1 := by kernel_rfl
theorem cellsOf43 : Tryz.prog.cellsOf 43 = 5 := by kernel_rfl
theorem cellsOf82 : Tryz.prog.cellsOf 82 = 2 := by kernel_rfl
theorem cellsOf87 : Tryz.prog.cellsOf 87 = 7 := by kernel_rfl
theorem at_int {n : Nat} {cs : List Value} {x : DataW H × List MemPlace} (h : DataW.trod enc Tryz.prog w 0 (fun _ => true) true n 3 cs = some x) : ∃ k, cs = [.int .i64 k] := by
  obtain ⟨k, h1, _, _⟩ := DataW.trod_int Tryz.underlying3 h; exact ⟨k, h1⟩
theorem at_bool {n : Nat} {cs : List Value} {x : DataW H × List MemPlace} (h : DataW.trod enc Tryz.prog w 0 (fun _ => true) true n 4 cs = some x) : ∃ k, cs = [.bool k] := by
  obtain ⟨k, h1, _⟩ := DataW.trod_bool Tryz.underlying4 h; exact ⟨k, h1⟩
theorem at_ints {n : Nat} {cs : List Value} {x : DataW H × List MemPlace} (h : DataW.trod enc Tryz.prog w 0 (fun _ => true) true n 41 cs = some x) : ∃ v xs, cs = [v] ∧ Ints w v xs := by
  obtain ⟨v, xs, h1, h2, _⟩ := open_flat (fun n : Int => [Value.int .i64 n]) (fun _ => True) (fun _ => rfl) Tryz.underlying41 cellsOf3 (fun n c1 y hy => by obtain ⟨k, hk⟩ := at_int hy; exact ⟨k, hk, trivial⟩) h
  rw [encI_flat] at h2; exact ⟨v, xs, h1, h2⟩
theorem at_strs {n : Nat} {cs : List Value} {x : DataW H × List MemPlace} (h : DataW.trod enc Tryz.prog w 0 (fun _ => true) true n 22 cs = some x) : ∃ v xs, cs = [v] ∧ Strs w v xs ∧ ∀ s ∈ xs, s.size ≤ maxLen := by
  obtain ⟨v, xs, h1, h2, h3⟩ := open_flat (fun n : ByteArray => [Value.string n]) (fun s => s.size ≤ maxLen) (fun _ => rfl) Tryz.underlying22 cellsOf9 (fun n c1 y hy => by obtain ⟨k, hk, _, hs⟩ := DataW.trod_string Tryz.underlying9 hy; exact ⟨k, hk, hs⟩) h
  rw [encS_flat] at h2; exact ⟨v, xs, h1, h2, h3⟩
theorem two2 {c0 c1 : Value} {cs : List Value} (hl : cs.length = 2) (h0 : (cs.drop 0).take 1 = [c0]) (h1 : (cs.drop 1).take 1 = [c1]) : cs = [c0, c1] := by
  match cs, hl with
  | [x, y], _ => simp at h0 h1; simp [h0, h1]
theorem at_steps {n : Nat} {cs : List Value} {x : DataW H × List MemPlace} (h : DataW.trod enc Tryz.prog w 0 (fun _ => true) true n 32 cs = some x) : ∃ v xs, cs = [v] ∧ Steps w v xs := by
  obtain ⟨v, xs, h1, h2, h3⟩ := open_flat (fun x : Step => [Value.int .i64 x.st, .bool x.bk]) (fun _ => True) (fun _ => rfl) Tryz.underlying32 cellsOf82 (fun n c1 y hy => by
    obtain ⟨xs, m, _, _, hl, hx, hE⟩ := DataW.trod_struct Tryz.underlying82 hy
    rw [cellsOf82] at hl
    have hx3 : xs.length = 2 := hx
    have e0 : DataW.trod enc Tryz.prog w 0 (fun _ => true) true m 3 ((c1.drop 0).take (Tryz.prog.cellsOf 3)) = xs[0]? := hE 0 _ rfl
    have e1 : DataW.trod enc Tryz.prog w 0 (fun _ => true) true m 4 ((c1.drop 1).take (Tryz.prog.cellsOf 4)) = xs[1]? := hE 1 _ rfl
    rw [cellsOf3] at e0; rw [cellsOf4] at e1
    rw [List.getElem?_eq_getElem (by omega)] at e0 e1
    obtain ⟨s, hs⟩ := at_int e0
    obtain ⟨p, hp⟩ := at_bool e1
    exact ⟨⟨s, p⟩, two2 hl hs hp, trivial⟩) h
  rw [encSt_flat] at h2; exact ⟨v, xs, h1, h2⟩
theorem seven {c0 c1 c2 c3 c4 c5 c6 : Value} {cs : List Value} (hl : cs.length = 7) (h0 : (cs.drop 0).take 1 = [c0]) (h1 : (cs.drop 1).take 1 = [c1]) (h2 : (cs.drop 2).take 1 = [c2]) (h3 : (cs.drop 3).take 2 = [c3, c4]) (h5 : (cs.drop 5).take 1 = [c5]) (h6 : (cs.drop 6).take 1 = [c6]) : cs = [c0, c1, c2, c3, c4, c5, c6] := by
  match cs, hl with
  | [x0, x1, x2, x3, x4, x5, x6], _ => simp at h0 h1 h2 h3 h5 h6; simp [h0, h1, h2, h3, h5, h6]
theorem at_span {n : Nat} {cs : List Value} {x : DataW H × List MemPlace} (h : DataW.trod enc Tryz.prog w 0 (fun _ => true) true n 34 cs = some x) : ∃ a b, cs = [.int .i64 a, .int .i64 b] := by
  obtain ⟨xs, m, _, _, hl, hx, hE⟩ := DataW.trod_struct Tryz.underlying34 h
  rw [cellsOf34] at hl
  have hx3 : xs.length = 2 := hx
  have e0 : DataW.trod enc Tryz.prog w 0 (fun _ => true) true m 3 ((cs.drop 0).take (Tryz.prog.cellsOf 3)) = xs[0]? := hE 0 _ rfl
  have e1 : DataW.trod enc Tryz.prog w 0 (fun _ => true) true m 3 ((cs.drop 1).take (Tryz.prog.cellsOf 3)) = xs[1]? := hE 1 _ rfl
  rw [cellsOf3] at e0 e1
  rw [List.getElem?_eq_getElem (by omega)] at e0 e1
  obtain ⟨s, hs⟩ := at_int e0
  obtain ⟨p, hp⟩ := at_int e1
  exact ⟨s, p, two2 hl hs hp⟩
theorem at_streets {n : Nat} {cs : List Value} {x : DataW H × List MemPlace} (h : DataW.trod enc Tryz.prog w 0 (fun _ => true) true n 23 cs = some x) : ∃ v xs, cs = [v] ∧ Streets w v xs := by
  obtain ⟨xs, A, c, h1, h2, h3, h4⟩ := open_each (fun ad (s : Street) => ∃ sv, StreetAt w ad s sv) Tryz.underlying23 cellsOf87 (fun n c1 y ad hy hc => by
    obtain ⟨xs, m, _, _, hl, hx, hE⟩ := DataW.trod_struct Tryz.underlying87 hy
    rw [cellsOf87] at hl
    have hx3 : xs.length = 6 := hx
    have e0 : DataW.trod enc Tryz.prog w 0 (fun _ => true) true m 3 ((c1.drop 0).take (Tryz.prog.cellsOf 3)) = xs[0]? := hE 0 _ rfl
    have e1 : DataW.trod enc Tryz.prog w 0 (fun _ => true) true m 3 ((c1.drop 1).take (Tryz.prog.cellsOf 3)) = xs[1]? := hE 1 _ rfl
    have e2 : DataW.trod enc Tryz.prog w 0 (fun _ => true) true m 3 ((c1.drop 2).take (Tryz.prog.cellsOf 3)) = xs[2]? := hE 2 _ rfl
    have e3 : DataW.trod enc Tryz.prog w 0 (fun _ => true) true m 34 ((c1.drop 3).take (Tryz.prog.cellsOf 34)) = xs[3]? := hE 3 _ rfl
    have e4 : DataW.trod enc Tryz.prog w 0 (fun _ => true) true m 4 ((c1.drop 5).take (Tryz.prog.cellsOf 4)) = xs[4]? := hE 4 _ rfl
    have e5 : DataW.trod enc Tryz.prog w 0 (fun _ => true) true m 41 ((c1.drop 6).take (Tryz.prog.cellsOf 41)) = xs[5]? := hE 5 _ rfl
    rw [cellsOf3] at e0 e1 e2; rw [cellsOf34] at e3; rw [cellsOf4] at e4; rw [cellsOf41] at e5
    rw [List.getElem?_eq_getElem (by omega)] at e0 e1 e2 e3 e4 e5
    obtain ⟨a, ha⟩ := at_int e0
    obtain ⟨b, hb⟩ := at_int e1
    obtain ⟨me, hm⟩ := at_int e2
    obtain ⟨lo, hi, hlh⟩ := at_span e3
    obtain ⟨bo, hbo⟩ := at_bool e4
    obtain ⟨sv, sh, hsv, hI⟩ := at_ints e5
    have e := seven hl ha hb hm hlh hbo hsv
    subst e
    exact ⟨⟨a, b, me, lo, hi, bo, sh⟩, sv, hc, hI⟩) h
  exact ⟨_, xs, h1, A, c, rfl, h2, h3, h4⟩
theorem at_rows {n : Nat} {cs : List Value} {x : DataW H × List MemPlace} (h : DataW.trod enc Tryz.prog w 0 (fun _ => true) true n 47 cs = some x) : ∃ v xs, cs = [v] ∧ Rows w v xs := by
  obtain ⟨xs, A, c, h1, h2, h3, h4⟩ := open_each (fun ad (p : Value × List Int) => Cells w ad [p.1] ∧ Ints w p.1 p.2) Tryz.underlying47 cellsOf41 (fun n c1 y ad hy hc => by
    obtain ⟨v, l, rfl, hI⟩ := at_ints hy
    exact ⟨(v, l), hc, hI⟩) h
  refine ⟨_, xs.map (·.2), h1, xs.map (·.1), by simp, ⟨A, c, by simp, by simpa using h2, h3, by simp, fun hn => ?_⟩, fun i hi hi' => ?_⟩
  · obtain ⟨ad, ha, hR⟩ := h4 (by simpa using hn)
    refine ⟨ad, ha, ?_⟩
    have := cells_flat (w := w) (fun p : Value × List Int => [p.1]) 1 (fun _ => rfl) (a := ad) xs 0 (fun i hi => by simpa using (hR i hi).1)
    rw [map_flat1 (fun p : Value × List Int => p.1)] at this
    simpa [Addr.add] using this
  · have hi2 : i < xs.length := by simpa using hi
    obtain ⟨ad, _, hR⟩ := h4 (by omega)
    simpa using (hR i hi2).2
theorem arg_ints {v : Value} {d : DataW H} {p : List MemPlace} (hv : Value.okWide Tryz.prog w .any b0 41 v) (h : DataW.Trod enc Tryz.prog w 0 (fun _ => true) true 41 v d p) : ∃ xs, Ints w v xs := by
  obtain ⟨a, l, c, rfl⟩ := okWide_slice Tryz.underlying41 hv
  obtain ⟨fuel, hf⟩ := h
  obtain ⟨v', xs, h1, h2⟩ := at_ints hf
  simp [Value.cells] at h1
  subst h1; exact ⟨xs, h2⟩
theorem arg_steps {v : Value} {d : DataW H} {p : List MemPlace} (hv : Value.okWide Tryz.prog w .any b0 32 v) (h : DataW.Trod enc Tryz.prog w 0 (fun _ => true) true 32 v d p) : ∃ xs, Steps w v xs := by
  obtain ⟨a, l, c, rfl⟩ := okWide_slice Tryz.underlying32 hv
  obtain ⟨fuel, hf⟩ := h
  obtain ⟨v', xs, h1, h2⟩ := at_steps hf
  simp [Value.cells] at h1
  subst h1; exact ⟨xs, h2⟩
theorem arg_rows {v : Value} {d : DataW H} {p : List MemPlace} (hv : Value.okWide Tryz.prog w .any b0 47 v) (h : DataW.Trod enc Tryz.prog w 0 (fun _ => true) true 47 v d p) : ∃ xs, Rows w v xs := by
  obtain ⟨a, l, c, rfl⟩ := okWide_slice Tryz.underlying47 hv
  obtain ⟨fuel, hf⟩ := h
  obtain ⟨v', xs, h1, h2⟩ := at_rows hf
  simp [Value.cells] at h1
  subst h1; exact ⟨xs, h2⟩
theorem four4 {c0 c1 c2 c3 : Value} {cs : List Value} (hl : cs.length = 4) (h0 : (cs.drop 0).take 1 = [c0]) (h1 : (cs.drop 1).take 1 = [c1]) (h2 : (cs.drop 2).take 1 = [c2]) (h3 : (cs.drop 3).take 1 = [c3]) : cs = [c0, c1, c2, c3] := by
  match cs, hl with
  | [x0, x1, x2, x3], _ => simp at h0 h1 h2 h3; simp [h0, h1, h2, h3]
theorem five5 {c0 c1 c2 c3 c4 : Value} {cs : List Value} (hl : cs.length = 5) (h0 : (cs.drop 0).take 1 = [c0]) (h1 : (cs.drop 1).take 1 = [c1]) (h2 : (cs.drop 2).take 1 = [c2]) (h3 : (cs.drop 3).take 1 = [c3]) (h4 : (cs.drop 4).take 1 = [c4]) : cs = [c0, c1, c2, c3, c4] := by
  match cs, hl with
  | [x0, x1, x2, x3, x4], _ => simp at h0 h1 h2 h3 h4; simp [h0, h1, h2, h3, h4]
theorem arg_town {v : Value} {d : DataW H} {p : List MemPlace} (hv : Value.okWide Tryz.prog w .any b0 25 v) (h : DataW.Trod enc Tryz.prog w 0 (fun _ => true) true 25 v d p) : ∃ t, TownV w v t := by
  obtain ⟨cs, rfl, hcs⟩ := okWide_struct Tryz.underlying25 hv
  obtain ⟨fuel, hf⟩ := h
  obtain ⟨xs, m, _, _, hl, hx, hE⟩ := DataW.trod_struct Tryz.underlying25 hf
  rw [cellsOf25] at hl
  have hx3 : xs.length = 4 := hx
  have e0 : DataW.trod enc Tryz.prog w 0 (fun _ => true) true m 22 (((Value.agg cs).cells.toList.drop 0).take (Tryz.prog.cellsOf 22)) = xs[0]? := hE 0 _ rfl
  have e1 : DataW.trod enc Tryz.prog w 0 (fun _ => true) true m 22 (((Value.agg cs).cells.toList.drop 1).take (Tryz.prog.cellsOf 22)) = xs[1]? := hE 1 _ rfl
  have e2 : DataW.trod enc Tryz.prog w 0 (fun _ => true) true m 22 (((Value.agg cs).cells.toList.drop 2).take (Tryz.prog.cellsOf 22)) = xs[2]? := hE 2 _ rfl
  have e3 : DataW.trod enc Tryz.prog w 0 (fun _ => true) true m 23 (((Value.agg cs).cells.toList.drop 3).take (Tryz.prog.cellsOf 23)) = xs[3]? := hE 3 _ rfl
  rw [cellsOf22] at e0 e1 e2; rw [cellsOf23] at e3
  rw [List.getElem?_eq_getElem (by omega)] at e0 e1 e2 e3
  obtain ⟨pv, ps, h0, hP, z0⟩ := at_strs e0
  obtain ⟨sv, ss, h1, hS, z1⟩ := at_strs e1
  obtain ⟨tv, ts, h2, hT, z2⟩ := at_strs e2
  obtain ⟨xv, xs', h3, hX⟩ := at_streets e3
  have e := four4 hl h0 h1 h2 h3
  refine ⟨⟨ps, ss, ts, xs'⟩, pv, sv, tv, xv, ?_, hP, hS, hT, hX, ?_⟩
  · have : cs = #[pv, sv, tv, xv] := by apply Array.ext'; simpa [Value.cells] using e
    rw [this]
  · intro s hs
    simp only [List.mem_append] at hs
    rcases hs with (hs | hs) | hs
    · exact z0 s hs
    · exact z1 s hs
    · exact z2 s hs
theorem arg_task {v : Value} {d : DataW H} {p : List MemPlace} (hv : Value.okWide Tryz.prog w .any b0 43 v) (h : DataW.Trod enc Tryz.prog w 0 (fun _ => true) true 43 v d p) : ∃ k, TaskV w v k := by
  obtain ⟨cs, rfl, hcs⟩ := okWide_struct Tryz.underlying43 hv
  obtain ⟨fuel, hf⟩ := h
  obtain ⟨xs, m, _, _, hl, hx, hE⟩ := DataW.trod_struct Tryz.underlying43 hf
  rw [cellsOf43] at hl
  have hx3 : xs.length = 5 := hx
  have e0 : DataW.trod enc Tryz.prog w 0 (fun _ => true) true m 3 (((Value.agg cs).cells.toList.drop 0).take (Tryz.prog.cellsOf 3)) = xs[0]? := hE 0 _ rfl
  have e1 : DataW.trod enc Tryz.prog w 0 (fun _ => true) true m 3 (((Value.agg cs).cells.toList.drop 1).take (Tryz.prog.cellsOf 3)) = xs[1]? := hE 1 _ rfl
  have e2 : DataW.trod enc Tryz.prog w 0 (fun _ => true) true m 3 (((Value.agg cs).cells.toList.drop 2).take (Tryz.prog.cellsOf 3)) = xs[2]? := hE 2 _ rfl
  have e3 : DataW.trod enc Tryz.prog w 0 (fun _ => true) true m 3 (((Value.agg cs).cells.toList.drop 3).take (Tryz.prog.cellsOf 3)) = xs[3]? := hE 3 _ rfl
  have e4 : DataW.trod enc Tryz.prog w 0 (fun _ => true) true m 41 (((Value.agg cs).cells.toList.drop 4).take (Tryz.prog.cellsOf 41)) = xs[4]? := hE 4 _ rfl
  rw [cellsOf3] at e0 e1 e2 e3; rw [cellsOf41] at e4
  rw [List.getElem?_eq_getElem (by omega)] at e0 e1 e2 e3 e4
  obtain ⟨a, h0⟩ := at_int e0
  obtain ⟨b, h1⟩ := at_int e1
  obtain ⟨c, h2⟩ := at_int e2
  obtain ⟨tm, h3⟩ := at_int e3
  obtain ⟨cv, cl, h4, hC⟩ := at_ints e4
  have e := five5 hl h0 h1 h2 h3 h4
  refine ⟨⟨a, b, c, tm, cl⟩, cv, ?_, hC⟩
  have : cs = #[.int .i64 a, .int .i64 b, .int .i64 c, .int .i64 tm, cv] := by apply Array.ext'; simpa [Value.cells] using e
  rw [this]
theorem okWide_arr {t e : TypeId} {n : Nat} {v : Value} (ht : Tryz.prog.underlying t = some (.array n e)) (h : Value.okWide Tryz.prog w .any b0 t v) : ∃ cs, v = .agg cs ∧ cs.size = Tryz.prog.cellsOf t := by
  simp only [Value.okWide, ht] at h
  obtain ⟨cs, h1, h2, _⟩ := h
  exact ⟨cs, h1, h2⟩
theorem arg_pair {v : Value} {d : DataW H} {p : List MemPlace} (hv : Value.okWide Tryz.prog w .any b0 31 v) (h : DataW.Trod enc Tryz.prog w 0 (fun _ => true) true 31 v d p) : ∃ m n, v = .agg #[.int .i64 m, .int .i64 n] := by
  obtain ⟨cs, rfl, hcs⟩ := okWide_arr Tryz.underlying31 hv
  obtain ⟨fuel, hf⟩ := h
  obtain ⟨xs, m, _, _, hl, hx, hE⟩ := DataW.trod_array Tryz.underlying31 hf
  rw [cellsOf31] at hl
  have e0 := hE 0 (by decide); have e1 := hE 1 (by decide)
  rw [cellsOf3] at e0 e1
  rw [List.getElem?_eq_getElem (by omega)] at e0 e1
  obtain ⟨a, h0⟩ := at_int e0
  obtain ⟨b, h1⟩ := at_int e1
  have := two2 hl (by simpa using h0) (by simpa using h1)
  refine ⟨a, b, ?_⟩
  have : cs = #[.int .i64 a, .int .i64 b] := by apply Array.ext'; simpa [Value.cells] using this
  rw [this]
theorem cellsOf32 : Tryz.prog.cellsOf 32 = 1 := by kernel_rfl
theorem cellsOf55 : Tryz.prog.cellsOf 55 = 2 := by kernel_rfl
theorem arg_way {v : Value} {d : DataW H} {p : List MemPlace} (hv : Value.okWide Tryz.prog w .any b0 55 v) (h : DataW.Trod enc Tryz.prog w 0 (fun _ => true) true 55 v d p) : ∃ a lv xs, v = .agg #[.int .i64 a, lv] ∧ Steps w lv xs := by
  obtain ⟨cs, rfl, hcs⟩ := okWide_struct Tryz.underlying55 hv
  obtain ⟨fuel, hf⟩ := h
  obtain ⟨xs, m, _, _, hl, hx, hE⟩ := DataW.trod_struct Tryz.underlying55 hf
  rw [cellsOf55] at hl
  have hx3 : xs.length = 2 := hx
  have e0 : DataW.trod enc Tryz.prog w 0 (fun _ => true) true m 3 (((Value.agg cs).cells.toList.drop 0).take (Tryz.prog.cellsOf 3)) = xs[0]? := hE 0 _ rfl
  have e1 : DataW.trod enc Tryz.prog w 0 (fun _ => true) true m 32 (((Value.agg cs).cells.toList.drop 1).take (Tryz.prog.cellsOf 32)) = xs[1]? := hE 1 _ rfl
  rw [cellsOf3] at e0; rw [cellsOf32] at e1
  rw [List.getElem?_eq_getElem (by omega)] at e0 e1
  obtain ⟨a, h0⟩ := at_int e0
  obtain ⟨lv, l, h1, hS⟩ := at_steps e1
  have e := two2 hl h0 h1
  refine ⟨a, lv, l, ?_, hS⟩
  have : cs = #[.int .i64 a, lv] := by apply Array.ext'; simpa [Value.cells] using e
  rw [this]
end
end Go.St
end
section
namespace Go.St
open Go Go.Bp Go.RowKit Go.Proofs Go.ChangeShapes Go.WideShapes Go.ChangeAt
def listed : List (String × DataW Unit) := Go.Proofs.YtfjnacajjpaeiaaGreatDoor.Rows.streetChecksRow.laid
theorem star_err : "*" ++ "errors.errorString" = "*errors.errorString" := by decide
theorem row234 (u : TypeId) (h : Tryz.prog.typeName? 3 u = some "*errors.errorString") : u = 234 :=
  typeName_ptr_named (nm := "errors.errorString") (by rw [star_err]; kernel_rfl) (by kernel_rfl) (by decide) u (by rw [star_err]; exact h)
theorem env_of {W : World} (h : laidMetH Tryz.prog listed W) (hs : W.ShapedOpen Tryz.prog) : Env W := by
  rw [MakeChecks.laidMetH_plain _ _ _ (by kernel_rfl)] at h
  have h2 := h.tail.tail
  have h4 := h2.tail
  have h5 := h4.tail
  have tab := Lib.tabIs_of_head (zs := Lib.pow10Tab) (k := .u64) (g := 3) (t := 230) (n := 20) (e := 188) (by kernel_rfl) (by kernel_rfl) Tryz.underlying230 Tryz.underlying188 (by kernel_rfl) (by kernel_rfl) h2
  obtain ⟨a1, s1, hv1, _⟩ := laid_sentinel h4 (show Tryz.prog.globalNamed "strconv.ErrRange" = some 2 by kernel_rfl) (ti := 143) (by kernel_rfl) Tryz.underlying143 row234 Tryz.underlying234 Tryz.underlying236 rfl rfl Tryz.underlying9 (by kernel_rfl) (by kernel_rfl)
  obtain ⟨a2, s2, hv2, _⟩ := laid_sentinel h5 (show Tryz.prog.globalNamed "strconv.ErrSyntax" = some 1 by kernel_rfl) (ti := 143) (by kernel_rfl) Tryz.underlying143 row234 Tryz.underlying234 Tryz.underlying236 rfl rfl Tryz.underlying9 (by kernel_rfl) (by kernel_rfl)
  refine ⟨?_, ?_, ?_, tab⟩
  · exact cell_of_shapedOpen_int (P := Tryz.prog) (g := 0) (t := 3) (zero := #[.int .i64 0]) hs (of_decide_eq_true (by kernel_rfl)) (by kernel_rfl) rfl (by kernel_rfl) (by kernel_rfl) Tryz.underlying3
  · exact ⟨_, _, by simpa using World.var?_cell (show Tryz.prog.globalNamed "strconv.ErrSyntax" = some 1 by kernel_rfl) hv2 0⟩
  · exact ⟨_, _, by simpa using World.var?_cell (show Tryz.prog.globalNamed "strconv.ErrRange" = some 2 by kernel_rfl) hv1 0⟩
theorem handed_shaped {H : Type} {enc : TypeId × Value → H} {a : Assume} {C : Checked} {os : Os} {f : FuncId} {fn : Func} {s : ChangeSpec} {conds : List PathCond} {apart fresh handsOn again : Bool} {X : World → Array Value → Prop}
    (hX : ∀ (w w' : World) (args : Array Value), w.heap = w'.heap → X w args → X w' args)
    (own : ownKnob C.prog.godebug = none) (started : os.Started) (noInit : C.prog.inits.idxOf? f = none) (hfn : C.prog.funcs[f]? = some fn)
    (witness : ∃ (w : World) (tape : Tape) (i : Input), w.os = os ∧ (w.forCall tape i).Shaped C.prog ∧ i.vars = [] ∧ Input.okWide C.prog (w.forCall tape i) .any w.heap.size f i ∧
      ((s.pre enc C.prog fn conds apart (w.forCall tape i).memory i.args ∧ X (w.forCall tape i).memory i.args) ∧ sizedMet enc C.prog fn (OpenSpec.ofChange s) apart (w.forCall tape i).memory i.args) ∧ a.holds C.prog (lone (Frame.enter C.prog f i.args .normal) [] (w.forCall tape i)))
    (contract : ∀ (W : World) (base : Nat) (args : Array Value) (ds gs : List (DataW H)) (before : List MemPlace),
      (∀ (j : Nat) t v, fn.params[j]? = some t → args[j]? = some v → Value.okWide C.prog W .any base t v) →
      DataW.Whole enc C.prog fn.params.toList s.vars apart W args.toList ds gs before → X W args → W.ShapedOpen C.prog →
      Calls C.prog f args W fun e W' => ∃ v, e = .returned v ∧ s.post enc C.prog fn apart fresh handsOn again W args v W') :
    ReturnsInHanded a C os f .any (fun w args => (s.pre enc C.prog fn conds apart w args ∧ X w args) ∧ sizedMet enc C.prog fn (OpenSpec.ofChange s) apart w args) (s.post enc C.prog fn apart fresh handsOn again) := by
  refine returnsInHanded_of_calls own started noInit witness ?_
  intro w tape i _ hsh _ hok hpre hholds
  obtain ⟨_, _, _, fn', hfn', _, _, _, _, hval⟩ := hok
  have e : fn' = fn := Option.some.inj (hfn'.symm.trans hfn)
  subst e
  obtain ⟨⟨⟨ds, gs, before, hw, hc⟩, hx⟩, hz⟩ := hpre
  have hw' := DataW.Whole.of_heap (w' := w.forCall tape i) (by rfl) hw
  refine (contract (w.forCall tape i) w.heap.size i.args ds gs before hval hw' (hX _ _ _ (by rfl) hx) hsh).mono fun e W' ⟨v, he, hp⟩ => ?_
  subst he
  exact ChangeSpec.post_blind hp
theorem own_knob : ownKnob Tryz.prog.godebug = none := by kernel_rfl
theorem laid_out : laidOutB Tryz.prog = true := by kernel_rfl
end Go.St
end
