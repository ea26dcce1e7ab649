/- Texts OP OE of the proof, merged: contracts of functions of chapter 10, of the program and of the reference, and plain laws. -/
import Derived.Carry
import Derived.Handed
import Derived.LaidMore
import Derived.Lay
import Derived.Lib.LaidTab
import Derived.OpenShut
import Derived.ProofKit
import Derived.SevenTiedAt
import Derived.Shelf.Vars
import Derived.SliceStrings
import Derived.Stop.LaidErr
import Derived.Test.YthomnkgiaapljaaGreatDoorCards
import Derived.Test.YthomnkgiaapljaaGreatDoorM13
import Derived.Test.YthomnkgiaapljaaGreatDoorTie
section
/- The arguments of the rows opened: what is read is a code, a sheet, a list. -/
set_option maxRecDepth 100000
namespace Go.Bp
open Go.RowKit Go.Proofs Go.ChangeShapes Go.WideShapes Go.ChangeAt
section
variable {H : Type} {enc : TypeId × Value → H} {w : World} {b0 : Nat}
theorem cells_flat {α : Type} (f : α → List Value) (size : Nat) (hf : ∀ a, (f a).length = size) {a : Addr} : ∀ (xs : List α) (i0 : Nat),
    (∀ (i : Nat) (hi : i < xs.length), Cells w (a.add ((i0 + i) * size)) (f xs[i])) → Cells w (a.add (i0 * size)) (xs.flatMap f)
  | [], i0, _ => by simpa using Cells.nil w _
  | x :: xs, i0, h => by
    have h0 := h 0 (by simp)
    have ih := cells_flat f size hf (a := a) xs (i0 + 1) (fun i hi => by
      have := h (i + 1) (by simpa using hi)
      rw [show i0 + 1 + i = i0 + (i + 1) by omega]
      simpa using this)
    intro j u hu
    simp only [List.flatMap_cons] at hu
    by_cases hj : j < size
    · rw [List.getElem?_append_left (by rw [hf]; exact hj)] at hu
      have := h0 j u (by simpa using hu)
      simpa using this
    · rw [List.getElem?_append_right (by rw [hf]; omega), hf] at hu
      have := ih (j - size) u hu
      rw [add_of_add] at this ⊢
      rwa [show (i0 + 1) * size + (j - size) = i0 * size + j by rw [Nat.add_mul]; omega] at this
theorem open_flat {α : Type} {t e : TypeId} {size fuel : Nat} {cs : List Value} {x : DataW H × List MemPlace} (f : α → List Value) (good : α → Prop) (hf : ∀ a, (f a).length = size)
    (ht : Tryz.prog.underlying t = some (.slice e)) (hc : Tryz.prog.cellsOf e = size)
    (hel : ∀ (n : Nat) (c1 : List Value) (y : DataW H × List MemPlace), DataW.trod enc Tryz.prog w 0 (fun _ => true) true n e c1 = some y → ∃ a, c1 = f a ∧ good a)
    (h : DataW.trod enc Tryz.prog w 0 (fun _ => true) true fuel t cs = some x) : ∃ (v : Value) (xs : List α), cs = [v] ∧ Sl w size v xs.length (xs.flatMap f) ∧ ∀ a ∈ xs, good a := by
  rcases DataW.trod_slice ht h with ⟨rfl, _⟩ | ⟨ad, len, cap, elems, rest, n, _, rfl, _, _, hl, hm, hlen, hE, _, _⟩
  · exact ⟨_, [], rfl, Sl.none_ w size, by simp⟩
  have each : ∀ i : Fin len, ∃ a : α, Cells w (ad.add (i.1 * size)) (f a) ∧ good a := by
    rintro ⟨i, hi⟩
    have h1 := hE i hi
    rw [List.getElem?_eq_getElem (by omega), Option.bind_eq_some_iff, hc] at h1
    obtain ⟨c1, hc1, hy⟩ := h1
    obtain ⟨a, rfl, hg⟩ := hel _ _ _ hy
    obtain ⟨_, h3, h4⟩ := World.cells?_some hc1
    refine ⟨a, fun j u hu => ?_, hg⟩
    rw [h4 j (by have := (List.getElem?_eq_some_iff.1 hu).1; omega)]
    exact hu
  obtain ⟨g, hg⟩ := Classical.axiomOfChoice each
  refine ⟨_, List.ofFn g, rfl, ?_, ?_⟩
  · refine ⟨some ad, cap, by simp, by simpa using hl, hm, ?_, fun _ => ⟨ad, rfl, ?_⟩⟩
    · have : ∀ l : List α, (l.flatMap f).length = l.length * size := by
        intro l
        induction l with
        | nil => simp
        | cons y ys ih => simp [hf, ih, Nat.add_mul]; omega
      exact this _
    · have := cells_flat (w := w) f size hf (a := ad) (List.ofFn g) 0 (fun i hi => by
        have hi' : i < len := by simpa using hi
        have := (hg ⟨i, hi'⟩).1
        simpa using this)
      simpa [Addr.add] using this
  · intro a ha
    obtain ⟨i, rfl⟩ := List.mem_ofFn.1 ha
    exact (hg i).2
theorem encI_flat (xs : List Int) : xs.flatMap (fun n => [Value.int .i64 n]) = encI xs := by induction xs <;> simp_all [encI]
theorem encS_flat (xs : List ByteArray) : xs.flatMap (fun n => [Value.string n]) = encS xs := by induction xs <;> simp_all [encS]
theorem encF_flat (xs : List Fault) : xs.flatMap (fun f => [Value.string f.name, .int .i64 f.points, .int .i64 f.limit]) = encF xs := by induction xs <;> simp_all [encF]
theorem encL_flat (xs : List Line) : xs.flatMap (fun x => [Value.int .i64 x.no, .int .i64 x.what, .int .i64 x.sum]) = encL xs := by induction xs <;> simp_all [encL]
theorem cellsOf3 : Tryz.prog.cellsOf 3 = 1 := by kernel_rfl
theorem cellsOf9 : Tryz.prog.cellsOf 9 = 1 := by kernel_rfl
theorem cellsOf74 : Tryz.prog.cellsOf 74 = 3 := by kernel_rfl
theorem cellsOf99 : Tryz.prog.cellsOf 99 = 3 := by kernel_rfl
theorem cellsOf25 : Tryz.prog.cellsOf 25 = 3 := by kernel_rfl
theorem cellsOf39 : Tryz.prog.cellsOf 39 = 2 := by kernel_rfl
theorem cellsOf22 : Tryz.prog.cellsOf 22 = 1 := by kernel_rfl
theorem cellsOf23 : Tryz.prog.cellsOf 23 = 1 := by kernel_rfl
theorem cellsOf37 : Tryz.prog.cellsOf 37 = 1 := by kernel_rfl
theorem at_int {n : Nat} {cs : List Value} {x : DataW H × List MemPlace} (h : DataW.trod enc Tryz.prog w 0 (fun _ => true) true n 3 cs = some x) : ∃ k, cs = [.int .i64 k] := by
  obtain ⟨k, h1, _, _⟩ := DataW.trod_int Tryz.underlying3 h; exact ⟨k, h1⟩
theorem at_ints {n : Nat} {cs : List Value} {x : DataW H × List MemPlace} (h : DataW.trod enc Tryz.prog w 0 (fun _ => true) true n 26 cs = some x) : ∃ v xs, cs = [v] ∧ Ints w v xs := by
  obtain ⟨v, xs, h1, h2, _⟩ := open_flat (fun n : Int => [Value.int .i64 n]) (fun _ => True) (fun _ => rfl) Tryz.underlying26 cellsOf3 (fun n c1 y hy => by obtain ⟨k, hk⟩ := at_int hy; exact ⟨k, hk, trivial⟩) h
  rw [encI_flat] at h2; exact ⟨v, xs, h1, h2⟩
theorem at_strs {n : Nat} {cs : List Value} {x : DataW H × List MemPlace} (h : DataW.trod enc Tryz.prog w 0 (fun _ => true) true n 23 cs = some x) : ∃ v xs, cs = [v] ∧ Strs w v xs ∧ ∀ s ∈ xs, s.size ≤ maxLen := by
  obtain ⟨v, xs, h1, h2, h3⟩ := open_flat (fun n : ByteArray => [Value.string n]) (fun s => s.size ≤ maxLen) (fun _ => rfl) Tryz.underlying23 cellsOf9 (fun n c1 y hy => by obtain ⟨k, hk, _, hs⟩ := DataW.trod_string Tryz.underlying9 hy; exact ⟨k, hk, hs⟩) h
  rw [encS_flat] at h2; exact ⟨v, xs, h1, h2, h3⟩
theorem three {c0 c1 c2 : Value} {cs : List Value} (hl : cs.length = 3) (h0 : (cs.drop 0).take 1 = [c0]) (h1 : (cs.drop 1).take 1 = [c1]) (h2 : (cs.drop 2).take 1 = [c2]) : cs = [c0, c1, c2] := by
  match cs, hl with
  | [x, y, z], _ => simp at h0 h1 h2; simp [h0, h1, h2]
theorem at_faults {n : Nat} {cs : List Value} {x : DataW H × List MemPlace} (h : DataW.trod enc Tryz.prog w 0 (fun _ => true) true n 22 cs = some x) : ∃ v xs, cs = [v] ∧ Faults w v xs ∧ ∀ f ∈ xs, f.name.size ≤ maxLen := by
  obtain ⟨v, xs, h1, h2, h3⟩ := open_flat (fun f : Fault => [Value.string f.name, .int .i64 f.points, .int .i64 f.limit]) (fun f => f.name.size ≤ maxLen) (fun _ => rfl) Tryz.underlying22 cellsOf74 (fun n c1 y hy => by
    obtain ⟨xs, m, _, _, hl, hx, hE⟩ := DataW.trod_struct Tryz.underlying74 hy
    rw [cellsOf74] at hl
    have hx3 : xs.length = 3 := hx
    have e0 : DataW.trod enc Tryz.prog w 0 (fun _ => true) true m 9 ((c1.drop 0).take (Tryz.prog.cellsOf 9)) = xs[0]? := hE 0 _ rfl; have e1 : DataW.trod enc Tryz.prog w 0 (fun _ => true) true m 3 ((c1.drop 1).take (Tryz.prog.cellsOf 3)) = xs[1]? := hE 1 _ rfl; have e2 : DataW.trod enc Tryz.prog w 0 (fun _ => true) true m 3 ((c1.drop 2).take (Tryz.prog.cellsOf 3)) = xs[2]? := hE 2 _ rfl
    rw [cellsOf9] at e0; rw [cellsOf3] at e1 e2
    rw [List.getElem?_eq_getElem (by omega)] at e0 e1 e2
    obtain ⟨s, hs, _, hz⟩ := DataW.trod_string Tryz.underlying9 e0
    obtain ⟨p, hp⟩ := at_int e1
    obtain ⟨q, hq⟩ := at_int e2
    exact ⟨⟨s, p, q⟩, three hl hs hp hq, hz⟩) h
  rw [encF_flat] at h2; exact ⟨v, xs, h1, h2, h3⟩
theorem at_lines {n : Nat} {cs : List Value} {x : DataW H × List MemPlace} (h : DataW.trod enc Tryz.prog w 0 (fun _ => true) true n 37 cs = some x) : ∃ v xs, cs = [v] ∧ Lines w v xs := by
  obtain ⟨v, xs, h1, h2, h3⟩ := open_flat (fun f : Line => [Value.int .i64 f.no, .int .i64 f.what, .int .i64 f.sum]) (fun _ => True) (fun _ => rfl) Tryz.underlying37 cellsOf99 (fun n c1 y hy => by
    obtain ⟨xs, m, _, _, hl, hx, hE⟩ := DataW.trod_struct Tryz.underlying99 hy
    rw [cellsOf99] at hl
    have hx3 : xs.length = 3 := hx
    have e0 : DataW.trod enc Tryz.prog w 0 (fun _ => true) true m 3 ((c1.drop 0).take (Tryz.prog.cellsOf 3)) = xs[0]? := hE 0 _ rfl; have e1 : DataW.trod enc Tryz.prog w 0 (fun _ => true) true m 3 ((c1.drop 1).take (Tryz.prog.cellsOf 3)) = xs[1]? := hE 1 _ rfl; have e2 : DataW.trod enc Tryz.prog w 0 (fun _ => true) true m 3 ((c1.drop 2).take (Tryz.prog.cellsOf 3)) = xs[2]? := hE 2 _ rfl
    rw [cellsOf3] at e0 e1 e2
    rw [List.getElem?_eq_getElem (by omega)] at e0 e1 e2
    obtain ⟨s, hs⟩ := at_int e0
    obtain ⟨p, hp⟩ := at_int e1
    obtain ⟨q, hq⟩ := at_int e2
    exact ⟨⟨s, p, q⟩, three hl hs hp hq, trivial⟩) h
  rw [encL_flat] at h2; exact ⟨v, xs, h1, h2⟩
theorem arg_ints {v : Value} {d : DataW H} {p : List MemPlace} (hv : Value.okWide Tryz.prog w .any b0 26 v) (h : DataW.Trod enc Tryz.prog w 0 (fun _ => true) true 26 v d p) : ∃ xs, Ints w v xs := by
  obtain ⟨a, l, c, rfl⟩ := okWide_slice Tryz.underlying26 hv
  obtain ⟨fuel, hf⟩ := h
  obtain ⟨v', xs, h1, h2⟩ := at_ints hf
  simp [Value.cells] at h1
  subst h1; exact ⟨xs, h2⟩
theorem arg_code {v : Value} {d : DataW H} {p : List MemPlace} (hv : Value.okWide Tryz.prog w .any b0 25 v) (h : DataW.Trod enc Tryz.prog w 0 (fun _ => true) true 25 v d p) : ∃ c, CodeV w v c := by
  obtain ⟨cs, rfl, hcs⟩ := okWide_struct Tryz.underlying25 hv
  obtain ⟨fuel, hf⟩ := h
  obtain ⟨xs, m, _, _, hl, hx, hE⟩ := DataW.trod_struct Tryz.underlying25 hf
  rw [cellsOf25] at hl
  have hx3 : xs.length = 3 := hx
  have e0 : DataW.trod enc Tryz.prog w 0 (fun _ => true) true m 22 (((Value.agg cs).cells.toList.drop 0).take (Tryz.prog.cellsOf 22)) = xs[0]? := hE 0 _ rfl; have e1 : DataW.trod enc Tryz.prog w 0 (fun _ => true) true m 23 (((Value.agg cs).cells.toList.drop 1).take (Tryz.prog.cellsOf 23)) = xs[1]? := hE 1 _ rfl; have e2 : DataW.trod enc Tryz.prog w 0 (fun _ => true) true m 3 (((Value.agg cs).cells.toList.drop 2).take (Tryz.prog.cellsOf 3)) = xs[2]? := hE 2 _ rfl
  rw [cellsOf22] at e0; rw [cellsOf23] at e1; rw [cellsOf3] at e2
  rw [List.getElem?_eq_getElem (by omega)] at e0 e1 e2
  obtain ⟨fv, fs, h0, hF, hz⟩ := at_faults e0
  obtain ⟨mv, ms, h1, hM, hy⟩ := at_strs e1
  obtain ⟨al, h2⟩ := at_int e2
  have := three hl h0 h1 h2
  refine ⟨⟨fs, ms, al⟩, fv, mv, ?_, hF, hM, ?_⟩
  · have : cs = #[fv, mv, .int .i64 al] := by apply Array.ext'; simpa [Value.cells] using this
    rw [this]
  · intro s hs
    rcases List.mem_append.1 (show s ∈ fs.map (·.name) ++ ms from hs) with h | h
    · obtain ⟨f, hf, rfl⟩ := List.mem_map.1 h; exact hz f hf
    · exact hy s h
theorem arg_sheet {v : Value} {d : DataW H} {p : List MemPlace} (hv : Value.okWide Tryz.prog w .any b0 39 v) (h : DataW.Trod enc Tryz.prog w 0 (fun _ => true) true 39 v d p) : ∃ s, SheetV w v s := by
  obtain ⟨cs, rfl, hcs⟩ := okWide_struct Tryz.underlying39 hv
  obtain ⟨fuel, hf⟩ := h
  obtain ⟨xs, m, _, _, hl, hx, hE⟩ := DataW.trod_struct Tryz.underlying39 hf
  rw [cellsOf39] at hl
  have hx3 : xs.length = 2 := hx
  have e0 : DataW.trod enc Tryz.prog w 0 (fun _ => true) true m 3 (((Value.agg cs).cells.toList.drop 0).take (Tryz.prog.cellsOf 3)) = xs[0]? := hE 0 _ rfl; have e1 : DataW.trod enc Tryz.prog w 0 (fun _ => true) true m 37 (((Value.agg cs).cells.toList.drop 1).take (Tryz.prog.cellsOf 37)) = xs[1]? := hE 1 _ rfl
  rw [cellsOf3] at e0; rw [cellsOf37] at e1
  rw [List.getElem?_eq_getElem (by omega)] at e0 e1
  obtain ⟨n, h0⟩ := at_int e0
  obtain ⟨kv, ls, h1, hK⟩ := at_lines e1
  refine ⟨⟨n, ls⟩, kv, ?_, hK⟩
  have : cs = #[.int .i64 n, kv] := by
    apply Array.ext'
    have hl' : cs.toList.length = 2 := by simpa [Value.cells] using hl
    have h0' : (cs.toList.drop 0).take 1 = [.int .i64 n] := by simpa [Value.cells] using h0
    have h1' : (cs.toList.drop 1).take 1 = [kv] := by simpa [Value.cells] using h1
    match hcl : cs.toList, hl', h0', h1' with
    | [x, y], _, h0', h1' => simp at h0' h1'; simp [h0', h1']
  rw [this]
end
end Go.Bp
end
section
/- The surroundings: what the rows list, read off the world; the row's wrap with the world's shape. -/
set_option maxRecDepth 100000
namespace Go.Bp
open Go.RowKit Go.Proofs Go.ChangeShapes Go.WideShapes Go.ChangeAt
def listed : List (String × DataW Unit) := Go.Proofs.YthomnkgiaapljaaGreatDoor.Rows.sheetKeepsRow.laid
theorem star_err : "*" ++ "errors.errorString" = "*errors.errorString" := by decide
theorem row192 (u : TypeId) (h : Tryz.prog.typeName? 3 u = some "*errors.errorString") : u = 192 :=
  typeName_ptr_named (nm := "errors.errorString") (by rw [star_err]; kernel_rfl) (by kernel_rfl) (by decide) u (by rw [star_err]; exact h)
theorem env_of {W : World} (h : laidMetH Tryz.prog listed W) (hs : W.ShapedOpen Tryz.prog) : Env W := by
  rw [MakeChecks.laidMetH_plain _ _ _ (by kernel_rfl)] at h
  have h2 := h.tail.tail
  have h4 := h2.tail.tail
  have h5 := h4.tail
  have tab := Lib.tabIs_of_head (zs := Lib.pow10Tab) (k := .u64) (g := 0) (t := 173) (n := 20) (e := 158) (by kernel_rfl) (by kernel_rfl) Tryz.underlying173 Tryz.underlying158 (by kernel_rfl) (by kernel_rfl) h2
  obtain ⟨a1, s1, hv1, _⟩ := laid_sentinel h4 (show Tryz.prog.globalNamed "strconv.ErrRange" = some 3 by kernel_rfl) (ti := 117) (by kernel_rfl) Tryz.underlying117 row192 Tryz.underlying192 Tryz.underlying194 rfl rfl Tryz.underlying9 (by kernel_rfl) (by kernel_rfl)
  obtain ⟨a2, s2, hv2, _⟩ := laid_sentinel h5 (show Tryz.prog.globalNamed "strconv.ErrSyntax" = some 2 by kernel_rfl) (ti := 117) (by kernel_rfl) Tryz.underlying117 row192 Tryz.underlying192 Tryz.underlying194 rfl rfl Tryz.underlying9 (by kernel_rfl) (by kernel_rfl)
  refine ⟨?_, ?_, ?_, tab⟩
  · exact cell_of_shapedOpen_int (P := Tryz.prog) (g := 1) (t := 3) (zero := #[.int .i64 0]) hs (of_decide_eq_true (by kernel_rfl)) (by kernel_rfl) rfl (by kernel_rfl) (by kernel_rfl) Tryz.underlying3
  · exact ⟨_, _, by simpa using World.var?_cell (show Tryz.prog.globalNamed "strconv.ErrSyntax" = some 2 by kernel_rfl) hv2 0⟩
  · exact ⟨_, _, by simpa using World.var?_cell (show Tryz.prog.globalNamed "strconv.ErrRange" = some 3 by kernel_rfl) hv1 0⟩
/-- As 'returnsInHanded_of_change_and'; the world's shape is handed on. -/
theorem handed_shaped {H : Type} {enc : TypeId × Value → H} {a : Assume} {C : Checked} {os : Os} {f : FuncId} {fn : Func} {s : ChangeSpec} {conds : List PathCond} {apart fresh handsOn again : Bool} {X : World → Array Value → Prop}
    (hX : ∀ (w w' : World) (args : Array Value), w.heap = w'.heap → X w args → X w' args)
    (own : ownKnob C.prog.godebug = none) (started : os.Started) (noInit : C.prog.inits.idxOf? f = none) (hfn : C.prog.funcs[f]? = some fn)
    (witness : ∃ (w : World) (tape : Tape) (i : Input), w.os = os ∧ (w.forCall tape i).Shaped C.prog ∧ i.vars = [] ∧ Input.okWide C.prog (w.forCall tape i) .any w.heap.size f i ∧
      ((s.pre enc C.prog fn conds apart (w.forCall tape i).memory i.args ∧ X (w.forCall tape i).memory i.args) ∧ sizedMet enc C.prog fn (OpenSpec.ofChange s) apart (w.forCall tape i).memory i.args) ∧ a.holds C.prog (lone (Frame.enter C.prog f i.args .normal) [] (w.forCall tape i)))
    (contract : ∀ (W : World) (base : Nat) (args : Array Value) (ds gs : List (DataW H)) (before : List MemPlace),
      (∀ (j : Nat) t v, fn.params[j]? = some t → args[j]? = some v → Value.okWide C.prog W .any base t v) →
      DataW.Whole enc C.prog fn.params.toList s.vars apart W args.toList ds gs before → X W args → W.ShapedOpen C.prog →
      Calls C.prog f args W fun e W' => ∃ v, e = .returned v ∧ s.post enc C.prog fn apart fresh handsOn again W args v W') :
    ReturnsInHanded a C os f .any (fun w args => (s.pre enc C.prog fn conds apart w args ∧ X w args) ∧ sizedMet enc C.prog fn (OpenSpec.ofChange s) apart w args) (s.post enc C.prog fn apart fresh handsOn again) := by
  refine returnsInHanded_of_calls own started noInit witness ?_
  intro w tape i _ hsh _ hok hpre hholds
  obtain ⟨_, _, _, fn', hfn', _, _, _, _, hval⟩ := hok
  have e : fn' = fn := Option.some.inj (hfn'.symm.trans hfn)
  subst e
  obtain ⟨⟨⟨ds, gs, before, hw, hc⟩, hx⟩, hz⟩ := hpre
  have hw' := DataW.Whole.of_heap (w' := w.forCall tape i) (by rfl) hw
  refine (contract (w.forCall tape i) w.heap.size i.args ds gs before hval hw' (hX _ _ _ (by rfl) hx) hsh).mono fun e W' ⟨v, he, hp⟩ => ?_
  subst he
  exact ChangeSpec.post_blind hp
theorem own_knob : ownKnob Tryz.prog.godebug = none := by kernel_rfl
theorem laid_out : laidOutB Tryz.prog = true := by kernel_rfl
end Go.Bp
end
