/- Texts Base Spec Loads R1 R2 R3 R4 T2 T3 R5 Spec2 R6 R7 Spec3 Base2 R8 Spec4 of the proof, merged: contracts of functions of chapter 10, of the program and of the reference, and plain laws. -/
import Derived.BigQuiet
import Derived.Deep.AppendLies
import Derived.Deep.Draws
import Derived.Deep.QuietTactic
import Derived.Deep.RegionHeld3
import Derived.Laws.RangeAny
import Derived.Lib.Hide
import Derived.Maps.AppendAt
import Derived.Shelf.Abstract
import Derived.Test.YthomnkgiaapljaaGreatDoorProg
import Derived.WalkKit
import Derived.WalkLawsBesides
import Derived.WalkSpells
section
/- Plain words and step laws over worlds and regions; no program stands in it. -/
set_option maxRecDepth 100000
namespace Go.Bp
open Go.RowKit

theorem ba_beq (a b : ByteArray) : (a == b) = decide (a = b) := by
  cases a with | mk x => cases b with | mk y =>
  show (x == y) = _
  by_cases h : x = y <;> simp [h]
theorem ba_tl (a b : ByteArray) : (a.toList == b.toList) = decide (a = b) := by
  rw [ByteArray.toList_eq, ByteArray.toList_eq]
  by_cases h : a = b
  · simp [h]
  · have : a.data.toList ≠ b.data.toList := fun e => h (Go.WideShapes.bytes_inj e)
    rw [beq_eq_false_iff_ne.2 this]; simp [h]
instance : LawfulBEq ByteArray where
  eq_of_beq := by intro a b h; rw [ba_beq] at h; simpa using h
  rfl := by intro a; rw [ba_beq]; simp

/-- Every block of w is in w' as it was; w' may hold more. -/
abbrev Ext (w w' : World) : Prop := Below w.heap.size w w'
theorem Ext.refl (w : World) : Ext w w := Below.refl _ _
theorem Ext.trans {a b c : World} (h : Ext a b) (k : Ext b c) : Ext a c := Below.trans h (k.mono h.size)
theorem Ext.ofAlloc (w : World) (o : Obj) : Ext w (w.alloc o) := (Below.refl _ _).alloc (Nat.le_refl _) o
theorem Ext.undrew {w w' : World} (h : Ext w.drew w') : Ext w w' := ⟨h.os, h.tape, h.output, h.size, h.block⟩
theorem Ext.todrew {w w' : World} (h : Ext w w') : Ext w w'.drew := ⟨h.os, h.tape, h.output, h.size, h.block⟩
theorem Ext.drewN {w w' : World} (h : Ext w w') (n : Nat) : Ext w (w'.drewN n) := ⟨h.os, h.tape, h.output, h.size, h.block⟩
theorem Ext.le {w w' : World} (h : Ext w w') : w.heap.size ≤ w'.heap.size := h.size
theorem Ext.cell_some {w w' : World} (h : Ext w w') {p : Addr} {v : Value} (hc : w.cell? p = some v) : w'.cell? p = some v :=
  (Below.cell h (World.block_lt_of_cell? w p hc)).trans hc
theorem Ext.heap_some {w w' : World} (h : Ext w w') {g : Nat} {o : Obj} (hc : w.heap[g]? = some o) : w'.heap[g]? = some o :=
  (h.block g (Array.getElem?_eq_some_iff.1 hc).1).trans hc

theorem block_of_add (a : Addr) (n : Nat) : (a.add n).block = a.block := by unfold Addr.add; split <;> rfl
theorem add_of_add (a : Addr) (i j : Nat) : (a.add i).add j = a.add (i + j) := by
  unfold Addr.add
  by_cases hi : i = 0 <;> by_cases hj : j = 0 <;> simp [hi, hj, Nat.add_assoc]
theorem add_zero' (a : Addr) : a.add 0 = a := by simp [Addr.add]

/-- From address a on lie the cells cs. -/
def Cells (w : World) (a : Addr) (cs : List Value) : Prop := ∀ j u, cs[j]? = some u → w.cell? (a.add j) = some u
theorem Cells.ext {w w' : World} {a : Addr} {cs : List Value} (h : Cells w a cs) (e : Ext w w') : Cells w' a cs := fun j u hu => e.cell_some (h j u hu)
theorem Cells.d {w : World} {a : Addr} {cs : List Value} (h : Cells w a cs) : Cells w.drew a cs := h
theorem Cells.sub {w : World} {a : Addr} {cs cs' : List Value} (h : Cells w a cs) (i : Nat) (hs : ∀ j u, cs'[j]? = some u → cs[i + j]? = some u) : Cells w (a.add i) cs' := by
  intro j u hu
  rw [add_of_add]
  exact h _ _ (hs j u hu)
theorem Cells.nil (w : World) (a : Addr) : Cells w a [] := fun j u hu => by simp at hu

/-- Block g is just the cells cs of element type t, none frozen. -/
def Blk (w : World) (g : Nat) (t : TypeId) (cs : Array Value) : Prop := w.heap[g]? = some (.cells cs t (0, 0))
section
variable {w w' : World} {g : Nat} {t : TypeId} {cs : Array Value}
theorem Blk.lt (h : Blk w g t cs) : g < w.heap.size := (Array.getElem?_eq_some_iff.1 h).1
theorem Blk.cell (h : Blk w g t cs) (i : Nat) : w.cell? ⟨g, i, none⟩ = cs[i]? := cell_of_row w g i cs t (0, 0) h
theorem Blk.frozen (h : Blk w g t cs) (i : Nat) : w.frozen? ⟨g, i, none⟩ = false := by
  unfold Blk at h; simp [World.frozen?, h]
theorem Blk.new (w : World) (t : TypeId) (cs : Array Value) : Blk (w.alloc (.cells cs t)) w.heap.size t cs := heap_alloc_new w _
theorem Blk.ext (h : Blk w g t cs) (e : Ext w w') : Blk w' g t cs := e.heap_some h
theorem Blk.d (h : Blk w g t cs) : Blk w.drew g t cs := h
theorem Blk.set_ (h : Blk w g t cs) (i : Nat) (u : Value) : Blk (w.setCell ⟨g, i, none⟩ u) g t (cs.setIfInBounds i u) := by
  unfold Blk at h ⊢
  simp [World.setCell, Array.getElem?_modify, h]
theorem Blk.far (h : Blk w g t cs) {p : Addr} (hp : g ≠ p.block) (u : Value) : Blk (w.setCell p u) g t cs := (Below.heap_setCell w p u g hp).trans h
theorem Blk.grown {row : Option Nat} (h : Blk w g t cs) (hb : w.grownBy w' row) (hg : some g ≠ row) : Blk w' g t cs := (hb.block g h.lt hg).trans h
theorem Blk.cells (h : Blk w g t cs) : Cells w ⟨g, 0, none⟩ cs.toList := by
  intro j u hu
  have : (⟨g, 0, none⟩ : Addr).add j = ⟨g, j, none⟩ := by unfold Addr.add; split <;> simp_all
  rw [this, h.cell]
  simpa using hu
end

theorem not_mem_snoc {α : Type} {n x : α} {l : List α} (h : n ∉ l) (hx : n ≠ x) : n ∉ l ++ [x] := by
  intro hm
  rcases List.mem_append.1 hm with h1 | h1
  · exact h h1
  · exact hx (by simpa using h1)
theorem take_snoc {α : Type} (l : List α) {k : Nat} (hk : k < l.length) : l.take (k + 1) = l.take k ++ [l[k]] := List.take_succ_eq_append_getElem hk

/-- The slice v reads as the list of cells xs, n elements of size cells each; its memory lies in w. -/
def Sl (w : World) (size : Nat) (v : Value) (n : Nat) (xs : List Value) : Prop :=
  ∃ A c, v = .slice A n c ∧ n ≤ c ∧ c ≤ maxLen ∧ xs.length = n * size ∧ (0 < n → ∃ ad, A = some ad ∧ Cells w ad xs)
theorem Sl.ext {w w' : World} {size n : Nat} {v : Value} {xs : List Value} (h : Sl w size v n xs) (e : Ext w w') : Sl w' size v n xs := by
  obtain ⟨A, c, hv, h1, h2, h3, h4⟩ := h
  exact ⟨A, c, hv, h1, h2, h3, fun hn => let ⟨ad, ha, hc⟩ := h4 hn; ⟨ad, ha, hc.ext e⟩⟩
theorem Sl.d {w : World} {size n : Nat} {v : Value} {xs : List Value} (h : Sl w size v n xs) : Sl w.drew size v n xs := h
theorem Sl.none_ (w : World) (size : Nat) : Sl w size (.slice none 0 0) 0 [] := ⟨none, 0, rfl, Nat.le_refl _, Nat.zero_le _, by simp, fun h => absurd h (by omega)⟩
theorem Sl.of_own {w : World} {base size n : Nat} {e : TypeId} {v : Value} {xs : List Value} (h : w.ownsRow base e size v n xs) : Sl w size v n xs := by
  rcases h.2 with ⟨rfl, rfl⟩ | ⟨g, cap, cur, rfl, hb, hg, hn, hm, hc, ht⟩
  · have := h.1; simp at this; subst this; exact Sl.none_ w size
  · exact ⟨_, _, rfl, hn, hm, h.1, fun _ => ⟨_, rfl, h.cells (g := g) rfl⟩⟩

theorem ret_i {k : IntKind} {a b : Int} (h : a = b) : Ending.returned (.int k a) = .returned (.int k b) := by rw [h]
theorem ret_b {a b : Bool} (h : a = b) : Ending.returned (.bool a) = .returned (.bool b) := by rw [h]

/-- What a call answers: a value of which R tells, in a world in which all that was is as it was. -/
def Ret (w : World) (R : Value → World → Prop) (e : Ending) (w' : World) : Prop := ∃ v, e = .returned v ∧ R v w' ∧ Ext w w'
def Ret2 (w : World) (R : Value → Value → World → Prop) (e : Ending) (w' : World) : Prop := ∃ v1 v2, e = .returned (.tuple #[v1, v2]) ∧ R v1 v2 w' ∧ Ext w w'
def Ret3 (w : World) (R : Value → Value → Value → World → Prop) (e : Ending) (w' : World) : Prop := ∃ v1 v2 v3, e = .returned (.tuple #[v1, v2, v3]) ∧ R v1 v2 v3 w' ∧ Ext w w'

section
variable {P : Program} {ops : Array Oper} {Q : Exit → Act → World → Prop} {a : Act} {w : World} {rest : List Oper}
variable {d : Option Tmp} {ty : TypeId} {pos : String} {after : Array Edge}

theorem q_val {o : Oper} (hg : o.guard = none) {v : Value} (h : (execOp a.eval o).run P w = .ok (.value v) w) (k : wpList P ops Q rest (a.put o.dst v) w) : wpList P ops Q (o :: rest) a w :=
  wpList_plain hg fun K hK => by unfold Oper.wp; rw [h]; exact hK _ _ k

/-- A load of a variable that is no struct and no array: by its one cell. -/
theorem load_one {t : TypeId} {dsc : TypeDesc} {p : Addr} {v : Value} (ht : P.underlying t = some dsc) (hagg : (match dsc with | .struct _ | .array _ _ => true | _ => false) = false) (hc : w.cell? p = some v) :
    (loadVar t p).run P w = .ok v w := by
  unfold loadVar isAgg
  simp only [Sem.run_bind, run_underlying ht, Result.andThen_ok]
  cases dsc <;> simp_all [Sem.run_bind]
/-- A load of a struct: by its cells. -/
theorem load_struct {t : TypeId} {fs : Array Field} {i : TypeInfo} {p : Addr} {cs : List Value} (ht : P.underlying t = some (.struct fs)) (hi : P.info? t = some i) (hs : i.size = cs.length) (hc : Cells w p cs) :
    (loadVar t p).run P w = .ok (.agg cs.toArray) w := by
  have h := run_loadCells_list (P := P) w p cs hc
  unfold loadVar isAgg
  simp [Sem.run_bind, run_underlying ht, sizeOf, typeInfo, hi, hs, h]

theorem q_load {t : TypeId} {x : Operand} {p : Addr} {v : Value} (hx : a.eval x = .pointer (some p)) (hl : (loadVar t p).run P w = .ok v w)
    (k : wpList P ops Q rest (a.put d v) w) : wpList P ops Q (⟨d, .load t x, ty, pos, after, none⟩ :: rest) a w :=
  q_val rfl (by simp [execOp, Instr.loadAt, hx, Instr.sureAddr, hl]) k

theorem q_box {e : TypeId} {x : Operand} (k : ∀ W g, Ext w W → Blk W g e (a.eval x).cells → w.heap.size ≤ g → wpList P ops Q rest (a.put d (.pointer (some ⟨g, 0, none⟩))) W) :
    wpList P ops Q (⟨d, .box e x, ty, pos, after, none⟩ :: rest) a w :=
  wpList_plain rfl fun K hK => by
    have h : (execOp a.eval (⟨d, .box e x, ty, pos, after, none⟩ : Oper)).run P w = .ok (.value (.pointer (some ⟨w.heap.size, 0, none⟩))) (w.alloc (.cells (a.eval x).cells e)) := by
      simp [execOp, Instr.box, newVar, newRow, newObj, Sem.run]
    unfold Oper.wp; rw [h]
    exact hK _ _ (k _ _ (Ext.ofAlloc _ _) (Blk.new _ _ _) (Nat.le_refl _))
/-- A slice literal of n elements: a new row. -/
theorem q_bslice {t e : TypeId} {n : Nat} {parts : Array (Nat × Operand)} {cs : Array Value} (h : (Instr.buildSlice t n (parts.map fun (i, x) => (i, a.eval x))).run P w = .ok (.slice (some ⟨w.heap.size, 0, none⟩) n n) (w.alloc (.cells cs e)))
    (k : ∀ W g, Ext w W → Blk W g e cs → w.heap.size ≤ g → wpList P ops Q rest (a.put d (.slice (some ⟨g, 0, none⟩) n n)) W) :
    wpList P ops Q (⟨d, .buildSlice t n parts, ty, pos, after, none⟩ :: rest) a w :=
  wpList_plain rfl fun K hK => by
    have h' : (execOp a.eval (⟨d, .buildSlice t n parts, ty, pos, after, none⟩ : Oper)).run P w = .ok (.value (.slice (some ⟨w.heap.size, 0, none⟩) n n)) (w.alloc (.cells cs e)) := by
      simp [execOp, h]
    unfold Oper.wp; rw [h']
    exact hK _ _ (k _ _ (Ext.ofAlloc _ _) (Blk.new _ _ _) (Nat.le_refl _))
theorem run_bslice1 (P : Program) (w : World) {t e : TypeId} {v z : Value} (ht : P.underlying t = some (.slice e)) (hi : (P.info? e).map (fun i => (i.zero, i.size)) = some (some z, 1)) (hz : z.cells.size = 1) (hv : v.cells = #[v]) :
    (Instr.buildSlice t 1 #[(0, v)]).run P w = .ok (.slice (some ⟨w.heap.size, 0, none⟩) 1 1) (w.alloc (.cells #[v] e)) := by
  cases h : P.info? e with
  | none => rw [h] at hi; cases hi
  | some i =>
    rw [h] at hi
    simp only [Option.map_some, Option.some.injEq, Prod.mk.injEq] at hi
    obtain ⟨h0, h1⟩ := hi
    cases i
    dsimp only at h0 h1
    subst h0 h1
    simp [Instr.buildSlice, run_underlying ht, sizeOf, typeInfo, zeroValue, h, Instr.fill, hz, hv, newRow, newObj, Sem.run, Array.range]
    congr 2

/-- append onto a row of the call's own. -/
theorem q_append {s x : Operand} {t e : TypeId} {z : Value} {size bytes : Nat} (ht : P.underlying t = some (.slice e)) (hi : (P.info? e).map (fun i => (i.zero, i.size, i.bytes)) = some (some z, size, bytes)) (hzs : z.cells.size = size) (hsz : 0 < size)
    {B : Nat} {v : Value} {n : Nat} {xs : List Value} (hs : a.eval s = v) (hown : w.ownsRow B e size v n xs)
    {A : Option Addr} {m c : Nat} {news : List Value} (hx : a.eval x = .slice A m c) (hr : 0 < m → ∃ ad, A = some ad ∧ Cells w ad news) (hl : news.length = m * size) (h1 : ∀ u ∈ news, u.oneCell' = true)
    (hbytes : (n + m) * bytes ≤ 140737488355328) (h63 : n + m ≤ maxLen) (hB : B ≤ w.heap.size)
    (k : ∀ v' W, W.ownsRow B e size v' (n + m) (xs ++ news) → w.grownBy W v.ownBlock → (v'.ownBlock = v.ownBlock ∨ v'.ownBlock = some w.heap.size) → wpList P ops Q rest (a.put d v') W) :
    wpList P ops Q (⟨d, .call { callee := .builtin .append, args := #[s, x], argTypes := #[t, t] }, ty, pos, after, none⟩ :: rest) a w := by
  obtain ⟨i, hi0, hz, h2, h3⟩ := info_parts hi
  refine wpList_plain rfl fun K hK => ?_
  have key : ∃ v' w', (Builtin.append_ #[t, t] ty #[v, .slice A m c]).run P w = .ok v' w' ∧ w'.ownsRow B e size v' (n + m) (xs ++ news) ∧ w.grownBy w' v.ownBlock ∧
      (v'.ownBlock = v.ownBlock ∨ v'.ownBlock = some w.heap.size) := by
    by_cases hm : m = 0
    · subst hm
      have hn : news = [] := List.eq_nil_of_length_eq_zero (by simpa using hl)
      subst hn
      cases A with
      | some ad =>
        obtain ⟨v', w', hrun, h4, h5, _, h7⟩ := run_append_own_at (P := P) w B t ty e i z size bytes ht hi0 hz h2 h3 hzs hsz v n xs hown ad 0 c [] (by simp) (by simp) (by simp) h63 hbytes hB
        exact ⟨v', w', hrun, h4, h5, h7⟩
      | none =>
        refine ⟨v, w, ?_, by simpa using hown, World.grownBy.refl w _, .inl rfl⟩
        rcases hown.2 with ⟨rfl, rfl⟩ | ⟨g, cap, cur, rfl, _, _, hnc, _⟩
        · simp [Builtin.append_, run_underlying ht, sizeOf, typeInfo, hi0, Builtin.lenOf, Builtin.firstCells]
        · simp [Builtin.append_, run_underlying ht, sizeOf, typeInfo, hi0, Builtin.lenOf, Builtin.firstCells, hnc, storeCells]
    · obtain ⟨ad, rfl, hc⟩ := hr (by omega)
      obtain ⟨v', w', hrun, h4, h5, _, h7⟩ := run_append_own_at (P := P) w B t ty e i z size bytes ht hi0 hz h2 h3 hzs hsz v n xs hown ad m c news hl hc h1 h63 hbytes hB
      exact ⟨v', w', hrun, h4, h5, h7⟩
  obtain ⟨v', w', hrun, h4, h5, h7⟩ := key
  unfold Oper.wp execOp
  simp only [resolve, invoke, builtin, Sem.run_bind, Sem.run_pure, Result.andThen_ok, List.map_toArray, List.map_cons, List.map_nil, hs, hx, hrun]
  exact hK _ _ (k v' w' h4 h5 h7)

/-- What an append leaves of all else: below B, and every block but the row's own. -/
theorem grown_ext {w W w0 : World} {B : Nat} {e : TypeId} {size n : Nat} {v : Value} {xs : List Value} (h : Below B w0 w) (hown : w.ownsRow B e size v n xs) (hg : w.grownBy W v.ownBlock) (hB : B ≤ w.heap.size) : Below B w0 W :=
  h.grown hg hB (fun k hk => (hown.lt k hk).1)
theorem Blk.notown {w : World} {g : Nat} {t : TypeId} {cs : Array Value} {B : Nat} {e : TypeId} {size n : Nat} {v : Value} {xs : List Value} (h : Blk w g t cs) (hown : w.ownsRow B e size v n xs) (hne : e ≠ t ∨ g < B) : some g ≠ v.ownBlock := by
  intro he
  rcases hown.2 with ⟨rfl, _⟩ | ⟨g', cap, cur, rfl, hb, hh, _⟩
  · simp [Value.ownBlock] at he
  · obtain rfl : g = g' := by simpa [Value.ownBlock] using he
    rcases hne with hne | hne
    · unfold Blk at h; rw [h] at hh; injection hh with hh; injection hh with _ ht; exact hne ht.symm
    · omega
theorem own_ext {w W : World} {B : Nat} {e : TypeId} {size n : Nat} {v : Value} {xs : List Value} (hown : w.ownsRow B e size v n xs) (h : Ext w W) : W.ownsRow B e size v n xs :=
  hown.kept (row := none) ⟨h.os, h.tape, h.output, h.size, fun k hk _ => h.block k hk⟩ (by cases hv : v.ownBlock <;> simp)
end
end Go.Bp
end
section
/- Plain Lean: what the functions of layer 10 compute. No program stands in it. -/
namespace Go.Bp
open Go.RowKit

structure Fault where
  name : ByteArray
  points : Int
  limit : Int
structure Code where
  faults : List Fault
  man : List ByteArray
  all : Int
structure Line where
  no : Int
  what : Int
  sum : Int
structure Sheet where
  lines : Int
  kept : List Line

def encI (xs : List Int) : List Value := xs.map (Value.int .i64)
def encS (xs : List ByteArray) : List Value := xs.map Value.string
def encF : List Fault → List Value
  | [] => []
  | f :: fs => .string f.name :: .int .i64 f.points :: .int .i64 f.limit :: encF fs
def encL : List Line → List Value
  | [] => []
  | x :: xs => .int .i64 x.no :: .int .i64 x.what :: .int .i64 x.sum :: encL xs

theorem encI_get (xs : List Int) (k : Nat) (h : k < xs.length) : (encI xs)[k]? = some (.int .i64 xs[k]) := by simp [encI, h]
theorem encS_get (xs : List ByteArray) (k : Nat) (h : k < xs.length) : (encS xs)[k]? = some (.string xs[k]) := by simp [encS, h]
theorem encI_len (xs : List Int) : (encI xs).length = xs.length := by simp [encI]
theorem encS_len (xs : List ByteArray) : (encS xs).length = xs.length := by simp [encS]
theorem encF_len (fs : List Fault) : (encF fs).length = fs.length * 3 := by
  induction fs with
  | nil => rfl
  | cons f fs ih => simp only [encF, List.length_cons, ih]; omega
theorem encL_len (fs : List Line) : (encL fs).length = fs.length * 3 := by
  induction fs with
  | nil => rfl
  | cons f fs ih => simp only [encL, List.length_cons, ih]; omega
theorem encF_get (fs : List Fault) : ∀ (k : Nat) (h : k < fs.length), (encF fs)[k * 3]? = some (.string fs[k].name) ∧ (encF fs)[k * 3 + 1]? = some (.int .i64 fs[k].points) ∧ (encF fs)[k * 3 + 2]? = some (.int .i64 fs[k].limit) := by
  induction fs with
  | nil => intro k h; simp at h
  | cons f fs ih =>
    intro k h
    cases k with
    | zero => simp [encF]
    | succ k =>
      have := ih k (by simpa using h)
      rw [show (k + 1) * 3 = k * 3 + 3 by omega]
      simpa [encF] using this
theorem encL_get (fs : List Line) : ∀ (k : Nat) (h : k < fs.length), (encL fs)[k * 3]? = some (.int .i64 fs[k].no) ∧ (encL fs)[k * 3 + 1]? = some (.int .i64 fs[k].what) ∧ (encL fs)[k * 3 + 2]? = some (.int .i64 fs[k].sum) := by
  induction fs with
  | nil => intro k h; simp at h
  | cons f fs ih =>
    intro k h
    cases k with
    | zero => simp [encL]
    | succ k =>
      have := ih k (by simpa using h)
      rw [show (k + 1) * 3 = k * 3 + 3 by omega]
      simpa [encL] using this
theorem encF_app (a b : List Fault) : encF (a ++ b) = encF a ++ encF b := by
  induction a with
  | nil => rfl
  | cons f fs ih => simp [encF, ih]
theorem encL_app (a b : List Line) : encL (a ++ b) = encL a ++ encL b := by
  induction a with
  | nil => rfl
  | cons f fs ih => simp [encL, ih]

/-- The typed slices. -/
def Ints (w : World) (v : Value) (xs : List Int) : Prop := Sl w 1 v xs.length (encI xs)
def Strs (w : World) (v : Value) (xs : List ByteArray) : Prop := Sl w 1 v xs.length (encS xs)
def Faults (w : World) (v : Value) (xs : List Fault) : Prop := Sl w 3 v xs.length (encF xs)
def Lines (w : World) (v : Value) (xs : List Line) : Prop := Sl w 3 v xs.length (encL xs)
theorem Ints.ext {w w' : World} {v : Value} {xs : List Int} (h : Ints w v xs) (e : Ext w w') : Ints w' v xs := Sl.ext h e
theorem Strs.ext {w w' : World} {v : Value} {xs : List ByteArray} (h : Strs w v xs) (e : Ext w w') : Strs w' v xs := Sl.ext h e
theorem Faults.ext {w w' : World} {v : Value} {xs : List Fault} (h : Faults w v xs) (e : Ext w w') : Faults w' v xs := Sl.ext h e
theorem Lines.ext {w w' : World} {v : Value} {xs : List Line} (h : Lines w v xs) (e : Ext w w') : Lines w' v xs := Sl.ext h e
/-- The structs by value. -/
def Code.names (c : Code) : List ByteArray := c.faults.map Fault.name ++ c.man
def Code.wf (c : Code) : Prop := ∀ s ∈ c.names, s.size ≤ maxLen
def CodeV (w : World) (v : Value) (c : Code) : Prop := ∃ fv mv, v = .agg #[fv, mv, .int .i64 c.all] ∧ Faults w fv c.faults ∧ Strs w mv c.man ∧ c.wf
def SheetV (w : World) (v : Value) (s : Sheet) : Prop := ∃ kv, v = .agg #[.int .i64 s.lines, kv] ∧ Lines w kv s.kept
theorem CodeV.of {w : World} {fv mv : Value} {c : Code} (h1 : Faults w fv c.faults) (h2 : Strs w mv c.man) (h3 : c.wf) : CodeV w (.agg #[fv, mv, .int .i64 c.all]) c := ⟨fv, mv, rfl, h1, h2, h3⟩
theorem SheetV.of {w : World} {kv : Value} {s : Sheet} (h : Lines w kv s.kept) : SheetV w (.agg #[.int .i64 s.lines, kv]) s := ⟨kv, rfl, h⟩
theorem CodeV.ext {w w' : World} {v : Value} {c : Code} (h : CodeV w v c) (e : Ext w w') : CodeV w' v c := by
  obtain ⟨fv, mv, hv, h1, h2, h3⟩ := h; exact ⟨fv, mv, hv, h1.ext e, h2.ext e, h3⟩
theorem SheetV.ext {w w' : World} {v : Value} {c : Sheet} (h : SheetV w v c) (e : Ext w w') : SheetV w' v c := by
  obtain ⟨kv, hv, h1⟩ := h; exact ⟨kv, hv, h1.ext e⟩

theorem Ints.d {w : World} {v : Value} {c : List Int} (h : Ints w v c) : Ints w.drew v c := h
theorem Strs.d {w : World} {v : Value} {c : List ByteArray} (h : Strs w v c) : Strs w.drew v c := h
theorem Faults.d {w : World} {v : Value} {c : List Fault} (h : Faults w v c) : Faults w.drew v c := h
theorem Lines.d {w : World} {v : Value} {c : List Line} (h : Lines w v c) : Lines w.drew v c := h
theorem CodeV.d {w : World} {v : Value} {c : Code} (h : CodeV w v c) : CodeV w.drew v c := h
theorem SheetV.d {w : World} {v : Value} {c : Sheet} (h : SheetV w v c) : SheetV w.drew v c := h

namespace Code
def things (c : Code) : Nat := c.faults.length + c.man.length
def pts (c : Code) (w : Int) : Int := if w < c.faults.length then (c.faults[w.toNat]?.map Fault.points).getD 0 else 0
def total (c : Code) (l : List Int) : Int := (l.map c.pts).sum
end Code

def inB (n lo hi : Int) : Bool := decide (lo ≤ n) && decide (n ≤ hi)
theorem inB_t {n lo hi : Int} : inB n lo hi = true ↔ lo ≤ n ∧ n ≤ hi := by simp [inB]
theorem inB_f {n lo hi : Int} : inB n lo hi = false ↔ n < lo ∨ hi < n := by simp only [inB, Bool.and_eq_false_iff, decide_eq_false_iff_not]; omega
def hasB (xs : List Int) (n : Int) : Bool := decide (n ∈ xs)
def numbers (m : Nat) : List Int := (List.range m).map fun i => ((i + 1 : Nat) : Int)
theorem numbers_len (m : Nat) : (numbers m).length = m := by simp [numbers]
theorem numbers_succ (m : Nat) : numbers (m + 1) = numbers m ++ [((m + 1 : Nat) : Int)] := by simp [numbers, List.range_succ]
theorem mem_numbers {m : Nat} {x : Int} : x ∈ numbers m ↔ 1 ≤ x ∧ x ≤ m := by
  simp only [numbers, List.mem_map, List.mem_range]
  constructor
  · rintro ⟨i, hi, rfl⟩; omega
  · intro h; exact ⟨(x - 1).toNat, by omega, by omega⟩
/-- The error of numbers that rise, for each of which p holds. -/
def risingFrom (p : Int → Bool) : Option Int → List Int → Int
  | _, [] => 0
  | prev, x :: xs => if p x = false then 4 else if prev.any (fun y => decide (x ≤ y)) = true then 2 else risingFrom p (some x) xs
def rising (p : Int → Bool) (l : List Int) : Int := risingFrom p none l
theorem rising_step (p : Int → Bool) (l : List Int) (k : Nat) (hk : k < l.length) (prev : Option Int) :
    risingFrom p prev (l.drop k) = if p l[k] = false then 4 else if prev.any (fun y => decide (l[k] ≤ y)) = true then 2 else risingFrom p (some l[k]) (l.drop (k + 1)) := by
  rw [List.drop_eq_getElem_cons hk]; rfl
/-- What stands ahead of place k. -/
def prevAt (l : List Int) (k : Nat) : Option Int := if k = 0 then none else l[k - 1]?

/-- A slice that the call itself has made and may append to. -/
def OwnI (B : Nat) (w : World) (v : Value) (xs : List Int) : Prop := w.ownsRow B 3 1 v xs.length (encI xs)
theorem OwnI.ext {B : Nat} {w w' : World} {v : Value} {xs : List Int} (h : OwnI B w v xs) (e : Ext w w') : OwnI B w' v xs := own_ext h e
theorem OwnI.ints {B : Nat} {w : World} {v : Value} {xs : List Int} (h : OwnI B w v xs) : Ints w v xs := Sl.of_own h
theorem OwnI.nil (B : Nat) (w : World) : OwnI B w (.slice none 0 0) [] := World.ownsRow_nil w B 3 1
def OwnS (B : Nat) (w : World) (v : Value) (xs : List ByteArray) : Prop := w.ownsRow B 9 1 v xs.length (encS xs)
theorem OwnS.ext {B : Nat} {w w' : World} {v : Value} {xs : List ByteArray} (h : OwnS B w v xs) (e : Ext w w') : OwnS B w' v xs := own_ext h e
theorem OwnS.strs {B : Nat} {w : World} {v : Value} {xs : List ByteArray} (h : OwnS B w v xs) : Strs w v xs := Sl.of_own h
theorem OwnS.nil (B : Nat) (w : World) : OwnS B w (.slice none 0 0) [] := World.ownsRow_nil w B 9 1
def OwnL (B : Nat) (w : World) (v : Value) (xs : List Line) : Prop := w.ownsRow B 99 3 v xs.length (encL xs)
theorem OwnL.ext {B : Nat} {w w' : World} {v : Value} {xs : List Line} (h : OwnL B w v xs) (e : Ext w w') : OwnL B w' v xs := own_ext h e
theorem OwnL.lines {B : Nat} {w : World} {v : Value} {xs : List Line} (h : OwnL B w v xs) : Lines w v xs := Sl.of_own h
theorem OwnL.nil (B : Nat) (w : World) : OwnL B w (.slice none 0 0) [] := World.ownsRow_nil w B 99 3

def nameCh (b : UInt8) : Bool := inB b.toNat 97 122 || inB b.toNat 48 57
def isName (s : ByteArray) : Bool := inB s.size 1 16 && (match s.data.toList with | [] => false | b :: _ => inB b.toNat 97 122) && s.data.toList.all nameCh
/-- The error of the name with an index. -/
def nameErr (l : List ByteArray) (i : Nat) : Int := if isName (l.getD i ByteArray.empty) = false then 6 else if l.getD i ByteArray.empty ∈ l.take i then 5 else 0
namespace Code
def pointsAt (c : Code) (i : Nat) : Int := (c.faults[i]?.map Fault.points).getD 0
def limitAt (c : Code) (i : Nat) : Int := (c.faults[i]?.map Fault.limit).getD 0
def errAt (c : Code) (i : Nat) : Int :=
  if nameErr c.names i ≠ 0 then nameErr c.names i
  else if i < c.faults.length ∧ ¬ (inB (c.pointsAt i) 0 20 = true ∧ inB (c.limitAt i) 0 12 = true) then 7 else 0
/-- Part, index and error of a code. -/
def check (c : Code) : Int × Int × Int :=
  if ¬ (inB c.faults.length 1 6 = true ∧ c.man.length ≤ 3) then (1, 0, 3) else
  match (List.range c.things).find? (fun i => c.errAt i != 0) with
  | some i => if i < c.faults.length then (2, i, c.errAt i) else (3, i - c.faults.length, c.errAt i)
  | none => if inB c.all 0 240 = true then (0, 0, 0) else (4, 0, 7)
theorem names_len (c : Code) : c.names.length = c.things := by simp [names, things]
end Code
theorem find_first {p : Nat → Bool} {n i : Nat} (hi : i < n) (hp : p i = true) (hb : ∀ j, j < i → p j = false) : (List.range n).find? p = some i := by
  rw [List.find?_eq_some_iff_append]
  refine ⟨hp, List.range i, (List.range' (i + 1) (n - i - 1)), ?_, ?_⟩
  · apply List.ext_getElem
    · simp; omega
    · intro j h1 h2
      simp only [List.getElem_range, List.getElem_append, List.length_range, List.getElem_cons, List.getElem_range']
      split
      · rfl
      · split <;> omega
  · intro a ha; simp at ha; simp [hb a ha]
theorem find_none {p : Nat → Bool} {n : Nat} (hb : ∀ j, j < n → p j = false) : (List.range n).find? p = none := by
  rw [List.find?_eq_none]; intro x hx; simp at hx; simp [hb x hx]

namespace Code
variable {c : Code}
theorem check_1 (h : ¬ (inB c.faults.length 1 6 = true ∧ c.man.length ≤ 3)) : c.check = (1, 0, 3) := by simp only [check]; rw [if_pos h]
theorem check_f (h : inB c.faults.length 1 6 = true) (h' : c.man.length ≤ 3) {i : Nat} (hi : i < c.faults.length) (he : c.errAt i ≠ 0) (hb : ∀ j, j < i → c.errAt j = 0) : c.check = (2, (i : Int), c.errAt i) := by
  simp only [check]
  rw [if_neg (by simp [h, h']), find_first (i := i) (by unfold things; omega) (by simpa using he) (fun j hj => by simp [hb j hj])]
  simp only []
  rw [if_pos hi]
theorem check_m (h : inB c.faults.length 1 6 = true) (h' : c.man.length ≤ 3) {i : Nat} (hi : i < c.man.length) (he : c.errAt (c.faults.length + i) ≠ 0) (hb : ∀ j, j < c.faults.length + i → c.errAt j = 0) : c.check = (3, (i : Int), c.errAt (c.faults.length + i)) := by
  simp only [check]
  rw [if_neg (by simp [h, h']), find_first (i := c.faults.length + i) (by unfold things; omega) (by simpa using he) (fun j hj => by simp [hb j hj])]
  simp only []
  rw [if_neg (by omega)]
  congr 1
  congr 1
  omega
theorem check_4 (h : inB c.faults.length 1 6 = true) (h' : c.man.length ≤ 3) (hb : ∀ j, j < c.things → c.errAt j = 0) (ha : inB c.all 0 240 = false) : c.check = (4, 0, 7) := by
  simp only [check]
  rw [if_neg (by simp [h, h']), find_none (fun j hj => by simp [hb j hj])]
  simp [ha]
theorem check_0 (h : inB c.faults.length 1 6 = true) (h' : c.man.length ≤ 3) (hb : ∀ j, j < c.things → c.errAt j = 0) (ha : inB c.all 0 240 = true) : c.check = (0, 0, 0) := by
  simp only [check]
  rw [if_neg (by simp [h, h']), find_none (fun j hj => by simp [hb j hj])]
  simp [ha]
theorem errAt_name {i : Nat} (h : nameErr c.names i ≠ 0) : c.errAt i = nameErr c.names i := by simp [errAt, h]
theorem errAt_range {i : Nat} (h : nameErr c.names i = 0) (hi : i < c.faults.length) (hr : inB c.faults[i].points 0 20 = false ∨ inB c.faults[i].limit 0 12 = false) : c.errAt i = 7 := by
  have : ¬ (inB c.faults[i].points 0 20 = true ∧ inB c.faults[i].limit 0 12 = true) := by rcases hr with h | h <;> simp [h]
  simp only [errAt, pointsAt, limitAt, hi, List.getElem?_eq_getElem, Option.map_some, Option.getD_some, h]
  simp only [ne_eq, not_true_eq_false, if_false, true_and]
  rw [if_pos this]
theorem errAt_ok {i : Nat} (h : nameErr c.names i = 0) (hi : i < c.faults.length) (h1 : inB c.faults[i].points 0 20 = true) (h2 : inB c.faults[i].limit 0 12 = true) : c.errAt i = 0 := by
  simp [errAt, h, pointsAt, limitAt, hi, h1, h2]
theorem errAt_man {i : Nat} (hi : ¬ i < c.faults.length) : c.errAt i = nameErr c.names i := by
  by_cases h : nameErr c.names i = 0 <;> simp [errAt, h, hi]
end Code
theorem nameErr_form {l : List ByteArray} {i : Nat} (h : isName (l.getD i ByteArray.empty) = false) : nameErr l i = 6 := by unfold nameErr; rw [if_pos h]
theorem nameErr_twice {l : List ByteArray} {i : Nat} (h : isName (l.getD i ByteArray.empty) = true) (h2 : l.getD i ByteArray.empty ∈ l.take i) : nameErr l i = 5 := by unfold nameErr; rw [if_neg (by rw [h]; simp), if_pos h2]
theorem nameErr_ok {l : List ByteArray} {i : Nat} (h : isName (l.getD i ByteArray.empty) = true) (h2 : l.getD i ByteArray.empty ∉ l.take i) : nameErr l i = 0 := by unfold nameErr; rw [if_neg (by rw [h]; simp), if_neg h2]
theorem getD_eq {l : List ByteArray} {i : Nat} (h : i < l.length) : l.getD i ByteArray.empty = l[i] := by simp [List.getD, h]

/-- The first index at which p holds; -1: there is none. -/
def idxP {α : Type} (p : α → Bool) (l : List α) : Int := match l.findIdx? p with | some i => i | none => -1
theorem idxP_at {α : Type} {p : α → Bool} {l : List α} {k : Nat} (hk : k < l.length) (hp : p l[k] = true) (hb : ∀ x ∈ l.take k, p x = false) : idxP p l = k := by
  unfold idxP
  rw [show l.findIdx? p = some k from ?_]
  rw [List.findIdx?_eq_some_iff_getElem]
  refine ⟨hk, hp, fun j hj => ?_⟩
  have := hb l[j] (by rw [List.mem_take_iff_getElem]; exact ⟨j, by omega, rfl⟩)
  simp [this]
theorem idxP_none {α : Type} {p : α → Bool} {l : List α} (hb : ∀ x ∈ l, p x = false) : idxP p l = -1 := by
  unfold idxP
  rw [List.findIdx?_eq_none_iff.2 (by intro x hx; simp [hb x hx])]
theorem idxP_ge {α : Type} (p : α → Bool) (l : List α) : decide (0 ≤ idxP p l) = l.any p := by
  unfold idxP
  cases h : l.findIdx? p with
  | none =>
    rw [List.findIdx?_eq_none_iff] at h
    have : l.any p = false := by rw [List.any_eq_false]; intro x hx; simp [h x hx]
    simp [this]
  | some i =>
    rw [List.findIdx?_eq_some_iff_getElem] at h
    obtain ⟨hi, hp, _⟩ := h
    have : l.any p = true := by rw [List.any_eq_true]; exact ⟨l[i], List.getElem_mem hi, hp⟩
    simp [this]
theorem not_mem_take_snoc {α : Type} {p : α → Bool} {l : List α} {k : Nat} (hk : k < l.length) (hb : ∀ x ∈ l.take k, p x = false) (hp : p l[k] = false) : ∀ x ∈ l.take (k + 1), p x = false := by
  intro x hx
  rw [take_snoc _ hk] at hx
  rcases List.mem_append.1 hx with h | h
  · exact hb x h
  · simp at h; rw [h]; exact hp
end Go.Bp
end
section
/- Loads of typed elements, at this program's type numbers. -/
set_option maxRecDepth 100000
namespace Go.Bp
open Go.RowKit Go.Proofs
theorem off_cell {w : World} {p : Addr} {j i : Nat} {u : Value} {cs : List Value} (h : Cells w p cs) (hi : i ≠ 0) (hu : cs[j + i]? = some u) :
    w.cell? ⟨(p.add j).block, (p.add j).off + i, none⟩ = some u := by
  have := h _ _ hu
  rw [← add_of_add] at this
  rw [← this]
  congr 1
  simp [Addr.add, hi]
section
variable {w : World} {ad : Addr} {k : Nat}
theorem ld_i {xs : List Int} (h : Cells w ad (encI xs)) (hk : k < xs.length) : (loadVar 3 (ad.add k)).run Tryz.prog w = .ok (.int .i64 xs[k]) w :=
  load_one Tryz.underlying3 rfl (h k _ (encI_get _ _ hk))
theorem ld_s {xs : List ByteArray} (h : Cells w ad (encS xs)) (hk : k < xs.length) : (loadVar 9 (ad.add k)).run Tryz.prog w = .ok (.string xs[k]) w :=
  load_one Tryz.underlying9 rfl (h k _ (encS_get _ _ hk))
theorem Cells.i {xs : List Int} (h : Cells w ad (encI xs)) (hk : k < xs.length) : w.cell? (ad.add k) = some (.int .i64 xs[k]) := h k _ (encI_get _ _ hk)
theorem Cells.s {xs : List ByteArray} (h : Cells w ad (encS xs)) (hk : k < xs.length) : w.cell? (ad.add k) = some (.string xs[k]) := h k _ (encS_get _ _ hk)
theorem ld_f0 {xs : List Fault} (h : Cells w ad (encF xs)) (hk : k < xs.length) : (loadVar 9 (ad.add (k * 3))).run Tryz.prog w = .ok (.string xs[k].name) w :=
  load_one Tryz.underlying9 rfl (h _ _ (encF_get _ _ hk).1)
theorem ld_f1 {xs : List Fault} (h : Cells w ad (encF xs)) (hk : k < xs.length) : (loadVar 3 ⟨(ad.add (k * 3)).block, (ad.add (k * 3)).off + 1, none⟩).run Tryz.prog w = .ok (.int .i64 xs[k].points) w :=
  load_one Tryz.underlying3 rfl (off_cell h (by decide) (encF_get _ _ hk).2.1)
theorem ld_f2 {xs : List Fault} (h : Cells w ad (encF xs)) (hk : k < xs.length) : (loadVar 3 ⟨(ad.add (k * 3)).block, (ad.add (k * 3)).off + 2, none⟩).run Tryz.prog w = .ok (.int .i64 xs[k].limit) w :=
  load_one Tryz.underlying3 rfl (off_cell h (by decide) (encF_get _ _ hk).2.2)
theorem ld_l0 {xs : List Line} (h : Cells w ad (encL xs)) (hk : k < xs.length) : (loadVar 3 (ad.add (k * 3))).run Tryz.prog w = .ok (.int .i64 xs[k].no) w :=
  load_one Tryz.underlying3 rfl (h _ _ (encL_get _ _ hk).1)
theorem sub3 {cs : List Value} {a b c : Value} (h : Cells w ad cs) (h0 : cs[k * 3]? = some a) (h1 : cs[k * 3 + 1]? = some b) (h2 : cs[k * 3 + 2]? = some c) : Cells w (ad.add (k * 3)) [a, b, c] := by
  intro j u hu
  rw [add_of_add]
  refine h _ _ ?_
  match j, hu with
  | 0, hu => simpa [h0] using hu
  | 1, hu => simpa [h1] using hu
  | 2, hu => simpa [h2] using hu
theorem size_of {P : Program} {t n : Nat} (h : (P.info? t).map TypeInfo.size = some n) : ∃ i, P.info? t = some i ∧ i.size = n := by
  cases hi : P.info? t with
  | none => rw [hi] at h; cases h
  | some i => rw [hi] at h; exact ⟨i, rfl, by simpa using h⟩
theorem size74 : (Tryz.prog.info? 74).map TypeInfo.size = some 3 := by kernel_rfl
theorem size99 : (Tryz.prog.info? 99).map TypeInfo.size = some 3 := by kernel_rfl
theorem info74 : ∃ i, Tryz.prog.info? 74 = some i ∧ i.size = 3 := size_of size74
theorem info99 : ∃ i, Tryz.prog.info? 99 = some i ∧ i.size = 3 := size_of size99
theorem ld_f {xs : List Fault} (h : Cells w ad (encF xs)) (hk : k < xs.length) : (loadVar 74 (ad.add (k * 3))).run Tryz.prog w = .ok (.agg #[.string xs[k].name, .int .i64 xs[k].points, .int .i64 xs[k].limit]) w := by
  obtain ⟨h0, h1, h2⟩ := encF_get xs k hk
  obtain ⟨i, hi, hs⟩ := info74
  exact load_struct Tryz.underlying74 hi hs (sub3 h h0 h1 h2)
theorem ld_l {xs : List Line} (h : Cells w ad (encL xs)) (hk : k < xs.length) : (loadVar 99 (ad.add (k * 3))).run Tryz.prog w = .ok (.agg #[.int .i64 xs[k].no, .int .i64 xs[k].what, .int .i64 xs[k].sum]) w := by
  obtain ⟨h0, h1, h2⟩ := encL_get xs k hk
  obtain ⟨i, hi, hs⟩ := info99
  exact load_struct Tryz.underlying99 hi hs (sub3 h h0 h1 h2)
end

theorem ti3 : (Tryz.prog.info? 3).map (fun i => (i.zero, i.size, i.bytes)) = some (some (.int .i64 0), 1, 8) := by kernel_rfl
theorem ti9 : (Tryz.prog.info? 9).map (fun i => (i.zero, i.size, i.bytes)) = some (some (.string ByteArray.empty), 1, 16) := by kernel_rfl
theorem ti26 : (Tryz.prog.info? 26).map (fun i => (i.zero, i.size, i.bytes)) = some (some (.slice none 0 0), 1, 24) := by kernel_rfl
theorem ti99 : (Tryz.prog.info? 99).map (fun i => (i.zero, i.size, i.bytes)) = some (some (.agg #[.int .i64 0, .int .i64 0, .int .i64 0]), 3, 24) := by kernel_rfl
theorem ti74 : (Tryz.prog.info? 74).map (fun i => (i.zero, i.size, i.bytes)) = some (some (.agg #[.string ByteArray.empty, .int .i64 0, .int .i64 0]), 3, 32) := by kernel_rfl
theorem ti2 {P : Program} {e : TypeId} {z : Value} {s b : Nat} (h : (P.info? e).map (fun i => (i.zero, i.size, i.bytes)) = some (some z, s, b)) : (P.info? e).map (fun i => (i.zero, i.size)) = some (some z, s) := by
  cases hi : P.info? e with
  | none => rw [hi] at h; cases h
  | some i => rw [hi] at h; simp at h ⊢; exact ⟨h.1, h.2.1⟩
section
variable {ops : Array Oper} {Q : Exit → Act → World → Prop} {a : Act} {w : World} {rest : List Oper}
variable {d : Option Tmp} {ty : TypeId} {pos : String} {after : Array Edge}
theorem q_bs1 {P : Program} {t e : TypeId} {x : Operand} {z : Value} {b : Nat} (ht : P.underlying t = some (.slice e)) (hi : (P.info? e).map (fun i => (i.zero, i.size, i.bytes)) = some (some z, 1, b)) (hz : z.cells.size = 1) (hv : (a.eval x).cells = #[a.eval x])
    (k : ∀ W g, Ext w W → Blk W g e #[a.eval x] → w.heap.size ≤ g → wpList P ops Q rest (a.put d (.slice (some ⟨g, 0, none⟩) 1 1)) W) :
    wpList P ops Q (⟨d, .buildSlice t 1 #[(0, x)], ty, pos, after, none⟩ :: rest) a w :=
  q_bslice (by have := run_bslice1 P w (v := a.eval x) ht (ti2 hi) hz hv; simpa using this) k
theorem q_bsI {x : Operand} {n : Int} (hx : a.eval x = .int .i64 n)
    (k : ∀ W g, Ext w W → Blk W g 3 #[.int .i64 n] → w.heap.size ≤ g → wpList Tryz.prog ops Q rest (a.put d (.slice (some ⟨g, 0, none⟩) 1 1)) W) :
    wpList Tryz.prog ops Q (⟨d, .buildSlice 26 1 #[(0, x)], ty, pos, after, none⟩ :: rest) a w :=
  q_bs1 Tryz.underlying26 ti3 rfl (by rw [hx]; rfl) (by rw [hx]; exact k)
theorem q_bsS {x : Operand} {n : ByteArray} (hx : a.eval x = .string n)
    (k : ∀ W g, Ext w W → Blk W g 9 #[.string n] → w.heap.size ≤ g → wpList Tryz.prog ops Q rest (a.put d (.slice (some ⟨g, 0, none⟩) 1 1)) W) :
    wpList Tryz.prog ops Q (⟨d, .buildSlice 23 1 #[(0, x)], ty, pos, after, none⟩ :: rest) a w :=
  q_bs1 Tryz.underlying23 ti9 rfl (by rw [hx]; rfl) (by rw [hx]; exact k)
/-- 'out = append(out, n)', out []int. -/
theorem q_appI {s x : Operand} {B g : Nat} {v : Value} {xs : List Int} {n : Int} (hs : a.eval s = v) (hO : OwnI B w v xs) (hx : a.eval x = .slice (some ⟨g, 0, none⟩) 1 1) (hb : Blk w g 3 #[.int .i64 n]) (hlen : xs.length ≤ 1000000000) (hB : B ≤ w.heap.size)
    (k : ∀ v' W, OwnI B W v' (xs ++ [n]) → (∀ w0, Below B w0 w → Below B w0 W) → w.grownBy W v.ownBlock → wpList Tryz.prog ops Q rest (a.put d v') W) :
    wpList Tryz.prog ops Q (⟨d, .call { callee := .builtin .append, args := #[s, x], argTypes := #[26, 26] }, ty, pos, after, none⟩ :: rest) a w := by
  refine q_append Tryz.underlying26 ti3 rfl (by decide) hs hO hx (fun _ => ⟨_, rfl, hb.cells⟩) (by simp) (by simp [Value.oneCell']) (by omega) (by unfold maxLen; omega) hB ?_
  intro v' W h1 h2 _
  refine k v' W ?_ (fun w0 h0 => grown_ext h0 hO h2 hB) h2
  unfold OwnI
  simpa [encI] using h1
/-- 'out = append(out, s)', out []string. -/
theorem q_appS {s x : Operand} {B g : Nat} {v : Value} {xs : List ByteArray} {n : ByteArray} (hs : a.eval s = v) (hO : OwnS B w v xs) (hx : a.eval x = .slice (some ⟨g, 0, none⟩) 1 1) (hb : Blk w g 9 #[.string n]) (hlen : xs.length ≤ 1000000000) (hB : B ≤ w.heap.size)
    (k : ∀ v' W, OwnS B W v' (xs ++ [n]) → (∀ w0, Below B w0 w → Below B w0 W) → w.grownBy W v.ownBlock → wpList Tryz.prog ops Q rest (a.put d v') W) :
    wpList Tryz.prog ops Q (⟨d, .call { callee := .builtin .append, args := #[s, x], argTypes := #[23, 23] }, ty, pos, after, none⟩ :: rest) a w := by
  refine q_append Tryz.underlying23 ti9 rfl (by decide) hs hO hx (fun _ => ⟨_, rfl, hb.cells⟩) (by simp) (by simp [Value.oneCell']) (by omega) (by unfold maxLen; omega) hB ?_
  intro v' W h1 h2 _
  refine k v' W ?_ (fun w0 h0 => grown_ext h0 hO h2 hB) h2
  unfold OwnS
  simpa [encS] using h1
/-- 'append(out, more...)', []string. -/
theorem q_appSS {s x : Operand} {B : Nat} {v u : Value} {xs ys : List ByteArray} (hs : a.eval s = v) (hO : OwnS B w v xs) (hx : a.eval x = u) (hu : Strs w u ys) (hlen : xs.length + ys.length ≤ 1000000000) (hB : B ≤ w.heap.size)
    (k : ∀ v' W, OwnS B W v' (xs ++ ys) → (∀ w0, Below B w0 w → Below B w0 W) → w.grownBy W v.ownBlock → wpList Tryz.prog ops Q rest (a.put d v') W) :
    wpList Tryz.prog ops Q (⟨d, .call { callee := .builtin .append, args := #[s, x], argTypes := #[23, 23] }, ty, pos, after, none⟩ :: rest) a w := by
  obtain ⟨A, c, rfl, h1, h2, h3, h4⟩ := hu
  refine q_append Tryz.underlying23 ti9 rfl (by decide) hs hO hx h4 h3 ?_ (by omega) (by unfold maxLen; omega) hB ?_
  · intro u hu; simp [encS] at hu; obtain ⟨b, _, rfl⟩ := hu; rfl
  intro v' W h1 h2 _
  refine k v' W ?_ (fun w0 h0 => grown_ext h0 hO h2 hB) h2
  unfold OwnS
  simpa [encS] using h1
theorem q_appII {s x : Operand} {B : Nat} {v u : Value} {xs ys : List Int} (hs : a.eval s = v) (hO : OwnI B w v xs) (hx : a.eval x = u) (hu : Ints w u ys) (hlen : xs.length + ys.length ≤ 1000000000) (hB : B ≤ w.heap.size)
    (k : ∀ v' W, OwnI B W v' (xs ++ ys) → (∀ w0, Below B w0 w → Below B w0 W) → w.grownBy W v.ownBlock → wpList Tryz.prog ops Q rest (a.put d v') W) :
    wpList Tryz.prog ops Q (⟨d, .call { callee := .builtin .append, args := #[s, x], argTypes := #[26, 26] }, ty, pos, after, none⟩ :: rest) a w := by
  obtain ⟨A, c, rfl, h1, h2, h3, h4⟩ := hu
  refine q_append Tryz.underlying26 ti3 rfl (by decide) hs hO hx h4 h3 ?_ (by omega) (by unfold maxLen; omega) hB ?_
  · intro u hu; simp [encI] at hu; obtain ⟨b, _, rfl⟩ := hu; rfl
  intro v' W h1 h2 _
  refine k v' W ?_ (fun w0 h0 => grown_ext h0 hO h2 hB) h2
  unfold OwnI
  simpa [encI] using h1
end
end Go.Bp
end
section
set_option maxRecDepth 100000
set_option linter.unusedSimpArgs false
set_option linter.unusedVariables false
namespace Go.Bp
open Go.RowKit Go.Proofs
theorem in_any (n lo hi : Int) (w : World) : Calls Tryz.prog 56 #[.int .i64 n, .int .i64 lo, .int .i64 hi] w fun e w' => e = .returned (.bool (inB n lo hi)) ∧ w = w' := by
  unfold inB
  go_enter Tryz.func56, Tryz.ntmps56
  go_wp2
  all_goals (go_ret; exact ⟨by simp; omega, rfl⟩)
theorem in1_any (n lo hi : Int) (w : World) : Calls Tryz.prog 121 #[.int .i64 n, .int .i64 lo, .int .i64 hi] w fun e w' => e = .returned (.bool (inB n lo hi)) ∧ w = w' := by
  unfold inB
  go_enter Tryz.func121, Tryz.ntmps121
  go_wp2
  all_goals (go_ret; exact ⟨by simp; omega, rfl⟩)
theorem things_any (cv : Value) (c : Code) (w : World) (h : CodeV w cv c) (hb : c.faults.length ≤ 1000000 ∧ c.man.length ≤ 1000000) : Calls Tryz.prog 97 #[cv] w fun e w' => e = .returned (.int .i64 c.things) ∧ Ext w w' := by
  obtain ⟨fv, mv, rfl, ⟨A, cp, rfl, h1, h2, h3, h4⟩, ⟨A', cp', rfl, h1', h2', h3', h4'⟩, hW⟩ := h
  obtain ⟨hb1, hb2⟩ := hb
  clear h3 h4 h3' h4'
  unfold maxLen at h2 h2'
  have hE := Ext.refl w
  go_enter Tryz.func97, Tryz.ntmps97
  go_wp2_with (first | ((with_reducible refine q_box (d := some 1) ?_); intro W1 g1 hE1 hB1 hg1; simp [Act.eval, Act.put, Value.cells] at hB1; (try replace hE := hE.trans hE1); (try replace hB1 := hB1.ext hE1); (try replace hb1_0 := Ext.cell_some hE1 hb1_0); (try replace hb1_1 := Ext.cell_some hE1 hb1_1); (try replace hb1_2 := Ext.cell_some hE1 hb1_2); have hb1_0 := hB1.cell 0; have hb1_1 := hB1.cell 1; have hb1_2 := hB1.cell 2; simp at hb1_0 hb1_1 hb1_2; clear hE1))
  go_ret
  exact ⟨by simp [Code.things], hE⟩
theorem Has_any (v : Value) (xs : List Int) (n : Int) (w : World) (h : Ints w v xs) :
    Calls Tryz.prog 49 #[v, .int .i64 n] w fun e w' => e = .returned (.bool (hasB xs n)) ∧ w = w' := by
  obtain ⟨A, c, rfl, h1, h2, h3, h4⟩ := h
  unfold maxLen at h2
  unfold hasB
  clear h3
  go_enter Tryz.func49, Tryz.ntmps49
  go_wp2
  go_loop [5] (fun i => ∃ k : Nat, k ≤ xs.length ∧ i = .int .i64 k ∧ n ∉ xs.take k) (fun i => xs.length - (intOf i).toNat)
  case atStart => exact ⟨0, by omega, rfl, by simp⟩
  case round =>
    obtain ⟨k, hk, rfl, hn⟩ := hrel
    by_cases hlt : k < xs.length
    · obtain ⟨ad, rfl, hc⟩ := h4 (by omega)
      have e1 := hc.i hlt
      clear h4
      go_wp2
      · go_ret
        have he : (xs[k] == n) = true := by assumption
        exact ⟨by simp at he; simp [← he], rfl⟩
      · have he : (xs[k] == n) = false := by assumption
        go_round
        case rel =>
          refine ⟨k + 1, by omega, by go_num, ?_⟩
          rw [take_snoc _ hlt]
          exact not_mem_snoc hn (fun e => by simp [e] at he)
        case measure => simp [intOf]; omega
    · go_wp2
      go_ret
      obtain rfl : k = xs.length := by omega
      exact ⟨by simpa using hn, rfl⟩
theorem Ints_any (v u : Value) (xs ys : List Int) (w : World) (h : Ints w v xs) (h' : Ints w u ys) :
    Calls Tryz.prog 23 #[v, u] w fun e w' => e = .returned (.bool (decide (xs = ys))) ∧ Ext w w' := by
  obtain ⟨A, c, rfl, h1, h2, h3, h4⟩ := h
  obtain ⟨A', c', rfl, h1', h2', h3', h4'⟩ := h'
  unfold maxLen at h2 h2'
  clear h3 h3'
  by_cases hl : xs.length = ys.length
  · have hl1 : ((xs.length : Int) != (ys.length : Int)) = false := by simp [hl]
    go_enter Tryz.func23, Tryz.ntmps23
    have Hl := Lib.hid hl
    clear hl
    go_wp2
    go_loopw [5] (fun i wr => Ext w wr ∧ ∃ k : Nat, k ≤ xs.length ∧ i = .int .i64 k ∧ xs.take k = ys.take k) (fun i _ => xs.length - (intOf i).toNat)
    case atStart => exact ⟨Ext.refl _, 0, by omega, rfl, by simp⟩
    case round =>
      obtain ⟨hE, k, hk, rfl, hn⟩ := hrel
      have Hn := Lib.hid hn
      clear hn
      by_cases hlt : k < xs.length
      · obtain ⟨ad, rfl, hc⟩ := h4 (by omega)
        have hlt' : k < ys.length := by rw [← Hl.out]; exact hlt
        obtain ⟨ad', rfl, hc'⟩ := h4' (by omega)
        have e1 := (hc.ext hE).i hlt
        have e2 := (hc'.ext hE).i hlt'
        clear h4 h4' hc hc'
        go_wp2
        go_quiet (fail)
        go_wp2
        · go_ret
          have he : (xs[k] != ys[k]) = true := by assumption
          refine ⟨?_, hE.drewN _⟩
          have hne : xs ≠ ys := fun e => by subst e; simp at he
          simp [hne]
        · have he : (xs[k] != ys[k]) = false := by assumption
          go_roundw
          case rel =>
            refine ⟨hE.drewN _, k + 1, by omega, by go_num, ?_⟩
            rw [take_snoc _ hlt, take_snoc _ hlt', Hn.out]
            simp at he
            rw [he]
          case measure => simp [intOf]; omega
      · go_wp2
        go_ret
        obtain rfl : k = xs.length := by omega
        have this := Hn.out
        rw [List.take_length, Hl.out, List.take_length] at this
        exact ⟨by simp [this], hE⟩
  · have hl1 : ((xs.length : Int) != (ys.length : Int)) = true := by rw [bne_iff_ne]; omega
    go_enter Tryz.func23, Tryz.ntmps23
    have Hl := Lib.hid hl
    clear hl
    go_wp2
    go_ret
    exact ⟨by simp; intro e; exact Hl.out (by rw [e]), Ext.refl w⟩
end Go.Bp
end
section
set_option maxRecDepth 100000
set_option linter.unusedSimpArgs false
set_option linter.unusedVariables false
namespace Go.Bp
open Go.RowKit Go.Proofs
end Go.Bp
end
section
set_option maxRecDepth 100000
set_option linter.unusedSimpArgs false
set_option linter.unusedVariables false
namespace Go.Bp
open Go.RowKit Go.Proofs
theorem isName_nil {s : ByteArray} (h : inB s.size 1 16 = false) : isName s = false := by simp [isName, h]
theorem isName_hd {s : ByteArray} (h0 : 0 < s.size) (h : inB s[0].toNat 97 122 = false) : isName s = false := by
  unfold isName
  cases hl : s.data.toList with
  | nil => simp
  | cons b r =>
    have : s[0] = b := by
      have : s.data.toList[0]'(by rw [hl]; simp) = b := by simp [hl]
      show s.data[0] = b; simpa using this
    rw [this] at h; simp [h]
theorem isName_ch {s : ByteArray} {k : Nat} (hk : k < s.size) (h : nameCh s[k] = false) : isName s = false := by
  unfold isName
  have : s.data.toList.all nameCh = false := by
    rw [List.all_eq_false]
    exact ⟨s[k], by rw [List.mem_iff_getElem]; exact ⟨k, by simpa using hk, rfl⟩, by simp [h]⟩
  simp [this]
theorem isName_yes {s : ByteArray} (h1 : inB s.size 1 16 = true) (h0 : 0 < s.size) (h : inB s[0].toNat 97 122 = true) (ha : ∀ k (hk : k < s.size), nameCh s[k] = true) : isName s = true := by
  unfold isName
  cases hl : s.data.toList with
  | nil =>
    have : s.data.toList.length = 0 := by rw [hl]; rfl
    rw [Array.length_toList] at this; exact absurd h0 (by show ¬ 0 < s.data.size; omega)
  | cons b r =>
    have hb : s[0] = b := by
      have : s.data.toList[0]'(by rw [hl]; simp) = b := by simp [hl]
      show s.data[0] = b; simpa using this
    have : (b :: r).all nameCh = true := by
      rw [← hl, List.all_eq_true]
      intro x hx
      obtain ⟨k, hk, rfl⟩ := List.mem_iff_getElem.1 hx
      exact ha k (by simpa using hk)
    rw [hb] at h
    simp only [h1, h, this, Bool.and_self]
set_option maxHeartbeats 1000000 in
theorem Name1_any (s : ByteArray) (w : World) (hs : s.size ≤ maxLen) : Calls Tryz.prog 99 #[.string s] w fun e w' => e = .returned (.bool (isName s)) ∧ w = w' := by
  unfold maxLen at hs
  by_cases h1 : inB s.size 1 16 = true
  · have hz := inB_t.1 h1
    obtain ⟨hz1, hz2⟩ := hz
    have hb0 : s[0].toNat < 256 := UInt8.toNat_lt _
    by_cases h2 : inB s[0].toNat 97 122 = true
    · go_enter Tryz.func99, Tryz.ntmps99
      go_wp2_with (go_at_call 121; refine (in1_any _ _ _ _).mono ?_; rintro e w' ⟨rfl, rfl⟩)
      go_loop [3] (fun i => ∃ k : Nat, k ≤ s.size ∧ i = .int .i64 k ∧ ∀ j (hj : j < s.size), j < k → nameCh s[j] = true) (fun i => s.size - (intOf i).toNat)
      case atStart => exact ⟨0, by omega, rfl, by omega⟩
      case round =>
        obtain ⟨k, hk, rfl, hn⟩ := hrel
        have Hn := Lib.hid hn
        clear hn
        by_cases hlt : k < s.size
        · have hbk : s[k].toNat < 256 := UInt8.toNat_lt _
          by_cases h3 : inB s[k].toNat 97 122 = true
          · go_wp2_with (go_at_call 121; refine (in1_any _ _ _ _).mono ?_; rintro e w' ⟨rfl, rfl⟩)
            go_round
            case rel => exact ⟨k + 1, by omega, by go_num, fun j hj hjk => by by_cases e : j = k; · subst e; simp [nameCh, h3]
                                                                              · exact Hn.out j hj (by omega)⟩
            case measure => simp [intOf]; omega
          · simp only [Bool.not_eq_true] at h3
            by_cases h4 : inB s[k].toNat 48 57 = true
            · go_wp2_with (go_at_call 121; refine (in1_any _ _ _ _).mono ?_; rintro e w' ⟨rfl, rfl⟩)
              go_round
              case rel => exact ⟨k + 1, by omega, by go_num, fun j hj hjk => by by_cases e : j = k; · subst e; simp [nameCh, h4]
                                                                                · exact Hn.out j hj (by omega)⟩
              case measure => simp [intOf]; omega
            · simp only [Bool.not_eq_true] at h4
              have hf := isName_ch hlt (by simp [nameCh, h3, h4])
              go_wp2_with (go_at_call 121; refine (in1_any _ _ _ _).mono ?_; rintro e w' ⟨rfl, rfl⟩)
              go_ret
              exact ⟨by simp [hf], rfl⟩
        · go_wp2
          go_ret
          have := isName_yes h1 (by omega) h2 (fun j hj => Hn.out j hj (by omega))
          exact ⟨by simp [this], rfl⟩
    · simp only [Bool.not_eq_true] at h2
      have hf := isName_hd (by omega) h2
      go_enter Tryz.func99, Tryz.ntmps99
      go_wp2_with (go_at_call 121; refine (in1_any _ _ _ _).mono ?_; rintro e w' ⟨rfl, rfl⟩)
      go_ret
      exact ⟨by simp [hf], rfl⟩
  · simp only [Bool.not_eq_true] at h1
    have hf := isName_nil h1
    go_enter Tryz.func99, Tryz.ntmps99
    go_wp2_with (go_at_call 121; refine (in1_any _ _ _ _).mono ?_; rintro e w' ⟨rfl, rfl⟩)
    go_ret
    exact ⟨by simp [hf], rfl⟩
end Go.Bp
end
section
set_option maxRecDepth 100000
set_option linter.unusedSimpArgs false
set_option linter.unusedVariables false
namespace Go.Bp
open Go.RowKit Go.Proofs
/-- slices.Index over strings. -/
theorem IndexS_any (v : Value) (xs : List ByteArray) (s : ByteArray) (w : World) (h : Strs w v xs) :
    Calls Tryz.prog 93 #[v, .string s] w fun e w' => e = .returned (.int .i64 (idxP (fun x => decide (s = x)) xs)) ∧ w = w' := by
  obtain ⟨A, c, rfl, h1, h2, h3, h4⟩ := h
  unfold maxLen at h2
  clear h3
  go_enter Tryz.func93, Tryz.ntmps93
  go_wp2
  go_loop [8] (fun i => ∃ k : Nat, k ≤ xs.length ∧ i = .int .i64 k ∧ ∀ x ∈ xs.take k, decide (s = x) = false) (fun i => xs.length - (intOf i).toNat)
  case atStart => exact ⟨0, by omega, rfl, by simp⟩
  case round =>
    obtain ⟨k, hk, rfl, hn⟩ := hrel
    have Hn := Lib.hid hn
    clear hn
    by_cases hlt : k < xs.length
    · obtain ⟨ad, rfl, hc⟩ := h4 (by omega)
      have e1 := hc.s hlt
      clear h4 hc
      by_cases he : s = xs[k]
      · have hbe : (s.toList == xs[k].toList) = true := by rw [ba_tl]; simp [he]
        have hr := idxP_at hlt (by simp [he]) Hn.out
        have Hr := Lib.hid hr
        clear hr
        have He := Lib.hid he
        clear he
        go_wp2
        go_ret
        exact ⟨ret_i Hr.out.symm, rfl⟩
      · have hbe : (s.toList == xs[k].toList) = false := by rw [ba_tl]; simp [he]
        have He := Lib.hid he
        clear he
        go_wp2
        go_round
        case rel => exact ⟨k + 1, by omega, by go_num, not_mem_take_snoc hlt Hn.out (by simp [He.out])⟩
        case measure => simp [intOf]; omega
    · go_wp2
      go_ret
      obtain rfl : k = xs.length := by omega
      have := Hn.out
      rw [List.take_length] at this
      exact ⟨ret_i (idxP_none this).symm, rfl⟩
theorem ContainsS_any (v : Value) (xs : List ByteArray) (s : ByteArray) (w : World) (h : Strs w v xs) :
    Calls Tryz.prog 55 #[v, .string s] w fun e w' => e = .returned (.bool (xs.any fun x => decide (s = x))) ∧ w = w' := by
  have hg := idxP_ge (fun x => decide (s = x)) xs
  have Hg := Lib.hid hg
  clear hg
  go_enter Tryz.func55, Tryz.ntmps55
  go_wp2_with (go_at_call 93; refine (IndexS_any _ _ _ _ h).mono ?_; rintro e w' ⟨rfl, rfl⟩)
  go_ret
  exact ⟨ret_b Hg.out, rfl⟩
/-- slices.Index over ints. -/
theorem IndexI_any (v : Value) (xs : List Int) (s : Int) (w : World) (h : Ints w v xs) :
    Calls Tryz.prog 106 #[v, .int .i64 s] w fun e w' => e = .returned (.int .i64 (idxP (fun x => decide (s = x)) xs)) ∧ w = w' := by
  obtain ⟨A, c, rfl, h1, h2, h3, h4⟩ := h
  unfold maxLen at h2
  clear h3
  go_enter Tryz.func106, Tryz.ntmps106
  go_wp2
  go_loop [8] (fun i => ∃ k : Nat, k ≤ xs.length ∧ i = .int .i64 k ∧ ∀ x ∈ xs.take k, decide (s = x) = false) (fun i => xs.length - (intOf i).toNat)
  case atStart => exact ⟨0, by omega, rfl, by simp⟩
  case round =>
    obtain ⟨k, hk, rfl, hn⟩ := hrel
    have Hn := Lib.hid hn
    clear hn
    by_cases hlt : k < xs.length
    · obtain ⟨ad, rfl, hc⟩ := h4 (by omega)
      have e1 := hc.i hlt
      clear h4 hc
      by_cases he : s = xs[k]
      · have hbe : (s == xs[k]) = true := by simp [he]
        have hr := idxP_at (p := fun x => decide (s = x)) hlt (by simp [he]) Hn.out
        have Hr := Lib.hid hr
        clear hr
        have He := Lib.hid he
        clear he
        go_wp2
        go_ret
        exact ⟨ret_i Hr.out.symm, rfl⟩
      · have hbe : (s == xs[k]) = false := by simp [he]
        have He := Lib.hid he
        clear he
        go_wp2
        go_round
        case rel => exact ⟨k + 1, by omega, by go_num, not_mem_take_snoc hlt Hn.out (by simp [He.out])⟩
        case measure => simp [intOf]; omega
    · go_wp2
      go_ret
      obtain rfl : k = xs.length := by omega
      have := Hn.out
      rw [List.take_length] at this
      exact ⟨ret_i (idxP_none this).symm, rfl⟩
theorem ContainsI_any (v : Value) (xs : List Int) (s : Int) (w : World) (h : Ints w v xs) :
    Calls Tryz.prog 70 #[v, .int .i64 s] w fun e w' => e = .returned (.bool (xs.any fun x => decide (s = x))) ∧ w = w' := by
  have hg := idxP_ge (fun x => decide (s = x)) xs
  have Hg := Lib.hid hg
  clear hg
  go_enter Tryz.func70, Tryz.ntmps70
  go_wp2_with (go_at_call 106; refine (IndexI_any _ _ _ _ h).mono ?_; rintro e w' ⟨rfl, rfl⟩)
  go_ret
  exact ⟨ret_b Hg.out, rfl⟩
/-- A function of ints that answers p, from w on. -/
def Pred (w : World) (F : FuncId) (cap : Array Value) (p : Int → Bool) (xs : List Int) : Prop :=
  ∀ x ∈ xs, ∀ W, Ext w W → Calls Tryz.prog F (#[.int .i64 x] ++ cap) W fun e W' => e = .returned (.bool (p x)) ∧ Ext W W'
set_option maxHeartbeats 400000 in
theorem IndexFunc_any (F : FuncId) (cap : Array Value) (p : Int → Bool) (v : Value) (xs : List Int) (w : World) (h : Ints w v xs)
    (hF : ∀ (args : Array Value) (W : World), (callFunc F args).run Tryz.prog W = .ok (.enter F args) W) (hp : Pred w F cap p xs) :
    Calls Tryz.prog 122 #[v, .func (.func F) #[] cap] w fun e w' => e = .returned (.int .i64 (idxP p xs)) ∧ Ext w w' := by
  obtain ⟨A, c, rfl, h1, h2, h3, h4⟩ := h
  unfold maxLen at h2
  clear h3
  have Hp := Lib.hid hp
  clear hp
  go_enter Tryz.func122, Tryz.ntmps122
  go_wp2
  go_loopw [8] (fun i wr => Ext w wr ∧ ∃ k : Nat, k ≤ xs.length ∧ i = .int .i64 k ∧ ∀ x ∈ xs.take k, p x = false) (fun i _ => xs.length - (intOf i).toNat)
  case atStart => exact ⟨Ext.refl _, 0, by omega, rfl, by simp⟩
  case round =>
    obtain ⟨hEr, k, hk, rfl, hn⟩ := hrel
    have Hn := Lib.hid hn
    clear hn
    by_cases hlt : k < xs.length
    · obtain ⟨ad, rfl, hc⟩ := h4 (by omega)
      have e1 := (hc.ext hEr).i hlt
      have hcall := Hp.out xs[k] (List.getElem_mem hlt) wr hEr
      have Hcall := Lib.hid hcall
      clear h4 hc hcall
      go_wp2_with fail
      refine Hcall.out.mono ?_
      rintro e W1 ⟨rfl, hE1⟩
      replace hEr := hEr.trans hE1
      by_cases hpk : p xs[k] = true
      · have hr := idxP_at hlt hpk Hn.out
        have Hr := Lib.hid hr
        clear hr
        go_wp2
        go_ret
        exact ⟨ret_i Hr.out.symm, hEr⟩
      · simp only [Bool.not_eq_true] at hpk
        go_wp2
        go_roundw
        case rel => exact ⟨hEr, k + 1, by omega, by go_num, not_mem_take_snoc hlt Hn.out hpk⟩
        case measure => simp [intOf]; omega
    · go_wp2
      go_ret
      obtain rfl : k = xs.length := by omega
      have := Hn.out
      rw [List.take_length] at this
      exact ⟨ret_i (idxP_none this).symm, hEr⟩
theorem ContainsFunc_any (F : FuncId) (cap : Array Value) (p : Int → Bool) (v : Value) (xs : List Int) (w : World) (h : Ints w v xs)
    (hF : ∀ (args : Array Value) (W : World), (callFunc F args).run Tryz.prog W = .ok (.enter F args) W) (hp : Pred w F cap p xs) :
    Calls Tryz.prog 100 #[v, .func (.func F) #[] cap] w fun e w' => e = .returned (.bool (xs.any p)) ∧ Ext w w' := by
  have hg := idxP_ge p xs
  have Hg := Lib.hid hg
  have Hp := Lib.hid hp
  have HF := Lib.hid hF
  clear hg hp hF
  go_enter Tryz.func100, Tryz.ntmps100
  go_wp2_with (go_at_call 122; refine (IndexFunc_any F cap p _ xs _ h HF.out Hp.out).mono ?_; rintro e w' ⟨rfl, hE⟩)
  go_ret
  exact ⟨ret_b Hg.out, hE⟩

theorem enters120 : ∀ (args : Array Value) (W : World), (callFunc 120 args).run Tryz.prog W = .ok (.enter 120 args) W := enters_of Tryz.func120 (by kernel_rfl) rfl
theorem out1_any (x : Int) (g1 g2 : Nat) (lo hi : Int) (w : World) (h1 : w.cell? ⟨g1, 0, none⟩ = some (.int .i64 lo)) (h2 : w.cell? ⟨g2, 0, none⟩ = some (.int .i64 hi)) :
    Calls Tryz.prog 120 #[.int .i64 x, .pointer (some ⟨g1, 0, none⟩), .pointer (some ⟨g2, 0, none⟩)] w fun e w' => e = .returned (.bool (!inB x lo hi)) ∧ w = w' := by
  unfold inB
  go_enter Tryz.func120, Tryz.ntmps120
  go_wp2
  all_goals (go_ret; exact ⟨ret_b (by rw [Bool.eq_iff_iff]; simp; try omega), rfl⟩)
/-- class.out -/
theorem clsout_any (lo hi : Int) (v : Value) (xs : List Int) (w : World) (h : Ints w v xs) :
    Calls Tryz.prog 98 #[.int .i64 lo, .int .i64 hi, v] w fun e w' => e = .returned (.bool (xs.any fun x => !inB x lo hi)) ∧ Ext w w' := by
  have hE := Ext.refl w
  go_enter Tryz.func98, Tryz.ntmps98
  go_wp2_with (first | ((with_reducible refine q_box (d := some 3) ?_); intro W3 g3 hE3 hB3 hg3; simp [Act.eval, Act.put, Value.cells] at hB3; (try replace hE := hE.trans hE3); (try replace h := h.ext hE3); (try replace hB3 := hB3.ext hE3); (try replace hB4 := hB4.ext hE3); (try replace hb3_0 := Ext.cell_some hE3 hb3_0); (try replace hb4_0 := Ext.cell_some hE3 hb4_0); have hb3_0 := hB3.cell 0; simp at hb3_0; clear hE3) | ((with_reducible refine q_box (d := some 4) ?_); intro W4 g4 hE4 hB4 hg4; simp [Act.eval, Act.put, Value.cells] at hB4; (try replace hE := hE.trans hE4); (try replace h := h.ext hE4); (try replace hB3 := hB3.ext hE4); (try replace hB4 := hB4.ext hE4); (try replace hb3_0 := Ext.cell_some hE4 hb3_0); (try replace hb4_0 := Ext.cell_some hE4 hb4_0); have hb4_0 := hB4.cell 0; simp at hb4_0; clear hE4))
  have hp : Pred W4 120 #[.pointer (some ⟨g3, 0, none⟩), .pointer (some ⟨g4, 0, none⟩)] (fun x => !inB x lo hi) xs := by
    intro x _ W hW
    exact (out1_any x g3 g4 lo hi W (Ext.cell_some hW hb3_0) (Ext.cell_some hW hb4_0)).mono fun e W' h => ⟨h.1, h.2 ▸ Ext.refl _⟩
  have Hp := Lib.hid hp
  clear hp
  refine (ContainsFunc_any 120 _ _ _ _ _ h enters120 Hp.out).mono ?_
  rintro e Wc ⟨rfl, hEc⟩
  go_wp2
  go_ret
  exact ⟨rfl, hE.trans hEc⟩
end Go.Bp
end
section
set_option maxRecDepth 100000
set_option linter.unusedSimpArgs false
set_option linter.unusedVariables false
namespace Go.Bp
open Go.RowKit Go.Proofs
theorem Points_t (cv : Value) (c : Bp.Code) (n : Int) (w : World) (h0 : 0 ≤ n) (h : CodeV w cv c) :
    Calls Tryz.prog 104 #[cv, .int .i64 n] w fun e w' => e = .returned (.int .i64 (c.pts n)) ∧ Ext w w' := by
  obtain ⟨fv, mv, rfl, ⟨A, cp, rfl, h1, h2, h3, h4⟩, hM, hW⟩ := h
  obtain ⟨k, rfl⟩ := Int.eq_ofNat_of_zero_le h0
  clear h3
  unfold maxLen at h2
  have hE := Ext.refl w
  by_cases hk : k < c.faults.length
  · obtain ⟨ad, rfl, hc⟩ := h4 (by omega)
    clear h4
    go_enter Tryz.func104, Tryz.ntmps104
    go_wp2_with (first | ((with_reducible refine q_box (d := some 2) ?_); intro W2 g2 hE2 hB2 hg2; simp [Act.eval, Act.put, Value.cells] at hB2; (try replace hE := hE.trans hE2); (try replace hc := hc.ext hE2); (try replace hB2 := hB2.ext hE2); (try replace hb2_0 := Ext.cell_some hE2 hb2_0); (try replace hb2_1 := Ext.cell_some hE2 hb2_1); (try replace hb2_2 := Ext.cell_some hE2 hb2_2); have hb2_0 := hB2.cell 0; have hb2_1 := hB2.cell 1; have hb2_2 := hB2.cell 2; simp at hb2_0 hb2_1 hb2_2; clear hE2) | (refine q_load (d := some 15) (v := ?_) rfl ?_ ?_; rotate_left 1; first | exact ld_f1 hc (by assumption)))
    go_ret
    exact ⟨by simp [Code.pts, hk], hE⟩
  · go_enter Tryz.func104, Tryz.ntmps104
    go_wp2_with (first | ((with_reducible refine q_box (d := some 2) ?_); intro W2 g2 hE2 hB2 hg2; simp [Act.eval, Act.put, Value.cells] at hB2; (try replace hE := hE.trans hE2); (try replace hc := hc.ext hE2); (try replace hB2 := hB2.ext hE2); (try replace hb2_0 := Ext.cell_some hE2 hb2_0); (try replace hb2_1 := Ext.cell_some hE2 hb2_1); (try replace hb2_2 := Ext.cell_some hE2 hb2_2); have hb2_0 := hB2.cell 0; have hb2_1 := hB2.cell 1; have hb2_2 := hB2.cell 2; simp at hb2_0 hb2_1 hb2_2; clear hE2) | (refine q_load (d := some 15) (v := ?_) rfl ?_ ?_; rotate_left 1; first | exact ld_f1 hc (by assumption)))
    go_ret
    exact ⟨by simp [Code.pts, hk], hE⟩
end Go.Bp
end
section
set_option maxRecDepth 100000
set_option linter.unusedSimpArgs false
set_option linter.unusedVariables false
namespace Go.Bp
open Go.RowKit Go.Proofs
theorem total_snoc (c : Code) (l : List Int) (k : Nat) (hk : k < l.length) : c.total (l.take (k + 1)) = c.total (l.take k) + c.pts l[k] := by
  rw [List.take_succ_eq_append_getElem hk]; simp only [Code.total, List.map_append, List.sum_append]; simp
set_option maxHeartbeats 1000000 in
theorem Total_t (cv lv : Value) (c : Bp.Code) (l : List Int) (w : World) (h : CodeV w cv c) (hl : Ints w lv l) (h0 : ∀ x ∈ l, 0 ≤ x) (hp : ∀ k, k ≤ l.length → -1000000 ≤ c.total (l.take k) ∧ c.total (l.take k) ≤ 1000000) :
    Calls Tryz.prog 63 #[cv, lv] w fun e w' => e = .returned (.int .i64 (c.total l)) ∧ Ext w w' := by
  obtain ⟨fv, mv, rfl, hF, hM, hW⟩ := h
  obtain ⟨A, cp, rfl, h1, h2, h3, h4⟩ := hl
  unfold maxLen at h2
  clear h3
  have hE := Ext.refl w
  go_enter Tryz.func63, Tryz.ntmps63
  go_wp2_with (first | ((with_reducible refine q_box (d := some 2) ?_); intro W2 g2 hE2 hB2 hg2; simp [Act.eval, Act.put, Value.cells] at hB2; (try replace hE := hE.trans hE2); (try replace hF := hF.ext hE2); (try replace hM := hM.ext hE2); (try replace hB2 := hB2.ext hE2); (try replace hc := Ext.cell_some hE2 hc); (try replace hb2_0 := Ext.cell_some hE2 hb2_0); (try replace hb2_1 := Ext.cell_some hE2 hb2_1); (try replace hb2_2 := Ext.cell_some hE2 hb2_2); have hb2_0 := hB2.cell 0; have hb2_1 := hB2.cell 1; have hb2_2 := hB2.cell 2; simp at hb2_0 hb2_1 hb2_2; clear hE2))
  go_loopw [5, 6] (fun n i wr => Ext W2 wr ∧ ∃ k : Nat, k ≤ l.length ∧ i = .int .i64 k ∧ n = .int .i64 (c.total (l.take k))) (fun _ i _ => l.length - (intOf i).toNat)
  case atStart => exact ⟨Ext.refl _, 0, by omega, rfl, by simp [Code.total]⟩
  case round =>
    obtain ⟨hEr, k, hk, rfl, rfl⟩ := hrel
    (try replace hE := hE.trans hEr); (try replace hF := hF.ext hEr); (try replace hM := hM.ext hEr); (try replace hB2 := hB2.ext hEr); (try replace hc := Ext.cell_some hEr hc); (try replace hb2_0 := Ext.cell_some hEr hb2_0); (try replace hb2_1 := Ext.cell_some hEr hb2_1); (try replace hb2_2 := Ext.cell_some hEr hb2_2)
    by_cases hlt : k < l.length
    · obtain ⟨ad, rfl, hc⟩ := h4 (by omega)
      replace hc := (hc.ext hE).i hlt
      have hx0 := h0 _ (List.getElem_mem hlt)
      have hs := total_snoc c l k hlt
      have hp0 := hp k hk
      have hp1 := hp (k + 1) hlt
      obtain ⟨hb1, hb2⟩ := hp1; rw [hs] at hb1 hb2
      have Hs := Lib.hid hs
      clear hs h4 h0 hp
      go_wp2_with fail
      go_region_held3 (fun w' => w'.cell? ⟨g2, 0, none⟩ = some (fv) ∧ w'.cell? ⟨g2, 1, none⟩ = some (mv) ∧ w'.cell? ⟨g2, 2, none⟩ = some (.int .i64 c.all) ∧ w'.cell? (ad.add k) = some (.int .i64 l[k])) (simp [*]) ((first | (go_at_call 104; ((with_reducible refine (Points_t _ c _ _ hx0 (by first | exact CodeV.of hF hM hW | exact (CodeV.of hF hM hW).d)).mono ?_); rintro e Wc1 ⟨rfl, hEc1⟩; (try replace hEc1 := Ext.undrew hEc1); (try replace hE := hE.trans hEc1); (try replace hEr := hEr.trans hEc1); (try replace hF := hF.ext hEc1); (try replace hM := hM.ext hEc1); (try replace hB2 := hB2.ext hEc1); (try replace hc := Ext.cell_some hEc1 hc); (try replace hb2_0 := Ext.cell_some hEc1 hb2_0); (try replace hb2_1 := Ext.cell_some hEc1 hb2_1); (try replace hb2_2 := Ext.cell_some hEc1 hb2_2)))))
      go_wp2
      go_roundw
      case rel => exact ⟨hEr, k + 1, by omega, by go_num, by rw [IntWalk.i64_in _ (by omega), Hs.out]⟩
      case measure => simp [intOf]; omega
    · go_wp2
      go_ret
      obtain rfl : k = l.length := by omega
      exact ⟨by simp, hE⟩
end Go.Bp
end
section
set_option maxRecDepth 100000
set_option linter.unusedSimpArgs false
set_option linter.unusedVariables false
namespace Go.Bp
open Go.RowKit Go.Proofs
set_option maxHeartbeats 400000 in
theorem named_any (v : Value) (l : List ByteArray) (i : Nat) (w : World) (h : Strs w v l) (hi : i < l.length) (hs : ∀ s ∈ l, s.size ≤ maxLen) :
    Calls Tryz.prog 58 #[v, .int .i64 i] w fun e w' => e = .returned (.int .i64 (nameErr l i)) ∧ Ext w w' := by
  obtain ⟨A, c, rfl, h1, h2, h3, h4⟩ := h
  obtain ⟨ad, rfl, hc⟩ := h4 (by omega)
  unfold maxLen at h2
  have hsz := hs _ (List.getElem_mem hi)
  have ei := hc.s hi
  have hE := Ext.refl w
  clear h3 h4 hs
  by_cases hn : isName l[i] = true
  · go_enter Tryz.func58, Tryz.ntmps58
    go_wp2_with (go_at_call 99; refine (Name1_any _ _ hsz).mono ?_; rintro e w' ⟨rfl, rfl⟩)
    go_loopw [5] (fun t wr => Ext w wr ∧ ∃ k : Nat, k ≤ i ∧ t = .int .i64 k ∧ l[i] ∉ l.take k) (fun t _ => i - (intOf t).toNat)
    case atStart => exact ⟨Ext.refl _, 0, by omega, rfl, by simp⟩
    case round =>
      obtain ⟨hEr, k, hk, rfl, hm⟩ := hrel
      have Hm := Lib.hid hm
      clear hm
      by_cases hlt : k < i
      · have e1 := (hc.ext hEr).s (k := k) (by omega)
        have e2 := (hc.ext hEr).s hi
        clear hc ei
        have hkl : k < l.length := by omega
        by_cases he : l[k] = l[i]
        · have hbe : (l[k].toList == l[i].toList) = true := by rw [ba_tl]; simp [he]
          have hr := nameErr_twice (l := l) (i := i) (by rw [getD_eq hi]; exact hn) (by rw [getD_eq hi, ← he, List.mem_take_iff_getElem]; exact ⟨k, by omega, rfl⟩)
          have Hr := Lib.hid hr
          clear hr he
          go_wp2
          go_quiet (fail)
          go_wp2
          go_ret
          exact ⟨ret_i Hr.out.symm, hEr.drewN _⟩
        · have hbe : (l[k].toList == l[i].toList) = false := by rw [ba_tl]; simp [he]
          have He := Lib.hid he
          clear he
          go_wp2
          go_quiet (fail)
          go_wp2
          go_roundw
          case rel => exact ⟨hEr.drewN _, k + 1, by omega, by go_num, by rw [take_snoc _ hkl]; exact not_mem_snoc Hm.out (fun e => He.out e.symm)⟩
          case measure => simp [intOf]; omega
      · obtain rfl : k = i := by omega
        have hr := nameErr_ok (l := l) (i := k) (by rw [getD_eq hi]; exact hn) (by rw [getD_eq hi]; exact Hm.out)
        have Hr := Lib.hid hr
        clear hr
        go_wp2
        go_ret
        exact ⟨ret_i Hr.out.symm, hEr⟩
  · simp only [Bool.not_eq_true] at hn
    have hr := nameErr_form (l := l) (i := i) (by rw [getD_eq hi]; exact hn)
    have Hr := Lib.hid hr
    clear hr
    go_enter Tryz.func58, Tryz.ntmps58
    go_wp2_with (go_at_call 99; refine (Name1_any _ _ hsz).mono ?_; rintro e w' ⟨rfl, rfl⟩)
    go_ret
    exact ⟨ret_i Hr.out.symm, hE⟩
end Go.Bp
end
section
/- Plain Lean, more. -/
namespace Go.Bp
open Go.RowKit Go.Proofs
theorem own_base {w : World} {B B' : Nat} {e : TypeId} {size n : Nat} {v : Value} {xs : List Value} (h : w.ownsRow B e size v n xs) (hB : B' ≤ B) : w.ownsRow B' e size v n xs := by
  refine ⟨h.1, ?_⟩
  rcases h.2 with h2 | ⟨g, cap, cur, h2, h3, h4⟩
  · exact .inl h2
  · exact .inr ⟨g, cap, cur, h2, by omega, h4⟩
theorem OwnI.base {w : World} {B B' : Nat} {v : Value} {xs : List Int} (h : OwnI B w v xs) (hB : B' ≤ B) : OwnI B' w v xs := own_base h hB
theorem OwnS.base {w : World} {B B' : Nat} {v : Value} {xs : List ByteArray} (h : OwnS B w v xs) (hB : B' ≤ B) : OwnS B' w v xs := own_base h hB
theorem OwnL.base {w : World} {B B' : Nat} {v : Value} {xs : List Line} (h : OwnL B w v xs) (hB : B' ≤ B) : OwnL B' w v xs := own_base h hB
theorem Cells.f0 {w : World} {ad : Addr} {xs : List Fault} {k : Nat} (h : Cells w ad (encF xs)) (hk : k < xs.length) : w.cell? (ad.add (k * 3)) = some (.string xs[k].name) := h _ _ (encF_get _ _ hk).1
theorem Cells.f1 {w : World} {ad : Addr} {xs : List Fault} {k : Nat} (h : Cells w ad (encF xs)) (hk : k < xs.length) : w.cell? ⟨(ad.add (k * 3)).block, (ad.add (k * 3)).off + 1, none⟩ = some (.int .i64 xs[k].points) := off_cell h (by decide) (encF_get _ _ hk).2.1
theorem Cells.f2 {w : World} {ad : Addr} {xs : List Fault} {k : Nat} (h : Cells w ad (encF xs)) (hk : k < xs.length) : w.cell? ⟨(ad.add (k * 3)).block, (ad.add (k * 3)).off + 2, none⟩ = some (.int .i64 xs[k].limit) := off_cell h (by decide) (encF_get _ _ hk).2.2
theorem Cells.l0 {w : World} {ad : Addr} {xs : List Line} {k : Nat} (h : Cells w ad (encL xs)) (hk : k < xs.length) : w.cell? (ad.add (k * 3)) = some (.int .i64 xs[k].no) := h _ _ (encL_get _ _ hk).1
theorem Cells.l1 {w : World} {ad : Addr} {xs : List Line} {k : Nat} (h : Cells w ad (encL xs)) (hk : k < xs.length) : w.cell? ⟨(ad.add (k * 3)).block, (ad.add (k * 3)).off + 1, none⟩ = some (.int .i64 xs[k].what) := off_cell h (by decide) (encL_get _ _ hk).2.1
theorem Cells.l2 {w : World} {ad : Addr} {xs : List Line} {k : Nat} (h : Cells w ad (encL xs)) (hk : k < xs.length) : w.cell? ⟨(ad.add (k * 3)).block, (ad.add (k * 3)).off + 2, none⟩ = some (.int .i64 xs[k].sum) := off_cell h (by decide) (encL_get _ _ hk).2.2
def fnames (fs : List Fault) : List ByteArray := fs.map Fault.name
theorem fnames_snoc (fs : List Fault) {k : Nat} (hk : k < fs.length) : fnames (fs.take (k + 1)) = fnames (fs.take k) ++ [fs[k].name] := by
  rw [take_snoc _ hk]; unfold fnames; rw [List.map_append]; rfl
theorem fnames_len (fs : List Fault) (k : Nat) (hk : k ≤ fs.length) : (fnames (fs.take k)).length = k := by unfold fnames; rw [List.length_map, List.length_take]; omega
end Go.Bp
end
section
set_option maxRecDepth 100000
set_option linter.unusedSimpArgs false
set_option linter.unusedVariables false
namespace Go.Bp
open Go.RowKit Go.Proofs
set_option maxHeartbeats 600000 in
theorem Names_any (cv : Value) (c : Code) (w : World) (h : CodeV w cv c) (hb : c.faults.length ≤ 1000000 ∧ c.man.length ≤ 1000000) :
    Calls Tryz.prog 57 #[cv] w (Ret w fun v w' => OwnS w.heap.size w' v c.names) := by
  obtain ⟨fv, mv, rfl, ⟨A, cp, rfl, h1, h2, h3, h4⟩, hM, hW⟩ := h
  obtain ⟨hb1, hb2⟩ := hb
  unfold maxLen at h2
  clear h3
  have hE := Ext.refl w
  go_enter Tryz.func57, Tryz.ntmps57
  go_wp2_with (first | ((with_reducible refine q_box (d := some 1) ?_); intro W1 g1 hE1 hB1 hg1; simp [Act.eval, Act.put, Value.cells] at hB1; (try replace hE := hE.trans hE1); (try replace hM := hM.ext hE1); (try replace hB1 := hB1.ext hE1); (try replace hb1_0 := Ext.cell_some hE1 hb1_0); (try replace hb1_1 := Ext.cell_some hE1 hb1_1); (try replace hb1_2 := Ext.cell_some hE1 hb1_2); have hb1_0 := hB1.cell 0; have hb1_1 := hB1.cell 1; have hb1_2 := hB1.cell 2; simp at hb1_0 hb1_1 hb1_2; clear hE1))
  have hB0 := hE.size
  have k0 := hb1_0; have k1 := hb1_1; have kM := hM
  go_loopw [3, 4] (fun v i wr => Ext W1 wr ∧ ∃ k : Nat, k ≤ c.faults.length ∧ i = .int .i64 k ∧ OwnS W1.heap.size wr v (fnames (c.faults.take k))) (fun _ i _ => c.faults.length - (intOf i).toNat)
  case atStart => exact ⟨Ext.refl _, 0, by omega, rfl, OwnS.nil _ _⟩
  case round =>
    obtain ⟨hEr, k, hk, rfl, hO⟩ := hrel
    replace k0 := Ext.cell_some hEr k0
    replace k1 := Ext.cell_some hEr k1
    replace kM := kM.ext hEr
    clear hb1_0 hb1_1 hb1_2 hB1 hM
    have hlen := fnames_len c.faults k hk
    by_cases hlt : k < c.faults.length
    · obtain ⟨ad, rfl, hc⟩ := h4 (by omega)
      have e1 := ((hc.ext hE).ext hEr).f0 hlt
      have hn := fnames_snoc c.faults hlt
      have Hn := Lib.hid hn
      have Hl := Lib.hid hlen
      clear h4 hc hn hlen
      go_wp2_with (first | (refine q_bsS rfl ?_; intro W19 g19 hE19 hB19 hg19; replace hEr := hEr.trans hE19; replace hO := hO.ext hE19) | (refine q_appS rfl hO rfl hB19 (by rw [Hl.out]; omega) (by have := hEr.size; omega) ?_; intro v' W20 hO' hmono hgr; replace hEr := hmono _ hEr))
      go_roundw
      case rel => exact ⟨hEr, k + 1, by omega, by go_num, by rw [Hn.out]; exact hO'⟩
      case measure => simp [intOf]; omega
    · obtain rfl : k = c.faults.length := by omega
      have Hl := Lib.hid hlen
      clear hlen h4
      go_wp2_with (refine q_appSS rfl hO rfl kM (by rw [Hl.out]; omega) (by have := hEr.size; omega) ?_; intro v' W20 hO' hmono hgr; replace hEr := hmono _ hEr)
      go_ret
      refine ⟨_, rfl, ?_, hE.trans hEr⟩
      have := hO'.base hB0
      rwa [List.take_length] at this
end Go.Bp
end
section
set_option maxRecDepth 100000
set_option linter.unusedSimpArgs false
set_option linter.unusedVariables false
namespace Go.Bp
open Go.RowKit Go.Proofs
/-- Three ints. -/
def RetI3 (w : World) (x : Int × Int × Int) (e : Ending) (w' : World) : Prop := e = .returned (.tuple #[.int .i64 x.1, .int .i64 x.2.1, .int .i64 x.2.2]) ∧ Ext w w'
theorem ret3_of {a b c : Int} {x : Int × Int × Int} (h : x = (a, b, c)) : Ending.returned (.tuple #[.int .i64 a, .int .i64 b, .int .i64 c]) = .returned (.tuple #[.int .i64 x.1, .int .i64 x.2.1, .int .i64 x.2.2]) := by rw [h]
theorem named_at (v : Value) (l : List ByteArray) (i : Nat) (n : Int) (hn : n = i) (w : World) (h : Strs w v l) (hi : i < l.length) (hs : ∀ s ∈ l, s.size ≤ maxLen) :
    Calls Tryz.prog 58 #[v, .int .i64 n] w fun e w' => e = .returned (.int .i64 (nameErr l i)) ∧ Ext w w' := by
  subst hn; exact named_any v l i w h hi hs
set_option maxHeartbeats 2000000 in
theorem RCheck_any (cv : Value) (c : Code) (w : World) (h : CodeV w cv c) : Calls Tryz.prog 18 #[cv] w (RetI3 w c.check) := by
  obtain ⟨fv, mv, rfl, hF, hM, hW⟩ := h
  obtain ⟨A, cp, rfl, h1, h2, h3, h4⟩ := hF
  have hF : Faults w (.slice A c.faults.length cp) c.faults := ⟨A, cp, rfl, h1, h2, h3, h4⟩
  obtain ⟨A', cp', rfl, h1', h2', h3', h4'⟩ := hM
  have hM : Strs w (.slice A' c.man.length cp') c.man := ⟨A', cp', rfl, h1', h2', h3', h4'⟩
  unfold maxLen at h2 h2'
  clear h3 h3' h4'
  have hE := Ext.refl w
  by_cases hi : inB c.faults.length 1 6 = true
  · by_cases hm : c.man.length ≤ 3
    · have hz := inB_t.1 hi
      obtain ⟨hz1, hz2⟩ := hz
      have hlen : c.names.length = c.faults.length + c.man.length := by simp [Code.names]
      have Hlen := Lib.hid hlen
      have hNz : ∀ s ∈ c.names, s.size ≤ maxLen := hW
      have HN := Lib.hid hNz
      have HW := Lib.hid hW
      clear hlen hNz hW
      go_enter Tryz.func18, Tryz.ntmps18
      go_wp2_with (first | ((go_at_call 56; refine (in_any _ _ _ _).mono ?_; rintro e w' ⟨rfl, rfl⟩)) | (go_at_call 57; ((with_reducible refine (Names_any _ c _ (by exact CodeV.of hF hM HW.out) (by omega)).mono ?_); rintro e Wc1 ⟨nv, rfl, hN, hEc1⟩; (try replace hEc1 := Ext.undrew hEc1); (try replace hE := hE.trans hEc1); (try replace hF := hF.ext hEc1); (try replace hM := hM.ext hEc1); (try replace hB1 := hB1.ext hEc1); (try replace hb1_0 := Ext.cell_some hEc1 hb1_0); (try replace hb1_1 := Ext.cell_some hEc1 hb1_1); (try replace hb1_2 := Ext.cell_some hEc1 hb1_2); replace hN := hN.strs)) | ((with_reducible refine q_box (d := some 1) ?_); intro W1 g1 hE1 hB1 hg1; simp [Act.eval, Act.put, Value.cells] at hB1; (try replace hE := hE.trans hE1); (try replace hF := hF.ext hE1); (try replace hM := hM.ext hE1); (try replace hB1 := hB1.ext hE1); (try replace hb1_0 := Ext.cell_some hE1 hb1_0); (try replace hb1_1 := Ext.cell_some hE1 hb1_1); (try replace hb1_2 := Ext.cell_some hE1 hb1_2); have hb1_0 := hB1.cell 0; have hb1_1 := hB1.cell 1; have hb1_2 := hB1.cell 2; simp at hb1_0 hb1_1 hb1_2; clear hE1))
      have kF := hF
      go_loopw [6] (fun i wr => Ext Wc1 wr ∧ ∃ k : Nat, k ≤ c.faults.length ∧ i = .int .i64 k ∧ ∀ j, j < k → c.errAt j = 0) (fun i _ => c.faults.length - (intOf i).toNat)
      case atStart => exact ⟨Ext.refl _, 0, by omega, rfl, by omega⟩
      case round =>
        obtain ⟨hEr, k, hk, rfl, ha⟩ := hrel
        have Ha := Lib.hid ha
        clear ha
        (try replace hE := hE.trans hEr); (try replace hF := hF.ext hEr); (try replace hM := hM.ext hEr); (try replace hB1 := hB1.ext hEr); (try replace hN := hN.ext hEr); (try replace hb1_0 := Ext.cell_some hEr hb1_0); (try replace hb1_1 := Ext.cell_some hEr hb1_1); (try replace hb1_2 := Ext.cell_some hEr hb1_2)
        by_cases hlt : k < c.faults.length
        · obtain ⟨ad, rfl, hc⟩ := h4 (by omega)
          replace hc := hc.ext hE
          have e1 := hc.f1 hlt
          have e2 := hc.f2 hlt
          have hkn : k < c.names.length := by rw [Hlen.out]; omega
          clear h4 hc
          by_cases hne : nameErr c.names k = 0
          · have q1 : (nameErr c.names k == 0) = true := by simp [hne]
            have q2 : (nameErr c.names k != 0) = false := by simp [hne]
            have Hne := Lib.hid hne
            clear hne
            by_cases p1 : inB c.faults[k].points 0 20 = true
            · by_cases p2 : inB c.faults[k].limit 0 12 = true
              · have hz := Code.errAt_ok Hne.out hlt p1 p2
                have Hz := Lib.hid hz
                clear hz
                go_wp2_with (first | ((go_at_call 56; refine (in_any _ _ _ _).mono ?_; rintro e w' ⟨rfl, rfl⟩)) | (go_at_call 58; ((with_reducible refine (named_any _ c.names k _ (by exact hN) hkn HN.out).mono ?_); rintro e Wc2 ⟨rfl, hEc2⟩; (try replace hEc2 := Ext.undrew hEc2); (try replace hE := hE.trans hEc2); (try replace hEr := hEr.trans hEc2); (try replace hF := hF.ext hEc2); (try replace hM := hM.ext hEc2); (try replace hB1 := hB1.ext hEc2); (try replace hN := hN.ext hEc2); (try replace hb1_0 := Ext.cell_some hEc2 hb1_0); (try replace hb1_1 := Ext.cell_some hEc2 hb1_1); (try replace hb1_2 := Ext.cell_some hEc2 hb1_2); (try replace e1 := Ext.cell_some hEc2 e1); (try replace e2 := Ext.cell_some hEc2 e2))) | ((with_reducible refine q_box (d := some 1) ?_); intro W1 g1 hE1 hB1 hg1; simp [Act.eval, Act.put, Value.cells] at hB1; (try replace hE := hE.trans hE1); (try replace hEr := hEr.trans hE1); (try replace hF := hF.ext hE1); (try replace hM := hM.ext hE1); (try replace hB1 := hB1.ext hE1); (try replace hN := hN.ext hE1); (try replace hb1_0 := Ext.cell_some hE1 hb1_0); (try replace hb1_1 := Ext.cell_some hE1 hb1_1); (try replace hb1_2 := Ext.cell_some hE1 hb1_2); (try replace e1 := Ext.cell_some hE1 e1); (try replace e2 := Ext.cell_some hE1 e2); have hb1_0 := hB1.cell 0; have hb1_1 := hB1.cell 1; have hb1_2 := hB1.cell 2; simp at hb1_0 hb1_1 hb1_2; clear hE1))
                go_roundw
                case rel => exact ⟨hEr, k + 1, by omega, by go_num, fun j hj => by by_cases e : j = k; · rw [e]; exact Hz.out
                                                                                   · exact Ha.out j (by omega)⟩
                case measure => simp [intOf]; omega
              · simp only [Bool.not_eq_true] at p2
                have hz := Code.errAt_range Hne.out hlt (.inr p2)
                have hr := Code.check_f hi hm hlt (by rw [hz]; decide) Ha.out
                rw [hz] at hr
                have Hr := Lib.hid hr
                clear hz hr
                go_wp2_with (first | ((go_at_call 56; refine (in_any _ _ _ _).mono ?_; rintro e w' ⟨rfl, rfl⟩)) | (go_at_call 58; ((with_reducible refine (named_any _ c.names k _ (by exact hN) hkn HN.out).mono ?_); rintro e Wc3 ⟨rfl, hEc3⟩; (try replace hEc3 := Ext.undrew hEc3); (try replace hE := hE.trans hEc3); (try replace hEr := hEr.trans hEc3); (try replace hF := hF.ext hEc3); (try replace hM := hM.ext hEc3); (try replace hB1 := hB1.ext hEc3); (try replace hN := hN.ext hEc3); (try replace hb1_0 := Ext.cell_some hEc3 hb1_0); (try replace hb1_1 := Ext.cell_some hEc3 hb1_1); (try replace hb1_2 := Ext.cell_some hEc3 hb1_2); (try replace e1 := Ext.cell_some hEc3 e1); (try replace e2 := Ext.cell_some hEc3 e2))) | ((with_reducible refine q_box (d := some 1) ?_); intro W1 g1 hE1 hB1 hg1; simp [Act.eval, Act.put, Value.cells] at hB1; (try replace hE := hE.trans hE1); (try replace hEr := hEr.trans hE1); (try replace hF := hF.ext hE1); (try replace hM := hM.ext hE1); (try replace hB1 := hB1.ext hE1); (try replace hN := hN.ext hE1); (try replace hb1_0 := Ext.cell_some hE1 hb1_0); (try replace hb1_1 := Ext.cell_some hE1 hb1_1); (try replace hb1_2 := Ext.cell_some hE1 hb1_2); (try replace e1 := Ext.cell_some hE1 e1); (try replace e2 := Ext.cell_some hE1 e2); have hb1_0 := hB1.cell 0; have hb1_1 := hB1.cell 1; have hb1_2 := hB1.cell 2; simp at hb1_0 hb1_1 hb1_2; clear hE1))
                go_ret3
                exact ⟨ret3_of Hr.out, hE⟩
            · simp only [Bool.not_eq_true] at p1
              have hz := Code.errAt_range Hne.out hlt (.inl p1)
              have hr := Code.check_f hi hm hlt (by rw [hz]; decide) Ha.out
              rw [hz] at hr
              have Hr := Lib.hid hr
              clear hz hr
              go_wp2_with (first | ((go_at_call 56; refine (in_any _ _ _ _).mono ?_; rintro e w' ⟨rfl, rfl⟩)) | (go_at_call 58; ((with_reducible refine (named_any _ c.names k _ (by exact hN) hkn HN.out).mono ?_); rintro e Wc4 ⟨rfl, hEc4⟩; (try replace hEc4 := Ext.undrew hEc4); (try replace hE := hE.trans hEc4); (try replace hEr := hEr.trans hEc4); (try replace hF := hF.ext hEc4); (try replace hM := hM.ext hEc4); (try replace hB1 := hB1.ext hEc4); (try replace hN := hN.ext hEc4); (try replace hb1_0 := Ext.cell_some hEc4 hb1_0); (try replace hb1_1 := Ext.cell_some hEc4 hb1_1); (try replace hb1_2 := Ext.cell_some hEc4 hb1_2); (try replace e1 := Ext.cell_some hEc4 e1); (try replace e2 := Ext.cell_some hEc4 e2))) | ((with_reducible refine q_box (d := some 1) ?_); intro W1 g1 hE1 hB1 hg1; simp [Act.eval, Act.put, Value.cells] at hB1; (try replace hE := hE.trans hE1); (try replace hEr := hEr.trans hE1); (try replace hF := hF.ext hE1); (try replace hM := hM.ext hE1); (try replace hB1 := hB1.ext hE1); (try replace hN := hN.ext hE1); (try replace hb1_0 := Ext.cell_some hE1 hb1_0); (try replace hb1_1 := Ext.cell_some hE1 hb1_1); (try replace hb1_2 := Ext.cell_some hE1 hb1_2); (try replace e1 := Ext.cell_some hE1 e1); (try replace e2 := Ext.cell_some hE1 e2); have hb1_0 := hB1.cell 0; have hb1_1 := hB1.cell 1; have hb1_2 := hB1.cell 2; simp at hb1_0 hb1_1 hb1_2; clear hE1))
              go_ret3
              exact ⟨ret3_of Hr.out, hE⟩
          · have q1 : (nameErr c.names k == 0) = false := by simp [hne]
            have q2 : (nameErr c.names k != 0) = true := by simp [hne]
            have hz := Code.errAt_name hne
            have hr := Code.check_f hi hm hlt (by rw [hz]; exact hne) Ha.out
            rw [hz] at hr
            have Hr := Lib.hid hr
            clear hz hr hne
            go_wp2_with (first | ((go_at_call 56; refine (in_any _ _ _ _).mono ?_; rintro e w' ⟨rfl, rfl⟩)) | (go_at_call 58; ((with_reducible refine (named_any _ c.names k _ (by exact hN) hkn HN.out).mono ?_); rintro e Wc5 ⟨rfl, hEc5⟩; (try replace hEc5 := Ext.undrew hEc5); (try replace hE := hE.trans hEc5); (try replace hEr := hEr.trans hEc5); (try replace hF := hF.ext hEc5); (try replace hM := hM.ext hEc5); (try replace hB1 := hB1.ext hEc5); (try replace hN := hN.ext hEc5); (try replace hb1_0 := Ext.cell_some hEc5 hb1_0); (try replace hb1_1 := Ext.cell_some hEc5 hb1_1); (try replace hb1_2 := Ext.cell_some hEc5 hb1_2); (try replace e1 := Ext.cell_some hEc5 e1); (try replace e2 := Ext.cell_some hEc5 e2))) | ((with_reducible refine q_box (d := some 1) ?_); intro W1 g1 hE1 hB1 hg1; simp [Act.eval, Act.put, Value.cells] at hB1; (try replace hE := hE.trans hE1); (try replace hEr := hEr.trans hE1); (try replace hF := hF.ext hE1); (try replace hM := hM.ext hE1); (try replace hB1 := hB1.ext hE1); (try replace hN := hN.ext hE1); (try replace hb1_0 := Ext.cell_some hE1 hb1_0); (try replace hb1_1 := Ext.cell_some hE1 hb1_1); (try replace hb1_2 := Ext.cell_some hE1 hb1_2); (try replace e1 := Ext.cell_some hE1 e1); (try replace e2 := Ext.cell_some hE1 e2); have hb1_0 := hB1.cell 0; have hb1_1 := hB1.cell 1; have hb1_2 := hB1.cell 2; simp at hb1_0 hb1_1 hb1_2; clear hE1))
            go_ret3
            exact ⟨ret3_of Hr.out, hE⟩
        · obtain rfl : k = c.faults.length := by omega
          clear h4
          go_wp2
          obtain ⟨Wl, hWl⟩ : ∃ W, W = wr := ⟨_, rfl⟩
          subst hWl
          go_loopw [8] (fun i wr => Ext Wl wr ∧ ∃ k : Nat, k ≤ c.man.length ∧ i = .int .i64 k ∧ ∀ j, j < c.faults.length + k → c.errAt j = 0) (fun i _ => c.man.length - (intOf i).toNat)
          case atStart => exact ⟨Ext.refl _, 0, by omega, rfl, fun j hj => Ha.out j (by omega)⟩
          case round =>
            obtain ⟨hEs, k, hk, rfl, hb⟩ := hrel
            have Hb := Lib.hid hb
            clear hb
            (try replace hE := hE.trans hEs); (try replace hEr := hEr.trans hEs); (try replace hF := hF.ext hEs); (try replace hM := hM.ext hEs); (try replace hB1 := hB1.ext hEs); (try replace hN := hN.ext hEs); (try replace hb1_0 := Ext.cell_some hEs hb1_0); (try replace hb1_1 := Ext.cell_some hEs hb1_1); (try replace hb1_2 := Ext.cell_some hEs hb1_2); (try replace e1 := Ext.cell_some hEs e1); (try replace e2 := Ext.cell_some hEs e2)
            by_cases hlt : k < c.man.length
            · have hkn : c.faults.length + k < c.names.length := by rw [Hlen.out]; omega
              by_cases hne : nameErr c.names (c.faults.length + k) = 0
              · have q2 : (nameErr c.names (c.faults.length + k) != 0) = false := by simp [hne]
                have hz := Code.errAt_man (c := c) (i := c.faults.length + k) (by omega)
                rw [hne] at hz
                have Hz := Lib.hid hz
                clear hz hne
                go_wp2_with (first | (go_at_call 58; ((with_reducible refine (named_at _ c.names (c.faults.length + k) _ (by omega) _ (by exact hN) hkn HN.out).mono ?_); rintro e Wc6 ⟨rfl, hEc6⟩; (try replace hEc6 := Ext.undrew hEc6); (try replace hE := hE.trans hEc6); (try replace hEr := hEr.trans hEc6); (try replace hEs := hEs.trans hEc6); (try replace hF := hF.ext hEc6); (try replace hM := hM.ext hEc6); (try replace hB1 := hB1.ext hEc6); (try replace hN := hN.ext hEc6); (try replace hb1_0 := Ext.cell_some hEc6 hb1_0); (try replace hb1_1 := Ext.cell_some hEc6 hb1_1); (try replace hb1_2 := Ext.cell_some hEc6 hb1_2); (try replace e1 := Ext.cell_some hEc6 e1); (try replace e2 := Ext.cell_some hEc6 e2))) | ((with_reducible refine q_box (d := some 1) ?_); intro W1 g1 hE1 hB1 hg1; simp [Act.eval, Act.put, Value.cells] at hB1; (try replace hE := hE.trans hE1); (try replace hEr := hEr.trans hE1); (try replace hEs := hEs.trans hE1); (try replace hF := hF.ext hE1); (try replace hM := hM.ext hE1); (try replace hB1 := hB1.ext hE1); (try replace hN := hN.ext hE1); (try replace hb1_0 := Ext.cell_some hE1 hb1_0); (try replace hb1_1 := Ext.cell_some hE1 hb1_1); (try replace hb1_2 := Ext.cell_some hE1 hb1_2); (try replace e1 := Ext.cell_some hE1 e1); (try replace e2 := Ext.cell_some hE1 e2); have hb1_0 := hB1.cell 0; have hb1_1 := hB1.cell 1; have hb1_2 := hB1.cell 2; simp at hb1_0 hb1_1 hb1_2; clear hE1))
                go_roundw
                case rel => exact ⟨hEs, k + 1, by omega, by go_num, fun j hj => by by_cases e : j = c.faults.length + k; · rw [e]; exact Hz.out
                                                                                   · exact Hb.out j (by omega)⟩
                case measure => simp [intOf]; omega
              · have q2 : (nameErr c.names (c.faults.length + k) != 0) = true := by simp [hne]
                have hz := Code.errAt_man (c := c) (i := c.faults.length + k) (by omega)
                have hr := Code.check_m hi hm hlt (by rw [hz]; exact hne) Hb.out
                rw [hz] at hr
                have Hr := Lib.hid hr
                clear hz hr hne
                go_wp2_with (first | (go_at_call 58; ((with_reducible refine (named_at _ c.names (c.faults.length + k) _ (by omega) _ (by exact hN) hkn HN.out).mono ?_); rintro e Wc7 ⟨rfl, hEc7⟩; (try replace hEc7 := Ext.undrew hEc7); (try replace hE := hE.trans hEc7); (try replace hEr := hEr.trans hEc7); (try replace hEs := hEs.trans hEc7); (try replace hF := hF.ext hEc7); (try replace hM := hM.ext hEc7); (try replace hB1 := hB1.ext hEc7); (try replace hN := hN.ext hEc7); (try replace hb1_0 := Ext.cell_some hEc7 hb1_0); (try replace hb1_1 := Ext.cell_some hEc7 hb1_1); (try replace hb1_2 := Ext.cell_some hEc7 hb1_2); (try replace e1 := Ext.cell_some hEc7 e1); (try replace e2 := Ext.cell_some hEc7 e2))) | ((with_reducible refine q_box (d := some 1) ?_); intro W1 g1 hE1 hB1 hg1; simp [Act.eval, Act.put, Value.cells] at hB1; (try replace hE := hE.trans hE1); (try replace hEr := hEr.trans hE1); (try replace hEs := hEs.trans hE1); (try replace hF := hF.ext hE1); (try replace hM := hM.ext hE1); (try replace hB1 := hB1.ext hE1); (try replace hN := hN.ext hE1); (try replace hb1_0 := Ext.cell_some hE1 hb1_0); (try replace hb1_1 := Ext.cell_some hE1 hb1_1); (try replace hb1_2 := Ext.cell_some hE1 hb1_2); (try replace e1 := Ext.cell_some hE1 e1); (try replace e2 := Ext.cell_some hE1 e2); have hb1_0 := hB1.cell 0; have hb1_1 := hB1.cell 1; have hb1_2 := hB1.cell 2; simp at hb1_0 hb1_1 hb1_2; clear hE1))
                go_ret3
                exact ⟨ret3_of Hr.out, hE⟩
            · obtain rfl : k = c.man.length := by omega
              by_cases ha : inB c.all 0 240 = true
              · have hr := Code.check_0 hi hm (fun j hj => Hb.out j hj) ha
                have Hr := Lib.hid hr
                clear hr
                go_wp2_with (first | ((go_at_call 56; refine (in_any _ _ _ _).mono ?_; rintro e w' ⟨rfl, rfl⟩)) | ((with_reducible refine q_box (d := some 1) ?_); intro W1 g1 hE1 hB1 hg1; simp [Act.eval, Act.put, Value.cells] at hB1; (try replace hE := hE.trans hE1); (try replace hEr := hEr.trans hE1); (try replace hEs := hEs.trans hE1); (try replace hF := hF.ext hE1); (try replace hM := hM.ext hE1); (try replace hB1 := hB1.ext hE1); (try replace hN := hN.ext hE1); (try replace hb1_0 := Ext.cell_some hE1 hb1_0); (try replace hb1_1 := Ext.cell_some hE1 hb1_1); (try replace hb1_2 := Ext.cell_some hE1 hb1_2); (try replace e1 := Ext.cell_some hE1 e1); (try replace e2 := Ext.cell_some hE1 e2); have hb1_0 := hB1.cell 0; have hb1_1 := hB1.cell 1; have hb1_2 := hB1.cell 2; simp at hb1_0 hb1_1 hb1_2; clear hE1))
                go_ret3
                exact ⟨ret3_of Hr.out, hE⟩
              · simp only [Bool.not_eq_true] at ha
                have hr := Code.check_4 hi hm (fun j hj => Hb.out j hj) ha
                have Hr := Lib.hid hr
                clear hr
                go_wp2_with (first | ((go_at_call 56; refine (in_any _ _ _ _).mono ?_; rintro e w' ⟨rfl, rfl⟩)) | ((with_reducible refine q_box (d := some 1) ?_); intro W1 g1 hE1 hB1 hg1; simp [Act.eval, Act.put, Value.cells] at hB1; (try replace hE := hE.trans hE1); (try replace hEr := hEr.trans hE1); (try replace hEs := hEs.trans hE1); (try replace hF := hF.ext hE1); (try replace hM := hM.ext hE1); (try replace hB1 := hB1.ext hE1); (try replace hN := hN.ext hE1); (try replace hb1_0 := Ext.cell_some hE1 hb1_0); (try replace hb1_1 := Ext.cell_some hE1 hb1_1); (try replace hb1_2 := Ext.cell_some hE1 hb1_2); (try replace e1 := Ext.cell_some hE1 e1); (try replace e2 := Ext.cell_some hE1 e2); have hb1_0 := hB1.cell 0; have hb1_1 := hB1.cell 1; have hb1_2 := hB1.cell 2; simp at hb1_0 hb1_1 hb1_2; clear hE1))
                go_ret3
                exact ⟨ret3_of Hr.out, hE⟩
    · have hr := Code.check_1 (c := c) (by simp [hm])
      have Hr := Lib.hid hr
      clear hr
      go_enter Tryz.func18, Tryz.ntmps18
      go_wp2_with (first | ((go_at_call 56; refine (in_any _ _ _ _).mono ?_; rintro e w' ⟨rfl, rfl⟩)) | ((with_reducible refine q_box (d := some 1) ?_); intro W1 g1 hE1 hB1 hg1; simp [Act.eval, Act.put, Value.cells] at hB1; (try replace hE := hE.trans hE1); (try replace hEr := hEr.trans hE1); (try replace hEs := hEs.trans hE1); (try replace hF := hF.ext hE1); (try replace hM := hM.ext hE1); (try replace hB1 := hB1.ext hE1); (try replace hb1_0 := Ext.cell_some hE1 hb1_0); (try replace hb1_1 := Ext.cell_some hE1 hb1_1); (try replace hb1_2 := Ext.cell_some hE1 hb1_2); (try replace e1 := Ext.cell_some hE1 e1); (try replace e2 := Ext.cell_some hE1 e2); have hb1_0 := hB1.cell 0; have hb1_1 := hB1.cell 1; have hb1_2 := hB1.cell 2; simp at hb1_0 hb1_1 hb1_2; clear hE1))
      go_ret3
      exact ⟨ret3_of Hr.out, hE⟩
  · have hr := Code.check_1 (c := c) (by simp [hi])
    simp only [Bool.not_eq_true] at hi
    have Hr := Lib.hid hr
    clear hr
    go_enter Tryz.func18, Tryz.ntmps18
    go_wp2_with (first | ((go_at_call 56; refine (in_any _ _ _ _).mono ?_; rintro e w' ⟨rfl, rfl⟩)) | ((with_reducible refine q_box (d := some 1) ?_); intro W1 g1 hE1 hB1 hg1; simp [Act.eval, Act.put, Value.cells] at hB1; (try replace hE := hE.trans hE1); (try replace hEr := hEr.trans hE1); (try replace hEs := hEs.trans hE1); (try replace hF := hF.ext hE1); (try replace hM := hM.ext hE1); (try replace hB1 := hB1.ext hE1); (try replace hb1_0 := Ext.cell_some hE1 hb1_0); (try replace hb1_1 := Ext.cell_some hE1 hb1_1); (try replace hb1_2 := Ext.cell_some hE1 hb1_2); (try replace e1 := Ext.cell_some hE1 e1); (try replace e2 := Ext.cell_some hE1 e2); have hb1_0 := hB1.cell 0; have hb1_1 := hB1.cell 1; have hb1_2 := hB1.cell 2; simp at hb1_0 hb1_1 hb1_2; clear hE1))
    go_ret3
    exact ⟨ret3_of Hr.out, hE⟩
end Go.Bp
end
section
/- Plain Lean: codes that are sound, whole tests, sheets. -/
namespace Go.Bp
open Go.RowKit
namespace Code
variable {c : Code}
/-- A code without an error. -/
structure Ok (c : Code) : Prop where
  nf1 : 1 ≤ c.faults.length
  nf2 : c.faults.length ≤ 6
  nm : c.man.length ≤ 3
  pts : ∀ i (h : i < c.faults.length), 0 ≤ c.faults[i].points ∧ c.faults[i].points ≤ 20
  lim : ∀ i (h : i < c.faults.length), 0 ≤ c.faults[i].limit ∧ c.faults[i].limit ≤ 12
  all0 : 0 ≤ c.all
  all1 : c.all ≤ 240
  name : ∀ i, i < c.things → nameErr c.names i = 0
theorem errAt_zero {i : Nat} (h : c.errAt i = 0) : nameErr c.names i = 0 ∧ (i < c.faults.length → inB (c.pointsAt i) 0 20 = true ∧ inB (c.limitAt i) 0 12 = true) := by
  unfold errAt at h
  split at h
  · rename_i h1; exact absurd h h1
  · rename_i h1
    split at h
    · cases h
    · rename_i h2
      refine ⟨by simpa using h1, fun hi => ?_⟩
      exact Classical.byContradiction fun hc => h2 ⟨hi, hc⟩
theorem nameErr_cases (l : List ByteArray) (i : Nat) : nameErr l i = 0 ∨ nameErr l i = 5 ∨ nameErr l i = 6 := by
  unfold nameErr; split; · simp
  split <;> simp
theorem errAt_cases (c : Code) (i : Nat) : c.errAt i = 0 ∨ c.errAt i = 5 ∨ c.errAt i = 6 ∨ c.errAt i = 7 := by
  unfold errAt
  split
  · rcases nameErr_cases c.names i with h | h | h <;> simp [h]
  · split <;> simp
theorem check_err_cases (c : Code) : c.check.2.2 = 0 ∨ c.check.2.2 = 3 ∨ c.check.2.2 = 5 ∨ c.check.2.2 = 6 ∨ c.check.2.2 = 7 := by
  unfold check
  split
  · simp
  · split
    · rename_i i _
      rcases errAt_cases c i with h | h | h | h <;> split <;> simp [h]
    · split <;> simp
theorem ok_of_check (h : c.check.2.2 = 0) : c.Ok := by
  unfold check at h
  split at h
  · cases h
  · rename_i h1
    have h1 : inB (↑c.faults.length) 1 6 = true ∧ c.man.length ≤ 3 := Classical.byContradiction h1
    obtain ⟨h2, h3⟩ := h1
    have h2' := inB_t.1 h2
    split at h
    · rename_i i hi
      have hne : c.errAt i ≠ 0 := by simpa using List.find?_some hi
      split at h <;> exact absurd h hne
    · rename_i hn
      rw [List.find?_eq_none] at hn
      have hz : ∀ j, j < c.things → c.errAt j = 0 := fun j hj => by simpa using hn j (by simpa using hj)
      split at h
      · rename_i ha
        have ha' := inB_t.1 ha
        have hp : ∀ i (h : i < c.faults.length), inB c.faults[i].points 0 20 = true ∧ inB c.faults[i].limit 0 12 = true := fun i hi => by
          have := (errAt_zero (hz i (by unfold things; omega))).2 hi
          simpa [pointsAt, limitAt, hi] using this
        exact ⟨by omega, by omega, h3, fun i hi => inB_t.1 (hp i hi).1, fun i hi => inB_t.1 (hp i hi).2, ha'.1, ha'.2, fun i hi => (errAt_zero (hz i hi)).1⟩
      · cases h
theorem check_of_ok (h : c.Ok) : c.check = (0, 0, 0) := by
  refine check_0 (inB_t.2 (by have := h.nf1; have := h.nf2; omega)) h.nm (fun j hj => ?_) (inB_t.2 ⟨h.all0, h.all1⟩)
  by_cases hj' : j < c.faults.length
  · exact errAt_ok (h.name j hj) hj' (inB_t.2 (h.pts j hj')) (inB_t.2 (h.lim j hj'))
  · rw [errAt_man hj']; exact h.name j hj
theorem Ok.thing1 (h : c.Ok) : 1 ≤ c.things := by unfold things; have := h.nf1; omega
theorem Ok.thing9 (h : c.Ok) : c.things ≤ 9 := by unfold things; have := h.nf2; have := h.nm; omega
theorem Ok.pts_le (h : c.Ok) (x : Int) : 0 ≤ c.pts x ∧ c.pts x ≤ 20 := by
  unfold Code.pts
  split
  · cases hx : c.faults[x.toNat]? with
    | none => simp
    | some f =>
      obtain ⟨hi, rfl⟩ := List.getElem?_eq_some_iff.1 hx
      simpa using h.pts _ hi
  · simp
theorem Ok.total_le (h : c.Ok) (l : List Int) : 0 ≤ c.total l ∧ c.total l ≤ 20 * l.length := by
  unfold total
  induction l with
  | nil => simp
  | cons x l ih =>
    have := h.pts_le x
    simp only [List.map_cons, List.sum_cons, List.length_cons]
    omega
/-- A list of what can be written, no longer than a sheet. -/
def TestOk (c : Code) (l : List Int) : Prop := l.length ≤ 12 ∧ ∀ x ∈ l, 0 ≤ x ∧ x < c.things
theorem TestOk.take {l : List Int} (h : c.TestOk l) (k : Nat) : c.TestOk (l.take k) := ⟨by rw [List.length_take]; have := h.1; omega, fun x hx => h.2 x (List.mem_of_mem_take hx)⟩
theorem TestOk.at {l : List Int} (h : c.TestOk l) {k : Nat} (hk : k < l.length) : 0 ≤ l[k] ∧ l[k] < c.things := h.2 _ (List.getElem_mem hk)
/-- The error of a code and a whole test. -/
def whole (c : Code) (l : List Int) : Int :=
  if c.check.2.2 ≠ 0 then c.check.2.2 else if inB l.length 1 12 = false then 3 else if l.all (fun x => inB x 0 (c.things - 1)) = true then 0 else 4
theorem whole_0 {l : List Int} (h : c.check.2.2 = 0) (h2 : inB l.length 1 12 = true) (hb : ∀ x ∈ l, inB x 0 (c.things - 1) = true) : c.whole l = 0 := by
  unfold whole
  rw [if_neg (by simp [h]), if_neg (by simp [h2]), if_pos]
  rw [List.all_eq_true]; exact hb
theorem whole_3 {l : List Int} (h : c.check.2.2 = 0) (h2 : inB l.length 1 12 = false) : c.whole l = 3 := by
  unfold whole
  rw [if_neg (by simp [h]), if_pos h2]
theorem whole_e {l : List Int} (h : c.check.2.2 ≠ 0) : c.whole l = c.check.2.2 := by
  unfold whole
  rw [if_pos h]
theorem whole_zero {l : List Int} (h : c.whole l = 0) : c.Ok ∧ c.TestOk l ∧ 1 ≤ l.length := by
  unfold whole at h
  split at h
  · rename_i h1; exact absurd h h1
  · rename_i h1
    have h1 : c.check.2.2 = 0 := by simpa using h1
    have ho := ok_of_check h1
    split at h
    · cases h
    · rename_i h2
      have h2 : inB l.length 1 12 = true := by simpa using h2
      have h2 := inB_t.1 h2
      split at h
      · rename_i h3
        rw [List.all_eq_true] at h3
        exact ⟨ho, ⟨by omega, fun x hx => by have := inB_t.1 (h3 x hx); omega⟩, by omega⟩
      · cases h
def cnt (l : List Int) (i : Nat) : Nat := l.countP fun x => decide (x = (i : Int))
/-- Does the number of what is written on place i do? -/
def fine (c : Code) (l : List Int) (i : Nat) : Bool := if i < c.faults.length then decide ((cnt l i : Int) ≤ c.limitAt i) else cnt l i != 0
def passed (c : Code) (l : List Int) : Bool := (List.range c.things).all (c.fine l) && decide (c.total l ≤ c.all)
def judge (c : Code) (l : List Int) : Int × Bool × Int := if c.whole l ≠ 0 then (0, false, c.whole l) else (c.total l, c.passed l, 0)
theorem cnt_le (l : List Int) (i : Nat) : cnt l i ≤ l.length := List.countP_le_length
theorem cnt_snoc (l : List Int) (x : Int) (i : Nat) : cnt (l ++ [x]) i = cnt l i + if x = (i : Int) then 1 else 0 := by
  unfold cnt
  rw [List.countP_append]
  by_cases h : x = (i : Int) <;> simp [h]
end Code

/-- The error of one line of a sheet behind another one. -/
def Code.lineErr (c : Code) (m : Int) (prev : Option Int) (x : Line) : Int :=
  if inB x.no 1 m = false then 7 else if prev.any (fun y => decide (x.no ≤ y)) = true then 2 else if inB x.what 0 (c.things - 1) = false then 4 else if inB x.sum 0 240 = false then 7 else 0
def Code.linesErr (c : Code) (m : Int) : Option Int → List Line → Int
  | _, [] => 0
  | prev, x :: xs => if c.lineErr m prev x ≠ 0 then c.lineErr m prev x else c.linesErr m (some x.no) xs
def prevNo (l : List Line) (k : Nat) : Option Int := if k = 0 then none else l[k - 1]?.map Line.no
theorem prevNo_succ (l : List Line) {k : Nat} (hk : k < l.length) : prevNo l (k + 1) = some l[k].no := by simp [prevNo, hk]
theorem linesErr_step (c : Code) (m : Int) (l : List Line) {k : Nat} (hk : k < l.length) :
    c.linesErr m (prevNo l k) (l.drop k) = if c.lineErr m (prevNo l k) l[k] ≠ 0 then c.lineErr m (prevNo l k) l[k] else c.linesErr m (prevNo l (k + 1)) (l.drop (k + 1)) := by
  rw [List.drop_eq_getElem_cons hk, prevNo_succ l hk]; rfl
namespace Sheet
/-- The numbers of the lost lines. -/
def lost (s : Sheet) : List Int := (numbers s.lines.toNat).filter fun n => !(s.kept.any fun x => decide (x.no = n))
def err (c : Code) (s : Sheet) : Int :=
  if inB s.lines 1 12 = false then 7 else if c.linesErr s.lines none s.kept ≠ 0 then c.linesErr s.lines none s.kept else if s.lost.length ≤ 3 then 0 else 3
def asked (c : Code) (s : Sheet) : Int := if c.check.2.2 ≠ 0 then c.check.2.2 else s.err c
end Sheet
end Go.Bp
end
section
/- Step laws: variables that the call makes, stores into them, results that lie in a variable. No program stands in it. -/
set_option maxRecDepth 100000
set_option linter.unusedSimpArgs false
set_option linter.unusedVariables false
namespace Go.Bp
open Go.RowKit

/-- The cells of cs from place o on are those of vs. -/
def putAt (cs : Array Value) (o : Nat) (vs : List Value) : Array Value := (cs.toList.take o ++ vs ++ cs.toList.drop (o + vs.length)).toArray
theorem putAt_all {cs : Array Value} {vs : List Value} (h : vs.length = cs.size) : putAt cs 0 vs = vs.toArray := by
  unfold putAt; simp only [List.take_zero, List.nil_append, Nat.zero_add]
  rw [List.drop_of_length_le (by simp [h])]; simp

section
variable {P : Program} {ops : Array Oper} {Q : Exit → Act → World → Prop} {a : Act} {w : World} {rest : List Oper}
variable {d : Option Tmp} {ty ty' : TypeId} {pos pos' : String} {after after' : Array Edge}

theorem q_alloc {e : TypeId} {z : Value} {s b : Nat} (hi : (P.info? e).map (fun i => (i.zero, i.size, i.bytes)) = some (some z, s, b))
    (k : ∀ W g, Ext w W → Blk W g e z.cells → w.heap.size ≤ g → wpList P ops Q rest (a.put d (.pointer (some ⟨g, 0, none⟩))) W) :
    wpList P ops Q (⟨d, .alloc e, ty, pos, after, none⟩ :: rest) a w := by
  obtain ⟨i, hi0, hz, _, _⟩ := info_parts hi
  refine wpList_plain rfl fun K hK => ?_
  have h : (execOp a.eval (⟨d, .alloc e, ty, pos, after, none⟩ : Oper)).run P w = .ok (.value (.pointer (some ⟨w.heap.size, 0, none⟩))) (w.alloc (.cells z.cells e)) := by
    simp [execOp, Instr.alloc, zeroValue, typeInfo, hi0, hz, newVar, newRow, newObj, Sem.run]
  unfold Oper.wp; rw [h]
  exact hK _ _ (k _ _ (Ext.ofAlloc _ _) (Blk.new _ _ _) (Nat.le_refl _))

/-- A store into a block that is known whole. -/
theorem q_store {t e : TypeId} {x y : Operand} {g off n : Nat} {cs : Array Value} {v : Value} (hx : a.eval x = .pointer (some ⟨g, off, none⟩)) (hy : a.eval y = v) (hb : Blk w g e cs)
    (hi : (P.info? t).map TypeInfo.size = some n) (hn : v.cells.size = n) (hf : off + n ≤ cs.size) (h1 : ∀ u ∈ v.cells.toList, u.oneCell' = true)
    (k : ∀ W, Blk W g e (putAt cs off v.cells.toList) → w.grownBy W (some g) → wpList P ops Q rest (a.put d undef) W) :
    wpList P ops Q (⟨d, .store t x y, ty, pos, after, none⟩ :: rest) a w := by
  cases hin : P.info? t with
  | none => rw [hin] at hi; cases hi
  | some i =>
    rw [hin] at hi
    have hs : i.size = n := by simpa using hi
    have hst := run_storeCells_at P g off e v.cells.toList 0 cs w hb (by simpa [hn] using hf) h1
    simp only [Nat.add_zero] at hst
    refine wpList_plain rfl fun K hK => ?_
    have h : (execOp a.eval (⟨d, .store t x y, ty, pos, after, none⟩ : Oper)).run P w = .ok .skip (w.setRow g (putAt cs off v.cells.toList)) := by
      simp only [execOp, Instr.storeAt, hx, hy, Instr.sureAddr, Sem.run_bind, Sem.run_pure, Result.andThen_ok, storeVar, sizeOf, typeInfo, program, Sem.run, hin, hs, hn]
      simp [hst, putAt, Result.andThen, sizeOf, typeInfo, hin, hs]
    unfold Oper.wp; rw [h]
    exact hK _ _ (k _ (setRow_heap w g cs _ e _ hb) ⟨rfl, rfl, rfl, by simp [World.setRow], fun j _ hj => setRow_other w g j _ (fun e => hj (by rw [e]))⟩)

/-- 'x := v': a variable of the call's own that is stored into at once. -/
theorem q_newvar {e : TypeId} {x y : Operand} {u : Tmp} {z v : Value} {s b : Nat} (hi : (P.info? e).map (fun i => (i.zero, i.size, i.bytes)) = some (some z, s, b))
    (hy : ∀ g, (a.put (some u) (.pointer (some ⟨g, 0, none⟩))).eval y = v) (hu : ∀ g, (a.put (some u) (.pointer (some ⟨g, 0, none⟩))).eval x = .pointer (some ⟨g, 0, none⟩)) (hn : v.cells.size = s) (hz : z.cells.size = s) (h1 : ∀ c ∈ v.cells.toList, c.oneCell' = true)
    (k : ∀ W g, Ext w W → Blk W g e v.cells → w.heap.size ≤ g → wpList P ops Q rest ((a.put (some u) (.pointer (some ⟨g, 0, none⟩))).put d undef) W) :
    wpList P ops Q (⟨some u, .alloc e, ty, pos, after, none⟩ :: ⟨d, .store e x y, ty', pos', after', none⟩ :: rest) a w := by
  refine q_alloc hi fun W g hE hB hg => ?_
  refine q_store (hu g) (hy g) hB (n := s) ?_ hn (by simp [hz]) h1 fun W' hB' hgr => ?_
  · cases hin : P.info? e with
    | none => rw [hin] at hi; cases hi
    | some i => rw [hin] at hi; simp at hi ⊢; exact hi.2.1
  · rw [putAt_all (by simp [hn, hz])] at hB'
    refine k W' g ?_ (by simpa using hB') hg
    exact ⟨hgr.os.trans hE.os, hgr.tape.trans hE.tape, hgr.output.trans hE.output, Nat.le_trans hE.size hgr.size, fun j hj => (hgr.block j (Nat.lt_of_lt_of_le hj hE.size) (fun e => by injection e; omega)).trans (hE.block j hj)⟩
end
/-- What a store into block g leaves: all below B, if g is from B on. -/
theorem below_grown {B : Nat} {w0 w W : World} {g : Nat} (h : Below B w0 w) (hg : w.grownBy W (some g)) (hB : B ≤ g) (hs : B ≤ w.heap.size) : Below B w0 W :=
  h.grown hg hs (fun k e => by injection e; omega)
theorem own_grown {w W : World} {B g : Nat} {e : TypeId} {size n : Nat} {v : Value} {xs : List Value} (hown : w.ownsRow B e size v n xs) (hg : w.grownBy W (some g)) (hne : v.ownBlock ≠ some g) : W.ownsRow B e size v n xs :=
  hown.kept hg (.inr hne)
theorem own_ne {w : World} {B g : Nat} {e t : TypeId} {size n : Nat} {v : Value} {xs : List Value} {cs : Array Value} (hown : w.ownsRow B e size v n xs) (hb : Blk w g t cs) (hne : e ≠ t ∨ g < B) : v.ownBlock ≠ some g :=
  fun h => hb.notown hown hne h.symm

/-- The results (a variable of type t, a slot). -/
theorem ret_c2 {P : Program} {fn : Func} {R : Ending → World → Prop} {x u : Tmp} {t : TypeId} {a : Act} {w : World} {p : Addr} {v : Value} (h : fn.results = #[.cell x t, .tmp u]) (hd : a.defers = [])
    (hx : a.tmps.getD x undef = .pointer (some p)) (hl : (loadVar t p).run P w = .ok v w) (hR : R (.returned (.tuple #[v, a.tmps.getD u undef])) w) : bodyPost P fn R .ret a w :=
  bodyPost_ret (by rw [results_cell_tmp h, hx]; simp [asAddr, hl, Result.andThen]) hd hR
theorem ret_c1 {P : Program} {fn : Func} {R : Ending → World → Prop} {x : Tmp} {t : TypeId} {a : Act} {w : World} {p : Addr} {v : Value} (h : fn.results = #[.cell x t]) (hd : a.defers = [])
    (hx : a.tmps.getD x undef = .pointer (some p)) (hl : (loadVar t p).run P w = .ok v w) (hR : R (.returned v) w) : bodyPost P fn R .ret a w :=
  have hx' : a.tmps[x]?.getD undef = .pointer (some p) := by simpa [Array.getD_eq_getD_getElem?] using hx
  bodyPost_ret (by simp [results, h, hx', asAddr, hl, Result.andThen]) hd hR

section
variable {P : Program} {ops : Array Oper} {Q : Exit → Act → World → Prop} {a : Act} {w : World} {rest : List Oper}
variable {d : Option Tmp} {ty : TypeId} {pos : String} {after : Array Edge}
theorem madeCells_one (z : Value) (n : Nat) : madeCells #[z] n = Array.replicate n z := by
  apply Array.ext
  · simp [madeCells]
  · intro i h1 h2; simp [madeCells, Nat.mod_one]
/-- make([]T, n) of one-cell elements. -/
theorem q_make {t e : TypeId} {x y : Operand} {z : Value} {n b : Nat} (ht : P.underlying t = some (.slice e)) (hi : (P.info? e).map (fun i => (i.zero, i.size, i.bytes)) = some (some z, 1, b)) (hz : z.cells = #[z]) (hn : n ≤ 1000000) (hb : b ≤ 1000)
    (hx : a.eval x = .int .i64 n) (hy : a.eval y = .int .i64 n)
    (k : ∀ W g, Ext w W → Blk W g e (Array.replicate n z) → w.heap.size ≤ g → wpList P ops Q rest (a.put d (.slice (some ⟨g, 0, none⟩) n n)) W) :
    wpList P ops Q (⟨d, .makeSlice t x y, ty, pos, after, none⟩ :: rest) a w := by
  obtain ⟨i, hi0, hz0, hs, hby⟩ := info_parts hi
  have hbn : b * n ≤ 1000 * 1000000 := Nat.mul_le_mul hb hn
  have hbi : (i.bytes : Int) * (n : Int) ≤ 281474976710656 := by
    rw [hby]
    have h3 : ((b * n : Nat) : Int) ≤ 281474976710656 := by omega
    rwa [Int.natCast_mul] at h3
  have hr := run_make (P := P) w t e i z ht hi0 hz0 .i64 .i64 (n : Int) (n : Int) (by omega) (by omega) hbi (by omega)
  simp only [Int.toNat_natCast, hs, Nat.mul_one, hz, madeCells_one] at hr
  refine wpList_plain rfl fun K hK => ?_
  have h : (execOp a.eval (⟨d, .makeSlice t x y, ty, pos, after, none⟩ : Oper)).run P w = .ok (.value (.slice (some ⟨w.heap.size, 0, none⟩) n n)) (w.alloc (.cells (Array.replicate n z) e)) := by
    simp [execOp, hx, hy, hr, Result.andThen]
  unfold Oper.wp; rw [h]
  exact hK _ _ (k _ _ (Ext.ofAlloc _ _) (Blk.new _ _ _) (Nat.le_refl _))
/-- A store of one cell into a block that is known whole. -/
theorem q_store1 {t e : TypeId} {x y : Operand} {g off : Nat} {cs : Array Value} {v : Value} (hx : a.eval x = .pointer (some ⟨g, off, none⟩)) (hy : a.eval y = v) (hb : Blk w g e cs)
    (hi : (P.info? t).map TypeInfo.size = some 1) (hn : v.cells = #[v]) (hf : off < cs.size) (h1 : v.oneCell' = true)
    (k : ∀ W, Blk W g e (cs.setIfInBounds off v) → w.grownBy W (some g) → wpList P ops Q rest (a.put d undef) W) :
    wpList P ops Q (⟨d, .store t x y, ty, pos, after, none⟩ :: rest) a w := by
  refine q_store hx hy hb hi (by rw [hn]; rfl) (by omega) (by rw [hn]; simpa using h1) fun W hB hg => k W ?_ hg
  have : putAt cs off v.cells.toList = cs.setIfInBounds off v := by
    rw [hn]
    apply Array.ext'
    simp only [putAt, Array.toList_setIfInBounds, List.length_cons, List.length_nil]
    rw [List.set_eq_take_append_cons_drop]
    simp [hf]
  rwa [this] at hB
end
end Go.Bp
end
section
set_option maxRecDepth 100000
set_option linter.unusedSimpArgs false
set_option linter.unusedVariables false
namespace Go.Bp
open Go.RowKit Go.Proofs
end Go.Bp
end
section
/- Plain Lean: counting. -/
namespace Go.Bp
open Go.RowKit
/-- The tally of a list, as cells. -/
def cntArr (n : Nat) (l : List Int) : Array Value := ((List.range n).map fun i => Value.int .i64 (Code.cnt l i : Int)).toArray
theorem cntArr_size (n : Nat) (l : List Int) : (cntArr n l).size = n := by simp [cntArr]
theorem cntArr_nil (n : Nat) : cntArr n [] = Array.replicate n (.int .i64 0) := by
  apply Array.ext
  · simp [cntArr]
  · intro i h1 h2; simp [cntArr, Code.cnt]
theorem cntArr_get {n : Nat} (l : List Int) {i : Nat} (h : i < n) : (cntArr n l)[i]? = some (.int .i64 (Code.cnt l i : Int)) := by simp [cntArr, h]
theorem cntArr_snoc {n : Nat} (l : List Int) {j : Nat} (_h : j < n) : (cntArr n l).setIfInBounds j (.int .i64 ((Code.cnt l j : Int) + 1)) = cntArr n (l ++ [(j : Int)]) := by
  apply Array.ext
  · simp [cntArr]
  · intro i h1 h2
    simp only [cntArr, Array.size_setIfInBounds, List.size_toArray, List.length_map, List.length_range] at h1
    simp only [cntArr, List.getElem_toArray, List.getElem_map, List.getElem_range]
    rw [Code.cnt_snoc]
    by_cases e : j = i
    · subst e; simp
    · have : ¬ (j : Int) = (i : Int) := by omega
      simp [e, this]
namespace Code
variable {c : Code}
theorem passed_no {l : List Int} {i : Nat} (hi : i < c.things) (h : c.fine l i = false) : c.passed l = false := by
  unfold passed
  have : (List.range c.things).all (c.fine l) = false := by
    rw [List.all_eq_false]; exact ⟨i, by simpa using hi, by simp [h]⟩
  simp [this]
theorem passed_fine {l : List Int} (h : ∀ i, i < c.things → c.fine l i = true) : c.passed l = decide (c.total l ≤ c.all) := by
  unfold passed
  have : (List.range c.things).all (c.fine l) = true := by
    rw [List.all_eq_true]; intro i hi; exact h i (by simpa using hi)
  simp [this]
theorem fine_f {l : List Int} {i : Nat} (hi : i < c.faults.length) : c.fine l i = decide ((cnt l i : Int) ≤ c.faults[i].limit) := by simp [fine, hi, limitAt]
theorem fine_m {l : List Int} {i : Nat} (hi : ¬ i < c.faults.length) : c.fine l i = (cnt l i != 0) := by simp [fine, hi]
end Code

/-- Is a line with this number among the first ones? -/
def keptB (l : List Line) (n : Int) : Bool := l.any fun x => decide (x.no = n)
theorem keptB_snoc (l : List Line) (n : Int) {k : Nat} (hk : k < l.length) : keptB (l.take (k + 1)) n = (keptB (l.take k) n || decide (l[k].no = n)) := by
  rw [take_snoc _ hk]; simp only [keptB, List.any_append]; simp
def lostTo (l : List Line) (k : Nat) : List Int := (numbers k).filter fun n => !(keptB l n)
theorem lostTo_succ (l : List Line) (k : Nat) : lostTo l (k + 1) = if keptB l ((k : Int) + 1) = true then lostTo l k else lostTo l k ++ [((k : Int) + 1)] := by
  unfold lostTo
  rw [numbers_succ, List.filter_append]
  by_cases h : keptB l ((k : Int) + 1) = true <;> simp [h]
theorem lostTo_len (l : List Line) (k : Nat) : (lostTo l k).length ≤ k := by
  unfold lostTo
  have := List.length_filter_le (fun n => !(keptB l n)) (numbers k)
  rw [numbers_len] at this; exact this
theorem lost_eq (s : Sheet) : s.lost = lostTo s.kept s.lines.toNat := rfl
theorem rising_at (p : Int → Bool) (l : List Int) {k : Nat} (hk : k < l.length) :
    risingFrom p (prevAt l k) (l.drop k) = if p l[k] = false then 4 else if (prevAt l k).any (fun y => decide (l[k] ≤ y)) = true then 2 else risingFrom p (prevAt l (k + 1)) (l.drop (k + 1)) := by
  rw [rising_step p l k hk]
  have : prevAt l (k + 1) = some l[k] := by simp [prevAt, hk]
  rw [this]
theorem prevAt_pos (l : List Int) {k : Nat} (h0 : 0 < k) (hk : k < l.length) : prevAt l k = some l[k - 1] := by
  have : k ≠ 0 := by omega
  have h2 : k - 1 < l.length := by omega
  simp [prevAt, this, h2]
theorem prevNo_pos (l : List Line) {k : Nat} (h0 : 0 < k) (hk : k < l.length) : prevNo l k = some l[k - 1].no := by
  have : k ≠ 0 := by omega
  have h2 : k - 1 < l.length := by omega
  simp [prevNo, this, h2]
end Go.Bp
end
